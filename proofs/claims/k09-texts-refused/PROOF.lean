import PyProof.Rows.All
import Wide.All
import OpenK.AllK
import Wide.FinOn
import HandS.ForMost
import HandS.ForExc
import HandS.Walk
import HandS.Zip
import HandS.IsInst
import HandS.Wide
import HandS.CallSlots
import HandS.TupAny
import HandS.SortInts
import KE.GoesEnum
import HandS.DictComp
import HandS.WordsDict
import PyProof.WalksMore
import PyProof.SumWalkG
import HandS.TupMul
import HandS.Style
import HandS.TryMany
import HandS.Text
import HandS.FStr
import PyProof.EqAt
import PyProof.EqKinds
import PyProof.TupleCall
import Open.SpecLaws
import KE.OsGo
import HandS.ForSpec
import PySem.Challenge.RW_slipbooks_k09_texts_refused
set_option Elab.async false
set_option linter.all false
set_option maxRecDepth 100000
set_option maxHeartbeats 4000000
/-! SBa: data as a whole over the hand layer: D, Rep, Hold, wp. -/
namespace SB
open PySem L2

/-- data: values with what stands behind them; a cell is an object that may still change -/
inductive D where
  | non | bl (b : Bool) | int (i : Int) | str (s : Str) | ty (n : String)
  | tup (xs : List D) | lst (xs : List D) | obj (C : Addr) (fs : List (Str × D)) | cell (a : Addr) | known (a : Addr) (φ : Hp → Prop)

/-- what was tracked stands -/
def Ex (G G' : Hp) : Prop := ∀ a o, G a = some o → G' a = some o
mutual
inductive Rep (G : Hp) : V → D → Prop
  | non : Rep G .non .non
  | bl (b : Bool) : Rep G (.bl b) (.bl b)
  | int (i : Int) : Rep G (.int i) (.int i)
  | str (s : Str) : Rep G (.str s) (.str s)
  | ty (n : String) : Rep G (.ty n) (.ty n)
  | tup {a : Addr} {vs : List V} {ds : List D} : G a = some (.tup vs) → Reps G vs ds → Rep G (.ref a) (.tup ds)
  | lst {a : Addr} {vs : List V} {ds : List D} : G a = some (.lst vs) → Reps G vs ds → Rep G (.ref a) (.lst ds)
  | obj {a C dx : Addr} {fs : List (Str × V)} {gs : List (Str × D)} : G a = some (.ins C dx fs) → Repf G fs gs → Rep G (.ref a) (.obj C gs)
  | cell (a : Addr) : Rep G (.ref a) (.cell a)
  | known {a : Addr} {φ : Hp → Prop} : (∀ H, Ex G H → φ H) → Rep G (.ref a) (.known a φ)
inductive Reps (G : Hp) : List V → List D → Prop
  | nil : Reps G [] []
  | cons {v : V} {d : D} {vs : List V} {ds : List D} : Rep G v d → Reps G vs ds → Reps G (v :: vs) (d :: ds)
inductive Repf (G : Hp) : List (Str × V) → List (Str × D) → Prop
  | nil : Repf G [] []
  | cons {f : Str} {v : V} {d : D} {vs : List (Str × V)} {ds : List (Str × D)} : Rep G v d → Repf G vs ds → Repf G ((f, v) :: vs) ((f, d) :: ds)
end

theorem Ex.refl (G : Hp) : Ex G G := fun _ _ h => h
theorem Ex.trans {A B C : Hp} (x : Ex A B) (y : Ex B C) : Ex A C := fun a o h => y a o (x a o h)
theorem Ex.free {A B : Hp} (x : Ex A B) {p : Addr} (h : B p = none) : A p = none := by
  cases q : A p with
  | none => rfl
  | some o => rw [x p o q] at h; cases h
theorem Ex.new {G : Hp} {p : Addr} {o : HO} (h : G p = none) : Ex G (upd G p o) := fun a u e => by
  rw [upd_ne (ne_of_none e h)]; exact e
theorem Ex.both {G H : Hp} (x : Ex G H) {p : Addr} {o : HO} : Ex (upd G p o) (upd H p o) := fun a u e => by
  by_cases h : a = p
  · subst h; rw [upd_same] at e ⊢; exact e
  · rw [upd_ne h] at e ⊢; exact x a u e
/-- what H holds apart may change -/
theorem Ex.mut {G H : Hp} (x : Ex G H) {p : Addr} {o : HO} (h : G p = none) : Ex G (upd H p o) := fun a u e => by
  rw [upd_ne (ne_of_none e h)]; exact x a u e

mutual
theorem Rep.mono {G G' : Hp} (x : Ex G G') : ∀ {v : V} {d : D}, Rep G v d → Rep G' v d
  | _, _, .non => .non
  | _, _, .bl b => .bl b
  | _, _, .int i => .int i
  | _, _, .str s => .str s
  | _, _, .ty n => .ty n
  | _, _, .tup h r => .tup (x _ _ h) (Reps.mono x r)
  | _, _, .lst h r => .lst (x _ _ h) (Reps.mono x r)
  | _, _, .obj h r => .obj (x _ _ h) (Repf.mono x r)
  | _, _, .cell a => .cell a
  | _, _, .known h => .known fun H e => h H (x.trans e)
theorem Reps.mono {G G' : Hp} (x : Ex G G') : ∀ {vs : List V} {ds : List D}, Reps G vs ds → Reps G' vs ds
  | _, _, .nil => .nil
  | _, _, .cons h r => .cons (Rep.mono x h) (Reps.mono x r)
theorem Repf.mono {G G' : Hp} (x : Ex G G') : ∀ {vs : List (Str × V)} {ds : List (Str × D)}, Repf G vs ds → Repf G' vs ds
  | _, _, .nil => .nil
  | _, _, .cons h r => .cons (Rep.mono x h) (Repf.mono x r)
end
section
variable {G G' H : Hp}
theorem Reps.length : ∀ {vs : List V} {ds : List D}, Reps G vs ds → vs.length = ds.length
  | _, _, .nil => rfl
  | _, _, .cons _ r => by rw [List.length_cons, List.length_cons, Reps.length r]
theorem Reps.get : ∀ {vs : List V} {ds : List D} {i : Nat} {d : D}, Reps G vs ds → ds[i]? = some d → ∃ v, vs[i]? = some v ∧ Rep G v d
  | _, _, _, _, .nil, e => by simp at e
  | _, _, 0, _, .cons h _, e => by simp at e; subst e; exact ⟨_, rfl, h⟩
  | _, _, i + 1, d, .cons _ r, e => by
    obtain ⟨v, h1, h2⟩ := Reps.get (i := i) r (by simpa using e)
    exact ⟨v, by simpa using h1, h2⟩
theorem Reps.get' : ∀ {vs : List V} {ds : List D} {i : Nat} {v : V}, Reps G vs ds → vs[i]? = some v → ∃ d, ds[i]? = some d ∧ Rep G v d
  | _, _, _, _, .nil, e => by simp at e
  | _, _, 0, _, .cons h _, e => by simp at e; subst e; exact ⟨_, rfl, h⟩
  | _, _, i + 1, d, .cons _ r, e => by
    obtain ⟨v, h1, h2⟩ := Reps.get' (i := i) r (by simpa using e)
    exact ⟨v, by simpa using h1, h2⟩
theorem Reps.append : ∀ {vs ws : List V} {ds es : List D}, Reps G vs ds → Reps G ws es → Reps G (vs ++ ws) (ds ++ es)
  | _, _, _, _, .nil, s => s
  | _, _, _, _, .cons h r, s => .cons h (Reps.append r s)
theorem Reps.take : ∀ {vs : List V} {ds : List D} (n : Nat), Reps G vs ds → Reps G (vs.take n) (ds.take n)
  | _, _, 0, _ => .nil
  | _, _, _ + 1, .nil => .nil
  | _, _, n + 1, .cons h r => .cons h (Reps.take n r)
theorem Reps.drop : ∀ {vs : List V} {ds : List D} (n : Nat), Reps G vs ds → Reps G (vs.drop n) (ds.drop n)
  | _, _, 0, r => r
  | _, _, _ + 1, .nil => .nil
  | _, _, n + 1, .cons _ r => Reps.drop n r
theorem Reps.set : ∀ {vs : List V} {ds : List D} (i : Nat) {v : V} {d : D}, Rep G v d → Reps G vs ds → Reps G (vs.set i v) (ds.set i d)
  | _, _, _, _, _, _, .nil => .nil
  | _, _, 0, _, _, h, .cons _ r => .cons h r
  | _, _, i + 1, _, _, h, .cons k r => .cons k (Reps.set i h r)
theorem Reps.one {v : V} {d : D} (h : Rep G v d) : Reps G [v] [d] := .cons h .nil
theorem Reps.rep {vs : List V} {ds : List D} (r : Reps G vs ds) : ∀ n : Nat, Reps G (List.replicate n vs).flatten (List.replicate n ds).flatten
  | 0 => .nil
  | n + 1 => by rw [List.replicate_succ, List.replicate_succ, List.flatten_cons, List.flatten_cons]; exact r.append (r.rep n)
theorem Reps.ints : ∀ {vs : List V} {ns : List Int}, Reps G vs (ns.map D.int) → vs = ns.map V.int
  | _, [], h => by cases h; rfl
  | _, n :: ns, h => by
    cases h with
    | cons h r => cases h; rw [Reps.ints r]; rfl
theorem Reps.bls : ∀ {vs : List V} {ns : List Bool}, Reps G vs (ns.map D.bl) → vs = ns.map V.bl
  | _, [], h => by cases h; rfl
  | _, n :: ns, h => by
    cases h with
    | cons h r => cases h; rw [Reps.bls r]; rfl
theorem Reps.strs : ∀ {vs : List V} {ns : List Str}, Reps G vs (ns.map D.str) → vs = ns.map V.str
  | _, [], h => by cases h; rfl
  | _, n :: ns, h => by
    cases h with
    | cons h r => cases h; rw [Reps.strs r]; rfl
theorem Repf.lookup : ∀ {vs : List (Str × V)} {ds : List (Str × D)} {f : Str} {d : D}, Repf G vs ds → ds.lookup f = some d → ∃ v, vs.lookup f = some v ∧ Rep G v d
  | _, _, _, _, .nil, e => by cases e
  | _, _, f, d, .cons (f := g) h r, e => by
    rw [List.lookup_cons] at e ⊢
    cases q : f == g with
    | true => rw [q] at e; cases e; exact ⟨_, rfl, h⟩
    | false => rw [q] at e; exact Repf.lookup r e
theorem Repf.none : ∀ {vs : List (Str × V)} {ds : List (Str × D)} {f : Str}, Repf G vs ds → ds.lookup f = none → vs.lookup f = none
  | _, _, _, .nil, _ => rfl
  | _, _, f, .cons (f := g) h r, e => by
    rw [List.lookup_cons] at e ⊢
    cases q : f == g with
    | true => rw [q] at e; cases e
    | false => rw [q] at e; exact Repf.none r e
theorem Repf.length : ∀ {vs : List (Str × V)} {ds : List (Str × D)}, Repf G vs ds → vs.length = ds.length
  | _, _, .nil => rfl
  | _, _, .cons _ r => by rw [List.length_cons, List.length_cons, Repf.length r]
end
/-- an attribute stored -/
def putD (f : Str) (d : D) : List (Str × D) → List (Str × D)
  | [] => [(f, d)]
  | (g, e) :: r => if g = f then (g, d) :: r else (g, e) :: putD f d r
theorem Repf.put {G : Hp} {f : Str} {v : V} {d : D} (h : Rep G v d) : ∀ {vs : List (Str × V)} {ds : List (Str × D)}, Repf G vs ds → Repf G (putF f v vs) (putD f d ds)
  | _, _, .nil => .cons h .nil
  | _, _, .cons (f := g) (v := w) (d := e) (vs := ws) (ds := es) k r => by
    show Repf G (if g = f then (g, v) :: ws else (g, w) :: putF f v ws) (if g = f then (g, d) :: es else (g, e) :: putD f d es)
    by_cases q : g = f
    · rw [if_pos q, if_pos q]; exact .cons h r
    · rw [if_neg q, if_neg q]; exact .cons k (Repf.put h r)

/-- what may change: its content as data (raw: as the layer has it) -/
inductive MO where
  | raw (o : HO) | lst (ds : List D) | ins (C dx : Addr) (fs : List (Str × D))
inductive MRep (G : Hp) : HO → MO → Prop
  | raw (o : HO) : MRep G o (.raw o)
  | lst {vs : List V} {ds : List D} : Reps G vs ds → MRep G (.lst vs) (.lst ds)
  | ins {C dx : Addr} {fs : List (Str × V)} {gs : List (Str × D)} : Repf G fs gs → MRep G (.ins C dx fs) (.ins C dx gs)
theorem MRep.mono {G G' : Hp} (x : Ex G G') {o : HO} {m : MO} (h : MRep G o m) : MRep G' o m := by
  cases h with
  | raw o => exact .raw o
  | lst r => exact .lst (r.mono x)
  | ins r => exact .ins (r.mono x)
abbrev M := Addr → Option MO
def updM (μ : M) (a : Addr) (m : MO) : M := fun b => if b = a then some m else μ b
def delM (μ : M) (a : Addr) : M := fun b => if b = a then none else μ b
theorem updM_same {μ : M} {a : Addr} {m : MO} : updM μ a m a = some m := by unfold updM; rw [if_pos rfl]
theorem updM_ne {μ : M} {a b : Addr} {m : MO} (h : b ≠ a) : updM μ a m b = μ b := by unfold updM; rw [if_neg h]
theorem updM_updM {μ : M} {a : Addr} {m n : MO} : updM (updM μ a m) a n = updM μ a n := by
  funext b; unfold updM; split <;> rfl
theorem updM_comm {μ : M} {a b : Addr} {m n : MO} (h : a ≠ b) : updM (updM μ a m) b n = updM (updM μ b n) a m := by
  funext c; unfold updM
  by_cases h1 : c = b
  · by_cases h2 : c = a
    · exact absurd (h2.symm.trans h1) h
    · rw [if_pos h1, if_neg h2, if_pos h1]
  · by_cases h2 : c = a
    · rw [if_neg h1, if_pos h2, if_pos h2]
    · rw [if_neg h1, if_neg h2, if_neg h2, if_neg h1]
theorem delM_updM {μ : M} {a : Addr} {m : MO} (h : μ a = none) : delM (updM μ a m) a = μ := by
  funext b; unfold delM updM
  by_cases e : b = a
  · rw [if_pos e, e, h]
  · rw [if_neg e, if_neg e]
theorem delM_same {μ : M} {a : Addr} : delM μ a a = none := by unfold delM; rw [if_pos rfl]
theorem delM_ne {μ : M} {a b : Addr} (h : b ≠ a) : delM μ a b = μ b := by unfold delM; rw [if_neg h]
theorem updM_self {μ : M} {a : Addr} {m : MO} (h : μ a = some m) : updM μ a m = μ := by
  funext b; unfold updM; split
  · rename_i e; rw [e, h]
  · rfl

/-- the heap H holds the data G, and apart from it what may change -/
structure Hold (μ : M) (G H : Hp) : Prop where
  ex : Ex G H
  mu : ∀ a m, μ a = some m → G a = none ∧ ∃ o, H a = some o ∧ MRep G o m
section
variable {μ : M} {G H : Hp} {p : Addr}
theorem Hold.fresh (h : Hold μ G H) (n : H p = none) : G p = none ∧ μ p = none := by
  refine ⟨h.ex.free n, ?_⟩
  cases q : μ p with
  | none => rfl
  | some m => obtain ⟨_, o, e, _⟩ := h.mu p m q; rw [n] at e; cases e
/-- a new thing, data -/
theorem Hold.newD (h : Hold μ G H) {o : HO} (n : H p = none) : Ex G (upd G p o) ∧ Hold μ (upd G p o) (upd H p o) := by
  obtain ⟨g, m⟩ := h.fresh n
  refine ⟨Ex.new g, h.ex.both, fun a x e => ?_⟩
  have hne : a ≠ p := fun z => by rw [z, m] at e; cases e
  obtain ⟨e1, u, e2, r⟩ := h.mu a x e
  rw [upd_ne hne, upd_ne hne]
  exact ⟨e1, u, e2, r.mono (Ex.new g)⟩
/-- a new thing that may change -/
theorem Hold.newM (h : Hold μ G H) {o : HO} {m : MO} (n : H p = none) (r : MRep G o m) : Hold (updM μ p m) G (upd H p o) := by
  obtain ⟨g, _⟩ := h.fresh n
  refine ⟨h.ex.mut g, fun a x e => ?_⟩
  by_cases hp : a = p
  · subst hp
    rw [updM_same] at e; cases e
    exact ⟨g, o, upd_same, r⟩
  · rw [updM_ne hp] at e
    obtain ⟨e1, u, e2, r2⟩ := h.mu a x e
    exact ⟨e1, u, by rw [upd_ne hp]; exact e2, r2⟩
/-- something else is laid that no one asks for -/
theorem Hold.newX (h : Hold μ G H) {o : HO} (n : H p = none) : Hold μ G (upd H p o) := by
  obtain ⟨g, m⟩ := h.fresh n
  refine ⟨h.ex.mut g, fun a x e => ?_⟩
  have hne : a ≠ p := fun z => by rw [z, m] at e; cases e
  obtain ⟨e1, u, e2, r⟩ := h.mu a x e
  exact ⟨e1, u, by rw [upd_ne hne]; exact e2, r⟩
/-- a thing that may change changes -/
theorem Hold.write (h : Hold μ G H) {m0 : MO} (e0 : μ p = some m0) {o : HO} {m : MO} (r : MRep G o m) : Hold (updM μ p m) G (upd H p o) := by
  obtain ⟨g, _⟩ := h.mu p m0 e0
  refine ⟨h.ex.mut g, fun a x e => ?_⟩
  by_cases hp : a = p
  · subst hp
    rw [updM_same] at e; cases e
    exact ⟨g, o, upd_same, r⟩
  · rw [updM_ne hp] at e
    obtain ⟨e1, u, e2, r2⟩ := h.mu a x e
    exact ⟨e1, u, by rw [upd_ne hp]; exact e2, r2⟩
/-- what may change is told to be data from now on -/
theorem Hold.freeze (h : Hold μ G H) {m0 : MO} {o : HO} (e0 : μ p = some m0) (e1 : H p = some o) : Ex G (upd G p o) ∧ Hold (delM μ p) (upd G p o) H := by
  obtain ⟨g, _⟩ := h.mu p m0 e0
  refine ⟨Ex.new g, fun a u e => ?_, fun a x e => ?_⟩
  · by_cases hp : a = p
    · subst hp; rw [upd_same] at e; cases e; exact e1
    · rw [upd_ne hp] at e; exact h.ex a u e
  · by_cases hp : a = p
    · subst hp; rw [delM_same] at e; cases e
    · rw [delM_ne hp] at e
      obtain ⟨e2, u, e3, r⟩ := h.mu a x e
      exact ⟨by rw [upd_ne hp]; exact e2, u, e3, r.mono (Ex.new g)⟩
end

abbrev Rho := List (Option D)
/-- the slots' data -/
structure Env (G : Hp) (σ : L2.St) (ρ : Rho) : Prop where
  len : σ.length = ρ.length
  at' : ∀ (i : Nat) (d : D), ρ[i]? = some (some d) → ∃ v, σ[i]? = some (some v) ∧ Rep G v d
section
variable {G G' : Hp} {σ : L2.St} {ρ : Rho}
theorem Env.mono (x : Ex G G') (e : Env G σ ρ) : Env G' σ ρ := ⟨e.len, fun i d h => let ⟨v, a, r⟩ := e.at' i d h; ⟨v, a, r.mono x⟩⟩
theorem Env.set (e : Env G σ ρ) (i : Nat) {v : V} {d : D} (r : Rep G v d) : Env G (σ.set i (some v)) (ρ.set i (some d)) := by
  refine ⟨by rw [List.length_set, List.length_set, e.len], fun j d' h => ?_⟩
  by_cases hj : i = j
  · subst hj
    by_cases hl : i < ρ.length
    · rw [List.getElem?_set_self hl] at h; cases h
      exact ⟨v, List.getElem?_set_self (by rw [e.len]; exact hl), r⟩
    · rw [List.getElem?_eq_none (by rw [List.length_set]; omega)] at h; cases h
  · rw [List.getElem?_set_ne hj] at h ⊢
    exact e.at' j d' h
theorem Env.forget (e : Env G σ ρ) (i : Nat) : Env G (σ.set i none) (ρ.set i none) := by
  refine ⟨by rw [List.length_set, List.length_set, e.len], fun j d' h => ?_⟩
  by_cases hj : i = j
  · subst hj
    by_cases hl : i < ρ.length
    · rw [List.getElem?_set_self hl] at h; cases h
    · rw [List.getElem?_eq_none (by rw [List.length_set]; omega)] at h; cases h
  · rw [List.getElem?_set_ne hj] at h ⊢
    exact e.at' j d' h
def wipeD (ρ : Rho) : List Nat → Rho
  | [] => ρ
  | v :: vs => (wipeD ρ vs).set v none
theorem Env.wipe (e : Env G σ ρ) : ∀ vs : List Nat, Env G (L2.wipe σ vs) (wipeD ρ vs)
  | [] => e
  | v :: vs => (e.wipe vs).forget v
end

/-- an exception as data: its class, its fields -/
structure XD where
  cls : Value
  fs : Option (List (Str × D))
def XRep (G H : Hp) (cls : Value) (dd : Option Addr) (x : XD) : Prop := cls = x.cls ∧ match x.fs with
  | none => dd = none
  | some fs => ∃ d vs, dd = some d ∧ H d = some (.xd vs) ∧ Repf G vs fs
abbrev XP := XD → Rho → M → Prop
/-- what is wished of an exception is met by what Z says -/
def XW (W : WX) (Z : XP) (G : Hp) : Prop := ∀ cls dd x ρ μ σ G' H', Ex G G' → Env G' σ ρ → Hold μ G' H' → XRep G' H' cls dd x → Z x ρ μ → W cls dd σ H'
theorem XW.mono {W : WX} {Z : XP} {G G' : Hp} (x : Ex G G') (h : XW W Z G) : XW W Z G' := fun cls dd y ρ μ σ G2 H2 e => h cls dd y ρ μ σ G2 H2 (x.trans e)
def Z0 : XP := fun _ _ _ => False
theorem xw0 {W : WX} {G : Hp} : XW W Z0 G := fun _ _ _ _ _ _ _ _ _ _ _ _ z => z.elim

section
variable (W : WX) (Z : XP)
def wp (t : TE) (ρ : Rho) (μ : M) (P : D → M → Prop) : Prop := ∀ σ G H, Env G σ ρ → Hold μ G H → XW W Z G → ∀ Q : VK, (∀ v d μ' G' H', Ex G G' → Hold μ' G' H' → Rep G' v d → P d μ' → Q v H') → t σ H Q
def wpT (t : TT) (ρ : Rho) (μ : M) (P : Bool → M → Prop) : Prop := ∀ σ G H, Env G σ ρ → Hold μ G H → XW W Z G → ∀ Q : Bool → Hp → Prop, (∀ b μ' G' H', Ex G G' → Hold μ' G' H' → P b μ' → Q b H') → t σ H Q
def wpA (t : TA) (ρ : Rho) (μ : M) (P : List D → M → Prop) : Prop := ∀ σ G H, Env G σ ρ → Hold μ G H → XW W Z G → ∀ Q : List V → Hp → Prop, (∀ vs ds μ' G' H', Ex G G' → Hold μ' G' H' → Reps G' vs ds → P ds μ' → Q vs H') → t σ H Q
def wpO (t : TO) (ρ : Rho) (μ : M) (P : Option Int → M → Prop) : Prop := ∀ σ G H, Env G σ ρ → Hold μ G H → XW W Z G → ∀ Q : Option Int → Hp → Prop, (∀ o μ' G' H', Ex G G' → Hold μ' G' H' → P o μ' → Q o H') → t σ H Q
/-- a statement's ends -/
structure Fin where
  nx : Rho → M → Prop
  rt : D → M → Prop
  bk : Rho → M → Prop := fun _ _ => False
  ct : Rho → M → Prop := fun _ _ => False
structure Ends' (F : Fin) (G : Hp) (E : Ends) : Prop where
  nx : ∀ ρ μ σ G' H', Ex G G' → Env G' σ ρ → Hold μ G' H' → F.nx ρ μ → E.nx σ H'
  rt : ∀ v d μ G' H', Ex G G' → Hold μ G' H' → Rep G' v d → F.rt d μ → E.rt v H'
  bk : ∀ ρ μ σ G' H', Ex G G' → Env G' σ ρ → Hold μ G' H' → F.bk ρ μ → E.bk σ H'
  ct : ∀ ρ μ σ G' H', Ex G G' → Env G' σ ρ → Hold μ G' H' → F.ct ρ μ → E.ct σ H'
def wpS (t : TS) (ρ : Rho) (μ : M) (F : Fin) : Prop := ∀ σ G H, Env G σ ρ → Hold μ G H → XW W Z G → ∀ E : Ends, Ends' F G E → t E σ H
end
theorem Ends'.mono {F : Fin} {G G' : Hp} {E : Ends} (x : Ex G G') (e : Ends' F G E) : Ends' F G' E :=
  ⟨fun ρ μ σ G2 H2 y => e.nx ρ μ σ G2 H2 (x.trans y), fun v d μ G2 H2 y => e.rt v d μ G2 H2 (x.trans y), fun ρ μ σ G2 H2 y => e.bk ρ μ σ G2 H2 (x.trans y), fun ρ μ σ G2 H2 y => e.ct ρ μ σ G2 H2 (x.trans y)⟩

/-- rules by values: two places, one place, a call -/
def rel2 (r : R2) (x y : D) (μ : M) (P : D → M → Prop) : Prop := ∀ vx vy G H, Hold μ G H → Rep G vx x → Rep G vy y → ∀ Q : VK, (∀ v d μ' G' H', Ex G G' → Hold μ' G' H' → Rep G' v d → P d μ' → Q v H') → r vx vy H Q
def rel1 (r : V → Hp → VK → Prop) (x : D) (μ : M) (P : D → M → Prop) : Prop := ∀ vx G H, Hold μ G H → Rep G vx x → ∀ Q : VK, (∀ v d μ' G' H', Ex G G' → Hold μ' G' H' → Rep G' v d → P d μ' → Q v H') → r vx H Q
def relC (r : List V → Hp → VK → Prop) (xs : List D) (μ : M) (P : D → M → Prop) : Prop := ∀ vs G H, Hold μ G H → Reps G vs xs → ∀ Q : VK, (∀ v d μ' G' H', Ex G G' → Hold μ' G' H' → Rep G' v d → P d μ' → Q v H') → r vs H Q

section
variable {W : WX} {Z : XP} {ρ : Rho} {μ : M} {P : D → M → Prop} {ta tb tc te : TE} {K : PySem.W.Frag}
theorem wp_mono {t : TE} {P' : D → M → Prop} (h : wp W Z t ρ μ P') (k : ∀ d μ', P' d μ' → P d μ') : wp W Z t ρ μ P := fun σ G H e ho x Q q => h σ G H e ho x Q fun v d μ' G' H' a b c p => q v d μ' G' H' a b c (k d μ' p)
theorem wpS_mono {t : TS} {F F' : Fin} (h : wpS W Z t ρ μ F') (n : ∀ r m, F'.nx r m → F.nx r m) (r : ∀ d m, F'.rt d m → F.rt d m) (b : ∀ r m, F'.bk r m → F.bk r m) (c : ∀ r m, F'.ct r m → F.ct r m) : wpS W Z t ρ μ F :=
  fun σ G H e ho x E k => h σ G H e ho x E ⟨fun ρ μ σ G' H' a b c d => k.nx ρ μ σ G' H' a b c (n ρ μ d), fun v d μ G' H' a b c p => k.rt v d μ G' H' a b c (r d μ p), fun ρ μ σ G' H' a b' c d => k.bk ρ μ σ G' H' a b' c (b ρ μ d), fun ρ μ σ G' H' a b c' d => k.ct ρ μ σ G' H' a b c' (c ρ μ d)⟩
theorem wp_var {i : Nat} {d : D} (h : ρ[i]? = some (some d)) (p : P d μ) : wp W Z (tVar i) ρ μ P := fun σ G H e ho _ Q q => by
  obtain ⟨v, hv, r⟩ := e.at' i d h
  exact ⟨v, hv, q v d μ G H (Ex.refl G) ho r p⟩
theorem wp_int {i : Int} (p : P (.int i) μ) : wp W Z (tC (.int i)) ρ μ P := fun σ G H _ ho _ Q q => q _ _ μ G H (Ex.refl G) ho (.int i) p
theorem wp_bl {b : Bool} (p : P (.bl b) μ) : wp W Z (tC (.bl b)) ρ μ P := fun σ G H _ ho _ Q q => q _ _ μ G H (Ex.refl G) ho (.bl b) p
theorem wp_str {s : Str} (p : P (.str s) μ) : wp W Z (tC (.str s)) ρ μ P := fun σ G H _ ho _ Q q => q _ _ μ G H (Ex.refl G) ho (.str s) p
theorem wp_non (p : P .non μ) : wp W Z (tC .non) ρ μ P := fun σ G H _ ho _ Q q => q _ _ μ G H (Ex.refl G) ho .non p
theorem wp_ty {n : String} (p : P (.ty n) μ) : wp W Z (tC (.ty n)) ρ μ P := fun σ G H _ ho _ Q q => q _ _ μ G H (Ex.refl G) ho (.ty n) p
theorem wp_ref {a : Addr} (p : P (.cell a) μ) : wp W Z (tC (.ref a)) ρ μ P := fun σ G H _ ho _ Q q => q _ _ μ G H (Ex.refl G) ho (.cell a) p
theorem wp_op {r : R2} (h : wp W Z ta ρ μ fun x μ1 => wp W Z tb ρ μ1 fun y μ2 => rel2 r x y μ2 P) : wp W Z (tOp r ta tb) ρ μ P := fun σ G H e ho z Q q =>
  h σ G H e ho z _ fun vx x μ1 G1 H1 a1 h1 r1 p1 => p1 σ G1 H1 (e.mono a1) h1 (z.mono a1) _ fun vy y μ2 G2 H2 a2 h2 r2 p2 =>
    p2 vx vy G2 H2 h2 (r1.mono a2) r2 Q fun v d μ3 G3 H3 a3 h3 r3 p3 => q v d μ3 G3 H3 ((a1.trans a2).trans a3) h3 r3 p3
theorem wp_un {r : V → Hp → VK → Prop} (h : wp W Z ta ρ μ fun x μ1 => rel1 r x μ1 P) : wp W Z (tUn r ta) ρ μ P := fun σ G H e ho z Q q =>
  h σ G H e ho z _ fun vx x μ1 G1 H1 a1 h1 r1 p1 => p1 vx G1 H1 h1 r1 Q fun v d μ3 G3 H3 a3 h3 r3 p3 => q v d μ3 G3 H3 (a1.trans a3) h3 r3 p3
theorem wp_cb {r : List V → Hp → VK → Prop} {t : TA} (h : wpA W Z t ρ μ fun xs μ1 => relC r xs μ1 P) : wp W Z (tCB r t) ρ μ P := fun σ G H e ho z Q q =>
  h σ G H e ho z _ fun vs xs μ1 G1 H1 a1 h1 r1 p1 => p1 vs G1 H1 h1 r1 Q fun v d μ3 G3 H3 a3 h3 r3 p3 => q v d μ3 G3 H3 (a1.trans a3) h3 r3 p3
theorem wpA_nil {PA : List D → M → Prop} (p : PA [] μ) : wpA W Z tNil ρ μ PA := fun σ G H e ho z Q q => q [] [] μ G H (Ex.refl G) ho .nil p
theorem wpA_cons {PA : List D → M → Prop} {t : TA} (h : wp W Z ta ρ μ fun x μ1 => wpA W Z t ρ μ1 fun xs μ2 => PA (x :: xs) μ2) : wpA W Z (tCons ta t) ρ μ PA := fun σ G H e ho z Q q =>
  h σ G H e ho z _ fun vx x μ1 G1 H1 a1 h1 r1 p1 => p1 σ G1 H1 (e.mono a1) h1 (z.mono a1) _ fun vs xs μ2 G2 H2 a2 h2 r2 p2 => q (vx :: vs) (x :: xs) μ2 G2 H2 (a1.trans a2) h2 (.cons (r1.mono a2) r2) p2
theorem wp_tup {t : TA} (h : wpA W Z t ρ μ fun xs μ1 => xs.length ≤ sizeLine ∧ P (.tup xs) μ1) : wp W Z (tTup t) ρ μ P := fun σ G H e ho z Q q =>
  h σ G H e ho z _ fun vs xs μ1 G1 H1 a1 h1 r1 p1 => ⟨by rw [r1.length]; exact p1.1, fun p hp => by
    obtain ⟨x, h2⟩ := h1.newD (o := .tup vs) hp
    exact q _ _ μ1 _ _ (a1.trans x) h2 (.tup upd_same (r1.mono x)) p1.2⟩
theorem wp_lst {t : TA} (h : wpA W Z t ρ μ fun xs μ1 => xs.length ≤ sizeLine ∧ P (.lst xs) μ1) : wp W Z (tLst t) ρ μ P := fun σ G H e ho z Q q =>
  h σ G H e ho z _ fun vs xs μ1 G1 H1 a1 h1 r1 p1 => ⟨by rw [r1.length]; exact p1.1, fun p hp => by
    obtain ⟨x, h2⟩ := h1.newD (o := .lst vs) hp
    exact q _ _ μ1 _ _ (a1.trans x) h2 (.lst upd_same (r1.mono x)) p1.2⟩
/-- a list that will change -/
theorem wp_lstM {t : TA} (h : wpA W Z t ρ μ fun xs μ1 => xs.length ≤ sizeLine ∧ ∀ p, μ1 p = none → P (.cell p) (updM μ1 p (.lst xs))) : wp W Z (tLst t) ρ μ P := fun σ G H e ho z Q q =>
  h σ G H e ho z _ fun vs xs μ1 G1 H1 a1 h1 r1 p1 => ⟨by rw [r1.length]; exact p1.1, fun p hp =>
    q _ _ _ _ _ a1 (h1.newM hp (.lst r1)) (.cell p) (p1.2 p (h1.fresh hp).2)⟩
/-- what was made and may change is data from now on -/
theorem wp_freezeL {t : TE} (h : wp W Z t ρ μ fun d μ1 => ∃ a ds, d = .cell a ∧ μ1 a = some (.lst ds) ∧ P (.lst ds) (delM μ1 a)) : wp W Z t ρ μ P := fun σ G H e ho z Q q =>
  h σ G H e ho z _ fun v d μ1 G1 H1 a1 h1 r1 p1 => by
    obtain ⟨a, ds, rfl, hm, p⟩ := p1
    cases r1
    obtain ⟨g, o, ho, mr⟩ := h1.mu a _ hm
    cases mr with
    | lst r =>
      obtain ⟨x, h2⟩ := h1.freeze hm ho
      exact q _ _ _ _ _ (a1.trans x) h2 (.lst upd_same (r.mono x)) p
theorem wp_freezeO {t : TE} (h : wp W Z t ρ μ fun d μ1 => ∃ a C dx fs, d = .cell a ∧ μ1 a = some (.ins C dx fs) ∧ P (.obj C fs) (delM μ1 a)) : wp W Z t ρ μ P := fun σ G H e ho z Q q =>
  h σ G H e ho z _ fun v d μ1 G1 H1 a1 h1 r1 p1 => by
    obtain ⟨a, C, dx, fs, rfl, hm, p⟩ := p1
    cases r1
    obtain ⟨g, o, ho, mr⟩ := h1.mu a _ hm
    cases mr with
    | ins r =>
      obtain ⟨x, h2⟩ := h1.freeze hm ho
      exact q _ _ _ _ _ (a1.trans x) h2 (.obj upd_same (r.mono x)) p

/-! tests -/
variable {PB : Bool → M → Prop} {tA tB' : TT}
theorem wpT_mono {t : TT} {P' : Bool → M → Prop} (h : wpT W Z t ρ μ P') (k : ∀ d μ', P' d μ' → PB d μ') : wpT W Z t ρ μ PB := fun σ G H e ho x Q q => h σ G H e ho x Q fun d μ' G' H' a b p => q d μ' G' H' a b (k d μ' p)
theorem wpT_test (h : wp W Z te ρ μ fun d μ1 => ∃ b, d = .bl b ∧ PB b μ1) : wpT W Z (tTest te) ρ μ PB := fun σ G H e ho z Q q =>
  h σ G H e ho z _ fun v d μ1 G1 H1 a1 h1 r1 p1 => by
    obtain ⟨b, rfl, p⟩ := p1
    cases r1
    exact ⟨b, rfl, q b μ1 G1 H1 a1 h1 p⟩
theorem wpT_val (h : wp W Z te ρ μ fun d μ1 => ∃ b, d = .bl b ∧ PB b μ1) : wpT W Z (L2.tB te) ρ μ PB := fun σ G H e ho z Q q =>
  h σ G H e ho z _ fun v d μ1 G1 H1 a1 h1 r1 p1 => by
    obtain ⟨b, rfl, p⟩ := p1
    cases r1
    exact ⟨b, rfl, q b μ1 G1 H1 a1 h1 p⟩
theorem wpT_yes (p : PB true μ) : wpT W Z tYes ρ μ PB := fun σ G H e ho z Q q => q true μ G H (Ex.refl G) ho p
theorem wpT_not (h : wpT W Z tA ρ μ fun b μ1 => PB (!b) μ1) : wpT W Z (tNot tA) ρ μ PB := fun σ G H e ho z Q q => h σ G H e ho z _ fun b μ1 G1 H1 a1 h1 p1 => q (!b) μ1 G1 H1 a1 h1 p1
theorem wpT_and (h : wpT W Z tA ρ μ fun b μ1 => (b = true → wpT W Z tB' ρ μ1 PB) ∧ (b = false → PB false μ1)) : wpT W Z (tAnd tA tB') ρ μ PB := fun σ G H e ho z Q q =>
  h σ G H e ho z _ fun b μ1 G1 H1 a1 h1 p1 => by
    cases b with
    | true =>
      show tB' σ H1 Q
      exact p1.1 rfl σ G1 H1 (e.mono a1) h1 (z.mono a1) Q fun b2 μ2 G2 H2 a2 h2 p2 => q b2 μ2 G2 H2 (a1.trans a2) h2 p2
    | false =>
      show Q false H1
      exact q false μ1 G1 H1 a1 h1 (p1.2 rfl)
theorem wpT_or (h : wpT W Z tA ρ μ fun b μ1 => (b = false → wpT W Z tB' ρ μ1 PB) ∧ (b = true → PB true μ1)) : wpT W Z (tOr tA tB') ρ μ PB := fun σ G H e ho z Q q =>
  h σ G H e ho z _ fun b μ1 G1 H1 a1 h1 p1 => by
    cases b with
    | false =>
      show tB' σ H1 Q
      exact p1.1 rfl σ G1 H1 (e.mono a1) h1 (z.mono a1) Q fun b2 μ2 G2 H2 a2 h2 p2 => q b2 μ2 G2 H2 (a1.trans a2) h2 p2
    | true =>
      show Q true H1
      exact q true μ1 G1 H1 a1 h1 (p1.2 rfl)
theorem wp_andV (h : wp W Z ta ρ μ fun d μ1 => ∃ b, d = .bl b ∧ (b = true → wp W Z tb ρ μ1 P) ∧ (b = false → P (.bl false) μ1)) : wp W Z (tAndV ta tb) ρ μ P := fun σ G H e ho z Q q =>
  h σ G H e ho z _ fun v d μ1 G1 H1 a1 h1 r1 p1 => by
    obtain ⟨b, rfl, pt, pf⟩ := p1
    cases r1
    refine ⟨b, rfl, ?_⟩
    cases b with
    | true =>
      rw [if_pos rfl]
      exact pt rfl σ G1 H1 (e.mono a1) h1 (z.mono a1) Q fun v2 d2 μ2 G2 H2 a2 h2 r2 p2 => q v2 d2 μ2 G2 H2 (a1.trans a2) h2 r2 p2
    | false =>
      rw [if_neg (by decide)]
      exact q _ _ μ1 G1 H1 a1 h1 (.bl false) (pf rfl)
theorem wp_orV (h : wp W Z ta ρ μ fun d μ1 => ∃ b, d = .bl b ∧ (b = false → wp W Z tb ρ μ1 P) ∧ (b = true → P (.bl true) μ1)) : wp W Z (tOrV ta tb) ρ μ P := fun σ G H e ho z Q q =>
  h σ G H e ho z _ fun v d μ1 G1 H1 a1 h1 r1 p1 => by
    obtain ⟨b, rfl, pt, pf⟩ := p1
    cases r1
    refine ⟨b, rfl, ?_⟩
    cases b with
    | false =>
      rw [if_neg (by decide)]
      exact pt rfl σ G1 H1 (e.mono a1) h1 (z.mono a1) Q fun v2 d2 μ2 G2 H2 a2 h2 r2 p2 => q v2 d2 μ2 G2 H2 (a1.trans a2) h2 r2 p2
    | true =>
      rw [if_pos rfl]
      exact q _ _ μ1 G1 H1 a1 h1 (.bl true) (pf rfl)
theorem wp_notV (h : wp W Z ta ρ μ fun d μ1 => ∃ b, d = .bl b ∧ P (.bl (!b)) μ1) : wp W Z (tNotV ta) ρ μ P := fun σ G H e ho z Q q =>
  h σ G H e ho z _ fun v d μ1 G1 H1 a1 h1 r1 p1 => by
    obtain ⟨b, rfl, p⟩ := p1
    cases r1
    exact ⟨b, rfl, q _ _ μ1 G1 H1 a1 h1 (.bl _) p⟩
theorem wp_if (h : wpT W Z tA ρ μ fun b μ1 => (b = true → wp W Z ta ρ μ1 P) ∧ (b = false → wp W Z tb ρ μ1 P)) : wp W Z (tIf tA ta tb) ρ μ P := fun σ G H e ho z Q q =>
  h σ G H e ho z _ fun b μ1 G1 H1 a1 h1 p1 => by
    cases b with
    | true =>
      rw [if_pos rfl]
      exact p1.1 rfl σ G1 H1 (e.mono a1) h1 (z.mono a1) Q fun v2 d2 μ2 G2 H2 a2 h2 r2 p2 => q v2 d2 μ2 G2 H2 (a1.trans a2) h2 r2 p2
    | false =>
      rw [if_neg (by decide)]
      exact p1.2 rfl σ G1 H1 (e.mono a1) h1 (z.mono a1) Q fun v2 d2 μ2 G2 H2 a2 h2 r2 p2 => q v2 d2 μ2 G2 H2 (a1.trans a2) h2 r2 p2
theorem wp_chain {r r' : R2} (h : wp W Z ta ρ μ fun x μ1 => wp W Z tb ρ μ1 fun y μ2 => rel2 r x y μ2 fun d μ3 => ∃ b, d = .bl b ∧ (b = true → wp W Z tc ρ μ3 fun w μ4 => rel2 r' y w μ4 P) ∧ (b = false → P (.bl false) μ3)) : wp W Z (tChain r r' ta tb tc) ρ μ P := fun σ G H e ho z Q q =>
  h σ G H e ho z _ fun vx x μ1 G1 H1 a1 h1 r1 p1 => p1 σ G1 H1 (e.mono a1) h1 (z.mono a1) _ fun vy y μ2 G2 H2 a2 h2 r2 p2 =>
    p2 vx vy G2 H2 h2 (r1.mono a2) r2 _ fun v d μ3 G3 H3 a3 h3 r3 p3 => by
      obtain ⟨b, rfl, pt, pf⟩ := p3
      cases r3
      have a13 := (a1.trans a2).trans a3
      refine ⟨b, rfl, ?_⟩
      cases b with
      | true =>
        rw [if_pos rfl]
        exact pt rfl σ G3 H3 (e.mono a13) h3 (z.mono a13) _ fun vw w μ4 G4 H4 a4 h4 r4 p4 => p4 vy vw G4 H4 h4 (r2.mono (a3.trans a4)) r4 Q fun v5 d5 μ5 G5 H5 a5 h5 r5 p5 => q v5 d5 μ5 G5 H5 ((a13.trans a4).trans a5) h5 r5 p5
      | false =>
        rw [if_neg (by decide)]
        exact q _ _ μ3 G3 H3 a13 h3 (.bl false) (pf rfl)
end
end SB

/-! SBb: the rules by values. -/
namespace SB
open PySem L2

section
variable {μ : M} {P : D → M → Prop} {K : PySem.W.Frag}
theorem rel2_ok {r : R2} {x y z : D} {vx vy vz : V} {G H : Hp} (h : Hold μ G H) {Q : VK} (q : ∀ v d μ' G' H', Ex G G' → Hold μ' G' H' → Rep G' v d → P d μ' → Q v H') (r : Rep G vz z) (p : P z μ) : Q vz H := q vz z μ G H (Ex.refl G) h r p
/-! ints -/
theorem r_I0i {g : Int → Int → Int} {i j : Int} (p : P (.int (g i j)) μ) : rel2 (rI0 fun i j => .int (g i j)) (.int i) (.int j) μ P := fun vx vy G H h rx ry Q q => by
  cases rx; cases ry
  exact ⟨i, j, rfl, rfl, q _ _ μ G H (Ex.refl G) h (.int _) p⟩
theorem r_I0b {g : Int → Int → Bool} {i j : Int} (p : P (.bl (g i j)) μ) : rel2 (rI0 fun i j => .bl (g i j)) (.int i) (.int j) μ P := fun vx vy G H h rx ry Q q => by
  cases rx; cases ry
  exact ⟨i, j, rfl, rfl, q _ _ μ G H (Ex.refl G) h (.bl _) p⟩
theorem r_I {C : Int → Int → Prop} {g : Int → Int → Int} {i j : Int} (c : C i j) (p : P (.int (g i j)) μ) : rel2 (rI C fun i j => .int (g i j)) (.int i) (.int j) μ P := fun vx vy G H h rx ry Q q => by
  cases rx; cases ry
  exact ⟨i, j, rfl, rfl, c, q _ _ μ G H (Ex.refl G) h (.int _) p⟩
theorem r_add {i j : Int} (p : P (.int (i + j)) μ) : rel2 (rI0 fun i j => .int (i + j)) (.int i) (.int j) μ P := r_I0i p
theorem r_sub {i j : Int} (p : P (.int (i - j)) μ) : rel2 (rI0 fun i j => .int (i - j)) (.int i) (.int j) μ P := r_I0i p
theorem r_neg {i : Int} (p : P (.int (-i)) μ) : rel1 (rU fun i => .int (-i)) (.int i) μ P := fun vx G H h rx Q q => by
  cases rx
  exact ⟨i, rfl, q _ _ μ G H (Ex.refl G) h (.int _) p⟩
/-! is None -/
def isNon : D → Bool
  | .non => true
  | _ => false
theorem rep_non {G : Hp} {v : V} {d : D} (r : Rep G v d) : decide (v = .non) = isNon d := by
  cases r <;> rfl
theorem r_isN {x : D} (p : P (.bl (isNon x)) μ) : rel2 (fun x y H Q => y = .non ∧ Q (.bl (decide (x = .non))) H) x .non μ P := fun vx vy G H h rx ry Q q => by
  cases ry
  rw [rep_non rx]
  exact ⟨rfl, q _ _ μ G H (Ex.refl G) h (.bl _) p⟩
theorem r_notN {x : D} (p : P (.bl (!isNon x)) μ) : rel2 (fun x y H Q => y = .non ∧ Q (.bl (!decide (x = .non))) H) x .non μ P := fun vx vy G H h rx ry Q q => by
  cases ry
  rw [rep_non rx]
  exact ⟨rfl, q _ _ μ G H (Ex.refl G) h (.bl _) p⟩

/-! == of data -/
mutual
def toP : D → PyData
  | .non => .none
  | .bl b => .bool b
  | .int i => .int i
  | .str s => .str s
  | .tup xs => .tuple (toPs xs)
  | .lst xs => .list (toPs xs)
  | .obj _ _ => .none
  | .cell _ => .none
  | .known _ _ => .none
  | .ty _ => .none
def toPs : List D → List PyData
  | [] => []
  | x :: xs => toP x :: toPs xs
end
theorem toPs_map : ∀ xs : List D, toPs xs = xs.map toP
  | [] => by unfold toPs; rfl
  | x :: xs => by unfold toPs; rw [toPs_map xs]; rfl
/-- data of depth n at most -/
inductive Shp : Nat → D → Prop
  | non {n : Nat} : Shp n .non
  | bl {n : Nat} {b : Bool} : Shp n (.bl b)
  | int {n : Nat} {i : Int} : Shp n (.int i)
  | str {n : Nat} {s : Str} (h : PySem.PyData.strOk s = true) : Shp n (.str s)
  | tup {n : Nat} {xs : List D} (h : ∀ x ∈ xs, Shp n x) : Shp (n + 1) (.tup xs)
  | lst {n : Nat} {xs : List D} (h : ∀ x ∈ xs, Shp n x) : Shp (n + 1) (.lst xs)
theorem Shp.mono {n : Nat} {d : D} (h : Shp n d) : ∀ {m : Nat}, n ≤ m → Shp m d := by
  induction h with
  | non => intro m _; exact .non
  | bl => intro m _; exact .bl
  | int => intro m _; exact .int
  | str h => intro m _; exact .str h
  | tup h ih =>
    intro m hm
    obtain ⟨k, rfl⟩ : ∃ k, m = k + 1 := ⟨m - 1, by omega⟩
    exact .tup fun x hx => ih x hx (by omega)
  | lst h ih =>
    intro m hm
    obtain ⟨k, rfl⟩ : ∃ k, m = k + 1 := ⟨m - 1, by omega⟩
    exact .lst fun x hx => ih x hx (by omega)
theorem canAll : ∀ xs : List PyData, (∀ x ∈ xs, x.canLay0 = true) → PyData.canLayAll0 xs = true
  | [], _ => by simp [PyData.canLayAll0]
  | x :: xs, h => by
    simp only [PyData.canLayAll0, Bool.and_eq_true]
    exact ⟨h x List.mem_cons_self, canAll xs fun y hy => h y (List.mem_cons_of_mem _ hy)⟩
theorem depAll {n : Nat} : ∀ xs : List PyData, (∀ x ∈ xs, x.depth ≤ n) → PyData.depthAll xs ≤ n
  | [], _ => by simp [PyData.depthAll]
  | x :: xs, h => by
    simp only [PyData.depthAll]
    have h1 := h x List.mem_cons_self
    have h2 := depAll xs fun y hy => h y (List.mem_cons_of_mem _ hy)
    omega
theorem Shp.can {n : Nat} {d : D} (h : Shp n d) : (toP d).canLay0 = true ∧ (toP d).depth ≤ n := by
  induction h with
  | non => simp [toP, PyData.canLay0, PyData.depth]
  | bl => simp [toP, PyData.canLay0, PyData.depth]
  | int => simp [toP, PyData.canLay0, PyData.depth]
  | str h => simp [toP, PyData.canLay0, PyData.depth, h]
  | tup h ih =>
    simp only [toP, toPs_map, PyData.canLay0, PyData.depth]
    refine ⟨canAll _ fun x hx => ?_, Nat.succ_le_succ (depAll _ fun x hx => ?_)⟩
    · obtain ⟨y, hy, rfl⟩ := List.mem_map.mp hx
      exact (ih y hy).1
    · obtain ⟨y, hy, rfl⟩ := List.mem_map.mp hx
      exact (ih y hy).2
  | lst h ih =>
    simp only [toP, toPs_map, PyData.canLay0, PyData.depth]
    refine ⟨canAll _ fun x hx => ?_, Nat.succ_le_succ (depAll _ fun x hx => ?_)⟩
    · obtain ⟨y, hy, rfl⟩ := List.mem_map.mp hx
      exact (ih y hy).1
    · obtain ⟨y, hy, rfl⟩ := List.mem_map.mp hx
      exact (ih y hy).2
theorem Shp.shaped {d : D} (h : Shp 60 d) : SeqAt.shaped (toP d) = true := by
  unfold SeqAt.shaped
  rw [Bool.and_eq_true]
  exact ⟨h.can.1, decide_eq_true (by have := h.can.2; omega)⟩
mutual
theorem Rep.dp {G H : Hp} (e : Ex G H) : ∀ {n : Nat} {d : D} {v : V}, Shp n d → Rep G v d → Dp K H v (toP d)
  | _, _, _, .non, r => by cases r; unfold toP; exact .non
  | _, _, _, .bl, r => by cases r; unfold toP; exact .bl _
  | _, _, _, .int, r => by cases r; unfold toP; exact .int _
  | _, _, _, .str _, r => by cases r; unfold toP; exact .str _
  | _, _, _, .tup h, r => by
    cases r with
    | tup a s => unfold toP; exact .tup (SqT.of (e _ _ a)) (Reps.dp e h s)
  | _, _, _, .lst h, r => by
    cases r with
    | lst a s => unfold toP; exact .lst (SqL.of (e _ _ a)) (Reps.dp e h s)
theorem Reps.dp {G H : Hp} (e : Ex G H) : ∀ {n : Nat} {ds : List D} {vs : List V}, (∀ x ∈ ds, Shp n x) → Reps G vs ds → DpAll K H vs (toPs ds)
  | _, [], _, _, r => by cases r; unfold toPs; exact .nil
  | _, d :: ds, _, h, r => by
    cases r with
    | cons a s => unfold toPs; exact .cons (Rep.dp e (h d List.mem_cons_self) a) (Reps.dp e (fun x hx => h x (List.mem_cons_of_mem _ hx)) s)
end
def deq (x y : D) : Bool := PyData.eqv (toP x) (toP y)
theorem r_eqD {x y : D} (hx : Shp 60 x) (hy : Shp 60 y) (p : P (.bl (deq x y)) μ) : rel2 (rEqD K) x y μ P := fun vx vy G H h rx ry Q q =>
  ⟨toP x, toP y, rx.dp h.ex hx, ry.dp h.ex hy, hx.shaped, hy.shaped, q _ _ μ G H (Ex.refl G) h (.bl _) p⟩
theorem r_neD {x y : D} (hx : Shp 60 x) (hy : Shp 60 y) (p : P (.bl (!deq x y)) μ) : rel2 (rNeD K) x y μ P := fun vx vy G H h rx ry Q q =>
  ⟨toP x, toP y, rx.dp h.ex hx, ry.dp h.ex hy, hx.shaped, hy.shaped, q _ _ μ G H (Ex.refl G) h (.bl _) p⟩
theorem deq_int (i j : Int) : deq (.int i) (.int j) = decide (i = j) := by
  unfold deq toP PyData.eqv
  exact Bool.beq_eq_decide_eq i j
theorem deq_str (i j : Str) : deq (.str i) (.str j) = decide (i = j) := by
  unfold deq toP PyData.eqv
  exact Bool.beq_eq_decide_eq i j
theorem r_eqI {i j : Int} (p : P (.bl (decide (i = j))) μ) : rel2 (rEqD K) (.int i) (.int j) μ P := r_eqD .int .int (by rw [deq_int]; exact p)
theorem r_neI {i j : Int} (p : P (.bl (!decide (i = j))) μ) : rel2 (rNeD K) (.int i) (.int j) μ P := r_neD .int .int (by rw [deq_int]; exact p)
theorem deqAll (f g : List PyData) : PyData.eqvAll f g = (f.length == g.length && (f.zip g).all fun p => PyData.eqv p.1 p.2) := by
  induction f generalizing g with
  | nil => cases g <;> simp [PyData.eqvAll]
  | cons x xs ih =>
    cases g with
    | nil => simp [PyData.eqvAll]
    | cons y ys =>
      rw [PyData.eqvAll, ih]
      simp only [List.length_cons, List.zip_cons_cons, List.all_cons]
      cases PyData.eqv x y <;> simp
/-- lists that are told item by item -/
theorem eqvAll_map {α : Type} (e : α → D) (he : ∀ a b, deq (e a) (e b) = true ↔ a = b) : ∀ xs ys : List α, PyData.eqvAll (toPs (xs.map e)) (toPs (ys.map e)) = true ↔ xs = ys
  | [], [] => by simp [toPs, PyData.eqvAll]
  | [], y :: ys => by simp [toPs, PyData.eqvAll]
  | x :: xs, [] => by simp [toPs, PyData.eqvAll]
  | x :: xs, y :: ys => by
    simp only [List.map_cons, toPs, PyData.eqvAll, Bool.and_eq_true, List.cons.injEq]
    rw [eqvAll_map e he xs ys]
    exact and_congr (he x y) Iff.rfl
theorem deq_lst {α : Type} (e : α → D) (he : ∀ a b, deq (e a) (e b) = true ↔ a = b) (xs ys : List α) : deq (.lst (xs.map e)) (.lst (ys.map e)) = true ↔ xs = ys := by
  unfold deq toP PyData.eqv
  exact eqvAll_map e he xs ys
theorem deq_tup {α : Type} (e : α → D) (he : ∀ a b, deq (e a) (e b) = true ↔ a = b) (xs ys : List α) : deq (.tup (xs.map e)) (.tup (ys.map e)) = true ↔ xs = ys := by
  unfold deq toP PyData.eqv
  exact eqvAll_map e he xs ys
theorem deq_int' (a b : Int) : deq (.int a) (.int b) = true ↔ a = b := by rw [deq_int, decide_eq_true_iff]
theorem deq_str' (a b : Str) : deq (.str a) (.str b) = true ↔ a = b := by rw [deq_str, decide_eq_true_iff]

/-! in, over flat items -/
inductive Flt : D → Prop
  | non : Flt .non
  | bl {b : Bool} : Flt (.bl b)
  | int {i : Int} : Flt (.int i)
  | str {s : Str} : Flt (.str s)
theorem Flt.v {G : Hp} {v : V} {d : D} (h : Flt d) (r : Rep G v d) : flatV v = true := by
  cases h <;> cases r <;> rfl
theorem Flt.all {G : Hp} : ∀ {vs : List V} {ds : List D}, (∀ d ∈ ds, Flt d) → Reps G vs ds → vs.all flatV = true
  | _, _, _, .nil => rfl
  | _, _, h, .cons a r => by
    rw [List.all_cons, Bool.and_eq_true]
    exact ⟨(h _ List.mem_cons_self).v a, Flt.all (fun d hd => h d (List.mem_cons_of_mem _ hd)) r⟩
theorem flt_eq {G : Hp} {v w : V} {d e : D} (h : Flt d) (k : Flt e) (r : Rep G v d) (s : Rep G w e) : eqV v w = deq d e := by
  cases h <;> cases k <;> cases r <;> cases s <;> first | rfl | (unfold deq toP PyData.eqv; rfl)
def inD (x : D) (xs : List D) : Bool := xs.any fun y => deq y x
theorem flt_in {G : Hp} {v : V} {x : D} (h : Flt x) (r : Rep G v x) : ∀ {vs : List V} {ds : List D}, (∀ d ∈ ds, Flt d) → Reps G vs ds → inV v vs = inD x ds
  | _, _, _, .nil => rfl
  | _, _, k, .cons a s => by
    unfold inV inD
    rw [List.any_cons, List.any_cons, flt_eq (k _ List.mem_cons_self) h a r]
    have := flt_in h r (fun d hd => k d (List.mem_cons_of_mem _ hd)) s
    unfold inV inD at this
    rw [this]
theorem r_inL {x : D} {xs : List D} (hx : Flt x) (hs : ∀ d ∈ xs, Flt d) (p : P (.bl (inD x xs)) μ) : rel2 (rIn K false) x (.lst xs) μ P := fun vx vy G H h rx ry Q q => by
  cases ry with
  | lst a r =>
    refine ⟨_, _, rfl, .inl (SqL.of (h.ex _ _ a)), hx.v rx, Flt.all hs r, ?_⟩
    rw [if_neg (by decide), flt_in hx rx hs r]
    exact q _ _ μ G H (Ex.refl G) h (.bl _) p
theorem r_notInL {x : D} {xs : List D} (hx : Flt x) (hs : ∀ d ∈ xs, Flt d) (p : P (.bl (!inD x xs)) μ) : rel2 (rIn K true) x (.lst xs) μ P := fun vx vy G H h rx ry Q q => by
  cases ry with
  | lst a r =>
    refine ⟨_, _, rfl, .inl (SqL.of (h.ex _ _ a)), hx.v rx, Flt.all hs r, ?_⟩
    rw [if_pos rfl, flt_in hx rx hs r]
    exact q _ _ μ G H (Ex.refl G) h (.bl _) p

/-! lists and tuples joined, repeated -/
theorem r_cat {xs ys : List D} (hz : xs.length + ys.length ≤ sizeLine) (p : P (.lst (xs ++ ys)) μ) : rel2 rCat (.lst xs) (.lst ys) μ P := fun vx vy G H h rx ry Q q => by
  cases rx with
  | lst a r =>
    cases ry with
    | lst b s =>
      refine ⟨_, _, _, _, rfl, rfl, h.ex _ _ a, h.ex _ _ b, by rw [r.length, s.length]; exact hz, fun l hl => ?_⟩
      obtain ⟨x, h2⟩ := h.newD (o := .lst _) hl
      exact q _ _ μ _ _ x h2 (.lst upd_same ((r.append s).mono x)) p
theorem r_rep {xs : List D} {k : Int} (h1 : -(2 ^ 63) ≤ k) (h2 : k < 2 ^ 63) (hz : xs.length * k.toNat ≤ sizeLine) (p : P (.lst (List.replicate k.toNat xs).flatten) μ) : rel2 rRep (.lst xs) (.int k) μ P := fun vx vy G H h rx ry Q q => by
  cases ry
  cases rx with
  | lst a r =>
    refine ⟨_, _, _, rfl, rfl, h.ex _ _ a, h1, h2, by rw [r.length]; exact hz, fun l hl => ?_⟩
    obtain ⟨x, h2⟩ := h.newD (o := .lst _) hl
    exact q _ _ μ _ _ x h2 (.lst upd_same ((r.rep _).mono x)) p
theorem r_catT {xs ys : List D} (hz : xs.length + ys.length ≤ sizeLine) (p : P (.tup (xs ++ ys)) μ) : rel2 (rCatA K) (.tup xs) (.tup ys) μ P := fun vx vy G H h rx ry Q q => by
  cases rx with
  | tup a r =>
    cases ry with
    | tup b s =>
      refine ⟨_, _, _, _, rfl, rfl, SqT.of (h.ex _ _ a), SqT.of (h.ex _ _ b), by rw [r.length, s.length]; exact hz, fun e => ?_, fun e1 e2 => ?_, fun _ _ l hl => ?_⟩
      · subst e
        cases r
        exact q _ _ μ G H (Ex.refl G) h (.tup b s) (by simpa using p)
      · subst e2
        cases s
        exact q _ _ μ G H (Ex.refl G) h (.tup a r) (by simpa using p)
      · obtain ⟨x, h2⟩ := h.newD (o := .tup _) hl
        exact q _ _ μ _ _ x h2 (.tup upd_same ((r.append s).mono x)) p
theorem r_addS {a b : Str} (hz : a.length + b.length ≤ sizeLine) (p : P (.str (a ++ b)) μ) : rel2 (fun x y H Q => ∃ i j, x = .str i ∧ y = .str j ∧ i.length + j.length ≤ sizeLine ∧ Q (.str (i ++ j)) H) (.str a) (.str b) μ P := fun vx vy G H h rx ry Q q => by
  cases rx; cases ry
  exact ⟨a, b, rfl, rfl, hz, q _ _ μ G H (Ex.refl G) h (.str _) p⟩

/-! items -/
theorem atI_rep {G : Hp} {vs : List V} {ds : List D} (r : Reps G vs ds) {i : Int} {d : D} (h : atI ds i = some d) : ∃ v, atI vs i = some v ∧ Rep G v d := by
  unfold atI at h ⊢
  rw [r.length]
  cases e : ixN ds.length i with
  | none => rw [e] at h; cases h
  | some j =>
    rw [e] at h
    exact r.get (i := j) h
theorem r_ixL {xs : List D} {i : Int} {d : D} (e : atI xs i = some d) (p : P d μ) : rel2 (rIxL K) (.lst xs) (.int i) μ P := fun vx vy G H h rx ry Q q => by
  cases ry
  cases rx with
  | lst a r =>
    obtain ⟨v, ev, rv⟩ := atI_rep r e
    exact ⟨_, _, _, v, rfl, rfl, SqL.of (h.ex _ _ a), ev, q _ _ μ G H (Ex.refl G) h rv p⟩
theorem r_ixT {xs : List D} {i : Int} {d : D} (e : atI xs i = some d) (p : P d μ) : rel2 (rIxT K) (.tup xs) (.int i) μ P := fun vx vy G H h rx ry Q q => by
  cases ry
  cases rx with
  | tup a r =>
    obtain ⟨v, ev, rv⟩ := atI_rep r e
    exact ⟨_, _, _, v, rfl, rfl, SqT.of (h.ex _ _ a), ev, q _ _ μ G H (Ex.refl G) h rv p⟩
/-- an item of a list that may change -/
theorem r_ixM {a : Addr} {xs : List D} {i : Int} {d : D} (m : μ a = some (.lst xs)) (e : atI xs i = some d) (p : P d μ) : rel2 (rIxL K) (.cell a) (.int i) μ P := fun vx vy G H h rx ry Q q => by
  cases ry
  cases rx
  obtain ⟨g, o, ho, mr⟩ := h.mu a _ m
  cases mr with
  | lst r =>
    obtain ⟨v, ev, rv⟩ := atI_rep r e
    exact ⟨_, _, _, v, rfl, rfl, SqL.of ho, ev, q _ _ μ G H (Ex.refl G) h rv p⟩

/-! calls by values -/
theorem rc_len {xs : List D} (p : P (.int (xs.length : Nat)) μ) : relC (fun vs H Q => ∃ q ys, vs = [.ref q] ∧ (SqL K H q ys ∨ SqT K H q ys) ∧ Q (.int (ys.length : Nat)) H) [.lst xs] μ P := fun vs G H h r Q q => by
  cases r with
  | cons a r =>
    cases r
    cases a with
    | lst a s =>
      refine ⟨_, _, rfl, .inl (SqL.of (h.ex _ _ a)), ?_⟩
      rw [s.length]
      exact q _ _ μ G H (Ex.refl G) h (.int _) p
theorem rc_lenT {xs : List D} (p : P (.int (xs.length : Nat)) μ) : relC (fun vs H Q => ∃ q ys, vs = [.ref q] ∧ (SqL K H q ys ∨ SqT K H q ys) ∧ Q (.int (ys.length : Nat)) H) [.tup xs] μ P := fun vs G H h r Q q => by
  cases r with
  | cons a r =>
    cases r
    cases a with
    | tup a s =>
      refine ⟨_, _, rfl, .inr (SqT.of (h.ex _ _ a)), ?_⟩
      rw [s.length]
      exact q _ _ μ G H (Ex.refl G) h (.int _) p
theorem rc_lenM {a : Addr} {xs : List D} (m : μ a = some (.lst xs)) (p : P (.int (xs.length : Nat)) μ) : relC (fun vs H Q => ∃ q ys, vs = [.ref q] ∧ (SqL K H q ys ∨ SqT K H q ys) ∧ Q (.int (ys.length : Nat)) H) [.cell a] μ P := fun vs G H h r Q q => by
  cases r with
  | cons a r =>
    cases r
    cases a
    obtain ⟨g, o, ho, mr⟩ := h.mu _ _ m
    cases mr with
    | lst s =>
      refine ⟨_, _, rfl, .inl (SqL.of ho), ?_⟩
      rw [s.length]
      exact q _ _ μ G H (Ex.refl G) h (.int _) p
theorem rc_lenS {s : Str} (hz : s.length ≤ sizeLine) (p : P (.int (s.length : Nat)) μ) : relC (fun xs H Q => ∃ z, xs = [.str z] ∧ z.length ≤ sizeLine ∧ Q (.int (z.length : Nat)) H) [.str s] μ P := fun vs G H h r Q q => by
  cases r with
  | cons a r =>
    cases r
    cases a
    exact ⟨_, rfl, hz, q _ _ μ G H (Ex.refl G) h (.int _) p⟩
theorem rc_sum {ns : List Int} (p : P (.int ns.sum) μ) : relC (rSum K) [.lst (ns.map D.int)] μ P := fun vs G H h r Q q => by
  cases r with
  | cons a r =>
    cases r
    cases a with
    | lst a s =>
      have e := s.ints
      subst e
      exact ⟨_, _, rfl, SqL.of (h.ex _ _ a), q _ _ μ G H (Ex.refl G) h (.int _) p⟩
theorem rc_all {bs : List Bool} (p : P (.bl (bs.all id)) μ) : relC (rAll K) [.lst (bs.map D.bl)] μ P := fun vs G H h r Q q => by
  cases r with
  | cons a r =>
    cases r
    cases a with
    | lst a s =>
      have e := s.bls
      subst e
      exact ⟨_, _, rfl, SqL.of (h.ex _ _ a), q _ _ μ G H (Ex.refl G) h (.bl _) p⟩
theorem rc_abs {i : Int} (p : P (.int (if i < 0 then -i else i)) μ) : relC (fun xs H Q => ∃ i, xs = [.int i] ∧ Q (.int (if i < 0 then -i else i)) H) [.int i] μ P := fun vs G H h r Q q => by
  cases r with
  | cons a r =>
    cases r; cases a
    exact ⟨_, rfl, q _ _ μ G H (Ex.refl G) h (.int _) p⟩
theorem rc_max2 {i j : Int} (p : P (.int (if j > i then j else i)) μ) : relC (fun xs H Q => ∃ i j, xs = [.int i, .int j] ∧ Q (.int (if j > i then j else i)) H) [.int i, .int j] μ P := fun vs G H h r Q q => by
  cases r with
  | cons a r =>
    cases r with
    | cons b r =>
      cases r; cases a; cases b
      exact ⟨_, _, rfl, q _ _ μ G H (Ex.refl G) h (.int _) p⟩
theorem rc_min2 {i j : Int} (p : P (.int (if j < i then j else i)) μ) : relC (fun xs H Q => ∃ i j, xs = [.int i, .int j] ∧ Q (.int (if j < i then j else i)) H) [.int i, .int j] μ P := fun vs G H h r Q q => by
  cases r with
  | cons a r =>
    cases r with
    | cons b r =>
      cases r; cases a; cases b
      exact ⟨_, _, rfl, q _ _ μ G H (Ex.refl G) h (.int _) p⟩
theorem rc_intI {i : Int} (p : P (.int i) μ) : relC (fun xs H Q => (∃ i, xs = [.int i] ∧ Q (.int i) H) ∨ ∃ k, xs = [.bl k] ∧ Q (.int (if k then 1 else 0)) H) [.int i] μ P := fun vs G H h r Q q => by
  cases r with
  | cons a r =>
    cases r; cases a
    exact .inl ⟨_, rfl, q _ _ μ G H (Ex.refl G) h (.int _) p⟩
theorem rc_intB {b : Bool} (p : P (.int (if b then 1 else 0)) μ) : relC (fun xs H Q => (∃ i, xs = [.int i] ∧ Q (.int i) H) ∨ ∃ k, xs = [.bl k] ∧ Q (.int (if k then 1 else 0)) H) [.bl b] μ P := fun vs G H h r Q q => by
  cases r with
  | cons a r =>
    cases r; cases a
    exact .inr ⟨_, rfl, q _ _ μ G H (Ex.refl G) h (.int _) p⟩
theorem rc_tuple {xs : List D} (p : P (.tup xs) μ) : relC (fun xs H Q => ∃ p ys, xs = [.ref p] ∧ ((SqL K H p ys ∧ ∀ l, H l = none → Q (.ref l) (upd H l (.tup ys))) ∨ (SqT K H p ys ∧ Q (.ref p) H))) [.lst xs] μ P := fun vs G H h r Q q => by
  cases r with
  | cons a r =>
    cases r
    cases a with
    | lst a s =>
      refine ⟨_, _, rfl, .inl ⟨SqL.of (h.ex _ _ a), fun l hl => ?_⟩⟩
      obtain ⟨x, h2⟩ := h.newD (o := .tup _) hl
      exact q _ _ μ _ _ x h2 (.tup upd_same (s.mono x)) p
theorem rc_tupleM {b : Addr} {xs : List D} (m : μ b = some (.lst xs)) (p : P (.tup xs) μ) : relC (fun xs H Q => ∃ p ys, xs = [.ref p] ∧ ((SqL K H p ys ∧ ∀ l, H l = none → Q (.ref l) (upd H l (.tup ys))) ∨ (SqT K H p ys ∧ Q (.ref p) H))) [.cell b] μ P := fun vs G H h r Q q => by
  cases r with
  | cons a r =>
    cases r
    cases a
    obtain ⟨g, o, ho, mr⟩ := h.mu _ _ m
    cases mr with
    | lst s =>
      refine ⟨_, _, rfl, .inl ⟨SqL.of ho, fun l hl => ?_⟩⟩
      obtain ⟨x, h2⟩ := h.newD (o := .tup _) hl
      exact q _ _ μ _ _ x h2 (.tup upd_same (s.mono x)) p
theorem rc_list {xs : List D} {d : D} (hd : d = .lst xs ∨ d = .tup xs) (p : P (.lst xs) μ) : relC (fun xs H Q => ∃ p ys, xs = [.ref p] ∧ (SqL K H p ys ∨ SqT K H p ys) ∧ ∀ l, H l = none → Q (.ref l) (upd H l (.lst ys))) [d] μ P := fun vs G H h r Q q => by
  cases r with
  | cons a r =>
    cases r
    rcases hd with rfl | rfl
    · cases a with
      | lst a s =>
        refine ⟨_, _, rfl, .inl (SqL.of (h.ex _ _ a)), fun l hl => ?_⟩
        obtain ⟨x, h2⟩ := h.newD (o := .lst _) hl
        exact q _ _ μ _ _ x h2 (.lst upd_same (s.mono x)) p
    · cases a with
      | tup a s =>
        refine ⟨_, _, rfl, .inr (SqT.of (h.ex _ _ a)), fun l hl => ?_⟩
        obtain ⟨x, h2⟩ := h.newD (o := .lst _) hl
        exact q _ _ μ _ _ x h2 (.lst upd_same (s.mono x)) p
theorem rc_listM {xs : List D} {d : D} (hd : d = .lst xs ∨ d = .tup xs) (p : ∀ l, μ l = none → P (.cell l) (updM μ l (.lst xs))) : relC (fun xs H Q => ∃ p ys, xs = [.ref p] ∧ (SqL K H p ys ∨ SqT K H p ys) ∧ ∀ l, H l = none → Q (.ref l) (upd H l (.lst ys))) [d] μ P := fun vs G H h r Q q => by
  cases r with
  | cons a r =>
    cases r
    rcases hd with rfl | rfl
    · cases a with
      | lst a s => exact ⟨_, _, rfl, .inl (SqL.of (h.ex _ _ a)), fun l hl => q _ _ _ _ _ (Ex.refl G) (h.newM hl (.lst s)) (.cell l) (p l (h.fresh hl).2)⟩
    · cases a with
      | tup a s => exact ⟨_, _, rfl, .inr (SqT.of (h.ex _ _ a)), fun l hl => q _ _ _ _ _ (Ex.refl G) (h.newM hl (.lst s)) (.cell l) (p l (h.fresh hl).2)⟩
theorem rc_strI {i : Int} (hi : i.natAbs.log2 < 1920) (p : P (.str (toString i)) μ) : relC (fun xs H Q => ∃ i, xs = [.int i] ∧ i.natAbs.log2 < 1920 ∧ Q (.str (toString i)) H) [.int i] μ P := fun vs G H h r Q q => by
  cases r with
  | cons a r =>
    cases r; cases a
    exact ⟨_, rfl, hi, q _ _ μ G H (Ex.refl G) h (.str _) p⟩
theorem rc_sorted {ns : List Int} (p : ∀ ns' : List Int, ns'.Perm ns → ns'.Pairwise (· ≤ ·) → P (.lst (ns'.map D.int)) μ) : relC (rSortedI K) [.lst (ns.map D.int)] μ P := fun vs G H h r Q q => by
  cases r with
  | cons a r =>
    cases r
    cases a with
    | lst a s =>
      have e := s.ints
      subst e
      refine ⟨_, _, rfl, SqL.of (h.ex _ _ a), fun ns' l h1 h2 hl => ?_⟩
      obtain ⟨x, h3⟩ := h.newD (o := .lst (ns'.map V.int)) hl
      refine q _ _ μ _ _ x h3 (.lst (ds := ns'.map D.int) upd_same ?_) (p ns' h1 h2)
      clear h1 h2 h3 p q x hl
      generalize upd G l (.lst (ns'.map V.int)) = G2
      induction ns' with
      | nil => exact .nil
      | cons n ns ih => exact .cons (.int n) ih
/-- the type of data, as isinstance asks it; an own class is at C -/
def tyD : D → Option String
  | .non => some "NoneType"
  | .bl _ => some "bool"
  | .int _ => some "int"
  | .str _ => some "str"
  | .tup _ => some "tuple"
  | .lst _ => some "list"
  | _ => none
theorem tyX_of {G H : Hp} (e : Ex G H) {v : V} {d : D} {n : String} (h : tyD d = some n) (r : Rep G v d) : TyX K H v (.type n) := by
  cases r with
  | non => cases h; exact .base .non
  | bl b => cases h; exact .base (.bl _)
  | int i => cases h; exact .base (.int _)
  | str s => cases h; exact .base (.str _)
  | tup a s => cases h; exact .base (.tup (e _ _ a))
  | lst a s => cases h; exact .base (.lst (e _ _ a))
  | _ => cases h
theorem rc_isi {x : D} {n m : String} {b : Bool} (hx : tyD x = some n) (hk : kitB n m = some b) (p : P (.bl b) μ) : relC (rIsi K) [x, .ty m] μ P := fun vs G H h r Q q => by
  cases r with
  | cons a r =>
    cases r with
    | cons c r =>
      cases r; cases c
      exact ⟨_, _, _, _, b, rfl, .ty m, tyX_of h.ex hx a, kit_ty hk, q _ _ μ G H (Ex.refl G) h (.bl _) p⟩
end
end SB

/-! SBc: what is walked, comprehensions, statements, calls. -/
namespace SB
open PySem L2

/-! ### what is walked -/
/-- J gives the data xs, one after another, wherever G stands -/
def WalkD (J : It) (G : Hp) (xs : List D) : Prop := ∃ (Gd : Hp → Prop) (Y : Nat → Hp → V → Hp → Prop), Walk J xs.length Gd Y ∧ (∀ H, Ex G H → Gd H) ∧
  ∀ i H v H' μ G1, i < xs.length → Ex G G1 → Hold μ G1 H → Y i H v H' → ∃ G2 d, Ex G1 G2 ∧ Hold μ G2 H' ∧ Ex H H' ∧ xs[i]? = some d ∧ Rep G2 v d
def wpI (W : WX) (Z : XP) (wi : TI) (ρ : Rho) (μ : M) (P : List D → M → Prop) : Prop := ∀ σ G H, Env G σ ρ → Hold μ G H → XW W Z G →
  ∀ R : It → Hp → Prop, (∀ J xs μ' G' H', Ex G G' → Hold μ' G' H' → WalkD J G' xs → P xs μ' → R J H') → wi σ H R
section
variable {W : WX} {Z : XP} {ρ : Rho} {μ : M} {P : List D → M → Prop} {K : PySem.W.Frag} {te : TE} {ta : TA}
theorem walkD_list {G : Hp} {a : Addr} {vs : List V} {xs : List D} (h : G a = some (.lst vs)) (r : Reps G vs xs) : WalkD (Itl K a) G xs := by
  refine ⟨fun H => SqL K H a vs, YAt vs, by rw [← r.length]; exact walk_list, fun H e => SqL.of (e _ _ h), fun i H v H' μ G1 hi e ho y => ?_⟩
  obtain ⟨rfl, y⟩ := y
  obtain ⟨d, hd, rv⟩ := r.get' y
  exact ⟨G1, d, Ex.refl _, ho, Ex.refl _, hd, rv.mono e⟩
theorem walkD_tup {G : Hp} {a : Addr} {vs : List V} {xs : List D} (h : G a = some (.tup vs)) (r : Reps G vs xs) : WalkD (Itt K a) G xs := by
  refine ⟨fun H => SqT K H a vs, YAt vs, by rw [← r.length]; exact walk_tup, fun H e => SqT.of (e _ _ h), fun i H v H' μ G1 hi e ho y => ?_⟩
  obtain ⟨rfl, y⟩ := y
  obtain ⟨d, hd, rv⟩ := r.get' y
  exact ⟨G1, d, Ex.refl _, ho, Ex.refl _, hd, rv.mono e⟩
theorem wpI_list (h : wp W Z te ρ μ fun d μ1 => ∃ xs, d = .lst xs ∧ P xs μ1) : wpI W Z (iList K te) ρ μ P := fun σ G H e ho z R q =>
  h σ G H e ho z _ fun v d μ1 G1 H1 a1 h1 r1 p1 => by
    obtain ⟨xs, rfl, p⟩ := p1
    cases r1 with
    | lst a s => exact ⟨_, rfl, ⟨_, SqL.of (h1.ex _ _ a)⟩, q _ xs μ1 G1 H1 a1 h1 (walkD_list a s) p⟩
theorem wpI_tup (h : wp W Z te ρ μ fun d μ1 => ∃ xs, d = .tup xs ∧ P xs μ1) : wpI W Z (iTup K te) ρ μ P := fun σ G H e ho z R q =>
  h σ G H e ho z _ fun v d μ1 G1 H1 a1 h1 r1 p1 => by
    obtain ⟨xs, rfl, p⟩ := p1
    cases r1 with
    | tup a s => exact ⟨_, rfl, ⟨_, SqT.of (h1.ex _ _ a)⟩, q _ xs μ1 G1 H1 a1 h1 (walkD_tup a s) p⟩
/-- the ints lo, lo + 1, .. -/
def rngD (lo : Int) (n : Nat) : List D := (List.range n).map fun i => D.int (lo + (i : Nat))
theorem walkD_range {G : Hp} {lo : Int} {n : Nat} : WalkD (Itr lo n) G (rngD lo n) := by
  have hl : (rngD lo n).length = n := by unfold rngD; rw [List.length_map, List.length_range]
  refine ⟨fun _ => True, YFn fun i => .int (lo + i), by rw [hl]; exact walk_range, fun _ _ => trivial, fun i H v H' μ G1 hi e ho y => ?_⟩
  obtain ⟨rfl, rfl⟩ := y
  rw [hl] at hi
  refine ⟨G1, .int (lo + i), Ex.refl _, ho, Ex.refl _, ?_, .int _⟩
  unfold rngD
  rw [List.getElem?_map, List.getElem?_range hi]
  rfl
theorem wpI_range1 (h : wpA W Z ta ρ μ fun ds μ1 => ∃ j : Int, ds = [.int j] ∧ -(2 ^ 62) ≤ j ∧ j < 2 ^ 62 ∧ P (rngD 0 j.toNat) μ1) : wpI W Z (iRng1 ta) ρ μ P := fun σ G H e ho z R q =>
  h σ G H e ho z _ fun vs ds μ1 G1 H1 a1 h1 r1 p1 => by
    obtain ⟨j, rfl, b1, b2, p⟩ := p1
    cases r1 with
    | cons a r =>
      cases r; cases a
      exact ⟨j, rfl, b1, b2, q _ _ μ1 G1 H1 a1 h1 walkD_range p⟩
theorem wpI_range2 (h : wpA W Z ta ρ μ fun ds μ1 => ∃ i j : Int, ds = [.int i, .int j] ∧ (-(2 ^ 62) ≤ i ∧ i < 2 ^ 62 ∧ -(2 ^ 62) ≤ j ∧ j < 2 ^ 62) ∧ P (rngD i (j - i).toNat) μ1) : wpI W Z (iRng2 ta) ρ μ P := fun σ G H e ho z R q =>
  h σ G H e ho z _ fun vs ds μ1 G1 H1 a1 h1 r1 p1 => by
    obtain ⟨i, j, rfl, b, p⟩ := p1
    cases r1 with
    | cons a r =>
      cases r with
      | cons b' r =>
        cases r; cases a; cases b'
        exact ⟨i, j, rfl, b, q _ _ μ1 G1 H1 a1 h1 walkD_range p⟩
/-- a text's signs -/
def signs (z : Str) : List D := z.cps.toList.map fun c => D.str ⟨#[c]⟩
theorem walkD_str {G : Hp} {z : Str} : WalkD (Its z) G (signs z) := by
  have hl : (signs z).length = z.cps.size := by unfold signs; rw [List.length_map, Array.length_toList]
  refine ⟨fun _ => True, _, by rw [hl]; exact walk_str, fun _ _ => trivial, fun i H v H' μ G1 hi e ho y => ?_⟩
  obtain ⟨rfl, c, hc, rfl⟩ := y
  refine ⟨G1, .str ⟨#[c]⟩, Ex.refl _, ho, Ex.refl _, ?_, .str _⟩
  unfold signs
  rw [List.getElem?_map, Array.getElem?_toList, hc]
  rfl
theorem wpI_str (h : wp W Z te ρ μ fun d μ1 => ∃ z, d = .str z ∧ P (signs z) μ1) : wpI W Z (iStr te) ρ μ P := fun σ G H e ho z R q =>
  h σ G H e ho z _ fun v d μ1 G1 H1 a1 h1 r1 p1 => by
    obtain ⟨x, rfl, p⟩ := p1
    cases r1
    exact ⟨x, rfl, q _ _ μ1 G1 H1 a1 h1 walkD_str p⟩
/-- pairs made on the way -/
theorem walkD_pair {J : It} {G : Hp} {vs ws : Nat → Option V} {xs : List D} {Gd : Hp → Prop} (w : Walk J xs.length Gd (YPair vs ws)) (hG : ∀ H, Ex G H → Gd H)
    (h : ∀ i v w, i < xs.length → vs i = some v → ws i = some w → ∃ x y, xs[i]? = some (.tup [x, y]) ∧ Rep G v x ∧ Rep G w y) : WalkD J G xs := by
  refine ⟨Gd, _, w, hG, fun i H v H' μ G1 hi e ho y => ?_⟩
  obtain ⟨T, x, y, rfl, hT, rfl, e1, e2⟩ := y
  obtain ⟨dx, dy, ed, rx, ry⟩ := h i x y hi e1 e2
  obtain ⟨a, h2⟩ := ho.newD (o := .tup [x, y]) hT
  exact ⟨_, _, a, h2, Ex.new hT, ed, .tup upd_same (.cons (rx.mono (e.trans a)) (.cons (ry.mono (e.trans a)) .nil))⟩
def pairs (xs ys : List D) : List D := (xs.zip ys).map fun p => D.tup [p.1, p.2]
theorem pairs_len (xs ys : List D) : (pairs xs ys).length = min xs.length ys.length := by unfold pairs; rw [List.length_map, List.length_zip]
theorem pairs_get {xs ys : List D} {i : Nat} {x y : D} (hx : xs[i]? = some x) (hy : ys[i]? = some y) : (pairs xs ys)[i]? = some (.tup [x, y]) := by
  unfold pairs
  rw [List.getElem?_map, (List.getElem?_zip_eq_some (z := (x, y))).mpr ⟨hx, hy⟩]
  rfl
def enumD (xs : List D) : List D := xs.zipIdx.map fun p => D.tup [.int (p.2 : Nat), p.1]
theorem enumD_len (xs : List D) : (enumD xs).length = xs.length := by unfold enumD; rw [List.length_map, List.length_zipIdx]
theorem enumD_get {xs : List D} {i : Nat} {x : D} (hx : xs[i]? = some x) : (enumD xs)[i]? = some (.tup [.int (i : Nat), x]) := by
  unfold enumD
  rw [List.getElem?_map, List.getElem?_zipIdx, hx]
  simp
theorem walkD_zipL {G : Hp} {a b : Addr} {vs ws : List V} {xs ys : List D} (ha : G a = some (.lst vs)) (hb : G b = some (.lst ws)) (r : Reps G vs xs) (s : Reps G ws ys) : WalkD (Itz K a b) G (pairs xs ys) := by
  refine walkD_pair (walk_zip (xs := vs) (ys := ws) (by rw [pairs_len, r.length, s.length])) (fun H e => ⟨SqL.of (e _ _ ha), SqL.of (e _ _ hb)⟩) fun i v w hi hv hw => ?_
  obtain ⟨x, hx, rx⟩ := r.get' hv
  obtain ⟨y, hy, ry⟩ := s.get' hw
  exact ⟨x, y, pairs_get hx hy, rx, ry⟩
theorem walkD_enum {G : Hp} {a : Addr} {vs : List V} {xs : List D} (ha : G a = some (.lst vs)) (r : Reps G vs xs) : WalkD (Ite K a) G (enumD xs) := by
  refine walkD_pair (Gd := fun H => SqL K H a vs) (by rw [enumD_len, ← r.length]; exact walk_enum) (fun H e => SqL.of (e _ _ ha)) fun i v w hi hv hw => ?_
  obtain ⟨y, hy, ry⟩ := r.get' hw
  cases hv
  exact ⟨_, y, enumD_get hy, .int _, ry⟩
theorem wpI_enum (h : wpA W Z ta ρ μ fun ds μ1 => ∃ xs, ds = [.lst xs] ∧ P (enumD xs) μ1) : wpI W Z (iEnum K ta) ρ μ P := fun σ G H e ho z R q =>
  h σ G H e ho z _ fun vs ds μ1 G1 H1 a1 h1 r1 p1 => by
    obtain ⟨xs, rfl, p⟩ := p1
    cases r1 with
    | cons a r =>
      cases r
      cases a with
      | lst a s => exact ⟨_, _, rfl, SqL.of (h1.ex _ _ a), q _ _ μ1 G1 H1 a1 h1 (walkD_enum a s) p⟩

/-! ### targets -/
theorem wipe_get (σ : L2.St) (k : Nat) : ∀ vs : List Nat, (wipe σ vs)[k]? = if k ∈ vs ∧ k < σ.length then some none else σ[k]?
  | [] => by
    unfold wipe
    rw [if_neg (by simp)]
  | v :: vs => by
    unfold wipe
    by_cases h : v = k
    · subst h
      by_cases hl : v < σ.length
      · rw [List.getElem?_set_self (by rw [wipe_length]; exact hl), if_pos ⟨by simp, hl⟩]
      · rw [List.getElem?_eq_none (by rw [List.length_set, wipe_length]; omega), if_neg (by omega), List.getElem?_eq_none (by omega)]
    · rw [List.getElem?_set_ne h, wipe_get σ k vs]
      by_cases hk : k ∈ vs ∧ k < σ.length
      · rw [if_pos hk, if_pos ⟨by simp [hk.1], hk.2⟩]
      · rw [if_neg hk, if_neg (by
          intro q
          rcases List.mem_cons.mp q.1 with e | e
          · exact h e.symm
          · exact hk ⟨e, q.2⟩)]
theorem wipe_set {σ : L2.St} {i : Nat} {x : Option V} {vs : List Nat} (h : i ∈ vs) : wipe (σ.set i x) vs = wipe σ vs := by
  apply List.ext_getElem?
  intro k
  rw [wipe_get, wipe_get, List.length_set]
  by_cases hk : k ∈ vs ∧ k < σ.length
  · rw [if_pos hk, if_pos hk]
  · rw [if_neg hk, if_neg hk]
    by_cases e : i = k
    · subst e
      have : ¬ i < σ.length := fun q => hk ⟨h, q⟩
      rw [List.getElem?_eq_none (by rw [List.length_set]; omega), List.getElem?_eq_none (by omega)]
    · rw [List.getElem?_set_ne e]
theorem wipe_wipe (σ : L2.St) (vs : List Nat) : wipe (wipe σ vs) vs = wipe σ vs := by
  apply List.ext_getElem?
  intro k
  rw [wipe_get, wipe_length, wipe_get]
  by_cases hk : k ∈ vs ∧ k < σ.length
  · rw [if_pos hk, if_pos hk]
  · rw [if_neg hk, if_neg hk]
/-- the target g takes the data d: the slots is are set -/
def wpG (g : TG) (is : List Nat) (d : D) (ρ ρ' : Rho) : Prop := ∀ σ G H v, Env G σ ρ → Ex G H → Rep G v d → ∀ Q : L2.St → Hp → Prop, (∀ σ', Env G σ' ρ' → (∀ vs : List Nat, (∀ i ∈ is, i ∈ vs) → wipe σ' vs = wipe σ vs) → Q σ' H) → g v σ H Q
theorem wpG_name {i : Nat} {d : D} : wpG (gName i) [i] d ρ (ρ.set i (some d)) := fun σ G H v e ex r Q q => q _ (e.set i r) fun vs h => wipe_set (h i List.mem_cons_self)
theorem wpG_pair {i j : Nat} {x y : D} : wpG (gTup K 2 (gCons (gName i) (gCons (gName j) gNil))) [i, j] (.tup [x, y]) ρ ((ρ.set i (some x)).set j (some y)) := fun σ G H v e ex r Q q => by
  cases r with
  | tup a s =>
    cases s with
    | cons r1 s =>
      cases s with
      | cons r2 s =>
        cases s
        refine ⟨_, _, rfl, SqT.of (ex _ _ a), rfl, _, _, rfl, _, _, rfl, rfl, ?_⟩
        exact q _ ((e.set i r1).set j r2) fun vs h => by rw [wipe_set (h j (by simp)), wipe_set (h i (by simp))]
theorem wpG_three {i j k : Nat} {x y z : D} : wpG (gTup K 3 (gCons (gName i) (gCons (gName j) (gCons (gName k) gNil)))) [i, j, k] (.tup [x, y, z]) ρ (((ρ.set i (some x)).set j (some y)).set k (some z)) := fun σ G H v e ex r Q q => by
  cases r with
  | tup a s =>
    cases s with
    | cons r1 s =>
      cases s with
      | cons r2 s =>
        cases s with
        | cons r3 s =>
          cases s
          refine ⟨_, _, rfl, SqT.of (ex _ _ a), rfl, _, _, rfl, _, _, rfl, _, _, rfl, rfl, ?_⟩
          exact q _ (((e.set i r1).set j r2).set k r3) fun vs h => by rw [wipe_set (h k (by simp)), wipe_set (h j (by simp)), wipe_set (h i (by simp))]
end

/-! ### comprehensions -/
section
variable {W : WX} {Z : XP} {ρ : Rho} {μ : M} {P : D → M → Prop} {K : PySem.W.Frag} {te : TE} {tt : TT} {wi : TI} {g : TG} {vs : List Nat}
/-- by an invariant over (turn, the data made so far, what may change); p: the list that is being made -/
theorem wp_lcM (h : wpI W Z wi ρ μ fun xs μ1 => xs.length ≤ 1000000 ∧ ∃ Inv : Nat → List D → M → Prop, Inv 0 [] μ1 ∧
    (∀ i x acc μ2 p m, xs[i]? = some x → Inv i acc μ2 → μ2 p = none → ∃ is ρ', (∀ j ∈ is, j ∈ vs) ∧ wpG g is x (wipeD ρ vs) ρ' ∧
      wpT W Z tt ρ' (updM μ2 p m) fun b μ3 => (b = true → wp W Z te ρ' μ3 fun y μ4 => ∃ μ5, μ5 p = none ∧ μ4 = updM μ5 p m ∧ Inv (i + 1) (acc ++ [y]) μ5) ∧ (b = false → ∃ μ5, μ5 p = none ∧ μ3 = updM μ5 p m ∧ Inv (i + 1) acc μ5)) ∧
    ∀ acc μ2 p, Inv xs.length acc μ2 → μ2 p = none → P (.cell p) (updM μ2 p (.lst acc))) : wp W Z (tLc wi g tt te vs) ρ μ P := fun σ G H e ho z Q q =>
  h σ G H e ho z _ fun J xs μ1 G1 H1 a1 h1 w p1 => by
    obtain ⟨hz, Inv, i0, hs, hd⟩ := p1
    intro Dl hDl
    obtain ⟨Gd, Y, wk, hGd, hY⟩ := w
    refine lc_it wk (fun i H' => ∃ μ2 G2 av acc, Ex G1 G2 ∧ Hold (updM μ2 Dl (.raw (.lst av))) G2 H' ∧ μ2 Dl = none ∧ Reps G2 av acc ∧ acc.length ≤ i ∧ Inv i acc μ2) ?_ ?_ ?_ ?_
    · exact ⟨μ1, G1, [], [], Ex.refl _, h1.newM hDl (.raw _), (h1.fresh hDl).2, .nil, Nat.le_refl _, i0⟩
    · rintro i H' _ ⟨μ2, G2, av, acc, x1, h2, _⟩
      exact hGd H' (x1.trans h2.ex)
    · rintro i v Hc Hn hi ⟨μ2, G2, av, acc, x1, h2, n2, ra, la, inv⟩ y
      obtain ⟨G3, x, x2, h3, eh, ex, rx⟩ := hY i Hc v Hn _ G2 hi x1 h2 y
      obtain ⟨is, ρ', his, hg, ht⟩ := hs i x acc μ2 Dl (.raw (.lst av)) ex inv n2
      refine hg _ G3 Hn v (((e.mono a1).mono (x1.trans x2)).wipe vs) h3.ex rx _ fun σ' e' hw => ⟨by rw [hw vs his, wipe_wipe], ?_⟩
      refine ht σ' G3 Hn e' h3 (z.mono (a1.trans (x1.trans x2))) _ fun b μ3 G4 H4 a4 h4 pb => ?_
      cases b with
      | true =>
        rw [if_pos rfl]
        refine pb.1 rfl σ' G4 H4 (e'.mono a4) h4 (z.mono ((a1.trans (x1.trans x2)).trans a4)) _ fun vy y μ4 G5 H5 a5 h5 ry p5 => ?_
        obtain ⟨μ5, n5, rfl, inv'⟩ := p5
        obtain ⟨g5, o5, e5, m5⟩ := h5.mu Dl _ updM_same
        cases m5
        refine ⟨av, e5, Nat.lt_of_lt_of_le (show av.length < 1000001 by rw [ra.length]; omega) (by decide), μ5, G5, av ++ [vy], acc ++ [y], ((x1.trans x2).trans a4).trans a5, ?_, n5, (ra.mono ((x2.trans a4).trans a5)).append (.one ry), ?_, inv'⟩
        · have := h5.write (p := Dl) (o := .lst (av ++ [vy])) (m := .raw (.lst (av ++ [vy]))) updM_same (.raw _)
          rw [updM_updM] at this
          exact this
        · rw [List.length_append]
          exact Nat.succ_le_succ la
      | false =>
        rw [if_neg (by decide)]
        obtain ⟨μ5, n5, rfl, inv'⟩ := pb.2 rfl
        exact ⟨μ5, G4, av, acc, (x1.trans x2).trans a4, h4, n5, ra.mono (x2.trans a4), Nat.le_succ_of_le la, inv'⟩
    · rintro H' ⟨μ2, G2, av, acc, x1, h2, n2, ra, la, inv⟩
      refine q _ _ _ G2 H' (a1.trans x1) ?_ (.cell Dl) (hd acc μ2 Dl inv n2)
      refine ⟨h2.ex, fun a m em => ?_⟩
      by_cases ha : a = Dl
      · subst ha
        rw [updM_same] at em; cases em
        obtain ⟨g5, o5, e5, m5⟩ := h2.mu a _ updM_same
        cases m5
        exact ⟨g5, _, e5, .lst ra⟩
      · rw [updM_ne ha] at em
        exact h2.mu a m (by rw [updM_ne ha]; exact em)
/-- the list made is data -/
theorem wp_lcD (h : wpI W Z wi ρ μ fun xs μ1 => xs.length ≤ 1000000 ∧ ∃ Inv : Nat → List D → M → Prop, Inv 0 [] μ1 ∧
    (∀ i x acc μ2 p m, xs[i]? = some x → Inv i acc μ2 → μ2 p = none → ∃ is ρ', (∀ j ∈ is, j ∈ vs) ∧ wpG g is x (wipeD ρ vs) ρ' ∧
      wpT W Z tt ρ' (updM μ2 p m) fun b μ3 => (b = true → wp W Z te ρ' μ3 fun y μ4 => ∃ μ5, μ5 p = none ∧ μ4 = updM μ5 p m ∧ Inv (i + 1) (acc ++ [y]) μ5) ∧ (b = false → ∃ μ5, μ5 p = none ∧ μ3 = updM μ5 p m ∧ Inv (i + 1) acc μ5)) ∧
    ∀ acc μ2, Inv xs.length acc μ2 → P (.lst acc) μ2) : wp W Z (tLc wi g tt te vs) ρ μ P :=
  wp_freezeL (wp_lcM fun σ G H e ho z R q => h σ G H e ho z R fun J xs μ1 G1 H1 a1 h1 w p => by
    obtain ⟨hz, Inv, i0, hs, hd⟩ := p
    exact q J xs μ1 G1 H1 a1 h1 w ⟨hz, Inv, i0, hs, fun acc μ2 p inv n => ⟨p, acc, rfl, updM_same, by rw [delM_updM n]; exact hd acc μ2 inv⟩⟩)
/-- nothing is changed, the items told by α -/
theorem wp_lcP {α : Type} (ys : List α) (enc : α → D) (is : List Nat) (ρ' : α → Rho) (b : α → Bool) (f : α → D) (his : ∀ j ∈ is, j ∈ vs)
    (hg : ∀ y ∈ ys, wpG g is (enc y) (wipeD ρ vs) (ρ' y)) (ht : ∀ y ∈ ys, ∀ μ2, wpT W Z tt (ρ' y) μ2 fun c μ3 => c = b y ∧ μ3 = μ2)
    (he : ∀ y ∈ ys, b y = true → ∀ μ2, wp W Z te (ρ' y) μ2 fun d μ3 => d = f y ∧ μ3 = μ2)
    (h : wpI W Z wi ρ μ fun xs μ1 => xs = ys.map enc ∧ ys.length ≤ 1000000 ∧ P (.lst ((ys.filter b).map f)) μ1) : wp W Z (tLc wi g tt te vs) ρ μ P :=
  wp_lcD fun σ G H e ho z R q => h σ G H e ho z R fun J xs μ1 G1 H1 a1 h1 w p => by
    obtain ⟨rfl, hz, p⟩ := p
    refine q J _ μ1 G1 H1 a1 h1 w ⟨by rw [List.length_map]; exact hz, fun i acc μ2 => acc = ((ys.take i).filter b).map f ∧ μ2 = μ1, ⟨rfl, rfl⟩, ?_, ?_⟩
    · rintro i x acc μ2 p' m hx ⟨rfl, rfl⟩ hp
      rw [List.getElem?_map] at hx
      cases hy : ys[i]? with
      | none => rw [hy] at hx; cases hx
      | some y =>
        rw [hy] at hx
        cases hx
        have hm : y ∈ ys := List.mem_of_getElem? hy
        refine ⟨is, ρ' y, his, hg y hm, wpT_mono (ht y hm _) ?_⟩
        rintro c μ3 ⟨rfl, rfl⟩
        have hts : ys.take (i + 1) = ys.take i ++ [y] := by rw [List.take_add_one, hy]; rfl
        refine ⟨fun hb => wp_mono (he y hm hb _) ?_, fun hb => ⟨μ2, hp, rfl, ?_, rfl⟩⟩
        · rintro d μ4 ⟨rfl, rfl⟩
          refine ⟨μ2, hp, rfl, ?_, rfl⟩
          rw [hts, List.filter_append, List.map_append, List.filter_cons, if_pos hb]
          rfl
        · rw [hts, List.filter_append, List.map_append, List.filter_cons, if_neg (by rw [hb]; decide)]
          simp
    · rintro acc μ2 ⟨rfl, rfl⟩
      rw [List.length_map, List.take_of_length_le (Nat.le_refl _)]
      exact p
/-- .. without tests -/
theorem wp_lcF {α : Type} (ys : List α) (enc : α → D) (is : List Nat) (ρ' : α → Rho) (f : α → D) (his : ∀ j ∈ is, j ∈ vs)
    (hg : ∀ y ∈ ys, wpG g is (enc y) (wipeD ρ vs) (ρ' y))
    (he : ∀ y ∈ ys, ∀ μ2, wp W Z te (ρ' y) μ2 fun d μ3 => d = f y ∧ μ3 = μ2)
    (h : wpI W Z wi ρ μ fun xs μ1 => xs = ys.map enc ∧ ys.length ≤ 1000000 ∧ P (.lst (ys.map f)) μ1) : wp W Z (tLc wi g tYes te vs) ρ μ P :=
  wp_lcP ys enc is ρ' (fun _ => true) f his hg (fun _ _ _ => wpT_yes ⟨rfl, rfl⟩) (fun y hy _ => he y hy) (fun σ G H e ho z R q => h σ G H e ho z R fun J xs μ1 G1 H1 a1 h1 w p =>
    q J xs μ1 G1 H1 a1 h1 w ⟨p.1, p.2.1, by rw [List.filter_eq_self.mpr (fun _ _ => rfl)]; exact p.2.2⟩)

/-! ### statements -/
variable {F : Fin} {t u : TS} {tc : TT} {to ti : TE} {ta : TA}
theorem wpS_seq (h : wpS W Z t ρ μ { F with nx := fun ρ' μ' => wpS W Z u ρ' μ' F }) : wpS W Z (tSeq t u) ρ μ F := fun σ G H e ho z E k =>
  h σ G H e ho z _ ⟨fun ρ' μ' σ' G' H' a e' h' p => p σ' G' H' e' h' (z.mono a) E (k.mono a), k.rt, k.bk, k.ct⟩
theorem wpS_next (h : F.nx ρ μ) : wpS W Z tNext ρ μ F := fun σ G H e ho z E k => k.nx ρ μ σ G H (Ex.refl G) e ho h
theorem wpS_break (h : F.bk ρ μ) : wpS W Z tBreak ρ μ F := fun σ G H e ho z E k => k.bk ρ μ σ G H (Ex.refl G) e ho h
theorem wpS_cont (h : F.ct ρ μ) : wpS W Z tCont ρ μ F := fun σ G H e ho z E k => k.ct ρ μ σ G H (Ex.refl G) e ho h
theorem wpS_ret (h : wp W Z te ρ μ F.rt) : wpS W Z (tRet te) ρ μ F := fun σ G H e ho z E k => h σ G H e ho z E.rt fun v d μ' G' H' a h' r p => k.rt v d μ' G' H' a h' r p
theorem wpS_retN (h : F.rt .non μ) : wpS W Z tRetN ρ μ F := fun σ G H e ho z E k => k.rt _ _ μ G H (Ex.refl G) ho .non h
theorem wpS_drop (h : wp W Z te ρ μ fun _ μ' => F.nx ρ μ') : wpS W Z (tDrop te) ρ μ F := fun σ G H e ho z E k => h σ G H e ho z _ fun v d μ' G' H' a h' r p => k.nx ρ μ' σ G' H' a (e.mono a) h' p
theorem wpS_asg (h : wp W Z te ρ μ fun d μ' => ∃ is ρ', wpG g is d ρ ρ' ∧ F.nx ρ' μ') : wpS W Z (tAsg te g) ρ μ F := fun σ G H e ho z E k =>
  h σ G H e ho z _ fun v d μ' G' H' a h' r p => by
    obtain ⟨is, ρ', hg, p⟩ := p
    exact hg σ G' H' v (e.mono a) h'.ex r _ fun σ' e' _ => k.nx ρ' μ' σ' G' H' a e' h' p
theorem wpS_set {i : Nat} (h : wp W Z te ρ μ fun d μ' => F.nx (ρ.set i (some d)) μ') : wpS W Z (tAsg te (gName i)) ρ μ F := wpS_asg (wp_mono h fun d μ' p => ⟨[i], _, wpG_name, p⟩)
theorem wpS_if {t u : TS} (h : wpT W Z tc ρ μ fun b μ' => (b = true → wpS W Z t ρ μ' F) ∧ (b = false → wpS W Z u ρ μ' F)) : wpS W Z (tIfS tc t u) ρ μ F := fun σ G H e ho z E k =>
  h σ G H e ho z _ fun b μ' G' H' a h' p => by
    cases b with
    | true => rw [if_pos rfl]; exact p.1 rfl σ G' H' (e.mono a) h' (z.mono a) E (k.mono a)
    | false => rw [if_neg (by decide)]; exact p.2 rfl σ G' H' (e.mono a) h' (z.mono a) E (k.mono a)
theorem wpS_par {i j : Nat} (h : wpA W Z ta ρ μ fun ds μ' => ∃ x y, ds = [x, y] ∧ F.nx ((ρ.set i (some x)).set j (some y)) μ') : wpS W Z (tPar i j ta) ρ μ F := fun σ G H e ho z E k =>
  h σ G H e ho z _ fun vs ds μ' G' H' a h' r p => by
    obtain ⟨x, y, rfl, p⟩ := p
    cases r with
    | cons r1 r =>
      cases r with
      | cons r2 r =>
        cases r
        exact ⟨_, _, rfl, k.nx _ μ' _ G' H' a (((e.mono a).set i r1).set j r2) h' p⟩
/-- xs[i] = e, a list that may change -/
theorem wpS_setI (h : wp W Z te ρ μ fun d μ1 => wp W Z to ρ μ1 fun o μ2 => wp W Z ti ρ μ2 fun j μ3 => ∃ a i n ds, o = .cell a ∧ j = .int i ∧ μ3 a = some (.lst ds) ∧ ixN ds.length i = some n ∧ F.nx ρ (updM μ3 a (.lst (ds.set n d)))) :
    wpS W Z (tAsg te (gSub to ti rSetL)) ρ μ F := fun σ G H e ho z E k =>
  h σ G H e ho z _ fun v d μ1 G1 H1 a1 h1 r1 p1 => p1 σ G1 H1 (e.mono a1) h1 (z.mono a1) _ fun vo o μ2 G2 H2 a2 h2 r2 p2 => p2 σ G2 H2 (e.mono (a1.trans a2)) h2 (z.mono (a1.trans a2)) _ fun vj j μ3 G3 H3 a3 h3 r3 p3 => by
    obtain ⟨a, i, n, ds, rfl, rfl, m, hn, p⟩ := p3
    cases r3
    cases r2
    obtain ⟨g0, o, eo, mr⟩ := h3.mu a _ m
    cases mr with
    | lst s =>
      refine ⟨_, _, _, n, rfl, rfl, eo, by rw [s.length]; exact hn, k.nx ρ _ σ G3 _ ((a1.trans a2).trans a3) (e.mono ((a1.trans a2).trans a3)) (h3.write m (.lst (s.set n (r1.mono (a2.trans a3))))) p⟩
/-- xs.append(e), a list that may change -/
theorem wpS_app (h : wp W Z to ρ μ fun o μ1 => ∃ a, o = .cell a ∧ (∃ ds, μ1 a = some (.lst ds)) ∧ wp W Z te ρ μ1 fun d μ2 => ∃ ds, μ2 a = some (.lst ds) ∧ ds.length < 1000000 ∧ F.nx ρ (updM μ2 a (.lst (ds ++ [d])))) :
    wpS W Z (tDrop (tBM K "list" rAppend to (tCons te tNil))) ρ μ F := fun σ G H e ho z E k =>
  h σ G H e ho z _ fun v o μ1 G1 H1 a1 h1 r1 p1 => by
    obtain ⟨a, rfl, ⟨ds0, m0⟩, p⟩ := p1
    cases r1
    obtain ⟨_, o0, e0, mr0⟩ := h1.mu a _ m0
    cases mr0 with
    | lst s0 =>
      refine ⟨.inl ⟨rfl, _, SqL.of e0⟩, ?_⟩
      refine p σ G1 H1 (e.mono a1) h1 (z.mono a1) _ fun vd d μ2 G2 H2 a2 h2 r2 p2 => ?_
      obtain ⟨ds, m, hz, p⟩ := p2
      obtain ⟨_, o1, e1, mr⟩ := h2.mu a _ m
      cases mr with
      | lst s =>
        exact ⟨_, _, _, rfl, rfl, e1, Nat.lt_of_lt_of_le (by rw [s.length]; exact hz) (by decide), k.nx ρ _ σ G2 _ (a1.trans a2) (e.mono (a1.trans a2)) (h2.write m (.lst (s.append (.one r2)))) p⟩
/-- a slot's list is data from now on -/
theorem wpS_frz {i : Nat} {a : Addr} {ds : List D} (h1 : ρ[i]? = some (some (.cell a))) (h2 : μ a = some (.lst ds)) (h : wpS W Z t (ρ.set i (some (.lst ds))) (delM μ a) F) : wpS W Z t ρ μ F := fun σ G H e ho z E k => by
  obtain ⟨g, o, eo, mr⟩ := ho.mu a _ h2
  obtain ⟨v, hv, rv⟩ := e.at' i _ h1
  cases rv
  cases mr with
  | lst s =>
    obtain ⟨x, h3⟩ := ho.freeze h2 eo
    have e2 := (e.mono x).set i (Rep.lst upd_same (s.mono x))
    rw [show σ.set i (some (V.ref a)) = σ from by
      apply List.ext_getElem?
      intro j
      by_cases hj : i = j
      · subst hj
        have hl : i < σ.length := (List.getElem?_eq_some_iff.mp hv).1
        rw [List.getElem?_set_self hl, hv]
      · rw [List.getElem?_set_ne hj]] at e2
    exact h σ _ H e2 h3 (z.mono x) E (k.mono x)
theorem wpS_for {tb : TS} (h : wpI W Z wi ρ μ fun xs μ1 => ∃ Inv : Nat → Rho → M → Prop, Inv 0 ρ μ1 ∧
    (∀ i x ρi μi, xs[i]? = some x → Inv i ρi μi → ∃ is ρ', wpG g is x ρi ρ' ∧ wpS W Z tb ρ' μi { F with nx := Inv (i + 1), ct := Inv (i + 1), bk := F.nx }) ∧ ∀ ρn μn, Inv xs.length ρn μn → F.nx ρn μn) : wpS W Z (tFor wi g tb) ρ μ F := fun σ G H e ho z E k =>
  h σ G H e ho z _ fun J xs μ1 G1 H1 a1 h1 w p1 => by
    obtain ⟨Inv, i0, hs, hd⟩ := p1
    obtain ⟨Gd, Y, wk, hGd, hY⟩ := w
    refine for_it wk (fun i σ' H' => ∃ ρi μi Gi, Ex G1 Gi ∧ Env Gi σ' ρi ∧ Hold μi Gi H' ∧ Inv i ρi μi) ⟨ρ, μ1, G1, Ex.refl _, e.mono a1, h1, i0⟩ ?_ ?_ ?_
    · rintro i σ' H' _ ⟨ρi, μi, Gi, x, _, h2, _⟩
      exact hGd H' (x.trans h2.ex)
    · rintro i v σ' Hc Hn hi ⟨ρi, μi, Gi, x1, e1, h2, inv⟩ y
      obtain ⟨G3, x, x2, h3, eh, ex, rx⟩ := hY i Hc v Hn _ Gi hi x1 h2 y
      obtain ⟨is, ρ', hg, hb⟩ := hs i x ρi μi ex inv
      refine hg _ G3 Hn v (e1.mono x2) h3.ex rx _ fun σ2 e2 _ => ?_
      have ak := a1.trans (x1.trans x2)
      refine hb σ2 G3 Hn e2 h3 (z.mono ak) _ ⟨fun ρ μ σ4 G4 H4 a4 e4 h4 p => ⟨ρ, μ, G4, (x1.trans x2).trans a4, e4, h4, p⟩, (k.mono ak).rt, (k.mono ak).nx, fun ρ μ σ4 G4 H4 a4 e4 h4 p => ⟨ρ, μ, G4, (x1.trans x2).trans a4, e4, h4, p⟩⟩
    · rintro σ' H' ⟨ρi, μi, Gi, x1, e1, h2, inv⟩
      exact k.nx ρi μi σ' Gi H' (a1.trans x1) e1 h2 (hd ρi μi inv)
theorem wpS_while {tb : TS} (Inv : Nat → Rho → M → Prop) (m0 : Nat) (i0 : Inv m0 ρ μ)
    (hs : ∀ m ρi μi, Inv m ρi μi → wpT W Z tc ρi μi fun b μ1 => (b = true → wpS W Z tb ρi μ1 { F with nx := fun ρ' μ' => ∃ m', m' < m ∧ Inv m' ρ' μ', ct := fun ρ' μ' => ∃ m', m' < m ∧ Inv m' ρ' μ', bk := F.nx }) ∧ (b = false → F.nx ρi μ1)) : wpS W Z (tWhile tc tb) ρ μ F := fun σ G H e ho z E k => by
  refine ⟨fun m σ' H' => ∃ ρi μi Gi, Ex G Gi ∧ Env Gi σ' ρi ∧ Hold μi Gi H' ∧ Inv m ρi μi, ⟨m0, ρ, μ, G, Ex.refl _, e, ho, i0⟩, ?_⟩
  rintro m σ' H' ⟨ρi, μi, Gi, x1, e1, h2, inv⟩
  refine hs m ρi μi inv σ' Gi H' e1 h2 (z.mono x1) _ fun b μ1 G1 H1 a1 h1 p => ?_
  have ak := x1.trans a1
  cases b with
  | true =>
    rw [if_pos rfl]
    refine ⟨fun σ2 H2 => ∃ m', m' < m ∧ ∃ ρi μi Gi, Ex G Gi ∧ Env Gi σ2 ρi ∧ Hold μi Gi H2 ∧ Inv m' ρi μi, fun σ2 H2 q => q, ?_⟩
    refine p.1 rfl σ' G1 H1 (e1.mono a1) h1 (z.mono ak) _ ⟨?_, (k.mono ak).rt, (k.mono ak).nx, ?_⟩
    · rintro ρ μ σ4 G4 H4 a4 e4 h4 ⟨m', hm, q⟩
      exact ⟨m', hm, ρ, μ, G4, ak.trans a4, e4, h4, q⟩
    · rintro ρ μ σ4 G4 H4 a4 e4 h4 ⟨m', hm, q⟩
      exact ⟨m', hm, ρ, μ, G4, ak.trans a4, e4, h4, q⟩
  | false =>
    rw [if_neg (by decide)]
    exact k.nx ρi μ1 σ' G1 H1 ak (e1.mono a1) h1 (p.2 rfl)

/-! ### attributes -/
theorem wp_fld {f : Str} {C : Addr} (c : Cls K C) (n : NoAttr K C f) (h : wp W Z te ρ μ fun d μ1 => ∃ fs v, d = .obj C fs ∧ fs.lookup f = some v ∧ P v μ1) : wp W Z (tFld K te f) ρ μ P := fun σ G H e ho z Q q =>
  h σ G H e ho z _ fun v d μ1 G1 H1 a1 h1 r1 p1 => by
    obtain ⟨fs, v, rfl, l, p⟩ := p1
    cases r1 with
    | obj a s =>
      obtain ⟨w, lw, rw'⟩ := s.lookup l
      exact ⟨_, _, _, _, w, rfl, h1.ex _ _ a, c, n, lw, q w v μ1 G1 H1 a1 h1 rw' p⟩
theorem wp_fldM {f : Str} {C : Addr} (c : Cls K C) (n : NoAttr K C f) (h : wp W Z te ρ μ fun d μ1 => ∃ a dx fs v, d = .cell a ∧ μ1 a = some (.ins C dx fs) ∧ fs.lookup f = some v ∧ P v μ1) : wp W Z (tFld K te f) ρ μ P := fun σ G H e ho z Q q =>
  h σ G H e ho z _ fun v d μ1 G1 H1 a1 h1 r1 p1 => by
    obtain ⟨a, dx, fs, v, rfl, m, l, p⟩ := p1
    cases r1
    obtain ⟨_, o, eo, mr⟩ := h1.mu a _ m
    cases mr with
    | ins s =>
      obtain ⟨w, lw, rw'⟩ := s.lookup l
      exact ⟨_, _, _, _, w, rfl, eo, c, n, lw, q w v μ1 G1 H1 a1 h1 rw' p⟩
theorem wpS_fld {f : Str} {C : Addr} (c : Cls K C) (n : NoAttr K C f) (h : wp W Z te ρ μ fun d μ1 => wp W Z to ρ μ1 fun o μ2 => ∃ a dx fs, o = .cell a ∧ μ2 a = some (.ins C dx fs) ∧ fs.length < 1000 ∧ F.nx ρ (updM μ2 a (.ins C dx (putD f d fs)))) :
    wpS W Z (sFld K to te f) ρ μ F := fun σ G H e ho z E k =>
  h σ G H e ho z _ fun v d μ1 G1 H1 a1 h1 r1 p1 => p1 σ G1 H1 (e.mono a1) h1 (z.mono a1) _ fun vo o μ2 G2 H2 a2 h2 r2 p2 => by
    obtain ⟨a, dx, fs, rfl, m, hz, p⟩ := p2
    cases r2
    obtain ⟨_, o, eo, mr⟩ := h2.mu a _ m
    cases mr with
    | ins s =>
      exact ⟨_, _, _, _, rfl, eo, c, n, by rw [s.length]; exact hz, k.nx ρ _ σ G2 _ (a1.trans a2) (e.mono (a1.trans a2)) (h2.write m (.ins (Repf.put (r1.mono a2) s))) p⟩

/-! ### calls -/
/-- what a def does, by data: from the arguments, what may change, what is wished -/
abbrev DSp := List D → M → (D → M → Prop) → (XD → M → Prop) → Prop
def spOf (S : DSp) : Sp := fun vs H Q E => ∃ ds μ G P X, S ds μ P X ∧ Reps G vs ds ∧ Hold μ G H ∧ (∀ v d μ' G' H', Ex G G' → Hold μ' G' H' → Rep G' v d → P d μ' → Q v H') ∧
  ∀ cls dd x μ' G' H', Ex G G' → Hold μ' G' H' → XRep G' H' cls dd x → X x μ' → E cls dd H'
variable {S : DSp}
theorem wp_call {E : L2.St → XK} (hE : ∀ σ, E σ = WE W σ) (h : wpA W Z ta ρ μ fun ds μ1 => S ds μ1 P fun x μ2 => Z x ρ μ2) : wp W Z (tCallS (spOf S) E ta) ρ μ P := fun σ G H e ho z Q q =>
  h σ G H e ho z _ fun vs ds μ1 G1 H1 a1 h1 r1 p1 => ⟨ds, μ1, G1, P, _, p1, r1, h1, fun v d μ' G' H' a h' r p => q v d μ' G' H' (a1.trans a) h' r p, fun cls dd x μ' G' H' a h' r p => by
    rw [hE]
    exact z cls dd x ρ μ' σ G' H' (a1.trans a) (e.mono (a1.trans a)) h' r p⟩
/-- .. where nothing is let out -/
theorem wp_call0 {E : L2.St → XK} (h : wpA W Z ta ρ μ fun ds μ1 => S ds μ1 P fun _ _ => False) : wp W Z (tCallS (spOf S) E ta) ρ μ P := fun σ G H e ho z Q q =>
  h σ G H e ho z _ fun vs ds μ1 G1 H1 a1 h1 r1 p1 => ⟨ds, μ1, G1, P, _, p1, r1, h1, fun v d μ' G' H' a h' r p => q v d μ' G' H' (a1.trans a) h' r p, fun cls dd x μ' G' H' a h' r p => p.elim⟩
theorem wp_meth {E : XK} {C : Addr} {m : Str} (hE : ∀ σ cls dd H, E cls dd H → W cls dd σ H → True) (h : wp W Z to ρ μ fun o μ1 => ∃ a dx fs, o = .cell a ∧ μ1 a = some (.ins C dx fs) ∧ fs.lookup m = none ∧ wpA W Z ta ρ μ1 fun ds μ2 => S (.cell a :: ds) μ2 P fun _ _ => False) :
    wp W Z (tMeth C m (spOf S) [] E to ta) ρ μ P := fun σ G H e ho z Q q =>
  h σ G H e ho z _ fun v o μ1 G1 H1 a1 h1 r1 p1 => by
    obtain ⟨a, dx, fs, rfl, hm, hl, p⟩ := p1
    cases r1
    obtain ⟨_, o, eo, mr⟩ := h1.mu a _ hm
    cases mr with
    | ins s =>
      refine ⟨_, _, _, rfl, eo, s.none hl, ?_⟩
      refine p σ G1 H1 (e.mono a1) h1 (z.mono a1) _ fun vs ds μ2 G2 H2 a2 h2 r2 p2 => ?_
      rw [List.append_nil]
      exact ⟨.cell a :: ds, μ2, G2, P, _, p2, .cons (.cell a) r2, h2, fun v d μ' G' H' a h' r p => q v d μ' G' H' ((a1.trans a2).trans a) h' r p, fun cls dd x μ' G' H' a h' r p => p.elim⟩
/-- C(..): a new instance; where E lets out what W wishes (the frame's own wish, without slots) -/
theorem wp_make {E : XK} {C : Addr} (hE : ∀ σ cls dd H, W cls dd σ H → E cls dd H) (h : wpA W Z ta ρ μ fun ds μ1 => ∀ x dx, μ1 x = none → S (.cell x :: ds) (updM μ1 x (.ins C dx [])) (fun d μ2 => d = .non ∧ P (.cell x) μ2) fun e μ2 => Z e ρ μ2) :
    wp W Z (tMake C (spOf S) [] E ta) ρ μ P := fun σ G H e ho z Q q =>
  h σ G H e ho z _ fun vs ds μ1 G1 H1 a1 h1 r1 p1 x dx nx ndx nex => by
    have h2 : Hold μ1 G1 (upd H1 dx (.own x)) := h1.newX ndx
    have nx2 : (upd H1 dx (.own x)) x = none := by rw [upd_ne (fun z => nex z.symm)]; exact nx
    have h3 := h2.newM (o := .ins C dx []) (m := .ins C dx []) nx2 (.ins .nil)
    rw [List.append_nil]
    refine ⟨.cell x :: ds, _, G1, _, _, p1 x dx (h1.fresh nx).2, .cons (.cell x) r1, h3, ?_, ?_⟩
    · rintro v d μ' G' H' a h' r ⟨rfl, p⟩
      cases r
      exact ⟨rfl, q _ _ μ' G' H' (a1.trans a) h' (.cell x) p⟩
    · intro cls dd y μ' G' H' a h' r p
      exact hE σ cls dd H' (z cls dd y ρ μ' σ G' H' (a1.trans a) (e.mono (a1.trans a)) h' r p)
end
end SB

/-! SBd: rules for any kind of operand; defs. -/
namespace SB
open PySem PySem.Spec PyProof.Rows L2

section
variable {X : Cx} {K : PySem.W.Frag} {μ : M} {P : D → M → Prop}
/-! ### either of two rules -/
def orR (r r' : R2) : R2 := fun x y H Q => r x y H Q ∨ r' x y H Q
theorem r_l {r r' : R2} {x y : D} (h : rel2 r x y μ P) : rel2 (orR r r') x y μ P := fun vx vy G H a b c Q q => .inl (h vx vy G H a b c Q q)
theorem r_r {r r' : R2} {x y : D} (h : rel2 r' x y μ P) : rel2 (orR r r') x y μ P := fun vx vy G H a b c Q q => .inr (h vx vy G H a b c Q q)
def orC (r r' : List V → Hp → VK → Prop) : List V → Hp → VK → Prop := fun xs H Q => r xs H Q ∨ r' xs H Q
theorem rc_l {r r' : List V → Hp → VK → Prop} {xs : List D} (h : relC r xs μ P) : relC (orC r r') xs μ P := fun vs G H a b Q q => .inl (h vs G H a b Q q)
theorem rc_r {r r' : List V → Hp → VK → Prop} {xs : List D} (h : relC r' xs μ P) : relC (orC r r') xs μ P := fun vs G H a b Q q => .inr (h vs G H a b Q q)
/-! + -/
def rAddS : R2 := fun x y H Q => ∃ i j, x = .str i ∧ y = .str j ∧ i.length + j.length ≤ sizeLine ∧ Q (.str (i ++ j)) H
def rAddU (K : PySem.W.Frag) : R2 := orR (rI0 fun i j => .int (i + j)) (orR rCat (orR (rCatA K) rAddS))
theorem op_addU : OpR X (binaryOp .Add) (rAddU X.K) := op_add.or (op_cat.or (op_catA.or op_add_str))
theorem u_add {i j : Int} (p : P (.int (i + j)) μ) : rel2 (rAddU K) (.int i) (.int j) μ P := r_l (r_I0i p)
theorem u_cat {xs ys : List D} (hz : xs.length + ys.length ≤ sizeLine) (p : P (.lst (xs ++ ys)) μ) : rel2 (rAddU K) (.lst xs) (.lst ys) μ P := r_r (r_l (r_cat hz p))
theorem u_catT {xs ys : List D} (hz : xs.length + ys.length ≤ sizeLine) (p : P (.tup (xs ++ ys)) μ) : rel2 (rAddU K) (.tup xs) (.tup ys) μ P := r_r (r_r (r_l (r_catT hz p)))
theorem u_addS {a b : Str} (hz : a.length + b.length ≤ sizeLine) (p : P (.str (a ++ b)) μ) : rel2 (rAddU K) (.str a) (.str b) μ P := r_r (r_r (r_r (r_addS hz p)))
/-! * -/
def rMulU : R2 := orR (rI CMulW fun i j => .int (i * j)) (orR rRep (rI CMul fun i j => .int (i * j)))
theorem op_mulU : OpR X (binaryOp .Mult) rMulU := op_mulW.or (op_rep.or op_mul)
theorem u_mulS {i j : Int} (c : CMul i j) (p : P (.int (i * j)) μ) : rel2 rMulU (.int i) (.int j) μ P := r_r (r_r (r_I c p))
theorem u_mul {i j : Int} (c : CMulW i j) (p : P (.int (i * j)) μ) : rel2 rMulU (.int i) (.int j) μ P := r_l (r_I c p)
theorem u_rep {xs : List D} {k : Int} (h1 : -(2 ^ 63) ≤ k) (h2 : k < 2 ^ 63) (hz : xs.length * k.toNat ≤ sizeLine) (p : P (.lst (List.replicate k.toNat xs).flatten) μ) : rel2 rMulU (.lst xs) (.int k) μ P := r_r (r_l (r_rep h1 h2 hz p))
theorem u_sub {i j : Int} (p : P (.int (i - j)) μ) : rel2 (rI0 fun i j => .int (i - j)) (.int i) (.int j) μ P := r_I0i p
theorem u_mod {i j : Int} (c : j ≠ 0) (p : P (.int (i.fmod j)) μ) : rel2 (rI (fun _ j => j ≠ 0) fun i j => .int (i.fmod j)) (.int i) (.int j) μ P := r_I c p
theorem u_div {i j : Int} (c : CDivW i j) (p : P (.int (i / j)) μ) : rel2 (rI CDivW fun i j => .int (i / j)) (.int i) (.int j) μ P := r_I c p
theorem u_cmp {g : Int → Int → Bool} {i j : Int} (p : P (.bl (g i j)) μ) : rel2 (rI0 fun i j => .bl (g i j)) (.int i) (.int j) μ P := r_I0b p
/-! items -/
theorem u_ixL {xs : List D} {i : Int} {d : D} (e : atI xs i = some d) (p : P d μ) : rel2 (rIx K) (.lst xs) (.int i) μ P := fun vx vy G H a b c Q q => .inl (r_ixL e p vx vy G H a b c Q q)
theorem u_ixT {xs : List D} {i : Int} {d : D} (e : atI xs i = some d) (p : P d μ) : rel2 (rIx K) (.tup xs) (.int i) μ P := fun vx vy G H a b c Q q => .inr (.inl (r_ixT e p vx vy G H a b c Q q))
theorem u_ixM {a : Addr} {xs : List D} {i : Int} {d : D} (m : μ a = some (.lst xs)) (e : atI xs i = some d) (p : P d μ) : rel2 (rIx K) (.cell a) (.int i) μ P := fun vx vy G H a b c Q q => .inl (r_ixM m e p vx vy G H a b c Q q)
theorem u_ixS {z : Str} {i : Int} {c : Nat} (hz : z.length ≤ sizeLine) (e : atI z.cps.toList i = some c) (p : P (.str ⟨#[c]⟩) μ) : rel2 (rIx K) (.str z) (.int i) μ P := fun vx vy G H a b c' Q q => by
  cases b; cases c'
  exact .inr (.inr ⟨z, i, c, rfl, rfl, hz, e, q _ _ μ G H (Ex.refl G) a (.str _) p⟩)
/-! in -/
def rInStr (neg : Bool) : R2 := fun x y H Q => ∃ i j, x = .str i ∧ y = .str j ∧ Q (.bl (if neg then !(!(Builtin.Str.occurrences j i 0 j.length 1).isEmpty) else !(Builtin.Str.occurrences j i 0 j.length 1).isEmpty)) H
def rInSg (neg : Bool) : R2 := fun x y H Q => ∃ (c : Nat) (z : Str), x = .str ⟨#[c]⟩ ∧ y = .str z ∧ Q (.bl (if neg then !decide (c ∈ z.cps.toList) else decide (c ∈ z.cps.toList))) H
def rInU (K : PySem.W.Frag) (neg : Bool) : R2 := orR (rIn K neg) (orR (rInStr neg) (rInSg neg))
theorem op_inSg' : OpR X (compareOp .In) (rInSg false) := fun pins s σ H x y v u Q I rx ry h => by
  obtain ⟨i, j, e1, e2, q⟩ := h
  exact op_in_sign pins s σ H x y v u Q I rx ry ⟨i, j, e1, e2, by rw [if_neg (by decide)] at q; exact q⟩
theorem op_notInSg' : OpR X (compareOp .NotIn) (rInSg true) := fun pins s σ H x y v u Q I rx ry h => by
  obtain ⟨i, j, e1, e2, q⟩ := h
  exact op_notIn_sign pins s σ H x y v u Q I rx ry ⟨i, j, e1, e2, by rw [if_pos rfl] at q; exact q⟩
theorem op_inStr' : OpR X (compareOp .In) (rInStr false) := fun pins s σ H x y v u Q I rx ry h => by
  obtain ⟨i, j, e1, e2, q⟩ := h
  exact op_in_str pins s σ H x y v u Q I rx ry ⟨i, j, e1, e2, by rw [if_neg (by decide)] at q; exact q⟩
theorem op_notInStr' : OpR X (compareOp .NotIn) (rInStr true) := fun pins s σ H x y v u Q I rx ry h => by
  obtain ⟨i, j, e1, e2, q⟩ := h
  exact op_notin_str pins s σ H x y v u Q I rx ry ⟨i, j, e1, e2, by rw [if_pos rfl] at q; exact q⟩
theorem op_inU : OpR X (compareOp .In) (rInU X.K false) := op_in_seq.or (op_inStr'.or op_inSg')
theorem op_notInU : OpR X (compareOp .NotIn) (rInU X.K true) := op_notIn_seq.or (op_notInStr'.or op_notInSg')
def subStr (i j : Str) : Bool := !(Builtin.Str.occurrences j i 0 j.length 1).isEmpty
theorem u_inL {x : D} {xs : List D} (hx : Flt x) (hs : ∀ d ∈ xs, Flt d) (p : P (.bl (inD x xs)) μ) : rel2 (rInU K false) x (.lst xs) μ P := r_l (r_inL hx hs p)
theorem u_notInL {x : D} {xs : List D} (hx : Flt x) (hs : ∀ d ∈ xs, Flt d) (p : P (.bl (!inD x xs)) μ) : rel2 (rInU K true) x (.lst xs) μ P := r_l (r_notInL hx hs p)
theorem u_inS {i j : Str} (p : P (.bl (subStr i j)) μ) : rel2 (rInU K false) (.str i) (.str j) μ P := r_r <| r_l fun vx vy G H a b c Q q => by
  cases b; cases c
  exact ⟨i, j, rfl, rfl, q _ _ μ G H (Ex.refl G) a (.bl _) p⟩
theorem u_notInS {i j : Str} (p : P (.bl (!subStr i j)) μ) : rel2 (rInU K true) (.str i) (.str j) μ P := r_r <| r_l fun vx vy G H a b c Q q => by
  cases b; cases c
  exact ⟨i, j, rfl, rfl, q _ _ μ G H (Ex.refl G) a (.bl _) p⟩
theorem u_inSg {c : Nat} {z : Str} (p : P (.bl (decide (c ∈ z.cps.toList))) μ) : rel2 (rInU K false) (.str ⟨#[c]⟩) (.str z) μ P := r_r <| r_r fun vx vy G H a b d Q q => by
  cases b; cases d
  exact ⟨c, z, rfl, rfl, q _ _ μ G H (Ex.refl G) a (.bl _) p⟩
theorem u_notInSg {c : Nat} {z : Str} (p : P (.bl (!decide (c ∈ z.cps.toList))) μ) : rel2 (rInU K true) (.str ⟨#[c]⟩) (.str z) μ P := r_r <| r_r fun vx vy G H a b d Q q => by
  cases b; cases d
  exact ⟨c, z, rfl, rfl, q _ _ μ G H (Ex.refl G) a (.bl _) p⟩
/-! len -/
def rLenU (K : PySem.W.Frag) : List V → Hp → VK → Prop := fun xs H Q => ∃ x n, xs = [x] ∧ LenV K x H n ∧ Q (.int (n : Nat)) H
theorem call_lenU : CallR X (.builtin "len") (rLenU X.K) := call_len
theorem u_len {xs : List D} (p : P (.int (xs.length : Nat)) μ) : relC (rLenU K) [.lst xs] μ P := fun vs G H h r Q q => by
  cases r with
  | cons a r =>
    cases r
    cases a with
    | lst a s => exact ⟨_, xs.length, rfl, .inl ⟨_, SqL.of (h.ex _ _ a), s.length.symm⟩, q _ _ μ G H (Ex.refl G) h (.int _) p⟩
theorem u_lenT {xs : List D} (p : P (.int (xs.length : Nat)) μ) : relC (rLenU K) [.tup xs] μ P := fun vs G H h r Q q => by
  cases r with
  | cons a r =>
    cases r
    cases a with
    | tup a s => exact ⟨_, xs.length, rfl, .inr ⟨_, SqT.of (h.ex _ _ a), s.length.symm⟩, q _ _ μ G H (Ex.refl G) h (.int _) p⟩
theorem u_lenM {a : Addr} {xs : List D} (m : μ a = some (.lst xs)) (p : P (.int (xs.length : Nat)) μ) : relC (rLenU K) [.cell a] μ P := fun vs G H h r Q q => by
  cases r with
  | cons a r =>
    cases r
    cases a
    obtain ⟨g, o, ho, mr⟩ := h.mu _ _ m
    cases mr with
    | lst s => exact ⟨_, xs.length, rfl, .inl ⟨_, SqL.of ho, s.length.symm⟩, q _ _ μ G H (Ex.refl G) h (.int _) p⟩
theorem u_lenS {z : Str} (hz : z.length ≤ sizeLine) (p : P (.int (z.length : Nat)) μ) : relC (rLenU K) [.str z] μ P := fun vs G H h r Q q => by
  cases r with
  | cons a r =>
    cases r; cases a
    exact ⟨_, z.length, rfl, ⟨hz, rfl⟩, q _ _ μ G H (Ex.refl G) h (.int _) p⟩
end

/-! ### truth -/
def truD : D → Option Bool
  | .non => some false
  | .bl b => some b
  | .int i => some (i != 0)
  | .tup xs => some (!xs.isEmpty)
  | .lst xs => some (!xs.isEmpty)
  | _ => none
theorem isEmpty_reps {G : Hp} {vs : List V} {ds : List D} (r : Reps G vs ds) : (!vs.isEmpty) = !ds.isEmpty := by
  cases r <;> rfl
section
variable {W : WX} {Z : XP} {ρ : Rho} {μ : M} {K : PySem.W.Frag} {te : TE} {PB : Bool → M → Prop} {PI' : List D → M → Prop} {wi wi' : TI}
def tTruU (K : PySem.W.Frag) (te : TE) : TT := fun σ H Q => te σ H fun x H1 => ∃ k, TruV K x H1 k ∧ Q k H1
theorem pt_tru {X : Cx} {e : Expr} (ha : PE X e te) (he : ∀ whole, isTrue e X.env whole = (do let v ← whole; standAt e.pos; holding [v] (truthy v))) : PT X e (tTruU X.K te) := pt_truth ha he
theorem wpT_tru (h : wp W Z te ρ μ fun d μ1 => ∃ b, truD d = some b ∧ PB b μ1) : wpT W Z (tTruU K te) ρ μ PB := fun σ G H e ho z Q q =>
  h σ G H e ho z _ fun v d μ1 G1 H1 a1 h1 r1 p1 => by
    obtain ⟨b, hb, p⟩ := p1
    refine ⟨b, ?_, q b μ1 G1 H1 a1 h1 p⟩
    cases r1 with
    | non => cases hb; rfl
    | bl b => cases hb; rfl
    | int i => cases hb; rfl
    | str s => cases hb
    | ty n => cases hb
    | tup a s => cases hb; exact .inr (.inl ⟨_, SqT.of (h1.ex _ _ a), (isEmpty_reps s).symm⟩)
    | lst a s => cases hb; exact .inl ⟨_, SqL.of (h1.ex _ _ a), (isEmpty_reps s).symm⟩
    | obj a s => cases hb
    | cell a => cases hb
    | known a => cases hb
/-- a list that may change, by truth -/
theorem wpT_truM (h : wp W Z te ρ μ fun d μ1 => ∃ a xs, d = .cell a ∧ μ1 a = some (.lst xs) ∧ PB (!xs.isEmpty) μ1) : wpT W Z (tTruU K te) ρ μ PB := fun σ G H e ho z Q q =>
  h σ G H e ho z _ fun v d μ1 G1 H1 a1 h1 r1 p1 => by
    obtain ⟨a, xs, rfl, m, p⟩ := p1
    cases r1
    obtain ⟨g, o, ho, mr⟩ := h1.mu _ _ m
    cases mr with
    | lst s => exact ⟨_, .inl ⟨_, SqL.of ho, (isEmpty_reps s).symm⟩, q _ μ1 G1 H1 a1 h1 p⟩
/-- what is walked is a list, a tuple, a text -/
def orI (wi wi' : TI) : TI := fun σ H R => wi σ H R ∨ wi' σ H R
theorem PI.orI {X : Cx} {tg it : Expr} (h : PI X tg it wi) (h' : PI X tg it wi') : PI X tg it (SB.orI wi wi') := ⟨fun pins s σ H R I q => q.elim (h.run pins s σ H R I) (h'.run pins s σ H R I)⟩
def iSeq (K : PySem.W.Frag) (te : TE) : TI := orI (iList K te) (orI (iTup K te) (iStr te))
theorem pi_seq {X : Cx} {tg e : Expr} (h : PE X e te) : PI X tg e (iSeq X.K te) := PI.orI (pi_list h) (PI.orI (pi_tup h) (pi_str h))
theorem wpI_l (h : wpI W Z wi ρ μ PI') : wpI W Z (orI wi wi') ρ μ PI' := fun σ G H e ho z R q => .inl (h σ G H e ho z R q)
theorem wpI_r (h : wpI W Z wi' ρ μ PI') : wpI W Z (orI wi wi') ρ μ PI' := fun σ G H e ho z R q => .inr (h σ G H e ho z R q)
theorem wpI_seqL (h : wp W Z te ρ μ fun d μ1 => ∃ xs, d = .lst xs ∧ PI' xs μ1) : wpI W Z (iSeq K te) ρ μ PI' := wpI_l (wpI_list h)
theorem wpI_seqT (h : wp W Z te ρ μ fun d μ1 => ∃ xs, d = .tup xs ∧ PI' xs μ1) : wpI W Z (iSeq K te) ρ μ PI' := wpI_r (wpI_l (wpI_tup h))
theorem wpI_seqS (h : wp W Z te ρ μ fun d μ1 => ∃ z, d = .str z ∧ PI' (signs z) μ1) : wpI W Z (iSeq K te) ρ μ PI' := wpI_r (wpI_r (wpI_str h))
/-! ### slices -/
variable {P : D → M → Prop} {PO' : Option Int → M → Prop} {tl th : TO}
def rSlU (K : PySem.W.Frag) : V → Option Int → Option Int → Hp → VK → Prop := fun x lo hi H Q => rSlL K x lo hi H Q ∨ (rSlA K x lo hi H Q ∨ rSlS x lo hi H Q)
theorem sl_any {X : Cx} : SlR X (rSlU X.K) := sl_list.or (sl_tupA.or sl_str)
theorem wpO_none (p : PO' none μ) : wpO W Z tNoPart ρ μ PO' := fun σ G H e ho z Q q => q none μ G H (Ex.refl G) ho p
theorem wpO_some (h : wp W Z te ρ μ fun d μ1 => ∃ i, d = .int i ∧ PO' (some i) μ1) : wpO W Z (tPart te) ρ μ PO' := fun σ G H e ho z Q q =>
  h σ G H e ho z _ fun v d μ1 G1 H1 a1 h1 r1 p1 => by
    obtain ⟨i, rfl, p⟩ := p1
    cases r1
    exact ⟨i, rfl, q _ μ1 G1 H1 a1 h1 p⟩
def cutD (xs : List D) (lo hi : Option Int) : List D := (xs.drop (HT.sIx xs.length 0 lo)).take (HT.sIx xs.length xs.length hi - HT.sIx xs.length 0 lo)
theorem Reps.cut {G : Hp} {vs : List V} {ds : List D} (r : Reps G vs ds) (lo hi : Option Int) : Reps G (cutV vs lo hi) (cutD ds lo hi) := by
  unfold cutV cutD
  rw [r.length]
  exact (r.drop _).take _
/-- a slice of a list, of a tuple, of a text -/
inductive SlD : D → Option Int → Option Int → D → Prop
  | lst {xs : List D} {lo hi : Option Int} : SlD (.lst xs) lo hi (.lst (cutD xs lo hi))
  | tup {xs : List D} {lo hi : Option Int} : SlD (.tup xs) lo hi (.tup (cutD xs lo hi))
  | str {z : Str} {lo hi : Option Int} (h : z.length ≤ sizeLine) : SlD (.str z) lo hi (.str (cutS z lo hi))
theorem wp_slice (h : wp W Z te ρ μ fun x μ1 => wpO W Z tl ρ μ1 fun lo μ2 => wpO W Z th ρ μ2 fun hi μ3 => ∃ y, SlD x lo hi y ∧ P y μ3) : wp W Z (tSl (rSlU K) te tl th) ρ μ P := fun σ G H e ho z Q q =>
  h σ G H e ho z _ fun v x μ1 G1 H1 a1 h1 r1 p1 => p1 σ G1 H1 (e.mono a1) h1 (z.mono a1) _ fun lo μ2 G2 H2 a2 h2 p2 => p2 σ G2 H2 (e.mono (a1.trans a2)) h2 (z.mono (a1.trans a2)) _ fun hi μ3 G3 H3 a3 h3 p3 => by
    obtain ⟨y, sl, p⟩ := p3
    have ak := (a1.trans a2).trans a3
    have r3 := r1.mono (a2.trans a3)
    cases sl with
    | lst =>
      cases r3 with
      | lst a s =>
        refine .inl ⟨_, _, rfl, SqL.of (h3.ex _ _ a), fun l hl => ?_⟩
        obtain ⟨x, h4⟩ := h3.newD (o := .lst (cutV _ lo hi)) hl
        exact q _ _ μ3 _ _ (ak.trans x) h4 (.lst upd_same ((s.cut lo hi).mono x)) p
    | tup =>
      cases r3 with
      | tup a s =>
        refine .inr (.inl ⟨_, _, rfl, SqT.of (h3.ex _ _ a), fun hw => ?_, fun _ l hl => ?_⟩)
        · refine q _ _ μ3 G3 H3 ak h3 (.tup a ?_) p
          have hc := s.cut lo hi
          have e2 : cutV _ lo hi = _ := show cutV _ lo hi = _ from by
            unfold cutV
            rw [hw.1, hw.2, Nat.sub_zero, List.drop_zero, List.take_length]
          rw [e2] at hc
          exact hc
        · obtain ⟨x, h4⟩ := h3.newD (o := .tup (cutV _ lo hi)) hl
          exact q _ _ μ3 _ _ (ak.trans x) h4 (.tup upd_same ((s.cut lo hi).mono x)) p
    | str hz =>
      cases r3
      exact .inr (.inr ⟨_, rfl, hz, q _ _ μ3 G3 H3 ak h3 (.str _) p⟩)
end

/-! ### defs -/
section
variable (P : Program) (w : World) (K : PySem.W.Frag) (mg : Str → Option Value) (base : Heap)
/-- a def of the text where the module's name has it -/
def Src (name : Str) (st : Stmt) (ps : List Str) : Prop := ∃ (f : Addr) (fd : FuncData), Fun K name name st f fd ∧ mg name = some (.ref f) ∧ Binds K fd ps []
/-- what it does -/
def Def (k : Nat) (name : Str) (ps : List Str) (S : DSp) : Prop := ∃ (f : Addr) (fd : FuncData), FnOk P w K mg base (L2.CX P w) k f fd ps (spOf S) ∧ mg name = some (.ref f) ∧ PySem.W.keepIn K (.ref f) = true ∧ Binds K fd ps []
end
def startD (N : List Str) (ds : List D) : Rho := ds.map some ++ List.replicate (N.length - ds.length) none
theorem env_start {G : Hp} {N : List Str} {vs : List V} {ds : List D} (r : Reps G vs ds) : Env G (L2.start N vs) (startD N ds) := by
  refine ⟨by unfold L2.start startD; simp [r.length], fun i d h => ?_⟩
  unfold startD at h
  by_cases hi : i < ds.length
  · rw [List.getElem?_append_left (by simpa using hi), List.getElem?_map] at h
    cases hd : ds[i]? with
    | none => rw [hd] at h; cases h
    | some d' =>
      rw [hd] at h
      cases h
      obtain ⟨v, hv, rv⟩ := r.get hd
      refine ⟨v, ?_, rv⟩
      unfold L2.start
      rw [List.getElem?_append_left (by simpa [r.length] using hi), List.getElem?_map, hv]
      rfl
  · rw [List.getElem?_append_right (by simpa using hi), List.getElem?_replicate] at h
    split at h <;> cases h
section
variable {P : Program} {w : World} {K : PySem.W.Frag} {mg : Str → Option Value} {base : Heap}
/-- the wish of a def about what leaves it -/
abbrev wOut (E : XK) : WX := fun cls d _ H => E cls d H
theorem fn_body {x qual : Str} {st : Stmt} {f : Addr} {fd : FuncData} {N ps : List Str} {k : Nat} {S : DSp} (F : Fun K x qual st f fd) (sc : FnScope N ps (defScope st)) (len : ∀ ds μ Q X, S ds μ Q X → ds.length = ps.length)
    (hb : ∀ (cdv : Value) (A : Around) (outer : List PySem.Env) (s : Shared) (H : Hp) (E : XK), Room k (A.deeper (envOfC qual (defScope st) s.heap.objs.size f cdv)) →
      Takes (cxOf (L2.CX P w) P w K mg base N qual (defScope st) f cdv A outer s H E) (wOut E) →
      ∃ t, PSs (cxOf (L2.CX P w) P w K mg base N qual (defScope st) f cdv A outer s H E) (defBody st) t ∧ ∀ ds μ Q X, S ds μ Q X → wpS (wOut E) (fun x _ μ => X x μ) t (startD N ds) μ { nx := fun _ μ => Q .non μ, rt := Q }) :
    FnOk P w K mg base (L2.CX P w) (k + 1) f fd ps (spOf S) := by
  refine F.okX sc (fun vs H Q E h => ?_) fun cdv A outer s H vs Q E hr h => ?_
  · obtain ⟨ds, μ, G, Pd, Xd, hS, r, _⟩ := h
    rw [r.length]
    exact len ds μ Pd Xd hS
  · obtain ⟨ds, μ, G, Pd, Xd, hS, r, ho, q, qx⟩ := h
    obtain ⟨t, ht, hw⟩ := hb cdv A outer s H E hr (takes_of rfl rfl rfl rfl)
    refine ⟨t, ht, hw ds μ Pd Xd hS (L2.start N vs) G H (env_start r) ho (fun cls dd x ρ μ' σ G' H' a _ h' xr p => qx cls dd x μ' G' H' a h' xr p) _ ⟨fun ρ μ' σ G' H' a _ h' p => q _ _ μ' G' H' a h' .non p, fun v d μ' G' H' a h' rv p => q v d μ' G' H' a h' rv p, fun _ _ _ _ _ _ _ _ p => p.elim, fun _ _ _ _ _ _ _ _ p => p.elim⟩⟩
theorem Def.of {name : Str} {st : Stmt} {N ps : List Str} {k : Nat} {S : DSp} (s : Src K mg name st ps) (sc : FnScope N ps (defScope st)) (len : ∀ ds μ Q X, S ds μ Q X → ds.length = ps.length)
    (hb : ∀ (f : Addr) (cdv : Value) (A : Around) (outer : List PySem.Env) (s : Shared) (H : Hp) (E : XK), Room k (A.deeper (envOfC name (defScope st) s.heap.objs.size f cdv)) →
      Takes (cxOf (L2.CX P w) P w K mg base N name (defScope st) f cdv A outer s H E) (wOut E) →
      ∃ t, PSs (cxOf (L2.CX P w) P w K mg base N name (defScope st) f cdv A outer s H E) (defBody st) t ∧ ∀ ds μ Q X, S ds μ Q X → wpS (wOut E) (fun x _ μ => X x μ) t (startD N ds) μ { nx := fun _ μ => Q .non μ, rt := Q }) :
    Def P w K mg base (k + 1) name ps S := by
  obtain ⟨f, fd, F, m, b⟩ := s
  exact ⟨f, fd, fn_body F sc len (hb f), m, F.kp, b⟩
theorem Def.mono {j k : Nat} {name : Str} {ps : List Str} {S : DSp} (d : Def P w K mg base j name ps S) (h : j ≤ k) : Def P w K mg base k name ps S := by
  obtain ⟨f, fd, F, r⟩ := d
  exact ⟨f, fd, F.mono h, r⟩
theorem Def.imp {k : Nat} {name : Str} {ps : List Str} {S S' : DSp} (d : Def P w K mg base k name ps S) (h : ∀ ds μ Q X, S' ds μ Q X → S ds μ Q X) : Def P w K mg base k name ps S' := by
  obtain ⟨f, fd, F, r⟩ := d
  refine ⟨f, fd, F.imp fun vs H Q E x => ?_, r⟩
  obtain ⟨ds, μ, G, Pd, Xd, hS, y⟩ := x
  exact ⟨ds, μ, G, Pd, Xd, h _ _ _ _ hS, y⟩
end
end SB

/-! SBe: zip of a list or a tuple with a list or a tuple. -/
namespace SB
open PySem PySem.Spec PyProof.Rows L2

/-- a list (true), a tuple (false) -/
def SqB (K : PySem.W.Frag) (H : Hp) (a : Addr) (xs : List V) : Bool → Prop
  | true => SqL K H a xs
  | false => SqT K H a xs
def ItB (h : Heap) (it a : Addr) (i : Nat) : Bool → Prop
  | true => h.IsListIter it a i
  | false => h.IsTupleIter it a i
def AtB (h : Heap) (a : Addr) (its : Array Value) : Bool → Prop
  | true => h.IsList a its
  | false => h.IsTuple a its
section
variable {X : Cx} {pins : List (Addr × Obj)} {σ : L2.St} {H : Hp} {s : Shared} {a : Addr} {xs ys : List V} {k : Bool}
theorem inv_seq (I : Inv X pins σ H s) (h : SqB X.K H a xs k) : ∃ its : List Value, Vals xs its ∧ AtB s.heap a its.toArray k := by
  cases k with
  | true =>
    obtain ⟨its, r, p, _⟩ := I.list h
    exact ⟨its, r, p.isList⟩
  | false =>
    obtain ⟨its, r, p, _⟩ := I.tuple h
    exact ⟨its, r, p⟩
theorem inv_seq_inj (I : Inv X pins σ H s) (h : SqB X.K H a xs k) (h' : SqB X.K H a ys k) : xs = ys := by
  cases k with
  | true => exact I.list_inj h h'
  | false => exact I.tuple_inj h h'
theorem ItB.at' {h h' : Heap} {it : Addr} {i : Nat} (q : ItB h it a i k) (e : ∀ o, h.get? it = some o → h'.get? it = some o) : ItB h' it a i k := by
  cases k with
  | true => exact Heap.IsListIter.at q e
  | false => exact Heap.IsTupleIter.at q e
theorem ItB.there {h : Heap} {it : Addr} {i : Nat} (q : ItB h it a i k) : ∃ o, h.get? it = some o ∧ ∀ v, o.data ≠ .cell v := by
  cases k with
  | true =>
    obtain ⟨o, e, _, d⟩ := q
    exact ⟨o, e, fun v z => by rw [d] at z; cases z⟩
  | false =>
    obtain ⟨o, e, _, d⟩ := q
    exact ⟨o, e, fun v z => by rw [d] at z; cases z⟩
theorem AtB.lt {h : Heap} {its : Array Value} (q : AtB h a its k) : a < h.objs.size := by
  cases k with
  | true =>
    obtain ⟨o, e, _⟩ := q
    exact Heap.lt_size e
  | false =>
    obtain ⟨o, e, _⟩ := q
    exact Heap.lt_size e
theorem draws_seq {prog : Program} {w : World} {A : Around} (hh : A.handled = none) (it a : Addr) (hne : a ≠ it) (items : Array Value) (k : Bool) :
    Draws prog w A it [it, a] items.size (fun i v => items[i]? = some v) (fun i h => ItB h it a i k ∧ AtB h a items k) := by
  cases k with
  | true => exact Draws.list hh it a hne items
  | false => exact Draws.tuple hh it a hne items
theorem begins_seq (a : Addr) (items : Array Value) (k : Bool) : ∃ o, Begins (.ref a) o (fun h => AtB h a items k) ∧ ∀ (h : Heap) (it : Addr), h.get? it = some o → ItB h it a 0 k := by
  cases k with
  | true => exact ⟨_, begins_list a items, fun h it e => ⟨_, e, rfl, rfl⟩⟩
  | false => exact ⟨_, begins_tuple a items, fun h it e => ⟨_, e, rfl, rfl⟩⟩
end
def ItzB (K : PySem.W.Frag) (a b : Addr) (k l : Bool) : It :=
  ⟨fun i H => ∃ (xs ys : List V) (x y : V), SqB K H a xs k ∧ SqB K H b ys l ∧ xs[i]? = some x ∧ ys[i]? = some y,
    fun i H v H' => ∃ T x y, v = .ref T ∧ H T = none ∧ H' = upd H T (.tup [x, y]) ∧ (∀ xs, SqB K H a xs k → xs[i]? = some x) ∧ ∀ ys, SqB K H b ys l → ys[i]? = some y,
    fun i H => ∃ xs ys : List V, SqB K H a xs k ∧ SqB K H b ys l ∧ i ≤ xs.length ∧ i ≤ ys.length ∧ (i = xs.length ∨ i = ys.length)⟩
theorem turn_zipB {P : Program} {w : World} {K : PySem.W.Frag} {elts : List Expr} {kk : Nat} {tpos : Pos} {a b z TI TO i1 i2 : Addr} {k l : Bool} (S : ZipSep2 z TI TO i1 i2 [i1, a] [i2, b]) :
    Turn P w K (.Tuple elts kk tpos) (ItzB K a b k l) [z, TI, TO, i1, i2] z (fun i h => IsZip h z TI TO .none ∧ IsTupOf2 h TI (.ref i1) (.ref i2) ∧ (∃ x y, IsTupOf2 h TO x y) ∧ ItB h i1 a i k ∧ ItB h i2 b i l) where
  mem := by simp
  obj := fun i h st c hc => by
    obtain ⟨hz, hTI, ⟨x, y, hTO⟩, h1, h2⟩ := st
    have e' : c = z ∨ c = TI ∨ c = TO ∨ c = i1 ∨ c = i2 := by simpa using hc
    rcases e' with q | q | q | q | q
    · rw [q]; exact ⟨_, hz, fun v q => nomatch q⟩
    · rw [q]; exact ⟨_, hTI, fun v q => nomatch q⟩
    · rw [q]; exact ⟨_, hTO, fun v q => nomatch q⟩
    · rw [q]; exact h1.there
    · rw [q]; exact h2.there
  keep := fun i h h' st kp => by
    obtain ⟨hz, hTI, ⟨x, y, hTO⟩, h1, h2⟩ := st
    exact ⟨kp z (by simp) _ hz, kp TI (by simp) _ hTI, ⟨x, y, kp TO (by simp) _ hTO⟩, h1.at' fun o q => kp i1 (by simp) o q, h2.at' fun o q => kp i2 (by simp) o q⟩
  item := by
    intro X hP hw hK hc i pins s σ H E I hf st hg
    subst hP hw hK
    obtain ⟨hz, hTI, ⟨x0, y0, hTO⟩, h1, h2⟩ := st
    obtain ⟨xs, ys, x, y, hqx, hqy, hx, hy⟩ := hg
    obtain ⟨its, rv, p⟩ := inv_seq I hqx
    obtain ⟨its2, rv2, p2⟩ := inv_seq I hqy
    obtain ⟨u, hu, ru⟩ := rv.get hx
    obtain ⟨u2, hu2, ru2⟩ := rv2.get hy
    have hzl : z < s.heap.objs.size := Heap.lt_size hz
    have ne1 : a ≠ i1 := fun e => by
      obtain ⟨o, e1, _⟩ := h1.there
      have hfi := (hf i1 (by simp)).1
      rw [← e] at hfi
      cases k with
      | true =>
        rcases hqx with (q | ⟨_, q⟩) | ⟨o', _, _, q, _⟩
        · rw [hfi] at q; cases q
        · rw [hfi] at q; cases q
        · obtain ⟨oi, ei, ci, _⟩ := (h1 : s.heap.IsListIter i1 a i)
          rw [← e, I.kIn _ _ q] at ei
          cases ei
          simp_all
      | false =>
        rcases hqx with (q | ⟨_, q⟩) | ⟨o', _, _, q, _⟩
        · rw [hfi] at q; cases q
        · rw [hfi] at q; cases q
        · obtain ⟨oi, ei, ci, _⟩ := (h1 : s.heap.IsTupleIter i1 a i)
          rw [← e, I.kIn _ _ q] at ei
          cases ei
          simp_all
    have ne2 : b ≠ i2 := fun e => by
      have hfi := (hf i2 (by simp)).1
      rw [← e] at hfi
      cases l with
      | true =>
        rcases hqy with (q | ⟨_, q⟩) | ⟨o', _, _, q, _⟩
        · rw [hfi] at q; cases q
        · rw [hfi] at q; cases q
        · obtain ⟨oi, ei, ci, _⟩ := (h2 : s.heap.IsListIter i2 b i)
          rw [← e, I.kIn _ _ q] at ei
          cases ei
          simp_all
      | false =>
        rcases hqy with (q | ⟨_, q⟩) | ⟨o', _, _, q, _⟩
        · rw [hfi] at q; cases q
        · rw [hfi] at q; cases q
        · obtain ⟨oi, ei, ci, _⟩ := (h2 : s.heap.IsTupleIter i2 b i)
          rw [← e, I.kIn _ _ q] at ei
          cases ei
          simp_all
    have hh : X.A.in1.handled = none := I.ok.hd hc
    refine wpAny_pyNext_zipD2_item S (draws_seq hh i1 a ne1 its.toArray k) (draws_seq hh i2 b ne2 its2.toArray l) hz hTI hTO ⟨h1, p⟩ ⟨h2, p2⟩ (i := i) ?_ ?_ fun x1 x2 h' tk e1 e2 z' TO' s1 s2 hT hsz hk => ?_
    · have := (List.getElem?_eq_some_iff.mp hu).1; simpa using this
    · have := (List.getElem?_eq_some_iff.mp hu2).1; simpa using this
    have ex1 : x1 = u := by
      have e1 : its.toArray[i]? = some x1 := e1
      simp only [List.getElem?_toArray] at e1
      rw [hu] at e1; exact (Option.some.inj e1).symm
    have ex2 : x2 = u2 := by
      have e2 : its2.toArray[i]? = some x2 := e2
      simp only [List.getElem?_toArray] at e2
      rw [hu2] at e2; exact (Option.some.inj e2).symm
    subst ex1 ex2
    refine ⟨_, rfl, wpAny_letOwnedTupleGo_zip (s := { s with heap := h', toks := tk }) z' fun h'' z'' sb => ?_⟩
    have hT2 : h''.get? s.heap.objs.size = some { cls := .type "tuple", data := .seq #[x1, x2] } := (sb.2 _ (Nat.ne_of_gt hzl)).trans hT
    have new : ObjOk X.prog X.w (upd H s.heap.objs.size (.tup [x, y])) h'' s.heap.objs.size (.tup [x, y]) :=
      ⟨by show 2 ≤ sizeLine; decide, [x1, x2], .cons ru (.cons ru2 .nil), ⟨_, hT2, rfl, _, rfl⟩⟩
    have I1 : Inv X pins σ (upd H s.heap.objs.size (.tup [x, y])) { s with heap := h'', toks := tk } :=
      I.turnedNew (t' := tk) (ch := [z, TI, TO, i1, i2]) (fun c o hb q => (sb.2 c (fun q' => hb (by simp [q']))).trans (hk c o (fun q' => hb (by simp [q'])) (fun q' => hb (by simp [q'])) (fun q' => hb (by simp [q'])) (fun q' => hb (by simp [q'])) q)) hf (Nat.le_refl _) new
    refine ⟨.ref s.heap.objs.size, _, I1, rfl, ⟨_, x, y, rfl, I.hok.fresh (Nat.le_refl _), rfl, fun l hl => by rw [inv_seq_inj I hl hqx]; exact hx, fun l hl => by rw [inv_seq_inj I hl hqy]; exact hy⟩, ⟨z'', ?_, ⟨x1, x2, ?_⟩, ?_, ?_⟩, fun c hcm => ?_⟩
    · exact (sb.2 _ S.TIz).trans (hk _ _ S.TIz S.TITO S.TIi1 S.TIi2 hTI)
    · exact (sb.2 _ S.TOz).trans TO'
    · exact s1.1.at' fun o q => (sb.2 _ S.zi1.symm).trans q
    · exact s2.1.at' fun o q => (sb.2 _ S.zi2.symm).trans q
    · have hlt : c < s.heap.objs.size := by
        have e' : c = z ∨ c = TI ∨ c = TO ∨ c = i1 ∨ c = i2 := by simpa using hcm
        rcases e' with q | q | q | q | q
        · rw [q]; exact hzl
        · rw [q]; exact Heap.lt_size hTI
        · rw [q]; exact Heap.lt_size hTO
        · rw [q]; obtain ⟨_, e1, _⟩ := h1.there; exact Heap.lt_size e1
        · rw [q]; obtain ⟨_, e2, _⟩ := h2.there; exact Heap.lt_size e2
      rw [upd_ne (Nat.ne_of_lt hlt)]
      exact (hf c hcm).1
  done := by
    intro X hP hw hK hc i pins s σ H E I hf st hg
    subst hP hw hK
    obtain ⟨hz, hTI, ⟨x0, y0, hTO⟩, h1, h2⟩ := st
    obtain ⟨xs, ys, hqx, hqy, le1, le2, hend⟩ := hg
    obtain ⟨its, rv, p⟩ := inv_seq I hqx
    obtain ⟨its2, rv2, p2⟩ := inv_seq I hqy
    have l1 := rv.length
    have l2 := rv2.length
    have hh : X.A.in1.handled = none := I.ok.hd hc
    have ne1 : a ≠ i1 := fun e => by
      have hfi := (hf i1 (by simp)).1
      rw [← e] at hfi
      cases k with
      | true =>
        rcases hqx with (q | ⟨_, q⟩) | ⟨o', _, _, q, _⟩
        · rw [hfi] at q; cases q
        · rw [hfi] at q; cases q
        · obtain ⟨oi, ei, ci, _⟩ := (h1 : s.heap.IsListIter i1 a i)
          rw [← e, I.kIn _ _ q] at ei
          cases ei
          simp_all
      | false =>
        rcases hqx with (q | ⟨_, q⟩) | ⟨o', _, _, q, _⟩
        · rw [hfi] at q; cases q
        · rw [hfi] at q; cases q
        · obtain ⟨oi, ei, ci, _⟩ := (h1 : s.heap.IsTupleIter i1 a i)
          rw [← e, I.kIn _ _ q] at ei
          cases ei
          simp_all
    have ne2 : b ≠ i2 := fun e => by
      have hfi := (hf i2 (by simp)).1
      rw [← e] at hfi
      cases l with
      | true =>
        rcases hqy with (q | ⟨_, q⟩) | ⟨o', _, _, q, _⟩
        · rw [hfi] at q; cases q
        · rw [hfi] at q; cases q
        · obtain ⟨oi, ei, ci, _⟩ := (h2 : s.heap.IsListIter i2 b i)
          rw [← e, I.kIn _ _ q] at ei
          cases ei
          simp_all
      | false =>
        rcases hqy with (q | ⟨_, q⟩) | ⟨o', _, _, q, _⟩
        · rw [hfi] at q; cases q
        · rw [hfi] at q; cases q
        · obtain ⟨oi, ei, ci, _⟩ := (h2 : s.heap.IsTupleIter i2 b i)
          rw [← e, I.kIn _ _ q] at ei
          cases ei
          simp_all
    exact wpAny_pyNext_zipD2_end S (draws_seq hh i1 a ne1 its.toArray k) (draws_seq hh i2 b ne2 its2.toArray l) hz hTI hTO ⟨h1, p⟩ ⟨h2, p2⟩ (i := i) (by simp; omega) (by simp; omega) (by simp; omega)
      fun h' tk hk => ⟨rfl, I.turnedL (t' := tk) (ch := [z, TI, TO, i1, i2]) (fun c o hb q => hk c o (fun q' => hb (by simp [q'])) (fun q' => hb (by simp [q'])) (fun q' => hb (by simp [q'])) (fun q' => hb (by simp [q'])) q) hf⟩
  self := fun A i s Q E st h => wpAny_pyIter_zip st.1 h
def iZipB (K : PySem.W.Frag) (ta : TA) : TI := fun σ H R => ta σ H fun vs H1 => ∃ a b xs ys k l, vs = [.ref a, .ref b] ∧ SqB K H1 a xs k ∧ SqB K H1 b ys l ∧ R (ItzB K a b k l) H1
theorem pi_zipB {X : Cx} {e e2 : Expr} {ta : TA} {p pos tpos : Pos} {elts : List Expr} {kk : Nat} (hg : Gl X "zip") (hm : X.mg "zip" = none) (ha : PA X [e, e2] ta)
    (hs : starEach [e, e2] X.env = (false, eval e X.env) :: starEach [e2] X.env := by rfl) (hpl : (backTo pos (starEach [e2] X.env)).any (·.1) = false := by rfl) :
    PI X (.Tuple elts kk tpos) (.Call (.Name "zip" p) [e, e2] [] pos) (iZipB X.K ta) := by
  refine ⟨fun pins s σ H R I h => ?_⟩
  refine Call_ (ld_blt I hg hm PyProof.Rows.boot_zip (PyProof.Rows.callWith_type1 (thn (ha.run pos pins s σ H _ I h) fun us s1 ⟨vs, H1, I1, r1, q1⟩ => ?_) hs hpl))
  obtain ⟨a, b, xs, ys, k, l, ex, hqx, hqy, q⟩ := q1
  subst ex
  cases r1 with
  | cons r rr =>
    cases rr with
    | cons r' rr =>
      cases rr
      cases r
      cases r'
      have fresh5 : ∀ c, c ∈ [s1.heap.objs.size + 4, s1.heap.objs.size + 2, s1.heap.objs.size + 3, s1.heap.objs.size, s1.heap.objs.size + 1] → FpOk X pins H1 c := fun c hcm => by
        have hle : s1.heap.objs.size ≤ c := by
          simp only [List.mem_cons, List.mem_nil_iff, or_false] at hcm
          omega
        exact I1.fpOk hle (I1.hok.fresh hle)
      obtain ⟨its, rv, p1⟩ := inv_seq I1 hqx
      obtain ⟨its2, rv2, p2⟩ := inv_seq I1 hqy
      obtain ⟨o1, B1, g1⟩ := begins_seq a its.toArray k
      obtain ⟨o2, B2, g2⟩ := begins_seq b its2.toArray l
      have la := p1.lt
      have lb := p2.lt
      refine zip_begins2 B1 B2 p1 p2 fun h' hz hTI hTO h1 h2 hsz hk => wpAny_pyIter_zip hz ?_
      have I2 : Inv X pins σ H1 { s1 with heap := h' } := I1.kept (t' := s1.toks) hk
      exact ⟨s1.heap.objs.size + 4, [s1.heap.objs.size + 4, s1.heap.objs.size + 2, s1.heap.objs.size + 3, s1.heap.objs.size, s1.heap.objs.size + 1], _, _, H1, rfl, I2,
        turn_zipB (zip_sep2 (fp1 := [a]) (fp2 := [b]) (fun c hc => by simp at hc; subst hc; exact la) (fun c hc => by simp at hc; subst hc; exact lb)), ⟨hz, hTI, ⟨_, _, hTO⟩, g1 _ _ h1, g2 _ _ h2⟩, fresh5, q⟩
section
variable {W : WX} {Z : XP} {ρ : Rho} {μ : M} {P : List D → M → Prop} {K : PySem.W.Frag} {ta : TA}
theorem walk_zipB {a b : Addr} {xs ys : List V} {k l : Bool} {n : Nat} (hn : n = min xs.length ys.length) : Walk (ItzB K a b k l) n (fun H => SqB K H a xs k ∧ SqB K H b ys l) (YPair (fun i => xs[i]?) (fun i => ys[i]?)) := by
  subst hn
  refine ⟨fun i _ hi q => ?_, fun _ q => ⟨xs, ys, q.1, q.2, by omega, by omega, by omega⟩, fun i H v H' _ q y => ?_⟩
  · have h1 : i < xs.length := by omega
    have h2 : i < ys.length := by omega
    exact ⟨xs, ys, xs[i], ys[i], q.1, q.2, by simp [h1], by simp [h2]⟩
  · obtain ⟨T, x, z, h1, h2, h3, h4, h5⟩ := y
    exact ⟨T, x, z, h1, h2, h3, h4 xs q.1, h5 ys q.2⟩
/-- a list or a tuple of the data xs -/
inductive SeqD : D → List D → Bool → Prop
  | lst {xs : List D} : SeqD (.lst xs) xs true
  | tup {xs : List D} : SeqD (.tup xs) xs false
theorem SeqD.at' {G : Hp} {v : V} {d : D} {xs : List D} {k : Bool} (s : SeqD d xs k) (r : Rep G v d) : ∃ a vs, v = .ref a ∧ (∀ H, Ex G H → SqB K H a vs k) ∧ Reps G vs xs := by
  cases s with
  | lst => cases r with
    | lst a s => exact ⟨_, _, rfl, fun H e => SqL.of (e _ _ a), s⟩
  | tup => cases r with
    | tup a s => exact ⟨_, _, rfl, fun H e => SqT.of (e _ _ a), s⟩
theorem wpI_zip (h : wpA W Z ta ρ μ fun ds μ1 => ∃ x y xs ys k l, ds = [x, y] ∧ SeqD x xs k ∧ SeqD y ys l ∧ P (pairs xs ys) μ1) : wpI W Z (iZipB K ta) ρ μ P := fun σ G H e ho z R q =>
  h σ G H e ho z _ fun vs ds μ1 G1 H1 a1 h1 r1 p1 => by
    obtain ⟨x, y, xs, ys, k, l, rfl, sx, sy, p⟩ := p1
    cases r1 with
    | cons ra r =>
      cases r with
      | cons rb r =>
        cases r
        obtain ⟨a, va, rfl, fa, ea⟩ := sx.at' (K := K) ra
        obtain ⟨b, vb, rfl, fb, eb⟩ := sy.at' (K := K) rb
        refine ⟨a, b, va, vb, k, l, rfl, fa _ h1.ex, fb _ h1.ex, q _ _ μ1 G1 H1 a1 h1 ?_ p⟩
        refine walkD_pair (walk_zipB (xs := va) (ys := vb) (by rw [pairs_len, ea.length, eb.length])) (fun H e => ⟨fa H e, fb H e⟩) fun i v w hi hv hw => ?_
        obtain ⟨x, hx, rx⟩ := ea.get' hv
        obtain ⟨y, hy, ry⟩ := eb.get' hw
        exact ⟨x, y, pairs_get hx hy, rx, ry⟩
end
end SB

/-! SBf: further built-ins, classes, methods, what is raised. -/
namespace SB
open PySem PySem.Spec PyProof.Rows L2

/-- no name of the module hides a built-in -/
structure Bt (mg : Str → Option Value) : Prop where
  len : mg "len" = none
  sum : mg "sum" = none
  zip : mg "zip" = none
  range : mg "range" = none
  enumerate : mg "enumerate" = none
  tuple : mg "tuple" = none
  list : mg "list" = none
  int : mg "int" = none
  str : mg "str" = none
  bool : mg "bool" = none
  isinstance : mg "isinstance" = none
  all : mg "all" = none
  any : mg "any" = none
  sorted : mg "sorted" = none
  max : mg "max" = none
  min : mg "min" = none
  abs : mg "abs" = none

section
variable {X : Cx}
/-! sum of a tuple -/
theorem ints_at : ∀ {us : List Value} {ns : List Int} {i : Nat} {v : Value}, Vals (ns.map V.int) us → us[i]? = some v → ∃ t, v = .int (ns.getD i 0) t
  | [], _, _, _, _, e => by simp at e
  | u :: us, [], _, _, r, e => by cases r
  | u :: us, n :: ns, 0, v, r, e => by
    cases r with
    | cons a r =>
      obtain ⟨t, rfl⟩ := a
      simp at e
      exact ⟨t, by rw [← e]; rfl⟩
  | u :: us, n :: ns, i + 1, v, r, e => by
    cases r with
    | cons a r =>
      obtain ⟨t, h⟩ := ints_at (i := i) r (by simpa using e)
      exact ⟨t, by rw [h]; rfl⟩
theorem preSum_getD (ns : List Int) : ∀ j, j ≤ ns.length → preSum (fun i => ns.getD i 0) j = (ns.take j).sum
  | 0, _ => rfl
  | j + 1, h => by
    show preSum _ j + ns.getD j 0 = _
    rw [preSum_getD ns j (by omega)]
    have hj : ns[j]? = some (ns.getD j 0) := by
      rw [List.getD_eq_getElem?_getD, List.getElem?_eq_getElem (by omega : j < ns.length)]; rfl
    rw [sum_take hj]
def rSumT (K : PySem.W.Frag) : List V → Hp → VK → Prop := fun vs H Q => ∃ (a : Addr) (ns : List Int), vs = [V.ref a] ∧ SqT K H a (ns.map V.int) ∧ Q (.int ns.sum) H
theorem cr_sumT (hc : X.calm = true) : CallR X (.builtin "sum") (rSumT X.K) := by
  intro pins s σ H vs us Q I r h
  obtain ⟨a, ns, rfl, hs, q⟩ := h
  obtain ⟨its, rv, ht, _⟩ := I.tuple hs
  have ht : s.heap.IsTuple a its.toArray := ht
  obtain ⟨u, rfl, ru⟩ := vals1 r
  cases ru
  have hl := rv.length
  have halt : a < s.heap.objs.size := by obtain ⟨_, e, _⟩ := id ht; exact Heap.lt_size e
  refine call_sum_walkG (wpAny_pyIter_tuple ht ?_)
  refine ⟨_, _, _, _, _, _, (fun i => ns.getD i 0), rfl, Walks.tuple (A := X.A.in1) (I.ok.hd hc) _ a (Nat.ne_of_lt halt) its.toArray, ⟨⟨_, Heap.get?_push_size _ rfl, rfl, rfl⟩, ht.push _⟩, ?_, ?_, ?_⟩
  · intro b hb
    have hz : ({ s with heap := s.heap.push { cls := .type "tuple_iterator", data := .fields #[.ref a, .int 0 0] } } : Shared).heap.objs.size = s.heap.objs.size + 1 := Heap.size_push ..
    rw [hz]
    rcases List.mem_cons.mp hb with e | hb
    · rw [e]; exact Nat.lt_succ_self _
    · rcases List.mem_cons.mp hb with e | hb
      · rw [e]; exact Nat.lt_succ_of_lt halt
      · cases hb
  · intro i v hv
    exact ints_at rv (by simpa using hv)
  · intro h' tk t' hk
    have e : preSum (fun i => ns.getD i 0) its.toArray.size = ns.sum := by
      rw [show its.toArray.size = ns.length by rw [List.size_toArray, ← hl, List.length_map], preSum_getD ns _ (Nat.le_refl _), List.take_length]
    rw [e]
    refine ⟨.int _, H, I.kept fun b o eo => hk b o (fun hm => ?_) (Heap.get?_push_of_some _ eo), ⟨_, rfl⟩, q⟩
    rcases List.mem_cons.mp hm with e1 | hm
    · exact absurd (e1 ▸ Heap.lt_size eo) (Nat.lt_irrefl _)
    · cases hm
def rSumU (K : PySem.W.Frag) := orC (rSum K) (rSumT K)
theorem call_sumU (hc : X.calm = true := by rfl) : CallR X (.builtin "sum") (rSumU X.K) := (cr_sum hc).or (cr_sumT hc)
/-! any of ints -/
theorem truth_ints {prog : Program} {w : World} {A : Around} {ns : List Int} {its : List Value} (r : Vals (ns.map V.int) its) :
    TruthOf prog w A (fun i v => its.toArray[i]? = some v) (fun i => (ns.map fun n => n != 0).getD i false) := fun i v s Q E hv hq => by
  have hv' : its[i]? = some v := by simpa using hv
  obtain ⟨t, rfl⟩ := ints_at r hv'
  have hi : i < ns.length := by
    have h1 := (List.getElem?_eq_some_iff.mp hv').1
    have h2 := r.length
    rw [List.length_map] at h2
    omega
  have e : (ns.map fun n => n != 0).getD i false = (ns.getD i 0 != 0) := by
    rw [List.getD_eq_getElem?_getD, List.getD_eq_getElem?_getD, List.getElem?_map, List.getElem?_eq_getElem hi]; rfl
  have hq' : Q ((ns.map fun n => n != 0).getD i false) s := hq
  rw [e] at hq'
  exact PyProof.Rows.truthy_int hq'
def rAnyI (K : PySem.W.Frag) : List V → Hp → VK → Prop := fun vs H Q => ∃ (a : Addr) (ns : List Int), vs = [V.ref a] ∧ SqL K H a (ns.map V.int) ∧ Q (.bl (ns.any fun n => n != 0)) H
theorem cr_anyI (hc : X.calm = true) : CallR X (.builtin "any") (rAnyI X.K) := by
  intro pins s σ H vs us Q I r h
  obtain ⟨a, ns, rfl, hs, q⟩ := h
  obtain ⟨its, rv, hl, _⟩ := I.list hs
  obtain ⟨u, rfl, ru⟩ := vals1 r
  cases ru
  refine call_any_walk (iter_any hl.isList fun s₂ e2 st hne => ?_)
  subst e2
  refine ⟨_, _, _, _, _, _, _, rfl, Walks.list (A := X.A.in1) (I.ok.hd hc) _ a hne its.toArray, st, truth_ints rv, fun h' tk hk => ?_⟩
  refine ⟨.bl _, H, I.kept fun b o eo => hk b o (fun hmem => ?_) (Heap.get?_push_of_some _ eo), ?_, q⟩
  · rcases List.mem_cons.mp hmem with e1 | hmem
    · exact absurd (e1 ▸ Heap.lt_size eo) (Nat.lt_irrefl _)
    · cases hmem
  · show Value.bool _ = Value.bool _
    have e := any_range (ns.map fun n => n != 0)
    rw [List.length_map, List.any_map] at e
    rw [List.size_toArray, ← rv.length, List.length_map, e]
    rfl
def rAnyU (K : PySem.W.Frag) := orC (rAny K) (rAnyI K)
theorem call_anyU (hc : X.calm = true := by rfl) : CallR X (.builtin "any") (rAnyU X.K) := (cr_any hc).or (cr_anyI hc)
/-! int -/
def rIntS : List V → Hp → VK → Prop := fun xs H Q => ∃ a n, xs = [.str a] ∧ PySem.intText? a = some n ∧ a.length ≤ 640 ∧ Q (.int n) H
def rInt1 : List V → Hp → VK → Prop := fun xs H Q => (∃ i, xs = [.int i] ∧ Q (.int i) H) ∨ ∃ k, xs = [.bl k] ∧ Q (.int (if k then 1 else 0)) H
def rIntU := orC rInt1 rIntS
theorem call_intU : CallR X (.type "int") rIntU := call_int1.or call_int_str
/-! an exception of one's own, made of nothing -/
theorem pmk_own0 {C : Addr} {bmB : List Value} {B newId initId : String} {x : Str} {p pos : Pos} (F : ExcBaseFacts B newId initId bmB) (q : PySem.W.excIn X.K C bmB newId = true) (gC : X.mg x = some (.ref C)) (kC : PySem.W.keepIn X.K (.ref C) = true) (r : Raises X (.ref C)) (hg : Gl X x)
    (hdb : (x == ("__debug__" : Str)) = false := by decide) : PMk X (.Call (.Name x p) [] [] pos) (fun _ H Q => Q (.ref C) none H) := by
  intro pins s σ H Q I h
  refine wpAny_Call_Name_kw (ld_glob I hg gC ?_ hdb)
  refine PySem.W.callWith_K0 I.kIn kC ?_
  obtain ⟨bm, N, nm, qn, bs, hdct, sn, sub, ab, col, dd, k0, k1, k2, k3, k5, mN, hC, hN, hni, T⟩ := exc_obj I.kIn q
  refine wpAny_call_exc_subT F T hC hN hni (fun h' e hm => ?_) (by show 0 ≤ sizeLine; exact Nat.zero_le _)
  exact mk_of I hm r h (I.hok.gone hm.new)
end

/-! ### by data -/
section
variable {μ : M} {P : D → M → Prop} {K : PySem.W.Frag}
theorem u_sum {ns : List Int} (p : P (.int ns.sum) μ) : relC (rSumU K) [.lst (ns.map D.int)] μ P := rc_l (rc_sum p)
theorem u_sumT {ns : List Int} (p : P (.int ns.sum) μ) : relC (rSumU K) [.tup (ns.map D.int)] μ P := rc_r fun vs G H h r Q q => by
  cases r with
  | cons a r =>
    cases r
    cases a with
    | tup a s =>
      have e := s.ints
      subst e
      exact ⟨_, _, rfl, SqT.of (h.ex _ _ a), q _ _ μ G H (Ex.refl G) h (.int _) p⟩
theorem u_anyI {ns : List Int} (p : P (.bl (ns.any fun n => n != 0)) μ) : relC (rAnyU K) [.lst (ns.map D.int)] μ P := rc_r fun vs G H h r Q q => by
  cases r with
  | cons a r =>
    cases r
    cases a with
    | lst a s =>
      have e := s.ints
      subst e
      exact ⟨_, _, rfl, SqL.of (h.ex _ _ a), q _ _ μ G H (Ex.refl G) h (.bl _) p⟩
theorem u_intI {i : Int} (p : P (.int i) μ) : relC rIntU [.int i] μ P := rc_l (rc_intI p)
theorem u_intB {b : Bool} (p : P (.int (if b then 1 else 0)) μ) : relC rIntU [.bl b] μ P := rc_l (rc_intB p)
theorem u_intS {a : Str} {n : Int} (h1 : PySem.intText? a = some n) (h2 : a.length ≤ 640) (p : P (.int n) μ) : relC rIntU [.str a] μ P := rc_r fun vs G H h r Q q => by
  cases r with
  | cons b r =>
    cases r
    cases b
    exact ⟨a, n, rfl, h1, h2, q _ _ μ G H (Ex.refl G) h (.int _) p⟩
/-- isinstance with an own class -/
structure InsK (K : PySem.W.Frag) (C : Addr) : Prop where
  cl : Cls K C
  ha : PySem.W.findIn K (.ref C) "__class__" = some (some (.builtin "object.__class__"))
  hn : PySem.W.specialIn K (.builtin "object.__class__") "__get__" = some (some (.builtin "getset_descriptor.__get__"))
  htk : PySem.W.takesIn K (.builtin "object.__class__") = some true
  hm : PySem.W.mroIn K C (.type "object") = some true
theorem rc_isiO {C C' : Addr} {fs : List (Str × D)} {b : Bool} (c : InsK K C) (hk : PySem.W.kitOne K (.ref C) (.ref C') = some b) (p : P (.bl b) μ) : relC (rIsi K) [.obj C fs, .cell C'] μ P := fun vs G H h r Q q => by
  cases r with
  | cons a r =>
    cases r with
    | cons c' r =>
      cases r; cases c'
      cases a with
      | obj e s => exact ⟨_, _, _, _, b, rfl, .own C', .base (.ins (h.ex _ _ e) c.cl c.ha c.hn c.htk c.hm), hk, q _ _ μ G H (Ex.refl G) h (.bl _) p⟩
theorem rc_isiM {a C C' dx : Addr} {fs : List (Str × D)} {b : Bool} (m : μ a = some (.ins C dx fs)) (c : InsK K C) (hk : PySem.W.kitOne K (.ref C) (.ref C') = some b) (p : P (.bl b) μ) : relC (rIsi K) [.cell a, .cell C'] μ P := fun vs G H h r Q q => by
  cases r with
  | cons a r =>
    cases r with
    | cons c' r =>
      cases r; cases c'; cases a
      obtain ⟨g, o, ho, mr⟩ := h.mu _ _ m
      cases mr with
      | ins s => exact ⟨_, _, _, _, b, rfl, .own C', .base (.ins ho c.cl c.ha c.hn c.htk c.hm), hk, q _ _ μ G H (Ex.refl G) h (.bl _) p⟩
/-- data that is no instance, against an own class -/
theorem rc_isiD {C' : Addr} {x : D} {n : String} {b : Bool} (hx : tyD x = some n) (hk : PySem.W.kitOne K (.type n) (.ref C') = some b) (p : P (.bl b) μ) : relC (rIsi K) [x, .cell C'] μ P := fun vs G H h r Q q => by
  cases r with
  | cons a r =>
    cases r with
    | cons c' r =>
      cases r; cases c'
      exact ⟨_, _, _, _, b, rfl, .own C', tyX_of h.ex hx a, hk, q _ _ μ G H (Ex.refl G) h (.bl _) p⟩
end

/-! ### classes and methods -/
section
variable {X : Cx} {E : L2.St → XK} {te : TE} {t : TA}
def tMakeS (C : Addr) (sp : Sp) (E : L2.St → XK) (t : TA) : TE := fun σ H Q => t σ H fun vs H1 => ∀ x dx, H1 x = none → H1 dx = none → dx ≠ x →
  sp (.ref x :: vs) (upd (upd H1 dx (.own x)) x (.ins C dx [])) (fun v H2 => v = .non ∧ Q (.ref x) H2) (E σ)
/-- PassesAt for one state, as Passes -/
theorem passes_at {CX : CXT} {σ : L2.St} {e : XK} (h : PassesAt CX X σ e) : ∀ (pins : List (Addr × Obj)) (H : Hp) (s : Shared) (ev : Value) (s' : Shared), Inv X pins σ H s → CX X.stack H s e ev s' → X.xe ev s' := h
theorem run_makeS {CX : CXT} {k : Nat} {C f : Addr} {fd : FuncData} {ps : List Str} {sp : Sp} {pins : List (Addr × Obj)} {σ : L2.St} {H : Hp} {s : Shared} {Q : VK} {us : List Value} {vs : List V} (Mm : Mk X.K C f)
    (F : FnOk X.prog X.w X.K X.mg X.base CX k f fd ps sp) (hr : Room (k + 1) X.A) (hb : Binds X.K fd ps []) (hx : PassesAt CX X σ (E σ)) (I : Inv X pins σ H s) (r : Vals vs us)
    (h : ∀ x dx, H x = none → H dx = none → dx ≠ x → sp (.ref x :: vs) (upd (upd H dx (.own x)) x (.ins C dx [])) (fun v H2 => v = .non ∧ Q (.ref x) H2) (E σ)) :
    wpAny (model X.prog X.w) X.A (call (.ref C) us) (EP X pins σ Q) X.xe s := by
  have n := s.heap.objs.size
  have hq := h (s.heap.objs.size + 1) s.heap.objs.size (I.hok.fresh (Nat.le_succ _)) (I.hok.fresh (Nat.le_refl _)) (Nat.ne_of_lt (Nat.lt_succ_self _))
  have J := Inv.made (C := C) I
  have r2 : Vals (V.ref (s.heap.objs.size + 1) :: vs) (Value.ref (s.heap.objs.size + 1) :: us) := .cons rfl r
  have hl : (Value.ref (s.heap.objs.size + 1) :: us ++ []).length = ps.length := by
    rw [List.append_nil, ← r2.length]
    exact F.len _ _ _ _ hq
  have bb := hb _ (Value.ref (s.heap.objs.size + 1) :: us) J.kIn hl
  rw [List.append_nil] at bb
  refine wpAny_call (make_map (f := f) I.kIn Mm.makes Mm.init (beq_iff_eq.mp Mm.fn) (codeAny_mono
    (F.run _ X.stack _ _ ⟨Value.ref (s.heap.objs.size + 1) :: us, []⟩ (Value.ref (s.heap.objs.size + 1) :: us) _ _ (E σ) (hr.make C us []) (J.env0.make C us []) bb r2 hq) fun z s' hz => ?_))
  cases z with
  | error e => exact hx pins _ _ e s' J hz
  | ok fl =>
    cases fl with
    | ret u =>
      obtain ⟨v, H', I3, rv, ev, q3⟩ := J.after hz
      subst ev
      exact ⟨rv, ⟨V.ref (s.heap.objs.size + 1), H', I3, rfl, q3⟩⟩
    | next => exact False.elim hz
    | brk => exact False.elim hz
    | cont => exact False.elim hz
theorem pe_makeS {CX : CXT} {k : Nat} {C f : Addr} {fd : FuncData} {ps : List Str} {sp : Sp} {x : Str} {p pos : Pos} {e : Expr} {es : List Expr} (Mm : Mk X.K C f) (F : FnOk X.prog X.w X.K X.mg X.base CX k f fd ps sp) (hr : Room (k + 1) X.A) (hg : Gl X x)
    (hm : X.mg x = some (.ref C)) (hb : Binds X.K fd ps []) (hx : ∀ σ, PassesAt CX X σ (E σ)) (ha : PA X (e :: es) t) (hdb : (x == ("__debug__" : Str)) = false := by decide)
    (he : starEach (e :: es) X.env = (false, eval e X.env) :: starEach es X.env := by rfl) (hpl : (backTo pos (starEach es X.env)).any (·.1) = false := by rfl) : PE X (.Call (.Name x p) (e :: es) [] pos) (tMakeS C sp E t) := by
  refine ⟨fun pins s σ H Q I h => wpAny_Call_Name_kw (ld_glob I hg hm ?_ hdb)⟩
  refine PySem.W.callWith_K (h₀ := X.base) I.ok.mod.kin Mm.kp (thn (ha.run pos pins s σ H _ I h) fun us s1 y => ?_) he hpl
  obtain ⟨vs, H1, I1, r, q⟩ := y
  exact ⟨I1.kIn, run_makeS Mm F hr hb (hx σ) I1 r q⟩
def tMethS' (C : Addr) (m : Str) (sp : Sp) (E : L2.St → XK) (ta : TE) (t : TA) : TE := fun σ H Q => ta σ H fun x H1 => ∃ a dx fs, x = .ref a ∧ H1 a = some (.ins C dx fs) ∧ fs.lookup m = none ∧ t σ H1 fun vs H2 => sp (x :: vs) H2 Q (E σ)
theorem pe_methS' {CX : CXT} {k : Nat} {C f : Addr} {fd : FuncData} {ps : List Str} {sp : Sp} {m : Str} {o e : Expr} {es : List Expr} {apos pos : Pos} {ta : TE} {pl : Sem Bool} (ho : PE X o ta) (c : Cls X.K C) (hm : Meth X.K C m f)
    (F : FnOk X.prog X.w X.K X.mg X.base CX k f fd ps sp) (hr : Room k X.A) (hb : Binds X.K fd ps []) (hx : ∀ σ, PassesAt CX X σ (E σ)) (ha : PA X (e :: es) t)
    (ht : eval (.Call (.Attribute o m apos) (e :: es) [] pos) X.env = (do
      let ov ← eval o X.env
      standAt apos.atName
      let (f, first) ← holding [ov] (getMethod ov m pl)
      callWith pos f first (backTo pos (starEach (e :: es) X.env)) (backToKw pos (keywordEach [] X.env))) := by rfl)
    (hs : starEach (e :: es) X.env = (false, eval e X.env) :: starEach es X.env := by rfl) (hp : (backTo pos (starEach es X.env)).any (·.1) = false := by rfl) : PE X (.Call (.Attribute o m apos) (e :: es) [] pos) (tMethS' C m sp E ta t) := by
  refine ⟨fun pins s σ H Q I h => ?_⟩
  refine PySem.W.methodCall_KW (pl := pl) (thn (ho.run pins s σ H _ I h) fun u s1 y => ?_) ht
  obtain ⟨x, H1, I1, rx, a, dx, fs, ex, ea, l, q⟩ := y
  subst ex
  obtain rfl : u = Value.ref a := rx
  refine getmeth_ok I1 ea c hm l ?_
  refine PySem.W.callWith_K (first := [.ref a]) (h₀ := X.base) I1.ok.mod.kin hm.kp (thn (ha.run pos pins s1 σ H1 _ I1 q) fun us s2 y => ?_) hs hp
  obtain ⟨vs, H2, I2, r, q2⟩ := y
  exact ⟨I2.kIn, run_fnS (us := .ref a :: us) (vs := .ref a :: vs) F hr hb (hx σ) I2 (.cons rfl r) q2⟩
theorem pe_methS0 {CX : CXT} {k : Nat} {C f : Addr} {fd : FuncData} {ps : List Str} {sp : Sp} {m : Str} {o : Expr} {apos pos : Pos} {ta : TE} {pl : Sem Bool} (ho : PE X o ta) (c : Cls X.K C) (hm : Meth X.K C m f)
    (F : FnOk X.prog X.w X.K X.mg X.base CX k f fd ps sp) (hr : Room k X.A) (hb : Binds X.K fd ps []) (hx : ∀ σ, PassesAt CX X σ (E σ))
    (ht : eval (.Call (.Attribute o m apos) [] [] pos) X.env = (do
      let ov ← eval o X.env
      standAt apos.atName
      let (f, first) ← holding [ov] (getMethod ov m pl)
      callWith pos f first (backTo pos (starEach [] X.env)) (backToKw pos (keywordEach [] X.env))) := by rfl) : PE X (.Call (.Attribute o m apos) [] [] pos) (tMethS' C m sp E ta tNil) := by
  refine ⟨fun pins s σ H Q I h => ?_⟩
  refine PySem.W.methodCall_KW (pl := pl) (thn (ho.run pins s σ H _ I h) fun u s1 y => ?_) ht
  obtain ⟨x, H1, I1, rx, a, dx, fs, ex, ea, l, q⟩ := y
  subst ex
  obtain rfl : u = Value.ref a := rx
  refine getmeth_ok I1 ea c hm l ?_
  exact PySem.W.callWith_K0 (first := [.ref a]) I1.kIn hm.kp (run_fnS (us := [.ref a]) (vs := [.ref a]) F hr hb (hx σ) I1 (.cons rfl .nil) q)
end
section
variable (P : Program) (w : World) (K : PySem.W.Frag) (mg : Str → Option Value) (base : Heap)
def SrcM (C : Addr) (m qual : Str) (st : Stmt) (ps : List Str) : Prop := ∃ (f : Addr) (fd : FuncData), Fun K m qual st f fd ∧ Meth K C m f ∧ Binds K fd ps []
def DefM (C : Addr) (k : Nat) (m : Str) (ps : List Str) (S : DSp) : Prop := ∃ (f : Addr) (fd : FuncData), FnOk P w K mg base (L2.CX P w) k f fd ps (spOf S) ∧ Meth K C m f ∧ Binds K fd ps []
/-- an __init__ -/
def SrcI (C : Addr) (qual : Str) (st : Stmt) (ps : List Str) : Prop := ∃ (f : Addr) (fd : FuncData), Fun K "__init__" qual st f fd ∧ Mk K C f ∧ Binds K fd ps []
def DefI (C : Addr) (k : Nat) (ps : List Str) (S : DSp) : Prop := ∃ (f : Addr) (fd : FuncData), FnOk P w K mg base (L2.CX P w) k f fd ps (spOf S) ∧ Mk K C f ∧ Binds K fd ps []
end
section
variable {P : Program} {w : World} {K : PySem.W.Frag} {mg : Str → Option Value} {base : Heap}
theorem DefM.of {C : Addr} {m qual : Str} {st : Stmt} {N ps : List Str} {k : Nat} {S : DSp} (s : SrcM K C m qual st ps) (sc : FnScope N ps (defScope st)) (len : ∀ ds μ Q X, S ds μ Q X → ds.length = ps.length)
    (hb : ∀ (f : Addr) (cdv : Value) (A : Around) (outer : List PySem.Env) (s : Shared) (H : Hp) (E : XK), Room k (A.deeper (envOfC qual (defScope st) s.heap.objs.size f cdv)) →
      Takes (cxOf (L2.CX P w) P w K mg base N qual (defScope st) f cdv A outer s H E) (wOut E) →
      ∃ t, PSs (cxOf (L2.CX P w) P w K mg base N qual (defScope st) f cdv A outer s H E) (defBody st) t ∧ ∀ ds μ Q X, S ds μ Q X → wpS (wOut E) (fun x _ μ => X x μ) t (startD N ds) μ { nx := fun _ μ => Q .non μ, rt := Q }) :
    DefM P w K mg base C (k + 1) m ps S := by
  obtain ⟨f, fd, F, mm, b⟩ := s
  exact ⟨f, fd, fn_body F sc len (hb f), mm, b⟩
theorem DefI.of {C : Addr} {qual : Str} {st : Stmt} {N ps : List Str} {k : Nat} {S : DSp} (s : SrcI K C qual st ps) (sc : FnScope N ps (defScope st)) (len : ∀ ds μ Q X, S ds μ Q X → ds.length = ps.length)
    (hb : ∀ (f : Addr) (cdv : Value) (A : Around) (outer : List PySem.Env) (s : Shared) (H : Hp) (E : XK), Room k (A.deeper (envOfC qual (defScope st) s.heap.objs.size f cdv)) →
      Takes (cxOf (L2.CX P w) P w K mg base N qual (defScope st) f cdv A outer s H E) (wOut E) →
      ∃ t, PSs (cxOf (L2.CX P w) P w K mg base N qual (defScope st) f cdv A outer s H E) (defBody st) t ∧ ∀ ds μ Q X, S ds μ Q X → wpS (wOut E) (fun x _ μ => X x μ) t (startD N ds) μ { nx := fun _ μ => Q .non μ, rt := Q }) :
    DefI P w K mg base C (k + 1) ps S := by
  obtain ⟨f, fd, F, mm, b⟩ := s
  exact ⟨f, fd, fn_body F sc len (hb f), mm, b⟩
end
section
variable {W : WX} {Z : XP} {ρ : Rho} {μ : M} {P : D → M → Prop} {ta : TA} {to : TE} {S : DSp} {E : L2.St → XK} {C : Addr} {m : Str}
theorem wp_makeS (hE : ∀ σ, E σ = WE W σ) (h : wpA W Z ta ρ μ fun ds μ1 => ∀ x dx, μ1 x = none → S (.cell x :: ds) (updM μ1 x (.ins C dx [])) (fun d μ2 => P (.cell x) μ2) fun e μ2 => Z e ρ μ2) (hnon : ∀ ds μ P X, S ds μ P X → S ds μ (fun d μ2 => d = .non ∧ P d μ2) X) :
    wp W Z (tMakeS C (spOf S) E ta) ρ μ P := fun σ G H e ho z Q q =>
  h σ G H e ho z _ fun vs ds μ1 G1 H1 a1 h1 r1 p1 x dx nx ndx nex => by
    have h2 : Hold μ1 G1 (upd H1 dx (.own x)) := h1.newX ndx
    have nx2 : (upd H1 dx (.own x)) x = none := by rw [upd_ne (fun z => nex z.symm)]; exact nx
    have h3 := h2.newM (o := .ins C dx []) (m := .ins C dx []) nx2 (.ins .nil)
    refine ⟨.cell x :: ds, _, G1, _, _, hnon _ _ _ _ (p1 x dx (h1.fresh nx).2), .cons (.cell x) r1, h3, ?_, ?_⟩
    · rintro v d μ' G' H' a h' r ⟨rfl, p⟩
      cases r
      exact ⟨rfl, q _ _ μ' G' H' (a1.trans a) h' (.cell x) p⟩
    · intro cls dd y μ' G' H' a h' r p
      rw [hE]
      exact z cls dd y ρ μ' σ G' H' (a1.trans a) (e.mono (a1.trans a)) h' r p
/-- .. where nothing is let out -/
theorem wp_makeS0 (h : wpA W Z ta ρ μ fun ds μ1 => ∀ x dx, μ1 x = none → S (.cell x :: ds) (updM μ1 x (.ins C dx [])) (fun d μ2 => d = .non ∧ P (.cell x) μ2) fun e μ2 => False) :
    wp W Z (tMakeS C (spOf S) E ta) ρ μ P := fun σ G H e ho z Q q =>
  h σ G H e ho z _ fun vs ds μ1 G1 H1 a1 h1 r1 p1 x dx nx ndx nex => by
    have h2 : Hold μ1 G1 (upd H1 dx (.own x)) := h1.newX ndx
    have nx2 : (upd H1 dx (.own x)) x = none := by rw [upd_ne (fun z => nex z.symm)]; exact nx
    have h3 := h2.newM (o := .ins C dx []) (m := .ins C dx []) nx2 (.ins .nil)
    refine ⟨.cell x :: ds, _, G1, _, _, p1 x dx (h1.fresh nx).2, .cons (.cell x) r1, h3, ?_, ?_⟩
    · rintro v d μ' G' H' a h' r ⟨rfl, p⟩
      cases r
      exact ⟨rfl, q _ _ μ' G' H' (a1.trans a) h' (.cell x) p⟩
    · intro cls dd y μ' G' H' a h' r p
      exact p.elim
theorem wp_methS (hE : ∀ σ, E σ = WE W σ) (h : wp W Z to ρ μ fun o μ1 => ∃ a dx fs, o = .cell a ∧ μ1 a = some (.ins C dx fs) ∧ fs.lookup m = none ∧ wpA W Z ta ρ μ1 fun ds μ2 => S (.cell a :: ds) μ2 P fun e μ2 => Z e ρ μ2) :
    wp W Z (tMethS' C m (spOf S) E to ta) ρ μ P := fun σ G H e ho z Q q =>
  h σ G H e ho z _ fun v o μ1 G1 H1 a1 h1 r1 p1 => by
    obtain ⟨a, dx, fs, rfl, hm, hl, p⟩ := p1
    cases r1
    obtain ⟨_, o, eo, mr⟩ := h1.mu a _ hm
    cases mr with
    | ins s =>
      refine ⟨_, _, _, rfl, eo, s.none hl, ?_⟩
      refine p σ G1 H1 (e.mono a1) h1 (z.mono a1) _ fun vs ds μ2 G2 H2 a2 h2 r2 p2 => ?_
      refine ⟨.cell a :: ds, μ2, G2, P, _, p2, .cons (.cell a) r2, h2, fun v d μ' G' H' a h' r p => q v d μ' G' H' ((a1.trans a2).trans a) h' r p, fun cls dd x μ' G' H' a h' r p => ?_⟩
      rw [hE]
      exact z cls dd x ρ μ' σ G' H' ((a1.trans a2).trans a) (e.mono ((a1.trans a2).trans a)) h' r p
theorem wp_methS0 (h : wp W Z to ρ μ fun o μ1 => ∃ a dx fs, o = .cell a ∧ μ1 a = some (.ins C dx fs) ∧ fs.lookup m = none ∧ wpA W Z ta ρ μ1 fun ds μ2 => S (.cell a :: ds) μ2 P fun _ _ => False) :
    wp W Z (tMethS' C m (spOf S) E to ta) ρ μ P := fun σ G H e ho z Q q =>
  h σ G H e ho z _ fun v o μ1 G1 H1 a1 h1 r1 p1 => by
    obtain ⟨a, dx, fs, rfl, hm, hl, p⟩ := p1
    cases r1
    obtain ⟨_, o, eo, mr⟩ := h1.mu a _ hm
    cases mr with
    | ins s =>
      refine ⟨_, _, _, rfl, eo, s.none hl, ?_⟩
      refine p σ G1 H1 (e.mono a1) h1 (z.mono a1) _ fun vs ds μ2 G2 H2 a2 h2 r2 p2 => ?_
      exact ⟨.cell a :: ds, μ2, G2, P, _, p2, .cons (.cell a) r2, h2, fun v d μ' G' H' a h' r p => q v d μ' G' H' ((a1.trans a2).trans a) h' r p, fun cls dd x μ' G' H' a h' r p => p.elim⟩
/-- raise X() -/
theorem wpS_raise {F : Fin} (h : Z ⟨.ref C, none⟩ ρ μ) : wpS W Z (fun _ σ H => W (.ref C) none σ H) ρ μ F := fun σ G H e ho z E k => z _ _ ⟨.ref C, none⟩ ρ μ σ G H (Ex.refl G) e ho ⟨rfl, rfl⟩ h
end

/-! ### len({e: True for x in xs}): how many texts differ -/
section
variable {J : It} {n : Nat} {Gd : Hp → Prop} {Y : Nat → Hp → V → Hp → Prop}
theorem dc_it (w : Walk J n Gd Y) {g : TG} {tt : TT} {tk tv : TE} {vs : List Nat} {σ : L2.St} {H1 : Hp} {D : Addr} {Qd : Hp → Prop} (Pv : Nat → Hp → Prop) (h0 : Pv 0 (upd H1 D (.dK []))) (hG : ∀ i H, i ≤ n → Pv i H → Gd H)
    (hs : ∀ i x H H', i < n → Pv i H → Y i H x H' → g x (wipe σ vs) H' fun σ2 H2 => wipe σ2 vs = wipe σ vs ∧ tt σ2 H2 fun b H3 =>
      if b = true then tk σ2 H3 fun y H4 => tv σ2 H4 fun z H5 => ∃ kvs k, y = kV k ∧ H5 D = some (.dK kvs) ∧ kvs.length < sizeLine ∧ Pv (i + 1) (upd H5 D (.dK (putK kvs k z))) else Pv (i + 1) H3) (hd : ∀ H, Pv n H → Qd H) :
    ∃ W : Nat → Nat → Hp → Prop, (∃ m, W 0 m (upd H1 D (.dK []))) ∧ ∀ i m H, W i m H →
      (J.stop i H ∧ Qd H) ∨ (J.go i H ∧ ∃ Nx : Hp → Prop, (∀ H', Nx H' → ∃ m', m' < m ∧ W (i + 1) m' H') ∧ ∀ x H', J.yld i H x H' → g x (wipe σ vs) H' fun σ2 H2 => wipe σ2 vs = wipe σ vs ∧ tt σ2 H2 fun b H3 =>
        if b = true then tk σ2 H3 fun y H4 => tv σ2 H4 fun z H5 => ∃ kvs k, y = kV k ∧ H5 D = some (.dK kvs) ∧ kvs.length < sizeLine ∧ Nx (upd H5 D (.dK (putK kvs k z))) else Nx H3) := by
  refine ⟨fun i m H => m + i = n ∧ Pv i H, ⟨n, rfl, h0⟩, fun i m H hW => ?_⟩
  obtain ⟨hm, p⟩ := hW
  have q := hG i H (by omega) p
  cases m with
  | zero =>
    have e : i = n := by omega
    subst e
    exact .inl ⟨w.stops H q, hd H p⟩
  | succ m =>
    have hlt : i < n := by omega
    exact .inr ⟨w.goes i H hlt q, Pv (i + 1), fun H' p' => ⟨m, Nat.lt_succ_self m, by omega, p'⟩, fun x H' y => hs i x H H' hlt p (w.yields i H x H' hlt q y)⟩
end
section
variable {W : WX} {Z : XP} {ρ : Rho} {μ : M} {P : D → M → Prop} {K : PySem.W.Frag} {tk tv : TE} {wi : TI} {g : TG} {vs : List Nat}
def rLenD : List V → Hp → VK → Prop := fun xs H Q => ∃ a kvs, xs = [V.ref a] ∧ H a = some (.dK kvs) ∧ Q (.int (kvs.length : Nat)) H
theorem call_lenD' {X : Cx} : CallR X (.builtin "len") rLenD := call_lenD
theorem yes_of {σ : L2.St} {H : Hp} {f : Bool → Hp → Prop} (h : f true H) : tYes σ H f := h
theorem wp_lenDc {α : Type} (ys : List α) (enc : α → D) (is : List Nat) (ρ' : α → Rho) (key : α → Str) (his : ∀ j ∈ is, j ∈ vs)
    (hg : ∀ y ∈ ys, wpG g is (enc y) (wipeD ρ vs) (ρ' y)) (hk : ∀ y ∈ ys, ∀ μ2, wp W Z tk (ρ' y) μ2 fun d μ3 => d = .str (key y) ∧ μ3 = μ2) (hv : ∀ y ∈ ys, ∀ μ2, wp W Z tv (ρ' y) μ2 fun d μ3 => d = .bl true ∧ μ3 = μ2)
    (h : wpI W Z wi ρ μ fun xs μ1 => xs = ys.map enc ∧ ys.length ≤ 1000000 ∧ ∀ n : Nat, n ≤ ys.length → (n = ys.length ↔ (ys.map key).Nodup) → P (.int (n : Nat)) μ1) :
    wp W Z (tCB rLenD (tCons (tDc wi g tYes tk tv vs) tNil)) ρ μ P := fun σ G H e ho z Q q =>
  h σ G H e ho z _ fun J xs μ1 G1 H1 a1 h1 w p1 => by
    obtain ⟨rfl, hz, p⟩ := p1
    intro Dl hDl
    obtain ⟨Gd, Y, wk, hGd, hY⟩ := w
    refine dc_it wk (fun i H' => ∃ G2 kvs, Ex G1 G2 ∧ Hold (updM μ1 Dl (.raw (.dK kvs))) G2 H' ∧ kvs.length ≤ i ∧ (∀ k : Str, valV kvs (Sum.inr k : Key) = none ↔ k ∉ (ys.take i).map key) ∧ (kvs.length = i ↔ ((ys.take i).map key).Nodup)) ?_ ?_ ?_ ?_
    · exact ⟨G1, [], Ex.refl _, h1.newM hDl (.raw _), Nat.le_refl _, fun k => by simp [valV_nil], by simp⟩
    · rintro i H' _ ⟨G2, kvs, x1, h2, _⟩
      exact hGd H' (x1.trans h2.ex)
    · rintro i v Hc Hn hi ⟨G2, kvs, x1, h2, hle, hval, hnd⟩ y
      obtain ⟨G3, x, x2, h3, eh, ex, rx⟩ := hY i Hc v Hn _ G2 hi x1 h2 y
      rw [List.getElem?_map] at ex
      rw [List.length_map] at hi
      have hy : ys[i]? = some ys[i] := List.getElem?_eq_getElem hi
      rw [hy] at ex
      cases ex
      have hm : ys[i] ∈ ys := List.getElem_mem hi
      refine hg _ hm _ G3 Hn v (((e.mono a1).mono (x1.trans x2)).wipe vs) h3.ex rx _ fun σ' e' hw => ⟨by rw [hw vs his, wipe_wipe], ?_⟩
      refine yes_of ?_
      rw [if_pos rfl]
      have zz := z.mono (a1.trans (x1.trans x2))
      refine hk _ hm _ σ' G3 Hn e' h3 zz _ fun v4 d4 μ4 G4 H4 a4 h4 r4 p4 => ?_
      obtain ⟨rfl, rfl⟩ := p4
      refine hv _ hm _ σ' G4 H4 (e'.mono a4) h4 (zz.mono a4) _ fun v5 d5 μ5 G5 H5 a5 h5 r5 p5 => ?_
      obtain ⟨rfl, rfl⟩ := p5
      obtain ⟨g5, o5, e5, m5⟩ := h5.mu Dl _ updM_same
      cases m5
      cases r4
      refine ⟨kvs, Sum.inr (key ys[i]), rfl, e5, Nat.lt_of_lt_of_le (show kvs.length < 1000001 by omega) (by decide), G5, putK kvs (Sum.inr (key ys[i])) v5, ((x1.trans x2).trans a4).trans a5, ?_, ?_, ?_, ?_⟩
      · have := h5.write (p := Dl) (o := .dK (putK kvs (Sum.inr (key ys[i])) v5)) (m := .raw (.dK (putK kvs (Sum.inr (key ys[i])) v5))) updM_same (.raw _)
        rw [updM_updM] at this
        exact this
      · have := length_putK kvs (Sum.inr (key ys[i]) : Key) v5
        omega
      · intro k
        have hts : ys.take (i + 1) = ys.take i ++ [ys[i]] := by rw [List.take_add_one, hy]; rfl
        rw [valV_put, hts, List.map_append, List.mem_append]
        by_cases hk' : (Sum.inr k : Key) = Sum.inr (key ys[i])
        · rw [if_pos hk']
          have : k = key ys[i] := Sum.inr.inj hk'
          simp [this]
        · rw [if_neg hk', hval]
          have : k ≠ key ys[i] := fun q => hk' (by rw [q])
          simp [this]
      · have hts : ys.take (i + 1) = ys.take i ++ [ys[i]] := by rw [List.take_add_one, hy]; rfl
        rw [hts, List.map_append, List.nodup_append]
        cases hv' : valV kvs (Sum.inr (key ys[i]) : Key) with
        | none =>
          rw [putK_new _ hv', List.length_append]
          have hn := (hval _).mp hv'
          constructor
          · intro hl
            refine ⟨hnd.mp (by simpa using hl), by simp, fun a ha b hb => ?_⟩
            have : b = key ys[i] := by simpa using hb
            rw [this]
            exact fun e => hn (e ▸ ha)
          · intro hn'
            have := hnd.mpr hn'.1
            simp [this]
        | some w' =>
          have hin : key ys[i] ∈ (ys.take i).map key := Classical.byContradiction fun c => by
            rw [(hval _).mpr c] at hv'
            cases hv'
          have hl : (putK kvs (Sum.inr (key ys[i]) : Key) v5).length = kvs.length := by
            unfold putK
            rw [if_pos (by rw [valV_any, hv']; rfl), List.length_map]
          rw [hl]
          constructor
          · intro q; omega
          · intro hn'
            exact absurd rfl (hn'.2.2 _ hin (key ys[i]) (by simp))
    · rintro H' ⟨G2, kvs, x1, h2, hle, hval, hnd⟩
      rw [List.length_map] at hle hnd
      rw [List.take_of_length_le (Nat.le_refl _)] at hnd
      obtain ⟨g5, o5, e5, m5⟩ := h2.mu Dl _ updM_same
      cases m5
      refine ⟨Dl, kvs, rfl, e5, q _ _ μ1 G2 H' (a1.trans x1) ⟨h2.ex, fun a m em => h2.mu a m ?_⟩ (.int _) (p kvs.length hle hnd)⟩
      have hne : a ≠ Dl := fun z => by rw [z, (h1.fresh hDl).2] at em; cases em
      rw [updM_ne hne]
      exact em
end
end SB

/-! SBg: isinstance of plain data; the pure promise. -/
namespace SB
open PySem PySem.Spec PyProof.Rows L2
def isI : D → Bool
  | .int _ => true
  | .bl _ => true
  | _ => false
def isB : D → Bool
  | .bl _ => true
  | _ => false
def isS : D → Bool
  | .str _ => true
  | _ => false
def isT : D → Bool
  | .tup _ => true
  | _ => false
def isL : D → Bool
  | .lst _ => true
  | _ => false
section
variable {μ : M} {P : D → M → Prop} {K : PySem.W.Frag} {n : Nat} {x : D}
theorem kNint : kitB "NoneType" "int" = some false := by decide +kernel
theorem kBint : kitB "bool" "int" = some true := by decide +kernel
theorem kIint : kitB "int" "int" = some true := by decide +kernel
theorem kSint : kitB "str" "int" = some false := by decide +kernel
theorem kTint : kitB "tuple" "int" = some false := by decide +kernel
theorem kLint : kitB "list" "int" = some false := by decide +kernel
theorem kNbool : kitB "NoneType" "bool" = some false := by decide +kernel
theorem kBbool : kitB "bool" "bool" = some true := by decide +kernel
theorem kIbool : kitB "int" "bool" = some false := by decide +kernel
theorem kSbool : kitB "str" "bool" = some false := by decide +kernel
theorem kTbool : kitB "tuple" "bool" = some false := by decide +kernel
theorem kLbool : kitB "list" "bool" = some false := by decide +kernel
theorem kNstr : kitB "NoneType" "str" = some false := by decide +kernel
theorem kBstr : kitB "bool" "str" = some false := by decide +kernel
theorem kIstr : kitB "int" "str" = some false := by decide +kernel
theorem kSstr : kitB "str" "str" = some true := by decide +kernel
theorem kTstr : kitB "tuple" "str" = some false := by decide +kernel
theorem kLstr : kitB "list" "str" = some false := by decide +kernel
theorem kNtuple : kitB "NoneType" "tuple" = some false := by decide +kernel
theorem kBtuple : kitB "bool" "tuple" = some false := by decide +kernel
theorem kItuple : kitB "int" "tuple" = some false := by decide +kernel
theorem kStuple : kitB "str" "tuple" = some false := by decide +kernel
theorem kTtuple : kitB "tuple" "tuple" = some true := by decide +kernel
theorem kLtuple : kitB "list" "tuple" = some false := by decide +kernel
theorem kNlist : kitB "NoneType" "list" = some false := by decide +kernel
theorem kBlist : kitB "bool" "list" = some false := by decide +kernel
theorem kIlist : kitB "int" "list" = some false := by decide +kernel
theorem kSlist : kitB "str" "list" = some false := by decide +kernel
theorem kTlist : kitB "tuple" "list" = some false := by decide +kernel
theorem kLlist : kitB "list" "list" = some true := by decide +kernel
theorem rc_isInt (h : Shp n x) (p : P (.bl (isI x)) μ) : relC (rIsi K) [x, .ty "int"] μ P := by
  cases h with
  | non => exact rc_isi rfl kNint p
  | bl => exact rc_isi rfl kBint p
  | int => exact rc_isi rfl kIint p
  | str _ => exact rc_isi rfl kSint p
  | tup _ => exact rc_isi rfl kTint p
  | lst _ => exact rc_isi rfl kLint p
theorem rc_isBool (h : Shp n x) (p : P (.bl (isB x)) μ) : relC (rIsi K) [x, .ty "bool"] μ P := by
  cases h with
  | non => exact rc_isi rfl kNbool p
  | bl => exact rc_isi rfl kBbool p
  | int => exact rc_isi rfl kIbool p
  | str _ => exact rc_isi rfl kSbool p
  | tup _ => exact rc_isi rfl kTbool p
  | lst _ => exact rc_isi rfl kLbool p
theorem rc_isStr (h : Shp n x) (p : P (.bl (isS x)) μ) : relC (rIsi K) [x, .ty "str"] μ P := by
  cases h with
  | non => exact rc_isi rfl kNstr p
  | bl => exact rc_isi rfl kBstr p
  | int => exact rc_isi rfl kIstr p
  | str _ => exact rc_isi rfl kSstr p
  | tup _ => exact rc_isi rfl kTstr p
  | lst _ => exact rc_isi rfl kLstr p
theorem rc_isTup (h : Shp n x) (p : P (.bl (isT x)) μ) : relC (rIsi K) [x, .ty "tuple"] μ P := by
  cases h with
  | non => exact rc_isi rfl kNtuple p
  | bl => exact rc_isi rfl kBtuple p
  | int => exact rc_isi rfl kItuple p
  | str _ => exact rc_isi rfl kStuple p
  | tup _ => exact rc_isi rfl kTtuple p
  | lst _ => exact rc_isi rfl kLtuple p
theorem rc_isLst (h : Shp n x) (p : P (.bl (isL x)) μ) : relC (rIsi K) [x, .ty "list"] μ P := by
  cases h with
  | non => exact rc_isi rfl kNlist p
  | bl => exact rc_isi rfl kBlist p
  | int => exact rc_isi rfl kIlist p
  | str _ => exact rc_isi rfl kSlist p
  | tup _ => exact rc_isi rfl kTlist p
  | lst _ => exact rc_isi rfl kLlist p
end
section
variable {μ : M} {P : D → M → Prop} {K : PySem.W.Frag} {α : Type} {ys : List α}
theorem rc_allM {g : α → Bool} (p : P (.bl (ys.all g)) μ) : relC (rAll K) [.lst (ys.map fun y => .bl (g y))] μ P := by
  have h := rc_all (K := K) (P := P) (μ := μ) (bs := ys.map g) (by rw [List.all_map]; exact p)
  rw [List.map_map] at h
  exact h
theorem u_sumM {g : α → Int} (p : P (.int (ys.map g).sum) μ) : relC (rSumU K) [.lst (ys.map fun y => .int (g y))] μ P := by
  have h := u_sum (K := K) (P := P) (μ := μ) (ns := ys.map g) p
  rw [List.map_map] at h
  exact h
theorem u_anyM {g : α → Int} (p : P (.bl (ys.any fun y => g y != 0)) μ) : relC (rAnyU K) [.lst (ys.map fun y => .int (g y))] μ P := by
  have h := u_anyI (K := K) (P := P) (μ := μ) (ns := ys.map g) (by rw [List.any_map]; exact p)
  rw [List.map_map] at h
  exact h
end
/-- ints in a list (true), in a tuple -/
def seqD (k : Bool) (xs : List D) : D := if k then .lst xs else .tup xs
theorem seqD_s (k : Bool) (xs : List D) : SeqD (seqD k xs) xs k := by
  cases k
  · exact .tup
  · exact .lst
section
variable {W : WX} {Z : XP} {ρ : Rho} {μ : M} {K : PySem.W.Frag} {te : TE} {PI' : List D → M → Prop}
theorem wpI_seqB {k : Bool} (h : wp W Z te ρ μ fun d μ1 => ∃ xs, d = seqD k xs ∧ PI' xs μ1) : wpI W Z (iSeq K te) ρ μ PI' := by
  cases k
  · exact wpI_seqT h
  · exact wpI_seqL h
theorem u_lenB {P : D → M → Prop} {k : Bool} {xs : List D} (p : P (.int (xs.length : Nat)) μ) : relC (rLenU K) [seqD k xs] μ P := by
  cases k
  · exact u_lenT p
  · exact u_len p
theorem u_ixB {P : D → M → Prop} {k : Bool} {xs : List D} {i : Int} {d : D} (e : atI xs i = some d) (p : P d μ) : rel2 (rIx K) (seqD k xs) (.int i) μ P := by
  cases k
  · exact u_ixT e p
  · exact u_ixL e p
end
/-- a def that hands back res of its arguments and changes nothing -/
def Pu {α : Type} (enc : α → List D) (dom : α → Prop) (res : α → D) : DSp := fun ds μ P _ => ∃ a, ds = enc a ∧ dom a ∧ P (res a) μ
section
variable {W : WX} {Z : XP} {ρ : Rho} {μ : M} {P : D → M → Prop} {ta : TA} {E : L2.St → XK} {α : Type} {enc : α → List D} {dom : α → Prop} {res : α → D}
/-- a call of it -/
theorem wp_callP (h : wpA W Z ta ρ μ fun ds μ1 => ∃ a, ds = enc a ∧ dom a ∧ P (res a) μ1) : wp W Z (tCallS (spOf (Pu enc dom res)) E ta) ρ μ P := wp_call0 h
theorem atI_nn {α : Type} {xs : List α} {j : Nat} {d : α} (h : xs[j]? = some d) : atI xs (j : Int) = some d := by
  unfold atI ixN
  have h1 := (List.getElem?_eq_some_iff.mp h).1
  rw [if_pos (Int.natCast_nonneg j), if_pos (by omega : (j : Int) < (xs.length : Int))]
  show xs[(j : Int).toNat]? = some d
  rw [Int.toNat_natCast, h]
theorem atI_0 {x : D} {xs : List D} : atI (x :: xs) 0 = some x := atI_nn (j := 0) rfl
theorem atI_1 {x y : D} {xs : List D} : atI (x :: y :: xs) 1 = some y := atI_nn (j := 1) rfl
theorem atI_2 {x y z : D} {xs : List D} : atI (x :: y :: z :: xs) 2 = some z := atI_nn (j := 2) rfl
end
end SB

/-! SBh: the rules with the written part named, for use within comprehensions. -/
namespace SB
open PySem PySem.Spec PyProof.Rows L2
section
variable {X : Cx} (K : PySem.W.Frag)
theorem kAdd (h : X.K = K) : OpR X (binaryOp .Add) (rAddU K) := by subst h; exact op_addU
theorem kIn (h : X.K = K) : OpR X (compareOp .In) (rInU K false) := by subst h; exact op_inU
theorem kNotIn (h : X.K = K) : OpR X (compareOp .NotIn) (rInU K true) := by subst h; exact op_notInU
theorem kEq (h : X.K = K) (hu : X.A.units + 64 < cLine) : OpR X (compareOp .Eq) (rEqD K) := by subst h; exact op_eqD hu
theorem kNe (h : X.K = K) (hu : X.A.units + 64 < cLine) : OpR X (compareOp .NotEq) (rNeD K) := by subst h; exact op_neD hu
theorem kIx (h : X.K = K) : IxR X (rIx K) := by subst h; exact ix_seq
theorem kSl (h : X.K = K) : SlR X (rSlU K) := by subst h; exact sl_any
theorem kLen (h : X.K = K) : CallR X (.builtin "len") (rLenU K) := by subst h; exact call_lenU
theorem kSum (h : X.K = K) (hc : X.calm = true) : CallR X (.builtin "sum") (rSumU K) := by subst h; exact call_sumU hc
theorem kAll (h : X.K = K) (hc : X.calm = true) : CallR X (.builtin "all") (rAll K) := by subst h; exact cr_all hc
theorem kAny (h : X.K = K) (hc : X.calm = true) : CallR X (.builtin "any") (rAnyU K) := by subst h; exact call_anyU hc
theorem kMax1 (h : X.K = K) (hc : X.calm = true) : CallR X (.builtin "max") (rMax K) := by subst h; exact cr_max hc
theorem kMin1 (h : X.K = K) (hc : X.calm = true) : CallR X (.builtin "min") (rMin K) := by subst h; exact cr_min hc
theorem kIsi (h : X.K = K) : CallR X (.builtin "isinstance") (rIsi K) := by subst h; exact call_isi
def rTupleOf (K : PySem.W.Frag) : List V → Hp → VK → Prop := fun xs H Q => ∃ p ys, xs = [.ref p] ∧ ((SqL K H p ys ∧ ∀ l, H l = none → Q (.ref l) (upd H l (.tup ys))) ∨ (SqT K H p ys ∧ Q (.ref p) H))
theorem kTuple (h : X.K = K) : CallR X (.type "tuple") (rTupleOf K) := by subst h; exact call_tuple_of
def rListOf (K : PySem.W.Frag) : List V → Hp → VK → Prop := fun xs H Q => ∃ p ys, xs = [.ref p] ∧ (SqL K H p ys ∨ SqT K H p ys) ∧ ∀ l, H l = none → Q (.ref l) (upd H l (.lst ys))
theorem kList (h : X.K = K) : CallR X (.type "list") (rListOf K) := by subst h; exact call_list_of
theorem kFld {e : Expr} {f : Str} {pos : Pos} {ta : TE} (h : X.K = K) (he : PE X e ta) (hb : attributeBase e f X.env (eval e X.env) = eval e X.env) : PE X (.Attribute e f pos) (tFld K ta f) := by subst h; exact pe_fld he hb
theorem kFldS {o value : Expr} {f : Str} {pos pos' : Pos} {ta tv : TE} (h : X.K = K) (ha : PE X o ta) (hv : PE X value tv) (hs : swapsWith value (some (.Attribute o f pos')) pos.line X.env = pure false) : PS X (.Assign [.Attribute o f pos'] value pos) (sFld K ta tv f) := by subst h; exact ps_fld ha hv hs
theorem kTru {e : Expr} {te : TE} (h : X.K = K) (ha : PE X e te) (he : ∀ whole, isTrue e X.env whole = (do let v ← whole; standAt e.pos; holding [v] (truthy v))) : PT X e (tTruU K te) := by subst h; exact pt_tru ha he
theorem kSeq {tg e : Expr} {te : TE} (h : X.K = K) (he : PE X e te) : PI X tg e (iSeq K te) := by subst h; exact pi_seq he
theorem kZip {e e2 : Expr} {ta : TA} {p pos tpos : Pos} {elts : List Expr} {kk : Nat} (h : X.K = K) (hg : Gl X "zip") (hm : X.mg "zip" = none) (ha : PA X [e, e2] ta)
    (hs : starEach [e, e2] X.env = (false, eval e X.env) :: starEach [e2] X.env := by rfl) (hpl : (backTo pos (starEach [e2] X.env)).any (·.1) = false := by rfl) :
    PI X (.Tuple elts kk tpos) (.Call (.Name "zip" p) [e, e2] [] pos) (iZipB K ta) := by subst h; exact pi_zipB hg hm ha hs hpl
theorem kEnum {e : Expr} {ta : TA} {p pos tpos : Pos} {elts : List Expr} {kk : Nat} (h : X.K = K) (hg : Gl X "enumerate") (hm : X.mg "enumerate" = none) (ha : PA X [e] ta) (hs : starEach [e] X.env = [(false, eval e X.env)] := by rfl) :
    PI X (.Tuple elts kk tpos) (.Call (.Name "enumerate" p) [e] [] pos) (iEnum K ta) := by subst h; exact pi_enum hg hm ha hs
theorem kTup {es : List Expr} {k : Nat} {t : TGs} {n : Nat} {pos : Pos} (hK : X.K = K) (hc : X.calm = true) (h : PGs X es t)
    (hn : (assignEach es X.env).length = n := by rfl) (hst : (assignEach es X.env).findIdx? (·.1) = none := by rfl) : PG X (.Tuple es k pos) (gTup K n t) := by subst hK; exact pg_tup hc h hn hst
theorem kApp {o e : Expr} {to te : TE} {apos cpos : Pos} (h : X.K = K) (ho : PE X o to) (ha : PA X [e] (tCons te tNil))
    (hbase : attributeBase o "append" X.env (eval o X.env) = eval o X.env := by rfl)
    (hline : (apos.endLine == cpos.line) = true := by rfl) (hs : starEach [e] X.env = (false, eval e X.env) :: starEach [] X.env := by rfl) (hplain : (backTo cpos (starEach [] X.env)).any (·.1) = false := by rfl)
    (hfew : ((backTo cpos (starEach [e] X.env)).all (fun x => !x.1) && (backToKw cpos (keywordEach [] X.env)).all (fun x => x.1.isSome)
      && decide (([e] : List Expr).length + ([] : List Keyword).length + (if ([] : List Keyword).isEmpty then 0 else 1) < 30)) = true := by rfl) :
    PE X (.Call (.Attribute o "append" apos) [e] [] cpos) (tBM K "list" rAppend to (tCons te tNil)) := by
  subst h
  exact pe_bm PySem.F.plainAttrs_list PySem.F.slot_list_append PySem.F.type_list_append mt_append ho ha hbase hfew hline hs hplain
end
section
variable {μ : M} {P : D → M → Prop} {K : PySem.W.Frag}
theorem k_tuple {xs : List D} (p : P (.tup xs) μ) : relC (rTupleOf K) [.lst xs] μ P := rc_tuple p
theorem k_tupleM {b : Addr} {xs : List D} (m : μ b = some (.lst xs)) (p : P (.tup xs) μ) : relC (rTupleOf K) [.cell b] μ P := rc_tupleM m p
theorem k_list {xs : List D} {d : D} (hd : d = .lst xs ∨ d = .tup xs) (p : P (.lst xs) μ) : relC (rListOf K) [d] μ P := rc_list hd p
theorem k_listM {xs : List D} {d : D} (hd : d = .lst xs ∨ d = .tup xs) (p : ∀ l, μ l = none → P (.cell l) (updM μ l (.lst xs))) : relC (rListOf K) [d] μ P := rc_listM hd p
/-- a list that is known to stand at a -/
def scriptD (K : PySem.W.Frag) (a : Addr) (ns : List Int) : D := .known a fun H => SqL K H a (ns.map V.int)
theorem rep_ints {G : Hp} : ∀ ns : List Int, Reps G (ns.map V.int) (ns.map D.int)
  | [] => .nil
  | n :: ns => .cons (.int n) (rep_ints ns)
theorem k_listF {a : Addr} {ns : List Int} (p : P (.lst (ns.map D.int)) μ) : relC (rListOf K) [scriptD K a ns] μ P := fun vs G H h r Q q => by
  cases r with
  | cons b r =>
    cases r
    cases b with
    | known f =>
      refine ⟨_, _, rfl, .inl (f _ h.ex), fun l hl => ?_⟩
      obtain ⟨x, h2⟩ := h.newD (o := .lst (ns.map V.int)) hl
      exact q _ _ μ _ _ x h2 (.lst upd_same (rep_ints ns)) p
end
/-- an exception class of the text, without a method of its own -/
structure ExcF (K : PySem.W.Frag) (mg : Str → Option Value) (x : Str) (C : Addr) : Prop where
  mgC : mg x = some (.ref C)
  xP : PySem.W.excIn K C [.type "ValueError", .type "Exception", .type "BaseException", .type "object"] "ValueError.__new__" = true
  kP : PySem.W.keepIn K (.ref C) = true
  bP : PySem.W.subIn K (.ref C) (.type "BaseException") = some true
  tP : PySem.W.typeIn K (.ref C) = some (.type "type")
  self : PySem.W.exmOne K (.ref C) (.ref C) = some true
/-- the class Desk -/
structure DeskF (K : PySem.W.Frag) (mg : Str → Option Value) (C : Addr) : Prop where
  mgC : mg "Desk" = some (.ref C)
  ins : InsK K C
  nL : NoAttr K C "lives"
  nC : NoAttr K C "checks"
  self : PySem.W.kitOne K (.ref C) (.ref C) = some true
  nfS : PySem.W.notFirst K C (.ref C) = true
  nfL : PySem.W.notFirst K C (.type "list") = true
  kL : PySem.W.kitOne K (.type "list") (.ref C) = some false
theorem DeskF.cl {K : PySem.W.Frag} {mg : Str → Option Value} {C : Addr} (d : DeskF K mg C) : Cls K C := d.ins.cl
end SB

/-! SBi: == by an own __eq__; try .. except. -/
namespace SB
open PySem PySem.Spec PyProof.Rows L2
section
variable {X : Cx} {pins : List (Addr × Obj)} {σ : L2.St} {H : Hp} {s : Shared}
theorem looks_at {M : Model} {h : Heap} {a : Addr} {o : Obj} {t : Value} (e : h.get? a = some o) (c : o.cls = t) : PySem.W.Looks M h (typeOf (.ref a)) t := c ▸ (PySem.W.Looks.ld e).andThen .now
theorem looks_ty {x : V} {u t : Value} (I : Inv X pins σ H s) (rx : RelV x u) (ty : TyX X.K H x t) : PySem.W.Looks (model X.prog X.w) s.heap (typeOf u) t := by
  cases ty with
  | base b =>
    cases b with
    | non => cases (show u = Value.none from rx); exact .of_pure rfl
    | bl y => cases (show u = Value.bool y from rx); exact .of_pure rfl
    | int i => obtain ⟨t, q⟩ := (show ∃ t, u = Value.int i t from rx); cases q; exact .of_pure rfl
    | str y => obtain ⟨t, q⟩ := (show ∃ t, u = Value.str y t from rx); cases q; exact .of_pure rfl
    | flt y => obtain ⟨t, q⟩ := (show ∃ t, u = Value.float y t from rx); cases q; exact .of_pure rfl
    | @lst a xs ea =>
      cases (show u = Value.ref a from rx)
      obtain ⟨_, _, n, _, h1⟩ := (show ObjOk X.prog X.w H s.heap a (.lst xs) from I.hok a _ ea)
      exact looks_at h1 rfl
    | @frz a ob xs ea =>
      cases (show u = Value.ref a from rx)
      obtain ⟨_, _, _, n, _, h1⟩ := (show ObjOk X.prog X.w H s.heap a (.frz ob (.lst xs)) from I.hok a _ ea)
      exact looks_at h1 rfl
    | @tup a xs ea =>
      cases (show u = Value.ref a from rx)
      obtain ⟨_, _, _, o, h1, h2, _⟩ := (show ObjOk X.prog X.w H s.heap a (.tup xs) from I.hok a _ ea)
      exact looks_at h1 h2
    | @dK a kvs ea =>
      cases (show u = Value.ref a from rx)
      obtain ⟨_, _, vs, _, o, es, ep, h1, h2, _⟩ := (show ObjOk X.prog X.w H s.heap a (.dK kvs) from I.hok a _ ea)
      exact looks_at h1 h2.1
    | @dT a kvs ea =>
      cases (show u = Value.ref a from rx)
      obtain ⟨_, _, xs, _, o, es, ep, h1, h2, _⟩ := (show ObjOk X.prog X.w H s.heap a (.dT kvs) from I.hok a _ ea)
      exact looks_at h1 h2.1
    | @ins a C dx fs ea cl ha hn htk hm =>
      cases (show u = Value.ref a from rx)
      obtain ⟨mA, O, _⟩ := ins_get I.hok ea
      obtain ⟨od, J, _⟩ := O.look
      exact J.type
  | byt y => obtain ⟨t, q⟩ := (show ∃ t, u = Value.bytes y t from rx); cases q; exact .of_pure rfl
  | @set a S n ea =>
    cases (show u = Value.ref a from rx)
    obtain ⟨o, _, _, _, e, ex, _⟩ := I.hok a _ ea
    exact looks_at e ex.1
  | @kList a o e c =>
    cases (show u = Value.ref a from rx)
    exact looks_at (I.kIn a o e) c
  | @kTuple a o e c =>
    cases (show u = Value.ref a from rx)
    exact looks_at (I.kIn a o e) c
  | @kDict a o e c =>
    cases (show u = Value.ref a from rx)
    exact looks_at (I.kIn a o e) c
  | @fTuple a ob xs ea =>
    cases (show u = Value.ref a from rx)
    obtain ⟨_, _, _, _, o, h1, h2, _⟩ := (show ObjOk X.prog X.w H s.heap a (.frz ob (.tup xs)) from I.hok a _ ea)
    exact looks_at h1 h2
  | @fDict a ob kvs ea =>
    cases (show u = Value.ref a from rx)
    obtain ⟨_, _, _, vs, _, o, es, ep, h1, h2, _⟩ := (show ObjOk X.prog X.w H s.heap a (.frz ob (.dK kvs)) from I.hok a _ ea)
    exact looks_at h1 h2.1
/-- x == y, x an instance of the class at C with an own __eq__ -/
def rEqO (K : PySem.W.Frag) (C : Addr) (sp : Sp) (E : XK) : R2 := fun x y H Q => ∃ a dx fs t, x = .ref a ∧ H a = some (.ins C dx fs) ∧ TyX K H y t ∧ PySem.W.notFirst K C t = true ∧ sp [x, y] H (fun v H' => ∃ b, v = .bl b ∧ Q (.bl b) H') E
theorem op_eqO {CX : CXT} {n : Nat} {C f : Addr} {fd : FuncData} {ps : List Str} {sp : Sp} {E : XK} (F : FnOk X.prog X.w X.K X.mg X.base CX n f fd ps sp)
    (hm : Meth X.K C "__eq__" f) (hb : Binds X.K fd ps []) (hx : ∀ σ, PassesAt CX X σ E) (hr : Room n X.A) : OpR X (compareOp .Eq) (rEqO X.K C sp E) := by
  intro pins s σ H x y v u Q I rx ry hq
  obtain ⟨a, dx, fs, t, rfl, ha, ty, nf, q⟩ := hq
  show wpAny (model X.prog X.w) X.A (richCompare .Eq v u) (EP X pins σ Q) X.xe s
  obtain rfl : v = Value.ref a := rx
  obtain ⟨mA, J, _⟩ := ins_get I.hok ha
  obtain ⟨od, J, _⟩ := J.look
  obtain ⟨m, hF⟩ := I.fr
  refine PySem.W.cmp_K (op := .Eq) (tb := t) hr.units0 hF I.ok.mod.kin J (looks_ty I ry ty) nf hm.at_ hm.fn ?_
  refine wpAny_mono (run_fnS (E := fun _ => E) (us := [.ref a, u]) (vs := [.ref a, y]) F hr hb (hx σ) I (.cons rfl (.cons ry .nil)) q) (fun r s' z => ?_) fun _ _ e => e
  obtain ⟨v', H', I', rv, b, rfl, q'⟩ := z
  cases rv
  exact ⟨.bl b, H', I', rfl, q'⟩
end
/-! ### by data -/
inductive TyDX (K : PySem.W.Frag) (μ : M) : D → Value → Prop
  | plain {x : D} {n : String} (h : tyD x = some n) : TyDX K μ x (.type n)
  | obj {C : Addr} {fs : List (Str × D)} (c : InsK K C) : TyDX K μ (.obj C fs) (.ref C)
  | cell {a C dx : Addr} {fs : List (Str × D)} (m : μ a = some (.ins C dx fs)) (c : InsK K C) : TyDX K μ (.cell a) (.ref C)
  | cellL {a : Addr} {xs : List D} (m : μ a = some (.lst xs)) : TyDX K μ (.cell a) (.type "list")
section
variable {K : PySem.W.Frag} {μ : M} {G H : Hp} {P : D → M → Prop}
theorem TyDX.at' {x : D} {t : Value} (h : Hold μ G H) {v : V} (r : Rep G v x) (ty : TyDX K μ x t) : TyX K H v t := by
  cases ty with
  | plain hx => exact tyX_of h.ex hx r
  | obj c => cases r with
    | obj e s => exact .base (.ins (h.ex _ _ e) c.cl c.ha c.hn c.htk c.hm)
  | cell m c =>
    cases r
    obtain ⟨g, o, ho, mr⟩ := h.mu _ _ m
    cases mr with
    | ins s => exact .base (.ins ho c.cl c.ha c.hn c.htk c.hm)
  | cellL m =>
    cases r
    obtain ⟨g, o, ho, mr⟩ := h.mu _ _ m
    cases mr with
    | lst s => exact .base (.lst ho)
theorem r_eqO {C : Addr} {fs : List (Str × D)} {y : D} {t : Value} {S : DSp} {E : XK} (ty : TyDX K μ y t) (nf : PySem.W.notFirst K C t = true)
    (h : S [.obj C fs, y] μ (fun d μ' => ∃ b, d = .bl b ∧ P (.bl b) μ') fun _ _ => False) : rel2 (rEqO K C (spOf S) E) (.obj C fs) y μ P := fun vx vy G H ho rx ry Q q => by
  cases rx with
  | obj e s =>
    refine ⟨_, _, _, t, rfl, ho.ex _ _ e, ty.at' ho ry, nf, _, μ, G, _, _, h, .cons (.obj e s) (.cons ry .nil), ho, ?_, fun _ _ _ _ _ _ _ _ _ z => z.elim⟩
    rintro v d μ' G' H' x h' r ⟨b, rfl, p⟩
    cases r
    exact ⟨b, rfl, q _ _ μ' G' H' x h' (.bl b) p⟩
theorem r_eqOM {a C dx : Addr} {fs : List (Str × D)} {y : D} {t : Value} {S : DSp} {E : XK} (m : μ a = some (.ins C dx fs)) (ty : TyDX K μ y t) (nf : PySem.W.notFirst K C t = true)
    (h : S [.cell a, y] μ (fun d μ' => ∃ b, d = .bl b ∧ P (.bl b) μ') fun _ _ => False) : rel2 (rEqO K C (spOf S) E) (.cell a) y μ P := fun vx vy G H ho rx ry Q q => by
  cases rx
  obtain ⟨g, o, e, mr⟩ := ho.mu _ _ m
  cases mr with
  | ins s =>
    refine ⟨_, _, _, t, rfl, e, ty.at' ho ry, nf, _, μ, G, _, _, h, .cons (.cell a) (.cons ry .nil), ho, ?_, fun _ _ _ _ _ _ _ _ _ z => z.elim⟩
    rintro v d μ' G' H' x h' r ⟨b, rfl, p⟩
    cases r
    exact ⟨b, rfl, q _ _ μ' G' H' x h' (.bl b) p⟩
theorem rc_isiX {C' : Addr} {x : D} {t : Value} {b : Bool} (ty : TyDX K μ x t) (hk : PySem.W.kitOne K t (.ref C') = some b) (p : P (.bl b) μ) : relC (rIsi K) [x, .cell C'] μ P := fun vs G H h r Q q => by
  cases r with
  | cons a r =>
    cases r with
    | cons c' r =>
      cases r; cases c'
      exact ⟨_, _, _, _, b, rfl, .own C', ty.at' h a, hk, q _ _ μ G H (Ex.refl G) h (.bl _) p⟩
end
/-! ### try: .. except C: -/
/-- what the body wishes of what leaves it -/
def zOnly (K : PySem.W.Frag) (c : Value) (ts : Addr → Value → Option Addr → TS) (W : WX) (Z : XP) (F : Fin) : XP := fun x ρ μ =>
  ∃ b, PySem.W.exmOne K x.cls c = some b ∧ (b = true → ∀ a dd, wpS W Z (ts a x.cls dd) ρ μ F) ∧ (b = false → Z x ρ μ)
section
variable {K : PySem.W.Frag} {c : Value} {ts : Addr → Value → Option Addr → TS} {W : WX} {Z : XP} {F : Fin} {tb : WX → TS} {ρ : Rho} {μ : M}
theorem wpS_tryOnly (h : ∀ W', wpS W' (zOnly K c ts W Z F) (tb W') ρ μ F) : wpS W Z (fun D σ H => tb (wOnly K c ts W D) D σ H) ρ μ F := fun σ G H e ho z E k => by
  refine h (wOnly K c ts W E) σ G H e ho ?_ E k
  rintro cls dd x ρ' μ' σ' G' H' a e' h' xr ⟨b, hb, h1, h2⟩
  obtain ⟨hc, hf⟩ := id xr
  subst hc
  refine ⟨b, hb, fun hb a' _ => h1 hb a' dd σ' G' H' e' h' (z.mono a) E (k.mono a), fun hb => z _ _ x ρ' μ' σ' G' H' a e' h' xr (h2 hb)⟩
end
end SB

/-! SBj: tuple * int with few turns, str * int, list + list that may change. -/
namespace SB
open PySem PySem.Spec PyProof.Rows L2
theorem tuple_mulW1 (l : Addr) (items : Array Value) (n : Nat) (dd : Option Addr) (sl : Array (Option Value)) (u : Tok) :
    Meets (Builtin.«tuple.__mul__» ⟨[.ref l, .int 1 u], []⟩) (fun _ R s => s.heap.get? l = some { cls := .type "tuple", dict := dd, data := .seq items n, slots := sl } ∧
      R (.ok (.ret (Value.ref l))) { s with heap := s.heap, toks := s.toks }) :=
  .of_wp fun prog w A R s h => by
    obtain ⟨hp, g, d, tk, os⟩ := s
    obtain ⟨hl, h⟩ := h
    have f1 := AutoSeq1.idx_int
    have c1 : (items.isEmpty || (1 : Int) == 1) = true := by simp
    wp_walk using wpAny_loadPart' hl
    repeat (first
      | (refine wpAny_ite_false (by decide) ?_; wp_walk using wpAny_loadPart' hl)
      | (refine wpAny_ite_true (decide_eq_true c1) ?_; wp_walk using wpAny_loadPart' hl))
    first | exact h | exact ⟨_, rfl, h⟩
theorem tuple_mulW0 (l : Addr) (items : Array Value) (n : Nat) (dd : Option Addr) (sl : Array (Option Value)) (u : Tok) (hi : items.isEmpty = false) :
    Meets (Builtin.«tuple.__mul__» ⟨[.ref l, .int 0 u], []⟩) (fun _ R s => s.heap.get? l = some { cls := .type "tuple", dict := dd, data := .seq items n, slots := sl } ∧
      R (.ok (.ret (Value.ref s.heap.objs.size))) { s with heap := s.heap.push { cls := Value.type "tuple", data := Data.seq #[] }, toks := s.toks }) :=
  .of_wp fun prog w A R s h => by
    obtain ⟨hp, g, d, tk, os⟩ := s
    obtain ⟨hl, h⟩ := h
    have f1 := AutoSeq1.idx_int
    have c1 : (items.isEmpty || (0 : Int) == 1) = false := by rw [hi]; rfl
    have c2 : (decide ((0 : Int) ≤ 0) || items.isEmpty) = true := by simp
    wp_walk using wpAny_loadPart' hl
    repeat (first
      | (refine wpAny_ite_false (by decide) ?_; wp_walk using wpAny_loadPart' hl)
      | (refine wpAny_ite_false (decide_eq_false (by rw [c1]; exact Bool.false_ne_true)) ?_; wp_walk using wpAny_loadPart' hl)
      | (refine wpAny_ite_true (decide_eq_true c2) ?_; wp_walk using wpAny_loadPart' hl))
    first | exact h | exact ⟨_, rfl, h⟩
def rRepT1 (K : PySem.W.Frag) : R2 := fun x y H Q => ∃ l xs, x = .ref l ∧ y = .int 1 ∧ SqT K H l xs ∧ Q (.ref l) H
def rRepT0 (K : PySem.W.Frag) : R2 := fun x y H Q => ∃ l xs, x = .ref l ∧ y = .int 0 ∧ SqT K H l xs ∧ xs ≠ [] ∧ ∀ p, H p = none → Q (.ref p) (upd H p (.tup []))
section
variable {X : Cx}
theorem op_repT1 : OpR X (binaryOp .Mult) (rRepT1 X.K) := by
  intro pins s σ H x y v u Q I rx ry h
  obtain ⟨l, xs, rfl, rfl, hT, q⟩ := h
  cases rx
  obtain ⟨t, rfl⟩ := ry
  obtain ⟨its, r, ⟨⟨cls, dd, data, sl⟩, ho, hc, n, hd⟩, hs⟩ := I.tuple hT
  simp only at hc hd
  subst hc hd
  exact wpAny_binaryOp_repeat_ref (T := "tuple") (U := "int") (by decide) ⟨_, ho, rfl⟩ (fun s' => typeIs_int s' 1 t) noFill_tuple_mul F.fills_int_mul F.slot_int_rmul repeat_tuple F.slot_int_index.lookup
    (call_meets F.slot_int_rmul (typeIs_int s 1 t) F.entry_int_rmul (F.args_int_rmul_2 _ _) (int_rmul_tuple 1 t l its.toArray n dd sl)
      ⟨ho, rfl, ⟨_, ho, rfl⟩, call_meets F.slot_tuple_mul ⟨_, ho, rfl⟩ F.entry_tuple_mul (F.args_tuple_mul_2 _ _) (tuple_mulW1 l its.toArray n dd sl t) ⟨ho, .ref l, H, I, rfl, q⟩⟩)
theorem op_repT0 : OpR X (binaryOp .Mult) (rRepT0 X.K) := by
  intro pins s σ H x y v u Q I rx ry h
  obtain ⟨l, xs, rfl, rfl, hT, hne, q⟩ := h
  cases rx
  obtain ⟨t, rfl⟩ := ry
  obtain ⟨its, r, ⟨⟨cls, dd, data, sl⟩, ho, hc, n, hd⟩, hs⟩ := I.tuple hT
  simp only at hc hd
  subst hc hd
  have hle : its.length = xs.length := r.length.symm
  have hi : its.toArray.isEmpty = false := by
    cases its with
    | nil => exact absurd (List.eq_nil_of_length_eq_zero hle.symm) hne
    | cons a b => rfl
  refine wpAny_binaryOp_repeat_ref (T := "tuple") (U := "int") (by decide) ⟨_, ho, rfl⟩ (fun s' => typeIs_int s' 0 t) noFill_tuple_mul F.fills_int_mul F.slot_int_rmul repeat_tuple F.slot_int_index.lookup
    (call_meets F.slot_int_rmul (typeIs_int s 0 t) F.entry_int_rmul (F.args_int_rmul_2 _ _) (int_rmul_tuple 0 t l its.toArray n dd sl)
      ⟨ho, rfl, ⟨_, ho, rfl⟩, call_meets F.slot_tuple_mul ⟨_, ho, rfl⟩ F.entry_tuple_mul (F.args_tuple_mul_2 _ _) (tuple_mulW0 l its.toArray n dd sl t hi) ⟨ho, ?_⟩⟩)
  refine ⟨.ref s.heap.objs.size, _, I.laid (t' := s.toks) (o := .tup []) (fun b ob q => Heap.get?_push_of_some _ q) (Nat.le_refl _) ?_, rfl, q _ (I.hok.fresh (Nat.le_refl _))⟩
  exact ⟨by rw [sizeLine_eq]; decide, [], .nil, IsTup.new _ _⟩
def rMulS : R2 := fun x y H Q => ∃ i k, x = .str i ∧ y = .int k ∧ MulOk i k ∧ Q (.str (Txt.mul i k)) H
theorem op_mulStr : OpR X (binaryOp .Mult) rMulS := by
  intro pins s σ H x y v u Q I rx ry h
  obtain ⟨i, k, rfl, rfl, hok, q⟩ := h
  obtain ⟨t, rfl⟩ := rx
  obtain ⟨t', rfl⟩ := ry
  exact PySem.SB.mul hok fun t' k' => ⟨.str _, H, I.tok k', ⟨_, rfl⟩, q⟩
end
/-- any * -/
def rMulX (K : PySem.W.Frag) : R2 := orR rMulU (orR (rRepT K) (orR (rRepT1 K) (orR (rRepT0 K) rMulS)))
theorem kMul {X : Cx} (K : PySem.W.Frag) (h : X.K = K) : OpR X (binaryOp .Mult) (rMulX K) := by subst h; exact op_mulU.or (op_repT.or (op_repT1.or (op_repT0.or op_mulStr)))
section
variable {K : PySem.W.Frag} {μ : M} {P : D → M → Prop}
theorem x_mulS {i j : Int} (c : CMul i j) (p : P (.int (i * j)) μ) : rel2 (rMulX K) (.int i) (.int j) μ P := r_l (u_mulS c p)
theorem x_mul {i j : Int} (c : CMulW i j) (p : P (.int (i * j)) μ) : rel2 (rMulX K) (.int i) (.int j) μ P := r_l (u_mul c p)
theorem x_rep {xs : List D} {k : Int} (h1 : -(2 ^ 63) ≤ k) (h2 : k < 2 ^ 63) (hz : xs.length * k.toNat ≤ sizeLine) (p : P (.lst (List.replicate k.toNat xs).flatten) μ) : rel2 (rMulX K) (.lst xs) (.int k) μ P := r_l (u_rep h1 h2 hz p)
theorem x_str {z : Str} {k : Int} (h : MulOk z k) (p : P (.str (Txt.mul z k)) μ) : rel2 (rMulX K) (.str z) (.int k) μ P := r_r <| r_r <| r_r <| r_r fun vx vy G H ho rx ry Q q => by
  cases rx; cases ry
  exact ⟨z, k, rfl, rfl, h, q _ _ μ G H (Ex.refl G) ho (.str _) p⟩
/-- a tuple n times, n a few -/
theorem x_repT {xs : List D} {n : Nat} (hne : xs ≠ []) (hn : n ≤ 1000) (hz : xs.length ≤ 1000) (p : P (.tup (List.replicate n xs).flatten) μ) : rel2 (rMulX K) (.tup xs) (.int (n : Nat)) μ P := r_r fun vx vy G H ho rx ry Q q => by
  cases ry
  cases rx with
  | tup a r =>
    have hv := (fun (vs : List V) (r : Reps G vs xs) (e : vs = []) => hne (by
      subst e
      cases r
      rfl)) _ r
    match n, hn, p with
    | 0, _, p =>
      refine .inr (.inr (.inl ⟨_, _, rfl, rfl, SqT.of (ho.ex _ _ a), hv, fun l hl => ?_⟩))
      obtain ⟨x, h2⟩ := ho.newD (o := .tup []) hl
      exact q _ _ μ _ _ x h2 (.tup upd_same .nil) p
    | 1, _, p =>
      refine .inr (.inl ⟨_, _, rfl, rfl, SqT.of (ho.ex _ _ a), ?_⟩)
      refine q _ _ μ _ _ (Ex.refl G) ho (.tup a r) ?_
      have e : (List.replicate 1 xs).flatten = xs := by simp
      rw [e] at p
      exact p
    | n + 2, hn, p =>
      refine .inl ⟨_, _, _, rfl, rfl, SqT.of (ho.ex _ _ a), hv, by omega, by omega, by rw [r.length]; exact hz, fun l hl => ?_⟩
      obtain ⟨x, h2⟩ := ho.newD (o := .tup _) hl
      exact q _ _ μ _ _ x h2 (.tup upd_same ((r.rep _).mono x)) p
/-- list + list, the result may change -/
theorem u_catM {xs ys : List D} (hz : xs.length + ys.length ≤ sizeLine) (p : ∀ l, μ l = none → P (.cell l) (updM μ l (.lst (xs ++ ys)))) : rel2 (rAddU K) (.lst xs) (.lst ys) μ P := r_r <| r_l fun vx vy G H h rx ry Q q => by
  cases rx with
  | lst a r =>
    cases ry with
    | lst b s =>
      refine ⟨_, _, _, _, rfl, rfl, h.ex _ _ a, h.ex _ _ b, by rw [r.length, s.length]; exact hz, fun l hl => ?_⟩
      have h2 := h.newM (o := .lst _) (m := .lst _) hl (.lst (r.append s))
      exact q _ _ _ _ _ (Ex.refl G) h2 (.cell l) (p l (h.fresh hl).2)
end
section
variable {W : WX} {Z : XP} {ρ : Rho} {μ : M} {P : D → M → Prop} {G H : Hp} {te : TE} {t : TS} {F : Fin}
theorem _root_.SB.Hold.del (h : Hold μ G H) (a : Addr) : Hold (delM μ a) G H := ⟨h.ex, fun b m e => by
  by_cases hb : b = a
  · subst hb; rw [delM_same] at e; cases e
  · rw [delM_ne hb] at e; exact h.mu b m e⟩
/-- what stands at a is looked at no more -/
theorem wp_forget (h : wp W Z te ρ μ fun d μ1 => ∃ a, P d (delM μ1 a)) : wp W Z te ρ μ P := fun σ G H e ho z Q q =>
  h σ G H e ho z Q fun v d μ1 G1 H1 a1 h1 r1 p1 => by
    obtain ⟨a, p⟩ := p1
    exact q v d (delM μ1 a) G1 H1 a1 (h1.del a) r1 p
theorem wpS_forget (a : Addr) (h : wpS W Z t ρ (delM μ a) F) : wpS W Z t ρ μ F := fun σ G H e ho z E k => h σ G H e (ho.del a) z E k
end
end SB

/-! SBk: own __len__, pop, xs[::-1], sorted texts, several except clauses. -/
namespace SB
open PySem PySem.Spec PyProof.Rows L2
section
variable {X : Cx}
/-- len(x), x an instance of the class at C with an own __len__ -/
def rLenO (C : Addr) (sp : Sp) (E : XK) : List V → Hp → VK → Prop := fun xs H Q => ∃ a dx fs, xs = [.ref a] ∧ H a = some (.ins C dx fs) ∧ sp [.ref a] H (fun v H' => ∃ n : Nat, v = .int (n : Nat) ∧ n < 2 ^ 62 ∧ Q (.int (n : Nat)) H') E
theorem call_lenO {CX : CXT} {n : Nat} {C f : Addr} {fd : FuncData} {ps : List Str} {sp : Sp} {E : XK} (F : FnOk X.prog X.w X.K X.mg X.base CX n f fd ps sp)
    (hm : Meth X.K C "__len__" f) (hb : Binds X.K fd ps []) (hx : ∀ σ, PassesAt CX X σ E) (hr : Room (n + 1) X.A) : CallR X (.builtin "len") (rLenO C sp E) := by
  intro pins s σ H xs us Q I r h
  obtain ⟨a, dx, fs, rfl, ha, q⟩ := h
  rw [Vals.ref1 r]
  obtain ⟨mA, J, _⟩ := ins_get I.hok ha
  obtain ⟨od, J, _⟩ := J.look
  obtain ⟨m, hF⟩ := I.fr
  refine PySem.W.len_K hF I.ok.mod.kin J hm.at_ hm.fn ?_
  have e0 : Env0 X.prog X.w X.K X.mg X.base X.A.in1 X.stack s H := by
    have e := I.env0
    exact ⟨e.frames, e.mod, e.bs, e.bsz, e.funs, e.frf, e.hok, e.bare⟩
  have hl := F.len _ _ _ _ q
  have r2 : Vals [V.ref a] [Value.ref a] := .cons rfl .nil
  refine wpAny_call (codeAny_mono (F.run X.A.in1 X.stack s H ⟨[.ref a], []⟩ [.ref a] [.ref a] _ E hr.in1 e0 (by
    have := hb s [.ref a] I.kIn (by simpa using hl)
    simpa using this) r2 q) fun r s' hq => ?_)
  cases r with
  | error e => exact hx σ pins H s e s' I hq
  | ok fl =>
    cases fl with
    | ret w =>
      obtain ⟨z, H', I', rz, n, ez, hn, q'⟩ := I.after hq
      subst ez
      obtain ⟨t, rfl⟩ := rz
      exact ⟨⟨by omega, by omega⟩, .int _, H', I'.tok _, ⟨_, rfl⟩, q'⟩
    | next => exact False.elim hq
    | brk => exact False.elim hq
    | cont => exact False.elim hq
theorem kRev {K : PySem.W.Frag} (h : X.K = K) {e : Expr} {te : TE} {k : Nat} {p1 p2 p3 pos : Pos} (he : PE X e te) : PE X (.Subscript e (.Slice none none (some (.UnaryOp .USub (.Constant (.int 1) k p1) p2)) p3) pos) (tRevL K te) := by subst h; exact pe_revL he
theorem kSortS {K : PySem.W.Frag} (h : X.K = K) : CallR X (.builtin "sorted") (rSortedS K) := by subst h; exact cr_sortedS
end
theorem Reps.rev {G : Hp} : ∀ {vs : List V} {ds : List D}, Reps G vs ds → Reps G vs.reverse ds.reverse
  | _, _, .nil => .nil
  | _, _, .cons r t => by
    rw [List.reverse_cons, List.reverse_cons]
    exact (Reps.rev t).append (.one r)
theorem ltCps_anti : ∀ a b : List Nat, ltCps a b = false → ltCps b a = false → a = b
  | [], [], _, _ => rfl
  | [], _ :: _, h, _ => by simp [ltCps] at h
  | _ :: _, [], _, h => by simp [ltCps] at h
  | a :: r, b :: t, h1, h2 => by
    simp only [ltCps, Bool.or_eq_false_iff, decide_eq_false_iff_not, Bool.and_eq_false_iff, beq_eq_false_iff_ne] at h1 h2
    have e : a = b := by omega
    subst e
    rw [ltCps_anti r t (h1.2.resolve_left fun z => z rfl) (h2.2.resolve_left fun z => z rfl)]
theorem ltCps_trans : ∀ a b c : List Nat, ltCps b a = false → ltCps c b = false → ltCps c a = false
  | a, b, [], h1, h2 => by
    cases b with
    | nil => exact h1
    | cons => simp [ltCps] at h2
  | a, b, z :: t, h1, h2 => by
    cases a with
    | nil => rfl
    | cons x r =>
      cases b with
      | nil => simp [ltCps] at h1
      | cons y q =>
        simp only [ltCps, Bool.or_eq_false_iff, decide_eq_false_iff_not, Bool.and_eq_false_iff, beq_eq_false_iff_ne] at h1 h2 ⊢
        refine ⟨by omega, ?_⟩
        by_cases e : z = x
        · refine .inr (ltCps_trans r q t (h1.2.resolve_left fun k => ?_) (h2.2.resolve_left fun k => ?_)) <;> omega
        · exact .inl e
theorem risingS_pw : ∀ (p : Str) (l : List Str), risingS p l = true → (p :: l).Pairwise (fun a b => ltCps b.cps.toList a.cps.toList = false)
  | p, [], _ => List.pairwise_singleton _ _
  | p, x :: r, h => by
    have h : (!ltCps x.cps.toList p.cps.toList && risingS x r) = true := h
    rw [Bool.and_eq_true, Bool.not_eq_true'] at h
    have ih := risingS_pw x r h.2
    refine List.pairwise_cons.mpr ⟨fun y hy => ?_, ih⟩
    rcases List.mem_cons.mp hy with rfl | hy
    · exact h.1
    · exact ltCps_trans _ _ _ h.1 (List.rel_of_pairwise_cons ih hy)
theorem sortedS_pw : ∀ (l : List Str), sortedS l = true → l.Pairwise (fun a b => ltCps b.cps.toList a.cps.toList = false)
  | [], _ => .nil
  | x :: r, h => risingS_pw x r h
theorem sortedS_eq {a b : List Str} (ha : sortedS a = true) (hb : sortedS b = true) (h : a.Perm b) : a = b := by
  refine List.Perm.eq_of_pairwise (le := fun a b : Str => ltCps b.cps.toList a.cps.toList = false) (fun x y _ _ h1 h2 => ?_) (sortedS_pw a ha) (sortedS_pw b hb) h
  obtain ⟨⟨x⟩⟩ := x
  obtain ⟨⟨y⟩⟩ := y
  have := ltCps_anti _ _ h2 h1
  simp only at this
  subst this
  rfl
theorem reps_strs {G : Hp} : ∀ ss : List Str, Reps G (ss.map V.str) (ss.map D.str)
  | [] => .nil
  | s :: ss => .cons (.str s) (reps_strs ss)
/-! ### several except clauses -/
def zMany (K : PySem.W.Frag) (W : WX) (Z : XP) (F : Fin) : List (Value × (Addr → Value → Option Addr → TS)) → XP
  | [] => Z
  | (c, ts) :: r => fun x ρ μ => ∃ b, PySem.W.exmOne K x.cls c = some b ∧ (b = true → ∀ a dd, wpS W Z (ts a x.cls dd) ρ μ F) ∧ (b = false → zMany K W Z F r x ρ μ)
theorem wpS_tryMany {K : PySem.W.Frag} {l : List (Value × (Addr → Value → Option Addr → TS))} {W : WX} {Z : XP} {F : Fin} {tb : WX → TS} {ρ : Rho} {μ : M} (h : ∀ W', wpS W' (zMany K W Z F l) (tb W') ρ μ F) :
    wpS W Z (fun D σ H => tb (wMany K W D l) D σ H) ρ μ F := fun σ G H e ho z E k => by
  refine h (wMany K W E l) σ G H e ho ?_ E k
  intro cls dd x ρ' μ' σ' G' H' a e' h' xr q
  clear h
  induction l with
  | nil => exact z cls dd x ρ' μ' σ' G' H' a e' h' xr q
  | cons p r ih =>
    obtain ⟨c, ts⟩ := p
    obtain ⟨b, hb, h1, h2⟩ := q
    obtain ⟨hc, hf⟩ := id xr
    subst hc
    exact ⟨b, hb, fun hb a' _ => h1 hb a' dd σ' G' H' e' h' (z.mono a) E (k.mono a), fun hb => ih (h2 hb)⟩
section
variable {W : WX} {Z : XP} {ρ : Rho} {μ : M} {P : D → M → Prop} {K : PySem.W.Frag} {to te : TE}
theorem u_sortS {ss : List Str} (hz : ss.length < 64) (p : ∀ ys : List Str, ys.Perm ss → sortedS ys = true → P (.lst (ys.map .str)) μ) : relC (rSortedS K) [.lst (ss.map .str)] μ P := fun vs G H h r Q q => by
  cases r with
  | cons a r =>
    cases r
    cases a with
    | lst a s =>
      have e := s.strs
      subst e
      refine ⟨_, ss, rfl, SqL.of (h.ex _ _ a), hz, fun ys l hp hs hl => ?_⟩
      obtain ⟨x, h2⟩ := h.newD (o := .lst (ys.map V.str)) hl
      exact q _ _ μ _ _ x h2 (.lst upd_same (reps_strs ys)) (p ys hp hs)
theorem u_sortSM {a : Addr} {ss : List Str} (m : μ a = some (.lst (ss.map .str))) (hz : ss.length < 64) (p : ∀ ys : List Str, ys.Perm ss → sortedS ys = true → P (.lst (ys.map .str)) μ) : relC (rSortedS K) [.cell a] μ P := fun vs G H h r Q q => by
  cases r with
  | cons b r =>
    cases r
    cases b
    obtain ⟨g, o, ho, mr⟩ := h.mu _ _ m
    cases mr with
    | lst s =>
      have e := s.strs
      subst e
      refine ⟨_, ss, rfl, SqL.of ho, hz, fun ys l hp hs hl => ?_⟩
      obtain ⟨x, h2⟩ := h.newD (o := .lst (ys.map V.str)) hl
      exact q _ _ μ _ _ x h2 (.lst upd_same (reps_strs ys)) (p ys hp hs)
theorem rc_lenO {a C dx : Addr} {fs : List (Str × D)} {S : DSp} {E : XK} (m : μ a = some (.ins C dx fs)) (h : S [.cell a] μ (fun d μ' => ∃ n : Nat, d = .int (n : Nat) ∧ n < 2 ^ 62 ∧ P (.int (n : Nat)) μ') fun _ _ => False) :
    relC (rLenO C (spOf S) E) [.cell a] μ P := fun vs G H ho r Q q => by
  cases r with
  | cons b r =>
    cases r; cases b
    obtain ⟨g, o, e, mr⟩ := ho.mu _ _ m
    cases mr with
    | ins s =>
      refine ⟨_, _, _, rfl, e, _, μ, G, _, _, h, .cons (.cell a) .nil, ho, ?_, fun _ _ _ _ _ _ _ _ _ z => z.elim⟩
      rintro v d μ' G' H' x h' r ⟨n, rfl, hn, p⟩
      cases r
      exact ⟨n, rfl, hn, q _ _ μ' G' H' x h' (.int _) p⟩
theorem wp_pop (h : wp W Z to ρ μ fun o μ1 => ∃ a xs y, o = .cell a ∧ μ1 a = some (.lst (xs ++ [y])) ∧ P y (updM μ1 a (.lst xs))) : wp W Z (tBM0 K "list" rPop to) ρ μ P := fun σ G H e ho z Q q =>
  h σ G H e ho z _ fun v o μ1 G1 H1 a1 h1 r1 p1 => by
    obtain ⟨a, xs, y, rfl, m, p⟩ := p1
    cases r1
    obtain ⟨_, o, eo, mr⟩ := h1.mu a _ m
    cases mr with
    | lst s =>
      rename_i vs
      have hl := s.length
      rw [List.length_append] at hl
      have hl : vs.length = xs.length + 1 := hl
      obtain ⟨w, hw, rw'⟩ := s.get (i := xs.length) (d := y) (by rw [List.getElem?_append_right (Nat.le_refl _), Nat.sub_self]; rfl)
      refine ⟨.inl ⟨rfl, _, SqL.of eo⟩, _, _, w, rfl, rfl, eo, by rw [hl]; exact hw, ?_⟩
      refine q w y _ G1 _ a1 (h1.write m (.lst ?_)) rw' p
      have s2 := s.take xs.length
      rw [List.take_append_of_le_length (Nat.le_refl _), List.take_length] at s2
      rw [List.dropLast_eq_take, hl]
      exact s2
theorem wp_rev (h : wp W Z te ρ μ fun d μ1 => ∃ xs, d = .lst xs ∧ P (.lst xs.reverse) μ1) : wp W Z (tRevL K te) ρ μ P := fun σ G H e ho z Q q =>
  h σ G H e ho z _ fun v o μ1 G1 H1 a1 h1 r1 p1 => by
    obtain ⟨xs, rfl, p⟩ := p1
    cases r1 with
    | lst a s =>
      refine ⟨_, _, rfl, SqL.of (h1.ex _ _ a), fun l hl => ?_⟩
      obtain ⟨x, h2⟩ := h1.newD (o := .lst _) hl
      refine q _ _ μ1 _ _ (a1.trans x) h2 (.lst upd_same ?_) p
      exact s.rev.mono x
theorem Hold.raw {μ : M} {G H : Hp} {a : Addr} {ds : List D} (h : Hold μ G H) (m : μ a = some (.lst ds)) : ∃ vs, Hold (updM μ a (.raw (.lst vs))) G H ∧ Reps G vs ds := by
  obtain ⟨g, o, e, mr⟩ := h.mu a _ m
  cases mr with
  | lst s =>
    rename_i vs
    refine ⟨vs, ⟨h.ex, fun b m' em => ?_⟩, s⟩
    by_cases hb : b = a
    · subst hb
      rw [updM_same] at em; cases em
      exact ⟨g, _, e, .raw _⟩
    · rw [updM_ne hb] at em
      exact h.mu b m' em
theorem Hold.unraw {μ : M} {G H : Hp} {a : Addr} {vs : List V} {ds : List D} (h : Hold (updM μ a (.raw (.lst vs))) G H) (m : μ a = some (.lst ds)) (r : Reps G vs ds) : Hold μ G H := by
  obtain ⟨g, o, e, mr⟩ := h.mu a _ updM_same
  cases mr
  refine ⟨h.ex, fun b m' em => ?_⟩
  by_cases hb : b = a
  · subst hb
    rw [m] at em; cases em
    exact ⟨g, _, e, .lst r⟩
  · exact h.mu b m' (by rw [updM_ne hb]; exact em)
/-- a comprehension over a list that may change (but doesn't), without effects -/
theorem wp_lcPM {α : Type} {tt : TT} {g : TG} {vs : List Nat} {te0 : TE} (ys : List α) (enc : α → D) (is : List Nat) (ρ' : α → Rho) (b : α → Bool) (f : α → D) (his : ∀ j ∈ is, j ∈ vs)
    (hg : ∀ y ∈ ys, wpG g is (enc y) (wipeD ρ vs) (ρ' y))
    (ht : ∀ y ∈ ys, ∀ μ2, wpT W Z tt (ρ' y) μ2 fun c μ3 => c = b y ∧ μ3 = μ2)
    (he : ∀ y ∈ ys, b y = true → ∀ μ2, wp W Z te (ρ' y) μ2 fun d μ3 => d = f y ∧ μ3 = μ2)
    (h : wp W Z te0 ρ μ fun d μ1 => ∃ a, d = .cell a ∧ μ1 a = some (.lst (ys.map enc)) ∧ ys.length ≤ 1000000 ∧ P (.lst ((ys.filter b).map f)) μ1) : wp W Z (tLc (iSeq K te0) g tt te vs) ρ μ P := fun σ G H e ho z Q q =>
  .inl <| h σ G H e ho z _ fun v d μ1 G1 H1 a1 h1 r1 p1 => by
    obtain ⟨a, rfl, m, hz, p⟩ := p1
    cases r1
    obtain ⟨ws, h1r, rw0⟩ := h1.raw m
    have hlen : ws.length = ys.length := by rw [rw0.length, List.length_map]
    have sq : ∀ {μ2 : M} {G2 H2 : Hp}, Hold μ2 G2 H2 → μ2 a = some (.raw (.lst ws)) → SqL K H2 a ws := fun h2 e2 => by
      obtain ⟨_, o, e3, mr⟩ := h2.mu a _ e2
      cases mr
      exact SqL.of e3
    refine ⟨a, rfl, ⟨_, sq h1r updM_same⟩, ?_⟩
    intro Dl hDl
    have nD : μ1 Dl = none := (h1.fresh hDl).2
    have nDa : Dl ≠ a := fun z => by rw [z, m] at nD; cases nD
    have nR : updM μ1 a (.raw (.lst ws)) Dl = none := by rw [updM_ne nDa]; exact nD
    refine lc_it (walk_list (K := K) (a := a) (xs := ws)) (fun i H' => ∃ G2 av, Ex G1 G2 ∧ Hold (updM (updM μ1 a (.raw (.lst ws))) Dl (.raw (.lst av))) G2 H' ∧ Reps G2 av (((ys.take i).filter b).map f)) ?_ ?_ ?_ ?_
    · exact ⟨G1, [], Ex.refl _, h1r.newM hDl (.raw _), .nil⟩
    · rintro i H' _ ⟨G2, av, x1, h2, _⟩
      exact sq h2 (by rw [updM_ne (Ne.symm nDa)]; exact updM_same)
    · rintro i v Hc Hn hi ⟨G2, av, x1, h2, ra⟩ y0
      obtain ⟨rfl, y0⟩ := y0
      obtain ⟨d, hd, rv⟩ := rw0.get' y0
      rw [List.getElem?_map] at hd
      cases hy : ys[i]? with
      | none => rw [hy] at hd; cases hd
      | some y =>
        rw [hy] at hd
        cases hd
        have hm : y ∈ ys := List.mem_of_getElem? hy
        have hts : ys.take (i + 1) = ys.take i ++ [y] := by rw [List.take_add_one, hy]; rfl
        refine hg y hm _ G2 Hn v (((e.mono a1).mono x1).wipe vs) h2.ex (rv.mono x1) _ fun σ' e' hw => ⟨by rw [hw vs his, wipe_wipe], ?_⟩
        refine ht y hm _ σ' G2 Hn e' h2 (z.mono (a1.trans x1)) _ fun c μ3 G4 H4 a4 h4 pb => ?_
        obtain ⟨rfl, rfl⟩ := pb
        cases hb : b y with
        | true =>
          rw [if_pos rfl]
          refine he y hm hb _ σ' G4 H4 (e'.mono a4) h4 (z.mono ((a1.trans x1).trans a4)) _ fun vy dy μ4 G5 H5 a5 h5 ry p5 => ?_
          obtain ⟨rfl, rfl⟩ := p5
          obtain ⟨g5, o5, e5, m5⟩ := h5.mu Dl _ updM_same
          cases m5
          have la : av.length ≤ 1000000 := by
            rw [ra.length, List.length_map]
            exact Nat.le_trans (List.length_filter_le _ _) (by rw [List.length_take]; omega)
          refine ⟨av, e5, Nat.lt_of_lt_of_le (show av.length < 1000001 by omega) (by decide), G5, av ++ [vy], (x1.trans a4).trans a5, ?_, ?_⟩
          · have := h5.write (p := Dl) (o := .lst (av ++ [vy])) (m := .raw (.lst (av ++ [vy]))) updM_same (.raw _)
            rw [updM_updM] at this
            exact this
          · rw [hts, List.filter_append, List.map_append, List.filter_cons, if_pos hb]
            exact (ra.mono (a4.trans a5)).append (.one ry)
        | false =>
          rw [if_neg (by decide)]
          refine ⟨G4, av, x1.trans a4, h4, ?_⟩
          rw [hts, List.filter_append, List.map_append, List.filter_cons, if_neg (by rw [hb]; decide)]
          simpa using ra.mono a4
    · rintro H' ⟨G2, av, x1, h2, ra⟩
      rw [hlen, List.take_of_length_le (Nat.le_refl _)] at ra
      obtain ⟨g5, o5, e5, m5⟩ := h2.mu Dl _ updM_same
      cases m5
      obtain ⟨x2, h3⟩ := h2.freeze updM_same e5
      rw [delM_updM nR] at h3
      refine q _ _ μ1 _ H' ((a1.trans x1).trans x2) (h3.unraw m (rw0.mono (x1.trans x2))) (.lst upd_same (ra.mono x2)) p
/-- the elements look at what may change, and change nothing -/
theorem wp_lcFm {α : Type} {g : TG} {vs : List Nat} {wi : TI} (ys : List α) (enc : α → D) (is : List Nat) (ρ' : α → Rho) (f : α → D) (his : ∀ j ∈ is, j ∈ vs)
    (hg : ∀ y ∈ ys, wpG g is (enc y) (wipeD ρ vs) (ρ' y))
    (he : ∀ y ∈ ys, ∀ p m, μ p = none → wp W Z te (ρ' y) (updM μ p m) fun d μ3 => d = f y ∧ μ3 = updM μ p m)
    (h : wpI W Z wi ρ μ fun xs μ1 => xs = ys.map enc ∧ μ1 = μ ∧ ys.length ≤ 1000000 ∧ P (.lst (ys.map f)) μ) : wp W Z (tLc wi g tYes te vs) ρ μ P :=
  wp_lcD fun σ G H e ho z R q => h σ G H e ho z R fun J xs μ1 G1 H1 a1 h1 w p => by
    obtain ⟨rfl, rfl, hz, p⟩ := p
    refine q J _ μ1 G1 H1 a1 h1 w ⟨by rw [List.length_map]; exact hz, fun i acc μ2 => acc = (ys.take i).map f ∧ μ2 = μ1, ⟨rfl, rfl⟩, ?_, ?_⟩
    · rintro i x acc μ2 p' m hx ⟨rfl, rfl⟩ hp
      rw [List.getElem?_map] at hx
      cases hy : ys[i]? with
      | none => rw [hy] at hx; cases hx
      | some y =>
        rw [hy] at hx
        cases hx
        have hm : y ∈ ys := List.mem_of_getElem? hy
        have hts : ys.take (i + 1) = ys.take i ++ [y] := by rw [List.take_add_one, hy]; rfl
        refine ⟨is, ρ' y, his, hg y hm, wpT_yes ⟨fun _ => wp_mono (he y hm p' m hp) ?_, fun h => by cases h⟩⟩
        rintro d μ3 ⟨rfl, rfl⟩
        exact ⟨μ2, hp, rfl, by rw [hts, List.map_append]; rfl, rfl⟩
    · rintro acc μ2 ⟨rfl, rfl⟩
      rw [List.length_map, List.take_of_length_le (Nat.le_refl _)]
      exact p
end
end SB

/-! SBl: texts. -/
namespace SB
open PySem PySem.Spec PyProof.Rows L2
section
variable {W : WX} {Z : XP} {ρ : Rho} {μ : M} {P : D → M → Prop} {K : PySem.W.Frag} {to te : TE}
theorem wp_split (h : wp W Z to ρ μ fun x μ1 => ∃ a, x = .str a ∧ wp W Z te ρ μ1 fun y μ2 => ∃ b, y = .str b ∧ (b.length == 0) = false ∧ a.length + 2 ≤ sizeLine ∧ P (.lst ((Txt.split a b).map .str)) μ2) :
    wp W Z (tM1 (fun x xs H Q => ∃ a b, x = .str a ∧ xs = [.str b] ∧ (b.length == 0) = false ∧ a.length + 2 ≤ sizeLine ∧ rNewStrs (Txt.split a b) H Q) to te) ρ μ P := fun σ G H e ho z Q q =>
  h σ G H e ho z _ fun v x μ1 G1 H1 a1 h1 r1 p1 => by
    obtain ⟨a, rfl, p1⟩ := p1
    cases r1
    refine ⟨⟨_, rfl⟩, p1 σ G1 H1 (e.mono a1) h1 (z.mono a1) _ fun vy y μ2 G2 H2 a2 h2 r2 p2 => ?_⟩
    obtain ⟨b, rfl, hb, hz, p⟩ := p2
    cases r2
    refine ⟨a, b, rfl, rfl, hb, hz, fun l hl => ?_⟩
    obtain ⟨x, h3⟩ := h2.newD (o := .lst ((Txt.split a b).map V.str)) hl
    exact q _ _ μ2 _ _ ((a1.trans a2).trans x) h3 (.lst upd_same (reps_strs _)) p
theorem wp_join (h : wp W Z to ρ μ fun x μ1 => ∃ a, x = .str a ∧ wp W Z te ρ μ1 fun y μ2 => ∃ ys : List Str, (y = .lst (ys.map .str) ∨ y = .tup (ys.map .str) ∨ ∃ c, y = .cell c ∧ μ2 c = some (.lst (ys.map .str))) ∧ (ys.map (·.length)).sum + ys.length * a.length ≤ 16777216 ∧ P (.str (Txt.join a ys)) μ2) :
    wp W Z (tM1 (fun x xs H Q => ∃ a p, ∃ ys : List Str, x = .str a ∧ xs = [.ref p] ∧ (SqL K H p (ys.map V.str) ∨ SqT K H p (ys.map V.str)) ∧ (ys.map (·.length)).sum + ys.length * a.length ≤ 16777216 ∧ Q (.str (Txt.join a ys)) H) to te) ρ μ P := fun σ G H e ho z Q q =>
  h σ G H e ho z _ fun v x μ1 G1 H1 a1 h1 r1 p1 => by
    obtain ⟨a, rfl, p1⟩ := p1
    cases r1
    refine ⟨⟨_, rfl⟩, p1 σ G1 H1 (e.mono a1) h1 (z.mono a1) _ fun vy y μ2 G2 H2 a2 h2 r2 p2 => ?_⟩
    obtain ⟨ys, hy, hz, p⟩ := p2
    rcases hy with rfl | rfl | ⟨c, rfl, m⟩
    · cases r2 with
      | lst b s =>
        have es := s.strs
        subst es
        exact ⟨a, _, ys, rfl, rfl, .inl (SqL.of (h2.ex _ _ b)), hz, q _ _ μ2 _ _ (a1.trans a2) h2 (.str _) p⟩
    · cases r2 with
      | tup b s =>
        have es := s.strs
        subst es
        exact ⟨a, _, ys, rfl, rfl, .inr (SqT.of (h2.ex _ _ b)), hz, q _ _ μ2 _ _ (a1.trans a2) h2 (.str _) p⟩
    · cases r2
      obtain ⟨g, o, eo, mr⟩ := h2.mu _ _ m
      cases mr with
      | lst s =>
        have es := s.strs
        subst es
        exact ⟨a, _, ys, rfl, rfl, .inl (SqL.of eo), hz, q _ _ μ2 _ _ (a1.trans a2) h2 (.str _) p⟩
theorem wp_fmt (h : wp W Z te ρ μ fun x μ1 => (∃ y : Str, x = .str y ∧ y.length ≤ sizeLine ∧ P (.str y) μ1) ∨ ∃ i : Int, x = .int i ∧ i.natAbs.log2 < 1920 ∧ P (.str (toString i)) μ1) : wp W Z (tFmt te) ρ μ P := fun σ G H e ho z Q q =>
  h σ G H e ho z _ fun v x μ1 G1 H1 a1 h1 r1 p1 => by
    rcases p1 with ⟨y, rfl, hz, p⟩ | ⟨i, rfl, hz, p⟩
    · cases r1
      exact .inl ⟨y, rfl, hz, q _ _ μ1 G1 H1 a1 h1 (.str _) p⟩
    · cases r1
      exact .inr ⟨i, rfl, hz, q _ _ μ1 G1 H1 a1 h1 (.str _) p⟩
/-- parts of a text one behind the other -/
def wpJ (W : WX) (Z : XP) (ts : List TE) (acc : Str) (ρ : Rho) (μ : M) (P : Str → M → Prop) : Prop := ∀ σ G H, Env G σ ρ → Hold μ G H → XW W Z G → ∀ Q : Str → Hp → Prop, (∀ out μ' G' H', Ex G G' → Hold μ' G' H' → P out μ' → Q out H') → tJs ts acc σ H Q
theorem wpJ_nil {acc : Str} {PS' : Str → M → Prop} (p : PS' acc μ) : wpJ W Z [] acc ρ μ PS' := fun σ G H e ho z Q q => q acc μ G H (Ex.refl G) ho p
theorem wpJ_cons {acc : Str} {t : TE} {ts : List TE} {PS' : Str → M → Prop} (h : wp W Z t ρ μ fun d μ1 => ∃ y, d = .str y ∧ (acc ++ y).length ≤ sizeLine ∧ wpJ W Z ts (acc ++ y) ρ μ1 PS') : wpJ W Z (t :: ts) acc ρ μ PS' := fun σ G H e ho z Q q =>
  h σ G H e ho z _ fun v x μ1 G1 H1 a1 h1 r1 p1 => by
    obtain ⟨y, rfl, hz, p⟩ := p1
    cases r1
    exact ⟨y, rfl, hz, p σ G1 H1 (e.mono a1) h1 (z.mono a1) _ fun out μ' G' H' a' h' p' => q out μ' G' H' (a1.trans a') h' p'⟩
theorem wp_joined {ts : List TE} (h : wpJ W Z ts Str.empty ρ μ fun out μ1 => P (.str out) μ1) : wp W Z (fun σ H Q => tJs ts Str.empty σ H fun out H1 => Q (.str out) H1) ρ μ P := fun σ G H e ho z Q q =>
  h σ G H e ho z _ fun out μ1 G1 H1 a1 h1 p1 => q _ _ μ1 G1 H1 a1 h1 (.str out) p1
end
/-- a comprehension without effects, its list may change later -/
theorem wp_lcFC {W : WX} {Z : XP} {ρ : Rho} {μ : M} {P : D → M → Prop} {te : TE} {α : Type} {g : TG} {vs : List Nat} {wi : TI} (ys : List α) (enc : α → D) (is : List Nat) (ρ' : α → Rho) (f : α → D) (his : ∀ j ∈ is, j ∈ vs)
    (hg : ∀ y ∈ ys, wpG g is (enc y) (wipeD ρ vs) (ρ' y))
    (he : ∀ y ∈ ys, ∀ μ2, wp W Z te (ρ' y) μ2 fun d μ3 => d = f y ∧ μ3 = μ2)
    (h : wpI W Z wi ρ μ fun xs μ1 => xs = ys.map enc ∧ ys.length ≤ 1000000 ∧ ∀ p, μ1 p = none → P (.cell p) (updM μ1 p (.lst (ys.map f)))) : wp W Z (tLc wi g tYes te vs) ρ μ P :=
  wp_lcM fun σ G H e ho z R q => h σ G H e ho z R fun J xs μ1 G1 H1 a1 h1 w p => by
    obtain ⟨rfl, hz, p⟩ := p
    refine q J _ μ1 G1 H1 a1 h1 w ⟨by rw [List.length_map]; exact hz, fun i acc μ2 => acc = (ys.take i).map f ∧ μ2 = μ1, ⟨rfl, rfl⟩, ?_, ?_⟩
    · rintro i x acc μ2 p' m hx ⟨rfl, rfl⟩ hp
      rw [List.getElem?_map] at hx
      cases hy : ys[i]? with
      | none => rw [hy] at hx; cases hx
      | some y =>
        rw [hy] at hx
        cases hx
        have hm : y ∈ ys := List.mem_of_getElem? hy
        have hts : ys.take (i + 1) = ys.take i ++ [y] := by rw [List.take_add_one, hy]; rfl
        refine ⟨is, ρ' y, his, hg y hm, wpT_yes ⟨fun _ => wp_mono (he y hm _) ?_, fun h => by cases h⟩⟩
        rintro d μ3 ⟨rfl, rfl⟩
        exact ⟨μ2, hp, rfl, by rw [hts, List.map_append]; rfl, rfl⟩
    · rintro acc μ2 p' ⟨rfl, rfl⟩ hp
      rw [List.length_map, List.take_of_length_le (Nat.le_refl _)]
      exact p p' hp
section
variable {X : Cx} {K : PySem.W.Frag}
theorem kJoin {o e : Expr} {to te : TE} {apos pos : Pos} (h : X.K = K) (ho : PE X o to) (he : PE X e te) (hs : starEach [e] X.env = [(false, eval e X.env)] := by rfl) (hbase : attributeBase o "join" X.env (eval o X.env) = eval o X.env := by rfl) (hline : (apos.endLine == pos.line) = true := by rfl) :
    PE X (.Call (.Attribute o "join" apos) [e] [] pos) (tM1 (fun x xs H Q => ∃ a p, ∃ ys : List Str, x = .str a ∧ xs = [.ref p] ∧ (SqL K H p (ys.map V.str) ∨ SqT K H p (ys.map V.str)) ∧
      (ys.map (·.length)).sum + ys.length * a.length ≤ 16777216 ∧ Q (.str (Txt.join a ys)) H) to te) := by subst h; exact pe_join ho he hs hbase hline
end
end SB

/-! SBm: an own error with a field (lines of the worked proof 42_own_error_by_import, turned to BadLine and line). -/
namespace PySem
namespace LowX
open PySem.W PySem.Calls PyProof.Rows PySem.HandSPX
/-! ### the text of __init__ -/
def iA (p1 p2 : Pos) : Arguments := { posonlyargs := [], args := [{ arg := "self", annotation := none, pos := p1 }, { arg := "line", annotation := none, pos := p2 }], vararg := none, kwonlyargs := [], kw_defaults := [], kwarg := none, defaults := [] }
def iB (q1 q2 q3 q4 : Pos) : List Stmt := [.Assign [.Attribute (.Name "self" q1) "line" q2] (.Name "line" q3) q4]
def iS : Scope := { kind := .function, names := [(PySem.Str.ofString "self", .local), (PySem.Str.ofString "line", .local)], isGenerator := false, isCoroutine := false, more := [] }
/-- what the written part says of Low, at C, and of its __init__, at fI -/
structure LowTxt (K : Frag) (mg : Str → Option Value) (C fI : Addr) : Prop where
  gC : mg "BadLine" = some (.ref C)
  cls : ∃ nm q N bs bm sn sub ab col dd k0 k1 k2 k3 k5, K.lookup C = some (excClassObj nm q C N bs bm true sn sub ab col dd k0 k1 k2 k3 k5 "ValueError.__new__") ∧ refsVE bm = true
  sa : findIn K (.ref C) "__setattr__" = some (some (.builtin "object.__setattr__"))
  ga : findIn K (.ref C) "__getattribute__" = some (some (.builtin "BaseException.__getattribute__"))
  gg : findIn K (.ref C) "__getattr__" = some none
  noN : findIn K (.ref C) "line" = some none
  iC : findIn K (.ref C) "__init__" = some (some (.ref fI))
  tC : typeIn K (.ref fI) = some (.type "function")
  kC : keepIn K (.ref C) = true
  exC : subIn K (.ref C) (.type "BaseException") = some true
  tyC : typeIn K (.ref C) = some (.type "type")
  hdC : hasDictIn K C = true
  te : exmOne K (.ref C) (.ref C) = some true
  fn : ∃ (oc : Value) (od : Option Addr) (doc pm : Value) (an : Option Addr) (cdv ct : Value) (osl : Array (Option Value)) (p1 p2 q1 q2 q3 q4 : Pos),
    K.lookup fI = some ⟨oc, od, .func (fnOf "__init__" "BadLine.__init__" (iA p1 p2) (iB q1 q2 q3 q4) iS .none .none doc pm an cdv ct), osl⟩ ∧ codeIn K cdv "BadLine.__init__" = true
theorem one_size (v : Value) : [v].length ≤ sizeLine := by
  rw [sizeLine_eq]
  exact (by decide : 1 ≤ 16777216)
theorem kept_but {K : Frag} {h h' : Heap} {x : Addr} (X : K.In h) (hx : K.lookup x = none) (k : ∀ b o, b ≠ x → h.get? b = some o → h'.get? b = some o) : K.In h' := fun a o e =>
  k a o (fun z => by rw [z, hx] at e; cases e) (X a o e)
theorem ldC {M : Model} {s : Shared} {name : Str} {scope : Scope} {L a : Addr} {cd : Value} {m : Str → Option Value} {x : Str} {pos : Pos} {v : Value} {Q : Value → Shared → Prop} {A : Around} {E : Value → Shared → Prop} (hn : s.heap.Ns L m) (hv : m x = some v) (h : Q v s)
    (hk : scope.kind = .function := by rfl) (hl : (envOfC name scope L a cd).kindOf x = some .local := by rfl) (hd : (x == ("__debug__" : Str)) = false := by decide) :
    wpAny M A (eval (.Name x pos) (envOfC name scope L a cd)) Q E s := wpAny_Name (wpAny_loadName_local hk hl hn hv h) hd
/-- what __init__ leaves of a fresh exception at x -/
structure InitEnd (h h' : Heap) (x C dx t1 : Addr) (v : Value) : Prop where
  keep : ∀ b o, b ≠ x → h.get? b = some o → h'.get? b = some o
  obj : h'.get? x = some { cls := .ref C, dict := some dx, data := .fields #[.ref t1, .none, .none, .none, .bool false, .none] }
  dbig : h.objs.size ≤ dx
  dne : dx ≠ x
  ns : h'.Ns1 dx (fun y => if y = "line" then some v else none)
/-- a made Low -/
structure OwnMade (h h' : Heap) (e C d : Addr) (v : Value) : Prop where
  keep : ∀ b o, h.get? b = some o → h'.get? b = some o
  new : h.objs.size ≤ e
  obj : ∃ oe vs, h'.get? e = some oe ∧ oe.cls = .ref C ∧ oe.dict = some d ∧ oe.data = .fields vs ∧ vs[1]? = some .none
  dbig : h.objs.size ≤ d
  dne : d ≠ e
  ns : h'.Ns1 d (fun y => if y = "line" then some v else none)
section
variable {prog : Program} {w : World} {A : Around} {E : Value → Shared → Prop} {R : Result → Shared → Prop} {s : Shared} {K : Frag} {mg : Str → Option Value} {C fI : Addr}
theorem low_init (T : LowTxt K mg C fI) {x t0 : Addr} {v : Value} (X : K.In s.heap) (hlim : s.heap.NoLimit) (hx : s.heap.get? x = some (excO C t0)) (hnx : K.lookup x = none) (hroom : A.depth < recursionLimit)
    (hq : ∀ h' tk dx, InitEnd s.heap h' x C dx t0 v → R (.ok (.ret .none)) { s with heap := h', toks := tk }) :
    codeAny (model prog w) A (.call (.ref fI) ⟨[.ref x, v], []⟩) R s := by
  obtain ⟨oc, od, doc, pm, an, cdv, ct, osl, p1, p2, q1, q2, q3, q4, ho, hcd⟩ := T.fn
  obtain ⟨nm, q, N, bs, bm, sn, sub, ab, col, dd, k0, k1, k2, k3, k5, hC, hbm⟩ := T.cls
  have hcl : clsIn K C = some { name := nm, bases := bs, mro := .ref C :: bm, ns := N, qualname := q, hasDict := true, slotNames := sn, subclasses := sub, abstract := ab, collection := col, hasDel := false } := by unfold clsIn; rw [hC] <;> rfl
  refine Att.call_fn (binds := [("self", .ref x), ("line", v)]) X hlim ho hcd hroom (BindsTo.of_eq (by first | rfl | with_unfolding_all rfl)) (by first | rfl | decide | with_unfolding_all rfl) (fun s₁ IC => ?_) rfl rfl rfl
  obtain ⟨h₁, tk₁, rfl⟩ := IC.toInCall.same
  have k : ∀ b o, s.heap.get? b = some o → h₁.get? b = some o := IC.toInCall.keep
  have hn := IC.toInCall.ns
  have hxL : s.heap.objs.size ≠ x := Nat.ne_of_gt (Heap.lt_size hx)
  have X₁ : K.In h₁ := X.keeps k
  have hx₁ := k _ _ hx
  -- self.by = by
  show wpAny _ _ (execs _ _) _ _ _
  refine wpAny_execs_cons (plainObj_wpAny_Assign_Attribute ?_)
  refine ldC (v := v) hn (by first | rfl | with_unfolding_all rfl | kernel_rfl) (ldC (v := .ref x) hn (by first | rfl | with_unfolding_all rfl | kernel_rfl) ?_)
  refine set_plain X₁ (ox := excO C t0) (od := none) ⟨hx₁, rfl, rfl, trivial⟩ T.sa ?_
  refine exc_osa X₁ hx₁ hcl (show refsVE (.ref C :: bm) = true from hbm) rfl T.noN (fun h₃ tk₃ dx k₃ dn dne hx₃ hn₃ => ?_)
  show wpAny _ _ (execs _ _) _ _ _
  have z : s.heap.objs.size < h₁.objs.size := hn.lt
  exact wpAny_execs_nil (hq h₃ tk₃ dx ⟨fun b o hb e => k₃ b o hb (k b o e), hx₃, Nat.le_of_lt (Nat.lt_of_lt_of_le z dn), dne, hn₃⟩)
theorem low_made (T : LowTxt K mg C fI) {v : Value} (X : K.In s.heap) (hlim : s.heap.NoLimit) (hroom : A.depth + 1 < recursionLimit)
    (hq : ∀ h' tk e d, OwnMade s.heap h' e C d v → R (.ok (.ret (.ref e))) { s with heap := h', toks := tk }) :
    codeAny (model prog w) A (.call (.ref C) ⟨[v], []⟩) R s := by
  obtain ⟨nm, q, N, bs, bm, sn, sub, ab, col, dd, k0, k1, k2, k3, k5, hC, hbm⟩ := T.cls
  obtain ⟨hp, g, dr, tk, os⟩ := s
  have k : ∀ b o, hp.get? b = some o → ((hp.push (kdv_tup [v])).push (excO C hp.objs.size)).get? b = some o := fun b o e => Heap.get?_push_of_some _ (Heap.get?_push_of_some _ e)
  have hget : ((hp.push (kdv_tup [v])).push (excO C hp.objs.size)).get? (hp.objs.size + 1) = some (excO C hp.objs.size) := by heap_get
  have hnx : K.lookup (hp.objs.size + 1) = none := by
    cases e : K.lookup (hp.objs.size + 1) with
    | none => rfl
    | some o =>
      have z : hp.get? (hp.objs.size + 1) = some o := X _ _ e
      exact absurd (Nat.lt_of_succ_lt (Heap.lt_size z)) (Nat.lt_irrefl _)
  refine call_own F.excBase_ValueError (fun X => refsVE_contains X bm hbm) (X _ _ hC) (looks_findIn X T.iC) (fun self => bind_fn X self T.tC) (one_size v) ?_
  refine low_init (s := ⟨(hp.push (kdv_tup [v])).push (excO C hp.objs.size), g, dr, tk, os⟩) T (X.keeps k) (hlim.keeps k) hget hnx ?_ fun h' tk' dx ⟨k', hx, dn, dne, hns⟩ => ?_
  · show A.depth + 1 < recursionLimit
    exact hroom
  · have old : ∀ b o, hp.get? b = some o → h'.get? b = some o := fun b o e => k' b o (Nat.ne_of_lt (Nat.lt_succ_of_lt (Heap.lt_size e))) (k b o e)
    have z : hp.objs.size + 1 + 1 ≤ dx := by
      first
        | (simpa only [Heap.size_push] using dn)
        | exact dn
        | (have q := dn; rw [Heap.size_push, Heap.size_push] at q; exact q)
    exact ⟨rfl, hq h' tk' (hp.objs.size + 1) dx ⟨old, Nat.le_succ _, ⟨_, _, hx, rfl, rfl, rfl, rfl⟩, Nat.le_trans (Nat.le_trans (Nat.le_succ _) (Nat.le_succ _)) z, dne, hns⟩⟩
end
end LowX
end PySem
namespace L2
open PySem PySem.Spec PyProof.Rows
theorem relO_low {v : V} {v' : Value} (r : RelV v v') (f : Str) : RelO (List.lookup f [(("line" : Str), v)]) (if f = "line" then some v' else none) := by
  by_cases hw : f = "line"
  · subst hw
    rw [if_pos rfl]
    have q : List.lookup ("line" : Str) [(("line" : Str), v)] = some v := by simp [List.lookup]
    rw [q]
    exact r
  · rw [if_neg hw]
    have qw : (f == ("line" : Str)) = false := by simpa using hw
    have q2 : List.lookup f [(("line" : Str), v)] = none := by simp [List.lookup, qw]
    rw [q2]
    trivial
section
variable {X : Cx} {C fI : Addr}
/-- Low(e) -/
def tMkLow (C : Addr) (ta : TA) : St → Hp → XK → Prop := fun σ H Q => ta σ H fun vs H1 => ∃ v, vs = [v] ∧ ∀ d, H1 d = none → Q (.ref C) (some d) (upd H1 d (.xd [(("line" : Str), v)]))
theorem pmk_low {a : Expr} {ta : TA} {p pos : Pos} {k : Nat} (T : PySem.LowX.LowTxt X.K X.mg C fI) (hr : Room k X.A) (ha : PA X [a] ta) (hg : Gl X "BadLine" := by rfl)
    (he : starEach (a :: []) X.env = (false, eval a X.env) :: starEach [] X.env := by rfl) (hpl : (backTo pos (starEach [] X.env)).any (·.1) = false := by rfl) :
    PMk X (.Call (.Name "BadLine" p) [a] [] pos) (tMkLow C ta) := by
  intro pins s σ H Q I h
  refine wpAny_Call_Name_kw (ld_glob I hg T.gC ?_)
  refine PySem.W.callWith_K (h₀ := X.base) I.ok.mod.kin T.kC (thn (ha.run pos pins s σ H _ I h) fun us s1 hh => ?_) he hpl
  obtain ⟨vs, H1, I1, r1, v, ev, q1⟩ := hh
  subst ev
  refine ⟨I1.kIn, ?_⟩
  cases r1 with
  | cons rv rn =>
    rename_i v' us'
    cases rn
    show wpAny _ _ (call (.ref C) [v']) _ _ _
    have hlim := I1.nolimit
    obtain ⟨hp, g, dr, tk, os⟩ := s1
    refine wpAny_call (PySem.LowX.low_made T I1.kIn hlim (by have := hr.dp; omega) fun h' tk' e d M => ?_)
    show MkP X pins σ Q (.ref e) ⟨h', g, dr, tk', os⟩
    obtain ⟨oe, fv, hoe, hc, hd, hdat, h1⟩ := M.obj
    have hns := M.ns
    obtain ⟨G', g1, g2⟩ := restrict h' fun b => decide (b ≠ e)
    have gk : ∀ b, b ≠ e → G'.get? b = h'.get? b := fun b hb => g1 b (decide_eq_true hb)
    have ge : G'.get? e = none := g2 e (by simp)
    have old : ∀ b o, hp.get? b = some o → G'.get? b = some o := fun b o q => (gk b (Nat.ne_of_lt (Nat.lt_of_lt_of_le (Heap.lt_size q) M.new))).trans (M.keep b o q)
    have ob : ObjOk X.prog X.w (upd H1 d (.xd [(("line" : Str), v)])) G' d (.xd [(("line" : Str), v)]) :=
      ⟨_, hns.at (fun o q => (gk d M.dne).trans q), fun f => relO_low rv f⟩
    have J : Inv X pins σ (upd H1 d (.xd [(("line" : Str), v)])) ⟨G', g, dr, tk', os⟩ := I1.laid (t' := tk') old M.dbig ob
    refine ⟨e, oe, fv, ⟨G', g, dr, tk', os⟩, _, .ref C, some d, rfl, J, fun b o q => ?_, ge, hoe, ⟨hc, hd⟩, hdat, h1, ?_, rfl, I1.bare, raises_own T.exC T.tyC, q1 d (I1.hok.fresh M.dbig)⟩
    · by_cases hb : b = e
      · have q' : G'.get? b = some o := q
        rw [hb, ge] at q'; cases q'
      · exact (gk b hb).symm.trans q
    · rw [upd_ne (Ne.symm M.dne)]
      exact I1.hok.fresh M.new
/-- raise Low(e) -/
def tRaiseLow (C : Addr) (W : WX) (ta : TA) : TS := fun _ σ H => tMkLow C ta σ H fun cls d H' => W cls d σ H'
theorem ps_raiseLow {a : Expr} {ta : TA} {W : WX} {p pos pos2 : Pos} {k : Nat} (hc : X.calm = true) (T : PySem.LowX.LowTxt X.K X.mg C fI) (hr : Room k X.A) (tk : Takes X W) (ha : PA X [a] ta) (hg : Gl X "BadLine" := by rfl)
    (he : starEach (a :: []) X.env = (false, eval a X.env) :: starEach [] X.env := by rfl) (hpl : (backTo pos (starEach [] X.env)).any (·.1) = false := by rfl) :
    PS X (.Raise (some (.Call (.Name "BadLine" p) [a] [] pos)) none pos2) (tRaiseLow C W ta) := ps_raise hc tk (pmk_low T hr ha hg he hpl)
/-- low.by, low the exception that the suite holds (at a; its class cls, its dict d) -/
def tByLow (C : Addr) (a : Addr) (cls : Value) (d : Option Addr) (te : TE) : TE := fun σ H Q => te σ H fun x H1 => x = .ref a ∧ cls = .ref C ∧ ∃ (dd : Addr) (v : V), d = some dd ∧ H1 dd = some (.xd [(("line" : Str), v)]) ∧ Q v H1
theorem pe_byLow {a : Addr} {oe : Obj} {cls : Value} {d : Option Addr} {pn : List (Addr × Obj)} {e : Expr} {te : TE} {pos : Pos} (T : PySem.LowX.LowTxt X.K X.mg C fI) (hz : Zc cls d oe) (hf : ∃ vs, oe.data = .fields vs) (he : PE (X.suite a ((a, oe) :: pn)) e te)
    (hb : attributeBase e "line" X.env (eval e X.env) = eval e X.env := by rfl) :
    PE (X.suite a ((a, oe) :: pn)) (.Attribute e "line" pos) (tByLow C a cls d te) := by
  refine ⟨fun pins s σ H Q I h => ?_⟩
  refine attr_of hb (thn (he.run pins s σ H _ I h) fun u s1 hh => ?_)
  obtain ⟨x, H1, I1, rx, ex, ec, dd, v, ed, ea, q⟩ := hh
  subst ex
  obtain rfl : u = Value.ref a := rx
  subst ec
  subst ed
  obtain ⟨ha, _⟩ := I1.pin (a, oe) (List.mem_append_left _ List.mem_cons_self)
  obtain ⟨vs, hd⟩ := hf
  have hx : ObjOk X.prog X.w H1 s1.heap dd (.xd [(("line" : Str), v)]) := I1.hok dd _ ea
  obtain ⟨mA, hns, hr⟩ := hx
  obtain ⟨od, ho, hl⟩ := lookIn_ns hns
  have l : List.lookup ("line" : Str) [(("line" : Str), v)] = some v := by simp [List.lookup]
  obtain ⟨u, hu, ru⟩ := RelO.some_of (v := v) (o := mA "line") (by rw [← l]; exact hr "line")
  have J : PySem.W.InstAt s1.heap a oe C (some od) := ⟨ha, hz.1, by unfold PySem.W.notCls; rw [hd] <;> rfl, by rw [hz.2]; exact ho⟩
  exact HandSPX.exc_get I1.kIn J T.ga T.gg T.exC (PySem.W.findObj_own T.hdC T.noN rfl (by rw [hl, hu])) (handed_of ru) ⟨v, H1, I1.tok _, ru, q⟩
end
end L2
namespace SB
open PySem PySem.Spec PyProof.Rows L2
section
variable {W : WX} {Z : XP} {ρ : Rho} {μ : M} {F : Fin} {C : Addr} {ta : TA}
/-- raise BadLine(e) -/
theorem wpS_raiseLow (h : wpA W Z ta ρ μ fun ds μ1 => ∃ v, ds = [v] ∧ Z ⟨.ref C, some [("line", v)]⟩ ρ μ1) : wpS W Z (tRaiseLow C W ta) ρ μ F := fun σ G H e ho z E k =>
  h σ G H e ho z _ fun vs ds μ1 G1 H1 a1 h1 r1 p1 => by
    obtain ⟨v, rfl, p⟩ := p1
    cases r1 with
    | cons r r1 =>
      cases r1
      refine ⟨_, rfl, fun d hd => ?_⟩
      exact z _ _ ⟨.ref C, some [("line", v)]⟩ ρ μ1 σ G1 _ a1 (e.mono a1) (h1.newX hd) ⟨rfl, d, _, rfl, upd_same, .cons r .nil⟩ p
end
end SB

/-! SBn: try: .. except C as n: -/
namespace SB
open PySem PySem.Spec PyProof.Rows L2
section
variable {K : PySem.W.Frag} {c : Value} {i : Nat} {ts : Addr → Value → Option Addr → TS} {W : WX} {Z : XP} {F : Fin} {tb : WX → TS} {ρ : Rho} {μ : M} {C : Addr}
/-- the exception's own data stand at dd -/
def XdAt (G H : Hp) (dd : Option Addr) (fs : List (Str × D)) : Prop := ∃ d vs, dd = some d ∧ H d = some (.xd vs) ∧ Repf G vs fs
def wpX (W : WX) (Z : XP) (dd : Option Addr) (fs : List (Str × D)) (t : TE) (ρ : Rho) (μ : M) (P : D → M → Prop) : Prop := ∀ σ G H, Env G σ ρ → Hold μ G H → XW W Z G → XdAt G H dd fs → ∀ Q : VK, (∀ v d μ' G' H', Ex G G' → Hold μ' G' H' → Rep G' v d → P d μ' → Q v H') → t σ H Q
def wpSX (W : WX) (Z : XP) (dd : Option Addr) (fs : List (Str × D)) (t : TS) (ρ : Rho) (μ : M) (F : Fin) : Prop := ∀ σ G H, Env G σ ρ → Hold μ G H → XW W Z G → XdAt G H dd fs → ∀ E : Ends, Ends' F G E → t E σ H
/-- what follows when slot i is given back -/
def outOf (i : Nat) (F : Fin) : Fin := { nx := fun ρ μ => F.nx (ρ.set i none) μ, rt := F.rt, bk := fun ρ μ => F.bk (ρ.set i none) μ, ct := fun ρ μ => F.ct (ρ.set i none) μ }
def zAs (K : PySem.W.Frag) (c : Value) (i : Nat) (ts : Addr → Value → Option Addr → TS) (W : WX) (Z : XP) (F : Fin) : XP := fun x ρ μ =>
  ∃ b, PySem.W.exmOne K x.cls c = some b ∧ (b = true → ∃ fs, x.fs = some fs ∧ ∀ a dd, wpSX W Z dd fs (ts a x.cls dd) (ρ.set i (some (.cell a))) μ (outOf i F)) ∧ (b = false → Z x ρ μ)
theorem outEnds {G : Hp} {E : Ends} (k : Ends' F G E) : Ends' (outOf i F) G { nx := fun σ' H' => E.nx (σ'.set i none) H', rt := E.rt, bk := fun σ' H' => E.bk (σ'.set i none) H', ct := fun σ' H' => E.ct (σ'.set i none) H' } :=
  ⟨fun ρ μ σ G' H' a e h p => k.nx _ μ _ G' H' a (e.forget i) h p, k.rt, fun ρ μ σ G' H' a e h p => k.bk _ μ _ G' H' a (e.forget i) h p, fun ρ μ σ G' H' a e h p => k.ct _ μ _ G' H' a (e.forget i) h p⟩
theorem wpS_tryAs (h : ∀ W', wpS W' (zAs K c i ts W Z F) (tb W') ρ μ F) : wpS W Z (fun D σ H => tb (wAs K c i ts W D) D σ H) ρ μ F := fun σ G H e ho z E k => by
  refine h (wAs K c i ts W E) σ G H e ho ?_ E k
  rintro cls dd x ρ' μ' σ' G' H' a e' h' xr ⟨b, hb, h1, h2⟩
  obtain ⟨hc, hf⟩ := id xr
  subst hc
  refine ⟨b, hb, fun hb a' _ => ?_, fun hb => z _ _ x ρ' μ' σ' G' H' a e' h' xr (h2 hb)⟩
  obtain ⟨fs, hfs, h3⟩ := h1 hb
  rw [hfs] at hf
  exact h3 a' dd _ G' H' (e'.set i (.cell a')) h' (z.mono a) hf _ (outEnds (k.mono a))
theorem wpSX_set {dd : Option Addr} {fs : List (Str × D)} {te : TE} {j : Nat} (h : wpX W Z dd fs te ρ μ fun d μ' => F.nx (ρ.set j (some d)) μ') : wpSX W Z dd fs (tAsg te (gName j)) ρ μ F := fun σ G H e ho z x E k =>
  h σ G H e ho z x _ fun v d μ' G' H' a h' r p => k.nx _ μ' _ G' H' a ((e.mono a).set j r) h' p
theorem wpX_line {dd : Option Addr} {fs : List (Str × D)} {a : Addr} {i : Nat} {d : D} {P : D → M → Prop} (hi : ρ[i]? = some (some (.cell a))) (hf : fs = [(("line" : Str), d)]) (p : P d μ) : wpX W Z dd fs (tByLow C a (.ref C) dd (tVar i)) ρ μ P := fun σ G H e ho z x Q q => by
  subst hf
  obtain ⟨v, hv, r⟩ := e.at' i _ hi
  cases r
  obtain ⟨d', vs, rfl, hx, rf⟩ := x
  cases rf with
  | cons r1 rf =>
    cases rf
    exact ⟨_, hv, rfl, rfl, d', _, rfl, hx, q _ _ μ G H (Ex.refl G) ho r1 p⟩
theorem wpX_op {dd : Option Addr} {fs : List (Str × D)} {te : TE} {r : R2} {n : Int} {P : D → M → Prop} (h : wpX W Z dd fs te ρ μ fun y μ' => rel2 r (.int n) y μ' P) : wpX W Z dd fs (tOp r (tC (.int n)) te) ρ μ P := fun σ G H e ho z x Q q =>
  h σ G H e ho z x _ fun v y μ1 G1 H1 a1 h1 r1 p1 => p1 _ _ G1 H1 h1 (.int n) r1 Q fun v d μ3 G3 H3 a3 h3 r3 p3 => q v d μ3 G3 H3 (a1.trans a3) h3 r3 p3
end
end SB

namespace SB
open PySem PySem.Spec PyProof.Rows L2
local macro_rules | `(tactic| walk_at "w1") => `(tactic| first
  | ((with_reducible refine' wp_var ?h ?_); (case h => exact rfl))
  | with_reducible refine wp_int ?_
  | with_reducible refine wp_bl ?_
  | with_reducible refine wp_str ?_
  | with_reducible refine wp_non ?_
  | with_reducible refine wp_ty ?_
  | with_reducible refine wp_ref ?_
  | with_reducible refine wp_op ?_
  | with_reducible refine wp_un ?_
  | with_reducible refine wp_cb ?_
  | with_reducible refine wpA_cons ?_
  | with_reducible refine wpA_nil ?_
  | with_reducible refine wpT_test ?_
  | with_reducible refine wpT_tru ?_
  | with_reducible refine wpT_not ?_
  | with_reducible refine wpT_and ?_
  | with_reducible refine wpT_or ?_
  | with_reducible refine wp_andV ?_
  | with_reducible refine wp_orV ?_
  | with_reducible refine wp_notV ?_
  | with_reducible refine wp_if ?_
  | with_reducible refine wp_chain ?_
  | with_reducible refine wpS_seq ?_
  | with_reducible refine wpS_ret ?_
  | with_reducible refine wpS_retN ?_
  | with_reducible refine wpS_set ?_
  | with_reducible refine wpS_if ?_
  | with_reducible refine wpS_next ?_
  | with_reducible refine wpS_par ?_
  | with_reducible refine u_add ?_
  | with_reducible refine u_sub ?_
  | with_reducible refine u_cmp ?_
  | with_reducible refine r_neg ?_
  | with_reducible refine r_isN ?_
  | with_reducible refine r_notN ?_
  | with_reducible refine r_eqI ?_
  | with_reducible refine r_neI ?_
  | with_reducible refine u_len ?_
  | with_reducible refine u_lenT ?_
  | with_reducible refine rc_abs ?_
  | with_reducible refine rc_max2 ?_
  | with_reducible refine rc_min2 ?_
  | with_reducible refine u_intI ?_
  | with_reducible refine u_intB ?_
  | with_reducible refine k_tuple ?_
  | with_reducible refine rc_all ?_
  | with_reducible refine u_anyI ?_
  | ((with_reducible refine' rc_isInt ?h ?_); (case h => first | assumption | exact .int | exact .bl | exact .non | fail "x"))
  | ((with_reducible refine' rc_isBool ?h ?_); (case h => first | assumption | exact .int | exact .bl | exact .non | fail "x"))
  | ((with_reducible refine' rc_isStr ?h ?_); (case h => first | assumption | exact .int | exact .bl | exact .non | fail "x"))
  | ((with_reducible refine' rc_isTup ?h ?_); (case h => first | assumption | exact .int | exact .bl | exact .non | fail "x"))
  | ((with_reducible refine' rc_isLst ?h ?_); (case h => first | assumption | exact .int | exact .bl | exact .non | fail "x"))
  | with_reducible refine wp_callP ?_
  | with_reducible exact ⟨rfl, rfl⟩
  | with_reducible refine ⟨_, rfl, ?_⟩)
local macro_rules | `(tactic| walk_at "w") => `(tactic| (repeat (walk_at "w1")))
theorem and_size_Desks {xs : List D} {p : Prop} (h : decide (xs.length ≤ sizeLine) = true) (hp : p) : xs.length ≤ sizeLine ∧ p := ⟨of_decide_eq_true h, hp⟩
local macro_rules | `(tactic| walk_at "d1") => `(tactic| first
  | walk_at "w1"
  | with_reducible refine wp_tup ?_
  | with_reducible refine wp_lst ?_
  | ((with_reducible refine' and_size_Desks ?h ?_); (case h => rfl)))
local macro_rules | `(tactic| walk_at "d") => `(tactic| (repeat (walk_at "d1")))
def top (i : Nat) : Stmt := PySem.Challenge.pw_slipbooks_k09_texts_refused.main.body.getD i (.Pass ⟨0, 0, 0, 0⟩)
abbrev s_is_whole : Stmt := (top 8)
abbrev N_is_whole : List Str := ["thing"]
theorem sc_is_whole : FnScope N_is_whole ["thing"] (defScope s_is_whole) := ⟨rfl, rfl, rfl, by decide +kernel, rfl, by decide +kernel, by decide +kernel⟩
abbrev s_is_small : Stmt := (top 9)
abbrev N_is_small : List Str := ["thing"]
theorem sc_is_small : FnScope N_is_small ["thing"] (defScope s_is_small) := ⟨rfl, rfl, rfl, by decide +kernel, rfl, by decide +kernel, by decide +kernel⟩
abbrev s_is_word : Stmt := (top 10)
abbrev N_is_word : List Str := ["thing", "sign"]
theorem sc_is_word : FnScope N_is_word ["thing"] (defScope s_is_word) := ⟨rfl, rfl, rfl, by decide +kernel, rfl, by decide +kernel, by decide +kernel⟩
abbrev s_is_pair : Stmt := (top 11)
abbrev N_is_pair : List Str := ["thing"]
theorem sc_is_pair : FnScope N_is_pair ["thing"] (defScope s_is_pair) := ⟨rfl, rfl, rfl, by decide +kernel, rfl, by decide +kernel, by decide +kernel⟩
abbrev s_are_unlike : Stmt := (top 12)
abbrev N_are_unlike : List Str := ["pairs", "pair"]
theorem sc_are_unlike : FnScope N_are_unlike ["pairs"] (defScope s_are_unlike) := ⟨rfl, rfl, rfl, by decide +kernel, rfl, by decide +kernel, by decide +kernel⟩
abbrev s_are_lives : Stmt := (top 13)
abbrev N_are_lives : List Str := ["thing", "life"]
theorem sc_are_lives : FnScope N_are_lives ["thing"] (defScope s_are_lives) := ⟨rfl, rfl, rfl, by decide +kernel, rfl, by decide +kernel, by decide +kernel⟩
abbrev s_is_check : Stmt := (top 14)
abbrev N_is_check : List Str := ["thing", "many", "number"]
theorem sc_is_check : FnScope N_is_check ["thing", "many"] (defScope s_is_check) := ⟨rfl, rfl, rfl, by decide +kernel, rfl, by decide +kernel, by decide +kernel⟩
abbrev s_are_checks : Stmt := (top 15)
abbrev N_are_checks : List Str := ["thing", "many", "check"]
theorem sc_are_checks : FnScope N_are_checks ["thing", "many"] (defScope s_are_checks) := ⟨rfl, rfl, rfl, by decide +kernel, rfl, by decide +kernel, by decide +kernel⟩
abbrev s_Desk___init__ : Stmt := (inClass (top 16) 0)
abbrev N_Desk___init__ : List Str := ["self", "lives", "checks"]
theorem sc_Desk___init__ : FnScope N_Desk___init__ ["self", "lives", "checks"] (defScope s_Desk___init__) := ⟨rfl, rfl, rfl, by decide +kernel, rfl, by decide +kernel, by decide +kernel⟩
abbrev s_Desk___eq__ : Stmt := (inClass (top 16) 1)
abbrev N_Desk___eq__ : List Str := ["self", "other"]
theorem sc_Desk___eq__ : FnScope N_Desk___eq__ ["self", "other"] (defScope s_Desk___eq__) := ⟨rfl, rfl, rfl, by decide +kernel, rfl, by decide +kernel, by decide +kernel⟩
/-! ### desks -/
def isWhole : D → Bool
  | .int _ => true
  | _ => false
def isSmall : D → Bool
  | .int i => decide (-9 ≤ i) && decide (i ≤ 9)
  | _ => false
abbrev SMALL : Str := "abcdefghijklmnopqrstuvwxyz"
def isWord : D → Bool
  | .str s => decide ((1 : Int) ≤ (s.length : Nat)) && (decide ((s.length : Nat) ≤ (8 : Int)) && s.cps.toList.all fun c => decide (c ∈ SMALL.cps.toList))
  | _ => false
def fstD : D → D
  | .tup (a :: _) => a
  | _ => .non
def sndD : D → D
  | .tup (_ :: b :: _) => b
  | _ => .non
def lenD : D → Nat
  | .tup xs => xs.length
  | .lst xs => xs.length
  | _ => 0
def itemsD : D → List D
  | .tup xs => xs
  | .lst xs => xs
  | _ => []
def nameD : D → Str
  | .tup (.str n :: _) => n
  | _ => ""
def isPair (d : D) : Bool := isT d && (decide ((lenD d : Int) = 2) && isWord (fstD d))
def lifeOk (d : D) : Bool := isPair d && isSmall (sndD d)
def areLives (d : D) : Bool := isT d && (decide ((1 : Int) ≤ lenD d) && decide ((lenD d : Int) ≤ 8)) && ((itemsD d).all lifeOk && decide (((itemsD d).map nameD).Nodup))
def isCheck (d : D) (m : Int) : Bool := isPair d && (isT (sndD d) && (decide ((lenD (sndD d) : Int) = m) && (itemsD (sndD d)).all isSmall))
def areChecks (d : D) (m : Int) : Bool := isT d && decide ((lenD d : Int) ≤ 6) && ((itemsD d).all (fun x => isCheck x m) && decide (((itemsD d).map nameD).Nodup))
abbrev S_is_whole : DSp := Pu (fun x => [x]) (Shp 9) fun x => .bl (isWhole x)
abbrev S_is_small : DSp := Pu (fun x => [x]) (Shp 9) fun x => .bl (isSmall x)
def StrSmall : D → Prop
  | .str s => s.length ≤ 1000
  | _ => True
abbrev S_is_word : DSp := Pu (fun x => [x]) (fun x => Shp 9 x ∧ StrSmall x) fun x => .bl (isWord x)
/-- plain data whose texts are short, its lists too -/
inductive Pl : Nat → D → Prop
  | non {n : Nat} : Pl n .non
  | bl {n : Nat} {b : Bool} : Pl n (.bl b)
  | int {n : Nat} {i : Int} : Pl n (.int i)
  | str {n : Nat} {s : Str} (h : PySem.PyData.strOk s = true) (hs : s.length ≤ 1000) : Pl n (.str s)
  | tup {n : Nat} {xs : List D} (h : ∀ x ∈ xs, Pl n x) (hl : xs.length ≤ 1000) : Pl (n + 1) (.tup xs)
  | lst {n : Nat} {xs : List D} (h : ∀ x ∈ xs, Pl n x) (hl : xs.length ≤ 1000) : Pl (n + 1) (.lst xs)
theorem Pl.shp {n : Nat} {d : D} (h : Pl n d) : Shp n d := by
  induction h with
  | non => exact .non
  | bl => exact .bl
  | int => exact .int
  | str h _ => exact .str h
  | tup _ _ ih => exact .tup ih
  | lst _ _ ih => exact .lst ih
theorem Pl.mono {n m : Nat} {d : D} (h : Pl n d) (hm : n ≤ m) : Pl m d := by
  induction h generalizing m with
  | non => exact .non
  | bl => exact .bl
  | int => exact .int
  | str h hs => exact .str h hs
  | tup _ hl ih =>
    obtain ⟨k, rfl⟩ : ∃ k, m = k + 1 := ⟨m - 1, by omega⟩
    exact .tup (fun x hx => ih x hx (by omega)) hl
  | lst _ hl ih =>
    obtain ⟨k, rfl⟩ : ∃ k, m = k + 1 := ⟨m - 1, by omega⟩
    exact .lst (fun x hx => ih x hx (by omega)) hl
theorem Pl.small {n : Nat} {d : D} (h : Pl n d) : StrSmall d := by
  cases h with
  | str _ hs => exact hs
  | _ => trivial
theorem Pl.shp9 {n : Nat} {d : D} (h : Pl n d) (hn : n ≤ 9) : Shp 9 d := h.shp.mono hn
theorem Pl.fst {n : Nat} {d : D} (h : Pl n d) : Pl n (fstD d) := by
  cases h with
  | tup h _ =>
    rename_i xs _
    cases xs with
    | nil => exact .non
    | cons a r => exact (h a List.mem_cons_self).mono (Nat.le_succ _)
  | _ => exact .non
theorem Pl.snd {n : Nat} {d : D} (h : Pl n d) : Pl n (sndD d) := by
  cases h with
  | tup h _ =>
    rename_i xs _
    cases xs with
    | nil => exact .non
    | cons a r =>
      cases r with
      | nil => exact .non
      | cons b r => exact (h b (List.mem_cons_of_mem _ List.mem_cons_self)).mono (Nat.le_succ _)
  | _ => exact .non
abbrev S_is_pair : DSp := Pu (fun x => [x]) (Pl 8) fun x => .bl (isPair x)
/-- pairs with a name -/
def pairD (p : Str × D) : D := .tup [.str p.1, p.2]
abbrev S_are_unlike : DSp := Pu (fun a : Bool × List (Str × D) => [seqD a.1 (a.2.map pairD)]) (fun a => a.2.length ≤ 1000) fun a => .bl (decide ((a.2.map (·.1)).Nodup))
abbrev S_are_lives : DSp := Pu (fun x => [x]) (Pl 8) fun x => .bl (areLives x)
abbrev S_is_check : DSp := Pu (fun a : D × Int => [a.1, .int a.2]) (fun a => Pl 8 a.1) fun a => .bl (isCheck a.1 a.2)
abbrev S_are_checks : DSp := Pu (fun a : D × Int => [a.1, .int a.2]) (fun a => Pl 8 a.1) fun a => .bl (areChecks a.1 a.2)
theorem isPair_shape {d : D} (h : isPair d = true) : ∃ s x, d = .tup [.str s, x] := by
  unfold isPair isT lenD fstD at h
  cases d with
  | tup xs =>
    simp only [Bool.and_eq_true, decide_eq_true_eq, Bool.true_and] at h
    match xs, h with
    | [a, b], h =>
      cases a with
      | str s => exact ⟨s, b, rfl⟩
      | _ => exact absurd h.2 (by simp [isWord])
    | [], h => exact absurd h.1 (by simp)
    | [_], h => exact absurd h.1 (by simp)
    | _ :: _ :: _ :: _, h => exact absurd h.1 (by simp; omega)
  | _ => simp at h
theorem pairs_of {xs : List D} (h : ∀ x ∈ xs, isPair x = true) : xs = (xs.map fun x => (nameD x, sndD x)).map pairD := by
  rw [List.map_map]
  conv => lhs; rw [← List.map_id xs]
  refine List.map_congr_left fun x hx => ?_
  obtain ⟨s, y, rfl⟩ := isPair_shape (h x hx)
  rfl
section
variable {P : Program} {w : World} {K : PySem.W.Frag} {mg : Str → Option Value} {base : Heap}
theorem d_is_whole (B : Bt mg)  (src : Src K mg "is_whole" s_is_whole ["thing"])  : Def P w K mg base 1 "is_whole" ["thing"] S_is_whole := by
  refine Def.of src sc_is_whole (fun ds μ Q X h => by obtain ⟨a, rfl, _⟩ := h; rfl) fun f cdv A outer s0 H E hr tk => ?_
  refine ⟨_, (pss_one (ps_ret (pe_and (pe_callB (kIsi K rfl) (by rfl) B.isinstance (by decide +kernel) (pa_cons (pv 0) (pa_cons (pe_bltn (v := .ty "int") (by rfl) B.int (by decide +kernel) rfl) pa_nil))) (pe_one (pe_not (pe_callB (kIsi K rfl) (by rfl) B.isinstance (by decide +kernel) (pa_cons (pv 0) (pa_cons (pe_bltn (v := .ty "bool") (by rfl) B.bool (by decide +kernel) rfl) pa_nil)))))))), ?_⟩
  rintro ds μ Q X ⟨x, rfl, hx, q⟩
  walk_at "w"
  refine ⟨fun hb => ?_, fun hb => ?_⟩
  · walk_at "w"
    cases x <;> first | exact q | cases hb
  · cases x <;> first | exact q | cases hb
theorem d_is_small (B : Bt mg)  (src : Src K mg "is_small" s_is_small ["thing"]) (d_is_whole : Def P w K mg base 1 "is_whole" ["thing"] S_is_whole) : Def P w K mg base 2 "is_small" ["thing"] S_is_small := by
  obtain ⟨f_is_whole, fd_is_whole, G_is_whole, m_is_whole, k_is_whole, b_is_whole⟩ := d_is_whole
  refine Def.of src sc_is_small (fun ds μ Q X h => by obtain ⟨a, rfl, _⟩ := h; rfl) fun f cdv A outer s0 H E hr tk => ?_
  refine ⟨_, (pss_one (ps_ret (pe_and (pe_callS G_is_whole (hr.mono (by decide)) (by rfl) m_is_whole k_is_whole b_is_whole (fun σ => passAt takes0 σ) (pa_cons (pv 0) pa_nil)) (pe_one (pe_chain op_le op_le (pe_un un_neg pe_int) (pv 0) pe_int))))), ?_⟩
  rintro ds μ Q X ⟨x, rfl, hx, q⟩
  walk_at "w"
  refine ⟨hx, _, rfl, fun hb => ?_, fun hb => ?_⟩
  · cases x with
    | int i =>
      walk_at "w"
      have q : Q (.bl (decide (-9 ≤ i) && decide (i ≤ 9))) μ := q
      refine ⟨fun h => ?_, fun h => ?_⟩
      · rw [h] at q
        walk_at "w"
        exact q
      · rw [h] at q
        exact q
    | _ => cases hb
  · cases x <;> first | exact q | cases hb
theorem d_is_word (B : Bt mg)  (src : Src K mg "is_word" s_is_word ["thing"]) (g_SMALL : ∃ t, mg "SMALL" = some (.str "abcdefghijklmnopqrstuvwxyz" t)) : Def P w K mg base 1 "is_word" ["thing"] S_is_word := by
  obtain ⟨tc_SMALL, gc_SMALL⟩ := g_SMALL
  refine Def.of src sc_is_word (fun ds μ Q X h => by obtain ⟨a, rfl, _⟩ := h; rfl) fun f cdv A outer s0 H E hr tk => ?_
  refine ⟨_, (pss_one (ps_ret (pe_and (pe_callB (kIsi K rfl) (by rfl) B.isinstance (by decide +kernel) (pa_cons (pv 0) (pa_cons (pe_bltn (v := .ty "str") (by rfl) B.str (by decide +kernel) rfl) pa_nil))) (pe_and (pe_chain op_le op_le pe_int (pe_callB (kLen K rfl) (by rfl) B.len (by decide +kernel) (pa_cons (pv 0) pa_nil)) pe_int) (pe_one (pe_callB (kAll K rfl rfl) (by rfl) B.all (by decide +kernel) (pa_cons (pe_lc (own := [("sign", 1)]) rfl sc_is_word.nd (kSeq K rfl (pv 0)) (blkOk_by (own := [("sign", 1)]) (N := N_is_word) (sc := defScope s_is_word) (by decide +kernel)) (fun _ _ _ _ _ => (pg_name (i := 1) sc_is_word.nd rfl (by first | exact Or.inl rfl | exact Or.inr rfl))) (fun _ _ _ _ _ => pts_nil) (fun _ _ _ _ _ => (pe_cmpR (kIn K rfl) (pv 1) (pe_glob (v := .str "abcdefghijklmnopqrstuvwxyz") (by rfl) gc_SMALL ⟨_, rfl⟩) (by rfl)))) pa_nil))))))), ?_⟩
  rintro ds μ Q X ⟨x, rfl, ⟨hx, hz⟩, q⟩
  walk_at "w"
  refine ⟨fun hb => ?_, fun hb => ?_⟩
  · cases x with
    | str s =>
      have hl : s.length ≤ 1000 := hz
      have q : Q (.bl (decide ((1 : Int) ≤ (s.length : Nat)) && (decide ((s.length : Nat) ≤ (8 : Int)) && s.cps.toList.all fun c => decide (c ∈ SMALL.cps.toList)))) μ := q
      walk_at "w"
      refine u_lenS (Nat.le_trans hl (by decide)) ?_
      walk_at "w"
      refine ⟨fun h1 => ?_, fun h1 => ?_⟩
      · rw [h1] at q
        walk_at "w"
        refine ⟨fun h2 => ?_, fun h2 => ?_⟩
        · rw [h2] at q
          walk_at "w"
          refine wp_lcF s.cps.toList (fun c => .str ⟨#[c]⟩) [1] (fun c => [some (.str s), some (.str ⟨#[c]⟩)]) (fun c => .bl (decide (c ∈ SMALL.cps.toList))) (by simp) (fun c _ => wpG_name) (fun c _ μ2 => ?_) ?_
          · walk_at "w"
            exact u_inSg ⟨rfl, rfl⟩
          · refine wpI_seqS ?_
            walk_at "w"
            refine ⟨rfl, Nat.le_trans (Nat.le_of_eq (show s.cps.toList.length = s.length from Array.length_toList)) (by omega), ?_⟩
            walk_at "w"
            refine rc_allM ?_
            exact q
        · rw [h2] at q
          exact q
      · rw [h1] at q
        walk_at "w"
        refine ⟨fun h => (by cases h), fun _ => ?_⟩
        exact q
    | _ => cases hb
  · cases x <;> first | exact q | cases hb
theorem d_is_pair (B : Bt mg)  (src : Src K mg "is_pair" s_is_pair ["thing"]) (d_is_word : Def P w K mg base 1 "is_word" ["thing"] S_is_word) : Def P w K mg base 2 "is_pair" ["thing"] S_is_pair := by
  obtain ⟨f_is_word, fd_is_word, G_is_word, m_is_word, k_is_word, b_is_word⟩ := d_is_word
  refine Def.of src sc_is_pair (fun ds μ Q X h => by obtain ⟨a, rfl, _⟩ := h; rfl) fun f cdv A outer s0 H E hr tk => ?_
  refine ⟨_, (pss_one (ps_ret (pe_and (pe_callB (kIsi K rfl) (by rfl) B.isinstance (by decide +kernel) (pa_cons (pv 0) (pa_cons (pe_bltn (v := .ty "tuple") (by rfl) B.tuple (by decide +kernel) rfl) pa_nil))) (pe_and (pe_cmpR (kEq K rfl hr.units) (pe_callB (kLen K rfl) (by rfl) B.len (by decide +kernel) (pa_cons (pv 0) pa_nil)) pe_int (nomark _)) (pe_one (pe_callS G_is_word (hr.mono (by decide)) (by rfl) m_is_word k_is_word b_is_word (fun σ => passAt takes0 σ) (pa_cons (pe_ix (kIx K rfl) (pv 0) pe_int (fun _ _ => rfl)) pa_nil))))))), ?_⟩
  rintro ds μ Q X ⟨x, rfl, hx, q⟩
  have q : Q (.bl (isPair x)) μ := q
  have hs : Shp 9 x := hx.shp9 (by decide)
  walk_at "w"
  refine ⟨fun hb => ?_, fun hb => ?_⟩
  · cases x with
    | tup xs =>
      walk_at "w"
      refine ⟨fun h1 => ?_, fun h1 => ?_⟩
      · have h1 : decide ((xs.length : Int) = 2) = true := h1
        have h2 : (xs.length : Int) = 2 := of_decide_eq_true h1
        match xs, h2 with
        | [a, b], h2 =>
          walk_at "w"
          refine u_ixT (i := 0) atI_0 ?_
          walk_at "w"
          have ha := hx.fst
          refine ⟨⟨ha.shp9 (by decide), ha.small⟩, ?_⟩
          have e : isPair (.tup [a, b]) = isWord a := by unfold isPair isT lenD fstD; simp
          rw [e] at q
          exact q
      · have e : isPair (.tup xs) = false := by
          have h1 : decide ((xs.length : Int) = 2) = false := h1
          show (true && (decide ((xs.length : Int) = 2) && _)) = false
          rw [h1]; rfl
        rw [e] at q
        exact q
    | _ => cases hb
  · have e : isPair x = false := by unfold isPair; rw [hb]; rfl
    rw [e] at q
    exact q
theorem d_are_unlike (B : Bt mg)  (src : Src K mg "are_unlike" s_are_unlike ["pairs"])  : Def P w K mg base 1 "are_unlike" ["pairs"] S_are_unlike := by
  refine Def.of src sc_are_unlike (fun ds μ Q X h => by obtain ⟨a, rfl, _⟩ := h; rfl) fun f cdv A outer s0 H E hr tk => ?_
  refine ⟨_, (pss_one (ps_ret (pe_cmpR (kEq K rfl hr.units) (pe_callB call_lenD' (by rfl) B.len (by decide +kernel) (pa_cons (pe_dc (own := [("pair", 1)]) rfl sc_are_unlike.nd (kSeq K rfl (pv 0)) (blkOk_by (own := [("pair", 1)]) (N := N_are_unlike) (sc := defScope s_are_unlike) (by decide +kernel)) (fun _ _ _ _ _ => (pg_name (i := 1) sc_are_unlike.nd rfl (by first | exact Or.inl rfl | exact Or.inr rfl))) (fun _ _ _ _ _ => pts_nil) (fun _ _ _ _ _ => (pe_ix (kIx K rfl) (pv 1) pe_int (fun _ _ => rfl))) (fun _ _ _ _ _ => pe_bl)) pa_nil)) (pe_callB (kLen K rfl) (by rfl) B.len (by decide +kernel) (pa_cons (pv 0) pa_nil)) (nomark _)))), ?_⟩
  rintro ds μ Q X ⟨⟨k, ys⟩, rfl, hz, q⟩
  have hz : ys.length ≤ 1000 := hz
  refine wpS_ret (wp_op ?_)
  refine wp_lenDc ys pairD [1] (fun y => [some (seqD k (ys.map pairD)), some (pairD y)]) (fun y => y.1) (by simp) (fun y _ => wpG_name) (fun y _ μ2 => ?_) (fun y _ μ2 => ?_) ?_
  · walk_at "w"
    refine u_ixT (i := 0) atI_0 ⟨rfl, rfl⟩
  · walk_at "w"
  · refine wpI_seqB (k := k) ?_
    walk_at "w"
    refine ⟨rfl, by omega, fun n hn hiff => ?_⟩
    walk_at "w"
    refine u_lenB ?_
    walk_at "w"
    have e : decide (((n : Nat) : Int) = (((ys.map pairD).length : Nat) : Int)) = decide ((ys.map (·.1)).Nodup) := by
      rw [List.length_map]
      by_cases h : n = ys.length
      · rw [decide_eq_true (by omega : ((n : Nat) : Int) = ((ys.length : Nat) : Int)), decide_eq_true (hiff.mp h)]
      · rw [decide_eq_false (by omega : ¬ ((n : Nat) : Int) = ((ys.length : Nat) : Int)), decide_eq_false (fun c => h (hiff.mpr c))]
    rw [e]
    exact q
theorem d_are_lives (B : Bt mg)  (src : Src K mg "are_lives" s_are_lives ["thing"]) (d_are_unlike : Def P w K mg base 1 "are_unlike" ["pairs"] S_are_unlike) (d_is_pair : Def P w K mg base 2 "is_pair" ["thing"] S_is_pair) (d_is_small : Def P w K mg base 2 "is_small" ["thing"] S_is_small) (g_MOST_LIVES : ∃ t, mg "MOST_LIVES" = some (.int 8 t)) : Def P w K mg base 3 "are_lives" ["thing"] S_are_lives := by
  obtain ⟨f_are_unlike, fd_are_unlike, G_are_unlike, m_are_unlike, k_are_unlike, b_are_unlike⟩ := d_are_unlike
  obtain ⟨f_is_pair, fd_is_pair, G_is_pair, m_is_pair, k_is_pair, b_is_pair⟩ := d_is_pair
  obtain ⟨f_is_small, fd_is_small, G_is_small, m_is_small, k_is_small, b_is_small⟩ := d_is_small
  obtain ⟨tc_MOST_LIVES, gc_MOST_LIVES⟩ := g_MOST_LIVES
  refine Def.of src sc_are_lives (fun ds μ Q X h => by obtain ⟨a, rfl, _⟩ := h; rfl) fun f cdv A outer s0 H E hr tk => ?_
  refine ⟨_, (pss_cons (ps_if (PW.pt (pw_or (pt_not (kTru K rfl (pe_callB (kIsi K rfl) (by rfl) B.isinstance (by decide +kernel) (pa_cons (pv 0) (pa_cons (pe_bltn (v := .ty "tuple") (by rfl) B.tuple (by decide +kernel) rfl) pa_nil))) (by intro _; rfl))) (pw_or1 (pt_not (pt_chain op_le op_le pe_int (pe_callB (kLen K rfl) (by rfl) B.len (by decide +kernel) (pa_cons (pv 0) pa_nil)) (pe_glob (v := .int 8) (by rfl) gc_MOST_LIVES ⟨_, rfl⟩)))))) (pss_one (ps_ret pe_bl)) pss_nil)
 (pss_one (ps_ret (pe_and (pe_callB (kAll K rfl rfl) (by rfl) B.all (by decide +kernel) (pa_cons (pe_lc (own := [("life", 1)]) rfl sc_are_lives.nd (kSeq K rfl (pv 0)) (blkOk_by (own := [("life", 1)]) (N := N_are_lives) (sc := defScope s_are_lives) (by decide +kernel)) (fun _ _ _ _ _ => (pg_name (i := 1) sc_are_lives.nd rfl (by first | exact Or.inl rfl | exact Or.inr rfl))) (fun _ _ _ _ _ => pts_nil) (fun _ _ _ _ _ => (pe_and (pe_callS G_is_pair (hr.mono (by decide)) (by rfl) m_is_pair k_is_pair b_is_pair (fun σ => passAt takes0 σ) (pa_cons (pv 1) pa_nil)) (pe_one (pe_callS G_is_small (hr.mono (by decide)) (by rfl) m_is_small k_is_small b_is_small (fun σ => passAt takes0 σ) (pa_cons (pe_ix (kIx K rfl) (pv 1) pe_int (fun _ _ => rfl)) pa_nil)))))) pa_nil)) (pe_one (pe_callS G_are_unlike (hr.mono (by decide)) (by rfl) m_are_unlike k_are_unlike b_are_unlike (fun σ => passAt takes0 σ) (pa_cons (pv 0) pa_nil))))))), ?_⟩
  rintro ds μ Q X ⟨x, rfl, hx, q⟩
  have q : Q (.bl (areLives x)) μ := q
  have hs : Shp 9 x := hx.shp9 (by decide)
  walk_at "w"
  refine ⟨fun hb => ?_, fun hb => ?_⟩
  · have hb : isT x = true := by simpa using hb
    cases x with
    | tup xs =>
      have q : Q (.bl ((decide ((1 : Int) ≤ (xs.length : Nat)) && decide (((xs.length : Nat) : Int) ≤ 8)) && (xs.all lifeOk && decide ((xs.map nameD).Nodup)))) μ := q
      cases hx with
      | tup hx hl =>
        walk_at "w"
        refine ⟨fun h1 => ?_, fun h1 => ?_⟩
        · rw [h1] at q
          walk_at "w"
          refine ⟨fun h2 => ?_, fun h2 => ?_⟩
          · have h2 : decide (((xs.length : Nat) : Int) ≤ 8) = false := by simpa using h2
            rw [h2] at q
            walk_at "w"
            exact q
          · have h2 : decide (((xs.length : Nat) : Int) ≤ 8) = true := by simpa using h2
            rw [h2] at q
            refine wpS_next ?_
            refine wpS_ret (wp_andV (wp_cb (wpA_cons ?_)))
            refine wp_lcF xs id [1] (fun y => [some (.tup xs), some y]) (fun y => .bl (lifeOk y)) (by simp) (fun y _ => wpG_name) (fun y hy μ2 => ?_) ?_
            · have py := hx y hy
              walk_at "w"
              refine ⟨py.mono (by decide), _, rfl, fun h3 => ?_, fun h3 => ?_⟩
              · obtain ⟨s, v, rfl⟩ := isPair_shape h3
                walk_at "w"
                refine u_ixT (i := 1) atI_1 ?_
                walk_at "w"
                have hv := py.snd
                refine ⟨hv.shp9 (by decide), ?_⟩
                have e : lifeOk (.tup [.str s, v]) = isSmall v := by
                  unfold lifeOk
                  rw [h3]
                  rfl
                rw [e]
                exact ⟨rfl, rfl⟩
              · have e : lifeOk y = false := by
                  unfold lifeOk
                  rw [h3]
                  rfl
                rw [e]
                exact ⟨rfl, rfl⟩
            · refine wpI_seqT ?_
              walk_at "w"
              refine ⟨(List.map_id xs).symm, by omega, ?_⟩
              walk_at "w"
              refine rc_allM ?_
              refine ⟨_, rfl, fun h3 => ?_, fun h3 => ?_⟩
              · rw [h3] at q
                walk_at "w"
                have hp : ∀ y ∈ xs, isPair y = true := fun y hy => by
                  have := List.all_eq_true.mp h3 y hy
                  unfold lifeOk at this
                  rw [Bool.and_eq_true] at this
                  exact this.1
                refine ⟨(false, xs.map fun x => (nameD x, sndD x)), ?_, ?_, ?_⟩
                · show [D.tup xs] = [D.tup _]
                  rw [← pairs_of hp]
                · show (xs.map _).length ≤ 1000
                  rw [List.length_map]
                  exact hl
                · show Q (.bl (decide (((xs.map fun x => (nameD x, sndD x)).map (·.1)).Nodup))) μ
                  rw [List.map_map]
                  exact q
              · rw [h3] at q
                exact q
        · rw [h1] at q
          walk_at "w"
          refine ⟨fun _ => ?_, fun h => (by cases h)⟩
          walk_at "w"
          exact q
    | _ => cases hb
  · have hb : isT x = false := by simpa using hb
    walk_at "w"
    refine ⟨fun _ => ?_, fun h => (by cases h)⟩
    have e : areLives x = false := by unfold areLives; rw [hb]; rfl
    rw [e] at q
    walk_at "w"
    exact q
theorem d_is_check (B : Bt mg)  (src : Src K mg "is_check" s_is_check ["thing", "many"]) (d_is_pair : Def P w K mg base 2 "is_pair" ["thing"] S_is_pair) (d_is_small : Def P w K mg base 2 "is_small" ["thing"] S_is_small) : Def P w K mg base 3 "is_check" ["thing", "many"] S_is_check := by
  obtain ⟨f_is_pair, fd_is_pair, G_is_pair, m_is_pair, k_is_pair, b_is_pair⟩ := d_is_pair
  obtain ⟨f_is_small, fd_is_small, G_is_small, m_is_small, k_is_small, b_is_small⟩ := d_is_small
  refine Def.of src sc_is_check (fun ds μ Q X h => by obtain ⟨a, rfl, _⟩ := h; rfl) fun f cdv A outer s0 H E hr tk => ?_
  refine ⟨_, (pss_cons (ps_if (PW.pt (pw_or (pt_not (kTru K rfl (pe_callS G_is_pair (hr.mono (by decide)) (by rfl) m_is_pair k_is_pair b_is_pair (fun σ => passAt takes0 σ) (pa_cons (pv 0) pa_nil)) (by intro _; rfl))) (pw_or (pt_not (kTru K rfl (pe_callB (kIsi K rfl) (by rfl) B.isinstance (by decide +kernel) (pa_cons (pe_ix (kIx K rfl) (pv 0) pe_int (fun _ _ => rfl)) (pa_cons (pe_bltn (v := .ty "tuple") (by rfl) B.tuple (by decide +kernel) rfl) pa_nil))) (by intro _; rfl))) (pw_or1 (pt_cmpR (kNe K rfl hr.units) (pe_callB (kLen K rfl) (by rfl) B.len (by decide +kernel) (pa_cons (pe_ix (kIx K rfl) (pv 0) pe_int (fun _ _ => rfl)) pa_nil)) (pv 1) (nomark _)))))) (pss_one (ps_ret pe_bl)) pss_nil)
 (pss_one (ps_ret (pe_callB (kAll K rfl rfl) (by rfl) B.all (by decide +kernel) (pa_cons (pe_lc (own := [("number", 2)]) rfl sc_is_check.nd (kSeq K rfl (pe_ix (kIx K rfl) (pv 0) pe_int (fun _ _ => rfl))) (blkOk_by (own := [("number", 2)]) (N := N_is_check) (sc := defScope s_is_check) (by decide +kernel)) (fun _ _ _ _ _ => (pg_name (i := 2) sc_is_check.nd rfl (by first | exact Or.inl rfl | exact Or.inr rfl))) (fun _ _ _ _ _ => pts_nil) (fun _ _ _ _ _ => (pe_callS G_is_small (hr.mono (by decide)) (by rfl) m_is_small k_is_small b_is_small (fun σ => passAt takes0 σ) (pa_cons (pv 2) pa_nil)))) pa_nil))))), ?_⟩
  rintro ds μ Q X ⟨⟨x, m⟩, rfl, hx, q⟩
  have q : Q (.bl (isCheck x m)) μ := q
  have hx : Pl 8 x := hx
  walk_at "w"
  refine ⟨hx, _, rfl, fun hb => ?_, fun hb => ?_⟩
  · have hb : isPair x = true := by simpa using hb
    obtain ⟨s, v, rfl⟩ := isPair_shape hb
    have hv : Pl 8 v := hx.snd
    have hv9 : Shp 9 v := hv.shp9 (by decide)
    have q : Q (.bl (isT v && (decide ((lenD v : Int) = m) && (itemsD v).all isSmall))) μ := by
      have e : isCheck (.tup [.str s, v]) m = (isT v && (decide ((lenD v : Int) = m) && (itemsD v).all isSmall)) := by
        unfold isCheck
        rw [hb]
        rfl
      rw [e] at q
      exact q
    walk_at "w"
    refine u_ixT (i := 1) atI_1 ?_
    walk_at "w"
    refine ⟨fun h1 => ?_, fun h1 => ?_⟩
    · have h1 : isT v = true := by simpa using h1
      cases v with
      | tup vs =>
        have q : Q (.bl ((decide (((vs.length : Nat) : Int) = m) && vs.all isSmall))) μ := q
        walk_at "w"
        refine u_ixT (i := 1) atI_1 ?_
        walk_at "w"
        refine ⟨fun h2 => ?_, fun h2 => ?_⟩
        · have h2 : decide (((vs.length : Nat) : Int) = m) = false := by simpa using h2
          rw [h2] at q
          walk_at "w"
          exact q
        · have h2 : decide (((vs.length : Nat) : Int) = m) = true := by simpa using h2
          rw [h2] at q
          cases hv with
          | tup hv hl =>
            refine wpS_next ?_
            refine wpS_ret (wp_cb (wpA_cons ?_))
            refine wp_lcF vs id [2] (fun y => [some (.tup [.str s, .tup vs]), some (.int m), some y]) (fun y => .bl (isSmall y)) (by simp) (fun y _ => wpG_name) (fun y hy μ2 => ?_) ?_
            · have py := hv y hy
              walk_at "w"
              exact ⟨py.shp9 (by decide), rfl, rfl⟩
            · refine wpI_seqT ?_
              walk_at "w"
              refine u_ixT (i := 1) atI_1 ?_
              walk_at "w"
              refine ⟨(List.map_id vs).symm, by omega, ?_⟩
              walk_at "w"
              exact rc_allM q
      | _ => cases h1
    · have h1 : isT v = false := by simpa using h1
      rw [h1] at q
      walk_at "w"
      refine ⟨fun _ => ?_, fun h => (by cases h)⟩
      walk_at "w"
      exact q
  · have hb : isPair x = false := by simpa using hb
    have e : isCheck x m = false := by unfold isCheck; rw [hb]; rfl
    rw [e] at q
    refine ⟨fun _ => ?_, fun h => (by cases h)⟩
    walk_at "w"
    exact q
theorem isCheck_pair {x : D} {m : Int} (h : isCheck x m = true) : isPair x = true := by
  unfold isCheck at h
  rw [Bool.and_eq_true] at h
  exact h.1
theorem d_are_checks (B : Bt mg)  (src : Src K mg "are_checks" s_are_checks ["thing", "many"]) (d_are_unlike : Def P w K mg base 1 "are_unlike" ["pairs"] S_are_unlike) (d_is_check : Def P w K mg base 3 "is_check" ["thing", "many"] S_is_check) (g_MOST_CHECKS : ∃ t, mg "MOST_CHECKS" = some (.int 6 t)) : Def P w K mg base 4 "are_checks" ["thing", "many"] S_are_checks := by
  obtain ⟨f_are_unlike, fd_are_unlike, G_are_unlike, m_are_unlike, k_are_unlike, b_are_unlike⟩ := d_are_unlike
  obtain ⟨f_is_check, fd_is_check, G_is_check, m_is_check, k_is_check, b_is_check⟩ := d_is_check
  obtain ⟨tc_MOST_CHECKS, gc_MOST_CHECKS⟩ := g_MOST_CHECKS
  refine Def.of src sc_are_checks (fun ds μ Q X h => by obtain ⟨a, rfl, _⟩ := h; rfl) fun f cdv A outer s0 H E hr tk => ?_
  refine ⟨_, (pss_cons (ps_if (PW.pt (pw_or (pt_not (kTru K rfl (pe_callB (kIsi K rfl) (by rfl) B.isinstance (by decide +kernel) (pa_cons (pv 0) (pa_cons (pe_bltn (v := .ty "tuple") (by rfl) B.tuple (by decide +kernel) rfl) pa_nil))) (by intro _; rfl))) (pw_or1 (pt_cmpR op_gt (pe_callB (kLen K rfl) (by rfl) B.len (by decide +kernel) (pa_cons (pv 0) pa_nil)) (pe_glob (v := .int 6) (by rfl) gc_MOST_CHECKS ⟨_, rfl⟩) (nomark _))))) (pss_one (ps_ret pe_bl)) pss_nil)
 (pss_one (ps_ret (pe_and (pe_callB (kAll K rfl rfl) (by rfl) B.all (by decide +kernel) (pa_cons (pe_lc (own := [("check", 2)]) rfl sc_are_checks.nd (kSeq K rfl (pv 0)) (blkOk_by (own := [("check", 2)]) (N := N_are_checks) (sc := defScope s_are_checks) (by decide +kernel)) (fun _ _ _ _ _ => (pg_name (i := 2) sc_are_checks.nd rfl (by first | exact Or.inl rfl | exact Or.inr rfl))) (fun _ _ _ _ _ => pts_nil) (fun _ _ _ _ _ => (pe_callS G_is_check (hr.mono (by decide)) (by rfl) m_is_check k_is_check b_is_check (fun σ => passAt takes0 σ) (pa_cons (pv 2) (pa_cons (pv 1) pa_nil))))) pa_nil)) (pe_one (pe_callS G_are_unlike (hr.mono (by decide)) (by rfl) m_are_unlike k_are_unlike b_are_unlike (fun σ => passAt takes0 σ) (pa_cons (pv 0) pa_nil))))))), ?_⟩
  rintro ds μ Q X ⟨⟨x, m⟩, rfl, hx, q⟩
  have q : Q (.bl (areChecks x m)) μ := q
  have hx : Pl 8 x := hx
  have hs : Shp 9 x := hx.shp9 (by decide)
  walk_at "w"
  refine ⟨fun hb => ?_, fun hb => ?_⟩
  · have hb : isT x = true := by simpa using hb
    cases x with
    | tup xs =>
      have q : Q (.bl (decide (((xs.length : Nat) : Int) ≤ 6) && (xs.all (fun x => isCheck x m) && decide ((xs.map nameD).Nodup)))) μ := q
      cases hx with
      | tup hx hl =>
        walk_at "w"
        refine ⟨fun h2 => ?_, fun h2 => ?_⟩
        · have h2 : decide (((xs.length : Nat) : Int) ≤ 6) = false := by
            have := of_decide_eq_true h2
            exact decide_eq_false (by omega)
          rw [h2] at q
          walk_at "w"
          exact q
        · have h2 : decide (((xs.length : Nat) : Int) ≤ 6) = true := by
            have := of_decide_eq_false h2
            exact decide_eq_true (by omega)
          rw [h2] at q
          refine wpS_next ?_
          refine wpS_ret (wp_andV (wp_cb (wpA_cons ?_)))
          refine wp_lcF xs id [2] (fun y => [some (.tup xs), some (.int m), some y]) (fun y => .bl (isCheck y m)) (by simp) (fun y _ => wpG_name) (fun y hy μ2 => ?_) ?_
          · have py := hx y hy
            walk_at "w"
            refine ⟨(y, m), rfl, py.mono (by decide), rfl, rfl⟩
          · refine wpI_seqT ?_
            walk_at "w"
            refine ⟨(List.map_id xs).symm, by omega, ?_⟩
            walk_at "w"
            refine rc_allM ?_
            refine ⟨_, rfl, fun h3 => ?_, fun h3 => ?_⟩
            · rw [h3] at q
              walk_at "w"
              have hp : ∀ y ∈ xs, isPair y = true := fun y hy => isCheck_pair (List.all_eq_true.mp h3 y hy)
              refine ⟨(false, xs.map fun x => (nameD x, sndD x)), ?_, ?_, ?_⟩
              · show [D.tup xs] = [D.tup _]
                rw [← pairs_of hp]
              · show (xs.map _).length ≤ 1000
                rw [List.length_map]
                exact hl
              · show Q (.bl (decide (((xs.map fun x => (nameD x, sndD x)).map (·.1)).Nodup))) μ
                rw [List.map_map]
                exact q
            · rw [h3] at q
              exact q
    | _ => cases hb
  · have hb : isT x = false := by simpa using hb
    have e : areChecks x m = false := by unfold areChecks; rw [hb]; rfl
    rw [e] at q
    refine ⟨fun _ => ?_, fun h => (by cases h)⟩
    walk_at "w"
    exact q
end
/-! ### the class Desk -/
abbrev deskD (C : Addr) (lives checks : D) : D := .obj C [("lives", lives), ("checks", checks)]
def deskOk (lives checks : D) : Bool := areLives lives && areChecks checks (lenD lives)
theorem nLC : ¬ (("lives" : Str) = "checks") := by decide +kernel
theorem putL (l : D) : putD "lives" l [] = ([("lives", l)] : List (Str × D)) := rfl
theorem putC (l c : D) : putD "checks" c [("lives", l)] = ([("lives", l), ("checks", c)] : List (Str × D)) := by
  unfold putD
  rw [if_neg nLC]
  rfl
theorem lkL (l c : D) : ([("lives", l), ("checks", c)] : List (Str × D)).lookup ("lives" : Str) = some l := by
  rw [List.lookup_cons, show (("lives" : Str) == "lives") = true by decide +kernel]
theorem lkC (l c : D) : ([("lives", l), ("checks", c)] : List (Str × D)).lookup ("checks" : Str) = some c := by
  rw [List.lookup_cons, show (("checks" : Str) == "lives") = false by decide +kernel]
  show List.lookup ("checks" : Str) ([("checks", c)] : List (Str × D)) = some c
  rw [List.lookup_cons, show (("checks" : Str) == "checks") = true by decide +kernel]
abbrev S_Desk___init__ (C CB : Addr) : DSp := fun ds μ P X => ∃ a : (Addr × Addr) × D × D, ds = [.cell a.1.1, a.2.1, a.2.2] ∧ μ a.1.1 = some (.ins C a.1.2 []) ∧ Pl 8 a.2.1 ∧ Pl 8 a.2.2 ∧
  (deskOk a.2.1 a.2.2 = true → P .non (updM μ a.1.1 (.ins C a.1.2 [("lives", a.2.1), ("checks", a.2.2)]))) ∧ (deskOk a.2.1 a.2.2 = false → X ⟨.ref CB, none⟩ μ)
/-- desks as the laws make them -/
abbrev Life := Str × Int
abbrev Chk := Str × List Int
abbrev lifeD (l : Life) : D := .tup [.str l.1, .int l.2]
abbrev chkD (c : Chk) : D := .tup [.str c.1, .tup (c.2.map .int)]
abbrev livesD (ls : List Life) : D := .tup (ls.map lifeD)
abbrev checksD (cs : List Chk) : D := .tup (cs.map chkD)
structure Dk where
  ls : List Life
  cs : List Chk
abbrev Dk.d (C : Addr) (k : Dk) : D := deskD C (livesD k.ls) (checksD k.cs)
/-- how large what stands in a desk is -/
structure Dk.Sm (k : Dk) : Prop where
  l8 : k.ls.length ≤ 8
  c6 : k.cs.length ≤ 20
  lg : ∀ l ∈ k.ls, -9 ≤ l.2 ∧ l.2 ≤ 9
  cn : ∀ c ∈ k.cs, c.2.length = k.ls.length ∧ ∀ n ∈ c.2, -9 ≤ n ∧ n ≤ 9
def dot (ns bs : List Int) : Int := ((ns.zip bs).map fun p => p.1 * p.2).sum
def BB : Nat := 400000
def Big (n : Int) : Prop := n.natAbs < 2 ^ BB
abbrev S_weighed : DSp := Pu (fun a : (Bool × List Int) × Bool × List Int => [seqD a.1.1 (a.1.2.map .int), seqD a.2.1 (a.2.2.map .int)]) (fun a => a.1.2.length ≤ 1000 ∧ a.2.2.length ≤ 1000 ∧ (∀ n ∈ a.1.2, Big n) ∧ ∀ n ∈ a.2.2, Big n) fun a => .int (dot a.1.2 a.2.2)
abbrev S_gains (C : Addr) : DSp := Pu (fun k : Dk => [k.d C]) (fun k => k.ls.length ≤ 1000) fun k => .tup ((k.ls.map (·.2)).map .int)
abbrev S_gain_of (C : Addr) : DSp := Pu (fun a : Dk × Bool × List Int => [a.1.d C, seqD a.2.1 (a.2.2.map .int)]) (fun a => a.1.Sm ∧ a.2.2.length ≤ 1000 ∧ ∀ n ∈ a.2.2, Big n) fun a => .int (dot (a.1.ls.map (·.2)) a.2.2)
abbrev S_sums_of (C : Addr) : DSp := Pu (fun a : Dk × Bool × List Int => [a.1.d C, seqD a.2.1 (a.2.2.map .int)]) (fun a => a.1.Sm ∧ a.2.2.length ≤ 1000 ∧ ∀ n ∈ a.2.2, Big n) fun a => .lst ((a.1.cs.map fun c => dot c.2 a.2.2).map .int)
theorem big_small {n : Int} (h : -9 ≤ n ∧ n ≤ 9) : Big n := by
  unfold Big
  exact Nat.lt_of_lt_of_le (show n.natAbs < 2 ^ 4 by omega) (Nat.pow_le_pow_right (by decide) (by decide))
theorem big_mul {a b : Int} (ha : Big a) (hb : Big b) : CMulW a b := wide_mul ha hb (by decide) (by decide) (by decide)
section
variable {P : Program} {w : World} {K : PySem.W.Frag} {mg : Str → Option Value} {base : Heap} {C_Desk C_BadDesk C_BadBag : Addr}
theorem d_Desk___init__ (B : Bt mg) (T_Desk : DeskF K mg C_Desk) (T_BadDesk : ExcF K mg "BadDesk" C_BadDesk) (src : SrcI K C_Desk "Desk.__init__" s_Desk___init__ ["self", "lives", "checks"]) (d_are_checks : Def P w K mg base 4 "are_checks" ["thing", "many"] S_are_checks) (d_are_lives : Def P w K mg base 3 "are_lives" ["thing"] S_are_lives) : DefI P w K mg base C_Desk 5 ["self", "lives", "checks"] (S_Desk___init__ C_Desk C_BadDesk) := by
  obtain ⟨f_are_checks, fd_are_checks, G_are_checks, m_are_checks, k_are_checks, b_are_checks⟩ := d_are_checks
  obtain ⟨f_are_lives, fd_are_lives, G_are_lives, m_are_lives, k_are_lives, b_are_lives⟩ := d_are_lives
  refine DefI.of src sc_Desk___init__ (fun ds μ Q X h => by obtain ⟨a, rfl, _⟩ := h; rfl) fun f cdv A outer s0 H E hr tk => ?_
  refine ⟨_, (pss_cons (ps_if (PW.pt (pw_or (pt_not (kTru K rfl (pe_callS G_are_lives (hr.mono (by decide)) (by rfl) m_are_lives k_are_lives b_are_lives (fun σ => passAt takes0 σ) (pa_cons (pv 1) pa_nil)) (by intro _; rfl))) (pw_or1 (pt_not (kTru K rfl (pe_callS G_are_checks (hr.mono (by decide)) (by rfl) m_are_checks k_are_checks b_are_checks (fun σ => passAt takes0 σ) (pa_cons (pv 2) (pa_cons (pe_callB (kLen K rfl) (by rfl) B.len (by decide +kernel) (pa_cons (pv 1) pa_nil)) pa_nil))) (by intro _; rfl)))))) (pss_one (ps_raise rfl tk (pmk_own0 PySem.F.excBase_ValueError T_BadDesk.xP T_BadDesk.mgC T_BadDesk.kP (raises_own T_BadDesk.bP T_BadDesk.tP) rfl))) pss_nil)
 (pss_cons (kFldS K rfl (pv 0) (pv 1) rfl)
 (pss_one (kFldS K rfl (pv 0) (pv 2) rfl)))), ?_⟩
  rintro ds μ Q X ⟨⟨⟨a, dx⟩, l, c⟩, rfl, m, hl, hc, qt, qf⟩
  have m : μ a = some (.ins C_Desk dx []) := m
  have hl : Pl 8 l := hl
  have hc : Pl 8 c := hc
  have qt : deskOk l c = true → Q .non (updM μ a (.ins C_Desk dx [("lives", l), ("checks", c)])) := qt
  have qf : deskOk l c = false → X ⟨.ref C_BadDesk, none⟩ μ := qf
  walk_at "w"
  refine ⟨hl, _, rfl, fun h1 => ?_, fun h1 => ?_⟩
  · have h1 : areLives l = true := by simpa using h1
    cases l with
    | tup ls =>
      walk_at "w"
      refine ⟨(c, _), rfl, hc, _, rfl, fun h2 => ?_, fun h2 => ?_⟩
      · have h2 : areChecks c (ls.length : Nat) = false := by simpa using h2
        refine wpS_raise (qf ?_)
        show (areLives (.tup ls) && areChecks c (ls.length : Nat)) = false
        rw [h1, h2]; rfl
      · have h2 : areChecks c (ls.length : Nat) = true := by simpa using h2
        walk_at "w"
        refine wpS_fld T_Desk.cl T_Desk.nL ?_
        walk_at "w"
        refine ⟨_, dx, _, rfl, m, (by show 0 < 1000; decide), ?_⟩
        rw [putL]
        refine wpS_fld T_Desk.cl T_Desk.nC ?_
        walk_at "w"
        refine ⟨_, dx, _, rfl, updM_same, (by show 1 < 1000; decide), ?_⟩
        rw [putC, updM_updM]
        refine qt ?_
        show (areLives (.tup ls) && areChecks c (ls.length : Nat)) = true
        rw [h1, h2]; rfl
    | _ => cases h1
  · have h1 : areLives l = false := by simpa using h1
    refine ⟨fun _ => wpS_raise (qf ?_), fun h => (by cases h)⟩
    unfold deskOk
    rw [h1]; rfl
end
end SB

namespace SB
open PySem PySem.Spec PyProof.Rows L2
local macro_rules | `(tactic| walk_at "w1") => `(tactic| first
  | ((with_reducible refine' wp_var ?h ?_); (case h => exact rfl))
  | with_reducible refine wp_int ?_
  | with_reducible refine wp_bl ?_
  | with_reducible refine wp_str ?_
  | with_reducible refine wp_non ?_
  | with_reducible refine wp_ty ?_
  | with_reducible refine wp_ref ?_
  | with_reducible refine wp_op ?_
  | with_reducible refine wp_un ?_
  | with_reducible refine wp_cb ?_
  | with_reducible refine wpA_cons ?_
  | with_reducible refine wpA_nil ?_
  | with_reducible refine wpT_test ?_
  | with_reducible refine wpT_tru ?_
  | with_reducible refine wpT_not ?_
  | with_reducible refine wpT_and ?_
  | with_reducible refine wpT_or ?_
  | with_reducible refine wp_andV ?_
  | with_reducible refine wp_orV ?_
  | with_reducible refine wp_notV ?_
  | with_reducible refine wp_if ?_
  | with_reducible refine wp_chain ?_
  | with_reducible refine wpS_seq ?_
  | with_reducible refine wpS_ret ?_
  | with_reducible refine wpS_retN ?_
  | with_reducible refine wpS_set ?_
  | with_reducible refine wpS_if ?_
  | with_reducible refine wpS_next ?_
  | with_reducible refine wpS_par ?_
  | with_reducible refine u_add ?_
  | with_reducible refine u_sub ?_
  | with_reducible refine u_cmp ?_
  | with_reducible refine r_neg ?_
  | with_reducible refine r_isN ?_
  | with_reducible refine r_notN ?_
  | with_reducible refine r_eqI ?_
  | with_reducible refine r_neI ?_
  | with_reducible refine u_len ?_
  | with_reducible refine u_lenT ?_
  | with_reducible refine rc_abs ?_
  | with_reducible refine rc_max2 ?_
  | with_reducible refine rc_min2 ?_
  | with_reducible refine u_intI ?_
  | with_reducible refine u_intB ?_
  | with_reducible refine k_tuple ?_
  | with_reducible refine rc_all ?_
  | with_reducible refine u_anyI ?_
  | ((with_reducible refine' rc_isInt ?h ?_); (case h => first | assumption | exact .int | exact .bl | exact .non | fail "x"))
  | ((with_reducible refine' rc_isBool ?h ?_); (case h => first | assumption | exact .int | exact .bl | exact .non | fail "x"))
  | ((with_reducible refine' rc_isStr ?h ?_); (case h => first | assumption | exact .int | exact .bl | exact .non | fail "x"))
  | ((with_reducible refine' rc_isTup ?h ?_); (case h => first | assumption | exact .int | exact .bl | exact .non | fail "x"))
  | ((with_reducible refine' rc_isLst ?h ?_); (case h => first | assumption | exact .int | exact .bl | exact .non | fail "x"))
  | with_reducible refine wp_callP ?_
  | with_reducible exact ⟨rfl, rfl⟩
  | with_reducible refine ⟨_, rfl, ?_⟩)
local macro_rules | `(tactic| walk_at "w") => `(tactic| (repeat (walk_at "w1")))
theorem and_size_Desks2 {xs : List D} {p : Prop} (h : decide (xs.length ≤ sizeLine) = true) (hp : p) : xs.length ≤ sizeLine ∧ p := ⟨of_decide_eq_true h, hp⟩
local macro_rules | `(tactic| walk_at "d1") => `(tactic| first
  | walk_at "w1"
  | with_reducible refine wp_tup ?_
  | with_reducible refine wp_lst ?_
  | ((with_reducible refine' and_size_Desks2 ?h ?_); (case h => rfl)))
local macro_rules | `(tactic| walk_at "d") => `(tactic| (repeat (walk_at "d1")))
/-! ### bags -/
def numOk : D → Bool
  | .int i => decide (0 ≤ i)
  | _ => false
def bagOk (m : Nat) (d : D) : Bool := isT d && (decide (lenD d = m) && (itemsD d).all numOk)
theorem numOk_shape {d : D} (h : numOk d = true) : ∃ n : Int, d = .int n ∧ 0 ≤ n := by
  cases d with
  | int n => exact ⟨n, rfl, of_decide_eq_true h⟩
  | _ => cases h
def intOf : D → Int
  | .int i => i
  | _ => 0
theorem bagOk_shape {m : Nat} {d : D} (h : bagOk m d = true) : ∃ ns : List Int, d = .tup (ns.map .int) ∧ ns.length = m ∧ ∀ n ∈ ns, 0 ≤ n := by
  unfold bagOk isT lenD itemsD at h
  cases d with
  | tup xs =>
    simp only [Bool.true_and, Bool.and_eq_true, decide_eq_true_eq] at h
    have hx := List.all_eq_true.mp h.2
    refine ⟨xs.map intOf, ?_, by rw [List.length_map]; exact h.1, fun n hn => ?_⟩
    · congr 1
      rw [List.map_map]
      conv => lhs; rw [← List.map_id xs]
      refine List.map_congr_left fun x hm => ?_
      obtain ⟨n, rfl, _⟩ := numOk_shape (hx x hm)
      rfl
    · obtain ⟨x, hm, rfl⟩ := List.mem_map.mp hn
      obtain ⟨n, rfl, h0⟩ := numOk_shape (hx x hm)
      exact h0
  | _ => simp at h
abbrev S_check_bag (C CB : Addr) : DSp := fun ds μ P X => ∃ a : Dk × D, ds = [a.1.d C, a.2] ∧ Pl 8 a.2 ∧ a.1.ls.length ≤ 1000 ∧ (bagOk a.1.ls.length a.2 = true → P .non μ) ∧ (bagOk a.1.ls.length a.2 = false → X ⟨.ref CB, none⟩ μ)
/-- the numbers of a thing that is a bag -/
def numsD (d : D) : List Int := (itemsD d).map intOf
theorem numsD_map (ns : List Int) : numsD (.tup (ns.map .int)) = ns := by
  unfold numsD itemsD
  rw [List.map_map]
  exact List.map_id ns
abbrev S_bagfn (f : Dk → List Int → D) (C CB : Addr) : DSp := fun ds μ P X => ∃ a : Dk × D, ds = [a.1.d C, a.2] ∧ Pl 8 a.2 ∧ a.1.Sm ∧ (∀ n ∈ numsD a.2, Big n) ∧ (bagOk a.1.ls.length a.2 = true → P (f a.1 (numsD a.2)) μ) ∧ (bagOk a.1.ls.length a.2 = false → X ⟨.ref CB, none⟩ μ)
def Dk.gain (k : Dk) (bs : List Int) : Int := dot (k.ls.map (·.2)) bs
def Dk.sums (k : Dk) (bs : List Int) : List Int := k.cs.map fun c => dot c.2 bs
def Dk.even (k : Dk) (bs : List Int) : Bool := !(k.sums bs).any fun n => n != 0
abbrev S_gain (C CB : Addr) : DSp := S_bagfn (fun k bs => .int (k.gain bs)) C CB
abbrev S_sums (C CB : Addr) : DSp := S_bagfn (fun k bs => .lst ((k.sums bs).map .int)) C CB
abbrev S_is_even (C CB : Addr) : DSp := S_bagfn (fun k bs => .bl (k.even bs)) C CB
section
variable {P : Program} {w : World} {K : PySem.W.Frag} {mg : Str → Option Value} {base : Heap} {C_Desk C_BadDesk C_BadBag : Addr}
end
end SB

namespace SB
open PySem PySem.Spec PyProof.Rows L2
local macro_rules | `(tactic| walk_at "w1") => `(tactic| first
  | ((with_reducible refine' wp_var ?h ?_); (case h => exact rfl))
  | with_reducible refine wp_int ?_
  | with_reducible refine wp_bl ?_
  | with_reducible refine wp_str ?_
  | with_reducible refine wp_non ?_
  | with_reducible refine wp_ty ?_
  | with_reducible refine wp_ref ?_
  | with_reducible refine wp_op ?_
  | with_reducible refine wp_un ?_
  | with_reducible refine wp_cb ?_
  | with_reducible refine wpA_cons ?_
  | with_reducible refine wpA_nil ?_
  | with_reducible refine wpT_test ?_
  | with_reducible refine wpT_tru ?_
  | with_reducible refine wpT_not ?_
  | with_reducible refine wpT_and ?_
  | with_reducible refine wpT_or ?_
  | with_reducible refine wp_andV ?_
  | with_reducible refine wp_orV ?_
  | with_reducible refine wp_notV ?_
  | with_reducible refine wp_if ?_
  | with_reducible refine wp_chain ?_
  | with_reducible refine wpS_seq ?_
  | with_reducible refine wpS_ret ?_
  | with_reducible refine wpS_retN ?_
  | with_reducible refine wpS_set ?_
  | with_reducible refine wpS_if ?_
  | with_reducible refine wpS_next ?_
  | with_reducible refine wpS_par ?_
  | with_reducible refine u_add ?_
  | with_reducible refine u_sub ?_
  | with_reducible refine u_cmp ?_
  | with_reducible refine r_neg ?_
  | with_reducible refine r_isN ?_
  | with_reducible refine r_notN ?_
  | with_reducible refine r_eqI ?_
  | with_reducible refine r_neI ?_
  | with_reducible refine u_len ?_
  | with_reducible refine u_lenT ?_
  | with_reducible refine rc_abs ?_
  | with_reducible refine rc_max2 ?_
  | with_reducible refine rc_min2 ?_
  | with_reducible refine u_intI ?_
  | with_reducible refine u_intB ?_
  | with_reducible refine k_tuple ?_
  | with_reducible refine rc_all ?_
  | with_reducible refine u_anyI ?_
  | ((with_reducible refine' rc_isInt ?h ?_); (case h => first | assumption | exact .int | exact .bl | exact .non | fail "x"))
  | ((with_reducible refine' rc_isBool ?h ?_); (case h => first | assumption | exact .int | exact .bl | exact .non | fail "x"))
  | ((with_reducible refine' rc_isStr ?h ?_); (case h => first | assumption | exact .int | exact .bl | exact .non | fail "x"))
  | ((with_reducible refine' rc_isTup ?h ?_); (case h => first | assumption | exact .int | exact .bl | exact .non | fail "x"))
  | ((with_reducible refine' rc_isLst ?h ?_); (case h => first | assumption | exact .int | exact .bl | exact .non | fail "x"))
  | with_reducible refine wp_callP ?_
  | with_reducible exact ⟨rfl, rfl⟩
  | with_reducible refine ⟨_, rfl, ?_⟩)
local macro_rules | `(tactic| walk_at "w") => `(tactic| (repeat (walk_at "w1")))
theorem and_size_Draws {xs : List D} {p : Prop} (h : decide (xs.length ≤ sizeLine) = true) (hp : p) : xs.length ≤ sizeLine ∧ p := ⟨of_decide_eq_true h, hp⟩
local macro_rules | `(tactic| walk_at "d1") => `(tactic| first
  | walk_at "w1"
  | with_reducible refine wp_tup ?_
  | with_reducible refine wp_lst ?_
  | ((with_reducible refine' and_size_Draws ?h ?_); (case h => rfl)))
local macro_rules | `(tactic| walk_at "d") => `(tactic| (repeat (walk_at "d1")))
abbrev s__law_begin : Stmt := (top 24)
abbrev N__law_begin : List Str := ["_law_script"]
theorem sc__law_begin : FnScope N__law_begin ["_law_script"] (defScope s__law_begin) := ⟨rfl, rfl, rfl, by decide +kernel, rfl, by decide +kernel, by decide +kernel⟩
abbrev s__law_draw : Stmt := (top 25)
abbrev N__law_draw : List Str := ["_law_draws", "_law_size", "_law_cell", "_law_found"]
theorem sc__law_draw : FnScope N__law_draw ["_law_draws", "_law_size"] (defScope s__law_draw) := ⟨rfl, rfl, rfl, by decide +kernel, rfl, by decide +kernel, by decide +kernel⟩
/-! ### draws -/
def drD (cs : List Int) (i : Nat) (b st : Int) : List D := [.lst (cs.map .int), .int (i : Nat), .int b, .int st]
def DrM (m : MO) : Prop := ∃ cs i b st, m = .lst (drD cs i b st)
/-- a list of draws stands at a -/
def DrAt (μ : M) (a : Addr) : Prop := ∃ m, μ a = some m ∧ DrM m
theorem DrAt.upd {μ : M} {a : Addr} {m : MO} (h : DrM m) : DrAt (updM μ a m) a := ⟨m, updM_same, h⟩
theorem DrAt.other {μ : M} {a p : Addr} {m : MO} (h : DrAt μ a) (n : p ≠ a) : DrAt (updM μ p m) a := by
  obtain ⟨m', e, d⟩ := h
  exact ⟨m', by rw [updM_ne (Ne.symm n)]; exact e, d⟩
abbrev S__law_begin (K : PySem.W.Frag) : DSp := fun ds μ P X => ∃ a : Addr × List Int, ds = [scriptD K a.1 a.2] ∧ ∀ p, μ p = none → P (.cell p) (updM μ p (.lst (drD a.2 0 0 7)))
abbrev S__law_draw : DSp := fun ds μ P X => ∃ a : Addr × Int, ds = [.cell a.1, .int a.2] ∧ DrAt μ a.1 ∧ (0 < a.2 ∧ a.2 < 2 ^ 60) ∧ ∀ v : Int, 0 ≤ v → v < a.2 → ∀ m, DrM m → P (.int v) (updM μ a.1 m)
theorem fmod_in {x n : Int} (h : 0 < n) : 0 ≤ x.fmod n ∧ x.fmod n < n := ⟨Int.fmod_nonneg_of_pos x h, Int.fmod_lt_of_pos x h⟩
theorem cmulR {i j : Int} (h : -(2 ^ 64) < j ∧ j < 2 ^ 64) : CMul i j := .inr h
theorem cdivW_small {i j : Int} (h : 0 < j) (h2 : j < 2 ^ 60) : CDivW i j := wide_div (b := 60) h (by omega) (by decide) (by decide)
section
variable {P : Program} {w : World} {K : PySem.W.Frag} {mg : Str → Option Value} {base : Heap}
theorem d__law_begin (B : Bt mg)  (src : Src K mg "_law_begin" s__law_begin ["_law_script"])  : Def P w K mg base 1 "_law_begin" ["_law_script"] (S__law_begin K) := by
  refine Def.of src sc__law_begin (fun ds μ Q X h => by obtain ⟨a, rfl, _⟩ := h; rfl) fun f cdv A outer s0 H E hr tk => ?_
  refine ⟨_, (pss_one (ps_ret (pe_lst (pa_cons (pe_callTy (kList K rfl) (by rfl) B.list (by decide +kernel) (pa_cons (pv 0) pa_nil)) (pa_cons pe_int (pa_cons pe_int (pa_cons pe_int pa_nil))))))), ?_⟩
  rintro ds μ Q X ⟨⟨a, ns⟩, rfl, q⟩
  refine wpS_ret (wp_lstM ?_)
  refine wpA_cons (wp_cb (wpA_cons (wp_var rfl (wpA_nil ?_))))
  refine k_listF ?_
  walk_at "w"
  exact ⟨by show 4 ≤ sizeLine; decide, fun p hp => q p hp⟩
theorem ixD0 {cs : List Int} {i : Nat} {b st : Int} : atI (drD cs i b st) 0 = some (.lst (cs.map .int)) := atI_nn (j := 0) rfl
theorem ixD1 {cs : List Int} {i : Nat} {b st : Int} : atI (drD cs i b st) 1 = some (.int (i : Nat)) := atI_nn (j := 1) rfl
theorem ixD2 {cs : List Int} {i : Nat} {b st : Int} : atI (drD cs i b st) 2 = some (.int b) := atI_nn (j := 2) rfl
theorem ixD3 {cs : List Int} {i : Nat} {b st : Int} : atI (drD cs i b st) 3 = some (.int st) := atI_nn (j := 3) rfl
theorem ixn1 {cs : List Int} {i : Nat} {b st : Int} : ixN (drD cs i b st).length 1 = some 1 := rfl
theorem ixn2 {cs : List Int} {i : Nat} {b st : Int} : ixN (drD cs i b st).length 2 = some 2 := rfl
theorem ixn3 {cs : List Int} {i : Nat} {b st : Int} : ixN (drD cs i b st).length 3 = some 3 := rfl
theorem wpS_seqC {W : WX} {Z : XP} {ρ : Rho} {μ : M} {F : Fin} {t u : TS} (Mid : Rho → M → Prop) (h : wpS W Z t ρ μ { F with nx := Mid }) (k : ∀ ρ' μ', Mid ρ' μ' → wpS W Z u ρ' μ' F) : wpS W Z (tSeq t u) ρ μ F :=
  wpS_seq (wpS_mono h k (fun _ _ x => x) (fun _ _ x => x) (fun _ _ x => x))
theorem d__law_draw (B : Bt mg)  (src : Src K mg "_law_draw" s__law_draw ["_law_draws", "_law_size"])  : Def P w K mg base 1 "_law_draw" ["_law_draws", "_law_size"] S__law_draw := by
  refine Def.of src sc__law_draw (fun ds μ Q X h => by obtain ⟨a, rfl, _⟩ := h; rfl) fun f cdv A outer s0 H E hr tk => ?_
  refine ⟨_, (pss_cons (ps_if (pt_cmpR (kEq K rfl hr.units) (pe_ix (kIx K rfl) (pv 0) pe_int (fun _ _ => rfl)) pe_int (nomark _)) (pss_one (ps_if (pt_cmpR op_lt (pe_ix (kIx K rfl) (pv 0) pe_int (fun _ _ => rfl)) (pe_callB (kLen K rfl) (by rfl) B.len (by decide +kernel) (pa_cons (pe_ix (kIx K rfl) (pv 0) pe_int (fun _ _ => rfl)) pa_nil)) (nomark _)) (pss_cons (ps_set (i := 2) sc__law_draw.nd rfl (by first | exact Or.inl rfl | exact Or.inr rfl) (pe_ix (kIx K rfl) (pe_ix (kIx K rfl) (pv 0) pe_int (fun _ _ => rfl)) (pe_ix (kIx K rfl) (pv 0) pe_int (fun _ _ => rfl)) (fun _ _ => rfl)))
 (pss_cons (ps_asg (pe_op (kAdd K rfl) (pe_ix (kIx K rfl) (pv 0) pe_int (fun _ _ => rfl)) pe_int) (pg_sub (pv 0) pe_int set_list))
 (pss_one (ps_if (pt_cmpR op_ge (pv 2) (pe_op op_pow pe_int pe_int) (nomark _)) (pss_one (ps_asg (pv 2) (pg_sub (pv 0) pe_int set_list))) (pss_one (ps_asg (pe_op op_modN (pe_callTy call_intU (by rfl) B.int (by decide +kernel) (pa_cons (pe_op (kAdd K rfl) (pe_op (kAdd K rfl) (pe_op op_mulU (pe_ix (kIx K rfl) (pv 0) pe_int (fun _ _ => rfl)) pe_int) (pe_op op_mulU (pv 2) pe_int)) pe_int) pa_nil)) pe_int) (pg_sub (pv 0) pe_int set_list))))))) (pss_one (ps_asg (pe_op op_modN (pe_callTy call_intU (by rfl) B.int (by decide +kernel) (pa_cons (pe_op (kAdd K rfl) (pe_op op_mulU (pe_ix (kIx K rfl) (pv 0) pe_int (fun _ _ => rfl)) pe_int) pe_int) pa_nil)) pe_int) (pg_sub (pv 0) pe_int set_list))))) pss_nil)
 (pss_cons (ps_if (pt_cmpR op_gt (pe_ix (kIx K rfl) (pv 0) pe_int (fun _ _ => rfl)) pe_int (nomark _)) (pss_cons (ps_set (i := 3) sc__law_draw.nd rfl (by first | exact Or.inl rfl | exact Or.inr rfl) (pe_op op_modN (pe_callTy call_intU (by rfl) B.int (by decide +kernel) (pa_cons (pe_ix (kIx K rfl) (pv 0) pe_int (fun _ _ => rfl)) pa_nil)) (pv 1)))
 (pss_cons (ps_asg (pe_op op_fdivW (pe_ix (kIx K rfl) (pv 0) pe_int (fun _ _ => rfl)) (pv 1)) (pg_sub (pv 0) pe_int set_list))
 (pss_one (ps_ret (pv 3))))) pss_nil)
 (pss_one (ps_ret (pe_op op_modN (pe_op op_modN (pe_callTy call_intU (by rfl) B.int (by decide +kernel) (pa_cons (pe_op op_mulU (pe_ix (kIx K rfl) (pv 0) pe_int (fun _ _ => rfl)) pe_int) pa_nil)) pe_int) (pv 1)))))), ?_⟩
  rintro ds μ Q X ⟨⟨a, n⟩, rfl, ⟨m, hm, cs, i, b, st, rfl⟩, ⟨n0, n1⟩, q⟩
  have q : ∀ v : Int, 0 ≤ v → v < n → ∀ m, DrM m → Q (.int v) (updM μ a m) := q
  have hm : μ a = some (.lst (drD cs i b st)) := hm
  have n0 : 0 < n := n0
  have n1 : n < 2 ^ 60 := n1
  refine wpS_seqC (fun ρ μ' => ρ[0]? = some (some (.cell a)) ∧ ρ[1]? = some (some (.int n)) ∧ ρ.length = 4 ∧ ∃ cs i b st, μ' = updM μ a (.lst (drD cs i b st))) ?_ ?_
  · refine wpS_if ?_
    walk_at "w"
    refine u_ixM hm ixD2 ?_
    walk_at "w"
    refine ⟨fun hb => ?_, fun hb => ?_⟩
    · refine wpS_if ?_
      walk_at "w"
      refine u_ixM hm ixD1 ?_
      walk_at "w"
      refine u_ixM hm ixD0 ?_
      walk_at "w"
      refine ⟨fun hi => ?_, fun hi => ?_⟩
      · have hi : ((i : Nat) : Int) < ((cs.map D.int).length : Nat) := of_decide_eq_true hi
        rw [List.length_map] at hi
        have hi : i < cs.length := by omega
        have hc : (cs.map D.int)[i]? = some (.int cs[i]) := by rw [List.getElem?_map, List.getElem?_eq_getElem hi]; rfl
        walk_at "w"
        refine u_ixM hm ixD0 ?_
        walk_at "w"
        refine u_ixM hm ixD1 ?_
        refine u_ixL (atI_nn hc) ?_
        walk_at "w"
        refine wpS_setI ?_
        walk_at "w"
        refine u_ixM hm ixD1 ?_
        walk_at "w"
        refine ⟨a, 1, 1, _, rfl, rfl, hm, ixn1, ?_⟩
        walk_at "w"
        refine r_I ⟨by decide, by decide, by decide⟩ ?_
        walk_at "w"
        refine ⟨fun hg => ?_, fun hg => ?_⟩
        · refine wpS_setI ?_
          walk_at "w"
          refine ⟨a, 2, 2, _, rfl, rfl, updM_same, ixn2, rfl, rfl, rfl, cs, i + 1, cs[i], st, ?_⟩
          rw [updM_updM]
          rfl
        · refine wpS_setI ?_
          walk_at "w"
          refine u_ixM updM_same ixD3 ?_
          walk_at "w"
          refine u_mulS (cmulR (by decide)) ?_
          walk_at "w"
          refine u_mulS (cmulR (by decide)) ?_
          walk_at "w"
          refine u_mod (by decide) ?_
          walk_at "w"
          exact ⟨a, 3, 3, _, rfl, rfl, updM_same, ixn3, rfl, rfl, rfl, cs, i + 1, b, _, updM_updM.trans rfl⟩
      · refine wpS_setI ?_
        walk_at "w"
        refine u_ixM hm ixD3 ?_
        walk_at "w"
        refine u_mulS (cmulR (by decide)) ?_
        walk_at "w"
        refine u_mod (by decide) ?_
        walk_at "w"
        exact ⟨a, 3, 3, _, rfl, rfl, hm, ixn3, rfl, rfl, rfl, cs, i, b, _, rfl⟩
    · exact wpS_next ⟨rfl, rfl, rfl, cs, i, b, st, (updM_self hm).symm⟩
  · rintro ρ μ' ⟨h0, h1, hl, cs, i, b, st, rfl⟩
    refine wpS_seq (wpS_if (wpT_test (wp_op (wp_op (wp_var h0 ?_)))))
    walk_at "w"
    refine u_ixM updM_same ixD2 ?_
    walk_at "w"
    refine ⟨fun hb => ?_, fun hb => ?_⟩
    · have hr := fmod_in (x := b) n0
      refine wpS_seq (wpS_set (wp_op (wp_cb (wpA_cons (wp_op (wp_var h0 ?_))))))
      walk_at "w"
      refine u_ixM updM_same ixD2 ?_
      walk_at "w"
      refine wp_var h1 (u_mod (by omega) ?_)
      have g0 : (ρ.set 3 (some (D.int (b.fmod n))))[0]? = some (some (.cell a)) := by rw [List.getElem?_set_ne (by decide)]; exact h0
      have g1 : (ρ.set 3 (some (D.int (b.fmod n))))[1]? = some (some (.int n)) := by rw [List.getElem?_set_ne (by decide)]; exact h1
      have g3 : (ρ.set 3 (some (D.int (b.fmod n))))[3]? = some (some (.int (b.fmod n))) := List.getElem?_set_self (by omega)
      refine wpS_seq (wpS_setI (wp_op (wp_op (wp_var g0 ?_))))
      walk_at "w"
      refine u_ixM updM_same ixD2 ?_
      refine wp_var g1 (u_div (cdivW_small n0 n1) ?_)
      refine wp_var g0 (wp_int ⟨a, 2, 2, _, rfl, rfl, updM_same, ixn2, ?_⟩)
      refine wpS_ret (wp_var g3 ?_)
      rw [updM_updM]
      exact q _ hr.1 hr.2 _ ⟨_, _, _, _, rfl⟩
    · refine wpS_next ?_
      refine wpS_ret (wp_op (wp_op (wp_cb (wpA_cons (wp_op (wp_op (wp_var h0 ?_)))))))
      walk_at "w"
      refine u_ixM updM_same ixD3 ?_
      walk_at "w"
      refine u_mulS (cmulR (by decide)) ?_
      walk_at "w"
      refine u_mod (by decide) ?_
      refine wp_var h1 (u_mod (by omega) ?_)
      have hr := fmod_in (x := ((st * 16807).fmod 2147483629)) n0
      exact q _ hr.1 hr.2 _ ⟨_, _, _, _, rfl⟩
end
/-! ### drawn desks -/
abbrev lifeNames : List Str := ["paid", "kept", "void", "copy", "lost", "twice", "back", "early"]
abbrev chkNames : List Str := ["stubs", "till", "list", "stamp", "count", "desk"]
structure Made (wd sz : Int) (k : Dk) : Prop where
  n1 : 1 ≤ k.ls.length
  nw : (k.ls.length : Int) ≤ wd
  nm : k.ls.map (·.1) = lifeNames.take k.ls.length
  lg : ∀ l ∈ k.ls, -4 ≤ l.2 ∧ l.2 ≤ 4
  cz : (k.cs.length : Int) ≤ sz
  cm : k.cs.map (·.1) = chkNames.take k.cs.length
  cn : ∀ c ∈ k.cs, c.2.length = k.ls.length ∧ ∀ n ∈ c.2, -4 ≤ n ∧ n ≤ 4
abbrev partsD (k : Dk) : D := .lst [livesD k.ls, checksD k.cs]
abbrev S__law_drawn : DSp := fun ds μ P X => ∃ a : Addr × Int × Int, ds = [.cell a.1, .int a.2.1, .int a.2.2] ∧ DrAt μ a.1 ∧ (1 ≤ a.2.1 ∧ a.2.1 ≤ 8) ∧ (0 ≤ a.2.2 ∧ a.2.2 ≤ 6) ∧
  ∀ k : Dk, Made a.2.1 a.2.2 k → ∀ m, DrM m → P (partsD k) (updM μ a.1 m)
theorem free2 {μ : M} {a p : Addr} {m : MO} (h : updM μ a m p = none) : p ≠ a ∧ μ p = none := by
  by_cases e : p = a
  · subst e; rw [updM_same] at h; cases h
  · rw [updM_ne e] at h; exact ⟨e, h⟩
theorem free1 {μ : M} {a p : Addr} (h : DrAt μ a) (n : μ p = none) : p ≠ a := by
  rintro rfl
  obtain ⟨m, e, _⟩ := h
  rw [n] at e; cases e
theorem updM_mid {μ : M} {a p : Addr} {m m' mp : MO} (h : p ≠ a) : updM (updM (updM μ a m) p mp) a m' = updM (updM μ a m') p mp := by
  rw [updM_comm h, updM_updM]
theorem updM_free {μ : M} {a p : Addr} {m : MO} (h : p ≠ a) (n : μ p = none) : updM μ a m p = none := by rw [updM_ne h]; exact n
theorem rngD_get {lo : Int} {n i : Nat} {x : D} (h : (rngD lo n)[i]? = some x) : i < n ∧ x = .int (lo + (i : Nat)) := by
  unfold rngD at h
  rw [List.getElem?_map] at h
  by_cases hi : i < n
  · rw [List.getElem?_range hi] at h
    cases h
    exact ⟨hi, rfl⟩
  · rw [List.getElem?_eq_none (by rw [List.length_range]; omega)] at h
    cases h
theorem rngD_len {lo : Int} {n : Nat} : (rngD lo n).length = n := by unfold rngD; rw [List.length_map, List.length_range]
theorem rng0 {i : Nat} : (0 : Int) + (i : Nat) = (i : Nat) := Int.zero_add _
theorem name_at (xs : List Str) {i : Nat} (h : i < xs.length) : atI (xs.map D.str) ((i : Nat) : Int) = some (.str xs[i]) := atI_nn (by rw [List.getElem?_map, List.getElem?_eq_getElem h]; rfl)
/-- the names one after another -/
theorem take_snoc {α : Type} {xs : List α} {i : Nat} (h : i < xs.length) : xs.take (i + 1) = xs.take i ++ [xs[i]] := by
  rw [List.take_add_one, List.getElem?_eq_getElem h]; rfl
section
variable {P : Program} {w : World} {K : PySem.W.Frag} {mg : Str → Option Value} {base : Heap}
end
end SB

namespace SB
open PySem PySem.Spec PyProof.Rows L2
local macro_rules | `(tactic| walk_at "w1") => `(tactic| first
  | ((with_reducible refine' wp_var ?h ?_); (case h => exact rfl))
  | with_reducible refine wp_int ?_
  | with_reducible refine wp_bl ?_
  | with_reducible refine wp_str ?_
  | with_reducible refine wp_non ?_
  | with_reducible refine wp_ty ?_
  | with_reducible refine wp_ref ?_
  | with_reducible refine wp_op ?_
  | with_reducible refine wp_un ?_
  | with_reducible refine wp_cb ?_
  | with_reducible refine wpA_cons ?_
  | with_reducible refine wpA_nil ?_
  | with_reducible refine wpT_test ?_
  | with_reducible refine wpT_tru ?_
  | with_reducible refine wpT_not ?_
  | with_reducible refine wpT_and ?_
  | with_reducible refine wpT_or ?_
  | with_reducible refine wp_andV ?_
  | with_reducible refine wp_orV ?_
  | with_reducible refine wp_notV ?_
  | with_reducible refine wp_if ?_
  | with_reducible refine wp_chain ?_
  | with_reducible refine wpS_seq ?_
  | with_reducible refine wpS_ret ?_
  | with_reducible refine wpS_retN ?_
  | with_reducible refine wpS_set ?_
  | with_reducible refine wpS_if ?_
  | with_reducible refine wpS_next ?_
  | with_reducible refine wpS_par ?_
  | with_reducible refine u_add ?_
  | with_reducible refine u_sub ?_
  | with_reducible refine u_cmp ?_
  | with_reducible refine r_neg ?_
  | with_reducible refine r_isN ?_
  | with_reducible refine r_notN ?_
  | with_reducible refine r_eqI ?_
  | with_reducible refine r_neI ?_
  | with_reducible refine u_len ?_
  | with_reducible refine u_lenT ?_
  | with_reducible refine rc_abs ?_
  | with_reducible refine rc_max2 ?_
  | with_reducible refine rc_min2 ?_
  | with_reducible refine u_intI ?_
  | with_reducible refine u_intB ?_
  | with_reducible refine k_tuple ?_
  | with_reducible refine rc_all ?_
  | with_reducible refine u_anyI ?_
  | ((with_reducible refine' rc_isInt ?h ?_); (case h => first | assumption | exact .int | exact .bl | exact .non | fail "x"))
  | ((with_reducible refine' rc_isBool ?h ?_); (case h => first | assumption | exact .int | exact .bl | exact .non | fail "x"))
  | ((with_reducible refine' rc_isStr ?h ?_); (case h => first | assumption | exact .int | exact .bl | exact .non | fail "x"))
  | ((with_reducible refine' rc_isTup ?h ?_); (case h => first | assumption | exact .int | exact .bl | exact .non | fail "x"))
  | ((with_reducible refine' rc_isLst ?h ?_); (case h => first | assumption | exact .int | exact .bl | exact .non | fail "x"))
  | with_reducible refine wp_callP ?_
  | with_reducible exact ⟨rfl, rfl⟩
  | with_reducible refine ⟨_, rfl, ?_⟩)
local macro_rules | `(tactic| walk_at "w") => `(tactic| (repeat (walk_at "w1")))
theorem and_size_Made {xs : List D} {p : Prop} (h : decide (xs.length ≤ sizeLine) = true) (hp : p) : xs.length ≤ sizeLine ∧ p := ⟨of_decide_eq_true h, hp⟩
local macro_rules | `(tactic| walk_at "d1") => `(tactic| first
  | walk_at "w1"
  | with_reducible refine wp_tup ?_
  | with_reducible refine wp_lst ?_
  | ((with_reducible refine' and_size_Made ?h ?_); (case h => rfl)))
local macro_rules | `(tactic| walk_at "d") => `(tactic| (repeat (walk_at "d1")))
/-! ### desks that are right -/
structure Dk.Ok (k : Dk) : Prop where
  n1 : 1 ≤ k.ls.length
  n8 : k.ls.length ≤ 8
  lw : ∀ l ∈ k.ls, isWord (.str l.1) = true
  ln : (k.ls.map (·.1)).Nodup
  lg : ∀ l ∈ k.ls, -9 ≤ l.2 ∧ l.2 ≤ 9
  c6 : k.cs.length ≤ 6
  cw : ∀ c ∈ k.cs, isWord (.str c.1) = true
  cd : (k.cs.map (·.1)).Nodup
  cn : ∀ c ∈ k.cs, c.2.length = k.ls.length ∧ ∀ n ∈ c.2, -9 ≤ n ∧ n ≤ 9
theorem Dk.Ok.sm {k : Dk} (h : k.Ok) : k.Sm := ⟨h.n8, Nat.le_trans h.c6 (by decide), h.lg, h.cn⟩
theorem small_lt : ∀ c ∈ SMALL.cps.toList, c < 1114112 := by decide +kernel
theorem word_pl {s : Str} (h : isWord (.str s) = true) : PySem.PyData.strOk s = true ∧ s.length ≤ 8 := by
  unfold isWord at h
  simp only [Bool.and_eq_true, decide_eq_true_eq] at h
  obtain ⟨_, h2, h3⟩ := h
  refine ⟨?_, by omega⟩
  show s.cps.all (fun x => decide (x < 1114112)) = true
  rw [← Array.all_toList]
  refine List.all_eq_true.mpr fun c hc => ?_
  have := List.all_eq_true.mp h3 c hc
  exact decide_eq_true (small_lt c (of_decide_eq_true this))
theorem pl_word {s : Str} {n : Nat} (h : isWord (.str s) = true) : Pl n (.str s) := .str (word_pl h).1 (by have := (word_pl h).2; omega)
theorem pl_ints {n : Nat} {ns : List Int} (h : ns.length ≤ 1000) : Pl (n + 1) (.tup (ns.map .int)) := .tup (fun x hx => by obtain ⟨i, _, rfl⟩ := List.mem_map.mp hx; exact .int) (by rw [List.length_map]; exact h)
theorem pl_two {n : Nat} {x y : D} (hx : Pl n x) (hy : Pl n y) : Pl (n + 1) (.tup [x, y]) := .tup (fun z hz => by
  rcases List.mem_cons.mp hz with rfl | hz
  · exact hx
  · rw [List.mem_singleton] at hz; subst hz; exact hy) (by show 2 ≤ 1000; decide)
theorem Dk.Ok.plL {k : Dk} (h : k.Ok) : Pl 2 (livesD k.ls) := .tup (fun x hx => by
  obtain ⟨l, hl, rfl⟩ := List.mem_map.mp hx
  exact pl_two (pl_word (h.lw l hl)) .int) (by have := h.n8; rw [List.length_map]; omega)
theorem Dk.Ok.plC {k : Dk} (h : k.Ok) : Pl 3 (checksD k.cs) := .tup (fun x hx => by
  obtain ⟨l, hl, rfl⟩ := List.mem_map.mp hx
  have := (h.cn l hl).1
  have := h.n8
  exact pl_two (pl_word (h.cw l hl)) (pl_ints (by omega))) (by have := h.c6; rw [List.length_map]; omega)
theorem isSmall_int {i : Int} (h : -9 ≤ i ∧ i ≤ 9) : isSmall (.int i) = true := by
  show (decide (-9 ≤ i) && decide (i ≤ 9)) = true
  rw [decide_eq_true h.1, decide_eq_true h.2]; rfl
theorem Dk.Ok.lives {k : Dk} (h : k.Ok) : areLives (livesD k.ls) = true := by
  unfold areLives isT lenD itemsD
  have h1 := h.n1
  have h8 := h.n8
  simp only [List.length_map]
  rw [decide_eq_true (by omega : (1 : Int) ≤ (k.ls.length : Nat)), decide_eq_true (by omega : ((k.ls.length : Nat) : Int) ≤ 8)]
  rw [List.all_map, List.map_map]
  rw [show (nameD ∘ lifeD) = (·.1) from rfl, decide_eq_true h.ln]
  simp only [Bool.true_and, Bool.and_true]
  refine List.all_eq_true.mpr fun l hl => ?_
  show (isT (lifeD l) && (decide (((2 : Nat) : Int) = 2) && isWord (.str l.1)) && isSmall (.int l.2)) = true
  rw [h.lw l hl, isSmall_int (h.lg l hl)]
  rfl
theorem Dk.Ok.checks {k : Dk} (h : k.Ok) : areChecks (checksD k.cs) (lenD (livesD k.ls) : Nat) = true := by
  unfold areChecks isT itemsD
  have h6 := h.c6
  have e1 : lenD (checksD k.cs) = k.cs.length := List.length_map _
  have e2 : lenD (livesD k.ls) = k.ls.length := List.length_map _
  rw [e1, e2, decide_eq_true (by omega : ((k.cs.length : Nat) : Int) ≤ 6)]
  show (true && true && (((k.cs.map chkD).all _) && decide (((k.cs.map chkD).map nameD).Nodup))) = true
  rw [List.all_map, List.map_map]
  rw [show (nameD ∘ chkD) = (·.1) from rfl, decide_eq_true h.cd]
  simp only [Bool.true_and, Bool.and_true]
  refine List.all_eq_true.mpr fun c hc => ?_
  obtain ⟨cl, cb⟩ := h.cn c hc
  show (isT (chkD c) && (decide (((2 : Nat) : Int) = 2) && isWord (.str c.1)) && (true && (decide (((c.2.map D.int).length : Int) = (k.ls.length : Nat)) && (c.2.map D.int).all isSmall))) = true
  rw [h.cw c hc, List.length_map, cl, decide_eq_true rfl, List.all_map]
  have : c.2.all (isSmall ∘ D.int) = true := List.all_eq_true.mpr fun n hn => isSmall_int (cb n hn)
  rw [this]
  rfl
theorem Dk.Ok.ok {k : Dk} (h : k.Ok) : deskOk (livesD k.ls) (checksD k.cs) = true := by
  unfold deskOk
  rw [h.lives, h.checks]; rfl
theorem lifeNames_ok : (∀ s ∈ lifeNames, isWord (.str s) = true) ∧ lifeNames.Nodup := by decide +kernel
theorem chkNames_ok : (∀ s ∈ chkNames, isWord (.str s) = true) ∧ chkNames.Nodup := by decide +kernel
theorem Made.ok {wd sz : Int} {k : Dk} (h : Made wd sz k) (hw : wd ≤ 8) (hs : sz ≤ 6) : k.Ok := by
  have := h.nw
  have := h.cz
  refine ⟨h.n1, by omega, fun l hl => ?_, ?_, fun l hl => ?_, by omega, fun l hl => ?_, ?_, fun c hc => ⟨(h.cn c hc).1, fun n hn => ?_⟩⟩
  · have m : l.1 ∈ k.ls.map (·.1) := List.mem_map_of_mem hl
    rw [h.nm] at m
    exact lifeNames_ok.1 _ (List.mem_of_mem_take m)
  · rw [h.nm]; exact lifeNames_ok.2.sublist (List.take_sublist _ _)
  · have := h.lg l hl; omega
  · have m : l.1 ∈ k.cs.map (·.1) := List.mem_map_of_mem hl
    rw [h.cm] at m
    exact chkNames_ok.1 _ (List.mem_of_mem_take m)
  · rw [h.cm]; exact chkNames_ok.2.sublist (List.take_sublist _ _)
  · have := (h.cn c hc).2 n hn; omega
/-! ### an own account -/
abbrev S__law_make (C CB : Addr) : DSp := Pu (fun k : Dk => [partsD k]) Dk.Ok fun k => k.d C
abbrev S__law_times : DSp := Pu (fun a : (Bool × List Int) × Bool × List Int => [seqD a.1.1 (a.1.2.map .int), seqD a.2.1 (a.2.2.map .int)]) (fun a => a.1.2.length ≤ 1000 ∧ a.2.2.length ≤ 1000 ∧ (∀ n ∈ a.1.2, Big n) ∧ ∀ n ∈ a.2.2, Big n) fun a => .int (dot a.1.2 a.2.2)
abbrev S__law_gain : DSp := Pu (fun a : Dk × Bool × List Int => [partsD a.1, seqD a.2.1 (a.2.2.map .int)]) (fun a => a.1.Sm ∧ a.2.2.length ≤ 1000 ∧ ∀ n ∈ a.2.2, Big n) fun a => .int (a.1.gain a.2.2)
abbrev S__law_sums : DSp := Pu (fun a : Dk × Bool × List Int => [partsD a.1, seqD a.2.1 (a.2.2.map .int)]) (fun a => a.1.Sm ∧ a.2.2.length ≤ 1000 ∧ ∀ n ∈ a.2.2, Big n) fun a => .lst ((a.1.sums a.2.2).map .int)
abbrev S__law_even : DSp := Pu (fun a : Dk × Bool × List Int => [partsD a.1, seqD a.2.1 (a.2.2.map .int)]) (fun a => a.1.Sm ∧ a.2.2.length ≤ 1000 ∧ ∀ n ∈ a.2.2, Big n) fun a => .bl (a.1.even a.2.2)
section
variable {P : Program} {w : World} {K : PySem.W.Frag} {mg : Str → Option Value} {base : Heap} {C_Desk C_BadDesk : Addr}
theorem any_filter {α : Type} (xs : List α) (p : α → Bool) : decide ((((xs.filter p).length : Nat) : Int) = 0) = !xs.any p := by
  cases h : xs.any p with
  | true =>
    obtain ⟨x, hx, hp⟩ := List.any_eq_true.mp h
    have := List.length_pos_of_mem (List.mem_filter.mpr ⟨hx, hp⟩)
    exact decide_eq_false (by omega)
  | false =>
    have : xs.filter p = [] := List.filter_eq_nil_iff.mpr fun x hx hp => by
      have := List.any_eq_true.mpr ⟨x, hx, hp⟩
      rw [h] at this; cases this
    rw [this]; rfl
theorem dec_ne (n : Int) : (!decide (n = 0)) = (n != 0) := by
  by_cases h : n = 0
  · subst h; rfl
  · rw [decide_eq_false h]; symm; simpa using h
end
/-! ### == of desks -/
abbrev S_Desk___eq__ (K : PySem.W.Frag) (C : Addr) : DSp := fun ds μ P X => ∃ a : (D × D) × D, ds = [deskD C a.1.1 a.1.2, a.2] ∧ (Shp 50 a.1.1 ∧ Shp 50 a.1.2) ∧
  ((∃ l c, a.2 = deskD C l c ∧ (Shp 50 l ∧ Shp 50 c) ∧ P (.bl (deq (.tup [a.1.1, a.1.2]) (.tup [l, c]))) μ) ∨ ∃ t, TyDX K μ a.2 t ∧ PySem.W.kitOne K t (.ref C) = some false ∧ P (.bl false) μ)
theorem shp_two {n : Nat} {x y : D} (hx : Shp n x) (hy : Shp n y) : Shp (n + 1) (.tup [x, y]) := .tup fun z hz => by
  rcases List.mem_cons.mp hz with rfl | hz
  · exact hx
  · rw [List.mem_singleton] at hz; subst hz; exact hy
section
variable {P : Program} {w : World} {K : PySem.W.Frag} {mg : Str → Option Value} {base : Heap} {C_Desk : Addr}
theorem d_Desk___eq__ (B : Bt mg) (T_Desk : DeskF K mg C_Desk) (src : SrcM K C_Desk "__eq__" "Desk.__eq__" s_Desk___eq__ ["self", "other"])  : DefM P w K mg base C_Desk 1 "__eq__" ["self", "other"] (S_Desk___eq__ K C_Desk) := by
  refine DefM.of src sc_Desk___eq__ (fun ds μ Q X h => by obtain ⟨a, rfl, _⟩ := h; rfl) fun f cdv A outer s0 H E hr tk => ?_
  refine ⟨_, (pss_one (ps_ret (pe_and (pe_callB (kIsi K rfl) (by rfl) B.isinstance (by decide +kernel) (pa_cons (pv 1) (pa_cons (pe_glob (v := .ref C_Desk) (by rfl) T_Desk.mgC rfl) pa_nil))) (pe_one (pe_cmpR (kEq K rfl hr.units) (pe_tup (pa_cons (kFld K rfl (pv 0) rfl) (pa_cons (kFld K rfl (pv 0) rfl) pa_nil))) (pe_tup (pa_cons (kFld K rfl (pv 1) rfl) (pa_cons (kFld K rfl (pv 1) rfl) pa_nil))) (nomark _)))))), ?_⟩
  rintro ds μ Q X ⟨⟨⟨l, c⟩, o⟩, rfl, ⟨hl, hc⟩, q⟩
  have q : (∃ l' c', o = deskD C_Desk l' c' ∧ (Shp 50 l' ∧ Shp 50 c') ∧ Q (.bl (deq (.tup [l, c]) (.tup [l', c']))) μ) ∨ ∃ t, TyDX K μ o t ∧ PySem.W.kitOne K t (.ref C_Desk) = some false ∧ Q (.bl false) μ := q
  have hl : Shp 50 l := hl
  have hc : Shp 50 c := hc
  rcases q with ⟨l', c', rfl, ⟨hl', hc'⟩, q⟩ | ⟨t, ty, hk, q⟩
  · walk_at "w"
    refine rc_isiX (.obj T_Desk.ins) T_Desk.self ?_
    refine ⟨true, rfl, fun _ => ?_, fun h => by cases h⟩
    refine wp_op (wp_tup (wpA_cons (wp_fld T_Desk.cl T_Desk.nL ?_)))
    walk_at "w"
    refine ⟨_, _, rfl, lkL _ _, wpA_cons (wp_fld T_Desk.cl T_Desk.nC ?_)⟩
    walk_at "w"
    refine ⟨_, _, rfl, lkC _ _, ?_⟩
    walk_at "w"
    refine ⟨by show 2 ≤ sizeLine; decide, ?_⟩
    refine wp_tup (wpA_cons (wp_fld T_Desk.cl T_Desk.nL ?_))
    walk_at "w"
    refine ⟨_, _, rfl, lkL _ _, wpA_cons (wp_fld T_Desk.cl T_Desk.nC ?_)⟩
    walk_at "w"
    refine ⟨_, _, rfl, lkC _ _, ?_⟩
    walk_at "w"
    refine ⟨by show 2 ≤ sizeLine; decide, ?_⟩
    exact r_eqD ((shp_two hl hc).mono (by decide)) ((shp_two hl' hc').mono (by decide)) q
  · walk_at "w"
    refine rc_isiX ty hk ?_
    exact ⟨false, rfl, fun h => (by cases h), fun _ => q⟩
end
end SB

namespace SB
open PySem PySem.Spec PyProof.Rows L2
local macro_rules | `(tactic| walk_at "w1") => `(tactic| first
  | ((with_reducible refine' wp_var ?h ?_); (case h => exact rfl))
  | with_reducible refine wp_int ?_
  | with_reducible refine wp_bl ?_
  | with_reducible refine wp_str ?_
  | with_reducible refine wp_non ?_
  | with_reducible refine wp_ty ?_
  | with_reducible refine wp_ref ?_
  | with_reducible refine wp_op ?_
  | with_reducible refine wp_un ?_
  | with_reducible refine wp_cb ?_
  | with_reducible refine wpA_cons ?_
  | with_reducible refine wpA_nil ?_
  | with_reducible refine wpT_test ?_
  | with_reducible refine wpT_tru ?_
  | with_reducible refine wpT_not ?_
  | with_reducible refine wpT_and ?_
  | with_reducible refine wpT_or ?_
  | with_reducible refine wp_andV ?_
  | with_reducible refine wp_orV ?_
  | with_reducible refine wp_notV ?_
  | with_reducible refine wp_if ?_
  | with_reducible refine wp_chain ?_
  | with_reducible refine wpS_seq ?_
  | with_reducible refine wpS_ret ?_
  | with_reducible refine wpS_retN ?_
  | with_reducible refine wpS_set ?_
  | with_reducible refine wpS_if ?_
  | with_reducible refine wpS_next ?_
  | with_reducible refine wpS_par ?_
  | with_reducible refine u_add ?_
  | with_reducible refine u_sub ?_
  | with_reducible refine u_cmp ?_
  | with_reducible refine r_neg ?_
  | with_reducible refine r_isN ?_
  | with_reducible refine r_notN ?_
  | with_reducible refine r_eqI ?_
  | with_reducible refine r_neI ?_
  | with_reducible refine u_len ?_
  | with_reducible refine u_lenT ?_
  | with_reducible refine rc_abs ?_
  | with_reducible refine rc_max2 ?_
  | with_reducible refine rc_min2 ?_
  | with_reducible refine u_intI ?_
  | with_reducible refine u_intB ?_
  | with_reducible refine k_tuple ?_
  | with_reducible refine rc_all ?_
  | with_reducible refine u_anyI ?_
  | ((with_reducible refine' rc_isInt ?h ?_); (case h => first | assumption | exact .int | exact .bl | exact .non | fail "x"))
  | ((with_reducible refine' rc_isBool ?h ?_); (case h => first | assumption | exact .int | exact .bl | exact .non | fail "x"))
  | ((with_reducible refine' rc_isStr ?h ?_); (case h => first | assumption | exact .int | exact .bl | exact .non | fail "x"))
  | ((with_reducible refine' rc_isTup ?h ?_); (case h => first | assumption | exact .int | exact .bl | exact .non | fail "x"))
  | ((with_reducible refine' rc_isLst ?h ?_); (case h => first | assumption | exact .int | exact .bl | exact .non | fail "x"))
  | with_reducible refine wp_callP ?_
  | with_reducible exact ⟨rfl, rfl⟩
  | with_reducible refine ⟨_, rfl, ?_⟩)
local macro_rules | `(tactic| walk_at "w") => `(tactic| (repeat (walk_at "w1")))
theorem and_size_Lawkit {xs : List D} {p : Prop} (h : decide (xs.length ≤ sizeLine) = true) (hp : p) : xs.length ≤ sizeLine ∧ p := ⟨of_decide_eq_true h, hp⟩
local macro_rules | `(tactic| walk_at "d1") => `(tactic| first
  | walk_at "w1"
  | with_reducible refine wp_tup ?_
  | with_reducible refine wp_lst ?_
  | ((with_reducible refine' and_size_Lawkit ?h ?_); (case h => rfl)))
local macro_rules | `(tactic| walk_at "d") => `(tactic| (repeat (walk_at "d1")))
/-! ### for the laws -/
theorem deq_two (a b c d : D) : deq (.tup [a, b]) (.tup [c, d]) = (deq a c && deq b d) := by
  show PyData.eqvAll (toPs [a, b]) (toPs [c, d]) = _
  rw [toPs_map, toPs_map]
  show PyData.eqvAll [toP a, toP b] [toP c, toP d] = (PyData.eqv (toP a) (toP c) && PyData.eqv (toP b) (toP d))
  rw [deqAll]
  simp
theorem deq_two_iff {a b c d : D} : deq (.tup [a, b]) (.tup [c, d]) = true ↔ deq a c = true ∧ deq b d = true := by rw [deq_two, Bool.and_eq_true]
theorem deq_life (a b : Life) : deq (lifeD a) (lifeD b) = true ↔ a = b := by
  rw [deq_two_iff, deq_str', deq_int', Prod.ext_iff]
theorem deq_lives (a b : List Life) : deq (livesD a) (livesD b) = true ↔ a = b := deq_tup lifeD deq_life a b
theorem deq_chk (a b : Chk) : deq (chkD a) (chkD b) = true ↔ a = b := by
  rw [deq_two_iff, deq_str', deq_tup D.int deq_int', Prod.ext_iff]
theorem deq_checks (a b : List Chk) : deq (checksD a) (checksD b) = true ↔ a = b := deq_tup chkD deq_chk a b
theorem deq_desk (a b : Dk) : deq (.tup [livesD a.ls, checksD a.cs]) (.tup [livesD b.ls, checksD b.cs]) = decide (a.ls = b.ls ∧ a.cs = b.cs) := by
  rw [Bool.eq_iff_iff, deq_two_iff, deq_lives, deq_checks, decide_eq_true_iff]
theorem shp_life (l : Life) (h : isWord (.str l.1) = true) : Shp 1 (lifeD l) := .tup fun z hz => by
  rcases List.mem_cons.mp hz with rfl | hz
  · exact .str (word_pl h).1
  · rw [List.mem_singleton] at hz; subst hz; exact .int
/-- draws in a comprehension -/
theorem wp_lcDraw {W : WX} {Z : XP} {ρ : Rho} {μ : M} {P : D → M → Prop} {te : TE} {ta : TA} {vs : List Nat} {j : Nat} (a : Addr) (m0 : MO) (n : Nat) (Good : Int → Prop) (hv : j ∈ vs) (hn : n ≤ 1000000) (h0 : DrM m0)
    (he : ∀ i m p mp, i < n → DrM m → p ≠ a → wp W Z te ((wipeD ρ vs).set j (some (.int (i : Nat)))) (updM (updM μ a m) p mp) fun d μ' => ∃ v m', d = .int v ∧ Good v ∧ DrM m' ∧ μ' = updM (updM μ a m') p mp)
    (hw : wpA W Z ta ρ (updM μ a m0) fun ds μ1 => ds = [.int (n : Nat)] ∧ μ1 = updM μ a m0)
    (h : ∀ (ns : List Int) m, ns.length = n → (∀ v ∈ ns, Good v) → DrM m → P (.lst (ns.map .int)) (updM μ a m)) : wp W Z (tLc (iRng1 ta) (gName j) tYes te vs) ρ (updM μ a m0) P := by
  refine wp_lcD (wpI_range1 fun σ G H e ho z Q q => hw σ G H e ho z Q fun vs ds μ1 G1 H1 x1 h1 r1 p1 => q vs ds μ1 G1 H1 x1 h1 r1 ?_)
  obtain ⟨rfl, rfl⟩ := p1
  refine ⟨n, rfl, by omega, by omega, ?_⟩
  rw [Int.toNat_natCast]
  refine ⟨by rw [rngD_len]; exact hn, fun i acc μ2 => ∃ m, ∃ ns : List Int, DrM m ∧ μ2 = updM μ a m ∧ acc = ns.map .int ∧ ns.length = i ∧ ∀ v ∈ ns, Good v, ⟨m0, [], h0, rfl, rfl, rfl, fun v h => by cases h⟩, ?_, ?_⟩
  · rintro i x acc μ2 p mp hx ⟨m, ns, hm, rfl, rfl, hl, hg⟩ hp
    obtain ⟨hi, rfl⟩ := rngD_get hx
    obtain ⟨pa, pn⟩ := free2 hp
    rw [rng0]
    refine ⟨[j], _, fun k hk => by rw [List.mem_singleton] at hk; subst hk; exact hv, wpG_name, wpT_yes ⟨fun _ => wp_mono (he i m p mp hi hm pa) ?_, fun h => by cases h⟩⟩
    rintro d μ' ⟨v, m', rfl, gv, hm', rfl⟩
    refine ⟨updM μ a m', updM_free pa pn, rfl, m', ns ++ [v], hm', rfl, ?_, ?_, ?_⟩
    · rw [List.map_append]; rfl
    · rw [List.length_append, hl]; rfl
    · intro u hu
      rcases List.mem_append.mp hu with hu | hu
      · exact hg u hu
      · rw [List.mem_singleton] at hu; subst hu; exact gv
  · rintro acc μ2 ⟨m, ns, hm, rfl, rfl, hl, hg⟩
    rw [rngD_len] at hl
    exact h ns m hl hg hm
/-- a draw, by its place -/
theorem drawS {μ : M} {a : Addr} {n : Int} {P : D → M → Prop} {X : XD → M → Prop} (hd : DrAt μ a) (h0 : 0 < n) (h1 : n < 2 ^ 60) (h : ∀ v, 0 ≤ v → v < n → ∀ m, DrM m → P (.int v) (updM μ a m)) : S__law_draw [.cell a, .int n] μ P X := ⟨(a, n), rfl, hd, ⟨h0, h1⟩, h⟩
theorem drAt1 {μ : M} {a : Addr} {m : MO} (h : DrM m) : DrAt (updM μ a m) a := .upd h
theorem drAt2 {μ : M} {a p : Addr} {m mp : MO} (h : DrM m) (n : p ≠ a) : DrAt (updM (updM μ a m) p mp) a := (DrAt.upd h).other n
theorem bagOk_of {m : Nat} {ns : List Int} (hl : ns.length = m) (h : ∀ n ∈ ns, 0 ≤ n) : bagOk m (.tup (ns.map .int)) = true := by
  show (true && (decide ((ns.map D.int).length = m) && (ns.map D.int).all numOk)) = true
  rw [List.length_map, decide_eq_true hl, List.all_map]
  have : ns.all (numOk ∘ D.int) = true := List.all_eq_true.mpr fun n hn => decide_eq_true (h n hn)
  rw [this]; rfl
theorem big_lt {n : Int} (h : -(2 ^ 64) < n ∧ n < 2 ^ 64) : Big n := by
  unfold Big
  exact Nat.lt_of_lt_of_le (show n.natAbs < 2 ^ 64 by omega) (Nat.pow_le_pow_right (by decide) (by decide))
/-- what is taken from a list -/
theorem atI_in {xs : List D} {v : Int} (h0 : 0 ≤ v) (h1 : v < (xs.length : Nat)) : ∃ d, atI xs v = some d ∧ d ∈ xs := by
  obtain ⟨n, rfl⟩ : ∃ n : Nat, v = (n : Nat) := ⟨v.toNat, (Int.toNat_of_nonneg h0).symm⟩
  have hn : n < xs.length := by omega
  exact ⟨xs[n], atI_nn (List.getElem?_eq_getElem hn), List.getElem_mem hn⟩
/-- plain data, told by looking -/
def plB : Nat → D → Bool
  | _, .non => true
  | _, .bl _ => true
  | _, .int _ => true
  | _, .str s => PySem.PyData.strOk s && decide (s.length ≤ 1000)
  | n + 1, .tup xs => decide (xs.length ≤ 1000) && xs.all (plB n)
  | n + 1, .lst xs => decide (xs.length ≤ 1000) && xs.all (plB n)
  | _, _ => false
theorem plB_ok : ∀ (n : Nat) (d : D), plB n d = true → Pl n d := by
  intro n
  induction n with
  | zero =>
    intro d h
    cases d with
    | non => exact .non
    | bl => exact .bl
    | int => exact .int
    | str s =>
      unfold plB at h
      rw [Bool.and_eq_true, decide_eq_true_iff] at h
      exact .str h.1 h.2
    | _ => unfold plB at h; cases h
  | succ n ih =>
    intro d h
    cases d with
    | non => exact .non
    | bl => exact .bl
    | int => exact .int
    | str s =>
      unfold plB at h
      rw [Bool.and_eq_true, decide_eq_true_iff] at h
      exact .str h.1 h.2
    | tup xs =>
      unfold plB at h
      rw [Bool.and_eq_true, decide_eq_true_iff] at h
      exact .tup (fun x hx => ih x (List.all_eq_true.mp h.2 x hx)) h.1
    | lst xs =>
      unfold plB at h
      rw [Bool.and_eq_true, decide_eq_true_iff] at h
      exact .lst (fun x hx => ih x (List.all_eq_true.mp h.2 x hx)) h.1
    | _ => unfold plB at h; cases h
theorem Dk.Ok.shp {k : Dk} (h : k.Ok) : Shp 50 (livesD k.ls) ∧ Shp 50 (checksD k.cs) := ⟨h.plL.shp.mono (by decide), h.plC.shp.mono (by decide)⟩
theorem flat_rep {α : Type} (x : α) (n : Nat) : (List.replicate n [x]).flatten = List.replicate n x := by
  induction n with
  | zero => rfl
  | succ n ih => rw [List.replicate_succ, List.flatten_cons, ih, List.replicate_succ]; rfl
theorem initNon {C CB : Addr} : ∀ ds μ P X, S_Desk___init__ C CB ds μ P X → S_Desk___init__ C CB ds μ (fun d μ2 => d = .non ∧ P d μ2) X := by
  rintro ds μ P X ⟨a, e, m, h1, h2, h3, h4⟩
  exact ⟨a, e, m, h1, h2, fun z => ⟨rfl, h3 z⟩, h4⟩
/-- Desk(l, c) -/
theorem wp_newDesk {W : WX} {Z : XP} {ρ : Rho} {μ : M} {P : D → M → Prop} {ta : TA} {E : L2.St → XK} {C CB : Addr} (hE : ∀ σ, E σ = WE W σ)
    (h : wpA W Z ta ρ μ fun ds μ1 => ∃ l c, ds = [l, c] ∧ Pl 8 l ∧ Pl 8 c ∧ (deskOk l c = true → P (deskD C l c) μ1) ∧ (deskOk l c = false → ∀ x m, μ1 x = none → Z ⟨.ref CB, none⟩ ρ (updM μ1 x m))) :
    wp W Z (tMakeS C (spOf (S_Desk___init__ C CB)) E ta) ρ μ P := by
  refine wp_freezeO (wp_makeS hE (fun σ G H e ho z Q q => h σ G H e ho z Q fun vs ds μ1 G1 H1 x1 h1 r1 p1 => q vs ds μ1 G1 H1 x1 h1 r1 ?_) initNon)
  obtain ⟨l, c, rfl, pl, pc, ht, hf⟩ := p1
  intro x dx hx
  refine ⟨((x, dx), l, c), rfl, updM_same, pl, pc, fun h => ?_, fun h => hf h x _ hx⟩
  refine ⟨x, C, dx, _, rfl, updM_same, ?_⟩
  rw [updM_updM, delM_updM hx]
  exact ht h
theorem wp_newDeskOk {W : WX} {Z : XP} {ρ : Rho} {μ : M} {P : D → M → Prop} {ta : TA} {E : L2.St → XK} {C CB : Addr} (hE : ∀ σ, E σ = WE W σ)
    (h : wpA W Z ta ρ μ fun ds μ1 => ∃ k : Dk, ds = [livesD k.ls, checksD k.cs] ∧ k.Ok ∧ P (k.d C) μ1) :
    wp W Z (tMakeS C (spOf (S_Desk___init__ C CB)) E ta) ρ μ P :=
  wp_newDesk hE fun σ G H e ho z Q q => h σ G H e ho z Q fun vs ds μ1 G1 H1 x1 h1 r1 p1 => q vs ds μ1 G1 H1 x1 h1 r1 (by
    obtain ⟨k, rfl, hk, p⟩ := p1
    exact ⟨_, _, rfl, hk.plL.mono (by decide), hk.plC.mono (by decide), fun _ => p, fun h => by rw [hk.ok] at h; cases h⟩)
theorem mulOk_small {z : Str} {k : Int} (hz : z.length ≤ 1000) (h0 : 0 ≤ k) (h1 : k ≤ 1000) : MulOk z k := by
  refine ⟨?_, fun hk _ => ?_, fun hk _ => ?_⟩
  · rw [decide_eq_false (by omega : ¬ k < -(2 ^ 63)), decide_eq_false (by omega : ¬ k ≥ 2 ^ 63)]; rfl
  · have : ((z.length : Nat) : Int) ≤ (2 ^ 63 - 1) / k := by
      rw [Int.le_ediv_iff_mul_le (by omega)]
      have h2 : ((z.length : Nat) : Int) * k ≤ 1000 * 1000 := Int.mul_le_mul (by omega) h1 (by omega) (by omega)
      omega
    omega
  · have h2 : z.length * k.toNat ≤ 1000 * 1000 := Nat.mul_le_mul hz (by omega)
    have h3 : z.length * k.toNat ≤ sizeLine := Nat.le_trans h2 (by decide)
    exact decide_eq_false (by omega)
theorem r_eqS {K : PySem.W.Frag} {μ : M} {P : D → M → Prop} {i j : Str} (hi : PySem.PyData.strOk i = true) (hj : PySem.PyData.strOk j = true) (p : P (.bl (decide (i = j))) μ) : rel2 (rEqD K) (.str i) (.str j) μ P := r_eqD (.str hi) (.str hj) (by rw [deq_str]; exact p)
theorem Dk.Ok.nameOk {k : Dk} (h : k.Ok) {z : Str} (hz : z ∈ k.ls.map (·.1)) : PySem.PyData.strOk z = true := by
  obtain ⟨l, hl, rfl⟩ := List.mem_map.mp hz
  exact (word_pl (h.lw l hl)).1
end SB

namespace SB
open PySem PySem.Spec PyProof.Rows L2
local macro_rules | `(tactic| walk_at "w1") => `(tactic| first
  | ((with_reducible refine' wp_var ?h ?_); (case h => exact rfl))
  | with_reducible refine wp_int ?_
  | with_reducible refine wp_bl ?_
  | with_reducible refine wp_str ?_
  | with_reducible refine wp_non ?_
  | with_reducible refine wp_ty ?_
  | with_reducible refine wp_ref ?_
  | with_reducible refine wp_op ?_
  | with_reducible refine wp_un ?_
  | with_reducible refine wp_cb ?_
  | with_reducible refine wpA_cons ?_
  | with_reducible refine wpA_nil ?_
  | with_reducible refine wpT_test ?_
  | with_reducible refine wpT_tru ?_
  | with_reducible refine wpT_not ?_
  | with_reducible refine wpT_and ?_
  | with_reducible refine wpT_or ?_
  | with_reducible refine wp_andV ?_
  | with_reducible refine wp_orV ?_
  | with_reducible refine wp_notV ?_
  | with_reducible refine wp_if ?_
  | with_reducible refine wp_chain ?_
  | with_reducible refine wpS_seq ?_
  | with_reducible refine wpS_ret ?_
  | with_reducible refine wpS_retN ?_
  | with_reducible refine wpS_set ?_
  | with_reducible refine wpS_if ?_
  | with_reducible refine wpS_next ?_
  | with_reducible refine wpS_par ?_
  | with_reducible refine u_add ?_
  | with_reducible refine u_sub ?_
  | with_reducible refine u_cmp ?_
  | with_reducible refine r_neg ?_
  | with_reducible refine r_isN ?_
  | with_reducible refine r_notN ?_
  | with_reducible refine r_eqI ?_
  | with_reducible refine r_neI ?_
  | with_reducible refine u_len ?_
  | with_reducible refine u_lenT ?_
  | with_reducible refine rc_abs ?_
  | with_reducible refine rc_max2 ?_
  | with_reducible refine rc_min2 ?_
  | with_reducible refine u_intI ?_
  | with_reducible refine u_intB ?_
  | with_reducible refine k_tuple ?_
  | with_reducible refine rc_all ?_
  | with_reducible refine u_anyI ?_
  | ((with_reducible refine' rc_isInt ?h ?_); (case h => first | assumption | exact .int | exact .bl | exact .non | fail "x"))
  | ((with_reducible refine' rc_isBool ?h ?_); (case h => first | assumption | exact .int | exact .bl | exact .non | fail "x"))
  | ((with_reducible refine' rc_isStr ?h ?_); (case h => first | assumption | exact .int | exact .bl | exact .non | fail "x"))
  | ((with_reducible refine' rc_isTup ?h ?_); (case h => first | assumption | exact .int | exact .bl | exact .non | fail "x"))
  | ((with_reducible refine' rc_isLst ?h ?_); (case h => first | assumption | exact .int | exact .bl | exact .non | fail "x"))
  | with_reducible refine wp_callP ?_
  | with_reducible exact ⟨rfl, rfl⟩
  | with_reducible refine ⟨_, rfl, ?_⟩)
local macro_rules | `(tactic| walk_at "w") => `(tactic| (repeat (walk_at "w1")))
theorem and_size_Text {xs : List D} {p : Prop} (h : decide (xs.length ≤ sizeLine) = true) (hp : p) : xs.length ≤ sizeLine ∧ p := ⟨of_decide_eq_true h, hp⟩
local macro_rules | `(tactic| walk_at "d1") => `(tactic| first
  | walk_at "w1"
  | with_reducible refine wp_tup ?_
  | with_reducible refine wp_lst ?_
  | ((with_reducible refine' and_size_Text ?h ?_); (case h => rfl)))
local macro_rules | `(tactic| walk_at "d") => `(tactic| (repeat (walk_at "d1")))
abbrev s_number_of : Stmt := (top 19)
abbrev N_number_of : List Str := ["word", "bare"]
theorem sc_number_of : FnScope N_number_of ["word"] (defScope s_number_of) := ⟨rfl, rfl, rfl, by decide +kernel, rfl, by decide +kernel, by decide +kernel⟩
abbrev s_life_in : Stmt := (top 20)
abbrev N_life_in : List Str := ["words", "lives", "life"]
theorem sc_life_in : FnScope N_life_in ["words", "lives"] (defScope s_life_in) := ⟨rfl, rfl, rfl, by decide +kernel, rfl, by decide +kernel, by decide +kernel⟩
abbrev s_check_in : Stmt := (top 21)
abbrev N_check_in : List Str := ["words", "lives", "checks", "numbers", "word", "check"]
theorem sc_check_in : FnScope N_check_in ["words", "lives", "checks"] (defScope s_check_in) := ⟨rfl, rfl, rfl, by decide +kernel, rfl, by decide +kernel, by decide +kernel⟩
abbrev s_read : Stmt := (top 22)
abbrev N_read : List Str := ["text", "lives", "checks", "lines", "at", "line", "words", "found"]
theorem sc_read : FnScope N_read ["text"] (defScope s_read) := ⟨rfl, rfl, rfl, by decide +kernel, rfl, by decide +kernel, by decide +kernel⟩
/-! ### texts -/
abbrev tz (z : Str) : List Nat := z.cps.toList
/-- the number of a word -/
def numOf (z : Str) : Option Int := match tz z with
  | [c] => if 48 ≤ c ∧ c ≤ 57 then some ((c : Int) - 48) else none
  | [a, c] => if a = 45 ∧ 49 ≤ c ∧ c ≤ 57 then some (-((c : Int) - 48)) else none
  | _ => none
def optD : Option Int → D
  | none => .non
  | some i => .int i
theorem str_ext {a b : Str} (h : tz a = tz b) : a = b := by
  obtain ⟨⟨a⟩⟩ := a
  obtain ⟨⟨b⟩⟩ := b
  have h : a = b := h
  rw [h]
theorem cut1 (z : Str) : tz (cutS z (some 1) none) = (tz z).drop 1 := by
  show ((tz z).drop (HT.sIx z.length 0 (some 1))).take (z.length - HT.sIx z.length 0 (some 1)) = (tz z).drop 1
  have h : HT.sIx z.length 0 (some 1) = min 1 z.length := HT.sIx_nat z.length 0 1
  have hl : z.length = (tz z).length := (Array.length_toList).symm
  rw [h, hl]
  by_cases h0 : (tz z).length = 0
  · rw [List.length_eq_zero_iff.mp h0]; rfl
  · rw [show min 1 (tz z).length = 1 by omega, List.take_of_length_le (by rw [List.length_drop]; exact Nat.le_refl _)]
theorem cut0 (z : Str) : tz (cutS z none (some 1)) = (tz z).take 1 := by
  show ((tz z).drop 0).take (HT.sIx z.length z.length (some 1) - 0) = (tz z).take 1
  have h : HT.sIx z.length z.length (some 1) = min 1 z.length := HT.sIx_nat z.length z.length 1
  have hl : z.length = (tz z).length := (Array.length_toList).symm
  rw [h, hl, List.drop_zero, Nat.sub_zero]
  by_cases h0 : (tz z).length = 0
  · rw [List.length_eq_zero_iff.mp h0]; rfl
  · rw [show min 1 (tz z).length = 1 by omega]
abbrev FIGS : Str := "0123456789"
theorem figs_in : ∀ c : Nat, c ∈ FIGS.cps.toList ↔ 48 ≤ c ∧ c ≤ 57 := by
  intro c
  have h : FIGS.cps.toList = [48, 49, 50, 51, 52, 53, 54, 55, 56, 57] := by decide +kernel
  rw [h]
  simp only [List.mem_cons, List.not_mem_nil, or_false]
  omega
abbrev S_number_of : DSp := Pu (fun z : Str => [.str z]) (fun z => z.length ≤ 600 ∧ PySem.PyData.strOk z = true) fun z => optD (numOf z)
/-- the life of words, behind some lives -/
def lifeIn (ws : List Str) (ls : List Life) : Option Life := match ws with
  | [_, n, v] => if isWord (.str n) = true then (match numOf v with
      | none => none
      | some i => if ls.length = 8 ∨ n ∈ ls.map (·.1) then none else some (n, i)) else none
  | _ => none
def olD : Option Life → D
  | none => .non
  | some l => lifeD l
def WordsOk (ws : List Str) : Prop := ws.length ≤ 600 ∧ ∀ z ∈ ws, z.length ≤ 600 ∧ PySem.PyData.strOk z = true
abbrev S_life_in : DSp := Pu (fun a : List Str × List Life => [.lst (a.1.map .str), .lst (a.2.map lifeD)]) (fun a => WordsOk a.1 ∧ a.2.length ≤ 8) fun a => olD (lifeIn a.1 a.2)
theorem inD_strs (z : Str) (ss : List Str) : inD (.str z) (ss.map .str) = decide (z ∈ ss) := by
  unfold inD
  rw [List.any_map, Bool.eq_iff_iff, List.any_eq_true, decide_eq_true_iff]
  constructor
  · rintro ⟨x, hx, e⟩
    have := (deq_str' x z).mp e
    subst this
    exact hx
  · intro hz
    exact ⟨z, hz, (deq_str' z z).mpr rfl⟩
theorem flt_strs (ss : List Str) : ∀ d ∈ ss.map D.str, Flt d := fun d hd => by
  obtain ⟨l, _, rfl⟩ := List.mem_map.mp hd
  exact .str
/-- the check of words, behind some lives and checks -/
def checkIn (n : Str) (r : List Str) (ls : List Life) (cs : List Chk) : Option Chk :=
  if ls = [] ∨ r.length ≠ ls.length ∨ none ∈ r.map numOf ∨ isWord (.str n) = false then none
  else if cs.length = 6 ∨ n ∈ cs.map (·.1) then none else some (n, (r.map numOf).map (·.getD 0))
def ocD : Option Chk → D
  | none => .non
  | some c => chkD c
abbrev S_check_in : DSp := Pu (fun a : (Str × Str × List Str) × List Life × List Chk => [.lst ((a.1.1 :: a.1.2.1 :: a.1.2.2).map .str), .lst (a.2.1.map lifeD), .lst (a.2.2.map chkD)])
  (fun a => WordsOk (a.1.1 :: a.1.2.1 :: a.1.2.2) ∧ a.2.1.length ≤ 8 ∧ a.2.2.length ≤ 6) fun a => ocD (checkIn a.1.2.1 a.1.2.2 a.2.1 a.2.2)
theorem cut2 (x y : D) (r : List D) : cutD (x :: y :: r) (some 2) none = r := by
  unfold cutD
  have h1 : HT.sIx (x :: y :: r).length 0 (some 2) = 2 := by
    have := HT.sIx_nat (x :: y :: r).length 0 2
    rw [show ((2 : Nat) : Int) = 2 from rfl] at this
    rw [this]
    simp
  have h2 : HT.sIx (x :: y :: r).length (x :: y :: r).length none = (x :: y :: r).length := rfl
  rw [h1, h2]
  show r.take _ = r
  exact List.take_of_length_le (by simp)
theorem optD_all {os : List (Option Int)} (h : none ∉ os) : os.map optD = (os.map (·.getD 0)).map D.int := by
  rw [List.map_map]
  refine List.map_congr_left fun o ho => ?_
  cases o with
  | none => exact absurd ho h
  | some i => rfl
theorem inD_none (os : List (Option Int)) : inD .non (os.map optD) = decide (none ∈ os) := by
  unfold inD
  rw [List.any_map, Bool.eq_iff_iff, List.any_eq_true, decide_eq_true_iff]
  constructor
  · rintro ⟨x, hx, e⟩
    cases x with
    | none => exact hx
    | some i => exact absurd e (by show ¬ deq (.int i) .non = true; unfold deq toP PyData.eqv; decide)
  · intro hz
    exact ⟨none, hz, by decide⟩
theorem slen_app (a b : Str) : (a ++ b).length = a.length + b.length := PySem.Str.length_append a b
theorem sum_le {b : Nat} : ∀ {xs : List Str}, (∀ x ∈ xs, x.length ≤ b) → (xs.map (·.length)).sum ≤ xs.length * b
  | [], _ => Nat.zero_le _
  | x :: xs, h => by
    have h1 := h x List.mem_cons_self
    have h2 := sum_le (xs := xs) fun z hz => h z (List.mem_cons_of_mem _ hz)
    rw [List.map_cons, List.sum_cons, List.length_cons, Nat.succ_mul]
    omega
theorem num_small {i : Int} (h : -9 ≤ i ∧ i ≤ 9) : i.natAbs.log2 < 1920 ∧ (Str.ofString (toString i)).length ≤ 2 := by
  have hh : ∀ n ∈ List.range 19, ((n : Int) - 9).natAbs.log2 < 1920 ∧ (Str.ofString (toString ((n : Int) - 9))).length ≤ 2 := by decide +kernel
  have := hh (i + 9).toNat (List.mem_range.mpr (by omega))
  rw [show (((i + 9).toNat : Nat) : Int) - 9 = i by omega] at this
  exact this
/-- the line of a life, of a check -/
def lifeLine (l : Life) : Str := (((Str.empty ++ "life ") ++ l.1) ++ " ") ++ Str.ofString (toString l.2)
def chkLine (c : Chk) : Str := Txt.join " " (([("check" : Str), c.1] : List Str) ++ c.2.map fun n => Str.ofString (toString n))
def textOf (k : Dk) : Str := Txt.join "\n" (k.ls.map lifeLine ++ k.cs.map chkLine)
theorem chkWords_len {k : Dk} (hk : k.Ok) {y : Chk} (hm : y ∈ k.cs) : (∀ z ∈ ([("check" : Str), y.1] : List Str) ++ y.2.map (fun n => Str.ofString (toString n)), z.length ≤ 8) ∧ (([("check" : Str), y.1] : List Str) ++ y.2.map (fun n => Str.ofString (toString n))).length ≤ 10 := by
  obtain ⟨cl, cb⟩ := hk.cn y hm
  have n8 := hk.n8
  refine ⟨fun z hz => ?_, ?_⟩
  · rcases List.mem_append.mp hz with hz | hz
    · rcases List.mem_cons.mp hz with rfl | hz
      · decide
      · rw [List.mem_singleton] at hz
        subst hz
        exact (word_pl (hk.cw y hm)).2
    · obtain ⟨n, hn', rfl⟩ := List.mem_map.mp hz
      have := (num_small (cb n hn')).2
      omega
  · rw [List.length_append, List.length_map]
    show 2 + y.2.length ≤ 10
    omega
theorem line_len {k : Dk} (hk : k.Ok) : ∀ z ∈ k.ls.map lifeLine ++ k.cs.map chkLine, z.length ≤ 100 := by
  intro z hz
  rcases List.mem_append.mp hz with hz | hz
  · obtain ⟨l, hl, rfl⟩ := List.mem_map.mp hz
    have h1 := (word_pl (hk.lw l hl)).2
    have h2 := (num_small (hk.lg l hl)).2
    unfold lifeLine
    rw [slen_app, slen_app, slen_app, slen_app]
    have h3 : (Str.empty).length = 0 := by decide
    have h4 : ("life " : Str).length = 5 := by decide
    have h5 : (" " : Str).length = 1 := by decide
    omega
  · obtain ⟨y, hy, rfl⟩ := List.mem_map.mp hz
    obtain ⟨h1, h2⟩ := chkWords_len hk hy
    have h3 := sum_le h1
    unfold chkLine
    have h4 := PySem.StrLaws.join_length_le " " (([("check" : Str), y.1] : List Str) ++ y.2.map fun n => Str.ofString (toString n))
    have h5 : (" " : Str).length = 1 := by decide
    rw [h5] at h4
    rw [show Txt.join " " (([("check" : Str), y.1] : List Str) ++ y.2.map fun n => Str.ofString (toString n)) = Str.join " " (([("check" : Str), y.1] : List Str) ++ y.2.map fun n => Str.ofString (toString n)) from TL.join_eq _ _]
    omega
abbrev S_write (C : Addr) : DSp := Pu (fun k : Dk => [k.d C]) Dk.Ok fun k => .str (textOf k)
section
variable {P : Program} {w : World} {K : PySem.W.Frag} {mg : Str → Option Value} {base : Heap}
theorem intText_digit : ∀ c ∈ List.range 58, 48 ≤ c → PySem.intText? ⟨#[c]⟩ = some ((c : Int) - 48) := by decide +kernel
theorem intText_neg : ∀ c ∈ List.range 58, 49 ≤ c → PySem.intText? ⟨#[45, c]⟩ = some (-((c : Int) - 48)) := by decide +kernel
theorem tz_minus : tz "-" = [45] := by decide +kernel
theorem tz_nought : tz "-0" = [45, 48] := by decide +kernel
theorem dec_str (a b : Str) : decide (a = b) = decide (tz a = tz b) := by
  by_cases h : a = b
  · rw [decide_eq_true h, decide_eq_true (by rw [h])]
  · rw [decide_eq_false h, decide_eq_false (fun e => h (str_ext e))]
theorem tz_len (z : Str) : z.length = (tz z).length := (Array.length_toList).symm
theorem one_of {z : Str} {c : Nat} (h : tz z = [c]) : z = ⟨#[c]⟩ := str_ext h
theorem strOk_tz {z : Str} : PySem.PyData.strOk z = (tz z).all fun x => decide (x < 1114112) := by
  show z.cps.all (fun x => decide (x < 1114112)) = _
  rw [← Array.all_toList]
theorem strOk_cut {z : Str} (h : PySem.PyData.strOk z = true) (lo hi : Option Int) : PySem.PyData.strOk (cutS z lo hi) = true := by
  rw [strOk_tz, List.all_eq_true] at h ⊢
  intro x hx
  exact h x (List.mem_of_mem_drop (List.mem_of_mem_take hx))
theorem d_number_of (B : Bt mg)  (src : Src K mg "number_of" s_number_of ["word"]) (g_FIGURES : ∃ t, mg "FIGURES" = some (.str "0123456789" t)) : Def P w K mg base 1 "number_of" ["word"] S_number_of := by
  obtain ⟨tc_FIGURES, gc_FIGURES⟩ := g_FIGURES
  refine Def.of src sc_number_of (fun ds μ Q X h => by obtain ⟨a, rfl, _⟩ := h; rfl) fun f cdv A outer s0 H E hr tk => ?_
  refine ⟨_, (pss_cons (ps_set (i := 1) sc_number_of.nd rfl (by first | exact Or.inl rfl | exact Or.inr rfl) (pe_ifExp (pt_cmpR (kEq K rfl hr.units) (pe_slice (kSl K rfl) (pv 0) po_none (po_some pe_int)) pe_str (nomark _)) (pe_slice (kSl K rfl) (pv 0) (po_some pe_int) po_none) (pv 0)))
 (pss_cons (ps_if (PW.pt (pw_or (pt_cmpR (kNe K rfl hr.units) (pe_callB (kLen K rfl) (by rfl) B.len (by decide +kernel) (pa_cons (pv 1) pa_nil)) pe_int (nomark _)) (pw_or (pt_cmpR (kNotIn K rfl) (pv 1) (pe_glob (v := .str "0123456789") (by rfl) gc_FIGURES ⟨_, rfl⟩) (by rfl)) (pw_or1 (pt_cmpR (kEq K rfl hr.units) (pv 0) pe_str (nomark _)))))) (pss_one (ps_ret pe_non)) pss_nil)
 (pss_one (ps_ret (pe_callTy call_intU (by rfl) B.int (by decide +kernel) (pa_cons (pv 0) pa_nil)))))), ?_⟩
  rintro ds μ Q X ⟨z, rfl, ⟨hl, hz⟩, q⟩
  have q : Q (optD (numOf z)) μ := q
  have hl : z.length ≤ 600 := hl
  have hz : PySem.PyData.strOk z = true := hz
  walk_at "w"
  refine wp_slice (wp_var rfl (wpO_none (wpO_some (wp_int ⟨_, rfl, _, .str (Nat.le_trans hl (by decide)), ?_⟩))))
  walk_at "w"
  refine r_eqS (strOk_cut hz _ _) (by decide +kernel) ?_
  have rest : ∀ bare : Str, bare.length ≤ 600 → PySem.PyData.strOk bare = true → (∀ c, tz bare = [c] → (48 ≤ c ∧ c ≤ 57) → tz z ≠ [45, 48] → PySem.intText? z = numOf z ∧ (numOf z).isSome = true) → ((∀ c, tz bare = [c] → ¬ (48 ≤ c ∧ c ≤ 57)) ∨ tz z = [45, 48] → numOf z = none) →
      wpS (wOut E) (fun x _ μ => X x μ) (tSeq (tIfS (tOr (tTest (tOp (rNeD K) (tCB (rLenU K) (tCons (tVar 1) tNil)) (tC (V.int 1)))) (tOr (tTest (tOp (rInU K true) (tVar 1) (tC (V.str (Str.ofString "0123456789"))))) (tTest (tOp (rEqD K) (tVar 0) (tC (V.str (Str.ofString "-0"))))))) (tRet (tC V.non)) tNext) (tRet (tCB rIntU (tCons (tVar 0) tNil))))
        [some (.str z), some (.str bare)] μ { nx := fun _ μ => Q .non μ, rt := Q } := by
    intro bare hb hbz h1 h2
    walk_at "w"
    refine u_lenS (Nat.le_trans hb (by decide)) ?_
    walk_at "w"
    refine ⟨fun hn => ?_, fun hn => ?_⟩
    · have hn : ((bare.length : Nat) : Int) = 1 := by simpa using hn
      obtain ⟨c, hc⟩ : ∃ c, tz bare = [c] := by
        rw [tz_len] at hn
        match h : tz bare, hn with
        | [c], _ => exact ⟨c, rfl⟩
        | [], hn => simp at hn
        | _ :: _ :: _, hn => simp at hn; omega
      obtain rfl := one_of hc
      walk_at "w"
      refine u_notInSg ?_
      refine ⟨_, rfl, fun hd => ?_, fun hd => ?_⟩
      · have hd : c ∈ FIGS.cps.toList := by simpa using hd
        have hd := (figs_in c).mp hd
        walk_at "w"
        refine r_eqS hz (by decide +kernel) ?_
        refine ⟨_, rfl, fun h0 => ?_, fun h0 => ?_⟩
        · have h0 : tz z = [45, 48] := by rw [of_decide_eq_true h0]; exact tz_nought
          rw [h2 (.inr h0)] at q
          walk_at "w"
          exact q
        · have h0 : tz z ≠ [45, 48] := fun e => of_decide_eq_false h0 (str_ext (e.trans tz_nought.symm))
          obtain ⟨e1, e2⟩ := h1 c hc hd h0
          obtain ⟨i, hi⟩ := Option.isSome_iff_exists.mp e2
          rw [hi] at e1 q
          walk_at "w"
          exact u_intS e1 (by omega) q
      · have hd : ¬ c ∈ FIGS.cps.toList := by simpa using hd
        rw [h2 (.inl fun c' hc' => by rw [hc] at hc'; cases hc'; exact fun k => hd ((figs_in c).mpr k))] at q
        refine ⟨fun _ => ?_, fun h => (by cases h)⟩
        walk_at "w"
        exact q
    · have hn : ¬ ((bare.length : Nat) : Int) = 1 := by simpa using hn
      rw [h2 (.inl fun c hc => absurd (show ((bare.length : Nat) : Int) = 1 by rw [tz_len, hc]; rfl) hn)] at q
      refine ⟨fun _ => ?_, fun h => (by cases h)⟩
      walk_at "w"
      exact q
  rw [dec_str, cut0, tz_minus]
  refine ⟨_, rfl, fun hm => ?_, fun hm => ?_⟩
  · have hm : (tz z).take 1 = [45] := of_decide_eq_true hm
    obtain ⟨r, hr⟩ : ∃ r, tz z = 45 :: r := by
      cases h : tz z with
      | nil => rw [h] at hm; cases hm
      | cons a r => rw [h] at hm; cases hm; exact ⟨r, rfl⟩
    refine wp_slice (wp_var rfl (wpO_some (wp_int ⟨_, rfl, wpO_none ⟨_, .str (Nat.le_trans hl (by decide)), ?_⟩⟩)))
    refine rest _ (Nat.le_trans (cutS_length _ _ _) hl) (strOk_cut hz _ _) ?_ ?_
    · rw [cut1, hr]
      intro c hc hd h0
      have hc : r = [c] := hc
      subst hc
      have hz2 : z = ⟨#[45, c]⟩ := str_ext hr
      have h48 : c ≠ 48 := fun e => h0 (by rw [e])
      have e : numOf z = some (-((c : Int) - 48)) := by
        unfold numOf
        rw [hr]
        show (if (45 : Nat) = 45 ∧ 49 ≤ c ∧ c ≤ 57 then some (-((c : Int) - 48)) else none) = _
        rw [if_pos ⟨rfl, by omega, by omega⟩]
      rw [e]
      refine ⟨?_, rfl⟩
      rw [hz2]
      exact intText_neg c (List.mem_range.mpr (by omega)) (by omega)
    · rw [cut1, hr]
      intro h
      unfold numOf
      rw [hr]
      match r, h with
      | [], _ => rfl
      | [c], h =>
        show (if (45 : Nat) = 45 ∧ 49 ≤ c ∧ c ≤ 57 then some (-((c : Int) - 48)) else none) = none
        refine if_neg fun k => ?_
        rcases h with h | h
        · exact h c rfl ⟨by omega, k.2.2⟩
        · cases h; omega
      | _ :: _ :: _, _ => rfl
  · have hm : ¬ (tz z).take 1 = [45] := of_decide_eq_false hm
    refine wp_var rfl (rest z hl hz ?_ ?_)
    · intro c hc hd h0
      have e : numOf z = some ((c : Int) - 48) := by
        unfold numOf
        rw [hc]
        show (if 48 ≤ c ∧ c ≤ 57 then some ((c : Int) - 48) else none) = _
        rw [if_pos hd]
      rw [e]
      refine ⟨?_, rfl⟩
      rw [one_of hc]
      exact intText_digit c (List.mem_range.mpr (by omega)) (by omega)
    · intro h
      unfold numOf
      match hzz : tz z with
      | [] => rfl
      | [c] =>
        show (if 48 ≤ c ∧ c ≤ 57 then some ((c : Int) - 48) else none) = none
        refine if_neg fun k => ?_
        rcases h with h | h
        · exact h c hzz k
        · rw [hzz] at h; cases h
      | [a, c] =>
        show (if a = 45 ∧ 49 ≤ c ∧ c ≤ 57 then some (-((c : Int) - 48)) else none) = none
        refine if_neg fun k => hm ?_
        rw [hzz, k.1]; rfl
      | _ :: _ :: _ :: _ => rfl
theorem d_life_in (B : Bt mg)  (src : Src K mg "life_in" s_life_in ["words", "lives"]) (d_is_word : Def P w K mg base 1 "is_word" ["thing"] S_is_word) (d_number_of : Def P w K mg base 1 "number_of" ["word"] S_number_of) (g_MOST_LIVES : ∃ t, mg "MOST_LIVES" = some (.int 8 t)) : Def P w K mg base 2 "life_in" ["words", "lives"] S_life_in := by
  obtain ⟨f_is_word, fd_is_word, G_is_word, m_is_word, k_is_word, b_is_word⟩ := d_is_word
  obtain ⟨f_number_of, fd_number_of, G_number_of, m_number_of, k_number_of, b_number_of⟩ := d_number_of
  obtain ⟨tc_MOST_LIVES, gc_MOST_LIVES⟩ := g_MOST_LIVES
  refine Def.of src sc_life_in (fun ds μ Q X h => by obtain ⟨a, rfl, _⟩ := h; rfl) fun f cdv A outer s0 H E hr tk => ?_
  refine ⟨_, (pss_cons (ps_if (PW.pt (pw_or (pt_cmpR (kNe K rfl hr.units) (pe_callB (kLen K rfl) (by rfl) B.len (by decide +kernel) (pa_cons (pv 0) pa_nil)) pe_int (nomark _)) (pw_or (pt_not (kTru K rfl (pe_callS G_is_word (hr.mono (by decide)) (by rfl) m_is_word k_is_word b_is_word (fun σ => passAt takes0 σ) (pa_cons (pe_ix (kIx K rfl) (pv 0) pe_int (fun _ _ => rfl)) pa_nil)) (by intro _; rfl))) (pw_or1 (pt_cmpR op_isN (pe_callS G_number_of (hr.mono (by decide)) (by rfl) m_number_of k_number_of b_number_of (fun σ => passAt takes0 σ) (pa_cons (pe_ix (kIx K rfl) (pv 0) pe_int (fun _ _ => rfl)) pa_nil)) pe_non (nomark _)))))) (pss_one (ps_ret pe_non)) pss_nil)
 (pss_cons (ps_if (PW.pt (pw_or (pt_cmpR (kEq K rfl hr.units) (pe_callB (kLen K rfl) (by rfl) B.len (by decide +kernel) (pa_cons (pv 1) pa_nil)) (pe_glob (v := .int 8) (by rfl) gc_MOST_LIVES ⟨_, rfl⟩) (nomark _)) (pw_or1 (pt_cmpR (kIn K rfl) (pe_ix (kIx K rfl) (pv 0) pe_int (fun _ _ => rfl)) (pe_lc (own := [("life", 2)]) rfl sc_life_in.nd (kSeq K rfl (pv 1)) (blkOk_by (own := [("life", 2)]) (N := N_life_in) (sc := defScope s_life_in) (by decide +kernel)) (fun _ _ _ _ _ => (pg_name (i := 2) sc_life_in.nd rfl (by first | exact Or.inl rfl | exact Or.inr rfl))) (fun _ _ _ _ _ => pts_nil) (fun _ _ _ _ _ => (pe_ix (kIx K rfl) (pv 2) pe_int (fun _ _ => rfl)))) (by rfl))))) (pss_one (ps_ret pe_non)) pss_nil)
 (pss_one (ps_ret (pe_tup (pa_cons (pe_ix (kIx K rfl) (pv 0) pe_int (fun _ _ => rfl)) (pa_cons (pe_callS G_number_of (hr.mono (by decide)) (by rfl) m_number_of k_number_of b_number_of (fun σ => passAt takes0 σ) (pa_cons (pe_ix (kIx K rfl) (pv 0) pe_int (fun _ _ => rfl)) pa_nil)) pa_nil))))))), ?_⟩
  rintro ds μ Q X ⟨⟨ws, ls⟩, rfl, ⟨⟨hw, hz⟩, hl⟩, q⟩
  have q : Q (olD (lifeIn ws ls)) μ := q
  have hw : ws.length ≤ 600 := hw
  have hz : ∀ z ∈ ws, z.length ≤ 600 ∧ PySem.PyData.strOk z = true := hz
  have hl : ls.length ≤ 8 := hl
  walk_at "w"
  rw [List.length_map]
  refine ⟨fun h3 => ?_, fun h3 => ?_⟩
  · have h3 : ((ws.length : Nat) : Int) = 3 := by simpa using h3
    match ws, h3 with
    | [a, n, v], _ =>
      obtain ⟨n6, nk⟩ := hz n (by simp)
      obtain ⟨v6, vk⟩ := hz v (by simp)
      walk_at "w"
      refine u_ixL (d := .str n) atI_1 ?_
      walk_at "w"
      refine ⟨⟨.str nk, by show n.length ≤ 1000; omega⟩, _, rfl, fun hi => ?_, fun hi => ?_⟩
      · have hi : isWord (.str n) = true := by simpa using hi
        walk_at "w"
        refine u_ixL (d := .str v) atI_2 ?_
        walk_at "w"
        refine ⟨⟨v6, vk⟩, ?_⟩
        cases hv : numOf v with
        | none =>
          walk_at "w"
          refine ⟨fun _ => ?_, fun h => (by cases h)⟩
          have e : lifeIn [a, n, v] ls = none := by
            show (if isWord (.str n) = true then (match numOf v with | none => none | some i => if ls.length = 8 ∨ n ∈ ls.map (·.1) then none else some (n, i)) else none) = none
            rw [if_pos hi, hv]
          rw [e] at q
          walk_at "w"
          exact q
        | some i =>
          have e : lifeIn [a, n, v] ls = if ls.length = 8 ∨ n ∈ ls.map (·.1) then none else some (n, i) := by
            show (if isWord (.str n) = true then (match numOf v with | none => none | some i => if ls.length = 8 ∨ n ∈ ls.map (·.1) then none else some (n, i)) else none) = _
            rw [if_pos hi, hv]
          rw [e] at q
          walk_at "w"
          refine ⟨fun h => (by cases h), fun _ => ?_⟩
          walk_at "w"
          rw [List.length_map]
          refine ⟨fun h8 => ?_, fun h8 => ?_⟩
          · have h8 : ¬ ls.length = 8 := fun e => of_decide_eq_false h8 (by show ((ls.length : Nat) : Int) = 8; omega)
            walk_at "w"
            refine u_ixL (d := .str n) atI_1 ?_
            refine wp_lcF ls lifeD [2] (fun y => _) (fun l => .str l.1) (by simp) (fun y _ => wpG_name) (fun y _ μ2 => ?_) ?_
            · walk_at "w"
              exact u_ixT atI_0 ⟨rfl, rfl⟩
            refine wpI_seqL ?_
            walk_at "w"
            refine ⟨rfl, by omega, ?_⟩
            rw [show (ls.map fun l => D.str l.1) = (ls.map (·.1)).map D.str from by rw [List.map_map]; rfl]
            refine u_inL .str (flt_strs _) ?_
            rw [inD_strs]
            refine ⟨_, rfl, fun hm => ?_, fun hm => ?_⟩
            · rw [if_pos (.inr (of_decide_eq_true hm))] at q
              walk_at "w"
              exact q
            · have hm := of_decide_eq_false hm
              rw [if_neg (fun k => k.elim h8 hm)] at q
              walk_at "d"
              refine u_ixL (d := .str n) atI_1 ?_
              walk_at "d"
              refine u_ixL (d := .str v) atI_2 ?_
              walk_at "w"
              refine ⟨⟨v6, vk⟩, ?_⟩
              rw [hv]
              walk_at "d"
              exact q
          · have h8 : ls.length = 8 := by have : ((ls.length : Nat) : Int) = 8 := of_decide_eq_true h8; omega
            rw [if_pos (.inl h8)] at q
            refine ⟨fun _ => ?_, fun h => (by cases h)⟩
            walk_at "w"
            exact q
      · have hi : isWord (.str n) = false := by simpa using hi
        have e : lifeIn [a, n, v] ls = none := by
          show (if isWord (.str n) = true then _ else none) = none
          rw [hi]; rfl
        rw [e] at q
        refine ⟨fun _ => ?_, fun h => (by cases h)⟩
        walk_at "w"
        exact q
  · have h3 : ¬ ((ws.length : Nat) : Int) = 3 := by simpa using h3
    have e : lifeIn ws ls = none := by
      unfold lifeIn
      match ws, h3 with
      | [], _ => rfl
      | [_], _ => rfl
      | [_, _], _ => rfl
      | [_, _, _], h3 => exact absurd rfl h3
      | _ :: _ :: _ :: _ :: _, _ => rfl
    rw [e] at q
    refine ⟨fun _ => ?_, fun h => (by cases h)⟩
    walk_at "w"
    exact q
theorem d_check_in (B : Bt mg)  (src : Src K mg "check_in" s_check_in ["words", "lives", "checks"]) (d_is_word : Def P w K mg base 1 "is_word" ["thing"] S_is_word) (d_number_of : Def P w K mg base 1 "number_of" ["word"] S_number_of) (g_MOST_CHECKS : ∃ t, mg "MOST_CHECKS" = some (.int 6 t)) : Def P w K mg base 2 "check_in" ["words", "lives", "checks"] S_check_in := by
  obtain ⟨f_is_word, fd_is_word, G_is_word, m_is_word, k_is_word, b_is_word⟩ := d_is_word
  obtain ⟨f_number_of, fd_number_of, G_number_of, m_number_of, k_number_of, b_number_of⟩ := d_number_of
  obtain ⟨tc_MOST_CHECKS, gc_MOST_CHECKS⟩ := g_MOST_CHECKS
  refine Def.of src sc_check_in (fun ds μ Q X h => by obtain ⟨a, rfl, _⟩ := h; rfl) fun f cdv A outer s0 H E hr tk => ?_
  refine ⟨_, (pss_cons (ps_setLc (i := 3) (own := [("word", 4)]) rfl sc_check_in.nd rfl rfl (sw_true rfl rfl rfl (by decide +kernel)) (kSeq K rfl (pe_slice (kSl K rfl) (pv 0) (po_some pe_int) po_none)) (blkOk_by (own := [("word", 4)]) (N := N_check_in) (sc := defScope s_check_in) (by decide +kernel)) (fun _ _ _ _ _ => (pg_name (i := 4) sc_check_in.nd rfl (by first | exact Or.inl rfl | exact Or.inr rfl))) (fun _ _ _ _ _ => pts_nil) (fun _ _ _ _ _ => (pe_callS G_number_of (hr.mono (by decide)) (by rfl) m_number_of k_number_of b_number_of (fun σ => passAt takes0 σ) (pa_cons (pv 4) pa_nil))))
 (pss_cons (ps_if (PW.pt (pw_or (pt_not (kTru K rfl (pv 1) (by intro _; rfl))) (pw_or (pt_cmpR (kNe K rfl hr.units) (pe_callB (kLen K rfl) (by rfl) B.len (by decide +kernel) (pa_cons (pv 3) pa_nil)) (pe_callB (kLen K rfl) (by rfl) B.len (by decide +kernel) (pa_cons (pv 1) pa_nil)) (nomark _)) (pw_or (pt_cmpR (kIn K rfl) pe_non (pv 3) (by rfl)) (pw_or1 (pt_not (kTru K rfl (pe_callS G_is_word (hr.mono (by decide)) (by rfl) m_is_word k_is_word b_is_word (fun σ => passAt takes0 σ) (pa_cons (pe_ix (kIx K rfl) (pv 0) pe_int (fun _ _ => rfl)) pa_nil)) (by intro _; rfl)))))))) (pss_one (ps_ret pe_non)) pss_nil)
 (pss_cons (ps_if (PW.pt (pw_or (pt_cmpR (kEq K rfl hr.units) (pe_callB (kLen K rfl) (by rfl) B.len (by decide +kernel) (pa_cons (pv 2) pa_nil)) (pe_glob (v := .int 6) (by rfl) gc_MOST_CHECKS ⟨_, rfl⟩) (nomark _)) (pw_or1 (pt_cmpR (kIn K rfl) (pe_ix (kIx K rfl) (pv 0) pe_int (fun _ _ => rfl)) (pe_lc (own := [("check", 5)]) rfl sc_check_in.nd (kSeq K rfl (pv 2)) (blkOk_by (own := [("check", 5)]) (N := N_check_in) (sc := defScope s_check_in) (by decide +kernel)) (fun _ _ _ _ _ => (pg_name (i := 5) sc_check_in.nd rfl (by first | exact Or.inl rfl | exact Or.inr rfl))) (fun _ _ _ _ _ => pts_nil) (fun _ _ _ _ _ => (pe_ix (kIx K rfl) (pv 5) pe_int (fun _ _ => rfl)))) (by rfl))))) (pss_one (ps_ret pe_non)) pss_nil)
 (pss_one (ps_ret (pe_tup (pa_cons (pe_ix (kIx K rfl) (pv 0) pe_int (fun _ _ => rfl)) (pa_cons (pe_callTy (kTuple K rfl) (by rfl) B.tuple (by decide +kernel) (pa_cons (pv 3) pa_nil)) pa_nil)))))))), ?_⟩
  rintro ds μ Q X ⟨⟨⟨a, n, r⟩, ls, cs⟩, rfl, ⟨⟨hw, hz⟩, hl, hc⟩, q⟩
  have q : Q (ocD (checkIn n r ls cs)) μ := q
  have hw : (a :: n :: r).length ≤ 600 := hw
  have hz : ∀ z ∈ a :: n :: r, z.length ≤ 600 ∧ PySem.PyData.strOk z = true := hz
  have hl : ls.length ≤ 8 := hl
  have hc : cs.length ≤ 6 := hc
  obtain ⟨n6, nk⟩ := hz n (by simp)
  have hr : r.length ≤ 600 := by rw [List.length_cons, List.length_cons] at hw; omega
  refine wpS_seq (wpS_set ?_)
  refine wp_lcF r .str [4] (fun y => _) (fun z => optD (numOf z)) (by simp) (fun y _ => wpG_name) (fun y hy μ2 => ?_) ?_
  · walk_at "w"
    exact ⟨hz y (by simp [hy]), rfl, rfl⟩
  refine wpI_seqL (wp_slice (wp_var rfl (wpO_some (wp_int ⟨_, rfl, wpO_none ⟨_, .lst, _, rfl, ?_⟩⟩))))
  refine ⟨by rw [List.map_cons, List.map_cons, cut2], by omega, ?_⟩
  rw [show (r.map fun z => optD (numOf z)) = (r.map numOf).map optD from by rw [List.map_map]; rfl]
  walk_at "w"
  have bad : (ls = [] ∨ r.length ≠ ls.length ∨ none ∈ r.map numOf ∨ isWord (.str n) = false) → Q .non μ := fun h => by
    unfold checkIn at q
    rw [if_pos h] at q
    exact q
  by_cases h1 : ls = []
  · subst h1
    refine ⟨fun h => (by cases h), fun _ => ⟨fun _ => ?_, fun h => (by cases h)⟩⟩
    walk_at "w"
    exact bad (.inl rfl)
  refine ⟨fun _ => ?_, fun h => (by cases ls with | nil => exact absurd rfl h1 | cons x y => cases h)⟩
  walk_at "w"
  rw [List.length_map, List.length_map, List.length_map]
  refine ⟨fun h2 => ?_, fun h2 => ?_⟩
  · have h2 : r.length = ls.length := by
      have : ((r.length : Nat) : Int) = ((ls.length : Nat) : Int) := by simpa using h2
      omega
    walk_at "w"
    have fl : ∀ d ∈ (r.map numOf).map optD, Flt d := fun d hd => by
      obtain ⟨o, _, rfl⟩ := List.mem_map.mp hd
      cases o
      · exact .non
      · exact .int
    refine u_inL .non fl ?_
    rw [inD_none]
    refine ⟨_, rfl, fun h3 => ?_, fun h3 => ?_⟩
    · have h3 := of_decide_eq_false h3
      walk_at "w"
      refine u_ixL (d := .str n) atI_1 ?_
      walk_at "w"
      refine ⟨⟨.str nk, by show n.length ≤ 1000; omega⟩, _, rfl, fun h4 => ?_, fun h4 => ?_⟩
      · have h4 : isWord (.str n) = false := by simpa using h4
        walk_at "w"
        exact bad (.inr (.inr (.inr h4)))
      · have h4 : isWord (.str n) = true := by simpa using h4
        have q : Q (ocD (if cs.length = 6 ∨ n ∈ cs.map (·.1) then none else some (n, (r.map numOf).map (·.getD 0)))) μ := by
          unfold checkIn at q
          rw [if_neg (fun k => by
            rcases k with k | k | k | k
            · exact h1 k
            · exact k h2
            · exact h3 k
            · rw [h4] at k; cases k)] at q
          exact q
        walk_at "w"
        rw [List.length_map]
        refine ⟨fun h6 => ?_, fun h6 => ?_⟩
        · have h6 : ¬ cs.length = 6 := fun e => of_decide_eq_false h6 (by show ((cs.length : Nat) : Int) = 6; omega)
          walk_at "w"
          refine u_ixL (d := .str n) atI_1 ?_
          refine wp_lcF cs chkD [5] (fun y => _) (fun l => .str l.1) (by simp) (fun y _ => wpG_name) (fun y _ μ2 => ?_) ?_
          · walk_at "w"
            exact u_ixT atI_0 ⟨rfl, rfl⟩
          refine wpI_seqL ?_
          walk_at "w"
          refine ⟨rfl, by omega, ?_⟩
          rw [show (cs.map fun l => D.str l.1) = (cs.map (·.1)).map D.str from by rw [List.map_map]; rfl]
          refine u_inL .str (flt_strs _) ?_
          rw [inD_strs]
          refine ⟨_, rfl, fun hm => ?_, fun hm => ?_⟩
          · rw [if_pos (.inr (of_decide_eq_true hm))] at q
            walk_at "w"
            exact q
          · have hm := of_decide_eq_false hm
            rw [if_neg (fun k => k.elim h6 hm)] at q
            walk_at "d"
            refine u_ixL (d := .str n) atI_1 ?_
            walk_at "d"
            rw [optD_all h3]
            exact q
        · have h6 : cs.length = 6 := by have : ((cs.length : Nat) : Int) = 6 := of_decide_eq_true h6; omega
          rw [if_pos (.inl h6)] at q
          refine ⟨fun _ => ?_, fun h => (by cases h)⟩
          walk_at "w"
          exact q
    · have h3 := of_decide_eq_true h3
      refine ⟨fun _ => ?_, fun h => (by cases h)⟩
      walk_at "w"
      exact bad (.inr (.inr (.inl h3)))
  · have h2 : ¬ r.length = ls.length := fun e => by
      rw [e, decide_eq_true rfl] at h2; cases h2
    refine ⟨fun _ => ?_, fun h => (by cases h)⟩
    walk_at "w"
    exact bad (.inr (.inl h2))
end
end SB

namespace SB
open PySem PySem.Spec PyProof.Rows L2
local macro_rules | `(tactic| walk_at "w1") => `(tactic| first
  | ((with_reducible refine' wp_var ?h ?_); (case h => exact rfl))
  | with_reducible refine wp_int ?_
  | with_reducible refine wp_bl ?_
  | with_reducible refine wp_str ?_
  | with_reducible refine wp_non ?_
  | with_reducible refine wp_ty ?_
  | with_reducible refine wp_ref ?_
  | with_reducible refine wp_op ?_
  | with_reducible refine wp_un ?_
  | with_reducible refine wp_cb ?_
  | with_reducible refine wpA_cons ?_
  | with_reducible refine wpA_nil ?_
  | with_reducible refine wpT_test ?_
  | with_reducible refine wpT_tru ?_
  | with_reducible refine wpT_not ?_
  | with_reducible refine wpT_and ?_
  | with_reducible refine wpT_or ?_
  | with_reducible refine wp_andV ?_
  | with_reducible refine wp_orV ?_
  | with_reducible refine wp_notV ?_
  | with_reducible refine wp_if ?_
  | with_reducible refine wp_chain ?_
  | with_reducible refine wpS_seq ?_
  | with_reducible refine wpS_ret ?_
  | with_reducible refine wpS_retN ?_
  | with_reducible refine wpS_set ?_
  | with_reducible refine wpS_if ?_
  | with_reducible refine wpS_next ?_
  | with_reducible refine wpS_par ?_
  | with_reducible refine u_add ?_
  | with_reducible refine u_sub ?_
  | with_reducible refine u_cmp ?_
  | with_reducible refine r_neg ?_
  | with_reducible refine r_isN ?_
  | with_reducible refine r_notN ?_
  | with_reducible refine r_eqI ?_
  | with_reducible refine r_neI ?_
  | with_reducible refine u_len ?_
  | with_reducible refine u_lenT ?_
  | with_reducible refine rc_abs ?_
  | with_reducible refine rc_max2 ?_
  | with_reducible refine rc_min2 ?_
  | with_reducible refine u_intI ?_
  | with_reducible refine u_intB ?_
  | with_reducible refine k_tuple ?_
  | with_reducible refine rc_all ?_
  | with_reducible refine u_anyI ?_
  | ((with_reducible refine' rc_isInt ?h ?_); (case h => first | assumption | exact .int | exact .bl | exact .non | fail "x"))
  | ((with_reducible refine' rc_isBool ?h ?_); (case h => first | assumption | exact .int | exact .bl | exact .non | fail "x"))
  | ((with_reducible refine' rc_isStr ?h ?_); (case h => first | assumption | exact .int | exact .bl | exact .non | fail "x"))
  | ((with_reducible refine' rc_isTup ?h ?_); (case h => first | assumption | exact .int | exact .bl | exact .non | fail "x"))
  | ((with_reducible refine' rc_isLst ?h ?_); (case h => first | assumption | exact .int | exact .bl | exact .non | fail "x"))
  | with_reducible refine wp_callP ?_
  | with_reducible exact ⟨rfl, rfl⟩
  | with_reducible refine ⟨_, rfl, ?_⟩)
local macro_rules | `(tactic| walk_at "w") => `(tactic| (repeat (walk_at "w1")))
theorem and_size_Read {xs : List D} {p : Prop} (h : decide (xs.length ≤ sizeLine) = true) (hp : p) : xs.length ≤ sizeLine ∧ p := ⟨of_decide_eq_true h, hp⟩
local macro_rules | `(tactic| walk_at "d1") => `(tactic| first
  | walk_at "w1"
  | with_reducible refine wp_tup ?_
  | with_reducible refine wp_lst ?_
  | ((with_reducible refine' and_size_Read ?h ?_); (case h => rfl)))
local macro_rules | `(tactic| walk_at "d") => `(tactic| (repeat (walk_at "d1")))
/-! ### reading -/
def chkStep (st : Dk) : List Str → Option Dk
  | [] => none
  | n :: vs => (checkIn n vs st.ls st.cs).map fun c => ⟨st.ls, st.cs ++ [c]⟩
def stepL (st : Dk) (ws : List Str) : Option Dk := match ws with
  | [] => none
  | a :: r => if a = "life" ∧ st.cs = [] then (lifeIn (a :: r) st.ls).map fun l => ⟨st.ls ++ [l], st.cs⟩
    else if a = "check" then chkStep st r else none
def readAt : Nat → Dk → List (List Str) → Except Nat Dk
  | _, st, [] => .ok st
  | i, st, ws :: r => match stepL st ws with
    | none => Except.error (i + 1)
    | some st' => readAt (i + 1) st' r
def linesOf (z : Str) : List (List Str) := (Txt.split z "\n").map fun l => Txt.split l " "
theorem split_ne (a b : Str) : Txt.split a b ≠ [] := by
  unfold Txt.split
  split
  · simp
  · split
    · simp
    · unfold Builtin.Str.partsBetween
      simp
structure StOk (k : Dk) : Prop where
  n8 : k.ls.length ≤ 8
  lw : ∀ l ∈ k.ls, isWord (.str l.1) = true
  ln : (k.ls.map (·.1)).Nodup
  lg : ∀ l ∈ k.ls, -9 ≤ l.2 ∧ l.2 ≤ 9
  c6 : k.cs.length ≤ 6
  cw : ∀ c ∈ k.cs, isWord (.str c.1) = true
  cd : (k.cs.map (·.1)).Nodup
  cn : ∀ c ∈ k.cs, c.2.length = k.ls.length ∧ ∀ n ∈ c.2, -9 ≤ n ∧ n ≤ 9
theorem StOk.ok {k : Dk} (h : StOk k) (n1 : 1 ≤ k.ls.length) : k.Ok := ⟨n1, h.n8, h.lw, h.ln, h.lg, h.c6, h.cw, h.cd, h.cn⟩
theorem stOk_none : StOk ⟨[], []⟩ := ⟨by decide, fun l h => (by cases h), by decide, fun l h => (by cases h), by decide, fun l h => (by cases h), by decide, fun l h => (by cases h)⟩
theorem numOf_in {z : Str} {i : Int} (h : numOf z = some i) : -9 ≤ i ∧ i ≤ 9 := by
  unfold numOf at h
  split at h
  · split at h
    · cases h; omega
    · cases h
  · split at h
    · cases h; omega
    · cases h
  · cases h
theorem nodup_snoc {α : Type} {xs : List α} {x : α} (h : xs.Nodup) (n : x ∉ xs) : (xs ++ [x]).Nodup :=
  List.nodup_append.mpr ⟨h, by simp, fun a ha b hb e => by rw [List.mem_singleton] at hb; subst hb; subst e; exact n ha⟩
theorem lifeIn_some {ws : List Str} {ls : List Life} {l : Life} (h : lifeIn ws ls = some l) : isWord (.str l.1) = true ∧ (-9 ≤ l.2 ∧ l.2 ≤ 9) ∧ ls.length ≠ 8 ∧ l.1 ∉ ls.map (·.1) := by
  unfold lifeIn at h
  split at h
  · split at h
    · rename_i hw
      split at h
      · cases h
      · rename_i hv
        split at h
        · cases h
        · rename_i hc
          cases h
          exact ⟨hw, numOf_in hv, fun e => hc (.inl e), fun e => hc (.inr e)⟩
    · cases h
  · cases h
theorem checkIn_some {n : Str} {r : List Str} {ls : List Life} {cs : List Chk} {c : Chk} (h : checkIn n r ls cs = some c) : ls ≠ [] ∧ isWord (.str c.1) = true ∧ (c.2.length = ls.length ∧ ∀ n ∈ c.2, -9 ≤ n ∧ n ≤ 9) ∧ cs.length ≠ 6 ∧ c.1 ∉ cs.map (·.1) := by
  unfold checkIn at h
  split at h
  · cases h
  · rename_i h1
    split at h
    · cases h
    · rename_i h2
      cases h
      refine ⟨fun e => h1 (.inl e), ?_, ⟨?_, fun v hv => ?_⟩, fun e => h2 (.inl e), fun e => h2 (.inr e)⟩
      · cases hw : isWord (.str n) with
        | true => rfl
        | false => exact absurd (.inr (.inr (.inr hw))) h1
      · show ((r.map numOf).map (·.getD 0)).length = _
        rw [List.length_map, List.length_map]
        exact Classical.byContradiction fun e => h1 (.inr (.inl e))
      · obtain ⟨o, ho, rfl⟩ := List.mem_map.mp hv
        cases o with
        | none => exact absurd (.inr (.inr (.inl ho))) h1
        | some i =>
          obtain ⟨z, _, hz⟩ := List.mem_map.mp ho
          exact numOf_in hz
theorem stepL_ok {st st' : Dk} {ws : List Str} (h : StOk st) (e : stepL st ws = some st') : StOk st' ∧ 1 ≤ st'.ls.length := by
  unfold stepL at e
  split at e
  · cases e
  · split at e
    · rename_i hc
      rw [Option.map_eq_some_iff] at e
      obtain ⟨l, hl, rfl⟩ := e
      obtain ⟨h1, h2, h3, h4⟩ := lifeIn_some hl
      have n8 := h.n8
      refine ⟨⟨?_, ?_, ?_, ?_, h.c6, h.cw, h.cd, ?_⟩, ?_⟩
      · show (st.ls ++ [l]).length ≤ 8
        rw [List.length_append]; show st.ls.length + 1 ≤ 8; omega
      · intro x hx
        rcases List.mem_append.mp hx with hx | hx
        · exact h.lw x hx
        · rw [List.mem_singleton] at hx; subst hx; exact h1
      · show ((st.ls ++ [l]).map (·.1)).Nodup
        rw [List.map_append]
        exact nodup_snoc h.ln h4
      · intro x hx
        rcases List.mem_append.mp hx with hx | hx
        · exact h.lg x hx
        · rw [List.mem_singleton] at hx; subst hx; exact h2
      · intro c hc'
        have hc' : c ∈ st.cs := hc'
        rw [hc.2] at hc'; cases hc'
      · show 1 ≤ (st.ls ++ [l]).length
        rw [List.length_append]; show 1 ≤ st.ls.length + 1; omega
    · split at e
      · unfold chkStep at e
        split at e
        · cases e
        · rw [Option.map_eq_some_iff] at e
          obtain ⟨c, hc, rfl⟩ := e
          obtain ⟨h0, h1, h2, h3, h4⟩ := checkIn_some hc
          have c6 := h.c6
          refine ⟨⟨h.n8, h.lw, h.ln, h.lg, ?_, ?_, ?_, ?_⟩, ?_⟩
          · show (st.cs ++ [c]).length ≤ 6
            rw [List.length_append]; show st.cs.length + 1 ≤ 6; omega
          · intro x hx
            rcases List.mem_append.mp hx with hx | hx
            · exact h.cw x hx
            · rw [List.mem_singleton] at hx; subst hx; exact h1
          · show ((st.cs ++ [c]).map (·.1)).Nodup
            rw [List.map_append]
            exact nodup_snoc h.cd h4
          · intro x hx
            rcases List.mem_append.mp hx with hx | hx
            · exact h.cn x hx
            · rw [List.mem_singleton] at hx; subst hx; exact h2
          · exact List.length_pos_iff.mpr h0
      · cases e
theorem readAt_app {i : Nat} {st : Dk} {ls : List (List Str)} : ∀ {ms : List (List Str)} {j : Nat} {s0 : Dk}, readAt j s0 ls = .ok st → i = j + ls.length → readAt j s0 (ls ++ ms) = readAt i st ms := by
  induction ls with
  | nil =>
    intro ms j s0 h e
    cases h
    rw [show i = j from e]; rfl
  | cons l ls ih =>
    intro ms j s0 h e
    show (match stepL s0 l with | none => Except.error (j + 1) | some st' => readAt (j + 1) st' (ls ++ ms)) = _
    have h : (match stepL s0 l with | none => Except.error (j + 1) | some st' => readAt (j + 1) st' ls) = .ok st := h
    cases hs : stepL s0 l with
    | none => rw [hs] at h; cases h
    | some s1 =>
      rw [hs] at h
      exact ih h (by rw [List.length_cons] at e; omega)
abbrev S_read (C CL : Addr) : DSp := fun ds μ P X => ∃ z : Str, ds = [.str z] ∧ (z.length ≤ 100000 ∧ ∀ l ∈ Txt.split z "\n", l.length ≤ 100000 ∧ WordsOk (Txt.split l " ")) ∧
  (∀ k, readAt 0 ⟨[], []⟩ (linesOf z) = .ok k → k.Ok → P (k.d C) μ) ∧ ∀ n : Nat, readAt 0 ⟨[], []⟩ (linesOf z) = .error n → X ⟨.ref CL, some [("line", .int (n : Nat))]⟩ μ
section
variable {P : Program} {w : World} {K : PySem.W.Frag} {mg : Str → Option Value} {base : Heap} {C_Desk C_BadDesk C_BadLine f_BadLine : Addr}
theorem d_read (B : Bt mg) (T_Desk : DeskF K mg C_Desk) (T_BadLine : PySem.LowX.LowTxt K mg C_BadLine f_BadLine) (src : Src K mg "read" s_read ["text"]) (d_Desk___init__ : DefI P w K mg base C_Desk 5 ["self", "lives", "checks"] (S_Desk___init__ C_Desk C_BadDesk)) (d_check_in : Def P w K mg base 2 "check_in" ["words", "lives", "checks"] S_check_in) (d_life_in : Def P w K mg base 2 "life_in" ["words", "lives"] S_life_in) : Def P w K mg base 7 "read" ["text"] (S_read C_Desk C_BadLine) := by
  obtain ⟨f_Desk___init__, fd_Desk___init__, G_Desk___init__, M_Desk___init__, b_Desk___init__⟩ := d_Desk___init__
  obtain ⟨f_check_in, fd_check_in, G_check_in, m_check_in, k_check_in, b_check_in⟩ := d_check_in
  obtain ⟨f_life_in, fd_life_in, G_life_in, m_life_in, k_life_in, b_life_in⟩ := d_life_in
  refine Def.of src sc_read (fun ds μ Q X h => by obtain ⟨a, rfl, _⟩ := h; rfl) fun f cdv A outer s0 H E hr tk => ?_
  refine ⟨_, (pss_cons (ps_set (i := 1) sc_read.nd rfl (by first | exact Or.inl rfl | exact Or.inr rfl) (pe_lst pa_nil))
 (pss_cons (ps_set (i := 2) sc_read.nd rfl (by first | exact Or.inl rfl | exact Or.inr rfl) (pe_lst pa_nil))
 (pss_cons (ps_set (i := 3) sc_read.nd rfl (by first | exact Or.inl rfl | exact Or.inr rfl) (pe_split (pv 0) pe_str))
 (pss_cons (ps_for (passes_of rfl) rfl (kEnum K rfl (by rfl) B.enumerate (pa_cons (pv 3) pa_nil)) (kTup (n := 2) K rfl rfl (pgs_cons (pg_name (i := 4) sc_read.nd rfl (by first | exact Or.inl rfl | exact Or.inr rfl)) (pgs_cons (pg_name (i := 5) sc_read.nd rfl (by first | exact Or.inl rfl | exact Or.inr rfl)) pgs_nil))) (pss_cons (ps_set (i := 6) sc_read.nd rfl (by first | exact Or.inl rfl | exact Or.inr rfl) (pe_split (pv 5) pe_str))
 (pss_cons (ps_set (i := 7) sc_read.nd rfl (by first | exact Or.inl rfl | exact Or.inr rfl) pe_non)
 (pss_cons (ps_if (PW.pt (pw_and (pt_cmpR (kEq K rfl hr.units) (pe_ix (kIx K rfl) (pv 6) pe_int (fun _ _ => rfl)) pe_str (nomark _)) (pw_and1 (pt_not (kTru K rfl (pv 2) (by intro _; rfl)))))) (pss_cons (ps_set (i := 7) sc_read.nd rfl (by first | exact Or.inl rfl | exact Or.inr rfl) (pe_callS G_life_in (hr.mono (by decide)) (by rfl) m_life_in k_life_in b_life_in (fun σ => passAt takes0 σ) (pa_cons (pv 6) (pa_cons (pv 1) pa_nil))))
 (pss_one (ps_set (i := 1) sc_read.nd rfl (by first | exact Or.inl rfl | exact Or.inr rfl) (pe_op (kAdd K rfl) (pv 1) (pe_lst (pa_cons (pv 7) pa_nil)))))) (pss_one (ps_if (PW.pt (pw_and (pt_cmpR (kEq K rfl hr.units) (pe_ix (kIx K rfl) (pv 6) pe_int (fun _ _ => rfl)) pe_str (nomark _)) (pw_and1 (pt_cmpR op_gt (pe_callB (kLen K rfl) (by rfl) B.len (by decide +kernel) (pa_cons (pv 6) pa_nil)) pe_int (nomark _))))) (pss_cons (ps_set (i := 7) sc_read.nd rfl (by first | exact Or.inl rfl | exact Or.inr rfl) (pe_callS G_check_in (hr.mono (by decide)) (by rfl) m_check_in k_check_in b_check_in (fun σ => passAt takes0 σ) (pa_cons (pv 6) (pa_cons (pv 1) (pa_cons (pv 2) pa_nil)))))
 (pss_one (ps_set (i := 2) sc_read.nd rfl (by first | exact Or.inl rfl | exact Or.inr rfl) (pe_op (kAdd K rfl) (pv 2) (pe_lst (pa_cons (pv 7) pa_nil)))))) pss_nil)))
 (pss_one (ps_if (pt_cmpR op_isN (pv 7) pe_non (nomark _)) (pss_one (ps_raiseLow (k := 3) rfl T_BadLine (hr.mono (by decide)) tk (pa_cons (pe_op (kAdd K rfl) (pv 4) pe_int) pa_nil))) pss_nil))))))
 (pss_one (ps_ret (pe_makeS M_Desk___init__ G_Desk___init__ (hr.mono (by decide)) (by rfl) T_Desk.mgC b_Desk___init__ (fun σ => passAt tk σ) (pa_cons (pe_callTy (kTuple K rfl) (by rfl) B.tuple (by decide +kernel) (pa_cons (pv 1) pa_nil)) (pa_cons (pe_callTy (kTuple K rfl) (by rfl) B.tuple (by decide +kernel) (pa_cons (pv 2) pa_nil)) pa_nil))))))))), ?_⟩
  rintro ds μ Q X ⟨z, rfl, ⟨hz, hw⟩, qt, qf⟩
  have hw : ∀ l ∈ Txt.split z "\n", l.length ≤ 100000 ∧ WordsOk (Txt.split l " ") := hw
  have hz : z.length ≤ 100000 := hz
  have sz : ∀ n : Nat, n ≤ 100000 → n + 2 ≤ sizeLine := fun n hn => Nat.le_trans (Nat.add_le_add_right hn 2) (by decide)
  refine wpS_seq (wpS_set (wp_lst (wpA_nil ⟨by show 0 ≤ sizeLine; decide, ?_⟩)))
  refine wpS_seq (wpS_set (wp_lst (wpA_nil ⟨by show 0 ≤ sizeLine; decide, ?_⟩)))
  refine wpS_seq (wpS_set (wp_split (wp_var rfl ⟨z, rfl, wp_str ⟨_, rfl, by decide, sz _ hz, ?_⟩⟩)))
  generalize hls : Txt.split z "\n" = ls at hw
  have hls2 : linesOf z = ls.map fun l => Txt.split l " " := by unfold linesOf; rw [hls]
  refine wpS_seq (wpS_for (wpI_enum (wpA_cons (wp_var rfl (wpA_nil ⟨_, rfl, fun i ρ μ' => μ' = μ ∧ ∃ st x4 x5 x6 x7, ρ = [some (.str z), some (.lst (st.ls.map lifeD)), some (.lst (st.cs.map chkD)), some (.lst (ls.map .str)), x4, x5, x6, x7] ∧
    StOk st ∧ (0 < i → 1 ≤ st.ls.length) ∧ readAt 0 ⟨[], []⟩ ((ls.take i).map fun l => Txt.split l " ") = .ok st, ⟨rfl, ⟨[], []⟩, none, none, none, none, rfl, stOk_none, fun h => absurd h (Nat.lt_irrefl _), rfl⟩, ?_, ?_⟩)))))
  · rintro i x ρ μ' hx ⟨rfl, st, x4, x5, x6, x7, rfl, ok, _, hr⟩
    have hi : i < ls.length := by
      have := (List.getElem?_eq_some_iff.mp hx).1
      rw [enumD_len, List.length_map] at this
      exact this
    rw [enumD_get (x := .str ls[i]) (by rw [List.getElem?_map, List.getElem?_eq_getElem hi]; rfl)] at hx
    cases hx
    refine ⟨[4, 5], _, wpG_pair, ?_⟩
    obtain ⟨l6, wk⟩ := hw ls[i] (List.getElem_mem hi)
    have n8 := ok.n8
    have c6 := ok.c6
    refine wpS_seq (wpS_set (wp_split (wp_var rfl ⟨ls[i], rfl, wp_str ⟨_, rfl, by decide, sz _ l6, ?_⟩⟩)))
    have hl : linesOf z = ((ls.take i).map fun l => Txt.split l " ") ++ Txt.split ls[i] " " :: ((ls.drop (i + 1)).map fun l => Txt.split l " ") := by
      rw [hls2]
      show _ = _ ++ List.map (fun l => Txt.split l " ") (ls[i] :: ls.drop (i + 1))
      rw [← List.map_append, ← List.drop_eq_getElem_cons hi, List.take_append_drop]
    have hall : readAt 0 ⟨[], []⟩ (linesOf z) = readAt i st (Txt.split ls[i] " " :: ((ls.drop (i + 1)).map fun l => Txt.split l " ")) := by
      rw [hl]
      exact readAt_app hr (by rw [List.length_map, List.length_take]; omega)
    have hnext : ∀ st', stepL st (Txt.split ls[i] " ") = some st' → readAt 0 ⟨[], []⟩ ((ls.take (i + 1)).map fun l => Txt.split l " ") = .ok st' := fun st' e => by
      rw [take_snoc hi, List.map_append, readAt_app hr (i := i) (by rw [List.length_map, List.length_take]; omega)]
      show (match stepL st (Txt.split ls[i] " ") with | none => Except.error (i + 1) | some st' => readAt (i + 1) st' []) = _
      rw [e]; rfl
    have hbad : stepL st (Txt.split ls[i] " ") = none → X ⟨.ref C_BadLine, some [("line", .int ((i : Nat) + 1))]⟩ μ' := fun e => by
      refine qf (i + 1) ?_
      rw [hall]
      show (match stepL st (Txt.split ls[i] " ") with | none => Except.error (i + 1) | some st' => readAt (i + 1) st' _) = _
      rw [e]
    have hgood : ∀ st', stepL st (Txt.split ls[i] " ") = some st' → StOk st' ∧ 1 ≤ st'.ls.length := fun st' e => stepL_ok ok e
    generalize hws : Txt.split ls[i] " " = ws at wk hnext hbad hgood
    clear hall hl
    have hne : ws ≠ [] := by rw [← hws]; exact split_ne _ _
    obtain ⟨a, r, rfl⟩ : ∃ a r, ws = a :: r := by
      cases ws with
      | nil => exact absurd rfl hne
      | cons a r => exact ⟨a, r, rfl⟩
    have ak := wk.2 a List.mem_cons_self
    refine wpS_seq (wpS_set (wp_non ?_))
    have e1 : stepL st (a :: r) = if a = "life" ∧ st.cs = [] then (lifeIn (a :: r) st.ls).map (fun l => (⟨st.ls ++ [l], st.cs⟩ : Dk)) else if a = "check" then chkStep st r else none := rfl
    refine wpS_seqC (fun ρ μ2 => μ2 = μ' ∧ ∃ l c f, ρ = [some (.str z), some l, some c, some (.lst (ls.map .str)), some (.int (i : Nat)), some (.str ls[i]), some (.lst ((a :: r).map .str)), some f] ∧
      ((isNon f = true ∧ stepL st (a :: r) = none) ∨ (isNon f = false ∧ ∃ st', stepL st (a :: r) = some st' ∧ l = .lst (st'.ls.map lifeD) ∧ c = .lst (st'.cs.map chkD)))) ?_ ?_
    · refine wpS_if ?_
      walk_at "w"
      refine u_ixL (d := .str a) atI_0 ?_
      walk_at "w"
      refine r_eqS ak.2 (by decide +kernel) ?_
      refine ⟨_, rfl, fun hl => ?_, fun hl => ?_⟩
      · have hl := of_decide_eq_true hl
        walk_at "w"
        refine ⟨fun hc => ?_, fun hc => ?_⟩
        · have hc : st.cs = [] := by
            cases h : st.cs with
            | nil => rfl
            | cons x y => rw [h] at hc; cases hc
          rw [if_pos ⟨hl, hc⟩] at e1
          walk_at "w"
          refine ⟨(a :: r, st.ls), rfl, ⟨wk, n8⟩, ?_⟩
          walk_at "d"
          refine u_cat (by rw [List.length_map]; exact Nat.le_trans (show st.ls.length + 1 ≤ 9 by omega) (by decide)) ?_
          refine ⟨rfl, _, _, _, rfl, ?_⟩
          cases hf : lifeIn (a :: r) st.ls with
          | none => exact .inl ⟨rfl, by rw [e1, hf]; rfl⟩
          | some l => exact .inr ⟨rfl, ⟨st.ls ++ [l], st.cs⟩, by rw [e1, hf]; rfl, by rw [List.map_append]; rfl, rfl⟩
        · have hc : st.cs ≠ [] := fun h => by rw [h] at hc; cases hc
          rw [if_neg (fun k => hc k.2), if_neg (fun k => by rw [hl] at k; exact absurd k (by decide +kernel))] at e1
          refine wpS_if ?_
          walk_at "w"
          refine u_ixL (d := .str a) atI_0 ?_
          walk_at "w"
          refine r_eqS ak.2 (by decide +kernel) ?_
          walk_at "w"
          refine ⟨fun h => ?_, fun _ => ?_⟩
          · have h := of_decide_eq_true h
            rw [hl] at h; exact absurd h (by decide +kernel)
          · refine ⟨fun h => (by cases h), fun _ => ?_⟩
            walk_at "w"
            exact ⟨rfl, _, _, _, rfl, .inl ⟨rfl, e1⟩⟩
      · have hl := of_decide_eq_false hl
        rw [if_neg (fun k => hl k.1)] at e1
        refine ⟨fun h => (by cases h), fun _ => ?_⟩
        refine wpS_if ?_
        walk_at "w"
        refine u_ixL (d := .str a) atI_0 ?_
        walk_at "w"
        refine r_eqS ak.2 (by decide +kernel) ?_
        refine ⟨_, rfl, fun h => ?_, fun h => ?_⟩
        · have h := of_decide_eq_true h
          rw [if_pos h] at e1
          walk_at "w"
          rw [List.length_map]
          cases r with
          | nil =>
            refine ⟨fun h => (by cases h), fun _ => ?_⟩
            walk_at "w"
            exact ⟨rfl, _, _, _, rfl, .inl ⟨rfl, e1⟩⟩
          | cons n vs =>
            refine ⟨fun _ => ?_, fun h => ?_⟩
            · walk_at "w"
              refine ⟨((a, n, vs), st.ls, st.cs), rfl, ⟨wk, n8, c6⟩, ?_⟩
              walk_at "d"
              refine u_cat (by rw [List.length_map]; exact Nat.le_trans (show st.cs.length + 1 ≤ 9 by omega) (by decide)) ?_
              refine ⟨rfl, _, _, _, rfl, ?_⟩
              have e1 : stepL st (a :: n :: vs) = (checkIn n vs st.ls st.cs).map fun c => (⟨st.ls, st.cs ++ [c]⟩ : Dk) := e1
              show (isNon (ocD (checkIn n vs st.ls st.cs)) = true ∧ _) ∨ (isNon (ocD (checkIn n vs st.ls st.cs)) = false ∧ _)
              cases hf : checkIn n vs st.ls st.cs with
              | none => exact .inl ⟨rfl, by rw [e1, hf]; rfl⟩
              | some c => exact .inr ⟨rfl, ⟨st.ls, st.cs ++ [c]⟩, by rw [e1, hf]; rfl, rfl, by rw [List.map_append]; rfl⟩
            · have h := of_decide_eq_false h
              have : (a :: n :: vs).length = vs.length + 2 := rfl
              omega
        · have h := of_decide_eq_false h
          rw [if_neg h] at e1
          refine ⟨fun h => (by cases h), fun _ => ?_⟩
          walk_at "w"
          exact ⟨rfl, _, _, _, rfl, .inl ⟨rfl, e1⟩⟩
    · rintro ρ μ2 ⟨rfl, l, c, f, rfl, hf⟩
      refine wpS_if ?_
      walk_at "w"
      rcases hf with ⟨hn, hs⟩ | ⟨hn, st', hs, rfl, rfl⟩
      · rw [hn]
        refine ⟨fun _ => ?_, fun h => (by cases h)⟩
        refine wpS_raiseLow ?_
        walk_at "w"
        exact hbad hs
      · rw [hn]
        refine ⟨fun h => (by cases h), fun _ => ?_⟩
        obtain ⟨g1, g2⟩ := hgood st' hs
        walk_at "w"
        exact ⟨rfl, st', _, _, _, _, rfl, g1, fun _ => g2, hnext st' hs⟩
  · rintro ρ μ' ⟨rfl, st, x4, x5, x6, x7, rfl, ok, h1, hr⟩
    rw [enumD_len, List.length_map] at h1 hr
    rw [List.take_of_length_le (Nat.le_refl _), ← hls2] at hr
    have hne : ls ≠ [] := by rw [← hls]; exact split_ne _ _
    have ok' := ok.ok (h1 (List.length_pos_iff.mpr hne))
    refine wpS_ret (wp_newDeskOk (fun _ => rfl) ?_)
    walk_at "w"
    exact ⟨ok', qt st hr ok'⟩
end
end SB

namespace SB
open PySem PySem.Spec PyProof.Rows L2
local macro_rules | `(tactic| walk_at "w1") => `(tactic| first
  | ((with_reducible refine' wp_var ?h ?_); (case h => exact rfl))
  | with_reducible refine wp_int ?_
  | with_reducible refine wp_bl ?_
  | with_reducible refine wp_str ?_
  | with_reducible refine wp_non ?_
  | with_reducible refine wp_ty ?_
  | with_reducible refine wp_ref ?_
  | with_reducible refine wp_op ?_
  | with_reducible refine wp_un ?_
  | with_reducible refine wp_cb ?_
  | with_reducible refine wpA_cons ?_
  | with_reducible refine wpA_nil ?_
  | with_reducible refine wpT_test ?_
  | with_reducible refine wpT_tru ?_
  | with_reducible refine wpT_not ?_
  | with_reducible refine wpT_and ?_
  | with_reducible refine wpT_or ?_
  | with_reducible refine wp_andV ?_
  | with_reducible refine wp_orV ?_
  | with_reducible refine wp_notV ?_
  | with_reducible refine wp_if ?_
  | with_reducible refine wp_chain ?_
  | with_reducible refine wpS_seq ?_
  | with_reducible refine wpS_ret ?_
  | with_reducible refine wpS_retN ?_
  | with_reducible refine wpS_set ?_
  | with_reducible refine wpS_if ?_
  | with_reducible refine wpS_next ?_
  | with_reducible refine wpS_par ?_
  | with_reducible refine u_add ?_
  | with_reducible refine u_sub ?_
  | with_reducible refine u_cmp ?_
  | with_reducible refine r_neg ?_
  | with_reducible refine r_isN ?_
  | with_reducible refine r_notN ?_
  | with_reducible refine r_eqI ?_
  | with_reducible refine r_neI ?_
  | with_reducible refine u_len ?_
  | with_reducible refine u_lenT ?_
  | with_reducible refine rc_abs ?_
  | with_reducible refine rc_max2 ?_
  | with_reducible refine rc_min2 ?_
  | with_reducible refine u_intI ?_
  | with_reducible refine u_intB ?_
  | with_reducible refine k_tuple ?_
  | with_reducible refine rc_all ?_
  | with_reducible refine u_anyI ?_
  | ((with_reducible refine' rc_isInt ?h ?_); (case h => first | assumption | exact .int | exact .bl | exact .non | fail "x"))
  | ((with_reducible refine' rc_isBool ?h ?_); (case h => first | assumption | exact .int | exact .bl | exact .non | fail "x"))
  | ((with_reducible refine' rc_isStr ?h ?_); (case h => first | assumption | exact .int | exact .bl | exact .non | fail "x"))
  | ((with_reducible refine' rc_isTup ?h ?_); (case h => first | assumption | exact .int | exact .bl | exact .non | fail "x"))
  | ((with_reducible refine' rc_isLst ?h ?_); (case h => first | assumption | exact .int | exact .bl | exact .non | fail "x"))
  | with_reducible refine wp_callP ?_
  | with_reducible exact ⟨rfl, rfl⟩
  | with_reducible refine ⟨_, rfl, ?_⟩)
local macro_rules | `(tactic| walk_at "w") => `(tactic| (repeat (walk_at "w1")))
theorem and_size_K09 {xs : List D} {p : Prop} (h : decide (xs.length ≤ sizeLine) = true) (hp : p) : xs.length ≤ sizeLine ∧ p := ⟨of_decide_eq_true h, hp⟩
local macro_rules | `(tactic| walk_at "d1") => `(tactic| first
  | walk_at "w1"
  | with_reducible refine wp_tup ?_
  | with_reducible refine wp_lst ?_
  | ((with_reducible refine' and_size_K09 ?h ?_); (case h => rfl)))
local macro_rules | `(tactic| walk_at "d") => `(tactic| (repeat (walk_at "d1")))
abbrev s__law_told : Stmt := (top 26)
abbrev N__law_told : List Str := ["_law_text", "_law_told_here", "e"]
theorem sc__law_told : FnScope N__law_told ["_law_text"] (defScope s__law_told) := ⟨rfl, rfl, rfl, by decide +kernel, rfl, by decide +kernel, by decide +kernel⟩
abbrev s_law : Stmt := (top 27)
abbrev N_law : List Str := ["_law_script", "_law_draws", "_law_many", "_law_size", "_law_lines", "_law_row", "_law_odd", "_law_at", "_law_bad", "_law_spoilt", "_law_k"]
theorem sc_law : FnScope N_law ["_law_script"] (defScope s_law) := ⟨rfl, rfl, rfl, by decide +kernel, rfl, by decide +kernel, by decide +kernel⟩
/-! ### a text read back -/
theorem tz_app (a b : Str) : tz (a ++ b) = tz a ++ tz b := TL.tl_append a b
theorem tz_empty : tz Str.empty = [] := by decide +kernel
theorem empty_app (a : Str) : Str.empty ++ a = a := str_ext (by rw [tz_app, tz_empty, List.nil_append])
theorem app_assoc (a b c : Str) : (a ++ b) ++ c = a ++ (b ++ c) := str_ext (by rw [tz_app, tz_app, tz_app, tz_app, List.append_assoc])
abbrev numT (i : Int) : Str := Str.ofString (toString i)
theorem num_plain {i : Int} (h : -9 ≤ i ∧ i ≤ 9) : (∀ c ∈ tz (numT i), 33 ≤ c ∧ c < 128) ∧ numOf (numT i) = some i := by
  have hh : ∀ n ∈ List.range 19, (∀ c ∈ tz (numT ((n : Int) - 9)), 33 ≤ c ∧ c < 128) ∧ numOf (numT ((n : Int) - 9)) = some ((n : Int) - 9) := by decide +kernel
  have := hh (i + 9).toNat (List.mem_range.mpr (by omega))
  rw [show (((i + 9).toNat : Nat) : Int) - 9 = i by omega] at this
  exact this
theorem small_plain : ∀ c ∈ SMALL.cps.toList, 33 ≤ c ∧ c < 128 := by decide +kernel
theorem word_plain {s : Str} (h : isWord (.str s) = true) : ∀ c ∈ tz s, 33 ≤ c ∧ c < 128 := by
  unfold isWord at h
  simp only [Bool.and_eq_true, decide_eq_true_eq] at h
  obtain ⟨_, _, h3⟩ := h
  intro c hc
  exact small_plain c (of_decide_eq_true (List.all_eq_true.mp h3 c hc))
theorem life_plain : ∀ c ∈ tz "life", 33 ≤ c ∧ c < 128 := by decide +kernel
theorem check_plain : ∀ c ∈ tz "check", 33 ≤ c ∧ c < 128 := by decide +kernel
/-- words as the program writes them -/
def lifeWs (l : Life) : List Str := ["life", l.1, numT l.2]
def chkWs (c : Chk) : List Str := "check" :: c.1 :: c.2.map numT
def PlainW (ws : List Str) : Prop := ws ≠ [] ∧ ws.length ≤ 600 ∧ ∀ z ∈ ws, z.length ≤ 600 ∧ ∀ c ∈ tz z, 33 ≤ c ∧ c < 128
abbrev lineS (ws : List Str) : Str := Txt.join " " ws
theorem join3 (a b c : Str) : Txt.join " " [a, b, c] = (((a ++ " ") ++ b) ++ " ") ++ c := by
  rw [TL.join_eq]
  show a ++ " " ++ (b ++ " " ++ c) = _
  simp only [app_assoc]
theorem lifeLine_eq (l : Life) : lifeLine l = lineS (lifeWs l) := by
  unfold lifeLine lineS lifeWs
  rw [join3, empty_app, show ("life" : Str) ++ " " = "life " by decide +kernel]
theorem chkLine_eq (c : Chk) : chkLine c = lineS (chkWs c) := rfl
theorem blank_tl : TL.tl " " = 32 :: [] := by decide +kernel
theorem feed_tl : TL.tl "\n" = 10 :: [] := by decide +kernel
theorem split_line {ws : List Str} (h : PlainW ws) : Txt.split (lineS ws) " " = ws :=
  TL.split_join blank_tl (by decide +kernel) h.1 fun p hp hc => by have := (h.2.2 p hp).2 32 hc; omega
theorem strOk_plain {z : Str} (h : ∀ c ∈ tz z, 33 ≤ c ∧ c < 128) : PySem.PyData.strOk z = true := by
  rw [strOk_tz, List.all_eq_true]
  exact fun c hc => decide_eq_true (by have := h c hc; omega)
theorem PlainW.ok {ws : List Str} (h : PlainW ws) : WordsOk ws := ⟨h.2.1, fun z hz => ⟨(h.2.2 z hz).1, strOk_plain (h.2.2 z hz).2⟩⟩
theorem tl_joinL : ∀ (y : List Nat) (ps : List (List Nat)) (c : Nat), c ∈ TL.joinL y ps → c ∈ y ∨ ∃ p ∈ ps, c ∈ p
  | y, [], c, h => by cases h
  | y, [p], c, h => .inr ⟨p, by simp, h⟩
  | y, p :: q :: r, c, h => by
    have h : c ∈ p ++ (y ++ TL.joinL y (q :: r)) := h
    rcases List.mem_append.mp h with h | h
    · exact .inr ⟨p, by simp, h⟩
    · rcases List.mem_append.mp h with h | h
      · exact .inl h
      · rcases tl_joinL y (q :: r) c h with h | ⟨x, hx, h⟩
        · exact .inl h
        · exact .inr ⟨x, List.mem_cons_of_mem _ hx, h⟩
theorem line_free {ws : List Str} (h : ∀ z ∈ ws, ∀ c ∈ tz z, c ≠ 10) : 10 ∉ tz (lineS ws) := fun hc => by
  have e : tz (lineS ws) = TL.joinL (TL.tl " ") (ws.map TL.tl) := by
    show TL.tl (Txt.join " " ws) = _
    rw [TL.join_eq, TL.tl_join]
  rw [e] at hc
  rcases tl_joinL _ _ _ hc with hc | ⟨p, hp, hc⟩
  · rw [blank_tl] at hc; simp at hc
  · obtain ⟨z, hz, rfl⟩ := List.mem_map.mp hp
    exact h z hz 10 hc rfl
theorem split_text {ls : List Str} (hne : ls ≠ []) (h : ∀ l ∈ ls, 10 ∉ tz l) : Txt.split (Txt.join "\n" ls) "\n" = ls := TL.split_join feed_tl (by decide +kernel) hne h
theorem linesOf_text {ls : List Str} (hne : ls ≠ []) (h : ∀ l ∈ ls, 10 ∉ tz l) : linesOf (Txt.join "\n" ls) = ls.map fun l => Txt.split l " " := by
  unfold linesOf
  rw [split_text hne h]
theorem lifeWs_plain {l : Life} (hw : isWord (.str l.1) = true) (hg : -9 ≤ l.2 ∧ l.2 ≤ 9) : PlainW (lifeWs l) := by
  refine ⟨by unfold lifeWs; simp, by show 3 ≤ 600; decide, fun z hz => ?_⟩
  unfold lifeWs at hz
  rcases List.mem_cons.mp hz with rfl | hz
  · exact ⟨by decide, life_plain⟩
  rcases List.mem_cons.mp hz with rfl | hz
  · exact ⟨by have := (word_pl hw).2; omega, word_plain hw⟩
  · rw [List.mem_singleton] at hz
    subst hz
    exact ⟨Nat.le_trans (num_small hg).2 (by decide), (num_plain hg).1⟩
theorem chkWs_plain {c : Chk} (hw : isWord (.str c.1) = true) (hl : c.2.length ≤ 500) (hg : ∀ n ∈ c.2, -9 ≤ n ∧ n ≤ 9) : PlainW (chkWs c) := by
  refine ⟨by unfold chkWs; simp, by unfold chkWs; simp only [List.length_cons, List.length_map]; omega, fun z hz => ?_⟩
  unfold chkWs at hz
  rcases List.mem_cons.mp hz with rfl | hz
  · exact ⟨by decide, check_plain⟩
  rcases List.mem_cons.mp hz with rfl | hz
  · exact ⟨by have := (word_pl hw).2; omega, word_plain hw⟩
  · obtain ⟨n, hn, rfl⟩ := List.mem_map.mp hz
    exact ⟨Nat.le_trans (num_small (hg n hn)).2 (by decide), (num_plain (hg n hn)).1⟩
theorem lifeIn_ws {l : Life} {ls : List Life} (hw : isWord (.str l.1) = true) (hg : -9 ≤ l.2 ∧ l.2 ≤ 9) (h8 : ls.length ≠ 8) (hn : l.1 ∉ ls.map (·.1)) : lifeIn (lifeWs l) ls = some l := by
  show (if isWord (.str l.1) = true then (match numOf (numT l.2) with | none => none | some i => if ls.length = 8 ∨ l.1 ∈ ls.map (·.1) then none else some (l.1, i)) else none) = _
  rw [if_pos hw, (num_plain hg).2]
  show (if ls.length = 8 ∨ l.1 ∈ ls.map (·.1) then none else some (l.1, l.2)) = some l
  rw [if_neg (fun k => k.elim h8 hn)]
theorem chkNums {ns : List Int} (h : ∀ n ∈ ns, -9 ≤ n ∧ n ≤ 9) : (ns.map numT).map numOf = ns.map some := by
  rw [List.map_map]
  exact List.map_congr_left fun n hn => (num_plain (h n hn)).2
theorem getD_some (ns : List Int) : (ns.map some).map (·.getD 0) = ns := by
  rw [List.map_map]
  exact (List.map_congr_left fun n _ => rfl).trans (List.map_id _)
theorem checkIn_ws {c : Chk} {ls : List Life} {cs : List Chk} (hne : ls ≠ []) (hw : isWord (.str c.1) = true) (hl : c.2.length = ls.length) (hg : ∀ n ∈ c.2, -9 ≤ n ∧ n ≤ 9) (h6 : cs.length ≠ 6) (hn : c.1 ∉ cs.map (·.1)) : checkIn c.1 (c.2.map numT) ls cs = some c := by
  unfold checkIn
  rw [chkNums hg, if_neg, if_neg (fun k => k.elim h6 hn), getD_some]
  rintro (k | k | k | k)
  · exact hne k
  · rw [List.length_map] at k; exact k hl
  · simp at k
  · rw [hw] at k; cases k
theorem stepL_cons (st : Dk) (a : Str) (r : List Str) : stepL st (a :: r) = if a = "life" ∧ st.cs = [] then (lifeIn (a :: r) st.ls).map (fun l => (⟨st.ls ++ [l], st.cs⟩ : Dk)) else if a = "check" then chkStep st r else none := rfl
theorem stepL_life {l : Life} {ls : List Life} (hw : isWord (.str l.1) = true) (hg : -9 ≤ l.2 ∧ l.2 ≤ 9) (h8 : ls.length ≠ 8) (hn : l.1 ∉ ls.map (·.1)) : stepL ⟨ls, []⟩ (lifeWs l) = some ⟨ls ++ [l], []⟩ := by
  have e := lifeIn_ws hw hg h8 hn
  unfold lifeWs at e ⊢
  rw [stepL_cons, if_pos ⟨rfl, rfl⟩, e]
  rfl
theorem stepL_chk {c : Chk} {ls : List Life} {cs : List Chk} (hne : ls ≠ []) (hw : isWord (.str c.1) = true) (hl : c.2.length = ls.length) (hg : ∀ n ∈ c.2, -9 ≤ n ∧ n ≤ 9) (h6 : cs.length ≠ 6) (hn : c.1 ∉ cs.map (·.1)) : stepL ⟨ls, cs⟩ (chkWs c) = some ⟨ls, cs ++ [c]⟩ := by
  unfold chkWs
  rw [stepL_cons, if_neg (fun k => absurd k.1 (by decide +kernel)), if_pos rfl]
  show (checkIn c.1 (c.2.map numT) ls cs).map (fun c => (⟨ls, cs ++ [c]⟩ : Dk)) = _
  rw [checkIn_ws hne hw hl hg h6 hn]
  rfl
theorem readLives : ∀ (ls a : List Life) (i : Nat) (r : List (List Str)), (∀ l ∈ ls, isWord (.str l.1) = true ∧ (-9 ≤ l.2 ∧ l.2 ≤ 9)) → ((a ++ ls).map (·.1)).Nodup → (a ++ ls).length ≤ 8 →
    readAt i ⟨a, []⟩ (ls.map lifeWs ++ r) = readAt (i + ls.length) ⟨a ++ ls, []⟩ r
  | [], a, i, r, _, _, _ => by rw [List.append_nil]; rfl
  | l :: ls, a, i, r, h, hd, h8 => by
    have hl := h l List.mem_cons_self
    have hn : l.1 ∉ a.map (·.1) := fun hm => by
      rw [List.map_append, List.nodup_append] at hd
      exact hd.2.2 _ hm l.1 (by simp) rfl
    rw [List.length_append, List.length_cons] at h8
    show (match stepL ⟨a, []⟩ (lifeWs l) with | none => Except.error (i + 1) | some st' => readAt (i + 1) st' (ls.map lifeWs ++ r)) = _
    rw [stepL_life hl.1 hl.2 (by omega) hn]
    have e : (a ++ [l]) ++ ls = a ++ l :: ls := by rw [List.append_assoc]; rfl
    show readAt (i + 1) ⟨a ++ [l], []⟩ (ls.map lifeWs ++ r) = _
    rw [readLives ls (a ++ [l]) (i + 1) r (fun x hx => h x (List.mem_cons_of_mem _ hx)) (by rw [e]; exact hd) (by rw [e, List.length_append, List.length_cons]; exact h8), e, List.length_cons]
    congr 1
    omega
theorem readChks : ∀ (cs a : List Chk) (ls : List Life) (i : Nat) (r : List (List Str)), ls ≠ [] → (∀ c ∈ cs, isWord (.str c.1) = true ∧ c.2.length = ls.length ∧ ∀ n ∈ c.2, -9 ≤ n ∧ n ≤ 9) → ((a ++ cs).map (·.1)).Nodup → (a ++ cs).length ≤ 6 →
    readAt i ⟨ls, a⟩ (cs.map chkWs ++ r) = readAt (i + cs.length) ⟨ls, a ++ cs⟩ r
  | [], a, ls, i, r, _, _, _, _ => by rw [List.append_nil]; rfl
  | c :: cs, a, ls, i, r, hne, h, hd, h6 => by
    have hl := h c List.mem_cons_self
    have hn : c.1 ∉ a.map (·.1) := fun hm => by
      rw [List.map_append, List.nodup_append] at hd
      exact hd.2.2 _ hm c.1 (by simp) rfl
    rw [List.length_append, List.length_cons] at h6
    show (match stepL ⟨ls, a⟩ (chkWs c) with | none => Except.error (i + 1) | some st' => readAt (i + 1) st' (cs.map chkWs ++ r)) = _
    rw [stepL_chk hne hl.1 hl.2.1 hl.2.2 (by omega) hn]
    have e : (a ++ [c]) ++ cs = a ++ c :: cs := by rw [List.append_assoc]; rfl
    show readAt (i + 1) ⟨ls, a ++ [c]⟩ (cs.map chkWs ++ r) = _
    rw [readChks cs (a ++ [c]) ls (i + 1) r hne (fun x hx => h x (List.mem_cons_of_mem _ hx)) (by rw [e]; exact hd) (by rw [e, List.length_append, List.length_cons]; exact h6), e, List.length_cons]
    congr 1
    omega
def deskWs (k : Dk) : List (List Str) := k.ls.map lifeWs ++ k.cs.map chkWs
theorem deskWs_plain {k : Dk} (h : k.Ok) : ∀ ws ∈ deskWs k, PlainW ws := fun ws hw => by
  rcases List.mem_append.mp hw with hw | hw
  · obtain ⟨l, hl, rfl⟩ := List.mem_map.mp hw
    exact lifeWs_plain (h.lw l hl) (h.lg l hl)
  · obtain ⟨c, hc, rfl⟩ := List.mem_map.mp hw
    have := (h.cn c hc).1
    have := h.n8
    exact chkWs_plain (h.cw c hc) (by omega) (h.cn c hc).2
theorem textOf_eq (k : Dk) : textOf k = Txt.join "\n" ((deskWs k).map lineS) := by
  unfold textOf deskWs
  rw [List.map_append, List.map_map, List.map_map]
  rw [show k.ls.map lifeLine = k.ls.map (lineS ∘ lifeWs) from List.map_congr_left fun l _ => lifeLine_eq l]
  rfl
theorem strOk_join {sep : Str} {ls : List Str} (h : PySem.PyData.strOk sep = true) (hl : ∀ l ∈ ls, PySem.PyData.strOk l = true) : PySem.PyData.strOk (Txt.join sep ls) = true := by
  rw [strOk_tz, List.all_eq_true] at h ⊢
  intro c hc
  have e : tz (Txt.join sep ls) = TL.joinL (TL.tl sep) (ls.map TL.tl) := by
    show TL.tl (Txt.join sep ls) = _
    rw [TL.join_eq, TL.tl_join]
  rw [e] at hc
  rcases tl_joinL _ _ _ hc with hc | ⟨p, hp, hc⟩
  · exact h c hc
  · obtain ⟨z, hz, rfl⟩ := List.mem_map.mp hp
    have := hl z hz
    rw [strOk_tz, List.all_eq_true] at this
    exact this c hc
theorem strOk_textOf {k : Dk} (h : k.Ok) : PySem.PyData.strOk (textOf k) = true := by
  rw [textOf_eq]
  refine strOk_join (by decide +kernel) fun l hl => ?_
  obtain ⟨ws, hw, rfl⟩ := List.mem_map.mp hl
  exact strOk_join (by decide +kernel) fun z hz => strOk_plain ((deskWs_plain h ws hw).2.2 z hz).2
theorem read_desk {k : Dk} (h : k.Ok) : readAt 0 ⟨[], []⟩ (deskWs k) = .ok k := by
  have hne : k.ls ≠ [] := List.length_pos_iff.mp h.n1
  unfold deskWs
  rw [readLives k.ls [] 0 _ (fun l hl => ⟨h.lw l hl, h.lg l hl⟩) h.ln h.n8, ← List.append_nil (k.cs.map chkWs)]
  rw [List.nil_append, readChks k.cs [] k.ls _ [] hne (fun c hc => ⟨h.cw c hc, h.cn c hc⟩) h.cd h.c6]
  exact rfl
theorem lines_split {wss : List (List Str)} (h : ∀ ws ∈ wss, PlainW ws) : (wss.map lineS).map (fun l => Txt.split l " ") = wss := by
  rw [List.map_map]
  exact (List.map_congr_left fun ws hw => split_line (h ws hw)).trans (List.map_id _)
theorem linesOf_desk {k : Dk} (h : k.Ok) : linesOf (textOf k) = deskWs k := by
  have hp := deskWs_plain h
  rw [textOf_eq, linesOf_text ?_ ?_, lines_split hp]
  · intro e
    have := List.map_eq_nil_iff.mp e
    have n1 := h.n1
    have : (deskWs k).length = 0 := by rw [this]; rfl
    unfold deskWs at this
    rw [List.length_append, List.length_map] at this
    omega
  · intro l hl
    obtain ⟨ws, hw, rfl⟩ := List.mem_map.mp hl
    exact line_free fun z hz c hc e => by have := ((hp ws hw).2.2 z hz).2 c hc; omega
theorem join_len (sep : Str) (ls : List Str) : (Txt.join sep ls).length ≤ (ls.map (·.length)).sum + ls.length * sep.length := by
  rw [TL.join_eq]; exact PySem.StrLaws.join_length_le sep ls
theorem text_len {k : Dk} (h : k.Ok) : (textOf k).length ≤ 2000 := by
  have h1 := join_len "\n" (k.ls.map lifeLine ++ k.cs.map chkLine)
  have h2 := sum_le (line_len h)
  have h3 : (k.ls.map lifeLine ++ k.cs.map chkLine).length ≤ 14 := by
    rw [List.length_append, List.length_map, List.length_map]
    have := h.n8
    have := h.c6
    omega
  have h4 : ("\n" : Str).length = 1 := by decide
  rw [h4] at h1
  unfold textOf
  omega
theorem text_read {k : Dk} (h : k.Ok) : (textOf k).length ≤ 100000 ∧ ∀ l ∈ Txt.split (textOf k) "\n", l.length ≤ 100000 ∧ WordsOk (Txt.split l " ") := by
  refine ⟨Nat.le_trans (text_len h) (by decide), fun l hl => ?_⟩
  have hp := deskWs_plain h
  have h1 : Txt.split l " " ∈ linesOf (textOf k) := List.mem_map.mpr ⟨l, hl, rfl⟩
  rw [linesOf_desk h] at h1
  refine ⟨?_, (hp _ h1).ok⟩
  have hs : Txt.split (textOf k) "\n" = k.ls.map lifeLine ++ k.cs.map chkLine := by
    unfold textOf
    refine split_text ?_ fun l hl => ?_
    · intro e
      have n1 := h.n1
      have : (k.ls.map lifeLine ++ k.cs.map chkLine).length = 0 := by rw [e]; rfl
      rw [List.length_append, List.length_map] at this
      omega
    · have : l ∈ (deskWs k).map lineS := by
        unfold deskWs
        rw [List.map_append, List.map_map, List.map_map]
        rw [show (k.ls.map lifeLine) = k.ls.map (lineS ∘ lifeWs) from List.map_congr_left fun l _ => lifeLine_eq l] at hl
        exact hl
      obtain ⟨ws, hw, rfl⟩ := List.mem_map.mp this
      exact line_free fun z hz c hc e => by have := ((hp ws hw).2.2 z hz).2 c hc; omega
  rw [hs] at hl
  exact Nat.le_trans (line_len h l hl) (by decide)
/-! ### k09 -/
abbrev S__law_told (CL : Addr) : DSp := fun ds μ P X => ∃ z : Str, ds = [.str z] ∧ (z.length ≤ 100000 ∧ ∀ l ∈ Txt.split z "\n", l.length ≤ 100000 ∧ WordsOk (Txt.split l " ")) ∧
  ((∃ k, readAt 0 ⟨[], []⟩ (linesOf z) = .ok k) → P .non μ) ∧ ∀ n : Nat, readAt 0 ⟨[], []⟩ (linesOf z) = .error n → P (.int (n : Nat)) μ
abbrev lifeAl : Str := "abcdefgh"
abbrev chkAl : Str := "stuvwxyz"
/-- the desk of the law -/
def nmA (k : Nat) : Str := ⟨#[97 + k]⟩
def nmC (k : Nat) : Str := ⟨#[115 + k]⟩
def dLs (n : Nat) : List Life := (List.range n).map fun (k : Nat) => (nmA k, (k : Int) - 4)
def dNs (n : Nat) : List Int := (List.range n).map fun (k : Nat) => (k : Int) - 2
def dCs (n m : Nat) : List Chk := (List.range m).map fun k => (nmC k, dNs n)
/-- the strange lines, by their words -/
def xFirst : List Str → List Str
  | [] => []
  | z :: t => (Str.ofString "x" ++ z) :: t
def snoc (r : List Str) (z : Str) : List Str := r ++ [z]
def oddWs (n : Nat) : List (List Str) := let r := (dNs n).map numT
  [[""], ["life"], ["life", "z"], ["life", "z", "10"], ["life", "z", "01"], ["life", "z", "-0"], ["life", "Z", "1"], ["life", "z", "1", ""], ["life", "", "z", "1"],
   ["", "life", "z", "1"], ["life", "a", "1"], ["life", "z", "1", "1"], ["check"], ["check", "k"], "check" :: "K" :: r,
   "check" :: "k" :: snoc r "1", "check" :: "k" :: "" :: r, "Check" :: "k" :: r, "check" :: "k" :: snoc r "",
   ["life", "ninesigns", "1"], "check" :: "k" :: xFirst r, ["lives", "z", "1"], ["life", "z", "+1"]]
def rowS (n : Nat) : Str := Txt.join " " ((dNs n).map numT)
def oddS (n : Nat) : List Str :=
  (((["", "life", "life z", "life z 10", "life z 01", "life z -0", "life Z 1", "life z 1 ", "life  z 1"] : List Str) ++ ([" life z 1", "life a 1", "life z 1 1", "check", "check k", "check K " ++ rowS n] : List Str)) ++
   ([("check k " ++ rowS n) ++ " 1", "check k  " ++ rowS n, "Check k " ++ rowS n, ("check k " ++ rowS n) ++ " "] : List Str)) ++ (["life ninesigns 1", "check k x" ++ rowS n, "lives z 1", "life z +1"] : List Str)
theorem oddS_eq : ∀ n ∈ List.range 8, oddS (n + 1) = (oddWs (n + 1)).map lineS := by decide +kernel
def plainB (ws : List Str) : Bool := !ws.isEmpty && decide (ws.length ≤ 600) && ws.all fun z => decide (z.length ≤ 600) && (tz z).all fun c => decide (33 ≤ c) && decide (c < 128)
theorem plainB_ok {ws : List Str} (h : plainB ws = true) : PlainW ws := by
  unfold plainB at h
  simp only [Bool.and_eq_true, decide_eq_true_eq, List.all_eq_true] at h
  obtain ⟨⟨h1, h2⟩, h3⟩ := h
  exact ⟨fun e => (by rw [e] at h1; cases h1), h2, fun z hz => ⟨(h3 z hz).1, fun c hc => (h3 z hz).2 c hc⟩⟩
theorem odd_plain : ∀ n ∈ List.range 8, ∀ ws ∈ oddWs (n + 1), plainB ws = true := by decide +kernel
def stepNone (k : Dk) (ws : List Str) : Bool := (stepL k ws).isNone
theorem odd_bad1 : ∀ n ∈ List.range 8, ∀ a ∈ List.range 9, ∀ ws ∈ oddWs (n + 1), (a = 0 ∧ ws = (["life", "a", "1"] : List Str)) ∨ n + 1 < a ∨ stepNone ⟨(dLs (n + 1)).take a, []⟩ ws = true := by decide +kernel
theorem odd_bad2 : ∀ n ∈ List.range 8, ∀ a ∈ List.range 7, ∀ ws ∈ oddWs (n + 1), a = 0 ∨ stepNone ⟨dLs (n + 1), (dCs (n + 1) 6).take a⟩ ws = true := by decide +kernel
theorem okB_desk : ∀ n ∈ List.range 8, ∀ m ∈ List.range 7, (∀ l ∈ dLs (n + 1), isWord (.str l.1) = true ∧ (-9 ≤ l.2 ∧ l.2 ≤ 9)) ∧ ((dLs (n + 1)).map (·.1)).Nodup ∧ (∀ c ∈ dCs (n + 1) m, isWord (.str c.1) = true ∧ c.2.length = (dLs (n + 1)).length ∧ ∀ n ∈ c.2, -9 ≤ n ∧ n ≤ 9) ∧ ((dCs (n + 1) m).map (·.1)).Nodup := by decide +kernel
theorem dLs_len (n : Nat) : (dLs n).length = n := by unfold dLs; rw [List.length_map, List.length_range]
theorem dCs_len (n m : Nat) : (dCs n m).length = m := by unfold dCs; rw [List.length_map, List.length_range]
theorem desk_ok {n m : Nat} (hn : n < 8) (hm : m ≤ 6) : Dk.Ok ⟨dLs (n + 1), dCs (n + 1) m⟩ := by
  obtain ⟨h1, h2, h3, h4⟩ := okB_desk n (List.mem_range.mpr hn) m (List.mem_range.mpr (by omega))
  exact ⟨by show 1 ≤ (dLs (n + 1)).length; rw [dLs_len]; omega, by show (dLs (n + 1)).length ≤ 8; rw [dLs_len]; omega, fun l hl => (h1 l hl).1, h2, fun l hl => (h1 l hl).2, by show (dCs (n + 1) m).length ≤ 6; rw [dCs_len]; exact hm, fun c hc => (h3 c hc).1, h4, fun c hc => (h3 c hc).2⟩
theorem dCs_take {n m j : Nat} (hj : j ≤ m) (hm : m ≤ 6) : (dCs n m).take j = (dCs n 6).take j := by
  unfold dCs
  rw [← List.map_take, ← List.map_take, List.take_range, List.take_range, Nat.min_eq_left hj, Nat.min_eq_left (by omega)]
/-- the lines of the law's desk, by words -/
def dWs (n m : Nat) : List (List Str) := (dLs n).map lifeWs ++ (dCs n m).map chkWs
theorem dWs_len (n m : Nat) : (dWs n m).length = n + m := by unfold dWs; rw [List.length_append, List.length_map, List.length_map, dLs_len, dCs_len]
theorem dWs_read {n m at' : Nat} (hn : n < 8) (hm : m ≤ 6) (ha : at' ≤ n + 1 + m) (r : List (List Str)) :
    ∃ st, readAt 0 ⟨[], []⟩ ((dWs (n + 1) m).take at' ++ r) = readAt at' st r ∧ ((at' ≤ n + 1 ∧ st = ⟨(dLs (n + 1)).take at', []⟩) ∨ (n + 1 < at' ∧ st = ⟨dLs (n + 1), (dCs (n + 1) 6).take (at' - (n + 1))⟩)) := by
  have ok := desk_ok hn hm
  have hlw : ∀ l ∈ dLs (n + 1), isWord (.str l.1) = true ∧ (-9 ≤ l.2 ∧ l.2 ≤ 9) := fun l hl => ⟨ok.lw l hl, ok.lg l hl⟩
  have hl8 : (dLs (n + 1)).length ≤ 8 := ok.n8
  by_cases c : at' ≤ n + 1
  · refine ⟨⟨(dLs (n + 1)).take at', []⟩, ?_, .inl ⟨c, rfl⟩⟩
    unfold dWs
    rw [List.take_append_of_le_length (by rw [List.length_map, dLs_len]; exact c), ← List.map_take, readLives ((dLs (n + 1)).take at') [] 0 r (fun l hl => hlw l (List.mem_of_mem_take hl)) ?_ ?_]
    · rw [List.nil_append, List.length_take, dLs_len, Nat.zero_add, Nat.min_eq_left c]
    · rw [List.nil_append, List.map_take]
      exact List.Nodup.sublist (List.take_sublist _ _) ok.ln
    · rw [List.nil_append, List.length_take]; omega
  · refine ⟨⟨dLs (n + 1), (dCs (n + 1) 6).take (at' - (n + 1))⟩, ?_, .inr ⟨by omega, rfl⟩⟩
    obtain ⟨j, rfl⟩ : ∃ j, at' = (n + 1) + j := ⟨at' - (n + 1), by omega⟩
    have hj : j ≤ m := by omega
    unfold dWs
    rw [show n + 1 + j = ((dLs (n + 1)).map lifeWs).length + j by rw [List.length_map, dLs_len], List.take_length_add_append, List.append_assoc, readLives (dLs (n + 1)) [] 0 _ hlw ok.ln hl8, ← List.map_take]
    rw [List.nil_append, List.length_map, dLs_len, show n + 1 + j - (n + 1) = j by omega, Nat.zero_add, dCs_take hj hm]
    have hc : ∀ c ∈ (dCs (n + 1) 6).take j, isWord (.str c.1) = true ∧ c.2.length = (dLs (n + 1)).length ∧ ∀ n ∈ c.2, -9 ≤ n ∧ n ≤ 9 := fun c hc => by
      rw [← dCs_take hj hm] at hc
      have hc' := List.mem_of_mem_take hc
      exact ⟨ok.cw c hc', ok.cn c hc'⟩
    rw [readChks ((dCs (n + 1) 6).take j) [] (dLs (n + 1)) (n + 1) r (List.length_pos_iff.mp (by rw [dLs_len]; omega)) hc ?_ ?_]
    · rw [List.nil_append, List.length_take, dCs_len, Nat.min_eq_left (by omega)]
    · rw [List.nil_append, ← dCs_take hj hm, List.map_take]
      exact List.Nodup.sublist (List.take_sublist _ _) ok.cd
    · rw [List.nil_append, List.length_take]; omega
theorem dWs_ok {n m : Nat} (hn : n < 8) (hm : m ≤ 6) : readAt 0 ⟨[], []⟩ (dWs (n + 1) m) = .ok ⟨dLs (n + 1), dCs (n + 1) m⟩ := read_desk (desk_ok hn hm)
/-- a text of plain lines -/
def SmallW (ws : List Str) : Prop := PlainW ws ∧ ws.length ≤ 20 ∧ ∀ z ∈ ws, z.length ≤ 20
abbrev txt (wss : List (List Str)) : Str := Txt.join "\n" (wss.map lineS)
theorem line_small {ws : List Str} (h : SmallW ws) : (lineS ws).length ≤ 420 := by
  have h1 := join_len " " ws
  have h2 := sum_le h.2.2
  have h3 : (" " : Str).length = 1 := by decide
  have h4 := h.2.1
  rw [h3] at h1
  show (Txt.join " " ws).length ≤ 420
  omega
theorem txt_split {wss : List (List Str)} (hne : wss ≠ []) (h : ∀ ws ∈ wss, SmallW ws) : Txt.split (txt wss) "\n" = wss.map lineS := by
  refine split_text (fun e => hne (List.map_eq_nil_iff.mp e)) fun l hl => ?_
  obtain ⟨ws, hw, rfl⟩ := List.mem_map.mp hl
  exact line_free fun z hz c hc e => by have := ((h ws hw).1.2.2 z hz).2 c hc; omega
theorem txt_lines {wss : List (List Str)} (hne : wss ≠ []) (h : ∀ ws ∈ wss, SmallW ws) : linesOf (txt wss) = wss := by
  unfold linesOf
  rw [txt_split hne h, lines_split fun ws hw => (h ws hw).1]
theorem txt_ok {wss : List (List Str)} (hne : wss ≠ []) (h : ∀ ws ∈ wss, SmallW ws) (hl : wss.length ≤ 20) : (txt wss).length ≤ 100000 ∧ ∀ l ∈ Txt.split (txt wss) "\n", l.length ≤ 100000 ∧ WordsOk (Txt.split l " ") := by
  refine ⟨?_, fun l hm => ?_⟩
  · have h1 := join_len "\n" (wss.map lineS)
    have h2 : ((wss.map lineS).map (·.length)).sum ≤ (wss.map lineS).length * 420 := sum_le fun l hm => by
      obtain ⟨ws, hw, rfl⟩ := List.mem_map.mp hm
      exact line_small (h ws hw)
    have h3 : ("\n" : Str).length = 1 := by decide
    rw [h3, List.length_map] at h1
    rw [List.length_map] at h2
    show (Txt.join "\n" (wss.map lineS)).length ≤ _
    omega
  · rw [txt_split hne h] at hm
    obtain ⟨ws, hw, rfl⟩ := List.mem_map.mp hm
    refine ⟨Nat.le_trans (line_small (h ws hw)) (by decide), ?_⟩
    rw [split_line (h ws hw).1]
    exact (h ws hw).1.ok
def smallB (ws : List Str) : Bool := plainB ws && (decide (ws.length ≤ 20) && ws.all fun z => decide (z.length ≤ 20))
theorem smallB_ok {ws : List Str} (h : smallB ws = true) : SmallW ws := by
  unfold smallB at h
  simp only [Bool.and_eq_true, decide_eq_true_eq, List.all_eq_true] at h
  exact ⟨plainB_ok h.1, h.2.1, h.2.2⟩
theorem odd_small : ∀ n ∈ List.range 8, ∀ ws ∈ oddWs (n + 1), smallB ws = true := by decide +kernel
theorem dWs_small : ∀ n ∈ List.range 8, ∀ m ∈ List.range 7, ∀ ws ∈ dWs (n + 1) m, smallB ws = true := by decide +kernel
theorem bad_at {n m at' : Nat} (hn : n < 8) (hm : m ≤ 6) (ha : at' ≤ n + 1 + m) {ws : List Str} (hw : ws ∈ oddWs (n + 1)) (h0 : ¬ (at' = 0 ∧ ws = (["life", "a", "1"] : List Str))) (r : List (List Str)) :
    readAt 0 ⟨[], []⟩ ((dWs (n + 1) m).take at' ++ ws :: r) = .error (at' + 1) := by
  obtain ⟨st, e, hst⟩ := dWs_read hn hm ha (ws :: r)
  rw [e]
  have hs : stepNone st ws = true := by
    rcases hst with ⟨h1, rfl⟩ | ⟨h1, rfl⟩
    · rcases odd_bad1 n (List.mem_range.mpr hn) at' (List.mem_range.mpr (by omega)) ws hw with h | h | h
      · exact absurd h h0
      · omega
      · exact h
    · rcases odd_bad2 n (List.mem_range.mpr hn) (at' - (n + 1)) (List.mem_range.mpr (by omega)) ws hw with h | h
      · omega
      · exact h
  show (match stepL st ws with | none => Except.error (at' + 1) | some st' => readAt (at' + 1) st' r) = _
  unfold stepNone at hs
  rw [Option.isNone_iff_eq_none.mp hs]
section
variable {P : Program} {w : World} {K : PySem.W.Frag} {mg : Str → Option Value} {base : Heap} {C_Desk C_BadDesk C_BadLine f_BadLine : Addr}
theorem d__law_told (B : Bt mg) (T_BadLine : PySem.LowX.LowTxt K mg C_BadLine f_BadLine) (src : Src K mg "_law_told" s__law_told ["_law_text"]) (d_read : Def P w K mg base 7 "read" ["text"] (S_read C_Desk C_BadLine)) : Def P w K mg base 8 "_law_told" ["_law_text"] (S__law_told C_BadLine) := by
  obtain ⟨f_read, fd_read, G_read, m_read, k_read, b_read⟩ := d_read
  refine Def.of src sc__law_told (fun ds μ Q X h => by obtain ⟨a, rfl, _⟩ := h; rfl) fun f cdv A outer s0 H E hr tk => ?_
  refine ⟨_, (pss_cons (ps_set (i := 1) sc__law_told.nd rfl (by first | exact Or.inl rfl | exact Or.inr rfl) pe_non)
 (pss_cons (ps_try_as (i := 2) (c := .ref C_BadLine) rfl rfl sc__law_told.nd rfl rfl ⟨by rfl, by decide +kernel, Or.inl T_BadLine.gC⟩ tk (fun W1 pn1 xe1 tk1 po1 => (pss_one (ps_expr (pe_callS G_read (hr.mono (by decide)) (by rfl) m_read k_read b_read (fun σ => passAt tk1 σ) (pa_cons (pv 0) pa_nil))))) (fun _ _ _ _ _ hz1 hf1 => (pss_one (ps_set (i := 1) sc__law_told.nd rfl (by first | exact Or.inl rfl | exact Or.inr rfl) (pe_byLow T_BadLine hz1 hf1 (pv 2))))))
 (pss_one (ps_ret (pv 1))))), ?_⟩
  rintro ds μ Q X ⟨z, rfl, hz, qt, qf⟩
  walk_at "w"
  refine wpS_tryAs (i := 2) (tb := fun W => tDrop (tCallS (spOf (S_read C_Desk C_BadLine)) (WE W) (tCons (tVar 0) tNil))) fun W' => ?_
  refine wpS_drop (wp_call (fun _ => rfl) ?_)
  walk_at "w"
  refine ⟨hz, fun k hk _ => ?_, fun n hn => ?_⟩
  · walk_at "w"
    exact qt ⟨k, hk⟩
  · refine ⟨true, T_BadLine.te, fun _ => ⟨_, rfl, fun a dd => ?_⟩, fun h => (by cases h)⟩
    refine wpSX_set (wpX_line rfl rfl ?_)
    show wpS _ _ _ _ _ _
    walk_at "w"
    exact qf n hn
theorem sign_at : ∀ k ∈ List.range 8, atI (lifeAl.cps.toList) ((k : Nat) : Int) = some (97 + k) ∧ atI (chkAl.cps.toList) ((k : Nat) : Int) = some (115 + k) := by decide +kernel
theorem row_ws : ∀ n ∈ List.range 8, ∀ k ∈ List.range 6, (((("check " : Str) ++ nmC k) ++ (" " : Str)) ++ rowS (n + 1) : Str) = lineS (chkWs (nmC k, dNs (n + 1))) := by decide +kernel
theorem strOk_c (c : Nat) (h : c < 1114112) : PySem.PyData.strOk ⟨#[c]⟩ = true := by
  rw [strOk_tz]
  show (decide (c < 1114112) && true) = true
  rw [decide_eq_true h]; rfl
theorem cutTake (xs : List D) (n : Nat) : cutD xs none (some (n : Nat)) = xs.take n := by
  unfold cutD
  have h1 : HT.sIx xs.length 0 none = 0 := rfl
  have h2 : HT.sIx xs.length xs.length (some ((n : Nat) : Int)) = min n xs.length := HT.sIx_nat _ _ _
  rw [h1, h2, List.drop_zero, Nat.sub_zero]
  by_cases h : n ≤ xs.length
  · rw [Nat.min_eq_left h]
  · rw [Nat.min_eq_right (by omega), List.take_of_length_le (Nat.le_refl _), List.take_of_length_le (by omega)]
theorem cutDrop (xs : List D) (n : Nat) : cutD xs (some (n : Nat)) none = xs.drop n := by
  unfold cutD
  have h1 : HT.sIx xs.length 0 (some ((n : Nat) : Int)) = min n xs.length := HT.sIx_nat _ _ _
  have h2 : HT.sIx xs.length xs.length none = xs.length := rfl
  rw [h1, h2]
  by_cases h : n ≤ xs.length
  · rw [Nat.min_eq_left h, List.take_of_length_le (by rw [List.length_drop]; exact Nat.le_refl _)]
  · rw [Nat.min_eq_right (by omega), Nat.sub_self, List.take_zero, List.drop_eq_nil_of_le (by omega)]
theorem wp_toldJ {W : WX} {Z : XP} {ρ : Rho} {μ : M} {P : D → M → Prop} {te : TE} {E : L2.St → XK} {CL : Addr}
    (h : wp W Z te ρ μ fun d μ1 => ∃ wss : List (List Str), d = .lst ((wss.map lineS).map .str) ∧ wss ≠ [] ∧ (∀ ws ∈ wss, SmallW ws) ∧ wss.length ≤ 20 ∧ ((∃ k, readAt 0 ⟨[], []⟩ wss = .ok k) → P .non μ1) ∧ ∀ n : Nat, readAt 0 ⟨[], []⟩ wss = .error n → P (.int (n : Nat)) μ1) :
    wp W Z (tCallS (spOf (S__law_told CL)) E (tCons (tM1 (fun x xs H Q => ∃ a p, ∃ ys : List Str, x = .str a ∧ xs = [.ref p] ∧ (SqL K H p (ys.map V.str) ∨ SqT K H p (ys.map V.str)) ∧ (ys.map (·.length)).sum + ys.length * a.length ≤ 16777216 ∧ Q (.str (Txt.join a ys)) H) (tC (.str "\n")) te) tNil)) ρ μ P := by
  refine wp_call0 (wpA_cons (wp_join (wp_str ⟨_, rfl, wp_mono h ?_⟩)))
  rintro d μ' ⟨wss, rfl, hne, hs, hl, q1, q2⟩
  refine ⟨wss.map lineS, .inl rfl, ?_, wpA_nil ⟨_, rfl, txt_ok hne hs hl, fun hk => ?_, fun n hn => ?_⟩⟩
  · have h2 : ((wss.map lineS).map (·.length)).sum ≤ (wss.map lineS).length * 420 := sum_le fun l hm => by
      obtain ⟨ws, hw, rfl⟩ := List.mem_map.mp hm
      exact line_small (hs ws hw)
    have h3 : ("\n" : Str).length = 1 := by decide
    rw [h3]
    rw [List.length_map] at h2 ⊢
    omega
  · rw [txt_lines hne hs] at hk
    exact q1 hk
  · rw [txt_lines hne hs] at hn
    exact q2 n hn
theorem wp_told1 {W : WX} {Z : XP} {ρ : Rho} {μ : M} {P : D → M → Prop} {E : L2.St → XK} {CL : Addr} {z : Str} {ws : List Str} (hz : z = txt [ws]) (hs : SmallW ws) (hb : stepNone ⟨[], []⟩ ws = true) (p : P (.int 1) μ) :
    wp W Z (tCallS (spOf (S__law_told CL)) E (tCons (tC (.str z)) tNil)) ρ μ P := by
  have h1 : ∀ x ∈ [ws], SmallW x := fun x hx => by rw [List.mem_singleton] at hx; subst hx; exact hs
  have e : readAt 0 ⟨[], []⟩ [ws] = .error 1 := by
    show (match stepL ⟨[], []⟩ ws with | none => Except.error 1 | some st' => readAt 1 st' []) = _
    unfold stepNone at hb
    rw [Option.isNone_iff_eq_none.mp hb]
  subst hz
  refine wp_call0 (wpA_cons (wp_str (wpA_nil ⟨_, rfl, txt_ok (by simp) h1 (by show 1 ≤ 20; decide), fun hk => ?_, fun n hn => ?_⟩)))
  · rw [txt_lines (by simp) h1, e] at hk
    obtain ⟨k, hk⟩ := hk
    cases hk
  · rw [txt_lines (by simp) h1, e] at hn
    cases hn
    exact p
theorem one_line {z : Str} {ws : List Str} (h : z = lineS ws) : D.lst [D.str z] = .lst ((([ws] : List (List Str)).map lineS).map .str) := by rw [h]; rfl
theorem str_len {z : Str} {ws : List Str} (h : z = lineS ws) (hs : SmallW ws) : z.length ≤ 420 := by rw [h]; exact line_small hs
theorem lineS_inj {a b : List Str} (ha : PlainW a) (hb : PlainW b) (h : lineS a = lineS b) : a = b := by rw [← split_line ha, ← split_line hb, h]
theorem lifeA : ("life a 1" : Str) = lineS ["life", "a", "1"] := by decide +kernel
theorem lifeZ : ("life z 1" : Str) = lineS ["life", "z", "1"] := by decide +kernel
theorem lifeA_s : SmallW ["life", "a", "1"] := smallB_ok (by decide +kernel)
theorem lifeZ_s : SmallW ["life", "z", "1"] := smallB_ok (by decide +kernel)
theorem chkK : ∀ n ∈ List.range 8, (("check k " : Str) ++ rowS (n + 1) : Str) = lineS (chkWs ("k", dNs (n + 1))) ∧ smallB (chkWs ("k", dNs (n + 1))) = true := by decide +kernel
theorem first_a : ∀ n ∈ List.range 8, ∀ m ∈ List.range 7, (match readAt 0 ⟨[], []⟩ (["life", "a", "1"] :: dWs (n + 1) m) with | .error k => k == 2 | _ => false) = true := by decide +kernel
theorem last_z1 : ∀ n ∈ List.range 8, ∀ m ∈ List.range 7, m = 0 ∨ stepNone ⟨dLs (n + 1), dCs (n + 1) m⟩ ["life", "z", "1"] = true := by decide +kernel
theorem last_z8 : stepNone ⟨dLs 8, []⟩ ["life", "z", "1"] = true := by decide +kernel
theorem last_k : ∀ n ∈ List.range 8, stepNone ⟨dLs (n + 1), dCs (n + 1) 6⟩ (chkWs ("k", dNs (n + 1))) = true := by decide +kernel
theorem last_bad {n m : Nat} (hn : n < 8) (hm : m ≤ 6) {ws : List Str} (h : stepNone ⟨dLs (n + 1), dCs (n + 1) m⟩ ws = true) : readAt 0 ⟨[], []⟩ (dWs (n + 1) m ++ [ws]) = .error (n + 1 + m + 1) := by
  rw [readAt_app (dWs_ok hn hm) (i := n + 1 + m) (by rw [dWs_len]; omega)]
  show (match stepL _ ws with | none => Except.error (n + 1 + m + 1) | some st' => readAt (n + 1 + m + 1) st' []) = _
  unfold stepNone at h
  rw [Option.isNone_iff_eq_none.mp h]
theorem wpS_ifNo {W : WX} {Z : XP} {ρ : Rho} {μ : M} {F : Fin} {tc : TT} {t u : TS} (h : wpT W Z tc ρ μ fun b μ1 => b = false ∧ μ1 = μ) (k : wpS W Z u ρ μ F) : wpS W Z (tSeq (tIfS tc t tNext) u) ρ μ F :=
  wpS_seq (wpS_if (wpT_mono h fun b μ1 e => ⟨fun hb => (by rw [e.1] at hb; cases hb), fun _ => wpS_next (by rw [e.2]; exact k)⟩))
abbrev S_law_k09 (K : PySem.W.Frag) : DSp := fun ds μ P X => ∃ a : Addr × List Int, ds = [scriptD K a.1 a.2] ∧ ∀ μ', P (.bl true) μ'
theorem d_law (B : Bt mg) (T_BadLine : PySem.LowX.LowTxt K mg C_BadLine f_BadLine) {f : Addr} {fd : FuncData} (F : Fun K "law" "law" s_law f fd) (d__law_begin : Def P w K mg base 1 "_law_begin" ["_law_script"] (S__law_begin K)) (d__law_draw : Def P w K mg base 1 "_law_draw" ["_law_draws", "_law_size"] S__law_draw) (d__law_told : Def P w K mg base 8 "_law_told" ["_law_text"] (S__law_told C_BadLine)) : FnOk P w K mg base (L2.CX P w) 9 f fd ["_law_script"] (spOf (S_law_k09 K)) := by
  obtain ⟨f__law_begin, fd__law_begin, G__law_begin, m__law_begin, k__law_begin, b__law_begin⟩ := d__law_begin
  obtain ⟨f__law_draw, fd__law_draw, G__law_draw, m__law_draw, k__law_draw, b__law_draw⟩ := d__law_draw
  obtain ⟨f__law_told, fd__law_told, G__law_told, m__law_told, k__law_told, b__law_told⟩ := d__law_told
  refine fn_body F sc_law (fun ds μ Q X h => by obtain ⟨a, rfl, _⟩ := h; rfl) fun cdv A outer s0 H E hr tk => ?_
  refine ⟨_, (pss_cons (ps_set (i := 1) sc_law.nd rfl (by first | exact Or.inl rfl | exact Or.inr rfl) (pe_callS G__law_begin (hr.mono (by decide)) (by rfl) m__law_begin k__law_begin b__law_begin (fun σ => passAt takes0 σ) (pa_cons (pv 0) pa_nil)))
 (pss_cons (ps_par (i := 2) (j := 3) rfl sc_law.nd rfl rfl (by decide) rfl rfl (pa_cons (pe_op (kAdd K rfl) pe_int (pe_callS G__law_draw (hr.mono (by decide)) (by rfl) m__law_draw k__law_draw b__law_draw (fun σ => passAt takes0 σ) (pa_cons (pv 1) (pa_cons pe_int pa_nil)))) (pa_cons (pe_callS G__law_draw (hr.mono (by decide)) (by rfl) m__law_draw k__law_draw b__law_draw (fun σ => passAt takes0 σ) (pa_cons (pv 1) (pa_cons pe_int pa_nil))) pa_nil)) (by rfl))
 (pss_cons (ps_setLc (i := 4) (own := [("_law_k", 10)]) rfl sc_law.nd rfl rfl (sw_true rfl rfl rfl (by decide +kernel)) (pi_range1 (by rfl) B.range (pa_cons (pv 2) pa_nil)) (blkOk_by (own := [("_law_k", 10)]) (N := N_law) (sc := defScope s_law) (by decide +kernel)) (fun _ _ _ _ _ => (pg_name (i := 10) sc_law.nd rfl (by first | exact Or.inl rfl | exact Or.inr rfl))) (fun _ _ _ _ _ => pts_nil) (fun _ _ _ _ _ => (pe_op (kAdd K rfl) (pe_op (kAdd K rfl) (pe_op (kAdd K rfl) pe_str (pe_ix (kIx K rfl) pe_str (pv 10) (fun _ _ => rfl))) pe_str) (pe_callTy call_str_int (by rfl) B.str (by decide +kernel) (pa_cons (pe_op op_sub (pv 10) pe_int) pa_nil)))))
 (pss_cons (ps_set (i := 5) sc_law.nd rfl (by first | exact Or.inl rfl | exact Or.inr rfl) (kJoin (K := K) rfl pe_str (pe_lc (own := [("_law_k", 10)]) rfl sc_law.nd (pi_range1 (by rfl) B.range (pa_cons (pv 2) pa_nil)) (blkOk_by (own := [("_law_k", 10)]) (N := N_law) (sc := defScope s_law) (by decide +kernel)) (fun _ _ _ _ _ => (pg_name (i := 10) sc_law.nd rfl (by first | exact Or.inl rfl | exact Or.inr rfl))) (fun _ _ _ _ _ => pts_nil) (fun _ _ _ _ _ => (pe_callTy call_str_int (by rfl) B.str (by decide +kernel) (pa_cons (pe_op op_sub (pv 10) pe_int) pa_nil))))))
 (pss_cons (ps_set (i := 4) sc_law.nd rfl (by first | exact Or.inl rfl | exact Or.inr rfl) (pe_op (kAdd K rfl) (pv 4) (pe_lc (own := [("_law_k", 10)]) rfl sc_law.nd (pi_range1 (by rfl) B.range (pa_cons (pv 3) pa_nil)) (blkOk_by (own := [("_law_k", 10)]) (N := N_law) (sc := defScope s_law) (by decide +kernel)) (fun _ _ _ _ _ => (pg_name (i := 10) sc_law.nd rfl (by first | exact Or.inl rfl | exact Or.inr rfl))) (fun _ _ _ _ _ => pts_nil) (fun _ _ _ _ _ => (pe_op (kAdd K rfl) (pe_op (kAdd K rfl) (pe_op (kAdd K rfl) pe_str (pe_ix (kIx K rfl) pe_str (pv 10) (fun _ _ => rfl))) pe_str) (pv 5))))))
 (pss_cons (ps_if (pt_cmpR op_notN (pe_callS G__law_told (hr.mono (by decide)) (by rfl) m__law_told k__law_told b__law_told (fun σ => passAt takes0 σ) (pa_cons (kJoin (K := K) rfl pe_str (pv 4)) pa_nil)) pe_non (nomark _)) (pss_one (ps_ret pe_bl)) pss_nil)
 (pss_cons (ps_set (i := 6) sc_law.nd rfl (by first | exact Or.inl rfl | exact Or.inr rfl) (pe_lst (pa_cons pe_str (pa_cons pe_str (pa_cons pe_str (pa_cons pe_str (pa_cons pe_str (pa_cons pe_str (pa_cons pe_str (pa_cons pe_str (pa_cons pe_str pa_nil)))))))))))
 (pss_cons (ps_set (i := 6) sc_law.nd rfl (by first | exact Or.inl rfl | exact Or.inr rfl) (pe_op (kAdd K rfl) (pv 6) (pe_lst (pa_cons pe_str (pa_cons pe_str (pa_cons pe_str (pa_cons pe_str (pa_cons pe_str (pa_cons (pe_op (kAdd K rfl) pe_str (pv 5)) pa_nil)))))))))
 (pss_cons (ps_set (i := 6) sc_law.nd rfl (by first | exact Or.inl rfl | exact Or.inr rfl) (pe_op (kAdd K rfl) (pv 6) (pe_lst (pa_cons (pe_op (kAdd K rfl) (pe_op (kAdd K rfl) pe_str (pv 5)) pe_str) (pa_cons (pe_op (kAdd K rfl) pe_str (pv 5)) (pa_cons (pe_op (kAdd K rfl) pe_str (pv 5)) (pa_cons (pe_op (kAdd K rfl) (pe_op (kAdd K rfl) pe_str (pv 5)) pe_str) pa_nil)))))))
 (pss_cons (ps_set (i := 6) sc_law.nd rfl (by first | exact Or.inl rfl | exact Or.inr rfl) (pe_op (kAdd K rfl) (pv 6) (pe_lst (pa_cons pe_str (pa_cons (pe_op (kAdd K rfl) pe_str (pv 5)) (pa_cons pe_str (pa_cons pe_str pa_nil)))))))
 (pss_cons (ps_set (i := 7) sc_law.nd rfl (by first | exact Or.inl rfl | exact Or.inr rfl) (pe_callS G__law_draw (hr.mono (by decide)) (by rfl) m__law_draw k__law_draw b__law_draw (fun σ => passAt takes0 σ) (pa_cons (pv 1) (pa_cons (pe_op (kAdd K rfl) (pe_callB (kLen K rfl) (by rfl) B.len (by decide +kernel) (pa_cons (pv 4) pa_nil)) pe_int) pa_nil))))
 (pss_cons (ps_set (i := 8) sc_law.nd rfl (by first | exact Or.inl rfl | exact Or.inr rfl) (pe_ix (kIx K rfl) (pv 6) (pe_callS G__law_draw (hr.mono (by decide)) (by rfl) m__law_draw k__law_draw b__law_draw (fun σ => passAt takes0 σ) (pa_cons (pv 1) (pa_cons (pe_callB (kLen K rfl) (by rfl) B.len (by decide +kernel) (pa_cons (pv 6) pa_nil)) pa_nil))) (fun _ _ => rfl)))
 (pss_cons (ps_if (PW.pt (pw_and (pt_cmpR (kEq K rfl hr.units) (pv 7) pe_int (nomark _)) (pw_and1 (pt_cmpR (kEq K rfl hr.units) (pv 8) pe_str (nomark _))))) (pss_one (ps_ret (pe_cmpR (kEq K rfl hr.units) (pe_callS G__law_told (hr.mono (by decide)) (by rfl) m__law_told k__law_told b__law_told (fun σ => passAt takes0 σ) (pa_cons (kJoin (K := K) rfl pe_str (pe_op (kAdd K rfl) (pe_lst (pa_cons (pv 8) pa_nil)) (pv 4))) pa_nil)) pe_int (nomark _)))) pss_nil)
 (pss_cons (ps_set (i := 9) sc_law.nd rfl (by first | exact Or.inl rfl | exact Or.inr rfl) (pe_op (kAdd K rfl) (pe_op (kAdd K rfl) (pe_slice (kSl K rfl) (pv 4) po_none (po_some (pv 7))) (pe_lst (pa_cons (pv 8) pa_nil))) (pe_slice (kSl K rfl) (pv 4) (po_some (pv 7)) po_none)))
 (pss_cons (ps_if (pt_cmpR (kNe K rfl hr.units) (pe_callS G__law_told (hr.mono (by decide)) (by rfl) m__law_told k__law_told b__law_told (fun σ => passAt takes0 σ) (pa_cons (kJoin (K := K) rfl pe_str (pv 9)) pa_nil)) (pe_op (kAdd K rfl) (pv 7) pe_int) (nomark _)) (pss_one (ps_ret pe_bl)) pss_nil)
 (pss_cons (ps_if (PW.pt (pw_and (pt_cmpR op_gt (pv 3) pe_int (nomark _)) (pw_and1 (pt_cmpR (kNe K rfl hr.units) (pe_callS G__law_told (hr.mono (by decide)) (by rfl) m__law_told k__law_told b__law_told (fun σ => passAt takes0 σ) (pa_cons (kJoin (K := K) rfl pe_str (pe_op (kAdd K rfl) (pv 4) (pe_lst (pa_cons pe_str pa_nil)))) pa_nil)) (pe_op (kAdd K rfl) (pe_op (kAdd K rfl) (pv 2) (pv 3)) pe_int) (nomark _))))) (pss_one (ps_ret pe_bl)) pss_nil)
 (pss_cons (ps_if (PW.pt (pw_and (pt_cmpR (kEq K rfl hr.units) (pv 3) pe_int (nomark _)) (pw_and1 (pt_cmpR (kNe K rfl hr.units) (pe_callS G__law_told (hr.mono (by decide)) (by rfl) m__law_told k__law_told b__law_told (fun σ => passAt takes0 σ) (pa_cons (kJoin (K := K) rfl pe_str (pe_op (kAdd K rfl) (pv 4) (pe_lst (pa_cons (pe_op (kAdd K rfl) pe_str (pv 5)) pa_nil)))) pa_nil)) (pe_op (kAdd K rfl) (pv 2) pe_int) (nomark _))))) (pss_one (ps_ret pe_bl)) pss_nil)
 (pss_cons (ps_if (PW.pt (pw_and (pt_cmpR (kEq K rfl hr.units) (pv 2) pe_int (nomark _)) (pw_and (pt_cmpR (kEq K rfl hr.units) (pv 3) pe_int (nomark _)) (pw_and1 (pt_cmpR (kNe K rfl hr.units) (pe_callS G__law_told (hr.mono (by decide)) (by rfl) m__law_told k__law_told b__law_told (fun σ => passAt takes0 σ) (pa_cons (kJoin (K := K) rfl pe_str (pe_op (kAdd K rfl) (pv 4) (pe_lst (pa_cons pe_str pa_nil)))) pa_nil)) pe_int (nomark _)))))) (pss_one (ps_ret pe_bl)) pss_nil)
 (pss_one (ps_ret (pe_and (pe_cmpR (kEq K rfl hr.units) (pe_callS G__law_told (hr.mono (by decide)) (by rfl) m__law_told k__law_told b__law_told (fun σ => passAt takes0 σ) (pa_cons pe_str pa_nil)) pe_int (nomark _)) (pe_one (pe_cmpR (kEq K rfl hr.units) (pe_callS G__law_told (hr.mono (by decide)) (by rfl) m__law_told k__law_told b__law_told (fun σ => passAt takes0 σ) (pa_cons pe_str pa_nil)) pe_int (nomark _)))))))))))))))))))))))), ?_⟩
  rintro ds μ Q X ⟨⟨a, ns⟩, rfl, q⟩
  have q : ∀ μ', Q (.bl true) μ' := q
  walk_at "w"
  refine wp_call0 ?_
  walk_at "w"
  intro p hp
  refine wpS_seq (wpS_par ?_)
  walk_at "w"
  refine wp_call0 ?_
  walk_at "w"
  refine drawS (drAt1 ⟨_, _, _, _, rfl⟩) (by decide) (by decide) fun v v0 v1 m1 hm1 => ?_
  obtain ⟨n, rfl⟩ : ∃ n : Nat, v = (n : Nat) := ⟨v.toNat, (Int.toNat_of_nonneg v0).symm⟩
  have hn : n < 8 := by omega
  walk_at "w"
  refine wp_call0 ?_
  walk_at "w"
  refine drawS (drAt1 hm1) (by decide) (by decide) fun v v0 v1 m2 hm2 => ?_
  obtain ⟨m, rfl⟩ : ∃ m : Nat, v = (m : Nat) := ⟨v.toNat, (Int.toNat_of_nonneg v0).symm⟩
  have hm : m ≤ 6 := by omega
  rw [updM_updM, updM_updM, show (1 : Int) + (n : Nat) = ((n + 1 : Nat) : Int) by omega]
  walk_at "w"
  have sl : ∀ x : Nat, x ≤ 1000 → x ≤ sizeLine := fun x hx => Nat.le_trans hx (by decide)
  have z1 : ("life " : Str).length = 5 := by decide
  have z2 : (" " : Str).length = 1 := by decide
  have z3 : ("check " : Str).length = 6 := by decide
  have ok := desk_ok hn hm
  have nr := List.mem_range.mpr hn
  have mr : m ∈ List.range 7 := List.mem_range.mpr (by omega)
  have dsm : ∀ ws ∈ dWs (n + 1) m, SmallW ws := fun ws hw => smallB_ok (dWs_small n nr m mr ws hw)
  have dne : dWs (n + 1) m ≠ [] := fun e => by have := dWs_len (n + 1) m; rw [e] at this; simp at this; omega
  refine ⟨_, _, rfl, ?_⟩
  -- the lines of the lives
  refine wpS_seq (wpS_set ?_)
  refine wp_lcF (List.range (n + 1)) (fun i => .int ((i : Nat) : Int)) [10] (fun y => _) (fun k => .str (lifeLine (nmA k, (k : Int) - 4))) (by simp) (fun y _ => wpG_name) (fun k hk μ2 => ?_) ?_
  · have hk : k < n + 1 := List.mem_range.mp hk
    have e := (sign_at k (List.mem_range.mpr (by omega))).1
    have c1 : (nmA k).length = 1 := rfl
    obtain ⟨h9, h10⟩ := num_small (i := (k : Int) - 4) (by omega)
    walk_at "w"
    refine u_ixS (sl _ (by decide)) e ?_
    refine u_addS (sl _ (by show 5 + 1 ≤ 1000; decide)) ?_
    walk_at "w"
    refine u_addS (sl _ (by rw [slen_app]; show 5 + 1 + 1 ≤ 1000; decide)) ?_
    walk_at "w"
    refine rc_strI h9 ?_
    refine u_addS (sl _ ?_) ?_
    · have hz : ((Str.ofString "life " ++ (⟨#[97 + k]⟩ : Str)) ++ Str.ofString " ").length = 7 := by rw [slen_app, slen_app]; rfl
      rw [hz]; omega
    · refine ⟨?_, rfl⟩
      unfold lifeLine
      rw [empty_app]
      rfl
  refine wpI_range1 ?_
  walk_at "w"
  refine ⟨by omega, by omega, ?_⟩
  rw [Int.toNat_natCast]
  refine ⟨by unfold rngD; exact List.map_congr_left fun i _ => by rw [Int.zero_add], by rw [List.length_range]; omega, ?_⟩
  rw [show ((List.range (n + 1)).map fun (k : Nat) => D.str (lifeLine (nmA k, (k : Int) - 4))) = (((dLs (n + 1)).map lifeWs).map lineS).map D.str from by
    unfold dLs
    rw [List.map_map, List.map_map, List.map_map]
    exact List.map_congr_left fun k _ => by show D.str (lifeLine _) = D.str (lineS (lifeWs _)); rw [lifeLine_eq]]
  -- the row
  refine wpS_seq (wpS_set (wp_join (wp_str ⟨_, rfl, ?_⟩)))
  refine wp_lcF (List.range (n + 1)) (fun i => .int ((i : Nat) : Int)) [10] (fun y => _) (fun k => .str (numT ((k : Int) - 2))) (by simp) (fun y _ => wpG_name) (fun k hk μ2 => ?_) ?_
  · have hk : k < n + 1 := List.mem_range.mp hk
    walk_at "w"
    exact rc_strI (num_small (i := (k : Int) - 2) (by omega)).1 ⟨rfl, rfl⟩
  refine wpI_range1 ?_
  walk_at "w"
  refine ⟨by omega, by omega, ?_⟩
  rw [Int.toNat_natCast]
  refine ⟨by unfold rngD; exact List.map_congr_left fun i _ => by rw [Int.zero_add], by rw [List.length_range]; omega, ?_⟩
  refine ⟨(dNs (n + 1)).map numT, .inl ?_, ?_, ?_⟩
  · unfold dNs
    rw [List.map_map, List.map_map]
    rfl
  · have hs : (((dNs (n + 1)).map numT).map (·.length)).sum ≤ ((dNs (n + 1)).map numT).length * 2 := sum_le fun z hz => by
      obtain ⟨i, hi, rfl⟩ := List.mem_map.mp hz
      obtain ⟨k, hk, rfl⟩ := List.mem_map.mp hi
      have := List.mem_range.mp hk
      exact (num_small (i := (k : Int) - 2) (by omega)).2
    have hl : ((dNs (n + 1)).map numT).length = n + 1 := by rw [List.length_map]; unfold dNs; rw [List.length_map, List.length_range]
    rw [hl] at hs ⊢
    rw [z2]
    omega
  rw [show Txt.join " " ((dNs (n + 1)).map numT) = rowS (n + 1) from rfl]
  have rl : (rowS (n + 1)).length ≤ 100 := by
    have h1 := join_len " " ((dNs (n + 1)).map numT)
    have hs : (((dNs (n + 1)).map numT).map (·.length)).sum ≤ ((dNs (n + 1)).map numT).length * 2 := sum_le fun z hz => by
      obtain ⟨i, hi, rfl⟩ := List.mem_map.mp hz
      obtain ⟨k, hk, rfl⟩ := List.mem_map.mp hi
      have := List.mem_range.mp hk
      exact (num_small (i := (k : Int) - 2) (by omega)).2
    have hl : ((dNs (n + 1)).map numT).length = n + 1 := by rw [List.length_map]; unfold dNs; rw [List.length_map, List.length_range]
    rw [hl] at hs h1
    rw [z2] at h1
    show (Txt.join " " ((dNs (n + 1)).map numT)).length ≤ 100
    omega
  -- the lines of the checks
  refine wpS_seq (wpS_set (wp_op (wp_var rfl ?_)))
  refine wp_lcF (List.range m) (fun i => .int ((i : Nat) : Int)) [10] (fun y => _) (fun k => .str (lineS (chkWs (nmC k, dNs (n + 1))))) (by simp) (fun y _ => wpG_name) (fun k hk μ2 => ?_) ?_
  · have hk : k < m := List.mem_range.mp hk
    have e := (sign_at k (List.mem_range.mpr (by omega))).2
    walk_at "w"
    refine u_ixS (sl _ (by decide)) e ?_
    refine u_addS (sl _ (by show 6 + 1 ≤ 1000; decide)) ?_
    walk_at "w"
    refine u_addS (sl _ (by rw [slen_app]; show 6 + 1 + 1 ≤ 1000; decide)) ?_
    walk_at "w"
    refine u_addS (sl _ ?_) ?_
    · have hz : ((Str.ofString "check " ++ (⟨#[115 + k]⟩ : Str)) ++ Str.ofString " ").length = 8 := by rw [slen_app, slen_app]; rfl
      rw [hz]; omega
    · refine ⟨?_, rfl⟩
      rw [← row_ws n nr k (List.mem_range.mpr (by omega))]
      rfl
  refine wpI_range1 ?_
  walk_at "w"
  refine ⟨by omega, by omega, ?_⟩
  rw [Int.toNat_natCast]
  refine ⟨by unfold rngD; exact List.map_congr_left fun i _ => by rw [Int.zero_add], by rw [List.length_range]; omega, ?_⟩
  refine u_cat (by simp only [List.length_map, List.length_range]; exact sl _ (by rw [dLs_len]; omega)) ?_
  rw [show (((dLs (n + 1)).map lifeWs).map lineS).map D.str ++ ((List.range m).map fun (k : Nat) => D.str (lineS (chkWs (nmC k, dNs (n + 1))))) = ((dWs (n + 1) m).map lineS).map D.str from by
    unfold dWs dCs
    rw [List.map_append, List.map_append]
    simp only [List.map_map]
    rfl]
  refine wpS_seq (wpS_if (wpT_test (wp_op (wp_toldJ ?_))))
  walk_at "w"
  refine ⟨dne, dsm, by rw [dWs_len]; omega, fun _ => ?_, fun k hk => ?_⟩
  rotate_left
  · rw [dWs_ok hn hm] at hk; cases hk
  walk_at "w"
  refine ⟨fun h => (by cases h), fun _ => ?_⟩
  walk_at "d"
  refine u_addS (sl _ (by show 8 + _ ≤ 1000; omega)) ?_
  walk_at "d"
  refine u_cat (sl _ (Nat.le_of_ble_eq_true rfl)) ?_
  walk_at "d"
  refine u_addS (sl _ (by show 8 + _ ≤ 1000; omega)) ?_
  walk_at "d"
  refine u_addS (sl _ (by rw [slen_app]; show 8 + _ + 2 ≤ 1000; omega)) ?_
  walk_at "d"
  refine u_addS (sl _ (by show 9 + _ ≤ 1000; omega)) ?_
  walk_at "d"
  refine u_addS (sl _ (by show 8 + _ ≤ 1000; omega)) ?_
  walk_at "d"
  refine u_addS (sl _ (by show 8 + _ ≤ 1000; omega)) ?_
  walk_at "d"
  refine u_addS (sl _ (by rw [slen_app]; show 8 + _ + 1 ≤ 1000; omega)) ?_
  walk_at "d"
  refine u_cat (sl _ (Nat.le_of_ble_eq_true rfl)) ?_
  walk_at "d"
  refine u_addS (sl _ (by show 9 + _ ≤ 1000; omega)) ?_
  walk_at "d"
  refine u_cat (sl _ (Nat.le_of_ble_eq_true rfl)) ?_
  -- the place and the line
  walk_at "w"
  refine wp_call0 ?_
  walk_at "w"
  rw [List.length_map, List.length_map, dWs_len]
  refine drawS (drAt1 hm2) (by omega) (by omega) fun v v0 v1 m3 hm3 => ?_
  obtain ⟨at', rfl⟩ : ∃ at' : Nat, v = (at' : Nat) := ⟨v.toNat, (Int.toNat_of_nonneg v0).symm⟩
  have ha : at' ≤ n + 1 + m := by omega
  rw [updM_updM]
  refine wpS_seq (wpS_set (wp_op (wp_var rfl ?_)))
  refine wp_call0 ?_
  walk_at "w"
  refine drawS (drAt1 hm3) (by show (0 : Int) < ((23 : Nat) : Int); decide) (by show ((23 : Nat) : Int) < 2 ^ 60; decide) fun v v0 v1 m4 hm4 => ?_
  rw [updM_updM]
  have hod : ∃ d, atI ((oddS (n + 1)).map D.str) v = some d ∧ d ∈ (oddS (n + 1)).map D.str := atI_in v0 v1
  obtain ⟨d, hd, hdm⟩ := hod
  obtain ⟨z, hz, rfl⟩ := List.mem_map.mp hdm
  refine u_ixL hd ?_
  rw [oddS_eq n nr] at hz
  obtain ⟨ws, hw, rfl⟩ := List.mem_map.mp hz
  have sw : SmallW ws := smallB_ok (odd_small n nr ws hw)
  clear hd hdm hz v0 v1
  have zok : PySem.PyData.strOk (lineS ws) = true := strOk_join (by decide +kernel) fun z hz => strOk_plain (sw.1.2.2 z hz).2
  have hb0 : lineS ws = "life a 1" ↔ ws = (["life", "a", "1"] : List Str) := ⟨fun h => lineS_inj sw.1 lifeA_s.1 (h.trans lifeA), fun h => by rw [h]; exact lifeA.symm⟩
  refine wpS_seqC (fun ρ μ2 => ¬ (at' = 0 ∧ ws = (["life", "a", "1"] : List Str)) ∧ ρ = [some (scriptD K a ns), some (.cell p), some (.int ((n + 1 : Nat) : Int)), some (.int (m : Nat)), some (.lst (((dWs (n + 1) m).map lineS).map .str)), some (.str (rowS (n + 1))), some (.lst ((oddS (n + 1)).map .str)), some (.int (at' : Nat)), some (.str (lineS ws)), none, none] ∧ μ2 = updM μ p m4) ?_ ?_
  · refine wpS_if ?_
    walk_at "w"
    refine ⟨fun h => ?_, fun h => ?_⟩
    · have h0 : at' = 0 := by have : ((at' : Nat) : Int) = 0 := of_decide_eq_true h; omega
      walk_at "w"
      refine r_eqS zok (by decide +kernel) ?_
      refine ⟨_, rfl, fun h => ?_, fun h => ?_⟩
      · have hws := hb0.mp (of_decide_eq_true h)
        refine wpS_ret (wp_op (wp_toldJ ?_))
        walk_at "d"
        refine u_cat (sl _ (by simp only [List.length_map, dWs_len, List.length_cons, List.length_nil]; omega)) ?_
        refine ⟨ws :: dWs (n + 1) m, rfl, by simp, fun x hx => ?_, by rw [List.length_cons, dWs_len]; omega, fun hk => ?_, fun k hk => ?_⟩
        · rcases List.mem_cons.mp hx with rfl | hx
          · exact sw
          · exact dsm x hx
        · have := first_a n nr m mr
          obtain ⟨k, hk⟩ := hk
          rw [hws] at hk
          rw [hk] at this; cases this
        · have := first_a n nr m mr
          rw [hws] at hk
          rw [hk] at this
          obtain rfl : k = 2 := by simpa using this
          walk_at "w"
          exact q _
      · have hws : ws ≠ (["life", "a", "1"] : List Str) := fun e => of_decide_eq_false h (hb0.mpr e)
        walk_at "w"
        exact ⟨fun k => hws k.2, rfl, rfl⟩
    · have h0 : at' ≠ 0 := fun e => of_decide_eq_false h (by omega)
      refine ⟨fun h => (by cases h), fun _ => ?_⟩
      walk_at "w"
      exact ⟨fun k => h0 k.1, rfl, rfl⟩
  rintro ρ μ2 ⟨hne0, rfl, rfl⟩
  refine wpS_seq (wpS_set (wp_op (wp_op (wp_slice (wp_var rfl (wpO_none (wpO_some (wp_var rfl ⟨_, rfl, _, .lst, ?_⟩))))))))
  rw [cutTake]
  walk_at "d"
  refine u_cat (sl _ (by simp only [List.length_take, List.length_map, dWs_len, List.length_cons, List.length_nil]; omega)) ?_
  refine wp_slice (wp_var rfl (wpO_some (wp_var rfl ⟨_, rfl, wpO_none ⟨_, .lst, ?_⟩⟩)))
  rw [cutDrop]
  refine u_cat (sl _ (by simp only [List.length_append, List.length_take, List.length_drop, List.length_map, dWs_len, List.length_cons, List.length_nil]; omega)) ?_
  rw [show (((dWs (n + 1) m).map lineS).map D.str).take at' ++ [D.str (lineS ws)] ++ (((dWs (n + 1) m).map lineS).map D.str).drop at' = ((((dWs (n + 1) m).take at' ++ ws :: (dWs (n + 1) m).drop at') : List (List Str)).map lineS).map D.str from by
    rw [List.map_append, List.map_append, List.map_cons, List.map_cons, List.map_take, List.map_take, List.map_drop, List.map_drop, List.append_assoc]
    rfl]
  refine wpS_seq (wpS_if (wpT_test (wp_op (wp_toldJ ?_))))
  walk_at "w"
  have hbad := bad_at hn hm ha hw hne0 ((dWs (n + 1) m).drop at')
  refine ⟨by simp, fun x hx => ?_, by rw [List.length_append, List.length_cons, List.length_take, List.length_drop, dWs_len]; omega, fun hk => ?_, fun k hk => ?_⟩
  · rcases List.mem_append.mp hx with hx | hx
    · exact dsm x (List.mem_of_mem_take hx)
    · rcases List.mem_cons.mp hx with rfl | hx
      · exact sw
      · exact dsm x (List.mem_of_mem_drop hx)
  · obtain ⟨k, hk⟩ := hk
    rw [hbad] at hk; cases hk
  rw [hbad] at hk
  cases hk
  walk_at "w"
  refine ⟨fun h => (by rw [decide_eq_true (by omega)] at h; cases h), fun _ => wpS_next ?_⟩
  -- what is put behind
  have more : ∀ (ws : List Str), SmallW ws → stepNone ⟨dLs (n + 1), dCs (n + 1) m⟩ ws = true →
      dWs (n + 1) m ++ [ws] ≠ [] ∧ (∀ x ∈ dWs (n + 1) m ++ [ws], SmallW x) ∧ (dWs (n + 1) m ++ [ws]).length ≤ 20 := fun ws h1 h2 =>
    ⟨by simp, fun x hx => by
      rcases List.mem_append.mp hx with hx | hx
      · exact dsm x hx
      · rw [List.mem_singleton] at hx; subst hx; exact h1, by rw [List.length_append, dWs_len]; show n + 1 + m + 1 ≤ 20; omega⟩
  have mapS : ∀ ws : List Str, ((dWs (n + 1) m).map lineS).map D.str ++ [D.str (lineS ws)] = ((dWs (n + 1) m ++ [ws]).map lineS).map D.str := fun ws => by rw [List.map_append, List.map_append]; rfl
  have lenS : ∀ z : D, (((dWs (n + 1) m).map lineS).map D.str).length + [z].length ≤ sizeLine := fun z => sl _ (by simp only [List.length_map, dWs_len, List.length_cons, List.length_nil]; omega)
  refine wpS_ifNo ?_ (wpS_ifNo ?_ (wpS_ifNo ?_ ?_))
  · walk_at "w"
    refine ⟨fun h => ?_, fun _ => ⟨rfl, rfl⟩⟩
    have h : (0 : Int) < (m : Nat) := of_decide_eq_true h
    refine wpT_test (wp_op (wp_toldJ ?_))
    walk_at "d"
    refine u_cat (lenS _) ?_
    rw [lifeZ, mapS]
    obtain ⟨e1, e2, e3⟩ := more _ lifeZ_s ((last_z1 n nr m mr).resolve_left (by omega))
    have e4 := last_bad hn hm ((last_z1 n nr m mr).resolve_left (by omega))
    refine ⟨_, rfl, e1, e2, e3, fun ⟨k, hk⟩ => (by rw [e4] at hk; cases hk), fun k hk => ?_⟩
    rw [e4] at hk
    cases hk
    walk_at "w"
    exact ⟨by rw [decide_eq_true (by omega)]; rfl, rfl⟩
  · walk_at "w"
    refine ⟨fun h => ?_, fun _ => ⟨rfl, rfl⟩⟩
    have h : ((m : Nat) : Int) = 6 := of_decide_eq_true h
    obtain rfl : m = 6 := by omega
    refine wpT_test (wp_op (wp_toldJ ?_))
    walk_at "d"
    refine u_addS (sl _ (by show 8 + _ ≤ 1000; omega)) ?_
    walk_at "d"
    refine u_cat (lenS _) ?_
    rw [(chkK n nr).1, mapS]
    obtain ⟨e1, e2, e3⟩ := more _ (smallB_ok (chkK n nr).2) (last_k n nr)
    have e4 := last_bad hn hm (last_k n nr)
    refine ⟨_, rfl, e1, e2, e3, fun ⟨k, hk⟩ => (by rw [e4] at hk; cases hk), fun k hk => ?_⟩
    rw [e4] at hk
    cases hk
    walk_at "w"
    exact ⟨by rw [decide_eq_true (by omega)]; rfl, rfl⟩
  · walk_at "w"
    refine ⟨fun h => ?_, fun _ => ⟨rfl, rfl⟩⟩
    have h : ((n + 1 : Nat) : Int) = 8 := of_decide_eq_true h
    obtain rfl : n = 7 := by omega
    walk_at "w"
    refine ⟨fun h => ?_, fun _ => ⟨rfl, rfl⟩⟩
    have h : ((m : Nat) : Int) = 0 := of_decide_eq_true h
    obtain rfl : m = 0 := by omega
    refine wpT_test (wp_op (wp_toldJ ?_))
    walk_at "d"
    refine u_cat (lenS _) ?_
    rw [lifeZ, mapS]
    obtain ⟨e1, e2, e3⟩ := more _ lifeZ_s last_z8
    have e4 := last_bad hn hm last_z8
    refine ⟨_, rfl, e1, e2, e3, fun ⟨k, hk⟩ => (by rw [e4] at hk; cases hk), fun k hk => ?_⟩
    rw [e4] at hk
    cases hk
    walk_at "w"
  · refine wpS_ret (wp_andV (wp_op (wp_told1 (ws := ["check", "k"]) (by decide +kernel) (smallB_ok (by decide +kernel)) rfl ?_)))
    walk_at "w"
    refine ⟨fun _ => ?_, fun h => (by cases h)⟩
    refine wp_op (wp_told1 (ws := [""]) (by decide +kernel) (smallB_ok (by decide +kernel)) rfl ?_)
    walk_at "w"
    exact q _
end
theorem law_start {K : PySem.W.Frag} {H : Hp} {a : Addr} {ns : List Int} (hS : SqL K H a (ns.map V.int)) : spOf (S_law_k09 K) [.ref a] H (fun v _ => v = .bl true) fun _ _ _ => False := by
  refine ⟨[scriptD K a ns], fun _ => none, H, fun d _ => d = .bl true, fun _ _ => False, ⟨(a, ns), rfl, fun _ => rfl⟩, .cons (.known fun H' e => hS.elim (fun h => .inl (h.elim (fun h => .inl (e _ _ h)) fun ⟨o, h⟩ => .inr ⟨o, e _ _ h⟩)) fun h => .inr h) .nil, ⟨Ex.refl H, fun b m e => by cases e⟩, ?_, fun _ _ _ _ _ _ _ _ _ z => z⟩
  rintro v d μ' G' H' _ _ r rfl
  cases r; rfl
end SB

namespace SB
open PySem PySem.Spec PyProof.Rows L2
theorem kit_self {K : PySem.W.Frag} (t : Value) : PySem.W.kitOne K t t = some true := by
  unfold PySem.W.kitOne
  rw [if_pos (by simp)]
theorem kit_is {K : PySem.W.Frag} {C : Addr} {t : Value} {b : Bool} (iC : PySem.W.isClsIn K C = true) (tC : PySem.W.typeIn K (.ref C) = some (.type "type")) (h : PySem.W.subIn K t (.ref C) = some b) (hn : (t == .ref C) = false) : PySem.W.kitOne K t (.ref C) = some b := by
  have e2 : ((PySem.W.clsIn K C).isSome && PySem.W.typeIn K (.ref C) == some (.type "type")) = true := by
    have h2 : (PySem.W.clsIn K C).isSome = true := iC
    rw [h2, tC]; rfl
  unfold PySem.W.kitOne PySem.W.kitCls
  rw [hn, if_neg (by decide)]
  simp only []
  rw [if_pos e2, h]
theorem exm_is {K : PySem.W.Frag} {C : Addr} {t : Value} {b : Bool} (bC : PySem.W.subIn K (.ref C) (.type "BaseException") = some true) (iC : PySem.W.isClsIn K C = true) (tC : PySem.W.typeIn K (.ref C) = some (.type "type")) (h : PySem.W.subIn K t (.ref C) = some b) : PySem.W.exmOne K t (.ref C) = some b := by
  have e1 : (PySem.W.subIn K (.ref C) (.type "BaseException") == some true) = true := by rw [bC]; rfl
  have e2 : ((PySem.W.clsIn K C).isSome && PySem.W.typeIn K (.ref C) == some (.type "type")) = true := by
    have h2 : (PySem.W.clsIn K C).isSome = true := iC
    rw [h2, tC]; rfl
  unfold PySem.W.exmOne PySem.W.kitCls
  rw [if_pos e1]
  simp only []
  rw [if_pos e2, h]
theorem all_mk {P : Program} {w : World} {K : PySem.W.Frag} {h : Heap} {mg : Str → Option Value} {fa C_BadDesk C_BadLine C_Desk : Addr} (X : K.In h) (G : h.Ns mainGlobals mg) (hfa : mg "law" = some (.ref fa))
    {t_FIGURES : Tok}
    {t_MOST_CHECKS : Tok}
    {t_MOST_LIVES : Tok}
    {t_SMALL : Tok}
    {nmL qL : Str} {NL f_BadLine : Addr} {bsL subL bmL : List Value} {snL : List Str} {abL : Bool} {colL : Option Bool} {ddL : Option Addr} {m0L m1L m2L m3L m5L : Option Value} {odL anL : Option Addr} {slL : Array (Option Value)} {ocL dcL pmL cdL ctL : Value}
    {f__law_begin : Addr} {od__law_begin an__law_begin : Option Addr} {sl__law_begin : Array (Option Value)} {oc__law_begin kV__law_begin dc__law_begin pm__law_begin cd__law_begin ct__law_begin : Value}
    {f__law_draw : Addr} {od__law_draw an__law_draw : Option Addr} {sl__law_draw : Array (Option Value)} {oc__law_draw kV__law_draw dc__law_draw pm__law_draw cd__law_draw ct__law_draw : Value}
    {f_are_unlike : Addr} {od_are_unlike an_are_unlike : Option Addr} {sl_are_unlike : Array (Option Value)} {oc_are_unlike kV_are_unlike dc_are_unlike pm_are_unlike cd_are_unlike ct_are_unlike : Value}
    {f_is_word : Addr} {od_is_word an_is_word : Option Addr} {sl_is_word : Array (Option Value)} {oc_is_word kV_is_word dc_is_word pm_is_word cd_is_word ct_is_word : Value}
    {f_is_pair : Addr} {od_is_pair an_is_pair : Option Addr} {sl_is_pair : Array (Option Value)} {oc_is_pair kV_is_pair dc_is_pair pm_is_pair cd_is_pair ct_is_pair : Value}
    {f_is_whole : Addr} {od_is_whole an_is_whole : Option Addr} {sl_is_whole : Array (Option Value)} {oc_is_whole kV_is_whole dc_is_whole pm_is_whole cd_is_whole ct_is_whole : Value}
    {f_is_small : Addr} {od_is_small an_is_small : Option Addr} {sl_is_small : Array (Option Value)} {oc_is_small kV_is_small dc_is_small pm_is_small cd_is_small ct_is_small : Value}
    {f_is_check : Addr} {od_is_check an_is_check : Option Addr} {sl_is_check : Array (Option Value)} {oc_is_check kV_is_check dc_is_check pm_is_check cd_is_check ct_is_check : Value}
    {f_are_checks : Addr} {od_are_checks an_are_checks : Option Addr} {sl_are_checks : Array (Option Value)} {oc_are_checks kV_are_checks dc_are_checks pm_are_checks cd_are_checks ct_are_checks : Value}
    {f_are_lives : Addr} {od_are_lives an_are_lives : Option Addr} {sl_are_lives : Array (Option Value)} {oc_are_lives kV_are_lives dc_are_lives pm_are_lives cd_are_lives ct_are_lives : Value}
    {f_Desk___init__ : Addr} {od_Desk___init__ an_Desk___init__ : Option Addr} {sl_Desk___init__ : Array (Option Value)} {oc_Desk___init__ kV_Desk___init__ dc_Desk___init__ pm_Desk___init__ cd_Desk___init__ ct_Desk___init__ : Value}
    {f_number_of : Addr} {od_number_of an_number_of : Option Addr} {sl_number_of : Array (Option Value)} {oc_number_of kV_number_of dc_number_of pm_number_of cd_number_of ct_number_of : Value}
    {f_check_in : Addr} {od_check_in an_check_in : Option Addr} {sl_check_in : Array (Option Value)} {oc_check_in kV_check_in dc_check_in pm_check_in cd_check_in ct_check_in : Value}
    {f_life_in : Addr} {od_life_in an_life_in : Option Addr} {sl_life_in : Array (Option Value)} {oc_life_in kV_life_in dc_life_in pm_life_in cd_life_in ct_life_in : Value}
    {f_read : Addr} {od_read an_read : Option Addr} {sl_read : Array (Option Value)} {oc_read kV_read dc_read pm_read cd_read ct_read : Value}
    {f__law_told : Addr} {od__law_told an__law_told : Option Addr} {sl__law_told : Array (Option Value)} {oc__law_told kV__law_told dc__law_told pm__law_told cd__law_told ct__law_told : Value}
    {f_law : Addr} {od_law an_law : Option Addr} {sl_law : Array (Option Value)} {oc_law kV_law dc_law pm_law cd_law ct_law : Value}
    (n_FIGURES : PySem.W.nsIn K mainGlobals "FIGURES" = some (some (.str "0123456789" t_FIGURES)))
    (n_MOST_CHECKS : PySem.W.nsIn K mainGlobals "MOST_CHECKS" = some (some (.int 6 t_MOST_CHECKS)))
    (n_MOST_LIVES : PySem.W.nsIn K mainGlobals "MOST_LIVES" = some (some (.int 8 t_MOST_LIVES)))
    (n_SMALL : PySem.W.nsIn K mainGlobals "SMALL" = some (some (.str "abcdefghijklmnopqrstuvwxyz" t_SMALL)))
    (a_BadDesk : PySem.W.nsIn K mainGlobals "BadDesk" = some (some (.ref C_BadDesk)))
    (kc_BadDesk : PySem.W.keepIn K (.ref C_BadDesk) = true)
    (ic_BadDesk : PySem.W.isClsIn K C_BadDesk = true)
    (tc_BadDesk : PySem.W.typeIn K (.ref C_BadDesk) = some (.type "type"))
    (sc_BadDesk : PySem.W.subIn K (.ref C_BadDesk) (.ref C_BadDesk) = some true)
    (bp_BadDesk : PySem.W.subIn K (.ref C_BadDesk) (.type "BaseException") = some true)
    (xp_BadDesk : PySem.W.excIn K C_BadDesk [.type "ValueError", .type "Exception", .type "BaseException", .type "object"] "ValueError.__new__" = true)
    (a_BadLine : PySem.W.nsIn K mainGlobals "BadLine" = some (some (.ref C_BadLine)))
    (xl_BadLine : K.lookup C_BadLine = some (excClassObj nmL qL C_BadLine NL bsL bmL true snL subL abL colL ddL m0L m1L m2L m3L m5L "ValueError.__new__"))
    (rv_BadLine : PySem.HandSPX.refsVE bmL = true)
    (sa_BadLine : PySem.W.findIn K (.ref C_BadLine) "__setattr__" = some (some (.builtin "object.__setattr__")))
    (ga_BadLine : PySem.W.findIn K (.ref C_BadLine) "__getattribute__" = some (some (.builtin "BaseException.__getattribute__")))
    (gg_BadLine : PySem.W.findIn K (.ref C_BadLine) "__getattr__" = some none)
    (nb_BadLine : PySem.W.findIn K (.ref C_BadLine) "line" = some none)
    (ai_BadLine : PySem.W.findIn K (.ref C_BadLine) "__init__" = some (some (.ref f_BadLine)))
    (ti_BadLine : PySem.W.typeIn K (.ref f_BadLine) = some (.type "function"))
    (li_BadLine : K.lookup f_BadLine = some ⟨ocL, odL, .func (PySem.W.fnOf "__init__" "BadLine.__init__" (PySem.LowX.iA ⟨8, 17, 8, 21⟩ ⟨8, 23, 8, 27⟩) (PySem.LowX.iB ⟨9, 8, 9, 12⟩ ⟨9, 8, 9, 17⟩ ⟨9, 20, 9, 24⟩ ⟨9, 8, 9, 24⟩) PySem.LowX.iS .none .none dcL pmL anL cdL ctL), slL⟩)
    (ci_BadLine : PySem.W.codeIn K cdL "BadLine.__init__" = true)
    (kc_BadLine : PySem.W.keepIn K (.ref C_BadLine) = true)
    (bp_BadLine : PySem.W.subIn K (.ref C_BadLine) (.type "BaseException") = some true)
    (tc_BadLine : PySem.W.typeIn K (.ref C_BadLine) = some (.type "type"))
    (hd_BadLine : PySem.W.hasDictIn K C_BadLine = true)
    (ic_BadLine : PySem.W.isClsIn K C_BadLine = true)
    (sc_BadLine : PySem.W.subIn K (.ref C_BadLine) (.ref C_BadLine) = some true)
    (a_Desk : PySem.W.nsIn K mainGlobals "Desk" = some (some (.ref C_Desk)))
    (kc_Desk : PySem.W.keepIn K (.ref C_Desk) = true)
    (ic_Desk : PySem.W.isClsIn K C_Desk = true)
    (tc_Desk : PySem.W.typeIn K (.ref C_Desk) = some (.type "type"))
    (sc_Desk : PySem.W.subIn K (.ref C_Desk) (.ref C_Desk) = some true)
    (pg_Desk : PySem.W.plainGet K C_Desk Str.empty = true)
    (hd_Desk : PySem.W.hasDictIn K C_Desk = true)
    (po_Desk : PySem.W.plainOver K C_Desk = true)
    (sa_Desk : PySem.W.findIn K (.ref C_Desk) "__setattr__" = some (some (.builtin "object.__setattr__")))
    (mk_Desk : PySem.W.makesIn K C_Desk = true)
    (ha_Desk : PySem.W.findIn K (.ref C_Desk) "__class__" = some (some (.builtin "object.__class__")))
    (hm_Desk : PySem.W.mroIn K C_Desk (.type "object") = some true)
    (nf_Desk : PySem.W.notFirst K C_Desk (.ref C_Desk) = true)
    (no_lives_Desk : PySem.W.findIn K (.ref C_Desk) "lives" = some none)
    (no_checks_Desk : PySem.W.findIn K (.ref C_Desk) "checks" = some none)
    (nl_Desk : PySem.W.notFirst K C_Desk (.type "list") = true)
    (sl_Desk : PySem.W.subIn K (.type "list") (.ref C_Desk) = some false)
    (hn_Desk : PySem.W.specialIn K (.builtin "object.__class__") "__get__" = some (some (.builtin "getset_descriptor.__get__")))
    (ht_Desk : PySem.W.takesIn K (.builtin "object.__class__") = some true)
    (a__law_begin : PySem.W.nsIn K mainGlobals "_law_begin" = some (some (.ref f__law_begin)))
    (l__law_begin : K.lookup f__law_begin = some ⟨oc__law_begin, od__law_begin, .func (PySem.W.fnOf "_law_begin" "_law_begin" (defArgs s__law_begin) (defBody s__law_begin) (defScope s__law_begin) .none kV__law_begin dc__law_begin pm__law_begin an__law_begin cd__law_begin ct__law_begin), sl__law_begin⟩)
    (c__law_begin : PySem.W.codeIn K cd__law_begin "_law_begin" = true)
    (k__law_begin : PySem.W.keepIn K (.ref f__law_begin) = true)
    (a__law_draw : PySem.W.nsIn K mainGlobals "_law_draw" = some (some (.ref f__law_draw)))
    (l__law_draw : K.lookup f__law_draw = some ⟨oc__law_draw, od__law_draw, .func (PySem.W.fnOf "_law_draw" "_law_draw" (defArgs s__law_draw) (defBody s__law_draw) (defScope s__law_draw) .none kV__law_draw dc__law_draw pm__law_draw an__law_draw cd__law_draw ct__law_draw), sl__law_draw⟩)
    (c__law_draw : PySem.W.codeIn K cd__law_draw "_law_draw" = true)
    (k__law_draw : PySem.W.keepIn K (.ref f__law_draw) = true)
    (a_are_unlike : PySem.W.nsIn K mainGlobals "are_unlike" = some (some (.ref f_are_unlike)))
    (l_are_unlike : K.lookup f_are_unlike = some ⟨oc_are_unlike, od_are_unlike, .func (PySem.W.fnOf "are_unlike" "are_unlike" (defArgs s_are_unlike) (defBody s_are_unlike) (defScope s_are_unlike) .none kV_are_unlike dc_are_unlike pm_are_unlike an_are_unlike cd_are_unlike ct_are_unlike), sl_are_unlike⟩)
    (c_are_unlike : PySem.W.codeIn K cd_are_unlike "are_unlike" = true)
    (k_are_unlike : PySem.W.keepIn K (.ref f_are_unlike) = true)
    (a_is_word : PySem.W.nsIn K mainGlobals "is_word" = some (some (.ref f_is_word)))
    (l_is_word : K.lookup f_is_word = some ⟨oc_is_word, od_is_word, .func (PySem.W.fnOf "is_word" "is_word" (defArgs s_is_word) (defBody s_is_word) (defScope s_is_word) .none kV_is_word dc_is_word pm_is_word an_is_word cd_is_word ct_is_word), sl_is_word⟩)
    (c_is_word : PySem.W.codeIn K cd_is_word "is_word" = true)
    (k_is_word : PySem.W.keepIn K (.ref f_is_word) = true)
    (a_is_pair : PySem.W.nsIn K mainGlobals "is_pair" = some (some (.ref f_is_pair)))
    (l_is_pair : K.lookup f_is_pair = some ⟨oc_is_pair, od_is_pair, .func (PySem.W.fnOf "is_pair" "is_pair" (defArgs s_is_pair) (defBody s_is_pair) (defScope s_is_pair) .none kV_is_pair dc_is_pair pm_is_pair an_is_pair cd_is_pair ct_is_pair), sl_is_pair⟩)
    (c_is_pair : PySem.W.codeIn K cd_is_pair "is_pair" = true)
    (k_is_pair : PySem.W.keepIn K (.ref f_is_pair) = true)
    (a_is_whole : PySem.W.nsIn K mainGlobals "is_whole" = some (some (.ref f_is_whole)))
    (l_is_whole : K.lookup f_is_whole = some ⟨oc_is_whole, od_is_whole, .func (PySem.W.fnOf "is_whole" "is_whole" (defArgs s_is_whole) (defBody s_is_whole) (defScope s_is_whole) .none kV_is_whole dc_is_whole pm_is_whole an_is_whole cd_is_whole ct_is_whole), sl_is_whole⟩)
    (c_is_whole : PySem.W.codeIn K cd_is_whole "is_whole" = true)
    (k_is_whole : PySem.W.keepIn K (.ref f_is_whole) = true)
    (a_is_small : PySem.W.nsIn K mainGlobals "is_small" = some (some (.ref f_is_small)))
    (l_is_small : K.lookup f_is_small = some ⟨oc_is_small, od_is_small, .func (PySem.W.fnOf "is_small" "is_small" (defArgs s_is_small) (defBody s_is_small) (defScope s_is_small) .none kV_is_small dc_is_small pm_is_small an_is_small cd_is_small ct_is_small), sl_is_small⟩)
    (c_is_small : PySem.W.codeIn K cd_is_small "is_small" = true)
    (k_is_small : PySem.W.keepIn K (.ref f_is_small) = true)
    (a_is_check : PySem.W.nsIn K mainGlobals "is_check" = some (some (.ref f_is_check)))
    (l_is_check : K.lookup f_is_check = some ⟨oc_is_check, od_is_check, .func (PySem.W.fnOf "is_check" "is_check" (defArgs s_is_check) (defBody s_is_check) (defScope s_is_check) .none kV_is_check dc_is_check pm_is_check an_is_check cd_is_check ct_is_check), sl_is_check⟩)
    (c_is_check : PySem.W.codeIn K cd_is_check "is_check" = true)
    (k_is_check : PySem.W.keepIn K (.ref f_is_check) = true)
    (a_are_checks : PySem.W.nsIn K mainGlobals "are_checks" = some (some (.ref f_are_checks)))
    (l_are_checks : K.lookup f_are_checks = some ⟨oc_are_checks, od_are_checks, .func (PySem.W.fnOf "are_checks" "are_checks" (defArgs s_are_checks) (defBody s_are_checks) (defScope s_are_checks) .none kV_are_checks dc_are_checks pm_are_checks an_are_checks cd_are_checks ct_are_checks), sl_are_checks⟩)
    (c_are_checks : PySem.W.codeIn K cd_are_checks "are_checks" = true)
    (k_are_checks : PySem.W.keepIn K (.ref f_are_checks) = true)
    (a_are_lives : PySem.W.nsIn K mainGlobals "are_lives" = some (some (.ref f_are_lives)))
    (l_are_lives : K.lookup f_are_lives = some ⟨oc_are_lives, od_are_lives, .func (PySem.W.fnOf "are_lives" "are_lives" (defArgs s_are_lives) (defBody s_are_lives) (defScope s_are_lives) .none kV_are_lives dc_are_lives pm_are_lives an_are_lives cd_are_lives ct_are_lives), sl_are_lives⟩)
    (c_are_lives : PySem.W.codeIn K cd_are_lives "are_lives" = true)
    (k_are_lives : PySem.W.keepIn K (.ref f_are_lives) = true)
    (a_Desk___init__ : PySem.W.findIn K (.ref C_Desk) "__init__" = some (some (.ref f_Desk___init__)))
    (i_Desk___init__ : PySem.W.isFn K (.ref f_Desk___init__) = true)
    (l_Desk___init__ : K.lookup f_Desk___init__ = some ⟨oc_Desk___init__, od_Desk___init__, .func (PySem.W.fnOf "__init__" "Desk.__init__" (defArgs s_Desk___init__) (defBody s_Desk___init__) (defScope s_Desk___init__) .none kV_Desk___init__ dc_Desk___init__ pm_Desk___init__ an_Desk___init__ cd_Desk___init__ ct_Desk___init__), sl_Desk___init__⟩)
    (c_Desk___init__ : PySem.W.codeIn K cd_Desk___init__ "Desk.__init__" = true)
    (k_Desk___init__ : PySem.W.keepIn K (.ref f_Desk___init__) = true)
    (a_number_of : PySem.W.nsIn K mainGlobals "number_of" = some (some (.ref f_number_of)))
    (l_number_of : K.lookup f_number_of = some ⟨oc_number_of, od_number_of, .func (PySem.W.fnOf "number_of" "number_of" (defArgs s_number_of) (defBody s_number_of) (defScope s_number_of) .none kV_number_of dc_number_of pm_number_of an_number_of cd_number_of ct_number_of), sl_number_of⟩)
    (c_number_of : PySem.W.codeIn K cd_number_of "number_of" = true)
    (k_number_of : PySem.W.keepIn K (.ref f_number_of) = true)
    (a_check_in : PySem.W.nsIn K mainGlobals "check_in" = some (some (.ref f_check_in)))
    (l_check_in : K.lookup f_check_in = some ⟨oc_check_in, od_check_in, .func (PySem.W.fnOf "check_in" "check_in" (defArgs s_check_in) (defBody s_check_in) (defScope s_check_in) .none kV_check_in dc_check_in pm_check_in an_check_in cd_check_in ct_check_in), sl_check_in⟩)
    (c_check_in : PySem.W.codeIn K cd_check_in "check_in" = true)
    (k_check_in : PySem.W.keepIn K (.ref f_check_in) = true)
    (a_life_in : PySem.W.nsIn K mainGlobals "life_in" = some (some (.ref f_life_in)))
    (l_life_in : K.lookup f_life_in = some ⟨oc_life_in, od_life_in, .func (PySem.W.fnOf "life_in" "life_in" (defArgs s_life_in) (defBody s_life_in) (defScope s_life_in) .none kV_life_in dc_life_in pm_life_in an_life_in cd_life_in ct_life_in), sl_life_in⟩)
    (c_life_in : PySem.W.codeIn K cd_life_in "life_in" = true)
    (k_life_in : PySem.W.keepIn K (.ref f_life_in) = true)
    (a_read : PySem.W.nsIn K mainGlobals "read" = some (some (.ref f_read)))
    (l_read : K.lookup f_read = some ⟨oc_read, od_read, .func (PySem.W.fnOf "read" "read" (defArgs s_read) (defBody s_read) (defScope s_read) .none kV_read dc_read pm_read an_read cd_read ct_read), sl_read⟩)
    (c_read : PySem.W.codeIn K cd_read "read" = true)
    (k_read : PySem.W.keepIn K (.ref f_read) = true)
    (a__law_told : PySem.W.nsIn K mainGlobals "_law_told" = some (some (.ref f__law_told)))
    (l__law_told : K.lookup f__law_told = some ⟨oc__law_told, od__law_told, .func (PySem.W.fnOf "_law_told" "_law_told" (defArgs s__law_told) (defBody s__law_told) (defScope s__law_told) .none kV__law_told dc__law_told pm__law_told an__law_told cd__law_told ct__law_told), sl__law_told⟩)
    (c__law_told : PySem.W.codeIn K cd__law_told "_law_told" = true)
    (k__law_told : PySem.W.keepIn K (.ref f__law_told) = true)
    (a_law : PySem.W.nsIn K mainGlobals "law" = some (some (.ref f_law)))
    (l_law : K.lookup f_law = some ⟨oc_law, od_law, .func (PySem.W.fnOf "law" "law" (defArgs s_law) (defBody s_law) (defScope s_law) .none kV_law dc_law pm_law an_law cd_law ct_law), sl_law⟩)
    (c_law : PySem.W.codeIn K cd_law "law" = true)
    (k_law : PySem.W.keepIn K (.ref f_law) = true)
    (z_len : PySem.W.nsIn K mainGlobals "len" = some none)
    (z_sum : PySem.W.nsIn K mainGlobals "sum" = some none)
    (z_zip : PySem.W.nsIn K mainGlobals "zip" = some none)
    (z_range : PySem.W.nsIn K mainGlobals "range" = some none)
    (z_enumerate : PySem.W.nsIn K mainGlobals "enumerate" = some none)
    (z_tuple : PySem.W.nsIn K mainGlobals "tuple" = some none)
    (z_list : PySem.W.nsIn K mainGlobals "list" = some none)
    (z_int : PySem.W.nsIn K mainGlobals "int" = some none)
    (z_str : PySem.W.nsIn K mainGlobals "str" = some none)
    (z_bool : PySem.W.nsIn K mainGlobals "bool" = some none)
    (z_isinstance : PySem.W.nsIn K mainGlobals "isinstance" = some none)
    (z_all : PySem.W.nsIn K mainGlobals "all" = some none)
    (z_any : PySem.W.nsIn K mainGlobals "any" = some none)
    (z_sorted : PySem.W.nsIn K mainGlobals "sorted" = some none)
    (z_max : PySem.W.nsIn K mainGlobals "max" = some none)
    (z_min : PySem.W.nsIn K mainGlobals "min" = some none)
    (z_abs : PySem.W.nsIn K mainGlobals "abs" = some none)
    : ∃ fd : FuncData, (∀ (s : Shared) (v : Value), BindsTo s fd ⟨[v], []⟩ [("_law_script", v)]) ∧ ∀ base : Heap, K.In base → base.Ns mainGlobals mg → FnOk P w K mg base (L2.CX P w) 9 fa fd ["_law_script"] (spOf (S_law_k09 K)) := by
  have e := hfa.symm.trans (PySem.W.mg_of X G a_law)
  cases e
  have T_BadDesk : ExcF K mg "BadDesk" C_BadDesk := ⟨PySem.W.mg_of X G a_BadDesk, xp_BadDesk, kc_BadDesk, bp_BadDesk, tc_BadDesk, exm_is bp_BadDesk ic_BadDesk tc_BadDesk sc_BadDesk⟩
  have T_BadLine : PySem.LowX.LowTxt K mg C_BadLine f_BadLine := { gC := PySem.W.mg_of X G a_BadLine, cls := ⟨nmL, qL, NL, bsL, bmL, snL, subL, abL, colL, ddL, m0L, m1L, m2L, m3L, m5L, xl_BadLine, rv_BadLine⟩, sa := sa_BadLine, ga := ga_BadLine, gg := gg_BadLine, noN := nb_BadLine, iC := ai_BadLine, tC := ti_BadLine, kC := kc_BadLine, exC := bp_BadLine, tyC := tc_BadLine, hdC := hd_BadLine, te := exm_is bp_BadLine ic_BadLine tc_BadLine sc_BadLine, fn := ⟨_, _, _, _, _, _, _, _, _, _, _, _, _, _, li_BadLine, ci_BadLine⟩ }
  have T_Desk : DeskF K mg C_Desk := ⟨PySem.W.mg_of X G a_Desk, ⟨⟨pg_Desk, hd_Desk, po_Desk, sa_Desk⟩, ha_Desk, hn_Desk, ht_Desk, hm_Desk⟩, no_lives_Desk, no_checks_Desk, kit_self _, nf_Desk, nl_Desk, kit_is ic_Desk tc_Desk sl_Desk (by rfl)⟩
  have F__law_begin := fun_mk (st := s__law_begin) l__law_begin c__law_begin k__law_begin
  have b__law_begin := F__law_begin.binds (ps := ["_law_script"]) fun _ _ _ _ _ _ us hl => match us, hl with | [_], _ => rfl
  have src__law_begin : Src K mg "_law_begin" s__law_begin ["_law_script"] := ⟨_, _, F__law_begin, PySem.W.mg_of X G a__law_begin, b__law_begin⟩
  have F__law_draw := fun_mk (st := s__law_draw) l__law_draw c__law_draw k__law_draw
  have b__law_draw := F__law_draw.binds (ps := ["_law_draws", "_law_size"]) fun _ _ _ _ _ _ us hl => match us, hl with | [_, _], _ => rfl
  have src__law_draw : Src K mg "_law_draw" s__law_draw ["_law_draws", "_law_size"] := ⟨_, _, F__law_draw, PySem.W.mg_of X G a__law_draw, b__law_draw⟩
  have F_are_unlike := fun_mk (st := s_are_unlike) l_are_unlike c_are_unlike k_are_unlike
  have b_are_unlike := F_are_unlike.binds (ps := ["pairs"]) fun _ _ _ _ _ _ us hl => match us, hl with | [_], _ => rfl
  have src_are_unlike : Src K mg "are_unlike" s_are_unlike ["pairs"] := ⟨_, _, F_are_unlike, PySem.W.mg_of X G a_are_unlike, b_are_unlike⟩
  have F_is_word := fun_mk (st := s_is_word) l_is_word c_is_word k_is_word
  have b_is_word := F_is_word.binds (ps := ["thing"]) fun _ _ _ _ _ _ us hl => match us, hl with | [_], _ => rfl
  have src_is_word : Src K mg "is_word" s_is_word ["thing"] := ⟨_, _, F_is_word, PySem.W.mg_of X G a_is_word, b_is_word⟩
  have F_is_pair := fun_mk (st := s_is_pair) l_is_pair c_is_pair k_is_pair
  have b_is_pair := F_is_pair.binds (ps := ["thing"]) fun _ _ _ _ _ _ us hl => match us, hl with | [_], _ => rfl
  have src_is_pair : Src K mg "is_pair" s_is_pair ["thing"] := ⟨_, _, F_is_pair, PySem.W.mg_of X G a_is_pair, b_is_pair⟩
  have F_is_whole := fun_mk (st := s_is_whole) l_is_whole c_is_whole k_is_whole
  have b_is_whole := F_is_whole.binds (ps := ["thing"]) fun _ _ _ _ _ _ us hl => match us, hl with | [_], _ => rfl
  have src_is_whole : Src K mg "is_whole" s_is_whole ["thing"] := ⟨_, _, F_is_whole, PySem.W.mg_of X G a_is_whole, b_is_whole⟩
  have F_is_small := fun_mk (st := s_is_small) l_is_small c_is_small k_is_small
  have b_is_small := F_is_small.binds (ps := ["thing"]) fun _ _ _ _ _ _ us hl => match us, hl with | [_], _ => rfl
  have src_is_small : Src K mg "is_small" s_is_small ["thing"] := ⟨_, _, F_is_small, PySem.W.mg_of X G a_is_small, b_is_small⟩
  have F_is_check := fun_mk (st := s_is_check) l_is_check c_is_check k_is_check
  have b_is_check := F_is_check.binds (ps := ["thing", "many"]) fun _ _ _ _ _ _ us hl => match us, hl with | [_, _], _ => rfl
  have src_is_check : Src K mg "is_check" s_is_check ["thing", "many"] := ⟨_, _, F_is_check, PySem.W.mg_of X G a_is_check, b_is_check⟩
  have F_are_checks := fun_mk (st := s_are_checks) l_are_checks c_are_checks k_are_checks
  have b_are_checks := F_are_checks.binds (ps := ["thing", "many"]) fun _ _ _ _ _ _ us hl => match us, hl with | [_, _], _ => rfl
  have src_are_checks : Src K mg "are_checks" s_are_checks ["thing", "many"] := ⟨_, _, F_are_checks, PySem.W.mg_of X G a_are_checks, b_are_checks⟩
  have F_are_lives := fun_mk (st := s_are_lives) l_are_lives c_are_lives k_are_lives
  have b_are_lives := F_are_lives.binds (ps := ["thing"]) fun _ _ _ _ _ _ us hl => match us, hl with | [_], _ => rfl
  have src_are_lives : Src K mg "are_lives" s_are_lives ["thing"] := ⟨_, _, F_are_lives, PySem.W.mg_of X G a_are_lives, b_are_lives⟩
  have F_Desk___init__ := fun_mk (st := s_Desk___init__) l_Desk___init__ c_Desk___init__ k_Desk___init__
  have b_Desk___init__ := F_Desk___init__.binds (ps := ["self", "lives", "checks"]) fun _ _ _ _ _ _ us hl => match us, hl with | [_, _, _], _ => rfl
  have src_Desk___init__ : SrcI K C_Desk "Desk.__init__" s_Desk___init__ ["self", "lives", "checks"] := ⟨_, _, F_Desk___init__, ⟨mk_Desk, a_Desk___init__, i_Desk___init__, kc_Desk⟩, b_Desk___init__⟩
  have F_number_of := fun_mk (st := s_number_of) l_number_of c_number_of k_number_of
  have b_number_of := F_number_of.binds (ps := ["word"]) fun _ _ _ _ _ _ us hl => match us, hl with | [_], _ => rfl
  have src_number_of : Src K mg "number_of" s_number_of ["word"] := ⟨_, _, F_number_of, PySem.W.mg_of X G a_number_of, b_number_of⟩
  have F_check_in := fun_mk (st := s_check_in) l_check_in c_check_in k_check_in
  have b_check_in := F_check_in.binds (ps := ["words", "lives", "checks"]) fun _ _ _ _ _ _ us hl => match us, hl with | [_, _, _], _ => rfl
  have src_check_in : Src K mg "check_in" s_check_in ["words", "lives", "checks"] := ⟨_, _, F_check_in, PySem.W.mg_of X G a_check_in, b_check_in⟩
  have F_life_in := fun_mk (st := s_life_in) l_life_in c_life_in k_life_in
  have b_life_in := F_life_in.binds (ps := ["words", "lives"]) fun _ _ _ _ _ _ us hl => match us, hl with | [_, _], _ => rfl
  have src_life_in : Src K mg "life_in" s_life_in ["words", "lives"] := ⟨_, _, F_life_in, PySem.W.mg_of X G a_life_in, b_life_in⟩
  have F_read := fun_mk (st := s_read) l_read c_read k_read
  have b_read := F_read.binds (ps := ["text"]) fun _ _ _ _ _ _ us hl => match us, hl with | [_], _ => rfl
  have src_read : Src K mg "read" s_read ["text"] := ⟨_, _, F_read, PySem.W.mg_of X G a_read, b_read⟩
  have F__law_told := fun_mk (st := s__law_told) l__law_told c__law_told k__law_told
  have b__law_told := F__law_told.binds (ps := ["_law_text"]) fun _ _ _ _ _ _ us hl => match us, hl with | [_], _ => rfl
  have src__law_told : Src K mg "_law_told" s__law_told ["_law_text"] := ⟨_, _, F__law_told, PySem.W.mg_of X G a__law_told, b__law_told⟩
  have F_law := fun_mk (st := s_law) l_law c_law k_law
  have B : Bt mg := ⟨PySem.W.mg_none_of X G z_len, PySem.W.mg_none_of X G z_sum, PySem.W.mg_none_of X G z_zip, PySem.W.mg_none_of X G z_range, PySem.W.mg_none_of X G z_enumerate, PySem.W.mg_none_of X G z_tuple, PySem.W.mg_none_of X G z_list, PySem.W.mg_none_of X G z_int, PySem.W.mg_none_of X G z_str, PySem.W.mg_none_of X G z_bool, PySem.W.mg_none_of X G z_isinstance, PySem.W.mg_none_of X G z_all, PySem.W.mg_none_of X G z_any, PySem.W.mg_none_of X G z_sorted, PySem.W.mg_none_of X G z_max, PySem.W.mg_none_of X G z_min, PySem.W.mg_none_of X G z_abs⟩
  refine ⟨PySem.W.fnOf "law" "law" (defArgs s_law) (defBody s_law) (defScope s_law) .none kV_law dc_law pm_law an_law cd_law ct_law, fun s v => .of_eq rfl, fun base _ _ => ?_⟩
  have e__law_begin : Def P w K mg base 1 "_law_begin" ["_law_script"] (S__law_begin K) := d__law_begin B src__law_begin
  have e__law_draw : Def P w K mg base 1 "_law_draw" ["_law_draws", "_law_size"] S__law_draw := d__law_draw B src__law_draw
  have e_are_unlike : Def P w K mg base 1 "are_unlike" ["pairs"] S_are_unlike := d_are_unlike B src_are_unlike
  have e_is_word : Def P w K mg base 1 "is_word" ["thing"] S_is_word := d_is_word B src_is_word ⟨t_SMALL, PySem.W.mg_of X G n_SMALL⟩
  have e_is_pair : Def P w K mg base 2 "is_pair" ["thing"] S_is_pair := d_is_pair B src_is_pair e_is_word
  have e_is_whole : Def P w K mg base 1 "is_whole" ["thing"] S_is_whole := d_is_whole B src_is_whole
  have e_is_small : Def P w K mg base 2 "is_small" ["thing"] S_is_small := d_is_small B src_is_small e_is_whole
  have e_is_check : Def P w K mg base 3 "is_check" ["thing", "many"] S_is_check := d_is_check B src_is_check e_is_pair e_is_small
  have e_are_checks : Def P w K mg base 4 "are_checks" ["thing", "many"] S_are_checks := d_are_checks B src_are_checks e_are_unlike e_is_check ⟨t_MOST_CHECKS, PySem.W.mg_of X G n_MOST_CHECKS⟩
  have e_are_lives : Def P w K mg base 3 "are_lives" ["thing"] S_are_lives := d_are_lives B src_are_lives e_are_unlike e_is_pair e_is_small ⟨t_MOST_LIVES, PySem.W.mg_of X G n_MOST_LIVES⟩
  have e_Desk___init__ : DefI P w K mg base C_Desk 5 ["self", "lives", "checks"] (S_Desk___init__ C_Desk C_BadDesk) := d_Desk___init__ B T_Desk T_BadDesk src_Desk___init__ e_are_checks e_are_lives
  have e_number_of : Def P w K mg base 1 "number_of" ["word"] S_number_of := d_number_of B src_number_of ⟨t_FIGURES, PySem.W.mg_of X G n_FIGURES⟩
  have e_check_in : Def P w K mg base 2 "check_in" ["words", "lives", "checks"] S_check_in := d_check_in B src_check_in e_is_word e_number_of ⟨t_MOST_CHECKS, PySem.W.mg_of X G n_MOST_CHECKS⟩
  have e_life_in : Def P w K mg base 2 "life_in" ["words", "lives"] S_life_in := d_life_in B src_life_in e_is_word e_number_of ⟨t_MOST_LIVES, PySem.W.mg_of X G n_MOST_LIVES⟩
  have e_read : Def P w K mg base 7 "read" ["text"] (S_read C_Desk C_BadLine) := d_read B T_Desk T_BadLine src_read e_Desk___init__ e_check_in e_life_in
  have e__law_told : Def P w K mg base 8 "_law_told" ["_law_text"] (S__law_told C_BadLine) := d__law_told B T_BadLine src__law_told e_read
  exact d_law B T_BadLine F_law e__law_begin e__law_draw e__law_told
theorem walk_law {l : PySem.W.OpenLaw} {q : Program} {loose : List Str} {XP : (Str → Option Value) → Heap → Prop} {YP : World → Heap → Prop} {d : DefRec} {K : Params → PySem.W.Frag} (hn : l.most = some 63) (hdf : d.params.defaults = [])
    (hY : ∀ (w : World) (h : Heap), YP w h → (K w.params).In h)
    (F : ∀ (w : World) (mg : Str → Option Value) (fa : Addr) (h : Heap), (K w.params).In h → h.Ns mainGlobals mg → mg d.name = some (.ref fa) →
      ∃ fd : FuncData, (∀ (s : Shared) (u : Value), BindsTo s fd ⟨[u], []⟩ [("_law_script", u)]) ∧ ∀ base : Heap, (K w.params).In base → base.Ns mainGlobals mg → FnOk l.prog w (K w.params) mg base (L2.CX l.prog w) 9 fa fd ["_law_script"] (spOf (S_law_k09 (K w.params)))) :
    PySem.W.WalkO q loose XP YP l.row.toRowW d [] (fun f vs => PySem.call f vs) :=
  L2.walk_of (n := 63) (k := 9) (x := "_law_script") (CX := fun w => L2.CX l.prog w) (sp := fun w => spOf (S_law_k09 (K w.params))) hn (by decide) hdf ⟨rfl, by decide, by decide⟩ hY F (fun w H a ns hl hO hS => law_start hS) fun _ _ _ _ _ z => by
    obtain ⟨_, _, _, _, _, _, _, _, _, _, _, _, y⟩ := z
    exact y
end SB
open PySem PySem.W PyProof.Rows
set_option maxRecDepth 100000 in
set_option maxHeartbeats 0 in
theorem PySem.Challenge.cw_slipbooks_k09_texts_refused_holds : PySem.Challenge.rw_slipbooks_k09_texts_refused.Holds := by
  w_on; o_law; k_head; (case hw => w_witness2)
  k_fill
  refine SB.walk_law (l := PySem.Challenge.rw_slipbooks_k09_texts_refused) rfl rfl (fun w h Y => PySem.W.kIn_of Y) ?F
  case F =>
    intro w mg fa h KX G hmg
    refine' SB.all_mk KX G hmg ?n_FIGURES ?n_MOST_CHECKS ?n_MOST_LIVES ?n_SMALL ?a_BadDesk ?kc_BadDesk ?ic_BadDesk ?tc_BadDesk ?sc_BadDesk ?bp_BadDesk ?xp_BadDesk ?a_BadLine ?xl_BadLine ?rv_BadLine ?sa_BadLine ?ga_BadLine ?gg_BadLine ?nb_BadLine ?ai_BadLine ?ti_BadLine ?li_BadLine ?ci_BadLine ?kc_BadLine ?bp_BadLine ?tc_BadLine ?hd_BadLine ?ic_BadLine ?sc_BadLine ?a_Desk ?kc_Desk ?ic_Desk ?tc_Desk ?sc_Desk ?pg_Desk ?hd_Desk ?po_Desk ?sa_Desk ?mk_Desk ?ha_Desk ?hm_Desk ?nf_Desk ?no_lives_Desk ?no_checks_Desk ?nl_Desk ?sl_Desk ?hn_Desk ?ht_Desk ?a__law_begin ?l__law_begin ?c__law_begin ?k__law_begin ?a__law_draw ?l__law_draw ?c__law_draw ?k__law_draw ?a_are_unlike ?l_are_unlike ?c_are_unlike ?k_are_unlike ?a_is_word ?l_is_word ?c_is_word ?k_is_word ?a_is_pair ?l_is_pair ?c_is_pair ?k_is_pair ?a_is_whole ?l_is_whole ?c_is_whole ?k_is_whole ?a_is_small ?l_is_small ?c_is_small ?k_is_small ?a_is_check ?l_is_check ?c_is_check ?k_is_check ?a_are_checks ?l_are_checks ?c_are_checks ?k_are_checks ?a_are_lives ?l_are_lives ?c_are_lives ?k_are_lives ?a_Desk___init__ ?i_Desk___init__ ?l_Desk___init__ ?c_Desk___init__ ?k_Desk___init__ ?a_number_of ?l_number_of ?c_number_of ?k_number_of ?a_check_in ?l_check_in ?c_check_in ?k_check_in ?a_life_in ?l_life_in ?c_life_in ?k_life_in ?a_read ?l_read ?c_read ?k_read ?a__law_told ?l__law_told ?c__law_told ?k__law_told ?a_law ?l_law ?c_law ?k_law ?z_len ?z_sum ?z_zip ?z_range ?z_enumerate ?z_tuple ?z_list ?z_int ?z_str ?z_bool ?z_isinstance ?z_all ?z_any ?z_sorted ?z_max ?z_min ?z_abs
    (case n_FIGURES => k_is)
    (case n_MOST_CHECKS => k_is)
    (case n_MOST_LIVES => k_is)
    (case n_SMALL => k_is)
    (case a_BadDesk => k_is)
    (case kc_BadDesk => k_is)
    (case ic_BadDesk => k_is)
    (case tc_BadDesk => k_is)
    (case sc_BadDesk => k_is)
    (case bp_BadDesk => k_is)
    (case xp_BadDesk => k_exc)
    (case a_BadLine => k_is)
    (case xl_BadLine => k_is)
    (case rv_BadLine => first | rfl | decide +kernel | k_is)
    (case sa_BadLine => k_is)
    (case ga_BadLine => k_is)
    (case gg_BadLine => k_is)
    (case nb_BadLine => k_is)
    (case ai_BadLine => k_is)
    (case ti_BadLine => k_is)
    (case li_BadLine => k_is)
    (case ci_BadLine => k_is)
    (case kc_BadLine => k_is)
    (case bp_BadLine => k_is)
    (case tc_BadLine => k_is)
    (case hd_BadLine => k_is)
    (case ic_BadLine => k_is)
    (case sc_BadLine => k_is)
    (case a_Desk => k_is)
    (case kc_Desk => k_is)
    (case ic_Desk => k_is)
    (case tc_Desk => k_is)
    (case sc_Desk => k_is)
    (case pg_Desk => k_is)
    (case hd_Desk => k_is)
    (case po_Desk => k_is)
    (case sa_Desk => k_is)
    (case mk_Desk => k_is)
    (case ha_Desk => k_is)
    (case hm_Desk => k_is)
    (case nf_Desk => k_is)
    (case no_lives_Desk => k_is)
    (case no_checks_Desk => k_is)
    (case nl_Desk => k_is)
    (case sl_Desk => k_is)
    (case hn_Desk => k_is)
    (case ht_Desk => k_is)
    (case a__law_begin => k_is)
    (case l__law_begin => k_is)
    (case c__law_begin => k_is)
    (case k__law_begin => k_is)
    (case a__law_draw => k_is)
    (case l__law_draw => k_is)
    (case c__law_draw => k_is)
    (case k__law_draw => k_is)
    (case a_are_unlike => k_is)
    (case l_are_unlike => k_is)
    (case c_are_unlike => k_is)
    (case k_are_unlike => k_is)
    (case a_is_word => k_is)
    (case l_is_word => k_is)
    (case c_is_word => k_is)
    (case k_is_word => k_is)
    (case a_is_pair => k_is)
    (case l_is_pair => k_is)
    (case c_is_pair => k_is)
    (case k_is_pair => k_is)
    (case a_is_whole => k_is)
    (case l_is_whole => k_is)
    (case c_is_whole => k_is)
    (case k_is_whole => k_is)
    (case a_is_small => k_is)
    (case l_is_small => k_is)
    (case c_is_small => k_is)
    (case k_is_small => k_is)
    (case a_is_check => k_is)
    (case l_is_check => k_is)
    (case c_is_check => k_is)
    (case k_is_check => k_is)
    (case a_are_checks => k_is)
    (case l_are_checks => k_is)
    (case c_are_checks => k_is)
    (case k_are_checks => k_is)
    (case a_are_lives => k_is)
    (case l_are_lives => k_is)
    (case c_are_lives => k_is)
    (case k_are_lives => k_is)
    (case a_Desk___init__ => k_is)
    (case i_Desk___init__ => k_is)
    (case l_Desk___init__ => k_is)
    (case c_Desk___init__ => k_is)
    (case k_Desk___init__ => k_is)
    (case a_number_of => k_is)
    (case l_number_of => k_is)
    (case c_number_of => k_is)
    (case k_number_of => k_is)
    (case a_check_in => k_is)
    (case l_check_in => k_is)
    (case c_check_in => k_is)
    (case k_check_in => k_is)
    (case a_life_in => k_is)
    (case l_life_in => k_is)
    (case c_life_in => k_is)
    (case k_life_in => k_is)
    (case a_read => k_is)
    (case l_read => k_is)
    (case c_read => k_is)
    (case k_read => k_is)
    (case a__law_told => k_is)
    (case l__law_told => k_is)
    (case c__law_told => k_is)
    (case k__law_told => k_is)
    (case a_law => k_is)
    (case l_law => k_is)
    (case c_law => k_is)
    (case k_law => k_is)
    (case z_len => k_is)
    (case z_sum => k_is)
    (case z_zip => k_is)
    (case z_range => k_is)
    (case z_enumerate => k_is)
    (case z_tuple => k_is)
    (case z_list => k_is)
    (case z_int => k_is)
    (case z_str => k_is)
    (case z_bool => k_is)
    (case z_isinstance => k_is)
    (case z_all => k_is)
    (case z_any => k_is)
    (case z_sorted => k_is)
    (case z_max => k_is)
    (case z_min => k_is)
    (case z_abs => k_is)

