import PyProof.Rows.All
import Wide.All
import OpenK.AllK
import Wide.FinOn
import HandS.ForMost
import HandS.ForExc
import HandS.Evl
import HandS.TryMany
import HandS.ExcField
import KE.KDictKeyed
import HandS.Lambda
import HandS.TupAny
import HandS.TupLe
import HandS.IsInst
import HandS.Steps
import HandS.Zip
import HandS.SetKeys
import HandS.TupLen
import HandS.TupSets
import HandS.More
import KE.KDictDisplayH
import HandS.Property
import HandS.SlotsOwn
import HandS.ExcInit
import HandS.FStrTup
import PyProof.ReprRoads
import KE.KExcSuper
import HandS.FStr
import HandS.ExcOwn
import PyProof.NeData
import PyProof.InstNe
import KE.KEqNest
import HandS.Iter
import KE.KDictWalk
import KE.GoesEnum
import HandS.DictComp
import HandS.NamedTupSort
import KE.KSortTup
import KE.KSortAsk
import KE.KDictSum
import HandS.Style
import HandS.MakeKwOnly
import KE.GoesComp
import PyProof.TupleOfGen
import KE.KItemsList
import HandS.ListItems
import HandS.Words
import HandS.HeadHook4
import HandS.HeadWalk
import KE.KStateDown
import HandS.Head0
import HandS.Head1
import HandS.Head2
import HandS.HeadEnd
import HandS.EndTab
import PySem.Challenge.RW_stairfaces_k76_bench_refused
set_option Elab.async false
set_option linter.all false
set_option maxRecDepth 100000
set_option maxHeartbeats 0
section S_EvA
/-! EvA: data, cells, outcomes; how they lie in the heap. -/
namespace EV
open PySem PySem.Spec PyProof.Rows L2 Evl
/-- data: what a slot, a cell's place holds. lst: a list that never changes; cst: one that is handed in; ref: a cell; glo: a function or class of the module -/
inductive D where
  | non | bl (b : Bool) | int (i : Int) | str (s : List Nat)
  | tup (xs : List D) | lst (xs : List D) | cst (xs : List D) | dct (ks vs : List D)
  | ref (i : Nat) | glo (g : Nat)
/-- a cell: what may change -/
inductive C where
  | lst (xs : List D) | dct (ks vs : List D) | ins (c : Nat) (ks : List Nat) (vs : List D) | tbl (t : Nat)
structure Hc where
  nx : Nat
  cs : List (Nat × C)
inductive R (α : Type) where
  | ok (a : α) (h : Hc) | exc (c : Nat) (p : Option (Nat × D)) (h : Hc) | no
def R.bind {α β : Type} (r : R α) (f : α → Hc → R β) : R β := match r with
  | .ok a h => f a h | .exc c p h => .exc c p h | .no => .no
def R.opt {α β : Type} (o : Option α) (f : α → R β) : R β := match o with
  | some a => f a | none => .no
abbrev Sl := List (Option D)
def gs (sl : Sl) (i : Nat) : Option D := match sl[i]? with
  | some o => o | none => none
def cget : List (Nat × C) → Nat → Option C
  | [], _ => none
  | (i, c) :: r, j => if i = j then some c else cget r j
def cset : List (Nat × C) → Nat → C → List (Nat × C)
  | [], _, _ => []
  | (i, c) :: r, j, d => if i = j then (i, d) :: r else (i, c) :: cset r j d
def cdel : List (Nat × C) → Nat → List (Nat × C)
  | [], _ => []
  | (i, c) :: r, j => if i = j then cdel r j else (i, c) :: cdel r j
def Hc.get (h : Hc) (i : Nat) : Option C := cget h.cs i
def Hc.set (h : Hc) (i : Nat) (c : C) : Hc := ⟨h.nx, cset h.cs i c⟩
def Hc.new (h : Hc) (c : C) : Hc := ⟨h.nx + 1, (h.nx, c) :: h.cs⟩
def Hc.del (h : Hc) (i : Nat) : Hc := ⟨h.nx, cdel h.cs i⟩
theorem cget_set_self : ∀ {cs : List (Nat × C)} {i : Nat} {c d : C}, cget cs i = some c → cget (cset cs i d) i = some d
  | [], _, _, _, h => nomatch h
  | (j, x) :: r, i, c, d, h => by
    unfold cset
    unfold cget at h
    by_cases e : j = i
    · rw [if_pos e]; unfold cget; rw [if_pos e]
    · rw [if_neg e] at h ⊢; unfold cget; rw [if_neg e]; exact cget_set_self h
theorem cget_set_ne : ∀ {cs : List (Nat × C)} {i j : Nat} {d : C}, j ≠ i → cget (cset cs i d) j = cget cs j
  | [], _, _, _, _ => rfl
  | (k, x) :: r, i, j, d, h => by
    unfold cset
    by_cases e : k = i
    · rw [if_pos e]; unfold cget; rw [if_neg (fun z => h (z.symm.trans e)), if_neg (fun z => h (z.symm.trans e))]
    · rw [if_neg e]; unfold cget
      by_cases e2 : k = j
      · rw [if_pos e2, if_pos e2]
      · rw [if_neg e2, if_neg e2]; exact cget_set_ne h
theorem cget_del_self : ∀ {cs : List (Nat × C)} {i : Nat}, cget (cdel cs i) i = none
  | [], _ => rfl
  | (k, x) :: r, i => by
    unfold cdel
    by_cases e : k = i
    · rw [if_pos e]; exact cget_del_self
    · rw [if_neg e]; unfold cget; rw [if_neg e]; exact cget_del_self
theorem cget_del_ne : ∀ {cs : List (Nat × C)} {i j : Nat}, j ≠ i → cget (cdel cs i) j = cget cs j
  | [], _, _, _ => rfl
  | (k, x) :: r, i, j, h => by
    unfold cdel
    by_cases e : k = i
    · rw [if_pos e]; rw [cget_del_ne h]; conv => rhs; unfold cget
      rw [if_neg (fun z => h (z.symm.trans e))]
    · rw [if_neg e]; unfold cget
      by_cases e2 : k = j
      · rw [if_pos e2, if_pos e2]
      · rw [if_neg e2, if_neg e2]; exact cget_del_ne h
/-! ### how they lie -/
/-- what is known beside the state: the objects that never change, where the cells lie -/
structure G where
  F : Hp
  ρ : Nat → Option Addr
/-- what is fixed: the program, its written part, the module's values, its classes, the fields' names -/
structure Pm where
  prog : Program
  w : World
  K : PySem.W.Frag
  Γ : Nat → V
  CA : Nat → Addr
  XA : Nat → Addr
  fn : Nat → Str
  TA : Nat → Addr
  TQ : Nat → Str
  gh : G
def toStr (s : List Nat) : Str := ⟨s.toArray⟩
/-- the data as a key of any depth -/
def nk : D → Option NestedKey
  | .non => some .none
  | .bl b => some (.num (if b = true then 1 else 0))
  | .int i => some (.num i)
  | .str s => some (.text (toStr s))
  | .tup xs => (nkAll xs).map .tup
  | _ => none
where nkAll : List D → Option (List NestedKey)
  | [] => some []
  | x :: xs => (nk x).bind fun k => (nkAll xs).map fun ks => k :: ks
/-- a dict whose keys are tuples of any depth: what its one object tells -/
def DNf (P : Pm) (kvs : List (NestedKey × Addr × V)) (o : Obj) : Prop :=
  kvs.length ≤ sizeLine ∧ ∃ xs : List (NestedKey × Addr × Value),
    Paired (fun (p : NestedKey × Addr × V) (q : NestedKey × Addr × Value) => p.1 = q.1 ∧ p.2.1 = q.2.1 ∧ RelV p.2.2 q.2.2) kvs xs ∧
    ∃ es ep, o.ExactDict ∧ o.data = .dict es ep ∧ es.toList = xs.map (entryOfKey (nestedKind P.prog P.w)) ∧ (xs.map (·.1)).Nodup
def dN (P : Pm) (a : Addr) (kvs : List (NestedKey × Addr × V)) (o : Obj) : HO := .ext fun h => (a == sysModules) = false ∧ h.get? a = some o ∧ DNf P kvs o
mutual
inductive RV (P : Pm) (F : Hp) (ρ : Nat → Option Addr) : D → V → Prop
  | non : RV P F ρ .non .non
  | bl (b : Bool) : RV P F ρ (.bl b) (.bl b)
  | int (i : Int) : RV P F ρ (.int i) (.int i)
  | str (s : List Nat) : RV P F ρ (.str s) (.str (toStr s))
  | tup {a : Addr} {vs : List V} {xs : List D} : SqT P.K F a vs → RVs P F ρ xs vs → RV P F ρ (.tup xs) (.ref a)
  | lst {a : Addr} {vs : List V} {xs : List D} : F a = some (.lst vs) → RVs P F ρ xs vs → RV P F ρ (.lst xs) (.ref a)
  | cst {a : Addr} {vs : List V} {xs : List D} : SqL P.K F a vs → RVs P F ρ xs vs → RV P F ρ (.cst xs) (.ref a)
  | dct {a : Addr} {ks vs : List D} {kvs : List (Key × V)} {o : Obj} : F a = some (.frz o (.dK kvs)) → RKs P F ρ ks vs kvs → RV P F ρ (.dct ks vs) (.ref a)
  | dctN {a : Addr} {ks vs : List D} {kvs : List (NestedKey × Addr × V)} {o : Obj} : F a = some (dN P a kvs o) → kvs ≠ [] → RNs P F ρ ks vs kvs → RV P F ρ (.dct ks vs) (.ref a)
  | ref {i : Nat} {a : Addr} : ρ i = some a → RV P F ρ (.ref i) (.ref a)
  | glo (g : Nat) : RV P F ρ (.glo g) (P.Γ g)
inductive RVs (P : Pm) (F : Hp) (ρ : Nat → Option Addr) : List D → List V → Prop
  | nil : RVs P F ρ [] []
  | cons {d : D} {v : V} {ds : List D} {vs : List V} : RV P F ρ d v → RVs P F ρ ds vs → RVs P F ρ (d :: ds) (v :: vs)
inductive RKs (P : Pm) (F : Hp) (ρ : Nat → Option Addr) : List D → List D → List (Key × V) → Prop
  | nil : RKs P F ρ [] [] []
  | int {i : Int} {d : D} {v : V} {ks ds : List D} {r : List (Key × V)} : RV P F ρ d v → RKs P F ρ ks ds r → RKs P F ρ (.int i :: ks) (d :: ds) ((.inl i, v) :: r)
  | str {s : List Nat} {d : D} {v : V} {ks ds : List D} {r : List (Key × V)} : RV P F ρ d v → RKs P F ρ ks ds r → RKs P F ρ (.str s :: ks) (d :: ds) ((.inr (toStr s), v) :: r)
inductive RNs (P : Pm) (F : Hp) (ρ : Nat → Option Addr) : List D → List D → List (NestedKey × Addr × V) → Prop
  | nil : RNs P F ρ [] [] []
  | cons {xs : List D} {k : NestedKey} {a : Addr} {d : D} {v : V} {ks ds : List D} {r : List (NestedKey × Addr × V)} : nk (.tup xs) = some k → k.depth ≤ 8 → RV P F ρ (.tup xs) (.ref a) → RV P F ρ d v → RNs P F ρ ks ds r → RNs P F ρ (.tup xs :: ks) (d :: ds) ((k, a, v) :: r)
end
inductive RFs (P : Pm) (F : Hp) (ρ : Nat → Option Addr) : List Nat → List D → List (Str × V) → Prop
  | nil : RFs P F ρ [] [] []
  | cons {k : Nat} {d : D} {v : V} {ks : List Nat} {ds : List D} {r : List (Str × V)} : RV P F ρ d v → RFs P F ρ ks ds r → RFs P F ρ (k :: ks) (d :: ds) ((P.fn k, v) :: r)
/-- a cell as the object at a -/
inductive RC (P : Pm) (F : Hp) (ρ : Nat → Option Addr) (a : Addr) : C → HO → Prop
  | lst {xs : List D} {vs : List V} : RVs P F ρ xs vs → RC P F ρ a (.lst xs) (.lst vs)
  | dct {ks vs : List D} {kvs : List (Key × V)} : RKs P F ρ ks vs kvs → RC P F ρ a (.dct ks vs) (.dK kvs)
  | dctN {ks vs : List D} {kvs : List (NestedKey × Addr × V)} {o : Obj} : kvs ≠ [] → RNs P F ρ ks vs kvs → RC P F ρ a (.dct ks vs) (dN P a kvs o)
  | ins {c : Nat} {dx : Addr} {ks : List Nat} {vs : List D} {fs : List (Str × V)} : RFs P F ρ ks vs fs → RC P F ρ a (.ins c ks vs) (.ins (P.CA c) dx fs)
  | tbl {t : Nat} {ps : Array Value} : a = P.TA t → TriplesOk ps.toList → (∀ (pos : Pos) (cv : Value), codeAmong pos ps.toList = some cv → ∃ c, cv = .ref c ∧ F c = some (LamX.CodeO c (P.TQ t))) → RC P F ρ a (.tbl t) (.tbl ps)
def G.le (g g' : G) : Prop := Ex g.F g'.F ∧ ∀ i a, g.ρ i = some a → g'.ρ i = some a
theorem G.le.refl (g : G) : G.le g g := ⟨Ex.refl _, fun _ _ h => h⟩
theorem G.le.trans {a b c : G} (x : G.le a b) (y : G.le b c) : G.le a c := ⟨x.1.trans y.1, fun i q h => y.2 i q (x.2 i q h)⟩
section
variable {P : Pm} {F F' : Hp} {ρ ρ' : Nat → Option Addr}
mutual
theorem RV.mono (e : Ex F F') (r : ∀ i a, ρ i = some a → ρ' i = some a) : ∀ {d : D} {v : V}, RV P F ρ d v → RV P F' ρ' d v
  | _, _, .non => .non
  | _, _, .bl b => .bl b
  | _, _, .int i => .int i
  | _, _, .str s => .str s
  | _, _, .tup h t => .tup (ex_t e h) (RVs.mono e r t)
  | _, _, .lst h t => .lst (e _ _ h) (RVs.mono e r t)
  | _, _, .cst h t => .cst (ex_l e h) (RVs.mono e r t)
  | _, _, .dct h t => .dct (e _ _ h) (RKs.mono e r t)
  | _, _, .dctN h n t => .dctN (e _ _ h) n (RNs.mono e r t)
  | _, _, .ref h => .ref (r _ _ h)
  | _, _, .glo g => .glo g
theorem RVs.mono (e : Ex F F') (r : ∀ i a, ρ i = some a → ρ' i = some a) : ∀ {d : List D} {v : List V}, RVs P F ρ d v → RVs P F' ρ' d v
  | _, _, .nil => .nil
  | _, _, .cons h t => .cons (RV.mono e r h) (RVs.mono e r t)
theorem RKs.mono (e : Ex F F') (r : ∀ i a, ρ i = some a → ρ' i = some a) : ∀ {ks : List D} {d : List D} {v : List (Key × V)}, RKs P F ρ ks d v → RKs P F' ρ' ks d v
  | _, _, _, .nil => .nil
  | _, _, _, .int h t => .int (RV.mono e r h) (RKs.mono e r t)
  | _, _, _, .str h t => .str (RV.mono e r h) (RKs.mono e r t)
theorem RNs.mono (e : Ex F F') (r : ∀ i a, ρ i = some a → ρ' i = some a) : ∀ {ks : List D} {d : List D} {v : List (NestedKey × Addr × V)}, RNs P F ρ ks d v → RNs P F' ρ' ks d v
  | _, _, _, .nil => .nil
  | _, _, _, .cons hk h8 ha h t => .cons hk h8 (RV.mono e r ha) (RV.mono e r h) (RNs.mono e r t)
end
theorem RFs.mono (e : Ex F F') (r : ∀ i a, ρ i = some a → ρ' i = some a) : ∀ {ks : List Nat} {d : List D} {v : List (Str × V)}, RFs P F ρ ks d v → RFs P F' ρ' ks d v
  | _, _, _, .nil => .nil
  | _, _, _, .cons h t => .cons (h.mono e r) (RFs.mono e r t)
theorem RC.mono {a : Addr} (e : Ex F F') (r : ∀ i a, ρ i = some a → ρ' i = some a) {c : C} {o : HO} : RC P F ρ a c o → RC P F' ρ' a c o
  | .lst h => .lst (h.mono e r)
  | .dct h => .dct (h.mono e r)
  | .dctN n h => .dctN n (h.mono e r)
  | .ins h => .ins (h.mono e r)
  | .tbl h t k => .tbl h t fun pos cv q => let ⟨c, h1, h2⟩ := k pos cv q; ⟨c, h1, e _ _ h2⟩
theorem RVs.length : ∀ {d : List D} {v : List V}, RVs P F ρ d v → d.length = v.length
  | _, _, .nil => rfl
  | _, _, .cons _ t => by rw [List.length_cons, List.length_cons, t.length]
theorem RVs.get : ∀ {d : List D} {v : List V} {i : Nat} {x : D}, RVs P F ρ d v → d[i]? = some x → ∃ y, v[i]? = some y ∧ RV P F ρ x y
  | _, _, _, _, .nil, h => by simp at h
  | _, _, 0, _, .cons h _, e => by simp at e; subst e; exact ⟨_, rfl, h⟩
  | _, _, i + 1, x, .cons _ t, e => by simpa using t.get (i := i) (x := x) (by simpa using e)
theorem RVs.append : ∀ {d d' : List D} {v v' : List V}, RVs P F ρ d v → RVs P F ρ d' v' → RVs P F ρ (d ++ d') (v ++ v')
  | _, _, _, _, .nil, s => s
  | _, _, _, _, .cons h t, s => .cons h (t.append s)
theorem RVs.take : ∀ {d : List D} {v : List V} (n : Nat), RVs P F ρ d v → RVs P F ρ (d.take n) (v.take n)
  | _, _, 0, _ => .nil
  | _, _, _ + 1, .nil => .nil
  | _, _, n + 1, .cons h t => .cons h (t.take n)
theorem RVs.drop : ∀ {d : List D} {v : List V} (n : Nat), RVs P F ρ d v → RVs P F ρ (d.drop n) (v.drop n)
  | _, _, 0, h => h
  | _, _, _ + 1, .nil => .nil
  | _, _, n + 1, .cons _ t => t.drop n
end
abbrev rv (P : Pm) (g : G) : D → V → Prop := RV P g.F g.ρ
theorem rv_le {P : Pm} {g g' : G} {d : D} {v : V} (l : G.le g g') (h : RV P g.F g.ρ d v) : RV P g'.F g'.ρ d v := h.mono l.1 l.2
theorem rvs_le {P : Pm} {g g' : G} {d : List D} {v : List V} (l : G.le g g') (h : RVs P g.F g.ρ d v) : RVs P g'.F g'.ρ d v := h.mono l.1 l.2
/-- the cells lie in H -/
structure HS (P : Pm) (g : G) (h : Hc) (H : Hp) : Prop where
  fr : Ex g.F H
  cell : ∀ i c, h.get i = some c → ∃ a o, g.ρ i = some a ∧ g.F a = none ∧ H a = some o ∧ RC P g.F g.ρ a c o
  inj : ∀ i j c c', h.get i = some c → h.get j = some c' → g.ρ i = g.ρ j → i = j
  new : ∀ i, h.nx ≤ i → g.ρ i = none
  bot : G.le P.gh g
/-- .. and the slots -/
structure SR (P : Pm) (g : G) (sl : Sl) (h : Hc) (σ : L2.St) (H : Hp) : Prop where
  hs : HS P g h H
  len : sl.length = σ.length
  slot : ∀ i d, gs sl i = some d → ∃ v, σ[i]? = some (some v) ∧ RV P g.F g.ρ d v
section
variable {P : Pm} {g g' : G} {h : Hc} {H : Hp} {sl : Sl} {σ : L2.St}
/-- a further object that never changes -/
def G.fz (g : G) (p : Addr) (o : HO) : G := ⟨upd g.F p o, g.ρ⟩
theorem exUp {F H : Hp} {p : Addr} {o : HO} (e : Ex F H) (hn : H p = none) : Ex (upd F p o) (upd H p o) := fun a u q => by
  by_cases z : a = p
  · subst z; rw [upd_same] at q ⊢; exact q
  · rw [upd_ne z] at q ⊢; exact e a u q
theorem exNone {F H : Hp} {p : Addr} (e : Ex F H) (hn : H p = none) : F p = none := by
  cases q : F p with
  | none => rfl
  | some o => rw [e _ _ q] at hn; cases hn
theorem G.fz_le {p : Addr} {o : HO} (hn : g.F p = none) : G.le g (g.fz p o) := ⟨Ex.new hn, fun _ _ q => q⟩
theorem HS.fz {p : Addr} {o : HO} (x : HS P g h H) (hn : H p = none) : HS P (g.fz p o) h (upd H p o) := by
  have hf : g.F p = none := exNone x.fr hn
  have l : G.le g (g.fz p o) := G.fz_le hf
  refine ⟨exUp x.fr hn, fun i c q => ?_, fun i j c c' a b e => x.inj i j c c' a b e, fun i hi => x.new i hi, x.bot.trans l⟩
  obtain ⟨a, u, h1, h2, h3, h4⟩ := x.cell i c q
  have ne : a ≠ p := fun z => by rw [z, hn] at h3; cases h3
  exact ⟨a, u, h1, by show upd g.F p o a = none; rw [upd_ne ne]; exact h2, by rw [upd_ne ne]; exact h3, h4.mono l.1 l.2⟩
/-- a new cell -/
def G.mk' (g : G) (n : Nat) (p : Addr) : G := ⟨g.F, fun i => if i = n then some p else g.ρ i⟩
theorem HS.mk' {p : Addr} {o : HO} {c : C} (x : HS P g h H) (hn : H p = none) (r : RC P g.F g.ρ p c o) :
    HS P (g.mk' h.nx p) (h.new c) (upd H p o) ∧ G.le g (g.mk' h.nx p) ∧ (g.mk' h.nx p).ρ h.nx = some p := by
  have hf : g.F p = none := exNone x.fr hn
  have l : G.le g (g.mk' h.nx p) := ⟨Ex.refl _, fun i a q => by
    show (if i = h.nx then some p else g.ρ i) = some a
    by_cases z : i = h.nx
    · subst z; rw [x.new _ (Nat.le_refl _)] at q; cases q
    · rw [if_neg z]; exact q⟩
  have at_ : (g.mk' h.nx p).ρ h.nx = some p := if_pos rfl
  have old : ∀ {i : Nat} {c' : C}, h.get i = some c' → i ≠ h.nx ∧ (g.mk' h.nx p).ρ i = g.ρ i ∧ ∀ q, g.ρ i = some q → q ≠ p := fun {i c'} q => by
    obtain ⟨a, u, h1, h2, h3, h4⟩ := x.cell i c' q
    have ne : i ≠ h.nx := fun z => by rw [z, x.new _ (Nat.le_refl _)] at h1; cases h1
    refine ⟨ne, if_neg ne, fun q hq z => ?_⟩
    rw [h1] at hq; cases hq
    rw [z, hn] at h3; cases h3
  have get' : ∀ {i : Nat} {c' : C}, (h.new c).get i = some c' → (i = h.nx ∧ c' = c) ∨ (i ≠ h.nx ∧ h.get i = some c') := fun {i c'} q => by
    have q' : (if h.nx = i then some c else cget h.cs i) = some c' := q
    by_cases z : h.nx = i
    · rw [if_pos z] at q'; cases q'; exact .inl ⟨z.symm, rfl⟩
    · rw [if_neg z] at q'; exact .inr ⟨fun e => z e.symm, q'⟩
  refine ⟨⟨fun a u q => by rw [upd_ne (ne_of_none q hf)]; exact x.fr a u q, fun i c' q => ?_, fun i j c1 c2 q1 q2 e => ?_, fun i hi => ?_, x.bot.trans l⟩, l, at_⟩
  · rcases get' q with ⟨rfl, rfl⟩ | ⟨ne, q⟩
    · exact ⟨p, o, at_, hf, upd_same, r.mono l.1 l.2⟩
    · obtain ⟨a, u, h1, h2, h3, h4⟩ := x.cell i c' q
      have ap : a ≠ p := (old q).2.2 a h1
      exact ⟨a, u, by rw [(old q).2.1]; exact h1, h2, by rw [upd_ne ap]; exact h3, h4.mono l.1 l.2⟩
  · rcases get' q1 with ⟨rfl, _⟩ | ⟨n1, q1⟩ <;> rcases get' q2 with ⟨rfl, _⟩ | ⟨n2, q2⟩
    · rfl
    · rw [at_, (old q2).2.1] at e
      exact absurd rfl ((old q2).2.2 p e.symm)
    · rw [at_, (old q1).2.1] at e
      exact absurd rfl ((old q1).2.2 p e)
    · rw [(old q1).2.1, (old q2).2.1] at e
      exact x.inj i j _ _ q1 q2 e
  · have hi' : h.nx + 1 ≤ i := hi
    show (if i = h.nx then some p else g.ρ i) = none
    rw [if_neg (by omega)]
    exact x.new i (by omega)
/-- a cell is written -/
theorem HS.wr {i : Nat} {a : Addr} {c c' : C} {o : HO} (x : HS P g h H) (q : h.get i = some c) (ha : g.ρ i = some a) (r : RC P g.F g.ρ a c' o) : HS P g (h.set i c') (upd H a o) := by
  obtain ⟨a', u, h1, h2, h3, h4⟩ := x.cell i c q
  rw [ha] at h1; cases h1
  have live : ∀ {j : Nat} {c2 : C}, (h.set i c').get j = some c2 → (j = i ∧ c2 = c') ∨ (j ≠ i ∧ h.get j = some c2) := fun {j c2} e => by
    by_cases z : j = i
    · subst z
      have e' : cget (cset h.cs j c') j = some c2 := e
      rw [cget_set_self q] at e'; cases e'; exact .inl ⟨rfl, rfl⟩
    · have e' : cget (cset h.cs i c') j = some c2 := e
      rw [cget_set_ne z] at e'; exact .inr ⟨z, e'⟩
  have live' : ∀ {j : Nat} {c2 : C}, (h.set i c').get j = some c2 → ∃ c3, h.get j = some c3 := fun {j c2} e => by
    rcases live e with ⟨rfl, _⟩ | ⟨_, e⟩
    · exact ⟨_, q⟩
    · exact ⟨_, e⟩
  refine ⟨fun b u e => by rw [upd_ne (ne_of_none e h2)]; exact x.fr b u e, fun j c2 e => ?_, fun j k c2 c3 e1 e2 e => ?_, fun j hj => x.new j hj, x.bot⟩
  · rcases live e with ⟨rfl, rfl⟩ | ⟨ne, e⟩
    · exact ⟨a, o, ha, h2, upd_same, r⟩
    · obtain ⟨b, u', k1, k2, k3, k4⟩ := x.cell j c2 e
      have nb : b ≠ a := fun z => ne (x.inj j i _ _ e q (by rw [k1, ha, z]))
      exact ⟨b, u', k1, k2, by rw [upd_ne nb]; exact k3, k4⟩
  · obtain ⟨_, e1⟩ := live' e1
    obtain ⟨_, e2⟩ := live' e2
    exact x.inj j k _ _ e1 e2 e
/-- cells are forgotten -/
theorem HS.sub {h' : Hc} (x : HS P g h H) (k : ∀ i c, h'.get i = some c → h.get i = some c) (hn : h.nx ≤ h'.nx) : HS P g h' H :=
  ⟨x.fr, fun i c q => x.cell i c (k i c q), fun i j c c' a b e => x.inj i j c c' (k i c a) (k j c' b) e, fun i hi => x.new i (Nat.le_trans hn hi), x.bot⟩
theorem cget_del {cs : List (Nat × C)} {i j : Nat} {c : C} (h : cget (cdel cs i) j = some c) : j ≠ i ∧ cget cs j = some c := by
  by_cases z : j = i
  · subst z; rw [cget_del_self] at h; cases h
  · exact ⟨z, by rw [cget_del_ne z] at h; exact h⟩
/-- a cell becomes an object that never changes -/
theorem HS.freeze {i : Nat} {a : Addr} {c : C} {o : HO} (x : HS P g h H) (q : h.get i = some c) (ha : g.ρ i = some a) (ho : H a = some o) : HS P (g.fz a o) (h.del i) H ∧ G.le g (g.fz a o) := by
  obtain ⟨a', u, h1, h2, h3, h4⟩ := x.cell i c q
  rw [ha] at h1; cases h1
  have l : G.le g (g.fz a o) := G.fz_le h2
  refine ⟨⟨fun b u e => ?_, fun j c2 e => ?_, fun j k c2 c3 e1 e2 e => x.inj j k c2 c3 (cget_del e1).2 (cget_del e2).2 e, fun j hj => x.new j hj, x.bot.trans l⟩, l⟩
  · have e' : upd g.F a o b = some u := e
    by_cases z : b = a
    · rw [z, upd_same] at e'; cases e'; rw [z]; exact ho
    · rw [upd_ne z] at e'; exact x.fr b u e'
  · obtain ⟨ne, e⟩ := cget_del e
    obtain ⟨b, u', k1, k2, k3, k4⟩ := x.cell j c2 e
    have nb : b ≠ a := fun z => ne (x.inj j i _ _ e q (by rw [k1, ha, z]))
    exact ⟨b, u', k1, by show upd g.F a o b = none; rw [upd_ne nb]; exact k2, k3, k4.mono l.1 l.2⟩
theorem SR.le {h' : Hc} {H' : Hp} (x : SR P g sl h σ H) (l : G.le g g') (y : HS P g' h' H') : SR P g' sl h' σ H' :=
  ⟨y, x.len, fun i d e => let ⟨v, h1, h2⟩ := x.slot i d e; ⟨v, h1, rv_le l h2⟩⟩
theorem gs_set_self {sl : Sl} {i : Nat} {o : Option D} (h : i < sl.length) : gs (sl.set i o) i = o := by
  unfold gs; rw [List.getElem?_set_self h]
theorem gs_set_ne {sl : Sl} {i j : Nat} {o : Option D} (h : i ≠ j) : gs (sl.set i o) j = gs sl j := by
  unfold gs; rw [List.getElem?_set_ne h]
theorem SR.set {i : Nat} {d : D} {v : V} (x : SR P g sl h σ H) (r : RV P g.F g.ρ d v) : SR P g (sl.set i (some d)) h (σ.set i (some v)) H := by
  refine ⟨x.hs, by rw [List.length_set, List.length_set]; exact x.len, fun j e q => ?_⟩
  by_cases z : i = j
  · subst z
    by_cases hl : i < sl.length
    · rw [gs_set_self hl] at q; cases q
      exact ⟨v, by rw [List.getElem?_set_self (by rw [← x.len]; exact hl)], r⟩
    · rw [List.set_eq_of_length_le (by omega)] at q
      rw [List.set_eq_of_length_le (by rw [← x.len]; omega)]
      exact x.slot i e q
  · rw [gs_set_ne z] at q
    rw [List.getElem?_set_ne z]
    exact x.slot j e q
theorem SR.forget {i : Nat} (x : SR P g sl h σ H) : SR P g (sl.set i none) h (σ.set i none) H := by
  refine ⟨x.hs, by rw [List.length_set, List.length_set]; exact x.len, fun j e q => ?_⟩
  by_cases z : i = j
  · subst z
    by_cases hl : i < sl.length
    · rw [gs_set_self hl] at q; cases q
    · rw [List.set_eq_of_length_le (by omega)] at q
      rw [List.set_eq_of_length_le (by rw [← x.len]; omega)]
      exact x.slot i e q
  · rw [gs_set_ne z] at q
    rw [List.getElem?_set_ne z]
    exact x.slot j e q
end
/-! ### the ground does not matter for what lies where -/
section
variable {P : Pm} {F : Hp} {ρ : Nat → Option Addr} (g0 : G)
/-- the same over another ground -/
def Pm.on (P : Pm) (g0 : G) : Pm := { P with gh := g0 }
mutual
theorem RV.on : ∀ {d : D} {v : V}, RV P F ρ d v → RV (P.on g0) F ρ d v
  | _, _, .non => .non
  | _, _, .bl b => .bl b
  | _, _, .int i => .int i
  | _, _, .str s => .str s
  | _, _, .tup h t => .tup h (RVs.on t)
  | _, _, .lst h t => .lst h (RVs.on t)
  | _, _, .cst h t => .cst h (RVs.on t)
  | _, _, .dct h t => .dct h (RKs.on t)
  | _, _, .dctN h n t => .dctN (P := P.on g0) h n (RNs.on t)
  | _, _, .ref h => .ref h
  | _, _, .glo g => .glo (P := P.on g0) g
theorem RVs.on : ∀ {d : List D} {v : List V}, RVs P F ρ d v → RVs (P.on g0) F ρ d v
  | _, _, .nil => .nil
  | _, _, .cons h t => .cons (RV.on h) (RVs.on t)
theorem RKs.on : ∀ {ks : List D} {d : List D} {v : List (Key × V)}, RKs P F ρ ks d v → RKs (P.on g0) F ρ ks d v
  | _, _, _, .nil => .nil
  | _, _, _, .int h t => .int (RV.on h) (RKs.on t)
  | _, _, _, .str h t => .str (RV.on h) (RKs.on t)
theorem RNs.on : ∀ {ks : List D} {d : List D} {v : List (NestedKey × Addr × V)}, RNs P F ρ ks d v → RNs (P.on g0) F ρ ks d v
  | _, _, _, .nil => .nil
  | _, _, _, .cons hk h8 ha h t => .cons hk h8 (RV.on ha) (RV.on h) (RNs.on t)
end
theorem RFs.on : ∀ {ks : List Nat} {d : List D} {v : List (Str × V)}, RFs P F ρ ks d v → RFs (P.on g0) F ρ ks d v
  | _, _, _, .nil => .nil
  | _, _, _, .cons (k := k) h t => .cons (P := P.on g0) (k := k) (h.on g0) (t.on)
theorem RC.on {a : Addr} {c : C} {o : HO} : RC P F ρ a c o → RC (P.on g0) F ρ a c o
  | .lst h => .lst (h.on g0)
  | .dct h => .dct (h.on g0)
  | .dctN n h => .dctN (P := P.on g0) n (h.on g0)
  | .ins (c := c) h => .ins (P := P.on g0) (c := c) (h.on g0)
  | .tbl h t k => .tbl (P := P.on g0) h t k
theorem HS.on {g : G} {h : Hc} {H : Hp} (x : HS P g h H) (l : G.le g0 g) : HS (P.on g0) g h H :=
  ⟨x.fr, fun i c q => let ⟨a, o, h1, h2, h3, h4⟩ := x.cell i c q; ⟨a, o, h1, h2, h3, h4.on g0⟩, x.inj, x.new, l⟩
theorem SR.on {g : G} {sl : Sl} {h : Hc} {σ : L2.St} {H : Hp} (x : SR P g sl h σ H) (l : G.le g0 g) : SR (P.on g0) g sl h σ H :=
  ⟨x.hs.on g0 l, x.len, fun i d e => let ⟨v, h1, h2⟩ := x.slot i d e; ⟨v, h1, h2.on g0⟩⟩
end
end EV
end S_EvA
section S_EvB
/-! EvB: what a piece of the program does, as a function of slots and cells; the rules that need no data operation. -/
namespace EV
open PySem PySem.Spec PyProof.Rows L2 Evl
abbrev FE := Sl → Hc → R D
abbrev FT := Sl → Hc → R Bool
abbrev FA := Sl → Hc → R (List D)
inductive RS where
  | nx (sl : Sl) (h : Hc) | rt (d : D) (h : Hc) | bk (sl : Sl) (h : Hc) | ct (sl : Sl) (h : Hc) | exc (c : Nat) (p : Option (Nat × D)) (h : Hc) | no
abbrev FS := Sl → Hc → RS
/-- an exception's object -/
def XO (P : Pm) (g : G) (H : Hp) (c : Nat) (p : Option (Nat × D)) (cls : Value) (dd : Option Addr) : Prop :=
  cls = .ref (P.XA c) ∧ match p with
    | none => True
    | some (f, d) => ∃ a fs v, dd = some a ∧ H a = some (.xd fs) ∧ fs.lookup (P.fn f) = some v ∧ RV P g.F g.ρ d v
def Out {α β : Type} (P : Pm) (g : G) (rel : G → α → β → Prop) (Q : β → Hp → Prop) (E : XK) : R α → Prop
  | .ok d h => ∀ g' H v, G.le g g' → HS P g' h H → rel g' d v → Q v H
  | .exc c p h => ∀ g' H cls dd, G.le g g' → HS P g' h H → XO P g' H c p cls dd → E cls dd H
  | .no => False
theorem Out.le {α β : Type} {P : Pm} {g g' : G} {rel : G → α → β → Prop} {Q : β → Hp → Prop} {E : XK} {r : R α} (o : Out P g rel Q E r) (l : G.le g g') : Out P g' rel Q E r := by
  cases r with
  | ok d h => exact fun g2 H v l2 => o g2 H v (l.trans l2)
  | exc c p h => exact fun g2 H cls dd l2 => o g2 H cls dd (l.trans l2)
  | no => exact o
/-- the first of two steps -/
theorem Out.bind {α α' β β' : Type} {P : Pm} {g : G} {rel : G → α → β → Prop} {rel' : G → α' → β' → Prop} {Q : β → Hp → Prop} {Q' : β' → Hp → Prop} {E : XK} {r : R α'} {f : α' → Hc → R α} (o : Out P g rel Q E (r.bind f))
    (k : ∀ d h g' H v, G.le g g' → HS P g' h H → rel' g' d v → Out P g' rel Q E (f d h) → Q' v H) : Out P g rel' Q' E r := by
  cases r with
  | ok d h => exact fun g' H v l hs rl => k d h g' H v l hs rl (Out.le (r := f d h) o l)
  | exc c p h => exact o
  | no => exact o
def rdE (P : Pm) (E : XK) (f : FE) : TE := fun σ H Q => ∃ g sl h, SR P g sl h σ H ∧ Out P g (rv P) Q E (f sl h)
def rb : G → Bool → Bool → Prop := fun _ a b => a = b
def rdT (P : Pm) (E : XK) (f : FT) : TT := fun σ H Q => ∃ g sl h, SR P g sl h σ H ∧ Out P g rb Q E (f sl h)
abbrev rvs (P : Pm) (g : G) : List D → List V → Prop := RVs P g.F g.ρ
def rdA (P : Pm) (E : XK) (f : FA) : TA := fun σ H Q => ∃ g sl h, SR P g sl h σ H ∧ Out P g (rvs P) Q E (f sl h)
def OutS (P : Pm) (g : G) (D : Ends) (E : XK) : RS → Prop
  | .nx sl h => ∀ g' σ H, G.le g g' → SR P g' sl h σ H → D.nx σ H
  | .rt d h => ∀ g' H v, G.le g g' → HS P g' h H → rv P g' d v → D.rt v H
  | .bk sl h => ∀ g' σ H, G.le g g' → SR P g' sl h σ H → D.bk σ H
  | .ct sl h => ∀ g' σ H, G.le g g' → SR P g' sl h σ H → D.ct σ H
  | .exc c p h => ∀ g' H cls dd, G.le g g' → HS P g' h H → XO P g' H c p cls dd → E cls dd H
  | .no => False
theorem OutS.le {P : Pm} {g g' : G} {D : Ends} {E : XK} {r : RS} (o : OutS P g D E r) (l : G.le g g') : OutS P g' D E r := by
  cases r with
  | nx sl h => exact fun g2 σ H l2 => o g2 σ H (l.trans l2)
  | rt d h => exact fun g2 σ H l2 => o g2 σ H (l.trans l2)
  | bk sl h => exact fun g2 σ H l2 => o g2 σ H (l.trans l2)
  | ct sl h => exact fun g2 σ H l2 => o g2 σ H (l.trans l2)
  | exc c p h => exact fun g2 H cls dd l2 => o g2 H cls dd (l.trans l2)
  | no => exact o
def rdS (P : Pm) (E : XK) (f : FS) : TS := fun D σ H => ∃ g sl h, SR P g sl h σ H ∧ OutS P g D E (f sl h)
/-- an expression's outcome, then a statement's -/
def R.st {α : Type} (r : R α) (f : α → Hc → RS) : RS := match r with
  | .ok a h => f a h | .exc c p h => .exc c p h | .no => .no
def RS.seq (r : RS) (f : FS) : RS := match r with
  | .nx sl h => f sl h | r => r
theorem OutS.st {α' β' : Type} {P : Pm} {g : G} {rel' : G → α' → β' → Prop} {D : Ends} {Q' : β' → Hp → Prop} {E : XK} {r : R α'} {f : α' → Hc → RS} (o : OutS P g D E (r.st f))
    (k : ∀ d h g' H v, G.le g g' → HS P g' h H → rel' g' d v → OutS P g' D E (f d h) → Q' v H) : Out P g rel' Q' E r := by
  cases r with
  | ok d h => exact fun g' H v l hs rl => k d h g' H v l hs rl (OutS.le (r := f d h) o l)
  | exc c p h => exact o
  | no => exact o
theorem OutS.seq {P : Pm} {g : G} {D : Ends} {E : XK} {r : RS} {f : FS} (o : OutS P g D E (r.seq f)) : OutS P g { D with nx := rdS P E f D } E r := by
  cases r with
  | nx sl h => exact fun g' σ H l x => ⟨g', sl, h, x, OutS.le (r := f sl h) o l⟩
  | rt d h => exact o
  | bk sl h => exact o
  | ct sl h => exact o
  | exc c p h => exact o
  | no => exact o
theorem PE.weak {X : Cx} {e : Expr} {t t' : TE} (h : PE X e t) (w : ∀ σ H Q, t' σ H Q → t σ H Q) : PE X e t' := ⟨fun pins s σ H Q I q => h.run pins s σ H Q I (w σ H Q q)⟩
theorem PT.weak {X : Cx} {e : Expr} {t t' : TT} (h : PT X e t) (w : ∀ σ H Q, t' σ H Q → t σ H Q) : PT X e t' := ⟨fun pins s σ H Q I q => h.run pins s σ H Q I (w σ H Q q)⟩
theorem PW.weak {X : Cx} {e : Expr} {t t' : TT} (h : PW X e t) (w : ∀ σ H Q, t' σ H Q → t σ H Q) : PW X e t' := ⟨fun wh pins s σ H Q I q => h.run wh pins s σ H Q I (w σ H Q q)⟩
theorem PA.weak {X : Cx} {e : List Expr} {t t' : TA} (h : PA X e t) (w : ∀ σ H Q, t' σ H Q → t σ H Q) : PA X e t' := ⟨fun pos pins s σ H Q I q => h.run pos pins s σ H Q I (w σ H Q q)⟩
theorem PS.weak {X : Cx} {e : Stmt} {t t' : TS} (h : PS X e t) (w : ∀ D σ H, t' D σ H → t D σ H) : PS X e t' := ⟨fun pins s σ H D I q => h.run pins s σ H D I (w D σ H q)⟩
theorem PSs.weak {X : Cx} {e : List Stmt} {t t' : TS} (h : PSs X e t) (w : ∀ D σ H, t' D σ H → t D σ H) : PSs X e t' := ⟨fun pins s σ H D I q => h.run pins s σ H D I (w D σ H q)⟩
section
variable {P : Pm} {E : XK} {X : Cx} {e a b c : Expr} {f fa fb fc : FE} {pos : Pos}
/-! ### expressions -/
def fVar (i : Nat) : FE := fun sl h => match gs sl i with
  | some d => .ok d h | none => .no
theorem sE_var {i : Nat} {x : Str} (hN : X.N[i]? = some x) (hv : Vis X.env.scope x) (hd : (x == ("__debug__" : Str)) = false := by decide) (hcd : (x == ("__classdict__" : Str)) = false := by decide) : PE X (.Name x pos) (rdE P E (fVar i)) :=
  PE.weak (pe_var hN hv hd hcd) fun σ H Q ⟨g, sl, h, x, o⟩ => by
    unfold fVar at o
    cases q : gs sl i with
    | none => rw [q] at o; exact o.elim
    | some d =>
      rw [q] at o
      obtain ⟨v, h1, h2⟩ := x.slot i d q
      exact ⟨v, h1, o g H v (.refl g) x.hs h2⟩
def fC (d : D) : FE := fun _ h => .ok d h
theorem sE_c {d : D} {v : V} (h : PE X e (tC v)) (r : ∀ g : G, RV P g.F g.ρ d v) : PE X e (rdE P E (fC d)) :=
  PE.weak h fun σ H Q ⟨g, sl, h, x, o⟩ => o g H v (.refl g) x.hs (r g)
theorem sE_int {i j} : PE X (.Constant (.int i) j pos) (rdE P E (fC (.int i))) := sE_c pe_int fun _ => .int i
theorem sE_bl {b j} : PE X (.Constant (.bool b) j pos) (rdE P E (fC (.bl b))) := sE_c pe_bl fun _ => .bl b
theorem sE_non {j} : PE X (.Constant .none j pos) (rdE P E (fC .non)) := sE_c pe_non fun _ => .non
theorem sE_str {s : List Nat} {x : Str} {j} (hx : x = toStr s := by decide) : PE X (.Constant (.str x) j pos) (rdE P E (fC (.str s))) := sE_c pe_str fun _ => by rw [hx]; exact .str s
/-- a global whose value is known: a function, a class -/
theorem sE_glo {n : Nat} {x : Str} {u : Value} (hg : Gl X x) (hm : X.mg x = some u) (r : RelV (P.Γ n) u) (hd : (x == ("__debug__" : Str)) = false := by decide) : PE X (.Name x pos) (rdE P E (fC (.glo n))) := sE_c (pe_glob hg hm r hd) fun _ => .glo n
/-- a global constant -/
theorem sE_con {d : D} {v : V} {x : Str} {u : Value} (hg : Gl X x) (hm : X.mg x = some u) (r : RelV v u) (rd : ∀ g : G, RV P g.F g.ρ d v) (hd : (x == ("__debug__" : Str)) = false := by decide) : PE X (.Name x pos) (rdE P E (fC d)) := sE_c (pe_glob hg hm r hd) rd
/-- an operation on two values -/
abbrev D2 := D → D → Hc → R D
def rd2 (P : Pm) (E : XK) (op : D2) : R2 := fun x y H Q => ∃ g h d e, HS P g h H ∧ RV P g.F g.ρ d x ∧ RV P g.F g.ρ e y ∧ Out P g (rv P) Q E (op d e h)
abbrev OpS (P : Pm) (E : XK) (X : Cx) (f : Value → Value → Sem Value) (op : D2) : Prop := OpR X f (rd2 P E op)
def f2 (op : D2) (fa fb : FE) : FE := fun sl h => (fa sl h).bind fun d h => (fb sl h).bind fun e h => op d e h
theorem f2_rd {op : D2} : ∀ σ H Q, rdE P E (f2 op fa fb) σ H Q → tOp (rd2 P E op) (rdE P E fa) (rdE P E fb) σ H Q := fun σ H Q ⟨g, sl, h, x, o⟩ =>
  ⟨g, sl, h, x, Out.bind o fun d h1 g1 H1 v l1 s1 r1 o1 => ⟨g1, sl, h1, x.le l1 s1, Out.bind o1 fun e h2 g2 H2 w l2 s2 r2 o2 => ⟨g2, h2, d, e, s2, rv_le l2 r1, r2, o2⟩⟩⟩
theorem sE_op {op : Operator} {d : D2} (ho : OpS P E X (binaryOp op) d) (ha : PE X a (rdE P E fa)) (hb : PE X b (rdE P E fb)) : PE X (.BinOp a op b pos) (rdE P E (f2 d fa fb)) := PE.weak (pe_op ho ha hb) f2_rd
theorem sE_cmp {op : CmpOp} {d : D2} (ho : OpS P E X (compareOp op) d) (ha : PE X a (rdE P E fa)) (hb : PE X b (rdE P E fb)) (hm : behindInMarks op b = false := by first | exact nomark _ | with_unfolding_all rfl) : PE X (.Compare a [op] [b] pos) (rdE P E (f2 d fa fb)) := PE.weak (pe_cmpR ho ha hb hm) f2_rd
/-- a value as a test -/
def tOf (f : FE) : FT := fun sl h => (f sl h).bind fun d h => match d with
  | .bl b => .ok b h | _ => .no
theorem tOf_rd : ∀ σ H Q, rdT P E (tOf f) σ H Q → tTest (rdE P E f) σ H Q := fun σ H Q ⟨g, sl, h, x, o⟩ => ⟨g, sl, h, x, Out.bind o fun d h1 g1 H1 v l1 s1 r1 o1 => by
    cases r1 with
    | bl b => exact ⟨b, rfl, o1 g1 H1 b (.refl _) s1 rfl⟩
    | _ => exact o1.elim⟩
theorem sT_cmp {op : CmpOp} {d : D2} (ho : OpS P E X (compareOp op) d) (ha : PE X a (rdE P E fa)) (hb : PE X b (rdE P E fb)) (hm : behindInMarks op b = false := by first | exact nomark _ | with_unfolding_all rfl) : PT X (.Compare a [op] [b] pos) (rdT P E (tOf (f2 d fa fb))) :=
  PT.weak (pt_cmpR ho ha hb hm) fun σ H Q q => by
    obtain ⟨g, sl, h, x, o⟩ := tOf_rd σ H Q q
    exact f2_rd _ _ _ ⟨g, sl, h, x, o⟩
theorem sT_val (h : PE X e (rdE P E f)) (he : ∀ whole, isTrue e X.env whole = (do let v ← whole; standAt e.pos; holding [v] (truthy v)) := by intro _; rfl) : PT X e (rdT P E (tOf f)) := PT.weak (pt_val h he) fun σ H Q q => tOf_rd σ H Q q
/-- a op b op c -/
def f3 (op op' : D2) (fa fb fc : FE) : FE := fun sl h => (fa sl h).bind fun d h => (fb sl h).bind fun e h => (op d e h).bind fun k h => match k with
  | .bl true => (fc sl h).bind fun d' h => op' e d' h | .bl false => .ok (.bl false) h | _ => .no
theorem f3_rd {op op' : D2} : ∀ σ H Q, rdE P E (f3 op op' fa fb fc) σ H Q → tChain (rd2 P E op) (rd2 P E op') (rdE P E fa) (rdE P E fb) (rdE P E fc) σ H Q := fun σ H Q ⟨g, sl, h, x, o⟩ =>
  ⟨g, sl, h, x, Out.bind o fun d h1 g1 H1 v l1 s1 r1 o1 => ⟨g1, sl, h1, x.le l1 s1, Out.bind o1 fun e h2 g2 H2 w l2 s2 r2 o2 => ⟨g2, h2, d, e, s2, rv_le l2 r1, r2, Out.bind o2 fun k h3 g3 H3 z l3 s3 r3 o3 => by
    have x3 : SR P g3 sl h3 σ H3 := x.le ((l1.trans l2).trans l3) s3
    cases r3 with
    | bl b =>
      cases b with
      | true => exact ⟨true, rfl, ⟨g3, sl, h3, x3, Out.bind o3 fun d' h4 g4 H4 u l4 s4 r4 o4 => ⟨g4, h4, e, d', s4, rv_le l4 (rv_le l3 r2), r4, o4⟩⟩⟩
      | false => exact ⟨false, rfl, o3 g3 H3 (.bl false) (.refl _) s3 (.bl false)⟩
    | _ => exact o3.elim⟩⟩⟩
theorem sE_chain {op op' : CmpOp} {d d' : D2} (ho : OpS P E X (compareOp op) d) (ho' : OpS P E X (compareOp op') d') (ha : PE X a (rdE P E fa)) (hb : PE X b (rdE P E fb)) (hc : PE X c (rdE P E fc)) (hm : lastMarks [op, op'] [b, c] = false := by with_unfolding_all rfl) :
    PE X (.Compare a [op, op'] [b, c] pos) (rdE P E (f3 d d' fa fb fc)) := PE.weak (pe_chain ho ho' ha hb hc hm) f3_rd
theorem sT_chain {op op' : CmpOp} {d d' : D2} (ho : OpS P E X (compareOp op) d) (ho' : OpS P E X (compareOp op') d') (ha : PE X a (rdE P E fa)) (hb : PE X b (rdE P E fb)) (hc : PE X c (rdE P E fc)) (hm : lastMarks [op, op'] [b, c] = false := by with_unfolding_all rfl) :
    PT X (.Compare a [op, op'] [b, c] pos) (rdT P E (tOf (f3 d d' fa fb fc))) := PT.weak (pt_chain ho ho' ha hb hc hm) fun σ H Q q => by
    obtain ⟨g, sl, h, x, o⟩ := tOf_rd σ H Q q
    exact f3_rd _ _ _ ⟨g, sl, h, x, o⟩
/-! and, or, not, if -/
variable {t u : FT} {rest : List Expr}
def tAndF (t u : FT) : FT := fun sl h => (t sl h).bind fun b h => match b with
  | true => u sl h | false => .ok false h
def tOrF (t u : FT) : FT := fun sl h => (t sl h).bind fun b h => match b with
  | true => .ok true h | false => u sl h
def tNotF (t : FT) : FT := fun sl h => (t sl h).bind fun b h => .ok (!b) h
theorem sW_and1 (ha : PT X a (rdT P E t)) : PW X (.BoolOp .And [a] pos) (rdT P E t) := pw_and1 ha
theorem sW_or1 (ha : PT X a (rdT P E t)) : PW X (.BoolOp .Or [a] pos) (rdT P E t) := pw_or1 ha
theorem sW_and (ha : PT X a (rdT P E t)) (hb : PW X (.BoolOp .And (b :: rest) pos) (rdT P E u)) : PW X (.BoolOp .And (a :: b :: rest) pos) (rdT P E (tAndF t u)) :=
  PW.weak (pw_and ha hb) fun σ H Q ⟨g, sl, h, x, o⟩ => ⟨g, sl, h, x, Out.bind o fun k h1 g1 H1 v l1 s1 r1 o1 => by
    cases (show k = v from r1)
    cases k with
    | true => exact ⟨g1, sl, h1, x.le l1 s1, o1⟩
    | false => exact o1 g1 H1 false (.refl _) s1 rfl⟩
theorem sW_or (ha : PT X a (rdT P E t)) (hb : PW X (.BoolOp .Or (b :: rest) pos) (rdT P E u)) : PW X (.BoolOp .Or (a :: b :: rest) pos) (rdT P E (tOrF t u)) :=
  PW.weak (pw_or ha hb) fun σ H Q ⟨g, sl, h, x, o⟩ => ⟨g, sl, h, x, Out.bind o fun k h1 g1 H1 v l1 s1 r1 o1 => by
    cases (show k = v from r1)
    cases k with
    | false => exact ⟨g1, sl, h1, x.le l1 s1, o1⟩
    | true => exact o1 g1 H1 true (.refl _) s1 rfl⟩
theorem sT_not (ha : PT X a (rdT P E t)) : PT X (.UnaryOp .Not a pos) (rdT P E (tNotF t)) :=
  PT.weak (pt_not ha) fun σ H Q ⟨g, sl, h, x, o⟩ => ⟨g, sl, h, x, Out.bind o fun k h1 g1 H1 v l1 s1 r1 o1 => by
    cases (show k = v from r1)
    exact o1 g1 H1 (!k) (.refl _) s1 rfl⟩
def fAnd (fa fb : FE) : FE := fun sl h => (fa sl h).bind fun d h => match d with
  | .bl true => fb sl h | .bl false => .ok (.bl false) h | _ => .no
def fOr (fa fb : FE) : FE := fun sl h => (fa sl h).bind fun d h => match d with
  | .bl true => .ok (.bl true) h | .bl false => fb sl h | _ => .no
def fNot (fa : FE) : FE := fun sl h => (fa sl h).bind fun d h => match d with
  | .bl b => .ok (.bl (!b)) h | _ => .no
theorem sE_one {op} (h : PE X a (rdE P E fa)) : PE X (.BoolOp op [a] pos) (rdE P E fa) := pe_one h
theorem sE_and (ha : PE X a (rdE P E fa)) (hb : PE X (.BoolOp .And (b :: rest) pos) (rdE P E fb)) : PE X (.BoolOp .And (a :: b :: rest) pos) (rdE P E (fAnd fa fb)) :=
  PE.weak (pe_and ha hb) fun σ H Q ⟨g, sl, h, x, o⟩ => ⟨g, sl, h, x, Out.bind o fun d h1 g1 H1 v l1 s1 r1 o1 => by
    cases r1 with
    | bl k =>
      cases k with
      | true => exact ⟨true, rfl, ⟨g1, sl, h1, x.le l1 s1, o1⟩⟩
      | false => exact ⟨false, rfl, o1 g1 H1 (.bl false) (.refl _) s1 (.bl _)⟩
    | _ => exact o1.elim⟩
theorem sE_or (ha : PE X a (rdE P E fa)) (hb : PE X (.BoolOp .Or (b :: rest) pos) (rdE P E fb)) : PE X (.BoolOp .Or (a :: b :: rest) pos) (rdE P E (fOr fa fb)) :=
  PE.weak (pe_or ha hb) fun σ H Q ⟨g, sl, h, x, o⟩ => ⟨g, sl, h, x, Out.bind o fun d h1 g1 H1 v l1 s1 r1 o1 => by
    cases r1 with
    | bl k =>
      cases k with
      | false => exact ⟨false, rfl, ⟨g1, sl, h1, x.le l1 s1, o1⟩⟩
      | true => exact ⟨true, rfl, o1 g1 H1 (.bl true) (.refl _) s1 (.bl _)⟩
    | _ => exact o1.elim⟩
theorem sE_not (ha : PE X a (rdE P E fa)) : PE X (.UnaryOp .Not a pos) (rdE P E (fNot fa)) :=
  PE.weak (pe_not ha) fun σ H Q ⟨g, sl, h, x, o⟩ => ⟨g, sl, h, x, Out.bind o fun d h1 g1 H1 v l1 s1 r1 o1 => by
    cases r1 with
    | bl k => exact ⟨k, rfl, o1 g1 H1 (.bl (!k)) (.refl _) s1 (.bl _)⟩
    | _ => exact o1.elim⟩
def fIf (t : FT) (fa fb : FE) : FE := fun sl h => (t sl h).bind fun k h => match k with
  | true => fa sl h | false => fb sl h
theorem sE_if (hc : PT X c (rdT P E t)) (ha : PE X a (rdE P E fa)) (hb : PE X b (rdE P E fb)) : PE X (.IfExp c a b pos) (rdE P E (fIf t fa fb)) :=
  PE.weak (pe_ifExp hc ha hb) fun σ H Q ⟨g, sl, h, x, o⟩ => ⟨g, sl, h, x, Out.bind o fun k h1 g1 H1 v l1 s1 r1 o1 => by
    cases (show k = v from r1)
    cases k with
    | true => exact ⟨g1, sl, h1, x.le l1 s1, o1⟩
    | false => exact ⟨g1, sl, h1, x.le l1 s1, o1⟩⟩
/-! argument lists, displays -/
variable {es : List Expr} {fs : FA}
def fNil : FA := fun _ h => .ok [] h
def fCons (f : FE) (fs : FA) : FA := fun sl h => (f sl h).bind fun d h => (fs sl h).bind fun ds h => .ok (d :: ds) h
theorem sA_nil : PA X [] (rdA P E fNil) := PA.weak pa_nil fun σ H Q ⟨g, sl, h, x, o⟩ => o g H [] (.refl _) x.hs .nil
theorem sA_cons (ha : PE X e (rdE P E f)) (hr : PA X es (rdA P E fs)) (hs : starEach (e :: es) X.env = (false, eval e X.env) :: starEach es X.env := by rfl) : PA X (e :: es) (rdA P E (fCons f fs)) :=
  PA.weak (pa_cons ha hr hs) fun σ H Q ⟨g, sl, h, x, o⟩ => ⟨g, sl, h, x, Out.bind o fun d h1 g1 H1 v l1 s1 r1 o1 => ⟨g1, sl, h1, x.le l1 s1, Out.bind o1 fun ds h2 g2 H2 vs l2 s2 r2 o2 =>
    o2 g2 H2 (v :: vs) (.refl _) s2 (.cons (rv_le l2 r1) r2)⟩⟩
/-- a new tuple, list that never changes | a new list that may change -/
theorem new_tup {g : G} {h : Hc} {H : Hp} {xs : List D} {vs : List V} {p : Addr} {Q : VK} (s : HS P g h H) (r : RVs P g.F g.ρ xs vs) (hp : H p = none) (o : Out P g (rv P) Q E (.ok (.tup xs) h)) : Q (.ref p) (upd H p (.tup vs)) :=
  have l := G.fz_le (o := HO.tup vs) (exNone s.fr hp)
  o _ _ _ l (s.fz hp) (.tup (SqT.of (show upd g.F p (.tup vs) p = _ from upd_same)) (rvs_le l r))
theorem new_lst {g : G} {h : Hc} {H : Hp} {xs : List D} {vs : List V} {p : Addr} {Q : VK} (s : HS P g h H) (r : RVs P g.F g.ρ xs vs) (hp : H p = none) (o : Out P g (rv P) Q E (.ok (.lst xs) h)) : Q (.ref p) (upd H p (.lst vs)) :=
  have l := G.fz_le (o := HO.lst vs) (exNone s.fr hp)
  o _ _ _ l (s.fz hp) (.lst (show upd g.F p (.lst vs) p = _ from upd_same) (rvs_le l r))
theorem new_cell {g : G} {h : Hc} {H : Hp} {c : C} {ob : HO} {p : Addr} {Q : VK} (s : HS P g h H) (hp : H p = none) (r : RC P g.F g.ρ p c ob) (o : Out P g (rv P) Q E (.ok (.ref h.nx) (h.new c))) : Q (.ref p) (upd H p ob) :=
  let ⟨s', l, e⟩ := s.mk' hp r
  o _ _ _ l s' (.ref e)
/-- a list, as a value or as a cell -/
def mkL (m : Bool) (xs : List D) (h : Hc) : R D := match m with
  | true => .ok (.ref h.nx) (h.new (.lst xs)) | false => .ok (.lst xs) h
def mkD (m : Bool) (ks vs : List D) (h : Hc) : R D := match m with
  | true => .ok (.ref h.nx) (h.new (.dct ks vs)) | false => .ok (.dct ks vs) h
theorem new_L {m : Bool} {g : G} {h : Hc} {H : Hp} {xs : List D} {vs : List V} {p : Addr} {Q : VK} (s : HS P g h H) (r : RVs P g.F g.ρ xs vs) (hp : H p = none) (o : Out P g (rv P) Q E (mkL m xs h)) : Q (.ref p) (upd H p (.lst vs)) := by
  cases m with
  | false => exact new_lst s r hp o
  | true => exact new_cell s hp (.lst r) o
def short {α : Type} (xs : List D) (r : R α) : R α := match Nat.ble xs.length 100000 with
  | true => r | false => .no
theorem short_ok {α β : Type} {g : G} {rel : G → α → β → Prop} {Q : β → Hp → Prop} {xs : List D} {r : R α} (o : Out P g rel Q E (short xs r)) : xs.length ≤ sizeLine ∧ Out P g rel Q E r := by
  unfold short at o
  cases q : Nat.ble xs.length 100000 with
  | true =>
    rw [q] at o
    have := Nat.le_of_ble_eq_true q
    exact ⟨by rw [sizeLine_eq]; omega, o⟩
  | false => rw [q] at o; exact o.elim
def fTup (fs : FA) : FE := fun sl h => (fs sl h).bind fun ds h => short ds (.ok (.tup ds) h)
def fLst (m : Bool) (fs : FA) : FE := fun sl h => (fs sl h).bind fun ds h => short ds (mkL m ds h)
theorem sE_tup {x1} (h : PA X es (rdA P E fs)) : PE X (.Tuple es x1 pos) (rdE P E (fTup fs)) :=
  PE.weak (pe_tup h) fun σ H Q ⟨g, sl, h, x, o⟩ => ⟨g, sl, h, x, Out.bind o fun ds h1 g1 H1 vs l1 s1 r1 o1 => by
    obtain ⟨z, o1⟩ := short_ok o1
    exact ⟨by rw [← r1.length]; exact z, fun p hp => new_tup s1 r1 hp o1⟩⟩
theorem sE_lst {m : Bool} (h : PA X es (rdA P E fs)) : PE X (.List es pos) (rdE P E (fLst m fs)) :=
  PE.weak (pe_lst h) fun σ H Q ⟨g, sl, h, x, o⟩ => ⟨g, sl, h, x, Out.bind o fun ds h1 g1 H1 vs l1 s1 r1 o1 => by
    obtain ⟨z, o1⟩ := short_ok o1
    exact ⟨by rw [← r1.length]; exact z, fun p hp => new_L s1 r1 hp o1⟩⟩
end
/-! ### statements -/
section
variable {P : Pm} {E : XK} {X : Cx} {e : Expr} {f : FE} {t : FT} {s s' : FS} {st : Stmt} {rest sts : List Stmt} {pos : Pos}
def sNil : FS := fun sl h => .nx sl h
def sSeq (s s' : FS) : FS := fun sl h => (s sl h).seq s'
theorem sS_nil : PSs X [] (rdS P E sNil) := PSs.weak pss_nil fun D σ H ⟨g, sl, h, x, o⟩ => o g σ H (.refl _) x
theorem sS_cons (h1 : PS X st (rdS P E s)) (h2 : PSs X rest (rdS P E s')) : PSs X (st :: rest) (rdS P E (sSeq s s')) := PSs.weak (pss_cons h1 h2) fun D σ H ⟨g, sl, h, x, o⟩ => ⟨g, sl, h, x, OutS.seq o⟩
theorem sS_one (h1 : PS X st (rdS P E s)) : PSs X [st] (rdS P E s) := pss_one h1
/-- code that is never come to -/
def sNever : FS := fun _ _ => .no
theorem sS_never : PSs X sts (rdS P E sNever) := PSs.weak pss_never fun D σ H ⟨g, sl, h, x, o⟩ => o
theorem s_never : PS X st (rdS P E sNever) := PS.weak ps_never fun D σ H ⟨g, sl, h, x, o⟩ => o
theorem s_pass : PS X (.Pass pos) (rdS P E sNil) := PS.weak ps_pass fun D σ H ⟨g, sl, h, x, o⟩ => o g σ H (.refl _) x
def sBrk : FS := fun sl h => .bk sl h
def sCnt : FS := fun sl h => .ct sl h
theorem s_break : PS X (.Break pos) (rdS P E sBrk) := PS.weak ps_break fun D σ H ⟨g, sl, h, x, o⟩ => o g σ H (.refl _) x
theorem s_continue : PS X (.Continue pos) (rdS P E sCnt) := PS.weak ps_continue fun D σ H ⟨g, sl, h, x, o⟩ => o g σ H (.refl _) x
def sEx (f : FE) : FS := fun sl h => (f sl h).st fun _ h => .nx sl h
theorem s_expr (he : PE X e (rdE P E f)) (hs : swapsWith e none pos.line X.env = pure false := by rfl) : PS X (.Expr e pos) (rdS P E (sEx f)) :=
  PS.weak (ps_expr he hs) fun D σ H ⟨g, sl, h, x, o⟩ => ⟨g, sl, h, x, OutS.st o fun d h1 g1 H1 v l1 s1 r1 o1 => o1 g1 σ H1 (.refl _) (x.le l1 s1)⟩
def sRet (f : FE) : FS := fun sl h => (f sl h).st fun d h => .rt d h
theorem s_ret (he : PE X e (rdE P E f)) : PS X (.Return (some e) pos) (rdS P E (sRet f)) :=
  PS.weak (ps_ret he) fun D σ H ⟨g, sl, h, x, o⟩ => ⟨g, sl, h, x, OutS.st o fun d h1 g1 H1 v l1 s1 r1 o1 => o1 g1 H1 v (.refl _) s1 r1⟩
def sRetN : FS := fun sl h => .rt .non h
theorem s_retN : PS X (.Return none pos) (rdS P E sRetN) := PS.weak ps_retN fun D σ H ⟨g, sl, h, x, o⟩ => o g H .non (.refl _) x.hs .non
def sIf (t : FT) (s s' : FS) : FS := fun sl h => (t sl h).st fun k h => match k with
  | true => s sl h | false => s' sl h
theorem s_if {c : Expr} {a b : List Stmt} (hc : PT X c (rdT P E t)) (ha : PSs X a (rdS P E s)) (hb : PSs X b (rdS P E s')) : PS X (.If c a b pos) (rdS P E (sIf t s s')) :=
  PS.weak (ps_if hc ha hb) fun D σ H ⟨g, sl, h, x, o⟩ => ⟨g, sl, h, x, OutS.st o fun k h1 g1 H1 v l1 s1 r1 o1 => by
    cases (show k = v from r1)
    cases k with
    | true => exact ⟨g1, sl, h1, x.le l1 s1, o1⟩
    | false => exact ⟨g1, sl, h1, x.le l1 s1, o1⟩⟩
/-- name = e -/
def sSet (i : Nat) (f : FE) : FS := fun sl h => (f sl h).st fun d h => .nx (sl.set i (some d)) h
theorem s_set {i : Nat} {x : Str} {pos' : Pos} (hN : X.N.Nodup) (hi : X.N[i]? = some x) (hx : Loc X.env.scope x) (he : PE X e (rdE P E f)) (hs : swapsWith e (some (.Name x pos')) pos.line X.env = pure false := by rfl)
    (hf : X.fn x = true ∨ X.env.scope.names.lookup x = some .local := by first | exact .inl rfl | exact .inr rfl | assumption) : PS X (.Assign [.Name x pos'] e pos) (rdS P E (sSet i f)) :=
  PS.weak (ps_set hN hi hx he hs hf) fun D σ H ⟨g, sl, h, x, o⟩ => ⟨g, sl, h, x, OutS.st o fun d h1 g1 H1 v l1 s1 r1 o1 => o1 g1 _ H1 (.refl _) ((x.le l1 s1).set r1)⟩
end
/-! ### calls -/
/-- a function of the program as a function of data -/
abbrev FF := List D → Hc → R D
def spF (P : Pm) (n : Nat) (F : FF) : Sp := fun vs H Q E => vs.length = n ∧ ∃ g ds h, HS P g h H ∧ RVs P g.F g.ρ ds vs ∧ Out P g (rv P) Q E (F ds h)
theorem spF_len {P : Pm} {n : Nat} {F : FF} : ∀ vs H Q E, spF P n F vs H Q E → vs.length = n := fun _ _ _ _ h => h.1
def fCall (n : Nat) (F : FF) (fs : FA) : FE := fun sl h => (fs sl h).bind fun ds h => match Nat.beq ds.length n with
  | true => F ds h | false => .no
section
variable {P : Pm} {E : XK} {X : Cx} {k n : Nat} {f C : Addr} {fd : FuncData} {ps : List Str} {F : FF} {x m : Str} {p pos apos : Pos} {e o : Expr} {es : List Expr} {fs : FA} {fo : FE}
abbrev FnS (X : Cx) (P : Pm) (k : Nat) (f : Addr) (fd : FuncData) (ps : List Str) (n : Nat) (F : FF) : Prop := FnOk X.prog X.w X.K X.mg X.base (L2.CX X.prog X.w) k f fd ps (spF P n F)
abbrev Tk (X : Cx) (E : XK) : Prop := Takes X (fun cls d _ H => E cls d H)
theorem call_sp {g : G} {h : Hc} {H : Hp} {ds : List D} {vs : List V} {Q : VK} (s : HS P g h H) (r : RVs P g.F g.ρ ds vs) (o : Out P g (rv P) Q E (match Nat.beq ds.length n with
  | true => F ds h | false => .no)) : spF P n F vs H Q E := by
  cases q : Nat.beq ds.length n with
  | false => rw [q] at o; exact o.elim
  | true =>
    rw [q] at o
    exact ⟨by rw [← r.length]; exact Nat.eq_of_beq_eq_true q, g, ds, h, s, r, o⟩
theorem sE_call (FO : FnS X P k f fd ps n F) (tk : Tk X E) (hr : Room k X.A) (hg : Gl X x) (hm : X.mg x = some (.ref f)) (hk : PySem.W.keepIn X.K (.ref f) = true) (hb : Binds X.K fd ps []) (ha : PA X (e :: es) (rdA P E fs))
    (hdb : (x == ("__debug__" : Str)) = false := by decide) (he : starEach (e :: es) X.env = (false, eval e X.env) :: starEach es X.env :=
        by rfl) (hpl : (backTo pos (starEach es X.env)).any (·.1) = false := by rfl) :
    PE X (.Call (.Name x p) (e :: es) [] pos) (rdE P E (fCall n F fs)) :=
  PE.weak (pe_call FO hr hg hm hk hb .nil (passes_call (E := E) tk fun _ _ _ _ h => h) ha hdb he hpl) fun σ H Q ⟨g, sl, h, x, o⟩ => ⟨g, sl, h, x, Out.bind o fun ds h1 g1 H1 vs l1 s1 r1 o1 => by
    rw [List.append_nil]; exact call_sp s1 r1 o1⟩
theorem sE_call0 (FO : FnS X P k f fd ps n F) (tk : Tk X E) (hr : Room k X.A) (hg : Gl X x) (hm : X.mg x = some (.ref f)) (hk : PySem.W.keepIn X.K (.ref f) = true) (hb : Binds X.K fd ps [])
    (hdb : (x == ("__debug__" : Str)) = false := by decide) : PE X (.Call (.Name x p) [] [] pos) (rdE P E (fCall n F fNil)) :=
  PE.weak (pe_call0 FO hr hg hm hk hb .nil (passes_call (E := E) tk fun _ _ _ _ h => h) hdb) fun σ H Q ⟨g, sl, h, x, o⟩ => call_sp (ds := []) x.hs .nil o
/-- the body of a def as a function of data: ns names, the parameters first -/
def fDef (ns : Nat) (s : FS) : FF := fun ds h => match s (ds.map some ++ List.replicate (ns - ds.length) none) h with
  | .nx _ h => .ok .non h | .rt d h => .ok d h | .exc c p h => .exc c p h | _ => .no
theorem sr_start {g : G} {h : Hc} {H : Hp} {ds : List D} {vs : List V} {N : List Str} (s : HS P g h H) (r : RVs P g.F g.ρ ds vs) : SR P g (ds.map some ++ List.replicate (N.length - ds.length) none) h (L2.start N vs) H := by
  have hl := r.length
  refine ⟨s, by unfold L2.start; simp only [List.length_append, List.length_map, List.length_replicate]; omega, fun i d q => ?_⟩
  unfold gs at q
  by_cases hi : i < ds.length
  · rw [List.getElem?_append_left (by simpa using hi), List.getElem?_map] at q
    cases e : ds[i]? with
    | none => rw [e] at q; cases q
    | some d' =>
      rw [e] at q
      have q' : d' = d := Option.some.inj q
      subst q'
      obtain ⟨v, h1, h2⟩ := r.get e
      refine ⟨v, ?_, h2⟩
      unfold L2.start
      rw [List.getElem?_append_left (by simp; omega), List.getElem?_map, h1]
      rfl
  · rw [List.getElem?_append_right (by simp; omega), List.getElem?_replicate] at q
    by_cases z : i - (ds.map some).length < N.length - ds.length
    · rw [if_pos z] at q; cases q
    · rw [if_neg z] at q; cases q
/-- THE RULE: a def by its body -/
theorem fn_ev {prog : Program} {w : World} {K : PySem.W.Frag} {mg : Str → Option Value} {base : Heap} {name qual : Str} {params : Arguments} {body : List Stmt} {scope : Scope} {dV kV doc pm cdv ct oc : Value} {an od : Option Addr}
    {osl : Array (Option Value)} {N : List Str} {s : FS} (lk : K.lookup f = some ⟨oc, od, .func (PySem.W.fnOf name qual params body scope dV kV doc pm an cdv ct), osl⟩) (hcd : PySem.W.codeIn K cdv qual = true) (S : FnScope N ps scope)
    (hbody : ∀ (A : Around) (outer : List Env) (s₀ : Shared) (H : Hp) (E : XK), Room k (A.deeper (envOfC qual scope s₀.heap.objs.size f cdv)) →
      PSs (cxOf (L2.CX prog w) prog w K mg base N qual scope f cdv A outer s₀ H E) body (rdS P E s)) :
    FnOk prog w K mg base (L2.CX prog w) (k + 1) f (PySem.W.fnOf name qual params body scope dV kV doc pm an cdv ct) ps (spF P ps.length (fDef N.length s)) := by
  refine fn_of lk hcd S spF_len fun A outer s₀ H vs Q E hr hsp => ⟨_, hbody A outer s₀ H E hr, ?_⟩
  obtain ⟨_, g, ds, h, hs, r, o⟩ := hsp
  refine ⟨g, _, h, sr_start hs r, ?_⟩
  unfold fDef at o
  rw [show List.length ds = ds.length from rfl] at o
  cases q : s (ds.map some ++ List.replicate (N.length - ds.length) none) h with
  | nx sl h' => rw [q] at o; exact fun g' σ H' l x => o g' H' .non l x.hs .non
  | rt d h' => rw [q] at o; exact o
  | exc c p h' => rw [q] at o; exact o
  | bk sl h' => rw [q] at o; exact o.elim
  | ct sl h' => rw [q] at o; exact o.elim
  | no => rw [q] at o; exact o.elim
/-- in a def's body: what is raised leaves it so -/
theorem tk_of {prog : Program} {w : World} {K : PySem.W.Frag} {mg : Str → Option Value} {base : Heap} {N : List Str} {qual : Str} {scope : Scope} {cdv : Value} {A : Around} {outer : List Env} {s₀ : Shared} {H : Hp} :
    Tk (cxOf (L2.CX prog w) prog w K mg base N qual scope f cdv A outer s₀ H E) E := takes_of (E₁ := fun e' s'' => L2.CX prog w outer H s₀ E e' s'') rfl rfl rfl rfl
theorem po_of {prog : Program} {w : World} {K : PySem.W.Frag} {mg : Str → Option Value} {base : Heap} {N : List Str} {qual : Str} {scope : Scope} {cdv : Value} {A : Around} {outer : List Env} {s₀ : Shared} {H : Hp} :
    PassesOwn (model prog w) (A.deeper (envOfC qual scope s₀.heap.objs.size f cdv)) (envOfC qual scope s₀.heap.objs.size f cdv) (cxOf (L2.CX prog w) prog w K mg base N qual scope f cdv A outer s₀ H E).xe := passes_of (K := fun e s'' => L2.CX prog w outer H s₀ E e s'') (E₁ := fun e' s'' => L2.CX prog w outer H s₀ E e' s'') (X := cxOf (L2.CX prog w) prog w K mg base N qual scope f cdv A outer s₀ H E) rfl
end
end EV
end S_EvB
section S_EvC
/-! EvC: numbers, texts, lists and tuples: operations on values. -/
namespace EV
open PySem PySem.Spec PyProof.Rows L2 Evl
def asL (h : Hc) : D → Option (List D)
  | .lst xs => some xs | .cst xs => some xs
  | .ref i => match h.get i with
    | some (.lst xs) => some xs | _ => none
  | _ => none
/-- a list of ours -/
def asM (h : Hc) : D → Option (List D)
  | .lst xs => some xs
  | .ref i => match h.get i with
    | some (.lst xs) => some xs | _ => none
  | _ => none
def asT : D → Option (List D)
  | .tup xs => some xs | _ => none
section
variable {P : Pm} {g : G} {h : Hc} {H : Hp} {d : D} {x : V} {xs : List D}
theorem HS.lst {i : Nat} (s : HS P g h H) (e : h.get i = some (.lst xs)) : ∃ a vs, g.ρ i = some a ∧ g.F a = none ∧ H a = some (.lst vs) ∧ RVs P g.F g.ρ xs vs := by
  obtain ⟨a, o, h1, h2, h3, h4⟩ := s.cell i _ e
  cases h4 with
  | lst r => exact ⟨a, _, h1, h2, h3, r⟩
theorem asM_ok (s : HS P g h H) (r : RV P g.F g.ρ d x) (e : asM h d = some xs) : ∃ a vs, x = .ref a ∧ H a = some (.lst vs) ∧ RVs P g.F g.ρ xs vs := by
  unfold asM at e
  cases r with
  | lst hf rr => cases e; exact ⟨_, _, rfl, s.fr _ _ hf, rr⟩
  | @ref i a hr =>
    cases q : h.get i with
    | none => simp [q] at e
    | some c =>
      cases c with
      | lst ys =>
        simp [q] at e
        subst e
        obtain ⟨b, vs, h1, _, h3, h4⟩ := s.lst q
        rw [hr] at h1; cases h1
        exact ⟨_, _, rfl, h3, h4⟩
      | _ => simp [q] at e
  | _ => cases e
theorem asL_ok (s : HS P g h H) (r : RV P g.F g.ρ d x) (e : asL h d = some xs) : ∃ a vs, x = .ref a ∧ SqL P.K H a vs ∧ RVs P g.F g.ρ xs vs := by
  cases r with
  | cst hf rr => cases e; exact ⟨_, _, rfl, ex_l s.fr hf, rr⟩
  | lst hf rr => cases e; exact ⟨_, _, rfl, SqL.of (s.fr _ _ hf), rr⟩
  | @ref i a hr =>
    obtain ⟨b, vs, h1, h2, h3⟩ := asM_ok (d := .ref i) s (.ref hr) e
    exact ⟨b, vs, h1, SqL.of h2, h3⟩
  | _ => cases e
theorem asT_ok (s : HS P g h H) (r : RV P g.F g.ρ d x) (e : asT d = some xs) : ∃ a vs, x = .ref a ∧ SqT P.K H a vs ∧ RVs P g.F g.ρ xs vs := by
  cases r with
  | tup hf rr => cases e; exact ⟨_, _, rfl, ex_t s.fr hf, rr⟩
  | _ => cases e
end
/-! ### numbers -/
def small (i : Int) : Bool := Nat.ble i.natAbs 18446744073709551615
theorem small_ok {i : Int} (h : small i = true) : -(2 ^ 64) < i ∧ i < 2 ^ 64 := by
  have :=
      Nat.le_of_ble_eq_true h
  omega
def iMul (i j : Int) (h : Hc) : R D := match small i || small j with
  | true => .ok (.int (i * j)) h | false => .no
def iDiv (i j : Int) (h : Hc) : R D := match j with
  | .ofNat n => (match Nat.ble 1 n && Nat.ble n 1073741823 with
    | true => .ok (.int (i / j)) h | false => .no)
  | _ => .no
def iMod (i j : Int) (h : Hc) : R D := match j with
  | .ofNat n => (match Nat.ble 1 n with
    | true => .ok (.int (i % j)) h | false => .no)
  | _ => .no
def iPow (i j : Int) (h : Hc) : R D := match j with
  | .ofNat n => (match Nat.ble n 1000 && small i with
    | true => .ok (.int (i ^ n)) h | false => .no)
  | _ => .no
def catL (m : Bool) (a b : D) (h : Hc) : R D := R.opt (asM h a) fun xs => R.opt (asM h b) fun ys => short (xs ++ ys) (mkL m (xs ++ ys) h)
def dAdd (m : Bool) : D2 := fun a b h => match a with
  | .int i => (match b with
    | .int j => .ok (.int (i + j)) h | _ => .no)
  | .tup xs => (match b with
    | .tup ys => short (xs ++ ys) (.ok (.tup (xs ++ ys)) h) | _ => .no)
  | _ => catL m a b h
def dSub : D2 := fun a b h => match a with
  | .int i => (match b with
    | .int j => .ok (.int (i - j)) h | _ => .no)
  | _ => .no
def repL {α : Type} (xs : List α) : Nat → List α
  | 0 => [] | n + 1 => xs ++ repL xs n
theorem repL_eq {α : Type} (xs : List α) : ∀ n, repL xs n = (List.replicate n xs).flatten
  | 0 => rfl
  | n + 1 => by rw [List.replicate_succ, List.flatten_cons, ← repL_eq xs n]; rfl
def mulL (m : Bool) (a : D) (j : Int) (h : Hc) : R D := match j with
  | .ofNat n => (match Nat.ble n 1000 with
    | true => R.opt (asM h a) fun xs => short (repL xs n) (mkL m (repL xs n) h)
    | false => .no)
  | _ => .no
def dMul (m : Bool) : D2 := fun a b h => match b with
  | .int j => (match a with
    | .int i => iMul i j h | _ => mulL m a j h)
  | _ => .no
def dFdiv : D2 := fun a b h => match a with
  | .int i => (match b with
    | .int j => iDiv i j h | _ => .no)
  | _ => .no
def dMod : D2 := fun a b h => match a with
  | .int i => (match b with
    | .int j => iMod i j h | _ => .no)
  | _ => .no
def dPow : D2 := fun a b h => match a with
  | .int i => (match b with
    | .int j => iPow i j h | _ => .no)
  | _ => .no
section
variable {P : Pm} {E : XK} {X : Cx}
theorem Out.now {α β : Type} {g : G} {rel : G → α → β → Prop} {Q : β → Hp → Prop} {h : Hc} {H : Hp} {d : α} {v : β} (o : Out P g rel Q E (.ok d h)) (s : HS P g h H) (r : rel g d v) : Q v H := o g H v (.refl g) s r
theorem RVs.rep {F : Hp} {ρ : Nat → Option Addr} {xs : List D} {vs : List V} (r : RVs P F ρ xs vs) : ∀ n, RVs P F ρ (repL xs n) (repL vs n)
  | 0 => .nil
  | n + 1 => r.append (r.rep n)
theorem Out.opt {α β γ : Type} {g : G} {rel : G → α → β → Prop} {Q : β → Hp → Prop} {o : Option γ} {f : γ → R α} (x : Out P g rel Q E (R.opt o f)) : ∃ a, o = some a ∧ Out P g rel Q E (f a) := by
  cases o with
  | none => exact x.elim
  | some a => exact ⟨a, rfl, x⟩
theorem oAdd {m : Bool} (hK : X.K = P.K := by rfl) : OpS P E X (binaryOp .Add) (dAdd m) := by
  intro pins s σ H x y v u Q I rx ry ⟨g, h, a, b, hs, ra, rb, o⟩
  have cat : Out P g (rv P) Q E (catL m a b h) → wpAny (model X.prog X.w) X.A (binaryOp .Add v u) (EP X pins σ Q) X.xe s := fun o => by
    obtain ⟨xs, e1, o⟩ := Out.opt o
    obtain ⟨ys, e2, o⟩ := Out.opt o
    obtain ⟨z, o⟩ := short_ok o
    obtain ⟨l, vs, rfl, h1, r1⟩ := asM_ok hs ra e1
    obtain ⟨l', vs', rfl, h2, r2⟩ := asM_ok hs rb e2
    refine op_cat pins s σ H _ _ v u Q I rx ry ⟨l, l', vs, vs', rfl, rfl, h1, h2, ?_, fun p hp => new_L hs (r1.append r2) hp o⟩
    rw [← r1.length, ← r2.length, ← List.length_append]; exact z
  cases ra with
  | int i =>
    cases rb with
    | int j => exact op_add pins s σ H _ _ v u Q I rx ry ⟨i, j, rfl, rfl, o.now hs (.int _)⟩
    | _ => exact o.elim
  | @tup p1 vs xs h1 r1 =>
    cases rb with
    | @tup p2 ws ys h2 r2 =>
      obtain ⟨z, o⟩ := short_ok o
      refine op_catA pins s σ H _ _ v u Q I rx ry ⟨p1, p2, vs, ws, rfl, rfl, by rw [hK]; exact ex_t hs.fr h1, by rw [hK]; exact ex_t hs.fr h2, by rw [← r1.length, ← r2.length, ← List.length_append]; exact z, fun e => ?_, fun _ e => ?_, fun _ _ p hp => new_tup hs (r1.append r2) hp o⟩
      · subst e; cases r1; exact o.now hs (.tup h2 r2)
      · subst e; cases r2; exact o.now hs (.tup h1 (by rw [List.append_nil]; exact r1))
    | _ => exact o.elim
  | lst h1 r1 => exact cat o
  | ref hr => exact cat o
  | _ => first | exact cat o | exact o.elim
theorem oSub : OpS P E X (binaryOp .Sub) dSub := by
  intro pins s σ H x y v u Q I rx ry ⟨g, h, a, b, hs, ra, rb, o⟩
  cases ra with
  | int i =>
    cases rb with
    | int j => exact op_sub pins s σ H _ _ v u Q I rx ry ⟨i, j, rfl, rfl, o.now hs (.int _)⟩
    | _ => exact o.elim
  | _ => exact o.elim
theorem oMul {m : Bool} : OpS P E X (binaryOp .Mult) (dMul m) := by
  intro pins s σ H x y v u Q I rx ry ⟨g, h, a, b, hs, ra, rb, o⟩
  cases rb with
  | int j =>
    have rep : Out P g (rv P) Q E (mulL m a j h) → wpAny (model X.prog X.w) X.A (binaryOp .Mult v u) (EP X pins σ Q) X.xe s := fun o => by
      cases j with
      | negSucc n => exact o.elim
      | ofNat n =>
        unfold mulL at o
        cases q : Nat.ble n 1000 with
        | false => simp only [q] at o; exact o.elim
        | true =>
          simp only [q] at o
          have hn := Nat.le_of_ble_eq_true q
          obtain ⟨xs, e1, o⟩ := Out.opt o
          obtain ⟨z, o⟩ := short_ok o
          obtain ⟨l, vs, rfl, h1, r1⟩ := asM_ok hs ra e1
          have r2 : RVs P g.F g.ρ (repL xs n) ((List.replicate n vs).flatten) := by rw [← repL_eq]; exact r1.rep n
          have e3 : (Int.ofNat n).toNat = n := rfl
          refine op_rep pins s σ H _ _ v u Q I rx ry ⟨l, _, vs, rfl, rfl, h1, by show -(2 ^ 63 : Int) ≤ (n : Int); omega, by show (n : Int) < 2 ^ 63; omega, ?_, fun p hp => ?_⟩
          · rw [e3]
            have h5 := r2.length
            rw [PyProof.Rows.lm_len_rep_flat, Nat.mul_comm] at h5
            rw [← h5]; exact z
          · rw [e3]; exact new_L hs r2 hp o
    cases ra with
    | int i =>
      have o' : Out P g (rv P) Q E (iMul i j h) := o
      unfold iMul at o'
      cases q : (small i || small j) with
      | false => rw [q] at o'; exact o'.elim
      | true =>
        rw [q] at o'
        refine op_mul pins s σ H _ _ v u Q I rx ry ⟨i, j, rfl, rfl, ?_, o'.now hs (.int _)⟩
        rcases Bool.or_eq_true_iff.mp q with z | z
        · exact .inl (small_ok z)
        · exact .inr (small_ok z)
    | lst h1 r1 => exact rep o
    | ref hr => exact rep o
    | _ => exact rep o
  | _ => exact o.elim
theorem oFdiv : OpS P E X (binaryOp .FloorDiv) dFdiv := by
  intro pins s σ H x y v u Q I rx ry ⟨g, h, a, b, hs, ra, rb, o⟩
  cases ra with
  | int i =>
    cases rb with
    | int j =>
      cases j with
      | negSucc n => exact o.elim
      | ofNat n =>
        have o' : Out P g (rv P) Q E (match Nat.ble 1 n && Nat.ble n 1073741823 with
          | true => .ok (.int (i / Int.ofNat n)) h | false => .no) := o
        cases q : (Nat.ble 1 n && Nat.ble n 1073741823) with
        | false => rw [q] at o'; exact o'.elim
        | true =>
          rw [q] at o'
          rcases Bool.and_eq_true_iff.mp q with ⟨q1, q2⟩
          have h1 := Nat.le_of_ble_eq_true q1
          have h2 := Nat.le_of_ble_eq_true q2
          exact op_fdiv pins s σ H _ _ v u Q I rx ry ⟨i, _, rfl, rfl, ⟨by show (0 : Int) < (n : Int); omega, by show (n : Int) < _; omega⟩, o'.now hs (.int _)⟩
    | _ => exact o.elim
  | _ => exact o.elim
theorem oMod : OpS P E X (binaryOp .Mod) dMod := by
  intro pins s σ H x y v u Q I rx ry ⟨g, h, a, b, hs, ra, rb, o⟩
  cases ra with
  | int i =>
    cases rb with
    | int j =>
      cases j with
      | negSucc n => exact o.elim
      | ofNat n =>
        have o' : Out P g (rv P) Q E (match Nat.ble 1 n with
          | true => .ok (.int (i % Int.ofNat n)) h | false => .no) := o
        cases q : Nat.ble 1 n with
        | false => rw [q] at o'; exact o'.elim
        | true =>
          rw [q] at o'
          have h1 := Nat.le_of_ble_eq_true q
          exact op_mod pins s σ H _ _ v u Q I rx ry ⟨i, _, rfl, rfl, by show (0 : Int) < (n : Int); omega, o'.now hs (.int _)⟩
    | _ => exact o.elim
  | _ => exact o.elim
theorem oPow : OpS P E X (binaryOp .Pow) dPow := by
  intro pins s σ H x y v u Q I rx ry ⟨g, h, a, b, hs, ra, rb, o⟩
  cases ra with
  | int i =>
    cases rb with
    | int j =>
      cases j with
      | negSucc n => exact o.elim
      | ofNat n =>
        have o' : Out P g (rv P) Q E (match Nat.ble n 1000 && small i with
          | true => .ok (.int (i ^ n)) h | false => .no) := o
        cases q : (Nat.ble n 1000 && small i) with
        | false => rw [q] at o'; exact o'.elim
        | true =>
          rw [q] at o'
          rcases Bool.and_eq_true_iff.mp q with ⟨q1, q2⟩
          have h1 := Nat.le_of_ble_eq_true q1
          have h2 := Nat.le_of_ble_eq_true q2
          exact op_pow pins s σ H _ _ v u Q I rx ry ⟨i, _, rfl, rfl, ⟨by show (0 : Int) ≤ (n : Int); omega, by show (n : Int) ≤ _; omega, by omega⟩, o'.now hs (.int _)⟩
    | _ => exact o.elim
  | _ => exact o.elim
/-! comparing numbers, None -/
def dCmp (p : Int → Int → Bool) : D2 := fun a b h => match a with
  | .int i => (match b with
    | .int j => .ok (.bl (p i j)) h | _ => .no)
  | _ => .no
theorem oInt {op : CmpOp} {p : Int → Int → Bool} (ho : OpR X (compareOp op) (rI0 fun i j => .bl (p i j))) : OpS P E X (compareOp op) (dCmp p) := by
  intro pins s σ H x y v u Q I rx ry ⟨g, h, a, b, hs, ra, rb, o⟩
  cases ra with
  | int i =>
    cases rb with
    | int j => exact ho pins s σ H _ _ v u Q I rx ry ⟨i, j, rfl, rfl, o.now hs (.bl _)⟩
    | _ => exact o.elim
  | _ => exact o.elim
def iLt (i j : Int) : Bool := match i, j with
  | .ofNat a, .ofNat b => Nat.blt a b | .ofNat _, .negSucc _ => false | .negSucc _, .ofNat _ => true | .negSucc a, .negSucc b => Nat.blt b a
theorem iLt_eq (i j : Int) : iLt i j = decide (i < j) := by
  rewrite [Bool.eq_iff_iff]; rw [decide_eq_true_eq]
  cases i <;> cases j <;> simp [iLt, Nat.blt] <;> omega
def iLe (i j : Int) : Bool := !iLt j i
theorem iLe_eq (i j : Int) : iLe i j = decide (i ≤ j) := by
  unfold iLe
  rw [iLt_eq]
  rewrite [Bool.eq_iff_iff]; rw [decide_eq_true_eq]
  simp
theorem oLt : OpS P E X (compareOp .Lt) (dCmp iLt) := oInt (by simpa only [iLt_eq] using op_lt)
theorem oLe : OpS P E X (compareOp .LtE) (dCmp iLe) := oInt (by simpa only [iLe_eq] using op_le)
theorem oGt : OpS P E X (compareOp .Gt) (dCmp fun i j => iLt j i) := oInt (by simpa only [iLt_eq] using op_gt)
theorem oGe : OpS P E X (compareOp .GtE) (dCmp fun i j => iLe j i) := oInt (by simpa only [iLe_eq] using op_ge)
def isN : D → Option Bool
  | .non => some true
  | .glo _ => none
  | _ => some false
theorem isN_ok {g : G} {d : D} {x : V} {b : Bool} (r : RV P g.F g.ρ d x) (e : isN d = some b) : decide (x = .non) = b := by
  cases r <;> first | (cases e; first | rfl | simp) | cases e
def dIsN (n : Bool) : D2 := fun a b h => match b with
  | .non => R.opt (isN a) fun k => .ok (.bl (match n with
    | true => !k | false => k)) h
  | _ => .no
theorem oIs : OpS P E X (compareOp .Is) (dIsN false) := by
  intro pins s σ H x y v u Q I rx ry ⟨g, h, a, b, hs, ra, rb, o⟩
  cases rb with
  | non =>
    obtain ⟨k, e, o⟩ := Out.opt o
    exact op_isN pins s σ H _ _ v u Q I rx ry ⟨rfl, by rw [isN_ok ra e]; exact o.now hs (.bl _)⟩
  | _ => exact o.elim
theorem oIsNot : OpS P E X (compareOp .IsNot) (dIsN true) := by
  intro pins s σ H x y v u Q I rx ry ⟨g, h, a, b, hs, ra, rb, o⟩
  cases rb with
  | non =>
    obtain ⟨k, e, o⟩ := Out.opt o
    exact op_notN pins s σ H _ _ v u Q I rx ry ⟨rfl, by rw [isN_ok ra e]; exact o.now hs (.bl _)⟩
  | _ => exact o.elim
end
end EV
end S_EvC
section S_EvD
/-! EvD: items, slices, in; built-in functions on numbers, texts, lists, tuples. -/
namespace EV
open PySem PySem.Spec PyProof.Rows L2 Evl
section
variable {P : Pm} {E : XK} {X : Cx} {e a b i : Expr} {f fa fb : FE} {pos p p2 : Pos} {es : List Expr} {fs : FA}
/-! ### items -/
theorem RVs.atI {F : Hp} {ρ : Nat → Option Addr} {xs : List D} {vs : List V} {k : Int} {d : D} (r : RVs P F ρ xs vs) (h : atI xs k = some d) : ∃ v, atI vs k = some v ∧ RV P F ρ d v := by
  unfold L2.atI at h ⊢
  rw [← r.length]
  cases q : ixN xs.length k with
  | none => rw [q] at h; cases h
  | some j =>
    rw [q] at h
    exact r.get (i := j) (x := d) h
def ixS (s : List Nat) (k : Int) (h : Hc) : R D := match Nat.ble s.length 100000 with
  | true => R.opt (atI s k) fun c => .ok (.str [c]) h | false => .no
def dIx : D2 := fun a i h => match i with
  | .int k => (match a with
    | .str s => ixS s k h
    | .tup xs => R.opt (atI xs k) fun d => .ok d h
    | _ => R.opt (asL h a) fun xs => R.opt (atI xs k) fun d => .ok d h)
  | _ => .no
theorem toStr_len (s : List Nat) : (toStr s).length = s.length := by simp [toStr, Str.length]
theorem toStr_list (s : List Nat) : (toStr s).cps.toList = s := by simp [toStr]
theorem sE_ix (ha : PE X a (rdE P E fa)) (hb : PE X b (rdE P E fb)) (hs : PlainIx b := by intro _ _; rfl) (hK : X.K = P.K := by rfl) : PE X (.Subscript a b pos) (rdE P E (f2 dIx fa fb)) :=
  PE.weak (pe_ix ix_seq ha hb hs) fun σ H Q ⟨g, sl, h, x, o⟩ => by
    refine ⟨g, sl, h, x, ?_⟩
    have k : ∀ (x : V) (y : V) H, rd2 P E dIx x y H Q → rIx X.K x y H Q := by
      intro x y H ⟨g, h, d, e, hs, r1, r2, o⟩
      cases r2 with
      | int k =>
        have seq : Out P g (rv P) Q E (R.opt (asL h d) fun xs => R.opt (atI xs k) fun d => .ok d h) → rIx X.K x (.int k) H Q := fun o => by
          obtain ⟨xs, e1, o⟩ := Out.opt o
          obtain ⟨z, e2, o⟩ := Out.opt o
          obtain ⟨l, vs, rfl, h1, rr⟩ := asL_ok hs r1 e1
          obtain ⟨v, e3, rz⟩ := rr.atI e2
          exact .inl ⟨l, vs, k, v, rfl, rfl, by rw [hK]; exact h1, e3, o.now hs rz⟩
        cases r1 with
        | str s =>
          have o' : Out P g (rv P) Q E (ixS s k h) := o
          unfold ixS at o'
          cases q : Nat.ble s.length 100000 with
          | false => rw [q] at o'; exact o'.elim
          | true =>
            rw [q] at o'
            obtain ⟨c, e1, o'⟩ := Out.opt o'
            have := Nat.le_of_ble_eq_true q
            exact .inr (.inr ⟨toStr s, k, c, rfl, rfl, by rw [toStr_len, sizeLine_eq]; omega, by rw [toStr_list]; exact e1, o'.now hs (.str [c])⟩)
        | tup h1 rr =>
          obtain ⟨z, e2, o⟩ := Out.opt o
          obtain ⟨v, e3, rz⟩ := rr.atI e2
          exact .inr (.inl ⟨_, _, k, v, rfl, rfl, by rw [hK]; exact ex_t hs.fr h1, e3, o.now hs rz⟩)
        | lst h1 rr => exact seq o
        | cst h1 rr => exact seq o
        | ref hr => exact seq o
        | _ => first | exact seq o | exact o.elim
      | _ => exact o.elim
    exact Out.bind o fun d h1 g1 H1 v l1 s1 r1 o1 => ⟨g1, sl, h1, x.le l1 s1, Out.bind o1 fun d2 h2 g2 H2 v2 l2 s2 r2 o2 => k _ _ _ ⟨g2, h2, d, d2, s2, rv_le l2 r1, r2, o2⟩⟩
/-! ### slices -/
abbrev FO := Sl → Hc → R (Option Int)
def ro : G → Option Int → Option Int → Prop := fun _ a b => a = b
def rdO (P : Pm) (E : XK) (f : FO) : TO := fun σ H Q => ∃ g sl h, SR P g sl h σ H ∧ Out P g ro Q E (f sl h)
def oNo : FO := fun _ h => .ok none h
def oSome (f : FE) : FO := fun sl h => (f sl h).bind fun d h => match d with
  | .int i => .ok (some i) h | _ => .no
theorem PO.weak {o : Option Expr} {t t' : TO} (h : PO X o t) (w : ∀ σ H Q, t' σ H Q → t σ H Q) : PO X o t' := ⟨fun pins s σ H Q I q => h.run pins s σ H Q I (w σ H Q q)⟩
theorem sO_none : PO X none (rdO P E oNo) := PO.weak po_none fun σ H Q ⟨g, sl, h, x, o⟩ => o g H none (.refl _) x.hs rfl
theorem sO_some (h : PE X e (rdE P E f)) : PO X (some e) (rdO P E (oSome f)) := PO.weak (po_some h) fun σ H Q ⟨g, sl, h, x, o⟩ => ⟨g, sl, h, x, Out.bind o fun d h1 g1 H1 v l1 s1 r1 o1 => by
  cases r1 with
  | int i => exact ⟨i, rfl, o1 g1 H1 (some i) (.refl _) s1 rfl⟩
  | _ => exact o1.elim⟩
def cutD (xs : List D) (lo hi : Option Int) : List D := (xs.drop (HT.sIx xs.length 0 lo)).take (HT.sIx xs.length xs.length hi - HT.sIx xs.length 0 lo)
def dSlc (m : Bool) (a : D) (lo hi : Option Int) (h : Hc) : R D := match a with
  | .tup xs => .ok (.tup (cutD xs lo hi)) h
  | _ => R.opt (asL h a) fun xs => mkL m (cutD xs lo hi) h
def fSlc (m : Bool) (fa : FE) (fl fu : FO) : FE := fun sl h => (fa sl h).bind fun d h => (fl sl h).bind fun lo h => (fu sl h).bind fun hi h => dSlc m d lo hi h
theorem RVs.cut {F : Hp} {ρ : Nat → Option Addr} {xs : List D} {vs : List V} {lo hi : Option Int} (r : RVs P F ρ xs vs) : RVs P F ρ (cutD xs lo hi) (cutV vs lo hi) := by
  unfold cutD cutV
  rw [r.length]
  exact (r.drop _).take _
theorem sE_slc {m : Bool} {lo hi : Option Expr} {fl fu : FO} (ha : PE X a (rdE P E fa)) (hl : PO X lo (rdO P E fl)) (hu : PO X hi (rdO P E fu)) (hK : X.K = P.K := by rfl) : PE X (.Subscript a (.Slice lo hi none p2) pos) (rdE P E (fSlc m fa fl fu)) :=
  PE.weak (pe_slice (sl_list.or sl_tupA) ha hl hu) fun σ H Q ⟨g, sl, h, x, o⟩ => ⟨g, sl, h, x, Out.bind o fun d h1 g1 H1 v l1 s1 r1 o1 => ⟨g1, sl, h1, x.le l1 s1, Out.bind o1 fun l' h2 g2 H2 w l2 s2 r2 o2 =>
    ⟨g2, sl, h2, x.le (l1.trans l2) s2, Out.bind o2 fun u' h3 g3 H3 z l3 s3 r3 o3 => by
      cases (show l' = w from r2)
      cases (show u' = z from r3)
      have r1' := rv_le (l2.trans l3) r1
      have lst : Out P g3 (rv P) Q E (R.opt (asL h3 d) fun xs => mkL m (cutD xs l' u') h3) → rSlL X.K v l' u' H3 Q := fun o => by
        obtain ⟨xs, e1, o⟩ := Out.opt o
        obtain ⟨a, vs, rfl, h1, rr⟩ := asL_ok s3 r1' e1
        exact ⟨a, vs, rfl, by rw [hK]; exact h1, fun p hp => new_L s3 rr.cut hp o⟩
      cases r1' with
      | @tup a vs xs h1 rr =>
        refine .inr ⟨a, vs, rfl, by rw [hK]; exact ex_t s3.fr h1, fun hw => ?_, fun hw p hp => new_tup s3 rr.cut hp o3⟩
        have e : cutD xs l' u' = xs := by
          unfold cutD
          rw [rr.length, hw.1, hw.2, Nat.sub_zero, List.drop_zero]
          exact List.take_of_length_le (by rw [rr.length]; exact Nat.le_refl _)
        exact Out.now o3 s3 (.tup h1 (by rw [e]; exact rr))
      | lst h1 rr => exact .inl (lst o3)
      | cst h1 rr => exact .inl (lst o3)
      | ref hr => exact .inl (lst o3)
      | _ => first | exact .inl (lst o3) | exact o3.elim⟩⟩⟩
/-! ### in -/
def sEq : List Nat → List Nat → Bool
  | [], [] => true
  | x :: xs, y :: ys => (match Nat.beq x y with
    | true => sEq xs ys | false => false)
  | _, _ => false
theorem nbeq_eq (a b : Nat) : Nat.beq a b = decide (a = b) := by
  rewrite [Bool.eq_iff_iff]; rw [decide_eq_true_eq]
  exact ⟨Nat.eq_of_beq_eq_true, fun e => by subst e; exact Nat.beq_refl a⟩
theorem sEq_eq : ∀ (s t : List Nat), sEq s t = decide (s = t)
  | [], [] => by simp [sEq]
  | [], _ :: _ => by simp [sEq]
  | _ :: _, [] => by simp [sEq]
  | x :: xs, y :: ys => by
    show (match Nat.beq x y with
      | true => sEq xs ys | false => false) = _
    rw [nbeq_eq, sEq_eq xs ys]
    by_cases e : x = y
    · subst e; simp
    · simp [e]
theorem toStr_inj {s t : List Nat} : toStr s = toStr t ↔ s = t := ⟨fun h => by
  have := congrArg (fun z : Str => z.cps.toList) h
  simpa [toStr] using this, fun h => by rw [h]⟩
def iEq (i j : Int) : Bool := match i, j with
  | .ofNat a, .ofNat b => Nat.beq a b | .negSucc a, .negSucc b => Nat.beq a b | _, _ => false
theorem iEq_eq (i j : Int) : iEq i j = decide (i = j) := by
  cases i with
  | ofNat a =>
    cases j with
    | ofNat b =>
      show Nat.beq a b = _
      rw [nbeq_eq, Bool.eq_iff_iff, decide_eq_true_eq, decide_eq_true_eq]
      exact ⟨fun e => by rw [e], fun e => Int.ofNat.inj e⟩
    | negSucc b => simp [iEq]
  | negSucc a =>
    cases j with
    | ofNat b => simp [iEq]
    | negSucc b =>
      show Nat.beq a b = _
      rw [nbeq_eq, Bool.eq_iff_iff, decide_eq_true_eq, decide_eq_true_eq]
      exact ⟨fun e => by rw [e], fun e => Int.negSucc.inj e⟩
def bI (b : Bool) : Int := match b with
  | true => 1 | false => 0
/-- == of flat data; none: not flat -/
def eqF : D → D → Option Bool
  | .non, .non => some true
  | .bl a, .bl b => some (match a with
    | true => b | false => !b)
  | .bl a, .int j => some (iEq (bI a) j)
  | .int i, .bl b => some (iEq i (bI b))
  | .int i, .int j => some (iEq i j)
  | .str s, .str t => some (sEq s t)
  | .non, .bl _ | .non, .int _ | .non, .str _ | .bl _, .non | .bl _, .str _ | .int _, .non | .int _, .str _ | .str _, .non | .str _, .bl _ | .str _, .int _ => some false
  | _, _ => none
theorem bI_eq (b : Bool) : bI b = (if b then 1 else 0) := by cases b <;> rfl
theorem eqF_ok {F : Hp} {ρ : Nat → Option Addr} {d e : D} {x y : V} {k : Bool} (r1 : RV P F ρ d x) (r2 : RV P F ρ e y) (h : eqF d e = some k) : flatV x = true ∧ flatV y = true ∧ eqV x y = k := by
  cases r1 <;> cases r2 <;> first
    | cases h; exact ⟨rfl, rfl, rfl⟩
    | (cases h; refine ⟨rfl, rfl, ?_⟩; rename_i a b; show (a == b) = _; rw [iEq_eq, Bool.eq_iff_iff, decide_eq_true_eq, beq_iff_eq])
    | (cases h; refine ⟨rfl, rfl, ?_⟩; rename_i a b; show ((if a then (1 : Int) else 0) == b) = _; rw [iEq_eq, bI_eq, Bool.eq_iff_iff, decide_eq_true_eq, beq_iff_eq])
    | (cases h; refine ⟨rfl, rfl, ?_⟩; rename_i a b; show (a == (if b then (1 : Int) else 0)) = _; rw [iEq_eq, bI_eq, Bool.eq_iff_iff, decide_eq_true_eq, beq_iff_eq])
    | (cases h; refine ⟨rfl, rfl, ?_⟩; rename_i a b; show (toStr a == toStr b) = _; rw [sEq_eq, Bool.eq_iff_iff, decide_eq_true_eq, beq_iff_eq]; exact toStr_inj)
    | (cases h; refine ⟨rfl, rfl, ?_⟩; rename_i a b; cases a <;> cases b <;> rfl)
    | cases h
def anyF (d : D) : List D → Option Bool
  | [] => some false
  | e :: es => (eqF e d).bind fun k => (anyF d es).bind fun r => some (match k with
    | true => true | false => r)
theorem anyF_ok {F : Hp} {ρ : Nat → Option Addr} {d : D} {x : V} (r1 : RV P F ρ d x) : ∀ {es : List D} {vs : List V} {k : Bool}, RVs P F ρ es vs → anyF d es = some k → vs.all flatV = true ∧ inV x vs = k
  | _, _, _, .nil, h => by cases h; exact ⟨rfl, rfl⟩
  | e :: es, v :: vs, k, .cons r rr, h => by
    unfold anyF at h
    obtain ⟨k1, h1, h⟩ := Option.bind_eq_some_iff.mp h
    obtain ⟨k2, h2, h⟩ := Option.bind_eq_some_iff.mp h
    cases h
    obtain ⟨_, f2, e1⟩ := eqF_ok r r1 h1
    obtain ⟨_, _, _⟩ := eqF_ok r r1 h1
    obtain ⟨g1, e2⟩ := anyF_ok r1 rr h2
    have fv : flatV v = true := (eqF_ok r r1 h1).1
    refine ⟨by rw [List.all_cons, fv, g1]; rfl, ?_⟩
    unfold inV at e2 ⊢
    rw [List.any_cons, e1, e2]
    cases k1 <;> rfl
def isF : D → Bool
  | .non | .bl _ | .int _ | .str _ => true
  | _ => false
theorem isF_ok {F : Hp} {ρ : Nat → Option Addr} {d : D} {x : V} (r : RV P F ρ d x) (h : isF d = true) : flatV x = true := by
  cases r <;> first | rfl | cases h
def memN (c : Nat) : List Nat → Bool
  | [] => false
  | x :: xs => match Nat.beq c x with
    | true => true | false => memN c xs
theorem memN_eq (c : Nat) : ∀ s : List Nat, memN c s = decide (c ∈ s)
  | [] => by simp [memN]
  | x :: xs => by
    show (match Nat.beq c x with
      | true => true | false => memN c xs) = _
    rw [nbeq_eq, memN_eq c xs]
    by_cases e : c = x
    · subst e; simp
    · simp [e]
def ng (n k : Bool) : Bool := match n with
  | true => !k | false => k
def seqIn (n : Bool) (a : D) (ys : List D) (h : Hc) : R D := match isF a with
  | true => R.opt (anyF a ys) fun k => .ok (.bl (ng n k)) h | false => .no
def dInS (n : Bool) : D2 := fun a b h => match b with
  | .str s => (match a with
    | .str [c] => .ok (.bl (ng n (memN c s))) h | _ => .no)
  | .tup ys => seqIn n a ys h
  | _ => R.opt (asL h b) fun ys => seqIn n a ys h
theorem oInS {n : Bool} {op : CmpOp} (h1 : OpR X (compareOp op) (rIn X.K n)) (h2 : OpR X (compareOp op) (fun x y H Q => ∃ (c : Nat) (z : Str), x = .str ⟨#[c]⟩ ∧ y = .str z ∧ Q (.bl (ng n (decide (c ∈ z.cps.toList)))) H)) (hK : X.K = P.K) :
    OpS P E X (compareOp op) (dInS n) := by
  intro pins s σ H x y v u Q I rx ry ⟨g, h, a, b, hs, ra, rb, o⟩
  have sq : ∀ {l : Addr} {vs : List V} {ys : List D}, y = .ref l → (SqL X.K H l vs ∨ SqT X.K H l vs) → RVs P g.F g.ρ ys vs → Out P g (rv P) Q E (seqIn n a ys h) → wpAny (model X.prog X.w) X.A (compareOp op v u) (EP X pins σ Q) X.xe s := fun {l vs ys} ey hq rr o => by
    unfold seqIn at o
    cases q : isF a with
    | false => rw [q] at o; exact o.elim
    | true =>
      rw [q] at o
      obtain ⟨k, e1, o⟩ := Out.opt o
      obtain ⟨f1, e2⟩ := anyF_ok ra rr e1
      refine h1 pins s σ H _ _ v u Q I rx ry ⟨l, vs, ey, hq, isF_ok ra q, f1, ?_⟩
      rw [e2]
      have z := Out.now o hs (.bl _)
      cases n <;> exact z
  have lst : Out P g (rv P) Q E (R.opt (asL h b) fun ys => seqIn n a ys h) → wpAny (model X.prog X.w) X.A (compareOp op v u) (EP X pins σ Q) X.xe s := fun o => by
    obtain ⟨ys, e1, o⟩ := Out.opt o
    obtain ⟨l, vs, ey, hq, rr⟩ := asL_ok hs rb e1
    exact sq ey (.inl (by rw [hK]; exact hq)) rr o
  cases rb with
  | str t =>
    cases ra with
    | str z =>
      match z, o with
      | [], o => exact o.elim
      | [c], o => exact h2 pins s σ H _ _ v u Q I rx ry ⟨c, toStr t, rfl, rfl, by rw [toStr_list, ← memN_eq]; exact Out.now o hs (.bl _)⟩
      | _ :: _ :: _, o => exact o.elim
    | _ => exact o.elim
  | tup h1 rr => exact sq rfl (.inr (by rw [hK]; exact ex_t hs.fr h1)) rr o
  | lst h1 rr => exact lst o
  | cst h1 rr => exact lst o
  | ref hr => exact lst o
  | _ => first | exact lst o | exact o.elim
theorem oIn (hK : X.K = P.K := by rfl) : OpS P E X (compareOp .In) (dInS false) := oInS op_in_seq (by simpa only [ng] using op_in_sign) hK
theorem oNotIn (hK : X.K = P.K := by rfl) : OpS P E X (compareOp .NotIn) (dInS true) := oInS op_notIn_seq (by simpa only [ng] using op_notIn_sign) hK
/-! ### built-in functions -/
def rdC (P : Pm) (E : XK) (op : FF) : List V → Hp → VK → Prop := fun vs H Q => ∃ g h ds, HS P g h H ∧ RVs P g.F g.ρ ds vs ∧ Out P g (rv P) Q E (op ds h)
abbrev ClS (P : Pm) (E : XK) (X : Cx) (f : Value) (op : FF) : Prop := CallR X f (rdC P E op)
def fB (op : FF) (fs : FA) : FE := fun sl h => (fs sl h).bind op
theorem fB_rd {op : FF} : ∀ σ H Q, rdE P E (fB op fs) σ H Q → tCB (rdC P E op) (rdA P E fs) σ H Q := fun σ H Q ⟨g, sl, h, x, o⟩ => ⟨g, sl, h, x, Out.bind o fun ds h1 g1 H1 vs l1 s1 r1 o1 => ⟨g1, h1, ds, s1, r1, o1⟩⟩
theorem sE_bf {x : Str} {id : String} {op : FF} (hc : ClS P E X (.builtin id) op) (hg : Gl X x) (hm : X.mg x = none) (hv : bootBuiltins x = some (.builtin id)) (ha : PA X (e :: es) (rdA P E fs)) (hn : x ≠ "__name__" := by decide) (hdb : (x == ("__debug__" : Str)) = false := by decide)
    (he : starEach (e :: es) X.env = (false, eval e X.env) :: starEach es X.env := by rfl) (hpl : (backTo pos (starEach es X.env)).any (·.1) = false := by rfl) : PE X (.Call (.Name x p) (e :: es) [] pos) (rdE P E (fB op fs)) :=
  PE.weak (pe_callB hc hg hm hv ha hn hdb he hpl) fB_rd
theorem sE_bt {x : Str} {T : String} {op : FF} (hc : ClS P E X (.type T) op) (hg : Gl X x) (hm : X.mg x = none) (hv : bootBuiltins x = some (.type T)) (ha : PA X (e :: es) (rdA P E fs)) (hn : x ≠ "__name__" := by decide) (hdb : (x == ("__debug__" : Str)) = false := by decide)
    (he : starEach (e :: es) X.env = (false, eval e X.env) :: starEach es X.env := by rfl) (hpl : (backTo pos (starEach es X.env)).any (·.1) = false := by rfl) : PE X (.Call (.Name x p) (e :: es) [] pos) (rdE P E (fB op fs)) :=
  PE.weak (pe_callTy hc hg hm hv ha hn hdb he hpl) fB_rd
theorem RVs.one {F : Hp} {ρ : Nat → Option Addr} {d : D} {vs : List V} (r : RVs P F ρ [d] vs) : ∃ v, vs = [v] ∧ RV P F ρ d v := by
  cases r with
  | cons h t => cases t; exact ⟨_, rfl, h⟩
def bAnd (b k : Bool) : Bool := match b with
  | true => k | false => false
def bOr (b k : Bool) : Bool := match b with
  | true => true | false => k
def bAll : List D → Option Bool
  | [] => some true
  | .bl b :: r => (bAll r).bind fun k => some (bAnd b k)
  | _ => none
theorem bAll_ok {F : Hp} {ρ : Nat → Option Addr} : ∀ {ds : List D} {vs : List V} {k : Bool}, RVs P F ρ ds vs → bAll ds = some k → ∃ bs : List Bool, vs = bs.map V.bl ∧ bs.all id = k
  | _, _, _, .nil, h => by cases h; exact ⟨[], rfl, rfl⟩
  | d :: ds, v :: vs, k, .cons r rr, h => by
    cases r with
    | bl b =>
      have h' : ((bAll ds).bind fun k => some (bAnd b k)) = some k := h
      obtain ⟨k1, h1, h2⟩ := Option.bind_eq_some_iff.mp h'
      cases h2
      obtain ⟨bs, e1, e2⟩ := bAll_ok rr h1
      refine ⟨b :: bs, by rw [e1]; rfl, ?_⟩
      rw [List.all_cons, e2]
      cases b <;> rfl
    | _ => cases h
def gAll : FF := fun ds h => match ds with
  | [d] => R.opt (asL h d) fun xs => R.opt (bAll xs) fun k => .ok (.bl k) h
  | _ => .no
theorem cAll (hc : X.calm = true) (hK : X.K = P.K := by rfl) : ClS P E X (.builtin "all") gAll := by
  intro pins s σ H vs us Q I r ⟨g, h, ds, hs, rr, o⟩
  match ds, rr, o with
  | [d], rr, o =>
    obtain ⟨v, rfl, r1⟩ := rr.one
    obtain ⟨xs, e1, o⟩ := Out.opt o
    obtain ⟨k, e2, o⟩ := Out.opt o
    obtain ⟨a, ws, rfl, hq, rw'⟩ := asL_ok hs r1 e1
    obtain ⟨bs, rfl, e3⟩ := bAll_ok rw' e2
    exact cr_all hc pins s σ H _ us Q I r ⟨a, bs, rfl, by rw [hK]; exact hq, by rw [e3]; exact Out.now o hs (.bl _)⟩
  | [], _, o => exact o.elim
  | _ :: _ :: _, _, o => exact o.elim
def bAny : List D → Option Bool
  | [] => some false
  | .bl b :: r => (bAny r).bind fun k => some (bOr b k)
  | _ => none
theorem bAny_ok {F : Hp} {ρ : Nat → Option Addr} : ∀ {ds : List D} {vs : List V} {k : Bool}, RVs P F ρ ds vs → bAny ds = some k → ∃ bs : List Bool, vs = bs.map V.bl ∧ bs.any id = k
  | _, _, _, .nil, h => by cases h; exact ⟨[], rfl, rfl⟩
  | d :: ds, v :: vs, k, .cons r rr, h => by
    cases r with
    | bl b =>
      have h' : ((bAny ds).bind fun k => some (bOr b k)) = some k := h
      obtain ⟨k1, h1, h2⟩ := Option.bind_eq_some_iff.mp h'
      cases h2
      obtain ⟨bs, e1, e2⟩ := bAny_ok rr h1
      refine ⟨b :: bs, by rw [e1]; rfl, ?_⟩
      rw [List.any_cons, e2]
      cases b <;> rfl
    | _ => cases h
def gAny : FF := fun ds h => match ds with
  | [d] => R.opt (asL h d) fun xs => R.opt (bAny xs) fun k => .ok (.bl k) h
  | _ => .no
theorem cAny (hc : X.calm = true) (hK : X.K = P.K := by rfl) : ClS P E X (.builtin "any") gAny := by
  intro pins s σ H vs us Q I r ⟨g, h, ds, hs, rr, o⟩
  match ds, rr, o with
  | [d], rr, o =>
    obtain ⟨v, rfl, r1⟩ := rr.one
    obtain ⟨xs, e1, o⟩ := Out.opt o
    obtain ⟨k, e2, o⟩ := Out.opt o
    obtain ⟨a, ws, rfl, hq, rw'⟩ := asL_ok hs r1 e1
    obtain ⟨bs, rfl, e3⟩ := bAny_ok rw' e2
    exact cr_any hc pins s σ H _ us Q I r ⟨a, bs, rfl, by rw [hK]; exact hq, by rw [e3]; exact Out.now o hs (.bl _)⟩
  | [], _, o => exact o.elim
  | _ :: _ :: _, _, o => exact o.elim
/-- tuple(x), list(x) of a list, a tuple -/
def gTuple : FF := fun ds h => match ds with
  | [.tup xs] => .ok (.tup xs) h
  | [d] => R.opt (asL h d) fun xs => .ok (.tup xs) h
  | _ => .no
theorem cTuple (hK : X.K = P.K := by rfl) : ClS P E X (.type "tuple") gTuple := by
  intro pins s σ H vs us Q I r ⟨g, h, ds, hs, rr, o⟩
  match ds, rr, o with
  | [d], rr, o =>
    obtain ⟨v, rfl, r1⟩ := rr.one
    have lst : Out P g (rv P) Q E (R.opt (asL h d) fun xs => .ok (.tup xs) h) → wpAny (model X.prog X.w) X.A (call (.type "tuple") us) (EP X pins σ Q) X.xe s := fun o => by
      obtain ⟨xs, e1, o⟩ := Out.opt o
      obtain ⟨a, ws, rfl, hq, rw'⟩ := asL_ok hs r1 e1
      exact call_tuple_of pins s σ H _ us Q I r ⟨a, ws, rfl, .inl ⟨by rw [hK]; exact hq, fun p hp => new_tup hs rw' hp o⟩⟩
    cases r1 with
    | tup h1 r2 => exact call_tuple_of pins s σ H _ us Q I r ⟨_, _, rfl, .inr ⟨by rw [hK]; exact ex_t hs.fr h1, Out.now o hs (.tup h1 r2)⟩⟩
    | lst h1 r2 => exact lst o
    | cst h1 r2 => exact lst o
    | ref hr => exact lst o
    | _ => first | exact lst o | exact o.elim
  | [], _, o => exact o.elim
  | a :: b :: _, _, o => cases a <;> exact o.elim
def gList (m : Bool) : FF := fun ds h => match ds with
  | [.tup xs] => mkL m xs h
  | [d] => R.opt (asL h d) fun xs => mkL m xs h
  | _ => .no
theorem cList {m : Bool} (hK : X.K = P.K := by rfl) : ClS P E X (.type "list") (gList m) := by
  intro pins s σ H vs us Q I r ⟨g, h, ds, hs, rr, o⟩
  match ds, rr, o with
  | [d], rr, o =>
    obtain ⟨v, rfl, r1⟩ := rr.one
    have lst : Out P g (rv P) Q E (R.opt (asL h d) fun xs => mkL m xs h) → wpAny (model X.prog X.w) X.A (call (.type "list") us) (EP X pins σ Q) X.xe s := fun o => by
      obtain ⟨xs, e1, o⟩ := Out.opt o
      obtain ⟨a, ws, rfl, hq, rw'⟩ := asL_ok hs r1 e1
      exact call_list_of pins s σ H _ us Q I r ⟨a, ws, rfl, .inl (by rw [hK]; exact hq), fun p hp => new_L hs rw' hp o⟩
    cases r1 with
    | tup h1 r2 => exact call_list_of pins s σ H _ us Q I r ⟨_, _, rfl, .inr (by rw [hK]; exact ex_t hs.fr h1), fun p hp => new_L hs r2 hp o⟩
    | lst h1 r2 => exact lst o
    | cst h1 r2 => exact lst o
    | ref hr => exact lst o
    | _ => first | exact lst o | exact o.elim
  | [], _, o => exact o.elim
  | a :: b :: _, _, o => cases a <;> exact o.elim
def gInt : FF := fun ds h => match ds with
  | [.int i] => .ok (.int i) h
  | [.bl b] => .ok (.int (bI b)) h
  | _ => .no
theorem cInt : ClS P E X (.type "int") gInt := by
  intro pins s σ H vs us Q I r ⟨g, h, ds, hs, rr, o⟩
  match ds, rr, o with
  | [d], rr, o =>
    obtain ⟨v, rfl, r1⟩ := rr.one
    cases r1 with
    | int i => exact call_int1 pins s σ H _ us Q I r (.inl ⟨i, rfl, Out.now o hs (.int _)⟩)
    | bl b => exact call_int1 pins s σ H _ us Q I r (.inr ⟨b, rfl, by
        have z := Out.now o hs (.int (bI b))
        cases b <;> exact z⟩)
    | _ => exact o.elim
  | [], _, o => exact o.elim
  | a :: b :: _, _, o => cases a <;> exact o.elim
end
end EV
end S_EvD
section S_EvE
/-! EvE: targets, what is walked, for, while, list comprehensions. -/
namespace EV
open PySem PySem.Spec PyProof.Rows L2 Evl
/-! ### targets -/
abbrev FG := D → Sl → Option Sl
theorem wipe_at {σ : L2.St} {j : Nat} : ∀ {vs : List Nat}, (wipe σ vs)[j]? = if j ∈ vs then (if j < σ.length then some none else none) else σ[j]?
  | [] => by simp [wipe]
  | v :: vs => by
    show ((wipe σ vs).set v none)[j]? = _
    by_cases e : v = j
    · subst e
      rw [if_pos (List.mem_cons_self ..)]
      by_cases hl : v < σ.length
      · rw [List.getElem?_set_self (by rw [wipe_length]; exact hl), if_pos hl]
      · rw [List.getElem?_eq_none (by rw [List.length_set, wipe_length]; omega), if_neg hl]
    · rw [List.getElem?_set_ne e, wipe_at]
      by_cases m : j ∈ vs
      · rw [if_pos m, if_pos (List.mem_cons_of_mem _ m)]
      · rw [if_neg m, if_neg (by simp only [List.mem_cons, not_or]; exact ⟨fun z => e z.symm, m⟩)]
theorem wipe_set {σ : L2.St} {i : Nat} {o : Option V} {vs : List Nat} (h : i ∈ vs) : wipe (σ.set i o) vs = wipe σ vs := by
  refine (List.ext_getElem? fun j => ?_)
  rw [wipe_at, wipe_at, List.length_set]
  by_cases m : j ∈ vs
  · rw [if_pos m, if_pos m]
  · rw [if_neg m, if_neg m, List.getElem?_set_ne (fun z => m (by rw [← z]; exact h))]
theorem wipe_wipe {σ : L2.St} {vs : List Nat} : wipe (wipe σ vs) vs = wipe σ vs := by
  refine (List.ext_getElem? fun j => ?_)
  rw [wipe_at, wipe_at, wipe_length]
  by_cases m : j ∈ vs
  · rw [if_pos m, if_pos m]
  · rw [if_neg m, if_neg m]
/-- the target's slots lie in vs -/
def rdG (P : Pm) (vs : List Nat) (f : FG) : TG := fun v σ H Q => ∃ g sl h d, SR P g sl h σ H ∧ RV P g.F g.ρ d v ∧ ∃ sl', f d sl = some sl' ∧ ∀ σ', SR P g sl' h σ' H → wipe σ' vs = wipe σ vs → Q σ' H
def rdGs (P : Pm) (vs : List Nat) (f : List D → Sl → Option Sl) : TGs := fun ws σ H Q => ∃ g sl h ds, SR P g sl h σ H ∧ RVs P g.F g.ρ ds ws ∧ ∃ sl', f ds sl = some sl' ∧ ∀ σ', SR P g sl' h σ' H → wipe σ' vs = wipe σ vs → Q σ' H
theorem PG.weak {X : Cx} {e : Expr} {t t' : TG} (h : PG X e t) (w : ∀ v σ H Q, t' v σ H Q → t v σ H Q) : PG X e t' := ⟨fun pins s σ H v u Q I r q => h.run pins s σ H v u Q I r (w v σ H Q q)⟩
theorem PGs.weak {X : Cx} {e : List Expr} {t t' : TGs} (h : PGs X e t) (w : ∀ v σ H Q, t' v σ H Q → t v σ H Q) : PGs X e t' := ⟨fun pins s σ H v u Q I r q => h.run pins s σ H v u Q I r (w v σ H Q q)⟩
section
variable {P : Pm} {E : XK} {X : Cx} {e : Expr} {f : FE} {vs : List Nat} {pos p p2 : Pos} {es : List Expr} {fs : FA}
def gNm (i : Nat) : FG := fun d sl => some (sl.set i (some d))
theorem sG_name {i : Nat} {x : Str} (hN : X.N.Nodup) (hi : X.N[i]? = some x) (hx : Loc X.env.scope x) (hv : i ∈ vs := by simp) (hf : X.fn x = true ∨ X.env.scope.names.lookup x = some .local := by first | exact .inl rfl | exact .inr rfl | assumption) :
    PG X (.Name x pos) (rdG P vs (gNm i)) := PG.weak (pg_name hN hi hx hf) fun v σ H Q ⟨g, sl, h, d, s, r, sl', e, k⟩ => by
  cases e
  exact k _ (s.set r) (wipe_set hv)
def gsNil : List D → Sl → Option Sl := fun ds sl => match ds with
  | [] => some sl | _ => none
def gsCons (f : FG) (fs : List D → Sl → Option Sl) : List D → Sl → Option Sl := fun ds sl => match ds with
  | d :: r => (f d sl).bind fun sl' => fs r sl'
  | [] => none
theorem sGs_nil : PGs X [] (rdGs P vs gsNil) := PGs.weak pgs_nil fun ws σ H Q ⟨g, sl, h, ds, s, r, sl', e, k⟩ => by
  cases r with
  | nil => cases e; exact ⟨rfl, k σ s rfl⟩
  | cons _ _ => cases e
theorem sGs_cons {f : FG} {fs : List D → Sl → Option Sl} (h1 : PG X e (rdG P vs f)) (h2 : PGs X es (rdGs P vs fs)) (hs : (assignEach (e :: es) X.env).map (·.2) = assign e X.env :: (assignEach es X.env).map (·.2) := by rfl) : PGs X (e :: es) (rdGs P vs (gsCons f fs)) :=
  PGs.weak (pgs_cons h1 h2 hs) fun ws σ H Q ⟨g, sl, h, ds, s, r, sl', e, k⟩ => by
    cases r with
    | nil => cases e
    | @cons d v dr vr r rr =>
      obtain ⟨sl1, e1, e2⟩ := Option.bind_eq_some_iff.mp e
      exact ⟨v, vr, rfl, g, sl, h, d, s, r, sl1, e1, fun σ1 s1 w1 => ⟨g, sl1, h, dr, s1, rr, sl', e2, fun σ2 s2 w2 => k σ2 s2 (w2.trans w1)⟩⟩
def gTp (n : Nat) (fs : List D → Sl → Option Sl) : FG := fun d sl => match d with
  | .tup xs => (match Nat.beq xs.length n with
    | true => fs xs sl | false => none)
  | _ => none
theorem sG_tup {k n : Nat} {f : List D → Sl → Option Sl} (hc : X.calm = true) (h : PGs X es (rdGs P vs f)) (hn : (assignEach es X.env).length = n := by rfl) (hst : (assignEach es X.env).findIdx? (·.1) = none := by rfl) (hK : X.K = P.K := by rfl) :
    PG X (.Tuple es k pos) (rdG P vs (gTp n f)) := PG.weak (pg_tup hc h hn hst) fun v σ H Q ⟨g, sl, h, d, s, r, sl', e, k⟩ => by
  cases r with
  | @tup a ws xs h1 rr =>
    have e' : (match Nat.beq xs.length n with
      | true => f xs sl | false => none) = some sl' := e
    cases q : Nat.beq xs.length n with
    | false => rw [q] at e'; cases e'
    | true =>
      rw [q] at e'
      exact ⟨a, ws, rfl, by rw [hK]; exact ex_t s.hs.fr h1, by rw [← rr.length]; exact Nat.eq_of_beq_eq_true q, g, sl, h, xs, s, rr, sl', e', k⟩
  | _ => cases e
/-! ### what is walked -/
/-- the iterator J yields ds -/
def WalkI (P : Pm) (g : G) (ds : List D) (J : It) : Prop := ∀ i g1 h1 H, G.le g g1 → HS P g1 h1 H →
  (∀ d, ds[i]? = some d → J.go i H ∧ ∀ x H', J.yld i H x H' → ∃ g2, G.le g1 g2 ∧ HS P g2 h1 H' ∧ RV P g2.F g2.ρ d x) ∧ (ds[i]? = none → J.stop i H)
theorem WalkI.le {g g' : G} {ds : List D} {J : It} (w : WalkI P g ds J) (l : G.le g g') : WalkI P g' ds J := fun i g1 h1 H l1 s => w i g1 h1 H (l.trans l1) s
def rdI (P : Pm) (E : XK) (f : FA) : TI := fun σ H R => ∃ g sl h, SR P g sl h σ H ∧ Out P g (WalkI P) R E (f sl h)
theorem PI.weak {tg it : Expr} {t t' : TI} (h : PI X tg it t) (w : ∀ σ H Q, t' σ H Q → t σ H Q) : PI X tg it t' := ⟨fun pins s σ H Q I q => h.run pins s σ H Q I (w σ H Q q)⟩
/-- a list, a tuple -/
def dItems (d : D) (h : Hc) : R (List D) := match d with
  | .tup xs => .ok xs h | .lst xs => .ok xs h | .cst xs => .ok xs h | _ => .no
theorem walk_lst {K : PySem.W.Frag} {g : G} {xs : List D} {vs : List V} {a : Addr} (hK : K = P.K) (h : SqL P.K g.F a vs) (r : RVs P g.F g.ρ xs vs) : WalkI P g xs (Itl K a) := fun i g1 h1 H l s => by
  have hq : SqL K H a vs := by rw [hK]; exact ex_l (l.1.trans s.fr) h
  refine ⟨fun d e => ?_, fun e => ⟨vs, hq, by rw [← r.length]; exact List.getElem?_eq_none_iff.mp e⟩⟩
  obtain ⟨v, e1, r1⟩ := r.get e
  refine ⟨⟨vs, v, hq, e1⟩, fun x H' ⟨eH, y⟩ => ?_⟩
  subst eH
  have z := y vs hq
  rw [e1] at z; cases z
  exact ⟨g1, .refl _, s, rv_le l r1⟩
theorem walk_tup {K : PySem.W.Frag} {g : G} {xs : List D} {vs : List V} {a : Addr} (hK : K = P.K) (h : SqT P.K g.F a vs) (r : RVs P g.F g.ρ xs vs) : WalkI P g xs (Itt K a) := fun i g1 h1 H l s => by
  have hq : SqT K H a vs := by rw [hK]; exact ex_t (l.1.trans s.fr) h
  refine ⟨fun d e => ?_, fun e => ⟨vs, hq, by rw [← r.length]; exact List.getElem?_eq_none_iff.mp e⟩⟩
  obtain ⟨v, e1, r1⟩ := r.get e
  refine ⟨⟨vs, v, hq, e1⟩, fun x H' ⟨eH, y⟩ => ?_⟩
  subst eH
  have z := y vs hq
  rw [e1] at z; cases z
  exact ⟨g1, .refl _, s, rv_le l r1⟩
/-- a list | a tuple, as the text tells -/
def iLs (f : FE) : FA := fun sl h => (f sl h).bind fun d h => match d with
  | .lst xs => .ok xs h | .cst xs => .ok xs h | _ => .no
def iTp (f : FE) : FA := fun sl h => (f sl h).bind fun d h => match d with
  | .tup xs => .ok xs h | _ => .no
theorem sI_lst {tg : Expr} (h : PE X e (rdE P E f)) (hK : X.K = P.K := by rfl) : PI X tg e (rdI P E (iLs f)) := PI.weak (pi_list h) fun σ H R ⟨g, sl, h, x, o⟩ => ⟨g, sl, h, x, Out.bind o fun d h1 g1 H1 v l1 s1 r1 o1 => by
  cases r1 with
  | @lst a vs xs hf rr => exact ⟨a, rfl, ⟨vs, SqL.of (s1.fr _ _ hf)⟩, Out.now o1 s1 (walk_lst hK (SqL.of hf) rr)⟩
  | @cst a vs xs hf rr => exact ⟨a, rfl, ⟨vs, by rw [hK]; exact ex_l s1.fr hf⟩, Out.now o1 s1 (walk_lst hK hf rr)⟩
  | _ => exact o1.elim⟩
theorem sI_tup {tg : Expr} (h : PE X e (rdE P E f)) (hK : X.K = P.K := by rfl) : PI X tg e (rdI P E (iTp f)) := PI.weak (pi_tup h) fun σ H R ⟨g, sl, h, x, o⟩ => ⟨g, sl, h, x, Out.bind o fun d h1 g1 H1 v l1 s1 r1 o1 => by
  cases r1 with
  | @tup a vs xs hf rr => exact ⟨a, rfl, ⟨vs, by rw [hK]; exact ex_t s1.fr hf⟩, Out.now o1 s1 (walk_tup hK hf rr)⟩
  | _ => exact o1.elim⟩
def rng (lo : Int) : Nat → List D
  | 0 => [] | n + 1 => .int lo :: rng (lo + 1) n
theorem rng_at : ∀ (n : Nat) (lo : Int) (i : Nat), (rng lo n)[i]? = if i < n then some (.int (lo + i)) else none
  | 0, lo, i => by simp [rng]
  | n + 1, lo, 0 => by simp [rng]
  | n + 1, lo, i + 1 => by
    show (rng (lo + 1) n)[i]? = _
    rw [rng_at n (lo + 1) i]
    by_cases h : i < n
    · rewrite [if_pos h]; rw [if_pos (by omega)]
      have : lo + 1 + (i : Int) = lo + ((i + 1 : Nat) : Int) := by omega
      rw [this]
    · rewrite [if_neg h]; rw [if_neg (by omega)]
theorem walk_rng {g : G} {lo : Int} {n : Nat} : WalkI P g (rng lo n) (Itr lo n) := fun i g1 h1 H l s => by
  rw [rng_at]
  refine ⟨fun d e => ?_, fun e => ?_⟩
  · by_cases h : i < n
    · rw [if_pos h] at e; cases e
      exact ⟨h, fun x H' ⟨eH, ex⟩ => by subst eH; subst ex; exact ⟨g1, .refl _, s, .int _⟩⟩
    · rw [if_neg h] at e; cases e
  · by_cases h : i < n
    · rw [if_pos h] at e; cases e
    · exact (by show n ≤ i; omega)
def ok62 (i : Int) : Bool := Nat.ble i.natAbs 1000000000
theorem ok62_ok {i : Int} (h : ok62 i = true) : -(2 ^ 62) ≤ i ∧ i < 2 ^ 62 := by
  have :=
      Nat.le_of_ble_eq_true h
  omega
def iR1 (fs : FA) : FA := fun sl h => (fs sl h).bind fun ds h => match ds with
  | [.int j] => (match ok62 j with
    | true => .ok (rng 0 j.toNat) h | false => .no)
  | _ => .no
def iR2 (fs : FA) : FA := fun sl h => (fs sl h).bind fun ds h => match ds with
  | [.int i, .int j] => (match ok62 i && ok62 j with
    | true => .ok (rng i (j - i).toNat) h | false => .no)
  | _ => .no
theorem sI_range1 {tg a : Expr} (hg : Gl X "range") (hm : X.mg "range" = none) (ha : PA X [a] (rdA P E fs)) (hs : starEach [a] X.env = [(false, eval a X.env)] := by rfl) : PI X tg (.Call (.Name "range" p) [a] [] pos) (rdI P E (iR1 fs)) :=
  PI.weak (pi_range1 hg hm ha hs) fun σ H R ⟨g, sl, h, x, o⟩ => ⟨g, sl, h, x, Out.bind o fun ds h1 g1 H1 vs l1 s1 r1 o1 => by
    cases r1 with
    | nil => exact o1.elim
    | cons r rr =>
      cases rr with
      | nil =>
        cases r with
        | int j =>
          have o2 : Out P g1 (WalkI P) R E (match ok62 j with
            | true => .ok (rng 0 j.toNat) h1 | false => .no) := o1
          cases q : ok62 j with
          | false => rw [q] at o2; exact o2.elim
          | true => rw [q] at o2; obtain ⟨z1, z2⟩ := ok62_ok q; exact ⟨j, rfl, z1, z2, Out.now o2 s1 walk_rng⟩
        | _ => exact o1.elim
      | cons _ _ => cases r <;> exact o1.elim⟩
theorem sI_range2 {tg a b : Expr} (hg : Gl X "range") (hm : X.mg "range" = none) (ha : PA X [a, b] (rdA P E fs)) (hs : starEach [a, b] X.env = [(false, eval a X.env), (false, eval b X.env)] := by rfl) (hs2 : starEach [b] X.env = [(false, eval b X.env)] := by rfl) :
    PI X tg (.Call (.Name "range" p) [a, b] [] pos) (rdI P E (iR2 fs)) :=
  PI.weak (pi_range2 hg hm ha hs hs2) fun σ H R ⟨g, sl, h, x, o⟩ => ⟨g, sl, h, x, Out.bind o fun ds h1 g1 H1 vs l1 s1 r1 o1 => by
    cases r1 with
    | nil => exact o1.elim
    | cons r rr =>
      cases rr with
      | nil => cases r <;> exact o1.elim
      | cons r2 rr2 =>
        cases rr2 with
        | cons _ _ => cases r <;> cases r2 <;> exact o1.elim
        | nil =>
          cases r with
          | int i =>
            cases r2 with
            | int j =>
              have o2 : Out P g1 (WalkI P) R E (match ok62 i && ok62 j with
                | true => .ok (rng i (j - i).toNat) h1 | false => .no) := o1
              cases q : (ok62 i && ok62 j) with
              | false => rw [q] at o2; exact o2.elim
              | true =>
                rw [q] at o2
                rcases Bool.and_eq_true_iff.mp q with ⟨q1, q2⟩
                obtain ⟨z1, z2⟩ := ok62_ok q1
                obtain ⟨z3, z4⟩ := ok62_ok q2
                exact ⟨i, j, rfl, ⟨z1, z2, z3, z4⟩, Out.now o2 s1 walk_rng⟩
            | _ => exact o1.elim
          | _ => cases r2 <;> exact o1.elim⟩
/-- zip of two lists, of two tuples -/
def zipD : List D → List D → List D
  | a :: as, b :: bs => .tup [a, b] :: zipD as bs
  | _, _ => []
theorem zipD_at : ∀ (as bs : List D) (i : Nat), (zipD as bs)[i]? = (as[i]?).bind fun a => (bs[i]?).map fun b => .tup [a, b]
  | [], bs, i => by simp [zipD]
  | a :: as, [], i => by cases i <;> simp [zipD]
  | a :: as, b :: bs, 0 => by simp [zipD]
  | a :: as, b :: bs, i + 1 => by
    show (zipD as bs)[i]? = _
    rw [zipD_at as bs i]
    simp
theorem pair_new {g : G} {h : Hc} {H : Hp} {a b : D} {x y : V} {T : Addr} (s : HS P g h H) (ra : RV P g.F g.ρ a x) (rb : RV P g.F g.ρ b y) (hT : H T = none) : ∃ g2, G.le g g2 ∧ HS P g2 h (upd H T (.tup [x, y])) ∧ RV P g2.F g2.ρ (.tup [a, b]) (.ref T) :=
  have l := G.fz_le (o := HO.tup [x, y]) (exNone s.fr hT)
  ⟨_, l, s.fz hT, .tup (SqT.of (show upd g.F T (.tup [x, y]) T = _ from upd_same)) (.cons (rv_le l ra) (.cons (rv_le l rb) .nil))⟩
theorem walk_zip {K : PySem.W.Frag} {g : G} {xs ys : List D} {vs ws : List V} {a b : Addr} (hK : K = P.K) (h : SqL P.K g.F a vs) (h2 : SqL P.K g.F b ws) (r : RVs P g.F g.ρ xs vs) (r2 : RVs P g.F g.ρ ys ws) : WalkI P g (zipD xs ys) (Itz K a b) := fun i g1 h1 H l s => by
  have hq : SqL K H a vs := by rw [hK]; exact ex_l (l.1.trans s.fr) h
  have hq2 : SqL K H b ws := by rw [hK]; exact ex_l (l.1.trans s.fr) h2
  rw [zipD_at]
  refine ⟨fun d e => ?_, fun e => ?_⟩
  · obtain ⟨d1, e1, e⟩ := Option.bind_eq_some_iff.mp e
    obtain ⟨d2, e2, e⟩ := Option.map_eq_some_iff.mp e
    subst e
    obtain ⟨v, f1, rv1⟩ := r.get e1
    obtain ⟨w, f2, rv2⟩ := r2.get e2
    refine ⟨⟨vs, ws, v, w, hq, hq2, f1, f2⟩, fun x H' ⟨T, x1, y1, ex, hT, eH, k1, k2⟩ => ?_⟩
    subst ex; subst eH
    have z1 := k1 vs hq
    have z2 := k2 ws hq2
    rw [f1] at z1; cases z1
    rw [f2] at z2; cases z2
    exact pair_new s (rv_le l rv1) (rv_le l rv2) hT
  · refine ⟨vs, ws, hq, hq2, ?_⟩
    rw [← r.length, ← r2.length]
    cases q : xs[i]? with
    | none => exact .inl (List.getElem?_eq_none_iff.mp q)
    | some d1 =>
      rw [q] at e
      cases q2 : ys[i]? with
      | none => exact .inr (List.getElem?_eq_none_iff.mp q2)
      | some d2 => rw [q2] at e; cases e
theorem walk_zipT {K : PySem.W.Frag} {g : G} {xs ys : List D} {vs ws : List V} {a b : Addr} (hK : K = P.K) (h : SqT P.K g.F a vs) (h2 : SqT P.K g.F b ws) (r : RVs P g.F g.ρ xs vs) (r2 : RVs P g.F g.ρ ys ws) : WalkI P g (zipD xs ys) (RZ.ItzT K a b) := fun i g1 h1 H l s => by
  have hq : SqT K H a vs := by rw [hK]; exact ex_t (l.1.trans s.fr) h
  have hq2 : SqT K H b ws := by rw [hK]; exact ex_t (l.1.trans s.fr) h2
  rw [zipD_at]
  refine ⟨fun d e => ?_, fun e => ?_⟩
  · obtain ⟨d1, e1, e⟩ := Option.bind_eq_some_iff.mp e
    obtain ⟨d2, e2, e⟩ := Option.map_eq_some_iff.mp e
    subst e
    obtain ⟨v, f1, rv1⟩ := r.get e1
    obtain ⟨w, f2, rv2⟩ := r2.get e2
    refine ⟨⟨vs, ws, v, w, hq, hq2, f1, f2⟩, fun x H' ⟨T, x1, y1, ex, hT, eH, k1, k2⟩ => ?_⟩
    subst ex; subst eH
    have z1 := k1 vs hq
    have z2 := k2 ws hq2
    rw [f1] at z1; cases z1
    rw [f2] at z2; cases z2
    exact pair_new s (rv_le l rv1) (rv_le l rv2) hT
  · refine ⟨vs, ws, hq, hq2, ?_⟩
    rw [← r.length, ← r2.length]
    cases q : xs[i]? with
    | none => exact .inl (List.getElem?_eq_none_iff.mp q)
    | some d1 =>
      rw [q] at e
      cases q2 : ys[i]? with
      | none => exact .inr (List.getElem?_eq_none_iff.mp q2)
      | some d2 => rw [q2] at e; cases e
def iZp (fs : FA) : FA := fun sl h => (fs sl h).bind fun ds h => match ds with
  | [.tup xs, .tup ys] => .ok (zipD xs ys) h
  | [.lst xs, .lst ys] => .ok (zipD xs ys) h
  | _ => .no
theorem sI_zip {e1 e2 : Expr} {elts : List Expr} {kk : Nat} {tpos : Pos} (hg : Gl X "zip") (hm : X.mg "zip" = none) (ha : PA X [e1, e2] (rdA P E fs)) (hs : starEach [e1, e2] X.env = (false, eval e1 X.env) :: starEach [e2] X.env := by rfl) (hpl : (backTo pos (starEach [e2] X.env)).any (·.1) = false := by rfl)
    (hK : X.K = P.K := by rfl) : PI X (.Tuple elts kk tpos) (.Call (.Name "zip" p) [e1, e2] [] pos) (rdI P E (iZp fs)) :=
  PI.weak (RZ.pi_zipA hg hm ha hs hpl) fun σ H R ⟨g, sl, h, x, o⟩ => ⟨g, sl, h, x, Out.bind o fun ds h1 g1 H1 vs l1 s1 r1 o1 => by
    cases r1 with
    | nil => exact o1.elim
    | cons r rr =>
      cases rr with
      | nil => cases r <;> exact o1.elim
      | cons r2 rr2 =>
        cases rr2 with
        | cons _ _ => cases r <;> cases r2 <;> exact o1.elim
        | nil =>
          cases r with
          | tup f1 rr1 =>
            cases r2 with
            | tup f2 rr2 => exact ⟨_, _, _, _, rfl, .inr ⟨by rw [hK]; exact ex_t s1.fr f1, by rw [hK]; exact ex_t s1.fr f2, Out.now o1 s1 (walk_zipT hK f1 f2 rr1 rr2)⟩⟩
            | _ => exact o1.elim
          | lst f1 rr1 =>
            cases r2 with
            | lst f2 rr2 => exact ⟨_, _, _, _, rfl, .inl ⟨SqL.of (s1.fr _ _ f1), SqL.of (s1.fr _ _ f2), Out.now o1 s1 (walk_zip hK (SqL.of f1) (SqL.of f2) rr1 rr2)⟩⟩
            | _ => exact o1.elim
          | _ => cases r2 <;> exact o1.elim⟩
/-! ### for -/
def forL (tg : FG) (b : FS) : List D → FS
  | [], sl, h => .nx sl h
  | d :: ds, sl, h => match tg d sl with
    | none => .no
    | some sl1 => match b sl1 h with
      | .nx sl2 h2 => forL tg b ds sl2 h2
      | .ct sl2 h2 => forL tg b ds sl2 h2
      | .bk sl2 h2 => .nx sl2 h2
      | r => r
def sFor (fi : FA) (tg : FG) (b : FS) : FS := fun sl h => (fi sl h).st fun ds h => forL tg b ds sl h
theorem s_for {tg iter : Expr} {body : List Stmt} {fi : FA} {ft : FG} {fb : FS} (hp : PassesOwn (model X.prog X.w) X.A X.env X.xe) (hc : X.calm = true) (hi : PI X tg iter (rdI P E fi)) (hg : PG X tg (rdG P vs ft)) (hb : PSs X body (rdS P E fb))
    (hs : ∀ x, foldedSetIterable iter X.env x = pure x := by intro _; rfl) : PS X (.For tg iter body [] pos) (rdS P E (sFor fi ft fb)) :=
  PS.weak (ps_for hp hc hi hg hb hs) fun D σ H ⟨g, sl, h, x, o⟩ => ⟨g, sl, h, x, OutS.st o fun ds h1 g1 H1 J l1 s1 wk o1 => by
    refine ⟨fun i m σ' H' => m = ds.length - i ∧ i ≤ ds.length ∧ ∃ g' sl' h', G.le g1 g' ∧ SR P g' sl' h' σ' H' ∧ OutS P g' D E (forL ft fb (ds.drop i) sl' h'), ⟨ds.length, by omega, Nat.zero_le _, g1, sl, h1, .refl _, x.le l1 s1, o1⟩, ?_⟩
    rintro i m σ' H' ⟨rfl, hi, g', sl', h', l', x', o'⟩
    obtain ⟨go, stop⟩ := wk i g' h' H' l' x'.hs
    cases q : ds[i]? with
    | none =>
      have hl := List.getElem?_eq_none_iff.mp q
      rw [List.drop_eq_nil_of_le hl] at o'
      exact .inl ⟨stop q, o' g' σ' H' (.refl _) x'⟩
    | some d =>
      obtain ⟨hlt, e⟩ := List.getElem?_eq_some_iff.mp q
      have hd : ds.drop i = d :: ds.drop (i + 1) := by rw [← e]; exact List.drop_eq_getElem_cons hlt
      rw [hd] at o'
      obtain ⟨jg, jy⟩ := go d q
      refine .inr ⟨jg, fun σ2 H2 => ∃ g2 sl2 h2, G.le g1 g2 ∧ SR P g2 sl2 h2 σ2 H2 ∧ OutS P g2 D E (forL ft fb (ds.drop (i + 1)) sl2 h2), fun σ2 H2 ⟨g2, sl2, h2, l2, x2, o2⟩ => ⟨ds.length - (i + 1), by omega, rfl, hlt, g2, sl2, h2, l2, x2, o2⟩, fun v H2 y => ?_⟩
      obtain ⟨g2, l2, s2, r2⟩ := jy v H2 y
      have o3 : OutS P g2 D E (match ft d sl' with
        | none => .no
        | some sl1 => match fb sl1 h' with
          | .nx sl2 h2 => forL ft fb (ds.drop (i + 1)) sl2 h2
          | .ct sl2 h2 => forL ft fb (ds.drop (i + 1)) sl2 h2
          | .bk sl2 h2 => .nx sl2 h2
          | r => r) := OutS.le o' l2
      cases q2 : ft d sl' with
      | none => rw [q2] at o3; exact o3.elim
      | some sl1 =>
        rw [q2] at o3
        refine ⟨g2, sl', h', d, x'.le l2 s2, r2, sl1, q2, fun σ3 x3 _ => ⟨g2, sl1, h', x3, ?_⟩⟩
        cases q3 : fb sl1 h' with
        | nx sl4 h4 => simp only [q3] at o3; exact fun g4 σ4 H4 l4 x4 => ⟨g4, sl4, h4, (l'.trans l2).trans l4, x4, OutS.le o3 l4⟩
        | ct sl4 h4 => simp only [q3] at o3; exact fun g4 σ4 H4 l4 x4 => ⟨g4, sl4, h4, (l'.trans l2).trans l4, x4, OutS.le o3 l4⟩
        | bk sl4 h4 => simp only [q3] at o3; exact o3
        | rt d4 h4 => simp only [q3] at o3; exact o3
        | exc c p h4 => simp only [q3] at o3; exact o3
        | no => simp only [q3] at o3; exact o3⟩
/-! ### while -/
def whL (t : FT) (b : FS) : Nat → FS
  | 0, _, _ => .no
  | n + 1, sl, h => (t sl h).st fun k h => match k with
    | false => .nx sl h
    | true => match b sl h with
      | .nx sl2 h2 => whL t b n sl2 h2
      | .ct sl2 h2 => whL t b n sl2 h2
      | .bk sl2 h2 => .nx sl2 h2
      | r => r
def sWh (n : Nat) (t : FT) (b : FS) : FS := fun sl h => whL t b n sl h
theorem s_while {c : Expr} {body : List Stmt} {n : Nat} {t : FT} {b : FS} (hp : PassesOwn (model X.prog X.w) X.A X.env X.xe) (hc : PT X c (rdT P E t)) (hb : PSs X body (rdS P E b)) : PS X (.While c body [] pos) (rdS P E (sWh n t b)) :=
  PS.weak (ps_while hp hc hb) fun D σ H ⟨g, sl, h, x, o⟩ => by
    refine ⟨fun m σ' H' => ∃ g' sl' h', SR P g' sl' h' σ' H' ∧ OutS P g' D E (whL t b m sl' h'), ⟨n, g, sl, h, x, o⟩, ?_⟩
    rintro m σ' H' ⟨g', sl', h', x', o'⟩
    cases m with
    | zero => exact o'.elim
    | succ m =>
      refine ⟨g', sl', h', x', OutS.st o' fun k h1 g1 H1 v l1 s1 r1 o1 => ?_⟩
      cases (show k = v from r1)
      have x1 := x'.le l1 s1
      cases k with
      | false => exact o1 g1 σ' H1 (.refl _) x1
      | true =>
        rw [if_pos rfl]
        refine ⟨fun σ2 H2 => ∃ g2 sl2 h2, SR P g2 sl2 h2 σ2 H2 ∧ OutS P g2 D E (whL t b m sl2 h2), fun σ2 H2 z => ⟨m, Nat.lt_succ_self _, z⟩, g1, sl', h1, x1, ?_⟩
        have o2 : OutS P g1 D E (match b sl' h1 with
          | .nx sl2 h2 => whL t b m sl2 h2
          | .ct sl2 h2 => whL t b m sl2 h2
          | .bk sl2 h2 => .nx sl2 h2
          | r => r) := o1
        cases q3 : b sl' h1 with
        | nx sl4 h4 => simp only [q3] at o2; exact fun g4 σ4 H4 l4 x4 => ⟨g4, sl4, h4, x4, OutS.le o2 l4⟩
        | ct sl4 h4 => simp only [q3] at o2; exact fun g4 σ4 H4 l4 x4 => ⟨g4, sl4, h4, x4, OutS.le o2 l4⟩
        | bk sl4 h4 => simp only [q3] at o2; exact o2
        | rt d4 h4 => simp only [q3] at o2; exact o2
        | exc c p h4 => simp only [q3] at o2; exact o2
        | no => simp only [q3] at o2; exact o2
/-! ### list comprehensions -/
/-- no exception comes out -/
def nx {α : Type} (r : R α) : R α := match r with
  | .exc _ _ _ => .no | r => r
abbrev E0 : XK :=
    fun _ _ _ => False
theorem Out.nx {α β : Type} {g : G} {rel : G → α → β → Prop} {Q : β → Hp → Prop} {E' : XK} {r : R α} (o : Out P g rel Q E (nx r)) : Out P g rel Q E' r := by
  cases r with
  | ok d h => exact o
  | exc c p h => exact o.elim
  | no => exact o
def wipeS (sl : Sl) : List Nat → Sl
  | [] => sl
  | v :: vs => (wipeS sl vs).set v none
theorem SR.wipe {g : G} {sl : Sl} {h : Hc} {σ : L2.St} {H : Hp} (x : SR P g sl h σ H) : ∀ vs, SR P g (wipeS sl vs) h (L2.wipe σ vs) H
  | [] => x
  | v :: vs => (x.wipe vs).forget
/-- a list that is being made -/
def app (i : Nat) (y : D) (h : Hc) : Option Hc := match h.get i with
  | some (.lst xs) => (match Nat.ble xs.length 100000 with
    | true => some (h.set i (.lst (xs ++ [y]))) | false => none)
  | _ => none
theorem app_ev {g : G} {h h' : Hc} {H : Hp} {i : Nat} {a : Addr} {d : D} {y : V} (s : HS P g h H) (ha : g.ρ i = some a) (r : RV P g.F g.ρ d y) (e : app i d h = some h') : ∃ acc, H a = some (.lst acc) ∧ acc.length < sizeLine ∧ HS P g h' (upd H a (.lst (acc ++ [y]))) := by
  unfold app at e
  cases q : h.get i with
  | none => (rw [q] at e; cases e)
  | some c =>
    cases c with
    | lst xs =>
      simp only [q] at e
      cases q2 : Nat.ble xs.length 100000 with
      | false => rw [q2] at e; cases e
      | true =>
        rw [q2] at e; cases e
        obtain ⟨a', vs, h1, h2, h3, h4⟩ := s.lst q
        rw [ha] at h1; cases h1
        have := Nat.le_of_ble_eq_true q2
        exact ⟨vs, h3, by rw [← h4.length, sizeLine_eq]; omega, s.wr q ha (.lst (h4.append (.cons r .nil)))⟩
    | _ => simp only [q] at e; cases e
def lcL (tg : FG) (t : FT) (f : FE) (i : Nat) (sl : Sl) : List D → Hc → R Unit
  | [], h => .ok () h
  | d :: ds, h => match tg d sl with
    | none => .no
    | some sl1 => (nx (t sl1 h)).bind fun k h => match k with
      | false => lcL tg t f i sl ds h
      | true => (nx (f sl1 h)).bind fun y h => match app i y h with
        | some h => lcL tg t f i sl ds h | none => .no
/-- the made list is kept as a cell, or as a value -/
def fin (m : Bool) (i : Nat) (h : Hc) : R D := match m with
  | true => .ok (.ref i) h
  | false => match h.get i with
    | some (.lst xs) => .ok (.lst xs) (h.del i) | _ => .no
theorem fin_ok {m : Bool} {g : G} {h : Hc} {H : Hp} {i : Nat} {a : Addr} {Q : VK} (s : HS P g h H) (ha : g.ρ i = some a) (o : Out P g (rv P) Q E (fin m i h)) : Q (.ref a) H := by
  cases m with
  | true => exact Out.now o s (.ref ha)
  | false =>
    have o' : Out P g (rv P) Q E (match h.get i with
      | some (.lst xs) => .ok (.lst xs) (h.del i) | _ => .no) := o
    cases q : h.get i with
    | none => rw [q] at o'; exact o'.elim
    | some c =>
      cases c with
      | lst xs =>
        rw [q] at o'
        obtain ⟨a', vs, h1, h2, h3, h4⟩ := s.lst q
        rw [ha] at h1; cases h1
        obtain ⟨s', l⟩ := s.freeze q ha h3
        exact o' _ H _ l s' (.lst (show upd g.F a (.lst vs) a = _ from upd_same) (rvs_le l h4))
      | _ => rw [q] at o'; exact o'.elim
def fLc (m : Bool) (own : List Nat) (fi : FA) (tg : FG) (t : FT) (f : FE) : FE := fun sl h => (fi sl h).bind fun ds h => (lcL tg t f h.nx (wipeS sl own) ds (h.new (.lst []))).bind fun _ h2 => fin m h.nx h2
theorem fLc_rd {m : Bool} {own : List Nat} {fi : FA} {ft : FG} {t : FT} {f : FE} : ∀ σ H Q, rdE P E (fLc m own fi ft t f) σ H Q → tLc (rdI P E fi) (rdG P own ft) (rdT P E0 t) (rdE P E0 f) own σ H Q := fun σ H Q ⟨g, sl, h, x, o⟩ =>
  ⟨g, sl, h, x, Out.bind o fun ds h1 g1 H1 J l1 s1 wk o1 => fun D hD => by
    obtain ⟨s2, l2, e2⟩ := s1.mk' hD (.lst (P := P) (F := g1.F) (ρ := g1.ρ) .nil)
    refine ⟨fun i m' H' => m' = ds.length - i ∧ i ≤ ds.length ∧ ∃ g' h', G.le (g1.mk' h1.nx D) g' ∧ HS P g' h' H' ∧ Out P g' (rv P) Q E ((lcL ft t f h1.nx (wipeS sl own) (ds.drop i) h').bind fun _ h2 => fin m h1.nx h2), ⟨ds.length, by omega, Nat.zero_le _, _, _, .refl _, s2, Out.le (r := (lcL ft t f h1.nx (wipeS sl own) ds (h1.new (.lst []))).bind fun _ h2 => fin m h1.nx h2) o1 l2⟩, ?_⟩
    rintro i m' H' ⟨rfl, hi, g', h', l', s', o'⟩
    have eD : g'.ρ h1.nx = some D := l'.2 _ _ e2
    obtain ⟨go, stop⟩ := wk i g' h' H' (l2.trans l') s'
    cases q : ds[i]? with
    | none =>
      have hl := List.getElem?_eq_none_iff.mp q
      rw [List.drop_eq_nil_of_le hl] at o'
      exact .inl ⟨stop q, fin_ok s' eD o'⟩
    | some d =>
      obtain ⟨hlt, e⟩ := List.getElem?_eq_some_iff.mp q
      have hd : ds.drop i = d :: ds.drop (i + 1) := by rw [← e]; exact List.drop_eq_getElem_cons hlt
      rw [hd] at o'
      obtain ⟨jg, jy⟩ := go d q
      refine .inr ⟨jg, fun H2 => ∃ g2 h2, G.le (g1.mk' h1.nx D) g2 ∧ HS P g2 h2 H2 ∧ Out P g2 (rv P) Q E ((lcL ft t f h1.nx (wipeS sl own) (ds.drop (i + 1)) h2).bind fun _ h2 => fin m h1.nx h2), fun H2 ⟨g2, h2, l2, s2, o2⟩ => ⟨ds.length - (i + 1), by omega, rfl, hlt, g2, h2, l2, s2, o2⟩, fun v H2 y => ?_⟩
      obtain ⟨g2, l3, s3, r3⟩ := jy v H2 y
      have x3 : SR P g2 (wipeS sl own) h' (L2.wipe σ own) H2 := (x.le ((l1.trans l2).trans (l'.trans l3)) s3).wipe own
      have o3 := Out.le o' l3
      simp only [lcL] at o3
      cases q2 : ft d (wipeS sl own) with
      | none => simp only [q2] at o3; exact o3.elim
      | some sl1 =>
        simp only [q2] at o3
        refine ⟨g2, wipeS sl own, h', d, x3, r3, sl1, q2, fun σ3 x4 hw => ⟨hw.trans wipe_wipe, g2, sl1, h', x4, ?_⟩⟩
        have o4 : Out P g2 (rv P) Q E ((nx (t sl1 h')).bind fun k h => (match k with
          | false => lcL ft t f h1.nx (wipeS sl own) (ds.drop (i + 1)) h
          | true => (nx (f sl1 h)).bind fun y h => match app h1.nx y h with
            | some h => lcL ft t f h1.nx (wipeS sl own) (ds.drop (i + 1)) h | none => .no).bind fun _ h2 => fin m h1.nx h2) := by
          cases q5 : nx (t sl1 h') <;> (rw [q5] at o3; exact o3)
        refine Out.nx (Out.bind o4 fun k h5 g5 H5 b l5 s5 r5 o5 => ?_)
        cases (show k = b from r5)
        have l6 : G.le (g1.mk' h1.nx D) g5 := (l'.trans l3).trans l5
        cases k with
        | false => exact ⟨g5, h5, l6, s5, o5⟩
        | true =>
          rw [if_pos rfl]
          refine ⟨g5, sl1, h5, x4.le l5 s5, ?_⟩
          have o6 : Out P g5 (rv P) Q E ((nx (f sl1 h5)).bind fun y h => (match app h1.nx y h with
            | some h => lcL ft t f h1.nx (wipeS sl own) (ds.drop (i + 1)) h | none => .no).bind fun _ h2 => fin m h1.nx h2) := by
            cases q7 : nx (f sl1 h5) with
            | ok _ _ => simp only [q7] at o5; exact o5
            | exc _ _ _ => simp only [q7] at o5; exact o5
            | no => simp only [q7] at o5; exact o5
          refine Out.nx (Out.bind o6 fun y h7 g7 H7 yv l7 s7 r7 o7 => ?_)
          cases q8 : app h1.nx y h7 with
          | none => rw [q8] at o7; exact o7.elim
          | some h8 =>
            rw [q8] at o7
            obtain ⟨acc, z1, z2, z3⟩ := app_ev s7 ((l6.trans l7).2 _ _ e2) r7 q8
            exact ⟨acc, z1, z2, g7, h8, l6.trans l7, z3, o7⟩⟩
/-- a clause's tests -/
theorem PTs.weak {ifs : List Expr} {t t' : TT} (h : PTs X ifs t) (w : ∀ σ H Q, t' σ H Q → t σ H Q) : PTs X ifs t' := ⟨fun pins s σ H Q I q => h.run pins s σ H Q I (w σ H Q q)⟩
def tYesF : FT := fun _ h => .ok true h
theorem sTs_nil : PTs X [] (rdT P E tYesF) := PTs.weak pts_nil fun σ H Q ⟨g, sl, h, x, o⟩ => o g H true (.refl _) x.hs rfl
theorem sTs_one {c : Expr} {t : FT} (h : PT X c (rdT P E t)) : PTs X [c] (rdT P E t) := pts_one h
theorem sE_lc {m : Bool} {elt tg iter : Expr} {ifs : List Expr} {scope : Scope} {own : List (Str × Nat)} {fi : FA} {ft : FG} {t : FT} {f : FE} (hc : X.calm = true) (hN : X.N.Nodup) (hi : PI X tg iter (rdI P E fi)) (ok : BlkOk X.N X.env.scope scope own)
    (hg : ∀ (s : Shared) (H : Hp) (C : Addr) (cl : List (Str × Addr)) (fp : List Addr), PG (X.blk s H scope (compEnvC scope cl C X.env) fp) tg (rdG P (own.map (·.2)) ft))
    (ht : ∀ (s : Shared) (H : Hp) (C : Addr) (cl : List (Str × Addr)) (fp : List Addr), PTs (X.blk s H scope (compEnvC scope cl C X.env) fp) ifs (rdT P E0 t))
    (he : ∀ (s : Shared) (H : Hp) (C : Addr) (cl : List (Str × Addr)) (fp : List Addr), PE (X.blk s H scope (compEnvC scope cl C X.env) fp) elt (rdE P E0 f)) (hs : ∀ x, foldedSetIterable iter X.env x = pure x := by intro _; rfl) :
    PE X (.ListComp elt [⟨tg, iter, ifs, 0⟩] scope pos) (rdE P E (fLc m (own.map (·.2)) fi ft t f)) := PE.weak (pe_lc hc hN hi ok hg ht he hs) fLc_rd
/-- name = [..] on one line -/
theorem s_setLc {m : Bool} {i : Nat} {y : Str} {py spos : Pos} {elt tg iter : Expr} {ifs : List Expr} {scope : Scope} {own : List (Str × Nat)} {fi : FA} {ft : FG} {t : FT} {f : FE} (hc : X.calm = true) (hN : X.N.Nodup) (hy : X.N[i]? = some y) (hyl : X.env.scope.names.lookup y = some .local)
    (hsw : swapsWith (.ListComp elt [⟨tg, iter, ifs, 0⟩] scope pos) (some (.Name y py)) spos.line X.env = pure true) (hi : PI X tg iter (rdI P E fi)) (ok : BlkOk X.N X.env.scope scope own)
    (hg : ∀ (s : Shared) (H : Hp) (C : Addr) (cl : List (Str × Addr)) (fp : List Addr), PG (X.blk s H scope (compEnvC scope cl C X.env) fp) tg (rdG P (own.map (·.2)) ft))
    (ht : ∀ (s : Shared) (H : Hp) (C : Addr) (cl : List (Str × Addr)) (fp : List Addr), PTs (X.blk s H scope (compEnvC scope cl C X.env) fp) ifs (rdT P E0 t))
    (he : ∀ (s : Shared) (H : Hp) (C : Addr) (cl : List (Str × Addr)) (fp : List Addr), PE (X.blk s H scope (compEnvC scope cl C X.env) fp) elt (rdE P E0 f)) (hs : ∀ x, foldedSetIterable iter X.env x = pure x := by intro _; rfl) :
    PS X (.Assign [.Name y py] (.ListComp elt [⟨tg, iter, ifs, 0⟩] scope pos) spos) (rdS P E (sSet i (fLc m (own.map (·.2)) fi ft t f))) :=
  PS.weak (ps_setLc hc hN hy hyl hsw hi ok hg ht he hs) fun D σ H ⟨g, sl, h, x, o⟩ => fLc_rd σ H _ ⟨g, sl, h, x, OutS.st o fun d h1 g1 H1 v l1 s1 r1 o1 => o1 g1 _ H1 (.refl _) ((x.le l1 s1).set r1)⟩
end
end EV
end S_EvE
section S_EvF
/-! EvF: dicts: d[k], k in d, d[k] = v, get, setdefault, len. -/
namespace EV
open PySem PySem.Spec PyProof.Rows L2 Evl
/-! ### keys -/
mutual
/-- == of keys -/
def kq : D → D → Bool
  | .non, .non => true
  | .bl a, .bl b => iEq (bI a) (bI b)
  | .bl a, .int j => iEq (bI a) j
  | .int i, .bl b => iEq i (bI b)
  | .int i, .int j => iEq i j
  | .str s, .str t => sEq s t
  | .tup xs, .tup ys => kqs xs ys
  | _, _ => false
def kqs : List D → List D → Bool
  | [], [] => true
  | x :: xs, y :: ys => (match kq x y with
    | true => kqs xs ys | false => false)
  | _, _ => false
end
mutual
/-- a key: its depth at most n -/
def okN : Nat → D → Bool
  | _, .non => true
  | _, .bl _ => true
  | _, .int _ => true
  | _, .str _ => true
  | n + 1, .tup xs => okNs n xs
  | _, _ => false
def okNs : Nat → List D → Bool
  | _, [] => true
  | n, x :: xs => okN n x && okNs n xs
end
mutual
theorem okN_ok : ∀ (n : Nat) (d : D), okN n d = true → ∃ k, nk d = some k ∧ k.depth ≤ n
  | n, .non, _ => ⟨.none, rfl, by simp [NestedKey.depth]⟩
  | n, .bl b, _ => ⟨_, rfl, by simp [NestedKey.depth]⟩
  | n, .int i, _ => ⟨_, rfl, by simp [NestedKey.depth]⟩
  | n, .str s, _ => ⟨_, rfl, by simp [NestedKey.depth]⟩
  | 0, .tup xs, h => by simp [okN] at h
  | n + 1, .tup xs, h => by
    obtain ⟨ks, e, l⟩ := okNs_ok n xs (by simpa [okN] using h)
    exact ⟨.tup ks, by simp [nk, e], by simp [NestedKey.depth]; omega⟩
  | n, .lst _, h => by simp [okN] at h
  | n, .cst _, h => by simp [okN] at h
  | n, .dct _ _, h => by simp [okN] at h
  | n, .ref _, h => by simp [okN] at h
  | n, .glo _, h => by simp [okN] at h
theorem okNs_ok : ∀ (n : Nat) (xs : List D), okNs n xs = true → ∃ ks, nk.nkAll xs = some ks ∧ NestedKey.depthAll ks ≤ n
  | n, [], _ => ⟨[], rfl, by simp [NestedKey.depthAll]⟩
  | n, x :: xs, h => by
    simp only [okNs, Bool.and_eq_true] at h
    obtain ⟨k, e1, l1⟩ := okN_ok n x h.1
    obtain ⟨ks, e2, l2⟩ := okNs_ok n xs h.2
    exact ⟨k :: ks, by simp [nk.nkAll, e1, e2], by simp [NestedKey.depthAll]; omega⟩
end
mutual
theorem kq_eq : ∀ (a b : D) (k l : NestedKey), nk a = some k → nk b = some l → kq a b = NestedKey.beq k l
  | .non, b, k, l, h1, h2 => by
    cases h1
    cases b <;> first | (cases h2; rfl) | (simp [nk] at h2; done) | (simp only [nk, Option.map_eq_some_iff] at h2; obtain ⟨_, _, rfl⟩ := h2; rfl)
  | .bl x, b, k, l, h1, h2 => by
    cases h1
    cases b <;> first | (cases h2; simp [kq, NestedKey.beq, iEq_eq, bI_eq]; done) | (cases h2; rfl) | (simp [nk] at h2; done) | (simp only [nk, Option.map_eq_some_iff] at h2; obtain ⟨_, _, rfl⟩ := h2; rfl)
  | .int x, b, k, l, h1, h2 => by
    cases h1
    cases b <;> first | (cases h2; simp [kq, NestedKey.beq, iEq_eq, bI_eq]; done) | (cases h2; rfl) | (simp [nk] at h2; done) | (simp only [nk, Option.map_eq_some_iff] at h2; obtain ⟨_, _, rfl⟩ := h2; rfl)
  | .str x, b, k, l, h1, h2 => by
    cases h1
    cases b <;> first | (cases h2; simp [kq, NestedKey.beq, sEq_eq, toStr_inj]; done) | (cases h2; rfl) | (simp [nk] at h2; done) | (simp only [nk, Option.map_eq_some_iff] at h2; obtain ⟨_, _, rfl⟩ := h2; rfl)
  | .tup xs, b, k, l, h1, h2 => by
    simp only [nk, Option.map_eq_some_iff] at h1
    obtain ⟨ks, e1, rfl⟩ := h1
    cases b with
    | tup ys =>
      simp only [nk, Option.map_eq_some_iff] at h2
      obtain ⟨ls, e2, rfl⟩ := h2
      show kqs xs ys = NestedKey.beqAll ks ls
      exact kqs_eq xs ys ks ls e1 e2
    | _ => first | (cases h2; rfl) | (simp [nk] at h2; done)
  | .lst _, _, _, _, h1, _ => by simp [nk] at h1
  | .cst _, _, _, _, h1, _ => by simp [nk] at h1
  | .dct _ _, _, _, _, h1, _ => by simp [nk] at h1
  | .ref _, _, _, _, h1, _ => by simp [nk] at h1
  | .glo _, _, _, _, h1, _ => by simp [nk] at h1
theorem kqs_eq : ∀ (xs ys : List D) (ks ls : List NestedKey), nk.nkAll xs = some ks → nk.nkAll ys = some ls → kqs xs ys = NestedKey.beqAll ks ls
  | [], [], ks, ls, h1, h2 => by cases h1; cases h2; rfl
  | [], y :: ys, ks, ls, h1, h2 => by
    cases h1
    simp only [nk.nkAll, Option.bind_eq_some_iff, Option.map_eq_some_iff] at h2
    obtain ⟨_, _, _, _, rfl⟩ := h2
    rfl
  | x :: xs, [], ks, ls, h1, h2 => by
    cases h2
    simp only [nk.nkAll, Option.bind_eq_some_iff, Option.map_eq_some_iff] at h1
    obtain ⟨_, _, _, _, rfl⟩ := h1
    rfl
  | x :: xs, y :: ys, ks, ls, h1, h2 => by
    simp only [nk.nkAll, Option.bind_eq_some_iff, Option.map_eq_some_iff] at h1 h2
    obtain ⟨k, e1, kr, e2, rfl⟩ := h1
    obtain ⟨l, f1, lr, f2, rfl⟩ := h2
    show (match kq x y with
      | true => kqs xs ys | false => false) = (NestedKey.beq k l && NestedKey.beqAll kr lr)
    rw [kq_eq x y k l e1 f1, kqs_eq xs ys kr lr e2 f2]
    cases NestedKey.beq k l <;> rfl
end
theorem kq_dec {a b : D} {k l : NestedKey} (h1 : nk a = some k) (h2 : nk b = some l) : kq a b = decide (k = l) := by
  rw [NestedKey.decide_eq]; exact kq_eq a b k l h1 h2
/-- the key of a dict of ints and texts -/
def keyK : D → Option Key
  | .int i => some (.inl i)
  | .str s => some (.inr (toStr s))
  | _ => none
theorem kq_key {a b : D} {k l : Key} (h1 : keyK a = some k) (h2 : keyK b = some l) : kq a b = decide (k = l) := by
  cases a <;> first | (simp [keyK] at h1; done) | skip
  all_goals cases b <;> first | (simp [keyK] at h2; done) | skip
  all_goals (cases h1; cases h2)
  · rename_i i j
    show iEq i j = _
    rw [iEq_eq, Bool.eq_iff_iff, decide_eq_true_eq, decide_eq_true_eq]
    exact ⟨fun e => by rw [e], fun e => Sum.inl.inj e⟩
  · exact (decide_eq_false fun e => nomatch e).symm
  · exact (decide_eq_false fun e => nomatch e).symm
  · rename_i s t
    show sEq s t = _
    rw [sEq_eq, Bool.eq_iff_iff, decide_eq_true_eq, decide_eq_true_eq]
    exact ⟨fun e => by rw [e], fun e => toStr_inj.mp (Sum.inr.inj e)⟩
def lookD : List D → List D → D → Option D
  | k :: ks, v :: vs, x => (match kq k x with
    | true => some v | false => lookD ks vs x)
  | _, _, _ => none
def replD : List D → List D → D → D → List D
  | k :: ks, v :: vs, x, y => (match kq k x with
    | true => y | false => v) :: replD ks vs x y
  | _, vs, _, _ => vs
/-- 0: an int or a text; 1: a tuple -/
def kd : D → Nat
  | .int _ => 0 | .str _ => 0 | .tup _ => 1 | _ => 2
/-- a key x of a dict with the keys ks -/
def fits (ks : List D) (x : D) : Option Bool := match kd x with
  | 0 => (match ks with
    | [] => some false
    | k :: _ => match kd k with
      | 0 => some false | _ => none)
  | 1 => (match okN 8 x with
    | true => (match ks with
      | [] => some true
      | k :: _ => match kd k with
        | 1 => some true | _ => none)
    | false => none)
  | _ => none
theorem keyK_of {x : D} (h : kd x = 0) : ∃ k, keyK x = some k := by
  cases x <;> first | exact ⟨_, rfl⟩ | (simp [kd] at h; done)
section
variable {P : Pm} {E : XK} {X : Cx} {g : G} {h : Hc} {H : Hp}
theorem RKs.look {F : Hp} {ρ : Nat → Option Addr} {x : D} {k : Key} (hk : keyK x = some k) : ∀ {ks vs : List D} {kvs : List (Key × V)}, RKs P F ρ ks vs kvs → match lookD ks vs x with
    | some d => ∃ v, valV kvs k = some v ∧ RV P F ρ d v
    | none => valV kvs k = none
  | _, _, _, .nil => rfl
  | _, _, _, .int (i := i) (d := d) (v := v) (ks := ks) (ds := ds) r t => by
    have ih := RKs.look hk t
    show match (match kq (.int i) x with
      | true => some d | false => lookD ks ds x) with
      | some d => _ | none => _
    rw [kq_key (a := .int i) (k := .inl i) rfl hk]
    by_cases e : (Sum.inl i : Key) = k
    · rw [decide_eq_true e]; exact ⟨v, valV_pos e, r⟩
    · rw [decide_eq_false e, valV_neg e]; exact ih
  | _, _, _, .str (s := s) (d := d) (v := v) (ks := ks) (ds := ds) r t => by
    have ih := RKs.look hk t
    show match (match kq (.str s) x with
      | true => some d | false => lookD ks ds x) with
      | some d => _ | none => _
    rw [kq_key (a := .str s) (k := .inr (toStr s)) rfl hk]
    by_cases e : (Sum.inr (toStr s) : Key) = k
    · rw [decide_eq_true e]; exact ⟨v, valV_pos e, r⟩
    · rw [decide_eq_false e, valV_neg e]; exact ih
theorem RKs.repl {F : Hp} {ρ : Nat → Option Addr} {x y : D} {k : Key} {v' : V} (hk : keyK x = some k) (ry : RV P F ρ y v') : ∀ {ks vs : List D} {kvs : List (Key × V)}, RKs P F ρ ks vs kvs → RKs P F ρ ks (replD ks vs x y) (kvs.map fun kv => if kv.1 = k then (kv.1, v') else kv)
  | _, _, _, .nil => .nil
  | _, _, _, .int (i := i) (d := d) (v := v) (ks := ks) (ds := ds) r t => by
    have ih := RKs.repl hk ry t
    rw [List.map_cons]
    show RKs P F ρ _ ((match kq (.int i) x with
      | true => y | false => d) :: replD ks ds x y) _
    rw [kq_key (a := .int i) (k := .inl i) rfl hk]
    by_cases e : (Sum.inl i : Key) = k
    · rw [decide_eq_true e, if_pos e]; exact .int ry ih
    · rw [decide_eq_false e, if_neg e]; exact .int r ih
  | _, _, _, .str (s := s) (d := d) (v := v) (ks := ks) (ds := ds) r t => by
    have ih := RKs.repl hk ry t
    rw [List.map_cons]
    show RKs P F ρ _ ((match kq (.str s) x with
      | true => y | false => d) :: replD ks ds x y) _
    rw [kq_key (a := .str s) (k := .inr (toStr s)) rfl hk]
    by_cases e : (Sum.inr (toStr s) : Key) = k
    · rw [decide_eq_true e, if_pos e]; exact .str ry ih
    · rw [decide_eq_false e, if_neg e]; exact .str r ih
theorem RKs.snoc {F : Hp} {ρ : Nat → Option Addr} {x y : D} {k : Key} {v' : V} (hk : keyK x = some k) (ry : RV P F ρ y v') : ∀ {ks vs : List D} {kvs : List (Key × V)}, RKs P F ρ ks vs kvs → RKs P F ρ (ks ++ [x]) (vs ++ [y]) (kvs ++ [(k, v')])
  | _, _, _, .nil => by
    cases x <;> first | (simp [keyK] at hk; done) | skip
    · cases hk; exact .int ry .nil
    · cases hk; exact .str ry .nil
  | _, _, _, .int r t => .int r (RKs.snoc hk ry t)
  | _, _, _, .str r t => .str r (RKs.snoc hk ry t)
theorem RKs.length {F : Hp} {ρ : Nat → Option Addr} : ∀ {ks vs : List D} {kvs : List (Key × V)}, RKs P F ρ ks vs kvs → ks.length = kvs.length ∧ vs.length = kvs.length
  | _, _, _, .nil => ⟨rfl, rfl⟩
  | _, _, _, .int _ t => ⟨by rw [List.length_cons, List.length_cons, t.length.1], by rw [List.length_cons, List.length_cons, t.length.2]⟩
  | _, _, _, .str _ t => ⟨by rw [List.length_cons, List.length_cons, t.length.1], by rw [List.length_cons, List.length_cons, t.length.2]⟩
/-- d[x] = y on the data -/
def putD (ks vs : List D) (x y : D) : List D × List D := match lookD ks vs x with
  | some _ => (ks, replD ks vs x y) | none => (ks ++ [x], vs ++ [y])
theorem RKs.put {F : Hp} {ρ : Nat → Option Addr} {x y : D} {k : Key} {v' : V} (hk : keyK x = some k) (ry : RV P F ρ y v') {ks vs : List D} {kvs : List (Key × V)} (r : RKs P F ρ ks vs kvs) : RKs P F ρ (putD ks vs x y).1 (putD ks vs x y).2 (putK kvs k v') := by
  have l := RKs.look hk r
  unfold putD putK
  rw [valV_any]
  cases q : lookD ks vs x with
  | some d =>
    rw [q] at l
    obtain ⟨v, e, _⟩ := l
    rw [e, if_pos (show (some v).isSome = true from rfl)]
    exact r.repl hk ry
  | none =>
    rw [q] at l
    rw [l, if_neg (by decide)]
    exact r.snoc hk ry
/-! ### keys that are tuples -/
mutual
theorem nested_of {pins : List (Addr × Obj)} {σ : L2.St} {s : Shared} (I : Inv X pins σ H s) (fr : Ex g.F H) (hK : X.K = P.K) : ∀ (d : D) (v : V) (u : Value) (k : NestedKey), RV P g.F g.ρ d v → RelV v u → nk d = some k → NestedIs s.heap k u
  | .non, _, _, _, r, ru, e => by cases r; cases ru; cases e; exact .none
  | .bl b, _, _, _, r, ru, e => by cases r; cases ru; cases e; exact .bool rfl
  | .int i, _, _, _, r, ru, e => by cases r; obtain ⟨t, rfl⟩ := ru; cases e; exact .int i t
  | .str x, _, _, _, r, ru, e => by cases r; obtain ⟨t, rfl⟩ := ru; cases e; exact .text _ t
  | .tup xs, _, u, _, r, ru, e => by
    simp only [nk, Option.map_eq_some_iff] at e
    obtain ⟨ks, e, rfl⟩ := e
    cases r with
    | @tup a vs _ h1 rr =>
      obtain rfl : u = .ref a := ru
      obtain ⟨its, rv, ⟨o, ho, hc, n, hd⟩, _⟩ := I.tuple (show SqT X.K H a vs by rw [hK]; exact ex_t fr h1)
      exact .tup ho hc hd (nested_all I fr hK xs vs its ks rr rv e)
  | .lst _, _, _, _, _, _, e => by simp [nk] at e
  | .cst _, _, _, _, _, _, e => by simp [nk] at e
  | .dct _ _, _, _, _, _, _, e => by simp [nk] at e
  | .ref _, _, _, _, _, _, e => by simp [nk] at e
  | .glo _, _, _, _, _, _, e => by simp [nk] at e
theorem nested_all {pins : List (Addr × Obj)} {σ : L2.St} {s : Shared} (I : Inv X pins σ H s) (fr : Ex g.F H) (hK : X.K = P.K) : ∀ (ds : List D) (vs : List V) (us : List Value) (ks : List NestedKey), RVs P g.F g.ρ ds vs → Vals vs us → nk.nkAll ds = some ks → NestedAll s.heap ks us
  | [], _, _, _, r, ru, e => by cases r; cases ru; cases e; exact .nil
  | d :: ds, _, _, _, r, ru, e => by
    cases r with
    | cons r rr =>
      cases ru with
      | cons ru rru =>
        simp only [nk.nkAll, Option.bind_eq_some_iff, Option.map_eq_some_iff] at e
        obtain ⟨k, e1, kr, e2, rfl⟩ := e
        exact .cons (nested_of I fr hK d _ _ k r ru e1) (nested_all I fr hK ds _ _ kr rr rru e2)
end
/-- the pairs of such a dict, with their values -/
inductive RNV (P : Pm) (F : Hp) (ρ : Nat → Option Addr) : List D → List D → List (NestedKey × Addr × Value) → Prop
  | nil : RNV P F ρ [] [] []
  | cons {x : D} {k : NestedKey} {a : Addr} {d : D} {v : V} {u : Value} {ks ds : List D} {r : List (NestedKey × Addr × Value)} : kd x = 1 → nk x = some k → k.depth ≤ 8 → RV P F ρ x (.ref a) → RV P F ρ d v → RelV v u → RNV P F ρ ks ds r → RNV P F ρ (x :: ks) (d :: ds) ((k, a, u) :: r)
theorem RNV.of {F : Hp} {ρ : Nat → Option Addr} : ∀ {ks ds : List D} {kvs : List (NestedKey × Addr × V)} {xs : List (NestedKey × Addr × Value)}, RNs P F ρ ks ds kvs →
    Paired (fun (p : NestedKey × Addr × V) (q : NestedKey × Addr × Value) => p.1 = q.1 ∧ p.2.1 = q.2.1 ∧ RelV p.2.2 q.2.2) kvs xs → RNV P F ρ ks ds xs
  | _, _, _, _, .nil, .nil => .nil
  | _, _, _, (k2, a2, u2) :: _, .cons hk h8 ha hv t, .cons r tr => by
    obtain ⟨e1, e2, e3⟩ := r
    simp only at e1 e2 e3
    subst e1; subst e2
    exact .cons rfl hk h8 ha hv e3 (RNV.of t tr)
theorem RNV.to {F : Hp} {ρ : Nat → Option Addr} : ∀ {ks ds : List D} {xs : List (NestedKey × Addr × Value)}, RNV P F ρ ks ds xs → ∃ kvs : List (NestedKey × Addr × V), RNs P F ρ ks ds kvs ∧
    Paired (fun (p : NestedKey × Addr × V) (q : NestedKey × Addr × Value) => p.1 = q.1 ∧ p.2.1 = q.2.1 ∧ RelV p.2.2 q.2.2) kvs xs
  | _, _, _, .nil => ⟨[], .nil, .nil⟩
  | x :: _, _, _, .cons (k := k) (a := a) (v := v) hx hk h8 ha hv hu t => by
    obtain ⟨kvs, h1, h2⟩ := t.to
    cases x with
    | tup ys => exact ⟨(k, a, v) :: kvs, .cons hk h8 ha hv h1, .cons ⟨rfl, rfl, hu⟩ h2⟩
    | _ => simp [kd] at hx
theorem RNV.length {F : Hp} {ρ : Nat → Option Addr} : ∀ {ks ds : List D} {xs : List (NestedKey × Addr × Value)}, RNV P F ρ ks ds xs → ks.length = xs.length ∧ ds.length = xs.length
  | _, _, _, .nil => ⟨rfl, rfl⟩
  | _, _, _, .cons _ _ _ _ _ _ t => ⟨by rw [List.length_cons, List.length_cons, t.length.1], by rw [List.length_cons, List.length_cons, t.length.2]⟩
theorem RNV.mono {F F' : Hp} {ρ ρ' : Nat → Option Addr} (e : Ex F F') (r : ∀ i a, ρ i = some a → ρ' i = some a) : ∀ {ks ds : List D} {xs : List (NestedKey × Addr × Value)}, RNV P F ρ ks ds xs → RNV P F' ρ' ks ds xs
  | _, _, _, .nil => .nil
  | _, _, _, .cons a b c d f h t => .cons a b c (d.mono e r) (f.mono e r) h (t.mono e r)
theorem RNV.look {F : Hp} {ρ : Nat → Option Addr} {x : D} {k : NestedKey} (hk : nk x = some k) : ∀ {ks ds : List D} {xs : List (NestedKey × Addr × Value)}, RNV P F ρ ks ds xs → match lookD ks ds x with
    | some d => ∃ p v, atKey xs k = some p ∧ RV P F ρ d v ∧ RelV v p.2
    | none => atKey xs k = none
  | _, _, _, .nil => rfl
  | _, _, _, .cons (x := y) (k := l) (a := a) (d := d) (v := v) (u := u) (ks := ks) (ds := ds) (r := r) hx hl h8 ha hv hu t => by
    have ih := RNV.look hk t
    show match (match kq y x with
      | true => some d | false => lookD ks ds x) with
      | some d => _ | none => _
    rw [kq_dec hl hk]
    by_cases e : l = k
    · rw [decide_eq_true e]
      exact ⟨(a, u), v, by simp [atKey, e], hv, hu⟩
    · rw [decide_eq_false e]
      have q : atKey ((l, a, u) :: r) k = atKey r k := by simp [atKey, e]
      rw [q]
      exact ih
theorem RNV.repl {F : Hp} {ρ : Nat → Option Addr} {x y : D} {k : NestedKey} {v' : V} {u' : Value} (hk : nk x = some k) (ry : RV P F ρ y v') (ru : RelV v' u') : ∀ {ks ds : List D} {xs : List (NestedKey × Addr × Value)}, RNV P F ρ ks ds xs → RNV P F ρ ks (replD ks ds x y) (xs.map (putAt k u'))
  | _, _, _, .nil => .nil
  | _, _, _, .cons (x := z) (k := l) (a := a) (d := d) (v := v) (u := u) (ks := ks) (ds := ds) (r := r) hx hl h8 ha hv hu t => by
    have ih := RNV.repl hk ry ru t
    rw [List.map_cons]
    show RNV P F ρ _ ((match kq z x with
      | true => y | false => d) :: replD ks ds x y) _
    rw [kq_dec hl hk]
    by_cases e : l = k
    · have q : putAt k u' (l, a, u) = (l, a, u') := by simp [putAt, e]
      rw [decide_eq_true e, q]
      exact .cons hx hl h8 ha ry ru ih
    · have q : putAt k u' (l, a, u) = (l, a, u) := by simp [putAt, e]
      rw [decide_eq_false e, q]
      exact .cons hx hl h8 ha hv hu ih
theorem RNV.snoc {F : Hp} {ρ : Nat → Option Addr} {x y : D} {k : NestedKey} {b : Addr} {v' : V} {u' : Value} (hx : kd x = 1) (hk : nk x = some k) (h8 : k.depth ≤ 8) (ha : RV P F ρ x (.ref b)) (ry : RV P F ρ y v') (ru : RelV v' u') : ∀ {ks ds : List D} {xs : List (NestedKey × Addr × Value)}, RNV P F ρ ks ds xs → RNV P F ρ (ks ++ [x]) (ds ++ [y]) (xs ++ [(k, b, u')])
  | _, _, _, .nil => .cons hx hk h8 ha ry ru .nil
  | _, _, _, .cons a1 b1 c1 d1 e1 f1 t => .cons a1 b1 c1 d1 e1 f1 (RNV.snoc hx hk h8 ha ry ru t)
theorem RNV.put {F : Hp} {ρ : Nat → Option Addr} {x y : D} {k : NestedKey} {b : Addr} {v' : V} {u' : Value} (hx : kd x = 1) (hk : nk x = some k) (h8 : k.depth ≤ 8) (ha : RV P F ρ x (.ref b)) (ry : RV P F ρ y v') (ru : RelV v' u') {ks ds : List D} {xs : List (NestedKey × Addr × Value)} (r : RNV P F ρ ks ds xs) :
    RNV P F ρ (putD ks ds x y).1 (putD ks ds x y).2 (storedH xs k b u') := by
  have l := RNV.look hk r
  unfold putD
  cases q : lookD ks ds x with
  | some d =>
    rw [q] at l
    obtain ⟨p, v, e, _, _⟩ := l
    rw [storedH_old e]
    exact r.repl hk ry ru
  | none =>
    rw [q] at l
    rw [storedH_new l]
    exact r.snoc hx hk h8 ha ry ru
/-! ### how a dict lies -/
inductive DL (P : Pm) (g : G) (H : Hp) (a : Addr) (ks vs : List D) : Prop
  | k {kvs : List (Key × V)} : Rd H a (.dK kvs) → RKs P g.F g.ρ ks vs kvs → DL P g H a ks vs
  | n {kvs : List (NestedKey × Addr × V)} {o : Obj} : H a = some (dN P a kvs o) → kvs ≠ [] → RNs P g.F g.ρ ks vs kvs → DL P g H a ks vs
def dctOf (h : Hc) : D → Option (List D × List D)
  | .dct ks vs => some (ks, vs)
  | .ref i => match h.get i with
    | some (.dct ks vs) => some (ks, vs) | _ => none
  | _ => none
theorem HS.dct {i : Nat} {ks vs : List D} (s : HS P g h H) (e : h.get i = some (.dct ks vs)) : ∃ a, g.ρ i = some a ∧ g.F a = none ∧ ((∃ kvs, H a = some (.dK kvs) ∧ RKs P g.F g.ρ ks vs kvs) ∨ ∃ kvs o, H a = some (dN P a kvs o) ∧ kvs ≠ [] ∧ RNs P g.F g.ρ ks vs kvs) := by
  obtain ⟨a, o, h1, h2, h3, h4⟩ := s.cell i _ e
  cases h4 with
  | dct r => exact ⟨a, h1, h2, .inl ⟨_, h3, r⟩⟩
  | dctN ne r => exact ⟨a, h1, h2, .inr ⟨_, _, h3, ne, r⟩⟩
theorem dctOf_ok {d : D} {x : V} {ks vs : List D} (s : HS P g h H) (r : RV P g.F g.ρ d x) (e : dctOf h d = some (ks, vs)) : ∃ a, x = .ref a ∧ DL P g H a ks vs := by
  cases r with
  | dct hf rr => cases e; exact ⟨_, rfl, .k (.inr ⟨_, s.fr _ _ hf⟩) rr⟩
  | dctN hf ne rr => cases e; exact ⟨_, rfl, .n (s.fr _ _ hf) ne rr⟩
  | @ref i a hr =>
    have e' : (match h.get i with
      | some (.dct ks vs) => some (ks, vs) | _ => none) = some (ks, vs) := e
    cases q : h.get i with
    | none => rw [q] at e'; cases e'
    | some c =>
      cases c with
      | dct ks' vs' =>
        rw [q] at e'; cases e'
        obtain ⟨b, h1, _, h3⟩ := s.dct q
        rw [hr] at h1; cases h1
        rcases h3 with ⟨kvs, h3, r⟩ | ⟨kvs, o, h3, ne, r⟩
        · exact ⟨a, rfl, .k (.inl h3) r⟩
        · exact ⟨a, rfl, .n h3 ne r⟩
      | _ => rw [q] at e'; cases e'
  | _ => cases e
section
variable {pins : List (Addr × Obj)} {σ : L2.St} {s : Shared} {a : Addr} {ks vs : List D}
theorem dN_at (I : Inv X pins σ H s) {kvs : List (NestedKey × Addr × V)} {o : Obj} (e : H a = some (dN P a kvs o)) : (a == sysModules) = false ∧ s.heap.get? a = some o ∧ DNf P kvs o := by
  have z : ObjOk X.prog X.w H s.heap a (dN P a kvs o) := I.hok a _ e
  exact z.1
/-- its one object -/
theorem DL.obj (I : Inv X pins σ H s) (d : DL P g H a ks vs) : (a == sysModules) = false ∧ ∃ o es ep, s.heap.get? a = some o ∧ o.ExactDict ∧ o.data = .dict es ep := by
  cases d with
  | k e r =>
    obtain ⟨_, hd, vs, _, o, es, ep, h1, h2, h3, _⟩ := dk_rd I.hok e
    exact ⟨hd, o, es, ep, h1, h2, h3⟩
  | n e ne r =>
    obtain ⟨hd, h1, _, xs, _, es, ep, h2, h3, _⟩ := dN_at I e
    exact ⟨hd, _, es, ep, h1, h2, h3⟩
theorem DL.typeIs (I : Inv X pins σ H s) (d : DL P g H a ks vs) : s.TypeIs (.ref a) "dict" := by
  obtain ⟨_, o, _, _, h1, h2, _⟩ := d.obj I
  exact ⟨o, h1, h2.1⟩
theorem DL.noDict (I : Inv X pins σ H s) (d : DL P g H a ks vs) : ∀ b, Value.ref a = .ref b → ∃ ob, s.heap.get? b = some ob ∧ ob.dict = none := fun b q => by
  cases q
  obtain ⟨_, o, _, _, h1, h2, _⟩ := d.obj I
  exact ⟨o, h1, h2.2.1⟩
/-- with keys that are ints and texts -/
theorem DL.scal {x : D} (d : DL P g H a ks vs) (f : fits ks x = some false) : (∃ kvs, Rd H a (.dK kvs) ∧ RKs P g.F g.ρ ks vs kvs) ∧ ∃ k, keyK x = some k := by
  have hx : kd x = 0 := by
    unfold fits at f
    cases q : kd x with
    | zero => rfl
    | succ n =>
      cases n with
      | zero => rw [q] at f; simp only at f; split at f <;> first | (split at f <;> first | (split at f <;> cases f) | cases f) | cases f
      | succ n => rw [q] at f; cases f
  refine ⟨?_, keyK_of hx⟩
  cases d with
  | k e r => exact ⟨_, e, r⟩
  | n e ne r =>
    cases r with
    | nil => exact absurd rfl ne
    | cons _ _ _ _ _ => unfold fits at f; rw [hx] at f; cases f
theorem RNV.is (I : Inv X pins σ H s) (fr : Ex g.F H) (hK : X.K = P.K) {ks ds : List D} {xs : List (NestedKey × Addr × Value)} (r : RNV P g.F g.ρ ks ds xs) : ∀ z ∈ xs, (nestedKind X.prog X.w).is s.heap z.1 z.2.1 := by
  induction r with
  | nil => exact fun _ z => nomatch z
  | cons b1 b2 b3 b4 b5 b6 b7 ih =>
    intro z hz
    rcases List.mem_cons.mp hz with hz | hz
    · subst hz; exact ⟨nested_of I fr hK _ _ _ _ b4 rfl b2, b3⟩
    · exact ih z hz
/-- with keys that are tuples -/
theorem DL.nest {x : D} (I : Inv X pins σ H s) (fr : Ex g.F H) (hK : X.K = P.K) (hP : X.prog = P.prog) (hw : X.w = P.w) (d : DL P g H a ks vs) (f : fits ks x = some true) : ∃ xs, s.heap.DictOfH (nestedKind X.prog X.w) a xs ∧ RNV P g.F g.ρ ks vs xs ∧ xs.length ≤ sizeLine ∧ kd x = 1 ∧ ∃ k, nk x = some k ∧ k.depth ≤ 8 := by
  have hx : kd x = 1 ∧ okN 8 x = true ∧ (ks = [] ∨ ∃ k r, ks = k :: r ∧ kd k = 1) := by
    unfold fits at f
    cases q : kd x with
    | zero => rw [q] at f; simp only at f; split at f <;> first | (split at f <;> cases f) | cases f
    | succ n =>
      cases n with
      | zero =>
        rw [q] at f
        simp only at f
        cases q2 : okN 8 x with
        | false => rw [q2] at f; cases f
        | true =>
          rw [q2] at f
          refine ⟨rfl, rfl, ?_⟩
          cases ks with
          | nil => exact .inl rfl
          | cons k r =>
            refine .inr ⟨k, r, rfl, ?_⟩
            simp only at f
            split at f
            · assumption
            · cases f
      | succ n => rw [q] at f; cases f
  obtain ⟨h1, h2, h3⟩ := hx
  obtain ⟨k, e1, e2⟩ := okN_ok 8 x h2
  cases d with
  | k e r =>
    obtain ⟨_, hd, vv, rel, o, es, ep, q1, q2, q3, q4, q5, q6⟩ := dk_rd I.hok e
    have hn : ks = [] := by
      rcases h3 with h3 | ⟨k, r', h3, h4⟩
      · exact h3
      · subst h3
        cases r <;> simp [kd] at h4
    subst hn
    cases r
    cases rel
    have he : es = #[] := by
      have := q5.length
      exact Array.eq_empty_of_size_eq_zero (by simpa using this)
    subst he
    exact ⟨[], ⟨o, #[], ep, q1, q2, q3, rfl, (fun _ z => nomatch z), List.nodup_nil⟩, .nil, Nat.zero_le _, h1, k, e1, e2⟩
  | n e ne r =>
    obtain ⟨hd, q1, hl, xs, pr, es, ep, q2, q3, q4, q5⟩ := dN_at I e
    have rn := RNV.of r pr
    refine ⟨xs, ⟨_, es, ep, q1, q2, q3, by rw [hP, hw]; exact q4, fun z hz => ?_, q5⟩, rn, by rw [← pr.length]; exact hl, h1, k, e1, e2⟩
    exact RNV.is I fr hK rn z hz
end
end
end EV
end S_EvF
section S_EvG
/-! EvG: operations on dicts; methods of dicts and lists; len. -/
namespace EV
open PySem PySem.Spec PyProof.Rows L2 Evl
/-- what a context must have for dicts -/
structure Rm (P : Pm) (X : Cx) : Prop where
  K : X.K = P.K
  p : X.prog = P.prog
  w : X.w = P.w
  u : X.A.units + 100 < cLine
section
variable {P : Pm} {E : XK} {X : Cx} {g : G} {h : Hc} {H : Hp} {pins : List (Addr × Obj)} {σ : L2.St} {s : Shared} {a : Addr} {ks vs : List D} {A : Around} {EE : Value → Shared → Prop}
theorem Rm.in1 (rm : Rm P X) : (nestedKind X.prog X.w).room X.A.in1 := by
  have := rm.u
  show X.A.units + 1 + 8 < cLine
  omega
theorem Rm.at0 (rm : Rm P X) : (nestedKind X.prog X.w).room X.A := by
  have := rm.u
  show X.A.units + 8 < cLine
  omega
theorem key_v {x : D} {y : V} {k : Key} (r : RV P g.F g.ρ x y) (e : keyK x = some k) : y = kV k := by
  cases r <;> first | (cases e; rfl) | (simp [keyK] at e; done)
theorem key_ref {x : D} {y : V} (r : RV P g.F g.ρ x y) (e : kd x = 1) : ∃ b, y = .ref b := by
  cases r <;> first | exact ⟨_, rfl⟩ | (simp [kd] at e; done)
/-- d[x] -/
theorem DL.getItem {x y : D} {xv : V} {u : Value} {b : Bool} {Q : Value → Shared → Prop} (rm : Rm P X) (I : Inv X pins σ H s) (hs : HS P g h H) (d : DL P g H a ks vs) (rx : RV P g.F g.ρ x xv) (ru : RelV xv u) (f : fits ks x = some b) (e : lookD ks vs x = some y)
    (q : ∀ v w' s', Inv X pins σ H s' → RV P g.F g.ρ y v → RelV v w' → Q w' s') : wpAny (model X.prog X.w) X.A (getItem (.ref a) u) Q EE s := by
  cases b with
  | false =>
    obtain ⟨⟨kvs, hr, rk⟩, k, ek⟩ := d.scal f
    have l := rk.look ek
    rw [e] at l
    obtain ⟨v, l1, l2⟩ := l
    have hu := rm.u
    refine d_getItem (by omega) I (v := v) (y := xv) (.inl ⟨kvs, k, hr, key_v rx ek, l1.symm⟩) ru fun w' s' I' r' => q v w' s' I' l2 r'
  | true =>
    obtain ⟨xs, dd, rn, hz, hx, k, ek, e8⟩ := d.nest I hs.fr rm.K rm.p rm.w f
    have l := rn.look ek
    rw [e] at l
    obtain ⟨p, v, l1, l2, l3⟩ := l
    obtain ⟨b, rfl⟩ := key_ref rx hx
    obtain rfl : u = Value.ref b := ru
    exact wpAny_getItem_heap rm.in1 ⟨nested_of I hs.fr rm.K x _ _ k rx rfl ek, e8⟩ dd l1 (q v p.2 _ (I.tok _) l2 l3)
/-- x in d -/
theorem DL.isIn {x : D} {xv : V} {u : Value} {b : Bool} {Q : Value → Shared → Prop} (rm : Rm P X) (I : Inv X pins σ H s) (hs : HS P g h H) (d : DL P g H a ks vs) (rx : RV P g.F g.ρ x xv) (ru : RelV xv u) (f : fits ks x = some b)
    (q : ∀ s', Inv X pins σ H s' → Q (.bool (lookD ks vs x).isSome) s') : wpAny (model X.prog X.w) X.A (compareOp .In u (.ref a)) Q EE s := by
  cases b with
  | false =>
    obtain ⟨⟨kvs, hr, rk⟩, k, ek⟩ := d.scal f
    have l := rk.look ek
    have e : (lookD ks vs x).isSome = (valV kvs k).isSome := by
      cases q2 : lookD ks vs x with
      | none => rw [q2] at l; rw [l]; rfl
      | some y => rw [q2] at l; obtain ⟨v, l1, _⟩ := l; rw [l1] <;> rfl
    rw [e] at q
    have hu := rm.u
    exact d_in (by omega) I (y := xv) (.inl ⟨kvs, k, hr, key_v rx ek, rfl⟩) ru q
  | true =>
    obtain ⟨xs, dd, rn, hz, hx, k, ek, e8⟩ := d.nest I hs.fr rm.K rm.p rm.w f
    have l := rn.look ek
    have e : (lookD ks vs x).isSome = (atKey xs k).isSome := by
      cases q2 : lookD ks vs x with
      | none => rw [q2] at l; rw [l]; rfl
      | some y => rw [q2] at l; obtain ⟨p, v, l1, _⟩ := l; rw [l1] <;> rfl
    rw [e] at q
    obtain ⟨b, rfl⟩ := key_ref rx hx
    obtain rfl : u = Value.ref b := ru
    exact wpAny_in_heap rm.in1 ⟨nested_of I hs.fr rm.K x _ _ k rx rfl ek, e8⟩ (d.obj I).1 dd (q _ (I.tok _))
theorem DL.notIn {x : D} {xv : V} {u : Value} {b : Bool} {Q : Value → Shared → Prop} (rm : Rm P X) (I : Inv X pins σ H s) (hs : HS P g h H) (d : DL P g H a ks vs) (rx : RV P g.F g.ρ x xv) (ru : RelV xv u) (f : fits ks x = some b)
    (q : ∀ s', Inv X pins σ H s' → Q (.bool (!(lookD ks vs x).isSome)) s') : wpAny (model X.prog X.w) X.A (compareOp .NotIn u (.ref a)) Q EE s := by
  cases b with
  | false =>
    obtain ⟨⟨kvs, hr, rk⟩, k, ek⟩ := d.scal f
    have l := rk.look ek
    have e : (lookD ks vs x).isSome = (valV kvs k).isSome := by
      cases q2 : lookD ks vs x with
      | none => rw [q2] at l; rw [l]; rfl
      | some y => rw [q2] at l; obtain ⟨v, l1, _⟩ := l; rw [l1] <;> rfl
    rw [e] at q
    have hu := rm.u
    exact d_notIn (by omega) I (y := xv) (.inl ⟨kvs, k, hr, key_v rx ek, rfl⟩) ru q
  | true =>
    obtain ⟨xs, dd, rn, hz, hx, k, ek, e8⟩ := d.nest I hs.fr rm.K rm.p rm.w f
    have l := rn.look ek
    have e : (lookD ks vs x).isSome = (atKey xs k).isSome := by
      cases q2 : lookD ks vs x with
      | none => rw [q2] at l; rw [l]; rfl
      | some y => rw [q2] at l; obtain ⟨p, v, l1, _⟩ := l; rw [l1] <;> rfl
    rw [e] at q
    obtain ⟨b, rfl⟩ := key_ref rx hx
    obtain rfl : u = Value.ref b := ru
    exact wpAny_notIn_heap rm.in1 ⟨nested_of I hs.fr rm.K x _ _ k rx rfl ek, e8⟩ (d.obj I).1 dd (q _ (I.tok _))
/-- the object of a cell that is a dict may be written -/
theorem HS.dctMut {i : Nat} {ks vs : List D} (hs : HS P g h H) (e : h.get i = some (.dct ks vs)) (ha : g.ρ i = some a) : Mut (H a) ∧ DL P g H a ks vs ∧ ∀ kvs, Rd H a (.dK kvs) → H a = some (.dK kvs) := by
  obtain ⟨b, h1, _, h3⟩ := hs.dct e
  rw [ha] at h1; cases h1
  rcases h3 with ⟨kvs, h3, r⟩ | ⟨kvs, o, h3, ne, r⟩
  · refine ⟨by rw [h3]; exact True.intro, .k (.inl h3) r, fun kvs' h' => ?_⟩
    rcases h' with h' | ⟨o, h'⟩
    · exact h'
    · rw [h3] at h'; cases h'
  · refine ⟨by rw [h3]; exact True.intro, .n h3 ne r, fun kvs' h' => ?_⟩
    rcases h' with h' | ⟨o, h'⟩
    · rw [h3] at h'; unfold dN at h'; cases h'
    · rw [h3] at h'; unfold dN at h'; cases h'
/-- a written dict whose keys are tuples -/
theorem nest_write {i : Nat} {ks vs ks' vs' : List D} {xs : List (NestedKey × Addr × Value)} {h' : Heap} {tk : Nat} (rm : Rm P X) (I : Inv X pins σ H s) (hs : HS P g h H) (e : h.get i = some (.dct ks vs)) (ha : g.ρ i = some a) (hd : (a == sysModules) = false)
    (dd : h'.DictOfH (nestedKind X.prog X.w) a xs) (sb : Heap.SameBut a s.heap h') (rn : RNV P g.F g.ρ ks' vs' xs) (hz : xs.length ≤ sizeLine) (hne : xs ≠ []) : ∃ ob, Inv X pins σ (upd H a ob) { s with heap := h', toks := tk } ∧ HS P g (h.set i (.dct ks' vs')) (upd H a ob) := by
  obtain ⟨mu, _, _⟩ := hs.dctMut e ha
  obtain ⟨o, es, ep, q1, q2, q3, q4, q5, q6⟩ := dd
  obtain ⟨kvs, r1, r2⟩ := rn.to
  have hl := r2.length
  refine ⟨dN P a kvs o, d_write I mu sb ⟨o, q1⟩ ⟨⟨hd, q1, by rw [hl]; exact hz, xs, r2, es, ep, q2, q3, by rw [← rm.p, ← rm.w]; exact q4, q6⟩, ⟨o, q1⟩, fun h1 h2 ⟨z1, z2, z3⟩ k => ⟨z1, k _ z2, z3⟩⟩, hs.wr e ha (.dctN (fun z => ?_) r1)⟩
  subst z
  cases r2
  exact hne rfl
theorem storedH_ne {xs : List (NestedKey × Addr × Value)} {k : NestedKey} {b : Addr} {v : Value} : storedH xs k b v ≠ [] := by
  unfold storedH
  split
  · rename_i h1
    cases xs with
    | nil => simp [atKey] at h1
    | cons p r => simp
  · simp
/-! ### the operations -/
def dGet : D2 := fun d x h => R.opt (dctOf h d) fun kv => R.opt (fits kv.1 x) fun _ => R.opt (lookD kv.1 kv.2 x) fun y => .ok y h
variable {e o i : Expr} {fo fi fv : FE} {pos p p' apos cpos : Pos} {es : List Expr} {fs : FA}
theorem sE_dget (rm : Rm P X) (ho : PE X o (rdE P E fo)) (hi : PE X i (rdE P E fi)) (hn : NoSl i := by intro _ _; rfl) : PE X (.Subscript o i pos) (rdE P E (f2 dGet fo fi)) := by
  refine (⟨fun pins s σ H Q I q => ?_⟩)
  refine subD_of PySem.F.slot_dict_getitem.lookup hn (thn (ho.run pins s σ H _ I (f2_rd σ H Q q)) fun u s1 ⟨x, H1, I1, rx, q1⟩ => thn (hi.run pins s1 σ H1 _ I1 q1) fun iv s2 ⟨y, H2, I2, ry, g, h, d, e, hs, rd, re, o⟩ => ?_)
  obtain ⟨⟨ks, vs⟩, e1, o⟩ := Out.opt o
  obtain ⟨b, e2, o⟩ := Out.opt o
  obtain ⟨z, e3, o⟩ := Out.opt o
  obtain ⟨a, rfl, dl⟩ := dctOf_ok hs rd e1
  obtain rfl : u = .ref a := rx
  exact ⟨dl.typeIs I2, dl.getItem rm I2 hs re ry e2 e3 fun v w' s' I' r1 r2 => ⟨v, H2, I', r2, o.now hs r1⟩⟩
/-- in, not in: of dicts, lists, tuples, texts -/
def dIn (n : Bool) : D2 := fun x d h => match dctOf h d with
  | some kv => R.opt (fits kv.1 x) fun _ => .ok (.bl (ng n (lookD kv.1 kv.2 x).isSome)) h
  | none => dInS n x d h
theorem oInA (rm : Rm P X) : OpS P E X (compareOp .In) (dIn false) := by
  intro pins s σ H x y v u Q I rx ry ⟨g, h, d, e, hs, rd, re, o⟩
  unfold dIn at o
  cases q : dctOf h e with
  | none => rw [q] at o; exact oIn rm.K pins s σ H x y v u Q I rx ry ⟨g, h, d, e, hs, rd, re, o⟩
  | some kv =>
    rw [q] at o
    obtain ⟨b, e2, o⟩ := Out.opt o
    obtain ⟨a, rfl, dl⟩ := dctOf_ok hs re q
    obtain rfl : u = .ref a := ry
    exact dl.isIn rm I hs rd rx e2 fun s' I' => ⟨.bl _, H, I', rfl, by
      have z := o.now hs (.bl _)
      exact z⟩
theorem oNotInA (rm : Rm P X) : OpS P E X (compareOp .NotIn) (dIn true) := by
  intro pins s σ H x y v u Q I rx ry ⟨g, h, d, e, hs, rd, re, o⟩
  unfold dIn at o
  cases q : dctOf h e with
  | none => rw [q] at o; exact oNotIn rm.K pins s σ H x y v u Q I rx ry ⟨g, h, d, e, hs, rd, re, o⟩
  | some kv =>
    rw [q] at o
    obtain ⟨b, e2, o⟩ := Out.opt o
    obtain ⟨a, rfl, dl⟩ := dctOf_ok hs re q
    obtain rfl : u = .ref a := ry
    exact dl.notIn rm I hs rd rx e2 fun s' I' => ⟨.bl _, H, I', rfl, by
      have z := o.now hs (.bl _)
      exact z⟩
/-! d[x] = y, l[i] = y -/
def setC (i : Nat) (x y : D) (h : Hc) : Option Hc := match h.get i with
  | some (.dct ks vs) => (fits ks x).bind fun _ => (match Nat.ble ks.length 100000 with
    | true => (match putD ks vs x y with
      | (ks', vs') => some (h.set i (.dct ks' vs')))
    | false => none)
  | some (.lst xs) => (match x with
    | .int k => (ixN xs.length k).bind fun j => some (h.set i (.lst (xs.set j y)))
    | _ => none)
  | _ => none
def setD (o x y : D) (h : Hc) : Option Hc := match o with
  | .ref i => setC i x y h | _ => none
def rdP (P : Pm) : TSet := fun o i v H Q => ∃ g h d x y h', HS P g h H ∧ RV P g.F g.ρ d o ∧ RV P g.F g.ρ x i ∧ RV P g.F g.ρ y v ∧ setD d x y h = some h' ∧ ∀ H', HS P g h' H' → Q H'
theorem RVs.set {F : Hp} {ρ : Nat → Option Addr} {y : D} {v : V} (r : RV P F ρ y v) : ∀ {ds : List D} {vs : List V} (j : Nat), RVs P F ρ ds vs → RVs P F ρ (ds.set j y) (vs.set j v)
  | _, _, _, .nil => .nil
  | _, _, 0, .cons _ t => (.cons r t)
  | _, _, j + 1, .cons q t => .cons q (RVs.set r j t)
theorem putD_eq {ks vs : List D} {x y : D} : putD ks vs x y = ((putD ks vs x y).1, (putD ks vs x y).2) := rfl
theorem pset (rm : Rm P X) : PSet X (rdP P) := by
  intro pins s σ H o i v ov iv u Q I ro ri rv ⟨g, h, d, x, y, h', hs, rd, rx, ry, e, q⟩
  cases rd with
  | @ref n a hr =>
    obtain rfl : ov = Value.ref a := ro
    have e' : setC n x y h = some h' := e
    unfold setC at e'
    cases q1 : h.get n with
    | none => rw [q1] at e'; cases e'
    | some c =>
      cases c with
      | lst xs =>
        simp only [q1] at e'
        cases x with
        | int k =>
          obtain ⟨j, e1, e2⟩ := Option.bind_eq_some_iff.mp e'
          cases e2
          cases rx
          obtain ⟨b, ws, h1, h2, h3, h4⟩ := hs.lst q1
          rw [hr] at h1; cases h1
          exact set_list pins s σ H (.ref a) (.int k) v _ iv u Q I rfl ri rv ⟨a, ws, k, j, rfl, rfl, h3, by rw [← h4.length]; exact e1, q _ (hs.wr q1 hr (.lst (h4.set ry j)))⟩
        | _ => cases e'
      | dct ks vs =>
        simp only [q1] at e'
        obtain ⟨b, e1, e2⟩ := Option.bind_eq_some_iff.mp e'
        cases q2 : Nat.ble ks.length 100000 with
        | false => rw [q2] at e2; cases e2
        | true =>
          rw [q2] at e2
          have hl := Nat.le_of_ble_eq_true q2
          have e3 : h' = h.set n (.dct (putD ks vs x y).1 (putD ks vs x y).2) := (Option.some.inj e2).symm
          subst e3
          obtain ⟨mu, dl, hex⟩ := hs.dctMut q1 hr
          have hu := rm.u
          cases b with
          | false =>
            obtain ⟨⟨kvs, hrd, rk⟩, k, ek⟩ := dl.scal e1
            have hH := hex kvs hrd
            refine d_setItem (by omega) I (.inl ⟨kvs, k, hH, key_v rx ek, by rw [← rk.length.1, sizeLine_eq]; omega, rfl⟩) ri rv fun s' I' => ⟨_, I', q _ (hs.wr q1 hr (.dct (rk.put ek ry)))⟩
          | true =>
            obtain ⟨xs, dd, rn, hz, hx, k, ek, e8⟩ := dl.nest I hs.fr rm.K rm.p rm.w e1
            obtain ⟨b, rfl⟩ := key_ref rx hx
            obtain rfl : iv = Value.ref b := ri
            refine wpAny_setItem_heap (hsz := hz) rm.in1 ⟨nested_of I hs.fr rm.K x _ _ k rx rfl ek, e8⟩ dd fun hh dd' sb => ?_
            have hl2 := rn.length.1
            have hl3 := storedH_length xs k b u
            obtain ⟨ob, I', s'⟩ := nest_write (tk := s.toks + (nestedKind X.prog X.w).draws k) rm I hs q1 hr (dl.obj I).1 dd' sb (rn.put hx ek e8 rx ry rv) (by rw [sizeLine_eq]; omega) storedH_ne
            exact ⟨_, I', q _ s'⟩
      | ins _ _ _ => simp only [q1] at e'; cases e'
      | tbl _ => simp only [q1] at e'; cases e'
  | _ => cases e
def sPut (fo fi fv : FE) : FS := fun sl h => (fv sl h).st fun v h => (fo sl h).st fun o h => (fi sl h).st fun i h => match setD o i v h with
  | some h' => .nx sl h' | none => .no
theorem s_put {value : Expr} (rm : Rm P X) (ho : PE X o (rdE P E fo)) (hi : PE X i (rdE P E fi)) (hv : PE X value (rdE P E fv))
    (ha : ∀ v, assign (.Subscript o i p) X.env v = (do
      let ov ← holding [v]
          (eval o X.env)
      let iv ← holding [v, ov]
          (eval i X.env)
      standAt p
      holding [v, ov, iv]
          (setItem ov iv v)
      release [v, ov, iv] []) := by intro _; rfl)
    (hs : swapsWithSole [.Subscript o i p] value pos.line X.env = pure false := by rfl) (hw : swappedStores [.Subscript o i p] value X.env = pure none := by rfl) (h1 : (assignEach [.Subscript o i p] X.env).map (·.2) = [assign (.Subscript o i p) X.env] := by rfl) :
    PS X (.Assign [.Subscript o i p] value pos) (rdS P E (sPut fo fi fv)) :=
  PS.weak (ps_asg hv (pg_sub ho hi (pset rm) ha) hs hw h1) fun D σ H ⟨g, sl, h, x, o⟩ => ⟨g, sl, h, x, OutS.st o fun d h1 g1 H1 v l1 s1 r1 o1 => ⟨g1, sl, h1, x.le l1 s1, OutS.st o1 fun d2 h2 g2 H2 v2 l2 s2 r2 o2 => ⟨g2, sl, h2, x.le (l1.trans l2) s2, OutS.st o2 fun d3 h3 g3 H3 v3 l3 s3 r3 o3 => by
    cases q : setD d2 d3 d h3 with
    | none => rw [q] at o3; exact o3.elim
    | some h4 =>
      rw [q] at o3
      exact ⟨g3, h3, d2, d3, d, h4, s3, rv_le l3 r2, r3, rv_le (l2.trans l3) r1, q, fun H4 s4 => o3 g3 σ H4 (.refl _) (x.le ((l1.trans l2).trans l3) s4)⟩⟩⟩⟩
/-! ### methods -/
/-- a method of a value: the receiver, the arguments -/
abbrev FM := D → List D → Hc → R D
def rdM (P : Pm) (E : XK) (op : FM) : V → List V → Hp → VK → Prop := fun x xs H Q => ∃ g h d ds, HS P g h H ∧ RV P g.F g.ρ d x ∧ RVs P g.F g.ρ ds xs ∧ Out P g (rv P) Q E (op d ds h)
def fMd (op : FM) (fo : FE) (fs : FA) : FE := fun sl h => (fo sl h).bind fun d h => R.opt (dctOf h d) fun _ => (fs sl h).bind fun ds h => op d ds h
theorem sE_dm {name : Str} {id : String} {op : FM} (slot : Slot "dict" name id) (hty : typeOf (.builtin id) = pure (.type "method_descriptor")) (hm : MtR X id (rdM P E op)) (ho : PE X o (rdE P E fo)) (ha : PA X (e :: es) (rdA P E fs))
    (hbase : attributeBase o name X.env (eval o X.env) = eval o X.env :=
        by rfl)
    (hfew : ((backTo cpos (starEach (e :: es) X.env)).all (fun x => !x.1) && (backToKw cpos (keywordEach [] X.env)).all (fun x => x.1.isSome) && decide ((e :: es).length + ([] : List Keyword).length + (if ([] : List Keyword).isEmpty then 0 else 1) < 30)) = true := by rfl)
    (hline : (apos.endLine == cpos.line) = true := by rfl) (hs : starEach (e :: es) X.env = (false, eval e X.env) :: starEach es X.env :=
        by rfl) (hplain : (backTo cpos (starEach es X.env)).any (·.1) = false := by rfl) :
    PE X (.Call (.Attribute o name apos) (e :: es) [] cpos) (rdE P E (fMd op fo fs)) := by
  refine ⟨fun pins s σ H Q I ⟨g, sl, h, x, o⟩ => ?_⟩
  refine wpAny_Call_method_late hbase hfew hline rfl (thn (ho.run pins s σ H _ I ⟨g, sl, h, x, Out.bind o fun d h1 g1 H1 v l1 s1 r1 o1 => (⟨g1, h1, d, s1, l1, r1, o1⟩ : ∃ g1 h1 d, HS P g1 h1 H1 ∧ G.le g g1 ∧ RV P g1.F g1.ρ d v ∧ Out P g1 (rv P) Q E (R.opt (dctOf h1 d) fun _ => (fs sl h1).bind fun ds h => op d ds h))⟩) fun v s1 ⟨x1, H1, I1, r1, g1, h1, d, hs1, l1, rd, o1⟩ => ?_)
  obtain ⟨⟨ks, vs⟩, e1, o1⟩ := Out.opt o1
  obtain ⟨a, rfl, dl⟩ := dctOf_ok hs1 rd e1
  obtain rfl : v = .ref a := r1
  refine ⟨"dict", id, PySem.F.plainAttrs_dict, slot, hty, dl.typeIs I1, dl.noDict I1, ?_⟩
  have hA := ha.run cpos pins s1 σ H1 (fun xs H2 => rdM P E op (.ref a) xs H2 Q) I1 ⟨g1, sl, h1, x.le l1 hs1, Out.bind o1 fun ds h2 g2 H2 ws l2 s2 r2 o2 => ⟨g2, h2, d, ds, s2, rv_le l2 rd, r2, o2⟩⟩
  rw [hs] at hA ⊢
  refine (Calls.callWith_builtin (by show (false || (backTo cpos (starEach es X.env)).any (·.1)) = false; rw [hplain] <;> rfl) (Calls.evalArgs_plain ?_))
  exact thn hA fun us s2 ⟨vs, H2, I2, r2, q2⟩ => hm pins s2 σ H2 (.ref a) vs _ us Q I2 rfl r2 q2
/-- d.get(k, x) -/
def mGet : FM := fun d ds h => match ds with
  | [k, x] => R.opt (dctOf h d) fun kv => R.opt (fits kv.1 k) fun _ => .ok (match lookD kv.1 kv.2 k with
    | some y => y | none => x) h
  | [k] => R.opt (dctOf h d) fun kv => R.opt (fits kv.1 k) fun _ => .ok (match lookD kv.1 kv.2 k with
    | some y => y | none => .non) h
  | _ => .no
theorem meGet (rm : Rm P X) : MtR X "dict.get" (rdM P E mGet) := by
  intro pins s σ H x xs v us Q I rx rxs ⟨g, h, d, ds, hs, rd, rds, o⟩
  have hu := rm.u
  match ds, rds, o with
  | [k, z], .cons (v := kv) rk (.cons (v := zv) rz .nil), o =>
    obtain ⟨⟨ks, vs⟩, e1, o⟩ := Out.opt o
    obtain ⟨b, e2, o⟩ := Out.opt o
    obtain ⟨a, rfl, dl⟩ := dctOf_ok hs rd e1
    obtain rfl : v = .ref a := rx
    cases rxs with
    | @cons _ ku _ _ r1 rr =>
      cases rr with
      | @cons _ zu _ _ r2 rr =>
        cases rr
        cases b with
        | false =>
          obtain ⟨⟨kvs, hr, rks⟩, kk, ek⟩ := dl.scal e2
          have l := rks.look ek
          refine d_get2 (by omega) I (y := kv) (d := zv) (.inl ⟨kvs, kk, hr, key_v rk ek, rfl⟩) r1 r2 fun w' s' I' r' => ⟨(valV kvs kk).getD zv, H, I', r', ?_⟩
          cases q : lookD ks vs k with
          | none => rw [q] at l; simp only [q] at o; rw [l]; exact o.now hs rz
          | some y => rw [q] at l; simp only [q] at o; obtain ⟨w, l1, l2⟩ := l; rw [l1]; exact o.now hs l2
        | true =>
          obtain ⟨xs, dd, rn, hz, hx, kk, ek, e8⟩ := dl.nest I hs.fr rm.K rm.p rm.w e2
          have l := rn.look ek
          obtain ⟨b, rfl⟩ := key_ref rk hx
          obtain rfl : ku = Value.ref b := r1
          refine getOr_keyed rm.in1 ⟨nested_of I hs.fr rm.K k _ _ kk rk rfl ek, e8⟩ (dl.obj I).1 ⟨xs, dd, rfl⟩ ?_
          rw [valueAt_pairsH]
          cases q : lookD ks vs k with
          | none => rw [q] at l; simp only [q] at o; rw [l]; exact ⟨zv, H, I.tok _, r2, o.now hs rz⟩
          | some y => rw [q] at l; simp only [q] at o; obtain ⟨p, w, l1, l2, l3⟩ := l; rw [l1]; exact ⟨w, H, I.tok _, l3, o.now hs l2⟩
  | [k], .cons (v := kv) rk .nil, o =>
    obtain ⟨⟨ks, vs⟩, e1, o⟩ := Out.opt o
    obtain ⟨b, e2, o⟩ := Out.opt o
    obtain ⟨a, rfl, dl⟩ := dctOf_ok hs rd e1
    obtain rfl : v = .ref a := rx
    cases rxs with
    | @cons _ ku _ _ r1 rr =>
      cases rr
      cases b with
      | false =>
        obtain ⟨⟨kvs, hr, rks⟩, kk, ek⟩ := dl.scal e2
        have l := rks.look ek
        refine d_get1 (by omega) I (y := kv) (.inl ⟨kvs, kk, hr, key_v rk ek, rfl⟩) r1 fun w' s' I' r' => ⟨(valV kvs kk).getD .non, H, I', r', ?_⟩
        cases q : lookD ks vs k with
        | none => rw [q] at l; simp only [q] at o; rw [l]; exact o.now hs .non
        | some y => rw [q] at l; simp only [q] at o; obtain ⟨w, l1, l2⟩ := l; rw [l1]; exact o.now hs l2
      | true =>
        obtain ⟨xs, dd, rn, hz, hx, kk, ek, e8⟩ := dl.nest I hs.fr rm.K rm.p rm.w e2
        have l := rn.look ek
        obtain ⟨b, rfl⟩ := key_ref rk hx
        obtain rfl : ku = Value.ref b := r1
        refine get_keyed rm.in1 ⟨nested_of I hs.fr rm.K k _ _ kk rk rfl ek, e8⟩ (dl.obj I).1 ⟨xs, dd, rfl⟩ ?_
        rw [valueAt_pairsH]
        cases q : lookD ks vs k with
        | none => rw [q] at l; simp only [q] at o; rw [l]; exact ⟨.non, H, I.tok _, rfl, o.now hs .non⟩
        | some y => rw [q] at l; simp only [q] at o; obtain ⟨p, w, l1, l2, l3⟩ := l; rw [l1]; exact ⟨w, H, I.tok _, l3, o.now hs l2⟩
  | [], _, o => exact o.elim
  | _ :: _ :: _ :: _, _, o => exact o.elim
/-- d.setdefault(k, x) of a cell -/
def setdC (i : Nat) (k x : D) (h : Hc) : R D := match h.get i with
  | some (.dct ks vs) => R.opt (fits ks k) fun _ => (match Nat.ble ks.length 100000 with
    | true => (match lookD ks vs k with
      | some y => .ok y h
      | none => .ok x (h.set i (.dct (ks ++ [k]) (vs ++ [x]))))
    | false => .no)
  | _ => .no
def mSetd : FM := fun d ds h => match d with
  | .ref i => (match ds with
    | [k, x] => setdC i k x h | _ => .no)
  | _ => .no
theorem meSetd (rm : Rm P X) : MtR X "dict.setdefault" (rdM P E mSetd) := by
  intro pins s σ H x xs v us Q I rx rxs ⟨g, h, d, ds, hs, rd, rds, o⟩
  have hu := rm.u
  cases rd with
  | @ref n a hr =>
    obtain rfl : v = .ref a := rx
    match ds, rds, o with
    | [k, z], .cons (v := kv) rk (.cons (v := zv) rz .nil), o =>
      have o' : Out P g (rv P) Q E (setdC n k z h) := o
      unfold setdC at o'
      cases q1 : h.get n with
      | none => rw [q1] at o'; exact o'.elim
      | some c =>
        cases c with
        | dct ks vs =>
          simp only [q1] at o'
          obtain ⟨b, e2, o'⟩ := Out.opt o'
          obtain ⟨mu, dl, hex⟩ := hs.dctMut q1 hr
          cases q2 : Nat.ble ks.length 100000 with
          | false => rw [q2] at o'; exact o'.elim
          | true =>
          rw [q2] at o'
          have hl2 := Nat.le_of_ble_eq_true q2
          cases rxs with
          | @cons _ ku _ _ r1 rr =>
            cases rr with
            | @cons _ zu _ _ r2 rr =>
              cases rr
              cases b with
              | false =>
                obtain ⟨⟨kvs, hrd, rks⟩, kk, ek⟩ := dl.scal e2
                have l := rks.look ek
                have hl := rks.length.1
                cases key_v rk ek
                cases q : lookD ks vs k with
                | some y =>
                  rw [q] at l; simp only [q] at o'
                  obtain ⟨w, l1, l2⟩ := l
                  exact d_setd I (hex kvs hrd) r1 r2 (by rw [← hl, sizeLine_eq]; omega) (fun v hv w' s' I' r' => ⟨v, H, I', r', by rw [l1] at hv; cases hv; exact o'.now hs l2⟩) fun hn => by rw [l1] at hn; cases hn
                | none =>
                  rw [q] at l; simp only [q] at o'
                  refine d_setd I (hex kvs hrd) r1 r2 (by rw [← hl, sizeLine_eq]; omega) (fun v hv => by rw [l] at hv; cases hv) fun hn w' s' I' r' => ⟨zv, _, I', r', ?_⟩
                  rw [putK_new zv l]
                  exact o'.now (hs.wr q1 hr (.dct (rks.snoc ek rz))) rz
              | true =>
                obtain ⟨xs, dd, rn, hz, hx, kk, ek, e8⟩ := dl.nest I hs.fr rm.K rm.p rm.w e2
                have l := rn.look ek
                obtain ⟨b, rfl⟩ := key_ref rk hx
                obtain rfl : ku = Value.ref b := r1
                refine call_setdefault_heap (hsz := hz) rm.in1 ⟨nested_of I hs.fr rm.K k _ _ kk rk rfl ek, e8⟩ (dl.obj I).1 dd (fun p hp => ?_) fun hn hh dd' sb => ?_
                · cases q : lookD ks vs k with
                  | none => rw [q] at l; rw [l] at hp; cases hp
                  | some y =>
                    rw [q] at l; simp only [q] at o'
                    obtain ⟨p', w, l1, l2, l3⟩ := l
                    rw [l1] at hp; cases hp
                    exact ⟨w, H, I.tok _, l3, o'.now hs l2⟩
                · cases q : lookD ks vs k with
                  | some y => rw [q] at l; obtain ⟨p', w, l1, _⟩ := l; rw [l1] at hn; cases hn
                  | none =>
                    rw [q] at l; simp only [q] at o'
                    have hl3 := rn.length.1
                    have hl4 := storedH_length xs kk b zu
                    rw [storedH_new l] at dd' hl4
                    obtain ⟨ob, I', s'⟩ := nest_write (tk := s.toks + (nestedKind X.prog X.w).draws kk) rm I hs q1 hr (dl.obj I).1 dd' sb (rn.snoc hx ek e8 rk rz r2) (by rw [sizeLine_eq]; omega) (by simp)
                    exact ⟨zv, _, I', r2, o'.now s' rz⟩
        | _ => simp only [q1] at o'; exact o'.elim
    | [], _, o => exact o.elim
    | [_], _, o => exact o.elim
    | _ :: _ :: _ :: _, _, o => exact o.elim
  | _ => exact o.elim
end
end EV
end S_EvG
section S_EvH
/-! EvH: methods of lists, len, new dicts, freezing, min. -/
namespace EV
open PySem PySem.Spec PyProof.Rows L2 Evl
section
variable {P : Pm} {E : XK} {X : Cx} {g : G} {h : Hc} {H : Hp} {a : Addr} {e o : Expr} {f fo : FE} {pos p apos cpos : Pos} {es : List Expr} {fs : FA}
/-! ### methods of lists -/
def fMl (op : FM) (fo : FE) (fs : FA) : FE := fun sl h => (fo sl h).bind fun d h => R.opt (asL h d) fun _ => (fs sl h).bind fun ds h => op d ds h
theorem sE_lm {name : Str} {id : String} {op : FM} (hK : X.K = P.K) (pa : PlainAttrs "list") (slot : Slot "list" name id) (hty : typeOf (.builtin id) = pure (.type "method_descriptor")) (hm : MtR X id (rdM P E op)) (ho : PE X o (rdE P E fo)) (ha : PA X (e :: es) (rdA P E fs))
    (hbase : attributeBase o name X.env (eval o X.env) = eval o X.env :=
        by rfl)
    (hfew : ((backTo cpos (starEach (e :: es) X.env)).all (fun x => !x.1) && (backToKw cpos (keywordEach [] X.env)).all (fun x => x.1.isSome) && decide ((e :: es).length + ([] : List Keyword).length + (if ([] : List Keyword).isEmpty then 0 else 1) < 30)) = true := by rfl)
    (hline : (apos.endLine == cpos.line) = true := by rfl) (hs : starEach (e :: es) X.env = (false, eval e X.env) :: starEach es X.env :=
        by rfl) (hplain : (backTo cpos (starEach es X.env)).any (·.1) = false := by rfl) :
    PE X (.Call (.Attribute o name apos) (e :: es) [] cpos) (rdE P E (fMl op fo fs)) :=
  PE.weak (pe_bm pa slot hty hm ho ha hbase hfew hline hs hplain) fun σ H Q ⟨g, sl, h, x, o⟩ => ⟨g, sl, h, x, Out.bind o fun d h1 g1 H1 v l1 s1 r1 o1 => by
    obtain ⟨xs, e1, o1⟩ := Out.opt o1
    obtain ⟨b, vs, rfl, hq, rr⟩ := asL_ok s1 r1 e1
    exact ⟨.inl ⟨rfl, vs, by rw [hK]; exact hq⟩, g1, sl, h1, x.le l1 s1, Out.bind o1 fun ds h2 g2 H2 ws l2 s2 r2 o2 => ⟨g2, h2, d, ds, s2, rv_le l2 r1, r2, o2⟩⟩⟩
theorem sE_lm0 {name : Str} {id : String} {op : FM} (hK : X.K = P.K) (pa : PlainAttrs "list") (slot : Slot "list" name id) (hty : typeOf (.builtin id) = pure (.type "method_descriptor")) (hm : MtR X id (rdM P E op)) (ho : PE X o (rdE P E fo))
    (hbase : attributeBase o name X.env (eval o X.env) = eval o X.env := by rfl) (hline : (apos.endLine == cpos.line) = true := by rfl) : PE X (.Call (.Attribute o name apos) [] [] cpos) (rdE P E (fMl op fo fNil)) :=
  PE.weak (pe_bm0 pa slot hty hm ho hbase hline) fun σ H Q ⟨g, sl, h, x, o⟩ => ⟨g, sl, h, x, Out.bind o fun d h1 g1 H1 v l1 s1 r1 o1 => by
    obtain ⟨xs, e1, o1⟩ := Out.opt o1
    obtain ⟨b, vs, rfl, hq, rr⟩ := asL_ok s1 r1 e1
    exact ⟨.inl ⟨rfl, vs, by rw [hK]; exact hq⟩, g1, h1, d, [], s1, r1, .nil, o1⟩⟩
def mApp : FM := fun d ds h => match d with
  | .ref i => (match ds with
    | [y] => (match app i y h with
      | some h' => .ok .non h' | none => .no)
    | _ => .no)
  | _ => .no
theorem meApp : MtR X "list.append" (rdM P E mApp) := by
  intro pins s σ H x xs v us Q I rx rxs ⟨g, h, d, ds, hs, rd, rds, o⟩
  cases rd with
  | @ref n a hr =>
    match ds, rds, o with
    | [y], .cons (v := yv) ry .nil, o =>
      have o' : Out P g (rv P) Q E (match app n y h with
        | some h' => .ok .non h' | none => .no) := o
      cases q : app n y h with
      | none => rw [q] at o'; exact o'.elim
      | some h' =>
        rw [q] at o'
        obtain ⟨acc, z1, z2, z3⟩ := app_ev hs hr ry q
        exact mt_append pins s σ H _ _ v us Q I rx rxs ⟨a, acc, yv, rfl, rfl, z1, z2, o'.now z3 .non⟩
    | [], _, o => exact o.elim
    | _ :: _ :: _, _, o => exact o.elim
  | _ => exact o.elim
def popC (i : Nat) (h : Hc) : R D := match h.get i with
  | some (.lst xs) => R.opt (xs[xs.length - 1]?) fun y => .ok y (h.set i (.lst xs.dropLast))
  | _ => .no
def mPop : FM := fun d ds h => match d with
  | .ref i => (match ds with
    | [] => popC i h | _ => .no)
  | _ => .no
theorem RVs.dropLast {F : Hp} {ρ : Nat → Option Addr} {ds : List D} {vs : List V} (r : RVs P F ρ ds vs) : RVs P F ρ ds.dropLast vs.dropLast := by
  rw [List.dropLast_eq_take, List.dropLast_eq_take, r.length]
  exact r.take _
theorem mePop : MtR X "list.pop" (rdM P E mPop) := by
  intro pins s σ H x xs v us Q I rx rxs ⟨g, h, d, ds, hs, rd, rds, o⟩
  cases rd with
  | @ref n a hr =>
    match ds, rds, o with
    | [], .nil, o =>
      have o' : Out P g (rv P) Q E (popC n h) := o
      unfold popC at o'
      cases q : h.get n with
      | none => rw [q] at o'; exact o'.elim
      | some c =>
        cases c with
        | lst ys =>
          simp only [q] at o'
          obtain ⟨y, e1, o'⟩ := Out.opt o'
          obtain ⟨b, vs, h1, h2, h3, h4⟩ := hs.lst q
          rw [hr] at h1; cases h1
          obtain ⟨w, e2, rw'⟩ := h4.get e1
          exact mt_pop pins s σ H _ _ v us Q I rx rxs ⟨a, vs, w, rfl, rfl, h3, by rw [← h4.length]; exact e2, o'.now (hs.wr q hr (.lst h4.dropLast)) rw'⟩
        | _ => simp only [q] at o'; exact o'.elim
    | _ :: _, _, o => exact o.elim
  | _ => exact o.elim
/-! ### len -/
def lenS (xs : List Nat) (h : Hc) : R D := match Nat.ble xs.length 100000 with
  | true => .ok (.int (Int.ofNat xs.length)) h | false => .no
def gLen : FF := fun ds h => match ds with
  | [.str s] => lenS s h
  | [.tup xs] => .ok (.int (Int.ofNat xs.length)) h
  | [d] => (match dctOf h d with
    | some kv => .ok (.int (Int.ofNat kv.1.length)) h
    | none => R.opt (asL h d) fun xs => .ok (.int (Int.ofNat xs.length)) h)
  | _ => .no
theorem cLen (rm : Rm P X) : ClS P E X (.builtin "len") gLen := by
  intro pins s σ H vs us Q I r ⟨g, h, ds, hs, rr, o⟩
  match ds, rr, o with
  | [d], rr, o =>
    obtain ⟨v, rfl, r1⟩ := rr.one
    have gen : Out P g (rv P) Q E (match dctOf h d with
      | some kv => .ok (.int (Int.ofNat kv.1.length)) h
      | none => R.opt (asL h d) fun xs => .ok (.int (Int.ofNat xs.length)) h) → wpAny (model X.prog X.w) X.A (call (.builtin "len") us) (EP X pins σ Q) X.xe s := fun o => by
      cases q : dctOf h d with
      | none =>
        rw [q] at o
        obtain ⟨xs, e1, o⟩ := Out.opt o
        obtain ⟨a, ws, rfl, hq, rw'⟩ := asL_ok hs r1 e1
        exact call_len pins s σ H _ us Q I r ⟨_, xs.length, rfl, .inl ⟨ws, by rw [rm.K]; exact hq, rw'.length⟩, o.now hs (.int _)⟩
      | some kv =>
        rw [q] at o
        obtain ⟨ks, vs⟩ := kv
        obtain ⟨a, rfl, dl⟩ := dctOf_ok hs r1 q
        rcases vals1 r with ⟨u, rfl, ru⟩
        obtain rfl : u = .ref a := ru
        cases dl with
        | @k kvs e rk => exact d_len I e fun t s' I' => ⟨.int kvs.length, H, I', ⟨t, rfl⟩, by rw [← rk.length.1]; exact o.now hs (.int _)⟩
        | n e ne rn =>
          obtain ⟨hd, q1, hl, xs, pr, es, ep, q2, q3, q4, q5⟩ := dN_at I e
          have rn2 := RNV.of rn pr
          have hz : xs.length ≤ sizeLine := by rw [← pr.length]; exact hl
          have hsz := sizeLine_eq
          refine call_len_dictH (knd := nestedKind X.prog X.w) hd ⟨_, es, ep, q1, q2, q3, by rw [rm.p, rm.w]; exact q4, rn2.is I hs.fr rm.K, q5⟩ (by omega) ?_
          exact ⟨.int xs.length, H, (I.tok _), ⟨_, rfl⟩, by rw [← rn2.length.1]; exact o.now hs (.int _)⟩
    cases r1 with
    | str t =>
      have o' : Out P g (rv P) Q E (lenS t h) := o
      unfold lenS at o'
      cases q : Nat.ble t.length 100000 with
      | false => rw [q] at o'; exact o'.elim
      | true =>
        rw [q] at o'
        have := Nat.le_of_ble_eq_true q
        exact call_len pins s σ H _ us Q I r ⟨_, t.length, rfl, ⟨by rw [toStr_len, sizeLine_eq]; omega, (toStr_len t).symm⟩, o'.now hs (.int _)⟩
    | tup h1 r2 => exact call_len pins s σ H _ us Q I r ⟨_, _, rfl, .inr ⟨_, by rw [rm.K]; exact ex_t hs.fr h1, r2.length⟩, Out.now o hs (.int _)⟩
    | _ => exact gen o
  | [], _, o => exact o.elim
  | a :: b :: _, _, o => cases a <;> exact o.elim
/-! ### new dicts: cells -/
def fDnew : FE := fun _ h => .ok (.ref h.nx) (h.new (.dct [] []))
theorem sE_dnew : PE X (.Dict [] [] pos) (rdE P E fDnew) := PE.weak pe_dnewK fun σ H Q ⟨g, sl, h, x, o⟩ p hp => new_cell x.hs hp (.dct .nil) o
/-- dict(d) -/
def scalK (ks : List D) : Bool := match ks with
  | [] => true | k :: _ => match kd k with
    | 0 => true | _ => false
def gDict : FF := fun ds h => match ds with
  | [d] => R.opt (dctOf h d) fun kv => (match scalK kv.1 with
    | true => .ok (.ref h.nx) (h.new (.dct kv.1 kv.2)) | false => .no)
  | _ => .no
theorem DL.scal' {ks vs : List D} (d : DL P g H a ks vs) (f : scalK ks = true) : ∃ kvs, Rd H a (.dK kvs) ∧ RKs P g.F g.ρ ks vs kvs := by
  cases d with
  | k e r => exact ⟨_, e, r⟩
  | n e ne r =>
    cases r with
    | nil => exact absurd rfl ne
    | cons _ _ _ _ _ => simp [scalK, kd] at f
theorem cDict : ClS P E X (.type "dict") gDict := by
  intro pins s σ H vs us Q I r ⟨g, h, ds, hs, rr, o⟩
  match ds, rr, o with
  | [d], rr, o =>
    obtain ⟨v, rfl, r1⟩ := rr.one
    obtain ⟨⟨ks, vs⟩, e1, o⟩ := Out.opt o
    cases q : scalK ks with
    | false => simp only [q] at o; exact o.elim
    | true =>
      simp only [q] at o
      obtain ⟨a, rfl, dl⟩ := dctOf_ok hs r1 e1
      obtain ⟨kvs, h1, r2⟩ := dl.scal' q
      exact call_dictD pins s σ H _ us Q I r ⟨a, kvs, rfl, h1, fun p hp => new_cell hs hp (.dct r2) o⟩
  | [], _, o => exact o.elim
  | _ :: _ :: _, _, o => exact o.elim
/-! displays -/
def fPr : List (FE × FE) → Sl → Hc → R (List (D × D))
  | [], _, h => .ok [] h
  | (fk, fv) :: r, sl, h => (fk sl h).bind fun k h => (fv sl h).bind fun v h => (fPr r sl h).bind fun ps h => .ok ((k, v) :: ps) h
def rps (P : Pm) (g : G) (ps : List (D × D)) (qs : List (V × V)) : Prop := Paired (fun (p : D × D) (q : V × V) => RV P g.F g.ρ p.1 q.1 ∧ RV P g.F g.ρ p.2 q.2) ps qs
theorem fPr_rd {prs : List (FE × FE)} : ∀ {g : G} {sl : Sl} {h : Hc} {σ : L2.St} {H : Hp} {Q : List (V × V) → Hp → Prop}, SR P g sl h σ H → Out P g (rps P) Q E (fPr prs sl h) → tPairs (prs.map fun p => (rdE P E p.1, rdE P E p.2)) σ H Q := by
  induction prs with
  | nil => intro g sl h σ H Q x o; exact Out.now o x.hs .nil
  | cons p r ih =>
    intro g sl h σ H Q x o
    obtain ⟨fk, fv⟩ := p
    exact ⟨g, sl, h, x, Out.bind o fun k h1 g1 H1 kv l1 s1 r1 o1 => ⟨g1, sl, h1, x.le l1 s1, Out.bind o1 fun v h2 g2 H2 vv l2 s2 r2 o2 => ih (x.le (l1.trans l2) s2) (Out.bind o2 fun ps h3 g3 H3 qs l3 s3 r3 o3 =>
      Out.now o3 s3 (.cons ⟨rv_le (l2.trans l3) r1, rv_le l3 r2⟩ r3))⟩⟩
def mergeD : List (D × D) → List D → List D → List D × List D
  | [], ks, vs => (ks, vs)
  | (k, v) :: r, ks, vs => match putD ks vs k v with
    | (ks', vs') => mergeD r ks' vs'
def keysK : List (D × D) → Bool
  | [] => true
  | (k, _) :: r => match kd k with
    | 0 => keysK r | _ => false
theorem keysK_ok {g : G} : ∀ {ps : List (D × D)} {qs : List (V × V)}, rps P g ps qs → keysK ps = true → ∀ {ks vs : List D} {kvs : List (Key × V)}, RKs P g.F g.ρ ks vs kvs →
    ∃ more : List (Key × V), qs = more.map (fun kv => (kV kv.1, kv.2)) ∧ more.length = ps.length ∧ RKs P g.F g.ρ (mergeD ps ks vs).1 (mergeD ps ks vs).2 (mergeK kvs more) := by
  intro ps
  induction ps with
  | nil => intro qs r _ ks vs kvs rk; cases r; exact ⟨[], rfl, rfl, rk⟩
  | cons p r ih =>
    intro qs rr hk ks vs kvs rk
    obtain ⟨k, v⟩ := p
    cases rr with
    | cons h t =>
      rename_i q qs'
      obtain ⟨qk, qv⟩ := q
      have hk' : (match kd k with
        | 0 => keysK r | _ => false) = true := hk
      cases q0 : kd k with
      | succ n => rw [q0] at hk'; cases hk'
      | zero =>
        rw [q0] at hk'
        obtain ⟨kk, ek⟩ := keyK_of q0
        obtain ⟨more, e1, e2, e3⟩ := ih t hk' (rk.put ek h.2)
        exact ⟨(kk, qv) :: more, by rw [List.map_cons, ← e1, ← key_v h.1 ek], by rw [List.length_cons, List.length_cons, e2], e3⟩
def dspK (i : Nat) (ps : List (D × D)) (h : Hc) : R D := match h.get i with
  | some (.dct [] []) => (match keysK ps && Nat.ble ps.length 15 with
    | true => (match mergeD ps [] [] with
      | (ks, vs) => .ok (.ref i) (h.set i (.dct ks vs)))
    | false => .no)
  | _ => .no
def fDsp (prs : List (FE × FE)) : FE := fun sl h => (fPr prs sl (h.new (.dct [] []))).bind fun ps h2 => dspK h.nx ps h2
theorem sE_dsp {keys : List (Option Expr)} {values : List Expr} {prs : List (FE × FE)} (h : PPs X pos keys values (prs.map fun p => (rdE P E p.1, rdE P E p.2))) (hall : keys.all (·.isSome) = true := by rfl) (hl : keys.length = values.length := by rfl) (h0 : keys ≠ [] := by simp)
    (h15 : keys.length ≤ 15 := by decide) (hp : prs.length ≤ 15 := by decide) : PE X (.Dict keys values pos) (rdE P E (fDsp prs)) := PE.weak (pe_disp h hall hl h0 h15) fun σ H Q ⟨g, sl, h, x, o⟩ p hp => by
  obtain ⟨s1, l1, e1⟩ := x.hs.mk' hp (.dct (P := P) (F := g.F) (ρ := g.ρ) .nil)
  refine fPr_rd (x.le l1 s1) (Out.bind (Out.le (r := (fPr prs sl (h.new (.dct [] []))).bind fun ps h2 => dspK h.nx ps h2) o l1) fun ps h2 g2 H2 qs l2 s2 r2 o2 => ?_)
  unfold dspK at o2
  cases q : h2.get h.nx with
  | none => rw [q] at o2; exact o2.elim
  | some c =>
    match c, q, o2 with
    | .dct [] [], q, o2 =>
      simp only [q] at o2
      cases q2 : (keysK ps && Nat.ble ps.length 15) with
      | false => simp only [q2] at o2; exact o2.elim
      | true =>
        simp only [q2] at o2
        obtain ⟨q3, q4⟩ := Bool.and_eq_true_iff.mp q2
        have hn := Nat.le_of_ble_eq_true q4
        have ea := l2.2 _ _ e1
        obtain ⟨b, b1, _, b3⟩ := s2.dct q
        rw [ea] at b1; cases b1
        have hd : H2 p = some (.dK []) := by
          rcases b3 with ⟨kvs, b3, r⟩ | ⟨kvs, o, _, ne, r⟩
          · cases r; exact b3
          · cases r; exact absurd rfl ne
        obtain ⟨more, m1, m2, m3⟩ := keysK_ok r2 q3 (.nil (P := P) (F := g2.F) (ρ := g2.ρ))
        have o3 : Out P g2 (rv P) Q E (.ok (.ref h.nx) (h2.set h.nx (.dct (mergeD ps [] []).1 (mergeD ps [] []).2))) := o2
        exact ⟨hd, more, m1, by rw [m2]; exact hn, o3.now (s2.wr q ea (.dct m3)) (.ref ea)⟩
    | .lst _, q, o2 => simp only [q] at o2; exact o2.elim
    | .ins _ _ _, q, o2 => simp only [q] at o2; exact o2.elim
    | .tbl _, q, o2 => simp only [q] at o2; exact o2.elim
    | .dct (_ :: _) _, q, o2 => simp only [q] at o2; exact o2.elim
    | .dct [] (_ :: _), q, o2 => simp only [q] at o2; exact o2.elim
/-! ### a cell becomes a value -/
theorem HS.freezeL {i : Nat} {c : C} {ob : HO} (x : HS P g h H) (q : h.get i = some c) (ha : g.ρ i = some a) : HS P (g.fz a ob) (h.del i) (upd H a ob) ∧ G.le g (g.fz a ob) := by
  obtain ⟨a', u, h1, h2, h3, h4⟩ := x.cell i c q
  rw [ha] at h1; cases h1
  have l : G.le g (g.fz a ob) := G.fz_le h2
  refine ⟨⟨fun b u e => ?_, fun j c2 e => ?_, fun j k c2 c3 e1 e2 e => x.inj j k c2 c3 (cget_del e1).2 (cget_del e2).2 e, fun j hj => x.new j hj, x.bot.trans l⟩, l⟩
  · have e' : upd g.F a ob b = some u := e
    by_cases z : b = a
    · rw [z, upd_same] at e'; cases e'; rw [z]; exact upd_same
    · rw [upd_ne z] at e'; rw [upd_ne z]; exact x.fr b u e'
  · obtain ⟨ne, e⟩ := cget_del e
    obtain ⟨b, u', k1, k2, k3, k4⟩ := x.cell j c2 e
    have nb : b ≠ a := fun z => ne (x.inj j i _ _ e q (by rw [k1, ha, z]))
    exact ⟨b, u', k1, by show upd g.F a ob b = none; rw [upd_ne nb]; exact k2, by rw [upd_ne nb]; exact k3, k4.mono l.1 l.2⟩
def frzC (i : Nat) (h : Hc) : R D := match h.get i with
  | some (.lst xs) => .ok (.lst xs) (h.del i)
  | some (.dct ks vs) => .ok (.dct ks vs) (h.del i)
  | _ => .no
def frzD (d : D) (h : Hc) : R D := match d with
  | .ref i => frzC i h | _ => .ok d h
def fFz (f : FE) : FE := fun sl h => (f sl h).bind frzD
theorem sE_fz (he : PE X e (rdE P E f)) : PE X e (rdE P E (fFz f)) := by
  refine ⟨fun pins s σ H Q I ⟨g, sl, h, x, o⟩ => ?_⟩
  refine thn (he.run pins s σ H _ I ⟨g, sl, h, x, Out.bind o fun d h1 g1 H1 v l1 s1 r1 o1 => (⟨g1, h1, d, s1, r1, o1⟩ : ∃ g1 h1 d, HS P g1 h1 H1 ∧ RV P g1.F g1.ρ d v ∧ Out P g1 (rv P) Q E (frzD d h1))⟩) fun u s1 ⟨v, H1, I1, ru, g1, h1, d, hs, rd, o1⟩ => ?_
  cases rd with
  | @ref i a hr =>
    have o2 : Out P g1 (rv P) Q E (frzC i h1) := o1
    unfold frzC at o2
    cases q : h1.get i with
    | none => rw [q] at o2; exact o2.elim
    | some c =>
      cases c with
      | lst xs =>
        simp only [q] at o2
        obtain ⟨b, vs, b1, b2, b3, b4⟩ := hs.lst q
        rw [hr] at b1; cases b1
        obtain ⟨s', l⟩ := hs.freeze q hr b3
        exact ⟨_, H1, I1, ru, o2 _ H1 _ l s' (.lst (show upd g1.F a (.lst vs) a = _ from upd_same) (rvs_le l b4))⟩
      | dct ks vs =>
        simp only [q] at o2
        obtain ⟨b, b1, b2, b3⟩ := hs.dct q
        rw [hr] at b1; cases b1
        rcases b3 with ⟨kvs, b3, r⟩ | ⟨kvs, ob, b3, ne, r⟩
        · obtain ⟨od, I2⟩ := I1.lock b3 True.intro
          obtain ⟨s', l⟩ := hs.freezeL (ob := .frz od (.dK kvs)) q hr
          exact ⟨_, _, I2, ru, o2 _ _ _ l s' (.dct (show upd g1.F a (.frz od (.dK kvs)) a = _ from upd_same) (r.mono l.1 l.2))⟩
        · obtain ⟨s', l⟩ := hs.freeze q hr b3
          exact ⟨_, H1, I1, ru, o2 _ H1 _ l s' (.dctN (show upd g1.F a (dN P a kvs ob) a = _ from upd_same) ne (r.mono l.1 l.2))⟩
      | ins _ _ _ => simp only [q] at o2; exact o2.elim
      | tbl _ => simp only [q] at o2; exact o2.elim
  | _ => exact ⟨_, H1, I1, ru, Out.now o1 hs (by first | assumption | exact .non | exact .bl _ | exact .int _ | exact .str _ | exact .glo _ | exact .tup (by assumption) (by assumption) | exact .lst (by assumption) (by assumption) | exact .cst (by assumption) (by assumption) | exact .dct (by assumption) (by assumption) | exact .dctN (by assumption) (by assumption) (by assumption))⟩
/-! ### min of a dict of ints -/
def minI : List D → Option Int
  | [] => none
  | [.int i] => some i
  | .int i :: r => (minI r).bind fun j => some (match iLe i j with
    | true => i | false => j)
  | _ => none
theorem minI_ok {F : Hp} {ρ : Nat → Option Addr} : ∀ {ks vs : List D} {kvs : List (Key × V)} {m : Int}, RKs P F ρ ks vs kvs → minI ks = some m → ∃ is : List Int, kvs.map (·.1) = is.map Sum.inl ∧ is ≠ [] ∧ m ∈ is ∧ ∀ j ∈ is, m ≤ j
  | _, _, _, m, .nil, e => by cases e
  | _, _, _, m, .str _ _, e => by cases e
  | _, _, _, m, .int (i := i) (ks := ks) (ds := ds) (v := v) (r := r) r0 t, e => by
    cases t with
    | nil => cases e; exact ⟨[m], rfl, by simp, by simp, by simp⟩
    | @int i2 d2 v2 ks2 ds2 r2 a b =>
      have e' : ((minI (.int i2 :: ks2)).bind fun j => some (match iLe i j with
        | true => i | false => j)) = some m := e
      obtain ⟨j, e1, e2⟩ := Option.bind_eq_some_iff.mp e'
      obtain ⟨is, h1, h2, h3, h4⟩ := minI_ok (.int a b) e1
      refine ⟨i :: is, by show (Sum.inl i : Key) :: ((Sum.inl i2, v2) :: r2).map (·.1) = _; rw [h1]; rfl, by simp, ?_⟩
      cases q : iLe i j with
      | true =>
        simp only [q] at e2; cases e2
        have hl : i ≤ j := by rw [iLe_eq] at q; exact of_decide_eq_true q
        refine ⟨List.mem_cons_self .., fun z hz => ?_⟩
        rcases List.mem_cons.mp hz with hz | hz
        · subst hz; exact Int.le_refl _
        · exact Int.le_trans hl (h4 z hz)
      | false =>
        simp only [q] at e2; cases e2
        have hl : ¬ i ≤ j := by rw [iLe_eq] at q; exact of_decide_eq_false q
        refine ⟨List.mem_cons_of_mem _ h3, fun z hz => ?_⟩
        rcases List.mem_cons.mp hz with hz | hz
        · subst hz; omega
        · exact h4 z hz
    | str a b =>
      have e' : ((minI (.str _ :: _)).bind fun j => some (match iLe i j with
        | true => i | false => j)) = some m := e
      obtain ⟨j, e1, e2⟩ := Option.bind_eq_some_iff.mp e'
      cases e1
theorem minI_tup (xs r : List D) : minI (.tup xs :: r) = none := by cases r <;> rfl
def minC (i : Nat) (h : Hc) : R D := match h.get i with
  | some (.dct ks vs) => R.opt (minI ks) fun m => .ok (.int m) h
  | _ => .no
def gMin : FF := fun ds h => match ds with
  | [.ref i] => minC i h | _ => .no
theorem cMin (hc : X.calm = true) : ClS P E X (.builtin "min") gMin := by
  intro pins s σ H vs us Q I r ⟨g, h, ds, hs, rr, o⟩
  match ds, rr, o with
  | [d], rr, o =>
    obtain ⟨v, rfl, r1⟩ := rr.one
    cases r1 with
    | @ref i a hr =>
      have o2 : Out P g (rv P) Q E (minC i h) := o
      unfold minC at o2
      cases q : h.get i with
      | none => rw [q] at o2; exact o2.elim
      | some c =>
        cases c with
        | dct ks vs =>
          simp only [q] at o2
          obtain ⟨m, e1, o2⟩ := Out.opt o2
          obtain ⟨b, b1, b2, b3⟩ := hs.dct q
          rw [hr] at b1; cases b1
          rcases b3 with ⟨kvs, b3, r2⟩ | ⟨kvs, ob, b3, ne, r2⟩
          · obtain ⟨is, i1, i2, i3, i4⟩ := minI_ok r2 e1
            refine cr_minK hc pins s σ H _ us Q I r ⟨a, kvs, is, rfl, b3, i1, i2, fun m' hm' hj => ?_⟩
            have : m' = m := by
              have z1 := hj m i3
              have z2 := i4 m' hm'
              omega
            rw [this]
            exact o2.now hs (.int _)
          · cases r2 with
            | nil => exact absurd rfl ne
            | cons a1 a2 a3 a4 a5 => rw [minI_tup] at e1; cases e1
        | _ => simp only [q] at o2; exact o2.elim
    | _ => exact o.elim
  | [], _, o => exact o.elim
  | a :: b :: _, _, o => cases a <;> exact o.elim
end
end EV
end S_EvH
section S_EvI
/-! EvI: instances: fields, methods, properties; isinstance. -/
namespace EV
open PySem PySem.Spec PyProof.Rows L2 Evl
/-- the field k -/
def look1 : List Nat → List D → Nat → Option D
  | k :: ks, d :: ds, j => (match Nat.beq k j with
    | true => some d | false => look1 ks ds j)
  | _, _, _ => none
def put1 : List Nat → List D → Nat → D → List Nat × List D
  | k :: ks, d :: ds, j, y => (match Nat.beq k j with
    | true => (k :: ks, y :: ds)
    | false => (match put1 ks ds j y with
      | (ks', ds') => (k :: ks', d :: ds')))
  | _, _, j, y => ([j], [y])
section
variable {P : Pm} {E : XK} {X : Cx} {g : G} {h : Hc} {H : Hp} {a : Addr} {e o value : Expr} {f fo fv : FE} {pos p apos cpos : Pos} {es : List Expr} {fs : FA}
/-- the name of a field is its own -/
def Own (P : Pm) (j : Nat) : Prop := ∀ i, P.fn i = P.fn j → i = j
theorem RFs.look {F : Hp} {ρ : Nat → Option Addr} {j : Nat} (hj : Own P j) : ∀ {ks : List Nat} {ds : List D} {vs : List (Str × V)} {d : D}, RFs P F ρ ks ds vs → look1 ks ds j = some d → ∃ v, vs.lookup (P.fn j) = some v ∧ RV P F ρ d v
  | _, _, _, _, .nil, h => by cases h
  | _, _, _, d, .cons (k := k) (d := d0) (v := v) (ks := ks) (ds := ds) r t, h => by
    have h' : (match Nat.beq k j with
      | true => some d0 | false => look1 ks ds j) = some d := h
    rw [nbeq_eq] at h'
    by_cases e : k = j
    · rw [decide_eq_true e] at h'; cases h'
      subst e
      exact ⟨v, by rw [lookup_put, if_pos rfl], r⟩
    · rw [decide_eq_false e] at h'
      obtain ⟨w, e1, e2⟩ := RFs.look hj t h'
      exact ⟨w, by rw [lookup_put, if_neg (fun z => e (hj _ z.symm))]; exact e1, e2⟩
theorem RFs.put {F : Hp} {ρ : Nat → Option Addr} {j : Nat} (hj : Own P j) {y : D} {w : V} (ry : RV P F ρ y w) : ∀ {ks : List Nat} {ds : List D} {vs : List (Str × V)}, RFs P F ρ ks ds vs → RFs P F ρ (put1 ks ds j y).1 (put1 ks ds j y).2 (putF (P.fn j) w vs)
  | _, _, _, .nil => .cons ry .nil
  | _, _, _, .cons (k := k) (d := d0) (v := v) (ks := ks) (ds := ds) (r := r) r0 t => by
    have ih := RFs.put hj ry t
    show RFs P F ρ (match Nat.beq k j with
      | true => (k :: ks, y :: ds)
      | false => (match put1 ks ds j y with
        | (ks', ds') => (k :: ks', d0 :: ds'))).1 _ _
    unfold putF
    have e1 : put1 (k :: ks) (d0 :: ds) j y = (match Nat.beq k j with
      | true => (k :: ks, y :: ds)
      | false => (match put1 ks ds j y with
        | (ks', ds') => (k :: ks', d0 :: ds'))) := rfl
    rw [e1, nbeq_eq]
    by_cases e : k = j
    · rw [decide_eq_true e]
      subst e
      rw [if_pos rfl]
      exact .cons ry t
    · rw [decide_eq_false e, if_neg (fun z => e (hj _ z))]
      exact .cons r0 ih
theorem RFs.none {F : Hp} {ρ : Nat → Option Addr} {m : Str} (hm : ∀ i, P.fn i ≠ m) : ∀ {ks : List Nat} {ds : List D} {vs : List (Str × V)}, RFs P F ρ ks ds vs → vs.lookup m = none
  | _, _, _, .nil => rfl
  | _, _, _, .cons r t => by rw [lookup_put, if_neg (fun z => hm _ z.symm)]; exact RFs.none hm t
theorem RFs.length {F : Hp} {ρ : Nat → Option Addr} : ∀ {ks : List Nat} {ds : List D} {vs : List (Str × V)}, RFs P F ρ ks ds vs → ks.length = vs.length
  | _, _, _, .nil => rfl
  | _, _, _, .cons _ t => by rw [List.length_cons, List.length_cons, t.length]
/-- an instance of the class c -/
def insOf (c : Nat) (h : Hc) : D → Option (List Nat × List D)
  | .ref i => match h.get i with
    | some (.ins c' ks vs) => (match Nat.beq c' c with
      | true => some (ks, vs) | false => none)
    | _ => none
  | _ => none
theorem insOf_ok {c : Nat} {d : D} {x : V} {ks : List Nat} {vs : List D} (s : HS P g h H) (r : RV P g.F g.ρ d x) (e : insOf c h d = some (ks, vs)) :
    ∃ i a dx fs, d = .ref i ∧ x = .ref a ∧ g.ρ i = some a ∧ h.get i = some (.ins c ks vs) ∧ H a = some (.ins (P.CA c) dx fs) ∧ RFs P g.F g.ρ ks vs fs := by
  cases r with
  | @ref i a hr =>
    have e' : (match h.get i with
      | some (.ins c' ks vs) => (match Nat.beq c' c with
        | true => some (ks, vs) | false => none)
      | _ => none) = some (ks, vs) := e
    cases q : h.get i with
    | none => rw [q] at e'; cases e'
    | some cl =>
      cases cl with
      | ins c' ks' vs' =>
        rw [q] at e'
        simp only at e'
        rw [nbeq_eq] at e'
        by_cases z : c' = c
        · rw [decide_eq_true z] at e'; cases e'
          subst z
          obtain ⟨b, ob, b1, b2, b3, b4⟩ := s.cell i _ q
          rw [hr] at b1; cases b1
          cases b4 with
          | ins r => exact ⟨i, a, _, _, rfl, rfl, hr, q, b3, r⟩
        · rw [decide_eq_false z] at e'; cases e'
      | _ => rw [q] at e'; cases e'
  | _ => cases e
/-! ### fields -/
def fFld (c j : Nat) (fo : FE) : FE := fun sl h => (fo sl h).bind fun d h => R.opt (insOf c h d) fun kv => R.opt (look1 kv.1 kv.2 j) fun y => .ok y h
theorem sE_fld {c j : Nat} {n : Str} (hK : X.K = P.K) (cl : Cls X.K (P.CA c)) (na : NoAttr X.K (P.CA c) n) (hn : P.fn j = n) (hj : Own P j) (ho : PE X o (rdE P E fo)) (hb : attributeBase o n X.env (eval o X.env) = eval o X.env := by rfl) : PE X (.Attribute o n pos) (rdE P E (fFld c j fo)) :=
  PE.weak (pe_fld ho hb) fun σ H Q ⟨g, sl, h, x, o⟩ => ⟨g, sl, h, x, Out.bind o fun d h1 g1 H1 v l1 s1 r1 o1 => by
    obtain ⟨⟨ks, vs⟩, e1, o2⟩ := Out.opt o1
    obtain ⟨y, e2, o3⟩ := Out.opt o2
    obtain ⟨i, a, dx, fs, _, rfl, _, _, h3, r3⟩ := insOf_ok s1 r1 e1
    obtain ⟨w, w1, w2⟩ := r3.look hj e2
    exact ⟨a, P.CA c, dx, fs, w, rfl, h3, cl, na, by rw [← hn]; exact w1, o3.now s1 w2⟩⟩
/-- o.n = e -/
def setF (c j : Nat) (d y : D) (h : Hc) : Option Hc := match d with
  | .ref i => (insOf c h d).bind fun kv => (match Nat.ble kv.1.length 100 with
    | true => (match put1 kv.1 kv.2 j y with
      | (ks, vs) => some (h.set i (.ins c ks vs)))
    | false => none)
  | _ => none
theorem setF_ok {c j : Nat} {d y : D} {x w : V} {h' : Hc} (hj : Own P j) (s : HS P g h H) (r : RV P g.F g.ρ d x) (ry : RV P g.F g.ρ y w) (e : setF c j d y h = some h') :
    ∃ a dx fs, x = .ref a ∧ H a = some (.ins (P.CA c) dx fs) ∧ fs.length < 1000 ∧ HS P g h' (upd H a (.ins (P.CA c) dx (putF (P.fn j) w fs))) := by
  cases d with
  | ref i =>
    obtain ⟨⟨ks, vs⟩, e1, e2⟩ := Option.bind_eq_some_iff.mp (show ((insOf c h (.ref i)).bind fun kv => (match Nat.ble kv.1.length 100 with
      | true => (match put1 kv.1 kv.2 j y with
        | (ks, vs) => some (h.set i (.ins c ks vs)))
      | false => none)) = some h' from e)
    obtain ⟨i', a, dx, fs, e3, rfl, ha, hg, h3, r3⟩ := insOf_ok s r e1
    cases e3
    cases q : Nat.ble ks.length 100 with
    | false => simp only [q] at e2; cases e2
    | true =>
      simp only [q] at e2
      have e4 : h' = h.set i (.ins c (put1 ks vs j y).1 (put1 ks vs j y).2) := (Option.some.inj e2).symm
      subst e4
      have hl := Nat.le_of_ble_eq_true q
      exact ⟨a, dx, fs, rfl, h3, by rw [← r3.length]; omega, s.wr hg ha (.ins (r3.put hj ry))⟩
  | _ => cases e
def sFd (c j : Nat) (fo fv : FE) : FS := fun sl h => (fv sl h).st fun v h => (fo sl h).st fun d h => match setF c j d v h with
  | some h' => .nx sl h' | none => .no
theorem s_fld {c j : Nat} {n : Str} {pos' : Pos} (hK : X.K = P.K) (cl : Cls X.K (P.CA c)) (na : NoAttr X.K (P.CA c) n) (hn : P.fn j = n) (hj : Own P j) (ho : PE X o (rdE P E fo)) (hv : PE X value (rdE P E fv)) (hs : swapsWith value (some (.Attribute o n pos')) pos.line X.env = pure false := by rfl) :
    PS X (.Assign [.Attribute o n pos'] value pos) (rdS P E (sFd c j fo fv)) :=
  PS.weak (ps_fld ho hv hs) fun D σ H ⟨g, sl, h, x, o⟩ => ⟨g, sl, h, x, OutS.st o fun v h1 g1 H1 y l1 s1 r1 o1 => ⟨g1, sl, h1, x.le l1 s1, OutS.st o1 fun d h2 g2 H2 z l2 s2 r2 o2 => by
    cases q : setF c j d v h2 with
    | none => rw [q] at o2; exact o2.elim
    | some h3 =>
      rw [q] at o2
      obtain ⟨a, dx, fs, rfl, h4, h5, s3⟩ := setF_ok hj s2 r2 (rv_le l2 r1) q
      exact ⟨a, P.CA c, dx, fs, rfl, h4, cl, na, h5, by rw [← hn]; exact o2 g2 σ _ (.refl _) (x.le (l1.trans l2) s3)⟩⟩⟩
/-- o.n, o'.n' = e, e' -/
def sFd2 (c j j' : Nat) (fo fo' fv fv' : FE) : FS := fun sl h => (fv sl h).st fun v h => (fv' sl h).st fun v' h => (fo sl h).st fun d h => match setF c j d v h with
  | some h => (fo' sl h).st fun d' h => match setF c j' d' v' h with
    | some h => .nx sl h | none => .no
  | none => .no
/-- the store to a field, as a target -/
theorem fld_target {c j : Nat} {n : Str} (hK : X.K = P.K) (cl : Cls X.K (P.CA c)) (na : NoAttr X.K (P.CA c) n) (hn : P.fn j = n) (hj : Own P j) (ho : PE X o (rdE P E fo)) :
    PG X (.Attribute o n p) (fun w σ H Q => ∃ g sl h y, SR P g sl h σ H ∧ RV P g.F g.ρ y w ∧ OutS P g ⟨fun σ' H' => Q σ' H', fun _ _ => False, fun _ _ => False, fun _ _ => False⟩ E ((fo sl h).st fun d h => match setF c j d y h with
      | some h' => .nx sl h' | none => .no)) := by
  refine ⟨fun pins s σ H v u Q I r ⟨g, sl, h, y, x, ry, o⟩ => ?_⟩
  rw [assign_Attribute]
  refine wpAny_bind (wpAny_holding (thn (ho.run pins s σ H _ I ⟨g, sl, h, x, OutS.st o fun d h1 g1 H1 z l1 s1 r1 o1 => (⟨g1, h1, d, s1, l1, r1, o1⟩ : ∃ g1 h1 d, HS P g1 h1 H1 ∧ G.le g g1 ∧ RV P g1.F g1.ρ d z ∧ OutS P g1 ⟨fun σ' H' => Q σ' H', fun _ _ => False, fun _ _ => False, fun _ _ => False⟩ E (match setF c j d y h1 with
      | some h' => .nx sl h' | none => .no))⟩) fun ov s1 ⟨z, H1, I1, rz, g1, h1, d, hs1, l1, rd, o1⟩ => ?_))
  cases q : setF c j d y h1 with
  | none => rw [q] at o1; exact o1.elim
  | some h2 =>
    rw [q] at o1
    obtain ⟨a, dx, fs, rfl, h4, h5, s3⟩ := setF_ok hj hs1 rd (rv_le l1 ry) q
    obtain rfl : ov = Value.ref a := rz
    refine wpAny_bind (wpAny_standAt (wpAny_bind (wpAny_holding (setattr_ok I1 h4 cl na h5 r fun s2 I2 => ?_))))
    exact wpAny_release ⟨σ, _, I2, by rw [← hn]; exact o1 g1 σ _ (.refl _) (x.le l1 s3)⟩
/-! ### methods -/
def fMeth (c n : Nat) (F : FF) (fo : FE) (fs : FA) : FE := fun sl h => (fo sl h).bind fun d h => R.opt (insOf c h d) fun _ => (fs sl h).bind fun ds h => match Nat.beq (ds.length + 1) n with
  | true => F (d :: ds) h | false => .no
variable {k n c : Nat} {m : Str} {fd : FuncData} {ps : List Str} {F : FF} {fa : Addr}
theorem sE_meth {pl : Sem Bool} (hK : X.K = P.K) (he : PE X o (rdE P E fo)) (cl : Cls X.K (P.CA c)) (hm : Meth X.K (P.CA c) m fa) (hf : ∀ i, P.fn i ≠ m) (FO : FnS X P k fa fd ps n F) (tk : Tk X E) (hr : Room k X.A) (hb : Binds X.K fd ps []) (ha : PA X (e :: es) (rdA P E fs))
    (hst : starEach (e :: es) X.env = (false, eval e X.env) :: starEach es X.env :=
        by rfl) (hpl : (backTo pos (starEach es X.env)).any (·.1) = false := by rfl)
    (ht :
        eval (.Call (.Attribute o m apos) (e :: es) [] pos) X.env = (do
      let ov ← eval o X.env
      standAt apos.atName
      let (f, first) ← holding [ov]
          (getMethod ov m pl)
      callWith pos f first (backTo pos (starEach (e :: es) X.env)) (backToKw pos (keywordEach [] X.env))) :=
          by rfl) :
    PE X (.Call (.Attribute o m apos) (e :: es) [] pos) (rdE P E (fMeth c n F fo fs)) :=
  PE.weak (pe_meth he cl hm FO hr hb .nil (passes_call (E := E) tk fun _ _ _ _ h => h) ha hst hpl ht) fun σ H Q ⟨g, sl, h, x, o⟩ => ⟨g, sl, h, x, Out.bind o fun d h1 g1 H1 v l1 s1 r1 o1 => by
    obtain ⟨⟨ks, vs⟩, e1, o3⟩ := Out.opt o1
    obtain ⟨i, a, dx, fs', ed, rfl, _, _, h3, r3⟩ := insOf_ok s1 r1 e1
    subst ed
    refine ⟨a, dx, fs', rfl, h3, r3.none hf, g1, sl, h1, x.le l1 s1, Out.bind o3 fun ds h2 g2 H2 ws l2 s2 r2 o2 => ?_⟩
    rw [List.append_nil]
    exact call_sp (ds := .ref i :: ds) s2 (.cons (rv_le l2 r1) r2) o2⟩
theorem sE_meth0 {pl : Sem Bool} (hK : X.K = P.K) (he : PE X o (rdE P E fo)) (cl : Cls X.K (P.CA c)) (hm : Meth X.K (P.CA c) m fa) (hf : ∀ i, P.fn i ≠ m) (FO : FnS X P k fa fd ps n F) (tk : Tk X E) (hr : Room k X.A) (hb : Binds X.K fd ps [])
    (ht :
        eval (.Call (.Attribute o m apos) [] [] pos) X.env = (do
      let ov ← eval o X.env
      standAt apos.atName
      let (f, first) ← holding [ov]
          (getMethod ov m pl)
      callWith pos f first (backTo pos (starEach [] X.env)) (backToKw pos (keywordEach [] X.env))) :=
          by rfl) :
    PE X (.Call (.Attribute o m apos) [] [] pos) (rdE P E (fMeth c n F fo fNil)) :=
  PE.weak (pe_meth0 he cl hm FO hr hb .nil (passes_call (E := E) tk fun _ _ _ _ h => h) ht) fun σ H Q ⟨g, sl, h, x, o⟩ => ⟨g, sl, h, x, Out.bind o fun d h1 g1 H1 v l1 s1 r1 o1 => by
    obtain ⟨⟨ks, vs⟩, e1, o3⟩ := Out.opt o1
    obtain ⟨i, a, dx, fs', ed, rfl, _, _, h3, r3⟩ := insOf_ok s1 r1 e1
    subst ed
    exact ⟨a, dx, fs', rfl, h3, r3.none hf, call_sp (ds := [.ref i]) s1 (.cons r1 .nil) o3⟩⟩
/-- C(..) -/
theorem HS.add {p : Addr} {ob : HO} (x : HS P g h H) (hn : H p = none) : HS P g h (upd H p ob) := by
  refine ⟨fun a o q => by rw [upd_ne (ne_of_none (x.fr a o q) hn)]; exact x.fr a o q, fun i c q => ?_, x.inj, x.new, x.bot⟩
  obtain ⟨a, u, h1, h2, h3, h4⟩ := x.cell i c q
  exact ⟨a, u, h1, h2, by rw [upd_ne (ne_of_none h3 hn)]; exact h3, h4⟩
def mkF (n i : Nat) (F : FF) (ds : List D) (h : Hc) : R D := match Nat.beq (ds.length + 1) n with
  | true => (F (.ref i :: ds) h).bind fun d h => (match d with
    | .non => .ok (.ref i) h | _ => .no)
  | false => .no
def fMk (c n : Nat) (F : FF) (fs : FA) : FE := fun sl h => (fs sl h).bind fun ds h => mkF n h.nx F ds (h.new (.ins c [] []))
theorem mk_sp {h : Hc} {ds : List D} {vs : List V} {Q : VK} {x dx : Addr} (s : HS P g h H) (r : RVs P g.F g.ρ ds vs) (hx : H x = none) (hd : H dx = none) (ne : dx ≠ x) (o : Out P g (rv P) Q E (mkF n h.nx F ds (h.new (.ins c [] [])))) :
    spF P n F (.ref x :: vs) (upd (upd H dx (.own x)) x (.ins (P.CA c) dx [])) (fun v H2 => v = .non ∧ Q (.ref x) H2) E := by
  have s1 : HS P g h (upd H dx (.own x)) := s.add hd
  obtain ⟨s2, l2, e2⟩ := s1.mk' (p := x) (o := .ins (P.CA c) dx []) (c := .ins c [] []) (by rw [upd_ne (Ne.symm ne)]; exact hx) (.ins .nil)
  have o2 := Out.le o l2
  unfold mkF at o2
  cases q : Nat.beq (ds.length + 1) n with
  | false => rw [q] at o2; exact o2.elim
  | true =>
    rw [q] at o2
    refine ⟨by rw [List.length_cons, ← r.length]; exact Nat.eq_of_beq_eq_true q, _, .ref h.nx :: ds, _, s2, .cons (.ref e2) (rvs_le l2 r), Out.bind o2 fun d h3 g3 H3 v l3 s3 r3 o3 => ?_⟩
    cases r3 with
    | non => exact ⟨rfl, Out.now o3 s3 (.ref (l3.2 _ _ e2))⟩
    | _ => exact o3.elim
theorem sE_mk {x : Str} (M : Mk X.K (P.CA c) fa) (FO : FnS X P k fa fd ps n F) (tk : Tk X E) (hr : Room (k + 1) X.A) (hg : Gl X x) (hm : X.mg x = some (.ref (P.CA c))) (hb : Binds X.K fd ps []) (ha : PA X (e :: es) (rdA P E fs)) (hdb : (x == ("__debug__" : Str)) = false := by decide)
    (he : starEach (e :: es) X.env = (false, eval e X.env) :: starEach es X.env := by rfl) (hpl : (backTo pos (starEach es X.env)).any (·.1) = false := by rfl) : PE X (.Call (.Name x p) (e :: es) [] pos) (rdE P E (fMk c n F fs)) :=
  PE.weak (pe_make M FO hr hg hm hb .nil (passes_call (E := E) tk fun _ _ _ _ h => h) ha hdb he hpl) fun σ H Q ⟨g, sl, h, x, o⟩ => ⟨g, sl, h, x, Out.bind o fun ds h1 g1 H1 vs l1 s1 r1 o1 x dx hx hd ne => by
    rw [List.append_nil]
    exact mk_sp s1 r1 hx hd ne o1⟩
/-- o.n, a property -/
def fProp (c : Nat) (F : FF) (fo : FE) : FE := fun sl h => (fo sl h).bind fun d h => R.opt (insOf c h d) fun _ => nx (F [d] h)
theorem pass_no {X : Cx} : Passes (L2.CX X.prog X.w) X.nox E0 := fun _ _ _ _ _ _ _ ⟨_, _, _, _, _, _, _, _, _, _, _, _, z⟩ => z.elim
theorem sE_prop {pa ga : Addr} {nm : Str} (he : PE X o (rdE P E fo)) (cl : Cls X.K (P.CA c)) (hp : PropOf X.K (P.CA c) nm pa ga) (FO : FnS X P k ga fd ps 1 F) (hr : Room (k + 1) X.A) (hb : Binds X.K fd ps []) (hab : attributeBase o nm X.env (eval o X.env) = eval o X.env := by rfl) :
    PE X (.Attribute o nm pos) (rdE P E (fProp c F fo)) :=
  PE.weak (pe_prop he cl hp FO hr hb .nil pass_no hab) fun σ H Q ⟨g, sl, h, x, o⟩ => ⟨g, sl, h, x, Out.bind o fun d h1 g1 H1 v l1 s1 r1 o1 => by
    obtain ⟨⟨ks, vs⟩, e1, o3⟩ := Out.opt o1
    obtain ⟨i, a, dx, fs', ed, rfl, _, _, h3, r3⟩ := insOf_ok s1 r1 e1
    subst ed
    exact ⟨a, dx, fs', rfl, h3, rfl, g1, [.ref i], h1, s1, .cons r1 .nil, Out.nx o3⟩⟩
end
end EV
end S_EvI
section S_EvJ
/-! EvJ: repr gives some text, whatever is under way. -/
namespace PySem
open Builtin Builtin.List PyProof.Rows
section
variable {prog : Program} {w :
    World} {h₀ : Heap}
/-- each object of h₀ stands in h -/
abbrev KeepsH (h₀ h : Heap) : Prop := ∀ b o, h₀.get? b = some o → h.get? b = some o
/-- under a bound, some text of at most n signs -/
def SomeU (prog : Program) (w : World) (h₀ : Heap) (n d : Nat) (x : Value) : Prop :=
  ∀ (base : Nat) (A : Around) (E : Value → Shared → Prop) (s : Shared) (Q : Str → Shared → Prop), base + n ≤ sizeLine → A.units + d < cLine → KeepsH h₀ s.heap →
    (∀ (t : Str) (h' : Heap) (tk : Tok), t.length ≤ n → KeepsH s.heap h' → Q t { s with heap := h', toks := tk }) → wpAny (model prog w) A (pyReprUnder base x) Q E s
theorem SomeU.leaf {x : Value} {t : Str} (r : ReprIs prog w x t) (d : Nat) : SomeU prog w h₀ t.length d x := fun base A E s Q hb _ _ hq => r base hb A E s Q fun tk => hq t s.heap tk (Nat.le_refl _) fun _ _ e => e
theorem SomeU.le {n n' d d' : Nat} {x : Value} (r : SomeU prog w h₀ n d x) (hn : n ≤ n') (hd : d ≤ d') : SomeU prog w h₀ n' d' x := fun base A E s Q hb hu hk hq => r base A E s Q (by omega) (by omega) hk fun t h' tk z => hq t h' tk (by omega)
/-- .. of all items; n: their signs, two more each -/
inductive SomeAll (prog : Program) (w : World) (h₀ : Heap) (d : Nat) : Nat → List Value → Prop
  | nil : SomeAll prog w h₀ d 0 []
  | cons {x : Value} {l : List Value} {n m : Nat} : SomeU prog w h₀ n d x → SomeAll prog w h₀ d m l → SomeAll prog w h₀ d (n + 2 + m) (x :: l)
theorem SomeAll.len {d : Nat} : ∀ {n : Nat} {l : List Value}, SomeAll prog w h₀ d n l → 2 * l.length ≤ n
  | _, _, .nil => Nat.le_refl _
  | _, _, .cons _ r => by have := r.len; rw [List.length_cons]; omega
theorem tupFoldS {A : Around} {E : Value → Shared → Prop} {d : Nat} (hu : A.units + d < cLine) : ∀ {m : Nat} {l : List Value} (acc : Array Str) (k : Nat) (s : Shared) (Q : (Array Str × Nat) → Shared → Prop), SomeAll prog w h₀ d m l → k + m ≤ sizeLine → KeepsH h₀ s.heap →
    (∀ (ts : List Str) (h' : Heap) (tk : Tok), ts.length = l.length → piled ts ≤ m → KeepsH s.heap h' → Q ⟨acc ++ ts.toArray, k + piled ts⟩ { s with heap := h', toks := tk }) →
    wpAny (model prog w) A (forIn l (⟨acc, k⟩ : (Array Str × Nat)) tupBody) Q E s
  | _, _, acc, k, s, Q, .nil, _, _, hq => by
    have h0 := hq [] s.heap s.toks rfl (Nat.le_refl _) fun _ _ e => e
    simp only [List.forIn_nil]
    exact (wpAny_pure (by simpa [piled] using h0))
  | _, _, acc, k, s, Q, .cons (x := x) (l := l) (n := n) (m := m) hx hl, hz, hk, hq => by
    rw [List.forIn_cons]
    refine wpAny_bind (wpAny_bind (hx (k + 1) _ _ _ _ (by omega) hu hk fun t h' tk ht hkp => wpAny_pure ?_))
    refine tupFoldS hu (acc.push t) (k + (t.length + 2)) _ Q hl (by omega) (fun b o e => hkp _ _ (hk _ _ e)) fun ts h'' tk' hlen hp hk2 => ?_
    have h1 := hq (t :: ts) h'' tk' (by rw [List.length_cons, List.length_cons, hlen]) (by rw [piled_cons]; omega) fun b o e => hk2 _ _ (hkp _ _ e)
    rw [piled_cons] at h1
    have e : k + (t.length + 2) + piled ts = k + (t.length + 2 + piled ts) := by omega
    rw [e]
    simpa using h1
theorem tup_len (ts : List Str) : (tupleText ts).length ≤ piled ts + 3 := by
  unfold tupleText
  rewrite [strLen_append]; rw [strLen_append]
  have e1 : ((("(" : String) : Str)).length = 1 := (rfl)
  have e3 : (((if ts.length == 1 then ",)" else ")" : String) : Str)).length ≤ 2 := by split <;> decide
  by_cases h : ts = []
  · subst h; decide +kernel
  · have :=
        join_length_add ts h
    omega
theorem lst_len (ts : List Str) : (listText ts).length ≤ piled ts + 2 := by
  have h := textFrom_len_le ts 0 ("[" : Str)
  have hX : (listText ts).length = (textFrom 0 "[" ts).length + 1 :=
      by
    show ((textFrom 0 "[" ts ++ "]").length = _)
    rw [strLen_append]; rfl
  have e1 : ((("[" : String) : Str)).length = 1 := rfl
  have e2 : ∀ l : List Str, (l.map (·.length)).sum + 2 * l.length = piled l := fun l => by
    induction l with
    | nil => rfl
    | cons t r ih => rw [piled_cons, List.map_cons, List.sum_cons, List.length_cons]; omega
  have := e2 ts
  omega
section
variable {A : Around} {R : Result → Shared → Prop} {a : Addr} {o : Obj} {items : Array Value} {n d m base : Nat}
/-- tuple.__repr__ -/
theorem tupS {s : Shared} {id : String} {rest : List Value} (ha : s.heap.get? a = some o) (hd : o.data = .seq items n) (hT : SomeAll prog w h₀ d m items.toList) (hcu : (A.under (.builtin id ⟨.ref a :: rest, []⟩)).units = A.units + 1) (hu : A.units + (d + 1) < cLine) (hk : KeepsH h₀ s.heap)
    (hR : ∀ (t : Str) (h' : Heap) (u tk : Tok), t.length ≤ m + 5 → KeepsH s.heap h' → R (.ok (.ret (.str t u))) { s with heap := h', toks := tk }) (hz : base + (m + 5) ≤ sizeLine) :
    wpOwn (model prog w) A (.builtin id ⟨.ref a :: rest, []⟩) (Builtin.tupleReprAt base ⟨[.ref a], []⟩) (fun fin s' => match fin with
      | .done f => R (.ok f) s'
      | .again c' => c'.quiet = true ∧ codeAny (model prog w) A c' R s') (fun e s' => R (.error e) s') s := by
  rw [tuple_repr_tree]
  refine wpOwn_of_wpAny (wpAny_bind (fmt_underWay fun b => ?_))
  cases b with
  | true =>
    refine PySem.W.KFB.if_so rfl (wpAny_bind (wpAny_rule (wpAny_bind (wpAny_mkStr (wpAny_pure ?_) (by decide +kernel)))))
    exact hR "(...)" s.heap _ _ (Nat.le_trans fmt_way (by omega)) fun _ _ e => e
  | false =>
    refine (PySem.W.KFB.if_not rfl ?_)
    unfold tupleReprRest; unfold Builtin.Tuple.tupleItemsOf
    refine (wpAny_bind (wpAny_bind (wpAny_seqItems ha hd (wpAny_pure ?_))))
    rw [← Array.forIn_toList]
    refine wpAny_bind (tupFoldS (by rw [hcu]; omega) _ _ _ _ hT (by omega) hk fun ts h' tk hlen hp hkp => ?_)
    have hl := tup_len ts
    have e : ts.length = items.size := by simpa using hlen
    refine wpAny_bind (wpAny_mkStr (wpAny_pure ?_) ?_)
    · have h1 := hR (tupleText ts) h' tk (tk + 1) (by omega) hkp
      simpa [tupleText, e] using h1
    · have h2 : (tupleText ts).length ≤ sizeLine := by omega
      simpa [tupleText, e] using h2
/-- the loop of list.__repr__ -/
theorem lstLoopS {p : Addr} (hne : a ≠ p) (hu : A.units + (d + 1) < cLine) (hPf : h₀.get? p = none) (hz : base + (m + 5) ≤ sizeLine) :
    ∀ (l : List Value) (i q : Nat) (s : Shared) (oa : Obj) (na : Nat) (acc : Array Value) (c : Nat) (done : List (Str × Tok)), items.toList.drop i = l → i ≤ items.size → SomeAll prog w h₀ d q l → piled (done.map (·.1)) + q ≤ m → KeepsH h₀ s.heap →
    s.heap.get? a = some oa → oa.data = .seq items na → s.heap.get? p = some { cls := .type "list", dict := none, data := .seq acc c, slots := #[] } → acc.toList = strValues done →
    (∀ (t : Str) (h' : Heap) (u tk : Tok), t.length ≤ m + 5 → (∀ b o, b ≠ p → s.heap.get? b = some o → h'.get? b = some o) → R (.ok (.ret (.str t u))) { s with heap := h', toks := tk }) →
    codeAny (model prog w) A (.builtin "list.__repr__.loop" ⟨[.ref a, rawInt i, .ref p, rawInt ((base + piled (done.map (·.1)) : Nat) : Int)], []⟩) R s
  | [], i, q, s, oa, na, acc, c, done, hl, hi, hT, hq, hk, ha, hda, hP, hacc, hR => by
    have hin : i = items.size := by
      have := congrArg List.length hl
      simp at this
      omega
    refine (codeAny_builtin F.entry_list_repr_loop ?_)
    show wpAny _ _ («list.__repr__.loop» ⟨[.ref a, .int i 0, .ref p, .int ((base + piled (done.map (·.1)) : Nat) : Int) 0], []⟩) _ _ s
    rw [repr_loop_tree]
    refine (wpAny_bind (wpAny_listItems ha hda ?_))
    have hnone : items[(i : Int).toNat]? = none := (by simp [hin])
    simp only [hnone]
    unfold reprEnd
    refine (wpAny_bind (wpAny_listItems hP rfl ?_))
    rw [hacc, repr_fold]
    have hl2 := lst_len (done.map (·.1))
    refine wpAny_bind (wpAny_pure (wpAny_bind (wpAny_mkStr (wpAny_pure ?_) (show (listText (done.map (·.1))).length ≤ sizeLine by omega))))
    exact hR (listText (done.map (·.1))) s.heap _ _ (by omega) fun _ _ _ e => e
  | x :: l, i, q, s, oa, na, acc, c, done, hl, hi, hT, hq, hk, ha, hda, hP, hacc, hR => by
    have hx : items[i]? = some x := by
      have h1 : (items.toList.drop i)[0]? = some x := by rw [hl]; rfl
      rw [List.getElem?_drop] at h1
      simpa using h1
    have hlt : i < items.size := by
      rcases Nat.lt_or_ge i items.size with z | z
      · exact z
      · rw [Array.getElem?_eq_none z] at hx; cases hx
    have hl' : items.toList.drop (i + 1) = l := by
      rw [← List.tail_drop, hl]; rfl
    cases hT with
    | @cons _ _ n1 m1 hx1 hT1 =>
      refine (codeAny_builtin F.entry_list_repr_loop ?_)
      show wpAny _ _ («list.__repr__.loop» ⟨[.ref a, .int i 0, .ref p, .int ((base + piled (done.map (·.1)) : Nat) : Int) 0], []⟩) _ _ s
      rw [repr_loop_tree]
      refine (wpAny_bind (wpAny_listItems ha hda ?_))
      have hsome : items[(i : Int).toNat]? = some x := by simpa using hx
      simp only [hsome]
      rw [Int.toNat_natCast]
      refine wpAny_bind (wpAny_holding (hx1 (base + piled (done.map (·.1)) + 1) _ _ _ _ (by omega) (by rw [units_under_list_loop]; omega) hk fun t h' tk ht hkp => ?_))
      refine wpAny_bind (wpAny_mkStr ?_ (by omega))
      refine wpAny_bind ?_
      show wpAny _ _ (updateSeq p _) _ _ _
      have hlen := hT1.len
      have hacz : acc.size = done.length := by
        have e1 : acc.toList.length = acc.size := (by simp)
        rw [hacc] at e1
        rw [← e1]
        simp [strValues]
      have hpl : 2 * done.length ≤ piled (done.map (·.1)) := by
        clear hR hacc hq hacz
        induction done with
        | nil => exact Nat.zero_le _
        | cons y r ih => rw [List.map_cons, piled_cons, List.length_cons]; omega
      refine wpAny_updateSeq (hkp _ _ hP) rfl (wpAny_pure ⟨F.quiet_list_repr_loop _, ?_⟩) (by omega)
      have e0 : piled ((done ++ [(t, tk)]).map (·.1)) = piled (done.map (·.1)) + (t.length + 2) := by rw [List.map_append, piled_append]; simp [piled]
      have e1 : ((i : Int) + 1) = ((i + 1 : Nat) : Int) := (by omega)
      have e2 : base + piled (done.map (·.1)) + (t.length + 2) = base + piled ((done ++ [(t, tk)]).map (·.1)) := by rw [e0]; omega
      rw [e1, e2]
      refine lstLoopS hne hu hPf hz l (i + 1) m1 _ oa na (acc.push (.str t tk)) _ (done ++ [(t, tk)]) hl' hlt hT1 (by rw [e0]; omega) (fun b ob e => (Heap.get?_update_other _ _ (fun z : p = b => by rw [← z, hPf] at e; cases e)).trans (hkp _ _ (hk _ _ e))) ((Heap.get?_update_other _ _ (fun z : p = a => hne z.symm)).trans (hkp _ _ ha)) hda (Heap.get?_update_self _ (hkp _ _ hP) rfl) (by simp [hacc, strValues]) fun t2 h'' u tk' ht2 hh => ?_
      exact hR t2 h'' u tk' ht2 fun b ob hb e => hh b ob hb ((Heap.get?_update_other _ _ (fun z : p = b => hb z.symm)).trans (hkp _ _ e))
/-- list.__repr__ -/
theorem lstS {s : Shared} (ha : s.heap.get? a = some o) (hd : o.data = .seq items n) (hT : SomeAll prog w h₀ d m items.toList) (hu : A.units + (d + 1) < cLine) (hk : KeepsH h₀ s.heap)
    (hR : ∀ (t : Str) (h' : Heap) (u tk : Tok), t.length ≤ m + 5 → KeepsH s.heap h' → R (.ok (.ret (.str t u))) { s with heap := h', toks := tk }) (hz : base + (m + 5) ≤ sizeLine) :
    wpAny (model prog w) A.in1 (Builtin.listReprAt base ⟨[.ref a], []⟩) (fun fin s' => match fin with
      | .done f => R (.ok f) s'
      | .again c' => c'.quiet = true ∧ codeAny (model prog w) A c' R s') (fun e s' => R (.error e) s') s := by
  obtain ⟨l⟩ := items
  cases l with
  | nil => exact wpAny_list_repr_empty ha hd (hR "[]" s.heap _ _ (Nat.le_trans (by decide +kernel : ("[]" : Str).length ≤ 5) (by omega)) fun _ _ e => e)
  | cons x l =>
    have go : wpAny (model prog w) A.in1 (do again (.builtin "list.__repr__.loop" ⟨[.ref a, rawInt 0, ← newList [], rawInt base], []⟩)) (fun fin s' => match fin with
      | .done f => R (.ok f) s'
      | .again c' => c'.quiet = true ∧ codeAny (model prog w) A c' R s') (fun e s' => R (.error e) s') s := by
      refine wpAny_bind (m := newList []) (wpAny_newObj_type (wpAny_pure ⟨F.quiet_list_repr_loop _, ?_⟩))
      refine lstLoopS (p := s.heap.objs.size) (done := []) (Nat.ne_of_lt (Heap.lt_size ha)) hu ?_ hz (x :: l) 0 m _ o n #[] _ rfl (Nat.zero_le _) hT (by simp [piled]) (fun b ob e => Heap.get?_push_of_some _ (hk _ _ e)) (Heap.get?_push_of_some _ ha) hd (Heap.get?_push_size _ rfl) rfl fun t h' u tk ht hkp => ?_
      · cases e :
            h₀.get? s.heap.objs.size with
        | none => rfl
        | some ob => exact absurd (Heap.lt_size (hk _ _ e)) (Nat.lt_irrefl _)
      · exact hR t h' u tk ht fun b ob e => hkp b ob (Nat.ne_of_lt (Heap.lt_size e)) (Heap.get?_push_of_some _ e)
    intro Γ p hΓ
    have h1 := go Γ p hΓ
    unfold Builtin.listReprAt
    simp [slotArgs, Builtin.List.listItems, seqItems?, Sem.wp_load_of (h := ha), hd, stack]
    show Sem.wp _ Γ (if (Γ.below.any _) = true then _ else _) _ _ p s
    split
    · exact hR "[...]" s.heap s.toks (s.toks + 1) (Nat.le_trans (by decide +kernel : ("[...]" : Str).length ≤ 5) (by omega)) fun _ _ e => e
    · exact h1
end
end
end PySem
end S_EvJ
section S_EvK
/-! EvK: repr of data gives some text. -/
namespace PySem
open Builtin Builtin.List PyProof.Rows
section
variable {prog : Program} {w :
    World} {h₀ : Heap}
section
variable {A : Around} {R : Result → Shared → Prop} {a : Addr} {o : Obj} {n d m base : Nat}
/-- dict.__repr__ of an empty dict -/
theorem dctS {s : Shared} {id : String} {rest : List Value} (ha : s.heap.get? a = some o) (hc : o.cls = .type "dict") (hd : o.data = .dict #[] n) (hs : (a == sysModules) = false)
    (hR : ∀ (t : Str) (h' : Heap) (u tk : Tok), t.length ≤ 5 → KeepsH s.heap h' → R (.ok (.ret (.str t u))) { s with heap := h', toks := tk }) :
    wpOwn (model prog w) A (.builtin id ⟨.ref a :: rest, []⟩) (Builtin.dictReprAt base ⟨[.ref a], []⟩) (fun fin s' => match fin with
      | .done f => R (.ok f) s'
      | .again c' => c'.quiet = true ∧ codeAny (model prog w) A c' R s') (fun e s' => R (.error e) s') s := by
  have hT : s.TypeIs (.ref a) "dict" := ⟨o, ha, hc⟩
  refine wpOwn_of_wpAny ?_
  unfold Builtin.dictReprAt Builtin.Dict.dictSlotNone
  refine wpAny_bind (wpAny_bind (wpAny_notOrdered_dict hT ?_))
  show (wpAny _ _ (pure (Value.ref a)) _ _ s)
  refine wpAny_pure ?_
  rw [dictReprRunning_eq]
  refine wpAny_bind (wpAny_bind (wpAny_stack_any fun st => wpAny_pure ?_))
  cases st.tail.any (dictGuardF (.ref a)) with
  | true =>
    refine PySem.W.KFB.if_so rfl (wpAny_bind (wpAny_rule (wpAny_bind (wpAny_mkStr (wpAny_pure ?_) (by decide +kernel)))))
    exact hR "{...}" s.heap _ _ (by decide +kernel) fun _ _ e => e
  | false =>
    refine (PySem.W.KFB.if_not rfl ?_)
    show (wpAny _ _ (Builtin.Dict.addrOf (.ref a) >>= _) _ _ s)
    refine (wpAny_bind (wpAny_pure ?_))
    show (wpAny _ _ (Builtin.Dict.showsAll a >>= _) _ _ s)
    unfold Builtin.Dict.showsAll
    rw [if_neg (by rw [hs]; exact Bool.false_ne_true)]
    refine wpAny_bind (wpAny_pure (wpAny_bind (wpAny_dictEpoch ha hd (wpAny_bind (wpAny_dictEntries ha hd (wpAny_bind ?_))))))
    rewrite [Std.Legacy.Range.forIn_eq_forIn_range']
    have e0 : List.range' 0 (Std.Legacy.Range.size { start := 0, stop := (#[] : Array DictEntry).size, step := 1, step_pos := Nat.zero_lt_one }) 1 = [] := rfl
    show wpAny _ _ (forIn (List.range' 0 (Std.Legacy.Range.size { start := 0, stop := (#[] : Array DictEntry).size, step := 1, step_pos := Nat.zero_lt_one }) 1) _ _) _ _ s
    rw [e0, List.forIn_nil]
    refine wpAny_pure (wpAny_bind (wpAny_mkStr (x := ("{}" : Str)) (wpAny_pure ?_) (by decide +kernel)))
    exact hR ("{}" : Str) s.heap _ _ (by decide +kernel) fun _ _ e => e
end
/-- a value whose repr is some text of at most n signs -/
inductive Rp (h₀ : Heap) : Nat → Nat → Value → Prop
  | non {d : Nat} : Rp h₀ 4 d .none
  | bl {d : Nat} (b : Bool) : Rp h₀ 5 d (.bool b)
  | int {n d : Nat} (i : Int) (t : Tok) : i.natAbs.log2 < 1920 → (Str.ofString (toString i)).length ≤ n → Rp h₀ n d (.int i t)
  | str {n d : Nat} (x : Str) (t : Tok) : (reprText x).length ≤ sizeLine → (reprText x).length ≤ n → Rp h₀ n d (.str x t)
  | lst {a : Addr} {o : Obj} {items : Array Value} {n d m : Nat} : h₀.get? a = some o → o.cls = .type "list" → o.data = .seq items n → (∀ (prog : Program) (w : World), SomeAll prog w h₀ d m items.toList) → Rp h₀ (m + 5) (d + 1) (.ref a)
  | tup {a : Addr} {o : Obj} {items : Array Value} {n d m : Nat} : h₀.get? a = some o → o.cls = .type "tuple" → o.data = .seq items n → (∀ (prog : Program) (w : World), SomeAll prog w h₀ d m items.toList) → Rp h₀ (m + 5) (d + 1) (.ref a)
  | dct {a : Addr} {o : Obj} {n d : Nat} : h₀.get? a = some o → o.cls = .type "dict" → o.data = .dict #[] n → (a == sysModules) = false → Rp h₀ 5 (d + 1) (.ref a)
theorem Rp.under {n d : Nat} {x : Value} (r : Rp h₀ n d x) : SomeU prog w h₀ n d x := by
  cases r with
  | non => exact (SomeU.leaf ReprIs.none d).le (by decide +kernel) (Nat.le_refl _)
  | bl b => exact (SomeU.leaf (ReprIs.bool b) d).le (by cases b <;> decide +kernel) (Nat.le_refl _)
  | int i t h l => exact (SomeU.leaf (ReprIs.int t h) d).le l (Nat.le_refl _)
  | str y t h l => exact (SomeU.leaf (ReprIs.str y t h) d).le l (Nat.le_refl _)
  | lst ha hc hd hT =>
    intro base A E s Q hz hu hk hq
    exact wpAny_pyReprUnder_ref (by omega) (wpAny_pyReprObjUnder_twin (twin := "list.__repr__.under") ⟨_, hk _ _ ha, hc⟩ F.slot_list_repr.toG rfl (by omega)
      (call_twin_plain F.plain_list_repr_under F.entry_list_repr_under F.check_list_repr_under ⟨_, hk _ _ ha, hc⟩ F.slot_list_repr.toG (F.args_list_repr_1 _)
        (lstS (R := callEnd _ E) (hk _ _ ha) hd (hT prog w) hu hk (fun t h' u tk ht hkp => ⟨⟨t, u, rfl⟩, t, u, rfl, hq t h' tk ht hkp⟩) (by omega))))
  | tup ha hc hd hT =>
    intro base A E s Q hz hu hk hq
    exact wpAny_pyReprUnder_ref (by omega) (wpAny_pyReprObjUnder_twin (twin := "tuple.__repr__.under") ⟨_, hk _ _ ha, hc⟩ F.slot_tuple_repr rfl (by omega)
      (call_twin_own (F.quiet_tuple_repr_under _) F.entry_tuple_repr_under F.check_tuple_repr_under ⟨_, hk _ _ ha, hc⟩ F.slot_tuple_repr (F.args_tuple_repr_1 _)
        (tupS (R := callEnd _ E) (hk _ _ ha) hd (hT prog w) (units_under_tuple_repr_under _ _) hu hk (fun t h' u tk ht hkp => ⟨⟨t, u, rfl⟩, t, u, rfl, hq t h' tk ht hkp⟩) (by omega))))
  | dct ha hc hd hs =>
    intro base A E s Q hz hu hk hq
    exact wpAny_pyReprUnder_ref (by omega) (wpAny_pyReprObjUnder_twin (twin := "dict.__repr__.under") ⟨_, hk _ _ ha, hc⟩ F.slot_dict_repr rfl (by omega)
      (call_twin_own (F.quiet_dict_repr_under _) F.entry_dict_repr_under F.check_dict_repr_under ⟨_, hk _ _ ha, hc⟩ F.slot_dict_repr (F.args_dict_repr_1 _)
        (dctS (R := callEnd _ E) (hk _ _ ha) hc hd hs (fun t h' u tk ht hkp => ⟨⟨t, u, rfl⟩, t, u, rfl, hq t h' tk ht hkp⟩))))
/-- repr itself -/
theorem Rp.obj {n d : Nat} {x : Value} (r : Rp h₀ n d x) {A : Around} {E : Value → Shared → Prop} {s : Shared} {Q : Value → Shared → Prop} (hz : n ≤ sizeLine) (hu : A.units + d < cLine) (hk : KeepsH h₀ s.heap)
    (hq : ∀ (t : Str) (h' : Heap) (u tk : Tok), t.length ≤ n → KeepsH s.heap h' → Q (.str t u) { s with heap := h', toks := tk }) : wpAny (model prog w) A (pyReprObj x) Q E s := by
  cases r with
  | non => exact pyReprObj_none (hq _ s.heap _ _ (by decide +kernel) fun _ _ e => e)
  | bl b => exact pyReprObj_bool (hq _ s.heap _ _ (by cases b <;> decide +kernel) fun _ _ e => e)
  | int i t h l => exact pyReprObj_int h (hq _ s.heap _ _ l fun _ _ e => e)
  | str y t h l => exact pyReprObj_str (hq _ s.heap _ _ l fun _ _ e => e) h
  | lst ha hc hd hT =>
    have hTy : s.TypeIs (.ref _) "list" := ⟨_, hk _ _ ha, hc⟩
    unfold pyReprObj
    refine wpAny_bind (wpAny_cRoomFor (by omega) (wpAny_bind (wpAny_specialOf (name := Str.ofString "__repr__") hTy F.slot_list_repr.lookup ?_)))
    refine wpAny_bind (m := callSpecialIfBound? (.ref _) (Str.ofString "__repr__")) (wpAny_callSpecialIfBound?_slot (name := Str.ofString "__repr__") hTy F.slot_list_repr
      (wpAny_call (codeAny_call_builtin F.slot_list_repr.plain F.entry_list_repr (F.slot_list_repr.check _ _ _ _ _ _ _ _ hTy (F.args_list_repr_1 _) (lstS (base := 0) (R := callEnd _ E) (hk _ _ ha) hd (hT prog w) hu hk (fun t h' u tk ht hkp => ?_) (by omega))))))
    exact wpAny_bind (wpAny_isInstance (T := "str") (b := true) rfl isSubtype_str_str (wpAny_pure (hq t h' u tk ht hkp)))
  | tup ha hc hd hT =>
    have hTy : s.TypeIs (.ref _) "tuple" := ⟨_, hk _ _ ha, hc⟩
    unfold pyReprObj
    refine wpAny_bind (wpAny_cRoomFor (by omega) (wpAny_bind (wpAny_specialOf (name := Str.ofString "__repr__") hTy F.slot_tuple_repr.lookup ?_)))
    refine wpAny_bind (m := callSpecialIfBound? (.ref _) (Str.ofString "__repr__")) (wpAny_callSpecialIfBound?_slotG (name := Str.ofString "__repr__") hTy F.slot_tuple_repr
      (wpAny_call (codeAny_call_builtin_own (Code.quiet_builtin _ (by decide +kernel)) F.entry_tuple_repr (F.slot_tuple_repr.check _ _ _ _ _ _ _ _ hTy (F.args_tuple_repr_1 _) (tupS (base := 0) (R := callEnd _ E) (hk _ _ ha) hd (hT prog w) (units_under_tuple_repr _ _) hu hk (fun t h' u tk ht hkp => ?_) (by omega))))))
    exact wpAny_bind (wpAny_isInstance (T := "str") (b := true) rfl isSubtype_str_str (wpAny_pure (hq t h' u tk ht hkp)))
  | dct ha hc hd hs =>
    have hTy : s.TypeIs (.ref _) "dict" := ⟨_, hk _ _ ha, hc⟩
    unfold pyReprObj
    refine wpAny_bind (wpAny_cRoomFor (by omega) (wpAny_bind (wpAny_specialOf (name := Str.ofString "__repr__") hTy F.slot_dict_repr.lookup ?_)))
    refine wpAny_bind (m := callSpecialIfBound? (.ref _) (Str.ofString "__repr__")) (wpAny_callSpecialIfBound?_slotG (name := Str.ofString "__repr__") hTy F.slot_dict_repr
      (wpAny_call (codeAny_call_builtin_own (Code.quiet_builtin _ (by decide +kernel)) F.entry_dict_repr (F.slot_dict_repr.check _ _ _ _ _ _ _ _ hTy (F.args_dict_repr_1 _) (dctS (base := 0) (R := callEnd _ E) (hk _ _ ha) hc hd hs (fun t h' u tk ht hkp => ?_))))))
    exact wpAny_bind (wpAny_isInstance (T := "str") (b := true) rfl isSubtype_str_str (wpAny_pure (hq t h' u tk ht hkp)))
end
end PySem
end S_EvK
section S_EvL
/-! EvL: data whose repr is known to be short; equal data have equal reprs. -/
namespace EV
open PySem PySem.Spec PyProof.Rows L2 Evl
/-! ### the bound -/
def okS (s : List Nat) : Bool := match s with
  | [] => true
  | c :: r => match Nat.ble c 1114111 with
    | true => okS r | false => false
def rpAll (r : D → Option Nat) : List D → Option Nat
  | [] => some 0
  | x :: xs => match r x with
    | some n => (match rpAll r xs with
      | some m => some (n + 2 + m) | none => none)
    | none => none
def rp0 : D → Option Nat
  | .non => some 4
  | .bl _ => some 5
  | .int i => match small i with
    | true => some 100 | false => none
  | .str s => match okS s with
    | true => some (10 * s.length + 2) | false => none
  | _ => none
def add5 : Option Nat → Option Nat
  | some n => some (n + 5) | none => none
/-- how many signs repr has at most: f: the depth at most -/
def rpD (h : Hc) : Nat → D → Option Nat
  | 0, d => rp0 d
  | f + 1, d => match d with
    | .tup xs => add5 (rpAll (rpD h f) xs)
    | .lst xs => add5 (rpAll (rpD h f) xs)
    | .cst xs => add5 (rpAll (rpD h f) xs)
    | .dct [] [] => some 5
    | .ref i => (match h.get i with
      | some (.lst xs) => add5 (rpAll (rpD h f) xs)
      | some (.dct [] []) => some 5
      | _ => none)
    | d => rp0 d
/-! ### the data told -/
def pdAll (r : D → Option PyData) : List D → Option (List PyData)
  | [] => some []
  | x :: xs => (r x).bind fun p => (pdAll r xs).map fun ps => p :: ps
def pd0 : D → Option PyData
  | .non => some .none
  | .bl b => some (.bool b)
  | .int i => some (.int i)
  | .str s => some (.str (toStr s))
  | _ => none
def pdD (h : Hc) : Nat → D → Option PyData
  | 0, d => pd0 d
  | f + 1, d => match d with
    | .tup xs => (pdAll (pdD h f) xs).map .tuple
    | .lst xs => (pdAll (pdD h f) xs).map .list
    | .cst xs => (pdAll (pdD h f) xs).map .list
    | .dct [] [] => some (.dict [])
    | .ref i => (match h.get i with
      | some (.lst xs) => (pdAll (pdD h f) xs).map .list
      | some (.dct [] []) => some (.dict [])
      | _ => none)
    | d => pd0 d
/-! ### equal data -/
/-- a list's items | a tuple's | an empty dict -/
def seqOf (h : Hc) : D → Option (Nat × List D)
  | .tup xs => some (0, xs)
  | .lst xs => some (1, xs)
  | .cst xs => some (1, xs)
  | .dct [] [] => some (2, [])
  | .ref i => (match h.get i with
    | some (.lst xs) => some (1, xs)
    | some (.dct [] []) => some (2, [])
    | _ => none)
  | _ => none
def sq0 : D → D → Bool
  | .non, .non => true
  | .bl true, .bl true => true
  | .bl false, .bl false => true
  | .int i, .int j => iEq i j
  | .str s, .str t => sEq s t
  | _, _ => false
def sqAll (r : D → D → Bool) : List D → List D → Bool
  | [], [] => true
  | x :: xs, y :: ys => (match r x y with
    | true => sqAll r xs ys | false => false)
  | _, _ => false
/-- the same data -/
def sqD (h : Hc) : Nat → D → D → Bool
  | 0, a, b => sq0 a b
  | f + 1, a, b => match seqOf h a with
    | some (k, xs) => (match seqOf h b with
      | some (l, ys) => (match Nat.beq k l with
        | true => sqAll (sqD h f) xs ys | false => false)
      | none => false)
    | none => (match seqOf h b with
      | some _ => false
      | none => sq0 a b)
theorem sq0_pd {a b : D} (h : sq0 a b = true) : pd0 a = pd0 b := by
  cases a <;> cases b <;> first | rfl | (simp [sq0] at h; done) | skip
  · rename_i x y; cases x <;> cases y <;> first | rfl | (simp [sq0] at h; done)
  · rename_i i j
    have e : iEq i j = true := h
    rw [iEq_eq, decide_eq_true_eq] at e
    rw [e]
  · rename_i s t
    have e : sEq s t = true := h
    rw [sEq_eq, decide_eq_true_eq] at e
    rw [e]
theorem sqAll_pd {r : D → D → Bool} {p : D → Option PyData} (hr : ∀ a b, r a b = true → p a = p b) : ∀ {xs ys : List D}, sqAll r xs ys = true → pdAll p xs = pdAll p ys
  | [], [], _ => rfl
  | [], _ :: _, h => by cases h
  | _ :: _, [], h => by cases h
  | x :: xs, y :: ys, h => by
    have h' : (match r x y with
      | true => sqAll r xs ys | false => false) = true := h
    cases q : r x y with
    | false => rw [q] at h'; cases h'
    | true =>
      rw [q] at h'
      unfold pdAll
      rw [hr _ _ q, sqAll_pd hr h']
def pdOf (h : Hc) (f : Nat) : Nat → List D → Option PyData
  | 0, xs => (pdAll (pdD h f) xs).map .tuple
  | 1, xs => (pdAll (pdD h f) xs).map .list
  | _, _ => some (.dict [])
theorem pdD_seq {h : Hc} {f : Nat} {d : D} {k : Nat} {xs : List D} (e : seqOf h d = some (k, xs)) : pdD h (f + 1) d = pdOf h f k xs := by
  cases d with
  | tup ys => cases e; rfl
  | lst ys => cases e; rfl
  | cst ys => cases e; rfl
  | dct ks vs =>
    cases ks with
    | cons _ _ => cases e
    | nil =>
      cases vs with
      | cons _ _ => cases e
      | nil => cases e; rfl
  | ref i =>
    have e' : (match h.get i with
      | some (.lst xs) => some (1, xs)
      | some (.dct [] []) => some (2, [])
      | _ => none) = some (k, xs) := e
    show (match h.get i with
      | some (.lst xs) => (pdAll (pdD h f) xs).map PyData.list
      | some (.dct [] []) => some (PyData.dict [])
      | _ => none) = _
    cases q : h.get i with
    | none => rw [q] at e'; cases e'
    | some c =>
      rw [q] at e'
      cases c with
      | lst ys => cases e'; rfl
      | dct ks vs =>
        cases ks with
        | cons _ _ => cases e'
        | nil =>
          cases vs with
          | cons _ _ => cases e'
          | nil => cases e'; rfl
      | ins _ _ _ => cases e'
      | tbl _ => cases e'
  | _ => cases e
theorem pdD_none {h : Hc} {f : Nat} {d : D} (e : seqOf h d = none) : pdD h (f + 1) d = pd0 d := by
  cases d with
  | tup ys => cases e
  | lst ys => cases e
  | cst ys => cases e
  | dct ks vs =>
    cases ks with
    | cons _ _ => rfl
    | nil =>
      cases vs with
      | cons _ _ => rfl
      | nil => cases e
  | ref i =>
    have e' : (match h.get i with
      | some (.lst xs) => some (1, xs)
      | some (.dct [] []) => some (2, [])
      | _ => none) = none := e
    show (match h.get i with
      | some (.lst xs) => (pdAll (pdD h f) xs).map PyData.list
      | some (.dct [] []) => some (PyData.dict [])
      | _ => none) = none
    cases q : h.get i with
    | none => rfl
    | some c =>
      rw [q] at e'
      cases c with
      | lst ys => cases e'
      | dct ks vs =>
        cases ks with
        | cons _ _ => rfl
        | nil =>
          cases vs with
          | cons _ _ => rfl
          | nil => cases e'
      | ins _ _ _ => rfl
      | tbl _ => rfl
  | _ => rfl
theorem sq_pd {h : Hc} : ∀ (f : Nat) {a b : D}, sqD h f a b = true → pdD h f a = pdD h f b
  | 0, a, b, e => sq0_pd e
  | f + 1, a, b, e => by
    have e' : (match seqOf h a with
    | some (k, xs) => (match seqOf h b with
      | some (l, ys) => (match Nat.beq k l with
        | true => sqAll (sqD h f) xs ys | false => false)
      | none => false)
    | none => (match seqOf h b with
      | some _ => false
      | none => sq0 a b)) = true := e
    cases qa : seqOf h a with
    | none =>
      rw [qa] at e'
      cases qb : seqOf h b with
      | some _ => rw [qb] at e'; cases e'
      | none =>
        rw [qb] at e'
        rw [pdD_none qa, pdD_none qb]
        exact sq0_pd e'
    | some p =>
      obtain ⟨k, xs⟩ := p
      rw [qa] at e'
      cases qb : seqOf h b with
      | none => rw [qb] at e'; cases e'
      | some q =>
        obtain ⟨l, ys⟩ := q
        rw [qb] at e'
        simp only at e'
        cases z : Nat.beq k l with
        | false => rw [z] at e'; cases e'
        | true =>
          rw [z] at e'
          have ek : k = l := Nat.eq_of_beq_eq_true z
          subst ek
          have e3 : pdAll (pdD h f) xs = pdAll (pdD h f) ys := sqAll_pd (fun _ _ w => sq_pd f w) e'
          rw [pdD_seq qa, pdD_seq qb]
          cases k with
          | zero => show Option.map _ _ = Option.map _ _; rw [e3]
          | succ k => cases k with
            | zero => show Option.map _ _ = Option.map _ _; rw [e3]
            | succ k => rfl
/-! ### how such data lie -/
/-- the value reads as the data; its repr is told -/
structure Tells (h₀ : Heap) (f n : Nat) (u : Value) (p : PyData) : Prop where
  rp : Rp h₀ n f u
  reads : ∃ as, Reads h₀ u p as
  depth : p.depth ≤ f
  short : p.shown.length ≤ n
  k : n ≤ sizeLine → ∃ bs, ReadAtMost h₀ p.depth bs ∧ ∀ (prog : Program) (w : World), ReprK prog w bs h₀ p.depth u p.shown
  o : n ≤ sizeLine → ∀ (prog : Program) (w : World) (A : Around) (E : Value → Shared → Prop) (s : Shared) (Q : Value → Shared → Prop), A.guards = some [] → A.units + p.depth < cLine → KeepsH h₀ s.heap →
    (∀ (h' : Heap) (u tk : Tok), KeepsH s.heap h' → Q (.str p.shown u) { s with heap := h', toks := tk }) → wpAny (model prog w) A (pyReprObj u) Q E s
  r : n ≤ sizeLine → ∀ (prog : Program) (w : World) (A : Around) (E : Value → Shared → Prop) (s : Shared) (Q : Value → Shared → Prop), A.guards = some [] → A.units + (p.depth + 1) < cLine → KeepsH h₀ s.heap →
    (∀ (h' : Heap) (u tk : Tok), KeepsH s.heap h' → Q (.str p.shown u) { s with heap := h', toks := tk }) → wpAny (model prog w) A (call (.builtin "repr") [u]) Q E s
inductive TellsAll (h₀ : Heap) (f : Nat) : Nat → List Value → List PyData → Prop
  | nil : TellsAll h₀ f 0 [] []
  | cons {n m : Nat} {u : Value} {p : PyData} {us : List Value} {ps : List PyData} : Tells h₀ f n u p → TellsAll h₀ f m us ps → TellsAll h₀ f (n + 2 + m) (u :: us) (p :: ps)
section
variable {h₀ : Heap} {f : Nat}
theorem TellsAll.some : ∀ {m : Nat} {us : List Value} {ps : List PyData}, TellsAll h₀ f m us ps → ∀ (prog : Program) (w : World), SomeAll prog w h₀ f m us
  | _, _, _, .nil, _, _ => .nil
  | _, _, _, .cons t r, prog, w => .cons (t.rp.under) (r.some prog w)
theorem TellsAll.reads : ∀ {m : Nat} {us : List Value} {ps : List PyData}, TellsAll h₀ f m us ps → ∃ as, ReadsAll h₀ us ps as
  | _, _, _, .nil => ⟨_, .nil⟩
  | _, _, _, .cons t r => let ⟨_, a⟩ := t.reads; let ⟨_, b⟩ := r.reads; ⟨_, .cons a b⟩
theorem TellsAll.depth : ∀ {m : Nat} {us : List Value} {ps : List PyData}, TellsAll h₀ f m us ps → PyData.depthAll ps ≤ f
  | _, _, _, .nil => Nat.zero_le _
  | _, _, _, .cons t r => by have := t.depth; have := r.depth; simp only [PyData.depthAll]; omega
theorem TellsAll.piled : ∀ {m : Nat} {us : List Value} {ps : List PyData}, TellsAll h₀ f m us ps → PySem.piled (PyData.shownAll ps) ≤ m
  | _, _, _, .nil => Nat.zero_le _
  | _, _, _, .cons t r => by have := t.short; have := r.piled; simp only [PyData.shownAll, piled_cons]; omega
theorem TellsAll.k : ∀ {m : Nat} {us : List Value} {ps : List PyData}, TellsAll h₀ f m us ps → m ≤ sizeLine → ∃ bs, ReadAtMost h₀ (PyData.depthAll ps) bs ∧ ∀ (prog : Program) (w : World), ReprAllK prog w bs h₀ (PyData.depthAll ps) us (PyData.shownAll ps)
  | _, _, _, .nil, _ => ⟨[], (fun _ h => nomatch h), fun _ _ => by simp only [PyData.shownAll]; exact .nil⟩
  | _, _, _, .cons (p := p) (ps := ps) t r, hz => by
    obtain ⟨b1, h1, k1⟩ := t.k (by omega)
    obtain ⟨b2, h2, k2⟩ := r.k (by omega)
    refine ⟨b1 ++ b2, ?_, fun prog w => ?_⟩
    · simp only [PyData.depthAll]
      exact (h1.mono (Nat.le_max_left _ _)).append (h2.mono (Nat.le_max_right _ _))
    · simp only [PyData.depthAll, PyData.shownAll] at ⊢
      exact .cons (((k1 prog w).more fun b hb => List.mem_append_left _ hb).level_le (Nat.le_max_left _ _)) ((k2 prog w).more_le (fun b hb => List.mem_append_right _ hb) (Nat.le_max_right _ _))
theorem tells_tup {a : Addr} {o : Obj} {items : Array Value} {n m : Nat} {ps : List PyData} (ha : h₀.get? a = some o) (hc : o.cls = .type "tuple") (hd : o.data = .seq items n) (t : TellsAll h₀ f m items.toList ps) : Tells h₀ (f + 1) (m + 5) (.ref a) (.tuple ps) := by
  obtain ⟨as, rs⟩ := t.reads
  have r : Reads h₀ (.ref a) (.tuple ps) _ := .tuple ha hc hd rs
  have hdp := t.depth
  have hpl := t.piled
  have hl := tup_len (PyData.shownAll ps)
  have dp : (PyData.tuple ps).depth = PyData.depthAll ps + 1 := by simp only [PyData.depth]
  have sh : (PyData.tuple ps).shown = tupleText (PyData.shownAll ps) := by simp only [PyData.shown]
  refine ⟨.tup ha hc hd t.some, ⟨_, r⟩, by omega, by rw [sh]; omega, fun hz => ?_, fun hz prog w A E s Q hg hu hk hq => ?_, fun hz prog w A E s Q hg hu hk hq => ?_⟩
  · obtain ⟨bs, hb, hk⟩ := t.k (by omega)
    have hna : a ∉ bs := not_mem_of_deeper r (by omega) hb
    refine ⟨a :: bs, ReadAtMost.cons r (by omega) hb, fun prog w => ?_⟩
    rw [dp, sh]
    exact ReprK.tuple ha hc hd hna (hk prog w)
  · obtain ⟨bs, hb, hk2⟩ := t.k (by omega)
    have hna : a ∉ bs := not_mem_of_deeper r (by omega) hb
    rw [sh] at hq
    exact wpAny_pyReprObj_tupleK ha hc hd hna (hk2 prog w) hg (fun b _ => Clear.nil b) (by omega) hk (fun h' u tk hk' => hq h' u tk hk') (by omega)
  · obtain ⟨bs, hb, hk2⟩ := t.k (by omega)
    have hna : a ∉ bs := not_mem_of_deeper r (by omega) hb
    rw [sh] at hq
    exact call_repr_slot (by omega) ⟨_, hk _ _ ha, hc⟩ F.slot_tuple_repr (call_tuple_reprK (A := A.in1) ha hc hd hna (hk2 prog w) hg (fun b _ => Clear.nil b) (by show A.units + 1 + _ < cLine; omega) hk (fun h' u tk hk' => ⟨_, _, rfl, hq h' u tk hk'⟩) (by omega))
theorem tells_lst {a : Addr} {o : Obj} {items : Array Value} {n m : Nat} {ps : List PyData} (ha : h₀.get? a = some o) (hc : o.cls = .type "list") (hd : o.data = .seq items n) (t : TellsAll h₀ f m items.toList ps) : Tells h₀ (f + 1) (m + 5) (.ref a) (.list ps) := by
  obtain ⟨as, rs⟩ := t.reads
  have r : Reads h₀ (.ref a) (.list ps) _ := .list ha hc hd rs
  have hdp := t.depth
  have hpl := t.piled
  have hl := lst_len (PyData.shownAll ps)
  have dp : (PyData.list ps).depth = PyData.depthAll ps + 1 := by simp only [PyData.depth]
  have sh : (PyData.list ps).shown = listText (PyData.shownAll ps) := by simp only [PyData.shown]
  refine ⟨.lst ha hc hd t.some, ⟨_, r⟩, by omega, by rw [sh]; omega, fun hz => ?_, fun hz prog w A E s Q hg hu hk hq => ?_, fun hz prog w A E s Q hg hu hk hq => ?_⟩
  · obtain ⟨bs, hb, hk⟩ := t.k (by omega)
    have hna : a ∉ bs := not_mem_of_deeper r (by omega) hb
    refine ⟨a :: bs, ReadAtMost.cons r (by omega) hb, fun prog w => ?_⟩
    rw [dp, sh]
    obtain ⟨l⟩ := items
    cases l with
    | nil =>
      have rs' : ReadsAll h₀ [] ps _ := rs
      cases rs'
      simp only [PyData.shownAll, listText_nil] at ⊢
      exact ReprK.listEmpty ha hc hd
    | cons x l => exact ReprK.list ha hc hd hna (by simpa using (hk prog w).length_eq) (fun i y e => (hk prog w).item i y (by simpa using e))
  · obtain ⟨bs, hb, hk2⟩ := t.k (by omega)
    have hna : a ∉ bs := not_mem_of_deeper r (by omega) hb
    rw [sh] at hq
    obtain ⟨l⟩ := items
    cases l with
    | nil =>
      have rs' : ReadsAll h₀ [] ps _ := rs
      cases rs'
      simp only [PyData.shownAll, listText_nil] at hq
      exact wpAny_pyReprObj_list_empty ⟨_, hk _ _ ha, hc⟩ (by omega) (hk _ _ ha) hd (hq s.heap _ _ fun _ _ e => e)
    | cons x l => exact wpAny_pyReprObj_listK ha hc hd hna (by simpa using (hk2 prog w).length_eq) (fun i y e => (hk2 prog w).item i y (by simpa using e)) hg (fun b _ => Clear.nil b) (by omega) hk (fun h' u tk hk' => hq h' u tk hk') (by omega)
  · obtain ⟨bs, hb, hk2⟩ := t.k (by omega)
    have hna : a ∉ bs := not_mem_of_deeper r (by omega) hb
    rw [sh] at hq
    refine call_repr_slot (by omega) ⟨_, hk _ _ ha, hc⟩ F.slot_list_repr.toG ?_
    obtain ⟨l⟩ := items
    cases l with
    | nil =>
      have rs' : ReadsAll h₀ [] ps _ := rs
      cases rs'
      simp only [PyData.shownAll, listText_nil] at hq
      exact call_list_repr_empty ⟨_, hk _ _ ha, hc⟩ (hk _ _ ha) hd ⟨_, _, rfl, hq s.heap _ _ fun _ _ e => e⟩
    | cons x l => exact call_list_reprK (A := A.in1) ha hc hd hna (by simpa using (hk2 prog w).length_eq) (fun i y e => (hk2 prog w).item i y (by simpa using e)) hg (fun b _ => Clear.nil b) (by show A.units + 1 + _ < cLine; omega) hk (fun h' u tk hk' => ⟨_, _, rfl, hq h' u tk hk'⟩) (by omega)
theorem tells_dct {a : Addr} {o : Obj} {n : Nat} (ha : h₀.get? a = some o) (hc : o.cls = .type "dict") (hd : o.data = .dict #[] n) (hs : (a == sysModules) = false) : Tells h₀ (f + 1) 5 (.ref a) (.dict []) := by
  have r : Reads h₀ (.ref a) (.dict []) _ := .dict (kvs := []) ha hc hd (by exact .nil) (by exact .nil)
  have dp : (PyData.dict []).depth = 1 := by simp only [PyData.depth, PyData.depthKv]
  have sh : (PyData.dict []).shown = dictText [] := by simp only [PyData.shown, PyData.shownKv]
  have hl : (dictText []).length ≤ 5 := by decide +kernel
  refine ⟨.dct ha hc hd hs, ⟨_, r⟩, by omega, by rw [sh]; exact hl, fun _ => ⟨[a], ?_, fun prog w => ?_⟩, fun _ prog w A E s Q hg hu hk hq => ?_, fun _ prog w A E s Q hg hu hk hq => ?_⟩
  · exact ReadAtMost.cons r (Nat.zero_le _) (n := 0) fun b hb => absurd hb (by simp)
  · rw [dp, sh]
    exact ReprK.dict (d := 0) (as := []) ha hc hd hs (by simp) .nil
  · rw [sh] at hq
    exact wpAny_pyReprObj_dictK (as := []) (d := 0) ha hc hd hs (by simp) .nil hg (fun b _ => Clear.nil b) (by omega) hk (fun h' u tk hk' => hq h' u tk hk') (by rw [sizeLine_eq]; omega)
  · rw [sh] at hq
    exact call_repr_slot (by omega) ⟨_, hk _ _ ha, hc⟩ F.slot_dict_repr (call_dict_reprK (A := A.in1) (as := []) (d := 0) ha hc hd hs (by simp) .nil hg (fun b _ => Clear.nil b) (by show A.units + 1 + (0 + 1) < cLine; omega) hk (fun h' u tk hk' => ⟨_, _, rfl, hq h' u tk hk'⟩) (by rw [sizeLine_eq]; omega))
end
end EV
end S_EvL
section S_EvM
/-! EvM: data of the evaluator tell their reprs. -/
namespace EV
open PySem PySem.Spec PyProof.Rows L2 Evl
section
variable {P : Pm} {X : Cx} {g : G} {h : Hc} {H : Hp} {pins : List (Addr × Obj)} {σ : L2.St} {s : Shared}
theorem okS_ok : ∀ {l : List Nat}, okS l = true → ∀ c ∈ l, c < 16 ^ 8
  | [], _, _, hc => absurd hc (by simp)
  | x :: r, h, c, hc => by
    have h' : (match Nat.ble x 1114111 with
      | true => okS r | false => false) = true := h
    cases q : Nat.ble x 1114111 with
    | false => rw [q] at h'; cases h'
    | true =>
      rw [q] at h'
      have := Nat.le_of_ble_eq_true q
      rcases List.mem_cons.mp hc with e | e
      · subst e; omega
      · exact okS_ok h' c e
theorem tells0 {h₀ : Heap} {f n : Nat} {d : D} {x : V} {u : Value} (hz : n ≤ sizeLine) (r : RV P g.F g.ρ d x) (ru : RelV x u) (e : rp0 d = some n) : ∃ p, pd0 d = some p ∧ Tells h₀ f n u p := by
  cases r with
  | non => cases ru; cases e; exact ⟨_, rfl, ⟨.non, ⟨_, .none⟩, Nat.zero_le _, by simp only [PyData.shown]; decide +kernel, fun _ => ⟨[], (fun _ h => nomatch h), fun _ _ => by simp only [PyData.shown]; exact .of_is ReprIs.none _ _ _⟩, fun _ _ _ _ _ s Q _ _ _ hq => by simp only [PyData.shown] at hq; exact pyReprObj_none (hq s.heap _ _ fun _ _ e => e), fun _ _ _ _ _ s Q _ _ _ hq => by simp only [PyData.shown] at hq; exact PySem.P.repr_of_none (hq s.heap _ _ fun _ _ e => e)⟩⟩
  | bl b => cases ru; cases e; exact ⟨_, rfl, ⟨.bl b, ⟨_, .bool b⟩, Nat.zero_le _, by simp only [PyData.shown]; cases b <;> decide +kernel, fun _ => ⟨[], (fun _ h => nomatch h), fun _ _ => by simp only [PyData.shown]; exact .of_is (ReprIs.bool b) _ _ _⟩, fun _ _ _ _ _ s Q _ _ _ hq => by simp only [PyData.shown] at hq; exact pyReprObj_bool (hq s.heap _ _ fun _ _ e => e), fun _ _ _ _ _ s Q _ _ _ hq => by simp only [PyData.shown] at hq; exact PySem.P.repr_of_bool (hq s.heap _ _ fun _ _ e => e)⟩⟩
  | int i =>
    obtain ⟨t, rfl⟩ := ru
    have e' : (match small i with
      | true => some 100 | false => none) = some n := e
    cases q : small i with
    | false => rw [q] at e'; cases e'
    | true =>
      rw [q] at e'; cases e'
      have hb := Nat.le_of_ble_eq_true q
      have hlog : i.natAbs.log2 < 64 := by
        by_cases z : i.natAbs = 0
        · rw [z]; decide
        · exact (Nat.log2_lt z).mpr (by omega)
      have hl : (Str.ofString (toString i)).length ≤ 100 := by
        have := int_text_length_le (k := 64) (by decide) hlog
        rw [PySem.ofString_length]; omega
      have sh : (PyData.int i).shown = Str.ofString (toString i) := by simp only [PyData.shown]
      exact ⟨_, rfl, ⟨.int i t (by omega) hl, ⟨_, .int i t⟩, Nat.zero_le _, by rw [sh]; exact hl, fun _ => ⟨[], (fun _ h => nomatch h), fun _ _ => by rw [sh]; exact .of_is (ReprIs.int t (by omega)) _ _ _⟩, fun _ _ _ _ _ s Q _ _ _ hq => by rw [sh] at hq; exact pyReprObj_int (by omega) (hq s.heap _ _ fun _ _ e => e), fun _ _ _ _ _ s Q _ _ _ hq => by rw [sh] at hq; exact PySem.P.repr_of_int (by omega) (hq s.heap _ _ fun _ _ e => e)⟩⟩
  | str y =>
    obtain ⟨t, rfl⟩ := ru
    have e' : (match okS y with
      | true => some (10 * y.length + 2) | false => none) = some n := e
    cases q : okS y with
    | false => rw [q] at e'; cases e'
    | true =>
      rw [q] at e'; cases e'
      have hl : (reprText (toStr y)).length ≤ 10 * y.length + 2 := by
        have e1 : (toStr y).length = y.length := by show y.toArray.size = _; simp
        rw [← e1]
        exact StrLaws.reprText_len (toStr y) fun c hc => okS_ok q c (by simpa [toStr] using hc)
      have sh : (PyData.str (toStr y)).shown = reprText (toStr y) := by simp only [PyData.shown]
      exact ⟨_, rfl, ⟨.str _ t (by omega) hl, ⟨_, .str _ t⟩, Nat.zero_le _, by rw [sh]; exact hl, fun _ => ⟨[], (fun _ h => nomatch h), fun _ _ => by rw [sh]; exact .of_is (ReprIs.str _ t (by omega)) _ _ _⟩, fun _ _ _ _ _ s Q _ _ _ hq => by rw [sh] at hq; exact pyReprObj_str (hq s.heap _ _ fun _ _ e => e) (by omega), fun _ _ _ _ _ s Q _ _ _ hq => by rw [sh] at hq; exact PySem.P.repr_of_str (hq s.heap _ _ fun _ _ e => e) (by omega)⟩⟩
  | _ => cases e
theorem rk_nil {kvs : List (Key × V)} {F : Hp} {ρ : Nat → Option Addr} (r : RKs P F ρ [] [] kvs) : kvs = [] := by cases r; rfl
theorem rn_nil {kvs : List (NestedKey × Addr × V)} {F : Hp} {ρ : Nat → Option Addr} (r : RNs P F ρ [] [] kvs) : kvs = [] := by cases r; rfl
/-- an empty dict's object -/
theorem dl_nil {a : Addr} (I : Inv X pins σ H s) (l : DL P g H a [] []) : ∃ o n, s.heap.get? a = some o ∧ o.cls = .type "dict" ∧ o.data = .dict #[] n ∧ (a == sysModules) = false := by
  cases l with
  | k hr r =>
    have ek := rk_nil r
    subst ek
    have go : ObjOk X.prog X.w H s.heap a (.dK []) := by
      rcases hr with hr | ⟨o, hr⟩
      · exact I.hok _ _ hr
      · exact (I.hok _ _ hr).2
    obtain ⟨_, hs, vs, hv, o, es, ep, ho, hc, hd, _, hp, _⟩ := go
    cases hv
    have hn : es.toList = [] := by
      cases q : es.toList with
      | nil => rfl
      | cons y r => rw [q] at hp; cases hp
    have he : es = #[] := by simpa using hn
    subst he
    exact ⟨o, ep, ho, hc.1, hd, hs⟩
  | n ha ne r => exact absurd (rn_nil r) ne
def okZ (n : Nat) : Bool := Nat.ble n 100000
theorem rpAll_le {r : D → Option Nat} : ∀ {xs : List D} {m : Nat} {x : D} {n : Nat}, rpAll r xs = some m → x ∈ xs → r x = some n → n ≤ m
  | [], _, _, _, _, hx, _ => absurd hx (by simp)
  | y :: ys, m, x, n, e, hx, hr => by
    have e' : (match r y with
    | some n => (match rpAll r ys with
      | some m => some (n + 2 + m) | none => none)
    | none => none) = some m := e
    cases q : r y with
    | none => rw [q] at e'; cases e'
    | some k =>
      rw [q] at e'
      simp only at e'
      cases q2 : rpAll r ys with
      | none => rw [q2] at e'; cases e'
      | some j =>
        rw [q2] at e'
        obtain rfl :=
            Option.some.inj e'
        rcases List.mem_cons.mp hx with z | z
        · subst z; rw [q] at hr; cases hr; omega
        · have := rpAll_le q2 z hr; omega
theorem tellsAll_of {f : Nat} {r : D → Option Nat} {p : D → Option PyData} {h₀ : Heap} (hr : ∀ {d : D} {x : V} {u : Value} {n : Nat}, n ≤ sizeLine → RV P g.F g.ρ d x → RelV x u → r d = some n → ∃ q, p d = some q ∧ Tells h₀ f n u q) :
    ∀ {xs : List D} {vs : List V} {us : List Value} {m : Nat}, m ≤ sizeLine → RVs P g.F g.ρ xs vs → Vals vs us → rpAll r xs = some m → ∃ ps, pdAll p xs = some ps ∧ TellsAll h₀ f m us ps
  | _, _, _, _, _, .nil, .nil, e => by cases e; exact ⟨[], rfl, .nil⟩
  | d :: ds, v :: vs, u :: us, m, hz, .cons a as, .cons b bs, e => by
    have e' : (match r d with
    | some n => (match rpAll r ds with
      | some m => some (n + 2 + m) | none => none)
    | none => none) = some m := e
    cases q : r d with
    | none => rw [q] at e'; cases e'
    | some k =>
      rw [q] at e'
      simp only at e'
      cases q2 : rpAll r ds with
      | none => rw [q2] at e'; cases e'
      | some j =>
        rw [q2] at e'
        obtain rfl :=
            Option.some.inj e'
        obtain ⟨x, x1, x2⟩ := hr (by omega) a b q
        obtain ⟨xs, y1, y2⟩ := tellsAll_of hr (by omega) as bs q2
        exact ⟨x :: xs, by simp [pdAll, x1, y1], .cons x2 y2⟩
theorem add5_ok {o : Option Nat} {n : Nat} (h : add5 o = some n) : ∃ m, o = some m ∧ n = m + 5 := by
  cases o with
  | none => cases h
  | some m => exact ⟨m, rfl, (Option.some.inj h).symm⟩
theorem tells_ok (I : Inv X pins σ H s) (hs : HS P g h H) (hK : X.K = P.K) : ∀ (f : Nat) {d : D} {x : V} {u : Value} {n : Nat}, n ≤ sizeLine → RV P g.F g.ρ d x → RelV x u → rpD h f d = some n → ∃ p, pdD h f d = some p ∧ Tells s.heap f n u p
  | 0, d, x, u, n, hz, r, ru, e => tells0 hz r ru e
  | f + 1, d, x, u, n, hz, r, ru, e => by
    have lists : ∀ {a : Addr} {vs : List V} {xs : List D}, SqL X.K H a vs → RVs P g.F g.ρ xs vs → add5 (rpAll (rpD h f) xs) = some n → ∃ p, (pdAll (pdD h f) xs).map PyData.list = some p ∧ Tells s.heap (f + 1) n (.ref a) p := fun {a vs xs} h1 rr e => by
      obtain ⟨m, e1, rfl⟩ := add5_ok e
      obtain ⟨its, rv, ⟨o, k, ho, hc, _, hd⟩, _⟩ := I.list h1
      obtain ⟨ps, p1, p2⟩ := tellsAll_of (fun hz => tells_ok I hs hK f hz) (by omega) rr rv e1
      exact ⟨.list ps, by rw [p1]; rfl, tells_lst ho hc hd p2⟩
    have empty : ∀ {a : Addr}, DL P g H a [] [] → n = 5 → ∃ p, some (PyData.dict []) = some p ∧ Tells s.heap (f + 1) n (.ref a) p := fun {a} l e => by
      subst e
      obtain ⟨o, k, ho, hc, hd, hsm⟩ := dl_nil I l
      exact ⟨_, rfl, tells_dct ho hc hd hsm⟩
    cases r with
    | non => exact tells0 (P := P) (g := g) hz .non ru e
    | bl b => exact tells0 (P := P) (g := g) hz (.bl b) ru e
    | int i => exact tells0 (P := P) (g := g) hz (.int i) ru e
    | str y => exact tells0 (P := P) (g := g) hz (.str y) ru e
    | glo _ => cases e
    | @tup a vs xs h1 rr =>
      obtain rfl : u = .ref a := ru
      obtain ⟨m, e1, rfl⟩ := add5_ok e
      obtain ⟨its, rv, ⟨o, ho, hc, k, hd⟩, _⟩ := I.tuple (show SqT X.K H a vs by rw [hK]; exact ex_t hs.fr h1)
      obtain ⟨ps, p1, p2⟩ := tellsAll_of (fun hz => tells_ok I hs hK f hz) (by omega) rr rv e1
      exact ⟨.tuple ps, by show Option.map _ _ = _; rw [p1]; rfl, tells_tup ho hc hd p2⟩
    | @lst a vs xs h1 rr =>
      obtain rfl : u = .ref a := ru
      exact lists (SqL.of (hs.fr _ _ h1)) rr e
    | @cst a vs xs h1 rr =>
      obtain rfl : u = .ref a := ru
      exact lists (show SqL X.K H a vs by rw [hK]; exact ex_l hs.fr h1) rr e
    | @dct a ks vs kvs o h1 rr =>
      obtain rfl : u = .ref a := ru
      cases ks with
      | cons _ _ => cases e
      | nil =>
        cases vs with
        | cons _ _ => cases rr
        | nil => exact empty (.k (.inr ⟨_, hs.fr _ _ h1⟩) rr) (Option.some.inj e).symm
    | @dctN a ks vs kvs o h1 ne rr =>
      cases ks with
      | cons _ _ => cases e
      | nil => cases rr; exact absurd rfl ne
    | @ref i a hr =>
      obtain rfl : u = .ref a := ru
      have e' : (match h.get i with
      | some (.lst xs) => add5 (rpAll (rpD h f) xs)
      | some (.dct [] []) => some 5
      | _ => none) = some n := e
      show ∃ p, (match h.get i with
        | some (.lst xs) => (pdAll (pdD h f) xs).map PyData.list
        | some (.dct [] []) => some (PyData.dict [])
        | _ => none) = some p ∧ _
      cases q : h.get i with
      | none => rw [q] at e'; cases e'
      | some c =>
        cases c with
        | lst xs =>
          rw [q] at e'
          obtain ⟨b, vs, b1, _, b3, b4⟩ := hs.lst q
          rw [hr] at b1; cases b1
          exact lists (SqL.of b3) b4 e'
        | dct ks vs =>
          rw [q] at e'
          cases ks with
          | cons _ _ => cases e'
          | nil =>
            cases vs with
            | cons _ _ => cases e'
            | nil =>
              obtain ⟨b, b1, b2, b3⟩ := hs.dct q
              rw [hr] at b1; cases b1
              rcases b3 with ⟨kvs, b3, rr⟩ | ⟨kvs, ob, b3, ne, rr⟩
              · exact empty (.k (.inl b3) rr) (Option.some.inj e').symm
              · exact empty (.n b3 ne rr) (Option.some.inj e').symm
        | ins _ _ _ => rw [q] at e'; cases e'
        | tbl _ => rw [q] at e'; cases e'
end
end EV
end S_EvM
section S_EvN
/-! EvN: __init__ of an own error: super().__init__(f'..{x!r}'), self.x = x. -/
namespace EV
open PySem PySem.Spec PyProof.Rows L2 Evl
/-- what the written part says of an error class at C whose __init__ stands at f -/
structure ErrF (prog : Program) (K : PySem.W.Frag) (C f : Addr) (x : Str) (qual : Str) (body : List Stmt) (scope : Scope) (fd : FuncData) : Prop where
  T : OexC K C
  iC : PySem.W.findIn K (.ref C) "__init__" = some (some (.ref f))
  tI : PySem.W.typeIn K (.ref f) = some (.type "function")
  fn : ∃ (name : Str) (params : Arguments) (dV kV doc pm ct oc : Value) (an od : Option Addr) (osl : Array (Option Value)) (cc cda : Addr) (ccl : Value) (cdd : Option Addr) (vs : Array Value) (ccs : Array (Option Value)) (file : Str) (tf : Tok) (cl : Value) (cld : Option Addr) (csl : Array (Option Value)) (ar : Arg),
    fd = PySem.W.ksFn name qual params body scope dV kV doc pm an (.ref cda) ct cc ∧ K.lookup f = some ⟨oc, od, .func fd, osl⟩ ∧ PySem.W.codeIn K (.ref cda) qual = true ∧ K.lookup cda = some ⟨ccl, cdd, .fields vs, ccs⟩ ∧ vs[2]? = some (.str file tf) ∧ ((prog.main.file : Str) == file) = true ∧
    K.lookup cc = some ⟨cl, cld, .cell (some (.ref C)), csl⟩ ∧ (params.posonlyargs ++ params.args).head? = some ar ∧ ar.arg = ("self" : Str)
  sup : PySem.W.ks_superIn K C C "__init__" = some (some (.builtin "ValueError.__init__"))
  isV : PySem.W.subIn K (.ref C) (.type "ValueError") = some true
  isC : PySem.W.mroIn K C (.ref C) = some true
  opq : PySem.W.nsIn K cStatics "thirdparty.any" = some none
  nof : PySem.W.findIn K (.ref C) x = some none
  bind : ∀ (s : Shared) (a b : Value), BindsTo s fd ⟨[a, b], []⟩ [("self", a), (x, b)]
/-- the names of such an __init__ -/
structure ErrS (x : Str) (sc : Scope) (prog : Program) : Prop where
  kind : sc.kind = .function
  co : sc.isCoroutine = false
  gen : sc.isGenerator = false
  names : sc.names = ([(("self" : Str), NameKind.local), (x, NameKind.local), (("__class__" : Str), NameKind.free), (("super" : Str), NameKind.globalImplicit)] : List (Str × NameKind))
  ne : x ≠ ("self" : Str)
  nc : x ≠ ("__class__" : Str)
  ns : x ≠ ("super" : Str)
  nd : (x == ("__debug__" : Str)) = false
  ncd : (x == ("__classdict__" : Str)) = false
  top : (prog.main.scope.names.lookup ("super" : Str)).isSome = false
section
variable {prog : Program} {w : World} {K : PySem.W.Frag} {mg : Str → Option Value} {base : Heap}
abbrev errEnv (qual : Str) (scope : Scope) (L f : Addr) (cda cc : Addr) : Env := PySem.W.ksEnv qual scope L f (.ref cda) cc
/-- its context -/
def errCx (prog : Program) (w : World) (K : PySem.W.Frag) (mg : Str → Option Value) (base : Heap) (x : Str) (qual : Str) (scope : Scope) (f cda cc : Addr) (A : Around) (outer : List Env) (s : Shared) (H : Hp) : Cx where
  prog := prog
  w := w
  K := K
  mg := mg
  base := base
  A := A.deeper (errEnv qual scope s.heap.objs.size f cda cc)
  N := ["self", x]
  s_0 := s
  H_0 := H
  env := errEnv qual scope s.heap.objs.size f cda cc
  outer := outer
  stack := errEnv qual scope s.heap.objs.size f cda cc :: outer
  ex := []
  fn := fun _ => false
  calm := true
  pn := []
  xe := fun _ _ => False
variable {x qual : Str} {scope : Scope} {f cda cc C : Addr} {A : Around} {outer : List Env} {s : Shared} {H : Hp}
theorem ErrS.look (S : ErrS x scope prog) : scope.names.lookup ("self" : Str) = some .local ∧ scope.names.lookup x = some .local ∧ scope.names.lookup ("__class__" : Str) = some .free ∧ scope.names.lookup ("super" : Str) = some .globalImplicit := by
  rw [S.names]
  have h1 : (x == ("self" : Str)) = false := by simpa using S.ne
  have h2 : (("__class__" : Str) == x) = false := by simpa using fun z => S.nc z.symm
  have h3 : (("super" : Str) == x) = false := by simpa using fun z => S.ns z.symm
  have h4 : (("__class__" : Str) == ("self" : Str)) = false := by decide
  have h5 : (("super" : Str) == ("self" : Str)) = false := by decide
  have h6 : (("super" : Str) == ("__class__" : Str)) = false := by decide
  refine ⟨?_, ?_, ?_, ?_⟩ <;> simp [List.lookup, h1, h2, h3, h4, h5, h6]
theorem ErrS.only (S : ErrS x scope prog) {y : Str} (h : scope.names.lookup y = some .cell ∨ scope.names.lookup y = some .free) : y = ("__class__" : Str) := by
  rw [S.names] at h
  have m : ∀ {k}, List.lookup y [(("self" : Str), NameKind.local), (x, .local), (("__class__" : Str), .free), (("super" : Str), .globalImplicit)] = some k → (y, k) ∈ [(("self" : Str), NameKind.local), (x, .local), (("__class__" : Str), .free), (("super" : Str), .globalImplicit)] := fun e => PySem.mem_of_lookup e
  rcases h with h | h
  · have := m h; simp at this
  · have := m h; simpa using this
theorem err_start (S : ErrS x scope prog) (hd : A.handled = none) (e0 : Env0 prog w K mg base A outer s H) {cl : Value} {cld : Option Addr} {csl : Array (Option Value)} (hcc : K.lookup cc = some ⟨cl, cld, .cell (some (.ref C)), csl⟩) {a b : V} {u v : Value} (ra : RelV a u) (rb : RelV b v) {h₁ : Heap} {tk : Nat}
    (hns : h₁.Ns s.heap.objs.size fun y => [(("self" : Str), u), (x, v)].reverse.lookup y) (kp : ∀ b o, s.heap.get? b = some o → h₁.get? b = some o) :
    Inv (errCx prog w K mg base x qual scope f cda cc A outer s H) [] [some a, some b] H { s with heap := h₁, toks := tk } := by
  obtain ⟨l1, l2, l3, l4⟩ := S.look
  have bc : base.get? cc = some ⟨cl, cld, .cell (some (.ref C)), csl⟩ := e0.mod.kin _ _ hcc
  have hx : ∀ {y c}, [(("__class__" : Str), cc)].lookup y = some c → y = ("__class__" : Str) ∧ c = cc := fun {y c} e => by
    have := PySem.mem_of_lookup e
    simpa using this
  have nA : ∀ b : Addr, b ∉ (errCx prog w K mg base x qual scope f cda cc A outer s H).ex := fun b z => absurd (show b ∈ ([] : List Addr) from z) (by simp)
  refine ⟨⟨e0.mod, S.kind, rfl, rfl, Nat.le_refl _, fun y z c e1 e2 => ?_, fun y hy => ?_, fun y c z _ => ?_, fun _ => hd, Around.frames_deeper e0.frames, .inr ⟨rfl, rfl⟩, fun b z => absurd z (nA b), e0.bs, e0.bsz, fun b _ _ => nA b, fun b z => absurd z (nA b), e0.funs, e0.frf⟩,
    rfl, e0.bare, Un.kept kp, ⟨_, hns, fun i y v' e1 e2 e3 => ?_⟩, fun y c e => ?_, e0.hok.fresh (Nat.le_refl _), fun y c e => ?_, fun q hq => absurd (show q ∈ ([] : List (Addr × Obj)) ++ [] from hq) (by simp), e0.hok.kept kp, rfl⟩
  · exact (hx e1).1.trans (hx e2).1.symm
  · have e := S.only (y := y) hy
    subst e
    exact ⟨cc, by simp [errEnv, errCx, List.lookup]⟩
  · have z : false = true := z
    cases z
  · have nx : (x == ("self" : Str)) = false := by simpa using S.ne
    have nx2 : (("self" : Str) == x) = false := by simpa using fun z => S.ne z.symm
    cases i with
    | zero =>
      simp [errCx] at e1 e2
      subst e1; subst e2
      exact ⟨u, ra, .inl ⟨l1, by simp [List.lookup, nx2]⟩⟩
    | succ i =>
      cases i with
      | zero =>
        simp [errCx] at e1 e2
        subst e1; subst e2
        exact ⟨v, rb, .inl ⟨l2, by simp [List.lookup]⟩⟩
      | succ i => simp [errCx] at e1
  · obtain ⟨_, rfl⟩ := hx e
    exact ⟨_, _, kp _ _ (e0.bs _ _ bc).1, rfl⟩
  · obtain ⟨_, rfl⟩ := hx e
    exact (e0.bs _ _ bc).2
end
end EV
end S_EvN
section S_EvO
/-! EvO: super().__init__(..) of an own error. -/
namespace EV
open PySem PySem.Spec PyProof.Rows L2 Evl
section
variable {X : Cx} {pins : List (Addr × Obj)} {σ : L2.St} {H : Hp} {s : Shared} {a C u : Addr} {A : Around}
/-- ValueError.__init__ bound to the error, called -/
theorem mw_call (T : OexC X.K C) (I : Inv X pins σ H s) (e : H a = some (exo a C none)) (hu : s.heap.get? u = some (PySem.W.kxs_mw "ValueError.__init__" a)) {us : List Value} {Q : Value → Shared → Prop} {E : Value → Shared → Prop} (hl : us.length ≤ sizeLine)
    (h : ∀ s', Inv X pins σ H s' → Q .none s') : wpAny (model X.prog X.w) A (call (.ref u) us) Q E s := by
  rcases T.cls with ⟨nm, q, N, bs, bm, sn, sub, ab, col, dd, k0, k1, k2, k3, k5, hC, hbm⟩
  have hC' := I.kIn _ _ hC
  rcases exo_at I.hok e with ⟨t1, ho⟩
  obtain ⟨hp, g, d, t, os⟩ := s
  refine (wpAny_call (codeAny_of_tree ?_))
  show wpAny _ A.in1 (callAny (.ref u) ⟨us, []⟩) _ _ _
  simp only [callAny]
  refine (wpAny_bind (wpAny_load hu ?_))
  simp only [PySem.W.kxs_mw, show (Value.type "method-wrapper" == Value.type "method" || Value.type "method-wrapper" == Value.type "builtin_function_or_method" || Value.type "method-wrapper" == Value.type "method-wrapper") = true by decide, if_true]
  refine (PySem.W.KFB.if_so (by decide) ?_)
  refine wpAny_bind (PySem.W.check_bound_init F.excBase_ValueError.toExcCallFacts hC' ho rfl ?_)
  refine wpAny_bind (wpAny_pure (wpAny_pure ⟨plainId_quiet F.excBase_ValueError.init.plain _, codeAny_builtin F.excBase_ValueError.initEntry ?_⟩))
  rw [Around.under_plainId F.excBase_ValueError.init.plain _]
  refine PySem.W.exc_init_tree (cls := .ref C) (t0 := t1) (dv := none) (c2 := .none) (c3 := .none) (b4 := .bool false) ho hl fun h' k hx _ => ?_
  have J := (I.write (t' := t) (x := a) (e := a) (o := exo a C none) (by rw [e]; exact True.intro) (.inl rfl) k ⟨_, hx⟩ (exo_ok hx))
  have eu : upd H a (exo a C none) = H :=
      by
    funext b
    by_cases hb : b = a
    · rw [hb, upd_same, e]
    · rw [upd_ne hb]
  rw [eu] at J
  exact h _ J
end
section
variable {prog : Program} {w : World} {K : PySem.W.Frag} {mg : Str → Option Value} {base : Heap} {x qual : Str} {scope : Scope} {f cda cc C : Addr} {A : Around} {outer : List Env} {s0 s : Shared} {H0 H : Hp} {body : List Stmt} {a : Addr} {v : V}
theorem isub_self {X : PySem.W.Frag} {h : Heap} {M : Model} (hk : X.In h) {C : Addr} (m : PySem.W.mroIn X C (.ref C) = some true) : PySem.W.Looks M h (isSubtype (.ref C) (.ref C)) true := PySem.W.looks_mroIn hk m
theorem err_super {name : Str} {params : Arguments} {dV kV doc pm ct oc : Value} {an od : Option Addr} {osl : Array (Option Value)} {ccl : Value} {cdd : Option Addr} {vs : Array Value} {ccs : Array (Option Value)} {file : Str} {tf : Tok} {cl : Value} {cld : Option Addr} {csl : Array (Option Value)} {ar : Arg}
    {e : Expr} {p0 p1 p2 p3 p4 : Pos} {ta : TA} {pl : Sem Bool} (S : ErrS x scope prog) (T : OexC K C) (lk : K.lookup f = some ⟨oc, od, .func (PySem.W.ksFn name qual params body scope dV kV doc pm an (.ref cda) ct cc), osl⟩) (lc : K.lookup cda = some ⟨ccl, cdd, .fields vs, ccs⟩) (hvs : vs[2]? = some (.str file tf)) (hfile : ((prog.main.file : Str) == file) = true)
    (lcc : K.lookup cc = some ⟨cl, cld, .cell (some (.ref C)), csl⟩) (hp : (params.posonlyargs ++ params.args).head? = some ar) (har : ar.arg = ("self" : Str)) (sup : PySem.W.ks_superIn K C C "__init__" = some (some (.builtin "ValueError.__init__"))) (isV : PySem.W.subIn K (.ref C) (.type "ValueError") = some true)
    (isC : PySem.W.mroIn K C (.ref C) = some true) (opq : PySem.W.nsIn K cStatics "thirdparty.any" = some none) (hsup : mg "super" = none)
    (I : Inv (errCx prog w K mg base x qual scope f cda cc A outer s0 H0) [] [some (.ref a), some v] H s) (ea : H a = some (exo a C none)) (ha : PA (errCx prog w K mg base x qual scope f cda cc A outer s0 H0) [e] ta) (hta : ta [some (.ref a), some v] H fun ws H1 => ws.length ≤ 1000 ∧ H1 = H)
    (hs : swapsWith (.Call (.Attribute (.Call (.Name "super" p0) [] [] p1) "__init__" p2) [e] [] p3) none p4.line (errEnv qual scope s0.heap.objs.size f cda cc) = pure false := by rfl)
    (hc : eval (.Call (.Attribute (.Call (.Name "super" p0) [] [] p1) "__init__" p2) [e] [] p3) (errEnv qual scope s0.heap.objs.size f cda cc) = (do
      let ov ← attributeBase (.Call (.Name "super" p0) [] [] p1) "__init__" (errEnv qual scope s0.heap.objs.size f cda cc) (eval (.Call (.Name "super" p0) [] [] p1) (errEnv qual scope s0.heap.objs.size f cda cc))
      standAt p2.atName
      let (g, first) ← holding [ov] (getMethod ov "__init__" pl)
      callWith p3 g first (backTo p3 (starEach [e] (errEnv qual scope s0.heap.objs.size f cda cc))) []) := by rfl)
    (he : starEach [e] (errEnv qual scope s0.heap.objs.size f cda cc) = (false, eval e (errEnv qual scope s0.heap.objs.size f cda cc)) :: starEach [] (errEnv qual scope s0.heap.objs.size f cda cc) := by rfl) :
    PySem.wpAt (model prog w) (A.deeper (errEnv qual scope s0.heap.objs.size f cda cc)) (.func body (errEnv qual scope s0.heap.objs.size f cda cc)) (exec (.Expr (.Call (.Attribute (.Call (.Name "super" p0) [] [] p1) "__init__" p2) [e] [] p3) p4) (errEnv qual scope s0.heap.objs.size f cda cc))
      (fun fl s' => fl = .next ∧ Inv (errCx prog w K mg base x qual scope f cda cc A outer s0 H0) [] [some (.ref a), some v] H s') (fun _ _ => False) s := by
  obtain ⟨l1, l2, l3, l4⟩ := S.look
  have KI : K.In s.heap := I.kIn
  rcases T.cls with ⟨nm, q, N, bs, bm, sn, sub, ab, col, dd, k0, k1, k2, k3, k5, hC, hbm⟩
  have hcl : PySem.W.clsIn K C = some { name := nm, bases := bs, mro := .ref C :: bm, ns := N, qualname := q, hasDict := true, slotNames := sn, subclasses := sub, abstract := ab, collection := col, hasDel := false } := by unfold PySem.W.clsIn; rw [hC] <;> rfl
  obtain ⟨t1, ho⟩ := exo_at I.hok ea
  obtain ⟨mb, b1, b2⟩ := I.mod.blt
  refine ks_wpAt_Expr_any (ks_wpAt_MethodCall (pl := pl) ?_ hc) (by show (scope.kind == .module && _) = false; rw [S.kind]; rfl) hs
  refine ks_wpAt_super_base l4 l3 (by decide) rfl (KI _ _ lk) rfl hp rfl (KI _ _ lc) rfl hvs hfile S.top ?_
  refine PySem.W.ks_loadName_global S.kind l4 (Calls.loadGlobal_builtin (env := errEnv qual scope s0.heap.objs.size f cda cc) (I.mod.glob.keeps I.bk) hsup (b1.keeps I.bk) ((b2 "super" (by decide)).trans PyProof.Rows.Boot.super) ⟨rfl, ?_⟩)
  refine wpAny_loadName_free S.kind l3 (c := cc) (v := .ref C) (by simp [errEnv, List.lookup]) ⟨_, KI _ _ lcc, rfl⟩ ?_
  rw [har]
  rcases id I.loc with ⟨m, hn, hl⟩
  obtain ⟨u, ru, lo⟩ := hl 0 "self" (.ref a) rfl rfl (.inl l1)
  obtain rfl : u = .ref a := ru
  rcases lo with ⟨_, hm⟩ | ⟨hk, _⟩
  case inr => exact absurd (show scope.names.lookup ("self" : Str) = _ ∨ scope.names.lookup ("self" : Str) = _ from hk) (by rw [l1]; simp)
  refine wpAny_loadName_local S.kind l1 hn hm ?_
  obtain ⟨hh, g, d, t, os⟩ := s
  refine ks_wpAny_isType_cls (KI _ _ hC) rfl ⟨rfl, ?_⟩
  refine ks_wpAny_call_super (KI _ _ hC) rfl ho rfl (fun c z => by cases z) (isub_self KI isC) (fun h' es k => ?_)
  have I1 : Inv (errCx prog w K mg base x qual scope f cda cc A outer s0 H0) [] [some (.ref a), some v] H ⟨h', g, d, t, os⟩ := I.kept (t' := t) k
  have KI1 : K.In h' := I1.kIn
  obtain ⟨t2, ho2⟩ := exo_at I1.hok ea
  have IA : PySem.W.InstAt h' a _ C none := ⟨ho2, rfl, rfl, trivial⟩
  unfold PySem.W.ks_superIn at sup
  rw [hcl] at sup
  refine PySem.W.kxs_getMethod PySem.W.kxs_ValueError es (PySem.W.looks_opaque KI1 opq) (l₀ := .ref C :: bm) ?_ rfl KI1 sup (IA.type.andThen (PySem.W.looks_subIn KI1 isV)) (PySem.W.ks_ne KI1 IA hcl) (by decide) ?_
  · exact (PySem.W.looks_clsIn KI1 hcl).andThen .now
  have I2 : Inv (errCx prog w K mg base x qual scope f cda cc A outer s0 H0) [] [some (.ref a), some v] H ⟨h'.push (PySem.W.kxs_mw "ValueError.__init__" a), g, d, t + 1, os⟩ := I1.kept (t' := t + 1) fun b o z => Heap.get?_push_of_some _ z
  have I3 : Inv (errCx prog w K mg base x qual scope f cda cc A outer s0 H0) [(h'.objs.size, PySem.W.kxs_mw "ValueError.__init__" a)] [some (.ref a), some v] H ⟨h'.push (PySem.W.kxs_mw "ValueError.__init__" a), g, d, t + 1, os⟩ := by
    refine I2.pins_of fun p hp => ?_
    have hp' : p = (h'.objs.size, PySem.W.kxs_mw "ValueError.__init__" a) := by simpa using hp
    subst hp'
    exact ⟨Heap.get?_push_size _ rfl, I1.hok.fresh (Nat.le_refl _), Nat.ne_of_gt I1.lt, I1.nofs (Nat.le_refl _), fun v z => by cases z⟩
  show wpAny _ _ (callWith p3 (.ref h'.objs.size) [] (backTo p3 (starEach [e] (errEnv qual scope s0.heap.objs.size f cda cc))) []) _ _ _
  have hr := ha.run p3 [(h'.objs.size, PySem.W.kxs_mw "ValueError.__init__" a)] _ _ H _ I3 hta
  rw [show starEach [e] (errCx prog w K mg base x qual scope f cda cc A outer s0 H0).env = (false, eval e (errEnv qual scope s0.heap.objs.size f cda cc)) :: starEach [] (errEnv qual scope s0.heap.objs.size f cda cc) from he] at hr
  rw [he]
  refine PySem.W.kxs_callWith (i := "ValueError.__init__") (x := a) rfl (Calls.evalArgs_plain (thn hr fun us s2 ⟨ws, H1, I4, r, hz, eH⟩ => ?_))
  subst eH
  have pn := I4.pin (h'.objs.size, PySem.W.kxs_mw "ValueError.__init__" a) (by simp)
  refine ⟨pn.1, mw_call T I4 ea pn.1 (by show us.length ≤ sizeLine; rw [← r.length, sizeLine_eq]; omega) fun s' J => ?_⟩
  exact ⟨rfl, J.pins_of fun p hp => absurd hp (by simp)⟩
end
end EV
end S_EvO
section S_EvP
/-! EvP: raise of an own error with a value. -/
namespace EV
open PySem PySem.Spec PyProof.Rows L2 Evl
/-- f'..{x!r}', x's repr some text -/
def tMsg (P : Pm) (i : Nat) : TE := fun σ H Q => ∃ g h y v n, σ[i]? = some (some v) ∧ HS P g h H ∧ RV P g.F g.ρ y v ∧ rpD h 40 y = some n ∧ okZ n = true ∧ ∀ t, Q (.str t) H
section
variable {P : Pm} {X : Cx}
theorem pe_msgV {x : Str} {i : Nat} {p p2 : Pos} (hK : X.K = P.K) (hu : X.A.units + 100 < cLine) (hN : X.N[i]? = some x) (hv : Vis X.env.scope x) (hd : (x == ("__debug__" : Str)) = false) (hcd : (x == ("__classdict__" : Str)) = false) :
    PE X (.FormattedValue (.Name x p) 114 none p2) (fun σ H Q => ∃ g h y v n, σ[i]? = some (some v) ∧ HS P g h H ∧ RV P g.F g.ρ y v ∧ rpD h 40 y = some n ∧ okZ n = true ∧ ∀ t, t.length ≤ 100000 → Q (.str t) H) := by
  refine ⟨fun pins s σ H Q I ⟨g, h, y, v, n, hs, hh, rv, rn, hz, q⟩ => ?_⟩
  have hzn := Nat.le_of_ble_eq_true hz
  refine wpAny_FormattedValue_repr (thn ((pe_var (pos := p) hN hv hd hcd).run pins s σ H (fun w H1 => w = v ∧ H1 = H) I ⟨v, hs, rfl, rfl⟩) fun u s1 ⟨w, H1, I1, ru, ew, eH⟩ => ?_)
  subst ew; subst eH
  obtain ⟨_, _, t⟩ := tells_ok I1 hh hK 40 (by rw [sizeLine_eq]; omega) rv ru rn
  refine t.rp.obj (by rw [sizeLine_eq]; omega) (by omega) (fun _ _ e => e) fun tx h' tu tk ht k => ?_
  have I2 : Inv X pins σ H1 { s1 with heap := h', toks := tk } := I1.kept (t' := tk) k
  exact wpAny_formatField_str ⟨.str tx, H1, I2, ⟨_, rfl⟩, q tx (by omega)⟩ ⟨.str tx, H1, I2.tok _, ⟨_, rfl⟩, q tx (by omega)⟩ (by rw [sizeLine_eq]; omega)
theorem pe_msg {x t0 : Str} {i j : Nat} {p p1 p2 p3 : Pos} (hK : X.K = P.K) (hu : X.A.units + 100 < cLine) (hN : X.N[i]? = some x) (hv : Vis X.env.scope x) (hd : (x == ("__debug__" : Str)) = false) (hcd : (x == ("__classdict__" : Str)) = false) (ht : t0.length ≤ 1000) :
    PE X (.JoinedStr [.Constant (.str t0) j p1, .FormattedValue (.Name x p) 114 none p2] p3) (tMsg P i) := by
  refine PE.weak (pe_joined (.cons pe_str (.cons (pe_msgV hK hu hN hv hd hcd) .nil))) fun σ H Q ⟨g, h, y, v, n, hs, hh, rv, rn, hz, q⟩ => ?_
  refine ⟨t0, rfl, ?_, g, h, y, v, n, hs, hh, rv, rn, hz, fun t hl => ⟨t, rfl, ?_, q _⟩⟩
  · rw [strLen_append, sizeLine_eq]
    have : (Str.empty).length = 0 := rfl
    omega
  · rw [strLen_append, strLen_append, sizeLine_eq]
    have : (Str.empty).length = 0 := rfl
    omega
end
/-- what such an __init__ promises -/
def spErr (P : Pm) (C : Addr) (x : Str) : Sp := fun vs H Q E => ∃ a v g h y n, vs = [.ref a, v] ∧ H a = some (exo a C none) ∧ HS P g h H ∧ RV P g.F g.ρ y v ∧ rpD h 40 y = some n ∧ okZ n = true ∧
  ∀ dx, H dx = none → dx ≠ a → Q .non (upd (upd H dx (exd dx [(x, v)])) a (exo a C (some dx)))
theorem err_ok {P : Pm} {prog : Program} {w : World} {K : PySem.W.Frag} {mg : Str → Option Value} {base : Heap} {k : Nat} {C f : Addr} {x qual : Str} {scope : Scope} {fd : FuncData} {t0 : Str} {j : Nat} {p0 p1 p2 p3 p4 p5 p6 p7 p8 p9 pa pb pc : Pos} (hK : K = P.K) (S : ErrS x scope prog)
    (F : ErrF prog K C f x qual [.Expr (.Call (.Attribute (.Call (.Name "super" p0) [] [] p1) "__init__" p2) [.JoinedStr [.Constant (.str t0) j p3, .FormattedValue (.Name x p4) 114 none p5] p6] [] p7) p8, .Assign [.Attribute (.Name "self" p9) x pa] (.Name x pb) pc] scope fd) (hsup : mg "super" = none) (ht : t0.length ≤ 1000) {pl : Env → Sem Bool}
    (hc : ∀ env : Env, eval (.Call (.Attribute (.Call (.Name "super" p0) [] [] p1) "__init__" p2) [.JoinedStr [.Constant (.str t0) j p3, .FormattedValue (.Name x p4) 114 none p5] p6] [] p7) env = (do
      let ov ← attributeBase (.Call (.Name "super" p0) [] [] p1) "__init__" env (eval (.Call (.Name "super" p0) [] [] p1) env)
      standAt p2.atName
      let (g, first) ← holding [ov] (getMethod ov "__init__" (pl env))
      callWith p7 g first (backTo p7 (starEach [.JoinedStr [.Constant (.str t0) j p3, .FormattedValue (.Name x p4) 114 none p5] p6] env)) [])) :
    FnOk prog w K mg base (L2.CX prog w) (k + 1) f fd ["self", x] (spErr P C x) := by
  obtain ⟨name, params, dV, kV, doc, pm, ct, oc, an, od, osl, cc, cda, ccl, cdd, vs, ccs, file, tf, cl, cld, csl, ar, rfl, lk, hcd, lc, hvs, hfile, lcc, hp, har⟩ := F.fn
  obtain ⟨l1, l2, l3, l4⟩ := S.look
  refine ⟨fun us H Q E ⟨a, v, _, _, _, _, e, _⟩ => by rw [e]; rfl, fun A outer s H args us vs Q E hr e0 hb r hsp => ?_⟩
  obtain ⟨a, v, g, h, y, n, rfl, ea, hh, rv, rn, hz, hq⟩ := hsp
  cases r with
  | @cons _ u0 _ ur ra r' =>
    cases r' with
    | @cons _ u1 _ ur rb r'' =>
      cases r''
      obtain rfl : u0 = .ref a := ra
      have KX : K.In s.heap := (e0.mod.kin.keeps fun b o e => (e0.bs b o e).1)
      have lim : s.heap.NoLimit := (e0.mod.nolimit.keeps fun b o e => (e0.bs b o e).1)
      refine ks_codeAny_call_defAt (fd := PySem.W.ksFn name qual params _ scope dV kV doc pm an (.ref cda) ct cc) (binds := [(("self" : Str), .ref a), (x, u1)]) hr.depth (KX _ _ lk) rfl lim (PySem.W.codeRec_of KX hcd) rfl hb ?_ ?_ (fun h₁ hns hk₁ => ?_) S.co S.gen S.kind
      · intro z hz2
        rw [show (PySem.W.ksFn name qual params _ scope dV kV doc pm an (.ref cda) ct cc).scope.names = _ from S.names] at hz2
        rcases List.mem_cons.mp hz2 with e | hz2
        · rw [e]; exact fun z => by cases z
        rcases List.mem_cons.mp hz2 with e | hz2
        · rw [e]; exact fun z => by cases z
        rcases List.mem_cons.mp hz2 with e | hz2
        · rw [e]; exact fun z => by cases z
        rcases List.mem_cons.mp hz2 with e | hz2
        · rw [e]; exact fun z => by cases z
        · cases hz2
      · intro z hz2
        rcases List.mem_cons.mp hz2 with e | hz2
        · rw [e]; exact l1
        rcases List.mem_cons.mp hz2 with e | hz2
        · rw [e]; exact l2
        · cases hz2
      have I := err_start (w := w) (mg := mg) (base := base) (qual := qual) (f := f) (cda := cda) (C := C) (tk := s.toks + [(("self" : Str), Value.ref a), (x, u1)].length) S hr.hd e0 lcc (a := .ref a) (b := v) (u := .ref a) (v := u1) rfl rb hns hk₁
      have hu : (A.deeper (errEnv qual scope s.heap.objs.size f cda cc)).units + 100 < cLine := by
        have := hr.un
        show A.units + 3 + 100 < _
        omega
      have hsl : ([some (.ref a), some v] : L2.St)[1]? = some (some v) := rfl
      refine ks_wpAt_execs_cons (ks_wpAt_mono (err_super (ta := tCons (tMsg P 1) tNil) S F.T lk lc hvs hfile lcc hp har F.sup F.isV F.isC F.opq hsup I ea (pa_cons (pe_msg (P := P) hK hu rfl (.inl l2) S.nd S.ncd ht) pa_nil) ⟨g, h, y, v, n, hsl, hh, rv, rn, hz, fun t => ⟨by simp, rfl⟩⟩ rfl (hc _) rfl) (fun fl s2 ⟨e, I2⟩ => ?_) fun _ _ z => z.elim)
      subst e
      refine wpAt_of_wpAny ?_
      have ps := pss_one (ps_ost (X := errCx prog w K mg base x qual scope f cda cc A outer s H) (f := x) (p' := pa) (pos := pc) (pe_var (i := 0) (pos := p9) rfl (.inl l1)) (pe_var (i := 1) (pos := pb) rfl (.inl l2) S.nd S.ncd))
      refine wpAny_mono (ps.run [] s2 _ H { nx := fun _ H' => Q .non H', rt := fun _ _ => False } I2 ⟨v, hsl, .ref a, rfl, a, C, rfl, F.T, F.nof, .inl ⟨ea, fun dx hn hne => hq dx hn hne⟩⟩) (fun fl s3 hs => ?_) fun _ _ z => (show False from z).elim
      cases fl with
      | next =>
        obtain ⟨σ', H', J, q⟩ := hs
        exact ⟨.non, H', J.os, J.bare, J.base, J.hok, rfl, q⟩
      | ret u => obtain ⟨_, _, _, _, _, q⟩ := hs; exact False.elim q
      | brk => (obtain ⟨_, _, _, q⟩ := hs; exact False.elim q)
      | cont => (obtain ⟨_, _, _, q⟩ := hs; exact False.elim q)
end EV
end S_EvP
section S_EvQ
/-! EvQ: raise X(e), raise X(). -/
namespace EV
open PySem PySem.Spec PyProof.Rows L2 Evl
/-- raise of the error c, its field fl's value e's -/
def sRaise (c fl : Nat) (f : FE) : FS := fun sl h => (f sl h).st fun d h => match rpD h 40 d with
  | some n => (match okZ n with
    | true => .exc c (some (fl, d)) h | false => .no)
  | none => .no
def sRaise0 (c : Nat) : FS := fun _ h => .exc c none h
section
variable {P : Pm} {E : XK} {X : Cx} {e : Expr} {f : FE} {pos pos' p : Pos} {c fl k : Nat} {fI : Addr} {fd : FuncData} {x y : Str}
theorem s_raise (hK : X.K = P.K) (tk : Tk X E) (hc : X.calm = true) (T : OexC X.K (P.XA c)) (iC : PySem.W.findIn X.K (.ref (P.XA c)) "__init__" = some (some (.ref fI))) (tI : PySem.W.typeIn X.K (.ref fI) = some (.type "function"))
    (F1 : FnOk X.prog X.w X.K X.mg X.base (L2.CX X.prog X.w) k fI fd ["self", y] (spErr P (P.XA c) y)) (hy : P.fn fl = y) (hr : Room (k + 1) X.A) (hb : Binds X.K fd ["self", y] []) (hg : Gl X x) (hm : X.mg x = some (.ref (P.XA c))) (he : PE X e (rdE P E f))
    (hdb : (x == ("__debug__" : Str)) = false := by decide) (hst : starEach [e] X.env = (false, eval e X.env) :: starEach [] X.env := by rfl) :
    PS X (.Raise (some (.Call (.Name x p) [e] [] pos)) none pos') (rdS P E (sRaise c fl f)) := by
  refine PS.weak (ps_raise (W := fun cls d _ H => E cls d H) hc tk (pmk_oex T iC tI F1 hr hb .nil (fun _ _ _ _ _ _ _ z => (show False from by
    obtain ⟨_, _, _, _, _, _, _, _, _, _, _, _, z⟩ := z
    exact z).elim) hg hm (sA_cons he sA_nil hst) hdb hst rfl)) fun D σ H ⟨g, sl, h, x, o⟩ => ?_
  refine ⟨g, sl, h, x, ?_⟩
  have o' : OutS P g D E ((f sl h).st fun d h => match rpD h 40 d with
    | some n => (match okZ n with
      | true => .exc c (some (fl, d)) h | false => .no)
    | none => .no) := o
  unfold fCons
  cases q : f sl h with
  | no => rw [q] at o'; exact o'.elim
  | exc c1 p1 h1 => rw [q] at o'; exact o'
  | ok d h1 =>
    rw [q] at o'
    have o2 : OutS P g D E (match rpD h1 40 d with
      | some n => (match okZ n with
        | true => .exc c (some (fl, d)) h1 | false => .no)
      | none => .no) := o'
    cases q2 : rpD h1 40 d with
    | none => rw [q2] at o2; exact o2.elim
    | some n =>
      rw [q2] at o2
      cases q3 : okZ n with
      | false => simp only [q3] at o2; exact o2.elim
      | true =>
        simp only [q3] at o2
        show Out P g (rvs P) _ E (.ok [d] h1)
        intro g1 H1 vs l1 s1 r1
        cases r1 with
        | @cons _ v _ _ rv rr =>
          cases rr
          refine ⟨by simp, fun a ha => ⟨a, v, g1, h1, d, n, rfl, upd_same, s1.add ha, rv, q2, q3, fun dx hn hne => ⟨rfl, dx, [(y, v)], upd_same, ?_, ?_, ?_⟩⟩⟩
          · rw [upd_ne hne, upd_same]
          · exact (upd_ne hne).symm.trans hn
          · have hd1 : H1 dx = none := (upd_ne hne).symm.trans hn
            have eH : upd (L2.del (upd (upd (upd H1 a (exo a (P.XA c) none)) dx (exd dx [(y, v)])) a (exo a (P.XA c) (some dx))) a) dx (.xd [(y, v)]) = upd H1 dx (.xd [(y, v)]) := by
              funext b
              by_cases h1 : b = dx
              · rw [h1, upd_same, upd_same]
              · rw [upd_ne h1, upd_ne h1]
                by_cases h2 : b = a
                · rw [h2, L2.del_same, ha]
                · rw [L2.del_ne h2, upd_ne h2, upd_ne h1, upd_ne h2]
            rw [eH]
            exact o2 g1 _ _ _ l1 (s1.add hd1) ⟨rfl, dx, [(y, v)], v, rfl, upd_same, by rw [hy]; simp [List.lookup], rv⟩
/-- X(), no own __init__ -/
theorem pmk_own0 {C : Addr} {bmB : List Value} {B newId initId : String} {p pos : Pos} (F : ExcBaseFacts B newId initId bmB) (q : PySem.W.excIn X.K C bmB newId = true) (gC : X.mg x = some (.ref C)) (kC : PySem.W.keepIn X.K (.ref C) = true) (r : Raises X (.ref C)) (hg : Gl X x)
    (hdb : (x == ("__debug__" : Str)) = false := by decide) : PMk X (.Call (.Name x p) [] [] pos) (fun _ H Q => Q (.ref C) none H) := by
  intro pins s σ H Q I h
  refine (wpAny_Call_Name_kw (ld_glob I hg gC ?_ hdb))
  refine PySem.W.callWith_K0 I.kIn kC ?_
  obtain ⟨bm, N, nm, qn, bs, hdct, sn, sub, ab, col, dd, k0, k1, k2, k3, k5, mN, hC, hN, hni, T⟩ := exc_obj I.kIn q
  obtain ⟨hh, g, d, t, os⟩ := s
  refine wpAny_call_exc_subT F T hC hN hni (fun h' e hm => ?_) (by show 0 ≤ sizeLine; exact Nat.zero_le _)
  exact mk_of I hm r h (I.hok.gone hm.new)
theorem s_raise0 {bmB : List Value} {B newId initId : String} (tk : Tk X E) (hc : X.calm = true) (F : ExcBaseFacts B newId initId bmB) (q : PySem.W.excIn X.K (P.XA c) bmB newId = true) (gC : X.mg x = some (.ref (P.XA c))) (kC : PySem.W.keepIn X.K (.ref (P.XA c)) = true) (r : Raises X (.ref (P.XA c))) (hg : Gl X x)
    (hdb : (x == ("__debug__" : Str)) = false := by decide) : PS X (.Raise (some (.Call (.Name x p) [] [] pos)) none pos') (rdS P E (sRaise0 c)) :=
  PS.weak (ps_raise (W := fun cls d _ H => E cls d H) hc tk (pmk_own0 F q gC kC r hg hdb)) fun D σ H ⟨g, sl, h, x, o⟩ => o g H _ _ (.refl _) x.hs ⟨rfl, True.intro⟩
end
end EV
end S_EvQ
section S_EvR
/-! EvR: try with several clauses, named or not. -/
namespace EV
open PySem PySem.Spec PyProof.Rows L2 Evl
abbrev TSX := Addr → Value → Option Addr → TS
/-- a clause's class, its name's slot, its suite's reading -/
abbrev Cl := Value × Option Nat × TSX
def endsI : Option Nat → Ends → Ends
  | none, D => D
  | some i, D => { nx := fun σ H => D.nx (σ.set i none) H, rt := D.rt, bk := fun σ H => D.bk (σ.set i none) H, ct := fun σ H => D.ct (σ.set i none) H }
def slotI (a : Addr) : Option Nat → L2.St → L2.St
  | none, σ => σ
  | some i, σ => σ.set i (some (.ref a))
def wCl (K : PySem.W.Frag) (Wout : WX) (D : Ends) : List Cl → WX
  | [] => Wout
  | (c, oi, ts) :: r => fun cls d σ H => ∃ b, PySem.W.exmOne K cls c = some b ∧ (b = true → ∀ a, H a = none → ts a cls d (endsI oi D) (slotI a oi σ) H) ∧ (b = false → wCl K Wout D r cls d σ H)
inductive ClOk (X : Cx) : List ExceptHandler → List Cl → Prop
  | nil : ClOk X [] []
  | bare {x : Str} {c : Value} {ts : TSX} {b₀ : Stmt} {suite : List Stmt} {np p : Pos} {hds : List ExceptHandler} {l : List Cl} (hc : Names X x c) (hsu : ∀ (a : Addr) (oe : Obj) (cls : Value) (d : Option Addr) (pn : List (Addr × Obj)), Zc cls d oe → (∃ vs, oe.data = .fields vs) → PSs (X.suite a ((a, oe) :: pn)) (b₀ :: suite) (ts a cls d)) (r : ClOk X hds l) :
      ClOk X (.ExceptHandler (some (.Name x np)) none (b₀ :: suite) p :: hds) ((c, none, ts) :: l)
  | as {x n : Str} {i : Nat} {c : Value} {ts : TSX} {b₀ : Stmt} {suite : List Stmt} {np p : Pos} {hds : List ExceptHandler} {l : List Cl} (hi : X.N[i]? = some n) (hln : X.env.kindOf n = some .local) (hc : Names X x c)
      (hsu : ∀ (a : Addr) (oe : Obj) (cls : Value) (d : Option Addr) (pn : List (Addr × Obj)), Zc cls d oe → (∃ vs, oe.data = .fields vs) → PSs (X.suite a ((a, oe) :: pn)) (b₀ :: suite) (ts a cls d)) (r : ClOk X hds l) :
      ClOk X (.ExceptHandler (some (.Name x np)) (some n) (b₀ :: suite) p :: hds) ((c, some i, ts) :: l)
section
variable {X : Cx} {body : List Stmt} {h₀ : ExceptHandler} {hds : List ExceptHandler} {l : List Cl} {pos : Pos} {tb : WX → TS} {Wout : WX}
theorem ps_try_cl (hs : X.stack = X.env :: X.outer) (hf : X.env.frame = some X.env.locals) (hN : X.N.Nodup) (tk : Takes X Wout)
    (hb : ∀ (W : WX) (pn : List (Addr × Obj)) (xe : Value → Shared → Prop), Takes (X.tr pn xe) W → PassesOwn (model X.prog X.w) X.A X.env xe → PSs (X.tr pn xe) body (tb W)) (hh : ClOk X (h₀ :: hds) l) :
    PS X (.Try body (h₀ :: hds) [] [] pos) (fun D σ H => tb (wCl X.K Wout D l) D σ H) := by
  refine (⟨fun pins s σ H D I h => ?_⟩)
  have ok := I.ok
  have fr0 : X.A.frames = some (X.env :: X.outer) := by rw [ok.frames, hs]
  refine wpAny_Try_except (wpAny_mono ((hb (wCl X.K Wout D l) (X.pn ++ pins) (fun e s₁ => wpAny (model X.prog X.w) X.A (noteFrame e X.env) (fun _ s₂ => wpAny (model X.prog X.w) X.A (setFlight e none) (fun _ s₃ => wpAny (model X.prog X.w) X.A (handleBy e X.env (h₀ :: hds)) (SP X pins D) X.xe s₃) X.xe s₂) X.xe s₁)
    (fun u s' xx => ?_) PassesOwn.looking).run [] s σ H D (I.toTry _) h) (fun fl s1 q => ?_) (fun _ _ he => he))
  · obtain ⟨a, B, sI, pins', σ', H', cls, d, rfl, J', nb, up, sky, na, os, ag, w⟩ := xx
    have J := J'.ofTry ok
    show (wpAny (model X.prog X.w) X.A (noteFrame (.ref a) X.env) _ _ _)
    refine Sky.land Zc.steady fr0 hf (show Sky B (X.env :: X.outer) a (Zc cls d) X.env.locals s'.heap by rw [← hs]; exact sky) fun h3 fl3 up3 => ?_
    have J3 : Inv X pins σ' H' { s' with heap := h3 } := (J.landed nb fl3.1 (up.trans up3) os ag)
    rcases fl3.there with ⟨oe3, vs3, he3, hz3, hd3⟩
    have nfr : a ∉ frs (X.env :: X.outer) := fun hm => by
      obtain ⟨_, o', e', hnf⟩ := fl3.2.2.1.mem hm
      rw [he3] at e'; cases e'; exact hnf _ hd3
    have nL : a ≠ X.env.locals := (fun z => nfr (List.mem_filterMap.mpr ⟨X.env, List.mem_cons_self, by rw [hf, z]⟩))
    have nF : a ∉ X.fs := fun hm => let ⟨e, he, q⟩ := List.mem_filterMap.mp hm; nfr (List.mem_filterMap.mpr ⟨e, List.mem_cons_of_mem _ he, q⟩)
    have S3 := (J3.suite he3 hd3 na nL nF)
    have LT : PySem.W.Looks (model X.prog X.w) h3 (typeOf (.ref a)) cls := fun _ _ _ _ k q => wpAny_typeOf_ref (k _ _ he3) (by rw [hz3.1]; exact q)
    have named : ∀ {x : Str} {c : Value} {np : Pos} {Q E : Value → Shared → Prop}, Names X x c → Q c { s' with heap := h3 } → wpAny (model X.prog X.w) (X.A.mark (some (.ref a))) (eval (.Name x np) X.env) Q E { s' with heap := h3 } := fun {x c np Q E} ⟨hg, hdbg, hm⟩ q => by
      rcases hm with hm | ⟨hm, hv, hnn⟩
      · exact (ld_glob (X := X.suite a ((a, oe3) :: (X.pn ++ pins))) S3 hg hm q hdbg)
      · exact (ld_blt (X := X.suite a ((a, oe3) :: (X.pn ++ pins))) S3 hg hm hv q hnn hdbg)
    have go : ∀ {hds' : List ExceptHandler} {l' : List Cl}, ClOk X hds' l' → wCl X.K Wout D l' cls d σ' H' → wpAny (model X.prog X.w) X.A (handleBy (.ref a) X.env hds') (SP X pins D) X.xe { s' with heap := h3 } := by
      intro hds' l' hk
      induction hk with
      | nil =>
        intro w
        refine wpAny_handleBy_nil ?_
        obtain ⟨_, _, _, oe, vs, T, oT, ts', he, hz, hd, h1, hr⟩ := id fl3
        have fin : wpAny (model X.prog X.w) X.A (setFlight (.ref a) X.env.frame) (fun _ s4 => wpAny (model X.prog X.w) X.A (throw (.ref a) : Sem Flow) (SP X pins D) X.xe s4) X.xe { s' with heap :=
            h3 } := by
          rw [hf]
          exact HandSPX.setFlight_upZ fl3 fun h4 hh4 up4 => wpAny_throw (tk _ _ ⟨a, B, sI, pins, σ', H', cls, d, rfl, J, nb, (up.trans up3).trans up4, .inr (.inr (by rw [hs]; exact hh4)), na, os, ag, w⟩)
        unfold PySem.passOn
        refine (wpAny_bind (wpAny_field he hd h1 ?_))
        rw [if_neg (show ¬ ((Value.ref T == Value.none) = true) by simp)]
        first | exact wpAny_bind (wpAny_pure (wpAny_bind fin)) | exact wpAny_bind fin
      | bare hc hsu r ih =>
        rintro ⟨b, hb1, hyes, hno⟩
        refine (wpAny_handleBy_cons (codeAny_handlers_test ?_) (by intro q; cases q))
        refine named hc ((PySem.W.exm_one (M := model X.prog X.w) J3.kIn LT hb1).here ?_)
        cases b with
        | false => exact ih (hno rfl)
        | true =>
          refine codeAny_handlers_suite (HandSPX.lands_againZ fl3 fun h4 fl4 up4 => ?_)
          have J4 : Inv X pins σ' H' { s' with heap := h4 } := (J.landed nb fl4.1 ((up.trans up3).trans up4) os ag)
          rcases fl4.there with ⟨oe4, vs4, he4, hz4, hd4⟩
          refine wpAny_mono ((hsu a oe4 cls d (X.pn ++ pins) hz4 ⟨_, hd4⟩).run [] _ _ H' _ (J4.suite he4 hd4 na nL nF) (hyes rfl a na)) (fun f s6 q6 => ?_) (fun _ _ z => False.elim z)
          cases f with
          | ret u => obtain ⟨v6, σ6, H6, S6, r6, q6⟩ := q6; exact ⟨_, _, _, S6.unsuite ok, r6, q6⟩
          | next => obtain ⟨σ6, H6, S6, q6⟩ := q6; exact ⟨_, _, S6.unsuite ok, q6⟩
          | brk => obtain ⟨σ6, H6, S6, q6⟩ := q6; exact ⟨_, _, S6.unsuite ok, q6⟩
          | cont => obtain ⟨σ6, H6, S6, q6⟩ := q6; exact ⟨_, _, S6.unsuite ok, q6⟩
      | @as x n i c ts b₀ suite np p hds2 l2 hi hln hc hsu r ih =>
        rintro ⟨b, hb1, hyes, hno⟩
        refine (wpAny_handleBy_cons (codeAny_handlers_test ?_) (by intro q; cases q))
        refine named hc ((PySem.W.exm_one (M := model X.prog X.w) J3.kIn LT hb1).here ?_)
        cases b with
        | false => exact ih (hno rfl)
        | true =>
          refine codeAny_handlers_suite_as (HandSPX.lands_againZ fl3 fun h4 fl4 up4 => ?_)
          have J4 : Inv X pins σ' H' { s' with heap := h4 } := (J.landed nb fl4.1 ((up.trans up3).trans up4) os ag)
          rcases fl4.there with ⟨oe4, vs4, he4, hz4, hd4⟩
          refine store_ok (X := X.suite a ((a, oe4) :: (X.pn ++ pins))) (v := .ref a) (J4.suite he4 hd4 na nL nF) hN hi (.inl hln) rfl (fun s5 S5 => ?_) (.inr hln)
          refine wpAny_mono ((hsu a oe4 cls d (X.pn ++ pins) hz4 ⟨_, hd4⟩).run [] s5 _ H' _ S5 (hyes rfl a na)) (fun f s6 q6 => ?_) (fun _ _ z => False.elim z)
          have gone : ∀ {σ6 : L2.St} {H6 : Hp} {Q : Shared → Prop}, Inv (X.suite a ((a, oe4) :: (X.pn ++ pins))) [] σ6 H6 s6 → (∀ s7, Inv X pins (σ6.set i none) H6 s7 → Q s7) → wpAny (model X.prog X.w) X.A (do bindName X.env n .none; unbindBehindTheSuite X.env n p) (fun _ s7 => Q s7) X.xe s6 := fun S6 hq => gone_ok (S6.unsuite ok) hN hi hln hq
          cases f with
          | ret u => obtain ⟨v6, σ6, H6, S6, r6, q6⟩ := q6; exact gone S6 fun s7 J7 => ⟨_, _, _, J7, r6, q6⟩
          | next => obtain ⟨σ6, H6, S6, q6⟩ := q6; exact gone S6 fun s7 J7 => ⟨_, _, J7, q6⟩
          | brk => obtain ⟨σ6, H6, S6, q6⟩ := q6; exact gone S6 fun s7 J7 => ⟨_, _, J7, q6⟩
          | cont => obtain ⟨σ6, H6, S6, q6⟩ := q6; exact gone S6 fun s7 J7 => ⟨_, _, J7, q6⟩
    exact go hh w
  · cases fl with
    | ret u => obtain ⟨v, σ', H', J', r, q⟩ := q; exact ⟨v, σ', H', J'.ofTry ok, r, q⟩
    | next => obtain ⟨σ', H', J', q⟩ := q; exact wpAny_execs_nil ⟨σ', H', J'.ofTry ok, q⟩
    | brk => obtain ⟨σ', H', J', q⟩ := q; exact ⟨σ', H', J'.ofTry ok, q⟩
    | cont => obtain ⟨σ', H', J', q⟩ := q; exact ⟨σ', H', J'.ofTry ok, q⟩
end
end EV
end S_EvR
section S_EvS
/-! EvS: try: .. except X as e: return (s, e.f) .. except Y: return (s,). -/
namespace EV
open PySem PySem.Spec PyProof.Rows L2 Evl
/-- a clause that returns (s, error.f) | one that returns (s,) -/
inductive Hd where
  | as (c i : Nat) (s : List Nat) (fl : Nat)
  | no (c : Nat) (s : List Nat)
def payR (p : Option (Nat × D)) (s : List Nat) (fl : Nat) (h : Hc) : RS := match p with
  | some (g, d) => (match Nat.beq g fl with
    | true => .rt (.tup [.str s, d]) h | false => .no)
  | none => .no
def hdR : List Hd → Nat → Option (Nat × D) → Hc → RS
  | [], c, p, h => .exc c p h
  | .as c' _ s fl :: r, c, p, h => (match Nat.beq c c' with
    | true => payR p s fl h
    | false => hdR r c p h)
  | .no c' s :: r, c, p, h => (match Nat.beq c c' with
    | true => .rt (.tup [.str s]) h
    | false => hdR r c p h)
def sTry (n : Nat) (b : FS) (hs : List Hd) : FS := fun sl h => match b sl h with
  | .exc c p h' => (match Nat.blt c n with
    | true => hdR hs c p h' | false => .no)
  | r => r
/-- the classes: n errors of the module, none beneath another -/
structure Xs (P : Pm) (X : Cx) (n : Nat) (hs : List Hd) : Prop where
  ex : ∀ c c', c < n → c' < n → PySem.W.exmOne X.K (.ref (P.XA c)) (.ref (P.XA c')) = some (Nat.beq c c')
/-- the clauses as they stand -/
inductive HdOk (P : Pm) (X : Cx) (n : Nat) : List ExceptHandler → List Hd → Prop
  | nil : HdOk P X n [] []
  | as {x nm fl : Str} {c i g j : Nat} {s : List Nat} {p1 p2 p3 p4 p5 p6 p7 : Pos} {x1} {hds : List ExceptHandler} {r : List Hd} (hi : X.N[i]? = some nm) (hln : X.env.kindOf nm = some .local) (hc : Names X x (.ref (P.XA c))) (hn : c < n) (hT : XfC X.K (P.XA c)) (hno : PySem.W.findIn X.K (.ref (P.XA c)) fl = some none) (hf : P.fn g = fl)
      (hd : (nm == ("__debug__" : Str)) = false) (hcd : (nm == ("__classdict__" : Str)) = false) (hb : ∀ env : Env, attributeBase (.Name nm p4) fl env (eval (.Name nm p4) env) = eval (.Name nm p4) env)
      (hst : ∀ env : Env, starEach [.Constant (.str (toStr s)) j p3, .Attribute (.Name nm p4) fl p5] env = (false, eval (.Constant (.str (toStr s)) j p3) env) :: starEach [.Attribute (.Name nm p4) fl p5] env)
      (hst2 : ∀ env : Env, starEach [.Attribute (.Name nm p4) fl p5] env = (false, eval (.Attribute (.Name nm p4) fl p5) env) :: starEach [] env) (t : HdOk P X n hds r) :
      HdOk P X n (.ExceptHandler (some (.Name x p1)) (some nm) [.Return (some (.Tuple [.Constant (.str (toStr s)) j p3, .Attribute (.Name nm p4) fl p5] x1 p6)) p7] p2 :: hds) (.as c i s g :: r)
  | no {x : Str} {c j : Nat} {s : List Nat} {p1 p2 p3 p6 p7 : Pos} {x1} {hds : List ExceptHandler} {r : List Hd} (hc : Names X x (.ref (P.XA c))) (hn : c < n) (t : HdOk P X n hds r) :
      HdOk P X n (.ExceptHandler (some (.Name x p1)) none [.Return (some (.Tuple [.Constant (.str (toStr s)) j p3] x1 p6)) p7] p2 :: hds) (.no c s :: r)
/-- their readings -/
def tsAs (P : Pm) (c i g : Nat) (s : List Nat) : TSX := fun a cls d => tRet (tTup (tCons (tC (.str (toStr s))) (tCons (tXf a cls d (P.XA c) (P.fn g) (tVar i)) tNil)))
def tsNo (s : List Nat) : TSX := fun _ _ _ => tRet (tTup (tCons (tC (.str (toStr s))) tNil))
def clOf (P : Pm) : Hd → Cl
  | .as c i s g => (.ref (P.XA c), some i, tsAs P c i g s)
  | .no c s => (.ref (P.XA c), none, tsNo s)
section
variable {P : Pm} {E : XK} {X : Cx} {n : Nat}
theorem HdOk.cl : ∀ {hds : List ExceptHandler} {hs : List Hd}, HdOk P X n hds hs → ClOk X hds (hs.map (clOf P))
  | _, _, .nil => .nil
  | _, _, .no hc hn t => .bare hc (fun a oe cls d pn _ _ => pss_one (ps_ret (pe_tup (pa_cons pe_str pa_nil rfl)))) t.cl
  | _, _, .as (i := i) hi hln hc hn hT hno hf hd hcd hb hst hst2 t => .as hi hln hc (fun a oe cls d pn hz hv => by
    subst hf
    exact pss_one (ps_ret (pe_tup (pa_cons pe_str (pa_cons (pe_xf hT hno hz hv (pe_var (i := i) (X := X.suite a ((a, oe) :: pn)) hi (.inl hln) hd hcd) (hb X.env)) pa_nil (hst2 X.env)) (hst X.env))))) t.cl
/-- what the clauses wish, from what the evaluator tells -/
theorem hd_wish {De : Ends} {g : G} {H : Hp} {σ : L2.St} {c : Nat} {p : Option (Nat × D)} {h : Hc} {cls : Value} {dd : Option Addr} (hx : ∀ c c', c < n → c' < n → PySem.W.exmOne X.K (.ref (P.XA c)) (.ref (P.XA c')) = some (Nat.beq c c')) (hc : c < n) (hl : σ.length = X.N.length) (s : HS P g h H) (x : XO P g H c p cls dd) :
    ∀ {hds : List ExceptHandler} {hs : List Hd}, HdOk P X n hds hs → OutS P g De E (hdR hs c p h) → wCl X.K (fun cls d _ H => E cls d H) De (hs.map (clOf P)) cls dd σ H
  | _, _, .nil, o => o g H cls dd (.refl _) s x
  | _, _, .no (c := c') (s := st) (r := r) _ hn t, o => by
    obtain ⟨rfl, _⟩ := id x
    have o' : OutS P g De E (match Nat.beq c c' with
      | true => .rt (.tup [.str st]) h
      | false => hdR r c p h) := o
    refine ⟨_, hx c c' hc hn, fun e a ha => ?_, fun e => ?_⟩
    · rw [e] at o'
      show tTup _ _ _ _
      refine ⟨by rw [sizeLine_eq]; simp, fun q hq => ?_⟩
      have l := G.fz_le (g := g) (o := HO.tup [V.str (toStr st)]) (exNone s.fr hq)
      exact o' _ _ _ l (s.fz hq) (.tup (SqT.of (show upd g.F q (.tup [V.str (toStr st)]) q = _ from upd_same)) (.cons (.str _) .nil))
    · rw [e] at o'
      exact hd_wish hx hc hl s x t o'
  | _, _, .as (nm := nm) (c := c') (i := i) (g := g') (s := st) (r := r) hi _ _ hn _ _ _ _ _ _ _ _ t, o => by
    obtain ⟨rfl, xp⟩ := id x
    have o' : OutS P g De E (match Nat.beq c c' with
      | true => payR p st g' h
      | false => hdR r c p h) := o
    refine ⟨_, hx c c' hc hn, fun e a ha => ?_, fun e => ?_⟩
    · rw [e] at o'
      have ec : c = c' := Nat.eq_of_beq_eq_true e
      subst ec
      cases p with
      | none => exact o'.elim
      | some qd =>
        obtain ⟨q, d⟩ := qd
        have o2 : OutS P g De E (match Nat.beq q g' with
          | true => .rt (.tup [.str st, d]) h | false => .no) := o'
        cases z : Nat.beq q g' with
        | false => rw [z] at o2; exact o2.elim
        | true =>
          rw [z] at o2
          have eq := Nat.eq_of_beq_eq_true z
          subst eq
          obtain ⟨da, fs, v, rfl, h1, h2, h3⟩ := xp
          show tTup _ _ _ _
          have hi' : i < σ.length := by
            rw [hl]
            exact (List.getElem?_eq_some_iff.mp hi).1
          refine ⟨.ref a, List.getElem?_set_self hi', rfl, rfl, da, fs, v, rfl, h1, h2, by rw [sizeLine_eq]; simp, fun r hr => ?_⟩
          have l := G.fz_le (g := g) (o := HO.tup [V.str (toStr st), v]) (exNone s.fr hr)
          exact o2 _ _ _ l (s.fz hr) (.tup (SqT.of (show upd g.F r (.tup [V.str (toStr st), v]) r = _ from upd_same)) (.cons (.str _) (.cons (rv_le l h3) .nil)))
    · rw [e] at o'
      exact hd_wish hx hc hl s x t o'
/-- try: body; the clauses as they stand -/
theorem s_try {body : List Stmt} {hds : List ExceptHandler} {h₀ : ExceptHandler} {hs : List Hd} {b : FS} {pos : Pos} (hst : X.stack = X.env :: X.outer) (hf : X.env.frame = some X.env.locals) (hN : X.N.Nodup) (tk : Tk X E)
    (hx : ∀ c c', c < n → c' < n → PySem.W.exmOne X.K (.ref (P.XA c)) (.ref (P.XA c')) = some (Nat.beq c c'))
    (hb : ∀ (E' : XK) (pn : List (Addr × Obj)) (xe : Value → Shared → Prop), Tk (X.tr pn xe) E' → PassesOwn (model X.prog X.w) X.A X.env xe → PSs (X.tr pn xe) body (rdS P E' b)) (hh : HdOk P X n (h₀ :: hds) hs) :
    PS X (.Try body (h₀ :: hds) [] [] pos) (rdS P E (sTry n b hs)) := by
  have base := ps_try_cl (pos := pos) hst hf hN tk (tb := fun W => rdS P (fun cls d H => ∀ σ, σ.length = X.N.length → W cls d σ H) b) (fun W pn xe tw po => hb _ pn xe (fun u s' x => tw u s' (by
    obtain ⟨a, B, sI, pins, σ, H, cls, d, e, I, nb, up, sky, na, os, ag, w⟩ := x
    exact ⟨a, B, sI, pins, σ, H, cls, d, e, I, nb, up, sky, na, os, ag, w σ I.len⟩)) po) hh.cl
  refine PS.weak base fun De σ H ⟨g, sl, h, x, o⟩ => ⟨g, sl, h, x, ?_⟩
  have o' : OutS P g De E (match b sl h with
    | .exc c p h' => (match Nat.blt c n with
      | true => hdR hs c p h' | false => .no)
    | r => r) := o
  cases q : b sl h with
  | nx sl2 h2 => rw [q] at o'; exact o'
  | rt d h2 => rw [q] at o'; exact o'
  | bk sl2 h2 => rw [q] at o'; exact o'
  | ct sl2 h2 => rw [q] at o'; exact o'
  | no => rw [q] at o'; exact o'
  | exc c p h2 =>
    rw [q] at o'
    have o2 : OutS P g De E (match Nat.blt c n with
      | true => hdR hs c p h2 | false => .no) := o'
    cases z : Nat.blt c n with
    | false => rw [z] at o2; exact o2.elim
    | true =>
      rw [z] at o2
      have hlt : c < n := Nat.le_of_ble_eq_true z
      exact fun g' H' cls dd l s xo σ' hl => hd_wish hx hlt hl s xo hh (OutS.le o2 l)
end
end EV
end S_EvS
section S_EvT
/-! EvT: == and != of data without dicts. -/
namespace EV
open PySem PySem.Spec PyProof.Rows L2 Evl
/-- data without dicts -/
def rdAll (r : D → Bool) : List D → Bool
  | [] => true
  | x :: xs => match r x with
    | true => rdAll r xs | false => false
def rd0 : D → Bool
  | .non => true | .bl _ => true | .int _ => true
  | .str s => okS s
  | _ => false
def rdB (h : Hc) : Nat → D → Bool
  | 0, d => rd0 d
  | f + 1, d => match d with
    | .tup xs => rdAll (rdB h f) xs
    | .lst xs => rdAll (rdB h f) xs
    | .cst xs => rdAll (rdB h f) xs
    | .ref i => (match h.get i with
      | some (.lst xs) => rdAll (rdB h f) xs
      | _ => false)
    | d => rd0 d
section
variable {P : Pm} {E : XK} {X : Cx} {g : G} {h : Hc} {H : Hp} {pins : List (Addr × Obj)} {σ : L2.St} {s : Shared}
theorem okS_lt : ∀ {l : List Nat}, okS l = true → ∀ c ∈ l, c < 1114112
  | [], _, _, hc => absurd hc (by simp)
  | x :: r, h, c, hc => by
    have h' : (match Nat.ble x 1114111 with
      | true => okS r | false => false) = true := h
    cases q : Nat.ble x 1114111 with
    | false => rw [q] at h'; cases h'
    | true =>
      rw [q] at h'
      have := Nat.le_of_ble_eq_true q
      rcases List.mem_cons.mp hc with e | e
      · subst e; omega
      · exact okS_lt h' c e
/-- how such a value reads -/
def RdOk (h₀ : Heap) (f : Nat) (u : Value) (p : PyData) : Prop := (∃ as, Reads h₀ u p as) ∧ p.canLay0 = true ∧ p.depth ≤ f
theorem rd0_ok {h₀ : Heap} {f : Nat} {d : D} {x : V} {u : Value} (r : RV P g.F g.ρ d x) (ru : RelV x u) (e : rd0 d = true) : ∃ p, pd0 d = some p ∧ RdOk h₀ f u p := by
  cases r with
  | non => cases ru; exact ⟨_, rfl, ⟨_, .none⟩, rfl, Nat.zero_le _⟩
  | bl b => cases ru; exact ⟨_, rfl, ⟨_, .bool b⟩, rfl, Nat.zero_le _⟩
  | int i => obtain ⟨t, rfl⟩ := ru; exact ⟨_, rfl, ⟨_, .int i t⟩, rfl, Nat.zero_le _⟩
  | str y =>
    obtain ⟨t, rfl⟩ := ru
    refine ⟨_, rfl, ⟨_, .str _ t⟩, ?_, Nat.zero_le _⟩
    show (toStr y).cps.all (· < 0x110000) = true
    rw [← Array.all_toList]
    exact List.all_eq_true.mpr fun c hc => decide_eq_true (okS_lt (show okS y = true from e) c (by simpa [toStr] using hc))
  | _ => cases e
theorem rdAll_ok {h₀ : Heap} {f : Nat} {r : D → Bool} {p : D → Option PyData} (hr : ∀ {d : D} {x : V} {u : Value}, RV P g.F g.ρ d x → RelV x u → r d = true → ∃ q, p d = some q ∧ RdOk h₀ f u q) :
    ∀ {xs : List D} {vs : List V} {us : List Value}, RVs P g.F g.ρ xs vs → Vals vs us → rdAll r xs = true → ∃ ps, pdAll p xs = some ps ∧ (∃ as, ReadsAll h₀ us ps as) ∧ PyData.canLayAll0 ps = true ∧ PyData.depthAll ps ≤ f
  | _, _, _, .nil, .nil, _ => ⟨[], rfl, ⟨_, .nil⟩, rfl, Nat.zero_le _⟩
  | d :: ds, v :: vs, u :: us, .cons a as, .cons b bs, e => by
    have e' : (match r d with
      | true => rdAll r ds | false => false) = true := e
    cases q : r d with
    | false => rw [q] at e'; cases e'
    | true =>
      rw [q] at e'
      obtain ⟨x, x1, ⟨_, x2⟩, x3, x4⟩ := hr a b q
      obtain ⟨xs, y1, ⟨_, y2⟩, y3, y4⟩ := rdAll_ok hr as bs e'
      refine ⟨x :: xs, by simp [pdAll, x1, y1], ⟨_, .cons x2 y2⟩, by simp only [PyData.canLayAll0, x3, y3]; rfl, ?_⟩
      simp only [PyData.depthAll]
      omega
theorem rd_ok (I : Inv X pins σ H s) (hs : HS P g h H) (hK : X.K = P.K) : ∀ (f : Nat) {d : D} {x : V} {u : Value}, RV P g.F g.ρ d x → RelV x u → rdB h f d = true → ∃ p, pdD h f d = some p ∧ RdOk s.heap f u p
  | 0, d, x, u, r, ru, e => rd0_ok r ru e
  | f + 1, d, x, u, r, ru, e => by
    have lists : ∀ {a : Addr} {vs : List V} {xs : List D}, SqL X.K H a vs → RVs P g.F g.ρ xs vs → rdAll (rdB h f) xs = true → ∃ p, (pdAll (pdD h f) xs).map PyData.list = some p ∧ RdOk s.heap (f + 1) (.ref a) p := fun {a vs xs} h1 rr e => by
      obtain ⟨its, rv, ⟨o, k, ho, hc, _, hd⟩, _⟩ := I.list h1
      obtain ⟨ps, p1, ⟨_, p2⟩, p3, p4⟩ := rdAll_ok (fun a b => rd_ok I hs hK f a b) rr rv e
      exact ⟨.list ps, by rw [p1]; rfl, ⟨_, .list ho hc hd p2⟩, by simpa only [PyData.canLay0] using p3, by simp only [PyData.depth]; omega⟩
    cases r with
    | non => exact rd0_ok (P := P) (g := g) .non ru e
    | bl b => exact rd0_ok (P := P) (g := g) (.bl b) ru e
    | int i => exact rd0_ok (P := P) (g := g) (.int i) ru e
    | str y => exact rd0_ok (P := P) (g := g) (.str y) ru e
    | glo _ => cases e
    | dct _ _ => cases e
    | dctN _ _ _ => cases e
    | @tup a vs xs h1 rr =>
      obtain rfl : u = .ref a := ru
      obtain ⟨its, rv, ⟨o, ho, hc, k, hd⟩, _⟩ := I.tuple (show SqT X.K H a vs by rw [hK]; exact ex_t hs.fr h1)
      obtain ⟨ps, p1, ⟨_, p2⟩, p3, p4⟩ := rdAll_ok (fun a b => rd_ok I hs hK f a b) rr rv (show rdAll (rdB h f) xs = true from e)
      exact ⟨.tuple ps, by show Option.map _ _ = _; rw [p1]; rfl, ⟨_, .tuple ho hc hd p2⟩, by simpa only [PyData.canLay0] using p3, by simp only [PyData.depth]; omega⟩
    | @lst a vs xs h1 rr => obtain rfl : u = Value.ref a := ru; exact lists (SqL.of (hs.fr _ _ h1)) rr e
    | @cst a vs xs h1 rr => obtain rfl : u = Value.ref a := ru; exact lists (show SqL X.K H a vs by rw [hK]; exact ex_l hs.fr h1) rr e
    | @ref i a hr =>
      obtain rfl : u = .ref a := ru
      have e' : (match h.get i with
        | some (.lst xs) => rdAll (rdB h f) xs
        | _ => false) = true := e
      show ∃ p, (match h.get i with
        | some (.lst xs) => (pdAll (pdD h f) xs).map PyData.list
        | some (.dct [] []) => some (PyData.dict [])
        | _ => none) = some p ∧ _
      cases q : h.get i with
      | none => rw [q] at e'; cases e'
      | some c =>
        cases c with
        | lst xs =>
          rw [q] at e'
          obtain ⟨b, vs, b1, _, b3, b4⟩ := hs.lst q
          rw [hr] at b1; cases b1
          exact lists (SqL.of b3) b4 e'
        | dct _ _ => rw [q] at e'; cases e'
        | ins _ _ _ => rw [q] at e'; cases e'
        | tbl _ => rw [q] at e'; cases e'
/-! ### == on the data -/
def eq0 : D → D → Bool
  | .non, .non => true
  | .bl a, .bl b => (match a with
    | true => b | false => !b)
  | .bl a, .int j => iEq (bI a) j
  | .int i, .bl b => iEq i (bI b)
  | .int i, .int j => iEq i j
  | .str x, .str y => sEq x y
  | _, _ => false
def eqAllB (r : D → D → Bool) : List D → List D → Bool
  | [], [] => true
  | x :: xs, y :: ys => (match r x y with
    | true => eqAllB r xs ys | false => false)
  | _, _ => false
def sq2 (h : Hc) : D → Option (Bool × List D)
  | .tup xs => some (true, xs)
  | .lst xs => some (false, xs)
  | .cst xs => some (false, xs)
  | .ref i => (match h.get i with
    | some (.lst xs) => some (false, xs)
    | _ => none)
  | _ => none
def eqB (h : Hc) : Nat → D → D → Bool
  | 0, a, b => eq0 a b
  | f + 1, a, b => match sq2 h a with
    | some (k, xs) => (match sq2 h b with
      | some (l, ys) => (match k with
        | true => (match l with
          | true => eqAllB (eqB h f) xs ys | false => false)
        | false => (match l with
          | true => false | false => eqAllB (eqB h f) xs ys))
      | none => false)
    | none => (match sq2 h b with
      | some _ => false
      | none => eq0 a b)
theorem eq0_ok {a b : D} {p q : PyData} (h1 : pd0 a = some p) (h2 : pd0 b = some q) : PyData.eqv p q = eq0 a b := by
  cases a <;> first | (cases h1; done) | skip
  all_goals cases b <;> first | (cases h2; done) | skip
  all_goals (cases h1; cases h2)
  all_goals first
    | (simp only [PyData.eqv]; rfl)
    | skip
  · rename_i a b; simp only [PyData.eqv]; show (a == b) = _; cases a <;> cases b <;> rfl
  · rename_i a b; simp only [PyData.eqv]; show ((if a = true then (1 : Int) else 0) == b) = iEq (bI a) b; rw [iEq_eq, bI_eq, Bool.eq_iff_iff, decide_eq_true_eq, beq_iff_eq]
  · rename_i a b; simp only [PyData.eqv]; show (a == (if b = true then (1 : Int) else 0)) = iEq a (bI b); rw [iEq_eq, bI_eq, Bool.eq_iff_iff, decide_eq_true_eq, beq_iff_eq]
  · rename_i a b; simp only [PyData.eqv]; show (a == b) = iEq a b; rw [iEq_eq, Bool.eq_iff_iff, decide_eq_true_eq, beq_iff_eq]
  · rename_i a b; simp only [PyData.eqv]; show (toStr a == toStr b) = sEq a b; rw [sEq_eq, Bool.eq_iff_iff, decide_eq_true_eq, beq_iff_eq]; exact toStr_inj
theorem pd_sq {f : Nat} {d : D} {k : Bool} {xs : List D} (e : sq2 h d = some (k, xs)) : pdD h (f + 1) d = (pdAll (pdD h f) xs).map (match k with
    | true => PyData.tuple | false => PyData.list) := by
  cases d with
  | tup ys => cases e; rfl
  | lst ys => cases e; rfl
  | cst ys => cases e; rfl
  | ref i =>
    have e' : (match h.get i with
      | some (.lst xs) => some (false, xs)
      | _ => none) = some (k, xs) := e
    show (match h.get i with
      | some (.lst xs) => (pdAll (pdD h f) xs).map PyData.list
      | some (.dct [] []) => some (PyData.dict [])
      | _ => none) = _
    cases q : h.get i with
    | none => rw [q] at e'; cases e'
    | some c =>
      rw [q] at e'
      cases c with
      | lst ys => cases e'; rfl
      | dct _ _ => cases e'
      | ins _ _ _ => cases e'
      | tbl _ => cases e'
  | _ => cases e
theorem rd_sq {f : Nat} {d : D} {k : Bool} {xs : List D} (e : sq2 h d = some (k, xs)) : rdB h (f + 1) d = rdAll (rdB h f) xs := by
  cases d with
  | tup ys => cases e; rfl
  | lst ys => cases e; rfl
  | cst ys => cases e; rfl
  | ref i =>
    have e' : (match h.get i with
      | some (.lst xs) => some (false, xs)
      | _ => none) = some (k, xs) := e
    show (match h.get i with
      | some (.lst xs) => rdAll (rdB h f) xs
      | _ => false) = _
    cases q : h.get i with
    | none => rw [q] at e'; cases e'
    | some c =>
      rw [q] at e'
      cases c with
      | lst ys => cases e'; rfl
      | dct _ _ => cases e'
      | ins _ _ _ => cases e'
      | tbl _ => cases e'
  | _ => cases e
theorem rd_no {f : Nat} {d : D} (e : sq2 h d = none) (r : rdB h (f + 1) d = true) : pdD h (f + 1) d = pd0 d ∧ ∃ p, pd0 d = some p := by
  cases d with
  | tup ys => cases e
  | lst ys => cases e
  | cst ys => cases e
  | dct _ _ => cases r
  | glo _ => cases r
  | ref i =>
    have e' : (match h.get i with
      | some (.lst xs) => some (false, xs)
      | _ => none) = none := e
    have r' : (match h.get i with
      | some (.lst xs) => rdAll (rdB h f) xs
      | _ => false) = true := r
    cases q : h.get i with
    | none => rw [q] at r'; cases r'
    | some c =>
      rw [q] at r' e'
      cases c with
      | lst ys => cases e'
      | dct _ _ => cases r'
      | ins _ _ _ => cases r'
      | tbl _ => cases r'
  | non => exact ⟨rfl, _, rfl⟩
  | bl _ => exact ⟨rfl, _, rfl⟩
  | int _ => exact ⟨rfl, _, rfl⟩
  | str _ => exact ⟨rfl, _, rfl⟩
theorem eqAll_ok {r : D → D → Bool} {o : D → Bool} {p : D → Option PyData} (hr : ∀ {a b : D} {x y : PyData}, o a = true → o b = true → p a = some x → p b = some y → PyData.eqv x y = r a b) :
    ∀ {xs ys : List D} {ps qs : List PyData}, rdAll o xs = true → rdAll o ys = true → pdAll p xs = some ps → pdAll p ys = some qs → PyData.eqvAll ps qs = eqAllB r xs ys
  | [], [], _, _, _, _, h1, h2 => by cases h1; cases h2; simp only [PyData.eqvAll]; rfl
  | [], y :: ys, _, _, _, _, h1, h2 => by
    cases h1
    simp only [pdAll, Option.bind_eq_some_iff, Option.map_eq_some_iff] at h2
    obtain ⟨_, _, _, _, rfl⟩ := h2
    simp only [PyData.eqvAll]; rfl
  | x :: xs, [], _, _, _, _, h1, h2 => by
    cases h2
    simp only [pdAll, Option.bind_eq_some_iff, Option.map_eq_some_iff] at h1
    obtain ⟨_, _, _, _, rfl⟩ := h1
    simp only [PyData.eqvAll]; rfl
  | x :: xs, y :: ys, _, _, o1, o2, h1, h2 => by
    have o1' : (match o x with
      | true => rdAll o xs | false => false) = true := o1
    have o2' : (match o y with
      | true => rdAll o ys | false => false) = true := o2
    cases q1 : o x with
    | false => rw [q1] at o1'; cases o1'
    | true =>
      cases q2 : o y with
      | false => rw [q2] at o2'; cases o2'
      | true =>
        rw [q1] at o1'
        rw [q2] at o2'
        simp only [pdAll, Option.bind_eq_some_iff, Option.map_eq_some_iff] at h1 h2
        obtain ⟨a, a1, as, a2, rfl⟩ := h1
        obtain ⟨b, b1, bs, b2, rfl⟩ := h2
        simp only [PyData.eqvAll]
        rw [hr q1 q2 a1 b1, eqAll_ok hr o1' o2' a2 b2]
        show (r x y && eqAllB r xs ys) = (match r x y with
          | true => eqAllB r xs ys | false => false)
        cases r x y <;> rfl
theorem eqB_ok : ∀ (f : Nat) {a b : D} {p q : PyData}, rdB h f a = true → rdB h f b = true → pdD h f a = some p → pdD h f b = some q → PyData.eqv p q = eqB h f a b
  | 0, a, b, p, q, _, _, h1, h2 => eq0_ok h1 h2
  | f + 1, a, b, p, q, r1, r2, h1, h2 => by
    show _ = (match sq2 h a with
    | some (k, xs) => (match sq2 h b with
      | some (l, ys) => (match k with
        | true => (match l with
          | true => eqAllB (eqB h f) xs ys | false => false)
        | false => (match l with
          | true => false | false => eqAllB (eqB h f) xs ys))
      | none => false)
    | none => (match sq2 h b with
      | some _ => false
      | none => eq0 a b))
    have flat : ∀ {d : D} {p : PyData}, pd0 d = some p → (∀ ps, PyData.eqv p (.tuple ps) = false ∧ PyData.eqv p (.list ps) = false ∧ PyData.eqv (.tuple ps) p = false ∧ PyData.eqv (.list ps) p = false) := fun {d p} e ps => by
      cases d <;> first | (cases e; done) | (cases e; refine ⟨?_, ?_, ?_, ?_⟩ <;> simp only [PyData.eqv])
    cases qa : sq2 h a with
    | none =>
      obtain ⟨ea, p', ep⟩ := rd_no qa r1
      rw [ea] at h1
      cases qb : sq2 h b with
      | none =>
        obtain ⟨eb, _⟩ := rd_no qb r2
        rw [eb] at h2
        exact eq0_ok h1 h2
      | some lq =>
        obtain ⟨l, ys⟩ := lq
        rw [pd_sq qb, Option.map_eq_some_iff] at h2
        obtain ⟨qs, _, rfl⟩ := h2
        cases l
        · exact (flat h1 qs).2.1
        · exact (flat h1 qs).1
    | some kp =>
      obtain ⟨k, xs⟩ := kp
      rw [pd_sq qa, Option.map_eq_some_iff] at h1
      obtain ⟨ps, e1, rfl⟩ := h1
      rw [rd_sq qa] at r1
      cases qb : sq2 h b with
      | none =>
        obtain ⟨eb, _⟩ := rd_no qb r2
        rw [eb] at h2
        cases k
        · exact (flat h2 ps).2.2.2
        · exact (flat h2 ps).2.2.1
      | some lq =>
        obtain ⟨l, ys⟩ := lq
        rw [pd_sq qb, Option.map_eq_some_iff] at h2
        obtain ⟨qs, e2, rfl⟩ := h2
        rw [rd_sq qb] at r2
        have go := eqAll_ok (p := pdD h f) (r := eqB h f) (o := rdB h f) (fun o1 o2 a b => eqB_ok f o1 o2 a b) r1 r2 e1 e2
        cases k <;> cases l <;> simp only [PyData.eqv] <;> first | rfl | exact go
def dEqD (n : Bool) : D2 := fun a b h => match rdB h 40 a with
  | true => (match rdB h 40 b with
    | true => .ok (.bl (ng n (eqB h 40 a b))) h | false => .no)
  | false => .no
theorem oEqD (hK : X.K = P.K) (hu : X.A.units + 100 < cLine) : OpS P E X (compareOp .Eq) (dEqD false) := by
  intro pins s σ H x y v u Q I rx ry ⟨g, h, a, b, hs, ra, rb, o⟩
  have o' : Out P g (rv P) Q E (match rdB h 40 a with
    | true => (match rdB h 40 b with
      | true => .ok (.bl (ng false (eqB h 40 a b))) h | false => .no)
    | false => .no) := o
  cases qa : rdB h 40 a with
  | false => rw [qa] at o'; exact o'.elim
  | true =>
    cases qb : rdB h 40 b with
    | false => rw [qa, qb] at o'; exact o'.elim
    | true =>
      rw [qa, qb] at o'
      obtain ⟨p, p1, ⟨_, p2⟩, p3, p4⟩ := rd_ok I hs hK 40 ra rx qa
      obtain ⟨q, q1, ⟨_, q2⟩, q3, q4⟩ := rd_ok I hs hK 40 rb ry qb
      refine SeqAt.compareEq_reads p2 q2 p3 q3 (by omega) ⟨.bl _, H, I, rfl, ?_⟩
      rw [eqB_ok 40 qa qb p1 q1]
      exact Out.now (rel := rv P) (d := D.bl (eqB h 40 a b)) (v := V.bl (eqB h 40 a b)) o' hs (RV.bl _)
theorem oNeD (hK : X.K = P.K) (hu : X.A.units + 100 < cLine) : OpS P E X (compareOp .NotEq) (dEqD true) := by
  intro pins s σ H x y v u Q I rx ry ⟨g, h, a, b, hs, ra, rb, o⟩
  have o' : Out P g (rv P) Q E (match rdB h 40 a with
    | true => (match rdB h 40 b with
      | true => .ok (.bl (ng true (eqB h 40 a b))) h | false => .no)
    | false => .no) := o
  cases qa : rdB h 40 a with
  | false => rw [qa] at o'; exact o'.elim
  | true =>
    cases qb : rdB h 40 b with
    | false => rw [qa, qb] at o'; exact o'.elim
    | true =>
      rw [qa, qb] at o'
      obtain ⟨p, p1, ⟨_, p2⟩, p3, p4⟩ := rd_ok I hs hK 40 ra rx qa
      obtain ⟨q, q1, ⟨_, q2⟩, q3, q4⟩ := rd_ok I hs hK 40 rb ry qb
      refine SeqAt.compareNe_reads p2 q2 p3 q3 (by omega) ⟨.bl _, H, I, rfl, ?_⟩
      rw [eqB_ok 40 qa qb p1 q1]
      exact Out.now (rel := rv P) (d := D.bl (!eqB h 40 a b)) (v := V.bl (!eqB h 40 a b)) o' hs (RV.bl _)
end
end EV
end S_EvT
section S_EvU
/-! EvU: isinstance. -/
namespace EV
open PySem PySem.Spec PyProof.Rows L2 Evl
def tyN : Nat → String
  | 0 => "NoneType" | 1 => "bool" | 2 => "int" | 3 => "str" | 4 => "tuple" | 5 => "list" | _ => "dict"
/-- a datum's type; 10 + c: an instance of the class c -/
def tyD (h : Hc) : D → Option Nat
  | .non => some 0
  | .bl _ => some 1
  | .int _ => some 2
  | .str _ => some 3
  | .tup _ => some 4
  | .lst _ => some 5
  | .cst _ => some 5
  | .dct _ _ => some 6
  | .ref i => (match h.get i with
    | some (.lst _) => some 5
    | some (.dct _ _) => some 6
    | some (.ins c _ _) => some (10 + c)
    | some (.tbl _) => none
    | none => none)
  | .glo _ => none
def isiB (t k : Nat) : Bool := match Nat.beq t k with
  | true => true
  | false => (match Nat.beq t 1 with
    | true => Nat.beq k 2 | false => false)
theorem kit_bs : (List.range 7).all (fun t => (List.range 7).all fun k => decide (kitB (tyN t) (tyN k) = some (isiB t k))) = true := by decide +kernel
theorem kit_b {K : PySem.W.Frag} {t k : Nat} (ht : t < 7) (hk : k < 7) : PySem.W.kitOne K (.type (tyN t)) (.type (tyN k)) = some (isiB t k) := by
  have h := List.all_eq_true.mp kit_bs t (List.mem_range.mpr ht)
  exact kit_ty (of_decide_eq_true (List.all_eq_true.mp h k (List.mem_range.mpr hk)))
section
variable {P : Pm} {E : XK} {X : Cx} {g : G} {h : Hc} {H : Hp} {pins : List (Addr × Obj)} {σ : L2.St} {s : Shared}
theorem dl_obj {a : Addr} {ks vs : List D} (I : Inv X pins σ H s) (l : DL P g H a ks vs) : ∃ o, s.heap.get? a = some o ∧ o.cls = .type "dict" := by
  cases l with
  | k hr r =>
    have go : ∃ kvs, ObjOk X.prog X.w H s.heap a (.dK kvs) := by
      rcases hr with hr | ⟨o, hr⟩
      · exact ⟨_, I.hok _ _ hr⟩
      · exact ⟨_, (I.hok _ _ hr).2⟩
    obtain ⟨kvs, _, _, vs, _, o, es, ep, ho, hc, _⟩ := go
    exact ⟨o, ho, hc.1⟩
  | n ha ne r =>
    obtain ⟨⟨_, ho, _, xs, _, es, ep, hc, _⟩, _, _⟩ := I.hok _ _ ha
    exact ⟨_, ho, hc.1⟩
theorem tyD_lt {d : D} {t c : Nat} (e : tyD h d = some t) : t < 7 ∨ ∃ c, t = 10 + c ∧ ∃ ks vs, insOf c h d = some (ks, vs) := by
  cases d with
  | ref i =>
    have e' : (match h.get i with
      | some (.lst _) => some 5
      | some (.dct _ _) => some 6
      | some (.ins c _ _) => some (10 + c)
      | some (.tbl _) => none
      | none => none) = some t := e
    cases q : h.get i with
    | none => rw [q] at e'; cases e'
    | some cl =>
      rw [q] at e'
      cases cl with
      | lst _ => cases e'; exact .inl (by decide)
      | dct _ _ => cases e'; exact .inl (by decide)
      | ins c ks vs =>
        cases e'
        refine .inr ⟨c, rfl, ks, vs, ?_⟩
        show (match h.get i with
          | some (.ins c' ks vs) => (match Nat.beq c' c with
            | true => some (ks, vs) | false => none)
          | _ => none) = _
        rw [q]
        show (match Nat.beq c c with
          | true => some (ks, vs) | false => none) = _
        rw [nbeq_eq, decide_eq_true rfl]
      | tbl _ => cases e'
  | glo _ => cases e
  | _ => cases e; exact .inl (by decide)
/-- what isinstance asks of a datum of a built-in type -/
theorem kitD (I : Inv X pins σ H s) (hs : HS P g h H) (hK : X.K = P.K) {d : D} {x : V} {u : Value} {t : Nat} (r : RV P g.F g.ρ d x) (ru : RelV x u) (e : tyD h d = some t) (ht : t < 7) :
    ∃ Pf : Heap → Prop, PySem.W.KitX X.K u (.type (tyN t)) Pf ∧ Pf s.heap ∧ u ≠ .builtin "__main__.__loader__#opaque" := by
  have lists : ∀ {a : Addr} {vs : List V}, SqL X.K H a vs → ∃ Pf : Heap → Prop, PySem.W.KitX X.K (.ref a) (.type "list") Pf ∧ Pf s.heap ∧ Value.ref a ≠ .builtin "__main__.__loader__#opaque" := fun {a vs} h1 => by
    obtain ⟨its, rv, ⟨o, k, ho, hc, _, hd⟩, _⟩ := I.list h1
    exact ⟨_, PySem.W.kitx_list, ⟨_, ho, hc⟩, fun z => nomatch z⟩
  have dicts : ∀ {a : Addr} {ks vs : List D}, DL P g H a ks vs → ∃ Pf : Heap → Prop, PySem.W.KitX X.K (.ref a) (.type "dict") Pf ∧ Pf s.heap ∧ Value.ref a ≠ .builtin "__main__.__loader__#opaque" := fun {a ks vs} l => by
    obtain ⟨o, ho, hc⟩ := dl_obj I l
    exact ⟨_, PySem.W.kitx_dict, ⟨o, ho, hc⟩, fun z => nomatch z⟩
  cases r with
  | non => cases e; cases ru; exact ⟨_, PySem.W.kitx_none, True.intro, fun z => nomatch z⟩
  | bl y => cases e; cases ru; exact ⟨_, PySem.W.kitx_bool, True.intro, fun z => nomatch z⟩
  | int i => cases e; obtain ⟨t, rfl⟩ := ru; exact ⟨_, PySem.W.kitx_int, True.intro, fun z => nomatch z⟩
  | str y => cases e; obtain ⟨t, rfl⟩ := ru; exact ⟨_, PySem.W.kitx_str, True.intro, fun z => nomatch z⟩
  | @tup a vs xs h1 rr =>
    cases e
    obtain rfl : u = .ref a := ru
    obtain ⟨its, rv, ⟨o, ho, hc, k, hd⟩, _⟩ := I.tuple (show SqT X.K H a vs by rw [hK]; exact ex_t hs.fr h1)
    exact ⟨_, PySem.W.kitx_tuple, ⟨o, ho, hc⟩, fun z => nomatch z⟩
  | @lst a vs xs h1 rr => cases e; obtain rfl : u = Value.ref a := ru; exact lists (SqL.of (hs.fr _ _ h1))
  | @cst a vs xs h1 rr => cases e; obtain rfl : u = Value.ref a := ru; exact lists (show SqL X.K H a vs by rw [hK]; exact ex_l hs.fr h1)
  | @dct a ks vs kvs o h1 rr => cases e; obtain rfl : u = Value.ref a := ru; exact dicts (.k (.inr ⟨_, hs.fr _ _ h1⟩) rr)
  | @dctN a ks vs kvs o h1 ne rr => cases e; obtain rfl : u = Value.ref a := ru; exact dicts (.n (hs.fr _ _ h1) ne rr)
  | glo _ => cases e
  | @ref i a hr =>
    obtain rfl : u = .ref a := ru
    have e' : (match h.get i with
      | some (.lst _) => some 5
      | some (.dct _ _) => some 6
      | some (.ins c _ _) => some (10 + c)
      | some (.tbl _) => none
      | none => none) = some t := e
    cases q : h.get i with
    | none => rw [q] at e'; cases e'
    | some cl =>
      rw [q] at e'
      cases cl with
      | lst _ =>
        cases e'
        obtain ⟨b, vs, b1, _, b3, b4⟩ := hs.lst q
        rw [hr] at b1; cases b1
        exact lists (SqL.of b3)
      | dct _ _ =>
        cases e'
        obtain ⟨b, b1, b2, b3⟩ := hs.dct q
        rw [hr] at b1; cases b1
        rcases b3 with ⟨kvs, b3, r⟩ | ⟨kvs, o, b3, ne, r⟩
        · exact dicts (.k (.inl b3) r)
        · exact dicts (.n b3 ne r)
      | ins c _ _ => cases e'; omega
      | tbl _ => cases e'
/-- isinstance(e, T), T built in -/
def isiD (k : Nat) (d : D) (h : Hc) : R D := R.opt (tyD h d) fun t => match Nat.blt t 7 with
  | true => .ok (.bl (isiB t k)) h | false => .no
def fIsi (k : Nat) (f : FE) : FE := fun sl h => (f sl h).bind (isiD k)
def rIsiD (P : Pm) (E : XK) (c : V) (op : D → Hc → R D) : List V → Hp → VK → Prop := fun vs H Q => ∃ g h d x, vs = [x, c] ∧ HS P g h H ∧ RV P g.F g.ρ d x ∧ Out P g (rv P) Q E (op d h)
theorem call_isiD (hK : X.K = P.K) {k : Nat} (hk : k < 7) : CallR X (.builtin "isinstance") (rIsiD P E (.ty (tyN k)) (isiD k)) := by
  intro pins s σ H xs us Q I r ⟨g, h, d, x, e, hs, rd, o⟩
  subst e
  rcases vals2 r with ⟨u1, u2, rfl, r1, r2⟩
  obtain rfl : u2 = Value.type (tyN k) := r2
  obtain ⟨t, e, o⟩ := Out.opt o
  cases q : Nat.blt t 7 with
  | false => rw [q] at o; exact o.elim
  | true =>
    rw [q] at o
    have ht : t < 7 := Nat.le_of_ble_eq_true q
    obtain ⟨Pf, Z, pf, hx⟩ := kitD I hs hK rd r1 e ht
    exact PySem.W.kia_one Z I.kIn pf (kit_b ht hk) hx fun tk => ⟨.bl (isiB t k), H, I.tok tk, rfl, o.now hs (.bl _)⟩
theorem sE_isiR {e : Expr} {f : FE} {T : Str} {p p1 pos : Pos} {c : V} {op : D → Hc → R D} (hr : CallR X (.builtin "isinstance") (rIsiD P E c op)) (hg : Gl X "isinstance") (hm : X.mg "isinstance" = none) (hT : PE X (.Name T p1) (tC c))
    (he : PE X e (rdE P E f)) (hst : starEach [e, .Name T p1] X.env = (false, eval e X.env) :: starEach [.Name T p1] X.env := by rfl) (hst2 : starEach [.Name T p1] X.env = (false, eval (.Name T p1) X.env) :: starEach [] X.env := by rfl) :
    PE X (.Call (.Name "isinstance" p) [e, .Name T p1] [] pos) (rdE P E fun sl h => (f sl h).bind op) :=
  PE.weak (pe_callB hr hg hm PyProof.Rows.Boot.isinstance (pa_cons he (pa_cons hT pa_nil hst2) hst) (by decide) (by decide) hst (by rw [hst2]; rfl)) fun σ H Q ⟨g, sl, h, x, o⟩ => ⟨g, sl, h, x, Out.bind o fun d h1 g1 H1 v l1 s1 r1 o1 => ⟨g1, h1, d, v, rfl, s1, r1, o1⟩⟩
theorem sE_isi {e : Expr} {f : FE} {k : Nat} {T : Str} {p p1 pos : Pos} (hK : X.K = P.K) (hk : k < 7) (hg : Gl X "isinstance") (hm : X.mg "isinstance" = none) (hgT : Gl X T) (hmT : X.mg T = none) (hbT : bootBuiltins T = some (.type (tyN k))) (hnT : T ≠ "__name__") (hdT : (T == ("__debug__" : Str)) = false)
    (he : PE X e (rdE P E f)) (hst : starEach [e, .Name T p1] X.env = (false, eval e X.env) :: starEach [.Name T p1] X.env := by rfl) (hst2 : starEach [.Name T p1] X.env = (false, eval (.Name T p1) X.env) :: starEach [] X.env := by rfl) :
    PE X (.Call (.Name "isinstance" p) [e, .Name T p1] [] pos) (rdE P E (fIsi k f)) :=
  sE_isiR (call_isiD hK hk) hg hm ⟨fun _ _ _ H _ I h => ld_blt I hgT hmT hbT ⟨.ty (tyN k), H, I, rfl, h⟩ hnT hdT⟩ he hst hst2
/-- isinstance(e, C), C a class of the module -/
def isiC (c : Nat) (d : D) (h : Hc) : R D := match insOf c h d with
  | some _ => .ok (.bl true) h
  | none => R.opt (tyD h d) fun t => match Nat.blt t 7 with
    | true => .ok (.bl false) h | false => .no
def fIsiC (c : Nat) (f : FE) : FE := fun sl h => (f sl h).bind (isiC c)
/-- what the written part says of a class for isinstance -/
structure IsiC (K : PySem.W.Frag) (C : Addr) : Prop where
  cls : Cls K C
  ca :
      PySem.W.findIn K (.ref C) "__class__" = some (some (.builtin "object.__class__"))
  cn :
      PySem.W.specialIn K (.builtin "object.__class__") "__get__" = some (some (.builtin "getset_descriptor.__get__"))
  ct :
      PySem.W.takesIn K (.builtin "object.__class__") = some true
  cm :
      PySem.W.mroIn K C (.type "object") = some true
  same : PySem.W.kitOne K (.ref C) (.ref C) = some true
  other : ∀ t, t < 7 → PySem.W.kitOne K (.type (tyN t)) (.ref C) = some false
theorem call_isiC (hK : X.K = P.K) {c : Nat} (T : IsiC X.K (P.CA c)) : CallR X (.builtin "isinstance") (rIsiD P E (.ref (P.CA c)) (isiC c)) := by
  intro pins s σ H xs us Q I r ⟨g, h, d, x, e, hs, rd, o⟩
  subst e
  rcases vals2 r with ⟨u1, u2, rfl, r1, r2⟩
  obtain rfl : u2 = Value.ref (P.CA c) := r2
  have o' : Out P g (rv P) Q E (match insOf c h d with
    | some _ => .ok (.bl true) h
    | none => R.opt (tyD h d) fun t => match Nat.blt t 7 with
      | true => .ok (.bl false) h | false => .no) := o
  cases q : insOf c h d with
  | some kv =>
    rw [q] at o'
    obtain ⟨ks, vs⟩ := kv
    obtain ⟨i, a, dx, fs, _, rfl, _, _, h3, _⟩ := insOf_ok hs rd q
    obtain rfl : u1 = Value.ref a := r1
    obtain ⟨mA, O, _⟩ := ins_get I.hok h3
    obtain ⟨od, J, _⟩ := O.look
    exact PySem.W.kia_one (PySem.W.kitx_own (T.cls.get _) T.cls.hd T.ca T.cn T.ct T.cm) I.kIn J T.same (fun z => nomatch z) fun tk => ⟨.bl true, H, I.tok tk, rfl, Out.now (d := D.bl true) (rel := rv P) o' hs (.bl _)⟩
  | none =>
    rw [q] at o'
    obtain ⟨t, e, o⟩ := Out.opt o'
    cases z : Nat.blt t 7 with
    | false => rw [z] at o; exact o.elim
    | true =>
      rw [z] at o
      have ht : t < 7 := Nat.le_of_ble_eq_true z
      obtain ⟨Pf, Z, pf, hx⟩ := kitD I hs hK rd r1 e ht
      exact PySem.W.kia_one Z I.kIn pf (T.other t ht) hx fun tk => ⟨.bl false, H, I.tok tk, rfl, o.now hs (.bl _)⟩
theorem sE_isiC {e : Expr} {f : FE} {c : Nat} {T : Str} {p p1 pos : Pos} (hK : X.K = P.K) (TC : IsiC X.K (P.CA c)) (hg : Gl X "isinstance") (hm : X.mg "isinstance" = none) (hgT : Gl X T) (hmT : X.mg T = some (.ref (P.CA c))) (hdT : (T == ("__debug__" : Str)) = false)
    (he : PE X e (rdE P E f)) (hst : starEach [e, .Name T p1] X.env = (false, eval e X.env) :: starEach [.Name T p1] X.env := by rfl) (hst2 : starEach [.Name T p1] X.env = (false, eval (.Name T p1) X.env) :: starEach [] X.env := by rfl) :
    PE X (.Call (.Name "isinstance" p) [e, .Name T p1] [] pos) (rdE P E (fIsiC c f)) :=
  sE_isiR (call_isiC hK TC) hg hm (pe_glob hgT hmT rfl hdT) he hst hst2
end
end EV
end S_EvU
section S_EvV
/-! EvV: == and != by an own __eq__. -/
namespace EV
open PySem PySem.Spec PyProof.Rows L2 Evl
/-- the right side: an instance of the class c, None, an int -/
def okR (c : Nat) (h : Hc) (b : D) : Bool := match b with
  | .non => true
  | .int _ => true
  | b => (match insOf c h b with
    | some _ => true | none => false)
def dEqO (c : Nat) (F : FF) : D2 := fun a b h => R.opt (insOf c h a) fun _ => match okR c h b with
  | true => F [a, b] h | false => .no
def notR : D → Hc → R D := fun d h => match d with
  | .bl k => .ok (.bl (!k)) h | _ => .no
def dNeO (c : Nat) (F : FF) : D2 := fun a b h => R.opt (insOf c h a) fun _ => match okR c h b with
  | true => (F [a, b] h).bind notR | false => .no
/-- a class, as the written part has it -/
structure EqC (K : PySem.W.Frag) (C fa : Addr) : Prop where
  cls : Cls K C
  eq : PySem.W.findIn K (.ref C) "__eq__" = some (some (.ref fa))
  ne : PySem.W.findIn K (.ref C) "__ne__" = some (some (.builtin "object.__ne__"))
  fn : PySem.W.isFn K (.ref fa) = true
  n0 : PySem.W.notFirst K C (.type "NoneType") = true
  n2 : PySem.W.notFirst K C (.type "int") = true
  ob : PySem.W.mroIn K C (.type "object") = some true
section
variable {P : Pm} {E : XK} {X : Cx} {g : G} {h : Hc} {H : Hp} {pins : List (Addr × Obj)} {σ : L2.St} {s : Shared} {c k : Nat} {fa : Addr} {fd : FuncData} {ps : List Str} {F : FF}
theorem right_ok (hs : HS P g h H) (T : EqC X.K (P.CA c) fa) (I : Inv X pins σ H s) {b : D} {y : V} {u : Value} (rb : RV P g.F g.ρ b y) (ru : RelV y u) (e : okR c h b = true) : ∃ tb, PySem.W.Looks (model X.prog X.w) s.heap (typeOf u) tb ∧ PySem.W.notFirst X.K (P.CA c) tb = true := by
  have ins : (match insOf c h b with
    | some _ => true | none => false) = true → ∃ tb, PySem.W.Looks (model X.prog X.w) s.heap (typeOf u) tb ∧ PySem.W.notFirst X.K (P.CA c) tb = true := fun e => by
    cases q : insOf c h b with
    | none => (rw [q] at e; cases e)
    | some kv =>
      obtain ⟨ks, vs⟩ := kv
      obtain ⟨i, a, dx, fs, _, rfl, _, _, h3, _⟩ := insOf_ok hs rb q
      obtain rfl : u = .ref a := ru
      obtain ⟨mA, O, _⟩ := ins_get I.hok h3
      obtain ⟨od, J, _⟩ := O.look
      exact ⟨_, J.type, by simp [PySem.W.notFirst]⟩
  cases rb with
  | non => cases ru; exact ⟨.type "NoneType", .of_pure rfl, T.n0⟩
  | int i => obtain ⟨t, rfl⟩ := ru; exact ⟨.type "int", .of_pure rfl, T.n2⟩
  | _ => exact ins e
theorem oEqO (FO : FnS X P k fa fd ps 2 F) (tk : Tk X E) (hr : Room k X.A) (hb : Binds X.K fd ps []) (T : EqC X.K (P.CA c) fa) : OpS P E X (compareOp .Eq) (dEqO c F) := by
  intro pins s σ H x y v u Q I rx ry ⟨g, h, a, b, hs, ra, rb, o⟩
  obtain ⟨⟨ks, vs⟩, e1, o⟩ := Out.opt o
  obtain ⟨i, p, dx, fs, ea, rfl, _, _, h3, _⟩ := insOf_ok hs ra e1
  subst ea
  obtain rfl : v = .ref p := rx
  cases q : okR c h b with
  | false => rw [q] at o; exact o.elim
  | true =>
    rw [q] at o
    obtain ⟨tb, l1, l2⟩ := right_ok hs T I rb ry q
    obtain ⟨mA, O, _⟩ := ins_get I.hok h3
    obtain ⟨od, J, _⟩ := O.look
    obtain ⟨m, hF⟩ := I.fr
    refine PySem.W.cmp_K (op := .Eq) (tb := tb) hr.units0 hF I.ok.mod.kin J l1 l2 T.eq T.fn ?_
    have hsp : spF P 2 F [.ref p, y] H Q E := ⟨rfl, g, [.ref i, b], h, hs, .cons ra (.cons rb .nil), o⟩
    have run := run_fn (us := [.ref p, u]) (vs := [.ref p, y]) (dvs := []) (ds := []) FO hr hb .nil (passes_call (E := E) tk fun _ _ _ _ h => h) I (.cons rfl (.cons ry .nil)) (by rw [List.append_nil]; exact hsp)
    refine wpAny_mono run (fun w s' hw => ?_) fun _ _ x => x
    obtain ⟨z, H', I', rz, qz⟩ := hw
    exact SlX.cmpback rz ⟨z, H', I', rz, qz⟩
/-- object.__ne__, by the own __eq__ -/
theorem ne_own {prog : Program} {w : World} {A : Around} {E : Value → Shared → Prop} {s : Shared} {K : PySem.W.Frag} {x C f : Addr} {ox : Obj} {od : Option Obj} {b tb : Value} {Q : Value → Shared → Prop} (hu : A.units + 10 < cLine) (X : K.In s.heap) (I : PySem.W.InstAt s.heap x ox C od) (hb : PySem.W.Looks (model prog w) s.heap (typeOf b) tb) (hn : PySem.W.notFirst K C tb = true)
    (he : PySem.W.findIn K (.ref C) "__eq__" = some (some (.ref f))) (hne : PySem.W.findIn K (.ref C) "__ne__" = some (some (.builtin "object.__ne__"))) (hf : PySem.W.isFn K (.ref f) = true) (ho : PySem.W.mroIn K C (.type "object") = some true)
    (h : wpAny (model prog w) A.in1 (call (.ref f) [.ref x, b]) (fun v s' => ∃ k, v = .bool k ∧ Q (.bool (!k)) s') E s) : wpAny (model prog w) A (richCompare .NotEq (.ref x) b) Q E s := by
  have hL : PySem.W.Looks (model prog w) s.heap (isInstance (.ref x) (.type "object")) true := I.type.andThen (PySem.W.looks_mroIn X ho)
  have entry : ∀ {Q' : Fin → Shared → Prop} {E' : Value → Shared → Prop}, wpAny (model prog w) A.in1 (call (.ref f) [.ref x, b]) (fun v s' => ∃ k, v = .bool k ∧ Q' (.done (.ret (.bool (!k)))) s') E' s → wpAny (model prog w) A.in1 (Builtin.«object.__ne__» ⟨[.ref x, b], []⟩) Q' E' s := fun {Q' E'} hc => by
    unfold Builtin.«object.__ne__» at ⊢
    repeat (first
      | with_reducible refine wpAny_cRoomFor (show A.units + 1 < cLine by omega) ?_
      | (refine wpAny_bind (m := callSpecialIfBound? (.ref x) (Str.ofString "__eq__") [b]) (PySem.W.ifBound_K X I he hf (wpAny_mono hc (fun r s' hr => by
            obtain ⟨k, rfl, hq⟩ := hr
            repeat (first | exact hq | exact wpAny_pure hq | exact (wpAny_truthy_bool hq) | (refine wpAny_bind (m := truthy (.bool _)) (wpAny_truthy_bool ?_)) | wp_step)) fun _ _ e => e)))
      | wp_step)
  have one : wpAny (model prog w) A (tryCompare (.ref x) (cmpInfo .NotEq).2.1 b) (fun r s' => ∃ v, r = some v ∧ Q v s') E s := by
    unfold tryCompare
    refine wpAny_bind (m := callSpecialIfBound? (.ref x) (Str.ofString "__ne__") [b]) ?_
    simp only [callSpecialIfBound?, bindSpecialIfBound?] at ⊢
    refine wpAny_holding (wpAny_bind (wpAny_bind (wpAny_bind (I.type.here ((PySem.W.looks_findIn X hne).here ?_)))))
    simp only [F.cmp_object.ne.bind]
    have go : wpAny (model prog w) A (call (.builtin "object.__ne__") [.ref x, b]) (fun v s' => v ≠ .notImplemented ∧ Q v s') E s := by
      refine wpAny_call (codeAny_call_builtin F.cmp_object.ne.plain F.cmpEntry_ne (@PySem.W.check_slot (model prog w) _ _ s "object.__ne__" "object" "__ne__" (.ref x) [b] [] _ F.cmpKind_ne F.cmpSplit_ne hL (F.cmpArgs_ne _ _) (entry (wpAny_mono h (fun v s' ⟨k, e, q⟩ => ⟨k, e, (show _ ∧ _ from ⟨(fun z => nomatch z), q⟩)⟩) fun _ _ e => e))))
    have fin : ∀ K : Option Value → Shared → Prop, (∀ v s', v ≠ .notImplemented → Q v s' → K (some v) s') → wpAny (model prog w) A (call (.builtin "object.__ne__") ([.ref x] ++ [b]) >>= fun v => pure (some v)) K E s := fun K hk => wpAny_bind (wpAny_mono go (fun v s' ⟨n, q⟩ => wpAny_pure (hk v s' n q)) fun _ _ e => e)
    refine (wpAny_bind (wpAny_askSetting (wpAny_ite ?_)))
    split
    · refine wpAny_bind (wpAny_pure (wpAny_pure (fin _ fun v s' n q => ?_)))
      cases v <;> first | exact absurd rfl n | exact wpAny_pure ⟨_, rfl, q⟩
    · refine wpAny_tryCatch (wpAny_bind (wpAny_pure (wpAny_pure (fin _ fun v s' n q => ?_))))
      cases v <;> first | exact absurd rfl n | exact wpAny_pure ⟨_, rfl, q⟩
  unfold richCompare
  simp only [oneThing_ref]
  refine wpAny_holding (wpAny_bind (wpAny_cRoomFor (by omega) (wpAny_bind (I.type.here (wpAny_bind (hb.here ?_))))))
  split
  · rename_i q
    have e : PySem.W.subIn K tb (.ref C) = some false := by
      rcases Bool.or_eq_true_iff.mp
          hn with e | e
      · rw [beq_iff_eq.mp e]
            at q; simp at q
      · exact beq_iff_eq.mp e
    refine wpAny_bind ((PySem.W.looks_subIn X e).here ?_)
    simp only [Bool.false_eq_true, if_false] at ⊢
    exact wpAny_bind (wpAny_mono one (fun r s' ⟨v, e, hq⟩ => by subst e; exact wpAny_pure hq) fun _ _ e => e)
  · refine (wpAny_bind (wpAny_pure ?_))
    simp only [Bool.false_eq_true, if_false] at ⊢
    exact wpAny_bind (wpAny_mono one (fun r s' ⟨v, e, hq⟩ => by subst e; exact wpAny_pure hq) fun _ _ e => e)
theorem oNeO (FO : FnS X P k fa fd ps 2 F) (tk : Tk X E) (hr : Room (k + 1) X.A) (hb : Binds X.K fd ps []) (T : EqC X.K (P.CA c) fa) : OpS P E X (compareOp .NotEq) (dNeO c F) := by
  intro pins s σ H x y v u Q I rx ry ⟨g, h, a, b, hs, ra, rb, o⟩
  obtain ⟨⟨ks, vs⟩, e1, o⟩ := Out.opt o
  obtain ⟨i, p, dx, fs, ea, rfl, _, _, h3, _⟩ := insOf_ok hs ra e1
  subst ea
  obtain rfl : v = .ref p := rx
  cases q : okR c h b with
  | false => rw [q] at o; exact o.elim
  | true =>
    rw [q] at o
    obtain ⟨tb, l1, l2⟩ := right_ok hs T I rb ry q
    obtain ⟨mA, O, _⟩ := ins_get I.hok h3
    obtain ⟨od, J, _⟩ := O.look
    have hu := hr.un
    have o2 : Out P g (rv P) (fun z H' => ∃ k, z = .bl k ∧ Q (.bl (!k)) H') E (F [.ref i, b] h) := Out.bind o fun d h1 g1 H1 z l1 s1 r1 o1 => by
      cases r1 with
      | bl k => exact ⟨k, rfl, Out.now (d := D.bl (!k)) (rel := rv P) (v := V.bl (!k)) o1 s1 (.bl _)⟩
      | _ => exact o1.elim
    have hsp : spF P 2 F [.ref p, y] H (fun z H' => ∃ k, z = .bl k ∧ Q (.bl (!k)) H') E := ⟨rfl, g, [.ref i, b], h, hs, .cons ra (.cons rb .nil), o2⟩
    refine ne_own (tb := tb) (by omega) I.kIn J l1 l2 T.eq T.ne T.fn T.ob (wpAny_call (codeAny_mono (FO.run X.A.in1 X.stack s H ⟨[.ref p, u], []⟩ [.ref p, u] [.ref p, y] _ E hr.in1 I.env0.in1 (by
      have b := hb s [.ref p, u] I.kIn (by rw [List.append_nil]; exact (FO.len _ _ _ _ hsp))
      rw [List.append_nil] at b
      exact b) (.cons rfl (.cons ry .nil)) hsp) fun r s' hq => ?_))
    cases r with
    | error e => exact (passes_call (E := E) tk fun _ _ _ _ h => h) pins σ H s e s' I hq
    | ok fl =>
      cases fl with
      | ret w =>
        obtain ⟨z, H', I', rz, k, e, qz⟩ := I.after hq
        subst e
        cases rz
        exact ⟨k, rfl, .bl (!k), H', I', rfl, qz⟩
      | next => exact False.elim hq
      | brk => exact False.elim hq
      | cont => exact False.elim hq
end
end EV
end S_EvV
section S_EvW
/-! EvW: == of dicts, of lists that hold dicts. -/
namespace EV
open PySem PySem.Spec PyProof.Rows L2 Evl
open PySem.SeqAt (EqIn EqAt
    rcIn_lists rcIn_tuples)
def isE (h : Hc) (d : D) : Bool := match dctOf h d with
  | some ([], []) => true
  | _ => false
/-- surely equal -/
def eqN (h : Hc) : Nat → D → D → Bool
  | 0, _, _ => false
  | f + 1, a, b => match (match rdB h 40 a with
      | true => rdB h 40 b | false => false) with
    | true => eqB h 40 a b
    | false => (match isE h a with
      | true => isE h b
      | false => (match sq2 h a with
        | some (k, xs) => (match sq2 h b with
          | some (l, ys) => (match k with
            | true => (match l with
              | true => eqAllB (eqN h f) xs ys | false => false)
            | false => (match l with
              | true => false | false => eqAllB (eqN h f) xs ys))
          | none => false)
        | none => false))
/-- an item's == -/
def eqI (h : Hc) (a b : D) : Option Bool := match (match rdB h 40 a with
    | true => rdB h 40 b | false => false) with
  | true => some (eqB h 40 a b)
  | false => (match eqN h 40 a b with
    | true => some true | false => none)
def hitsD (h : Hc) : List D → List D → List D → List D → Option Bool
  | k :: ks, v :: vs, ls, ws => (match lookD ls ws k with
    | some y => (match eqI h v y with
      | some e => (match hitsD h ks vs ls ws with
        | some r => some (match e with
          | true => r | false => false)
        | none => none)
      | none => none)
    | none => some false)
  | _, _, _, _ => some true
def kdS (ks : List D) : Nat := match ks with
  | [] => 2
  | k :: _ => kd k
/-- == at the top -/
def eqT (h : Hc) (a b : D) : Option Bool := match dctOf h a with
  | some (ks, vs) => (match dctOf h b with
    | some (ls, ws) => (match Nat.beq ks.length ls.length with
      | true => (match Nat.beq (kdS ks) (kdS ls) with
        | true => hitsD h ks vs ls ws | false => none)
      | false => some false)
    | none => none)
  | none => (match sq2 h a with
    | some (k, xs) => (match sq2 h b with
      | some (l, ys) => (match k with
        | true => (match l with
          | true => (match eqAllB (eqN h 40) xs ys with
            | true => some true | false => none)
          | false => none)
        | false => (match l with
          | true => none
          | false => (match Nat.beq xs.length ys.length with
            | true => (match eqAllB (eqN h 40) xs ys with
              | true => some true | false => none)
            | false => some false)))
      | none => none)
    | none => none)
section
variable {P : Pm} {E : XK} {X : Cx} {g : G} {h : Hc} {H : Hp} {pins : List (Addr × Obj)} {σ : L2.St} {s : Shared}
theorem sq2_ok {d : D} {x : V} {k : Bool} {xs : List D} (hK : X.K = P.K) (hs : HS P g h H) (r : RV P g.F g.ρ d x) (e : sq2 h d = some (k, xs)) : ∃ a vs, x = .ref a ∧ RVs P g.F g.ρ xs vs ∧ (match k with
    | true => SqT X.K H a vs | false => SqL X.K H a vs) := by
  cases r with
  | @tup a vs xs h1 rr => cases e; exact ⟨a, vs, rfl, rr, show SqT X.K H a vs by rw [hK]; exact ex_t hs.fr h1⟩
  | @lst a vs xs h1 rr => cases e; exact ⟨a, vs, rfl, rr, SqL.of (hs.fr _ _ h1)⟩
  | @cst a vs xs h1 rr => cases e; exact ⟨a, vs, rfl, rr, show SqL X.K H a vs by rw [hK]; exact ex_l hs.fr h1⟩
  | @ref i a hr =>
    have e' : (match h.get i with
      | some (.lst xs) => some (false, xs)
      | _ => none) = some (k, xs) := e
    cases q : h.get i with
    | none => rw [q] at e'; cases e'
    | some c =>
      rw [q] at e'
      cases c with
      | lst ys =>
        cases e'
        obtain ⟨b, vs, b1, _, b3, b4⟩ := hs.lst q
        rw [hr] at b1; cases b1
        exact ⟨a, vs, rfl, b4, SqL.of b3⟩
      | dct _ _ => cases e'
      | ins _ _ _ => cases e'
      | tbl _ => cases e'
  | _ => cases e
theorem eqI_rd (I : Inv X pins σ H s) (hs : HS P g h H) (hK : X.K = P.K) {a b : D} {x y : V} {u v : Value} (ra : RV P g.F g.ρ a x) (rx : RelV x u) (rb : RV P g.F g.ρ b y) (ry : RelV y v) (e : (match rdB h 40 a with
    | true => rdB h 40 b | false => false) = true) {A : Around} (hu : A.units + 40 < cLine) : EqIn X.prog X.w A s u v (eqB h 40 a b) := by
  cases qa : rdB h 40 a with
  | false => rw [qa] at e; cases e
  | true =>
    rw [qa] at e
    have qb : rdB h 40 b = true := e
    obtain ⟨p, p1, ⟨_, p2⟩, p3, p4⟩ := rd_ok I hs hK 40 ra rx qa
    obtain ⟨q, q1, ⟨_, q2⟩, q3, q4⟩ := rd_ok I hs hK 40 rb ry qb
    rw [← eqB_ok 40 qa qb p1 q1]
    exact (SeqAt.eqAt_reads p q A s u v _ _ p2 q2 p3 q3 (by omega)).inModel X.prog X.w
theorem isE_ok {d : D} {x : V} (hs : HS P g h H) (r : RV P g.F g.ρ d x) (e : isE h d = true) : ∃ a, x = .ref a ∧ DL P g H a [] [] := by
  unfold isE at e
  cases q : dctOf h d with
  | none => (rw [q] at e; cases e)
  | some kv =>
    obtain ⟨ks, vs⟩ := kv
    cases ks with
    | cons _ _ => rw [q] at e; cases e
    | nil =>
      cases vs with
      | cons _ _ => rw [q] at e; cases e
      | nil => exact dctOf_ok hs r q
theorem dl_empty {a : Addr} (I : Inv X pins σ H s) (l : DL P g H a [] []) : (a == sysModules) = false ∧ s.heap.DictOf (mixKind X.prog X.w) a [] := by
  cases l with
  | k hr r =>
    have ek := rk_nil r
    subst ek
    obtain ⟨_, hd, vs, hv, d⟩ := dk_rd I.hok hr
    cases hv
    exact ⟨hd, d⟩
  | n ha ne r => exact absurd (rn_nil r) ne
theorem eqAllN_len {r : D → D → Bool} : ∀ {xs ys : List D}, eqAllB r xs ys = true → xs.length = ys.length ∧ ∀ (j : Nat) a b, xs[j]? = some a → ys[j]? = some b → r a b = true
  | [], [], _ => ⟨rfl, fun j a b h => by simp at h⟩
  | [], _ :: _, h => by cases h
  | _ :: _, [], h => by cases h
  | x :: xs, y :: ys, h => by
    have h' : (match r x y with
      | true => eqAllB r xs ys | false => false) = true := h
    cases q : r x y with
    | false => rw [q] at h'; cases h'
    | true =>
      rw [q] at h'
      obtain ⟨l, k⟩ := eqAllN_len h'
      refine ⟨by rw [List.length_cons, List.length_cons, l], fun j a b h1 h2 => ?_⟩
      cases j with
      | zero => simp at h1 h2; subst h1; subst h2; exact q
      | succ j => exact k j a b (by simpa using h1) (by simpa using h2)
/-- all items equal, at the values -/
theorem items_eq {r : D → D → Bool} {A : Around} (hr : ∀ {a b : D} {x y : V} {u v : Value}, RV P g.F g.ρ a x → RelV x u → RV P g.F g.ρ b y → RelV y v → r a b = true → EqIn X.prog X.w A s u v true) {xs ys : List D} {vs ws : List V} {us zs : List Value} (rx : RVs P g.F g.ρ xs vs) (ux : Vals vs us) (ry : RVs P g.F g.ρ ys ws) (uy : Vals ws zs) (e : eqAllB r xs ys = true) :
    us.toArray.size = zs.toArray.size ∧ ∀ j (h1 : j < us.toArray.size) (h2 : j < zs.toArray.size), EqIn X.prog X.w A s us.toArray[j] zs.toArray[j] true := by
  obtain ⟨l, k⟩ := eqAllN_len e
  have n1 := rx.length
  have n2 := ry.length
  have n3 := ux.length
  have n4 := uy.length
  refine ⟨by simp; omega, fun j h1 h2 => ?_⟩
  have j1 : j < xs.length := by simp at h1; omega
  have j2 : j < ys.length := by simp at h2; omega
  obtain ⟨x, x1, x2⟩ := rx.get (List.getElem?_eq_getElem j1)
  obtain ⟨y, y1, y2⟩ := ry.get (List.getElem?_eq_getElem j2)
  obtain ⟨u, u1, u2⟩ := ux.get x1
  obtain ⟨v, v1, v2⟩ := uy.get y1
  have e1 : us.toArray[j] = u := by
    have := List.getElem?_eq_some_iff.mp u1
    simpa using this.2
  have e2 : zs.toArray[j] = v := by
    have := List.getElem?_eq_some_iff.mp v1
    simpa using this.2
  rw [e1, e2]
  exact hr x2 u2 y2 v2 (k j _ _ (List.getElem?_eq_getElem j1) (List.getElem?_eq_getElem j2))
theorem all_true (n : Nat) : (List.range n).all (fun _ => true) = true := List.all_eq_true.mpr fun _ _ => rfl
theorem eqN_ok (I : Inv X pins σ H s) (hs : HS P g h H) (hK : X.K = P.K) : ∀ (f : Nat) {a b : D} {x y : V} {u v : Value} {A : Around}, A.units + f + 41 < cLine → RV P g.F g.ρ a x → RelV x u → RV P g.F g.ρ b y → RelV y v → eqN h f a b = true → EqIn X.prog X.w A s u v true
  | 0, _, _, _, _, _, _, _, _, _, _, _, _, e => by cases e
  | f + 1, a, b, x, y, u, v, A, hu, ra, rx, rb, ry, e => by
    have e' : (match (match rdB h 40 a with
      | true => rdB h 40 b | false => false) with
    | true => eqB h 40 a b
    | false => (match isE h a with
      | true => isE h b
      | false => (match sq2 h a with
        | some (k, xs) => (match sq2 h b with
          | some (l, ys) => (match k with
            | true => (match l with
              | true => eqAllB (eqN h f) xs ys | false => false)
            | false => (match l with
              | true => false | false => eqAllB (eqN h f) xs ys))
          | none => false)
        | none => false))) = true := e
    cases q : (match rdB h 40 a with
      | true => rdB h 40 b | false => false) with
    | true =>
      rw [q] at e'
      have := eqI_rd I hs hK ra rx rb ry q (A := A) (by omega)
      rw [show eqB h 40 a b = true from e'] at this
      exact this
    | false =>
      rw [q] at e'
      simp only at e'
      cases qe : isE h a with
      | true =>
        rw [qe] at e'
        obtain ⟨p, rfl, l1⟩ := isE_ok hs ra qe
        obtain ⟨p', rfl, l2⟩ := isE_ok hs rb e'
        obtain rfl : u = .ref p := rx
        obtain rfl : v = Value.ref p' := ry
        obtain ⟨s1, d1⟩ := dl_empty I l1
        obtain ⟨s2, d2⟩ := dl_empty I l2
        by_cases z : p = p'
        · subst z
          exact (SeqAt.EqAt.same _).inModel _ _
        · exact SeqAt.EqIn.of_refs z fun E Q hq => PySem.W.keq_eqIn s1 s2 d1 d2 (by omega) (fun _ => .nil) hq
      | false =>
        rw [qe] at e'
        simp only at e'
        cases qa : sq2 h a with
        | none => rw [qa] at e'; cases e'
        | some kx =>
          obtain ⟨k, xs⟩ := kx
          rw [qa] at e'
          simp only at e'
          cases qb : sq2 h b with
          | none => rw [qb] at e'; cases e'
          | some ly =>
            obtain ⟨l, ys⟩ := ly
            rw [qb] at e'
            obtain ⟨p, vs, rfl, r1, t1⟩ := sq2_ok hK hs ra qa
            obtain ⟨p', ws, rfl, r2, t2⟩ := sq2_ok hK hs rb qb
            obtain rfl : u = .ref p := rx
            obtain rfl : v = Value.ref p' := ry
            by_cases z : p = p'
            · subst z
              exact (SeqAt.EqAt.same _).inModel _ _
            · cases k with
              | true =>
                cases l with
                | false => cases e'
                | true =>
                  obtain ⟨us, v1, p1, _⟩ := I.tuple t1
                  obtain ⟨zs, v2, p2, _⟩ := I.tuple t2
                  obtain ⟨hz, it⟩ := items_eq (A := A.in1) (fun a b c d e => eqN_ok I hs hK f (by show A.units + 1 + f + 41 < cLine; omega) a b c d e) r1 v1 r2 v2 e'
                  refine SeqAt.EqIn.of_refs z fun E Q hq => rcIn_tuples (e := fun _ => true) p1 p2 (by omega) it ?_
                  rw [all_true, hz, beq_self_eq_true]
                  exact hq
              | false =>
                cases l with
                | true => cases e'
                | false =>
                  obtain ⟨us, v1, p1, _⟩ := I.list t1
                  obtain ⟨zs, v2, p2, _⟩ := I.list t2
                  obtain ⟨hz, it⟩ := items_eq (A := A.in1) (fun a b c d e => eqN_ok I hs hK f (by show A.units + 1 + f + 41 < cLine; omega) a b c d e) r1 v1 r2 v2 e'
                  refine SeqAt.EqIn.of_refs z fun E Q hq => rcIn_lists (e := fun _ => true) p1.isList p2.isList hz (by omega) it ?_
                  rw [all_true]
                  exact hq
theorem eqI_ok (I : Inv X pins σ H s) (hs : HS P g h H) (hK : X.K = P.K) {a b : D} {x y : V} {u v : Value} {A : Around} {r : Bool} (hu : A.units + 90 < cLine) (ra : RV P g.F g.ρ a x) (rx : RelV x u) (rb : RV P g.F g.ρ b y) (ry : RelV y v) (e : eqI h a b = some r) : EqIn X.prog X.w A s u v r := by
  unfold eqI at e
  cases q : (match rdB h 40 a with
    | true => rdB h 40 b | false => false) with
  | true =>
    rw [q] at e
    have := eqI_rd I hs hK ra rx rb ry q (A := A) (by omega)
    rw [← Option.some.inj e]
    exact this
  | false =>
    rw [q] at e
    simp only at e
    cases z : eqN h 40 a b with
    | false => rw [z] at e; cases e
    | true =>
      rw [z] at e
      rw [← Option.some.inj e]
      exact eqN_ok I hs hK 40 (by omega) ra rx rb ry z
/-! ### dicts -/
theorem hitK1 (I : Inv X pins σ H s) (hs : HS P g h H) (hK : X.K = P.K) {A : Around} (hu : A.units + 90 < cLine) {ls ws : List D} {kb : List (Key × V)} {vb : List (Key × Value)} (rb : RKs P g.F g.ρ ls ws kb) (ub : KV kb vb) {x d : D} {k : Key} {v : V} {ks ds : List D} {ka : List (Key × V)} {va : List (Key × Value)} {r : Bool} (hk : keyK x = some k) (rd : RV P g.F g.ρ d v)
    (ih : ∀ {va : List (Key × Value)} {r : Bool}, KV ka va → hitsD h ks ds ls ws = some r → PySem.W.KeqHitsIn X.prog X.w A s vb va r) (ua : KV ((k, v) :: ka) va) (e : hitsD h (x :: ks) (d :: ds) ls ws = some r) : PySem.W.KeqHitsIn X.prog X.w A s vb va r := by
  cases ua with
  | @cons _ q _ vr hq uq =>
    obtain ⟨k', u⟩ := q
    obtain ⟨ek, ru⟩ := hq
    have ek' : k = k' := ek
    subst ek'
    have e' : (match lookD ls ws x with
      | some y => (match eqI h d y with
        | some e => (match hitsD h ks ds ls ws with
          | some r => some (match e with
            | true => r | false => false)
          | none => none)
        | none => none)
      | none => some false) = some r := e
    have l := RKs.look hk rb
    have rr := ub.val k
    cases ql : lookD ls ws x with
    | none =>
      rw [ql] at e' l
      rw [← Option.some.inj e']
      have hn : valV kb k = none := l
      rw [hn] at rr
      refine .miss ?_
      cases z : valueAt vb k with
      | none => rfl
      | some y => rw [z] at rr; exact rr.elim
    | some y =>
      rw [ql] at e' l
      simp only at e'
      obtain ⟨yv, l1, l2⟩ := l
      rw [l1] at rr
      obtain ⟨yu, z1, z2⟩ := rr.some_of
      cases qi : eqI h d y with
      | none => rw [qi] at e'; cases e'
      | some e =>
        rw [qi] at e'
        simp only at e'
        cases qh : hitsD h ks ds ls ws with
        | none => rw [qh] at e'; cases e'
        | some r' =>
          rw [qh] at e'
          have er : r = (e && r') := by rw [← Option.some.inj e']; cases e <;> rfl
          rw [er]
          exact .hit z1 (eqI_ok I hs hK hu rd ru l2 z2 qi) (ih uq qh)
theorem hitsK (I : Inv X pins σ H s) (hs : HS P g h H) (hK : X.K = P.K) {A : Around} (hu : A.units + 90 < cLine) {ls ws : List D} {kb : List (Key × V)} {vb : List (Key × Value)} (rb : RKs P g.F g.ρ ls ws kb) (ub : KV kb vb) : ∀ {ks vs : List D} {ka : List (Key × V)}, RKs P g.F g.ρ ks vs ka → ∀ {va : List (Key × Value)} {r : Bool}, KV ka va → hitsD h ks vs ls ws = some r →
    PySem.W.KeqHitsIn X.prog X.w A s vb va r
  | _, _, _, .nil, _, _, ua, e => by cases ua; cases e; exact .nil
  | _, _, _, .int (i := i) rd t, _, _, ua, e => hitK1 I hs hK hu rb ub (x := .int i) rfl rd (fun a b => hitsK I hs hK hu rb ub t a b) ua e
  | _, _, _, .str (s := y) rd t, _, _, ua, e => hitK1 I hs hK hu rb ub (x := .str y) rfl rd (fun a b => hitsK I hs hK hu rb ub t a b) ua e
/-- the pairs of a dict with tuple keys -/
inductive HitsN (prog : Program) (w : World) (A : Around) (s : Shared) (ys : List (NestedKey × Addr × Value)) : List (NestedKey × Addr × Value) → Bool → Prop
  | nil : HitsN prog w A s ys [] true
  | miss {k : NestedKey} {p : Addr × Value} {r : List (NestedKey × Addr × Value)} : atKey ys k = none → HitsN prog w A s ys ((k, p) :: r) false
  | hit {k : NestedKey} {p q : Addr × Value} {r : List (NestedKey × Addr × Value)} {e b : Bool} : atKey ys k = some q → EqIn prog w A s p.2 q.2 e → HitsN prog w A s ys r b → HitsN prog w A s ys ((k, p) :: r) (e && b)
theorem hitsN (I : Inv X pins σ H s) (hs : HS P g h H) (hK : X.K = P.K) {A : Around} (hu : A.units + 90 < cLine) {ls ws : List D} {ys : List (NestedKey × Addr × Value)} (rb : RNV P g.F g.ρ ls ws ys) : ∀ {ks vs : List D} {xs : List (NestedKey × Addr × Value)} {r : Bool}, RNV P g.F g.ρ ks vs xs → hitsD h ks vs ls ws = some r → HitsN X.prog X.w A s ys xs r := by
  intro ks vs xs r ra
  induction ra generalizing r with
  | nil => intro e; cases e; exact .nil
  | @cons x k a d v u ks ds tl hx hk h8 ha hv hu' t ih =>
    intro e
    have e' : (match lookD ls ws x with
      | some y => (match eqI h d y with
        | some e => (match hitsD h ks ds ls ws with
          | some r => some (match e with
            | true => r | false => false)
          | none => none)
        | none => none)
      | none => some false) = some r := e
    have l := RNV.look hk rb
    cases ql : lookD ls ws x with
    | none =>
      rw [ql] at e' l
      rw [← Option.some.inj e']
      exact .miss l
    | some y =>
      rw [ql] at e' l
      simp only at e'
      obtain ⟨p, yv, l1, l2, l3⟩ := l
      cases qi : eqI h d y with
      | none => rw [qi] at e'; cases e'
      | some e =>
        rw [qi] at e'
        simp only at e'
        cases qh : hitsD h ks ds ls ws with
        | none => rw [qh] at e'; cases e'
        | some r' =>
          rw [qh] at e'
          have er : r = (e && r') := by rw [← Option.some.inj e']; cases e <;> rfl
          rw [er]
          exact .hit l1 (eqI_ok I hs hK hu hv hu' l2 l3 qi) (ih qh)
end
section
variable {prog : Program} {w : World} {A :
    Around} {E : Value → Shared → Prop} {s : Shared}
theorem pairsLen {nm : String} {a b : Addr} {oa ob : Obj} {es es' : Array DictEntry} {ep ep' : Nat} {Q : Bool → Shared → Prop} (ha : (a == sysModules) = false) (hb : (b == sysModules) = false) (hoa : s.heap.get? a = some oa) (hda : oa.data = .dict es ep) (hob : s.heap.get? b = some ob) (hdb : ob.data = .dict es' ep') (hz : es.size ≠ es'.size) (h : Q false s) :
    wpAny (model prog w) A (Builtin.Dict.samePairs nm a b) Q E s :=
        by
  unfold Builtin.Dict.samePairs; unfold Builtin.Dict.showsAll
  rw [if_neg (by rw [ha]; exact Bool.false_ne_true), if_neg (by rw [hb]; exact Bool.false_ne_true)]
  refine wpAny_bind (wpAny_pure (wpAny_bind (wpAny_pure (wpAny_bind (wpAny_dictEntries hoa hda ?_)))))
  dsimp only
  refine (wpAny_bind (wpAny_dictEntries hob hdb ?_))
  rw [if_pos (by simpa using hz)]
  exact (wpAny_bind (wpAny_rule (wpAny_pure h)))
/-- d == e, d != e by samePairs -/
theorem dictEq {a b : Addr} {oa ob : Obj} {Q : Value → Shared → Prop} (hoa : s.heap.get? a = some oa) (hca : oa.cls = .type "dict") (hob : s.heap.get? b = some ob) (hcb : ob.cls = .type "dict") (hu : A.units < cLine) (h : ∀ nm : String, wpAny (model prog w) A.in1 (Builtin.Dict.samePairs nm a b) (fun k s' => Q (.bool k) s') E s) :
    wpAny (model prog w) A (richCompare .Eq (.ref a) (.ref b)) Q E s := by
  have Ta : s.TypeIs (.ref a) "dict" := ⟨oa, hoa, hca⟩
  have Tb : s.TypeIs (.ref b) "dict" := ⟨ob, hob, hcb⟩
  refine wpAny_richCompare_same_room (op := .Eq) Ta Tb PySem.F.slot_dict_eq (wpAny_call_entry PySem.F.slot_dict_eq Ta PySem.F.entry_dict_eq ?_ (PySem.F.args_dict_eq_2 _ _)) hu
  show (wpAny _ _ (Builtin.Dict.dictSlotArgs "__eq__" ⟨[.ref a, .ref b], []⟩ >>= _) _ _ s)
  unfold Builtin.Dict.dictSlotArgs at ⊢
  refine wpAny_bind (wpAny_bind (wpAny_notOrdered_dict Ta ?_))
  show (wpAny _ _ (pure (Value.ref a, Value.ref b)) _ _ s)
  refine wpAny_pure (wpAny_bind (wpAny_isInstance (T := "dict") Tb PySem.F.sub_dict_dict ?_))
  simp only [Bool.not_true, Bool.false_eq_true, if_false] at ⊢
  refine wpAny_bind (wpAny_pure (wpAny_bind (wpAny_pure (wpAny_bind (wpAny_mono (h _) (fun k s' q => ?_) fun _ _ e => e)))))
  exact wpAny_pure ⟨_, rfl, (fun z => nomatch z), by cases k <;> exact q⟩
theorem dictNe {a b : Addr} {oa ob : Obj} {Q : Value → Shared → Prop} (hoa : s.heap.get? a = some oa) (hca : oa.cls = .type "dict") (hob : s.heap.get? b = some ob) (hcb : ob.cls = .type "dict") (hu : A.units < cLine) (h : ∀ nm : String, wpAny (model prog w) A.in1 (Builtin.Dict.samePairs nm a b) (fun k s' => Q (.bool (!k)) s') E s) :
    wpAny (model prog w) A (richCompare .NotEq (.ref a) (.ref b)) Q E s := by
  have Ta : s.TypeIs (.ref a) "dict" := ⟨oa, hoa, hca⟩
  have Tb : s.TypeIs (.ref b) "dict" := ⟨ob, hob, hcb⟩
  refine wpAny_richCompare_same_room (op := .NotEq) Ta Tb PySem.F.slot_dict_ne (wpAny_call_entry PySem.F.slot_dict_ne Ta PySem.F.entry_dict_ne ?_ (PySem.F.args_dict_ne_2 _ _)) hu
  show (wpAny _ _ (Builtin.Dict.dictSlotArgs "__ne__" ⟨[.ref a, .ref b], []⟩ >>= _) _ _ s)
  unfold Builtin.Dict.dictSlotArgs at ⊢
  refine wpAny_bind (wpAny_bind (wpAny_notOrdered_dict Ta ?_))
  show (wpAny _ _ (pure (Value.ref a, Value.ref b)) _ _ s)
  refine wpAny_pure (wpAny_bind (wpAny_isInstance (T := "dict") Tb PySem.F.sub_dict_dict ?_))
  simp only [Bool.not_true, Bool.false_eq_true, if_false] at ⊢
  refine wpAny_bind (wpAny_pure (wpAny_bind (wpAny_pure (wpAny_bind (wpAny_mono (h _) (fun k s' q => ?_) fun _ _ e => e)))))
  exact wpAny_pure ⟨_, rfl, (fun z => nomatch z), by cases k <;> exact q⟩
theorem atKey_get {K : Type} [DecidableEq K] {xs : List (K × Addr × Value)} {k : K} {q : Addr × Value} (h : atKey xs k = some q) : ∃ j : Nat, xs[j]? = some (k, q) := by
  apply Classical.byContradiction
  intro no
  have all : ∀ (j : Nat) (p : Addr × Value), xs[j]? = some (k, p) → p ≠ q := fun j p e z => no ⟨j, by rw [← z]; exact e⟩
  unfold atKey at h
  cases f : xs.find? (fun x => decide (x.1 = k)) with
  | none => rw [f] at h; cases h
  | some x =>
    rw [f] at h
    have hk : x.1 = k := of_decide_eq_true (List.find?_some (p := fun x : K × Addr × Value => decide (x.1 = k)) f)
    obtain ⟨j, hj⟩ := List.mem_iff_getElem?.mp (List.mem_of_find?_eq_some f)
    exact no ⟨j, by rw [hj, ← hk]; exact congrArg _ (by obtain ⟨a, b⟩ := x; exact Prod.ext rfl (Option.some.inj h))⟩
theorem pairsN {nm : String} {a b : Addr} {xs ys : List (NestedKey × Addr × Value)} {r : Bool} {Q : Bool → Shared → Prop} (hu : (nestedKind prog w).room A) (ha : (a == sysModules) = false) (hb : (b == sysModules) = false) (da : s.heap.DictOfH (nestedKind prog w) a xs) (db : s.heap.DictOfH (nestedKind prog w) b ys) (hl : xs.length = ys.length) (hits : HitsN prog w A s ys xs r) (h : Q r s) :
    wpAny (model prog w) A (Builtin.Dict.samePairs nm a b) Q E s :=
        by
  obtain ⟨oa, es, ep, hoa, _, hda, hea, hia, hna⟩ := da
  obtain ⟨ob, es', ep', hob, _, hdb, heb, hib, hnb⟩ := db
  have za := size_of_entries hea
  have zb := size_of_entries heb
  unfold Builtin.Dict.samePairs; unfold Builtin.Dict.showsAll
  rw [if_neg (by rw [ha]; exact Bool.false_ne_true), if_neg (by rw [hb]; exact Bool.false_ne_true)]
  refine wpAny_bind (wpAny_pure (wpAny_bind (wpAny_pure (wpAny_bind (wpAny_dictEntries hoa hda ?_)))))
  dsimp only
  refine (wpAny_bind (wpAny_dictEntries hob hdb ?_))
  rw [if_neg (show ¬ (es.size != es'.size) = true by rw [za, zb, hl]; simp)]
  refine wpAny_bind (wpAny_dictEpoch hoa hda (wpAny_bind ?_))
  rewrite [Std.Legacy.Range.forIn_eq_forIn_range']
  simp only [Std.Legacy.Range.size, Nat.sub_zero, Nat.add_sub_cancel, Nat.div_one] at ⊢
  refine wpAny_forIn_list _ (fun rest q s' => s' = s ∧ q = (none, ()) ∧ ∃ i, rest = List.range' i (es.size - i) ∧ i ≤ es.size ∧ HitsN prog w A s ys (xs.drop i) r) _ ?_ ?_ _ _ ⟨rfl, rfl, 0, by simp, Nat.zero_le _, hits⟩
  · rintro x rest q s' ⟨rfl,
        rfl, i, hr, hi, hpre⟩
    have hlt : i < es.size := by
      rcases Nat.lt_or_ge i
          es.size with h | h
      · exact h
      · rw [Nat.sub_eq_zero_of_le h]
            at hr; simp at hr
    obtain ⟨rfl, hrest⟩ : x = i ∧ rest = List.range' (i + 1) (es.size - (i + 1)) :=
        by
      have e : es.size - i = (es.size - (i + 1)) + 1 := (by omega)
      rw [e, List.range'_succ]
          at hr
      injection hr with h1 h2
      exact ⟨h1, h2⟩
    have hlx : x < xs.length := by omega
    obtain ⟨k, p, hkp⟩ : ∃ k p, xs[x] = (k, p) := ⟨_, _, rfl⟩
    have hd : xs.drop x = (k, p) :: xs.drop (x + 1) := by rw [← hkp]; exact List.drop_eq_getElem_cons hlx
    have ee : es[x] = entryOfKey (nestedKind prog w) (k, p) := by
      have := entry_at hea x
      rw [Array.getElem?_eq_getElem hlt, List.getElem?_eq_getElem hlx, hkp] at this
      exact Option.some.inj this
    refine (wpAny_bind (wpAny_dictEntries hoa hda ?_))
    rw [Array.getElem?_eq_getElem hlt, ee]
    rw [hd] at hpre
    show wpAny _ _ (holding [(entryOfKey (nestedKind prog w) (k, p)).key, (entryOfKey (nestedKind prog w) (k, p)).val] _ >>= _) _ _ _
    have hik : (nestedKind prog w).is s'.heap k p.1 := hia (k, p) (by rw [← hkp]; exact List.getElem_mem hlx)
    refine wpAny_bind (wpAny_holding (wpAny_bind (wpAny_dictFind_heap (xs := ys) hu hik hob hdb heb hib hnb (fun no => ?_) (fun j q hj => ?_))))
    · have hn : atKey ys k = none := atKey_none_of_get no
      cases hpre with
      | miss _ =>
        refine wpAny_pure ?_
        show (wpAny _ _ (if (!false) = true then _ else _) _ _ _)
        rw [if_pos (by decide)]
        exact (wpAny_pure (wpAny_pure h))
      | hit hq _ _ => rw [hn] at hq; cases hq
    · have hs := atKey_of_get hnb hj
      have hjl : j < es'.size := by
        have := (List.getElem?_eq_some_iff.mp hj).1
        omega
      have ej : es'[j] = entryOfKey (nestedKind prog w) (k, q) := by
        have := entry_at heb j
        rw [Array.getElem?_eq_getElem hjl, hj] at this
        exact Option.some.inj this
      refine (wpAny_bind (wpAny_dictEntries hob hdb ?_))
      rw [Array.getElem?_eq_getElem hjl, ej]
      cases hpre with
      | miss hn => rw [hn] at hs; cases hs
      | @hit _ _ q' _ e b' hq he hr =>
        rw [hq] at hs
        obtain rfl := Option.some.inj hs
        refine (wpAny_holding (he _ _ ?_))
        cases e with
        | false =>
          show (wpAny _ _ (if (!false) = true then _ else _) _ _ _)
          rw [if_pos (by decide)]
          exact wpAny_pure (wpAny_pure (by simpa using h))
        | true =>
          show (wpAny _ _ (if (!true) = true then _ else _) _ _ _)
          rw [if_neg (by decide)]
          refine (wpAny_bind (wpAny_dictEpoch hoa hda ?_))
          rw [if_neg (by simp)]
          exact wpAny_pure ⟨rfl, rfl, x + 1, hrest, hlt, by simpa using hr⟩
  · rintro q s' ⟨rfl,
        rfl, i, hr, hi, hpre⟩
    have hin : i = es.size := by
      rcases Nat.lt_or_ge i
          es.size with h | h
      · have e : es.size - i = (es.size - (i + 1)) + 1 := (by omega)
        rw [e, List.range'_succ]
            at hr; exact nomatch hr
      · exact Nat.le_antisymm hi h
    refine wpAny_pure ?_
    rw [hin, za, List.drop_length] at hpre
    cases hpre
    exact h
end
end EV
end S_EvW
section S_EvX
/-! EvX: the operators == and != of any data. -/
namespace EV
open PySem PySem.Spec PyProof.Rows L2 Evl
open PySem.SeqAt (EqIn EqAt
    rcIn_lists rcIn_tuples)
def dEqG : D2 := fun a b h => match (match rdB h 40 a with
    | true => rdB h 40 b | false => false) with
  | true => .ok (.bl (eqB h 40 a b)) h
  | false => R.opt (eqT h a b) fun k => .ok (.bl k) h
def neT (h : Hc) (a b : D) : Option Bool := match dctOf h a with
  | some _ => (match eqT h a b with
    | some k => some (!k) | none => none)
  | none => (match sq2 h a with
    | some (false, xs) => (match sq2 h b with
      | some (false, ys) => (match Nat.beq xs.length ys.length with
        | true => none | false => some true)
      | _ => none)
    | _ => none)
def dNeG : D2 := fun a b h => match (match rdB h 40 a with
    | true => rdB h 40 b | false => false) with
  | true => .ok (.bl (!eqB h 40 a b)) h
  | false => R.opt (neT h a b) fun k => .ok (.bl k) h
section
variable {P : Pm} {E : XK} {X : Cx} {g : G} {h : Hc} {H : Hp} {pins : List (Addr × Obj)} {σ : L2.St} {s : Shared}
theorem DL.size {a : Addr} {ks vs : List D} (I : Inv X pins σ H s) (l : DL P g H a ks vs) : ∃ o es ep, s.heap.get? a = some o ∧ o.cls = .type "dict" ∧ o.data = .dict es ep ∧ es.size = ks.length := by
  cases l with
  | k hr r =>
    obtain ⟨_, hd, va, ua, o, es, ep, ho, hc, hdt, _, hp, _⟩ := dk_rd I.hok hr
    refine ⟨o, es, ep, ho, hc.1, hdt, ?_⟩
    have e1 := hp.length
    have e2 := ua.length
    have e3 := r.length.1
    rw [Array.length_toList]
        at e1
    omega
  | n ha ne r =>
    obtain ⟨_, ho, _, xs, hx, es, ep, hc, hdt, he, _⟩ := dN_at I ha
    refine ⟨_, es, ep, ho, hc.1, hdt, ?_⟩
    have e1 := size_of_entries he
    have e2 := (RNV.of r hx).length.1
    omega
theorem kdS_k {F : Hp} {ρ : Nat → Option Addr} {ks vs : List D} {kvs : List (Key × V)} (r : RKs P F ρ ks vs kvs) : kdS ks ≠ 1 := by
  cases r <;> (intro z; cases z)
theorem kdS_n {F : Hp} {ρ : Nat → Option Addr} {ks vs : List D} {kvs : List (NestedKey × Addr × V)} (r : RNs P F ρ ks vs kvs) (ne : kvs ≠ []) : kdS ks = 1 := by
  cases r with
  | nil => exact absurd rfl ne
  | cons _ _ _ _ _ => rfl
/-- two dicts, their pairs compared -/
theorem pairs_ok (rm : Rm P X) (I : Inv X pins σ H s) (hs : HS P g h H) {a b : D} {x y : V} {u v : Value} {ks vs : List D} {r : Bool} (ra : RV P g.F g.ρ a x) (rx : RelV x u) (rb : RV P g.F g.ρ b y) (ry : RelV y v) (da : dctOf h a = some (ks, vs)) (e : eqT h a b = some r) :
    ∃ p q op oq, u = .ref p ∧ v = .ref q ∧ s.heap.get? p = some op ∧ op.cls = .type "dict" ∧ s.heap.get? q = some oq ∧ oq.cls = .type "dict" ∧ ∀ (nm : String) (EE : Value → Shared → Prop) (Q : Bool → Shared → Prop), Q r s → wpAny (model X.prog X.w) X.A.in1 (Builtin.Dict.samePairs nm p q) Q EE s := by
  have hu := rm.u
  unfold eqT at e
  rw [da] at e
  simp only at e
  cases db : dctOf h b with
  | none => rw [db] at e; cases e
  | some lw =>
    obtain ⟨ls, ws⟩ := lw
    rw [db] at e
    simp only at e
    obtain ⟨p, rfl, l1⟩ := dctOf_ok hs ra da
    obtain ⟨q, rfl, l2⟩ := dctOf_ok hs rb db
    obtain rfl : u = .ref p := rx
    obtain rfl : v = Value.ref q := ry
    obtain ⟨op, es, ep, h1, h2, h3, h4⟩ := l1.size I
    obtain ⟨oq, es', ep', k1, k2, k3, k4⟩ := l2.size I
    obtain ⟨sp, _⟩ := l1.obj I
    obtain ⟨sq, _⟩ := l2.obj I
    refine ⟨p, q, op, oq, rfl, rfl, h1, h2, k1, k2, fun nm EE Q hq => ?_⟩
    cases z : Nat.beq ks.length ls.length with
    | false =>
      rw [z] at e
      rw [← Option.some.inj e] at hq
      refine pairsLen sp sq h1 h3 k1 k3 (fun w => ?_) hq
      rw [nbeq_eq, decide_eq_false_iff_not] at z
      exact z (by omega)
    | true =>
      rw [z] at e
      rw [nbeq_eq, decide_eq_true_eq] at z
      simp only at e
      cases z2 : Nat.beq (kdS ks) (kdS ls) with
      | false => rw [z2] at e; cases e
      | true =>
        rw [z2] at e
        rw [nbeq_eq, decide_eq_true_eq] at z2
        have e' : hitsD h ks vs ls ws = some r := e
        cases l1 with
        | k hr1 r1 =>
          cases l2 with
          | n _ ne r2 => exact absurd (z2.trans (kdS_n r2 ne)) (kdS_k r1)
          | k hr2 r2 =>
            obtain ⟨_, _, va, ua, d1⟩ := dk_rd I.hok hr1
            obtain ⟨_, _, vb, ub, d2⟩ := dk_rd I.hok hr2
            have hits := hitsK I hs rm.K (A := X.A.in1) (by show X.A.units + 1 + 90 < cLine; omega) r2 ub r1 ua e'
            have lens : va.length = vb.length := by
              have := ua.length; have := ub.length; have := r1.length.1; have := r2.length.1; omega
            refine PySem.W.keq_samePairsIn sp sq d1 d2 (fun _ => hits) ?_
            rw [lens, beq_self_eq_true, Bool.true_and]
            exact hq
        | n ha1 ne1 r1 =>
          cases l2 with
          | k _ r2 => exact absurd (z2.symm.trans (kdS_n r1 ne1)) (kdS_k r2)
          | n ha2 ne2 r2 =>
            obtain ⟨_, o1, _, xs, px, es1, ep1, c1, t1, g1, n1⟩ := dN_at I ha1
            obtain ⟨_, o2, _, ys, py, es2, ep2, c2, t2, g2, n2⟩ := dN_at I ha2
            have rx := RNV.of r1 px
            have ry := RNV.of r2 py
            rw [← rm.p, ← rm.w] at g1 g2
            have D1 : s.heap.DictOfH (nestedKind X.prog X.w) p xs := ⟨_, es1, ep1, o1, c1, t1, g1, rx.is I hs.fr rm.K, n1⟩
            have D2 : s.heap.DictOfH (nestedKind X.prog X.w) q ys := ⟨_, es2, ep2, o2, c2, t2, g2, ry.is I hs.fr rm.K, n2⟩
            have hits := hitsN I hs rm.K (A := X.A.in1) (by show X.A.units + 1 + 90 < cLine; omega) ry rx e'
            exact pairsN (show X.A.units + 1 + 8 < cLine by omega) sp sq D1 D2 (by have := rx.length.1; have := ry.length.1; omega) hits hq
theorem oEqG (rm : Rm P X) : OpS P E X (compareOp .Eq) dEqG := by
  intro pins s σ H x y v u Q I rx ry ⟨g, h, a, b, hs, ra, rb, o⟩
  have hu := rm.u
  have o' : Out P g (rv P) Q E (match (match rdB h 40 a with
      | true => rdB h 40 b | false => false) with
    | true => .ok (.bl (eqB h 40 a b)) h
    | false => R.opt (eqT h a b) fun k => .ok (.bl k) h) := o
  cases q : (match rdB h 40 a with
    | true => rdB h 40 b | false => false) with
  | true =>
    rw [q] at o'
    refine oEqD (E := E) rm.K (by omega) pins s σ H x y v u Q I rx ry ⟨g, h, a, b, hs, ra, rb, ?_⟩
    cases qa : rdB h 40 a with
    | false => rw [qa] at q; cases q
    | true =>
      rw [qa] at q
      unfold dEqD
      rw [qa, show rdB h 40 b = true from q]
      exact o'
  | false =>
    rw [q] at o'
    obtain ⟨k, e, o⟩ := Out.opt o'
    have fin : ∀ {k : Bool}, Out P g (rv P) Q E (.ok (.bl k) h) → EP X pins σ Q (.bool k) s := fun o => ⟨.bl _, H, I, rfl, Out.now (rel := rv P) (d := D.bl _) o hs (.bl _)⟩
    show wpAny _ _ (richCompare .Eq v u) _ _ _
    cases da : dctOf h a with
    | some kv =>
      obtain ⟨ks, vs⟩ := kv
      obtain ⟨p, q, op, oq, rfl, rfl, h1, h2, h3, h4, run⟩ := pairs_ok rm I hs ra rx rb ry da e
      exact dictEq h1 h2 h3 h4 (by omega) fun nm => run nm _ _ (fin o)
    | none =>
      have e' : (match sq2 h a with
        | some (k, xs) => (match sq2 h b with
          | some (l, ys) => (match k with
            | true => (match l with
              | true => (match eqAllB (eqN h 40) xs ys with
                | true => some true | false => none)
              | false => none)
            | false => (match l with
              | true => none
              | false => (match Nat.beq xs.length ys.length with
                | true => (match eqAllB (eqN h 40) xs ys with
                  | true => some true | false => none)
                | false => some false)))
          | none => none)
        | none => none) = some k := by
        unfold eqT at e
        rw [da] at e
        exact e
      cases qa : sq2 h a with
      | none => rw [qa] at e'; cases e'
      | some kx =>
        obtain ⟨k1, xs⟩ := kx
        rw [qa] at e'
        simp only at e'
        cases qb : sq2 h b with
        | none => rw [qb] at e'; cases e'
        | some ly =>
          obtain ⟨l, ys⟩ := ly
          rw [qb] at e'
          obtain ⟨p, vs, rfl, r1, t1⟩ := sq2_ok rm.K hs ra qa
          obtain ⟨p', ws, rfl, r2, t2⟩ := sq2_ok rm.K hs rb qb
          obtain rfl : v = .ref p := rx
          obtain rfl : u = Value.ref p' := ry
          cases k1 with
          | true =>
            cases l with
            | false => cases e'
            | true =>
              simp only at e'
              cases qe : eqAllB (eqN h 40) xs ys with
              | false => rw [qe] at e'; cases e'
              | true =>
                rw [qe] at e'
                rw [← Option.some.inj e'] at o
                obtain ⟨us, v1, p1, _⟩ := I.tuple t1
                obtain ⟨zs, v2, p2, _⟩ := I.tuple t2
                obtain ⟨hz, it⟩ := items_eq (A := X.A.in1) (fun a b c d e => eqN_ok I hs rm.K 40 (by show X.A.units + 1 + 40 + 41 < cLine; omega) a b c d e) r1 v1 r2 v2 qe
                refine rcIn_tuples (e := fun _ => true) p1 p2 (by omega) it ?_
                rw [all_true, hz, beq_self_eq_true]
                exact fin o
          | false =>
            cases l with
            | true => cases e'
            | false =>
              obtain ⟨us, v1, p1, _⟩ := I.list t1
              obtain ⟨zs, v2, p2, _⟩ := I.list t2
              simp only at e'
              cases z : Nat.beq xs.length ys.length with
              | false =>
                rw [z] at e'
                rw [← Option.some.inj e'] at o
                rw [nbeq_eq, decide_eq_false_iff_not] at z
                have n1 := r1.length; have n2 := r2.length; have n3 := v1.length; have n4 := v2.length
                exact SeqAt.RcAt.lists_lengths p1.isList p2.isList (by simp; omega) (by omega) X.prog X.w _ _ (fin o)
              | true =>
                rw [z] at e'
                simp only at e'
                cases qe : eqAllB (eqN h 40) xs ys with
                | false => rw [qe] at e'; cases e'
                | true =>
                  rw [qe] at e'
                  rw [← Option.some.inj e'] at o
                  obtain ⟨hz, it⟩ := items_eq (A := X.A.in1) (fun a b c d e => eqN_ok I hs rm.K 40 (by show X.A.units + 1 + 40 + 41 < cLine; omega) a b c d e) r1 v1 r2 v2 qe
                  refine rcIn_lists (e := fun _ => true) p1.isList p2.isList hz (by omega) it ?_
                  rw [all_true]
                  exact fin o
theorem oNeG (rm : Rm P X) : OpS P E X (compareOp .NotEq) dNeG := by
  intro pins s σ H x y v u Q I rx ry ⟨g, h, a, b, hs, ra, rb, o⟩
  have hu := rm.u
  have o' : Out P g (rv P) Q E (match (match rdB h 40 a with
      | true => rdB h 40 b | false => false) with
    | true => .ok (.bl (!eqB h 40 a b)) h
    | false => R.opt (neT h a b) fun k => .ok (.bl k) h) := o
  cases q : (match rdB h 40 a with
    | true => rdB h 40 b | false => false) with
  | true =>
    rw [q] at o'
    refine oNeD (E := E) rm.K (by omega) pins s σ H x y v u Q I rx ry ⟨g, h, a, b, hs, ra, rb, ?_⟩
    cases qa : rdB h 40 a with
    | false => rw [qa] at q; cases q
    | true =>
      rw [qa] at q
      unfold dEqD
      rw [qa, show rdB h 40 b = true from q]
      exact o'
  | false =>
    rw [q] at o'
    obtain ⟨k, e, o⟩ := Out.opt o'
    have fin : ∀ {k : Bool}, Out P g (rv P) Q E (.ok (.bl k) h) → EP X pins σ Q (.bool k) s := fun o => ⟨.bl _, H, I, rfl, Out.now (rel := rv P) (d := D.bl _) o hs (.bl _)⟩
    show wpAny _ _ (richCompare .NotEq v u) _ _ _
    unfold neT at e
    cases da : dctOf h a with
    | some kv =>
      obtain ⟨ks, vs⟩ := kv
      rw [da] at e
      simp only at e
      cases qe : eqT h a b with
      | none => rw [qe] at e; cases e
      | some r =>
        rw [qe] at e
        rw [← Option.some.inj e] at o
        obtain ⟨p, q, op, oq, rfl, rfl, h1, h2, h3, h4, run⟩ := pairs_ok rm I hs ra rx rb ry da qe
        exact dictNe h1 h2 h3 h4 (by omega) fun nm => run nm _ _ (fin o)
    | none =>
      rw [da] at e
      simp only at e
      cases qa : sq2 h a with
      | none => rw [qa] at e; cases e
      | some kx =>
        obtain ⟨k1, xs⟩ := kx
        rw [qa] at e
        cases k1 with
        | true => cases e
        | false =>
          simp only at e
          cases qb : sq2 h b with
          | none => rw [qb] at e; cases e
          | some ly =>
            obtain ⟨l, ys⟩ := ly
            rw [qb] at e
            cases l with
            | true => cases e
            | false =>
              simp only at e
              obtain ⟨p, vs, rfl, r1, t1⟩ := sq2_ok rm.K hs ra qa
              obtain ⟨p', ws, rfl, r2, t2⟩ := sq2_ok rm.K hs rb qb
              obtain rfl : v = .ref p := rx
              obtain rfl : u = Value.ref p' := ry
              obtain ⟨us, v1, p1, _⟩ := I.list t1
              obtain ⟨zs, v2, p2, _⟩ := I.list t2
              cases z : Nat.beq xs.length ys.length with
              | true => rw [z] at e; cases e
              | false =>
                rw [z] at e
                rw [← Option.some.inj e] at o
                rw [nbeq_eq, decide_eq_false_iff_not] at z
                have n1 := r1.length; have n2 := r2.length; have n3 := v1.length; have n4 := v2.length
                exact SeqAt.RcNeAt.lists_lengths p1.isList p2.isList (by simp; omega) (by omega) X.prog X.w _ _ (fin o)
end
end EV
end S_EvX
section S_EvY
/-! EvY: repr(x) == repr(y); defs that are called with nothing under way. -/
namespace EV
open PySem PySem.Spec PyProof.Rows L2 Evl
/-- repr(x) == repr(y), x, y names -/
def fReps (i j : Nat) : FE := fun sl h => match gs sl i with
  | some a => (match gs sl j with
    | some b => (match rpD h 40 a with
      | some n => (match rpD h 40 b with
        | some m => (match okZ n with
          | true => (match okZ m with
            | true => (match sqD h 40 a b with
              | true => .ok (.bl true) h | false => .no)
            | false => .no)
          | false => .no)
        | none => .no)
      | none => .no)
    | none => .no)
  | none => .no
theorem rp0_pd {d : D} {n : Nat} (e : rp0 d = some n) : ∃ p, pd0 d = some p := by
  cases d <;> first | exact ⟨_, rfl⟩ | cases e
theorem rpAll_pd {r : D → Option Nat} {p : D → Option PyData} (hr : ∀ {d n}, r d = some n → ∃ q, p d = some q) : ∀ {xs : List D} {m : Nat}, rpAll r xs = some m → ∃ ps, pdAll p xs = some ps
  | [], _, _ => ⟨[], rfl⟩
  | x :: xs, m, e => by
    have e' : (match r x with
    | some n => (match rpAll r xs with
      | some m => some (n + 2 + m) | none => none)
    | none => none) = some m := e
    cases q : r x with
    | none => rw [q] at e'; cases e'
    | some k =>
      rw [q] at e'
      simp only at e'
      cases q2 : rpAll r xs with
      | none => rw [q2] at e'; cases e'
      | some j =>
        obtain ⟨y, y1⟩ := hr q
        obtain ⟨ys, y2⟩ := rpAll_pd hr q2
        exact ⟨y :: ys, by simp [pdAll, y1, y2]⟩
theorem rp_pd {h : Hc} : ∀ (f : Nat) {d : D} {n : Nat}, rpD h f d = some n → ∃ p, pdD h f d = some p
  | 0, d, n, e => rp0_pd e
  | f + 1, d, n, e => by
    have lst : ∀ {xs : List D} {k : List PyData → PyData}, add5 (rpAll (rpD h f) xs) = some n → ∃ p, (pdAll (pdD h f) xs).map k = some p := fun {xs k} e => by
      obtain ⟨m, e1, _⟩ := add5_ok e
      obtain ⟨ps, e2⟩ := rpAll_pd (fun w => rp_pd f w) e1
      exact ⟨_, by rw [e2]; rfl⟩
    cases d with
    | tup xs => exact lst e
    | lst xs => exact lst e
    | cst xs => exact lst e
    | glo _ => cases e
    | dct ks vs =>
      cases ks with
      | cons _ _ => cases e
      | nil =>
        cases vs with
        | cons _ _ => cases e
        | nil => exact ⟨_, rfl⟩
    | ref i =>
      have e' : (match h.get i with
        | some (.lst xs) => add5 (rpAll (rpD h f) xs)
        | some (.dct [] []) => some 5
        | _ => none) = some n := e
      show ∃ p, (match h.get i with
        | some (.lst xs) => (pdAll (pdD h f) xs).map PyData.list
        | some (.dct [] []) => some (PyData.dict [])
        | _ => none) = some p
      cases q : h.get i with
      | none => rw [q] at e'; cases e'
      | some c =>
        rw [q] at e'
        cases c with
        | lst xs => exact lst e'
        | dct ks vs =>
          cases ks with
          | cons _ _ => cases e'
          | nil =>
            cases vs with
            | cons _ _ => cases e'
            | nil => exact ⟨_, rfl⟩
        | ins _ _ _ => cases e'
        | tbl _ => cases e'
    | _ => exact ⟨_, rfl⟩
section
variable {P : Pm} {E : XK} {X : Cx}
/-- repr(x)'s reading: some known text -/
def tRepr (P : Pm) (i : Nat) : TE := fun σ H Q => ∃ g sl h a n p, SR P g sl h σ H ∧ gs sl i = some a ∧ rpD h 40 a = some n ∧ okZ n = true ∧ pdD h 40 a = some p ∧ Q (.str p.shown) H
theorem pe_repr {i : Nat} {x : Str} {p p1 pos : Pos} (hK : X.K = P.K) (hu : X.A.units + 100 < cLine) (hgd : X.A.guards = some []) (hg : Gl X "repr") (hm : X.mg "repr" = none) (hN : X.N[i]? = some x) (hv : Vis X.env.scope x) (hd : (x == ("__debug__" : Str)) = false := by decide) (hcd : (x == ("__classdict__" : Str)) = false := by decide) :
    PE X (.Call (.Name "repr" p) [.Name x p1] [] pos) (tRepr P i) := by
  refine ⟨fun pins s σ H Q I ⟨g, sl, h, a, n, q, x, e1, e2, hz, e3, hq⟩ => ?_⟩
  obtain ⟨v, hσ, rv⟩ := x.slot i a e1
  have hzn := Nat.le_of_ble_eq_true hz
  have va : PA X [.Name _ p1] (tCons (tVar i) tNil) := pa_cons (pe_var (pos := p1) hN hv hd hcd) pa_nil
  refine wpAny_Call_Name_kw (ld_blt I hg hm PyProof.Rows.Boot.repr ?_ (by decide) (by decide))
  refine PyProof.Rows.callWith_builtin1 (thn (va.run pos pins s σ H (fun vs H1 => vs = [v] ∧ H1 = H) I ⟨v, hσ, rfl, rfl⟩) fun us s1 ⟨vs, H1, I1, r1, ev, eH⟩ => ?_) rfl rfl
  subst ev; subst eH
  rcases vals1 r1 with ⟨u, rfl, ru⟩
  obtain ⟨q', q1, t⟩ := tells_ok I1 x.hs hK 40 (by rw [sizeLine_eq]; omega) rv ru e2
  rw [e3] at q1
  obtain rfl := Option.some.inj q1
  have hdp := t.depth
  exact t.r (by rw [sizeLine_eq]; omega) X.prog X.w X.A X.xe s1 _ hgd (by omega) (fun _ _ e => e) fun h' tu tk k => ⟨.str q.shown, H1, I1.kept (t' := tk) k, ⟨_, rfl⟩, hq⟩
theorem sE_reps {i j : Nat} {x y : Str} {p p1 p2 p3 pa pb pos : Pos} (hK : X.K = P.K) (hu : X.A.units + 100 < cLine) (hgd : X.A.guards = some []) (hg : Gl X "repr") (hm : X.mg "repr" = none) (hN : X.N[i]? = some x) (hv : Vis X.env.scope x) (hN2 : X.N[j]? = some y) (hv2 : Vis X.env.scope y)
    (hd : (x == ("__debug__" : Str)) = false := by decide) (hcd : (x == ("__classdict__" : Str)) = false := by decide) (hd2 : (y == ("__debug__" : Str)) = false := by decide) (hcd2 : (y == ("__classdict__" : Str)) = false := by decide) (hmk : behindInMarks CmpOp.Eq (.Call (.Name "repr" p2) [.Name y p3] [] pb) = false := by first | exact nomark _ | with_unfolding_all rfl) :
    PE X (.Compare (.Call (.Name "repr" p) [.Name x p1] [] pa) [.Eq] [.Call (.Name "repr" p2) [.Name y p3] [] pb] pos) (rdE P E (fReps i j)) :=
  PE.weak (pe_cmpR op_eq (pe_repr hK hu hgd hg hm hN hv hd hcd) (pe_repr hK hu hgd hg hm hN2 hv2 hd2 hcd2) hmk) fun σ H Q ⟨g, sl, h, x, o⟩ => by
    unfold fReps at o
    cases ea : gs sl i with
    | none => simp only [ea] at o; exact o.elim
    | some a =>
      simp only [ea] at o
      cases eb : gs sl j with
      | none => simp only [eb] at o; exact o.elim
      | some b =>
        simp only [eb] at o
        cases en : rpD h 40 a with
        | none => simp only [en] at o; exact o.elim
        | some n =>
          simp only [en] at o
          cases em : rpD h 40 b with
          | none => simp only [em] at o; exact o.elim
          | some m =>
            simp only [em] at o
            cases zn : okZ n with
            | false => simp only [zn] at o; exact o.elim
            | true =>
              simp only [zn] at o
              cases zm : okZ m with
              | false => simp only [zm] at o; exact o.elim
              | true =>
                simp only [zm] at o
                cases zq : sqD h 40 a b with
                | false => simp only [zq] at o; exact o.elim
                | true =>
                  simp only [zq] at o
                  have epq := sq_pd 40 zq
                  obtain ⟨p, ep⟩ := rp_pd 40 en
                  exact ⟨g, sl, h, a, n, p, x, ea, en, zn, ep, g, sl, h, b, m, p, x, eb, em, zm, epq.symm.trans ep, rfl, by rw [decide_eq_true rfl]; exact Out.now (rel := rv P) (d := D.bl true) o x.hs (.bl _)⟩
end
/-! ### defs that are called with nothing under way -/
/-- what such a def promises -/
structure FnG (prog : Program) (w : World) (K : PySem.W.Frag) (mg : Str → Option Value) (base : Heap) (CX : CXT) (k : Nat) (f : Addr) (fd : FuncData) (ps : List Str) (sp : Sp) : Prop where
  len :
      ∀ vs H Q E, sp vs H Q E → vs.length = ps.length
  run : ∀ (A : Around) (outer : List Env) (s : Shared) (H : Hp) (args : Args) (us : List Value) (vs : List V) (Q : VK) (E : XK), A.guards = some [] → Room k A → Env0 prog w K mg base A outer s H → BindsTo s fd args (ps.zip us) → Vals vs us → sp vs H Q E →
    codeAny (model prog w) A (.call (.ref f) args) (CR CX outer prog w H s Q E) s
section
variable {P : Pm} {prog : Program} {w : World} {K : PySem.W.Frag} {mg : Str → Option Value} {base : Heap} {k : Nat} {f : Addr} {name qual : Str} {params : Arguments} {body : List Stmt} {scope : Scope} {dV kV doc pm cdv ct oc : Value} {an od : Option Addr} {osl : Array (Option Value)} {N ps : List Str} {s : FS}
theorem fn_evG (lk : K.lookup f = some ⟨oc, od, .func (PySem.W.fnOf name qual params body scope dV kV doc pm an cdv ct), osl⟩) (hcd : PySem.W.codeIn K cdv qual = true) (S : FnScope N ps scope)
    (hbody : ∀ (A : Around) (outer : List Env) (s₀ : Shared) (H : Hp) (E : XK), A.guards = some [] → Room k (A.deeper (envOfC qual scope s₀.heap.objs.size f cdv)) → PSs (cxOf (L2.CX prog w) prog w K mg base N qual scope f cdv A outer s₀ H E) body (rdS P E s)) :
    FnG prog w K mg base (L2.CX prog w) (k + 1) f (PySem.W.fnOf name qual params body scope dV kV doc pm an cdv ct) ps (spF P ps.length (fDef N.length s)) := by
  refine ⟨spF_len, fun A outer s₀ H args us vs Q E hg hr e0 hb r hsp => ?_⟩
  refine LamX.run_ofS (N := N) lk hcd S hr e0 hb r (spF_len _ _ _ _ hsp) fun hr' => ⟨_, hbody A outer s₀ H E hg hr', ?_⟩
  obtain ⟨_, g, ds, h, hs, rr, o⟩ := hsp
  refine ⟨g, _, h, sr_start hs rr, ?_⟩
  unfold fDef at o
  rw [show List.length ds = ds.length from rfl] at o
  cases q : s (ds.map some ++ List.replicate (N.length - ds.length) none) h with
  | nx sl h' => rw [q] at o; exact fun g' σ H' l x => o g' H' .non l x.hs .non
  | rt d h' => rw [q] at o; exact o
  | exc c p h' => rw [q] at o; exact o
  | bk sl h' => rw [q] at o; exact o.elim
  | ct sl h' => rw [q] at o; exact o.elim
  | no => rw [q] at o; exact o.elim
end
section
variable {P : Pm} {E : XK} {X : Cx} {k n : Nat} {f : Addr} {fd : FuncData} {ps : List Str} {F : FF} {x : Str} {p pos : Pos} {e : Expr} {es : List Expr} {fs : FA}
theorem run_fnG {pins : List (Addr × Obj)} {σ : L2.St} {H : Hp} {s : Shared} {Q : VK} {us : List Value} {vs : List V} (FO : FnG X.prog X.w X.K X.mg X.base (L2.CX X.prog X.w) k f fd ps (spF P n F)) (hgd : X.A.guards = some []) (tk : Tk X E) (hr : Room k X.A) (hb : Binds X.K fd ps []) (I : Inv X pins σ H s) (r : Vals vs us) (h : spF P n F vs H Q E) :
    wpAny (model X.prog X.w) X.A (call (.ref f) us) (EP X pins σ Q) X.xe s :=
        by
  have hl : us.length = ps.length := by rw [← r.length]; exact FO.len _ _ _ _ h
  have b := (hb s us I.kIn (by rw [List.append_nil]; exact hl))
  rw [List.append_nil] at b
  refine wpAny_call (codeAny_mono (FO.run X.A X.stack s H ⟨us, []⟩ us vs Q E hgd hr I.env0 b r h) fun r s' hq => ?_)
  cases r with
  | error e => exact (passes_call (E := E) tk fun _ _ _ _ h => h) pins σ H s e s' I hq
  | ok fl =>
    cases fl with
    | ret u => exact I.after hq
    | next => exact False.elim hq
    | brk => exact False.elim hq
    | cont => exact False.elim hq
theorem sE_callG (FO : FnG X.prog X.w X.K X.mg X.base (L2.CX X.prog X.w) k f fd ps (spF P n F)) (hgd : X.A.guards = some []) (tk : Tk X E) (hr : Room k X.A) (hg : Gl X x) (hm : X.mg x = some (.ref f)) (hk : PySem.W.keepIn X.K (.ref f) = true) (hb : Binds X.K fd ps []) (ha : PA X (e :: es) (rdA P E fs))
    (hdb : (x == ("__debug__" : Str)) = false := by decide) (he : starEach (e :: es) X.env = (false, eval e X.env) :: starEach es X.env := by rfl) (hpl : (backTo pos (starEach es X.env)).any (·.1) = false := by rfl) : PE X (.Call (.Name x p) (e :: es) [] pos) (rdE P E (fCall n F fs)) := by
  refine ⟨fun pins s σ H Q I ⟨g, sl, h, x, o⟩ => ?_⟩
  refine (wpAny_Call_Name_kw (ld_glob I hg hm ?_ hdb))
  refine PySem.W.callWith_K (h₀ := X.base) I.ok.mod.kin hk (thn (ha.run pos pins s σ H _ I ⟨g, sl, h, x, Out.bind o fun ds h1 g1 H1 vs l1 s1 r1 o1 => call_sp s1 r1 o1⟩) fun us s1 ⟨vs, H1, I1, r, q⟩ => ⟨I1.kIn, ?_⟩) he hpl
  exact run_fnG FO hgd tk hr hb I1 r q
theorem sE_callG0 (FO : FnG X.prog X.w X.K X.mg X.base (L2.CX X.prog X.w) k f fd ps (spF P n F)) (hgd : X.A.guards = some []) (tk : Tk X E) (hr : Room k X.A) (hg : Gl X x) (hm : X.mg x = some (.ref f)) (hk : PySem.W.keepIn X.K (.ref f) = true) (hb : Binds X.K fd ps [])
    (hdb : (x == ("__debug__" : Str)) = false := by decide) : PE X (.Call (.Name x p) [] [] pos) (rdE P E (fCall n F fNil)) := by
  refine ⟨fun pins s σ H Q I ⟨g, sl, h, x, o⟩ => ?_⟩
  refine (wpAny_Call_Name_kw (ld_glob I hg hm ?_ hdb))
  exact PySem.W.callWith_K0 I.kIn hk (run_fnG (us := []) (vs := []) FO hgd tk hr hb I .nil (call_sp (ds := []) x.hs .nil o))
end
end EV
end S_EvY
section S_EwA
/-! EwA: walks over a dict's keys, its items. -/
namespace EV
open PySem PySem.Spec PyProof.Rows L2 Evl
/-- at d stands the dict o, its pairs are ps; it never changes -/
def FixD (d : Addr) (o : Obj) (ps : List (V × V)) (u : HO) : Prop :=
  ∀ (P : Program) (w : World) (H : Hp) (h : Heap), ObjOk P w H h d u → (d == sysModules) = false ∧ h.get? d = some o ∧ o.ExactDict ∧ ∃ es ep, o.data = .dict es ep ∧ Paired (fun (p : V × V) (e : DictEntry) => RelV p.1 e.key ∧ RelV p.2 e.val) ps es.toList
def ItK (d : Addr) (u : HO) (ps : List (V × V)) : It :=
  ⟨fun i H => H d = some u ∧ i < ps.length, fun i H x H' => H' = H ∧ ∃ v, ps[i]? = some (x, v), fun i H => H d = some u ∧ ps.length ≤ i⟩
def ItI (d : Addr) (u : HO) (ps : List (V × V)) : It :=
  ⟨fun i H => H d = some u ∧ i < ps.length, fun i H x H' => ∃ T k v, ps[i]? = some (k, v) ∧ x = .ref T ∧ H T = none ∧ H' = upd H T (.tup [k, v]), fun i H => H d = some u ∧ ps.length ≤ i⟩
section
variable {P : Program} {w : World} {K : PySem.W.Frag} {tg : Expr} {d : Addr} {o : Obj} {u : HO} {ps : List (V × V)} {es : Array DictEntry} {ep : Nat}
theorem fix_at {X : Cx} {pins : List (Addr × Obj)} {σ : L2.St} {H : Hp} {s : Shared} (hod : o.data = .dict es ep) (fx : FixD d o ps u) (I : Inv X pins σ H s) (h : H d = some u) : (d == sysModules) = false ∧ s.heap.DictRaw d es ep ∧ ps.length = es.size ∧ ∀ i (hi : i < es.size), ∃ p, ps[i]? = some p ∧ RelV p.1 es[i].key ∧ RelV p.2 es[i].val := by
  obtain ⟨h1, h2, h3, es', ep', hd, h4⟩ := fx _ _ _ _ (I.hok d u h)
  obtain ⟨e1, e2⟩ := dict_ep hod hd
  rw [e1] at h4
  have hd : o.data = .dict es ep := hod
  clear e1 e2
  have hl : ps.length = es.size := by rw [Paired.length h4, Array.length_toList]
  refine ⟨h1, ⟨o, h2, h3, hd⟩, hl, fun i hi => ?_⟩
  obtain ⟨p, hp⟩ : ∃ p, ps[i]? = some p := ⟨ps[i]'(by omega), List.getElem?_eq_getElem _⟩
  obtain ⟨e, he, r⟩ := paired_get h4 hp
  have : e = es[i] := by
    rw [Array.getElem?_toList, Array.getElem?_eq_getElem hi] at he
    exact (Option.some.inj he).symm
  subst this
  exact ⟨p, hp, r⟩
theorem turn_K (it : Addr) (hod : o.data = .dict es ep) (fx : FixD d o ps u) : Turn P w K tg (ItK d u ps) [it] it (fun i h => h.IsKeyIter it d i es.size ep) where
  mem := by simp
  obj := fun i h st b hb => by
    obtain rfl : b = it := by simpa using hb
    obtain ⟨oi, e, c, dd⟩ := st
    exact (⟨oi, e, fun v z => by rw [dd] at z; cases z⟩)
  keep :=
      fun i h h' st k => st.at fun oi e => k it (by simp) oi e
  item := by
    intro X hP hw hK hc i
        pins s σ H E I hf st hg
    subst hP hw hK
    rcases hf it (by simp) with ⟨f0, f1, f2, f3, f4, f5⟩
    obtain ⟨hs, hm, hl, at_⟩ := fix_at hod fx I hg.1
    have hi : i < es.size := by have := hg.2; omega
    obtain ⟨p, hp, r1, r2⟩ := at_ i hi
    refine wpAny_pyNext_keys_item_raw st hm hi fun h' st' sb => ?_
    have I1 : Inv X pins σ H { s with heap := h' } := (I.turned (t' := s.toks) (fun b ob hb e => (sb.2 b hb).trans e) f0 f1 f3 f4 f5)
    rcases id st' with ⟨oi, e, c, dd⟩
    exact ⟨es[i].key, rfl, go_of (s := { s with heap := h' }) e c dd (by decide) ⟨p.1, H, I1, r1, ⟨rfl, p.2, hp⟩, st', fun b hb => (hf b hb).1⟩⟩
  done := by
    intro X hP hw hK hc i
        pins s σ H E I hf st hg
    subst hP hw hK
    rcases hf it (by simp) with ⟨f0, f1, f2, f3, f4, f5⟩
    obtain ⟨hs, hm, hl, at_⟩ := fix_at hod fx I hg.1
    exact wpAny_pyNext_keys_end_raw (I.ok.hd hc) st hm (by have := hg.2; omega) fun h' eb => ⟨rfl, I.turned (t' := s.toks) (fun b ob hb e => eb b ob hb e) f0 f1 f3 f4 f5⟩
  self :=
      fun A i s Q E st h => by
    refine (wpAny_pyIter_slot st.typeIs F.slot_dict_keyiterator_iter (wpAny_call_entry F.slot_dict_keyiterator_iter st.typeIs F.entry_dict_keyiterator_iter ?_ (F.args_dict_keyiterator_iter_1 _)))
    show (wpAny _ _ (ret (.ref it)) _ _ s)
    exact (wpAny_pure ⟨_, rfl, "dict_keyiterator", _, st.typeIs, F.slot_dict_keyiterator_next.lookup, h⟩)
theorem turn_I {elts : List Expr} {kk : Nat} {tpos : Pos} (it : Addr) (hod : o.data = .dict es ep) (fx : FixD d o ps u) : Turn P w K (.Tuple elts kk tpos) (ItI d u ps) [it] it (fun i h => ∃ ok ov, IsItemIter h it d i es.size ep ok ov) where
  mem := by simp
  obj := fun i h st b hb => by
    obtain rfl : b = it := by simpa using hb
    obtain ⟨ok, ov, e⟩ := st
    exact (⟨_, e, fun v z => nomatch z⟩)
  keep := fun i h h' st k => let ⟨ok, ov, e⟩ :=
      st; ⟨ok, ov, k it (by simp) _ e⟩
  item := by
    intro X hP hw hK hc i
        pins s σ H E I hf st hg
    subst hP hw hK
    obtain ⟨hs, hm, hl, at_⟩ := fix_at hod fx I hg.1
    have hi : i < es.size := by have := hg.2; omega
    obtain ⟨p, hp, r1, r2⟩ := at_ i hi
    obtain ⟨ok, ov, he⟩ := st
    have hlt : it < s.heap.objs.size := (Heap.lt_size he)
    refine wpAny_pyNext_items_item_raw he hm hi fun h' ho hT hz hk => ?_
    refine (⟨_, rfl, wpAny_letOwnedTupleGo_items (s := { s with heap := h' }) ho fun h'' he' sb => ?_⟩)
    have hT2 : h''.get? s.heap.objs.size = some { cls := .type "tuple", data := .seq #[es[i].key, es[i].val] } := (sb.2 _ (Nat.ne_of_gt hlt)).trans hT
    have new : ObjOk X.prog X.w (upd H s.heap.objs.size (.tup [p.1, p.2])) h'' s.heap.objs.size (.tup [p.1, p.2]) := ⟨by show 2 ≤ sizeLine; decide, [es[i].key, es[i].val], .cons r1 (.cons r2 .nil), ⟨_, hT2, rfl, _, rfl⟩⟩
    have I1 : Inv X pins σ (upd H s.heap.objs.size (.tup [p.1, p.2])) { s with heap := h'' } := I.turnedNew (t' := s.toks) (ch := [it]) (fun b ob hb e => (sb.2 b (by simpa using hb)).trans (hk b ob (by simpa using hb) e)) hf (Nat.le_refl _) new
    refine ⟨.ref s.heap.objs.size, _, I1, rfl, ⟨_, p.1, p.2, hp, rfl, I.hok.fresh (Nat.le_refl _), rfl⟩, ⟨_, _, he'⟩, fun b hb => ?_⟩
    obtain rfl : b = it := by simpa using hb
    rw [upd_ne
        (Nat.ne_of_lt hlt)]
    exact (hf b (by simp)).1
  done := by
    intro X hP hw hK hc i
        pins s σ H E I hf st hg
    subst hP hw hK
    rcases hf it (by simp) with ⟨f0, f1, f2, f3, f4, f5⟩
    obtain ⟨hs, hm, hl, at_⟩ := fix_at hod fx I hg.1
    obtain ⟨ok, ov, he⟩ := st
    exact wpAny_pyNext_items_end_raw (I.ok.hd hc) he hm (by have := hg.2; omega) fun h' eb => ⟨rfl, I.turned (t' := s.toks) (fun b ob hb e => eb b ob hb e) f0 f1 f3 f4 f5⟩
  self := fun A i s Q E st h => let ⟨_, _, e⟩ :=
      st; PySem.W.kcp_self e h
end
section
variable {X : Cx} {tg e :
    Expr} {td : TE} {apos cpos : Pos}
def tFixK (td : TE) : TI := fun σ H R => td σ H fun x H1 => ∃ d o ps u, x = .ref d ∧ H1 d = some u ∧ FixD d o ps u ∧ R (ItK d u ps) H1
def tFixI (td : TE) : TI := fun σ H R => td σ H fun x H1 => ∃ d o ps u, x = .ref d ∧ H1 d = some u ∧ FixD d o ps u ∧ R (ItI d u ps) H1
theorem pi_K (he : PE X e td) : PI X tg e (tFixK td) := by
  refine ⟨fun pins s σ H R I h => thn (he.run pins s σ H _ I h) fun v s1 ⟨x, H1, I1, rx, d, o, ps, u, ex, hd, fx, q⟩ => ?_⟩
  subst ex
  obtain rfl : v = Value.ref d := rx
  obtain ⟨_, _, _, es, ep, hod, _⟩ := fx _ _ _ _ (I1.hok d u hd)
  obtain ⟨hs, hm, hl, _⟩ := fix_at hod fx I1 hd
  exact wpAny_pyIter_dict_raw hs hm (pi_one (tk := s1.toks) I1 _ (turn_K _ hod fx) ⟨_, Heap.get?_push_size _ rfl, rfl, rfl⟩ q)
theorem pi_I {elts : List Expr} {kk : Nat} {tpos : Pos} (he : PE X e td) (hbase : attributeBase e "items" X.env (eval e X.env) = eval e X.env := by rfl) (hline : (apos.endLine == cpos.line) = true := by rfl) : PI X (.Tuple elts kk tpos) (.Call (.Attribute e "items" apos) [] [] cpos) (tFixI td) := by
  refine (⟨fun pins s σ H R I h => ?_⟩)
  refine wpAny_Call_method (T := "dict") (id := "dict.items") hbase rfl hline F.plainAttrs_dict F.slot_dict_items F.type_dict_items (thn (he.run pins s σ H _ I h) fun v s1 ⟨x, H1, I1, rx, d, o, ps, u, ex, hd, fx, q⟩ => ?_)
  subst ex
  obtain rfl : v = Value.ref d := rx
  obtain ⟨_, _, _, es, ep, hod, _⟩ := fx _ _ _ _ (I1.hok d u hd)
  obtain ⟨hs, hm, hl, _⟩ := fix_at hod fx I1 hd
  obtain ⟨o', ho, hx, hdt⟩ := id hm
  refine ⟨hm.typeIs, fun b z => by cases z; exact ⟨o', ho, hx.2.1⟩, ?_⟩
  have I2 : Inv X pins σ H1 { s1 with heap := s1.heap.push { cls := .type "dict_items", data := .fields #[.ref d] } } := (I1.kept (t' := s1.toks) fun b ob q => Heap.get?_push_of_some _ q)
  have fin : wpAny (model X.prog X.w) X.A (pyIter (.ref s1.heap.objs.size)) (PIE X pins σ (.Tuple elts kk tpos) R) X.xe { s1 with heap := s1.heap.push { cls := .type "dict_items", data := .fields #[.ref d] } } :=
    wpAny_pyIter_items_raw (d := d) ⟨_, Heap.get?_push_size _ rfl, rfl, rfl⟩ (hm.at fun ob e => Heap.get?_push_of_some _ e) (pi_one (tk := s1.toks) I2 _ (turn_I _ hod fx) ⟨.none, .none, Heap.get?_push_size _ rfl⟩ q)
  show (wpAny _ _ (callWith cpos (.builtin "dict.items") [.ref d] [] []) _ X.xe s1)
  exact method_meetsIn F.slot_dict_items F.entry_dict_items rfl (PySem.evalArgs_none ⟨rfl, hm.typeIs, F.args_dict_items_1 _, _, meets_dict_items_raw d hs, ⟨es, ep, hm⟩, fin⟩)
end
/-! ### on data -/
section
variable {P : Pm} {E : XK} {X : Cx} {e : Expr} {f : FE}
/-- the keys' and values' data of the pairs -/
inductive PsD (P : Pm) (F : Hp) (ρ : Nat → Option Addr) : List D → List D → List (V × V) → Prop
  | nil : PsD P F ρ [] [] []
  | cons {k d : D} {kv v : V} {ks ds : List D} {ps : List (V × V)} : RV P F ρ k kv → RV P F ρ d v → PsD P F ρ ks ds ps → PsD P F ρ (k :: ks) (d :: ds) ((kv, v) :: ps)
theorem PsD.mono {F F' : Hp} {ρ ρ' : Nat → Option Addr} (e : Ex F F') (r : ∀ i a, ρ i = some a → ρ' i = some a) : ∀ {ks ds : List D} {ps : List (V × V)}, PsD P F ρ ks ds ps → PsD P F' ρ' ks ds ps
  | _, _, _, .nil => .nil
  | _, _, _, .cons a b t => .cons (a.mono e r) (b.mono e r) (t.mono e r)
theorem PsD.len {F : Hp} {ρ : Nat → Option Addr} : ∀ {ks ds : List D} {ps : List (V × V)}, PsD P F ρ ks ds ps → ks.length = ps.length ∧ ds.length = ps.length
  | _, _, _, .nil => ⟨rfl, rfl⟩
  | _, _, _, .cons _ _ t => ⟨by rw [List.length_cons, List.length_cons, t.len.1], by rw [List.length_cons, List.length_cons, t.len.2]⟩
theorem PsD.get {F : Hp} {ρ : Nat → Option Addr} : ∀ {ks ds : List D} {ps : List (V × V)}, PsD P F ρ ks ds ps → ∀ (i : Nat) (p : V × V), ps[i]? = some p → ∃ k d, ks[i]? = some k ∧ ds[i]? = some d ∧ RV P F ρ k p.1 ∧ RV P F ρ d p.2
  | _, _, _, .nil, i, p, h => by simp at h
  | _, _, _, .cons a b t, 0, p, h => by simp at h; subst h; exact ⟨_, _, rfl, rfl, a, b⟩
  | _, _, _, .cons a b t, i + 1, p, h => by simpa using t.get i p (by simpa using h)
theorem PsD.ofK {F : Hp} {ρ : Nat → Option Addr} : ∀ {ks ds : List D} {kvs : List (Key × V)}, RKs P F ρ ks ds kvs → PsD P F ρ ks ds (kvs.map fun p => (kV p.1, p.2))
  | _, _, _, .nil => .nil
  | _, _, _, .int r t => .cons (.int _) r (PsD.ofK t)
  | _, _, _, .str r t => .cons (.str _) r (PsD.ofK t)
theorem PsD.ofN {F : Hp} {ρ : Nat → Option Addr} : ∀ {ks ds : List D} {kvs : List (NestedKey × Addr × V)}, RNs P F ρ ks ds kvs → PsD P F ρ ks ds (kvs.map fun p => (.ref p.2.1, p.2.2))
  | _, _, _, .nil => .nil
  | _, _, _, .cons _ _ ha r t => .cons ha r (PsD.ofN t)
theorem pairs_kv {prog : Program} {w : World} : ∀ {kvs : List (Key × V)} {vs : List (Key × Value)} {es : List DictEntry}, KV kvs vs → Pairs (mixKind prog w) es vs → Paired (fun (p : V × V) (e : DictEntry) => RelV p.1 e.key ∧ RelV p.2 e.val) (kvs.map fun p => (kV p.1, p.2)) es := by
  intro kvs vs es kv
  unfold KV at kv
  induction kv generalizing es with
  | nil => intro h; cases es with
    | nil => exact .nil
    | cons _ _ => have := h.length; simp at this
  | @cons p q ps qs r t ih =>
    intro h
    cases es with
    | nil => have := h.length; simp at this
    | cons e es =>
      cases h with
      | cons h1 h2 h3 =>
        obtain ⟨r1, r2⟩ := r
        refine .cons ⟨?_, ?_⟩ (ih h3)
        · have z := relV_key (show keyIs q.1 e.key = true from h1)
          rw [← r1] at z
          exact z
        · show RelV p.2 e.val
          rw [h2]; exact r2
theorem pairs_nk {prog : Program} {w : World} {kvs : List (NestedKey × Addr × V)} {xs : List (NestedKey × Addr × Value)} (h : Paired (fun (p : NestedKey × Addr × V) (q : NestedKey × Addr × Value) => p.1 = q.1 ∧ p.2.1 = q.2.1 ∧ RelV p.2.2 q.2.2) kvs xs) : Paired (fun (p : V × V) (e : DictEntry) => RelV p.1 e.key ∧ RelV p.2 e.val) (kvs.map fun p => (.ref p.2.1, p.2.2)) (xs.map (entryOfKey (nestedKind prog w))) := by
  induction h with
  | nil => exact .nil
  | cons r _ ih =>
    obtain ⟨r1, r2, r3⟩ := r
    refine .cons ⟨?_, r3⟩ ih
    show Value.ref _ = Value.ref _
    rw [r2]
/-- a dict that never changes -/
theorem fixD_of {F : Hp} {ρ : Nat → Option Addr} {x : V} {ks vs : List D} (r : RV P F ρ (.dct ks vs) x) : ∃ a o ps u, x = .ref a ∧ F a = some u ∧ FixD a o ps u ∧ PsD P F ρ ks vs ps := by
  cases r with
  | @dct a _ _ kvs o h1 rr =>
    refine ⟨a, o, _, _, rfl, h1, fun P' w' H' h' ok => ?_, PsD.ofK rr⟩
    obtain ⟨hg', _, hs, va', ua', o2, es2, ep2, ho2, hx2, hdt2, _, hp2, _⟩ := ok
    rw [hg'] at ho2
    cases ho2
    exact ⟨hs, hg', hx2, es2, ep2, hdt2, pairs_kv ua' hp2⟩
  | @dctN a _ _ kvs o h1 ne rr =>
    refine ⟨a, o, _, _, rfl, h1, fun P' w' H' h' ok => ?_, PsD.ofN rr⟩
    obtain ⟨⟨hs, ho', _, xs', hx', es2, ep2, hc', hdt2, he', _⟩, _, _⟩ := ok
    refine ⟨hs, ho', hc', es2, ep2, hdt2, ?_⟩
    rw [he']
    exact pairs_nk hx'
/-- for k in d -/
def iDk (f : FE) : FA := fun sl h => (f sl h).bind fun d h => match d with
  | .dct ks _ => .ok ks h | _ => .no
def pairD : List D → List D → List D
  | k :: ks, v :: vs => .tup [k, v] :: pairD ks vs
  | _, _ => []
theorem pairD_get : ∀ {ks vs : List D} {i : Nat} {d : D}, (pairD ks vs)[i]? = some d → ∃ k v, ks[i]? = some k ∧ vs[i]? = some v ∧ d = .tup [k, v]
  | [], _, _, _, h => by simp [pairD] at h
  | _ :: _, [], _, _, h => by simp [pairD] at h
  | k :: ks, v :: vs, 0, d, h => by simp [pairD] at h; exact ⟨k, v, rfl, rfl, h.symm⟩
  | k :: ks, v :: vs, i + 1, d, h => by simpa using pairD_get (i := i) (d := d) (by simpa [pairD] using h)
theorem pairD_len : ∀ {ks vs : List D}, ks.length = vs.length → (pairD ks vs).length = ks.length
  | [], [], _ => rfl
  | [], _ :: _, h => (by simp at h)
  | _ :: _, [], h => (by simp at h)
  | k :: ks, v :: vs, h => by simp [pairD, pairD_len (ks := ks) (vs := vs) (by simpa using h)]
/-- for k, v in d.items() -/
def iDi (f : FE) : FA := fun sl h => (f sl h).bind fun d h => match d with
  | .dct ks vs => .ok (pairD ks vs) h | _ => .no
end
end EV
end S_EwA
section S_EwB
/-! EwB: rules for walks over dicts, texts, enumerate over a tuple. -/
namespace EV
open PySem PySem.Spec PyProof.Rows L2 Evl
section
variable {P : Pm} {E : XK} {X : Cx} {e : Expr} {f : FE} {fs : FA} {p pos apos cpos : Pos}
theorem walk_K {g : G} {a : Addr} {u : HO} {ks vs : List D} {ps : List (V × V)} (h : g.F a = some u) (r : PsD P g.F g.ρ ks vs ps) : WalkI P g ks (ItK a u ps) := fun i g1 h1 H l s => by
  have hH : H a = some u := s.fr _ _ (l.1 _ _ h)
  refine ⟨fun d e => ?_, fun e => ⟨hH, by rw [← r.len.1]; exact List.getElem?_eq_none_iff.mp e⟩⟩
  have hi : i < ps.length := by rw [← r.len.1]; exact (List.getElem?_eq_some_iff.mp e).1
  refine ⟨⟨hH, hi⟩, fun x H' ⟨eH, v, hp⟩ => ?_⟩
  subst eH
  obtain ⟨k, d2, e1, e2, r1, r2⟩ := r.get i (x, v) hp
  rw [e] at e1; cases e1
  exact ⟨g1, .refl _, s, rv_le l r1⟩
theorem walk_I {g : G} {a : Addr} {u : HO} {ks vs : List D} {ps : List (V × V)} (h : g.F a = some u) (r : PsD P g.F g.ρ ks vs ps) : WalkI P g (pairD ks vs) (ItI a u ps) := fun i g1 h1 H l s => by
  have hH : H a = some u := s.fr _ _ (l.1 _ _ h)
  have hl : (pairD ks vs).length = ps.length := by rw [pairD_len (by rw [r.len.1, r.len.2]), r.len.1]
  refine ⟨fun d e => ?_, fun e => ⟨hH, by rw [← hl]; exact List.getElem?_eq_none_iff.mp e⟩⟩
  have hi : i < ps.length := by rw [← hl]; exact (List.getElem?_eq_some_iff.mp e).1
  refine ⟨⟨hH, hi⟩, fun x H' ⟨T, k, v, hp, ex, hT, eH⟩ => ?_⟩
  subst ex; subst eH
  obtain ⟨k2, d2, e1, e2, r1, r2⟩ := r.get i (k, v) hp
  obtain ⟨k3, d3, e3, e4, ed⟩ := pairD_get e
  rw [e1] at e3; cases e3
  rw [e2] at e4; cases e4
  subst ed
  exact pair_new s (rv_le l r1) (rv_le l r2) hT
theorem sI_dk {tg : Expr} (h : PE X e (rdE P E f)) : PI X tg e (rdI P E (iDk f)) := PI.weak (pi_K h) fun σ H R ⟨g, sl, h, x, o⟩ => ⟨g, sl, h, x, Out.bind o fun d h1 g1 H1 v l1 s1 r1 o1 => by
  cases d with
  | dct ks vs =>
    obtain ⟨a, ob, ps, u, ex, hu, fx, pd⟩ := fixD_of r1
    exact ⟨a, ob, ps, u, ex, s1.fr _ _ hu, fx, o1 g1 H1 _ (.refl _) s1 (walk_K hu pd)⟩
  | _ => exact o1.elim⟩
theorem sI_di {elts : List Expr} {kk : Nat} {tpos : Pos} (h : PE X e (rdE P E f)) (hbase : attributeBase e "items" X.env (eval e X.env) = eval e X.env := by rfl) (hline : (apos.endLine == cpos.line) = true := by rfl) :
    PI X (.Tuple elts kk tpos) (.Call (.Attribute e "items" apos) [] [] cpos) (rdI P E (iDi f)) := PI.weak (pi_I h hbase hline) fun σ H R ⟨g, sl, h, x, o⟩ => ⟨g, sl, h, x, Out.bind o fun d h1 g1 H1 v l1 s1 r1 o1 => by
  cases d with
  | dct ks vs =>
    obtain ⟨a, ob, ps, u, ex, hu, fx, pd⟩ := fixD_of r1
    exact ⟨a, ob, ps, u, ex, s1.fr _ _ hu, fx, o1 g1 H1 _ (.refl _) s1 (walk_I hu pd)⟩
  | _ => exact o1.elim⟩
/-! ### the signs of a text -/
def sgD : List Nat → List D
  | [] => [] | c :: s => .str [c] :: sgD s
theorem sgD_get : ∀ {s : List Nat} {i : Nat}, (sgD s)[i]? = (s[i]?).map fun c => .str [c]
  | [], i => by simp [sgD]
  | c :: s, 0 => by simp [sgD]
  | c :: s, i + 1 => by simp only [sgD, List.getElem?_cons_succ]; exact sgD_get
def iSg (f : FE) : FA := fun sl h => (f sl h).bind fun d h => match d with
  | .str s => .ok (sgD s) h | _ => .no
theorem walk_S {g : G} {s : List Nat} : WalkI P g (sgD s) (Its (toStr s)) := fun i g1 h1 H l hs => by
  rw [sgD_get]
  refine ⟨fun d e => ?_, fun e => ?_⟩
  · obtain ⟨c, e1, e2⟩ := Option.map_eq_some_iff.mp e
    subst e2
    have hc : (toStr s).cps[i]? = some c := by show s.toArray[i]? = some c; simpa using e1
    refine ⟨?_, fun x H' ⟨eH, c', hc', ex⟩ => ?_⟩
    · have := (List.getElem?_eq_some_iff.mp e1).1
      show i < s.toArray.size
      simpa using this
    · subst eH; subst ex
      rw [hc] at hc'; cases hc'
      exact ⟨g1, .refl _, hs, .str [c]⟩
  · have e1 : s[i]? = none := by simpa using e
    have := List.getElem?_eq_none_iff.mp e1
    show s.toArray.size ≤ i
    simpa using this
theorem sI_str {tg : Expr} (h : PE X e (rdE P E f)) : PI X tg e (rdI P E (iSg f)) := PI.weak (pi_str h) fun σ H R ⟨g, sl, h, x, o⟩ => ⟨g, sl, h, x, Out.bind o fun d h1 g1 H1 v l1 s1 r1 o1 => by
  cases r1 with
  | str s => exact ⟨_, rfl, o1 g1 H1 _ (.refl _) s1 walk_S⟩
  | _ => exact o1.elim⟩
end
/-! ### enumerate over a tuple -/
theorem meets_enumT {v : Value} {o : Obj} {H : Heap → Prop} (B : Begins v o H) :
    Meets (Builtin.«enumerate.__new__» ⟨[.type "enumerate", v], []⟩) (fun _ R s => H s.heap ∧
      R (.ok (.ret (.ref (s.heap.push o).objs.size))) { s with heap := (s.heap.push o).push { cls := .type "enumerate", data := .fields #[.none, .bool false, .ref s.heap.objs.size, rawInt 0, .none, .none] } }) :=
  .of_wp fun prog w A R s h =>
      by
    rcases s with ⟨hp, g, d, tk, os⟩; rcases h with ⟨h1, h⟩
    have hsub := sub_enumerate
    have q1 : ∀ {A' : Around} {E : Value → Shared → Prop} {Q :
        Value → Shared → Prop}, Q (.ref hp.objs.size) ⟨hp.push o, g, d, tk, os⟩ → wpAny (model prog w) A' (pyIter v) Q E ⟨hp, g, d, tk, os⟩ :=
      fun q =>
          B.iter prog w _ _ ⟨hp, g, d, tk, os⟩ _ h1 q
    wp_walk using q1
    refine (wpAny_stack_any fun st => wpAny_pure ?_)
    split
    · rename_i c _ _ _ _ _
      cases (c == Value.type
          "enumerate")
      · wp_walk using q1
        exact ⟨_, rfl, h⟩
      · wp_walk using q1
        exact ⟨_, rfl, h⟩
    · wp_walk using q1
      exact ⟨_, rfl, h⟩
section
variable {prog : Program} {w : World} {A :
    Around} {E : Value → Shared → Prop} {s : Shared}
theorem enum_tup {v : Value} {o : Obj} {H : Heap → Prop} {Q : Value → Shared → Prop} (B : Begins v o H) (h1 : H s.heap)
    (h : ∀ h', IsEnum h' (s.heap.objs.size + 1) s.heap.objs.size 0 .none → h'.get? s.heap.objs.size = some o → h'.objs.size = s.heap.objs.size + 2 →
      (∀ b o, s.heap.get? b = some o → h'.get? b = some o) → Q (.ref (s.heap.objs.size + 1)) { s with heap :=
          h' }) :
    wpAny (model prog w) A (call (.type "enumerate") [v]) Q E s := by
  refine callType_new F.called_enumerate (by decide) (F.typeCall_enumerate_1 _) (F.newCall_enumerate_1 _) (fun obj => F.args_object_init_2 obj _) F.entry_enumerate_new (meets_enumT B) ⟨h1, ?_⟩
  have hz : (s.heap.push o).objs.size = s.heap.objs.size + 1 := (Heap.size_push ..)
  show _ ∧ _
  rw [hz]
  have he : IsEnum ((s.heap.push o).push { cls := .type "enumerate", data := .fields #[.none, .bool false, .ref s.heap.objs.size, rawInt 0, .none, .none] }) (s.heap.objs.size + 1) s.heap.objs.size 0 .none := by
    have := Heap.get?_push_size (s.heap.push o) (o := { cls := .type "enumerate", data := .fields #[.none, .bool false, .ref s.heap.objs.size, rawInt 0, .none, .none] }) rfl
    rw [hz] at this; exact this
  refine (⟨⟨_, he, rfl⟩, h _ he (Heap.get?_push_of_some _ (Heap.get?_push_size _ B.free)) (by rw [Heap.size_push, hz]) fun b o x => Heap.get?_push_of_some _ (Heap.get?_push_of_some _ x)⟩)
end
/-- the tuple at a, each item in a new pair -/
def ItE (K : PySem.W.Frag) (a : Addr) : It :=
  ⟨fun i H => ∃ (xs : List V) (x : V), SqT K H a xs ∧ xs[i]? = some x, fun i H v H' => ∃ T x, v = .ref T ∧ H T = none ∧ H' = upd H T (.tup [.int (i : Nat), x]) ∧ ∀ xs, SqT K H a xs → xs[i]? = some x, fun i H => ∃ xs : List V, SqT K H a xs ∧ xs.length ≤ i⟩
theorem turn_E {P : Program} {w : World} {K : PySem.W.Frag} {elts : List Expr} {kk : Nat} {tpos : Pos} (a e it : Addr) :
    Turn P w K (.Tuple elts kk tpos) (ItE K a) [e, it] e (fun i h => (∃ old, IsEnum h e it ((i : Nat) : Int) old) ∧ h.IsTupleIter it a i ∧ e ≠ it ∧ a ≠ e ∧ a ≠ it) where
  mem := by simp
  obj := fun i h st b hb => by
    rcases st with ⟨⟨old, he⟩, ⟨o, ho, hc, hd⟩, _⟩
    have e' : b = e ∨ b = it := (by simpa using hb)
    rcases e' with z | z
    · rw [z]; exact ⟨_, he, fun v q =>
          nomatch q⟩
    · rw [z]; exact ⟨o, ho, fun v q =>
          by rw [hd] at q; cases q⟩
  keep := fun i h h' st k => let ⟨⟨old, he⟩, hi, hne⟩ :=
      st; ⟨⟨old, k e (by simp) _ he⟩, hi.at fun o q => k it (by simp) o q, hne⟩
  item := by
    intro X hP hw hK hc i
        pins s σ H E I hf st hg
    subst hP hw hK
    obtain ⟨⟨old, he⟩, hit, hne, hae, hai⟩ := st
    obtain ⟨xs, x, hq, hx⟩ := hg
    rcases I.tuple hq with ⟨its, rv, p, hz⟩
    rcases rv.get hx with ⟨u, hu, ru⟩
    have hel : e < s.heap.objs.size := (Heap.lt_size he)
    have hil : it < s.heap.objs.size := (by obtain ⟨_, q, _⟩ := hit; exact Heap.lt_size q)
    have p' : s.heap.IsTuple a its.toArray := p
    have hi : i < its.toArray.size := by
      have := (List.getElem?_eq_some_iff.mp hu).1
      simpa using this
    refine wpAny_pyNext_enum_itemC (Draws.tuple (A := X.A.in1) (show X.A.in1.handled = none from I.ok.hd hc) it a hai its.toArray) he ⟨hit, p'⟩ hi hne (by simp; exact ⟨hne, fun z => hae z.symm⟩) fun x' h' tk hx' ho st' hT hsz hk => ?_
    obtain ⟨hit', p2⟩ := st'
    have ex : u = x' := by
      rw [show its.toArray[i]? = some u by simpa using hu] at hx'
      exact Option.some.inj hx'
    subst ex
    refine ⟨_, rfl, wpAny_letOwnedTupleGo_enum (s := { s with heap := h', toks := tk + 1 }) ho fun h'' he' sb => ?_⟩
    have hT2 : h''.get? s.heap.objs.size = some { cls := .type "tuple", data := .seq #[.int i tk, u] } := (sb.2 _ (Nat.ne_of_gt hel)).trans hT
    have new : ObjOk X.prog X.w (upd H s.heap.objs.size (.tup [.int (i :
        Nat), x])) h'' s.heap.objs.size (.tup [.int (i : Nat), x]) :=
      ⟨by show 2 ≤ sizeLine; decide, [.int i tk, u], .cons ⟨_, rfl⟩ (.cons ru .nil), ⟨_, hT2, rfl, _, rfl⟩⟩
    have I1 : Inv X pins σ (upd H s.heap.objs.size (.tup [.int (i : Nat), x])) { s with heap := h'', toks := tk + 1 } :=
      I.turnedNew (ch :=
          [e, it]) (fun b ob hb q => (sb.2 b (fun z => hb (by simp [z]))).trans (hk b ob (fun z => hb (by simp [z])) (fun z => hb (by simp [z])) q)) hf (Nat.le_refl _) new
    refine ⟨.ref s.heap.objs.size, _, I1, rfl, ⟨_, x, rfl, I.hok.fresh (Nat.le_refl _), rfl, fun ys hy => by rw [I.tuple_inj hy hq]; exact hx⟩, ⟨⟨u, ?_⟩, hit'.at fun o q => (sb.2 it (Ne.symm hne)).trans q, hne, hae, hai⟩, fun b hb => ?_⟩
    · have e1 : ((i + 1 : Nat) : Int) = (i : Int) + 1 := (by omega)
      rw [e1]; exact he'
    · have hb' : b < s.heap.objs.size :=
          by
        have e' : b = e ∨ b = it := (by simpa using hb)
        rcases e' with z | z
        · rw [z]; exact hel
        · rw [z]; exact hil
      rw [upd_ne
          (Nat.ne_of_lt hb')]
      exact (hf b hb).1
  done := by
    intro X hP hw hK hc i
        pins s σ H E I hf st hg
    subst hP hw hK
    obtain ⟨⟨old, he⟩, hit, hne, hae, hai⟩ := st
    obtain ⟨xs, hq, hx⟩ := hg
    rcases I.tuple hq with ⟨its, rv, p, hz⟩
    rcases hf it (by simp) with ⟨f0, f1, f2, f3, f4, f5⟩
    have hl := rv.length
    have p' : s.heap.IsTuple a its.toArray := p
    have hT : s.TypeIs (.ref e) "enumerate" := (⟨_, he, rfl⟩)
    unfold pyNext
    refine wpAny_bind (wpAny_attempt (wpAny_callSpecial?_slot (name :=
        Str.ofString "__next__") hT F.slot_enumerate_next
      (wpAny_call_entry F.slot_enumerate_next hT
          F.entry_enumerate_next ?_ (F.args_enumerate_next_1 _))))
    show (wpAny _ _ (field (.ref e) 2 >>= _) _ _ _)
    refine (wpAny_bind (wpAny_field he rfl (x := .ref it) rfl ?_))
    refine wpAny_bind (wpAny_nextOf_tuple_end (I.ok.hd hc) hit p' (by simp; omega) fun h' x he' hx' => ?_)
    obtain ⟨o, ho, hc'⟩ := hx'
    refine wpAny_bind (wpAny_isInstance (T := "StopIteration") (b := true) ⟨o, ho, hc'⟩ isSubtype_stop ?_)
    exact wpAny_pure ⟨rfl, I.turned (t' := s.toks) (fun b o hb q => he' b o hb q) f0 f1 f3 f4 f5⟩
  self := fun A i s Q E st h => let ⟨⟨_, he⟩, _⟩ :=
      st; wpAny_pyIter_enum he h
section
variable {P : Pm} {E : XK} {X : Cx} {e : Expr} {f : FE} {fs : FA} {p pos apos cpos : Pos}
def tEnT (K : PySem.W.Frag) (ta : TA) : TI := fun σ H R => ta σ H fun vs H1 => ∃ a xs, vs = [.ref a] ∧ SqT K H1 a xs ∧ R (ItE K a) H1
theorem pi_enT {ta : TA} {tpos : Pos} {elts : List Expr} {kk : Nat} (hg : Gl X "enumerate") (hm : X.mg "enumerate" = none) (ha : PA X [e] ta) (hs : starEach [e] X.env = [(false, eval e X.env)] := by rfl) :
    PI X (.Tuple elts kk tpos) (.Call (.Name "enumerate" p) [e] [] pos) (tEnT X.K ta) := by
  refine (⟨fun pins s σ H R I h => ?_⟩)
  refine (Call_ (ld_blt I hg hm boot_enumerate (PyProof.Rows.callWith_type1 (thn (ha.run pos pins s σ H _ I h) fun us s1 ⟨vs, H1, I1, r1, q1⟩ => ?_) hs rfl)))
  rcases q1 with ⟨a, xs, ex, hq, q⟩
  subst ex
  cases r1 with
  | cons r rr =>
    cases rr
    cases r
    obtain ⟨its, rv, p', hz⟩ := I1.tuple hq
    have p2 : s1.heap.IsTuple a its.toArray := p'
    have hal : a < s1.heap.objs.size := by obtain ⟨o, q, _⟩ := p2; exact Heap.lt_size q
    refine enum_tup (begins_tuple a its.toArray) p2 fun h' he hit hsz hk => wpAny_pyIter_enum he ?_
    have I2 : Inv X pins σ H1 { s1 with heap := h' } := (I1.kept (t' := s1.toks) hk)
    refine ⟨s1.heap.objs.size + 1, [s1.heap.objs.size + 1, s1.heap.objs.size], _, _, H1, rfl, I2, turn_E a (s1.heap.objs.size + 1) s1.heap.objs.size, ⟨⟨.none, he⟩, ⟨_, hit, rfl, rfl⟩, Nat.succ_ne_self _, Nat.ne_of_lt (Nat.lt_succ_of_lt hal), Nat.ne_of_lt hal⟩, fun b hb => ?_, q⟩
    have e' : b = s1.heap.objs.size + 1 ∨ b = s1.heap.objs.size := (by simpa using hb)
    have hle : s1.heap.objs.size ≤ b :=
        by
      rcases e' with z | z
      · rw [z];
            exact Nat.le_add_right _ _
      · rw [z]; exact Nat.le_refl _
    exact (I1.fpOk hle (I1.hok.fresh hle))
def enD : Nat → List D → List D
  | _, [] => [] | n, d :: ds => .tup [.int (Int.ofNat n), d] :: enD (n + 1) ds
theorem enD_get : ∀ {ds : List D} {n i : Nat}, (enD n ds)[i]? = (ds[i]?).map fun d => .tup [.int ((n + i : Nat) : Int), d]
  | [], n, i => by simp [enD]
  | d :: ds, n, 0 => by simp [enD]
  | d :: ds, n, i + 1 => by
    simp only [enD, List.getElem?_cons_succ]
    rw [enD_get, show n + 1 + i = n + (i + 1) by omega]
def iEn (fs : FA) : FA := fun sl h => (fs sl h).bind fun ds h => match ds with
  | [.tup xs] => .ok (enD 0 xs) h | _ => .no
theorem walk_E {K : PySem.W.Frag} {g : G} {xs : List D} {vs : List V} {a : Addr} (hK : K = P.K) (h : SqT P.K g.F a vs) (r : RVs P g.F g.ρ xs vs) : WalkI P g (enD 0 xs) (ItE K a) := fun i g1 h1 H l s => by
  have hq : SqT K H a vs := by rw [hK]; exact ex_t (l.1.trans s.fr) h
  rw [enD_get]
  refine ⟨fun d e => ?_, fun e => ⟨vs, hq, by rw [← r.length]; exact List.getElem?_eq_none_iff.mp (by simpa using e)⟩⟩
  obtain ⟨d1, e1, e2⟩ := Option.map_eq_some_iff.mp e
  subst e2
  obtain ⟨v, f1, rv1⟩ := r.get e1
  refine ⟨⟨vs, v, hq, f1⟩, fun x H' ⟨T, x1, ex, hT, eH, k1⟩ => ?_⟩
  subst ex; subst eH
  have z1 := k1 vs hq
  rw [f1] at z1; cases z1
  have := pair_new (a := .int ((0 + i : Nat) : Int)) (x := .int ((0 + i : Nat) : Int)) s (.int _) (rv_le l rv1) hT
  rw [Nat.zero_add] at this ⊢
  exact this
theorem sI_enum {elts : List Expr} {kk : Nat} {tpos : Pos} (hg : Gl X "enumerate") (hm : X.mg "enumerate" = none) (ha : PA X [e] (rdA P E fs)) (hs : starEach [e] X.env = [(false, eval e X.env)] := by rfl) (hK : X.K = P.K := by rfl) :
    PI X (.Tuple elts kk tpos) (.Call (.Name "enumerate" p) [e] [] pos) (rdI P E (iEn fs)) := PI.weak (pi_enT hg hm ha hs) fun σ H R ⟨g, sl, h, x, o⟩ => ⟨g, sl, h, x, Out.bind o fun ds h1 g1 H1 vs l1 s1 r1 o1 => by
  cases r1 with
  | nil => exact o1.elim
  | cons r rr =>
    cases rr with
    | cons _ _ => cases r <;> exact o1.elim
    | nil =>
      cases r with
      | tup f1 rr1 => exact ⟨_, _, rfl, by rw [hK]; exact ex_t s1.fr f1, o1 g1 H1 _ (.refl _) s1 (walk_E hK f1 rr1)⟩
      | _ => exact o1.elim⟩
end
end EV
end S_EwB
section S_EwC
/-! EwC: dict comprehensions, keys of any kind. -/
namespace EV
open PySem PySem.Spec PyProof.Rows L2 Evl
/-- how one key is stored in the dict at D -/
abbrev StD := Addr → V → V → Hp → (Hp → Prop) → Prop
def turnD (J : It) (tgt : TG) (tst : TT) (tk tv : TE) (st : StD) (D : Addr) (σ : L2.St) (vs : List Nat) (Qd : Hp → Prop) (Wk : Nat → Nat → Hp → Prop) : Prop := ∀ i m H, Wk i m H →
  (J.stop i H ∧ Qd H) ∨ (J.go i H ∧ ∃ Nx : Hp → Prop, (∀ H', Nx H' → ∃ m', m' < m ∧ Wk (i + 1) m' H') ∧ ∀ x H', J.yld i H x H' → tgt x (wipe σ vs) H' fun σ2 H2 => wipe σ2 vs = wipe σ vs ∧ tst σ2 H2 fun b H3 =>
    (b = true → tk σ2 H3 fun y H4 => tv σ2 H4 fun z H5 => st D y z H5 Nx) ∧ (b = false → Nx H3))
def tDg (wi : TI) (tgt : TG) (tst : TT) (tk tv : TE) (st : StD) (vs : List Nat) : TE := fun σ H Q => wi σ H fun J H1 => ∀ D, H1 D = none → ∃ Wk : Nat → Nat → Hp → Prop, (∃ m, Wk 0 m (upd H1 D (.dK []))) ∧ turnD J tgt tst tk tv st D σ vs (fun H => Q (.ref D) H) Wk
/-- the store is right, wherever -/
def StOk (X : Cx) (st : StD) : Prop := ∀ (Z : Cx) (pins : List (Addr × Obj)) (σ : L2.St) (H : Hp) (s : Shared) (D : Addr) (y z : V) (u r : Value) (Nx : Hp → Prop) (EE : Value → Shared → Prop),
  Z.prog = X.prog → Z.w = X.w → Z.K = X.K → Z.A = X.A → Inv Z pins σ H s → RelV y u → RelV z r → st D y z H Nx → wpAny (model Z.prog Z.w) Z.A (dictSet D u r) (fun _ s' => ∃ H', Inv Z pins σ H' s' ∧ Nx H') EE s
section
variable {X : Cx}
theorem dg_core {pins : List (Addr × Obj)} {s : Shared} {σ : L2.St} {H : Hp} {Q : VK} {use : Option (Value → Sem Unit)} {Qf : Value → Shared → Prop} {pos' : Pos} {kx vx tg iter : Expr} {ifs : List Expr} {scope : Scope} {own : List (Str × Nat)} {pos : Pos} {wi : TI} {tgt : TG} {tst : TT} {tk tv : TE} {st : StD} (calm : X.calm = true) (nd : X.N.Nodup) (I : Inv X pins σ H s) (hst : StOk X st) (hi : PI X tg iter wi) (ok : BlkOk X.N X.env.scope scope own)
    (cg : ∀ (s : Shared) (H : Hp) (C : Addr) (cl : List (Str × Addr)) (fp : List Addr), PG (X.blk s H scope (compEnvC scope cl C X.env) fp) tg tgt)
    (ct : ∀ (s : Shared) (H : Hp) (C : Addr) (cl : List (Str × Addr)) (fp : List Addr), PTs (X.blk s H scope (compEnvC scope cl C X.env) fp) ifs tst)
    (ck : ∀ (s : Shared) (H : Hp) (C : Addr) (cl : List (Str × Addr)) (fp : List Addr), PE (X.blk s H scope (compEnvC scope cl C X.env) fp) kx tk)
    (cv : ∀ (s : Shared) (H : Hp) (C : Addr) (cl : List (Str × Addr)) (fp : List Addr), PE (X.blk s H scope (compEnvC scope cl C X.env) fp) vx tv) (plain : ∀ x, foldedSetIterable iter X.env x = pure x)
    (h : tDg wi tgt tst tk tv st (own.map (·.2)) σ H Q) (fine' : ∀ D C s' m H', Inv X pins σ H' s' → Q (.ref D) H' → s'.heap.Ns C m → FpOk X pins H' C → compPost (model X.prog X.w) X.A X.xe use Qf (.ref D) C (.ok .next) s') :
    wpAny (model X.prog X.w) X.A (comprehension (.DictComp kx vx [⟨tg, iter, ifs, 0⟩] scope pos) scope X.env pos' newDict false (eval iter X.env) use) Qf X.xe s :=
        by
  have clo : ∀ y ∈ scope.names, y.2 = .free → ∃ c, X.env.cells.lookup y.1 = some c := fun y hy e => I.ok.has _ ((ok.free y hy e).elim .inl .inr)
  refine wpAny_comprehension_free (use := use) rfl plain (closure_ok clo) ok.kind (fun y hy e => by rw [ok.uniq y hy, e])
    (thn (hi.run pins s σ H _ I h) fun _ _ a1 => thn a1 fun _ t a2 => ?_)
  obtain ⟨it, fp, tn, J, H2, rfl, It, Tn, b0, ff, q⟩ := a2
  refine (wpAny_newObj_type (newEnv_comp ?_))
  -- the dict, at D
  obtain ⟨D, hD⟩ : ∃ D, D = t.heap.objs.size := ⟨_, rfl⟩
  rw [← hD]
  obtain ⟨Wk, ⟨m0, w0⟩, step⟩ := q D (It.hok.fresh (Nat.le_of_eq hD.symm))
  obtain ⟨c, hc⟩ : ∃ c : Shared, c = { t with heap := t.heap.push { cls := .type "dict", data := .dict #[] } } := ⟨_, rfl⟩
  have hh : c.heap = t.heap.push { cls := .type "dict", data := .dict #[] } := by rw [hc]
  have Ic : Inv X pins σ (upd H2 D (.dK [])) c := by
    rw [hc]
    refine It.laid (t' := t.toks) (fun b o e => Heap.get?_push_of_some _ e) (Nat.le_of_eq hD.symm) ?_
    rw [hD]
    exact dk_empty t.heap It.big
  have old : ∀ b ∈ fp, b < t.heap.objs.size := fun b hb => let ⟨_, e, _⟩ := Tn.obj _ _ b0 b hb; Heap.lt_size e
  have fc : ∀ b ∈ fp, FpOk X pins (upd H2 D (.dK [])) b ∧ b < c.heap.objs.size := fun b hb =>
    ⟨⟨by rw [upd_ne (by rw [hD]; exact Nat.ne_of_lt (old b hb))]; exact (ff b hb).1, (ff b hb).2⟩, by rw [hh, Heap.size_push]; exact Nat.lt_succ_of_lt (old b hb)⟩
  have b1 : tn 0 c.heap := Tn.keep _ _ _ b0 fun b _ o e => by rw [hh]; exact Heap.get?_push_of_some _ e
  have Ib := block_start Ic ok nd fc
  rw [← hc]
  generalize hH : upd H2 D (.dK []) = H3 at Ic Ib fc w0
  have PG' := cg c H3 c.heap.objs.size (cellsFrom (c.heap.objs.size + 1) scope.names (cloFrom X.env.cells scope.names [])) fp
  have PT' := ct c H3 c.heap.objs.size (cellsFrom (c.heap.objs.size + 1) scope.names (cloFrom X.env.cells scope.names [])) fp
  have PK' := ck c H3 c.heap.objs.size (cellsFrom (c.heap.objs.size + 1) scope.names (cloFrom X.env.cells scope.names [])) fp
  have PV' := cv c H3 c.heap.objs.size (cellsFrom (c.heap.objs.size + 1) scope.names (cloFrom X.env.cells scope.names [])) fp
  show codeAny _ _ (.compStart (.DictComp kx vx [⟨tg, iter, ifs, 0⟩] scope pos) 0 (.ref it) (.ref D) (compEnvC scope (cellsFrom (c.heap.objs.size + 1) scope.names (cloFrom X.env.cells scope.names [])) c.heap.objs.size X.env)) (compPost (model X.prog X.w) X.A X.xe use Qf (.ref D) c.heap.objs.size) { c with heap := pushCells (c.heap.push { cls := .type "dict", data := .dict #[] }) scope.names }
  generalize hE : compEnvC scope (cellsFrom (c.heap.objs.size + 1) scope.names (cloFrom X.env.cells scope.names [])) c.heap.objs.size X.env = en at Ib PG' PT' PK' PV' ⊢
  have eL : en.locals = c.heap.objs.size := by rw [← hE]; rfl
  obtain ⟨z, hz⟩ : ∃ z : Shared, z = { c with heap := pushCells (c.heap.push { cls := .type "dict", data := .dict #[] }) scope.names } := ⟨_, rfl⟩
  rw [← hz] at Ib ⊢
  have b2 : tn 0 z.heap := Tn.keep _ _ _ b1 fun b _ o e => by rw [hz]; exact pushCells_keeps _ _ _ _ (Heap.get?_push_of_some _ e)
  have fpk : ∀ {σ' : L2.St} {H' : Hp} {s' : Shared}, Inv (X.blk c H3 scope en fp) [] σ' H' s' → (∀ b ∈ fp, H' b = none) → ∀ b ∈ fp, FpOk (X.blk c H3 scope en fp) [] H' b := fun {σ' H' s'} I' hn b hb =>
    ⟨hn b hb, (I'.ok.exf b hb).1, I'.ok.exfs b hb, .inl hb, fun x c e => (I'.ok.exf b hb).2 x c e, fun p hp =>
        absurd (show p ∈ ([] : List (Addr × Obj)) ++ [] from hp) (by simp)⟩
  have whole : codeAny (model X.prog X.w) X.A (.compLoop (.DictComp kx vx [⟨tg, iter, ifs, 0⟩] scope pos) 0 (.ref it) (.ref D) en) (compPost (model X.prog X.w) X.A X.xe use Qf (.ref D) c.heap.objs.size) z := by
    refine compLoop_anyD (fun n s' => ∃ i H', Inv (X.blk c H3 scope en fp) [] (wipe σ (own.map (·.2))) H' s' ∧ tn i s'.heap ∧ (∀ b ∈ fp, H' b = none) ∧ Wk i n H') ?_ m0 ⟨0, H3, Ib, b2, fun b hb => (fc b hb).1.1, w0⟩
    rintro n s5 ⟨i, H5, I5, b5, n5, w5⟩
    rcases step i n H5 w5 with ⟨halt, fine⟩ | ⟨go, Nx, onward, body⟩
    · refine thnF (Tn.done (X.blk c H3 scope en fp) rfl rfl rfl calm i [] s5 _ H5 (fun _ _ => False) I5 (fpk I5 n5) b5 halt) fun r s6 ⟨e6, I6⟩ => ?_
      subst e6
      have I7 : Inv X pins σ H5 s6 := Ic.call' (ch := fp) I6.os I6.base I6.hok I6.bare fun b hb => ⟨(fc b hb).1.2.2.2.1, (fc b hb).1.2.1, (fc b hb).1.2.2.2.2.1, (fc b hb).1.2.2.2.2.2⟩
      have bare : H5 c.heap.objs.size = none := by rw [← eL]; exact I6.free
      obtain ⟨m, ns, _⟩ := I6.loc
      exact fine' D c.heap.objs.size s6 m H5 I7 fine (by rw [← eL]; exact ns) (Ic.fpOk (Nat.le_refl _) bare)
    · refine thnF (Tn.item (X.blk c H3 scope en fp) rfl rfl rfl calm i [] s5 _ H5 (fun _ _ => False) I5 (fpk I5 n5) b5 go) fun r s6 ⟨u, e6, a6⟩ => ?_
      subst e6
      refine thnF a6 fun _ s7 ⟨x, H7, I7, r7, y7, b7, n7⟩ => ?_
      refine thnF (PG'.run _ s7 _ H7 x u _ (I7.pinned (fpk I7 n7) (Tn.obj _ _ b7)) r7 (body x H7 y7)) fun _ s8 ⟨σ8, H8, I8, hw, q8⟩ => ?_
      refine thnF (PT'.run _ s8 σ8 H8 _ I8 q8) fun b s9 ⟨H9, I9, qt, qf⟩ => ?_
      have next : ∀ {s' : Shared} {H' : Hp}, Inv (X.blk c H3 scope en fp) ([] ++ pinsAt fp s7.heap) σ8 H' s' → Nx H' → ∃ m, m < n ∧ ∃ i H', Inv (X.blk c H3 scope en fp) [] (wipe σ (own.map (·.2))) H' s' ∧ tn i s'.heap ∧ (∀ b ∈ fp, H' b = none) ∧ Wk i m H' := fun {s' H'} I' nx => by
        obtain ⟨m', lt, w'⟩ := onward H' nx
        have held : ∀ b ∈ fp, ∀ o, s7.heap.get? b = some o → s'.heap.get? b = some o ∧ H' b = none := fun b hb o e =>
          let k := I'.pin (b, o) (List.mem_append_right _ (List.mem_append_right _ (mem_pinsAt hb e))); ⟨k.1, k.2.1⟩
        exact ⟨m', lt, i + 1, H', (I'.unpinned (pins := [])).weak (by rw [← hw, wipe_length]) (fun j v e => by rw [← hw] at e; exact (wipe_some e).1), Tn.keep _ _ _ b7 fun b hb o e => (held b hb o e).1,
          fun b hb => let ⟨o, e, _⟩ := Tn.obj _ _ b7 b hb; (held b hb o e).2, w'⟩
      cases b with
      | false => exact next I9 (qf rfl)
      | true =>
        refine thnF (PK'.run _ s9 σ8 H9 _ I9 (qt rfl)) fun k1 sA ⟨yk, HA, IA, rA, qA⟩ => ?_
        refine thnF (PV'.run _ sA σ8 HA _ IA qA) fun v1 sB ⟨yv, HB, IB, rB, qB⟩ => ?_
        exact wpAny_mono (hst (X.blk c H3 scope en fp) _ σ8 HB sB D yk yv k1 v1 Nx (fun _ _ => False) rfl rfl rfl rfl IB rA rB qB) (fun _ s' ⟨H', I', nx⟩ => next I' nx) fun _ _ z => z.elim
  exact codeAny_compStart_dict whole (Tn.self X.A 0 _ _ _ b2 whole)
theorem pe_dg {kx vx tg iter : Expr} {ifs : List Expr} {scope : Scope} {own : List (Str × Nat)} {pos : Pos} {wi : TI} {tgt : TG} {tst : TT} {tk tv : TE} {st : StD} (calm : X.calm = true) (nd : X.N.Nodup) (hst : StOk X st) (hi : PI X tg iter wi) (ok : BlkOk X.N X.env.scope scope own)
    (cg : ∀ (s : Shared) (H : Hp) (C : Addr) (cl : List (Str × Addr)) (fp : List Addr), PG (X.blk s H scope (compEnvC scope cl C X.env) fp) tg tgt)
    (ct : ∀ (s : Shared) (H : Hp) (C : Addr) (cl : List (Str × Addr)) (fp : List Addr), PTs (X.blk s H scope (compEnvC scope cl C X.env) fp) ifs tst)
    (ck : ∀ (s : Shared) (H : Hp) (C : Addr) (cl : List (Str × Addr)) (fp : List Addr), PE (X.blk s H scope (compEnvC scope cl C X.env) fp) kx tk)
    (cv : ∀ (s : Shared) (H : Hp) (C : Addr) (cl : List (Str × Addr)) (fp : List Addr), PE (X.blk s H scope (compEnvC scope cl C X.env) fp) vx tv) (plain : ∀ x, foldedSetIterable iter X.env x = pure x := by intro _; rfl) :
    PE X (.DictComp kx vx [⟨tg, iter, ifs, 0⟩] scope pos) (tDg wi tgt tst tk tv st (own.map (·.2))) := by
  refine (⟨fun pins s σ H Q I h => ?_⟩)
  rw [arm_eval_DictComp]
  refine dg_core (use := none) calm nd I hst hi ok cg ct ck cv plain h fun D C s' m H' I' q hn f => ⟨m, hn, fun h'' sb => ?_⟩
  rcases f with ⟨f0, f1, f2, f3, f4, f5⟩
  exact (⟨.ref D, H', I'.turned (t' := s'.toks) (fun b o hb e => (sb.2 b hb).trans e) f0 f1 f3 f4 f5, rfl, q⟩)
theorem ps_setDg {i : Nat} {y : Str} {py spos : Pos} {kx vx tg iter : Expr} {ifs : List Expr} {scope : Scope} {own : List (Str × Nat)} {pos : Pos} {wi : TI} {tgt : TG} {tst : TT} {tk tv : TE} {st : StD} (calm : X.calm = true) (nd : X.N.Nodup) (hy : X.N[i]? = some y) (hyl : X.env.scope.names.lookup y = some .local)
    (hsw : swapsWith (.DictComp kx vx [⟨tg, iter, ifs, 0⟩] scope pos) (some (.Name y py)) spos.line X.env = pure true) (hst : StOk X st) (hi : PI X tg iter wi) (ok : BlkOk X.N X.env.scope scope own)
    (cg : ∀ (s : Shared) (H : Hp) (C : Addr) (cl : List (Str × Addr)) (fp : List Addr), PG (X.blk s H scope (compEnvC scope cl C X.env) fp) tg tgt)
    (ct : ∀ (s : Shared) (H : Hp) (C : Addr) (cl : List (Str × Addr)) (fp : List Addr), PTs (X.blk s H scope (compEnvC scope cl C X.env) fp) ifs tst)
    (ck : ∀ (s : Shared) (H : Hp) (C : Addr) (cl : List (Str × Addr)) (fp : List Addr), PE (X.blk s H scope (compEnvC scope cl C X.env) fp) kx tk)
    (cv : ∀ (s : Shared) (H : Hp) (C : Addr) (cl : List (Str × Addr)) (fp : List Addr), PE (X.blk s H scope (compEnvC scope cl C X.env) fp) vx tv) (plain : ∀ x, foldedSetIterable iter X.env x = pure x := by intro _; rfl) :
    PS X (.Assign [.Name y py] (.DictComp kx vx [⟨tg, iter, ifs, 0⟩] scope pos) spos) (tAsg (tDg wi tgt tst tk tv st (own.map (·.2))) (gName i)) := by
  refine (⟨fun pins s σ H D I h => ?_⟩)
  rw [exec_Assign_Name_used
      _ _ _ _ hsw]
  refine (wpAny_bind (wpAny_standAt (wpAny_bind ?_)))
  show wpAny _ X.A (do let _ ← comprehension (.DictComp kx vx [⟨tg, iter, ifs, 0⟩] scope pos) scope X.env (firstIterPos [⟨tg, iter, ifs, 0⟩] pos) newDict false (eval iter X.env) (some (assign (.Name y py) X.env))) _ _ s
  have h : tDg wi tgt tst tk tv st (own.map (·.2)) σ H (fun x H1 => gName i x σ H1 D.nx) := h
  refine wpAny_bind (thn (dg_core (Qf := fun _ s' => SP X pins D .next s') calm nd I hst hi ok cg ct ck cv plain h fun L C s' m H' I' q hn f => ?_) fun _ s' hq => wpAny_pure (wpAny_pure hq))
  show (wpAny _ _ (assign (.Name y py) X.env (.ref L)) _ _ _)
  refine wpAny_assign_Name (store_ok2 (v := V.ref L) I' nd hy (.inl hyl) rfl (fun s2 I2 ⟨a, sb, ha⟩ => ?_) (.inr hyl))
  rcases f with ⟨f0, f1, f2, f3, f4, f5⟩
  have away : C ≠ a := by
    rcases ha with z | z
    · rw [z]; exact f1
    · exact (fun e => f4 y a z e.symm)
  refine ⟨m, hn.sameBut sb away, fun h3 sb3 => ?_⟩
  exact (⟨_, H', I2.turned (t' := s2.toks) (fun b o hb e => (sb3.2 b hb).trans e) f0 f1 f3 f4 f5, q⟩)
theorem sw_dict {kx vx : Expr} {gs : List Comprehension} {scope : Scope} {pos py : Pos} {y : Str} {l : Nat} {env : Env} (hk : env.scope.kind = .function) (hy : env.scope.names.lookup y = some .local) (hl : (py.line == pos.line) = true)
    (ha : (scope.names.any fun (n, k) => n == y && (k == .local || k == .cell)) = false) : swapsWith (.DictComp kx vx gs scope pos) (some (.Name y py)) l env = pure true := by
  have ky : env.kindOf y = some .local := (hy)
  have hb : env.blockKind = .function := (by unfold Env.blockKind; rw [hk]; rfl)
  unfold swapsWith
  simp only [hb, ky, ha, Expr.pos, hl] at ⊢
  rfl
end
/-! ### on data -/
section
variable {P : Pm} {E : XK} {X : Cx} {pos : Pos}
def stD (P : Pm) : StD := fun D y z H Nx => ∃ g h n x w h', HS P g h H ∧ g.ρ n = some D ∧ RV P g.F g.ρ x y ∧ RV P g.F g.ρ w z ∧ (∃ ks vs, h.get n = some (.dct ks vs)) ∧ setC n x w h = some h' ∧ ∀ H', HS P g h' H' → Nx H'
theorem Rm.here (rm : Rm P X) : (nestedKind X.prog X.w).room X.A := by
  have := rm.u
  show X.A.units + 8 < cLine
  omega
theorem st_ok (rm : Rm P X) : StOk X (stD P) := by
  intro Z pins σ H s D y z u r Nx EE eP eW eK eA I ru rr ⟨g, h, n, x, w, h', hs, hD, rx, rw', ⟨ks, vs, q1⟩, e, q⟩
  have rm' : Rm P Z := ⟨eK.trans rm.K, eP.trans rm.p, eW.trans rm.w, by rw [eA]; exact rm.u⟩
  have e' : setC n x w h = some h' := e
  unfold setC at e'
  simp only [q1] at e'
  obtain ⟨b, e1, e2⟩ := Option.bind_eq_some_iff.mp e'
  cases q2 : Nat.ble ks.length 100000 with
  | false => rw [q2] at e2; cases e2
  | true =>
    rw [q2] at e2
    have hl := Nat.le_of_ble_eq_true q2
    have e3 : h' = h.set n (.dct (putD ks vs x w).1 (putD ks vs x w).2) := (Option.some.inj e2).symm
    subst e3
    obtain ⟨mu, dl, hex⟩ := hs.dctMut q1 hD
    cases b with
    | false =>
      obtain ⟨⟨kvs, hrd, rk⟩, k, ek⟩ := dl.scal e1
      have hH := hex kvs hrd
      have ey := key_v rx ek
      rw [ey] at ru
      exact d_dictSet I hH (by rw [← rk.length.1, sizeLine_eq]; omega) ru rr fun s' I' => ⟨_, I', q _ (hs.wr q1 hD (.dct (rk.put ek rw')))⟩
    | true =>
      obtain ⟨xs, dd, rn, hz, hx, k, ek, e8⟩ := dl.nest I hs.fr rm'.K rm'.p rm'.w e1
      obtain ⟨a, rfl⟩ := key_ref rx hx
      obtain rfl : u = .ref a := ru
      refine wpAny_dictSet_heap (hsz := hz) rm'.here ⟨nested_of I hs.fr rm'.K x _ _ k rx rfl ek, e8⟩ dd fun hh dd' sb => ?_
      have hl2 := rn.length.1
      have hl3 := storedH_length xs k a r
      obtain ⟨ob, I', s'⟩ := nest_write (tk := s.toks + (nestedKind Z.prog Z.w).draws k) rm' I hs q1 hD (dl.obj I).1 dd' sb (rn.put hx ek e8 rx rw' rr) (by rw [sizeLine_eq]; omega) storedH_ne
      exact ⟨_, I', q _ s'⟩
/-- the loop -/
def dcPut (i : Nat) (x y : D) (h : Hc) : Option Hc := match h.get i with
  | some (.dct _ _) => setC i x y h | _ => none
def dcL (tg : FG) (t : FT) (fk fv : FE) (i : Nat) (sl : Sl) : List D → Hc → R Unit
  | [], h => .ok () h
  | d :: ds, h => match tg d sl with
    | none => .no
    | some sl1 => (nx (t sl1 h)).bind fun k h => match k with
      | false => dcL tg t fk fv i sl ds h
      | true => (nx (fk sl1 h)).bind fun x h => (nx (fv sl1 h)).bind fun y h => match dcPut i x y h with
        | some h => dcL tg t fk fv i sl ds h | none => .no
def fDc (own : List Nat) (fi : FA) (tg : FG) (t : FT) (fk fv : FE) : FE := fun sl h => (fi sl h).bind fun ds h => (dcL tg t fk fv h.nx (wipeS sl own) ds (h.new (.dct [] []))).bind fun _ h2 => .ok (.ref h.nx) h2
theorem fDc_rd {own : List Nat} {fi : FA} {ft : FG} {t : FT} {fk fv : FE} : ∀ σ H Q, rdE P E (fDc own fi ft t fk fv) σ H Q → tDg (rdI P E fi) (rdG P own ft) (rdT P E0 t) (rdE P E0 fk) (rdE P E0 fv) (stD P) own σ H Q := fun σ H Q ⟨g, sl, h, x, o⟩ =>
  ⟨g, sl, h, x, Out.bind o fun ds h1 g1 H1 J l1 s1 wk o1 => fun D hD => by
    obtain ⟨s2, l2, e2⟩ := s1.mk' hD (.dct (P := P) (F := g1.F) (ρ := g1.ρ) .nil)
    refine ⟨fun i m' H' => m' = ds.length - i ∧ i ≤ ds.length ∧ ∃ g' h', G.le (g1.mk' h1.nx D) g' ∧ HS P g' h' H' ∧ Out P g' (rv P) Q E ((dcL ft t fk fv h1.nx (wipeS sl own) (ds.drop i) h').bind fun _ h2 => .ok (.ref h1.nx) h2), ⟨ds.length, by omega, Nat.zero_le _, _, _, .refl _, s2, Out.le (r := (dcL ft t fk fv h1.nx (wipeS sl own) ds (h1.new (.dct [] []))).bind fun _ h2 => R.ok (EV.D.ref h1.nx) h2) o1 l2⟩, ?_⟩
    rintro i m' H' ⟨rfl, hi, g', h', l', s', o'⟩
    have eD : g'.ρ h1.nx = some D := l'.2 _ _ e2
    obtain ⟨go, stop⟩ := wk i g' h' H' (l2.trans l') s'
    cases q : ds[i]? with
    | none =>
      have hl := List.getElem?_eq_none_iff.mp q
      rw [List.drop_eq_nil_of_le hl] at o'
      have o2 : Out P g' (rv P) Q E (.ok (.ref h1.nx) h') := o'
      exact .inl ⟨stop q, o2.now s' (.ref eD)⟩
    | some d =>
      obtain ⟨hlt, e⟩ := List.getElem?_eq_some_iff.mp q
      have hd : ds.drop i = d :: ds.drop (i + 1) := by rw [← e]; exact List.drop_eq_getElem_cons hlt
      rw [hd] at o'
      obtain ⟨jg, jy⟩ := go d q
      refine .inr ⟨jg, fun H2 => ∃ g2 h2, G.le (g1.mk' h1.nx D) g2 ∧ HS P g2 h2 H2 ∧ Out P g2 (rv P) Q E ((dcL ft t fk fv h1.nx (wipeS sl own) (ds.drop (i + 1)) h2).bind fun _ h2 => .ok (.ref h1.nx) h2), fun H2 ⟨g2, h2, l2, s2, o2⟩ => ⟨ds.length - (i + 1), by omega, rfl, hlt, g2, h2, l2, s2, o2⟩, fun v H2 y => ?_⟩
      obtain ⟨g2, l3, s3, r3⟩ := jy v H2 y
      have x3 : SR P g2 (wipeS sl own) h' (L2.wipe σ own) H2 := (x.le ((l1.trans l2).trans (l'.trans l3)) s3).wipe own
      have o3 := Out.le o' l3
      simp only [dcL] at o3
      cases q2 : ft d (wipeS sl own) with
      | none => simp only [q2] at o3; exact o3.elim
      | some sl1 =>
        simp only [q2] at o3
        refine ⟨g2, wipeS sl own, h', d, x3, r3, sl1, q2, fun σ3 x4 hw => ⟨hw.trans wipe_wipe, g2, sl1, h', x4, ?_⟩⟩
        have o4 : Out P g2 (rv P) Q E ((nx (t sl1 h')).bind fun k h => (match k with
          | false => dcL ft t fk fv h1.nx (wipeS sl own) (ds.drop (i + 1)) h
          | true => (nx (fk sl1 h)).bind fun x h => (nx (fv sl1 h)).bind fun y h => match dcPut h1.nx x y h with
            | some h => dcL ft t fk fv h1.nx (wipeS sl own) (ds.drop (i + 1)) h | none => .no).bind fun _ h2 => .ok (.ref h1.nx) h2) := by
          cases q5 : nx (t sl1 h') <;> (rw [q5] at o3; exact o3)
        refine Out.nx (Out.bind o4 fun k h5 g5 H5 b l5 s5 r5 o5 => ?_)
        cases (show k = b from r5)
        have l6 : G.le (g1.mk' h1.nx D) g5 := (l'.trans l3).trans l5
        refine ⟨fun eb => ?_, fun eb => ?_⟩
        · subst eb
          refine ⟨g5, sl1, h5, x4.le l5 s5, ?_⟩
          have o6 : Out P g5 (rv P) Q E ((nx (fk sl1 h5)).bind fun x h => ((nx (fv sl1 h)).bind fun y h => match dcPut h1.nx x y h with
            | some h => dcL ft t fk fv h1.nx (wipeS sl own) (ds.drop (i + 1)) h | none => .no).bind fun _ h2 => .ok (.ref h1.nx) h2) := by
            cases q7 : nx (fk sl1 h5) with
            | ok _ _ => simp only [q7] at o5; exact o5
            | exc _ _ _ => simp only [q7] at o5; exact o5
            | no => simp only [q7] at o5; exact o5
          refine Out.nx (Out.bind o6 fun y h7 g7 H7 yv l7 s7 r7 o7 => ?_)
          refine ⟨g7, sl1, h7, x4.le (l5.trans l7) s7, ?_⟩
          have o8 : Out P g7 (rv P) Q E ((nx (fv sl1 h7)).bind fun z h => (match dcPut h1.nx y z h with
            | some h => dcL ft t fk fv h1.nx (wipeS sl own) (ds.drop (i + 1)) h | none => .no).bind fun _ h2 => .ok (.ref h1.nx) h2) := by
            cases q9 : nx (fv sl1 h7) with
            | ok _ _ => simp only [q9] at o7; exact o7
            | exc _ _ _ => simp only [q9] at o7; exact o7
            | no => simp only [q9] at o7; exact o7
          refine Out.nx (Out.bind o8 fun z h9 g9 H9 zv l9 s9 r9 o9 => ?_)
          cases q8 : dcPut h1.nx y z h9 with
          | none => rw [q8] at o9; exact o9.elim
          | some h10 =>
            rw [q8] at o9
            have q8' := q8
            unfold dcPut at q8'
            cases qc : h9.get h1.nx with
            | none => rw [qc] at q8'; cases q8'
            | some cc =>
              cases cc with
              | dct ks vs =>
                simp only [qc] at q8'
                exact ⟨g9, h9, h1.nx, y, z, h10, s9, ((l6.trans l7).trans l9).2 _ _ e2, rv_le l9 r7, r9, ⟨ks, vs, qc⟩, q8', fun H' sH => ⟨g9, h10, (l6.trans l7).trans l9, sH, o9⟩⟩
              | _ => simp only [qc] at q8'; cases q8'
        · subst eb
          exact ⟨g5, h5, l6, s5, o5⟩⟩
theorem sE_dc {kx vx tg iter : Expr} {ifs : List Expr} {scope : Scope} {own : List (Str × Nat)} {fi : FA} {ft : FG} {t : FT} {fk fv : FE} (rm : Rm P X) (hc : X.calm = true) (hN : X.N.Nodup) (hi : PI X tg iter (rdI P E fi)) (ok : BlkOk X.N X.env.scope scope own)
    (hg : ∀ (s : Shared) (H : Hp) (C : Addr) (cl : List (Str × Addr)) (fp : List Addr), PG (X.blk s H scope (compEnvC scope cl C X.env) fp) tg (rdG P (own.map (·.2)) ft))
    (ht : ∀ (s : Shared) (H : Hp) (C : Addr) (cl : List (Str × Addr)) (fp : List Addr), PTs (X.blk s H scope (compEnvC scope cl C X.env) fp) ifs (rdT P E0 t))
    (hk : ∀ (s : Shared) (H : Hp) (C : Addr) (cl : List (Str × Addr)) (fp : List Addr), PE (X.blk s H scope (compEnvC scope cl C X.env) fp) kx (rdE P E0 fk))
    (hv : ∀ (s : Shared) (H : Hp) (C : Addr) (cl : List (Str × Addr)) (fp : List Addr), PE (X.blk s H scope (compEnvC scope cl C X.env) fp) vx (rdE P E0 fv)) (hs : ∀ x, foldedSetIterable iter X.env x = pure x := by intro _; rfl) :
    PE X (.DictComp kx vx [⟨tg, iter, ifs, 0⟩] scope pos) (rdE P E (fDc (own.map (·.2)) fi ft t fk fv)) := PE.weak (pe_dg hc hN (st_ok rm) hi ok hg ht hk hv hs) fDc_rd
theorem s_setDc {i : Nat} {y : Str} {py spos : Pos} {kx vx tg iter : Expr} {ifs : List Expr} {scope : Scope} {own : List (Str × Nat)} {fi : FA} {ft : FG} {t : FT} {fk fv : FE} (rm : Rm P X) (hc : X.calm = true) (hN : X.N.Nodup) (hy : X.N[i]? = some y) (hyl : X.env.scope.names.lookup y = some .local)
    (hsw : swapsWith (.DictComp kx vx [⟨tg, iter, ifs, 0⟩] scope pos) (some (.Name y py)) spos.line X.env = pure true) (hi : PI X tg iter (rdI P E fi)) (ok : BlkOk X.N X.env.scope scope own)
    (hg : ∀ (s : Shared) (H : Hp) (C : Addr) (cl : List (Str × Addr)) (fp : List Addr), PG (X.blk s H scope (compEnvC scope cl C X.env) fp) tg (rdG P (own.map (·.2)) ft))
    (ht : ∀ (s : Shared) (H : Hp) (C : Addr) (cl : List (Str × Addr)) (fp : List Addr), PTs (X.blk s H scope (compEnvC scope cl C X.env) fp) ifs (rdT P E0 t))
    (hk : ∀ (s : Shared) (H : Hp) (C : Addr) (cl : List (Str × Addr)) (fp : List Addr), PE (X.blk s H scope (compEnvC scope cl C X.env) fp) kx (rdE P E0 fk))
    (hv : ∀ (s : Shared) (H : Hp) (C : Addr) (cl : List (Str × Addr)) (fp : List Addr), PE (X.blk s H scope (compEnvC scope cl C X.env) fp) vx (rdE P E0 fv)) (hs : ∀ x, foldedSetIterable iter X.env x = pure x := by intro _; rfl) :
    PS X (.Assign [.Name y py] (.DictComp kx vx [⟨tg, iter, ifs, 0⟩] scope pos) spos) (rdS P E (sSet i (fDc (own.map (·.2)) fi ft t fk fv))) :=
  PS.weak (ps_setDg hc hN hy hyl hsw (st_ok rm) hi ok hg ht hk hv hs) fun D σ H ⟨g, sl, h, x, o⟩ => fDc_rd σ H _ ⟨g, sl, h, x, OutS.st o fun d h1 g1 H1 v l1 s1 r1 o1 => o1 g1 _ H1 (.refl _) ((x.le l1 s1).set r1)⟩
end
end EV
end S_EwC
section S_EwD
/-! EwD: sorting tuples of ints. -/
namespace EV
open PySem PySem.Spec PyProof.Rows L2 Evl
/-! ### a plain sort -/
section
variable {α β : Type} {lt : α → α → Bool}
def insB (lt : α → α → Bool) (x : α) : List α → List α
  | [] => [x]
  | y :: l => match lt y x with
    | true => y :: insB lt x l | false => x :: y :: l
def srtB (lt : α → α → Bool) : List α → List α
  | [] => [] | x :: l => insB lt x (srtB lt l)
theorem insB_stb (O : SrtO.Swo lt) (x : α) : ∀ l, SrtO.Stb lt (insB lt x l) (x :: l)
  | [] => .refl _
  | y :: l => by
    unfold insB
    cases q : lt y x with
    | false => exact .refl _
    | true =>
      have h1 : SrtO.Stb lt (y :: insB lt x l) (y :: x :: l) := SrtO.Stb.app (a := [y]) (b := [y]) (.refl _) (insB_stb O x l)
      have h2 : SrtO.Stb lt ([y] ++ [x]) ([x] ++ [y]) := SrtO.Stb.swap O fun a ha b hb => by
        rw [List.mem_singleton.mp ha, List.mem_singleton.mp hb]; exact q
      exact h1.trans (SrtO.Stb.app (a := [y, x]) (b := [x, y]) h2 (.refl l))
theorem insB_srt (O : SrtO.Swo lt) (x : α) : ∀ l, SrtO.Srtd lt l → SrtO.Srtd lt (insB lt x l)
  | [], _ => SrtO.srtd_one x
  | y :: l, h => by
    unfold insB
    cases q : lt y x with
    | false => exact List.pairwise_cons.mpr ⟨O.le_all h q, h⟩
    | true =>
      refine List.pairwise_cons.mpr ⟨fun z hz => ?_, insB_srt O x l (List.pairwise_cons.mp h).2⟩
      rcases List.mem_cons.mp ((insB_stb O x l).perm.mem_iff.mp hz) with e | hz
      · rw [e]; exact O.asym _ _ q
      · exact SrtO.srtd_head h z hz
theorem srtB_ok (O : SrtO.Swo lt) : ∀ l, SrtO.Srtd lt (srtB lt l) ∧ SrtO.Stb lt (srtB lt l) l
  | [] => ⟨List.Pairwise.nil, .refl _⟩
  | x :: l => by
    obtain ⟨h1, h2⟩ := srtB_ok O l
    exact ⟨insB_srt O x _ h1, (insB_stb O x _).trans (SrtO.Stb.app (a := [x]) (b := [x]) (.refl _) h2)⟩
theorem srtB_uniq (O : SrtO.Swo lt) {out l : List α} (h1 : SrtO.Srtd lt out) (h2 : SrtO.Stb lt out l) : out = srtB lt l := by
  obtain ⟨k1, k2⟩ := srtB_ok O l
  exact SrtO.stb_uniq O h1 k1 ⟨h2.perm.trans k2.perm.symm, fun x => (h2.cls x).trans (k2.cls x).symm⟩
end
/-! ### in a heap -/
def TupI (h : Heap) (v : Value) (l : List Int) : Prop := ∃ a o xs n, v = .ref a ∧ h.get? a = some o ∧ o.cls = .type "tuple" ∧ o.data = .seq xs n ∧ IntsAre xs.toList l
theorem TupI.keeps {h h' : Heap} {v : Value} {l : List Int} (t : TupI h v l) (k : ∀ b o, h.get? b = some o → o.cls = .type "tuple" → h'.get? b = some o) : TupI h' v l := by
  obtain ⟨a, o, xs, n, e, h1, h2, h3, h4⟩ := t
  exact ⟨a, o, xs, n, e, k a o h1 h2, h2, h3, h4⟩
section
variable {prog : Program} {w :
    World} {A : Around} {s : Shared}
theorem kat_ints {Q : Bool → Shared → Prop} : ∀ {xs ys : List Value} {l m : List Int} {i : Nat} {n k : Nat}, IntsAre xs l → IntsAre ys m → n + m.length = k + l.length → Q (HT.lexLt l m) s → PySem.W.KatLex prog w A true (decide (n < k)) Q (xs.zip ys) i s
  | _, _, _, _, i, n, k, .nil, .nil, e, h => by
    refine PySem.W.kat_nil ?_
    rw [HT.lexLt_nil_nil] at h
    rwa [decide_eq_false (by simp at e; omega)]
  | _, _, _, _, i, n, k, .nil, .cons y u t, e, h => by
    refine PySem.W.kat_nil ?_
    rw [HT.lexLt_nil_cons] at h
    rwa [decide_eq_true (by simp at e; omega)]
  | _, _, _, _, i, n, k, .cons x u t, .nil, e, h => by
    refine PySem.W.kat_nil ?_
    rw [HT.lexLt_cons_nil] at h
    rwa [decide_eq_false (by simp at e; omega)]
  | _, _, _, _, i, n, k, .cons x t tx, .cons y u ty, e, h => by
    rw [HT.lexLt_cons] at h
    refine PySem.W.kat_cons (SeqAt.EqAt.int_int x t y u prog w _ _ ?_)
    refine (PySem.W.kat_go (fun e1 => ?_) (fun e1 => ?_))
    · have ex : x = y := by simpa using e1
      rw [if_pos ex] at h
      exact PySem.W.kat_yes (kat_ints tx ty (by simp at e; omega) h)
    · have ex : ¬ x = y := by simpa using e1
      rw [if_neg ex] at h
      refine PySem.W.kat_no ?_
      cases i with
      | zero => exact oneLt_int h
      | succ j => exact PySem.W.kat_one _ _ (PyProof.Rows.lt_int h)
theorem tup_less {v u : Value} {l m : List Int} {Q : Bool → Shared → Prop} {E : Value → Shared → Prop} (hu : A.units < cLine) (hv : TupI s.heap v l) (hw : TupI s.heap u m) (h : Q (HT.lexLt l m) s) : wpAny (model prog w) A (keyLt' oneType' v u) Q E s := by
  obtain ⟨a, ⟨c1, d1, t1, sl1⟩, xs, n, rfl, ga, rfl, rfl, ia⟩ := hv
  obtain ⟨b, ⟨c2, d2, t2, sl2⟩, ys, k, rfl, gb, rfl, rfl, ib⟩ := hw
  rewrite [keyLt'_oneType]; rw [oneLt'_eq]
  simp only [if_true]
  refine (wpAny_bind (wpAny_cRoomFor hu ?_))
  refine wpAny_bind (wpAny_callSpecialIfBound?_slot (T := "tuple") ⟨_, ga, rfl⟩ PySem.F.slot_tuple_lt (call_meets PySem.F.slot_tuple_lt ⟨_, ga, rfl⟩ PySem.F.entry_tuple_lt (PySem.F.args_tuple_lt_2 _ _) (HT.tuple_lt_ints a b xs ys n k d1 d2 sl1 sl2 l m ia ib) ⟨ga, gb, ?_⟩))
  exact wpAny_truthy_bool h
theorem tup_firsts {h : Heap} : ∀ {vs : List Value} {k : Value → List Int}, (∀ v ∈ vs, TupI h v (k v)) → (∀ v ∈ vs, k v ≠ []) → ∃ fs, PySem.W.KatTups h vs fs ∧ fs.length = vs.length ∧ ∀ f ∈ fs, ∃ x t, f = Value.int x t
  | [], _, _, _ => ⟨[], .nil, rfl, fun f hf => absurd hf (by simp)⟩
  | v :: vs, k, h1, h2 => by
    obtain ⟨fs, f1, f2, f3⟩ := tup_firsts (fun u hu => h1 u (List.mem_cons_of_mem _ hu)) (fun u hu => h2 u (List.mem_cons_of_mem _ hu))
    have hne := h2 v List.mem_cons_self
    obtain ⟨a, o, xs, n, rfl, e1, e2, e3, e4⟩ := h1 v List.mem_cons_self
    cases q : xs.toList with
    | nil => rw [q] at e4; cases q2 : k (.ref a) with
      | nil => exact absurd q2 hne
      | cons _ _ => rw [q2] at e4; cases e4
    | cons y ys =>
      have hf : xs[0]? = some y := by rw [← Array.getElem?_toList, q] <;> rfl
      refine ⟨y :: fs, .cons e1 e2 e3 hf f1, by rw [List.length_cons, List.length_cons, f2], fun f hf => ?_⟩
      rcases List.mem_cons.mp hf with e | hf
      · rw [q] at e4
        subst e
        generalize k (.ref a) = kk at e4
        cases e4 with
        | cons x t _ => exact ⟨x, t, rfl⟩
      · exact f3 f hf
theorem tup_kind0 {E : Value → Shared → Prop} {Q : SortKind → Shared → Prop} {v : Value} {vs : List Value} {k : Value → List Int} (hp : ∀ u ∈ v :: vs, TupI s.heap u (k u)) (h0 : k v = []) (hq : Q oneType' s) : wpAny (model prog w) A (keyKind' (v :: vs).toArray) Q E s := by
  have fst : ∀ (us : List Value) (R : List (Option Value) → Shared → Prop), (∀ u ∈ us, TupI s.heap u (k u)) → (∀ fs : List (Option Value), fs.length = us.length → (∀ u us', us = u :: us' → k u = [] → ∃ fs', fs = none :: fs') → R fs s) → wpAny (model prog w) A (us.mapM firstOfTuple') R E s := by
    intro us
    induction us with
    | nil => intro R _ h; rw [List.mapM_nil]; exact wpAny_pure (h [] rfl (fun _ _ z => by cases z))
    | cons u us ih =>
      intro R hp h
      obtain ⟨a, o, xs, n, e, ho, hc, hd, hi⟩ := hp u List.mem_cons_self
      rw [List.mapM_cons]
      refine wpAny_bind ?_
      rw [e, PySem.W.kas_first_eq]
      refine wpAny_bind (PySem.W.Looks.here (show PySem.W.Looks _ s.heap (typeOf (.ref a)) o.cls from (PySem.W.Looks.ld ho).andThen .now) ?_)
      rewrite [hc]; rw [if_neg (by first | decide | simp)]
      refine (wpAny_bind (listItems_at ho hd (wpAny_pure ?_)))
      refine wpAny_bind (ih _ (fun u hu => hp u (List.mem_cons_of_mem _ hu)) fun fs hl _ => wpAny_pure (h _ (by rw [List.length_cons, List.length_cons, hl]) fun u2 us2 e2 e3 => ?_))
      cases e2
      rw [e3] at hi
      cases q : xs.toList with
      | nil =>
        have : xs = #[] := by rw [← Array.toList_inj]; exact q
        subst this
        exact ⟨fs, rfl⟩
      | cons _ _ => rw [q] at hi; cases hi
  rewrite [keyKind'_eq, List.mapM_toArray]; rw [map_eq_pure_bind]
  refine wpAny_bind (wpAny_bind (fst (v :: vs) _ hp fun fs hl hf => wpAny_pure ?_))
  obtain ⟨fs', rfl⟩ := hf v vs rfl h0
  rewrite [if_neg (by simp)]; rw [if_neg (by simp)]
  have hT : ∀ u ∈ v :: vs, PySem.W.Looks (model prog w) s.heap (typeOf u) (.type "tuple") := fun u hu => by
    obtain ⟨a, o, xs, n, e, ho, hc, hd, hi⟩ := hp u hu
    rw [e, ← hc]
    exact (PySem.W.Looks.ld ho).andThen .now
  rewrite [oneTypeOnly'_eq, List.mapM_toArray]; rw [map_eq_pure_bind]
  refine wpAny_bind (wpAny_bind (wpAny_bind (PySem.W.kas_mapM (r := .type "tuple") _ (fun v hv Q' hq => (hT v hv).here hq) (wpAny_pure ?_))))
  have hall : ((List.map (fun _ => Value.type "tuple") (v :: vs)).toArray.all fun x => x == Value.type "tuple") = true := by
    simp only [List.all_toArray, List.all_map, List.all_eq_true] at ⊢
    intro _ _
    simp
  have h00 : (List.map (fun _ => Value.type "tuple") (v :: vs)).toArray[0]? = some (.type "tuple") := by simp
  rw [h00]
  simp only [hall, if_true]
  exact wpAny_pure (wpAny_pure (by simpa using hq))
/-- none of them is empty, or the first is -/
def kindB (ls : List (List Int)) : Bool := match ls with
  | [] :: _ => true
  | ls => ls.all fun l => match l with
    | [] => false | _ :: _ => true
theorem tup_sortable {a : Addr} {vs : List Value} {k : Value → List Int} (h2 : 2 ≤ vs.length) (hu : A.units < cLine) (hp : ∀ v ∈ vs, TupI s.heap v (k v)) (hk : kindB (vs.map k) = true) (ha : ∀ o, s.heap.get? a = some o → o.cls ≠ .type "tuple") :
    SrtO.SortableO prog w A s a vs fun v u => HT.lexLt (k v) (k u) :=
        by
  intro h' keep
  have hp' : ∀ v ∈ vs, TupI h' v (k v) := fun v hm => (hp v hm).keeps fun b o e c => keep b o (fun z => by subst z; exact ha o e c) e
  by_cases hne : ∀ v ∈ vs, k v ≠ []
  · obtain ⟨fs, f1, f2, f3⟩ := tup_firsts hp' hne
    refine ⟨tuples' true, fun Q E hq => ?_, fun p q m1 m2 => ?_⟩
    · refine PySem.W.kat_kind (s := { s with heap := h' }) (T := .type "int") f1 (by omega) (fun f hm => ?_) (by rfl) ?_
      · obtain ⟨x, t, rfl⟩ := f3 f hm
        exact PySem.W.Looks.now
      · have e : (Value.type "int" != Value.type "tuple") = true := (by first | decide +kernel | rfl | decide)
        rw [e]
        exact hq
    · obtain ⟨a1, o1, xs, n, e1, g1, _, d1, i1⟩ := hp' _ m1
      obtain ⟨a2, o2, ys, m, e2, g2, _, d2, i2⟩ := hp' _ m2
      show wpAny _ _ (keyLt' (tuples' true) p.1 q.1) (fun r s' => s' = { s with heap := h' } ∧ r = HT.lexLt (k p.1) (k q.1)) _ _
      generalize k p.1 = l1 at i1 ⊢
      generalize k q.1 = l2 at i2 ⊢
      rw [e1, e2]
      have n1 := i1.length
      have n2 := i2.length
      exact PySem.W.kat_lt g1 d1 g2 d2 (kat_ints i1 i2 (by rw [Array.length_toList] at n1 n2; omega) ⟨rfl, rfl⟩)
  · refine ⟨oneType', fun Q E hq => ?_, fun p q m1 m2 => tup_less (s := { s with heap := h' }) hu (hp' _ m1) (hp' _ m2) ⟨rfl, rfl⟩⟩
    match vs, hp', hk, hne with
    | [], _, _, hne => exact absurd (fun v hv => absurd hv (by simp)) hne
    | v :: vs, hp', hk, hne =>
      refine tup_kind0 (s := { s with heap := h' }) hp' ?_ hq
      cases q : k v with
      | nil => rfl
      | cons x r =>
        refine absurd (fun u hu e => ?_) hne
        rw [List.map_cons, q] at hk
        have hk' : ((x :: r) :: vs.map k).all (fun l => match l with
          | [] => false | _ :: _ => true) = true := hk
        have := List.all_eq_true.mp hk' (k u) (by
          rcases List.mem_cons.mp hu with e2 | hu
          · rw [e2, q]; exact List.mem_cons_self
          · exact List.mem_cons_of_mem _ (List.mem_map_of_mem hu))
        rw [e] at this
        cases this
end
end EV
end S_EwD
section S_EwE
/-! EwE: sorted(list), sorted(dict): of tuples of ints, of texts. -/
namespace EV
open PySem PySem.Spec PyProof.Rows L2 Evl
theorem codes_lt : ∀ (a b : List Nat), decide (a < b) = HT.lexLt (a.map Int.ofNat) (b.map Int.ofNat)
  | [], [] => by rw [List.map_nil, HT.lexLt_nil_nil]; exact decide_eq_false (by simp)
  | [], b :: bs => by rw [List.map_nil, List.map_cons, HT.lexLt_nil_cons]; exact decide_eq_true (by simp)
  | a :: as, [] => by rw [List.map_nil, List.map_cons, HT.lexLt_cons_nil]; exact decide_eq_false (by simp)
  | a :: as, b :: bs => by
    rw [List.map_cons, List.map_cons, HT.lexLt_cons, ← codes_lt as bs]
    by_cases e : a = b
    · subst e
      rw [if_pos rfl]
      have : (a :: as < a :: bs) ↔ as < bs := by simp [List.cons_lt_cons_iff]
      simp only [this]
    · rw [if_neg (fun z => e (Int.ofNat.inj z))]
      have : (a :: as < b :: bs) ↔ (Int.ofNat a < Int.ofNat b) := by
        rw [List.cons_lt_cons_iff]
        constructor
        · rintro (h | ⟨h, _⟩)
          · exact Int.ofNat_lt.mpr h
          · exact absurd h e
        · intro h; exact .inl (Int.ofNat_lt.mp h)
      simp only [this]
def StrI (v : Value) (l : List Int) : Prop := ∃ x t, v = .str x t ∧ l = x.cps.toList.map Int.ofNat
section
variable {prog : Program} {w :
    World} {A : Around} {s : Shared}
theorem strI_all : ∀ {vs : List Value} {k : Value → List Int}, (∀ v ∈ vs, StrI v (k v)) → ∃ ss, StrsAre vs ss
  | [], _, _ => ⟨[], .nil⟩
  | v :: vs, k, h => by
    obtain ⟨ss, h1⟩ := strI_all fun u hu => h u (List.mem_cons_of_mem _ hu)
    obtain ⟨x, t, rfl, _⟩ := h v List.mem_cons_self
    exact ⟨x :: ss, .cons x t h1⟩
theorem str_sortable {a : Addr} {vs : List Value} {k : Value → List Int} (h2 : 2 ≤ vs.length) (hp : ∀ v ∈ vs, StrI v (k v)) : SrtO.SortableO prog w A s a vs fun v u => HT.lexLt (k v) (k u) := by
  intro h' keep
  refine ⟨oneType', fun Q E hq => ?_, fun p q m1 m2 => ?_⟩
  · obtain ⟨ss, hs⟩ := strI_all hp
    match vs, h2, hs with
    | [], h2, _ => simp at h2
    | [_], h2, _ => simp at h2
    | v :: u :: r, _, hs =>
      rw [keyKind_strs hs]
      exact wpAny_pure hq
  · obtain ⟨x, t, e1, k1⟩ := hp _ m1
    obtain ⟨y, u, e2, k2⟩ := hp _ m2
    show wpAny _ _ (keyLt' oneType' p.1 q.1) (fun r s' => s' = { s with heap := h' } ∧ r = HT.lexLt (k p.1) (k q.1)) _ _
    rw [k1, k2, e1, e2, keyLt'_oneType]
    exact oneLt_str ⟨rfl, codes_lt _ _⟩
end
/-! ### as rules -/
def backW : Value → V
  | .ref a => .ref a
  | .str x _ => .str x
  | _ => .non
/-- what x is sorted by -/
def SkT (K : PySem.W.Frag) (H : Hp) (x : V) (l : List Int) : Prop := ∃ t, x = .ref t ∧ SqT K H t (l.map V.int)
def SkS (x : V) (l : List Int) : Prop := ∃ s : Str, x = .str s ∧ l = s.cps.toList.map Int.ofNat
theorem back_all : ∀ {xs : List V} {us : List Value}, Vals xs us → (∀ x ∈ xs, (∃ a, x = V.ref a) ∨ ∃ s, x = V.str s) → xs = us.map backW ∧ ∀ u ∈ us, (∃ a, u = Value.ref a) ∨ ∃ s t, u = Value.str s t
  | _, _, .nil, _ => (⟨rfl, fun u hu => absurd hu (by simp)⟩)
  | x :: xs, u :: us, .cons r t, h => by
    obtain ⟨h1, h2⟩ := back_all t fun y hy => h y (List.mem_cons_of_mem _ hy)
    rcases h x List.mem_cons_self with ⟨a, e⟩ | ⟨s, e⟩
    · subst e
      obtain rfl : u = Value.ref a := r
      exact ⟨by rw [List.map_cons, ← h1] <;> rfl, fun v hv => (List.mem_cons.mp hv).elim (fun e => .inl ⟨a, e⟩) (h2 v)⟩
    · subst e
      obtain ⟨tk, rfl⟩ := (show ∃ t, u = Value.str s t from r)
      exact ⟨by rw [List.map_cons, ← h1] <;> rfl, fun v hv => (List.mem_cons.mp hv).elim (fun e => .inr ⟨s, tk, e⟩) (h2 v)⟩
theorem vals_backW : ∀ {us : List Value}, (∀ u ∈ us, (∃ a, u = Value.ref a) ∨ ∃ s t, u = Value.str s t) → Vals (us.map backW) us
  | [], _ => .nil
  | u :: us, h => by
    refine .cons ?_ (vals_backW fun y hy => h y (List.mem_cons_of_mem _ hy))
    rcases h u List.mem_cons_self with ⟨a, e⟩ | ⟨s, t, e⟩
    · subst e; exact (rfl : Value.ref a = Value.ref a)
    · subst e; exact ⟨t, rfl⟩
abbrev ltK (k : V → List Int) (x y : V) : Bool := HT.lexLt (k x) (k y)
section
variable {X : Cx} {pins : List (Addr × Obj)} {σ :
    L2.St} {H : Hp} {s : Shared}
theorem ints_vals : ∀ {l : List Int} {us : List Value}, Vals (l.map V.int) us → IntsAre us l
  | [], _, r => by cases r; exact .nil
  | i :: l, _, r => by
    cases r with
    | @cons _ u _ us r t =>
      obtain ⟨tk, rfl⟩ := (show ∃ t, u = Value.int i t from r)
      exact .cons i tk (ints_vals t)
theorem skT_tup (I : Inv X pins σ H s) {t : Addr} {l : List Int} (h : SqT X.K H t (l.map V.int)) : TupI s.heap (.ref t) l := by
  obtain ⟨its, rv, ⟨o, ho, hc, n, hd⟩, _⟩ := I.tuple h
  exact ⟨t, o, its.toArray, n, rfl, ho, hc, hd, by rw [List.toList_toArray]; exact ints_vals rv⟩
/-- the things can be sorted by k -/
def SkAll (K : PySem.W.Frag) (H : Hp) (k : V → List Int) (xs : List V) : Prop := ((∀ x ∈ xs, SkT K H x (k x)) ∧ kindB (xs.map k) = true) ∨ ∀ x ∈ xs, SkS x (k x)
theorem SkAll.shape {K : PySem.W.Frag} {k : V → List Int} {xs : List V} (h : SkAll K H k xs) : ∀ x ∈ xs, (∃ a, x = V.ref a) ∨ ∃ s, x = V.str s := fun x hx => by
  rcases h with ⟨h, _⟩ | h
  · obtain ⟨t, e, _⟩ := h x hx; exact .inl ⟨t, e⟩
  · obtain ⟨t, e, _⟩ := h x hx; exact .inr ⟨t, e⟩
theorem sk_sortable {A : Around} {t0 : Shared} {a : Addr} {k : V → List Int} {xs : List V} {us : List Value} (I : Inv X pins σ H s) (kp : ∀ b o, s.heap.get? b = some o → t0.heap.get? b = some o) (rv : Vals xs us) (h : SkAll X.K H k xs) (h2 : 2 ≤ us.length) (hu : A.units < cLine)
    (ha : ∀ o, t0.heap.get? a = some o → o.cls ≠ .type "tuple") : SrtO.SortableO X.prog X.w A t0 a us fun v u => HT.lexLt (k (backW v)) (k (backW u)) := by
  obtain ⟨e1, e2⟩ := back_all rv h.shape
  rcases h with ⟨h, hk⟩ | h
  · refine tup_sortable (k := fun v => k (backW v)) h2 hu (fun v hv => ?_) (by rw [e1, List.map_map] at hk; exact hk) ha
    have hm : backW v ∈ xs := by rw [e1]; exact List.mem_map_of_mem hv
    obtain ⟨t, et, ht⟩ := h _ hm
    rcases e2 v hv with ⟨b, rfl⟩ | ⟨z, tk, rfl⟩
    · cases et
      exact (skT_tup I ht).keeps fun b o e _ => kp b o e
    · cases et
  · refine str_sortable (k := fun v => k (backW v)) h2 fun v hv => ?_
    have hm : backW v ∈ xs := by rw [e1]; exact List.mem_map_of_mem hv
    obtain ⟨z, ez, hz⟩ := h _ hm
    rcases e2 v hv with ⟨b, rfl⟩ | ⟨y, tk, rfl⟩
    · cases ez
    · cases ez
      exact ⟨_, tk, rfl, hz⟩
theorem sk_out {k : V → List Int} {xs : List V} {us out : List Value} (rv : Vals xs us) (hsh : ∀ x ∈ xs, (∃ a, x = V.ref a) ∨ ∃ s, x = V.str s) (h1 : SrtO.Srtd (fun v u => HT.lexLt (k (backW v)) (k (backW u))) out) (h2 : SrtO.Stb (fun v u => HT.lexLt (k (backW v)) (k (backW u))) out us) :
    Vals (srtB (ltK k) xs) out := by
  obtain ⟨e1, e2⟩ := back_all rv hsh
  have O : SrtO.Swo (ltK k) := NtL.swo_lexL k
  have hb : SrtO.Stb (ltK k) (out.map backW) xs := by rw [e1]; exact SrtO.Stb.map O backW h2
  have hs : SrtO.Srtd (ltK k) (out.map backW) := SrtO.srtd_map h1
  rw [← srtB_uniq O hs hb]
  exact vals_backW fun u hu => e2 u (h2.perm.mem_iff.mp hu)
theorem insB_len {α : Type} {lt : α → α → Bool} (x : α) : ∀ l : List α, (insB lt x l).length = l.length + 1
  | [] => rfl
  | y :: l => by
    unfold insB
    cases lt y x with
    | false => rfl
    | true => show (insB lt x l).length + 1 = _; rw [insB_len x l, List.length_cons]
theorem srtB_len {α : Type} {lt : α → α → Bool} : ∀ l : List α, (srtB lt l).length = l.length
  | [] => rfl
  | x :: l => by rw [srtB, insB_len, srtB_len l, List.length_cons]
theorem call_sk (hc : X.calm = true) (hu : X.A.units + 2 < cLine) : CallR X (.builtin "sorted") (fun xs H Q => ∃ (a : Addr) (ys : List V) (k : V → List Int), xs = [.ref a] ∧ (SqL X.K H a ys ∨ ∃ o ps u, ys = ps.map (·.1) ∧ ps.length ≤ sizeLine ∧ H a = some u ∧ FixD a o ps u) ∧ SkAll X.K H k ys ∧
    ∀ p, H p = none → Q (.ref p) (upd H p (.lst (srtB (ltK k) ys)))) := by
  intro pins s σ H
      xs us Q I r q
  obtain ⟨a, ys, k, ex, src, sk, q⟩ := q
  subst ex
  obtain ⟨u, eu, rx⟩ := vals1 r
  subst eu
  obtain rfl : u = .ref a := rx
  have O : SrtO.Swo fun v u : Value => HT.lexLt (k (backW v)) (k (backW u)) := NtL.swo_lexL fun v => k (backW v)
  have room : X.A.in1.in1.units < cLine := by show X.A.units + 1 + 1 < cLine; omega
  have notT : ∀ {vs : List Value} {n : Nat} {o : Obj}, some o = some (seqObj "list" vs.toArray n) → o.cls ≠ .type "tuple" := fun e => by
    cases e
    intro c
    exact (absurd (Value.type.inj c) (by decide))
  rcases src with hs | ⟨o, ps, ho, ey, hz, hH, fx⟩
  · obtain ⟨its, rv, hl, hz⟩ := I.list hs
    refine SrtO.sorted_ord O hl.isList (by rw [← rv.length]; exact hz) (fun h2 h₁ b hb kk => sk_sortable I (fun b o e => (kk b o e).2) rv sk h2 room fun o e => notT (e.symm.trans hb)) fun out h1 h2 => ?_
    obtain ⟨n, hn⟩ := sortedAll_at s.heap its out.toArray
    exact ⟨.ref (s.heap.objs.size + 1), upd H (s.heap.objs.size + 1) (.lst (srtB (ltK k) ys)), I.laid (t' := s.toks) (fun b o e => sortedAll_old e) (Nat.le_succ _) ⟨by rw [srtB_len]; exact hz, out, n, sk_out rv sk.shape h1 h2, hn⟩, rfl, q _ (I.hok.fresh (Nat.le_succ _))⟩
  · subst ey
    obtain ⟨_, _, _, es, ep, hod, _⟩ := fx _ _ _ _ (I.hok a ho hH)
    obtain ⟨hsm, hm, hl, at_⟩ := fix_at hod fx I hH
    have src : PySem.W.KdlSrc X.prog X.w "dict" a a es.size (fun i v => ∃ hi : i < es.size, v = es[i].key) (fun h => h.DictRaw a es ep) := {
      type := fun _ hm => hm.typeIs
      there := fun h hm => let ⟨o, e, _⟩ := hm; ⟨Heap.lt_size e, Heap.lt_size e⟩
      keep := fun _ _ hm hk => hm.at fun o e => hk a (.inl rfl) o e
      notList := by decide
      notTuple := by decide
      hint := fun A E s Q hm hq => PySem.W.kdl_hint_dict hm.typeIs hq
      iter := fun A s hh hm => ⟨_, _, (fun _ _ hq => wpAny_pyIter_dict_raw hsm hm hq), Walks.rawKeys hh _ a (Nat.ne_of_lt (let ⟨o, e, _⟩ := hm; Heap.lt_size e)) es ep, ⟨⟨_, Heap.get?_push_size _ rfl, rfl, rfl⟩, hm.at fun o e => Heap.get?_push_of_some _ e⟩⟩ }
    refine (Calls.call_function_entry PyProof.Rows.kind_sorted PyProof.Rows.plain_sorted PyProof.Rows.entry_sorted (PyProof.Rows.args_sorted1 _) ?_)
    unfold Builtin.«sorted»
    refine (wpAny_bind (m := checkCount "sorted" 1 1 _) (wpAny_pure ?_))
    refine wpAny_bind (PySem.W.kdu_collect (A := X.A.in1) src (I.ok.hd hc) hm (by rw [← hl]; exact hz) fun h' tk acc hk hacc => ?_)
    have rv : Vals (ps.map (·.1)) acc.toList := by
      have hsz : acc.toList.length = ps.length := by rw [Array.length_toList, hacc.1, hl]
      have : ∀ (us : List Value) (qs : List (V × V)), us.length = qs.length → (∀ (j : Nat) (v : Value), us[j]? = some v → ∃ p, qs[j]? = some p ∧ RelV p.1 v) → Vals (qs.map (·.1)) us := by
        intro us
        induction us with
        | nil => intro qs hl _; cases qs with
          | nil => exact .nil
          | cons _ _ => simp at hl
        | cons u us ih =>
          intro qs hl h
          cases qs with
          | nil => simp at hl
          | cons q0 qs =>
            obtain ⟨p, e1, e2⟩ := h 0 u rfl
            cases e1
            exact .cons e2 (ih qs (by simpa using hl) fun j v e => by
              obtain ⟨p, a1, a2⟩ := h (j + 1) v (by simpa using e)
              exact ⟨p, by simpa using a1, a2⟩)
      refine this _ _ hsz fun j v e => ?_
      obtain ⟨hi, ev⟩ := hacc.2 j v (by rw [← Array.getElem?_toList]; exact e)
      obtain ⟨p, e1, r1, _⟩ := at_ j hi
      exact ⟨p, e1, by rw [ev]; exact r1⟩
    have hal : acc.toList.length = ps.length := by rw [Array.length_toList, hacc.1, hl]
    have I1 : Inv X pins σ H { s with heap := h', toks := tk } := (I.kept hk)
    refine wpAny_bind (wpAny_newList ?_ (by rw [hal]; exact hz))
    have hoL : (h'.push (seqObj "list" acc.toList.toArray 0)).get? h'.objs.size = some (seqObj "list" acc.toList.toArray 0) := (Heap.get?_push_size _ rfl)
    show (wpAny _ _ _ _ _ { s with heap := h'.push (seqObj "list" acc.toList.toArray 0), toks := tk })
    refine wpAny_bind (wpAny_holding (wpAny_call_entry PyProof.Rows.slot_list_sort ⟨_,
        hoL, rfl⟩ PyProof.Rows.entry_list_sort
      (SrtO.list_sort_ord (s := { s with heap := h'.push (seqObj "list" acc.toList.toArray 0), toks := tk }) O hoL (by rw [hal]; exact hz) (fun h2 => sk_sortable I1 (fun b o e => Heap.get?_push_of_some _ e) rv sk h2 room fun o e => notT (e.symm.trans hoL)) fun out h1 h2 => ⟨_, rfl, ?_⟩) (PyProof.Rows.args_list_sort _)))
    obtain ⟨e', he'⟩ := PyProof.Rows.sortedHeap_at (vs := acc.toList) (out := out.toArray) hoL
    refine wpAny_pure ⟨_, rfl, .ref h'.objs.size, upd H h'.objs.size (.lst (srtB (ltK k) (ps.map (·.1)))), I1.laid (t' := tk) (fun b u e => ?_) (Nat.le_refl _)
      (show ObjOk X.prog X.w _ _ _ (.lst _) from ⟨by rw [srtB_len, List.length_map]; exact hz, out, e', sk_out rv sk.shape h1 h2, he'⟩), rfl, q _ (I1.hok.fresh (Nat.le_refl _))⟩
    have hb : b < h'.objs.size := (Heap.lt_size e)
    rw [PyProof.Rows.sortedHeap_old (Nat.ne_of_lt hb)
        (by rw [size_push']; exact Nat.lt_succ_of_lt hb)]
    exact (Heap.get?_push_of_some _ e)
end
/-! ### on data -/
/-- a datum's key: a tuple of ints (true), a text (false) -/
def intsD : List D → Option (List Int)
  | [] => some []
  | .int i :: r => (intsD r).map fun l => i :: l
  | _ => none
def skD (b : Bool) : D → Option (List Int)
  | .tup xs => match b with
    | true => intsD xs | false => none
  | .str s => match b with
    | true => none | false => some (s.map Int.ofNat)
  | _ => none
def skO (b : Bool) (d : D) : List Int := match skD b d with
  | some l => l | none => []
def skAllD (b : Bool) (ds : List D) : Bool := match ds.all fun d => (skD b d).isSome with
  | true => (match b with
    | true => kindB (ds.map (skO b)) | false => true)
  | false => false
def skKind (ds : List D) : Option Bool := match skAllD true ds with
  | true => some true | false => (match skAllD false ds with
    | true => some false | false => none)
def gSrtL (ds : List D) (h : Hc) : R D := R.opt (skKind ds) fun b => short ds (.ok (.lst (srtB (fun x y => HT.lexLt (skO b x) (skO b y)) ds)) h)
def gSorted : FF := fun ds h => match ds with
  | [.dct ks vs] => gSrtL ks h
  | [d] => R.opt (asL h d) fun xs => gSrtL xs h
  | _ => .no
section
variable {P : Pm} {E : XK} {X : Cx} {F : Hp} {ρ : Nat → Option Addr}
theorem intsD_ok : ∀ {xs : List D} {vs : List V} {l : List Int}, RVs P F ρ xs vs → intsD xs = some l → vs = l.map V.int
  | [], _, _, .nil, e => by cases e; rfl
  | x :: xs, _, l, .cons r t, e => by
    cases x with
    | int i =>
      obtain ⟨l', e1, e2⟩ := Option.map_eq_some_iff.mp (show (intsD xs).map (fun l => i :: l) = some l from e)
      subst e2
      cases r
      rw [intsD_ok t e1, List.map_cons]
    | _ => cases e
def SkR (P : Pm) (F : Hp) (b : Bool) (x : V) (l : List Int) : Prop := match b with
  | true => ∃ t, x = .ref t ∧ SqT P.K F t (l.map V.int) | false => SkS x l
theorem skD_ok {b : Bool} {d : D} {x : V} {l : List Int} (r : RV P F ρ d x) (e : skD b d = some l) : SkR P F b x l := by
  cases r with
  | @tup a vs xs h1 h2 =>
    cases b with
    | false => cases e
    | true =>
      have e' : intsD xs = some l := e
      exact ⟨a, rfl, by rw [← intsD_ok h2 e']; exact h1⟩
  | str s =>
    cases b with
    | true => cases e
    | false =>
      cases e
      exact ⟨toStr s, rfl, by rw [show (toStr s).cps.toList = s from by simp [toStr]]⟩
  | _ => cases e
theorem insB_rel {lt : D → D → Bool} {lt' : V → V → Bool} {d : D} {x : V} (hd : RV P F ρ d x) : ∀ {ds : List D} {vs : List V}, RVs P F ρ ds vs → (∀ e y, e ∈ ds → RV P F ρ e y → y ∈ vs → lt e d = lt' y x) → RVs P F ρ (insB lt d ds) (insB lt' x vs)
  | _, _, .nil, _ => .cons hd .nil
  | e :: ds, y :: vs, .cons r t, h => by
    unfold insB
    rw [h e y List.mem_cons_self r List.mem_cons_self]
    cases lt' y x with
    | false => exact .cons hd (.cons r t)
    | true => exact .cons r (insB_rel hd t fun e2 y2 m r2 m2 => h e2 y2 (List.mem_cons_of_mem _ m) r2 (List.mem_cons_of_mem _ m2))
theorem srtB_rel {lt : D → D → Bool} {lt' : V → V → Bool} : ∀ {ds : List D} {vs : List V}, RVs P F ρ ds vs → (∀ d e x y, RV P F ρ d x → RV P F ρ e y → d ∈ ds → e ∈ ds → x ∈ vs → y ∈ vs → lt e d = lt' y x) → RVs P F ρ (srtB lt ds) (srtB lt' vs)
  | _, _, .nil, _ => .nil
  | d :: ds, x :: vs, .cons r t, h => by
    have ih := srtB_rel t fun d2 e2 x2 y2 a b c d' e' f' => h d2 e2 x2 y2 a b (List.mem_cons_of_mem _ c) (List.mem_cons_of_mem _ d') (List.mem_cons_of_mem _ e') (List.mem_cons_of_mem _ f')
    have mem : ∀ {α : Type} {lt : α → α → Bool} {l : List α} {z : α}, z ∈ srtB lt l → z ∈ l := by
      intro α lt l z
      have ins : ∀ (w : α) (l : List α), z ∈ insB lt w l → z = w ∨ z ∈ l := by
        intro w l
        induction l with
        | nil => intro h; exact .inl (List.mem_singleton.mp h)
        | cons y l ih =>
          unfold insB
          cases lt y w with
          | false => intro h; exact List.mem_cons.mp h
          | true =>
            intro h
            rcases List.mem_cons.mp h with h | h
            · exact .inr (by rw [h]; exact List.mem_cons_self)
            · exact (ih h).imp id (List.mem_cons_of_mem _)
      induction l with
      | nil => intro h; exact h
      | cons y l ih =>
        intro h
        rcases ins y _ h with h | h
        · rw [h];
              exact List.mem_cons_self
        · exact List.mem_cons_of_mem _ (ih h)
    exact insB_rel r ih fun e y m r2 m2 => h d e x y r r2 List.mem_cons_self (List.mem_cons_of_mem _ (mem m)) List.mem_cons_self (List.mem_cons_of_mem _ (mem m2))
/-- the key of a value, whatever it is -/
noncomputable def keyV (P : Pm) (F : Hp) (b : Bool) (x : V) : List Int := open Classical in if q : ∃ l, SkR P F b x l then q.choose else []
theorem map_int_inj : ∀ {l m : List Int}, l.map V.int = m.map V.int → l = m
  | [], [], _ => rfl
  | [], _ :: _, h => by cases h
  | _ :: _, [], h => by cases h
  | a :: l, b :: m, h => by
    injection h with h1 h2
    injection h1 with h1
    rw [h1, map_int_inj h2]
theorem keyV_eq {b : Bool} {x : V} {l : List Int} (u : ∀ m, SkR P F b x m → m = l) (h : SkR P F b x l) : keyV P F b x = l := by
  have q : ∃ l, SkR P F b x l := ⟨l, h⟩
  have e : keyV P F b x = q.choose := by
    show (open Classical in if q : ∃ l, SkR P F b x l then q.choose else []) = _
    rw [dif_pos q]
  rw [e]
  exact u _ q.choose_spec
theorem cSorted (hc : X.calm = true) (rm : Rm P X) : ClS P E X (.builtin "sorted") gSorted := by
  intro pins s σ H vs us Q I r ⟨g, h, ds, hs, rr, o⟩
  have uniq : ∀ {b : Bool} {x : V} {l m : List Int}, SkR P g.F b x l → SkR P g.F b x m → m = l := by
    intro b x l m h1 h2
    cases b with
    | true =>
      obtain ⟨t, e1, q1⟩ := h1
      obtain ⟨t2, e2, q2⟩ := h2
      rw [e1] at e2; cases e2
      have q1' : SqT X.K H t (l.map V.int) := by rw [rm.K]; exact ex_t hs.fr q1
      have q2' : SqT X.K H t (m.map V.int) := by rw [rm.K]; exact ex_t hs.fr q2
      exact map_int_inj (I.tuple_inj q2' q1')
    | false =>
      obtain ⟨t, e1, q1⟩ := h1
      obtain ⟨t2, e2, q2⟩ := h2
      rw [e1] at e2; cases e2
      rw [q1, q2]
  have core : ∀ {a : Addr} {xs : List D} {ys : List V}, RVs P g.F g.ρ xs ys → vs = [.ref a] → (SqL X.K H a ys ∨ ∃ o ps u, ys = ps.map (·.1) ∧ ps.length ≤ sizeLine ∧ H a = some u ∧ FixD a o ps u) → Out P g (rv P) Q E (gSrtL xs h) → wpAny (model X.prog X.w) X.A (call (.builtin "sorted") us) (EP X pins σ Q) X.xe s := by
    intro a xs ys ry ev src o
    obtain ⟨b, e1, o⟩ := Out.opt o
    obtain ⟨z, o⟩ := short_ok o
    have ok : ∀ d ∈ xs, ∃ l, skD b d = some l := by
      have hall : skAllD b xs = true := by
        unfold skKind at e1
        cases q1 : skAllD true xs with
        | true => rw [q1] at e1; cases e1; exact q1
        | false =>
          rw [q1] at e1
          cases q2 : skAllD false xs with
          | true => rw [q2] at e1; cases e1; exact q2
          | false => rw [q2] at e1; cases e1
      unfold skAllD at hall
      cases q : xs.all fun d => (skD b d).isSome with
      | false => rw [q] at hall; cases hall
      | true => exact fun d hd => Option.isSome_iff_exists.mp (List.all_eq_true.mp q d hd)
    have hkind : b = true → kindB (xs.map (skO b)) = true := by
      intro eb
      subst eb
      have hall : skAllD true xs = true := by
        unfold skKind at e1
        cases q1 : skAllD true xs with
        | true => rfl
        | false =>
          rw [q1] at e1
          cases q2 : skAllD false xs with
          | true => rw [q2] at e1; cases e1
          | false => rw [q2] at e1; cases e1
      unfold skAllD at hall
      cases q : xs.all fun d => (skD true d).isSome with
      | false => rw [q] at hall; cases hall
      | true => rw [q] at hall; exact hall
    have key : ∀ {d : D} {x : V}, d ∈ xs → RV P g.F g.ρ d x → SkR P g.F b x (skO b d) ∧ keyV P g.F b x = skO b d := by
      intro d x hd rd
      obtain ⟨l, el⟩ := ok d hd
      have e : skO b d = l := by unfold skO; rw [el]
      have := skD_ok rd el
      rw [e]
      exact ⟨this, keyV_eq (fun m hm => uniq this hm) this⟩
    have pair : ∀ {xs' : List D} {ys' : List V}, RVs P g.F g.ρ xs' ys' → (∀ d ∈ xs', d ∈ xs) → (∀ y ∈ ys', ∃ d, d ∈ xs ∧ RV P g.F g.ρ d y) ∧ ys'.map (keyV P g.F b) = xs'.map (skO b) := by
      intro xs' ys' rr
      induction xs' generalizing ys' with
      | nil => intro _; cases rr; exact ⟨fun y hy => absurd hy (by simp), rfl⟩
      | cons d xs' ih =>
        intro hm
        cases rr with
        | cons r1 t =>
          obtain ⟨i1, i2⟩ := ih t fun d hd => hm d (List.mem_cons_of_mem _ hd)
          exact ⟨fun y hy => (List.mem_cons.mp hy).elim (fun e => ⟨d, hm d List.mem_cons_self, by rw [e]; exact r1⟩) (i1 y), by rw [List.map_cons, List.map_cons, i2, (key (hm d List.mem_cons_self) r1).2]⟩
    obtain ⟨p1, p2⟩ := pair ry fun d hd => hd
    have sk : SkAll X.K H (keyV P g.F b) ys := by
      cases b with
      | true =>
        refine .inl ⟨fun y hy => ?_, by rw [p2]; exact hkind rfl⟩
        obtain ⟨d, hd, rd⟩ := p1 y hy
        obtain ⟨⟨t, e, q⟩, ek⟩ := key hd rd
        exact ⟨t, e, by rw [ek, rm.K]; exact ex_t hs.fr q⟩
      | false =>
        refine .inr fun y hy => ?_
        obtain ⟨d, hd, rd⟩ := p1 y hy
        obtain ⟨q, ek⟩ := key hd rd
        rw [ek]; exact q
    have hu := rm.u
    refine call_sk hc (by omega) pins s σ H vs us Q I r ⟨a, ys, keyV P g.F b, ev, src, sk, fun p hp => ?_⟩
    have rel : RVs P g.F g.ρ (srtB (fun x y => HT.lexLt (skO b x) (skO b y)) xs) (srtB (ltK (keyV P g.F b)) ys) := srtB_rel ry fun d e x y rd re md me _ _ => by
      show HT.lexLt (skO b e) (skO b d) = HT.lexLt (keyV P g.F b y) (keyV P g.F b x)
      rw [(key md rd).2, (key me re).2]
    exact new_lst hs rel hp o
  match ds, rr, o with
  | [d], rr, o =>
    obtain ⟨v, ev, r1⟩ := rr.one
    have lst : Out P g (rv P) Q E (R.opt (asL h d) fun xs => gSrtL xs h) → wpAny (model X.prog X.w) X.A (call (.builtin "sorted") us) (EP X pins σ Q) X.xe s := fun o => by
      obtain ⟨xs, e1, o⟩ := Out.opt o
      obtain ⟨a, ws, ea, hq, rw'⟩ := asL_ok hs r1 e1
      exact core rw' (by rw [ev, ea]) (.inl (by rw [rm.K]; exact hq)) o
    cases d with
    | dct ks es =>
      obtain ⟨a, ob, ps, u, ex, hu, fx, pd⟩ := fixD_of r1
      have hk : ∀ {ks ds : List D} {ps : List (V × V)}, PsD P g.F g.ρ ks ds ps → RVs P g.F g.ρ ks (ps.map (·.1)) := by
        intro ks ds ps h
        induction h with
        | nil => exact .nil
        | cons a _ _ ih => exact .cons a ih
      have o' : Out P g (rv P) Q E (gSrtL ks h) := o
      have z : ps.length ≤ sizeLine := by
        obtain ⟨b, e1, o2⟩ := Out.opt o'
        obtain ⟨z, _⟩ := short_ok o2
        rw [← pd.len.1]; exact z
      exact core (hk pd) (by rw [ev, ex]) (.inr ⟨ob, ps, u, rfl, z, hs.fr _ _ hu, fx⟩) o'
    | _ => exact lst o
  | [], _, o => exact o.elim
  | a :: b :: _, _, o => cases a <;> exact o.elim
end
end EV
end S_EwE
section S_EwF
/-! EwF: stores to several targets, <= of tuples, comprehensions with two clauses. -/
namespace EV
open PySem PySem.Spec PyProof.Rows L2 Evl
section
variable {P : Pm} {E : XK} {X : Cx} {e o o' : Expr} {f : FE} {fs : FA} {p pos : Pos} {vs : List Nat}
def sAsg (ft : FG) (f : FE) : FS := fun sl h => (f sl h).st fun d h => match ft d sl with
  | some sl' => .nx sl' h | none => .no
theorem s_asg {tg : Expr} {ft : FG} (he : PE X e (rdE P E f)) (hg : PG X tg (rdG P vs ft)) (hs : swapsWithSole [tg] e pos.line X.env = pure false := by rfl) (hw : swappedStores [tg] e X.env = pure none := by rfl) (h1 : (assignEach [tg] X.env).map (·.2) = [assign tg X.env] := by rfl) :
    PS X (.Assign [tg] e pos) (rdS P E (sAsg ft f)) :=
  PS.weak (ps_asg he hg hs hw h1) fun D σ H ⟨g, sl, h, x, o⟩ => ⟨g, sl, h, x, OutS.st o fun d h1 g1 H1 v l1 s1 r1 o1 => by
    cases q : ft d sl with
    | none => rw [q] at o1; exact o1.elim
    | some sl' =>
      rw [q] at o1
      exact ⟨g1, sl, h1, d, x.le l1 s1, r1, sl', q, fun σ' x' _ => o1 g1 σ' H1 (.refl _) x'⟩⟩
def sPar (i j : Nat) (fs : FA) : FS := fun sl h => (fs sl h).st fun ds h => match ds with
  | [a, b] => .nx ((sl.set i (some a)).set j (some b)) h | _ => .no
theorem s_par {i j : Nat} {x y : Str} {a b : Expr} {px py pt : Pos} {kt k2 pt2} (hc : X.calm = true) (hN : X.N.Nodup) (hi : X.N[i]? = some x) (hj : X.N[j]? = some y) (hij : i ≠ j)
    (hx : X.env.scope.names.lookup x = some .local) (hy : X.env.scope.names.lookup y = some .local) (ha : PA X [a, b] (rdA P E fs))
    (hw :
        swappedStores [.Tuple [.Name x px, .Name y py] kt pt] (.Tuple [a, b] k2 pt2) X.env = pure (some [x, y]))
    (hs : swapsWithSole [.Tuple [.Name x px, .Name y py] kt pt] (.Tuple [a, b] k2 pt2) pos.line X.env = pure false :=
        by rfl) :
    PS X (.Assign [.Tuple [.Name x px, .Name y py] kt pt] (.Tuple [a, b] k2 pt2) pos) (rdS P E (sPar i j fs)) :=
  PS.weak (ps_par hc hN hi hj hij hx hy ha hw hs) fun D σ H ⟨g, sl, h, x, o⟩ => ⟨g, sl, h, x, OutS.st o fun ds h1 g1 H1 ws l1 s1 r1 o1 => by
    match ds, r1, o1 with
    | [d, e], .cons r (.cons r2 .nil), o1 => exact ⟨_, _, rfl, o1 g1 _ H1 (.refl _) (((x.le l1 s1).set r).set r2)⟩
    | [], _, o1 => exact o1.elim
    | [_], _, o1 => exact o1.elim
    | _ :: _ :: _ :: _, _, o1 => exact o1.elim⟩
def sPar3 (i j l : Nat) (fs : FA) : FS := fun sl h => (fs sl h).st fun ds h => match ds with
  | [a, b, c] => .nx (((sl.set i (some a)).set j (some b)).set l (some c)) h | _ => .no
theorem s_par3 {i j l : Nat} {x y z : Str} {a b c : Expr} {px py pz pt : Pos} {kt k2 pt2} (hc : X.calm = true) (hN : X.N.Nodup) (hi : X.N[i]? = some x) (hj : X.N[j]? = some y) (hl : X.N[l]? = some z) (hij : i ≠ j) (hil : i ≠ l) (hjl : j ≠ l)
    (hx : X.env.scope.names.lookup x = some .local) (hy : X.env.scope.names.lookup y = some .local) (hz : X.env.scope.names.lookup z = some .local) (ha : PA X [a, b, c] (rdA P E fs))
    (hw :
        swappedStores [.Tuple [.Name x px, .Name y py, .Name z pz] kt pt] (.Tuple [a, b, c] k2 pt2) X.env = pure (some [x, y, z]))
    (hs : swapsWithSole [.Tuple [.Name x px, .Name y py, .Name z pz] kt pt] (.Tuple [a, b, c] k2 pt2) pos.line X.env = pure false :=
        by rfl) :
    PS X (.Assign [.Tuple [.Name x px, .Name y py, .Name z pz] kt pt] (.Tuple [a, b, c] k2 pt2) pos) (rdS P E (sPar3 i j l fs)) :=
  PS.weak (ps_par3 hc hN hi hj hl hij hil hjl hx hy hz ha hw hs) fun D σ H ⟨g, sl, h, x, o⟩ => ⟨g, sl, h, x, OutS.st o fun ds h1 g1 H1 ws l1 s1 r1 o1 => by
    match ds, r1, o1 with
    | [d, e, k], .cons r (.cons r2 (.cons r3 .nil)), o1 => exact ⟨_, _, _, rfl, o1 g1 _ H1 (.refl _) ((((x.le l1 s1).set r).set r2).set r3)⟩
    | [], _, o1 => exact o1.elim
    | [_], _, o1 => exact o1.elim
    | [_, _], _, o1 => exact o1.elim
    | _ :: _ :: _ :: _ :: _, _, o1 => exact o1.elim⟩
/-- o.n, o'.n' = e, e' -/
theorem s_fld2 {c j j' : Nat} {n n' : Str} {a b : Expr} {fo fo' fa fb : FE} {p1 p2 pt pt2 : Pos} {kt k2} (hc : X.calm = true) (hK : X.K = P.K) (cl : Cls X.K (P.CA c)) (na : NoAttr X.K (P.CA c) n) (hn : P.fn j = n) (hj : Own P j) (na' : NoAttr X.K (P.CA c) n') (hn' : P.fn j' = n') (hj' : Own P j')
    (ho : PE X o (rdE P E fo)) (ho' : PE X o' (rdE P E fo')) (ha : PE X a (rdE P E fa)) (hb : PE X b (rdE P E fb))
    (hs : swapsWithSole [.Tuple [.Attribute o n p1, .Attribute o' n' p2] kt pt] (.Tuple [a, b] k2 pt2) pos.line X.env = pure false := by rfl)
    (hw : swappedStores [.Tuple [.Attribute o n p1, .Attribute o' n' p2] kt pt] (.Tuple [a, b] k2 pt2) X.env = pure none := by rfl)
    (h1 : (assignEach [.Tuple [.Attribute o n p1, .Attribute o' n' p2] kt pt] X.env).map (·.2) = [assign (.Tuple [.Attribute o n p1, .Attribute o' n' p2] kt pt) X.env] := by rfl)
    (hm : (assignEach [.Attribute o n p1, .Attribute o' n' p2] X.env).length = 2 := by rfl) (hst : (assignEach [.Attribute o n p1, .Attribute o' n' p2] X.env).findIdx? (·.1) = none := by rfl)
    (q1 : (assignEach [.Attribute o n p1, .Attribute o' n' p2] X.env).map (·.2) = assign (.Attribute o n p1) X.env :: (assignEach [.Attribute o' n' p2] X.env).map (·.2) := by rfl)
    (q2 : (assignEach [.Attribute o' n' p2] X.env).map (·.2) = assign (.Attribute o' n' p2) X.env :: (assignEach [] X.env).map (·.2) := by rfl)
    (z1 : starEach [a, b] X.env = (false, eval a X.env) :: starEach [b] X.env := by rfl) (z2 : starEach [b] X.env = (false, eval b X.env) :: starEach [] X.env := by rfl) :
    PS X (.Assign [.Tuple [.Attribute o n p1, .Attribute o' n' p2] kt pt] (.Tuple [a, b] k2 pt2) pos) (rdS P E (sFd2 c j j' fo fo' fa fb)) :=
  PS.weak (ps_asg (pe_tup (pa_cons ha (pa_cons hb pa_nil z2) z1)) (pg_tup hc (pgs_cons (fld_target hK cl na hn hj ho) (pgs_cons (fld_target hK cl na' hn' hj' ho') pgs_nil q2) q1) hm hst) hs hw h1) fun D σ H ⟨g, sl, h, x, o⟩ => by
    refine ⟨g, sl, h, x, OutS.st o fun d1 h1 g1 H1 v1 l1 s1 r1 o1 => ⟨g1, sl, h1, x.le l1 s1, OutS.st o1 fun d2 h2 g2 H2 v2 l2 s2 r2 o2 => ?_⟩⟩
    refine ⟨by show 2 ≤ sizeLine; decide, fun T hT => ?_⟩
    have lz := G.fz_le (o := HO.tup [v1, v2]) (exNone s2.fr hT)
    have s3 : HS P (g2.fz T (.tup [v1, v2])) h2 (upd H2 T (.tup [v1, v2])) := s2.fz hT
    have x3 : SR P (g2.fz T (.tup [v1, v2])) sl h2 σ (upd H2 T (.tup [v1, v2])) := x.le ((l1.trans l2).trans lz) s3
    refine ⟨T, [v1, v2], rfl, SqT.of (show upd H2 T (.tup [v1, v2]) T = _ from upd_same), rfl, v1, [v2], rfl, _, sl, h2, d1, x3, rv_le (l2.trans lz) r1, ?_⟩
    have o3 := OutS.le o2 lz
    cases q : fo sl h2 with
    | no => rw [q] at o3; exact o3.elim
    | exc c' p' h' => rw [q] at o3; exact o3
    | ok d h' =>
      rw [q] at o3
      show OutS P _ _ E (match setF c j d d1 h' with
        | some h' => .nx sl h' | none => .no)
      have o4 : OutS P (g2.fz T (.tup [v1, v2])) D E (match setF c j d d1 h' with
        | some h => (fo' sl h).st fun d' h => match setF c j' d' d2 h with
          | some h => .nx sl h | none => .no
        | none => .no) := o3
      cases qs : setF c j d d1 h' with
      | none => rw [qs] at o4; exact o4.elim
      | some h4 =>
        rw [qs] at o4
        refine fun g5 σ5 H5 l5 x5 => ⟨v2, [], rfl, g5, sl, h4, d2, x5, rv_le (lz.trans l5) r2, ?_⟩
        have o5 := OutS.le (r := (fo' sl h4).st fun d' h => match setF c j' d' d2 h with
          | some h => .nx sl h | none => .no) o4 l5
        cases q5 : fo' sl h4 with
        | no => rw [q5] at o5; exact o5.elim
        | exc c' p' h' => rw [q5] at o5; exact o5
        | ok d' h6 =>
          rw [q5] at o5
          have o6 : OutS P g5 D E (match setF c j' d' d2 h6 with
            | some h => .nx sl h | none => .no) := o5
          show OutS P g5 _ E (match setF c j' d' d2 h6 with
            | some h => .nx sl h | none => .no)
          cases q6 : setF c j' d' d2 h6 with
          | none => rw [q6] at o6; exact o6.elim
          | some h7 =>
            rw [q6] at o6
            exact fun g7 σ7 H7 l7 x7 => ⟨rfl, o6 g7 σ7 H7 l7 x7⟩
/-! ### <= of tuples of ints -/
def dLeT : D2 := fun a b h => match a with
  | .tup xs => (match b with
    | .tup ys => R.opt (intsD xs) fun l => R.opt (intsD ys) fun m => .ok (.bl (Ob.lexAt (fun j => decide (l.getD j 0 = m.getD j 0)) (fun j => decide (l.getD j 0 ≤ m.getD j 0)) (decide (l.length ≤ m.length)) 0 (min l.length m.length))) h
    | _ => .no)
  | _ => .no
theorem oLeT (rm : Rm P X) : OpS P E X (compareOp .LtE) dLeT := by
  intro pins s σ H x y v u Q I rx ry ⟨g, h, a, b, hs, ra, rb, o⟩
  have hu := rm.u
  cases ra with
  | @tup p1 ws xs h1 h2 =>
    cases rb with
    | @tup p2 zs ys k1 k2 =>
      obtain ⟨l, e1, o⟩ := Out.opt (show Out P g (rv P) Q E (R.opt (intsD xs) fun l => R.opt (intsD ys) fun m => .ok (.bl (Ob.lexAt (fun j => decide (l.getD j 0 = m.getD j 0)) (fun j => decide (l.getD j 0 ≤ m.getD j 0)) (decide (l.length ≤ m.length)) 0 (min l.length m.length))) h) from o)
      obtain ⟨m, e2, o⟩ := Out.opt o
      have f1 := intsD_ok h2 e1
      have f2 := intsD_ok k2 e2
      subst f1 f2
      exact op_leT (by omega) pins s σ H _ _ v u Q I rx ry ⟨p1, p2, l, m, rfl, rfl, by rw [rm.K]; exact ex_t hs.fr h1, by rw [rm.K]; exact ex_t hs.fr k1, o.now hs (.bl _)⟩
    | _ => exact o.elim
  | _ => exact o.elim
/-! ### two clauses -/
def lcL2 (tg : FG) (f : FE) (i : Nat) (sl : Sl) : List D → Hc → R Unit
  | [], h => .ok () h
  | d :: ds, h => match tg d sl with
    | none => .no
    | some sl1 => (nx (f sl1 h)).bind fun y h => match app i y h with
      | some h => lcL2 tg f i sl ds h | none => .no
def lcL1 (tg : FG) (fi1 : FA) (tg1 : FG) (f : FE) (own1 : List Nat) (i : Nat) (sl : Sl) : List D → Hc → R Unit
  | [], h => .ok () h
  | d :: ds, h => match tg d sl with
    | none => .no
    | some sl1 => (nx (fi1 sl1 h)).bind fun es h => (lcL2 tg1 f i (wipeS sl1 own1) es h).bind fun _ h => lcL1 tg fi1 tg1 f own1 i sl ds h
def fLc2 (m : Bool) (own own1 : List Nat) (fi : FA) (tg : FG) (fi1 : FA) (tg1 : FG) (f : FE) : FE := fun sl h => (fi sl h).bind fun ds h => (lcL1 tg fi1 tg1 f own1 h.nx (wipeS sl own) ds (h.new (.lst []))).bind fun _ h2 => fin m h.nx h2
theorem R.bind_assoc {α β γ : Type} (r : R α) (f : α → Hc → R β) (k : β → Hc → R γ) : (r.bind f).bind k = r.bind fun a h => (f a h).bind k := by
  cases r <;> rfl
theorem fLc2_rd {m : Bool} {own own1 : List Nat} {fi fi1 : FA} {ft ft1 : FG} {f : FE} : ∀ σ H Q, rdE P E (fLc2 m own own1 fi ft fi1 ft1 f) σ H Q → tLc2 (rdI P E fi) (rdG P own ft) (rdT P E0 tYesF) (rdI P E0 fi1) (rdG P own1 ft1) (rdT P E0 tYesF) (rdE P E0 f) own own1 σ H Q := fun σ H Q ⟨g, sl, h, x, o⟩ =>
  ⟨g, sl, h, x, Out.bind o fun ds h1 g1 H1 J l1 s1 wk o1 => fun D hD => by
    obtain ⟨s2, l2, e2⟩ := s1.mk' hD (.lst (P := P) (F := g1.F) (ρ := g1.ρ) .nil)
    refine ⟨fun i m' H' => m' = ds.length - i ∧ i ≤ ds.length ∧ ∃ g' h', G.le (g1.mk' h1.nx D) g' ∧ HS P g' h' H' ∧ Out P g' (rv P) Q E ((lcL1 ft fi1 ft1 f own1 h1.nx (wipeS sl own) (ds.drop i) h').bind fun _ h2 => fin m h1.nx h2), ⟨ds.length, by omega, Nat.zero_le _, _, _, .refl _, s2, Out.le (r := (lcL1 ft fi1 ft1 f own1 h1.nx (wipeS sl own) ds (h1.new (.lst []))).bind fun _ h2 => fin m h1.nx h2) o1 l2⟩, ?_⟩
    rintro i m' H' ⟨rfl, hi, g', h', l', s', o'⟩
    have eD : g'.ρ h1.nx = some D := l'.2 _ _ e2
    obtain ⟨go, stop⟩ := wk i g' h' H' (l2.trans l') s'
    cases q : ds[i]? with
    | none =>
      have hl := List.getElem?_eq_none_iff.mp q
      rw [List.drop_eq_nil_of_le hl] at o'
      exact .inl ⟨stop q, fin_ok s' eD o'⟩
    | some d =>
      obtain ⟨hlt, e⟩ := List.getElem?_eq_some_iff.mp q
      have hd : ds.drop i = d :: ds.drop (i + 1) := by rw [← e]; exact List.drop_eq_getElem_cons hlt
      rw [hd] at o'
      obtain ⟨jg, jy⟩ := go d q
      refine .inr ⟨jg, fun H2 => ∃ g2 h2, G.le (g1.mk' h1.nx D) g2 ∧ HS P g2 h2 H2 ∧ Out P g2 (rv P) Q E ((lcL1 ft fi1 ft1 f own1 h1.nx (wipeS sl own) (ds.drop (i + 1)) h2).bind fun _ h2 => fin m h1.nx h2), fun H2 ⟨g2, h2, l2, s2, o2⟩ => ⟨ds.length - (i + 1), by omega, rfl, hlt, g2, h2, l2, s2, o2⟩, fun v H2 y => ?_⟩
      obtain ⟨g2, l3, s3, r3⟩ := jy v H2 y
      have x3 : SR P g2 (wipeS sl own) h' (L2.wipe σ own) H2 := (x.le ((l1.trans l2).trans (l'.trans l3)) s3).wipe own
      have o3 := Out.le o' l3
      simp only [lcL1] at o3
      cases q2 : ft d (wipeS sl own) with
      | none => simp only [q2] at o3; exact o3.elim
      | some sl1 =>
        simp only [q2] at o3
        refine ⟨g2, wipeS sl own, h', d, x3, r3, sl1, q2, fun σ3 x4 hw => ⟨hw.trans wipe_wipe, g2, sl1, h', x4, ?_⟩⟩
        refine fun g4 H4 b l4 s4 rb => ?_
        cases (show true = b from rb)
        rw [if_pos rfl]
        have l5 : G.le (g1.mk' h1.nx D) g4 := (l'.trans l3).trans l4
        have o4 := Out.le o3 l4
        rw [R.bind_assoc] at o4
        refine ⟨g4, sl1, h', x4.le l4 s4, Out.nx (Out.bind o4 fun es h6 g6 H6 J1 l6 s6 wk1 o6 => ?_)⟩
        rw [R.bind_assoc] at o6
        refine ⟨fun j k H' => k = es.length - j ∧ j ≤ es.length ∧ ∃ g' h', G.le g6 g' ∧ HS P g' h' H' ∧ Out P g' (rv P) Q E ((lcL2 ft1 f h1.nx (wipeS sl1 own1) (es.drop j) h').bind fun _ h => (lcL1 ft fi1 ft1 f own1 h1.nx (wipeS sl own) (ds.drop (i + 1)) h).bind fun _ h2 => fin m h1.nx h2), ⟨es.length, by omega, Nat.zero_le _, _, _, .refl _, s6, o6⟩, ?_⟩
        rintro j k H7 ⟨rfl, hj, g7, h7, l7, s7, o7⟩
        have l8 : G.le (g1.mk' h1.nx D) g7 := (l5.trans l6).trans l7
        obtain ⟨go1, stop1⟩ := wk1 j g7 h7 H7 l7 s7
        cases q7 : es[j]? with
        | none =>
          have hl := List.getElem?_eq_none_iff.mp q7
          rw [List.drop_eq_nil_of_le hl] at o7
          exact .inl ⟨stop1 q7, g7, h7, l8, s7, o7⟩
        | some d1 =>
          obtain ⟨hlt1, e1⟩ := List.getElem?_eq_some_iff.mp q7
          have hd1 : es.drop j = d1 :: es.drop (j + 1) := by rw [← e1]; exact List.drop_eq_getElem_cons hlt1
          rw [hd1] at o7
          obtain ⟨jg1, jy1⟩ := go1 d1 q7
          refine .inr ⟨jg1, fun H' => ∃ g' h', G.le g6 g' ∧ HS P g' h' H' ∧ Out P g' (rv P) Q E ((lcL2 ft1 f h1.nx (wipeS sl1 own1) (es.drop (j + 1)) h').bind fun _ h => (lcL1 ft fi1 ft1 f own1 h1.nx (wipeS sl own) (ds.drop (i + 1)) h).bind fun _ h2 => fin m h1.nx h2), fun H' ⟨g', h', l', s', o'⟩ => ⟨es.length - (j + 1), by omega, rfl, hlt1, g', h', l', s', o'⟩, fun v1 H8 y1 => ?_⟩
          obtain ⟨g8, l9, s8, r8⟩ := jy1 v1 H8 y1
          have x8 : SR P g8 (wipeS sl1 own1) h7 (L2.wipe σ3 own1) H8 := (x4.le (((l4.trans l6).trans l7).trans l9) s8).wipe own1
          have o8 := Out.le o7 l9
          simp only [lcL2] at o8
          cases q8 : ft1 d1 (wipeS sl1 own1) with
          | none => simp only [q8] at o8; exact o8.elim
          | some sl2 =>
            simp only [q8] at o8
            refine ⟨g8, wipeS sl1 own1, h7, d1, x8, r8, sl2, q8, fun σ9 x9 hw1 => ⟨hw1.trans wipe_wipe, g8, sl2, h7, x9, fun gA HA b lA sA rb => ?_⟩⟩
            cases (show true = b from rb)
            rw [if_pos rfl]
            have oA := Out.le o8 lA
            rw [R.bind_assoc] at oA
            refine ⟨gA, sl2, h7, x9.le lA sA, Out.nx (Out.bind oA fun y hB gB HB yv lB sB rB oB => ?_)⟩
            cases qB : app h1.nx y hB with
            | none => rw [qB] at oB; exact oB.elim
            | some hC =>
              rw [qB] at oB
              obtain ⟨acc, z1, z2, z3⟩ := app_ev sB ((((l8.trans l9).trans lA).trans lB).2 _ _ e2) rB qB
              exact ⟨acc, z1, z2, gB, hC, ((l7.trans l9).trans lA).trans lB, z3, oB⟩⟩
theorem sE_lc2 {m : Bool} {elt tg iter tg1 iter1 : Expr} {scope : Scope} {own : List (Str × Nat)} {vs1 : List Nat} {fi fi1 : FA} {ft ft1 : FG} {f : FE} (hc : X.calm = true) (hN : X.N.Nodup) (hi : PI X tg iter (rdI P E fi)) (ok : BlkOk X.N X.env.scope scope own) (hv : ∀ i ∈ vs1, i ∈ own.map (·.2))
    (hg : ∀ (s : Shared) (H : Hp) (C : Addr) (cl : List (Str × Addr)) (fp : List Addr), PG (X.blk s H scope (compEnvC scope cl C X.env) fp) tg (rdG P (own.map (·.2)) ft))
    (hi1 : ∀ (s : Shared) (H : Hp) (C : Addr) (cl : List (Str × Addr)) (fp : List Addr), PI (X.blk s H scope (compEnvC scope cl C X.env) fp) tg1 iter1 (rdI P E0 fi1))
    (hg1 : ∀ (s : Shared) (H : Hp) (C : Addr) (cl : List (Str × Addr)) (fp : List Addr), PG (X.blk s H scope (compEnvC scope cl C X.env) fp) tg1 (rdG P vs1 ft1))
    (he : ∀ (s : Shared) (H : Hp) (C : Addr) (cl : List (Str × Addr)) (fp : List Addr), PE (X.blk s H scope (compEnvC scope cl C X.env) fp) elt (rdE P E0 f)) (hs : ∀ x, foldedSetIterable iter X.env x = pure x := by intro _; rfl) (hs1 : ∀ env x, foldedSetIterable iter1 env x = pure x := by intro _ _; rfl) :
    PE X (.ListComp elt [⟨tg, iter, [], 0⟩, ⟨tg1, iter1, [], 0⟩] scope pos) (rdE P E (fLc2 m (own.map (·.2)) vs1 fi ft fi1 ft1 f)) :=
  PE.weak (pe_lc2 hc hN hi ok hv hg (fun _ _ _ _ _ => sTs_nil) hi1 hg1 (fun _ _ _ _ _ => sTs_nil) he hs hs1) fLc2_rd
end
end EV
end S_EwF
section S_EwG
/-! EwG: calls with keywords, given in the parameters' order. -/
namespace EV
open PySem PySem.Spec PyProof.Rows L2 Evl
/-- positional values and then keywords, in the parameters' order -/
abbrev Kb (K : PySem.W.Frag) (fd : FuncData) (ps : List Str) (n : Nat) (ks : List Str) : Prop := KBn K fd ps n ks (fun us ws => us ++ ws) (fun vs zs => vs ++ zs)
theorem kb_of {K : PySem.W.Frag} {fd : FuncData} {ps ks : List Str} {n : Nat} (h : ∀ us ws : List Value, us.length = n → ws.length = ks.length → bindArgs fd ⟨us, ks.zip ws⟩ = pure (ps.zip (us ++ ws))) : Kb K fd ps n ks :=
  ⟨fun s us ws _ l1 l2 => .of_eq (h us ws l1 l2), fun r1 r2 => r1.append r2⟩
section
variable {P : Pm} {E : XK} {X : Cx} {e o : Expr} {f fo : FE} {fs : FA} {p pos apos kpos : Pos} {kws : List Keyword} {ks ps : List Str} {k n j c : Nat} {fd : FuncData} {F : FF} {fa : Addr} {m x : Str}
theorem PK.weak {t t' : TA} (h : PK X kws t) (w : ∀ σ H Q, t' σ H Q → t σ H Q) : PK X kws t' := ⟨fun pos pins s σ H Q I q => h.run pos pins s σ H Q I (w σ H Q q)⟩
theorem sK_nil : PK X [] (rdA P E fNil) := PK.weak pk_nil fun σ H Q ⟨g, sl, h, x, o⟩ => o g H [] (.refl _) x.hs .nil
theorem sK_cons {nm : Option Str} (ha : PE X e (rdE P E f)) (hr : PK X kws (rdA P E fs)) : PK X (⟨nm, e, kpos⟩ :: kws) (rdA P E (fCons f fs)) :=
  PK.weak (pk_cons ha hr) fun σ H Q ⟨g, sl, h, x, o⟩ => ⟨g, sl, h, x, Out.bind o fun d h1 g1 H1 v l1 s1 r1 o1 => ⟨g1, sl, h1, x.le l1 s1, Out.bind o1 fun ds h2 g2 H2 vs l2 s2 r2 o2 =>
    o2 g2 H2 (v :: vs) (.refl _) s2 (.cons (rv_le l2 r1) r2)⟩⟩
/-- o.m(k = v, ..) -/
def tMethK (C : Addr) (m : Str) (j : Nat) (sp : Sp) (E : XK) (ta : TE) (tk : TA) : TE := fun σ H Q => ta σ H fun x H1 => ∃ (a dx : Addr) (fs : List (Str × V)), x = .ref a ∧ H1 a = some (.ins C dx fs) ∧ fs.lookup m = none ∧ tk σ H1 fun zs H2 => zs.length = j ∧ sp (.ref a :: zs) H2 Q E
theorem pe_methKw {CX : CXT} {C : Addr} {sp : Sp} {ta : TE} {tk : TA} {pl : Sem Bool} (he : PE X o ta) (cl : Cls X.K C) (hm : Meth X.K C m fa) (FO : FnOk X.prog X.w X.K X.mg X.base CX k fa fd ps sp) (hr : Room k X.A) (hb : Kb X.K fd ps 1 ks) (hx : Passes CX X E) (hkw : PK X kws tk)
    (ht : eval (.Call (.Attribute o m apos) [] kws pos) X.env = (do
      let ov ← eval o X.env
      standAt apos.atName
      let (f, first) ← holding [ov]
          (getMethod ov m pl)
      callWith pos f first (backTo pos (starEach [] X.env)) (backToKw pos (keywordEach kws X.env))) := by rfl)
    (hall : (backToKw pos (keywordEach kws X.env)).all (·.1.isSome) = true := by rfl) (hks : (backToKw pos (keywordEach kws X.env)).filterMap (·.1) = ks := by rfl)
    (hpl : ((backTo pos (starEach [] X.env)).any (·.1) || (backToKw pos (keywordEach kws X.env)).any (·.1.isNone)) = false :=
        by rfl) :
    PE X (.Call (.Attribute o m apos) [] kws pos) (tMethK C m ks.length sp E ta tk) := by
  refine (⟨fun pins s σ H Q I h => ?_⟩)
  refine (PySem.W.methodCall_KW (pl := pl) (thn (he.run pins s σ H _ I h) fun u s1 ⟨x, H1, I1, rx, a, dx, fs, ex, ea, l, q⟩ => ?_) ht)
  subst ex
  obtain rfl : u = .ref a := rx
  refine getmeth_ok I1 ea cl hm l ?_
  refine PySem.W.callWith_KW0 (first := [.ref a]) (h₀ := X.base) I.ok.mod.kin hm.kp hall ?_ hpl
  refine thn (hkw.run pos pins s1 σ H1 _ I1 q) fun ws s2 ⟨zs, H2, I2, rz, l2, q2⟩ => ⟨I2.kIn, ?_⟩
  rw [hks]
  exact run_fnN (us := [.ref a]) (vs := [.ref a]) FO hr hb hx I2 (.cons rfl .nil) rz rfl l2 q2
theorem sE_methK {pl : Sem Bool} (hK : X.K = P.K) (he : PE X o (rdE P E fo)) (cl : Cls X.K (P.CA c)) (hm : Meth X.K (P.CA c) m fa) (hf : ∀ i, P.fn i ≠ m) (FO : FnS X P k fa fd ps n F) (tk : Tk X E) (hr : Room k X.A) (hb : Kb X.K fd ps 1 ks) (hn : n = ks.length + 1) (ha : PK X kws (rdA P E fs))
    (ht : eval (.Call (.Attribute o m apos) [] kws pos) X.env = (do
      let ov ← eval o X.env
      standAt apos.atName
      let (f, first) ← holding [ov]
          (getMethod ov m pl)
      callWith pos f first (backTo pos (starEach [] X.env)) (backToKw pos (keywordEach kws X.env))) := by rfl)
    (hall : (backToKw pos (keywordEach kws X.env)).all (·.1.isSome) = true := by rfl) (hks : (backToKw pos (keywordEach kws X.env)).filterMap (·.1) = ks := by rfl)
    (hpl : ((backTo pos (starEach [] X.env)).any (·.1) || (backToKw pos (keywordEach kws X.env)).any (·.1.isNone)) = false :=
        by rfl) :
    PE X (.Call (.Attribute o m apos) [] kws pos) (rdE P E (fMeth c n F fo fs)) :=
  PE.weak (pe_methKw (pl := pl) he cl hm FO hr hb (passes_call (E := E) tk fun _ _ _ _ h => h) ha ht hall hks hpl) fun σ H Q ⟨g, sl, h, x, o⟩ => ⟨g, sl, h, x, Out.bind o fun d h1 g1 H1 v l1 s1 r1 o1 => by
    obtain ⟨⟨ks', vs⟩, e1, o3⟩ := Out.opt o1
    obtain ⟨i, a, dx, fs', ed, rfl, _, _, h3, r3⟩ := insOf_ok s1 r1 e1
    subst ed
    refine ⟨a, dx, fs', rfl, h3, r3.none hf, g1, sl, h1, x.le l1 s1, Out.bind o3 fun ds h2 g2 H2 ws l2 s2 r2 o2 => ?_⟩
    have sp := call_sp (F := F) (ds := .ref i :: ds) s2 (.cons (rv_le l2 r1) r2) o2
    have hl : (V.ref a :: ws).length = n := sp.1
    exact ⟨by rw [List.length_cons] at hl; omega, sp⟩⟩
/-- C(k = v, ..) -/
theorem sE_mkK {x : Str} (M : Mk X.K (P.CA c) fa) (FO : FnS X P k fa fd ps n F) (tk : Tk X E) (hr : Room (k + 1) X.A) (hg : Gl X x) (hm : X.mg x = some (.ref (P.CA c))) (hb : Kb X.K fd ps 1 ks) (hn : n = ks.length + 1) (ha : PK X kws (rdA P E fs))
    (hall : (backToKw pos (keywordEach kws X.env)).all (·.1.isSome) = true :=
        by rfl) (hks : (backToKw pos (keywordEach kws X.env)).filterMap (·.1) = ks := by rfl) (hdb : (x == ("__debug__" : Str)) = false := by decide)
    (hpl : ((backTo pos (starEach [] X.env)).any (·.1) || (backToKw pos (keywordEach kws X.env)).any (·.1.isNone)) = false :=
        by rfl) :
    PE X (.Call (.Name x p) [] kws pos) (rdE P E (fMk c n F fs)) :=
  PE.weak (pe_makeK0 M FO hr hg hm hb (passes_call (E := E) tk fun _ _ _ _ h => h) ha hall hks hdb hpl) fun σ H Q ⟨g, sl, h, y, o⟩ => ⟨g, sl, h, y, Out.bind o fun ds h1 g1 H1 vs l1 s1 r1 o1 => by
    have hl : ds.length + 1 = n := by
      have o2 : Out P g1 (rv P) Q E (mkF n h1.nx F ds (h1.new (.ins c [] []))) := o1
      unfold mkF at o2
      cases q : Nat.beq (ds.length + 1) n with
      | false => rw [q] at o2; exact o2.elim
      | true => exact Nat.eq_of_beq_eq_true q
    exact ⟨rfl, by rw [← r1.length]; omega, fun x dx hx hd ne => mk_sp s1 r1 hx hd ne o1⟩⟩
end
end EV
end S_EwG
section S_EwH
/-! EwH: a lambda, with or without defaults, handed to a def that calls it in a try. -/
namespace EV
open PySem PySem.Spec PyProof.Rows L2 Evl LamX
/-- the lambda's names: N its maker's, NL those that it sees, ls its own parameters -/
structure LmS (sc scope : Scope) (N NL ls : List Str) : Prop where
  kind : scope.kind = .function
  co :
      scope.isCoroutine = false
  gen :
      scope.isGenerator = false
  own : ∀ y ∈ scope.names, y.2 ≠ .cell
  free :
      ∀ y ∈ scope.names, y.2 = .free → sc.names.lookup y.1 = some .cell ∨ sc.names.lookup y.1 = some .free
  loc : ∀ y ∈ ls, scope.names.lookup y = some .local
  len : NL.length = N.length
  vis : ∀ (i : Nat) (y : Str), NL[i]? = some y → scope.names.lookup y ≠ some .local ∧ (scope.names.lookup y = some .free → N[i]? = some y)
def lmSB (sc scope : Scope) (N NL ls : List Str) : Bool :=
  (decide (scope.kind = .function) && !scope.isCoroutine && !scope.isGenerator && decide (NL.length = N.length)) && ((scope.names.all fun y => !decide (y.2 = .cell) && (!decide (y.2 = .free) || decide (sc.names.lookup y.1 = some .cell) || decide (sc.names.lookup y.1 = some .free))) &&
    ((ls.all fun y => decide (scope.names.lookup y = some .local)) && ((NL.zip N).all fun p => !decide (scope.names.lookup p.1 = some .local) && (!decide (scope.names.lookup p.1 = some .free) || decide (p.1 = p.2)))))
theorem lmS_by {sc scope : Scope} {N NL ls : List Str} (h : lmSB sc scope N NL ls = true) : LmS sc scope N NL ls := by
  unfold lmSB at h
  simp only [Bool.and_eq_true, Bool.or_eq_true, Bool.not_eq_true', decide_eq_true_eq, decide_eq_false_iff_not, List.all_eq_true]
      at h
  obtain ⟨⟨⟨⟨h1, h2⟩, h3⟩, h4⟩, h5, h6, h7⟩ := h
  refine ⟨h1, h2, h3, fun y hy => (h5 y hy).1, fun y hy e => ?_, h6, h4, fun i y e => ?_⟩
  · rcases (h5 y hy).2 with (z | z) | z
    · exact absurd e z
    · exact .inl z
    · exact .inr z
  · have hi : i < NL.length := (List.getElem?_eq_some_iff.mp e).1
    have e2 : N[i]? = some (N[i]'(h4 ▸ hi)) := List.getElem?_eq_getElem (h4 ▸ hi)
    have hz : (y, N[i]'(h4 ▸ hi)) ∈ NL.zip N := List.mem_of_getElem? (i := i) (List.getElem?_zip_eq_some.mpr ⟨e, e2⟩)
    obtain ⟨z1, z2⟩ := h7 _ hz
    refine ⟨z1, fun k => ?_⟩
    rcases z2 with z2 | z2
    · exact absurd k z2
    · rw [e2]; exact congrArg some z2.symm
def lmCx (X : Cx) (NL : List Str) (A : Around) (outer : List Env) (s : Shared) (H : Hp) (E : XK) (scope : Scope) (f c' : Addr) : Cx := { lamCx X A outer s H E scope f c' with N := NL }
/-- the lambda's defaults: none, or in a tuple of their own -/
def DvOk (dv : List Value) (dV : Value) (hp : Heap) (H : Hp) (S : List Addr) : Prop := (dv = [] ∧ dV = .none) ∨ ∃ td, dv ≠ [] ∧ dV = .ref td ∧ hp.get? td = some (PySem.W.kdv_tup dv) ∧ H td = none ∧ td ∉ S
abbrev lmFn (q : Str) (params : Arguments) (body : Expr) (scope : Scope) (cl : List (Str × Addr)) (dV doc pm cv ct : Value) : FuncData := PySem.W.kdv_fn "<lambda>" q params (.expr body) scope cl dV doc pm cv ct
abbrev lmOb (q : Str) (params : Arguments) (body : Expr) (scope : Scope) (cl : List (Str × Addr)) (dV doc pm : Value) (c' : Addr) (ct : Value) : Obj := PySem.W.kdv_obj "<lambda>" q params (.expr body) scope cl dV doc pm c' ct
/-- how an empty call binds -/
def LmB (params : Arguments) (body : Expr) (scope : Scope) (ls : List Str) : Prop := ∀ (q : Str) (cl : List (Str × Addr)) (dV doc pm cv ct : Value) (dv : List Value) (s : Shared) (H : Hp) (S : List Addr), dv.length = ls.length → DvOk dv dV s.heap H S → BindsTo s (lmFn q params body scope cl dV doc pm cv ct) ⟨[], []⟩ (ls.zip dv)
section
variable {X : Cx} {pins : List (Addr × Obj)} {σ :
    L2.St} {H HZ : Hp} {s s1 : Shared}
theorem lm_has {scope : Scope} {N NL ls : List Str} (L : LmS X.env.scope scope N NL ls) (ok : X.Ok) : ∀ y ∈ scope.names, y.2 = .free → ∃ c, X.env.cells.lookup y.1 = some c := fun y hy e => by
  rcases L.free y
      hy e with k | k
  · exact ok.has _ (.inl k)
  · exact ok.has _ (.inr k)
theorem lm_start {A : Around} {outer : List Env} {E : XK} {scope : Scope} {NL ls : List Str} {f c' : Addr} {h₁ : Heap} {tk : Nat} {bs : Str → Option Value} (I : Inv X pins σ H s) (L : LmS X.env.scope scope X.N NL ls) (e0 : Env0 X.prog X.w X.K X.mg X.base A outer s1 HZ) (hd : A.handled = none)
    (un : Un (frs X.stack) [] H HZ s.heap s1.heap) (hns : h₁.Ns s1.heap.objs.size bs) (kp : ∀ b o, s1.heap.get? b = some o → h₁.get? b = some o) : Inv (lmCx X NL A outer s1 HZ E scope f c') [] σ HZ { s1 with heap := h₁, toks := tk } := by
  have hfree := lm_has L I.ok
  have cm : ∀ {y c}, (cloFrom X.env.cells scope.names []).lookup y = some c → X.env.cells.lookup y = some c :=
      fun {y c} e => by
    rcases cloFrom_mem (PySem.mem_of_lookup e)
        with hm | ⟨h1, h2⟩
    · cases hm
    · rcases hfree _ h1 rfl with ⟨c1, hc⟩
      have hc : X.env.cells.lookup y = some c1 := (hc)
      have e2 : c = c1 := by rw [h2, hc] <;> rfl
      rw [e2]; exact hc
  have look : ∀ {y}, scope.names.lookup y = some .free → ∃ c, (cloFrom X.env.cells scope.names []).lookup y = some c := fun {y} hl => mem_lookup (cloFrom_has (cells := X.env.cells) (acc := []) (show (y, NameKind.free) ∈ scope.names from PySem.mem_of_lookup hl))
  have cellK : ∀ {c : Addr} {v : Option Value}, H c = none → s.heap.IsCell c v → h₁.IsCell c v :=
      fun {c v} n ⟨o, ho, hd⟩ => by
    obtain ⟨sl, q⟩ := un.any ho n (by simp); exact ⟨_, kp _ _ q, hd⟩
  have noA : ∀ b : Addr, b ∉ (lmCx X NL A outer s1 HZ E scope f c').ex := fun b z => absurd (show b ∈ ([] : List Addr) from z) (by simp)
  refine ⟨⟨e0.mod, L.kind, rfl, rfl, Nat.le_refl _, fun y z c e1 e2 => I.ok.inj y z c (cm e1) (cm e2), fun y hy => ?_, fun y c z _ => ?_, fun _ => hd, Around.frames_deeper e0.frames, .inr ⟨rfl, rfl⟩, fun b z => absurd z (noA b), e0.bs, e0.bsz, fun b _ _ => noA b, fun b z => absurd z (noA b), e0.funs, e0.frf⟩,
    rfl, e0.bare, Un.kept kp, ⟨_, hns, fun i y v e1 e2 e3 => ?_⟩, fun y c e => ?_, e0.hok.fresh (Nat.le_refl _), fun y c e => ?_, fun q hq => absurd (show q ∈ ([] : List (Addr × Obj)) ++ [] from hq) (by simp), e0.hok.kept kp, I.len.trans L.len.symm⟩
  · have hy : scope.names.lookup y = some .cell ∨ scope.names.lookup y = some .free := (hy)
    rcases hy with hy | hy
    · exact absurd rfl (L.own _ (PySem.mem_of_lookup hy))
    · exact look hy
  · have z : false = true := z
    cases z
  · have e1 : NL[i]? = some y := e1
    obtain ⟨nl, sm⟩ := L.vis i y e1
    have e3 : Vis scope y := e3
    rcases e3 with k | k | k
    · exact absurd k nl
    · exact absurd rfl (L.own _ (PySem.mem_of_lookup k))
    · obtain ⟨m, hn, hl⟩ := I.loc
      have hvis : Vis X.env.scope y := ((L.free _ (PySem.mem_of_lookup k) rfl).elim (fun k => .inr (.inl k)) (fun k => .inr (.inr k)))
      obtain ⟨w', r, q⟩ := hl i y v (sm k) e2 hvis
      obtain ⟨c2, h2⟩ := look k
      refine (⟨w', r, .inr ⟨.inr k, c2, h2, ?_⟩⟩)
      have c1 := cm h2
      rcases q with ⟨k',
          _⟩ | ⟨_, c3, e', z⟩
      · have k' : X.env.scope.names.lookup y = some .local := (k')
        rcases L.free _ (PySem.mem_of_lookup k)
            rfl with k2 | k2 <;> rw [show X.env.scope.names.lookup y = _ from k2] at k' <;> cases k'
      · rw [c1] at e'; cases e'
        exact (cellK (I.freeC y _ c1) z)
  · rcases I.cell y c (cm e) with ⟨w', z⟩
    exact (⟨w', cellK (I.freeC y c (cm e)) z⟩)
  · rcases I.cell y c (cm e) with ⟨v, o, ho, hd⟩
    exact (un.free c o ho (I.freeC y c (cm e)) (by simp))
theorem dv_none {dv : List Value} {dV : Value} {hp hp' : Heap} {H H' : Hp} {S S' : List Addr} (d : DvOk dv dV hp H S) (k : ∀ td, hp.get? td = some (PySem.W.kdv_tup dv) → H td = none → td ∉ S → hp'.get? td = some (PySem.W.kdv_tup dv) ∧ H' td = none ∧ td ∉ S') : DvOk dv dV hp' H' S' := by
  rcases d with d | ⟨td, h0, h1, h2, h3, h4⟩
  · exact .inl d
  · exact .inr ⟨td, h0, h1, k td h2 h3 h4⟩
/-- x() in the def that got it, entered at s -/
theorem lm_act {CXg : CXT} {Eg : XK} {Ng : List Str} {qg : Str} {sg : Scope} {g f c' : Addr} {cdg doc pm ctv dV : Value} {dv : List Value} {params : Arguments} {body : Expr} {scope : Scope} {NL ls : List Str} {k i : Nat} {a : Str} {pn : List (Addr × Obj)} {xe : Value → Shared → Prop} {E : XK} {tb : TE} {p1 p2 : Pos}
    (I : Inv X pins σ H s) (L : LmS X.env.scope scope X.N NL ls) (hf : s.heap.get? f = some (lmOb (X.env.qual ++ "<lambda>") params body scope (cloFrom X.env.cells scope.names []) dV doc pm c' ctv)) (hfn : H f = none) (hfr : f ∉ frs X.stack) (hdv : DvOk dv dV s.heap H (frs X.stack)) (hl : dv.length = ls.length)
    (hbind : LmB params body scope ls) (tk : Tk ((cxOf CXg X.prog X.w X.K X.mg X.base Ng qg sg g cdg X.A X.stack s H Eg).tr pn xe) E) (hr : Room (k + 1) (X.A.deeper (envOfC qg sg s.heap.objs.size g cdg)))
    (hbody : ∀ (A : Around) (outer : List Env) (s : Shared) (H : Hp), Room k (A.deeper (lamEnv X scope s.heap.objs.size f c')) → PE (lmCx X NL A outer s H E scope f c') body tb)
    (hN : Ng[i]? = some a) (hv : Vis sg a) (hd : (a == ("__debug__" : Str)) = false :=
        by decide) (hcd : (a == ("__classdict__" : Str)) = false := by decide) :
    PE ((cxOf CXg X.prog X.w X.K X.mg X.base Ng qg sg g cdg X.A X.stack s H Eg).tr pn xe) (.Call (.Name a p1) [] [] p2) (fun σZ HZ Q => σZ[i]? = some (some (.ref f)) ∧ HZ c' = some (CodeO c' (X.env.qual ++ "<lambda>")) ∧ tb σ HZ Q) := by
  refine (⟨fun pinsZ sZ σZ HZ Q IZ h => ?_⟩)
  obtain ⟨hs, hc, ht⟩ := h
  refine (wpAny_Call_Name_kw (thn ((pe_var (pos := p1) (i := i) hN hv hd hcd).run pinsZ sZ σZ HZ (fun v H1 => v = .ref f ∧ H1 = HZ) IZ ⟨.ref f, hs, rfl, rfl⟩) fun u s1 ⟨v, H1, I1, r1, q1⟩ => ?_))
  obtain ⟨ev, eH⟩ := q1
  subst ev
  rw [eH] at I1
  obtain rfl : u = .ref f := r1
  have stay : ∀ b o, s.heap.get? b = some o → H b = none → b ∉ frs X.stack → s1.heap.get? b = some o := fun b o e n m => I1.base.keep b o e n m (fun z => nomatch (show b ∈ ([] : List Addr) from z))
  have of1 := stay f _ hf hfn hfr
  refine (PySem.W.callWith_F0 ⟨_, _, _, _, of1⟩ ?_)
  have un : Un (frs X.stack) [] H HZ s.heap s1.heap := (I1.base)
  rcases I1.hok c' _ hc with ⟨⟨oc, vs, t, hoc, hdc, hvc⟩, _, _⟩
  have dv1 : DvOk dv dV s1.heap (fun _ => none) [] := dv_none hdv fun td h1 h2 h3 => ⟨stay td _ h1 h2 h3, rfl, by simp⟩
  have hz : ∀ y ∈ ls.zip dv, scope.names.lookup y.1 = some .local := fun ⟨n, v⟩ hy => L.loc n (List.of_mem_zip hy).1
  have rc : codeAny (model X.prog X.w) (X.A.deeper (envOfC qg sg s.heap.objs.size g cdg)) (.call (.ref f) ⟨[], []⟩) (CR (L2.CX X.prog X.w) (envOfC qg sg s.heap.objs.size g cdg :: X.stack) X.prog X.w HZ s1 Q E) s1 :=
      by
    refine PySem.W.kla_callFunE hr.depth of1 rfl L.co L.gen rfl ⟨c', oc, vs, t, rfl, hoc, hdc, hvc⟩ (hbind _ _ _ _ _ _ _ dv s1 (fun _ => none) [] hl dv1 _ _ _ _ ?_)
    refine wpAny_newFunctionEnv L.own hz (fun h₁ hns hsb => ⟨I1.nolimit.fresh _ hsb, ?_⟩) L.kind
    show (codeAny _ _ (.expr body (lamEnv X scope s1.heap.objs.size f c')) _ _)
    have kp : ∀ b o, s1.heap.get? b = some o → h₁.get? b = some o := (fun b o e => hsb.extBut b o (Nat.ne_of_lt (Heap.lt_size e)) (Heap.get?_push_of_some _ e))
    have J : Inv (lmCx X NL (X.A.deeper (envOfC qg sg s.heap.objs.size g cdg)) (envOfC qg sg s.heap.objs.size g cdg :: X.stack) s1 HZ E scope f c') [] σ HZ { s1 with heap := h₁, toks := s1.toks + (ls.zip dv).length } := lm_start I L I1.env0 hr.hd un hns kp
    refine (PySem.W.kla_codeExpr (wpAny_mono ((hbody _ _ s1 HZ (hr.deeper _)).run [] _ _ HZ Q J ht) (fun v s' hq => ?_) fun e s' hq => hq))
    rcases hq with ⟨w', H', J', rv, q⟩
    exact (⟨w', H', J'.os, J'.bare, J'.base, J'.hok, rv, q⟩)
  have hx : Passes (L2.CX X.prog X.w) ((cxOf CXg X.prog X.w X.K X.mg X.base Ng qg sg g cdg X.A X.stack s H Eg).tr pn xe) E := passes_call tk fun _ _ _ _ h => h
  refine (wpAny_call (codeAny_mono rc fun r s' hq => ?_))
  cases r with
  | error e => (exact hx pinsZ σZ HZ s1 e s' I1 hq)
  | ok fl =>
    cases fl with
    | ret u => exact I1.after hq
    | next => exact False.elim hq
    | brk => exact False.elim hq
    | cont => exact False.elim hq
end
end EV
end S_EwH
section S_EwI
/-! EwI: the making of a lambda; x(lambda: e). -/
namespace EV
open PySem PySem.Spec PyProof.Rows L2 Evl LamX
section
variable {P : Pm} {E : XK} {X : Cx} {g : G} {h : Hc} {H : Hp} {pins : List (Addr × Obj)} {σ : L2.St} {s : Shared}
theorem nofr_of (I : Inv X pins σ H s) : ∀ f, s.heap.objs.size ≤ f → f ∉ frs X.stack := fun f hf z => by
  rcases List.mem_cons.mp (I.stkSub _ z)
      with e | e
  · have h1 := I.lt
    rw [← e] at h1
    exact (Nat.lt_irrefl _ (Nat.lt_of_lt_of_le h1 hf))
  · exact I.nofs hf e
/-- the function object is made -/
theorem lm_tail {c : Addr} {t i : Nat} {params : Arguments} {body : Expr} {scope : Scope} {pos : Pos} {firstLine : Nat} {dV : Value} {dv : List Value} {EE Q : Value → Shared → Prop} (I : Inv X pins σ H s) (hs : HS P g h H) (hK : X.K = P.K) (TB : TabB X.base X.mg c (P.TA t)) (hcode : X.env.code = .ref c)
    (hi : h.get i = some (.tbl t)) (hq : P.TQ t = X.env.qual ++ "<lambda>") (hfree : ∀ y ∈ scope.names, y.2 = .free → ∃ c, X.env.cells.lookup y.1 = some c) (hdv : DvOk dv dV s.heap H (frs X.stack))
    (q : ∀ (f c' : Addr) (doc pm ctv : Value) (H1 : Hp) (s' : Shared) (g1 : G), Inv X pins σ H1 s' → G.le g g1 → HS P g1 h H1 → s'.heap.get? f = some (lmOb (X.env.qual ++ "<lambda>") params body scope (cloFrom X.env.cells scope.names []) dV doc pm c' ctv) → H1 f = none → f ∉ frs X.stack →
      g1.F c' = some (CodeO c' (X.env.qual ++ "<lambda>")) → DvOk dv dV s'.heap H1 (frs X.stack) → Q (.ref f) s') :
    wpAny (model X.prog X.w) X.A (makeTail "<lambda>" (X.env.qual ++ "<lambda>") params (.expr body) scope X.env dV .none none pos firstLine) Q EE s := by
  obtain ⟨a, o, ha, hF, hP, rc⟩ := hs.cell i _ hi
  cases rc with
  | tbl ea ht hamong =>
    rename_i ps
    subst ea
    have bP : s.heap.BuiltinsAt X.mg (P.TA t) := TB.bm.keeps I.bk
    have hP' : s.heap.get? (P.TA t) = some { cls := .none, data := .fields ps } := I.hok _ _ hP
    have ndv : ∀ td, s.heap.get? td = some (PySem.W.kdv_tup dv) → td ≠ P.TA t := fun td e z => by
      rw [z, hP'] at e
      exact absurd (congrArg Obj.cls (Option.some.inj e)) (by simp)
    cases hc :
        codeAmong pos ps.toList with
    | none =>
      refine PySem.W.kdv_makeTail (mg := X.mg) (c := c) (P := P.TA t) (ps := ps) (closure_ok hfree) I.ok.glob (I.mod.glob.keeps I.bk) hcode (TB.code.keeps I.bk) hP' ht hc TB.gP bP fun c' ctv doc h' tk hx hge hlt hrec htb => ?_
      obtain ⟨c2, oc, vs, t2, e2, hoc, hd, hv⟩ := hrec
      cases e2
      have hsz : s.heap.objs.size ≤ h'.objs.size := (Nat.le_trans hge (Nat.le_of_lt hlt))
      have nC : H c' = none := (I.hok.fresh hge)
      have nPc : P.TA t ≠ c' := ne_of_none hP nC
      have I1 := inv_table (t' := tk) (more := #[rawInt pos.line, rawInt pos.col, .ref c']) (h' := h'.push (lmOb (X.env.qual ++ "<lambda>") params body scope (cloFrom X.env.cells scope.names []) dV doc ((X.mg "__name__").getD .none) c' ctv)) I hP
        (fun b o hb e => Heap.get?_push_of_some _ (hx b o hb e)) (Heap.get?_push_of_some _ htb) hge ⟨oc, vs, t2, Heap.get?_push_of_some _ hoc, hd, hv⟩
      have eL : (ps ++ #[rawInt pos.line, rawInt pos.col, .ref c']).toList = ps.toList ++ [rawInt pos.line, rawInt pos.col, .ref c'] := (by simp)
      have l1 : G.le g (g.fz c' (CodeO c' (X.env.qual ++ "<lambda>"))) := G.fz_le (exNone hs.fr nC)
      have s1 : HS P (g.fz c' (CodeO c' (X.env.qual ++ "<lambda>"))) h (upd H c' (CodeO c' (X.env.qual ++ "<lambda>"))) := hs.fz nC
      have at1 : (g.fz c' (CodeO c' (X.env.qual ++ "<lambda>"))).F c' = some (CodeO c' (X.env.qual ++ "<lambda>")) := upd_same
      have s2 := s1.wr (c' := .tbl t) (o := .tbl (ps ++ #[rawInt pos.line, rawInt pos.col, .ref c'])) hi ha (.tbl rfl (by rw [eL]; exact PySem.TriplesOk_snoc _ _ _ _ ht) fun p' cv hcv => by
        rw [eL] at hcv
        rcases among_app _
            ht hcv with z | z
        · obtain ⟨c0, e1, e2⟩ := hamong p' cv z
          exact ⟨c0, e1, l1.1 _ _ e2⟩
        · exact ⟨c', z, by rw [hq]; exact at1⟩)
      have eH : upd (upd H c' (CodeO c' (X.env.qual ++ "<lambda>"))) (P.TA t) (.tbl (ps ++ #[rawInt pos.line, rawInt pos.col, .ref c'])) = upd (upd H (P.TA t) (.tbl (ps ++ #[rawInt pos.line, rawInt pos.col, .ref c']))) c' (CodeO c' (X.env.qual ++ "<lambda>")) := by
        funext b
        by_cases z1 : b = P.TA t
        · subst z1; rw [upd_same, upd_ne nPc, upd_same]
        · by_cases z2 : b = c'
          · subst z2; rw [upd_ne z1, upd_same, upd_same]
          · rw [upd_ne z1, upd_ne z2, upd_ne z2, upd_ne z1]
      have sub : ∀ i c0, (h.set i (.tbl t)).get i = some c0 → True := fun _ _ _ => trivial
      have s3 : HS P (g.fz c' (CodeO c' (X.env.qual ++ "<lambda>"))) h (upd (upd H (P.TA t) (.tbl (ps ++ #[rawInt pos.line, rawInt pos.col, .ref c']))) c' (CodeO c' (X.env.qual ++ "<lambda>"))) := by
        rw [← eH]
        refine s2.sub (fun j c0 e => ?_) (Nat.le_refl _)
        by_cases z : j = i
        · subst z
          rw [hi] at e; cases e
          exact cget_set_self hi
        · exact (cget_set_ne z).trans e
      have n1 : h'.objs.size ≠ c' := Nat.ne_of_gt hlt
      have n2 : h'.objs.size ≠ P.TA t := Nat.ne_of_gt (Nat.lt_of_lt_of_le (Heap.lt_size hP') hsz)
      refine q h'.objs.size c' doc ((X.mg "__name__").getD .none) ctv _ _ _ I1 l1 s3 (Heap.get?_push_size _ rfl) ?_ (nofr_of I _ hsz) at1 (dv_none hdv fun td k1 k2 k3 => ⟨Heap.get?_push_of_some _ (hx td _ (ndv td k1) k1), ?_, k3⟩)
      · rw [upd_ne n1, upd_ne n2]
        exact I.hok.fresh hsz
      · have n3 : td ≠ c' := fun z => Nat.lt_irrefl _ (Nat.lt_of_lt_of_le (Heap.lt_size (z ▸ k1)) hge)
        rw [upd_ne n3, upd_ne (ndv td k1)]; exact k2
    | some cv =>
      obtain ⟨c', e, hco⟩ := hamong pos cv hc
      subst e
      refine PySem.W.kdv_makeTailHit (mg := X.mg) (c := c) (P := P.TA t) (ps := ps) (closure_ok hfree) I.ok.glob (I.mod.glob.keeps I.bk) hcode (TB.code.keeps I.bk) hP' ht hc bP fun ctv doc h' tk hx hsz => ?_
      have I1 : Inv X pins σ H { s with heap := h'.push (lmOb (X.env.qual ++ "<lambda>") params body scope (cloFrom X.env.cells scope.names []) dV doc ((X.mg "__name__").getD .none) c' ctv), toks := tk } := I.kept fun b o e => Heap.get?_push_of_some _ (hx b o e)
      exact q h'.objs.size c' doc ((X.mg "__name__").getD .none) ctv H _ g I1 (.refl g) hs (Heap.get?_push_size _ rfl) (I.hok.fresh hsz) (nofr_of I _ hsz) (by rw [← hq]; exact hco) (dv_none hdv fun td k1 k2 k3 => ⟨Heap.get?_push_of_some _ (hx td _ k1), k2, k3⟩)
/-- how the defaults are made -/
def LmD (X : Cx) (params : Arguments) (n : Nat) : Prop := ∀ (pins : List (Addr × Obj)) (σ : L2.St) (H : Hp) (s : Shared) (body : Expr) (scope : Scope) (pos : Pos) (Q : Value → Shared → Prop), Inv X pins σ H s →
  (∀ (dv : List Value) (dV : Value) (s' : Shared), dv.length = n → Inv X pins σ H s' → DvOk dv dV s'.heap H (frs X.stack) →
    wpAny (model X.prog X.w) X.A (makeTail "<lambda>" (X.env.qual ++ "<lambda>") params (.expr body) scope X.env dV .none none pos pos.line) Q X.xe s') →
  wpAny (model X.prog X.w) X.A (eval (.Lambda params body scope pos) X.env) Q X.xe s
theorem lmD0 {params : Arguments} (hdef : defaultsOf params X.env = ([], [])) : LmD X params 0 := fun pins σ H s body scope pos Q I q => by
  refine (PySem.W.kla_eval hdef ?_)
  rw [makeFunction_eq]
  simp only [List.zip_nil_right, List.filterMap_nil, List.isEmpty_nil, if_true, pure_bind] at ⊢
  exact q [] .none s rfl I (.inl ⟨rfl, rfl⟩)
theorem lmD1 {params : Arguments} {z : Int} {j : Nat} {p : Pos} (hd : params.defaults = [.Constant (.int z) j p]) (hk : params.kw_defaults = []) : LmD X params 1 := fun pins σ H s body scope pos Q I q => by
  refine PySem.W.kdv_lam (by rw [hd]; rfl) hk ?_
  rw [hd]
  refine PySem.W.kdv_all1 (wpAny_mono ((pe_int (X := X) (i := z) (j := j) (pos := p)).run pins s σ H (fun _ H1 => H1 = H) I rfl) (fun u s1 hq => ?_) fun _ _ x => x)
  obtain ⟨v, H1, I1, _, e⟩ := hq
  rw [e] at I1
  refine PySem.W.kdv_all0 ?_
  rw [makeFunction_eq]
  simp only [List.zip_nil_right, List.filterMap_nil, List.isEmpty_nil, if_true, pure_bind, List.isEmpty_cons, Bool.false_eq_true, if_false]
  refine (wpAny_bind (wpAny_newTextTuple ?_))
  refine q [u] (.ref s1.heap.objs.size) _ rfl (I1.kept fun b o e => Heap.get?_push_of_some _ e) (.inr ⟨_, by simp, rfl, Heap.get?_push_size _ rfl, I1.hok.fresh (Nat.le_refl _), nofr_of I1 _ (Nat.le_refl _)⟩)
/-- a name for an object without a cell -/
theorem HS.name {f : Addr} (x : HS P g h H) : HS P (g.mk' h.nx f) ⟨h.nx + 1, h.cs⟩ H ∧ G.le g (g.mk' h.nx f) := by
  have l : G.le g (g.mk' h.nx f) := ⟨Ex.refl _, fun i a q => by
    show (if i = h.nx then some f else g.ρ i) = some a
    by_cases z : i = h.nx
    · subst z; rw [x.new _ (Nat.le_refl _)] at q; cases q
    · rw [if_neg z]; exact q⟩
  have old : ∀ {i : Nat} {c : C}, h.get i = some c → (g.mk' h.nx f).ρ i = g.ρ i := fun {i c} e => by
    obtain ⟨a, o, h1, _⟩ := x.cell i c e
    have ne : i ≠ h.nx := fun z => by rw [z, x.new _ (Nat.le_refl _)] at h1; cases h1
    exact if_neg ne
  refine ⟨⟨x.fr, fun i c e => ?_, fun i j c c' e1 e2 q => ?_, fun i hi => ?_, x.bot.trans l⟩, l⟩
  · obtain ⟨a, o, h1, h2, h3, h4⟩ := x.cell i c e
    exact ⟨a, o, (old e).trans h1, h2, h3, h4.mono l.1 l.2⟩
  · rw [old e1, old e2] at q
    exact x.inj i j c c' e1 e2 q
  · have hi : h.nx + 1 ≤ i := hi
    show (if i = h.nx then some f else g.ρ i) = none
    rw [if_neg (by omega)]
    exact x.new i (by omega)
end
/-! ### x(lambda: e) -/
/-- a() in the def that got the lambda named n -/
def fAct (n : Nat) (fb : FE) (sl : Sl) : FE := fun slZ h => match gs slZ 0 with
  | some (.ref m) => (match Nat.beq m n with
    | true => fb sl h | false => .no)
  | _ => .no
def fLam (i t ng : Nat) (sH : FE → FS) (fb : FE) : FE := fun sl h => match h.get i with
  | some (.tbl t') => (match Nat.beq t' t with
    | true => fDef ng (sH (fAct h.nx fb sl)) [.ref h.nx] ⟨h.nx + 1, h.cs⟩
    | false => .no)
  | _ => .no
/-- the def that calls what it got: what its body does, told by what a() does -/
def HrdOk (P : Pm) (prog : Program) (w : World) (K : PySem.W.Frag) (mg : Str → Option Value) (base : Heap) (Ng : List Str) (qg : Str) (sg : Scope) (g : Addr) (cdg : Value) (bg : List Stmt) (a : Str) (sH : FE → FS) : Prop :=
  ∀ (g0 : G) (A : Around) (outer : List Env) (s : Shared) (H : Hp) (E : XK) (fc : FE), (∀ (E' : XK) (pn : List (Addr × Obj)) (xe : Value → Shared → Prop) (p1 p2 : Pos), Tk ((cxOf (L2.CX prog w) prog w K mg base Ng qg sg g cdg A outer s H E).tr pn xe) E' →
      PE ((cxOf (L2.CX prog w) prog w K mg base Ng qg sg g cdg A outer s H E).tr pn xe) (.Call (.Name a p1) [] [] p2) (rdE (P.on g0) E' fc)) →
    PSs (cxOf (L2.CX prog w) prog w K mg base Ng qg sg g cdg A outer s H E) bg (rdS (P.on g0) E (sH fc))
section
variable {P : Pm} {E : XK} {X : Cx}
theorem Out.off {g0 g : G} {Q : VK} {E' : XK} {r : R D} (l0 : G.le g0 g) (o : Out (P.on g0) g (rv (P.on g0)) Q E' r) : Out P g (rv P) Q E' r := by
  cases r with
  | ok d h => exact fun g' H v l hs r => o g' H v l (hs.on g0 (l0.trans l)) (r.on g0)
  | exc c p h =>
    refine fun g' H cls dd l hs x => o g' H cls dd l (hs.on g0 (l0.trans l)) ?_
    refine ⟨x.1, ?_⟩
    have x2 := x.2
    cases p with
    | none => exact trivial
    | some q =>
      obtain ⟨a, fs, v, h1, h2, h3, h4⟩ := x2
      exact ⟨a, fs, v, h1, h2, h3, h4.on g0⟩
  | no => exact o
theorem Out.on {g0 g : G} {Q : VK} {E' : XK} {r : R D} (lb : G.le P.gh g) (o : Out P g (rv P) Q E' r) : Out (P.on g0) g (rv (P.on g0)) Q E' r := Out.off (P := P.on g0) (g0 := P.gh) lb o
theorem sE_lam {i t k n : Nat} {x a : Str} {gf c : Addr} {pg : Arguments} {bg : List Stmt} {sg : Scope} {dV kV doc pm cdv ct oc : Value} {an od : Option Addr} {osl : Array (Option Value)} {Ng NL ls : List Str} {sH : FE → FS} {fb : FE}
    {params : Arguments} {body : Expr} {scope : Scope} {p lpos pos : Pos} (hK : X.K = P.K) (tk : Tk X E) (hg : Gl X x) (hm : X.mg x = some (.ref gf)) (hk : PySem.W.keepIn X.K (.ref gf) = true)
    (lk : X.K.lookup gf = some ⟨oc, od, .func (PySem.W.fnOf x x pg bg sg dV kV doc pm an cdv ct), osl⟩) (hcg : PySem.W.codeIn X.K cdv x = true) (hb : L2.Binds X.K (PySem.W.fnOf x x pg bg sg dV kV doc pm an cdv ct) [a] []) (Sg : FnScope Ng [a] sg) (hNg : Ng[0]? = some a) (hva : Vis sg a)
    (hG : HrdOk P X.prog X.w X.K X.mg X.base Ng x sg gf cdv bg a sH) (TB : TabB X.base X.mg c (P.TA t)) (hcode : X.env.code = .ref c) (hq : P.TQ t = X.env.qual ++ "<lambda>") (hr : Room (k + 2) X.A) (L : LmS X.env.scope scope X.N NL ls) (hD : LmD X params ls.length) (hbind : LmB params body scope ls)
    (hbody : ∀ (A : Around) (outer : List Env) (s : Shared) (H : Hp) (E : XK) (f c' : Addr), Room k (A.deeper (lamEnv X scope s.heap.objs.size f c')) → PE (lmCx X NL A outer s H E scope f c') body (rdE P E fb))
    (hdb : (x == ("__debug__" : Str)) = false := by decide) (hd : (a == ("__debug__" : Str)) = false :=
        by decide) (hcd : (a == ("__classdict__" : Str)) = false := by decide) :
    PE X (.Call (.Name x p) [.Lambda params body scope lpos] [] pos) (rdE P E (fLam i t Ng.length sH fb)) := by
  refine ⟨fun pins s σ H Q I hh => ?_⟩
  obtain ⟨g, sl, h, xr, o⟩ := hh
  unfold fLam at o
  cases e1 : h.get i with
  | none => rw [e1] at o; exact o.elim
  | some cc =>
    rw [e1] at o
    cases cc with
    | tbl t' =>
      cases e2 : Nat.beq t' t with
      | false => simp only [e2] at o; exact o.elim
      | true =>
        simp only [e2] at o
        have e3 : t' = t := Nat.eq_of_beq_eq_true e2
        subst e3
        refine (wpAny_Call_Name_kw (ld_glob I hg hm ?_ hdb))
        refine (PySem.W.callWith_K (h₀ := X.base) I.ok.mod.kin hk ?_ (by rfl) (by rfl))
        show (wpAny _ _ (spliced ((false, eval (.Lambda params body scope lpos) X.env) :: backTo pos (starEach [] X.env))) _ _ s)
        refine Calls.spliced_cons (hD pins σ H s body scope lpos _ I fun dv dV' s0 hl I0 hdv => ?_)
        refine lm_tail I0 xr.hs hK TB hcode e1 hq (lm_has L I0.ok) hdv fun f c' doc' pm' ctv H1 s' g1 I1 l1 hs1 hf hfn hfr hco dv1 => ?_
        refine (Calls.spliced_nil ⟨I1.kIn, ?_⟩)
        obtain ⟨hs2, l2⟩ := HS.name (f := f) hs1
        have at0 : (g1.mk' h.nx f).ρ h.nx = some f := if_pos rfl
        have bt : G.le P.gh (g1.mk' h.nx f) := hs2.bot
        have rc : codeAny (model X.prog X.w) X.A (.call (.ref gf) ⟨[.ref f], []⟩) (CR (L2.CX X.prog X.w) X.stack X.prog X.w H1 s' Q E) s' := by
          refine run_ofS (CX := L2.CX X.prog X.w) (N := Ng) (ps := [a]) (us := [.ref f]) (vs := [.ref f]) lk hcg Sg hr I1.env0 (hb s' [.ref f] I1.kIn rfl) (.cons rfl .nil) rfl fun hr' => ?_
          refine ⟨_, hG (g1.mk' h.nx f) X.A X.stack s' H1 E (fAct h.nx fb sl) (fun E' pn xe p1 p2 tk' => ?_), ?_⟩
          · refine PE.weak (lm_act (i := 0) (p1 := p1) (p2 := p2) (k := k) I1 L hf hfn hfr dv1 hl hbind tk' hr' (fun A outer s H hr2 => hbody A outer s H E' f c' hr2) hNg hva hd hcd) fun σZ HZ Q' hz => ?_
            obtain ⟨g2, slZ, h2, xz, oz⟩ := hz
            unfold fAct at oz
            cases q1 : gs slZ 0 with
            | none => rw [q1] at oz; exact oz.elim
            | some d =>
              rw [q1] at oz
              cases d with
              | ref m =>
                cases q2 : Nat.beq m h.nx with
                | false => simp only [q2] at oz; exact oz.elim
                | true =>
                  simp only [q2] at oz
                  have q3 : m = h.nx := Nat.eq_of_beq_eq_true q2
                  subst q3
                  have lz : G.le (g1.mk' h.nx f) g2 := xz.hs.bot
                  obtain ⟨v, z1, z2⟩ := xz.slot 0 _ q1
                  have z3 : v = .ref f := by
                    cases z2 with
                    | ref er =>
                      rw [lz.2 _ _ at0] at er
                      cases er; rfl
                  subst z3
                  have lp : G.le P.gh g2 := bt.trans lz
                  have sp : HS P g2 h2 HZ := xz.hs.on P.gh lp
                  exact ⟨z1, xz.hs.fr _ _ (lz.1 _ _ hco), g2, sl, h2, xr.le ((l1.trans l2).trans lz) sp, Out.off lz oz⟩
              | _ => exact oz.elim
          · refine ⟨g1.mk' h.nx f, [some (.ref h.nx)] ++ List.replicate (Ng.length - 1) none, ⟨h.nx + 1, h.cs⟩, sr_start (ds := [.ref h.nx]) (hs2.on _ (.refl _)) (.cons (.ref at0) .nil), ?_⟩
            have o2 : Out (P.on (g1.mk' h.nx f)) (g1.mk' h.nx f) (rv (P.on (g1.mk' h.nx f))) Q E (fDef Ng.length (sH (fAct h.nx fb sl)) [.ref h.nx] ⟨h.nx + 1, h.cs⟩) := Out.on bt (Out.le (P := P) o (l1.trans l2))
            unfold fDef at o2
            rw [show ([D.ref h.nx].map some ++ List.replicate (Ng.length - [D.ref h.nx].length) none : Sl) = [some (.ref h.nx)] ++ List.replicate (Ng.length - 1) none from rfl] at o2
            cases q : sH (fAct h.nx fb sl) ([some (.ref h.nx)] ++ List.replicate (Ng.length - 1) none) ⟨h.nx + 1, h.cs⟩ with
            | nx sl h' => rw [q] at o2; exact fun g' σ H' l x => o2 g' H' .non l x.hs .non
            | rt d h' => rw [q] at o2; exact o2
            | exc c p h' => rw [q] at o2; exact o2
            | bk sl h' => rw [q] at o2; exact o2.elim
            | ct sl h' => rw [q] at o2; exact o2.elim
            | no => rw [q] at o2; exact o2.elim
        have hx : Passes (L2.CX X.prog X.w) X E := passes_call tk fun _ _ _ _ h => h
        refine (wpAny_call (codeAny_mono rc fun r s2 hq => ?_))
        cases r with
        | error e => exact hx pins σ H1 s' e s2 I1 hq
        | ok fl =>
          cases fl with
          | ret u => exact I1.after hq
          | next => exact False.elim hq
          | brk => exact False.elim hq
          | cont => exact False.elim hq
    | _ => exact o.elim
/-- in a lambda's body: what is raised leaves it so -/
theorem tk_lm {NL : List Str} {A : Around} {outer : List Env} {s : Shared} {H : Hp} {scope : Scope} {f c' : Addr} : Tk (lmCx X NL A outer s H E scope f c') E := takes_of (E₁ := fun e' s'' => L2.CX X.prog X.w outer H s E e' s'') rfl rfl rfl rfl
/-- the binding of an empty call -/
theorem lmB0 {params : Arguments} {body : Expr} {scope : Scope} (hb : ∀ (q : Str) (cl : List (Str × Addr)) (doc pm cv ct : Value), bindArgs (lmFn q params body scope cl .none doc pm cv ct) ⟨[], []⟩ = pure []) : LmB params body scope [] := fun q cl dV doc pm cv ct dv s H S hl d => by
  cases dv with
  | cons a b => cases hl
  | nil =>
    rcases d with ⟨_, e⟩ | ⟨td, e, _⟩
    · subst e; exact BindsTo.of_eq (hb q cl doc pm cv ct)
    · exact absurd rfl e
theorem lmB1 {params : Arguments} {body : Expr} {scope : Scope} {y : Str} (hb : ∀ (q : Str) (cl : List (Str × Addr)) (dV doc pm cv ct : Value), ∃ kk : Option (Array Value) → Sem (List (Str × Value)), bindArgs (lmFn q params body scope cl dV doc pm cv ct) ⟨[], []⟩ = seqItems? dV >>= kk ∧ ∀ u : Value, kk (some #[u]) = pure [(y, u)]) : LmB params body scope [y] :=
  fun q cl dV doc pm cv ct dv s H S hl d => by
  match dv, hl with
  | [u], _ =>
    rcases d with ⟨e, _⟩ | ⟨td, _, e, h1, _⟩
    · cases e
    · subst e
      obtain ⟨kk, h2, h3⟩ := hb q cl (.ref td) doc pm cv ct
      exact BindsTo.of_defaults rfl h1 rfl h2 (h3 u)
end
end EV
end S_EwI
section S_EwJ
/-! EwJ: what is raised within a comprehension goes on in the def's frame. -/
namespace EV
open PySem PySem.Spec PyProof.Rows L2 Evl LamX
theorem note_same {x : Value} {e1 e2 : Env} (h : e1.frame = e2.frame) : noteFrame x e1 = noteFrame x e2 := by
  unfold noteFrame PySem.frameOf
  rw [h]
section
variable {M : Model} {A : Around} {E : Value → Shared → Prop} {s : Shared} {Z :
    Obj → Prop} {base : Heap} {env : Env} {outer l : List Env} {L e : Addr}
/-- noted elsewhere, now by this frame -/
theorem looks_farZ {fl : Value} {Q : Unit → Shared → Prop} (hZ : HandSPX.Steady Z) (hfr : A.frames = some (env :: outer)) (hf : env.frame = some L) (hkb : base.StaysIn s.heap) (hen : base.get? e = none) (hl : s.heap.FunFrames base (env :: outer)) (ht : HandSPX.TracedZ s.heap base e Z fl)
    (hne : (fl == rawInt L) = false) (hQ : ∀ h', HandSPX.HeldZ base (env :: outer) e Z L h' → s.heap.UpToSlots h' → Q () { s with heap := h' }) : wpAny M A (noteFrame (.ref e) env) Q E s := by
  rcases ht with ⟨oe, vs, T, oT, ts, he, hz, hd, h1, hnT, hTe, hT, hdT, h3⟩
  unfold noteFrame; simp only [hf]
  refine (wpAny_bind (wpAny_field he hd h1 ?_))
  rw [if_pos (show (Value.ref T != Value.none)
      = true from by simp)]
  refine (wpAny_bind (wpAny_field hT hdT h3 ?_))
  rw [if_neg (show ¬ ((fl == rawInt L) = true) from by rw [hne]; exact Bool.false_ne_true)]
  refine (wpAny_bind (wpAny_setField hT hdT (Array.getElem?_eq_some_iff.mp h3).1 ?_))
  have far : ∀ b, b ≠ T → (s.heap.update T (Obj.mapFields (·.setIfInBounds 3 Value.none))).get? b = s.heap.get? b := fun b hb => Heap.get?_update_other _ _ (Ne.symm hb)
  have noRec : ∀ b o, s.heap.get? b = some o → (∀ vs, o.data ≠ .fields vs) → b ≠ T := fun b o hb hnf q => by
    rw [q, hT]
        at hb; injection hb with hb; subst hb; exact hnf ts hdT
  refine HandSPX.wpAny_entryZ hZ hfr (hl.of_keeps fun b o hb hnf => ⟨o, (far b (noRec b o hb hnf)).trans hb, rfl⟩) hf ((far e (Ne.symm hTe)).trans he) (fun b o hbo => (far b fun q => by rw [q, hnT] at hbo; cases hbo).trans (hkb b o hbo)) hen hd (Array.getElem?_eq_some_iff.mp h1).1 hz fun h' hN => ?_
  obtain ⟨x1, x2, x3, x4⟩ := hN
  exact hQ h' ⟨x1, hen, x2, x3⟩ fun b o hb hnf => x4 b o ((far b (noRec b o hb hnf)).trans hb) hnf
end
/-- the heap without C -/
theorem without (h : Heap) (C : Addr) : ∃ G : Heap, (∀ b, b ≠ C → G.get? b = h.get? b) ∧ G.get? C = none := by
  obtain ⟨G, g1, g2⟩ := L2.restrict h fun b => decide (b ≠ C)
  exact ⟨G, fun b hb => g1 b (by simpa using hb), g2 C (by simp)⟩
theorem rawInt_ne {a b : Addr} (h : a ≠ b) : (rawInt a == rawInt b) = false := by
  unfold rawInt
  simp only [beq_eq_false_iff_ne, ne_eq, Value.int.injEq, not_and]
  exact fun z => absurd (Int.ofNat.inj z) h
/-- a comprehension's context, what is raised in it told by xe -/
abbrev blkE (X : Cx) (s : Shared) (H : Hp) (scope : Scope) (cenv : Env) (fp : List Addr) (xe : Value → Shared → Prop) : Cx := { X.blk s H scope cenv fp with xe := xe }
section
variable {X : Cx} {E : XK} {pins : List (Addr × Obj)} {σ : L2.St} {H : Hp} {s : Shared}
theorem takes_blk {scope : Scope} {ce : Env} {fp : List Addr} (hst : X.stack = X.env :: X.outer) (hf : X.env.frame = some X.env.locals) (tk : Tk X E) (hce : ce.frame = X.env.frame) (I3 : Inv X pins σ H s) (hC : s.heap.objs.size ≤ ce.locals)
    (hfp : ∀ b ∈ fp, (b ∈ X.ex ∨ X.s_0.heap.objs.size ≤ b) ∧ b ≠ X.env.locals ∧ (∀ x c, X.env.cells.lookup x = some c → c ≠ b) ∧ ∀ p ∈ X.pn ++ pins, p.1 ≠ b) :
    Tk (blkE X s H scope ce fp (notedBy (model X.prog X.w) X.A ce (CompFails (model X.prog X.w) X.A X.xe ce))) E := by
  intro u s1 ⟨a, B, sI, pinsZ, σZ, HZ, cls, d, eu, IZ, nb, up, sky, na, os, ag, w⟩
  subst eu
  have hfr : X.A.frames = some (X.env :: X.outer) := by rw [← hst]; exact I3.ok.frames
  generalize hCe : ce.locals = C at hC
  have nL : C ≠ X.env.locals := fun z => by
    have h1 := I3.lt
    rw [← z] at h1
    exact Nat.lt_irrefl _ (Nat.lt_of_lt_of_le h1 hC)
  have nfC : C ∉ frs X.stack := nofr_of I3 C hC
  have nHC : HZ C = none := by
    have z : HZ ce.locals = none := IZ.free
    rw [hCe] at z; exact z
  obtain ⟨m, ⟨oC, es, ep, eC, dC, rC⟩, _⟩ := IZ.loc
  have eC : sI.heap.get? ce.locals = some oC := eC
  rw [hCe] at eC
  have BC : B.get? C = some oC := nb C oC eC nfC
  -- noted by the def's frame
  have key : ∀ h1, HandSPX.HeldZ B (X.env :: X.outer) a (Zc cls d) X.env.locals h1 → s1.heap.UpToSlots h1 → CompFails (model X.prog X.w) X.A X.xe ce (.ref a) { s1 with heap := h1 } := by
    intro h1 ⟨f1, f2, f3, oe, vs, T, oT, ts, k1, k2, k3, k4, k5, k6, k7, k8, k9⟩ up1
    have e1C : h1.get? C = some oC := f1 C oC BC
    refine ⟨m, ⟨oC, es, ep, by rw [hCe]; exact e1C, dC, rC⟩, fun h' m' hn' sb => ?_⟩
    rw [hCe] at sb
    have sb2 : ∀ b, b ≠ C → h'.get? b = h1.get? b := sb.2
    obtain ⟨B', b1, b2⟩ := without B C
    have naC : a ≠ C := fun z => by
      rw [z, e1C] at k1; cases k1
      rw [dC] at k3; cases k3
    have nTC : T ≠ C := fun z => by
      rw [z, e1C] at k7; cases k7
      rw [dC] at k8; cases k8
    have bB : ∀ b o, B'.get? b = some o → b ≠ C ∧ B.get? b = some o := fun b o e => by
      by_cases z : b = C
      · rw [z, b2] at e; cases e
      · exact ⟨z, (b1 b z).symm.trans e⟩
    have frC : ∀ L ∈ frs (X.env :: X.outer), L ≠ C := fun L hL z => nfC (by rw [hst]; exact z ▸ hL)
    have ff : h'.FunFrames B' (X.env :: X.outer) := by
      have g1 : h1.FunFrames B' (X.env :: X.outer) := funFrames_none f3 fun L hL => by
        rw [b1 L (frC L hL)]
        exact (f3.mem hL).1
      clear f3
      have gen : ∀ l : List Env, (∀ L ∈ frs l, L ≠ C) → h1.FunFrames B' l → h'.FunFrames B' l := by
        intro l
        induction l with
        | nil => exact fun _ _ => trivial
        | cons e0 r ih =>
          intro hn ⟨q1, ⟨L, o, q2, q3, q4, q5⟩, q6⟩
          have hL : L ∈ frs (e0 :: r) := List.mem_filterMap.mpr ⟨e0, List.mem_cons_self, q2⟩
          refine ⟨q1, ⟨L, o, q2, q3, (sb2 L (hn L hL)).trans q4, q5⟩, ih (fun L' hL' => hn L' ?_) q6⟩
          obtain ⟨e1, he1, q⟩ := List.mem_filterMap.mp hL'
          exact List.mem_filterMap.mpr ⟨e1, List.mem_cons_of_mem _ he1, q⟩
      exact gen _ frC g1
    have hh : HandSPX.HeldZ B' (X.env :: X.outer) a (Zc cls d) X.env.locals h' := by
      refine ⟨fun b o e => ?_, by rw [b1 a naC]; exact f2, ff, oe, vs, T, oT, ts, (sb2 a naC).trans k1, k2, k3, k4, by rw [b1 T nTC]; exact k5, k6, (sb2 T nTC).trans k7, k8, k9⟩
      obtain ⟨z, e'⟩ := bB b o e
      exact (sb2 b z).trans (f1 b o e')
    -- it goes on
    unfold PySem.passOn
    refine wpAny_bind (wpAny_field ((sb2 a naC).trans k1) k3 k4 ?_)
    rw [if_neg (show ¬ ((Value.ref T == Value.none)
        = true) from by simp)]
    rw [hce, hf]
    refine wpAny_bind (HandSPX.setFlight_onZ (s := { s1 with heap := h' }) hh fun h2 hh2 up2 => ?_)
    refine wpAny_throw ?_
    obtain ⟨G, g1, g2⟩ := without sI.heap C
    have gG : ∀ b o, G.get? b = some o → b ≠ C ∧ sI.heap.get? b = some o := fun b o e => by
      by_cases z : b = C
      · rw [z, g2] at e; cases e
      · exact ⟨z, (g1 b z).symm.trans e⟩
    have old : ∀ b o, s.heap.get? b = some o → b ≠ C := fun b o e z => by
      rw [z] at e
      exact Nat.lt_irrefl _ (Nat.lt_of_lt_of_le (Heap.lt_size e) hC)
    have un : Un (frs X.stack) fp H HZ s.heap sI.heap := IZ.base
    have IX : Inv X pins σ HZ { sI with heap := G } := by
      refine I3.call' (ch := fp) (s' := { sI with heap := G }) IZ.os ⟨fun b o e n hb hx => ?_, fun b o e n hb hx => ?_, un.free, fun b o e hx => ?_, un.tups, un.frzs, un.tbls⟩ (fun b o q => ?_) IZ.bare hfp
      · exact (g1 b (old b o e)).trans (un.keep b o e n hb hx)
      · obtain ⟨sl, z⟩ := un.slot b o e n hb hx
        exact ⟨sl, (g1 b (old b o e)).trans z⟩
      · obtain ⟨o', z⟩ := un.there b o e hx
        exact ⟨o', (g1 b (old b o e)).trans z⟩
      · refine (IZ.hok b o q).stay (fun c u hc r => (g1 c fun hm => ?_).trans r) (fun _ r => r) fun _ _ r => r
        rcases hc with hc | hc
        · rw [← hc, hm, nHC] at q; cases q
        · rw [hm, nHC] at hc; cases hc
    refine tk (.ref a) _ ⟨a, B', { sI with heap := G }, pins, σ, HZ, cls, d, rfl, IX, fun b o e hb => ?_, fun b o e hnf => ?_, .inr (.inr (by rw [hst]; exact hh2)), na, os, ag, w⟩
    · obtain ⟨z, e'⟩ := gG b o e
      exact (b1 b z).trans (nb b o e' hb)
    · obtain ⟨z, e'⟩ := gG b o e
      obtain ⟨sl, e2⟩ := up b o e' hnf
      obtain ⟨sl2, e3⟩ := up1 b _ e2 hnf
      obtain ⟨sl3, e4⟩ := up2 b _ ((sb2 b z).trans e3) hnf
      exact ⟨sl3, e4⟩
  show wpAny _ _ (noteFrame (.ref a) ce) _ _ s1
  rw [note_same hce]
  have sky : Sky B (X.env :: X.outer) a (Zc cls d) ce.locals s1.heap := by rw [← hst]; exact sky
  rcases sky with ⟨hB, hn, hl, oe,
      vs, he, hz, hd, h1⟩ | fl | hd
  · exact HandSPX.look_newZ Zc.steady hfr hl hf he hB hn hd h1 hz key
  · exact HandSPX.looks_onZ Zc.steady hfr hf fl key
  · obtain ⟨q1, q2, q3, q4⟩ := hd
    exact looks_farZ Zc.steady hfr hf q1 q2 q3 q4 (rawInt_ne (by rw [hCe]; exact nL)) key
end
end EV
end S_EwJ
section S_EwK
/-! EwK: [e for .. in ..] whose e may raise; a, b = a list. -/
namespace EV
open PySem PySem.Spec PyProof.Rows L2 Evl LamX
section
variable {X : Cx} {E : XK} {pins : List (Addr × Obj)} {σ : L2.St} {H : Hp} {s : Shared}
/-- a comprehension's elements | items: judged in its context, whatever lets out what E takes -/
abbrev InB (X : Cx) (E : XK) (scope : Scope) (J : Cx → Prop) : Prop := ∀ (s : Shared) (H : Hp) (C : Addr) (cl : List (Str × Addr)) (fp : List Addr) (xe : Value → Shared → Prop), Tk (blkE X s H scope (compEnvC scope cl C X.env) fp xe) E → J (blkE X s H scope (compEnvC scope cl C X.env) fp xe)
theorem pe_lcx {elt tg iter : Expr} {scope : Scope} {own : List (Str × Nat)} {pos : Pos} {wi : TI} {g : TG} {te : TE} (hst : X.stack = X.env :: X.outer) (hf : X.env.frame = some X.env.locals) (tk : Tk X E) (hc : X.calm = true) (hN : X.N.Nodup) (hi : PI X tg iter wi) (ok : BlkOk X.N X.env.scope scope own)
    (hg : InB X E scope fun Z => PG Z tg g) (he : InB X E scope fun Z => PE Z elt te) (hs : ∀ x, foldedSetIterable iter X.env x = pure x := by intro _; rfl) : PE X (.ListComp elt [⟨tg, iter, [], 0⟩] scope pos) (tLc wi g tYes te (own.map (·.2))) := by
  refine (⟨fun pins s σ H Q I h => ?_⟩)
  have hfree : ∀ y ∈ scope.names, y.2 = .free → ∃ c, X.env.cells.lookup y.1 = some c :=
      fun y hy e => by
    rcases ok.free y
        hy e with k | k
    · exact I.ok.has _ (.inl k)
    · exact I.ok.has _ (.inr k)
  rw [eval_ListComp]
  refine comprehension_at (use := none) rfl hs (closure_ok hfree) ok.kind (fun y hy e => by rw [ok.uniq y hy, e]) (thn (hi.run pins s σ H _ I h) fun xv s1 hx => thn hx fun itv s2 h2 => ?_)
  rcases h2 with ⟨it, fp, tn, J, H2, e, I2, T, st2, f2, q⟩
  subst e
  refine (wpAny_newObj_type (newEnv_comp ?_) (by show 0 ≤ sizeLine; decide))
  generalize hD :
      s2.heap.objs.size = D
  have hDn : H2 D = none := (I2.hok.fresh (Nat.le_of_eq hD))
  rcases q D hDn with ⟨W, ⟨m0, w0⟩, turn⟩
  generalize hs3 : ({ s2 with heap := s2.heap.push { cls := .type "list", data := .seq ([] : List Value).toArray } }
      : Shared) = s3
  have I3 : Inv X pins σ (upd H2 D (.lst [])) s3 :=
      by
    rw [← hs3]
    refine (I2.laid (t' := s2.toks) (fun b o e => Heap.get?_push_of_some _ e) (Nat.le_of_eq hD) ⟨Nat.zero_le _, [], 0, .nil, ?_⟩)
    rw [← hD]; exact Heap.get?_push_size _ rfl
  have h3 : s3.heap = s2.heap.push { cls := .type "list", data := .seq ([] : List Value).toArray } := (by rw [← hs3])
  have f3 : ∀ b ∈ fp, FpOk X pins (upd H2 D (.lst [])) b ∧ b < s3.heap.objs.size :=
      fun b hb => by
    rcases T.obj _ _ st2 b hb with ⟨o, e, _⟩
    have hlt := Heap.lt_size e
    refine (⟨⟨?_, (f2 b hb).2⟩, by rw [h3, Heap.size_push]; exact Nat.lt_succ_of_lt hlt⟩)
    rw [upd_ne (by rw [← hD]; exact Nat.ne_of_lt hlt)]; exact (f2 b hb).1
  have st3 : tn 0 s3.heap := (T.keep _ _ _ st2 fun b _ o e => by rw [h3]; exact Heap.get?_push_of_some _ e)
  have I4 := (block_start I3 ok hN f3)
  have fpc : ∀ b ∈ fp, (b ∈ X.ex ∨ X.s_0.heap.objs.size ≤ b) ∧ b ≠ X.env.locals ∧ (∀ x c, X.env.cells.lookup x = some c → c ≠ b) ∧ ∀ p ∈ X.pn ++ pins, p.1 ≠ b := fun b hb => ⟨(f3 b hb).1.2.2.2.1, (f3 b hb).1.2.1, (f3 b hb).1.2.2.2.2.1, (f3 b hb).1.2.2.2.2.2⟩
  have TK := takes_blk (scope := scope) (ce := compEnvC scope (cellsFrom (s3.heap.objs.size + 1) scope.names (cloFrom X.env.cells scope.names [])) s3.heap.objs.size X.env) hst hf tk rfl I3 (Nat.le_refl _) fpc
  have pg := hg s3 (upd H2 D (.lst [])) s3.heap.objs.size (cellsFrom (s3.heap.objs.size + 1) scope.names (cloFrom X.env.cells scope.names [])) fp _ TK
  have pe := he s3 (upd H2 D (.lst [])) s3.heap.objs.size (cellsFrom (s3.heap.objs.size + 1) scope.names (cloFrom X.env.cells scope.names [])) fp _ TK
  show codeAny _ _ (.compStart (.ListComp elt [⟨tg, iter, [], 0⟩] scope pos) 0 (.ref it) (.ref D) (compEnvC scope (cellsFrom (s3.heap.objs.size + 1) scope.names (cloFrom X.env.cells scope.names [])) s3.heap.objs.size X.env)) (compEnds (model X.prog X.w) X.A X.xe none (EP X pins σ Q) (.ref D) (compEnvC scope (cellsFrom (s3.heap.objs.size + 1) scope.names (cloFrom X.env.cells scope.names [])) s3.heap.objs.size X.env)) { s3 with heap := pushCells (s3.heap.push { cls := .type "dict", data := .dict #[] }) scope.names }
  have nfp : ∀ b ∈ fp, (upd H2 D (.lst [])) b = none := (fun b hb => (f3 b hb).1.1)
  have cL0 : (compEnvC scope (cellsFrom (s3.heap.objs.size + 1) scope.names (cloFrom X.env.cells scope.names [])) s3.heap.objs.size X.env).locals = s3.heap.objs.size := rfl
  generalize hce : compEnvC scope (cellsFrom (s3.heap.objs.size + 1) scope.names (cloFrom X.env.cells scope.names [])) s3.heap.objs.size X.env = ce at I4 TK pg pe cL0 ⊢
  have cL : ce.locals = s3.heap.objs.size := cL0
  generalize hH3 : upd H2 D (.lst []) = H3 at I3 I4 TK pg pe w0 nfp f3
  generalize hs4 : ({ s3 with heap := pushCells (s3.heap.push { cls := .type "dict", data := .dict #[] }) scope.names }
      : Shared) = s4 at I4 ⊢
  generalize hXE : notedBy (model X.prog X.w) X.A ce (CompFails (model X.prog X.w) X.A X.xe ce) = XB at TK pg pe
  have st4 : tn 0 s4.heap := (T.keep _ _ _ st3 fun b _ o e => by rw [← hs4]; exact pushCells_keeps _ _ _ _ (Heap.get?_push_of_some _ e))
  have I4' : Inv (blkE X s3 H3 scope ce fp XB) [] (wipe σ (own.map (·.2))) H3 s4 := ⟨⟨I4.ok.mod, I4.ok.kind, I4.ok.glob, I4.ok.blt, I4.ok.above, I4.ok.inj, I4.ok.has, I4.ok.cab, I4.ok.hd, I4.ok.frames, I4.ok.stk, I4.ok.exf, I4.ok.bs, I4.ok.bsz, I4.ok.noex, I4.ok.exfs, I4.ok.funs, I4.ok.frf⟩, I4.os, I4.bare, I4.base, I4.loc, I4.cell, I4.free, I4.freeC, I4.pin, I4.hok, I4.len⟩
  have stat : ∀ {σ' : L2.St} {H' : Hp} {s' : Shared}, Inv (blkE X s3 H3 scope ce fp XB) [] σ' H' s' → (∀ b ∈ fp, H' b = none) → ∀ b ∈ fp, FpOk (blkE X s3 H3 scope ce fp XB) [] H' b := fun {σ' H' s'} I' hn b hb =>
    ⟨hn b hb, (I'.ok.exf b hb).1, I'.ok.exfs b hb, .inl hb, fun x c e => (I'.ok.exf b hb).2 x c e, fun p hp =>
        absurd (show p ∈ ([] : List (Addr × Obj)) ++ [] from hp) (by simp)⟩
  have EX : notedBy (model X.prog X.w) X.A ce (fun e s' => compEnds (model X.prog X.w) X.A X.xe none (EP X pins σ Q) (.ref D) ce (.error e) s') = XB := by rw [← hXE]; rfl
  have loop : codeAny (model X.prog X.w) X.A (.compLoop (.ListComp elt [⟨tg, iter, [], 0⟩] scope pos) 0 (.ref it) (.ref D) ce) (compEnds (model X.prog X.w) X.A X.xe none (EP X pins σ Q) (.ref D) ce) s4 := by
    refine compLoop_any (fun n s' => ∃ i H', Inv (blkE X s3 H3 scope ce fp XB) [] (wipe σ (own.map (·.2))) H' s' ∧ tn i s'.heap ∧ (∀ b ∈ fp, H' b = none) ∧ W i n H') ?_ m0 ⟨0, H3, I4', st4, nfp, w0⟩
    rw [EX]
    rintro n s5 ⟨i, H5,
        I5, st5, n5, w5⟩
    rcases turn i n H5 w5 with ⟨stop,
        qq⟩ | ⟨go, Nx, hNx, step⟩
    · have td := T.done (blkE X s3 H3 scope ce fp XB) rfl rfl rfl hc i [] s5 _ H5 (fun _ _ => False) I5 (stat I5 n5) st5 stop
      refine (thnF td fun r s6 ⟨hr, I6⟩ => ?_)
      subst hr
      have I7 : Inv X pins σ H5 s6 := I3.call' (ch := fp) I6.os I6.base I6.hok I6.bare fpc
      have nC : H5 s3.heap.objs.size = none :=
          by
        have z : H5 ce.locals = none := (I6.free)
        rw [cL] at z; exact z
      obtain ⟨m, hn, _⟩ := I6.loc
      have hn : s6.heap.Ns ce.locals m := (hn)
      obtain ⟨g0, g1, g2, g3, g4, g5⟩ := I3.fpOk (H' := H5) (Nat.le_refl _) nC
      refine ⟨m, hn, fun h'' sb => ⟨.ref D, H5, I7.turned (t' := s6.toks) (fun b o hb e => (sb.2 b (by rw [cL]; exact hb)).trans e) g0 g1 g3 g4 g5, rfl, qq⟩⟩
    · have ti := T.item (blkE X s3 H3 scope ce fp XB) rfl rfl rfl hc i [] s5 _ H5 (fun _ _ => False) I5 (stat I5 n5) st5 go
      refine (thnF ti fun r s6 ⟨u, hr, h6⟩ => ?_)
      subst hr
      refine (thnF h6 fun _ s7 ⟨x, H7, I7, r7, y7, st7, n7⟩ => ?_)
      have I7' := (I7.pinned (stat I7 n7) (T.obj _ _ st7))
      refine thn (pg.run _ s7 _ H7 x u _ I7' r7 (step x H7 y7)) fun _ s8 ⟨σ8, H8, I8, hw8, q8⟩ => ?_
      refine wpAny_tests_nil ?_
      rw [if_pos rfl]
      refine thn (pe.run _ s8 σ8 H8 _ I8 q8) fun z s10 ⟨yv, H10, I10, r10, acc, hD10, hz10, nx⟩ => ?_
      refine app_ok (X := blkE X s3 H3 scope ce fp XB) I10 hD10 hz10 r10 fun s11 I' => ?_
      obtain ⟨m', hm, w'⟩ := hNx _ nx
      have pin' : ∀ b ∈ fp, ∀ o, s7.heap.get? b = some o → s11.heap.get? b = some o ∧ (upd H10 D (.lst (acc ++ [yv]))) b = none := fun b hb o e =>
        let z :=
            I'.pin (b, o) (List.mem_append_right _ (List.mem_append_right _ (mem_pinsAt hb e)))
        ⟨z.1, z.2.1⟩
      have hl : (wipe σ (own.map (·.2))).length = σ8.length := (by rw [← hw8, wipe_length])
      refine ⟨m', hm, i + 1, _, (I'.unpinned (pins := [])).weak hl (fun j v e => ?_), T.keep _ _ _ st7 fun b hb o e => (pin' b hb o e).1, fun b hb => ?_, w'⟩
      · rw [← hw8] at e
        exact (wipe_some e).1
      · rcases T.obj _ _ st7 b hb with ⟨o, e, _⟩
        exact (pin' b hb o e).2
  exact (codeAny_compStart_list loop (T.self X.A 0 _ _ _ st4 loop))
end
section
variable {P : Pm} {E : XK} {X : Cx} {vs : List Nat} {pos : Pos} {es : List Expr}
def lcX (tg : FG) (f : FE) (i : Nat) (sl : Sl) : List D → Hc → R Unit
  | [], h => .ok () h
  | d :: ds, h => match tg d sl with
    | none => .no
    | some sl1 => (f sl1 h).bind fun y h => match app i y h with
        | some h => lcX tg f i sl ds h | none => .no
def fLcx (m : Bool) (own : List Nat) (fi : FA) (tg : FG) (f : FE) : FE := fun sl h => (fi sl h).bind fun ds h => (lcX tg f h.nx (wipeS sl own) ds (h.new (.lst []))).bind fun _ h2 => fin m h.nx h2
theorem fLcx_rd {m : Bool} {own : List Nat} {fi : FA} {ft : FG} {f : FE} : ∀ σ H Q, rdE P E (fLcx m own fi ft f) σ H Q → tLc (rdI P E fi) (rdG P own ft) tYes (rdE P E f) own σ H Q := fun σ H Q ⟨g, sl, h, x, o⟩ =>
  ⟨g, sl, h, x, Out.bind o fun ds h1 g1 H1 J l1 s1 wk o1 => fun D hD => by
    obtain ⟨s2, l2, e2⟩ := s1.mk' hD (.lst (P := P) (F := g1.F) (ρ := g1.ρ) .nil)
    refine ⟨fun i m' H' => m' = ds.length - i ∧ i ≤ ds.length ∧ ∃ g' h', G.le (g1.mk' h1.nx D) g' ∧ HS P g' h' H' ∧ Out P g' (rv P) Q E ((lcX ft f h1.nx (wipeS sl own) (ds.drop i) h').bind fun _ h2 => fin m h1.nx h2), ⟨ds.length, by omega, Nat.zero_le _, _, _, .refl _, s2, Out.le (r := (lcX ft f h1.nx (wipeS sl own) ds (h1.new (.lst []))).bind fun _ h2 => fin m h1.nx h2) o1 l2⟩, ?_⟩
    rintro i m' H' ⟨rfl, hi, g', h', l', s', o'⟩
    have eD : g'.ρ h1.nx = some D := l'.2 _ _ e2
    obtain ⟨go, stop⟩ := wk i g' h' H' (l2.trans l') s'
    cases q : ds[i]? with
    | none =>
      have hl := List.getElem?_eq_none_iff.mp q
      rw [List.drop_eq_nil_of_le hl] at o'
      exact .inl ⟨stop q, fin_ok s' eD o'⟩
    | some d =>
      obtain ⟨hlt, e⟩ := List.getElem?_eq_some_iff.mp q
      have hd : ds.drop i = d :: ds.drop (i + 1) := by rw [← e]; exact List.drop_eq_getElem_cons hlt
      rw [hd] at o'
      obtain ⟨jg, jy⟩ := go d q
      refine .inr ⟨jg, fun H2 => ∃ g2 h2, G.le (g1.mk' h1.nx D) g2 ∧ HS P g2 h2 H2 ∧ Out P g2 (rv P) Q E ((lcX ft f h1.nx (wipeS sl own) (ds.drop (i + 1)) h2).bind fun _ h2 => fin m h1.nx h2), fun H2 ⟨g2, h2, l2, s2, o2⟩ => ⟨ds.length - (i + 1), by omega, rfl, hlt, g2, h2, l2, s2, o2⟩, fun v H2 y => ?_⟩
      obtain ⟨g2, l3, s3, r3⟩ := jy v H2 y
      have x3 : SR P g2 (wipeS sl own) h' (L2.wipe σ own) H2 := (x.le ((l1.trans l2).trans (l'.trans l3)) s3).wipe own
      have o3 : Out P g2 (rv P) Q E ((lcX ft f h1.nx (wipeS sl own) (d :: ds.drop (i + 1)) h').bind fun _ h2 => fin m h1.nx h2) := Out.le o' l3
      simp only [lcX] at o3
      cases q2 : ft d (wipeS sl own) with
      | none => simp only [q2] at o3; exact o3.elim
      | some sl1 =>
        simp only [q2] at o3
        refine ⟨g2, wipeS sl own, h', d, x3, r3, sl1, q2, fun σ3 x4 hw => ⟨hw.trans wipe_wipe, ?_⟩⟩
        dsimp only [tYes]
        rw [if_pos rfl]
        refine ⟨g2, sl1, h', x4, ?_⟩
        have o6 : Out P g2 (rv P) Q E ((f sl1 h').bind fun y h => (match app h1.nx y h with
          | some h => lcX ft f h1.nx (wipeS sl own) (ds.drop (i + 1)) h | none => .no).bind fun _ h2 => fin m h1.nx h2) := by
          cases q7 : f sl1 h' <;> (rw [q7] at o3; exact o3)
        refine Out.bind o6 fun y h7 g7 H7 yv l7 s7 r7 o7 => ?_
        have l6 : G.le (g1.mk' h1.nx D) g2 := l'.trans l3
        cases q8 : app h1.nx y h7 with
        | none => rw [q8] at o7; exact o7.elim
        | some h8 =>
          rw [q8] at o7
          obtain ⟨acc, z1, z2, z3⟩ := app_ev s7 ((l6.trans l7).2 _ _ e2) r7 q8
          exact ⟨acc, z1, z2, g7, h8, l6.trans l7, z3, o7⟩⟩
theorem sE_lcx {m : Bool} {elt tg iter : Expr} {scope : Scope} {own : List (Str × Nat)} {fi : FA} {ft : FG} {f : FE} (hst : X.stack = X.env :: X.outer) (hf : X.env.frame = some X.env.locals) (tk : Tk X E) (hc : X.calm = true) (hN : X.N.Nodup) (hi : PI X tg iter (rdI P E fi)) (ok : BlkOk X.N X.env.scope scope own)
    (hg : InB X E scope fun Z => PG Z tg (rdG P (own.map (·.2)) ft)) (he : InB X E scope fun Z => PE Z elt (rdE P E f)) (hs : ∀ x, foldedSetIterable iter X.env x = pure x := by intro _; rfl) :
    PE X (.ListComp elt [⟨tg, iter, [], 0⟩] scope pos) (rdE P E (fLcx m (own.map (·.2)) fi ft f)) := PE.weak (pe_lcx hst hf tk hc hN hi ok hg he hs) fLcx_rd
/-- a list unpacked -/
def gLs (n : Nat) (fs : List D → Sl → Option Sl) : FG := fun d sl => match d with
  | .lst xs => (match Nat.beq xs.length n with
    | true => fs xs sl | false => none)
  | _ => none
theorem sG_lst {k n : Nat} {f : List D → Sl → Option Sl} (hc : X.calm = true) (h : PGs X es (rdGs P vs f)) (hn : (assignEach es X.env).length = n := by rfl) (hst : (assignEach es X.env).findIdx? (·.1) = none := by rfl) (hK : X.K = P.K := by rfl) : PG X (.Tuple es k pos) (rdG P vs (gLs n f)) :=
  PG.weak (pg_lst hc h hn hst) fun v σ H Q ⟨g, sl, h, d, s, r, sl', e, k⟩ => by
  cases r with
  | @lst a ws xs h1 rr =>
    have e' : (match Nat.beq xs.length n with
      | true => f xs sl | false => none) = some sl' := e
    cases q : Nat.beq xs.length n with
    | false => rw [q] at e'; cases e'
    | true =>
      rw [q] at e'
      exact ⟨a, ws, rfl, .inl (.inl (s.hs.fr _ _ h1)), by rw [← rr.length]; exact Nat.eq_of_beq_eq_true q, g, sl, h, xs, s, rr, sl', e', k⟩
  | _ => cases e
end
end EV
end S_EwK
section S_EwL
/-! EwL: tuple(d.items()) of an empty dict. -/
namespace PySem
section
variable {prog : Program} {w : World} {A : Around} {E : Value → Shared → Prop} {s : Shared} {r d : Addr} {ep : Nat} {K : Type} [DecidableEq K] {knd : KeyKind prog w K}
theorem code_tuple_items0 {Q₁ : Value → Shared → Prop} (hh : A.handled = none) (hv : s.heap.IsItemsView r d) (hm : s.heap.DictAt knd d [] ep)
    (h : ∀ (h' : Heap) (tk : Nat), (∀ b o, s.heap.get? b = some o → h'.get? b = some o) → Q₁ (.ref h'.objs.size) { s with heap := h'.push { cls := .type "tuple", data := .seq #[] }, toks := tk }) :
    codeAny (model prog w) A (.call (.builtin "tuple.__new__") ⟨[.type "tuple", .ref r], []⟩) (wants Q₁ E) s :=
        by
  refine codeAny_of_tree ?_
  show (wpAny _ A.in1 (do checkBuiltinCall "tuple.__new__" ⟨[.type "tuple", .ref r], []⟩; again (.builtin "tuple.__new__" ⟨[.type "tuple", .ref r], []⟩)) _ _ s)
  refine (wpAny_bind (wpAny_of_eq (F.newCall_tuple_1 _) (wpAny_pure ⟨plainId_quiet F.plain_tuple_new _, codeAny_builtin F.entry_tuple_new ?_⟩)))
  rw [Around.under_plainId
      F.plain_tuple_new _]
  have hsub := sub_tuple_self
  have hinit := (init_tuple_lookup)
  have hmh := madeHere_tuple
  have hTI : s.TypeIs (.ref r) "dict_items" := let ⟨o, ho, hc, _⟩ := hv; ⟨o, ho, hc⟩
  wp_walk using wpAny_typeOf hTI, PySem.W.kdx_collect (knd := knd) (kvs := []) (ep := ep) (A := A.in1) hh hv hm (Nat.zero_le _)
  intro h' tk as hk hl _
  have ea : as = [] := List.length_eq_zero_iff.mp hl
  subst ea
  show wpAny _ _ (Builtin.Tuple.tupleExact #[] >>= fun v => ret v) _ _ _
  unfold Builtin.Tuple.tupleExact at ⊢
  refine wpAny_bind (wpAny_newObj_type ?_ (by show 0 ≤ sizeLine; decide))
  exact wpAny_pure (h h' tk hk)
theorem call_tuple_items0 {Q : Value → Shared → Prop} (hh : A.handled = none) (hv : s.heap.IsItemsView r d) (hm : s.heap.DictAt knd d [] ep)
    (h : ∀ (h' : Heap) (tk : Nat), (∀ b o, s.heap.get? b = some o → h'.get? b = some o) → Q (.ref h'.objs.size) { s with heap := h'.push { cls := .type "tuple", data := .seq #[] }, toks := tk }) :
    wpAny (model prog w) A (call (.type "tuple") [.ref r]) Q E s :=
        by
  refine callType_codes (Q₁ :=
      fun obj s₁ => s₁.TypeIs obj "tuple" ∧ Q obj s₁) F.called_tuple (F.typeCall_tuple_1 _) F.entry_object_init
    (code_tuple_items0 (A := A.in1) hh hv hm fun h' tk hk => ⟨⟨_, Heap.get?_push_size _ rfl, rfl⟩, h h' tk hk⟩) fun obj s₁ h₁ => ?_
  exact (⟨h₁.1, F.args_object_init_2 obj _, object_init_meets F.called_tuple.init.lookup F.called_tuple.made (by decide) prog w A.in1 _ s₁ ⟨h₁.1, rfl, h₁.2⟩⟩)
end
end PySem
namespace EV
open PySem PySem.Spec PyProof.Rows L2 Evl
section
variable {P : Pm} {E : XK} {X : Cx} {e : Expr} {f : FE} {p apos cpos pos : Pos}
def fTi (f : FE) : FE := fun sl h => (f sl h).bind fun d h => match isE h d with
  | true => .ok (.tup []) h | false => .no
theorem sE_ti (hc : X.calm = true) (he : PE X e (rdE P E f)) (hg : Gl X "tuple") (hm : X.mg "tuple" = none) (hv : bootBuiltins "tuple" = some (.type "tuple")) (hbase : attributeBase e "items" X.env (eval e X.env) = eval e X.env := by rfl) (hline : (apos.endLine == cpos.line) = true := by rfl)
    (hs : starEach [.Call (.Attribute e "items" apos) [] [] cpos] X.env = (false, eval (.Call (.Attribute e "items" apos) [] [] cpos) X.env) :: starEach [] X.env :=
        by rfl) :
    PE X (.Call (.Name "tuple" p) [.Call (.Attribute e "items" apos) [] [] cpos] [] pos) (rdE P E (fTi f)) := by
  refine (⟨fun pins s σ H Q I hq => ?_⟩)
  obtain ⟨g, sl, h, x, o⟩ := hq
  refine (wpAny_Call_Name_kw (ld_blt I hg hm hv ?_))
  refine (PyProof.Rows.callWith_type1 ?_ hs rfl)
  rw [hs]
  show (wpAny _ _ (spliced ((false, eval (.Call (.Attribute e "items" apos) [] [] cpos) X.env) :: backTo pos (starEach [] X.env))) _ _ s)
  refine Calls.spliced_cons ?_
  refine wpAny_Call_method (T := "dict") (id := "dict.items") hbase rfl hline F.plainAttrs_dict F.slot_dict_items F.type_dict_items (thn (he.run pins s σ H (fun v H1 => ∃ g1 h1, HS P g1 h1 H1 ∧ (∃ a, v = .ref a ∧ DL P g1 H1 a [] []) ∧ Out P g1 (rv P) Q E (.ok (.tup []) h1)) I ⟨g, sl, h, x, ?_⟩) fun u s1 hx => ?_)
  · unfold fTi at o
    refine Out.bind o fun d h1 g1 H1 v l1 s1 r1 o1 => ?_
    cases q : isE h1 d with
    | false => rw [q] at o1; exact o1.elim
    | true =>
      rw [q] at o1
      exact ⟨g1, h1, s1, isE_ok s1 r1 q, o1⟩
  · obtain ⟨v, H1, I1, rx, g1, h1, s1', ⟨a, ev, dl⟩, o1⟩ := hx
    subst ev
    obtain rfl : u = .ref a := rx
    obtain ⟨hs0, hdo⟩ := dl_empty I1 dl
    rcases hdo.dictAt with ⟨ep, hat⟩
    refine (⟨hdo.typeIs, hdo.mapOf.noDict, ?_⟩)
    show wpAny _ _ (callWith cpos (.builtin "dict.items") [.ref a] [] []) _ X.xe s1
    refine method_meetsIn F.slot_dict_items F.entry_dict_items rfl (PySem.evalArgs_none ⟨rfl, hdo.typeIs, F.args_dict_items_1 _, _, meets_dict_items (mixKind X.prog X.w) a hs0, ⟨[], hdo⟩, ?_⟩)
    refine Calls.spliced_nil ?_
    have I2 : Inv X pins σ H1 { s1 with heap := s1.heap.push { cls := .type "dict_items", data := .fields #[.ref a] } } := I1.kept (t' := s1.toks) fun b ob q => Heap.get?_push_of_some _ q
    refine call_tuple_items0 (knd := mixKind X.prog X.w) (d := a) (ep := ep) (I1.ok.hd hc) ⟨_, Heap.get?_push_size _ rfl, rfl, rfl⟩ (hat.push _) fun h' tk hk => ?_
    have I3 : Inv X pins σ H1 { s1 with heap := h', toks := tk } := I2.kept hk
    have hn : H1 h'.objs.size = none := I3.hok.fresh (Nat.le_refl _)
    have I4 : Inv X pins σ (upd H1 h'.objs.size (.tup [])) { s1 with heap := h'.push { cls := .type "tuple", data := .seq #[] }, toks := tk } :=
      I3.laid (fun b ob q => Heap.get?_push_of_some _ q) (Nat.le_refl _) ⟨Nat.zero_le _, [], .nil, ⟨_, Heap.get?_push_size _ rfl, rfl, 0, rfl⟩⟩
    exact ⟨.ref _, _, I4, rfl, new_tup s1' .nil hn o1⟩
end
end EV
end S_EwL
section S_EwM
/-! EwM: tests, x == (), a dict of the module, a dict of lists made fast, what is garbage. -/
namespace EV
open PySem PySem.Spec PyProof.Rows L2 Evl
section
variable {P : Pm} {E : XK} {X : Cx} {e o i : Expr} {f fo fi : FE} {t : FT} {pos : Pos}
theorem sT_w (h : PW X e (rdT P E t)) : PT X e (rdT P E t) := ⟨fun pins s σ H Q I q => h.run (eval e X.env) pins s σ H Q I q⟩
theorem s_setLc2 {m : Bool} {i : Nat} {y : Str} {py spos : Pos} {elt tg iter tg1 iter1 : Expr} {scope : Scope} {own : List (Str × Nat)} {vs1 : List Nat} {fi fi1 : FA} {ft ft1 : FG} (hc : X.calm = true) (hN : X.N.Nodup) (hy : X.N[i]? = some y) (hyl : X.env.scope.names.lookup y = some .local)
    (hsw : swapsWith (.ListComp elt [⟨tg, iter, [], 0⟩, ⟨tg1, iter1, [], 0⟩] scope pos) (some (.Name y py)) spos.line X.env = pure true) (hi : PI X tg iter (rdI P E fi)) (ok : BlkOk X.N X.env.scope scope own) (hv : ∀ i ∈ vs1, i ∈ own.map (·.2))
    (hg : ∀ (s : Shared) (H : Hp) (C : Addr) (cl : List (Str × Addr)) (fp : List Addr), PG (X.blk s H scope (compEnvC scope cl C X.env) fp) tg (rdG P (own.map (·.2)) ft))
    (hi1 : ∀ (s : Shared) (H : Hp) (C : Addr) (cl : List (Str × Addr)) (fp : List Addr), PI (X.blk s H scope (compEnvC scope cl C X.env) fp) tg1 iter1 (rdI P E0 fi1))
    (hg1 : ∀ (s : Shared) (H : Hp) (C : Addr) (cl : List (Str × Addr)) (fp : List Addr), PG (X.blk s H scope (compEnvC scope cl C X.env) fp) tg1 (rdG P vs1 ft1))
    (he : ∀ (s : Shared) (H : Hp) (C : Addr) (cl : List (Str × Addr)) (fp : List Addr), PE (X.blk s H scope (compEnvC scope cl C X.env) fp) elt (rdE P E0 f)) (hs : ∀ x, foldedSetIterable iter X.env x = pure x := by intro _; rfl) (hs1 : ∀ env x, foldedSetIterable iter1 env x = pure x := by intro _ _; rfl) :
    PS X (.Assign [.Name y py] (.ListComp elt [⟨tg, iter, [], 0⟩, ⟨tg1, iter1, [], 0⟩] scope pos) spos) (rdS P E (sSet i (fLc2 m (own.map (·.2)) vs1 fi ft fi1 ft1 f))) :=
  PS.weak (ps_setLc2 hc hN hy hyl hsw hi ok hv hg (fun _ _ _ _ _ => sTs_nil) hi1 hg1 (fun _ _ _ _ _ => sTs_nil) he hs hs1) fun D σ H ⟨g, sl, h, x, o⟩ => fLc2_rd σ H _ ⟨g, sl, h, x, OutS.st o fun d h1 g1 H1 v l1 s1 r1 o1 => o1 g1 _ H1 (.refl _) ((x.le l1 s1).set r1)⟩
/-- x == () of a tuple -/
def dEqU : D2 := fun a b h => match b with
  | .tup [] => (match a with
    | .tup xs => .ok (.bl (Nat.beq xs.length 0)) h | _ => .no)
  | _ => .no
theorem oEqU (rm : Rm P X) : OpS P E X (compareOp .Eq) dEqU := by
  intro pins s σ H x y v u Q I rx ry ⟨g, h, a, b, hs, ra, rb, o⟩
  have hu := rm.u
  cases rb with
  | @tup p' ws ys t2 r2 =>
    cases ys with
    | cons _ _ => exact o.elim
    | nil =>
      cases ra with
      | @tup p vs xs t1 r1 =>
        obtain rfl : v = .ref p := rx
        obtain rfl : u = Value.ref p' := ry
        obtain ⟨us, v1, p1, _⟩ := I.tuple (ex_t hs.fr (by rw [rm.K]; exact t1))
        obtain ⟨zs, v2, p2, _⟩ := I.tuple (ex_t hs.fr (by rw [rm.K]; exact t2))
        have z1 : zs.length = 0 := by rw [← v2.length, ← r2.length]; rfl
        have z2 : us.length = xs.length := by rw [← v1.length, ← r1.length]
        show wpAny _ _ (richCompare .Eq (.ref p) (.ref p')) _ _ _
        refine PySem.SeqAt.rcIn_tuples (e := fun _ => true) p1 p2 (by omega) (fun j h1 h2 => ?_) ?_
        · have h3 : j < zs.toArray.size := h2
          rw [List.size_toArray, z1] at h3
          exact absurd h3 (Nat.not_lt_zero _)
        · rw [all_true, List.size_toArray, List.size_toArray, z1, z2, Bool.true_and]
          have e : (xs.length == 0) = Nat.beq xs.length 0 := by
            cases xs.length <;> rfl
          rw [e]
          exact ⟨.bl _, H, I, rfl, Out.now (rel := rv P) (d := D.bl _) o hs (.bl _)⟩
      | _ => exact o.elim
  | _ => exact o.elim
/-- {k: v} -/
def fDs1 (fk fv : FE) : FE := fun sl h => (fk sl (h.new (.dct [] []))).bind fun x h1 => (fv sl h1).bind fun y h2 => match dcPut h.nx x y h2 with
  | some h3 => .ok (.ref h.nx) h3 | none => .no
theorem sE_ds1 {k v : Expr} {fk fv : FE} (rm : Rm P X) (hk : PE X k (rdE P E fk)) (hv : PE X v (rdE P E fv)) : PE X (.Dict [some k] [v] pos) (rdE P E (fDs1 fk fv)) := by
  refine ⟨fun pins s σ H Q I ⟨g, sl, h, x, o⟩ => ?_⟩
  have hn := (I.hok.fresh (Nat.le_refl s.heap.objs.size))
  have I1 := (I.laid (a := s.heap.objs.size) (o := .dK []) (h' := s.heap.push { cls := .type "dict", data := .dict #[] }) (t' := s.toks) (fun _ _ q => Heap.get?_push_of_some _ q) (Nat.le_refl _) (dk_empty s.heap I.big))
  obtain ⟨s1, l1, e1⟩ := x.hs.mk' hn (.dct (P := P) (F := g.F) (ρ := g.ρ) .nil)
  rw [arm_eval_Dict, zip_pairTrees [some k] [v] X.env pos rfl rfl, dictDisplay_pairs (pairTrees [some k] [v] X.env pos) (fun z => by cases z) (by show 1 < 17; decide)]
  refine (wpAny_bind (wpAny_standAt (wpAny_bind ?_)))
  unfold subDict
  refine wpAny_bind (wpAny_alloc (wpAny_bind (wpAny_holding ?_)))
  rw [if_pos (show (pairTrees [some k] [v] X.env pos).length ≤ 15 from by show 1 ≤ 15; omega)]
  have run := (pps_cons (pos := pos) hk hv pps_nil).run pins { s with heap := s.heap.push { cls := .type "dict", data := .dict #[] } } σ _
    (fun ps H2 => ∃ g2 h2 a b y z h3, ps = [(y, z)] ∧ HS P g2 h2 H2 ∧ g2.ρ h.nx = some s.heap.objs.size ∧ RV P g2.F g2.ρ a y ∧ RV P g2.F g2.ρ b z ∧ dcPut h.nx a b h2 = some h3 ∧ ∀ H', HS P g2 h3 H' → Q (.ref s.heap.objs.size) H') I1 ?_
  · refine wpAny_bind (wpAny_mono run (fun vs s2 hq => ?_) fun _ _ e => e)
    obtain ⟨ps, H2, I2, rel, g2, h2, a, b, y, z, h3, ep, hs2, e2, ra, rb, ed, q2⟩ := hq
    subst ep
    cases rel with
    | @cons p1 p2 ps2 vs2 r1 rest =>
      cases rest
      obtain ⟨u, r⟩ := p2
      obtain ⟨ru, rr⟩ := r1
      refine (wpAny_holding (wpAny_bind ?_))
      rw [List.forIn_cons]
      have ed' : (match h2.get h.nx with
        | some (.dct _ _) => setC h.nx a b h2 | _ => none) = some h3 := ed
      cases qd : h2.get h.nx with
      | none => rw [qd] at ed'; cases ed'
      | some c =>
        rw [qd] at ed'
        cases c with
        | dct ks vs =>
          refine wpAny_bind (wpAny_bind (wpAny_mono (st_ok rm X pins σ H2 s2 s.heap.objs.size y z u r (fun H' => Q (.ref s.heap.objs.size) H') X.xe rfl rfl rfl rfl I2 ru rr ⟨g2, h2, h.nx, a, b, h3, hs2, e2, ra, rb, ⟨ks, vs, qd⟩, ed', q2⟩) (fun _ s3 hq => ?_) fun _ _ e => e))
          obtain ⟨H3, I3, q3⟩ := hq
          refine wpAny_pure ?_
          show wpAny _ _ (forIn ([] : List (Value × Value)) PUnit.unit _) _ _ _
          rw [List.forIn_nil]
          exact wpAny_pure (wpAny_pure (wpAny_pure (wpAny_pure ⟨.ref _, H3, I3, rfl, q3⟩)))
        | _ => cases ed'
  · refine ⟨_, sl, h.new (.dct [] []), x.le l1 s1, Out.bind (Out.le (rel := rv P) (r := (fk sl (h.new (.dct [] []))).bind fun x h1 => (fv sl h1).bind fun y h2 => match dcPut h.nx x y h2 with
      | some h3 => R.ok (D.ref h.nx) h3 | none => R.no) o l1) fun a h1 g2 H1 y l2 s2 r2 o2 => ⟨g2, sl, h1, x.le (l1.trans l2) s2, Out.bind o2 fun b h2 g3 H2 z l3 s3 r3 o3 => ?_⟩⟩
    show ∃ g2 h2 a b y' z' h3, [(y, z)] = [(y', z')] ∧ _
    cases qd : dcPut h.nx a b h2 with
    | none => rw [qd] at o3; exact o3.elim
    | some h3 =>
      rw [qd] at o3
      have e3 := (l2.trans l3).2 _ _ e1
      exact ⟨g3, h2, a, b, y, z, h3, rfl, s3, e3, rv_le l3 r2, r3, qd, fun H' hs' => o3 g3 H' _ (.refl _) hs' (.ref e3)⟩
/-! ### a dict of the module: its keys asked for -/
abbrev KdT : Type := List (List Nat × Option Int)
def kdLook : KdT → List Nat → Option (Option Int)
  | [], _ => none
  | (k, v) :: r, s => match sEq k s with
    | true => some v | false => kdLook r s
structure KdF (P : Pm) (X : Cx) (n : Nat) (d : Addr) (T : KdT) : Prop where
  dic : ∃ es m, KDict X.K X.w d es m
  glo : P.Γ n = .ref d
  at_ : ∀ s i, kdLook T s = some (some i) → ∃ t, PySem.W.nsIn X.K d (toStr s) = some (some (.int i t))
  no : ∀ s, kdLook T s = some none → PySem.W.nsIn X.K d (toStr s) = some none
def isG (n : Nat) : D → Bool
  | .glo m => Nat.beq m n
  | _ => false
theorem isG_ok {n : Nat} {d : D} (h : isG n d = true) : d = .glo n := by
  cases d with
  | glo m => rw [Nat.eq_of_beq_eq_true h]
  | _ => cases h
def dKdN (n : Nat) (T : KdT) : D2 := fun a b h => match isG n b with
  | true => (match a with
    | .str s => R.opt (kdLook T s) fun o => .ok (.bl (match o with
      | some _ => false | none => true)) h
    | _ => .no)
  | false => .no
theorem oKdN {n : Nat} {d : Addr} {T : KdT} (F : KdF P X n d T) : OpS P E X (compareOp .NotIn) (dKdN n T) := by
  intro pins s σ H x y v u Q I rx ry ⟨g, h, a, b, hs, ra, rb, o⟩
  unfold dKdN at o
  cases q : isG n b with
  | false => rw [q] at o; exact o.elim
  | true =>
    rw [q] at o
    have eb := isG_ok q
    subst eb
    cases ra with
    | str z =>
      obtain ⟨r, e1, o⟩ := Out.opt o
      have ey : y = .ref d := by
        cases rb
        exact F.glo
      subst ey
      obtain ⟨es, m, D⟩ := F.dic
      refine op_notIn_kd D pins s σ H _ _ v u Q I rx ry ?_
      cases r with
      | none => exact ⟨_, _, rfl, rfl, F.no z e1, o.now hs (.bl _)⟩
      | some i =>
        obtain ⟨tk, e2⟩ := F.at_ z i e1
        exact ⟨_, _, rfl, rfl, e2, o.now hs (.bl _)⟩
    | _ => exact o.elim
def dKdG (n : Nat) (T : KdT) : D2 := fun a b h => match isG n a with
  | true => (match b with
    | .str s => (match kdLook T s with
      | some (some i) => .ok (.int i) h | _ => .no)
    | _ => .no)
  | false => .no
theorem sE_kdg {n : Nat} {d : Addr} {T : KdT} (F : KdF P X n d T) (ho : PE X o (rdE P E fo)) (hi : PE X i (rdE P E fi)) (hn : NoSl i := by intro _ _; rfl) : PE X (.Subscript o i pos) (rdE P E (f2 (dKdG n T) fo fi)) := by
  refine (⟨fun pins s σ H Q I q => ?_⟩)
  refine subD_of PySem.F.slot_dict_getitem.lookup hn (thn (ho.run pins s σ H _ I (f2_rd σ H Q q)) fun u s1 ⟨x, H1, I1, rx, q1⟩ => thn (hi.run pins s1 σ H1 _ I1 q1) fun iv s2 ⟨y, H2, I2, ry, g, h, a, b, hs, ra, rb, o⟩ => ?_)
  unfold dKdG at o
  cases q : isG n a with
  | false => rw [q] at o; exact o.elim
  | true =>
    rw [q] at o
    have ea := isG_ok q
    subst ea
    have ex : x = .ref d := by
      cases ra
      exact F.glo
    subst ex
    cases rb with
    | str z =>
      obtain rfl : u = .ref d := rx
      have o' : Out P g (rv P) Q E (match kdLook T z with
        | some (some i) => .ok (.int i) h | _ => .no) := o
      cases e1 : kdLook T z with
      | none => rw [e1] at o'; exact o'.elim
      | some r =>
        rw [e1] at o'
        cases r with
        | none => exact o'.elim
        | some j =>
          obtain ⟨tk, e2⟩ := F.at_ z j e1
          obtain ⟨es, m, D⟩ := F.dic
          exact ⟨kd_type D I2, op_item_kd D pins s2 σ H2 (.ref d) (.str (toStr z)) (.ref d) iv Q I2 rfl ry ⟨_, _, .int j, rfl, rfl, e2, ⟨tk, rfl⟩, o'.now hs (.int j)⟩⟩
    | _ => exact o.elim
/-! ### a dict of lists: all of it made fast -/
def frzV : List D → Hc → Option (List D × Hc)
  | [], h => some ([], h)
  | .ref j :: r, h => (match h.get j with
    | some (.lst xs) => (match frzV r (h.del j) with
      | some (ys, h') => some (.lst xs :: ys, h') | none => none)
    | _ => none)
  | d :: r, h => (match frzV r h with
    | some (ys, h') => some (d :: ys, h') | none => none)
variable {g : G} {h : Hc} {H : Hp}
theorem frz1 {d : D} {v : V} {r ys : List D} {h' : Hc} (hs : HS P g h H) (rd : RV P g.F g.ρ d v) (e : frzV (d :: r) h = some (ys, h')) :
    ∃ g1 h1 d1 zs, ys = d1 :: zs ∧ G.le g g1 ∧ HS P g1 h1 H ∧ RV P g1.F g1.ρ d1 v ∧ frzV r h1 = some (zs, h') ∧ h1.nx = h.nx ∧ ∀ k ks vs, h.get k = some (.dct ks vs) → h1.get k = some (.dct ks vs) := by
  have plain : (match frzV r h with
    | some (ys, h') => some (d :: ys, h') | none => none) = some (ys, h') → ∃ g1 h1 d1 zs, ys = d1 :: zs ∧ G.le g g1 ∧ HS P g1 h1 H ∧ RV P g1.F g1.ρ d1 v ∧ frzV r h1 = some (zs, h') ∧ h1.nx = h.nx ∧ ∀ k ks vs, h.get k = some (.dct ks vs) → h1.get k = some (.dct ks vs) := fun e => by
    cases q : frzV r h with
    | none => (rw [q] at e; cases e)
    | some p =>
      obtain ⟨zs, h2⟩ := p
      rw [q] at e
      cases e
      exact ⟨g, h, d, zs, rfl, .refl g, hs, rd, q, rfl, fun _ _ _ z => z⟩
  cases rd with
  | @ref j a hr =>
    have e' : (match h.get j with
      | some (.lst xs) => (match frzV r (h.del j) with
        | some (ys, h') => some (.lst xs :: ys, h') | none => none)
      | _ => none) = some (ys, h') := e
    cases q : h.get j with
    | none => rw [q] at e'; cases e'
    | some c =>
      rw [q] at e'
      cases c with
      | lst xs =>
        obtain ⟨b, ws, b1, b2, b3, b4⟩ := hs.lst q
        rw [hr] at b1; cases b1
        obtain ⟨s', l⟩ := hs.freeze q hr b3
        cases q2 : frzV r (h.del j) with
        | none => simp only [q2] at e'; cases e'
        | some p =>
          obtain ⟨zs, h2⟩ := p
          simp only [q2] at e'
          cases e'
          refine ⟨_, _, _, zs, rfl, l, s', .lst (show upd g.F a (.lst ws) a = _ from upd_same) (rvs_le l b4), q2, rfl, fun k ks vs z => ?_⟩
          have ne : k ≠ j := fun w => by rw [w, q] at z; cases z
          exact (cget_del_ne ne).trans z
      | _ => cases e'
  | _ => exact plain e
theorem frzV_ok : ∀ {ks vs : List D} {kvs : List (Key × V)}, ∀ {g : G} {h : Hc}, RKs P g.F g.ρ ks vs kvs → HS P g h H → ∀ {ys : List D} {h' : Hc}, frzV vs h = some (ys, h') →
    ∃ g', G.le g g' ∧ HS P g' h' H ∧ RKs P g'.F g'.ρ ks ys kvs ∧ h'.nx = h.nx ∧ ∀ k ks' vs', h.get k = some (.dct ks' vs') → h'.get k = some (.dct ks' vs')
  | _, _, _, g, h, .nil, hs, ys, h', e => by
    cases e
    exact ⟨g, .refl g, hs, .nil, rfl, fun _ _ _ z => z⟩
  | _, _, _, g, h, .int rd t, hs, ys, h', e => by
    obtain ⟨g1, h1, d1, zs, rfl, l1, s1, r1, e1, n1, k1⟩ := frz1 hs rd e
    obtain ⟨g2, l2, s2, r2, n2, k2⟩ := frzV_ok (t.mono l1.1 l1.2) s1 e1
    exact ⟨g2, l1.trans l2, s2, .int (rv_le l2 r1) r2, n2.trans n1, fun k ks' vs' z => k2 k ks' vs' (k1 k ks' vs' z)⟩
  | _, _, _, g, h, .str rd t, hs, ys, h', e => by
    obtain ⟨g1, h1, d1, zs, rfl, l1, s1, r1, e1, n1, k1⟩ := frz1 hs rd e
    obtain ⟨g2, l2, s2, r2, n2, k2⟩ := frzV_ok (t.mono l1.1 l1.2) s1 e1
    exact ⟨g2, l1.trans l2, s2, .str (rv_le l2 r1) r2, n2.trans n1, fun k ks' vs' z => k2 k ks' vs' (k1 k ks' vs' z)⟩
def frzDC (i : Nat) (h : Hc) : R D := match h.get i with
  | some (.dct ks vs) => (match Nat.beq (kdS ks) 1 with
    | true => .no
    | false => (match frzV vs h with
      | some (ys, h') => .ok (.ref i) (h'.set i (.dct ks ys)) | none => .no))
  | _ => .no
def frzDD (d : D) (h : Hc) : R D := match d with
  | .ref i => frzDC i h | _ => .no
/-- .. its lists -/
def fFv (f : FE) : FE := fun sl h => (f sl h).bind frzDD
theorem sE_fv (he : PE X e (rdE P E f)) : PE X e (rdE P E (fFv f)) := by
  refine PE.weak he fun σ H Q ⟨g, sl, h, x, o⟩ => ⟨g, sl, h, x, Out.bind o fun d h1 g1 H1 v l1 s1 r1 o1 => ?_⟩
  cases r1 with
  | @ref i a hr =>
    have o2 : Out P g1 (rv P) Q E (frzDC i h1) := o1
    unfold frzDC at o2
    cases q : h1.get i with
    | none => rw [q] at o2; exact o2.elim
    | some c =>
      rw [q] at o2
      cases c with
      | dct ks vs =>
        simp only at o2
        cases q1 : Nat.beq (kdS ks) 1 with
        | true => rw [q1] at o2; exact o2.elim
        | false =>
          rw [q1] at o2
          cases q2 : frzV vs h1 with
          | none => rw [q2] at o2; exact o2.elim
          | some p =>
            obtain ⟨ys, h'⟩ := p
            rw [q2] at o2
            obtain ⟨b, b1, b2, b3⟩ := s1.dct q
            rw [hr] at b1; cases b1
            rcases b3 with ⟨kvs, e1, rk⟩ | ⟨kvs, ob, e1, ne, rn⟩
            · obtain ⟨g2, l2, s2, r2, _, k2⟩ := frzV_ok rk s1 q2
              have s3 := s2.wr (c' := .dct ks ys) (o := .dK kvs) (k2 i ks vs q) (l2.2 _ _ hr) (.dct r2)
              have eH : upd H1 a (.dK kvs) = H1 := by
                funext z
                by_cases w : z = a
                · subst w; rw [upd_same, e1]
                · rw [upd_ne w]
              rw [eH] at s3
              exact o2 g2 H1 _ l2 s3 (.ref (l2.2 _ _ hr))
            · rw [kdS_n rn ne] at q1
              cases q1
      | _ => exact o2.elim
  | _ => exact o1.elim
end
end EV
end S_EwM
section S_EwN
/-! EwN: behind a statement what it made is forgotten. -/
namespace EV
open PySem PySem.Spec PyProof.Rows L2 Evl
mutual
/-- all cells named are below n -/
def refB (n : Nat) : D → Bool
  | .ref i => Nat.blt i n
  | .tup xs => refBs n xs
  | .lst xs => refBs n xs
  | .cst xs => refBs n xs
  | .dct ks vs => refBs n ks && refBs n vs
  | _ => true
def refBs (n : Nat) : List D → Bool
  | [] => true
  | d :: ds => refB n d && refBs n ds
end
def cellB (n : Nat) : C → Bool
  | .lst xs => refBs n xs
  | .dct ks vs => refBs n ks && refBs n vs
  | .ins _ _ vs => refBs n vs
  | .tbl _ => true
def keepS (n : Nat) : Sl → Sl
  | [] => []
  | some d :: r => (match refB n d with
    | true => some d | false => none) :: keepS n r
  | none :: r => none :: keepS n r
def keepK (n : Nat) : List (Nat × C) → List (Nat × C)
  | [] => []
  | (i, c) :: r => match Nat.blt i n with
    | true => (i, c) :: keepK n r | false => keepK n r
/-- what is kept names nothing that is forgotten -/
def okC (n : Nat) : List (Nat × C) → Bool
  | [] => true
  | (i, c) :: r => match Nat.blt i n with
    | true => (match cellB n c with
      | true => okC n r | false => false)
    | false => okC n r
section
variable {P : Pm} {F : Hp} {ρ : Nat → Option Addr} {n : Nat}
def cutρ (n : Nat) (ρ : Nat → Option Addr) : Nat → Option Addr := fun i => if i < n then ρ i else none
theorem ba2 {a b : Bool} (h : (a && b) = true) : a = true ∧ b = true := Bool.and_eq_true_iff.mp h
mutual
theorem RV.gc : ∀ {d : D} {v : V}, RV P F ρ d v → refB n d = true → RV P F (cutρ n ρ) d v
  | _, _, .non, _ => .non
  | _, _, .bl b, _ => .bl b
  | _, _, .int i, _ => .int i
  | _, _, .str s, _ => .str s
  | _, _, .tup h t, e => .tup h (RVs.gc t (by unfold refB at e; exact e))
  | _, _, .lst h t, e => .lst h (RVs.gc t (by unfold refB at e; exact e))
  | _, _, .cst h t, e => .cst h (RVs.gc t (by unfold refB at e; exact e))
  | _, _, .dct h t, e => .dct h (RKs.gc t (by unfold refB at e; exact (ba2 e).2))
  | _, _, .dctN h k t, e => .dctN h k (RNs.gc t (by unfold refB at e; exact (ba2 e).1) (by unfold refB at e; exact (ba2 e).2))
  | _, _, .ref (i := i) h, e => .ref (by unfold refB at e; unfold cutρ; exact (if_pos (show i < n from Nat.le_of_ble_eq_true e)).trans h)
  | _, _, .glo g, _ => .glo g
theorem RVs.gc : ∀ {d : List D} {v : List V}, RVs P F ρ d v → refBs n d = true → RVs P F (cutρ n ρ) d v
  | _, _, .nil, _ => .nil
  | _, _, .cons h t, e => .cons (RV.gc h (by unfold refBs at e; exact (ba2 e).1)) (RVs.gc t (by unfold refBs at e; exact (ba2 e).2))
theorem RKs.gc : ∀ {ks : List D} {d : List D} {v : List (Key × V)}, RKs P F ρ ks d v → refBs n d = true → RKs P F (cutρ n ρ) ks d v
  | _, _, _, .nil, _ => .nil
  | _, _, _, .int h t, e => .int (RV.gc h (by unfold refBs at e; exact (ba2 e).1)) (RKs.gc t (by unfold refBs at e; exact (ba2 e).2))
  | _, _, _, .str h t, e => .str (RV.gc h (by unfold refBs at e; exact (ba2 e).1)) (RKs.gc t (by unfold refBs at e; exact (ba2 e).2))
theorem RNs.gc : ∀ {ks : List D} {d : List D} {v : List (NestedKey × Addr × V)}, RNs P F ρ ks d v → refBs n ks = true → refBs n d = true → RNs P F (cutρ n ρ) ks d v
  | _, _, _, .nil, _, _ => .nil
  | _, _, _, .cons hk h8 ha h t, e1, e2 => .cons hk h8 (RV.gc ha (by unfold refBs at e1; exact (ba2 e1).1)) (RV.gc h (by unfold refBs at e2; exact (ba2 e2).1)) (RNs.gc t (by unfold refBs at e1; exact (ba2 e1).2) (by unfold refBs at e2; exact (ba2 e2).2))
end
theorem RFs.gc : ∀ {ks : List Nat} {d : List D} {v : List (Str × V)}, RFs P F ρ ks d v → refBs n d = true → RFs P F (cutρ n ρ) ks d v
  | _, _, _, .nil, _ => .nil
  | _, _, _, .cons h t, e => .cons (h.gc (by unfold refBs at e; exact (ba2 e).1)) (t.gc (by unfold refBs at e; exact (ba2 e).2))
theorem RC.gc {a : Addr} {c : C} {o : HO} : RC P F ρ a c o → cellB n c = true → RC P F (cutρ n ρ) a c o
  | .lst h, e => .lst (h.gc e)
  | .dct h, e => .dct (h.gc (ba2 e).2)
  | .dctN k h, e => .dctN k (h.gc (ba2 e).1 (ba2 e).2)
  | .ins h, e => .ins (h.gc e)
  | .tbl h t k, _ => .tbl h t k
theorem keepK_get : ∀ {cs : List (Nat × C)} {i : Nat} {c : C}, okC n cs = true → cget (keepK n cs) i = some c → i < n ∧ cellB n c = true
  | [], _, _, _, h => nomatch h
  | (j, x) :: r, i, c, o, h => by
    unfold keepK at h
    unfold okC at o
    cases q : Nat.blt j n with
    | false =>
      rw [q] at h o
      exact keepK_get o h
    | true =>
      rw [q] at h o
      cases q2 : cellB n x with
      | false => rw [q2] at o; cases o
      | true =>
        rw [q2] at o
        have h' : (if j = i then some x else cget (keepK n r) i) = some c := h
        by_cases z : j = i
        · rw [if_pos z] at h'; cases h'
          exact ⟨by rw [← z]; exact Nat.le_of_ble_eq_true q, q2⟩
        · rw [if_neg z] at h'
          exact keepK_get o h'
end
/-- each name at most once -/
def uniqC : List (Nat × C) → Bool
  | [] => true
  | (i, _) :: r => match cget r i with
    | some _ => false | none => uniqC r
theorem keepK_old {n : Nat} : ∀ {cs : List (Nat × C)} {i : Nat} {c : C}, uniqC cs = true → cget (keepK n cs) i = some c → cget cs i = some c
  | [], _, _, _, h => nomatch h
  | (j, x) :: r, i, c, u, h => by
    unfold keepK at h
    unfold uniqC at u
    show (if j = i then some x else cget r i) = some c
    cases q1 : cget r j with
    | some y => rw [q1] at u; cases u
    | none =>
      rw [q1] at u
      cases q : Nat.blt j n with
      | false =>
        rw [q] at h
        have e := keepK_old u h
        by_cases z : j = i
        · subst z
          rw [e] at q1; cases q1
        · rw [if_neg z]; exact e
      | true =>
        rw [q] at h
        have h' : (if j = i then some x else cget (keepK n r) i) = some c := h
        by_cases z : j = i
        · rw [if_pos z] at h' ⊢; exact h'
        · rw [if_neg z] at h' ⊢; exact keepK_old u h'
/-- .. and checked: what is at n and above is forgotten, so are the slots named -/
def gcR (n : Nat) (drop : List Nat) (sl : Sl) (h : Hc) (k : FS) : RS := match uniqC h.cs with
  | true => (match okC n h.cs with
    | true => k (keepS n (wipeS sl drop)) ⟨n, keepK n h.cs⟩ | false => .no)
  | false => .no
def gcU (drop : List Nat) (b : FS) : FS := fun sl h => match b sl h with
  | .nx sl1 h1 => gcR h.nx drop sl1 h1 sNil
  | r => r
theorem keepS_get {n : Nat} : ∀ {sl : Sl} {i : Nat} {d : D}, gs (keepS n sl) i = some d → gs sl i = some d ∧ refB n d = true
  | [], i, d, h => by cases h
  | some e :: r, 0, d, h => by
    have h' : (match refB n e with
      | true => some e | false => none) = some d := h
    cases q : refB n e with
    | false => rw [q] at h'; cases h'
    | true => rw [q] at h'; cases h'; exact ⟨rfl, q⟩
  | none :: r, 0, d, h => by cases h
  | some e :: r, i + 1, d, h => keepS_get (sl := r) (i := i) h
  | none :: r, i + 1, d, h => keepS_get (sl := r) (i := i) h
theorem keepS_len {n : Nat} : ∀ {sl : Sl}, (keepS n sl).length = sl.length
  | [] => rfl
  | some e :: r => congrArg Nat.succ (keepS_len (sl := r))
  | none :: r => congrArg Nat.succ (keepS_len (sl := r))
theorem wipeS_get {j : Nat} {d : D} : ∀ {vs : List Nat} {sl : Sl}, gs (wipeS sl vs) j = some d → gs sl j = some d
  | [], _, h => h
  | v :: vs, sl, h => by
    have h' : gs ((wipeS sl vs).set v none) j = some d := h
    by_cases z : v = j
    · subst z
      by_cases hl : v < (wipeS sl vs).length
      · rw [gs_set_self hl] at h'; cases h'
      · rw [List.set_eq_of_length_le (by omega)] at h'; exact wipeS_get h'
    · rw [gs_set_ne z] at h'; exact wipeS_get h'
theorem wipeS_len : ∀ {vs : List Nat} {sl : Sl}, (wipeS sl vs).length = sl.length
  | [], _ => rfl
  | v :: vs, sl => by
    show ((wipeS sl vs).set v none).length = sl.length
    rw [List.length_set]; exact wipeS_len
section
variable {P : Pm} {E : XK} {X : Cx} {b : FS} {body : List Stmt}
theorem gc_sr {g' : G} {n : Nat} {sl1 : Sl} {h1 : Hc} {σ : L2.St} {H : Hp} {drop : List Nat} (hb : G.le P.gh ⟨g'.F, cutρ n g'.ρ⟩) (u : uniqC h1.cs = true) (ok : okC n h1.cs = true) (x : SR P g' sl1 h1 σ H) : SR P ⟨g'.F, cutρ n g'.ρ⟩ (keepS n (wipeS sl1 drop)) ⟨n, keepK n h1.cs⟩ σ H := by
  refine ⟨⟨x.hs.fr, fun i c q => ?_, fun i j c c' q1 q2 e => ?_, fun i hi => if_neg (Nat.not_lt.mpr hi), hb⟩, by rw [keepS_len, wipeS_len]; exact x.len, fun i d q => ?_⟩
  · have q : cget (keepK n h1.cs) i = some c := q
    obtain ⟨hi, hc⟩ := keepK_get ok q
    obtain ⟨a, o, z1, z2, z3, z4⟩ := x.hs.cell i c (keepK_old u q)
    exact ⟨a, o, (if_pos hi).trans z1, z2, z3, z4.gc hc⟩
  · have q1 : cget (keepK n h1.cs) i = some c := q1
    have q2 : cget (keepK n h1.cs) j = some c' := q2
    have e' : (if i < n then g'.ρ i else none) = (if j < n then g'.ρ j else none) := e
    rw [if_pos (keepK_get ok q1).1, if_pos (keepK_get ok q2).1] at e'
    exact x.hs.inj i j c c' (keepK_old u q1) (keepK_old u q2) e'
  · obtain ⟨q1, q2⟩ := keepS_get q
    obtain ⟨v, z1, z2⟩ := x.slot i d (wipeS_get q1)
    exact ⟨v, z1, z2.gc q2⟩
theorem cut_le {g g' : G} {n : Nat} (l : G.le g g') (hn : ∀ i a, g.ρ i = some a → i < n) : G.le g ⟨g'.F, cutρ n g'.ρ⟩ := ⟨l.1, fun i a q => (if_pos (hn i a q)).trans (l.2 _ _ q)⟩
theorem s_gc {drop : List Nat} (h : PSs X body (rdS P E b)) : PSs X body (rdS P E (gcU drop b)) := PSs.weak h fun De σ H ⟨g, sl, h, x, o⟩ => by
  refine ⟨g, sl, h, x, ?_⟩
  unfold gcU at o
  cases q : b sl h with
  | nx sl1 h1 =>
    rw [q] at o
    simp only [gcR] at o
    cases u : uniqC h1.cs with
    | false => rw [u] at o; exact o.elim
    | true =>
      rw [u] at o
      simp only at o
      cases k : okC h.nx h1.cs with
      | false => rw [k] at o; exact o.elim
      | true =>
        rw [k] at o
        intro g' σ' H' l x'
        have lg : G.le g ⟨g'.F, cutρ h.nx g'.ρ⟩ := cut_le l fun i a q => by
          by_cases z : i < h.nx
          · exact z
          · rw [x.hs.new i (by omega)] at q; cases q
        exact o _ σ' H' lg (gc_sr (x.hs.bot.trans lg) u k x')
  | rt d h1 => rw [q] at o; exact o
  | bk sl h1 => rw [q] at o; exact o
  | ct sl h1 => rw [q] at o; exact o
  | exc c p h1 => rw [q] at o; exact o
  | no => rw [q] at o; exact o
/-! ### from the bottom: there more may be forgotten -/
def rdZ (P : Pm) (E : XK) (f : FS) : TS := fun D σ H => ∃ g sl h, SR P g sl h σ H ∧ OutS P P.gh D E (f sl h)
variable {s s' : FS} {st : Stmt} {rest : List Stmt}
theorem sZ_last (h : PSs X body (rdS P E b)) : PSs X body (rdZ P E b) := PSs.weak h fun De σ H ⟨g, sl, h, x, o⟩ => ⟨g, sl, h, x, OutS.le o x.hs.bot⟩
theorem sZ_cons (h1 : PS X st (rdS P E s)) (h2 : PSs X rest (rdZ P E s')) : PSs X (st :: rest) (rdZ P E (sSeq s s')) := PSs.weak (pss_cons h1 h2) fun De σ H ⟨g, sl, h, x, o⟩ => by
  refine ⟨g, sl, h, x, ?_⟩
  have o : OutS P P.gh De E ((s sl h).seq s') := o
  cases q : s sl h with
  | nx sl1 h1 => rw [q] at o; exact fun g' σ' H' l x' => ⟨g', sl1, h1, x', o⟩
  | rt d h1 => rw [q] at o; exact OutS.le (r := .rt d h1) o x.hs.bot
  | bk sl h1 => rw [q] at o; exact OutS.le (r := .bk sl h1) o x.hs.bot
  | ct sl h1 => rw [q] at o; exact OutS.le (r := .ct sl h1) o x.hs.bot
  | exc c p h1 => rw [q] at o; exact OutS.le (D := De) (r := .exc c p h1) o x.hs.bot
  | no => rw [q] at o; exact o.elim
/-- .. and what was made since is forgotten -/
def sSeqN (n : Nat) (drop : List Nat) (s s' : FS) : FS := fun sl h => match s sl h with
  | .nx sl1 h1 => gcR n drop sl1 h1 s'
  | r => r
theorem sZ_gc {n : Nat} {drop : List Nat} (hn : ∀ i a, P.gh.ρ i = some a → i < n) (h1 : PS X st (rdS P E s)) (h2 : PSs X rest (rdZ P E s')) : PSs X (st :: rest) (rdZ P E (sSeqN n drop s s')) := PSs.weak (pss_cons h1 h2) fun De σ H ⟨g, sl, h, x, o⟩ => by
  refine ⟨g, sl, h, x, ?_⟩
  unfold sSeqN at o
  cases q : s sl h with
  | nx sl1 h1 =>
    rw [q] at o
    simp only [gcR] at o
    cases u : uniqC h1.cs with
    | false => rw [u] at o; exact o.elim
    | true =>
      rw [u] at o
      simp only at o
      cases k : okC n h1.cs with
      | false => rw [k] at o; exact o.elim
      | true =>
        rw [k] at o
        exact fun g' σ' H' l x' => ⟨_, _, _, gc_sr (cut_le (x.hs.bot.trans l) hn) u k x', o⟩
  | rt d h1 => rw [q] at o; exact OutS.le (r := .rt d h1) o x.hs.bot
  | bk sl h1 => rw [q] at o; exact OutS.le (r := .bk sl h1) o x.hs.bot
  | ct sl h1 => rw [q] at o; exact OutS.le (r := .ct sl h1) o x.hs.bot
  | exc c p h1 => rw [q] at o; exact OutS.le (D := De) (r := .exc c p h1) o x.hs.bot
  | no => rw [q] at o; exact o.elim
end
end EV
end S_EwN
section S_EwO
/-! EwO: what a head tells of functions and of own errors. -/
namespace EV
open PySem PySem.Spec PyProof.Rows L2 Evl
/-- a def: where it stands, its names, its text -/
structure QD where
  ad : PySem.W.Frag → Addr
  name : Str
  qual : Str
  st : Stmt
  clo : List Str := []
abbrev QW : Type := Option (Str × Str × Arguments × FuncBody × Scope × Addr × List Str × Addr)
def qW (K : PySem.W.Frag) (a : Addr) : QW := match K.lookup a with
  | some ⟨_, _, .func fd, _⟩ => some (fd.name, fd.qualname, fd.params, fd.body, fd.scope, fd.globals, fd.closure.map (·.1), fd.builtins)
  | _ => none
def QD.val (d : QD) : QW := some (d.name, d.qual, defArgs d.st, .stmts (defBody d.st), defScope d.st, mainGlobals, d.clo, builtinsNs)
def noneV : Value → Bool
  | .none => true
  | _ => false
theorem noneV_ok {v : Value} (h : noneV v = true) : v = .none := by
  cases v <;> first | rfl | cases h
def noFd : FuncData := PySem.W.fnOf "" "" ⟨[], [], none, [], [], none, []⟩ [] ⟨.function, [], false, false, []⟩ .none .none .none .none none .none .none
def fdOf (K : PySem.W.Frag) (a : Addr) : FuncData := match K.lookup a with
  | some ⟨_, _, .func fd, _⟩ => fd
  | _ => noFd
theorem fdOf_at {K : PySem.W.Frag} {a : Addr} {oc : Value} {od : Option Addr} {fd : FuncData} {osl : Array (Option Value)} (lk : K.lookup a = some ⟨oc, od, .func fd, osl⟩) : fdOf K a = fd := by
  unfold fdOf; rw [lk]
def fnB (K : PySem.W.Frag) (a : Addr) (q : Str) : Bool := PySem.W.keepIn K (.ref a) && (match K.lookup a with
  | some ⟨_, _, .func fd, _⟩ => PySem.W.codeIn K fd.code q && (noneV fd.defaults && noneV fd.kwdefaults)
  | _ => false)
theorem and2 {a b : Bool} (h : (a && b) = true) : a = true ∧ b = true := Bool.and_eq_true_iff.mp h
theorem fnB_at {K : PySem.W.Frag} {a : Addr} {d : QD} (e : qW K a = d.val) (c : fnB K a d.qual = true) :
    ∃ (oc : Value) (od : Option Addr) (osl : Array (Option Value)) (doc pm cdv ct : Value) (an : Option Addr) (cl : List (Str × Addr)),
      K.lookup a = some ⟨oc, od, .func (PySem.W.fnX d.name d.qual (defArgs d.st) (defBody d.st) (defScope d.st) cl .none .none doc pm an cdv ct), osl⟩ ∧ cl.map (·.1) = d.clo ∧ PySem.W.codeIn K cdv d.qual = true ∧ PySem.W.keepIn K (.ref a) = true := by
  obtain ⟨kp, c2⟩ := and2 c
  unfold qW at e
  cases q : K.lookup a with
  | none => rw [q] at c2; cases c2
  | some o =>
    obtain ⟨oc, od, dt, osl⟩ := o
    rw [q] at c2 e
    cases dt with
    | func fd =>
      rcases fd with ⟨n1, n2, n3, n4, n5, n6, n7, n8, n9, n10, n11, n12, n13, n14, n15⟩
      have e2 : (some (n1, n2, n3, n4, n5, n6, n7.map (·.1), n15) : QW) = some (d.name, d.qual, defArgs d.st, .stmts (defBody d.st), defScope d.st, mainGlobals, d.clo, builtinsNs) := e
      simp only [Option.some.injEq, Prod.mk.injEq]
          at e2
      rcases e2 with ⟨h1, h2, h3, h4, h5, h6, h7, h8⟩
      subst h1 h2 h3 h4 h5 h6 h8
      obtain ⟨k1, k2⟩ := and2 (show (PySem.W.codeIn K n13 d.qual && (noneV n8 && noneV n9)) = true from c2)
      obtain ⟨k3, k4⟩ := and2 k2
      have e8 := noneV_ok k3
      have e9 := noneV_ok k4
      subst e8 e9
      exact ⟨oc, od, osl, n10, n11, n13, n14, n12, n7, rfl, h7, k1, kp⟩
    | _ => cases c2
theorem fun_of {K : PySem.W.Frag} {a : Addr} {d : QD} (e : qW K a = d.val) (c : fnB K a d.qual = true) (h0 : d.clo = []) : FunD K d.name d.qual (defArgs d.st) (defBody d.st) (defScope d.st) [] [] a (fdOf K a) := by
  obtain ⟨oc, od, osl, doc, pm, cdv, ct, an, cl, lk, hc, cd, kp⟩ := fnB_at e c
  have e0 : cl = [] := List.map_eq_nil_iff.mp (hc.trans h0)
  subst e0
  have ef : fdOf K a = PySem.W.fnOf d.name d.qual (defArgs d.st) (defBody d.st) (defScope d.st) .none .none doc pm an cdv ct := by
    unfold fdOf; rw [lk]
  refine ⟨⟨oc, od, .none, .none, doc, pm, an, cdv, ct, osl, ef, by rw [ef]; exact lk, cd, .inl ⟨rfl, rfl⟩, .inl rfl⟩, kp⟩
section
variable {P : Pm} {prog : Program} {w : World} {K : PySem.W.Frag} {mg : Str → Option Value} {base : Heap} {k : Nat} {f : Addr} {fd : FuncData} {name qual : Str} {params : Arguments} {body : List Stmt} {scope : Scope} {N ps : List Str} {s : FS}
/-- THE RULE: a def by its body -/
theorem fn_evD (F : FunD K name qual params body scope [] [] f fd) (S : FnScope N ps scope)
    (hbody : ∀ (cdv : Value) (A : Around) (outer : List Env) (s₀ : Shared) (H : Hp) (E : XK), Room k (A.deeper (envOfC qual scope s₀.heap.objs.size f cdv)) → PSs (cxOf (L2.CX prog w) prog w K mg base N qual scope f cdv A outer s₀ H E) body (rdS P E s)) :
    FnOk prog w K mg base (L2.CX prog w) (k + 1) f fd ps (spF P ps.length (fDef N.length s)) := by
  rcases F.ex with ⟨oc, od, dV, kV, doc, pm, an, cdv, ct, osl, rfl, lk, hcd, _, _⟩
  exact fn_ev lk hcd S fun A outer s₀ H E hr => hbody cdv A outer s₀ H E hr
theorem code_at {p : He.Defn} {q : Str} {oc dV kV doc pm cdv ct : Value} {an od : Option Addr} {osl : Array (Option Value)} (lk : K.lookup (He.fAd K p) = some ⟨oc, od, .func (PySem.W.fnOf name qual params body scope dV kV doc pm an cdv ct), osl⟩) (hc : PySem.W.codeIn K cdv q = true) : cdv = .ref (He.cT K p).1 := by
  obtain ⟨c, e⟩ := He.codeIn_ref hc
  subst e
  exact congrArg Value.ref (He.codeOf_eq lk rfl).symm
theorem fn_evGD {p : He.Defn} (hp : He.fAd K p = f) (F : FunD K name qual params body scope [] [] f fd) (S : FnScope N ps scope)
    (hbody : ∀ (cdv : Value) (A : Around) (outer : List Env) (s₀ : Shared) (H : Hp) (E : XK), cdv = .ref (He.cT K p).1 → A.guards = some [] → Room k (A.deeper (envOfC qual scope s₀.heap.objs.size f cdv)) →
      PSs (cxOf (L2.CX prog w) prog w K mg base N qual scope f cdv A outer s₀ H E) body (rdS P E s)) :
    FnG prog w K mg base (L2.CX prog w) (k + 1) f fd ps (spF P ps.length (fDef N.length s)) := by
  rcases F.ex with ⟨oc, od, dV, kV, doc, pm, an, cdv, ct, osl, rfl, lk, hcd, _, _⟩
  have hc := code_at (p := p) (by rw [hp]; exact lk) hcd
  exact fn_evG lk hcd S fun A outer s₀ H E hg hr => hbody cdv A outer s₀ H E hc hg hr
/-- a def told from the bottom -/
def spZ (P : Pm) (n : Nat) (F : FF) : Sp := fun vs H Q E => vs.length = n ∧ ∃ ds h, HS P P.gh h H ∧ RVs P P.gh.F P.gh.ρ ds vs ∧ Out P P.gh (rv P) Q E (F ds h)
theorem fn_evZ {p : He.Defn} (hp : He.fAd K p = f) (F : FunD K name qual params body scope [] [] f fd) (S : FnScope N ps scope)
    (hbody : ∀ (cdv : Value) (A : Around) (outer : List Env) (s₀ : Shared) (H : Hp) (E : XK), cdv = .ref (He.cT K p).1 → A.guards = some [] → Room k (A.deeper (envOfC qual scope s₀.heap.objs.size f cdv)) →
      PSs (cxOf (L2.CX prog w) prog w K mg base N qual scope f cdv A outer s₀ H E) body (rdZ P E s)) :
    FnG prog w K mg base (L2.CX prog w) (k + 1) f fd ps (spZ P ps.length (fDef N.length s)) := by
  rcases F.ex with ⟨oc, od, dV, kV, doc, pm, an, cdv, ct, osl, rfl, lk, hcd, _, _⟩
  have hc := code_at (p := p) (by rw [hp]; exact lk) hcd
  refine ⟨fun _ _ _ _ h => h.1, fun A outer s₀ H args us vs Q E hg hr e0 hb r hsp => ?_⟩
  refine LamX.run_ofS (N := N) lk hcd S hr e0 hb r hsp.1 fun hr' => ⟨_, hbody cdv A outer s₀ H E hc hg hr', ?_⟩
  obtain ⟨_, ds, h, hs, rr, o⟩ := hsp
  refine ⟨P.gh, _, h, sr_start hs rr, ?_⟩
  unfold fDef at o
  cases q : s (ds.map some ++ List.replicate (N.length - ds.length) none) h with
  | nx sl h' => rw [q] at o; exact fun g' σ H' l x => o g' H' .non l x.hs .non
  | rt d h' => rw [q] at o; exact o
  | exc c p h' => rw [q] at o; exact o
  | bk sl h' => rw [q] at o; exact o.elim
  | ct sl h' => rw [q] at o; exact o.elim
  | no => rw [q] at o; exact o.elim
end
/-! ### own errors -/
def oexB (K : PySem.W.Frag) (C : Addr) : Bool := match K.lookup C with
  | some ⟨.type t, _, .cls cd, sl⟩ => decide (t = "type") && (match cd.mro, sl.toList with
    | .ref C' :: bm, [_, _, _, _, some (.builtin n), _] => (decide (C' = C) && decide (n = "ValueError.__new__")) && ((cd.hasDict && !cd.hasDel) && PySem.HandSPX.refsVE bm)
    | _, _ => false)
  | _ => false
theorem oexB_ok {K : PySem.W.Frag} {C : Addr} (h : oexB K C = true) : ∃ nm q N bs bm sn sub ab col dd k0 k1 k2 k3 k5, K.lookup C = some (excClassObj nm q C N bs bm true sn sub ab col dd k0 k1 k2 k3 k5 "ValueError.__new__") ∧ PySem.HandSPX.refsVE bm = true := by
  unfold oexB at h
  split at h
  · rename_i t dd cd sl ho
    obtain ⟨h0, h1⟩ := and2 h
    have et : t = "type" := of_decide_eq_true h0
    subst et
    split at h1
    · rename_i C' bm k0
          k1 k2 k3 n k5 hm hs
      obtain ⟨h2, h3⟩ := and2 h1
      obtain ⟨h4, h5⟩ := and2 h2
      obtain ⟨h6, h7⟩ := and2 h3
      obtain ⟨h8, h9⟩ := and2 h6
      rcases cd with ⟨nm, bs, mro, ns, qn, hd, sn, sub, ab, col, del⟩
      dsimp only at hm h8 h9
      have e9 : del = false := by simpa using h9
      have ec : C' = C := of_decide_eq_true h4
      have en : n = "ValueError.__new__" := of_decide_eq_true h5
      subst hm h8 e9 ec en
      have hsl : sl = #[k0, k1, k2, k3, some (.builtin "ValueError.__new__"), k5] := by
        obtain ⟨l⟩ := sl
        simp only at hs
        rw [hs]
      subst hsl
      exact ⟨nm, qn, ns, bs, bm, sn, sub, ab, col, dd, k0, k1, k2, k3, k5, ho, h7⟩
    · cases h1
  · cases h
def oexAll (K : PySem.W.Frag) (C : Addr) : Bool := oexB K C && (He.eqO (PySem.W.findIn K (.ref C) "__setattr__") (some (some (.builtin "object.__setattr__"))) && (decide (PySem.W.subIn K (.ref C) (.type "BaseException") = some true) && (decide (PySem.W.typeIn K (.ref C) = some (.type "type")) && PySem.W.keepIn K (.ref C))))
theorem oexAll_ok {K : PySem.W.Frag} {C : Addr} (h : oexAll K C = true) : OexC K C := by
  obtain ⟨h1, h⟩ := and2 h
  obtain ⟨h2, h⟩ := and2 h
  obtain ⟨h3, h⟩ := and2 h
  obtain ⟨h4, h5⟩ := and2 h
  exact ⟨oexB_ok h1, He.eqO_ok h2, of_decide_eq_true h3, of_decide_eq_true h4, h5⟩
def fileB (K : PySem.W.Frag) (file : Str) (cdv : Value) : Bool := match cdv with
  | .ref c =>
      (match K.lookup c with
    | some ⟨_, _, .fields vs, _⟩ => (match (vs[2]? : Option Value) with
      | some (.str z _) => file == z
      | _ => false)
    | _ => false)
  | _ => false
theorem fileB_ok {K : PySem.W.Frag} {file : Str} {cdv : Value} (h : fileB K file cdv = true) : ∃ (c : Addr) (cl : Value) (cd : Option Addr) (vs : Array Value) (cs : Array (Option Value)) (z : Str) (t : Tok), cdv = .ref c ∧ K.lookup c = some ⟨cl, cd, .fields vs, cs⟩ ∧ vs[2]? = some (.str z t) ∧ (file == z) = true := by
  unfold fileB at h
  split at h
  · rename_i c
    split at h
    · rename_i cl cd vs cs ho
      split at h
      · rename_i z t hv
        exact ⟨c, cl, cd, vs, cs, z, t, rfl, ho, hv, h⟩
      · cases h
    · cases h
  · cases h
def clsCell (K : PySem.W.Frag) (C : Addr) : List (Str × Addr) → Bool
  | [(x, cc)] => decide (x = "__class__") && (match K.lookup cc with
    | some ⟨_, _, .cell (some (.ref c)), _⟩ => decide (c = C)
    | _ => false)
  | _ => false
theorem clsCell_ok {K : PySem.W.Frag} {C : Addr} {cl : List (Str × Addr)} (h : clsCell K C cl = true) : ∃ (cc : Addr) (a : Value) (b : Option Addr) (sl : Array (Option Value)), cl = [(("__class__" : Str), cc)] ∧ K.lookup cc = some ⟨a, b, .cell (some (.ref C)), sl⟩ := by
  unfold clsCell at h
  split at h
  · rename_i x cc
    obtain ⟨h1, h2⟩ := and2 h
    have ex : x = "__class__" := of_decide_eq_true h1
    subst ex
    split at h2
    · rename_i a b c sl ho
      have ec : c = C := of_decide_eq_true h2
      subst ec
      exact ⟨cc, a, b, sl, rfl, ho⟩
    · cases h2
  · cases h
def errB (K : PySem.W.Frag) (file : Str) (C f : Addr) (x : Str) : Bool := oexAll K C && ((He.eqO (PySem.W.findIn K (.ref C) "__init__") (some (some (.ref f))) && decide (PySem.W.typeIn K (.ref f) = some (.type "function"))) &&
  ((fileB K file (fdOf K f).code && clsCell K C (fdOf K f).closure) && ((He.eqO (PySem.W.ks_superIn K C C "__init__") (some (some (.builtin "ValueError.__init__"))) && (decide (PySem.W.subIn K (.ref C) (.type "ValueError") = some true) && decide (PySem.W.mroIn K C (.ref C) = some true))) &&
    (He.eqO (PySem.W.nsIn K cStatics "thirdparty.any") (some none) && He.eqO (PySem.W.findIn K (.ref C) x) (some none)))))
theorem errB_ok {prog : Program} {K : PySem.W.Frag} {C f : Addr} {x : Str} {d : QD} {ar : Arg} (h : errB K prog.main.file C f x = true) (e : qW K f = d.val) (c : fnB K f d.qual = true) (ha : ((defArgs d.st).posonlyargs ++ (defArgs d.st).args).head? = some ar) (hs : ar.arg = ("self" : Str))
    (hb : ∀ (cl : List (Str × Addr)) (doc pm cdv ct : Value) (an : Option Addr) (a b : Value), bindArgs (PySem.W.fnX d.name d.qual (defArgs d.st) (defBody d.st) (defScope d.st) cl .none .none doc pm an cdv ct) ⟨[a, b], []⟩ = pure [(("self" : Str), a), (x, b)]) :
    ErrF prog K C f x d.qual (defBody d.st) (defScope d.st) (fdOf K f) := by
  obtain ⟨h1, h⟩ := and2 h
  obtain ⟨h2, h⟩ := and2 h
  obtain ⟨h3, h4⟩ := and2 h2
  obtain ⟨h5, h⟩ := and2 h
  obtain ⟨h6, h7⟩ := and2 h5
  obtain ⟨h8, h9⟩ := and2 h
  obtain ⟨h10, h11⟩ := and2 h8
  obtain ⟨h12, h13⟩ := and2 h11
  obtain ⟨h14, h15⟩ := and2 h9
  obtain ⟨oc, od, osl, doc, pm, cdv, ct, an, cl, lk, hc, cd, kp⟩ := fnB_at e c
  have ef : fdOf K f = PySem.W.fnX d.name d.qual (defArgs d.st) (defBody d.st) (defScope d.st) cl .none .none doc pm an cdv ct := by
    unfold fdOf; rw [lk]
  rw [ef] at h6 h7
  obtain ⟨cda, ccl, cdd, vs, ccs, z, t, e1, e2, e3, e4⟩ := fileB_ok h6
  obtain ⟨cc, a, b, sl, e5, e6⟩ := clsCell_ok h7
  have e1 : cdv = .ref cda := e1
  have e5 : cl = [(("__class__" : Str), cc)] := e5
  subst e1 e5
  refine ⟨oexAll_ok h1, He.eqO_ok h3, of_decide_eq_true h4, ⟨d.name, defArgs d.st, .none, .none, doc, pm, ct, oc, an, od, osl, cc, cda, ccl, cdd, vs, ccs, z, t, a, b, sl, ar, ef, by rw [ef]; exact lk, cd, e2, e3, e4, e6, ha, hs⟩, He.eqO_ok h10, of_decide_eq_true h12, of_decide_eq_true h13, He.eqO_ok h14, He.eqO_ok h15, fun s a b => ?_⟩
  rw [ef]
  exact BindsTo.of_eq (hb _ _ _ _ _ _ a b)
/-! ### classes -/
def propB (K : PySem.W.Frag) (C : Addr) (x : Str) (p g : Addr) : Bool := (He.eqO (PySem.W.findIn K (.ref C) x) (some (some (.ref p))) && He.eqO (PySem.W.specialIn K (.ref p) "__get__") (some (some (.builtin "property.__get__")))) && (decide (PySem.W.takesIn K (.ref p) = some true) && (match PySem.W.recIn K p "property" with
  | some (.ref g' :: _) => decide (g' = g)
  | _ => false))
theorem propB_ok {K : PySem.W.Frag} {C : Addr} {x : Str} {p g : Addr} (h : propB K C x p g = true) : PropOf K C x p g := by
  obtain ⟨h1, h2⟩ := and2 h
  obtain ⟨h3, h4⟩ := and2 h1
  obtain ⟨h5, h6⟩ := and2 h2
  refine ⟨He.eqO_ok h3, He.eqO_ok h4, of_decide_eq_true h5, ?_⟩
  split at h6
  · rename_i g' r e
    have eg : g' = g := of_decide_eq_true h6
    subst eg
    exact ⟨r, e⟩
  · cases h6
def isiCB (K : PySem.W.Frag) (C : Addr) : Bool := (He.eqO (PySem.W.findIn K (.ref C) "__class__") (some (some (.builtin "object.__class__"))) && (He.eqO (PySem.W.specialIn K (.builtin "object.__class__") "__get__") (some (some (.builtin "getset_descriptor.__get__"))) && decide (PySem.W.takesIn K (.builtin "object.__class__") = some true))) &&
  ((decide (PySem.W.mroIn K C (.type "object") = some true) && decide (PySem.W.kitOne K (.ref C) (.ref C) = some true)) && (List.range 7).all fun t => decide (PySem.W.kitOne K (.type (tyN t)) (.ref C) = some false))
theorem isiCB_ok {K : PySem.W.Frag} {C : Addr} (h : isiCB K C = true) (cl : Cls K C) : IsiC K C := by
  obtain ⟨h1, h2⟩ := and2 h
  obtain ⟨h3, h4⟩ := and2 h1
  obtain ⟨h5, h6⟩ := and2 h4
  obtain ⟨h7, h8⟩ := and2 h2
  obtain ⟨h9, h10⟩ := and2 h7
  exact ⟨cl, He.eqO_ok h3, He.eqO_ok h5, of_decide_eq_true h6, of_decide_eq_true h9, of_decide_eq_true h10, fun t ht => of_decide_eq_true (List.all_eq_true.mp h8 t (List.mem_range.mpr ht))⟩
def eqCB (K : PySem.W.Frag) (C fa : Addr) : Bool := (He.eqO (PySem.W.findIn K (.ref C) "__eq__") (some (some (.ref fa))) && (He.eqO (PySem.W.findIn K (.ref C) "__ne__") (some (some (.builtin "object.__ne__"))) && PySem.W.isFn K (.ref fa))) &&
  ((PySem.W.notFirst K C (.type "NoneType") && PySem.W.notFirst K C (.type "int")) && decide (PySem.W.mroIn K C (.type "object") = some true))
theorem eqCB_ok {K : PySem.W.Frag} {C fa : Addr} (h : eqCB K C fa = true) (cl : Cls K C) : EqC K C fa := by
  obtain ⟨h1, h2⟩ := and2 h
  obtain ⟨h3, h4⟩ := and2 h1
  obtain ⟨h5, h6⟩ := and2 h4
  obtain ⟨h7, h8⟩ := and2 h2
  obtain ⟨h9, h10⟩ := and2 h7
  exact ⟨cl, He.eqO_ok h3, He.eqO_ok h5, h6, h9, h10, of_decide_eq_true h8⟩
end EV
end S_EwO
section S_EwP
/-! EwP: the program's defs, what the head tells of them. -/
namespace EK
open PySem PySem.Spec PyProof.Rows L2 Evl EV LamX
abbrev pw : Program := PySem.Challenge.pw_stairfaces_k76_bench_refused
def noSt : Stmt := .Pass ⟨0, 0, 0, 0⟩
def top (i : Nat) : Stmt := pw.main.body.getD i noSt
def clsB : Stmt → List Stmt
  | .ClassDef _ _ _ b _ _ _ _ _ _ _ => b
  | _ => []
def mth (c i : Nat) : Stmt := (clsB (top c)).getD i noSt
def propG (K : PySem.W.Frag) (p : Addr) : Addr := match PySem.W.recIn K p "property" with
  | some (.ref g :: _) => g
  | _ => 0
def fnmL : List Str := ["prime", "held", "past", "later", "made", "value", "path", "most"]
def fnm (i : Nat) : Str := match fnmL[i]? with
  | some x => x
  | none => ⟨Array.replicate i 35⟩
def xnmL : List Str := ["BadEdit", "BadName", "BadFace", "BadComplex", "BadPrime", "TooGreat", "NothingBack"]
def xnm (i : Nat) : Str := xnmL.getD i "NothingBack"
def tfL : List He.Defn := [("law", none), ("_law_bounds_right", none)]
def tqL : List Str := ["law.<locals>.<lambda>", "_law_bounds_right.<locals>.<lambda>"]
/-- what is fixed: K the written part, gh the ground -/
def Pk (w : World) (K : PySem.W.Frag) (gh : G) : Pm where
  prog := pw
  w := w
  K := K
  Γ := fun _ => .ref (He.ga K "PARTS_OF")
  CA := fun _ => He.ga K "Bench"
  XA := fun c => He.ga K (xnm c)
  fn := fnm
  TA := fun t => (He.cT K (tfL.getD t ("law", none))).2
  TQ := fun t => tqL.getD t ""
  gh := gh
def qL0 : List QD := [⟨fun K => He.ga K "is_integer", "is_integer", "is_integer", top 11, []⟩,
  ⟨fun K => He.ga K "is_from", "is_from", "is_from", top 12, []⟩,
  ⟨fun K => He.ga K "is_up_to", "is_up_to", "is_up_to", top 13, []⟩,
  ⟨fun K => He.ga K "inverse_mod", "inverse_mod", "inverse_mod", top 14, []⟩,
  ⟨fun K => He.ga K "is_lot", "is_lot", "is_lot", top 17, []⟩,
  ⟨fun K => He.ga K "need_lot", "need_lot", "need_lot", top 18, []⟩,
  ⟨fun K => He.ga K "lies_in", "lies_in", "lies_in", top 19, []⟩,
  ⟨fun K => He.ga K "facets_fault", "facets_fault", "facets_fault", top 20, []⟩,
  ⟨fun K => He.ga K "complex_fault", "complex_fault", "complex_fault", top 21, []⟩,
  ⟨fun K => He.ga K "need_complex", "need_complex", "need_complex", top 22, []⟩,
  ⟨fun K => He.ga K "lots_within", "lots_within", "lots_within", top 25, []⟩,
  ⟨fun K => He.ga K "faces_in", "faces_in", "faces_in", top 26, []⟩,
  ⟨fun K => He.ga K "behind_in", "behind_in", "behind_in", top 34, []⟩,
  ⟨fun K => He.ga K "let_many", "let_many", "let_many", top 35, []⟩,
  ⟨fun K => He.ga K "joined_in", "joined_in", "joined_in", top 36, []⟩,
  ⟨fun K => He.ga K "is_prime_in", "is_prime_in", "is_prime_in", top 40, []⟩,
  ⟨fun K => He.ga K "need_prime", "need_prime", "need_prime", top 41, []⟩,
  ⟨fun K => He.ga K "inverse_in", "inverse_in", "inverse_in", top 42, []⟩,
  ⟨fun K => He.ga K "faces_by_size", "faces_by_size", "faces_by_size", top 44, []⟩,
  ⟨fun K => He.ga K "edge_in", "edge_in", "edge_in", top 45, []⟩]
def qL1 : List QD := [⟨fun K => He.ga K "left_in", "left_in", "left_in", top 46, []⟩,
  ⟨fun K => He.ga K "rank_in", "rank_in", "rank_in", top 48, []⟩,
  ⟨fun K => He.ga K "edges_of", "edges_of", "edges_of", top 50, []⟩,
  ⟨fun K => He.ga K "rank_of", "rank_of", "rank_of", top 51, []⟩,
  ⟨fun K => He.ga K "holes_of_faces_in", "holes_of_faces_in", "holes_of_faces_in", top 52, []⟩,
  ⟨fun K => He.ga K "holes_in", "holes_in", "holes_in", top 53, []⟩,
  ⟨fun K => He.ga K "is_label", "is_label", "is_label", top 68, []⟩,
  ⟨fun K => He.ga K "joined_short", "joined_short", "joined_short", top 69, []⟩,
  ⟨fun K => He.ga K "changed", "changed", "changed", top 70, []⟩,
  ⟨fun K => He.ga K "_law_begun", "_law_begun", "_law_begun", top 73, []⟩,
  ⟨fun K => He.ga K "_law_draw", "_law_draw", "_law_draw", top 74, []⟩,
  ⟨fun K => He.ga K "_law_of", "_law_of", "_law_of", top 75, []⟩,
  ⟨fun K => He.ga K "_law_like", "_law_like", "_law_like", top 76, []⟩,
  ⟨fun K => He.ga K "_law_heard", "_law_heard", "_law_heard", top 77, []⟩,
  ⟨fun K => He.ga K "_law_some_bench", "_law_some_bench", "_law_some_bench", top 78, []⟩,
  ⟨fun K => He.ga K "_law_rows", "_law_rows", "_law_rows", top 79, []⟩,
  ⟨fun K => He.ga K "_law_by_name", "_law_by_name", "_law_by_name", top 80, []⟩,
  ⟨fun K => He.ga K "_law_bounds_right", "_law_bounds_right", "_law_bounds_right", top 81, []⟩,
  ⟨fun K => He.ga K "_law_equal_right", "_law_equal_right", "_law_equal_right", top 82, []⟩,
  ⟨fun K => He.ga K "law", "law", "law", top 83, []⟩]
def qL2 : List QD := [⟨fun K => He.ma K (He.ga K "Bench") "__init__", "__init__", "Bench.__init__", mth 71 0, []⟩,
  ⟨fun K => He.ma K (He.ga K "Bench") "__eq__", "__eq__", "Bench.__eq__", mth 71 1, []⟩,
  ⟨fun K => He.ma K (He.ga K "Bench") "copy", "copy", "Bench.copy", mth 71 2, []⟩,
  ⟨fun K => propG K (He.ma K (He.ga K "Bench") "acts"), "acts", "Bench.acts", mth 71 3, []⟩,
  ⟨fun K => He.ma K (He.ga K "Bench") "names", "names", "Bench.names", mth 71 4, []⟩,
  ⟨fun K => He.ma K (He.ga K "Bench") "need_there", "need_there", "Bench.need_there", mth 71 5, []⟩,
  ⟨fun K => He.ma K (He.ga K "Bench") "need_new", "need_new", "Bench.need_new", mth 71 6, []⟩,
  ⟨fun K => He.ma K (He.ga K "Bench") "complex_at", "complex_at", "Bench.complex_at", mth 71 7, []⟩,
  ⟨fun K => He.ma K (He.ga K "Bench") "edit", "edit", "Bench.edit", mth 71 8, []⟩,
  ⟨fun K => He.ma K (He.ga K "Bench") "edited", "edited", "Bench.edited", mth 71 9, []⟩,
  ⟨fun K => He.ma K (He.ga K "Bench") "put", "put", "Bench.put", mth 71 10, []⟩,
  ⟨fun K => He.ma K (He.ga K "Bench") "take", "take", "Bench.take", mth 71 11, []⟩,
  ⟨fun K => He.ma K (He.ga K "Bench") "rename", "rename", "Bench.rename", mth 71 12, []⟩,
  ⟨fun K => He.ma K (He.ga K "Bench") "put_face", "put_face", "Bench.put_face", mth 71 13, []⟩,
  ⟨fun K => He.ma K (He.ga K "Bench") "cut", "cut", "Bench.cut", mth 71 14, []⟩,
  ⟨fun K => He.ma K (He.ga K "Bench") "to_link", "to_link", "Bench.to_link", mth 71 15, []⟩,
  ⟨fun K => He.ma K (He.ga K "Bench") "turn_over", "turn_over", "Bench.turn_over", mth 71 16, []⟩,
  ⟨fun K => He.ma K (He.ga K "Bench") "put_joined", "put_joined", "Bench.put_joined", mth 71 17, []⟩,
  ⟨fun K => He.ma K (He.ga K "Bench") "undo", "undo", "Bench.undo", mth 71 18, []⟩,
  ⟨fun K => He.ma K (He.ga K "Bench") "redo", "redo", "Bench.redo", mth 71 19, []⟩]
def qL3 : List QD := [⟨fun K => He.ma K (He.ga K "Bench") "asked", "asked", "Bench.asked", mth 71 21, []⟩,
  ⟨fun K => He.ma K (He.ga K "Bench") "holes_at", "holes_at", "Bench.holes_at", mth 71 22, []⟩,
  ⟨fun K => He.ma K (He.ga K "Bench") "known", "known", "Bench.known", mth 71 23, []⟩,
  ⟨fun K => He.ma K (He.ga K "Bench") "book", "book", "Bench.book", mth 71 24, []⟩,
  ⟨fun K => He.ma K (He.ga K "Bench") "are_alike", "are_alike", "Bench.are_alike", mth 71 25, []⟩,
  ⟨fun K => He.ma K (He.ga K "Bench") "are_near", "are_near", "Bench.are_near", mth 71 26, []⟩,
  ⟨fun K => He.ma K (He.ga K "Bench") "likes", "likes", "Bench.likes", mth 71 27, []⟩,
  ⟨fun K => He.ma K (He.ga K "Bench") "lot", "lot", "Bench.lot", mth 71 28, []⟩,
  ⟨fun K => He.ma K (He.ga K "BadEdit") "__init__", "__init__", "BadEdit.__init__", mth 7 0, ["__class__"]⟩,
  ⟨fun K => He.ma K (He.ga K "BadName") "__init__", "__init__", "BadName.__init__", mth 6 0, ["__class__"]⟩,
  ⟨fun K => He.ma K (He.ga K "BadFace") "__init__", "__init__", "BadFace.__init__", mth 4 0, ["__class__"]⟩,
  ⟨fun K => He.ma K (He.ga K "BadComplex") "__init__", "__init__", "BadComplex.__init__", mth 5 0, ["__class__"]⟩,
  ⟨fun K => He.ma K (He.ga K "BadPrime") "__init__", "__init__", "BadPrime.__init__", mth 3 0, ["__class__"]⟩,
  ⟨fun K => He.ma K (He.ga K "TooGreat") "__init__", "__init__", "TooGreat.__init__", mth 8 0, ["__class__"]⟩]
def qL : List QD := qL0 ++ qL1 ++ qL2 ++ qL3
def faL0 : List He.Fa := [.glo "is_integer", .glo "is_from", .glo "is_up_to", .glo "inverse_mod", .glo "is_lot", .glo "need_lot", .glo "lies_in", .glo "facets_fault", .glo "complex_fault", .glo "need_complex", .glo "lots_within", .glo "faces_in", .glo "behind_in", .glo "let_many", .glo "joined_in", .glo "is_prime_in", .glo "need_prime", .glo "inverse_in", .glo "faces_by_size", .glo "edge_in", .glo "left_in", .glo "rank_in", .glo "edges_of", .glo "rank_of", .glo "holes_of_faces_in", .glo "holes_in", .glo "is_label", .glo "joined_short", .glo "changed", .glo "_law_begun", .glo "_law_draw", .glo "_law_of", .glo "_law_like", .glo "_law_heard", .glo "_law_some_bench"]
def faL1 : List He.Fa := [.glo "_law_rows", .glo "_law_by_name", .glo "_law_bounds_right", .glo "_law_equal_right", .glo "law", .glo "Bench", .glo "PARTS_OF", .glo "PRIMES", .glo "BadEdit", .glo "BadName", .glo "BadFace", .glo "BadComplex", .glo "BadPrime", .glo "TooGreat", .glo "NothingBack", .free "isinstance", .free "len", .free "all", .free "any", .free "sorted", .free "tuple", .free "list", .free "dict", .free "int", .free "bool", .free "str", .free "range", .free "zip", .free "enumerate", .free "min", .free "repr", .free "super", .int "MOST_PLACES_complexes" 10, .int "MOST_COMPLEXES" 12, .int "MOST_PLACES_bench" 10]
def faL2 : List He.Fa := [.int "MOST_SIGNS" 8, .str "SIGNS" "abcdefghijklmnopqrstuvwxyz", .cls "Bench", .mkr "Bench", .noat "Bench" "prime", .noat "Bench" "held", .noat "Bench" "past", .noat "Bench" "later", .noat "Bench" "made", .meth "Bench" "__init__", .meth "Bench" "__eq__", .meth "Bench" "copy", .meth "Bench" "names", .meth "Bench" "need_there", .meth "Bench" "need_new", .meth "Bench" "complex_at", .meth "Bench" "edit", .meth "Bench" "edited", .meth "Bench" "put", .meth "Bench" "take", .meth "Bench" "rename", .meth "Bench" "put_face", .meth "Bench" "cut", .meth "Bench" "to_link", .meth "Bench" "turn_over", .meth "Bench" "put_joined", .meth "Bench" "undo", .meth "Bench" "redo", .meth "Bench" "asked", .meth "Bench" "holes_at", .meth "Bench" "known", .meth "Bench" "book", .meth "Bench" "are_alike", .meth "Bench" "are_near", .meth "Bench" "likes"]
def faL3 : List He.Fa := [.meth "Bench" "lot", .exc "NothingBack", .exm "BadEdit" "BadEdit" true, .exm "BadEdit" "BadName" false, .exm "BadEdit" "BadFace" false, .exm "BadEdit" "BadComplex" false, .exm "BadEdit" "BadPrime" false, .exm "BadEdit" "TooGreat" false, .exm "BadEdit" "NothingBack" false, .exm "BadName" "BadEdit" false, .exm "BadName" "BadName" true, .exm "BadName" "BadFace" false, .exm "BadName" "BadComplex" false, .exm "BadName" "BadPrime" false, .exm "BadName" "TooGreat" false, .exm "BadName" "NothingBack" false, .exm "BadFace" "BadEdit" false, .exm "BadFace" "BadName" false, .exm "BadFace" "BadFace" true, .exm "BadFace" "BadComplex" false, .exm "BadFace" "BadPrime" false, .exm "BadFace" "TooGreat" false, .exm "BadFace" "NothingBack" false, .exm "BadComplex" "BadEdit" false, .exm "BadComplex" "BadName" false, .exm "BadComplex" "BadFace" false, .exm "BadComplex" "BadComplex" true, .exm "BadComplex" "BadPrime" false, .exm "BadComplex" "TooGreat" false, .exm "BadComplex" "NothingBack" false, .exm "BadPrime" "BadEdit" false, .exm "BadPrime" "BadName" false, .exm "BadPrime" "BadFace" false, .exm "BadPrime" "BadComplex" false, .exm "BadPrime" "BadPrime" true]
def faL4 : List He.Fa := [.exm "BadPrime" "TooGreat" false, .exm "BadPrime" "NothingBack" false, .exm "TooGreat" "BadEdit" false, .exm "TooGreat" "BadName" false, .exm "TooGreat" "BadFace" false, .exm "TooGreat" "BadComplex" false, .exm "TooGreat" "BadPrime" false, .exm "TooGreat" "TooGreat" true, .exm "TooGreat" "NothingBack" false, .exm "NothingBack" "BadEdit" false, .exm "NothingBack" "BadName" false, .exm "NothingBack" "BadFace" false, .exm "NothingBack" "BadComplex" false, .exm "NothingBack" "BadPrime" false, .exm "NothingBack" "TooGreat" false, .exm "NothingBack" "NothingBack" true]
def faL : List He.Fa := faL0 ++ faL1 ++ faL2 ++ faL3 ++ faL4
def partK : List Str := ["put", "take", "name", "face", "cut", "link", "over", "join"]
def kdT : KdT := [([112, 117, 116], some 2), ([116, 97, 107, 101], some 1), ([110, 97, 109, 101], some 2), ([102, 97, 99, 101], some 2), ([99, 117, 116], some 2), ([108, 105, 110, 107], some 2), ([111, 118, 101, 114], some 1), ([106, 111, 105, 110], some 3), ([80, 117, 116], none)]
def kdB (K : PySem.W.Frag) : Bool := kdT.all fun p => match p.2, PySem.W.nsIn K (He.ga K "PARTS_OF") (toStr p.1) with
  | some i, some (some (.int j _)) => decide (i = j)
  | none, some none => true
  | _, _ => false
def errsL : List (Str × Str) := [("BadEdit", "value"), ("BadName", "value"), ("BadFace", "value"), ("BadComplex", "path"), ("BadPrime", "value"), ("TooGreat", "most")]
def exQ (K : PySem.W.Frag) : Bool := ((qL.all fun d => fnB K (d.ad K) d.qual) && (errsL.all fun p => errB K pw.main.file (He.ga K p.1) (He.ma K (He.ga K p.1) "__init__") p.2)) &&
  (((propB K (He.ga K "Bench") "acts" (He.ma K (He.ga K "Bench") "acts") (propG K (He.ma K (He.ga K "Bench") "acts")) && isiCB K (He.ga K "Bench")) && (eqCB K (He.ga K "Bench") (He.ma K (He.ga K "Bench") "__eq__") && He.tupB K "PRIMES" [.int 2, .int 3, .int 5, .int 7])) &&
   ((kdB K && (errsL.all fun p => xfB K (He.ga K p.1))) && !decide ((He.cT K ("law", none)).2 = (He.cT K ("_law_bounds_right", none)).2)))
/-! ### the objects looked at -/
def refsQ (o : Obj) : List Addr := match o.data with
  | .func fd => He.refV fd.code ++ fd.closure.map (·.2)
  | .cls cd => [cd.ns]
  | .dict es _ => es.toList.flatMap fun e => He.refV e.val
  | .fields vs => (match o.cls with
    | .type t => (match decide (t = "property") with
      | true => vs.toList.flatMap He.refV | false => [])
    | _ => [])
  | _ => []
def nxt (g : Addr → Option Obj) (as : List Addr) : List Addr := as.flatMap fun a => match g a with
  | some o => refsQ o
  | none => []
def grow (g : Addr → Option Obj) : Nat → List Addr → List Addr → List Addr
  | 0, front, acc => acc ++ front
  | n + 1, front, acc => grow g n (nxt g front) (acc ++ front)
def asQ (g : Addr → Option Obj) : List Addr := grow g 5 [mainGlobals] [cStatics]
abbrev AlQ : Type := (Bool × Bool) × (List QW × Option (List (Option (Str × Int))))
def obsQ (g : Addr → Option Obj) (K : PySem.W.Frag) : AlQ := (((faL.all fun f => f.ok K) && exQ K, He.tabsB g tfL K), (qL.map (fun d => qW K (d.ad K)), He.dicW K (He.ga K "PARTS_OF")))
def valQ (w : World) : AlQ := ((true, true), (qL.map QD.val, some (He.keysIn w.params partK)))
structure SaysQ (w : World) (h : Heap) (K : PySem.W.Frag) : Prop where
  f : (faL.all fun f => f.ok K) = true
  ex : exQ K = true
  q : qL.map (fun d => qW K (d.ad K)) = qL.map QD.val
  t : He.dicW K (He.ga K "PARTS_OF") = some (He.keysIn w.params partK)
  hd : ∀ p ∈ tfL, PySem.W.codeHdIn K (He.cT K p).1 (He.cT K p).2 = true
  out : ∀ p ∈ tfL, K.lookup (He.cT K p).2 = none
  empty : ∀ p ∈ tfL, h.get? (He.cT K p).2 = some { cls := .none, data := .fields #[] }
theorem saysQ_of {w : World} {h : Heap} {as : List Addr} (e : obsQ h.get? (He.frT h.get? as) = valQ w) : SaysQ w h (He.frT h.get? as) := by
  have e1 : ((faL.all fun f => f.ok (He.frT h.get? as)) && exQ (He.frT h.get? as)) = true := congrArg (fun z : AlQ => z.1.1) e
  have e2 : He.tabsB h.get? tfL (He.frT h.get? as) = true := congrArg (fun z : AlQ => z.1.2) e
  obtain ⟨h1, h2⟩ := and2 e1
  have key : ∀ p ∈ tfL, PySem.W.codeHdIn (He.frT h.get? as) (He.cT (He.frT h.get? as) p).1 (He.cT (He.frT h.get? as) p).2 = true ∧ ∃ o, h.get? (He.cT (He.frT h.get? as) p).2 = some o ∧ He.emptyTab o = true := fun p hp => by
    obtain ⟨h3, h4⟩ := and2 (List.all_eq_true.mp e2 p hp)
    refine ⟨h3, ?_⟩
    cases q : h.get? (He.cT (He.frT h.get? as) p).2 with
    | none => rw [q] at h4; cases h4
    | some o => rw [q] at h4; exact ⟨o, rfl, h4⟩
  refine ⟨h1, h2, congrArg (fun z : AlQ => z.2.1) e, congrArg (fun z : AlQ => z.2.2) e, fun p hp => (key p hp).1, fun p hp => ?_, fun p hp => ?_⟩
  · obtain ⟨_, o, q, z⟩ := key p hp
    exact He.frT_none q z
  · obtain ⟨_, o, q, z⟩ := key p hp
    rw [q, He.emptyTab_eq z]
def hkQ : PySem.W.Hook where
  α := AlQ
  obs := fun s => obsQ s.heap.get? (He.frT s.heap.get? (asQ s.heap.get?))
  val := fun w => valQ w
  says := fun w h => ∃ K : PySem.W.Frag, K.In h ∧ SaysQ w h K
  of := fun _ _ e => ⟨_, He.frT_in, saysQ_of e⟩
  keeps := fun _ _ _ ⟨K, hK, c⟩ k => ⟨K, PySem.W.Frag.In.keeps hK k, ⟨c.f, c.ex, c.q, c.t, c.hd, c.out, fun p hp => k _ _ (c.empty p hp)⟩⟩
/-! ### what is known over a base -/
structure Fx (w : World) (K : PySem.W.Frag) (mg : Str → Option Value) (base : Heap) : Prop where
  inb : K.In base
  ns : base.Ns mainGlobals mg
  f : (faL.all fun f => f.ok K) = true
  ex : exQ K = true
  q : qL.map (fun d => qW K (d.ad K)) = qL.map QD.val
  t : He.dicW K (He.ga K "PARTS_OF") = some (He.keysIn w.params partK)
  tb : ∀ p ∈ tfL, TabB base mg (He.cT K p).1 (He.cT K p).2
section
variable {w : World} {K : PySem.W.Frag} {mg : Str → Option Value} {base : Heap}
theorem Fx.fact (F : Fx w K mg base) (i : Nat) {f : He.Fa} (h : faL[i]? = some f) : f.ok K = true := List.all_eq_true.mp F.f f (List.mem_of_getElem? h)
theorem Fx.glo (F : Fx w K mg base) (i : Nat) {x : Str} (h : faL[i]? = some (.glo x)) : mg x = some (.ref (He.ga K x)) := He.glo_ok F.inb F.ns (F.fact i h)
theorem Fx.free (F : Fx w K mg base) (i : Nat) {x : Str} (h : faL[i]? = some (.free x)) : mg x = none := He.free_ok F.inb F.ns (F.fact i h)
theorem Fx.int (F : Fx w K mg base) (i : Nat) {x : Str} {j : Int} (h : faL[i]? = some (.int x j)) : ∃ t, mg x = some (.int j t) := He.int_ok F.inb F.ns (F.fact i h)
theorem Fx.str (F : Fx w K mg base) (i : Nat) {x z : Str} (h : faL[i]? = some (.str x z)) : ∃ t, mg x = some (.str z t) := He.str_ok F.inb F.ns (F.fact i h)
theorem Fx.ex1 (F : Fx w K mg base) : (qL.all fun d => fnB K (d.ad K) d.qual) = true ∧ (errsL.all fun p => errB K pw.main.file (He.ga K p.1) (He.ma K (He.ga K p.1) "__init__") p.2) = true := and2 (and2 F.ex).1
theorem Fx.qw (F : Fx w K mg base) (i : Nat) {d : QD} (h : qL[i]? = some d) : qW K (d.ad K) = d.val ∧ fnB K (d.ad K) d.qual = true := by
  refine ⟨?_, List.all_eq_true.mp F.ex1.1 d (List.mem_of_getElem? h)⟩
  have e2 : (qL.map fun d => qW K (d.ad K))[i]? = (qL.map QD.val)[i]? := by rw [F.q]
  rw [List.getElem?_map, List.getElem?_map, h]
      at e2
  exact Option.some.inj e2
theorem Fx.fun (F : Fx w K mg base) (i : Nat) {d : QD} (h : qL[i]? = some d) (h0 : d.clo = [] := by rfl) : FunD K d.name d.qual (defArgs d.st) (defBody d.st) (defScope d.st) [] [] (d.ad K) (fdOf K (d.ad K)) := fun_of (F.qw i h).1 (F.qw i h).2 h0
theorem Fx.cls (F : Fx w K mg base) (i : Nat) {x : Str} (h : faL[i]? = some (.cls x)) : Cls K (He.ga K x) := He.cls_ok (F.fact i h)
theorem Fx.noat (F : Fx w K mg base) (i : Nat) {x f : Str} (h : faL[i]? = some (.noat x f)) : NoAttr K (He.ga K x) f := He.noat_ok (F.fact i h)
theorem Fx.meth (F : Fx w K mg base) (i : Nat) {x m : Str} (h : faL[i]? = some (.meth x m)) : Meth K (He.ga K x) m (He.ma K (He.ga K x) m) := He.meth_ok (F.fact i h)
theorem Fx.mkr (F : Fx w K mg base) (i : Nat) {x : Str} (h : faL[i]? = some (.mkr x)) : Mk K (He.ga K x) (He.ma K (He.ga K x) "__init__") := He.mkr_ok (F.fact i h)
end
end EK
end S_EwP
noncomputable section S_EwZ
/-! EwZ: the head runs. -/
namespace EK
open PySem PySem.Spec PyProof.Rows L2 Evl EV
abbrev rowO : PySem.W.OpenRow := PySem.W.OpenLaw.row PySem.Challenge.rw_stairfaces_k76_bench_refused
def obH (s : PySem.W.SharedT) : AlQ := obsQ (HandSHeadRun.getT s) (He.frT (HandSHeadRun.getT s) (asQ (HandSHeadRun.getT s)))
theorem obH_eq (s : PySem.W.SharedT) : obH s = hkQ.obs s.abs := by
  have e : HandSHeadRun.getT s = s.abs.heap.get? := funext (HandSHeadRun.getT_eq s)
  unfold obH
  rw [e] <;> rfl
def nmO0 : List Str := ["_wall", "__name__", "FaceError", "BadPrime", "BadFace", "BadComplex", "BadName", "BadEdit", "TooGreat", "NothingBack", "is_integer", "is_from", "is_up_to", "inverse_mod", "MOST_PLACES_complexes", "is_lot", "need_lot", "lies_in", "facets_fault", "complex_fault", "need_complex", "greatest_in", "complex_in", "lots_within", "faces_in", "size_in", "less_lot", "link_in", "without_in", "misses_in"]
def nmO1 : List Str := ["behind_in", "let_many", "joined_in", "turned_over_in", "PRIMES", "is_prime_in", "need_prime", "inverse_in", "faces_by_size", "edge_in", "left_in", "rank_in", "edges_of", "rank_of", "holes_of_faces_in", "holes_in", "counts_in", "link_counts_in", "goes_on", "lots_to", "listings_in", "are_like_in", "MOST_COMPLEXES", "MOST_PLACES_bench", "MOST_SIGNS", "SIGNS", "PARTS_OF", "is_label", "joined_short", "changed"]
def nmO2 : List Str := ["Bench", "_law_begun", "_law_draw", "_law_of", "_law_like", "_law_heard", "_law_some_bench", "_law_rows", "_law_by_name", "_law_bounds_right", "_law_equal_right"]
def namesO : List Str := nmO0 ++ nmO1 ++ nmO2
theorem runF (w : World) : HandSHeadRun.RunEq rowO (PySem.W.view rowO.prog [83]) hkQ obH 30000 namesO (w.withFollow "special-get-raises" false) := by
  intro os
  kernel_rfl
theorem runT (w : World) : HandSHeadRun.RunEq rowO (PySem.W.view rowO.prog [83]) hkQ obH 30000 namesO (w.withFollow "special-get-raises" true) := by
  intro os
  kernel_rfl
theorem runO (w : World) : HandSHeadRun.RunEq rowO (PySem.W.view rowO.prog [83]) hkQ obH 30000 namesO w := PySem.W.byRow2 "special-get-raises" (P := fun w => HandSHeadRun.RunEq rowO (PySem.W.view rowO.prog [83]) hkQ obH 30000 namesO w) runF runT w
end EK
end S_EwZ
section S_EwQ
/-! EwQ: the program's facts in the form the rules want. -/
namespace EK
open PySem PySem.Spec PyProof.Rows L2 Evl EV LamX
section
variable {P : Pm} {E : XK} {X : Cx} {e : Expr} {f : FE} {pos : Pos} {x : Str}
def fNeg (f : FE) : FE := fun sl h => (f sl h).bind fun d h => match d with
  | .int i => .ok (.int (-i)) h | _ => .no
theorem sE_neg (he : PE X e (rdE P E f)) : PE X (.UnaryOp .USub e pos) (rdE P E (fNeg f)) := PE.weak (pe_un un_neg he) fun σ H Q ⟨g, sl, h, x, o⟩ => ⟨g, sl, h, x, Out.bind o fun d h1 g1 H1 v l1 s1 r1 o1 => by
  cases r1 with
  | int i => exact ⟨i, rfl, o1.now s1 (.int _)⟩
  | _ => exact o1.elim⟩
theorem sE_gint {j : Int} (h : ∃ t, X.mg x = some (.int j t)) (hg : Gl X x) (hd : (x == ("__debug__" : Str)) = false := by decide) : PE X (.Name x pos) (rdE P E (fC (.int j))) := by
  obtain ⟨t, h⟩ := h
  exact sE_con hg h (v := .int j) ⟨t, rfl⟩ (fun _ => .int j) hd
theorem sE_gstr {s : List Nat} {z : Str} (h : ∃ t, X.mg x = some (.str z t)) (hg : Gl X x) (hz : z = toStr s := by decide) (hd : (x == ("__debug__" : Str)) = false := by decide) : PE X (.Name x pos) (rdE P E (fC (.str s))) := by
  obtain ⟨t, h⟩ := h
  exact sE_con hg h (v := .str (toStr s)) ⟨t, by rw [← hz]⟩ (fun _ => .str s) hd
theorem rm_of {k : Nat} (hr : Room k X.A) (hK : X.K = P.K := by rfl) (hp : X.prog = P.prog := by rfl) (hw : X.w = P.w := by rfl) : Rm P X := ⟨hK, hp, hw, by have := hr.un; omega⟩
theorem u_of {k : Nat} (hr : Room k X.A) : X.A.units + 100 < cLine := by have := hr.un; omega
theorem xe_names {c : Addr} (hg : Gl X x) (h : X.mg x = some (.ref c)) (hd : (x == ("__debug__" : Str)) = false := by decide) : Names X x (.ref c) := ⟨hg, hd, .inl h⟩
end
/-! ### the fields' names -/
theorem fnm_far {i : Nat} (h : 8 ≤ i) : fnm i = ⟨Array.replicate i 35⟩ := by
  unfold fnm
  rw [List.getElem?_eq_none (by show fnmL.length ≤ i; exact h)]
theorem len_far {i : Nat} : ((⟨Array.replicate i 35⟩ : Str)).cps.size = i := by simp
theorem fnm_len : ∀ j, j < 8 → (fnm j).cps.size < 8 := by decide +kernel
theorem own_q {w : World} {K : PySem.W.Frag} {gh : G} {j : Nat} (h : Nat.blt j 8 = true) : Own (Pk w K gh) j := fun i e => by
  have hj : j < 8 := Nat.le_of_ble_eq_true h
  have e : fnm i = fnm j := e
  by_cases hi : 8 ≤ i
  · have h1 := fnm_len j hj
    rw [← e, fnm_far hi, len_far] at h1
    omega
  · have key : ∀ i, i < 8 → ∀ j, j < 8 → fnm i = fnm j → i = j := by decide +kernel
    exact key i (by omega) j hj e
theorem fnm_ne {w : World} {K : PySem.W.Frag} {gh : G} {m : Str} (h1 : (fnmL.all fun x => decide (x ≠ m)) = true) (h2 : decide (m.cps[0]? ≠ some 35) = true) : ∀ i, (Pk w K gh).fn i ≠ m := fun i e => by
  have e : fnm i = m := e
  by_cases hi : 8 ≤ i
  · rw [fnm_far hi] at e
    have h3 := of_decide_eq_true h2
    rw [← e] at h3
    exact h3 (by show (Array.replicate i 35)[0]? = some 35; rw [Array.getElem?_replicate, if_pos (by omega)])
  · have hl : i < fnmL.length := by show i < 8; omega
    have e2 : fnm i = fnmL[i] := by unfold fnm; rw [List.getElem?_eq_getElem hl]
    have h3 := List.all_eq_true.mp h1 fnmL[i] (List.getElem_mem hl)
    exact of_decide_eq_true h3 (e2.symm.trans e)
/-! ### the dict of the words -/
section
variable {w : World} {K : PySem.W.Frag} {mg : Str → Option Value} {base : Heap} {gh : G}
theorem kdLook_mem : ∀ {T : KdT} {s : List Nat} {o : Option Int}, kdLook T s = some o → (s, o) ∈ T
  | [], _, _, h => by cases h
  | (k, v) :: r, s, o, h => by
    have h' : (match sEq k s with
      | true => some v | false => kdLook r s) = some o := h
    cases q : sEq k s with
    | true =>
      rw [q] at h'; cases h'
      rw [sEq_eq] at q
      rw [of_decide_eq_true q]; exact List.mem_cons_self
    | false => rw [q] at h'; exact List.mem_cons_of_mem _ (kdLook_mem h')
theorem Fx.kd (F : Fx w K mg base) {X : Cx} (hK : X.K = K := by rfl) (hw : X.w = w := by rfl) : KdF (Pk w K gh) X 0 (He.ga K "PARTS_OF") kdT := by
  have b : kdB K = true := (and2 (and2 (and2 (and2 F.ex).2).2).1).1
  have key : ∀ {s : List Nat} {o : Option Int}, kdLook kdT s = some o → (match o, PySem.W.nsIn K (He.ga K "PARTS_OF") (toStr s) with
      | some i, some (some (.int j _)) => decide (i = j)
      | none, some none => true
      | _, _ => false) = true := fun h => List.all_eq_true.mp b _ (kdLook_mem h)
  refine ⟨?_, rfl, fun s i h => ?_, fun s h => ?_⟩
  · rw [hK, hw]; exact He.dicW_ok F.t
  · have k := key h
    rw [hK]
    split at k
    · rename_i i' j t e1 e2
      cases e1
      have ij := of_decide_eq_true k
      subst ij
      exact ⟨t, e2⟩
    · rename_i e1 _; cases e1
    · cases k
  · have k := key h
    rw [hK]
    split at k
    · rename_i e1 _; cases e1
    · rename_i e2; exact e2
    · cases k
theorem Fx.more (F : Fx w K mg base) : (propB K (He.ga K "Bench") "acts" (He.ma K (He.ga K "Bench") "acts") (propG K (He.ma K (He.ga K "Bench") "acts")) = true ∧ isiCB K (He.ga K "Bench") = true) ∧ eqCB K (He.ga K "Bench") (He.ma K (He.ga K "Bench") "__eq__") = true ∧ He.tupB K "PRIMES" [.int 2, .int 3, .int 5, .int 7] = true :=
  ⟨and2 (and2 (and2 (and2 F.ex).2).1).1, and2 (and2 (and2 (and2 F.ex).2).1).2⟩
def primesD : D := .tup [.int 2, .int 3, .int 5, .int 7]
theorem Fx.primes (F : Fx w K mg base) (g : G) : RV (Pk w K gh) g.F g.ρ primesD (.ref (He.ga K "PRIMES")) := .tup (P := Pk w K gh) (He.tupB_ok F.more.2.2 g.F) (.cons (.int 2) (.cons (.int 3) (.cons (.int 5) (.cons (.int 7) .nil))))
theorem Fx.bench (F : Fx w K mg base) : Cls K (He.ga K "Bench") := F.cls (x := "Bench") 72 rfl
theorem Fx.isiC (F : Fx w K mg base) : IsiC K (He.ga K "Bench") := isiCB_ok F.more.1.2 F.bench
theorem Fx.eqC (F : Fx w K mg base) : EqC K (He.ga K "Bench") (He.ma K (He.ga K "Bench") "__eq__") := eqCB_ok F.more.2.1 F.bench
theorem Fx.prop (F : Fx w K mg base) : PropOf K (He.ga K "Bench") "acts" (He.ma K (He.ga K "Bench") "acts") (propG K (He.ma K (He.ga K "Bench") "acts")) := propB_ok F.more.1.1
theorem Fx.xf (F : Fx w K mg base) (i : Nat) {p : Str × Str} (h : errsL[i]? = some p) : XfC K (He.ga K p.1) := xfB_ok (List.all_eq_true.mp (and2 (and2 (and2 (and2 F.ex).2).2).1).2 p (List.mem_of_getElem? h))
theorem Fx.err (F : Fx w K mg base) (i : Nat) {p : Str × Str} (h : errsL[i]? = some p) : errB K pw.main.file (He.ga K p.1) (He.ma K (He.ga K p.1) "__init__") p.2 = true := List.all_eq_true.mp F.ex1.2 p (List.mem_of_getElem? h)
theorem Fx.exm (F : Fx w K mg base) : ∀ c c', c < 7 → c' < 7 → PySem.W.exmOne K (.ref (He.ga K (xnm c))) (.ref (He.ga K (xnm c'))) = some (Nat.beq c c') := by
  have key : ∀ c, c < 7 → ∀ c', c' < 7 → He.Fa.ok K (.exm (xnm c) (xnm c') (Nat.beq c c')) = true := fun c hc c' hc' => by
    have h0 : faL[107 + 7 * c + c']? = some (.exm (xnm c) (xnm c') (Nat.beq c c')) := by
      match c, hc, c', hc' with
      | 0, _, 0, _ => rfl
      | 0, _, 1, _ => rfl
      | 0, _, 2, _ => rfl
      | 0, _, 3, _ => rfl
      | 0, _, 4, _ => rfl
      | 0, _, 5, _ => rfl
      | 0, _, 6, _ => rfl
      | 1, _, 0, _ => rfl
      | 1, _, 1, _ => rfl
      | 1, _, 2, _ => rfl
      | 1, _, 3, _ => rfl
      | 1, _, 4, _ => rfl
      | 1, _, 5, _ => rfl
      | 1, _, 6, _ => rfl
      | 2, _, 0, _ => rfl
      | 2, _, 1, _ => rfl
      | 2, _, 2, _ => rfl
      | 2, _, 3, _ => rfl
      | 2, _, 4, _ => rfl
      | 2, _, 5, _ => rfl
      | 2, _, 6, _ => rfl
      | 3, _, 0, _ => rfl
      | 3, _, 1, _ => rfl
      | 3, _, 2, _ => rfl
      | 3, _, 3, _ => rfl
      | 3, _, 4, _ => rfl
      | 3, _, 5, _ => rfl
      | 3, _, 6, _ => rfl
      | 4, _, 0, _ => rfl
      | 4, _, 1, _ => rfl
      | 4, _, 2, _ => rfl
      | 4, _, 3, _ => rfl
      | 4, _, 4, _ => rfl
      | 4, _, 5, _ => rfl
      | 4, _, 6, _ => rfl
      | 5, _, 0, _ => rfl
      | 5, _, 1, _ => rfl
      | 5, _, 2, _ => rfl
      | 5, _, 3, _ => rfl
      | 5, _, 4, _ => rfl
      | 5, _, 5, _ => rfl
      | 5, _, 6, _ => rfl
      | 6, _, 0, _ => rfl
      | 6, _, 1, _ => rfl
      | 6, _, 2, _ => rfl
      | 6, _, 3, _ => rfl
      | 6, _, 4, _ => rfl
      | 6, _, 5, _ => rfl
      | 6, _, 6, _ => rfl
    exact F.fact _ h0
  exact fun c c' hc hc' => He.exm_ok (key c hc c' hc')
end
end EK
end S_EwQ
section S_EkA
/-! EkA: the program's defs, each by the rules. -/
namespace EK
open PySem PySem.Spec PyProof.Rows L2 Evl EV LamX
section
variable {w : World} {K : PySem.W.Frag} {mg : Str → Option Value} {base : Heap} {gh : G}
theorem et_BadEdit (F : Fx w K mg base) : ErrF pw K (He.ga K "BadEdit") (He.ma K (He.ga K "BadEdit") "__init__") "value" "BadEdit.__init__" (defBody (mth 7 0)) (defScope (mth 7 0)) (fdOf K (He.ma K (He.ga K "BadEdit") "__init__")) := errB_ok (d := ⟨fun K => He.ma K (He.ga K "BadEdit") "__init__", "__init__", "BadEdit.__init__", mth 7 0, ["__class__"]⟩) (F.err 0 rfl) (F.qw 68 rfl).1 (F.qw 68 rfl).2 rfl rfl (fun _ _ _ _ _ _ _ _ => rfl)
theorem er_BadEdit (F : Fx w K mg base) : FnOk pw w K mg base (L2.CX pw w) 1 (He.ma K (He.ga K "BadEdit") "__init__") (fdOf K (He.ma K (He.ga K "BadEdit") "__init__")) ["self", "value"] (spErr (Pk w K gh) (He.ga K "BadEdit") "value") := err_ok (k := 0) rfl ⟨rfl, rfl, rfl, rfl, by decide, by decide, by decide, by decide, by decide, by kernel_rfl⟩ (et_BadEdit F) (F.free 66 rfl) (by decide) (fun env => rfl)
theorem eb_BadEdit (F : Fx w K mg base) : Binds K (fdOf K (He.ma K (He.ga K "BadEdit") "__init__")) ["self", "value"] [] := by
  obtain ⟨oc, od, osl, doc, pm, cdv, ct, an, cl, lk, _, _, _⟩ := fnB_at (F.qw 68 rfl).1 (F.qw 68 rfl).2
  have e : fdOf K (He.ma K (He.ga K "BadEdit") "__init__") = _ := fdOf_at lk
  rw [e]
  exact .all fun us hl => match us, hl with | [_, _], _ => rfl
theorem et_BadName (F : Fx w K mg base) : ErrF pw K (He.ga K "BadName") (He.ma K (He.ga K "BadName") "__init__") "value" "BadName.__init__" (defBody (mth 6 0)) (defScope (mth 6 0)) (fdOf K (He.ma K (He.ga K "BadName") "__init__")) := errB_ok (d := ⟨fun K => He.ma K (He.ga K "BadName") "__init__", "__init__", "BadName.__init__", mth 6 0, ["__class__"]⟩) (F.err 1 rfl) (F.qw 69 rfl).1 (F.qw 69 rfl).2 rfl rfl (fun _ _ _ _ _ _ _ _ => rfl)
theorem er_BadName (F : Fx w K mg base) : FnOk pw w K mg base (L2.CX pw w) 1 (He.ma K (He.ga K "BadName") "__init__") (fdOf K (He.ma K (He.ga K "BadName") "__init__")) ["self", "value"] (spErr (Pk w K gh) (He.ga K "BadName") "value") := err_ok (k := 0) rfl ⟨rfl, rfl, rfl, rfl, by decide, by decide, by decide, by decide, by decide, by kernel_rfl⟩ (et_BadName F) (F.free 66 rfl) (by decide) (fun env => rfl)
theorem eb_BadName (F : Fx w K mg base) : Binds K (fdOf K (He.ma K (He.ga K "BadName") "__init__")) ["self", "value"] [] := by
  obtain ⟨oc, od, osl, doc, pm, cdv, ct, an, cl, lk, _, _, _⟩ := fnB_at (F.qw 69 rfl).1 (F.qw 69 rfl).2
  have e : fdOf K (He.ma K (He.ga K "BadName") "__init__") = _ := fdOf_at lk
  rw [e]
  exact .all fun us hl => match us, hl with | [_, _], _ => rfl
theorem et_BadFace (F : Fx w K mg base) : ErrF pw K (He.ga K "BadFace") (He.ma K (He.ga K "BadFace") "__init__") "value" "BadFace.__init__" (defBody (mth 4 0)) (defScope (mth 4 0)) (fdOf K (He.ma K (He.ga K "BadFace") "__init__")) := errB_ok (d := ⟨fun K => He.ma K (He.ga K "BadFace") "__init__", "__init__", "BadFace.__init__", mth 4 0, ["__class__"]⟩) (F.err 2 rfl) (F.qw 70 rfl).1 (F.qw 70 rfl).2 rfl rfl (fun _ _ _ _ _ _ _ _ => rfl)
theorem er_BadFace (F : Fx w K mg base) : FnOk pw w K mg base (L2.CX pw w) 1 (He.ma K (He.ga K "BadFace") "__init__") (fdOf K (He.ma K (He.ga K "BadFace") "__init__")) ["self", "value"] (spErr (Pk w K gh) (He.ga K "BadFace") "value") := err_ok (k := 0) rfl ⟨rfl, rfl, rfl, rfl, by decide, by decide, by decide, by decide, by decide, by kernel_rfl⟩ (et_BadFace F) (F.free 66 rfl) (by decide) (fun env => rfl)
theorem eb_BadFace (F : Fx w K mg base) : Binds K (fdOf K (He.ma K (He.ga K "BadFace") "__init__")) ["self", "value"] [] := by
  obtain ⟨oc, od, osl, doc, pm, cdv, ct, an, cl, lk, _, _, _⟩ := fnB_at (F.qw 70 rfl).1 (F.qw 70 rfl).2
  have e : fdOf K (He.ma K (He.ga K "BadFace") "__init__") = _ := fdOf_at lk
  rw [e]
  exact .all fun us hl => match us, hl with | [_, _], _ => rfl
theorem et_BadComplex (F : Fx w K mg base) : ErrF pw K (He.ga K "BadComplex") (He.ma K (He.ga K "BadComplex") "__init__") "path" "BadComplex.__init__" (defBody (mth 5 0)) (defScope (mth 5 0)) (fdOf K (He.ma K (He.ga K "BadComplex") "__init__")) := errB_ok (d := ⟨fun K => He.ma K (He.ga K "BadComplex") "__init__", "__init__", "BadComplex.__init__", mth 5 0, ["__class__"]⟩) (F.err 3 rfl) (F.qw 71 rfl).1 (F.qw 71 rfl).2 rfl rfl (fun _ _ _ _ _ _ _ _ => rfl)
theorem er_BadComplex (F : Fx w K mg base) : FnOk pw w K mg base (L2.CX pw w) 1 (He.ma K (He.ga K "BadComplex") "__init__") (fdOf K (He.ma K (He.ga K "BadComplex") "__init__")) ["self", "path"] (spErr (Pk w K gh) (He.ga K "BadComplex") "path") := err_ok (k := 0) rfl ⟨rfl, rfl, rfl, rfl, by decide, by decide, by decide, by decide, by decide, by kernel_rfl⟩ (et_BadComplex F) (F.free 66 rfl) (by decide) (fun env => rfl)
theorem eb_BadComplex (F : Fx w K mg base) : Binds K (fdOf K (He.ma K (He.ga K "BadComplex") "__init__")) ["self", "path"] [] := by
  obtain ⟨oc, od, osl, doc, pm, cdv, ct, an, cl, lk, _, _, _⟩ := fnB_at (F.qw 71 rfl).1 (F.qw 71 rfl).2
  have e : fdOf K (He.ma K (He.ga K "BadComplex") "__init__") = _ := fdOf_at lk
  rw [e]
  exact .all fun us hl => match us, hl with | [_, _], _ => rfl
theorem et_BadPrime (F : Fx w K mg base) : ErrF pw K (He.ga K "BadPrime") (He.ma K (He.ga K "BadPrime") "__init__") "value" "BadPrime.__init__" (defBody (mth 3 0)) (defScope (mth 3 0)) (fdOf K (He.ma K (He.ga K "BadPrime") "__init__")) := errB_ok (d := ⟨fun K => He.ma K (He.ga K "BadPrime") "__init__", "__init__", "BadPrime.__init__", mth 3 0, ["__class__"]⟩) (F.err 4 rfl) (F.qw 72 rfl).1 (F.qw 72 rfl).2 rfl rfl (fun _ _ _ _ _ _ _ _ => rfl)
theorem er_BadPrime (F : Fx w K mg base) : FnOk pw w K mg base (L2.CX pw w) 1 (He.ma K (He.ga K "BadPrime") "__init__") (fdOf K (He.ma K (He.ga K "BadPrime") "__init__")) ["self", "value"] (spErr (Pk w K gh) (He.ga K "BadPrime") "value") := err_ok (k := 0) rfl ⟨rfl, rfl, rfl, rfl, by decide, by decide, by decide, by decide, by decide, by kernel_rfl⟩ (et_BadPrime F) (F.free 66 rfl) (by decide) (fun env => rfl)
theorem eb_BadPrime (F : Fx w K mg base) : Binds K (fdOf K (He.ma K (He.ga K "BadPrime") "__init__")) ["self", "value"] [] := by
  obtain ⟨oc, od, osl, doc, pm, cdv, ct, an, cl, lk, _, _, _⟩ := fnB_at (F.qw 72 rfl).1 (F.qw 72 rfl).2
  have e : fdOf K (He.ma K (He.ga K "BadPrime") "__init__") = _ := fdOf_at lk
  rw [e]
  exact .all fun us hl => match us, hl with | [_, _], _ => rfl
theorem et_TooGreat (F : Fx w K mg base) : ErrF pw K (He.ga K "TooGreat") (He.ma K (He.ga K "TooGreat") "__init__") "most" "TooGreat.__init__" (defBody (mth 8 0)) (defScope (mth 8 0)) (fdOf K (He.ma K (He.ga K "TooGreat") "__init__")) := errB_ok (d := ⟨fun K => He.ma K (He.ga K "TooGreat") "__init__", "__init__", "TooGreat.__init__", mth 8 0, ["__class__"]⟩) (F.err 5 rfl) (F.qw 73 rfl).1 (F.qw 73 rfl).2 rfl rfl (fun _ _ _ _ _ _ _ _ => rfl)
theorem er_TooGreat (F : Fx w K mg base) : FnOk pw w K mg base (L2.CX pw w) 1 (He.ma K (He.ga K "TooGreat") "__init__") (fdOf K (He.ma K (He.ga K "TooGreat") "__init__")) ["self", "most"] (spErr (Pk w K gh) (He.ga K "TooGreat") "most") := err_ok (k := 0) rfl ⟨rfl, rfl, rfl, rfl, by decide, by decide, by decide, by decide, by decide, by kernel_rfl⟩ (et_TooGreat F) (F.free 66 rfl) (by decide) (fun env => rfl)
theorem eb_TooGreat (F : Fx w K mg base) : Binds K (fdOf K (He.ma K (He.ga K "TooGreat") "__init__")) ["self", "most"] [] := by
  obtain ⟨oc, od, osl, doc, pm, cdv, ct, an, cl, lk, _, _, _⟩ := fnB_at (F.qw 73 rfl).1 (F.qw 73 rfl).2
  have e : fdOf K (He.ma K (He.ga K "TooGreat") "__init__") = _ := fdOf_at lk
  rw [e]
  exact .all fun us hl => match us, hl with | [_, _], _ => rfl
theorem sc_is_integer : FnScope ["value"] ["value"] (defScope (top 11)) := ⟨rfl, rfl, rfl, by decide +kernel, rfl, by decide +kernel, by decide +kernel⟩
theorem bd_is_integer (F : Fx w K mg base) : Binds K (fdOf K (He.ga K "is_integer")) ["value"] [] := FunD.bindsN (F.fun 0 rfl) (fun _ _ _ _ _ _ us hl => match us, hl with | [_], _ => rfl)
def F_is_integer : FF := fDef 1 (sRet (fAnd (fIsi 2 (fVar 0)) (fNot (fIsi 1 (fVar 0)))))
theorem ok_is_integer (F : Fx w K mg base) : FnOk pw w K mg base (L2.CX pw w) 1 (He.ga K "is_integer") (fdOf K (He.ga K "is_integer")) ["value"] (spF (Pk w K gh) 1 F_is_integer) := fn_evD (k := 0) (N := ["value"]) (ps := ["value"]) (F.fun 0 rfl) sc_is_integer fun cdv A outer s₀ H E hr =>
  (sS_one (s_ret (sE_and (sE_isi (k := 2) rfl (by decide) rfl (F.free 50 rfl) rfl (F.free 58 rfl) (by kernel_rfl) (by decide) (by decide) (sE_var (i := 0) rfl (.inl rfl))) (sE_one (sE_not (sE_isi (k := 1) rfl (by decide) rfl (F.free 50 rfl) rfl (F.free 59 rfl) (by kernel_rfl) (by decide) (by decide) (sE_var (i := 0) rfl (.inl rfl))))))))
theorem sc_is_from : FnScope ["value", "least", "most"] ["value", "least", "most"] (defScope (top 12)) := ⟨rfl, rfl, rfl, by decide +kernel, rfl, by decide +kernel, by decide +kernel⟩
theorem bd_is_from (F : Fx w K mg base) : Binds K (fdOf K (He.ga K "is_from")) ["value", "least", "most"] [] := FunD.bindsN (F.fun 1 rfl) (fun _ _ _ _ _ _ us hl => match us, hl with | [_, _, _], _ => rfl)
def F_is_from : FF := fDef 3 (sRet (fAnd (fCall 1 F_is_integer (fCons (fVar 0) fNil)) (f3 (dCmp iLe) (dCmp iLe) (fVar 1) (fVar 0) (fVar 2))))
theorem ok_is_from (F : Fx w K mg base) : FnOk pw w K mg base (L2.CX pw w) 2 (He.ga K "is_from") (fdOf K (He.ga K "is_from")) ["value", "least", "most"] (spF (Pk w K gh) 3 F_is_from) := fn_evD (k := 1) (N := ["value", "least", "most"]) (ps := ["value", "least", "most"]) (F.fun 1 rfl) sc_is_from fun cdv A outer s₀ H E hr =>
  (sS_one (s_ret (sE_and (sE_call (ok_is_integer F) tk_of (hr.mono (by decide)) rfl (F.glo 0 rfl) (F.fun 0 rfl).kp (bd_is_integer F) (sA_cons (sE_var (i := 0) rfl (.inl rfl)) sA_nil)) (sE_one (sE_chain oLe oLe (sE_var (i := 1) rfl (.inl rfl)) (sE_var (i := 0) rfl (.inl rfl)) (sE_var (i := 2) rfl (.inl rfl)))))))
theorem sc_is_up_to : FnScope ["value", "most"] ["value", "most"] (defScope (top 13)) := ⟨rfl, rfl, rfl, by decide +kernel, rfl, by decide +kernel, by decide +kernel⟩
theorem bd_is_up_to (F : Fx w K mg base) : Binds K (fdOf K (He.ga K "is_up_to")) ["value", "most"] [] := FunD.bindsN (F.fun 2 rfl) (fun _ _ _ _ _ _ us hl => match us, hl with | [_, _], _ => rfl)
def F_is_up_to : FF := fDef 2 (sRet (fCall 3 F_is_from (fCons (fVar 0) (fCons (fC (.int 0)) (fCons (fVar 1) fNil)))))
theorem ok_is_up_to (F : Fx w K mg base) : FnOk pw w K mg base (L2.CX pw w) 3 (He.ga K "is_up_to") (fdOf K (He.ga K "is_up_to")) ["value", "most"] (spF (Pk w K gh) 2 F_is_up_to) := fn_evD (k := 2) (N := ["value", "most"]) (ps := ["value", "most"]) (F.fun 2 rfl) sc_is_up_to fun cdv A outer s₀ H E hr =>
  (sS_one (s_ret (sE_call (ok_is_from F) tk_of (hr.mono (by decide)) rfl (F.glo 1 rfl) (F.fun 1 rfl).kp (bd_is_from F) (sA_cons (sE_var (i := 0) rfl (.inl rfl)) (sA_cons sE_int (sA_cons (sE_var (i := 1) rfl (.inl rfl)) sA_nil))))))
theorem sc_inverse_mod : FnScope ["number", "modulus", "one", "two", "near", "far", "part"] ["number", "modulus"] (defScope (top 14)) := ⟨rfl, rfl, rfl, by decide +kernel, rfl, by decide +kernel, by decide +kernel⟩
theorem bd_inverse_mod (F : Fx w K mg base) : Binds K (fdOf K (He.ga K "inverse_mod")) ["number", "modulus"] [] := FunD.bindsN (F.fun 3 rfl) (fun _ _ _ _ _ _ us hl => match us, hl with | [_, _], _ => rfl)
def F_inverse_mod : FF := fDef 7 (sSeq (sAsg (gTp 4 (gsCons (gNm 2) (gsCons (gNm 3) (gsCons (gNm 4) (gsCons (gNm 5) gsNil))))) (fTup (fCons (f2 dMod (fVar 0) (fVar 1)) (fCons (fVar 1) (fCons (fC (.int 1)) (fCons (fC (.int 0)) fNil)))))) (sSeq (sWh 300 (tOf (f2 dNeG (fVar 3) (fC (.int 0)))) (sSeq (sSet 6 (f2 dFdiv (fVar 2) (fVar 3))) (sAsg (gTp 4 (gsCons (gNm 2) (gsCons (gNm 3) (gsCons (gNm 4) (gsCons (gNm 5) gsNil))))) (fTup (fCons (fVar 3) (fCons (f2 dSub (fVar 2) (f2 (dMul false) (fVar 6) (fVar 3))) (fCons (fVar 5) (fCons (f2 dSub (fVar 4) (f2 (dMul false) (fVar 6) (fVar 5))) fNil)))))))) (sRet (f2 dMod (fVar 4) (fVar 1)))))
theorem ok_inverse_mod (F : Fx w K mg base) : FnOk pw w K mg base (L2.CX pw w) 1 (He.ga K "inverse_mod") (fdOf K (He.ga K "inverse_mod")) ["number", "modulus"] (spF (Pk w K gh) 2 F_inverse_mod) := fn_evD (k := 0) (N := ["number", "modulus", "one", "two", "near", "far", "part"]) (ps := ["number", "modulus"]) (F.fun 3 rfl) sc_inverse_mod fun cdv A outer s₀ H E hr =>
  (sS_cons (s_asg (vs := [2, 3, 4, 5]) (sE_tup (sA_cons (sE_op oMod (sE_var (i := 0) rfl (.inl rfl)) (sE_var (i := 1) rfl (.inl rfl))) (sA_cons (sE_var (i := 1) rfl (.inl rfl)) (sA_cons sE_int (sA_cons sE_int sA_nil))))) (sG_tup rfl (sGs_cons (sG_name sc_inverse_mod.nd rfl (.inl rfl)) (sGs_cons (sG_name sc_inverse_mod.nd rfl (.inl rfl)) (sGs_cons (sG_name sc_inverse_mod.nd rfl (.inl rfl)) (sGs_cons (sG_name sc_inverse_mod.nd rfl (.inl rfl)) sGs_nil))))))
  (sS_cons (s_while (n := 300) po_of (sT_cmp (oNeG (rm_of hr)) (sE_var (i := 3) rfl (.inl rfl)) sE_int) (sS_cons (s_set sc_inverse_mod.nd rfl (.inl rfl) (sE_op oFdiv (sE_var (i := 2) rfl (.inl rfl)) (sE_var (i := 3) rfl (.inl rfl))))
  (sS_one (s_asg (vs := [2, 3, 4, 5]) (sE_tup (sA_cons (sE_var (i := 3) rfl (.inl rfl)) (sA_cons (sE_op oSub (sE_var (i := 2) rfl (.inl rfl)) (sE_op (oMul (m := false)) (sE_var (i := 6) rfl (.inl rfl)) (sE_var (i := 3) rfl (.inl rfl)))) (sA_cons (sE_var (i := 5) rfl (.inl rfl)) (sA_cons (sE_op oSub (sE_var (i := 4) rfl (.inl rfl)) (sE_op (oMul (m := false)) (sE_var (i := 6) rfl (.inl rfl)) (sE_var (i := 5) rfl (.inl rfl)))) sA_nil))))) (sG_tup rfl (sGs_cons (sG_name sc_inverse_mod.nd rfl (.inl rfl)) (sGs_cons (sG_name sc_inverse_mod.nd rfl (.inl rfl)) (sGs_cons (sG_name sc_inverse_mod.nd rfl (.inl rfl)) (sGs_cons (sG_name sc_inverse_mod.nd rfl (.inl rfl)) sGs_nil)))))))))
  (sS_one (s_ret (sE_op oMod (sE_var (i := 4) rfl (.inl rfl)) (sE_var (i := 1) rfl (.inl rfl)))))))
theorem sc_is_lot : FnScope ["many", "value", "near", "far", "one"] ["many", "value"] (defScope (top 17)) := ⟨rfl, rfl, rfl, by decide +kernel, rfl, by decide +kernel, by decide +kernel⟩
theorem bd_is_lot (F : Fx w K mg base) : Binds K (fdOf K (He.ga K "is_lot")) ["many", "value"] [] := FunD.bindsN (F.fun 4 rfl) (fun _ _ _ _ _ _ us hl => match us, hl with | [_, _], _ => rfl)
def F_is_lot : FF := fDef 5 (sSeq (sIf (tOrF (tNotF (tOf (fIsi 4 (fVar 1)))) (tNotF (tOf (fB gAll (fCons (fLc false [4] (iTp (fVar 1)) (gNm 4) tYesF (fCall 3 F_is_from (fCons (fVar 4) (fCons (fC (.int 0)) (fCons (f2 dSub (fVar 0) (fC (.int 1))) fNil))))) fNil))))) (sRet (fC (.bl false))) sNil) (sRet (fB gAll (fCons (fLc false [2, 3] (iZp (fCons (fVar 1) (fCons (fSlc false (fVar 1) (oSome (fC (.int 1))) oNo) fNil))) (gTp 2 (gsCons (gNm 2) (gsCons (gNm 3) gsNil))) tYesF (f2 (dCmp iLt) (fVar 2) (fVar 3))) fNil))))
theorem ok_is_lot (F : Fx w K mg base) : FnOk pw w K mg base (L2.CX pw w) 3 (He.ga K "is_lot") (fdOf K (He.ga K "is_lot")) ["many", "value"] (spF (Pk w K gh) 2 F_is_lot) := fn_evD (k := 2) (N := ["many", "value", "near", "far", "one"]) (ps := ["many", "value"]) (F.fun 4 rfl) sc_is_lot fun cdv A outer s₀ H E hr =>
  (sS_cons (s_if (sT_w (sW_or (sT_not (sT_val (sE_isi (k := 4) rfl (by decide) rfl (F.free 50 rfl) rfl (F.free 55 rfl) (by kernel_rfl) (by decide) (by decide) (sE_var (i := 1) rfl (.inl rfl))))) (sW_or1 (sT_not (sT_val (sE_bf (cAll rfl) rfl (F.free 52 rfl) (by kernel_rfl) (sA_cons (sE_lc (own := [("one", 4)]) (m := false) rfl sc_is_lot.nd (sI_tup (sE_var (i := 1) rfl (.inl rfl))) (blkOk_by (by kernel_rfl)) (fun s H C cl fp => (sG_name sc_is_lot.nd rfl (.inl rfl))) (fun s H C cl fp => sTs_nil) (fun s H C cl fp => (sE_call (ok_is_from F) LamX.takes0 (hr.mono (by decide)) rfl (F.glo 1 rfl) (F.fun 1 rfl).kp (bd_is_from F) (sA_cons (sE_var (i := 4) rfl (.inl rfl)) (sA_cons sE_int (sA_cons (sE_op oSub (sE_var (i := 0) rfl (.inr (.inl rfl))) sE_int) sA_nil)))))) sA_nil))))))) (sS_one (s_ret sE_bl)) sS_nil)
  (sS_one (s_ret (sE_bf (cAll rfl) rfl (F.free 52 rfl) (by kernel_rfl) (sA_cons (sE_lc (own := [("near", 2), ("far", 3)]) (m := false) rfl sc_is_lot.nd (sI_zip rfl (F.free 62 rfl) (sA_cons (sE_var (i := 1) rfl (.inl rfl)) (sA_cons (sE_slc (m := false) (sE_var (i := 1) rfl (.inl rfl)) (sO_some sE_int) sO_none) sA_nil))) (blkOk_by (by kernel_rfl)) (fun s H C cl fp => (sG_tup rfl (sGs_cons (sG_name sc_is_lot.nd rfl (.inl rfl)) (sGs_cons (sG_name sc_is_lot.nd rfl (.inl rfl)) sGs_nil)))) (fun s H C cl fp => sTs_nil) (fun s H C cl fp => (sE_cmp oLt (sE_var (i := 2) rfl (.inl rfl)) (sE_var (i := 3) rfl (.inl rfl))))) sA_nil)))))
theorem sc_need_lot : FnScope ["many", "lot"] ["many", "lot"] (defScope (top 18)) := ⟨rfl, rfl, rfl, by decide +kernel, rfl, by decide +kernel, by decide +kernel⟩
theorem bd_need_lot (F : Fx w K mg base) : Binds K (fdOf K (He.ga K "need_lot")) ["many", "lot"] [] := FunD.bindsN (F.fun 5 rfl) (fun _ _ _ _ _ _ us hl => match us, hl with | [_, _], _ => rfl)
def F_need_lot : FF := fDef 2 (sSeq (sIf (tNotF (tOf (fCall 2 F_is_lot (fCons (fVar 0) (fCons (fVar 1) fNil))))) (sRaise 2 5 (fVar 1)) sNil) (sRet (fVar 1)))
theorem ok_need_lot (F : Fx w K mg base) : FnOk pw w K mg base (L2.CX pw w) 4 (He.ga K "need_lot") (fdOf K (He.ga K "need_lot")) ["many", "lot"] (spF (Pk w K gh) 2 F_need_lot) := fn_evD (k := 3) (N := ["many", "lot"]) (ps := ["many", "lot"]) (F.fun 5 rfl) sc_need_lot fun cdv A outer s₀ H E hr =>
  (sS_cons (s_if (sT_not (sT_val (sE_call (ok_is_lot F) tk_of (hr.mono (by decide)) rfl (F.glo 4 rfl) (F.fun 4 rfl).kp (bd_is_lot F) (sA_cons (sE_var (i := 0) rfl (.inl rfl)) (sA_cons (sE_var (i := 1) rfl (.inl rfl)) sA_nil))))) (sS_one (s_raise (c := 2) (fl := 5) rfl tk_of rfl (et_BadFace F).T (et_BadFace F).iC (et_BadFace F).tI (er_BadFace F) rfl (hr.mono (by decide)) (eb_BadFace F) rfl (F.glo 45 rfl) (sE_var (i := 1) rfl (.inl rfl)))) sS_nil)
  (sS_one (s_ret (sE_var (i := 1) rfl (.inl rfl)))))
end
end EK
end S_EkA
section S_EkB
/-! EkB: the program's defs, each by the rules. -/
namespace EK
open PySem PySem.Spec PyProof.Rows L2 Evl EV LamX
section
variable {w : World} {K : PySem.W.Frag} {mg : Str → Option Value} {base : Heap} {gh : G}
theorem sc_lies_in : FnScope ["near", "far", "one"] ["near", "far"] (defScope (top 19)) := ⟨rfl, rfl, rfl, by decide +kernel, rfl, by decide +kernel, by decide +kernel⟩
theorem bd_lies_in (F : Fx w K mg base) : Binds K (fdOf K (He.ga K "lies_in")) ["near", "far"] [] := FunD.bindsN (F.fun 6 rfl) (fun _ _ _ _ _ _ us hl => match us, hl with | [_, _], _ => rfl)
def F_lies_in : FF := fDef 3 (sRet (fB gAll (fCons (fLc false [2] (iTp (fVar 0)) (gNm 2) tYesF (f2 (dIn false) (fVar 2) (fVar 1))) fNil)))
theorem ok_lies_in (F : Fx w K mg base) : FnOk pw w K mg base (L2.CX pw w) 1 (He.ga K "lies_in") (fdOf K (He.ga K "lies_in")) ["near", "far"] (spF (Pk w K gh) 2 F_lies_in) := fn_evD (k := 0) (N := ["near", "far", "one"]) (ps := ["near", "far"]) (F.fun 6 rfl) sc_lies_in fun cdv A outer s₀ H E hr =>
  (sS_one (s_ret (sE_bf (cAll rfl) rfl (F.free 52 rfl) (by kernel_rfl) (sA_cons (sE_lc (own := [("one", 2)]) (m := false) rfl sc_lies_in.nd (sI_tup (sE_var (i := 0) rfl (.inl rfl))) (blkOk_by (by kernel_rfl)) (fun s H C cl fp => (sG_name sc_lies_in.nd rfl (.inl rfl))) (fun s H C cl fp => sTs_nil) (fun s H C cl fp => (sE_cmp (oInA (rm_of hr)) (sE_var (i := 2) rfl (.inl rfl)) (sE_var (i := 1) rfl (.inr (.inl rfl)))))) sA_nil))))
theorem sc_facets_fault : FnScope ["many", "facets", "number", "facet", "ahead", "one"] ["many", "facets"] (defScope (top 20)) := ⟨rfl, rfl, rfl, by decide +kernel, rfl, by decide +kernel, by decide +kernel⟩
theorem bd_facets_fault (F : Fx w K mg base) : Binds K (fdOf K (He.ga K "facets_fault")) ["many", "facets"] [] := FunD.bindsN (F.fun 7 rfl) (fun _ _ _ _ _ _ us hl => match us, hl with | [_, _], _ => rfl)
def F_facets_fault : FF := fDef 6 (sSeq (sFor (iEn (fCons (fVar 1) fNil)) (gTp 2 (gsCons (gNm 2) (gsCons (gNm 3) gsNil))) (sSeq (sSet 4 (fSlc false (fVar 1) oNo (oSome (fVar 2)))) (sSeq (sIf (tOrF (tNotF (tOf (fCall 2 F_is_lot (fCons (fVar 0) (fCons (fVar 3) fNil))))) (tAndF (tOf (f2 dNeG (fVar 4) (fTup fNil))) (tOf (f2 dLeT (fVar 3) (f2 dIx (fVar 4) (fNeg (fC (.int 1)))))))) (sRet (fVar 2)) sNil) (sIf (tOf (fB gAny (fCons (fLc false [5] (iTp (fVar 4)) (gNm 5) tYesF (fOr (fCall 2 F_lies_in (fCons (fVar 5) (fCons (fVar 3) fNil))) (fCall 2 F_lies_in (fCons (fVar 3) (fCons (fVar 5) fNil))))) fNil))) (sRet (fVar 2)) sNil)))) (sRet (fC .non)))
theorem ok_facets_fault (F : Fx w K mg base) : FnOk pw w K mg base (L2.CX pw w) 4 (He.ga K "facets_fault") (fdOf K (He.ga K "facets_fault")) ["many", "facets"] (spF (Pk w K gh) 2 F_facets_fault) := fn_evD (k := 3) (N := ["many", "facets", "number", "facet", "ahead", "one"]) (ps := ["many", "facets"]) (F.fun 7 rfl) sc_facets_fault fun cdv A outer s₀ H E hr =>
  (sS_cons (s_for (vs := [2, 3]) po_of rfl (sI_enum rfl (F.free 63 rfl) (sA_cons (sE_var (i := 1) rfl (.inl rfl)) sA_nil)) (sG_tup rfl (sGs_cons (sG_name sc_facets_fault.nd rfl (.inl rfl)) (sGs_cons (sG_name sc_facets_fault.nd rfl (.inr rfl)) sGs_nil))) (sS_cons (s_set sc_facets_fault.nd rfl (.inl rfl) (sE_slc (m := false) (sE_var (i := 1) rfl (.inl rfl)) sO_none (sO_some (sE_var (i := 2) rfl (.inl rfl)))))
  (sS_cons (s_if (sT_w (sW_or (sT_not (sT_val (sE_call (ok_is_lot F) tk_of (hr.mono (by decide)) rfl (F.glo 4 rfl) (F.fun 4 rfl).kp (bd_is_lot F) (sA_cons (sE_var (i := 0) rfl (.inl rfl)) (sA_cons (sE_var (i := 3) rfl (.inr (.inl rfl))) sA_nil))))) (sW_or1 (sT_w (sW_and (sT_cmp (oNeG (rm_of hr)) (sE_var (i := 4) rfl (.inl rfl)) (sE_tup sA_nil)) (sW_and1 (sT_cmp (oLeT (rm_of hr)) (sE_var (i := 3) rfl (.inr (.inl rfl))) (sE_ix (sE_var (i := 4) rfl (.inl rfl)) (sE_neg sE_int))))))))) (sS_one (s_ret (sE_var (i := 2) rfl (.inl rfl)))) sS_nil)
  (sS_one (s_if (sT_val (sE_bf (cAny rfl) rfl (F.free 53 rfl) (by kernel_rfl) (sA_cons (sE_lc (own := [("one", 5)]) (m := false) rfl sc_facets_fault.nd (sI_tup (sE_var (i := 4) rfl (.inl rfl))) (blkOk_by (by kernel_rfl)) (fun s H C cl fp => (sG_name sc_facets_fault.nd rfl (.inl rfl))) (fun s H C cl fp => sTs_nil) (fun s H C cl fp => (sE_or (sE_call (ok_lies_in F) LamX.takes0 (hr.mono (by decide)) rfl (F.glo 6 rfl) (F.fun 6 rfl).kp (bd_lies_in F) (sA_cons (sE_var (i := 5) rfl (.inl rfl)) (sA_cons (sE_var (i := 3) rfl (.inr (.inl rfl))) sA_nil))) (sE_one (sE_call (ok_lies_in F) LamX.takes0 (hr.mono (by decide)) rfl (F.glo 6 rfl) (F.fun 6 rfl).kp (bd_lies_in F) (sA_cons (sE_var (i := 3) rfl (.inr (.inl rfl))) (sA_cons (sE_var (i := 5) rfl (.inl rfl)) sA_nil))))))) sA_nil))) (sS_one (s_ret (sE_var (i := 2) rfl (.inl rfl)))) sS_nil)))))
  (sS_one (s_ret sE_non)))
theorem sc_complex_fault : FnScope ["value", "found"] ["value"] (defScope (top 21)) := ⟨rfl, rfl, rfl, by decide +kernel, rfl, by decide +kernel, by decide +kernel⟩
theorem bd_complex_fault (F : Fx w K mg base) : Binds K (fdOf K (He.ga K "complex_fault")) ["value"] [] := FunD.bindsN (F.fun 8 rfl) (fun _ _ _ _ _ _ us hl => match us, hl with | [_], _ => rfl)
def F_complex_fault : FF := fDef 2 (sSeq (sIf (tOrF (tNotF (tOf (fIsi 4 (fVar 0)))) (tOf (f2 dNeG (fB gLen (fCons (fVar 0) fNil)) (fC (.int 2))))) (sRet (fTup fNil)) sNil) (sSeq (sIf (tNotF (tOf (fCall 3 F_is_from (fCons (f2 dIx (fVar 0) (fC (.int 0))) (fCons (fC (.int 1)) (fCons (fC (.int 10)) fNil)))))) (sRet (fTup (fCons (fC (.int 0)) fNil))) sNil) (sSeq (sIf (tNotF (tOf (fIsi 4 (f2 dIx (fVar 0) (fC (.int 1)))))) (sRet (fTup (fCons (fC (.int 1)) fNil))) sNil) (sSeq (sSet 1 (fCall 2 F_facets_fault (fCons (f2 dIx (fVar 0) (fC (.int 0))) (fCons (f2 dIx (fVar 0) (fC (.int 1))) fNil)))) (sRet (fIf (tOf (f2 (dIsN true) (fVar 1) (fC .non))) (fTup (fCons (fC (.int 1)) (fCons (fVar 1) fNil))) (fC .non)))))))
theorem ok_complex_fault (F : Fx w K mg base) : FnOk pw w K mg base (L2.CX pw w) 5 (He.ga K "complex_fault") (fdOf K (He.ga K "complex_fault")) ["value"] (spF (Pk w K gh) 1 F_complex_fault) := fn_evD (k := 4) (N := ["value", "found"]) (ps := ["value"]) (F.fun 8 rfl) sc_complex_fault fun cdv A outer s₀ H E hr =>
  (sS_cons (s_if (sT_w (sW_or (sT_not (sT_val (sE_isi (k := 4) rfl (by decide) rfl (F.free 50 rfl) rfl (F.free 55 rfl) (by kernel_rfl) (by decide) (by decide) (sE_var (i := 0) rfl (.inl rfl))))) (sW_or1 (sT_cmp (oNeG (rm_of hr)) (sE_bf (cLen (rm_of hr)) rfl (F.free 51 rfl) (by kernel_rfl) (sA_cons (sE_var (i := 0) rfl (.inl rfl)) sA_nil)) sE_int)))) (sS_one (s_ret (sE_tup sA_nil))) sS_nil)
  (sS_cons (s_if (sT_not (sT_val (sE_call (ok_is_from F) tk_of (hr.mono (by decide)) rfl (F.glo 1 rfl) (F.fun 1 rfl).kp (bd_is_from F) (sA_cons (sE_ix (sE_var (i := 0) rfl (.inl rfl)) sE_int) (sA_cons sE_int (sA_cons (sE_gint (F.int 67 rfl) rfl) sA_nil)))))) (sS_one (s_ret (sE_tup (sA_cons sE_int sA_nil)))) sS_nil)
  (sS_cons (s_if (sT_not (sT_val (sE_isi (k := 4) rfl (by decide) rfl (F.free 50 rfl) rfl (F.free 55 rfl) (by kernel_rfl) (by decide) (by decide) (sE_ix (sE_var (i := 0) rfl (.inl rfl)) sE_int)))) (sS_one (s_ret (sE_tup (sA_cons sE_int sA_nil)))) sS_nil)
  (sS_cons (s_set sc_complex_fault.nd rfl (.inl rfl) (sE_call (ok_facets_fault F) tk_of (hr.mono (by decide)) rfl (F.glo 7 rfl) (F.fun 7 rfl).kp (bd_facets_fault F) (sA_cons (sE_ix (sE_var (i := 0) rfl (.inl rfl)) sE_int) (sA_cons (sE_ix (sE_var (i := 0) rfl (.inl rfl)) sE_int) sA_nil))))
  (sS_one (s_ret (sE_if (sT_cmp oIsNot (sE_var (i := 1) rfl (.inl rfl)) sE_non) (sE_tup (sA_cons sE_int (sA_cons (sE_var (i := 1) rfl (.inl rfl)) sA_nil))) sE_non)))))))
theorem sc_need_complex : FnScope ["body", "found"] ["body"] (defScope (top 22)) := ⟨rfl, rfl, rfl, by decide +kernel, rfl, by decide +kernel, by decide +kernel⟩
theorem bd_need_complex (F : Fx w K mg base) : Binds K (fdOf K (He.ga K "need_complex")) ["body"] [] := FunD.bindsN (F.fun 9 rfl) (fun _ _ _ _ _ _ us hl => match us, hl with | [_], _ => rfl)
def F_need_complex : FF := fDef 2 (sSeq (sSet 1 (fCall 1 F_complex_fault (fCons (fVar 0) fNil))) (sSeq (sIf (tOf (f2 (dIsN true) (fVar 1) (fC .non))) (sRaise 3 6 (fVar 1)) sNil) (sRet (fVar 0))))
theorem ok_need_complex (F : Fx w K mg base) : FnOk pw w K mg base (L2.CX pw w) 6 (He.ga K "need_complex") (fdOf K (He.ga K "need_complex")) ["body"] (spF (Pk w K gh) 1 F_need_complex) := fn_evD (k := 5) (N := ["body", "found"]) (ps := ["body"]) (F.fun 9 rfl) sc_need_complex fun cdv A outer s₀ H E hr =>
  (sS_cons (s_set sc_need_complex.nd rfl (.inl rfl) (sE_call (ok_complex_fault F) tk_of (hr.mono (by decide)) rfl (F.glo 8 rfl) (F.fun 8 rfl).kp (bd_complex_fault F) (sA_cons (sE_var (i := 0) rfl (.inl rfl)) sA_nil)))
  (sS_cons (s_if (sT_cmp oIsNot (sE_var (i := 1) rfl (.inl rfl)) sE_non) (sS_one (s_raise (c := 3) (fl := 6) rfl tk_of rfl (et_BadComplex F).T (et_BadComplex F).iC (et_BadComplex F).tI (er_BadComplex F) rfl (hr.mono (by decide)) (eb_BadComplex F) rfl (F.glo 46 rfl) (sE_var (i := 1) rfl (.inl rfl)))) sS_nil)
  (sS_one (s_ret (sE_var (i := 0) rfl (.inl rfl))))))
theorem sc_lots_within : FnScope ["lot", "found", "place", "one"] ["lot"] (defScope (top 25)) := ⟨rfl, rfl, rfl, by decide +kernel, rfl, by decide +kernel, by decide +kernel⟩
theorem bd_lots_within (F : Fx w K mg base) : Binds K (fdOf K (He.ga K "lots_within")) ["lot"] [] := FunD.bindsN (F.fun 10 rfl) (fun _ _ _ _ _ _ us hl => match us, hl with | [_], _ => rfl)
def F_lots_within : FF := fDef 4 (sSeq (sSet 1 (fLst false (fCons (fTup fNil) fNil))) (sSeq (sFor (iTp (fVar 0)) (gNm 2) (sSet 1 (f2 (dAdd false) (fVar 1) (fLc false [3] (iLs (fVar 1)) (gNm 3) tYesF (f2 (dAdd false) (fVar 3) (fTup (fCons (fVar 2) fNil))))))) (sRet (fVar 1))))
theorem ok_lots_within (F : Fx w K mg base) : FnOk pw w K mg base (L2.CX pw w) 1 (He.ga K "lots_within") (fdOf K (He.ga K "lots_within")) ["lot"] (spF (Pk w K gh) 1 F_lots_within) := fn_evD (k := 0) (N := ["lot", "found", "place", "one"]) (ps := ["lot"]) (F.fun 10 rfl) sc_lots_within fun cdv A outer s₀ H E hr =>
  (sS_cons (s_set sc_lots_within.nd rfl (.inl rfl) (sE_lst (m := false) (sA_cons (sE_tup sA_nil) sA_nil)))
  (sS_cons (s_for (vs := [2]) po_of rfl (sI_tup (sE_var (i := 0) rfl (.inl rfl))) (sG_name sc_lots_within.nd rfl (.inr rfl)) (sS_one (s_set sc_lots_within.nd rfl (.inl rfl) (sE_op (oAdd (m := false)) (sE_var (i := 1) rfl (.inl rfl)) (sE_lc (own := [("one", 3)]) (m := false) rfl sc_lots_within.nd (sI_lst (sE_var (i := 1) rfl (.inl rfl))) (blkOk_by (by kernel_rfl)) (fun s H C cl fp => (sG_name sc_lots_within.nd rfl (.inl rfl))) (fun s H C cl fp => sTs_nil) (fun s H C cl fp => (sE_op (oAdd (m := false)) (sE_var (i := 3) rfl (.inl rfl)) (sE_tup (sA_cons (sE_var (i := 2) rfl (.inr (.inl rfl))) sA_nil)))))))))
  (sS_one (s_ret (sE_var (i := 1) rfl (.inl rfl))))))
theorem sc_faces_in : FnScope ["body", "found", "facet", "lot"] ["body"] (defScope (top 26)) := ⟨rfl, rfl, rfl, by decide +kernel, rfl, by decide +kernel, by decide +kernel⟩
theorem bd_faces_in (F : Fx w K mg base) : Binds K (fdOf K (He.ga K "faces_in")) ["body"] [] := FunD.bindsN (F.fun 11 rfl) (fun _ _ _ _ _ _ us hl => match us, hl with | [_], _ => rfl)
def F_faces_in : FF := fDef 4 (sSeq (sSet 1 fDnew) (sSeq (sFor (iTp (f2 dIx (fVar 0) (fC (.int 1)))) (gNm 2) (sFor (iLs (fCall 1 F_lots_within (fCons (fVar 2) fNil))) (gNm 3) (sPut (fVar 1) (fVar 3) (fC (.bl true))))) (sRet (fB gSorted (fCons (fFz (fVar 1)) fNil)))))
theorem ok_faces_in (F : Fx w K mg base) : FnOk pw w K mg base (L2.CX pw w) 2 (He.ga K "faces_in") (fdOf K (He.ga K "faces_in")) ["body"] (spF (Pk w K gh) 1 F_faces_in) := fn_evD (k := 1) (N := ["body", "found", "facet", "lot"]) (ps := ["body"]) (F.fun 11 rfl) sc_faces_in fun cdv A outer s₀ H E hr =>
  (sS_cons (s_set sc_faces_in.nd rfl (.inl rfl) sE_dnew)
  (sS_cons (s_for (vs := [2]) po_of rfl (sI_tup (sE_ix (sE_var (i := 0) rfl (.inl rfl)) sE_int)) (sG_name sc_faces_in.nd rfl (.inl rfl)) (sS_one (s_for (vs := [3]) po_of rfl (sI_lst (sE_call (ok_lots_within F) tk_of (hr.mono (by decide)) rfl (F.glo 10 rfl) (F.fun 10 rfl).kp (bd_lots_within F) (sA_cons (sE_var (i := 2) rfl (.inl rfl)) sA_nil))) (sG_name sc_faces_in.nd rfl (.inl rfl)) (sS_one (s_put (rm_of hr) (sE_var (i := 1) rfl (.inl rfl)) (sE_var (i := 3) rfl (.inl rfl)) sE_bl)))))
  (sS_one (s_ret (sE_bf (cSorted rfl (rm_of hr)) rfl (F.free 54 rfl) (by kernel_rfl) (sA_cons (sE_fz (sE_var (i := 1) rfl (.inl rfl))) sA_nil))))))
end
end EK
end S_EkB
section S_EkC
/-! EkC: the program's defs, each by the rules. -/
namespace EK
open PySem PySem.Spec PyProof.Rows L2 Evl EV LamX
section
variable {w : World} {K : PySem.W.Frag} {mg : Str → Option Value} {base : Heap} {gh : G}
theorem sc_behind_in : FnScope ["body", "many", "facet", "place"] ["body", "many"] (defScope (top 34)) := ⟨rfl, rfl, rfl, by decide +kernel, rfl, by decide +kernel, by decide +kernel⟩
theorem bd_behind_in (F : Fx w K mg base) : Binds K (fdOf K (He.ga K "behind_in")) ["body", "many"] [] := FunD.bindsN (F.fun 12 rfl) (fun _ _ _ _ _ _ us hl => match us, hl with | [_, _], _ => rfl)
def F_behind_in : FF := fDef 4 (sRet (fLc false [2] (iTp (f2 dIx (fVar 0) (fC (.int 1)))) (gNm 2) tYesF (fB gTuple (fCons (fLc false [3] (iTp (fVar 2)) (gNm 3) tYesF (f2 (dAdd false) (fVar 3) (fVar 1))) fNil))))
theorem ok_behind_in (F : Fx w K mg base) : FnOk pw w K mg base (L2.CX pw w) 1 (He.ga K "behind_in") (fdOf K (He.ga K "behind_in")) ["body", "many"] (spF (Pk w K gh) 2 F_behind_in) := fn_evD (k := 0) (N := ["body", "many", "facet", "place"]) (ps := ["body", "many"]) (F.fun 12 rfl) sc_behind_in fun cdv A outer s₀ H E hr =>
  (sS_one (s_ret (sE_lc (own := [("facet", 2)]) (m := false) rfl sc_behind_in.nd (sI_tup (sE_ix (sE_var (i := 0) rfl (.inl rfl)) sE_int)) (blkOk_by (by kernel_rfl)) (fun s H C cl fp => (sG_name sc_behind_in.nd rfl (.inl rfl))) (fun s H C cl fp => sTs_nil) (fun s H C cl fp => (sE_bt cTuple rfl (F.free 55 rfl) (by kernel_rfl) (sA_cons (sE_lc (own := [("place", 3)]) (m := false) rfl sc_behind_in.nd (sI_tup (sE_var (i := 2) rfl (.inl rfl))) (blkOk_by (by kernel_rfl)) (fun s H C cl fp => (sG_name sc_behind_in.nd rfl (.inl rfl))) (fun s H C cl fp => sTs_nil) (fun s H C cl fp => (sE_op (oAdd (m := false)) (sE_var (i := 3) rfl (.inl rfl)) (sE_var (i := 1) rfl (.inr (.inl rfl)))))) sA_nil))))))
theorem sc_let_many : FnScope ["many"] ["many"] (defScope (top 35)) := ⟨rfl, rfl, rfl, by decide +kernel, rfl, by decide +kernel, by decide +kernel⟩
theorem bd_let_many (F : Fx w K mg base) : Binds K (fdOf K (He.ga K "let_many")) ["many"] [] := FunD.bindsN (F.fun 13 rfl) (fun _ _ _ _ _ _ us hl => match us, hl with | [_], _ => rfl)
def F_let_many : FF := fDef 1 (sSeq (sIf (tOf (f2 (dCmp fun i j => iLt j i) (fVar 0) (fC (.int 10)))) (sRaise 5 7 (fC (.int 10))) sNil) (sRet (fVar 0)))
theorem ok_let_many (F : Fx w K mg base) : FnOk pw w K mg base (L2.CX pw w) 3 (He.ga K "let_many") (fdOf K (He.ga K "let_many")) ["many"] (spF (Pk w K gh) 1 F_let_many) := fn_evD (k := 2) (N := ["many"]) (ps := ["many"]) (F.fun 13 rfl) sc_let_many fun cdv A outer s₀ H E hr =>
  (sS_cons (s_if (sT_cmp oGt (sE_var (i := 0) rfl (.inl rfl)) (sE_gint (F.int 67 rfl) rfl)) (sS_one (s_raise (c := 5) (fl := 7) rfl tk_of rfl (et_TooGreat F).T (et_TooGreat F).iC (et_TooGreat F).tI (er_TooGreat F) rfl (hr.mono (by decide)) (eb_TooGreat F) rfl (F.glo 48 rfl) (sE_gint (F.int 67 rfl) rfl))) sS_nil)
  (sS_one (s_ret (sE_var (i := 0) rfl (.inl rfl)))))
theorem sc_joined_in : FnScope ["body", "other", "many", "found", "facet", "far"] ["body", "other"] (defScope (top 36)) := ⟨rfl, rfl, rfl, by decide +kernel, rfl, by decide +kernel, by decide +kernel⟩
theorem bd_joined_in (F : Fx w K mg base) : Binds K (fdOf K (He.ga K "joined_in")) ["body", "other"] [] := FunD.bindsN (F.fun 14 rfl) (fun _ _ _ _ _ _ us hl => match us, hl with | [_, _], _ => rfl)
def F_joined_in : FF := fDef 6 (sSeq (sSet 2 (fCall 1 F_let_many (fCons (f2 (dAdd false) (f2 dIx (fVar 0) (fC (.int 0))) (f2 dIx (fVar 1) (fC (.int 0)))) fNil))) (sSeq (sSet 3 (fLc2 false [4, 5] [5] (iTp (f2 dIx (fVar 0) (fC (.int 1)))) (gNm 4) (iLs (fCall 2 F_behind_in (fCons (fVar 1) (fCons (f2 dIx (fVar 0) (fC (.int 0))) fNil)))) (gNm 5) (f2 (dAdd false) (fVar 4) (fVar 5)))) (sRet (fTup (fCons (fVar 2) (fCons (fB gTuple (fCons (fB gSorted (fCons (fFz (fVar 3)) fNil)) fNil)) fNil))))))
theorem ok_joined_in (F : Fx w K mg base) : FnOk pw w K mg base (L2.CX pw w) 4 (He.ga K "joined_in") (fdOf K (He.ga K "joined_in")) ["body", "other"] (spF (Pk w K gh) 2 F_joined_in) := fn_evD (k := 3) (N := ["body", "other", "many", "found", "facet", "far"]) (ps := ["body", "other"]) (F.fun 14 rfl) sc_joined_in fun cdv A outer s₀ H E hr =>
  (sS_cons (s_set sc_joined_in.nd rfl (.inl rfl) (sE_call (ok_let_many F) tk_of (hr.mono (by decide)) rfl (F.glo 13 rfl) (F.fun 13 rfl).kp (bd_let_many F) (sA_cons (sE_op (oAdd (m := false)) (sE_ix (sE_var (i := 0) rfl (.inr (.inl rfl))) sE_int) (sE_ix (sE_var (i := 1) rfl (.inr (.inl rfl))) sE_int)) sA_nil)))
  (sS_cons (s_setLc2 (own := [("facet", 4), ("far", 5)]) (vs1 := [5]) (m := false) rfl sc_joined_in.nd rfl rfl (sw_true rfl rfl rfl (by kernel_rfl)) (sI_tup (sE_ix (sE_var (i := 0) rfl (.inr (.inl rfl))) sE_int)) (blkOk_by (by kernel_rfl)) (by decide) (fun s H C cl fp => (sG_name sc_joined_in.nd rfl (.inl rfl))) (fun s H C cl fp => (sI_lst (sE_call (ok_behind_in F) LamX.takes0 (hr.mono (by decide)) rfl (F.glo 12 rfl) (F.fun 12 rfl).kp (bd_behind_in F) (sA_cons (sE_var (i := 1) rfl (.inr (.inl rfl))) (sA_cons (sE_ix (sE_var (i := 0) rfl (.inr (.inl rfl))) sE_int) sA_nil))))) (fun s H C cl fp => (sG_name sc_joined_in.nd rfl (.inl rfl))) (fun s H C cl fp => (sE_op (oAdd (m := false)) (sE_var (i := 4) rfl (.inl rfl)) (sE_var (i := 5) rfl (.inl rfl)))))
  (sS_one (s_ret (sE_tup (sA_cons (sE_var (i := 2) rfl (.inl rfl)) (sA_cons (sE_bt cTuple rfl (F.free 55 rfl) (by kernel_rfl) (sA_cons (sE_bf (cSorted rfl (rm_of hr)) rfl (F.free 54 rfl) (by kernel_rfl) (sA_cons (sE_fz (sE_var (i := 3) rfl (.inl rfl))) sA_nil)) sA_nil)) sA_nil)))))))
theorem sc_is_prime_in : FnScope ["value"] ["value"] (defScope (top 40)) := ⟨rfl, rfl, rfl, by decide +kernel, rfl, by decide +kernel, by decide +kernel⟩
theorem bd_is_prime_in (F : Fx w K mg base) : Binds K (fdOf K (He.ga K "is_prime_in")) ["value"] [] := FunD.bindsN (F.fun 15 rfl) (fun _ _ _ _ _ _ us hl => match us, hl with | [_], _ => rfl)
def F_is_prime_in : FF := fDef 1 (sRet (fAnd (fCall 2 F_is_up_to (fCons (fVar 0) (fCons (f2 dIx (fC primesD) (fNeg (fC (.int 1)))) fNil))) (f2 (dIn false) (fVar 0) (fC primesD))))
theorem ok_is_prime_in (F : Fx w K mg base) : FnOk pw w K mg base (L2.CX pw w) 4 (He.ga K "is_prime_in") (fdOf K (He.ga K "is_prime_in")) ["value"] (spF (Pk w K gh) 1 F_is_prime_in) := fn_evD (k := 3) (N := ["value"]) (ps := ["value"]) (F.fun 15 rfl) sc_is_prime_in fun cdv A outer s₀ H E hr =>
  (sS_one (s_ret (sE_and (sE_call (ok_is_up_to F) tk_of (hr.mono (by decide)) rfl (F.glo 2 rfl) (F.fun 2 rfl).kp (bd_is_up_to F) (sA_cons (sE_var (i := 0) rfl (.inl rfl)) (sA_cons (sE_ix (sE_con (v := .ref (He.ga K "PRIMES")) rfl (F.glo 42 rfl) rfl F.primes) (sE_neg sE_int)) sA_nil))) (sE_one (sE_cmp (oInA (rm_of hr)) (sE_var (i := 0) rfl (.inl rfl)) (sE_con (v := .ref (He.ga K "PRIMES")) rfl (F.glo 42 rfl) rfl F.primes))))))
theorem sc_need_prime : FnScope ["prime"] ["prime"] (defScope (top 41)) := ⟨rfl, rfl, rfl, by decide +kernel, rfl, by decide +kernel, by decide +kernel⟩
theorem bd_need_prime (F : Fx w K mg base) : Binds K (fdOf K (He.ga K "need_prime")) ["prime"] [] := FunD.bindsN (F.fun 16 rfl) (fun _ _ _ _ _ _ us hl => match us, hl with | [_], _ => rfl)
def F_need_prime : FF := fDef 1 (sSeq (sIf (tNotF (tOf (fCall 1 F_is_prime_in (fCons (fVar 0) fNil)))) (sRaise 4 5 (fVar 0)) sNil) (sRet (fVar 0)))
theorem ok_need_prime (F : Fx w K mg base) : FnOk pw w K mg base (L2.CX pw w) 5 (He.ga K "need_prime") (fdOf K (He.ga K "need_prime")) ["prime"] (spF (Pk w K gh) 1 F_need_prime) := fn_evD (k := 4) (N := ["prime"]) (ps := ["prime"]) (F.fun 16 rfl) sc_need_prime fun cdv A outer s₀ H E hr =>
  (sS_cons (s_if (sT_not (sT_val (sE_call (ok_is_prime_in F) tk_of (hr.mono (by decide)) rfl (F.glo 15 rfl) (F.fun 15 rfl).kp (bd_is_prime_in F) (sA_cons (sE_var (i := 0) rfl (.inl rfl)) sA_nil)))) (sS_one (s_raise (c := 4) (fl := 5) rfl tk_of rfl (et_BadPrime F).T (et_BadPrime F).iC (et_BadPrime F).tI (er_BadPrime F) rfl (hr.mono (by decide)) (eb_BadPrime F) rfl (F.glo 47 rfl) (sE_var (i := 0) rfl (.inl rfl)))) sS_nil)
  (sS_one (s_ret (sE_var (i := 0) rfl (.inl rfl)))))
theorem sc_inverse_in : FnScope ["prime", "number"] ["prime", "number"] (defScope (top 42)) := ⟨rfl, rfl, rfl, by decide +kernel, rfl, by decide +kernel, by decide +kernel⟩
theorem bd_inverse_in (F : Fx w K mg base) : Binds K (fdOf K (He.ga K "inverse_in")) ["prime", "number"] [] := FunD.bindsN (F.fun 17 rfl) (fun _ _ _ _ _ _ us hl => match us, hl with | [_, _], _ => rfl)
def F_inverse_in : FF := fDef 2 (sRet (fCall 2 F_inverse_mod (fCons (fVar 1) (fCons (fVar 0) fNil))))
theorem ok_inverse_in (F : Fx w K mg base) : FnOk pw w K mg base (L2.CX pw w) 2 (He.ga K "inverse_in") (fdOf K (He.ga K "inverse_in")) ["prime", "number"] (spF (Pk w K gh) 2 F_inverse_in) := fn_evD (k := 1) (N := ["prime", "number"]) (ps := ["prime", "number"]) (F.fun 17 rfl) sc_inverse_in fun cdv A outer s₀ H E hr =>
  (sS_one (s_ret (sE_call (ok_inverse_mod F) tk_of (hr.mono (by decide)) rfl (F.glo 3 rfl) (F.fun 3 rfl).kp (bd_inverse_mod F) (sA_cons (sE_var (i := 1) rfl (.inl rfl)) (sA_cons (sE_var (i := 0) rfl (.inl rfl)) sA_nil)))))
end
end EK
end S_EkC
section S_EkD
/-! EkD: the program's defs, each by the rules. -/
namespace EK
open PySem PySem.Spec PyProof.Rows L2 Evl EV LamX
section
variable {w : World} {K : PySem.W.Frag} {mg : Str → Option Value} {base : Heap} {gh : G}
theorem sc_faces_by_size : FnScope ["faces", "found", "face"] ["faces"] (defScope (top 44)) := ⟨rfl, rfl, rfl, by decide +kernel, rfl, by decide +kernel, by decide +kernel⟩
theorem bd_faces_by_size (F : Fx w K mg base) : Binds K (fdOf K (He.ga K "faces_by_size")) ["faces"] [] := FunD.bindsN (F.fun 18 rfl) (fun _ _ _ _ _ _ us hl => match us, hl with | [_], _ => rfl)
def F_faces_by_size : FF := fDef 3 (sSeq (sSet 1 fDnew) (sSeq (sFor (iLs (fVar 0)) (gNm 2) (sEx (fMl mApp (fMd mSetd (fVar 1) (fCons (fB gLen (fCons (fVar 2) fNil)) (fCons (fLst true fNil) fNil))) (fCons (fVar 2) fNil)))) (sRet (fFv (fVar 1)))))
theorem ok_faces_by_size (F : Fx w K mg base) : FnOk pw w K mg base (L2.CX pw w) 1 (He.ga K "faces_by_size") (fdOf K (He.ga K "faces_by_size")) ["faces"] (spF (Pk w K gh) 1 F_faces_by_size) := fn_evD (k := 0) (N := ["faces", "found", "face"]) (ps := ["faces"]) (F.fun 18 rfl) sc_faces_by_size fun cdv A outer s₀ H E hr =>
  (sS_cons (s_set sc_faces_by_size.nd rfl (.inl rfl) sE_dnew)
  (sS_cons (s_for (vs := [2]) po_of rfl (sI_lst (sE_var (i := 0) rfl (.inl rfl))) (sG_name sc_faces_by_size.nd rfl (.inl rfl)) (sS_one (s_expr (sE_lm rfl PySem.F.plainAttrs_list PySem.F.slot_list_append PySem.F.type_list_append meApp (sE_dm PySem.F.slot_dict_setdefault PySem.F.type_dict_setdefault (meSetd (rm_of hr)) (sE_var (i := 1) rfl (.inl rfl)) (sA_cons (sE_bf (cLen (rm_of hr)) rfl (F.free 51 rfl) (by kernel_rfl) (sA_cons (sE_var (i := 2) rfl (.inl rfl)) sA_nil)) (sA_cons (sE_lst (m := true) sA_nil) sA_nil))) (sA_cons (sE_var (i := 2) rfl (.inl rfl)) sA_nil)))))
  (sS_one (s_ret (sE_fv (sE_var (i := 1) rfl (.inl rfl)))))))
theorem sc_left_in : FnScope ["prime", "found", "face", "number"] ["prime", "found"] (defScope (top 46)) := ⟨rfl, rfl, rfl, by decide +kernel, rfl, by decide +kernel, by decide +kernel⟩
theorem bd_left_in (F : Fx w K mg base) : Binds K (fdOf K (He.ga K "left_in")) ["prime", "found"] [] := FunD.bindsN (F.fun 20 rfl) (fun _ _ _ _ _ _ us hl => match us, hl with | [_, _], _ => rfl)
def F_left_in : FF := fDef 4 (sSeq (sIf (tOf (f2 (dCmp fun i j => iLt j i) (fVar 0) (fC (.int 0)))) (sRet (fFz (fDc [2, 3] (iDi (fFz (fVar 1))) (gTp 2 (gsCons (gNm 2) (gsCons (gNm 3) gsNil))) (tOf (f2 dNeG (f2 dMod (fVar 3) (fVar 0)) (fC (.int 0)))) (fVar 2) (f2 dMod (fVar 3) (fVar 0))))) sNil) (sRet (fFz (fDc [2, 3] (iDi (fFz (fVar 1))) (gTp 2 (gsCons (gNm 2) (gsCons (gNm 3) gsNil))) (tOf (f2 dNeG (fVar 3) (fC (.int 0)))) (fVar 2) (fVar 3)))))
theorem ok_left_in (F : Fx w K mg base) : FnOk pw w K mg base (L2.CX pw w) 1 (He.ga K "left_in") (fdOf K (He.ga K "left_in")) ["prime", "found"] (spF (Pk w K gh) 2 F_left_in) := fn_evD (k := 0) (N := ["prime", "found", "face", "number"]) (ps := ["prime", "found"]) (F.fun 20 rfl) sc_left_in fun cdv A outer s₀ H E hr =>
  (sS_cons (s_if (sT_cmp oGt (sE_var (i := 0) rfl (.inr (.inl rfl))) sE_int) (sS_one (s_ret (sE_fz (sE_dc (own := [("face", 2), ("number", 3)]) (rm_of hr) rfl sc_left_in.nd (sI_di (sE_fz (sE_var (i := 1) rfl (.inl rfl)))) (blkOk_by (by kernel_rfl)) (fun s H C cl fp => (sG_tup rfl (sGs_cons (sG_name sc_left_in.nd rfl (.inl rfl)) (sGs_cons (sG_name sc_left_in.nd rfl (.inl rfl)) sGs_nil)))) (fun s H C cl fp => (sTs_one (sT_cmp (oNeG (rm_of hr)) (sE_op oMod (sE_var (i := 3) rfl (.inl rfl)) (sE_var (i := 0) rfl (.inr (.inl rfl)))) sE_int))) (fun s H C cl fp => (sE_var (i := 2) rfl (.inl rfl))) (fun s H C cl fp => (sE_op oMod (sE_var (i := 3) rfl (.inl rfl)) (sE_var (i := 0) rfl (.inr (.inl rfl))))))))) sS_nil)
  (sS_one (s_ret (sE_fz (sE_dc (own := [("face", 2), ("number", 3)]) (rm_of hr) rfl sc_left_in.nd (sI_di (sE_fz (sE_var (i := 1) rfl (.inl rfl)))) (blkOk_by (by kernel_rfl)) (fun s H C cl fp => (sG_tup rfl (sGs_cons (sG_name sc_left_in.nd rfl (.inl rfl)) (sGs_cons (sG_name sc_left_in.nd rfl (.inl rfl)) sGs_nil)))) (fun s H C cl fp => (sTs_one (sT_cmp (oNeG (rm_of hr)) (sE_var (i := 3) rfl (.inl rfl)) sE_int))) (fun s H C cl fp => (sE_var (i := 2) rfl (.inl rfl))) (fun s H C cl fp => (sE_var (i := 3) rfl (.inl rfl))))))))
theorem sc_edge_in : FnScope ["prime", "row", "found", "face", "number", "spot", "part"] ["prime", "row"] (defScope (top 45)) := ⟨rfl, rfl, rfl, by decide +kernel, rfl, by decide +kernel, by decide +kernel⟩
theorem bd_edge_in (F : Fx w K mg base) : Binds K (fdOf K (He.ga K "edge_in")) ["prime", "row"] [] := FunD.bindsN (F.fun 19 rfl) (fun _ _ _ _ _ _ us hl => match us, hl with | [_, _], _ => rfl)
def F_edge_in : FF := fDef 7 (sSeq (sSet 2 fDnew) (sSeq (sFor (iDi (fFz (fVar 1))) (gTp 2 (gsCons (gNm 3) (gsCons (gNm 4) gsNil))) (sFor (iR1 (fCons (fB gLen (fCons (fVar 3) fNil)) fNil)) (gNm 5) (sSeq (sSet 6 (f2 (dAdd false) (fSlc false (fVar 3) oNo (oSome (fVar 5))) (fSlc false (fVar 3) (oSome (f2 (dAdd false) (fVar 5) (fC (.int 1)))) oNo))) (sPut (fVar 2) (fVar 6) (f2 (dAdd false) (fMd mGet (fVar 2) (fCons (fVar 6) (fCons (fC (.int 0)) fNil))) (fIf (tOf (f2 dEqG (f2 dMod (fVar 5) (fC (.int 2))) (fC (.int 0)))) (fVar 4) (f2 dSub (fC (.int 0)) (fVar 4)))))))) (sRet (fCall 2 F_left_in (fCons (fVar 0) (fCons (fVar 2) fNil))))))
theorem ok_edge_in (F : Fx w K mg base) : FnOk pw w K mg base (L2.CX pw w) 2 (He.ga K "edge_in") (fdOf K (He.ga K "edge_in")) ["prime", "row"] (spF (Pk w K gh) 2 F_edge_in) := fn_evD (k := 1) (N := ["prime", "row", "found", "face", "number", "spot", "part"]) (ps := ["prime", "row"]) (F.fun 19 rfl) sc_edge_in fun cdv A outer s₀ H E hr =>
  (sS_cons (s_set sc_edge_in.nd rfl (.inl rfl) sE_dnew)
  (sS_cons (s_for (vs := [3, 4]) po_of rfl (sI_di (sE_fz (sE_var (i := 1) rfl (.inl rfl)))) (sG_tup rfl (sGs_cons (sG_name sc_edge_in.nd rfl (.inl rfl)) (sGs_cons (sG_name sc_edge_in.nd rfl (.inl rfl)) sGs_nil))) (sS_one (s_for (vs := [5]) po_of rfl (sI_range1 rfl (F.free 61 rfl) (sA_cons (sE_bf (cLen (rm_of hr)) rfl (F.free 51 rfl) (by kernel_rfl) (sA_cons (sE_var (i := 3) rfl (.inl rfl)) sA_nil)) sA_nil)) (sG_name sc_edge_in.nd rfl (.inl rfl)) (sS_cons (s_set sc_edge_in.nd rfl (.inl rfl) (sE_op (oAdd (m := false)) (sE_slc (m := false) (sE_var (i := 3) rfl (.inl rfl)) sO_none (sO_some (sE_var (i := 5) rfl (.inl rfl)))) (sE_slc (m := false) (sE_var (i := 3) rfl (.inl rfl)) (sO_some (sE_op (oAdd (m := false)) (sE_var (i := 5) rfl (.inl rfl)) sE_int)) sO_none)))
  (sS_one (s_put (rm_of hr) (sE_var (i := 2) rfl (.inl rfl)) (sE_var (i := 6) rfl (.inl rfl)) (sE_op (oAdd (m := false)) (sE_dm PySem.F.slot_dict_get PySem.F.type_dict_get (meGet (rm_of hr)) (sE_var (i := 2) rfl (.inl rfl)) (sA_cons (sE_var (i := 6) rfl (.inl rfl)) (sA_cons sE_int sA_nil))) (sE_if (sT_cmp (oEqG (rm_of hr)) (sE_op oMod (sE_var (i := 5) rfl (.inl rfl)) sE_int) sE_int) (sE_var (i := 4) rfl (.inl rfl)) (sE_op oSub sE_int (sE_var (i := 4) rfl (.inl rfl)))))))))))
  (sS_one (s_ret (sE_call (ok_left_in F) tk_of (hr.mono (by decide)) rfl (F.glo 20 rfl) (F.fun 20 rfl).kp (bd_left_in F) (sA_cons (sE_var (i := 0) rfl (.inl rfl)) (sA_cons (sE_var (i := 2) rfl (.inl rfl)) sA_nil)))))))
theorem sc_rank_in : FnScope ["prime", "rows", "heads", "row", "left", "place", "by", "spot", "one"] ["prime", "rows"] (defScope (top 48)) := ⟨rfl, rfl, rfl, by decide +kernel, rfl, by decide +kernel, by decide +kernel⟩
theorem bd_rank_in (F : Fx w K mg base) : Binds K (fdOf K (He.ga K "rank_in")) ["prime", "rows"] [] := FunD.bindsN (F.fun 21 rfl) (fun _ _ _ _ _ _ us hl => match us, hl with | [_, _], _ => rfl)
def F_rank_in : FF := fDef 9 (sSeq (sSet 2 fDnew) (sSeq (sFor (iLs (fVar 1)) (gNm 3) (sSeq (sSet 4 (fB gDict (fCons (fVar 3) fNil))) (sWh 300 (tOf (f2 dNeG (fVar 4) fDnew)) (sSeq (sSet 5 (fB gMin (fCons (fVar 4) fNil))) (sSeq (sIf (tOf (f2 (dIn true) (fVar 5) (fVar 2))) (sSeq (sSet 6 (fCall 2 F_inverse_in (fCons (fVar 0) (fCons (f2 dGet (fVar 4) (fVar 5)) fNil)))) (sSeq (sPut (fVar 2) (fVar 5) (fFz (fDc [7, 8] (iDi (fFz (fVar 4))) (gTp 2 (gsCons (gNm 7) (gsCons (gNm 8) gsNil))) tYesF (fVar 7) (f2 dMod (f2 (dMul false) (fVar 8) (fVar 6)) (fVar 0))))) sBrk)) sNil) (sSeq (sSet 6 (f2 dGet (fVar 4) (fVar 5))) (sSeq (sFor (iDi (fFz (f2 dGet (fVar 2) (fVar 5)))) (gTp 2 (gsCons (gNm 7) (gsCons (gNm 8) gsNil))) (sPut (fVar 4) (fVar 7) (f2 dMod (f2 dSub (fMd mGet (fVar 4) (fCons (fVar 7) (fCons (fC (.int 0)) fNil))) (f2 (dMul false) (fVar 6) (fVar 8))) (fVar 0)))) (sSet 4 (fDc [7, 8] (iDi (fFz (fVar 4))) (gTp 2 (gsCons (gNm 7) (gsCons (gNm 8) gsNil))) (tOf (f2 dNeG (fVar 8) (fC (.int 0)))) (fVar 7) (fVar 8)))))))))) (sRet (fB gLen (fCons (fVar 2) fNil)))))
theorem ok_rank_in (F : Fx w K mg base) : FnOk pw w K mg base (L2.CX pw w) 3 (He.ga K "rank_in") (fdOf K (He.ga K "rank_in")) ["prime", "rows"] (spF (Pk w K gh) 2 F_rank_in) := fn_evD (k := 2) (N := ["prime", "rows", "heads", "row", "left", "place", "by", "spot", "one"]) (ps := ["prime", "rows"]) (F.fun 21 rfl) sc_rank_in fun cdv A outer s₀ H E hr =>
  (sS_cons (s_set sc_rank_in.nd rfl (.inl rfl) sE_dnew)
  (sS_cons (s_for (vs := [3]) po_of rfl (sI_lst (sE_var (i := 1) rfl (.inl rfl))) (sG_name sc_rank_in.nd rfl (.inl rfl)) (sS_cons (s_set sc_rank_in.nd rfl (.inl rfl) (sE_bt cDict rfl (F.free 57 rfl) (by kernel_rfl) (sA_cons (sE_var (i := 3) rfl (.inl rfl)) sA_nil)))
  (sS_one (s_while (n := 300) po_of (sT_cmp (oNeG (rm_of hr)) (sE_var (i := 4) rfl (.inl rfl)) sE_dnew) (sS_cons (s_set sc_rank_in.nd rfl (.inl rfl) (sE_bf (cMin rfl) rfl (F.free 64 rfl) (by kernel_rfl) (sA_cons (sE_var (i := 4) rfl (.inl rfl)) sA_nil)))
  (sS_cons (s_if (sT_cmp (oNotInA (rm_of hr)) (sE_var (i := 5) rfl (.inl rfl)) (sE_var (i := 2) rfl (.inl rfl))) (sS_cons (s_set sc_rank_in.nd rfl (.inr rfl) (sE_call (ok_inverse_in F) tk_of (hr.mono (by decide)) rfl (F.glo 17 rfl) (F.fun 17 rfl).kp (bd_inverse_in F) (sA_cons (sE_var (i := 0) rfl (.inr (.inl rfl))) (sA_cons (sE_dget (rm_of hr) (sE_var (i := 4) rfl (.inl rfl)) (sE_var (i := 5) rfl (.inl rfl))) sA_nil))))
  (sS_cons (s_put (rm_of hr) (sE_var (i := 2) rfl (.inl rfl)) (sE_var (i := 5) rfl (.inl rfl)) (sE_fz (sE_dc (own := [("spot", 7), ("one", 8)]) (rm_of hr) rfl sc_rank_in.nd (sI_di (sE_fz (sE_var (i := 4) rfl (.inl rfl)))) (blkOk_by (by kernel_rfl)) (fun s H C cl fp => (sG_tup rfl (sGs_cons (sG_name sc_rank_in.nd rfl (.inl rfl)) (sGs_cons (sG_name sc_rank_in.nd rfl (.inl rfl)) sGs_nil)))) (fun s H C cl fp => sTs_nil) (fun s H C cl fp => (sE_var (i := 7) rfl (.inl rfl))) (fun s H C cl fp => (sE_op oMod (sE_op (oMul (m := false)) (sE_var (i := 8) rfl (.inl rfl)) (sE_var (i := 6) rfl (.inr (.inl rfl)))) (sE_var (i := 0) rfl (.inr (.inl rfl))))))))
  (sS_one s_break))) sS_nil)
  (sS_cons (s_set sc_rank_in.nd rfl (.inr rfl) (sE_dget (rm_of hr) (sE_var (i := 4) rfl (.inl rfl)) (sE_var (i := 5) rfl (.inl rfl))))
  (sS_cons (s_for (vs := [7, 8]) po_of rfl (sI_di (sE_fz (sE_dget (rm_of hr) (sE_var (i := 2) rfl (.inl rfl)) (sE_var (i := 5) rfl (.inl rfl))))) (sG_tup rfl (sGs_cons (sG_name sc_rank_in.nd rfl (.inl rfl)) (sGs_cons (sG_name sc_rank_in.nd rfl (.inl rfl)) sGs_nil))) (sS_one (s_put (rm_of hr) (sE_var (i := 4) rfl (.inl rfl)) (sE_var (i := 7) rfl (.inl rfl)) (sE_op oMod (sE_op oSub (sE_dm PySem.F.slot_dict_get PySem.F.type_dict_get (meGet (rm_of hr)) (sE_var (i := 4) rfl (.inl rfl)) (sA_cons (sE_var (i := 7) rfl (.inl rfl)) (sA_cons sE_int sA_nil))) (sE_op (oMul (m := false)) (sE_var (i := 6) rfl (.inr (.inl rfl))) (sE_var (i := 8) rfl (.inl rfl)))) (sE_var (i := 0) rfl (.inr (.inl rfl)))))))
  (sS_one (s_setDc (own := [("spot", 7), ("one", 8)]) (rm_of hr) rfl sc_rank_in.nd rfl rfl (sw_dict rfl rfl rfl (by kernel_rfl)) (sI_di (sE_fz (sE_var (i := 4) rfl (.inl rfl)))) (blkOk_by (by kernel_rfl)) (fun s H C cl fp => (sG_tup rfl (sGs_cons (sG_name sc_rank_in.nd rfl (.inl rfl)) (sGs_cons (sG_name sc_rank_in.nd rfl (.inl rfl)) sGs_nil)))) (fun s H C cl fp => (sTs_one (sT_cmp (oNeG (rm_of hr)) (sE_var (i := 8) rfl (.inl rfl)) sE_int))) (fun s H C cl fp => (sE_var (i := 7) rfl (.inl rfl))) (fun s H C cl fp => (sE_var (i := 8) rfl (.inl rfl)))))))))))))
  (sS_one (s_ret (sE_bf (cLen (rm_of hr)) rfl (F.free 51 rfl) (by kernel_rfl) (sA_cons (sE_var (i := 2) rfl (.inl rfl)) sA_nil))))))
theorem sc_edges_of : FnScope ["prime", "faces", "face"] ["prime", "faces"] (defScope (top 50)) := ⟨rfl, rfl, rfl, by decide +kernel, rfl, by decide +kernel, by decide +kernel⟩
theorem bd_edges_of (F : Fx w K mg base) : Binds K (fdOf K (He.ga K "edges_of")) ["prime", "faces"] [] := FunD.bindsN (F.fun 22 rfl) (fun _ _ _ _ _ _ us hl => match us, hl with | [_, _], _ => rfl)
def F_edges_of : FF := fDef 3 (sRet (fLc false [2] (iLs (fVar 1)) (gNm 2) tYesF (fCall 2 F_edge_in (fCons (fVar 0) (fCons (fDs1 (fVar 2) (fC (.int 1))) fNil)))))
theorem ok_edges_of (F : Fx w K mg base) : FnOk pw w K mg base (L2.CX pw w) 3 (He.ga K "edges_of") (fdOf K (He.ga K "edges_of")) ["prime", "faces"] (spF (Pk w K gh) 2 F_edges_of) := fn_evD (k := 2) (N := ["prime", "faces", "face"]) (ps := ["prime", "faces"]) (F.fun 22 rfl) sc_edges_of fun cdv A outer s₀ H E hr =>
  (sS_one (s_ret (sE_lc (own := [("face", 2)]) (m := false) rfl sc_edges_of.nd (sI_lst (sE_var (i := 1) rfl (.inl rfl))) (blkOk_by (by kernel_rfl)) (fun s H C cl fp => (sG_name sc_edges_of.nd rfl (.inl rfl))) (fun s H C cl fp => sTs_nil) (fun s H C cl fp => (sE_call (ok_edge_in F) LamX.takes0 (hr.mono (by decide)) rfl (F.glo 19 rfl) (F.fun 19 rfl).kp (bd_edge_in F) (sA_cons (sE_var (i := 0) rfl (.inr (.inl rfl))) (sA_cons (sE_ds1 (rm_of hr) (sE_var (i := 2) rfl (.inl rfl)) sE_int) sA_nil)))))))
theorem sc_rank_of : FnScope ["prime", "rows", "places", "row", "key", "number"] ["prime", "rows"] (defScope (top 51)) := ⟨rfl, rfl, rfl, by decide +kernel, rfl, by decide +kernel, by decide +kernel⟩
theorem bd_rank_of (F : Fx w K mg base) : Binds K (fdOf K (He.ga K "rank_of")) ["prime", "rows"] [] := FunD.bindsN (F.fun 23 rfl) (fun _ _ _ _ _ _ us hl => match us, hl with | [_, _], _ => rfl)
def F_rank_of : FF := fDef 6 (sSeq (sSet 2 fDnew) (sSeq (sFor (iLs (fVar 1)) (gNm 3) (sFor (iDk (fVar 3)) (gNm 4) (sEx (fMd mSetd (fVar 2) (fCons (fVar 4) (fCons (fB gLen (fCons (fVar 2) fNil)) fNil)))))) (sRet (fCall 2 F_rank_in (fCons (fVar 0) (fCons (fLc false [3] (iLs (fVar 1)) (gNm 3) tYesF (fFz (fDc [4, 5] (iDi (fFz (fVar 3))) (gTp 2 (gsCons (gNm 4) (gsCons (gNm 5) gsNil))) tYesF (f2 dGet (fVar 2) (fVar 4)) (fVar 5)))) fNil))))))
theorem ok_rank_of (F : Fx w K mg base) : FnOk pw w K mg base (L2.CX pw w) 4 (He.ga K "rank_of") (fdOf K (He.ga K "rank_of")) ["prime", "rows"] (spF (Pk w K gh) 2 F_rank_of) := fn_evD (k := 3) (N := ["prime", "rows", "places", "row", "key", "number"]) (ps := ["prime", "rows"]) (F.fun 23 rfl) sc_rank_of fun cdv A outer s₀ H E hr =>
  (sS_cons (s_set sc_rank_of.nd rfl (.inr rfl) sE_dnew)
  (sS_cons (s_for (vs := [3]) po_of rfl (sI_lst (sE_var (i := 1) rfl (.inl rfl))) (sG_name sc_rank_of.nd rfl (.inl rfl)) (sS_one (s_for (vs := [4]) po_of rfl (sI_dk (sE_var (i := 3) rfl (.inl rfl))) (sG_name sc_rank_of.nd rfl (.inl rfl)) (sS_one (s_expr (sE_dm PySem.F.slot_dict_setdefault PySem.F.type_dict_setdefault (meSetd (rm_of hr)) (sE_var (i := 2) rfl (.inr (.inl rfl))) (sA_cons (sE_var (i := 4) rfl (.inl rfl)) (sA_cons (sE_bf (cLen (rm_of hr)) rfl (F.free 51 rfl) (by kernel_rfl) (sA_cons (sE_var (i := 2) rfl (.inr (.inl rfl))) sA_nil)) sA_nil))))))))
  (sS_one (s_ret (sE_call (ok_rank_in F) tk_of (hr.mono (by decide)) rfl (F.glo 21 rfl) (F.fun 21 rfl).kp (bd_rank_in F) (sA_cons (sE_var (i := 0) rfl (.inl rfl)) (sA_cons (sE_lc (own := [("row", 3)]) (m := false) rfl sc_rank_of.nd (sI_lst (sE_var (i := 1) rfl (.inl rfl))) (blkOk_by (by kernel_rfl)) (fun s H C cl fp => (sG_name sc_rank_of.nd rfl (.inl rfl))) (fun s H C cl fp => sTs_nil) (fun s H C cl fp => (sE_fz (sE_dc (own := [("key", 4), ("number", 5)]) (rm_of hr) rfl sc_rank_of.nd (sI_di (sE_fz (sE_var (i := 3) rfl (.inl rfl)))) (blkOk_by (by kernel_rfl)) (fun s H C cl fp => (sG_tup rfl (sGs_cons (sG_name sc_rank_of.nd rfl (.inl rfl)) (sGs_cons (sG_name sc_rank_of.nd rfl (.inl rfl)) sGs_nil)))) (fun s H C cl fp => sTs_nil) (fun s H C cl fp => (sE_dget (rm_of hr) (sE_var (i := 2) rfl (.inr (.inl rfl))) (sE_var (i := 4) rfl (.inl rfl)))) (fun s H C cl fp => (sE_var (i := 5) rfl (.inl rfl))))))) sA_nil)))))))
end
end EK
end S_EkD
section S_EkE
/-! EkE: the program's defs, each by the rules. -/
namespace EK
open PySem PySem.Spec PyProof.Rows L2 Evl EV LamX
section
variable {w : World} {K : PySem.W.Frag} {mg : Str → Option Value} {base : Heap} {gh : G}
theorem sc_holes_of_faces_in : FnScope ["prime", "faces", "some", "found", "ranks", "size"] ["prime", "faces"] (defScope (top 52)) := ⟨rfl, rfl, rfl, by decide +kernel, rfl, by decide +kernel, by decide +kernel⟩
theorem bd_holes_of_faces_in (F : Fx w K mg base) : Binds K (fdOf K (He.ga K "holes_of_faces_in")) ["prime", "faces"] [] := FunD.bindsN (F.fun 24 rfl) (fun _ _ _ _ _ _ us hl => match us, hl with | [_, _], _ => rfl)
def F_holes_of_faces_in : FF := fDef 6 (sSeq (sPar3 2 3 4 (fCons (fCall 1 F_faces_by_size (fCons (fVar 1) fNil)) (fCons (fLst true fNil) (fCons (fLst true (fCons (fC (.int 0)) fNil)) fNil)))) (sSeq (sFor (iR2 (fCons (fC (.int 1)) (fCons (fB gLen (fCons (fVar 2) fNil)) fNil))) (gNm 5) (sEx (fMl mApp (fVar 4) (fCons (fCall 2 F_rank_of (fCons (fVar 0) (fCons (fCall 2 F_edges_of (fCons (fVar 0) (fCons (f2 dGet (fVar 2) (fVar 5)) fNil))) fNil))) fNil)))) (sSeq (sEx (fMl mApp (fVar 4) (fCons (fC (.int 0)) fNil))) (sSeq (sFor (iR1 (fCons (fB gLen (fCons (fVar 2) fNil)) fNil)) (gNm 5) (sEx (fMl mApp (fVar 3) (fCons (f2 dSub (f2 dSub (fB gLen (fCons (f2 dGet (fVar 2) (fVar 5)) fNil)) (f2 dIx (fVar 4) (fVar 5))) (f2 dIx (fVar 4) (f2 (dAdd false) (fVar 5) (fC (.int 1))))) fNil)))) (sRet (fVar 3))))))
theorem ok_holes_of_faces_in (F : Fx w K mg base) : FnOk pw w K mg base (L2.CX pw w) 5 (He.ga K "holes_of_faces_in") (fdOf K (He.ga K "holes_of_faces_in")) ["prime", "faces"] (spF (Pk w K gh) 2 F_holes_of_faces_in) := fn_evD (k := 4) (N := ["prime", "faces", "some", "found", "ranks", "size"]) (ps := ["prime", "faces"]) (F.fun 24 rfl) sc_holes_of_faces_in fun cdv A outer s₀ H E hr =>
  (sS_cons (s_par3 rfl sc_holes_of_faces_in.nd rfl rfl rfl (by decide) (by decide) (by decide) rfl rfl rfl (sA_cons (sE_call (ok_faces_by_size F) tk_of (hr.mono (by decide)) rfl (F.glo 18 rfl) (F.fun 18 rfl).kp (bd_faces_by_size F) (sA_cons (sE_var (i := 1) rfl (.inl rfl)) sA_nil)) (sA_cons (sE_lst (m := true) sA_nil) (sA_cons (sE_lst (m := true) (sA_cons sE_int sA_nil)) sA_nil))) (by kernel_rfl))
  (sS_cons (s_for (vs := [5]) po_of rfl (sI_range2 rfl (F.free 61 rfl) (sA_cons sE_int (sA_cons (sE_bf (cLen (rm_of hr)) rfl (F.free 51 rfl) (by kernel_rfl) (sA_cons (sE_var (i := 2) rfl (.inl rfl)) sA_nil)) sA_nil))) (sG_name sc_holes_of_faces_in.nd rfl (.inl rfl)) (sS_one (s_expr (sE_lm rfl PySem.F.plainAttrs_list PySem.F.slot_list_append PySem.F.type_list_append meApp (sE_var (i := 4) rfl (.inl rfl)) (sA_cons (sE_call (ok_rank_of F) tk_of (hr.mono (by decide)) rfl (F.glo 23 rfl) (F.fun 23 rfl).kp (bd_rank_of F) (sA_cons (sE_var (i := 0) rfl (.inl rfl)) (sA_cons (sE_call (ok_edges_of F) tk_of (hr.mono (by decide)) rfl (F.glo 22 rfl) (F.fun 22 rfl).kp (bd_edges_of F) (sA_cons (sE_var (i := 0) rfl (.inl rfl)) (sA_cons (sE_dget (rm_of hr) (sE_var (i := 2) rfl (.inl rfl)) (sE_var (i := 5) rfl (.inl rfl))) sA_nil))) sA_nil))) sA_nil)))))
  (sS_cons (s_expr (sE_lm rfl PySem.F.plainAttrs_list PySem.F.slot_list_append PySem.F.type_list_append meApp (sE_var (i := 4) rfl (.inl rfl)) (sA_cons sE_int sA_nil)))
  (sS_cons (s_for (vs := [5]) po_of rfl (sI_range1 rfl (F.free 61 rfl) (sA_cons (sE_bf (cLen (rm_of hr)) rfl (F.free 51 rfl) (by kernel_rfl) (sA_cons (sE_var (i := 2) rfl (.inl rfl)) sA_nil)) sA_nil)) (sG_name sc_holes_of_faces_in.nd rfl (.inl rfl)) (sS_one (s_expr (sE_lm rfl PySem.F.plainAttrs_list PySem.F.slot_list_append PySem.F.type_list_append meApp (sE_var (i := 3) rfl (.inl rfl)) (sA_cons (sE_op oSub (sE_op oSub (sE_bf (cLen (rm_of hr)) rfl (F.free 51 rfl) (by kernel_rfl) (sA_cons (sE_dget (rm_of hr) (sE_var (i := 2) rfl (.inl rfl)) (sE_var (i := 5) rfl (.inl rfl))) sA_nil)) (sE_ix (sE_var (i := 4) rfl (.inl rfl)) (sE_var (i := 5) rfl (.inl rfl)))) (sE_ix (sE_var (i := 4) rfl (.inl rfl)) (sE_op (oAdd (m := false)) (sE_var (i := 5) rfl (.inl rfl)) sE_int))) sA_nil)))))
  (sS_one (s_ret (sE_var (i := 3) rfl (.inl rfl))))))))
theorem sc_holes_in : FnScope ["prime", "body"] ["prime", "body"] (defScope (top 53)) := ⟨rfl, rfl, rfl, by decide +kernel, rfl, by decide +kernel, by decide +kernel⟩
theorem bd_holes_in (F : Fx w K mg base) : Binds K (fdOf K (He.ga K "holes_in")) ["prime", "body"] [] := FunD.bindsN (F.fun 25 rfl) (fun _ _ _ _ _ _ us hl => match us, hl with | [_, _], _ => rfl)
def F_holes_in : FF := fDef 2 (sRet (fCall 2 F_holes_of_faces_in (fCons (fVar 0) (fCons (fCall 1 F_faces_in (fCons (fVar 1) fNil)) fNil))))
theorem ok_holes_in (F : Fx w K mg base) : FnOk pw w K mg base (L2.CX pw w) 6 (He.ga K "holes_in") (fdOf K (He.ga K "holes_in")) ["prime", "body"] (spF (Pk w K gh) 2 F_holes_in) := fn_evD (k := 5) (N := ["prime", "body"]) (ps := ["prime", "body"]) (F.fun 25 rfl) sc_holes_in fun cdv A outer s₀ H E hr =>
  (sS_one (s_ret (sE_call (ok_holes_of_faces_in F) tk_of (hr.mono (by decide)) rfl (F.glo 24 rfl) (F.fun 24 rfl).kp (bd_holes_of_faces_in F) (sA_cons (sE_var (i := 0) rfl (.inl rfl)) (sA_cons (sE_call (ok_faces_in F) tk_of (hr.mono (by decide)) rfl (F.glo 11 rfl) (F.fun 11 rfl).kp (bd_faces_in F) (sA_cons (sE_var (i := 1) rfl (.inl rfl)) sA_nil)) sA_nil)))))
theorem sc_is_label : FnScope ["value", "sign"] ["value"] (defScope (top 68)) := ⟨rfl, rfl, rfl, by decide +kernel, rfl, by decide +kernel, by decide +kernel⟩
theorem bd_is_label (F : Fx w K mg base) : Binds K (fdOf K (He.ga K "is_label")) ["value"] [] := FunD.bindsN (F.fun 26 rfl) (fun _ _ _ _ _ _ us hl => match us, hl with | [_], _ => rfl)
def F_is_label : FF := fDef 2 (sSeq (sIf (tOrF (tNotF (tOf (fIsi 3 (fVar 0)))) (tNotF (tOf (f3 (dCmp iLe) (dCmp iLe) (fC (.int 1)) (fB gLen (fCons (fVar 0) fNil)) (fC (.int 8)))))) (sRet (fC (.bl false))) sNil) (sRet (fB gAll (fCons (fLc false [1] (iSg (fVar 0)) (gNm 1) tYesF (f2 (dIn false) (fVar 1) (fC (.str [97, 98, 99, 100, 101, 102, 103, 104, 105, 106, 107, 108, 109, 110, 111, 112, 113, 114, 115, 116, 117, 118, 119, 120, 121, 122])))) fNil))))
theorem ok_is_label (F : Fx w K mg base) : FnOk pw w K mg base (L2.CX pw w) 1 (He.ga K "is_label") (fdOf K (He.ga K "is_label")) ["value"] (spF (Pk w K gh) 1 F_is_label) := fn_evD (k := 0) (N := ["value", "sign"]) (ps := ["value"]) (F.fun 26 rfl) sc_is_label fun cdv A outer s₀ H E hr =>
  (sS_cons (s_if (sT_w (sW_or (sT_not (sT_val (sE_isi (k := 3) rfl (by decide) rfl (F.free 50 rfl) rfl (F.free 60 rfl) (by kernel_rfl) (by decide) (by decide) (sE_var (i := 0) rfl (.inl rfl))))) (sW_or1 (sT_not (sT_chain oLe oLe sE_int (sE_bf (cLen (rm_of hr)) rfl (F.free 51 rfl) (by kernel_rfl) (sA_cons (sE_var (i := 0) rfl (.inl rfl)) sA_nil)) (sE_gint (F.int 70 rfl) rfl)))))) (sS_one (s_ret sE_bl)) sS_nil)
  (sS_one (s_ret (sE_bf (cAll rfl) rfl (F.free 52 rfl) (by kernel_rfl) (sA_cons (sE_lc (own := [("sign", 1)]) (m := false) rfl sc_is_label.nd (sI_str (sE_var (i := 0) rfl (.inl rfl))) (blkOk_by (by kernel_rfl)) (fun s H C cl fp => (sG_name sc_is_label.nd rfl (.inl rfl))) (fun s H C cl fp => sTs_nil) (fun s H C cl fp => (sE_cmp (oInA (rm_of hr)) (sE_var (i := 1) rfl (.inl rfl)) (sE_gstr (s := [97, 98, 99, 100, 101, 102, 103, 104, 105, 106, 107, 108, 109, 110, 111, 112, 113, 114, 115, 116, 117, 118, 119, 120, 121, 122]) (F.str 71 rfl) rfl)))) sA_nil)))))
theorem sc_joined_short : FnScope ["body", "other"] ["body", "other"] (defScope (top 69)) := ⟨rfl, rfl, rfl, by decide +kernel, rfl, by decide +kernel, by decide +kernel⟩
theorem bd_joined_short (F : Fx w K mg base) : Binds K (fdOf K (He.ga K "joined_short")) ["body", "other"] [] := FunD.bindsN (F.fun 27 rfl) (fun _ _ _ _ _ _ us hl => match us, hl with | [_, _], _ => rfl)
def F_joined_short : FF := fDef 2 (sSeq (sIf (tOf (f2 (dCmp fun i j => iLt j i) (f2 (dAdd false) (f2 dIx (fVar 0) (fC (.int 0))) (f2 dIx (fVar 1) (fC (.int 0)))) (fC (.int 10)))) (sRaise 5 7 (fC (.int 10))) sNil) (sRet (fCall 2 F_joined_in (fCons (fVar 0) (fCons (fVar 1) fNil)))))
theorem ok_joined_short (F : Fx w K mg base) : FnOk pw w K mg base (L2.CX pw w) 5 (He.ga K "joined_short") (fdOf K (He.ga K "joined_short")) ["body", "other"] (spF (Pk w K gh) 2 F_joined_short) := fn_evD (k := 4) (N := ["body", "other"]) (ps := ["body", "other"]) (F.fun 27 rfl) sc_joined_short fun cdv A outer s₀ H E hr =>
  (sS_cons (s_if (sT_cmp oGt (sE_op (oAdd (m := false)) (sE_ix (sE_var (i := 0) rfl (.inl rfl)) sE_int) (sE_ix (sE_var (i := 1) rfl (.inl rfl)) sE_int)) (sE_gint (F.int 69 rfl) rfl)) (sS_one (s_raise (c := 5) (fl := 7) rfl tk_of rfl (et_TooGreat F).T (et_TooGreat F).iC (et_TooGreat F).tI (er_TooGreat F) rfl (hr.mono (by decide)) (eb_TooGreat F) rfl (F.glo 48 rfl) (sE_gint (F.int 69 rfl) rfl))) sS_nil)
  (sS_one (s_ret (sE_call (ok_joined_in F) tk_of (hr.mono (by decide)) rfl (F.glo 14 rfl) (F.fun 14 rfl).kp (bd_joined_in F) (sA_cons (sE_var (i := 0) rfl (.inl rfl)) (sA_cons (sE_var (i := 1) rfl (.inl rfl)) sA_nil))))))
theorem sc_changed : FnScope ["body", "edit", "lot"] ["body", "edit"] (defScope (top 70)) := ⟨rfl, rfl, rfl, by decide +kernel, rfl, by decide +kernel, by decide +kernel⟩
theorem bd_changed (F : Fx w K mg base) : Binds K (fdOf K (He.ga K "changed")) ["body", "edit"] [] := FunD.bindsN (F.fun 28 rfl) (fun _ _ _ _ _ _ us hl => match us, hl with | [_, _], _ => rfl)
def F_changed : FF := fDef 3 (sSeq (sIf (tOf (f2 dEqG (f2 dIx (fVar 1) (fC (.int 0))) (fC (.str [111, 118, 101, 114])))) sNever sNil) (sSeq (sSet 2 (fCall 2 F_need_lot (fCons (f2 dIx (fVar 0) (fC (.int 0))) (fCons (f2 dIx (fVar 1) (fC (.int 2))) fNil)))) sNever))
theorem ok_changed (F : Fx w K mg base) : FnOk pw w K mg base (L2.CX pw w) 5 (He.ga K "changed") (fdOf K (He.ga K "changed")) ["body", "edit"] (spF (Pk w K gh) 2 F_changed) := fn_evD (k := 4) (N := ["body", "edit", "lot"]) (ps := ["body", "edit"]) (F.fun 28 rfl) sc_changed fun cdv A outer s₀ H E hr =>
  (sS_cons (s_if (sT_cmp (oEqG (rm_of hr)) (sE_ix (sE_var (i := 1) rfl (.inl rfl)) sE_int) (sE_str (s := [111, 118, 101, 114]))) sS_never sS_nil)
  (sS_cons (s_set sc_changed.nd rfl (.inl rfl) (sE_call (ok_need_lot F) tk_of (hr.mono (by decide)) rfl (F.glo 5 rfl) (F.fun 5 rfl).kp (bd_need_lot F) (sA_cons (sE_ix (sE_var (i := 0) rfl (.inl rfl)) sE_int) (sA_cons (sE_ix (sE_var (i := 1) rfl (.inl rfl)) sE_int) sA_nil))))
  sS_never))
theorem sc__law_begun : FnScope ["script", "turn", "cells", "great", "seed", "cell"] ["script", "turn"] (defScope (top 73)) := ⟨rfl, rfl, rfl, by decide +kernel, rfl, by decide +kernel, by decide +kernel⟩
theorem bd__law_begun (F : Fx w K mg base) : Binds K (fdOf K (He.ga K "_law_begun")) ["script", "turn"] [] := FunD.bindsN (F.fun 29 rfl) (fun _ _ _ _ _ _ us hl => match us, hl with | [_, _], _ => rfl)
def st__law_begun_0 : FS := (sSet 2 (f2 (dAdd false) (fSlc false (fVar 0) (oSome (fVar 1)) oNo) (fSlc false (fVar 0) oNo (oSome (fVar 1)))))
def st__law_begun_1 : FS := (sSet 3 (fLc false [5] (iLs (fVar 0)) (gNm 5) (tOf (f2 (dCmp fun i j => iLe j i) (fVar 5) (f2 dPow (fC (.int 10)) (fC (.int 18))))) (fVar 5)))
def st__law_begun_2 : FS := (sSet 4 (f2 (dAdd false) (fC (.int 91)) (fVar 1)))
def st__law_begun_3 : FS := (sFor (iLs (fVar 2)) (gNm 5) (sSet 4 (f2 dMod (fB gInt (fCons (f2 (dAdd false) (f2 (dMul false) (fVar 4) (fC (.int 48271))) (fVar 5)) fNil)) (fC (.int 2147483647)))))
def st__law_begun_4 : FS := (sRet (fDsp [((fC (.str [108, 101, 102, 116])), (fIf (tOf (f2 (dCmp iLt) (fVar 1) (fB gLen (fCons (fVar 3) fNil)))) (f2 dIx (fVar 3) (fVar 1)) (fC (.int 0)))), ((fC (.str [115, 101, 101, 100])), (fVar 4)), ((fC (.str [99, 101, 108, 108, 115])), (f2 (dAdd false) (fVar 2) (fLst false (fCons (f2 (dAdd false) (f2 (dMul false) (fC (.int 61)) (fVar 1)) (fC (.int 17))) fNil)))), ((fC (.str [115, 112, 111, 116])), (fC (.int 0)))]))
def F__law_begun : FF := fDef 6 (sSeq st__law_begun_0 (sSeq st__law_begun_1 (sSeq st__law_begun_2 (sSeq st__law_begun_3 st__law_begun_4))))
theorem ok__law_begun (F : Fx w K mg base) : FnOk pw w K mg base (L2.CX pw w) 1 (He.ga K "_law_begun") (fdOf K (He.ga K "_law_begun")) ["script", "turn"] (spF (Pk w K gh) 2 F__law_begun) := fn_evD (k := 0) (N := ["script", "turn", "cells", "great", "seed", "cell"]) (ps := ["script", "turn"]) (F.fun 29 rfl) sc__law_begun fun cdv A outer s₀ H E hr =>
  (sS_cons (s_set sc__law_begun.nd rfl (.inl rfl) (sE_op (oAdd (m := false)) (sE_slc (m := false) (sE_var (i := 0) rfl (.inl rfl)) (sO_some (sE_var (i := 1) rfl (.inl rfl))) sO_none) (sE_slc (m := false) (sE_var (i := 0) rfl (.inl rfl)) sO_none (sO_some (sE_var (i := 1) rfl (.inl rfl))))))
  (sS_cons (s_setLc (own := [("cell", 5)]) (m := false) rfl sc__law_begun.nd rfl rfl (sw_true rfl rfl rfl (by kernel_rfl)) (sI_lst (sE_var (i := 0) rfl (.inl rfl))) (blkOk_by (by kernel_rfl)) (fun s H C cl fp => (sG_name sc__law_begun.nd rfl (.inl rfl))) (fun s H C cl fp => (sTs_one (sT_cmp oGe (sE_var (i := 5) rfl (.inl rfl)) (sE_op oPow sE_int sE_int)))) (fun s H C cl fp => (sE_var (i := 5) rfl (.inl rfl))))
  (sS_cons (s_set sc__law_begun.nd rfl (.inl rfl) (sE_op (oAdd (m := false)) sE_int (sE_var (i := 1) rfl (.inl rfl))))
  (sS_cons (s_for (vs := [5]) po_of rfl (sI_lst (sE_var (i := 2) rfl (.inl rfl))) (sG_name sc__law_begun.nd rfl (.inl rfl)) (sS_one (s_set sc__law_begun.nd rfl (.inl rfl) (sE_op oMod (sE_bt cInt rfl (F.free 58 rfl) (by kernel_rfl) (sA_cons (sE_op (oAdd (m := false)) (sE_op (oMul (m := false)) (sE_var (i := 4) rfl (.inl rfl)) sE_int) (sE_var (i := 5) rfl (.inl rfl))) sA_nil)) sE_int))))
  (sS_one (s_ret (sE_dsp (prs := [((fC (.str [108, 101, 102, 116])), (fIf (tOf (f2 (dCmp iLt) (fVar 1) (fB gLen (fCons (fVar 3) fNil)))) (f2 dIx (fVar 3) (fVar 1)) (fC (.int 0)))), ((fC (.str [115, 101, 101, 100])), (fVar 4)), ((fC (.str [99, 101, 108, 108, 115])), (f2 (dAdd false) (fVar 2) (fLst false (fCons (f2 (dAdd false) (f2 (dMul false) (fC (.int 61)) (fVar 1)) (fC (.int 17))) fNil)))), ((fC (.str [115, 112, 111, 116])), (fC (.int 0)))]) (pps_cons (sE_str (s := [108, 101, 102, 116])) (sE_if (sT_cmp oLt (sE_var (i := 1) rfl (.inl rfl)) (sE_bf (cLen (rm_of hr)) rfl (F.free 51 rfl) (by kernel_rfl) (sA_cons (sE_var (i := 3) rfl (.inl rfl)) sA_nil))) (sE_ix (sE_var (i := 3) rfl (.inl rfl)) (sE_var (i := 1) rfl (.inl rfl))) sE_int) (pps_cons (sE_str (s := [115, 101, 101, 100])) (sE_var (i := 4) rfl (.inl rfl)) (pps_cons (sE_str (s := [99, 101, 108, 108, 115])) (sE_op (oAdd (m := false)) (sE_var (i := 2) rfl (.inl rfl)) (sE_lst (m := false) (sA_cons (sE_op (oAdd (m := false)) (sE_op (oMul (m := false)) sE_int (sE_var (i := 1) rfl (.inl rfl))) sE_int) sA_nil))) (pps_cons (sE_str (s := [115, 112, 111, 116])) sE_int pps_nil)))))))))))
end
end EK
end S_EkE
section S_EkF
/-! EkF: the program's defs, each by the rules. -/
namespace EK
open PySem PySem.Spec PyProof.Rows L2 Evl EV LamX
section
variable {w : World} {K : PySem.W.Frag} {mg : Str → Option Value} {base : Heap} {gh : G}
theorem sc__law_draw : FnScope ["m", "span", "found", "spot", "cells", "extra", "cell", "blend"] ["m", "span"] (defScope (top 74)) := ⟨rfl, rfl, rfl, by decide +kernel, rfl, by decide +kernel, by decide +kernel⟩
theorem bd__law_draw (F : Fx w K mg base) : Binds K (fdOf K (He.ga K "_law_draw")) ["m", "span"] [] := FunD.bindsN (F.fun 30 rfl) (fun _ _ _ _ _ _ us hl => match us, hl with | [_, _], _ => rfl)
def st__law_draw_0 : FS := (sIf (tOf (f2 (dCmp fun i j => iLt j i) (f2 dGet (fVar 0) (fC (.str [108, 101, 102, 116]))) (fC (.int 0)))) (sSeq (sSet 2 (f2 dMod (fB gInt (fCons (f2 dGet (fVar 0) (fC (.str [108, 101, 102, 116]))) fNil)) (fVar 1))) (sSeq (sPut (fVar 0) (fC (.str [108, 101, 102, 116])) (f2 dFdiv (f2 dGet (fVar 0) (fC (.str [108, 101, 102, 116]))) (fVar 1))) (sRet (fVar 2)))) sNil)
def st__law_draw_1 : FS := (sSet 3 (f2 dGet (fVar 0) (fC (.str [115, 112, 111, 116]))))
def st__law_draw_2 : FS := (sPut (fVar 0) (fC (.str [115, 112, 111, 116])) (f2 (dAdd false) (fVar 3) (fC (.int 1))))
def st__law_draw_3 : FS := (sPar 4 5 (fCons (f2 dGet (fVar 0) (fC (.str [99, 101, 108, 108, 115]))) (fCons (f2 (dAdd false) (f2 dGet (fVar 0) (fC (.str [115, 101, 101, 100]))) (f2 (dMul false) (f2 (dMul false) (fC (.int 40503)) (fVar 3)) (fVar 3))) fNil)))
def st__law_draw_4 : FS := (sSet 6 (f2 dIx (fVar 4) (f2 dMod (fB gInt (fCons (fVar 3) fNil)) (fB gLen (fCons (fVar 4) fNil)))))
def st__law_draw_5 : FS := (sSet 7 (f2 dMod (fB gInt (fCons (f2 (dAdd false) (f2 (dMul false) (fVar 6) (f2 (dAdd false) (f2 (dMul false) (fC (.int 2)) (fVar 3)) (fC (.int 3)))) (fVar 5)) fNil)) (fC (.int 2147483647))))
def st__law_draw_6 : FS := (sSet 7 (f2 dMod (fB gInt (fCons (f2 (dAdd false) (f2 (dAdd false) (f2 (dMul false) (fVar 7) (fVar 7)) (f2 (dMul false) (fC (.int 69621)) (fVar 3))) (f2 dGet (fVar 0) (fC (.str [115, 101, 101, 100])))) fNil)) (fC (.int 2147483629))))
def st__law_draw_7 : FS := (sRet (f2 dMod (f2 dFdiv (f2 dMod (fB gInt (fCons (f2 (dAdd false) (f2 (dMul false) (fVar 7) (fC (.int 48271))) (fVar 3)) fNil)) (fC (.int 2147483647))) (fC (.int 11))) (fVar 1)))
def F__law_draw : FF := fDef 8 (sSeq st__law_draw_0 (sSeq st__law_draw_1 (sSeq st__law_draw_2 (sSeq st__law_draw_3 (sSeq st__law_draw_4 (sSeq st__law_draw_5 (sSeq st__law_draw_6 st__law_draw_7)))))))
theorem ok__law_draw (F : Fx w K mg base) : FnOk pw w K mg base (L2.CX pw w) 1 (He.ga K "_law_draw") (fdOf K (He.ga K "_law_draw")) ["m", "span"] (spF (Pk w K gh) 2 F__law_draw) := fn_evD (k := 0) (N := ["m", "span", "found", "spot", "cells", "extra", "cell", "blend"]) (ps := ["m", "span"]) (F.fun 30 rfl) sc__law_draw fun cdv A outer s₀ H E hr =>
  (sS_cons (s_if (sT_cmp oGt (sE_dget (rm_of hr) (sE_var (i := 0) rfl (.inl rfl)) (sE_str (s := [108, 101, 102, 116]))) sE_int) (sS_cons (s_set sc__law_draw.nd rfl (.inl rfl) (sE_op oMod (sE_bt cInt rfl (F.free 58 rfl) (by kernel_rfl) (sA_cons (sE_dget (rm_of hr) (sE_var (i := 0) rfl (.inl rfl)) (sE_str (s := [108, 101, 102, 116]))) sA_nil)) (sE_var (i := 1) rfl (.inl rfl))))
  (sS_cons (s_put (rm_of hr) (sE_var (i := 0) rfl (.inl rfl)) (sE_str (s := [108, 101, 102, 116])) (sE_op oFdiv (sE_dget (rm_of hr) (sE_var (i := 0) rfl (.inl rfl)) (sE_str (s := [108, 101, 102, 116]))) (sE_var (i := 1) rfl (.inl rfl))))
  (sS_one (s_ret (sE_var (i := 2) rfl (.inl rfl)))))) sS_nil)
  (sS_cons (s_set sc__law_draw.nd rfl (.inl rfl) (sE_dget (rm_of hr) (sE_var (i := 0) rfl (.inl rfl)) (sE_str (s := [115, 112, 111, 116]))))
  (sS_cons (s_put (rm_of hr) (sE_var (i := 0) rfl (.inl rfl)) (sE_str (s := [115, 112, 111, 116])) (sE_op (oAdd (m := false)) (sE_var (i := 3) rfl (.inl rfl)) sE_int))
  (sS_cons (s_par rfl sc__law_draw.nd rfl rfl (by decide) rfl rfl (sA_cons (sE_dget (rm_of hr) (sE_var (i := 0) rfl (.inl rfl)) (sE_str (s := [99, 101, 108, 108, 115]))) (sA_cons (sE_op (oAdd (m := false)) (sE_dget (rm_of hr) (sE_var (i := 0) rfl (.inl rfl)) (sE_str (s := [115, 101, 101, 100]))) (sE_op (oMul (m := false)) (sE_op (oMul (m := false)) sE_int (sE_var (i := 3) rfl (.inl rfl))) (sE_var (i := 3) rfl (.inl rfl)))) sA_nil)) (by kernel_rfl))
  (sS_cons (s_set sc__law_draw.nd rfl (.inl rfl) (sE_ix (sE_var (i := 4) rfl (.inl rfl)) (sE_op oMod (sE_bt cInt rfl (F.free 58 rfl) (by kernel_rfl) (sA_cons (sE_var (i := 3) rfl (.inl rfl)) sA_nil)) (sE_bf (cLen (rm_of hr)) rfl (F.free 51 rfl) (by kernel_rfl) (sA_cons (sE_var (i := 4) rfl (.inl rfl)) sA_nil)))))
  (sS_cons (s_set sc__law_draw.nd rfl (.inl rfl) (sE_op oMod (sE_bt cInt rfl (F.free 58 rfl) (by kernel_rfl) (sA_cons (sE_op (oAdd (m := false)) (sE_op (oMul (m := false)) (sE_var (i := 6) rfl (.inl rfl)) (sE_op (oAdd (m := false)) (sE_op (oMul (m := false)) sE_int (sE_var (i := 3) rfl (.inl rfl))) sE_int)) (sE_var (i := 5) rfl (.inl rfl))) sA_nil)) sE_int))
  (sS_cons (s_set sc__law_draw.nd rfl (.inl rfl) (sE_op oMod (sE_bt cInt rfl (F.free 58 rfl) (by kernel_rfl) (sA_cons (sE_op (oAdd (m := false)) (sE_op (oAdd (m := false)) (sE_op (oMul (m := false)) (sE_var (i := 7) rfl (.inl rfl)) (sE_var (i := 7) rfl (.inl rfl))) (sE_op (oMul (m := false)) sE_int (sE_var (i := 3) rfl (.inl rfl)))) (sE_dget (rm_of hr) (sE_var (i := 0) rfl (.inl rfl)) (sE_str (s := [115, 101, 101, 100])))) sA_nil)) sE_int))
  (sS_one (s_ret (sE_op oMod (sE_op oFdiv (sE_op oMod (sE_bt cInt rfl (F.free 58 rfl) (by kernel_rfl) (sA_cons (sE_op (oAdd (m := false)) (sE_op (oMul (m := false)) (sE_var (i := 7) rfl (.inl rfl)) sE_int) (sE_var (i := 3) rfl (.inl rfl))) sA_nil)) sE_int) sE_int) (sE_var (i := 1) rfl (.inl rfl))))))))))))
theorem sc__law_of : FnScope ["m", "some"] ["m", "some"] (defScope (top 75)) := ⟨rfl, rfl, rfl, by decide +kernel, rfl, by decide +kernel, by decide +kernel⟩
theorem bd__law_of (F : Fx w K mg base) : Binds K (fdOf K (He.ga K "_law_of")) ["m", "some"] [] := FunD.bindsN (F.fun 31 rfl) (fun _ _ _ _ _ _ us hl => match us, hl with | [_, _], _ => rfl)
def st__law_of_0 : FS := (sRet (f2 dIx (fVar 1) (fCall 2 F__law_draw (fCons (fVar 0) (fCons (fB gLen (fCons (fVar 1) fNil)) fNil)))))
def F__law_of : FF := fDef 2 st__law_of_0
theorem ok__law_of (F : Fx w K mg base) : FnOk pw w K mg base (L2.CX pw w) 2 (He.ga K "_law_of") (fdOf K (He.ga K "_law_of")) ["m", "some"] (spF (Pk w K gh) 2 F__law_of) := fn_evD (k := 1) (N := ["m", "some"]) (ps := ["m", "some"]) (F.fun 31 rfl) sc__law_of fun cdv A outer s₀ H E hr =>
  (sS_one (s_ret (sE_ix (sE_var (i := 1) rfl (.inl rfl)) (sE_call (ok__law_draw F) tk_of (hr.mono (by decide)) rfl (F.glo 30 rfl) (F.fun 30 rfl).kp (bd__law_draw F) (sA_cons (sE_var (i := 0) rfl (.inl rfl)) (sA_cons (sE_bf (cLen (rm_of hr)) rfl (F.free 51 rfl) (by kernel_rfl) (sA_cons (sE_var (i := 1) rfl (.inl rfl)) sA_nil)) sA_nil))))))
theorem sc__law_like : FnScope ["told", "due"] ["told", "due"] (defScope (top 76)) := ⟨rfl, rfl, rfl, by decide +kernel, rfl, by decide +kernel, by decide +kernel⟩
theorem bd__law_like (F : Fx w K mg base) : Binds K (fdOf K (He.ga K "_law_like")) ["told", "due"] [] := FunD.bindsN (F.fun 32 rfl) (fun _ _ _ _ _ _ us hl => match us, hl with | [_, _], _ => rfl)
def F__law_like : FF := fDef 2 (sRet (fAnd (f2 dEqG (fVar 0) (fVar 1)) (fReps 0 1)))
theorem ok__law_like (F : Fx w K mg base) : FnG pw w K mg base (L2.CX pw w) 1 (He.ga K "_law_like") (fdOf K (He.ga K "_law_like")) ["told", "due"] (spF (Pk w K gh) 2 F__law_like) := by
  exact fn_evGD (k := 0) (N := ["told", "due"]) (ps := ["told", "due"]) (p := ("_law_like", none)) rfl (F.fun 32 rfl) sc__law_like fun cdv A outer s₀ H E hcd hgd hr =>
  (sS_one (s_ret (sE_and (sE_cmp (oEqG (rm_of hr)) (sE_var (i := 0) rfl (.inl rfl)) (sE_var (i := 1) rfl (.inl rfl))) (sE_one (sE_reps (i := 0) (j := 1) rfl (u_of hr) hgd rfl (F.free 65 rfl) rfl (.inl rfl) rfl (.inl rfl))))))
theorem sc__law_heard : FnScope ["call", "error"] ["call"] (defScope (top 77)) := ⟨rfl, rfl, rfl, by decide +kernel, rfl, by decide +kernel, by decide +kernel⟩
theorem bd__law_heard (F : Fx w K mg base) : Binds K (fdOf K (He.ga K "_law_heard")) ["call"] [] := FunD.bindsN (F.fun 33 rfl) (fun _ _ _ _ _ _ us hl => match us, hl with | [_], _ => rfl)
def hdsL : List Hd := [.as 0 1 [101, 100, 105, 116] 5, .as 1 1 [110, 97, 109, 101] 5, .as 2 1 [102, 97, 99, 101] 5, .as 3 1 [99, 111, 109, 112, 108, 101, 120] 6, .as 4 1 [112, 114, 105, 109, 101] 5, .as 5 1 [103, 114, 101, 97, 116] 7, .no 6 [110, 111, 116, 104, 105, 110, 103]]
def sH_heard (fc : FE) : FS := sTry 7 (sRet (fLst false (fCons fc fNil))) hdsL
theorem heardX (F : Fx w K mg base) : ∃ (oc : Value) (od : Option Addr) (dV kV doc pm : Value) (an : Option Addr) (cdv ct : Value) (osl : Array (Option Value)),
    K.lookup (He.ga K "_law_heard") = some ⟨oc, od, .func (PySem.W.fnOf "_law_heard" "_law_heard" (defArgs (top 77)) (defBody (top 77)) (defScope (top 77)) dV kV doc pm an cdv ct), osl⟩ ∧ PySem.W.codeIn K cdv "_law_heard" = true ∧ Binds K (PySem.W.fnOf "_law_heard" "_law_heard" (defArgs (top 77)) (defBody (top 77)) (defScope (top 77)) dV kV doc pm an cdv ct) ["call"] [] := by
  have b := bd__law_heard F
  obtain ⟨oc, od, dV, kV, doc, pm, an, cdv, ct, osl, e, lk, hc, _, _⟩ := (F.fun 33 rfl).ex
  have e : fdOf K (He.ga K "_law_heard") = PySem.W.fnOf "_law_heard" "_law_heard" (defArgs (top 77)) (defBody (top 77)) (defScope (top 77)) dV kV doc pm an cdv ct := e
  have lk : K.lookup (He.ga K "_law_heard") = some ⟨oc, od, .func (fdOf K (He.ga K "_law_heard")), osl⟩ := lk
  rw [e] at b lk
  exact ⟨oc, od, dV, kV, doc, pm, an, cdv, ct, osl, lk, hc, b⟩
theorem hrd_ok (F : Fx w K mg base) {g : Addr} {cdv : Value} : HrdOk (Pk w K gh) pw w K mg base ["call", "error"] "_law_heard" (defScope (top 77)) g cdv (defBody (top 77)) "call" sH_heard := fun g0 A outer s H E fc act => sS_one (s_try (n := 7) rfl rfl sc__law_heard.nd tk_of F.exm (fun E' pn xe tk po => sS_one (s_ret (sE_lst (m := false) (sA_cons (act E' pn xe _ _ tk) sA_nil)))) (.as (c := 0) (i := 1) (g := 5) (s := [101, 100, 105, 116]) rfl rfl (xe_names rfl (F.glo 43 rfl)) (by decide) (F.xf 0 rfl) (et_BadEdit F).nof rfl (by decide) (by decide) (fun _ => rfl) (fun _ => rfl) (fun _ => rfl) (.as (c := 1) (i := 1) (g := 5) (s := [110, 97, 109, 101]) rfl rfl (xe_names rfl (F.glo 44 rfl)) (by decide) (F.xf 1 rfl) (et_BadName F).nof rfl (by decide) (by decide) (fun _ => rfl) (fun _ => rfl) (fun _ => rfl) (.as (c := 2) (i := 1) (g := 5) (s := [102, 97, 99, 101]) rfl rfl (xe_names rfl (F.glo 45 rfl)) (by decide) (F.xf 2 rfl) (et_BadFace F).nof rfl (by decide) (by decide) (fun _ => rfl) (fun _ => rfl) (fun _ => rfl) (.as (c := 3) (i := 1) (g := 6) (s := [99, 111, 109, 112, 108, 101, 120]) rfl rfl (xe_names rfl (F.glo 46 rfl)) (by decide) (F.xf 3 rfl) (et_BadComplex F).nof rfl (by decide) (by decide) (fun _ => rfl) (fun _ => rfl) (fun _ => rfl) (.as (c := 4) (i := 1) (g := 5) (s := [112, 114, 105, 109, 101]) rfl rfl (xe_names rfl (F.glo 47 rfl)) (by decide) (F.xf 4 rfl) (et_BadPrime F).nof rfl (by decide) (by decide) (fun _ => rfl) (fun _ => rfl) (fun _ => rfl) (.as (c := 5) (i := 1) (g := 7) (s := [103, 114, 101, 97, 116]) rfl rfl (xe_names rfl (F.glo 48 rfl)) (by decide) (F.xf 5 rfl) (et_TooGreat F).nof rfl (by decide) (by decide) (fun _ => rfl) (fun _ => rfl) (fun _ => rfl) (.no (c := 6) (s := [110, 111, 116, 104, 105, 110, 103]) (xe_names rfl (F.glo 49 rfl)) (by decide) .nil))))))))
theorem sc_Bench___init__ : FnScope ["self", "prime"] ["self", "prime"] (defScope (mth 71 0)) := ⟨rfl, rfl, rfl, by decide +kernel, rfl, by decide +kernel, by decide +kernel⟩
theorem bd_Bench___init__ (F : Fx w K mg base) : Binds K (fdOf K (He.ma K (He.ga K "Bench") "__init__")) ["self", "prime"] [] := FunD.bindsN (F.fun 40 rfl) (fun _ _ _ _ _ _ us hl => match us, hl with | [_, _], _ => rfl)
theorem kb_Bench___init__ (F : Fx w K mg base) : Kb K (fdOf K (He.ma K (He.ga K "Bench") "__init__")) ["self", "prime"] 1 ["prime"] := by
  obtain ⟨oc, od, dV, kV, doc, pm, an, cdv, ct, osl, e, _, _, hD, _⟩ := (F.fun 40 rfl).ex
  rcases hD with ⟨_, z⟩ | ⟨z, _⟩
  · subst z
    have e : fdOf K (He.ma K (He.ga K "Bench") "__init__") = _ := e
    rw [e]
    exact kb_of fun us ws h1 h2 => match us, ws, h1, h2 with | [_], [_], _, _ => rfl
  · exact absurd rfl z
def F_Bench___init__ : FF := fDef 2 (sSeq (sEx (fCall 1 F_need_prime (fCons (fVar 1) fNil))) (sSeq (sFd 0 0 (fVar 0) (fVar 1)) (sSeq (sFd 0 1 (fVar 0) (fFz fDnew)) (sSeq (sFd 0 2 (fVar 0) (fLst true fNil)) (sSeq (sFd 0 3 (fVar 0) (fLst true fNil)) (sFd 0 4 (fVar 0) fDnew))))))
theorem ok_Bench___init__ (F : Fx w K mg base) : FnOk pw w K mg base (L2.CX pw w) 6 (He.ma K (He.ga K "Bench") "__init__") (fdOf K (He.ma K (He.ga K "Bench") "__init__")) ["self", "prime"] (spF (Pk w K gh) 2 F_Bench___init__) := fn_evD (k := 5) (N := ["self", "prime"]) (ps := ["self", "prime"]) (F.fun 40 rfl) sc_Bench___init__ fun cdv A outer s₀ H E hr =>
  (sS_cons (s_expr (sE_call (ok_need_prime F) tk_of (hr.mono (by decide)) rfl (F.glo 16 rfl) (F.fun 16 rfl).kp (bd_need_prime F) (sA_cons (sE_var (i := 1) rfl (.inl rfl)) sA_nil)))
  (sS_cons (s_fld (c := 0) (j := 0) rfl F.bench (F.noat 74 rfl) rfl (own_q rfl) (sE_var (i := 0) rfl (.inl rfl)) (sE_var (i := 1) rfl (.inl rfl)))
  (sS_cons (s_fld (c := 0) (j := 1) rfl F.bench (F.noat 75 rfl) rfl (own_q rfl) (sE_var (i := 0) rfl (.inl rfl)) (sE_fz sE_dnew))
  (sS_cons (s_fld (c := 0) (j := 2) rfl F.bench (F.noat 76 rfl) rfl (own_q rfl) (sE_var (i := 0) rfl (.inl rfl)) (sE_lst (m := true) sA_nil))
  (sS_cons (s_fld (c := 0) (j := 3) rfl F.bench (F.noat 77 rfl) rfl (own_q rfl) (sE_var (i := 0) rfl (.inl rfl)) (sE_lst (m := true) sA_nil))
  (sS_one (s_fld (c := 0) (j := 4) rfl F.bench (F.noat 78 rfl) rfl (own_q rfl) (sE_var (i := 0) rfl (.inl rfl)) sE_dnew)))))))
theorem sc_Bench_need_new : FnScope ["self", "name"] ["self", "name"] (defScope (mth 71 6)) := ⟨rfl, rfl, rfl, by decide +kernel, rfl, by decide +kernel, by decide +kernel⟩
theorem bd_Bench_need_new (F : Fx w K mg base) : Binds K (fdOf K (He.ma K (He.ga K "Bench") "need_new")) ["self", "name"] [] := FunD.bindsN (F.fun 46 rfl) (fun _ _ _ _ _ _ us hl => match us, hl with | [_, _], _ => rfl)
def F_Bench_need_new : FF := fDef 2 (sSeq (sIf (tOrF (tNotF (tOf (fCall 1 F_is_label (fCons (fVar 1) fNil)))) (tOf (f2 (dIn false) (fVar 1) (fFld 0 1 (fVar 0))))) (sRaise 1 5 (fVar 1)) sNil) (sRet (fVar 1)))
theorem ok_Bench_need_new (F : Fx w K mg base) : FnOk pw w K mg base (L2.CX pw w) 3 (He.ma K (He.ga K "Bench") "need_new") (fdOf K (He.ma K (He.ga K "Bench") "need_new")) ["self", "name"] (spF (Pk w K gh) 2 F_Bench_need_new) := fn_evD (k := 2) (N := ["self", "name"]) (ps := ["self", "name"]) (F.fun 46 rfl) sc_Bench_need_new fun cdv A outer s₀ H E hr =>
  (sS_cons (s_if (sT_w (sW_or (sT_not (sT_val (sE_call (ok_is_label F) tk_of (hr.mono (by decide)) rfl (F.glo 26 rfl) (F.fun 26 rfl).kp (bd_is_label F) (sA_cons (sE_var (i := 1) rfl (.inl rfl)) sA_nil)))) (sW_or1 (sT_cmp (oInA (rm_of hr)) (sE_var (i := 1) rfl (.inl rfl)) (sE_fld (c := 0) (j := 1) rfl F.bench (F.noat 75 rfl) rfl (own_q rfl) (sE_var (i := 0) rfl (.inl rfl))))))) (sS_one (s_raise (c := 1) (fl := 5) rfl tk_of rfl (et_BadName F).T (et_BadName F).iC (et_BadName F).tI (er_BadName F) rfl (hr.mono (by decide)) (eb_BadName F) rfl (F.glo 44 rfl) (sE_var (i := 1) rfl (.inl rfl)))) sS_nil)
  (sS_one (s_ret (sE_var (i := 1) rfl (.inl rfl)))))
end
end EK
end S_EkF
section S_EkG
/-! EkG: the program's defs, each by the rules. -/
namespace EK
open PySem PySem.Spec PyProof.Rows L2 Evl EV LamX
section
variable {w : World} {K : PySem.W.Frag} {mg : Str → Option Value} {base : Heap} {gh : G}
theorem sc_Bench_need_there : FnScope ["self", "name"] ["self", "name"] (defScope (mth 71 5)) := ⟨rfl, rfl, rfl, by decide +kernel, rfl, by decide +kernel, by decide +kernel⟩
theorem bd_Bench_need_there (F : Fx w K mg base) : Binds K (fdOf K (He.ma K (He.ga K "Bench") "need_there")) ["self", "name"] [] := FunD.bindsN (F.fun 45 rfl) (fun _ _ _ _ _ _ us hl => match us, hl with | [_, _], _ => rfl)
def F_Bench_need_there : FF := fDef 2 (sSeq (sIf (tOrF (tNotF (tOf (fCall 1 F_is_label (fCons (fVar 1) fNil)))) (tOf (f2 (dIn true) (fVar 1) (fFld 0 1 (fVar 0))))) (sRaise 1 5 (fVar 1)) sNil) (sRet (fVar 1)))
theorem ok_Bench_need_there (F : Fx w K mg base) : FnOk pw w K mg base (L2.CX pw w) 3 (He.ma K (He.ga K "Bench") "need_there") (fdOf K (He.ma K (He.ga K "Bench") "need_there")) ["self", "name"] (spF (Pk w K gh) 2 F_Bench_need_there) := fn_evD (k := 2) (N := ["self", "name"]) (ps := ["self", "name"]) (F.fun 45 rfl) sc_Bench_need_there fun cdv A outer s₀ H E hr =>
  (sS_cons (s_if (sT_w (sW_or (sT_not (sT_val (sE_call (ok_is_label F) tk_of (hr.mono (by decide)) rfl (F.glo 26 rfl) (F.fun 26 rfl).kp (bd_is_label F) (sA_cons (sE_var (i := 1) rfl (.inl rfl)) sA_nil)))) (sW_or1 (sT_cmp (oNotInA (rm_of hr)) (sE_var (i := 1) rfl (.inl rfl)) (sE_fld (c := 0) (j := 1) rfl F.bench (F.noat 75 rfl) rfl (own_q rfl) (sE_var (i := 0) rfl (.inl rfl))))))) (sS_one (s_raise (c := 1) (fl := 5) rfl tk_of rfl (et_BadName F).T (et_BadName F).iC (et_BadName F).tI (er_BadName F) rfl (hr.mono (by decide)) (eb_BadName F) rfl (F.glo 44 rfl) (sE_var (i := 1) rfl (.inl rfl)))) sS_nil)
  (sS_one (s_ret (sE_var (i := 1) rfl (.inl rfl)))))
theorem sc_Bench_edited : FnScope ["self", "edit", "word", "held", "near", "far", "body", "name", "one"] ["self", "edit"] (defScope (mth 71 9)) := ⟨rfl, rfl, rfl, by decide +kernel, rfl, by decide +kernel, by decide +kernel⟩
theorem bd_Bench_edited (F : Fx w K mg base) : Binds K (fdOf K (He.ma K (He.ga K "Bench") "edited")) ["self", "edit"] [] := FunD.bindsN (F.fun 49 rfl) (fun _ _ _ _ _ _ us hl => match us, hl with | [_, _], _ => rfl)
def F_Bench_edited : FF := fDef 9 (sSeq (sPar 2 3 (fCons (f2 dIx (fVar 1) (fC (.int 0))) (fCons (fB gDict (fCons (fFld 0 1 (fVar 0)) fNil)) fNil))) (sSeq (sIf (tOf (f2 dEqG (fVar 2) (fC (.str [112, 117, 116])))) (sSeq (sEx (fMeth 0 2 F_Bench_need_new (fVar 0) (fCons (f2 dIx (fVar 1) (fC (.int 1))) fNil))) (sSeq (sPut (fVar 3) (f2 dIx (fVar 1) (fC (.int 1))) (fCall 1 F_need_complex (fCons (f2 dIx (fVar 1) (fC (.int 2))) fNil))) (sRet (fVar 3)))) sNil) (sSeq (sIf (tOf (f2 dEqG (fVar 2) (fC (.str [106, 111, 105, 110])))) (sSeq (sEx (fMeth 0 2 F_Bench_need_new (fVar 0) (fCons (f2 dIx (fVar 1) (fC (.int 1))) fNil))) (sSeq (sAsg (gLs 2 (gsCons (gNm 4) (gsCons (gNm 5) gsNil))) (fLcx false [7] (iTp (fSlc false (fVar 1) (oSome (fC (.int 2))) oNo)) (gNm 7) (f2 dGet (fFld 0 1 (fVar 0)) (fMeth 0 2 F_Bench_need_there (fVar 0) (fCons (fVar 7) fNil))))) (sSeq (sPut (fVar 3) (f2 dIx (fVar 1) (fC (.int 1))) (fCall 2 F_joined_short (fCons (fVar 4) (fCons (fVar 5) fNil)))) (sRet (fVar 3))))) sNil) (sSeq (sSet 6 (f2 dGet (fFld 0 1 (fVar 0)) (fMeth 0 2 F_Bench_need_there (fVar 0) (fCons (f2 dIx (fVar 1) (fC (.int 1))) fNil)))) (sSeq (sIf (tOf (f2 dEqG (fVar 2) (fC (.str [110, 97, 109, 101])))) (sEx (fMeth 0 2 F_Bench_need_new (fVar 0) (fCons (f2 dIx (fVar 1) (fC (.int 2))) fNil))) sNil) (sSeq (sIf (tOf (f2 (dIn false) (fVar 2) (fTup (fCons (fC (.str [116, 97, 107, 101])) (fCons (fC (.str [110, 97, 109, 101])) fNil))))) (sSet 3 (fDc [7, 8] (iDi (fFz (fVar 3))) (gTp 2 (gsCons (gNm 7) (gsCons (gNm 8) gsNil))) (tOf (f2 dNeG (fVar 7) (f2 dIx (fVar 1) (fC (.int 1))))) (fVar 7) (fVar 8))) sNil) (sSeq (sIf (tOf (f2 dEqG (fVar 2) (fC (.str [110, 97, 109, 101])))) (sPut (fVar 3) (f2 dIx (fVar 1) (fC (.int 2))) (fVar 6)) (sIf (tOf (f2 dNeG (fVar 2) (fC (.str [116, 97, 107, 101])))) (sPut (fVar 3) (f2 dIx (fVar 1) (fC (.int 1))) (fCall 2 F_changed (fCons (fVar 6) (fCons (fVar 1) fNil)))) sNil)) (sRet (fVar 3)))))))))
theorem ok_Bench_edited (F : Fx w K mg base) : FnOk pw w K mg base (L2.CX pw w) 7 (He.ma K (He.ga K "Bench") "edited") (fdOf K (He.ma K (He.ga K "Bench") "edited")) ["self", "edit"] (spF (Pk w K gh) 2 F_Bench_edited) := fn_evD (k := 6) (N := ["self", "edit", "word", "held", "near", "far", "body", "name", "one"]) (ps := ["self", "edit"]) (F.fun 49 rfl) sc_Bench_edited fun cdv A outer s₀ H E hr =>
  (sS_cons (s_par rfl sc_Bench_edited.nd rfl rfl (by decide) rfl rfl (sA_cons (sE_ix (sE_var (i := 1) rfl (.inr (.inl rfl))) sE_int) (sA_cons (sE_bt cDict rfl (F.free 57 rfl) (by kernel_rfl) (sA_cons (sE_fld (c := 0) (j := 1) rfl F.bench (F.noat 75 rfl) rfl (own_q rfl) (sE_var (i := 0) rfl (.inr (.inl rfl)))) sA_nil)) sA_nil)) (by kernel_rfl))
  (sS_cons (s_if (sT_cmp (oEqG (rm_of hr)) (sE_var (i := 2) rfl (.inl rfl)) (sE_str (s := [112, 117, 116]))) (sS_cons (s_expr (sE_meth (c := 0) rfl (sE_var (i := 0) rfl (.inr (.inl rfl))) F.bench (F.meth 84 rfl) (fnm_ne (by decide +kernel) (by decide +kernel)) (ok_Bench_need_new F) tk_of (hr.mono (by decide)) (bd_Bench_need_new F) (sA_cons (sE_ix (sE_var (i := 1) rfl (.inr (.inl rfl))) sE_int) sA_nil)))
  (sS_cons (s_put (rm_of hr) (sE_var (i := 3) rfl (.inl rfl)) (sE_ix (sE_var (i := 1) rfl (.inr (.inl rfl))) sE_int) (sE_call (ok_need_complex F) tk_of (hr.mono (by decide)) rfl (F.glo 9 rfl) (F.fun 9 rfl).kp (bd_need_complex F) (sA_cons (sE_ix (sE_var (i := 1) rfl (.inr (.inl rfl))) sE_int) sA_nil)))
  (sS_one (s_ret (sE_var (i := 3) rfl (.inl rfl)))))) sS_nil)
  (sS_cons (s_if (sT_cmp (oEqG (rm_of hr)) (sE_var (i := 2) rfl (.inl rfl)) (sE_str (s := [106, 111, 105, 110]))) (sS_cons (s_expr (sE_meth (c := 0) rfl (sE_var (i := 0) rfl (.inr (.inl rfl))) F.bench (F.meth 84 rfl) (fnm_ne (by decide +kernel) (by decide +kernel)) (ok_Bench_need_new F) tk_of (hr.mono (by decide)) (bd_Bench_need_new F) (sA_cons (sE_ix (sE_var (i := 1) rfl (.inr (.inl rfl))) sE_int) sA_nil)))
  (sS_cons (s_asg (vs := [4, 5]) (sE_lcx (own := [("name", 7)]) (m := false) rfl rfl tk_of rfl sc_Bench_edited.nd (sI_tup (sE_slc (m := false) (sE_var (i := 1) rfl (.inr (.inl rfl))) (sO_some sE_int) sO_none)) (blkOk_by (by kernel_rfl)) (fun s H C cl fp xe tkx => (sG_name sc_Bench_edited.nd rfl (.inl rfl))) (fun s H C cl fp xe tkx => (sE_dget (rm_of hr) (sE_fld (c := 0) (j := 1) rfl F.bench (F.noat 75 rfl) rfl (own_q rfl) (sE_var (i := 0) rfl (.inr (.inl rfl)))) (sE_meth (c := 0) rfl (sE_var (i := 0) rfl (.inr (.inl rfl))) F.bench (F.meth 83 rfl) (fnm_ne (by decide +kernel) (by decide +kernel)) (ok_Bench_need_there F) tkx (hr.mono (by decide)) (bd_Bench_need_there F) (sA_cons (sE_var (i := 7) rfl (.inl rfl)) sA_nil))))) (sG_lst rfl (sGs_cons (sG_name sc_Bench_edited.nd rfl (.inl rfl)) (sGs_cons (sG_name sc_Bench_edited.nd rfl (.inl rfl)) sGs_nil))))
  (sS_cons (s_put (rm_of hr) (sE_var (i := 3) rfl (.inl rfl)) (sE_ix (sE_var (i := 1) rfl (.inr (.inl rfl))) sE_int) (sE_call (ok_joined_short F) tk_of (hr.mono (by decide)) rfl (F.glo 27 rfl) (F.fun 27 rfl).kp (bd_joined_short F) (sA_cons (sE_var (i := 4) rfl (.inl rfl)) (sA_cons (sE_var (i := 5) rfl (.inl rfl)) sA_nil))))
  (sS_one (s_ret (sE_var (i := 3) rfl (.inl rfl))))))) sS_nil)
  (sS_cons (s_set sc_Bench_edited.nd rfl (.inl rfl) (sE_dget (rm_of hr) (sE_fld (c := 0) (j := 1) rfl F.bench (F.noat 75 rfl) rfl (own_q rfl) (sE_var (i := 0) rfl (.inr (.inl rfl)))) (sE_meth (c := 0) rfl (sE_var (i := 0) rfl (.inr (.inl rfl))) F.bench (F.meth 83 rfl) (fnm_ne (by decide +kernel) (by decide +kernel)) (ok_Bench_need_there F) tk_of (hr.mono (by decide)) (bd_Bench_need_there F) (sA_cons (sE_ix (sE_var (i := 1) rfl (.inr (.inl rfl))) sE_int) sA_nil))))
  (sS_cons (s_if (sT_cmp (oEqG (rm_of hr)) (sE_var (i := 2) rfl (.inl rfl)) (sE_str (s := [110, 97, 109, 101]))) (sS_one (s_expr (sE_meth (c := 0) rfl (sE_var (i := 0) rfl (.inr (.inl rfl))) F.bench (F.meth 84 rfl) (fnm_ne (by decide +kernel) (by decide +kernel)) (ok_Bench_need_new F) tk_of (hr.mono (by decide)) (bd_Bench_need_new F) (sA_cons (sE_ix (sE_var (i := 1) rfl (.inr (.inl rfl))) sE_int) sA_nil)))) sS_nil)
  (sS_cons (s_if (sT_cmp (oInA (rm_of hr)) (sE_var (i := 2) rfl (.inl rfl)) (sE_tup (sA_cons (sE_str (s := [116, 97, 107, 101])) (sA_cons (sE_str (s := [110, 97, 109, 101])) sA_nil)))) (sS_one (s_setDc (own := [("name", 7), ("one", 8)]) (rm_of hr) rfl sc_Bench_edited.nd rfl rfl (sw_dict rfl rfl rfl (by kernel_rfl)) (sI_di (sE_fz (sE_var (i := 3) rfl (.inl rfl)))) (blkOk_by (by kernel_rfl)) (fun s H C cl fp => (sG_tup rfl (sGs_cons (sG_name sc_Bench_edited.nd rfl (.inl rfl)) (sGs_cons (sG_name sc_Bench_edited.nd rfl (.inl rfl)) sGs_nil)))) (fun s H C cl fp => (sTs_one (sT_cmp (oNeG (rm_of hr)) (sE_var (i := 7) rfl (.inl rfl)) (sE_ix (sE_var (i := 1) rfl (.inr (.inl rfl))) sE_int)))) (fun s H C cl fp => (sE_var (i := 7) rfl (.inl rfl))) (fun s H C cl fp => (sE_var (i := 8) rfl (.inl rfl))))) sS_nil)
  (sS_cons (s_if (sT_cmp (oEqG (rm_of hr)) (sE_var (i := 2) rfl (.inl rfl)) (sE_str (s := [110, 97, 109, 101]))) (sS_one (s_put (rm_of hr) (sE_var (i := 3) rfl (.inl rfl)) (sE_ix (sE_var (i := 1) rfl (.inr (.inl rfl))) sE_int) (sE_var (i := 6) rfl (.inl rfl)))) (sS_one (s_if (sT_cmp (oNeG (rm_of hr)) (sE_var (i := 2) rfl (.inl rfl)) (sE_str (s := [116, 97, 107, 101]))) (sS_one (s_put (rm_of hr) (sE_var (i := 3) rfl (.inl rfl)) (sE_ix (sE_var (i := 1) rfl (.inr (.inl rfl))) sE_int) (sE_call (ok_changed F) tk_of (hr.mono (by decide)) rfl (F.glo 28 rfl) (F.fun 28 rfl).kp (bd_changed F) (sA_cons (sE_var (i := 6) rfl (.inl rfl)) (sA_cons (sE_var (i := 1) rfl (.inr (.inl rfl))) sA_nil))))) sS_nil)))
  (sS_one (s_ret (sE_var (i := 3) rfl (.inl rfl)))))))))))
theorem sc_Bench_edit : FnScope ["self", "edit", "held"] ["self", "edit"] (defScope (mth 71 8)) := ⟨rfl, rfl, rfl, by decide +kernel, rfl, by decide +kernel, by decide +kernel⟩
theorem bd_Bench_edit (F : Fx w K mg base) : Binds K (fdOf K (He.ma K (He.ga K "Bench") "edit")) ["self", "edit"] [] := FunD.bindsN (F.fun 48 rfl) (fun _ _ _ _ _ _ us hl => match us, hl with | [_, _], _ => rfl)
theorem kb_Bench_edit (F : Fx w K mg base) : Kb K (fdOf K (He.ma K (He.ga K "Bench") "edit")) ["self", "edit"] 1 ["edit"] := by
  obtain ⟨oc, od, dV, kV, doc, pm, an, cdv, ct, osl, e, _, _, hD, _⟩ := (F.fun 48 rfl).ex
  rcases hD with ⟨_, z⟩ | ⟨z, _⟩
  · subst z
    have e : fdOf K (He.ma K (He.ga K "Bench") "edit") = _ := e
    rw [e]
    exact kb_of fun us ws h1 h2 => match us, ws, h1, h2 with | [_], [_], _, _ => rfl
  · exact absurd rfl z
def F_Bench_edit : FF := fDef 3 (sSeq (sIf (tOrF (tNotF (tOf (fIsi 4 (fVar 1)))) (tOrF (tOf (f2 dEqU (fVar 1) (fTup fNil))) (tNotF (tOf (fIsi 3 (f2 dIx (fVar 1) (fC (.int 0)))))))) (sRaise 0 5 (fVar 1)) sNil) (sSeq (sIf (tOrF (tOf (f2 (dKdN 0 kdT) (f2 dIx (fVar 1) (fC (.int 0))) (fC (.glo 0)))) (tOf (f2 dNeG (fB gLen (fCons (fVar 1) fNil)) (f2 (dAdd false) (fC (.int 1)) (f2 (dKdG 0 kdT) (fC (.glo 0)) (f2 dIx (fVar 1) (fC (.int 0)))))))) (sRaise 0 5 (fVar 1)) sNil) (sSeq (sSet 2 (fMeth 0 2 F_Bench_edited (fVar 0) (fCons (fVar 1) fNil))) (sSeq (sIf (tOf (f2 (dCmp fun i j => iLt j i) (fB gLen (fCons (fVar 2) fNil)) (fC (.int 12)))) (sRaise 5 7 (fC (.int 12))) sNil) (sSeq (sEx (fMl mApp (fFld 0 2 (fVar 0)) (fCons (fFld 0 1 (fVar 0)) fNil))) (sSeq (sFd 0 3 (fVar 0) (fLst true fNil)) (sFd 0 1 (fVar 0) (fFz (fVar 2)))))))))
theorem ok_Bench_edit (F : Fx w K mg base) : FnOk pw w K mg base (L2.CX pw w) 8 (He.ma K (He.ga K "Bench") "edit") (fdOf K (He.ma K (He.ga K "Bench") "edit")) ["self", "edit"] (spF (Pk w K gh) 2 F_Bench_edit) := fn_evD (k := 7) (N := ["self", "edit", "held"]) (ps := ["self", "edit"]) (F.fun 48 rfl) sc_Bench_edit fun cdv A outer s₀ H E hr =>
  (sS_cons (s_if (sT_w (sW_or (sT_not (sT_val (sE_isi (k := 4) rfl (by decide) rfl (F.free 50 rfl) rfl (F.free 55 rfl) (by kernel_rfl) (by decide) (by decide) (sE_var (i := 1) rfl (.inl rfl))))) (sW_or (sT_cmp (oEqU (rm_of hr)) (sE_var (i := 1) rfl (.inl rfl)) (sE_tup sA_nil)) (sW_or1 (sT_not (sT_val (sE_isi (k := 3) rfl (by decide) rfl (F.free 50 rfl) rfl (F.free 60 rfl) (by kernel_rfl) (by decide) (by decide) (sE_ix (sE_var (i := 1) rfl (.inl rfl)) sE_int)))))))) (sS_one (s_raise (c := 0) (fl := 5) rfl tk_of rfl (et_BadEdit F).T (et_BadEdit F).iC (et_BadEdit F).tI (er_BadEdit F) rfl (hr.mono (by decide)) (eb_BadEdit F) rfl (F.glo 43 rfl) (sE_var (i := 1) rfl (.inl rfl)))) sS_nil)
  (sS_cons (s_if (sT_w (sW_or (sT_cmp (oKdN F.kd) (sE_ix (sE_var (i := 1) rfl (.inl rfl)) sE_int) (sE_glo (n := 0) rfl (F.glo 41 rfl) rfl)) (sW_or1 (sT_cmp (oNeG (rm_of hr)) (sE_bf (cLen (rm_of hr)) rfl (F.free 51 rfl) (by kernel_rfl) (sA_cons (sE_var (i := 1) rfl (.inl rfl)) sA_nil)) (sE_op (oAdd (m := false)) sE_int (sE_kdg F.kd (sE_glo (n := 0) rfl (F.glo 41 rfl) rfl) (sE_ix (sE_var (i := 1) rfl (.inl rfl)) sE_int))))))) (sS_one (s_raise (c := 0) (fl := 5) rfl tk_of rfl (et_BadEdit F).T (et_BadEdit F).iC (et_BadEdit F).tI (er_BadEdit F) rfl (hr.mono (by decide)) (eb_BadEdit F) rfl (F.glo 43 rfl) (sE_var (i := 1) rfl (.inl rfl)))) sS_nil)
  (sS_cons (s_set sc_Bench_edit.nd rfl (.inl rfl) (sE_meth (c := 0) rfl (sE_var (i := 0) rfl (.inl rfl)) F.bench (F.meth 87 rfl) (fnm_ne (by decide +kernel) (by decide +kernel)) (ok_Bench_edited F) tk_of (hr.mono (by decide)) (bd_Bench_edited F) (sA_cons (sE_var (i := 1) rfl (.inl rfl)) sA_nil)))
  (sS_cons (s_if (sT_cmp oGt (sE_bf (cLen (rm_of hr)) rfl (F.free 51 rfl) (by kernel_rfl) (sA_cons (sE_var (i := 2) rfl (.inl rfl)) sA_nil)) (sE_gint (F.int 68 rfl) rfl)) (sS_one (s_raise (c := 5) (fl := 7) rfl tk_of rfl (et_TooGreat F).T (et_TooGreat F).iC (et_TooGreat F).tI (er_TooGreat F) rfl (hr.mono (by decide)) (eb_TooGreat F) rfl (F.glo 48 rfl) (sE_gint (F.int 68 rfl) rfl))) sS_nil)
  (sS_cons (s_expr (sE_lm rfl PySem.F.plainAttrs_list PySem.F.slot_list_append PySem.F.type_list_append meApp (sE_fld (c := 0) (j := 2) rfl F.bench (F.noat 76 rfl) rfl (own_q rfl) (sE_var (i := 0) rfl (.inl rfl))) (sA_cons (sE_fld (c := 0) (j := 1) rfl F.bench (F.noat 75 rfl) rfl (own_q rfl) (sE_var (i := 0) rfl (.inl rfl))) sA_nil)))
  (sS_cons (s_fld (c := 0) (j := 3) rfl F.bench (F.noat 77 rfl) rfl (own_q rfl) (sE_var (i := 0) rfl (.inl rfl)) (sE_lst (m := true) sA_nil))
  (sS_one (s_fld (c := 0) (j := 1) rfl F.bench (F.noat 75 rfl) rfl (own_q rfl) (sE_var (i := 0) rfl (.inl rfl)) (sE_fz (sE_var (i := 2) rfl (.inl rfl)))))))))))
theorem sc_Bench_put : FnScope ["self", "name", "body"] ["self", "name", "body"] (defScope (mth 71 10)) := ⟨rfl, rfl, rfl, by decide +kernel, rfl, by decide +kernel, by decide +kernel⟩
theorem bd_Bench_put (F : Fx w K mg base) : Binds K (fdOf K (He.ma K (He.ga K "Bench") "put")) ["self", "name", "body"] [] := FunD.bindsN (F.fun 50 rfl) (fun _ _ _ _ _ _ us hl => match us, hl with | [_, _, _], _ => rfl)
def F_Bench_put : FF := fDef 3 (sEx (fMeth 0 2 F_Bench_edit (fVar 0) (fCons (fTup (fCons (fC (.str [112, 117, 116])) (fCons (fVar 1) (fCons (fVar 2) fNil)))) fNil)))
theorem ok_Bench_put (F : Fx w K mg base) : FnOk pw w K mg base (L2.CX pw w) 9 (He.ma K (He.ga K "Bench") "put") (fdOf K (He.ma K (He.ga K "Bench") "put")) ["self", "name", "body"] (spF (Pk w K gh) 3 F_Bench_put) := fn_evD (k := 8) (N := ["self", "name", "body"]) (ps := ["self", "name", "body"]) (F.fun 50 rfl) sc_Bench_put fun cdv A outer s₀ H E hr =>
  (sS_one (s_expr (sE_meth (c := 0) rfl (sE_var (i := 0) rfl (.inl rfl)) F.bench (F.meth 86 rfl) (fnm_ne (by decide +kernel) (by decide +kernel)) (ok_Bench_edit F) tk_of (hr.mono (by decide)) (bd_Bench_edit F) (sA_cons (sE_tup (sA_cons (sE_str (s := [112, 117, 116])) (sA_cons (sE_var (i := 1) rfl (.inl rfl)) (sA_cons (sE_var (i := 2) rfl (.inl rfl)) sA_nil)))) sA_nil))))
theorem sc__law_some_bench : FnScope ["desk"] [] (defScope (top 78)) := ⟨rfl, rfl, rfl, by decide +kernel, rfl, by decide +kernel, by decide +kernel⟩
theorem bd__law_some_bench (F : Fx w K mg base) : Binds K (fdOf K (He.ga K "_law_some_bench")) [] [] := FunD.bindsN (F.fun 34 rfl) (fun _ _ _ _ _ _ us hl => match us, hl with | [], _ => rfl)
def F__law_some_bench : FF := fDef 1 (sSeq (sSet 0 (fMk 0 2 F_Bench___init__ (fCons (fC (.int 5)) fNil))) (sSeq (sEx (fMeth 0 3 F_Bench_put (fVar 0) (fCons (fC (.str [97])) (fCons (fTup (fCons (fC (.int 3)) (fCons (fTup (fCons (fTup (fCons (fC (.int 0)) (fCons (fC (.int 1)) fNil))) (fCons (fTup (fCons (fC (.int 2)) fNil)) fNil))) fNil))) fNil)))) (sSeq (sEx (fMeth 0 3 F_Bench_put (fVar 0) (fCons (fC (.str [98])) (fCons (fTup (fCons (fC (.int 2)) (fCons (fTup fNil) fNil))) fNil)))) (sSeq (sEx (fMeth 0 3 F_Bench_put (fVar 0) (fCons (fC (.str [102, 117, 108, 108])) (fCons (fTup (fCons (fC (.int 8)) (fCons (fTup (fCons (fTup (fCons (fC (.int 0)) fNil)) fNil)) fNil))) fNil)))) (sRet (fVar 0))))))
theorem ok__law_some_bench (F : Fx w K mg base) : FnOk pw w K mg base (L2.CX pw w) 10 (He.ga K "_law_some_bench") (fdOf K (He.ga K "_law_some_bench")) [] (spF (Pk w K gh) 0 F__law_some_bench) := fn_evD (k := 9) (N := ["desk"]) (ps := []) (F.fun 34 rfl) sc__law_some_bench fun cdv A outer s₀ H E hr =>
  (sS_cons (s_set sc__law_some_bench.nd rfl (.inl rfl) (sE_mk (c := 0) (F.mkr 73 rfl) (ok_Bench___init__ F) tk_of (hr.mono (by decide)) rfl (F.glo 40 rfl) (bd_Bench___init__ F) (sA_cons sE_int sA_nil)))
  (sS_cons (s_expr (sE_meth (c := 0) rfl (sE_var (i := 0) rfl (.inl rfl)) F.bench (F.meth 88 rfl) (fnm_ne (by decide +kernel) (by decide +kernel)) (ok_Bench_put F) tk_of (hr.mono (by decide)) (bd_Bench_put F) (sA_cons (sE_str (s := [97])) (sA_cons (sE_tup (sA_cons sE_int (sA_cons (sE_tup (sA_cons (sE_tup (sA_cons sE_int (sA_cons sE_int sA_nil))) (sA_cons (sE_tup (sA_cons sE_int sA_nil)) sA_nil))) sA_nil))) sA_nil))))
  (sS_cons (s_expr (sE_meth (c := 0) rfl (sE_var (i := 0) rfl (.inl rfl)) F.bench (F.meth 88 rfl) (fnm_ne (by decide +kernel) (by decide +kernel)) (ok_Bench_put F) tk_of (hr.mono (by decide)) (bd_Bench_put F) (sA_cons (sE_str (s := [98])) (sA_cons (sE_tup (sA_cons sE_int (sA_cons (sE_tup sA_nil) sA_nil))) sA_nil))))
  (sS_cons (s_expr (sE_meth (c := 0) rfl (sE_var (i := 0) rfl (.inl rfl)) F.bench (F.meth 88 rfl) (fnm_ne (by decide +kernel) (by decide +kernel)) (ok_Bench_put F) tk_of (hr.mono (by decide)) (bd_Bench_put F) (sA_cons (sE_str (s := [102, 117, 108, 108])) (sA_cons (sE_tup (sA_cons sE_int (sA_cons (sE_tup (sA_cons (sE_tup (sA_cons sE_int sA_nil)) sA_nil)) sA_nil))) sA_nil))))
  (sS_one (s_ret (sE_var (i := 0) rfl (.inl rfl))))))))
theorem sc__law_rows : FnScope ["m", "odd", "spoilt", "more", "rows", "lot_so", "value", "kind_so"] ["m"] (defScope (top 79)) := ⟨rfl, rfl, rfl, by decide +kernel, rfl, by decide +kernel, by decide +kernel⟩
theorem bd__law_rows (F : Fx w K mg base) : Binds K (fdOf K (He.ga K "_law_rows")) ["m"] [] := FunD.bindsN (F.fun 35 rfl) (fun _ _ _ _ _ _ us hl => match us, hl with | [_], _ => rfl)
def st__law_rows_0 : FS := (sSet 1 (fCall 2 F__law_of (fCons (fVar 0) (fCons (fLst false (fCons (fC .non) (fCons (fC (.int 5)) (fCons (fC (.str [])) (fCons (fC (.str [65])) (fCons (fC (.str [97, 49])) (fCons (fC (.str [110, 105, 110, 101, 108, 111, 110, 103, 115])) (fCons (fTup (fCons (fC (.str [97])) fNil)) (fCons (fC (.bl true)) (fCons (fLst false (fCons (fC (.str [97])) fNil)) (fCons (fFz fDnew) (fCons (fC (.str [97, 10])) (fCons (fC (.str [10, 97])) (fCons (fC (.str [97, 32, 98])) (fCons (fC (.str [97, 95])) (fCons (fC (.str [97, 66])) fNil)))))))))))))))) fNil))))
def st__law_rows_1 : FS := (sSet 2 (fCall 2 F__law_of (fCons (fVar 0) (fCons (fLst false (fCons (fTup (fCons (fC .non) (fCons (fTup fNil) fNil))) (fCons (fTup (fCons (fLst false (fCons (fC (.int 2)) (fCons (fTup fNil) fNil))) (fCons (fTup fNil) fNil))) (fCons (fTup (fCons (fTup (fCons (fC (.int 0)) (fCons (fTup fNil) fNil))) (fCons (fTup (fCons (fC (.int 0)) fNil)) fNil))) (fCons (fTup (fCons (fTup (fCons (fC (.int 11)) (fCons (fTup fNil) fNil))) (fCons (fTup (fCons (fC (.int 0)) fNil)) fNil))) (fCons (fTup (fCons (fTup (fCons (fC (.bl true)) (fCons (fTup fNil) fNil))) (fCons (fTup (fCons (fC (.int 0)) fNil)) fNil))) (fCons (fTup (fCons (fTup (fCons (fC (.int 2)) (fCons (fLst false (fCons (fTup fNil) fNil)) fNil))) (fCons (fTup (fCons (fC (.int 1)) fNil)) fNil))) fNil))))))) fNil))))
def st__law_rows_2 : FS := (sSet 3 (fCall 2 F__law_of (fCons (fVar 0) (fCons (fLst false (fCons (fTup (fCons (fTup (fCons (fC (.int 2)) (fCons (fTup (fCons (fTup (fCons (fC (.int 0)) fNil)) (fCons (fTup (fCons (fC (.int 0)) (fCons (fC (.int 1)) fNil))) fNil))) fNil))) (fCons (fTup (fCons (fC (.int 1)) (fCons (fC (.int 1)) fNil))) fNil))) (fCons (fTup (fCons (fTup (fCons (fC (.int 2)) (fCons (fTup (fCons (fTup (fCons (fC (.int 1)) fNil)) (fCons (fTup (fCons (fC (.int 0)) fNil)) fNil))) fNil))) (fCons (fTup (fCons (fC (.int 1)) (fCons (fC (.int 1)) fNil))) fNil))) (fCons (fTup (fCons (fTup (fCons (fC (.int 2)) (fCons (fTup (fCons (fTup (fCons (fC (.int 2)) fNil)) fNil)) fNil))) (fCons (fTup (fCons (fC (.int 1)) (fCons (fC (.int 0)) fNil))) fNil))) (fCons (fTup (fCons (fTup (fCons (fC (.int 2)) (fCons (fTup (fCons (fTup (fCons (fC (.int 0)) (fCons (fC (.int 0)) fNil))) fNil)) fNil))) (fCons (fTup (fCons (fC (.int 1)) (fCons (fC (.int 0)) fNil))) fNil))) fNil))))) fNil))))
def st__law_rows_3 : FS := (sSet 4 (fLc false [6] (iTp (fTup (fCons (fC .non) (fCons (fTup fNil) (fCons (fC (.str [112, 117, 116])) (fCons (fTup (fCons (fC (.str [80, 117, 116])) (fCons (fC (.str [99])) (fCons (fC .non) fNil)))) (fCons (fTup (fCons (fC (.str [112, 117, 116])) (fCons (fC (.str [99])) fNil))) (fCons (fLst false (fCons (fC (.str [116, 97, 107, 101])) (fCons (fC (.str [97])) fNil))) fNil)))))))) (gNm 6) tYesF (fTup (fCons (fVar 6) (fCons (fTup (fCons (fC (.str [101, 100, 105, 116])) (fCons (fVar 6) fNil))) fNil)))))
def st__law_rows_4 : FS := (sSet 4 (f2 (dAdd false) (fVar 4) (fLst false (fCons (fTup (fCons (fTup (fCons (fC (.str [116, 97, 107, 101])) (fCons (fC (.str [97])) (fCons (fC (.str [98])) fNil)))) (fCons (fTup (fCons (fC (.str [101, 100, 105, 116])) (fCons (fTup (fCons (fC (.str [116, 97, 107, 101])) (fCons (fC (.str [97])) (fCons (fC (.str [98])) fNil)))) fNil))) fNil))) (fCons (fTup (fCons (fTup (fCons (fLst false (fCons (fC (.str [116, 97, 107, 101])) fNil)) (fCons (fC (.str [97])) fNil))) (fCons (fTup (fCons (fC (.str [101, 100, 105, 116])) (fCons (fTup (fCons (fLst false (fCons (fC (.str [116, 97, 107, 101])) fNil)) (fCons (fC (.str [97])) fNil))) fNil))) fNil))) fNil)))))
def st__law_rows_5 : FS := (sSet 4 (f2 (dAdd false) (fVar 4) (fLst false (fCons (fTup (fCons (fTup (fCons (fC (.str [111, 118, 101, 114])) (fCons (fC (.str [97])) (fCons (fC (.int 1)) fNil)))) (fCons (fTup (fCons (fC (.str [101, 100, 105, 116])) (fCons (fTup (fCons (fC (.str [111, 118, 101, 114])) (fCons (fC (.str [97])) (fCons (fC (.int 1)) fNil)))) fNil))) fNil))) (fCons (fTup (fCons (fTup (fCons (fC (.str [106, 111, 105, 110])) (fCons (fC (.str [99])) (fCons (fC (.str [97])) fNil)))) (fCons (fTup (fCons (fC (.str [101, 100, 105, 116])) (fCons (fTup (fCons (fC (.str [106, 111, 105, 110])) (fCons (fC (.str [99])) (fCons (fC (.str [97])) fNil)))) fNil))) fNil))) fNil)))))
def st__law_rows_6 : FS := (sSet 4 (f2 (dAdd false) (fVar 4) (fLst false (fCons (fTup (fCons (fTup (fCons (fC (.str [112, 117, 116])) (fCons (fVar 1) (fCons (fC .non) fNil)))) (fCons (fTup (fCons (fC (.str [110, 97, 109, 101])) (fCons (fVar 1) fNil))) fNil))) (fCons (fTup (fCons (fTup (fCons (fC (.str [112, 117, 116])) (fCons (fC (.str [97])) (fCons (fC .non) fNil)))) (fCons (fTup (fCons (fC (.str [110, 97, 109, 101])) (fCons (fC (.str [97])) fNil))) fNil))) (fCons (fTup (fCons (fTup (fCons (fC (.str [112, 117, 116])) (fCons (fC (.str [99])) (fCons (f2 dIx (fVar 2) (fC (.int 0))) fNil)))) (fCons (fTup (fCons (fC (.str [99, 111, 109, 112, 108, 101, 120])) (fCons (f2 dIx (fVar 2) (fC (.int 1))) fNil))) fNil))) fNil))))))
def st__law_rows_7 : FS := (sSet 4 (f2 (dAdd false) (fVar 4) (fLst false (fCons (fTup (fCons (fTup (fCons (fC (.str [112, 117, 116])) (fCons (fC (.str [99])) (fCons (f2 dIx (fVar 3) (fC (.int 0))) fNil)))) (fCons (fTup (fCons (fC (.str [99, 111, 109, 112, 108, 101, 120])) (fCons (f2 dIx (fVar 3) (fC (.int 1))) fNil))) fNil))) (fCons (fTup (fCons (fTup (fCons (fC (.str [116, 97, 107, 101])) (fCons (fC (.str [99])) fNil))) (fCons (fTup (fCons (fC (.str [110, 97, 109, 101])) (fCons (fC (.str [99])) fNil))) fNil))) (fCons (fTup (fCons (fTup (fCons (fC (.str [116, 97, 107, 101])) (fCons (fVar 1) fNil))) (fCons (fTup (fCons (fC (.str [110, 97, 109, 101])) (fCons (fVar 1) fNil))) fNil))) fNil))))))
def st__law_rows_8 : FS := (sSet 4 (f2 (dAdd false) (fVar 4) (fLst false (fCons (fTup (fCons (fTup (fCons (fC (.str [110, 97, 109, 101])) (fCons (fC (.str [99])) (fCons (fC (.str [97])) fNil)))) (fCons (fTup (fCons (fC (.str [110, 97, 109, 101])) (fCons (fC (.str [99])) fNil))) fNil))) (fCons (fTup (fCons (fTup (fCons (fC (.str [110, 97, 109, 101])) (fCons (fC (.str [97])) (fCons (fC (.str [98])) fNil)))) (fCons (fTup (fCons (fC (.str [110, 97, 109, 101])) (fCons (fC (.str [98])) fNil))) fNil))) (fCons (fTup (fCons (fTup (fCons (fC (.str [110, 97, 109, 101])) (fCons (fC (.str [97])) (fCons (fVar 1) fNil)))) (fCons (fTup (fCons (fC (.str [110, 97, 109, 101])) (fCons (fVar 1) fNil))) fNil))) fNil))))))
def st__law_rows_9 : FS := (sSet 4 (f2 (dAdd false) (f2 (dAdd false) (fVar 4) (fLc false [7] (iTp (fTup (fCons (fC (.str [102, 97, 99, 101])) (fCons (fC (.str [99, 117, 116])) (fCons (fC (.str [108, 105, 110, 107])) fNil))))) (gNm 7) tYesF (fTup (fCons (fTup (fCons (fVar 7) (fCons (fC (.str [99])) (fCons (fC .non) fNil)))) (fCons (fTup (fCons (fC (.str [110, 97, 109, 101])) (fCons (fC (.str [99])) fNil))) fNil))))) (fLst false (fCons (fTup (fCons (fTup (fCons (fC (.str [111, 118, 101, 114])) (fCons (fC (.str [99])) fNil))) (fCons (fTup (fCons (fC (.str [110, 97, 109, 101])) (fCons (fC (.str [99])) fNil))) fNil))) fNil))))
def st__law_rows_10 : FS := (sSet 4 (f2 (dAdd false) (fVar 4) (fLst false (fCons (fTup (fCons (fTup (fCons (fC (.str [106, 111, 105, 110])) (fCons (fC (.str [97])) (fCons (fC (.str [99])) (fCons (fC (.str [100])) fNil))))) (fCons (fTup (fCons (fC (.str [110, 97, 109, 101])) (fCons (fC (.str [97])) fNil))) fNil))) (fCons (fTup (fCons (fTup (fCons (fC (.str [106, 111, 105, 110])) (fCons (fC (.str [99])) (fCons (fC (.str [100])) (fCons (fC (.str [97])) fNil))))) (fCons (fTup (fCons (fC (.str [110, 97, 109, 101])) (fCons (fC (.str [100])) fNil))) fNil))) (fCons (fTup (fCons (fTup (fCons (fC (.str [106, 111, 105, 110])) (fCons (fC (.str [99])) (fCons (fC (.str [97])) (fCons (fVar 1) fNil))))) (fCons (fTup (fCons (fC (.str [110, 97, 109, 101])) (fCons (fVar 1) fNil))) fNil))) fNil))))))
def st__law_rows_11 : FS := (sSet 4 (f2 (dAdd false) (fVar 4) (fLst false (fCons (fTup (fCons (fTup (fCons (fC (.str [106, 111, 105, 110])) (fCons (fC (.str [99])) (fCons (fC (.str [97])) (fCons (fC (.str [102, 117, 108, 108])) fNil))))) (fCons (fTup (fCons (fC (.str [103, 114, 101, 97, 116])) (fCons (fC (.int 10)) fNil))) fNil))) (fCons (fTup (fCons (fTup (fCons (fC (.str [106, 111, 105, 110])) (fCons (fC (.str [99])) (fCons (fC (.str [102, 117, 108, 108])) (fCons (fC (.str [102, 117, 108, 108])) fNil))))) (fCons (fTup (fCons (fC (.str [103, 114, 101, 97, 116])) (fCons (fC (.int 10)) fNil))) fNil))) fNil)))))
def st__law_rows_12 : FS := (sSet 5 (fCall 2 F__law_of (fCons (fVar 0) (fCons (fLst false (fCons (fC .non) (fCons (fTup (fCons (fC (.int 3)) fNil)) (fCons (fTup (fCons (fC (.int 1)) (fCons (fC (.int 0)) fNil))) (fCons (fTup (fCons (fC (.int 0)) (fCons (fC (.int 0)) fNil))) (fCons (fLst false (fCons (fC (.int 0)) fNil)) (fCons (fTup (fCons (fC (.bl true)) fNil)) (fCons (fTup (fCons (fNeg (fC (.int 1))) fNil)) (fCons (fC (.int 0)) (fCons (fC (.str [48])) (fCons (fTup (fCons (fC .non) fNil)) (fCons (fTup (fCons (fC (.int 0)) (fCons (fC (.int 1)) (fCons (fC (.int 2)) (fCons (fC (.int 3)) fNil))))) fNil)))))))))))) fNil))))
def st__law_rows_13 : FS := (sSet 4 (f2 (dAdd false) (fVar 4) (fLst false (fCons (fTup (fCons (fTup (fCons (fC (.str [102, 97, 99, 101])) (fCons (fC (.str [97])) (fCons (fVar 5) fNil)))) (fCons (fTup (fCons (fC (.str [102, 97, 99, 101])) (fCons (fVar 5) fNil))) fNil))) (fCons (fTup (fCons (fTup (fCons (fC (.str [99, 117, 116])) (fCons (fC (.str [97])) (fCons (fVar 5) fNil)))) (fCons (fTup (fCons (fC (.str [102, 97, 99, 101])) (fCons (fVar 5) fNil))) fNil))) (fCons (fTup (fCons (fTup (fCons (fC (.str [108, 105, 110, 107])) (fCons (fC (.str [97])) (fCons (fVar 5) fNil)))) (fCons (fTup (fCons (fC (.str [102, 97, 99, 101])) (fCons (fVar 5) fNil))) fNil))) fNil))))))
def st__law_rows_14 : FS := (sRet (f2 (dAdd false) (fVar 4) (fLst false (fCons (fTup (fCons (fTup (fCons (fC (.str [102, 97, 99, 101])) (fCons (fC (.str [98])) (fCons (fTup (fCons (fC (.int 2)) fNil)) fNil)))) (fCons (fTup (fCons (fC (.str [102, 97, 99, 101])) (fCons (fTup (fCons (fC (.int 2)) fNil)) fNil))) fNil))) (fCons (fTup (fCons (fTup (fCons (fC (.str [110, 97, 109, 101])) (fCons (fVar 1) (fCons (fVar 1) fNil)))) (fCons (fTup (fCons (fC (.str [110, 97, 109, 101])) (fCons (fVar 1) fNil))) fNil))) fNil)))))
def F__law_rows : FF := fDef 8 (sSeq st__law_rows_0 (sSeq st__law_rows_1 (sSeq st__law_rows_2 (sSeq st__law_rows_3 (sSeq st__law_rows_4 (sSeq st__law_rows_5 (sSeq st__law_rows_6 (sSeq st__law_rows_7 (sSeq st__law_rows_8 (sSeq st__law_rows_9 (sSeq st__law_rows_10 (sSeq st__law_rows_11 (sSeq st__law_rows_12 (sSeq st__law_rows_13 st__law_rows_14))))))))))))))
theorem ok__law_rows (F : Fx w K mg base) : FnOk pw w K mg base (L2.CX pw w) 3 (He.ga K "_law_rows") (fdOf K (He.ga K "_law_rows")) ["m"] (spF (Pk w K gh) 1 F__law_rows) := fn_evD (k := 2) (N := ["m", "odd", "spoilt", "more", "rows", "lot_so", "value", "kind_so"]) (ps := ["m"]) (F.fun 35 rfl) sc__law_rows fun cdv A outer s₀ H E hr =>
  (sS_cons (s_set sc__law_rows.nd rfl (.inl rfl) (sE_call (ok__law_of F) tk_of (hr.mono (by decide)) rfl (F.glo 31 rfl) (F.fun 31 rfl).kp (bd__law_of F) (sA_cons (sE_var (i := 0) rfl (.inl rfl)) (sA_cons (sE_lst (m := false) (sA_cons sE_non (sA_cons sE_int (sA_cons (sE_str (s := [])) (sA_cons (sE_str (s := [65])) (sA_cons (sE_str (s := [97, 49])) (sA_cons (sE_str (s := [110, 105, 110, 101, 108, 111, 110, 103, 115])) (sA_cons (sE_tup (sA_cons (sE_str (s := [97])) sA_nil)) (sA_cons sE_bl (sA_cons (sE_lst (m := false) (sA_cons (sE_str (s := [97])) sA_nil)) (sA_cons (sE_fz sE_dnew) (sA_cons (sE_str (s := [97, 10])) (sA_cons (sE_str (s := [10, 97])) (sA_cons (sE_str (s := [97, 32, 98])) (sA_cons (sE_str (s := [97, 95])) (sA_cons (sE_str (s := [97, 66])) sA_nil)))))))))))))))) sA_nil))))
  (sS_cons (s_set sc__law_rows.nd rfl (.inl rfl) (sE_call (ok__law_of F) tk_of (hr.mono (by decide)) rfl (F.glo 31 rfl) (F.fun 31 rfl).kp (bd__law_of F) (sA_cons (sE_var (i := 0) rfl (.inl rfl)) (sA_cons (sE_lst (m := false) (sA_cons (sE_tup (sA_cons sE_non (sA_cons (sE_tup sA_nil) sA_nil))) (sA_cons (sE_tup (sA_cons (sE_lst (m := false) (sA_cons sE_int (sA_cons (sE_tup sA_nil) sA_nil))) (sA_cons (sE_tup sA_nil) sA_nil))) (sA_cons (sE_tup (sA_cons (sE_tup (sA_cons sE_int (sA_cons (sE_tup sA_nil) sA_nil))) (sA_cons (sE_tup (sA_cons sE_int sA_nil)) sA_nil))) (sA_cons (sE_tup (sA_cons (sE_tup (sA_cons sE_int (sA_cons (sE_tup sA_nil) sA_nil))) (sA_cons (sE_tup (sA_cons sE_int sA_nil)) sA_nil))) (sA_cons (sE_tup (sA_cons (sE_tup (sA_cons sE_bl (sA_cons (sE_tup sA_nil) sA_nil))) (sA_cons (sE_tup (sA_cons sE_int sA_nil)) sA_nil))) (sA_cons (sE_tup (sA_cons (sE_tup (sA_cons sE_int (sA_cons (sE_lst (m := false) (sA_cons (sE_tup sA_nil) sA_nil)) sA_nil))) (sA_cons (sE_tup (sA_cons sE_int sA_nil)) sA_nil))) sA_nil))))))) sA_nil))))
  (sS_cons (s_set sc__law_rows.nd rfl (.inl rfl) (sE_call (ok__law_of F) tk_of (hr.mono (by decide)) rfl (F.glo 31 rfl) (F.fun 31 rfl).kp (bd__law_of F) (sA_cons (sE_var (i := 0) rfl (.inl rfl)) (sA_cons (sE_lst (m := false) (sA_cons (sE_tup (sA_cons (sE_tup (sA_cons sE_int (sA_cons (sE_tup (sA_cons (sE_tup (sA_cons sE_int sA_nil)) (sA_cons (sE_tup (sA_cons sE_int (sA_cons sE_int sA_nil))) sA_nil))) sA_nil))) (sA_cons (sE_tup (sA_cons sE_int (sA_cons sE_int sA_nil))) sA_nil))) (sA_cons (sE_tup (sA_cons (sE_tup (sA_cons sE_int (sA_cons (sE_tup (sA_cons (sE_tup (sA_cons sE_int sA_nil)) (sA_cons (sE_tup (sA_cons sE_int sA_nil)) sA_nil))) sA_nil))) (sA_cons (sE_tup (sA_cons sE_int (sA_cons sE_int sA_nil))) sA_nil))) (sA_cons (sE_tup (sA_cons (sE_tup (sA_cons sE_int (sA_cons (sE_tup (sA_cons (sE_tup (sA_cons sE_int sA_nil)) sA_nil)) sA_nil))) (sA_cons (sE_tup (sA_cons sE_int (sA_cons sE_int sA_nil))) sA_nil))) (sA_cons (sE_tup (sA_cons (sE_tup (sA_cons sE_int (sA_cons (sE_tup (sA_cons (sE_tup (sA_cons sE_int (sA_cons sE_int sA_nil))) sA_nil)) sA_nil))) (sA_cons (sE_tup (sA_cons sE_int (sA_cons sE_int sA_nil))) sA_nil))) sA_nil))))) sA_nil))))
  (sS_cons (s_setLc (own := [("value", 6)]) (m := false) rfl sc__law_rows.nd rfl rfl (sw_true rfl rfl rfl (by kernel_rfl)) (sI_tup (sE_tup (sA_cons sE_non (sA_cons (sE_tup sA_nil) (sA_cons (sE_str (s := [112, 117, 116])) (sA_cons (sE_tup (sA_cons (sE_str (s := [80, 117, 116])) (sA_cons (sE_str (s := [99])) (sA_cons sE_non sA_nil)))) (sA_cons (sE_tup (sA_cons (sE_str (s := [112, 117, 116])) (sA_cons (sE_str (s := [99])) sA_nil))) (sA_cons (sE_lst (m := false) (sA_cons (sE_str (s := [116, 97, 107, 101])) (sA_cons (sE_str (s := [97])) sA_nil))) sA_nil)))))))) (blkOk_by (by kernel_rfl)) (fun s H C cl fp => (sG_name sc__law_rows.nd rfl (.inl rfl))) (fun s H C cl fp => sTs_nil) (fun s H C cl fp => (sE_tup (sA_cons (sE_var (i := 6) rfl (.inl rfl)) (sA_cons (sE_tup (sA_cons (sE_str (s := [101, 100, 105, 116])) (sA_cons (sE_var (i := 6) rfl (.inl rfl)) sA_nil))) sA_nil)))))
  (sS_cons (s_set sc__law_rows.nd rfl (.inl rfl) (sE_op (oAdd (m := false)) (sE_var (i := 4) rfl (.inl rfl)) (sE_lst (m := false) (sA_cons (sE_tup (sA_cons (sE_tup (sA_cons (sE_str (s := [116, 97, 107, 101])) (sA_cons (sE_str (s := [97])) (sA_cons (sE_str (s := [98])) sA_nil)))) (sA_cons (sE_tup (sA_cons (sE_str (s := [101, 100, 105, 116])) (sA_cons (sE_tup (sA_cons (sE_str (s := [116, 97, 107, 101])) (sA_cons (sE_str (s := [97])) (sA_cons (sE_str (s := [98])) sA_nil)))) sA_nil))) sA_nil))) (sA_cons (sE_tup (sA_cons (sE_tup (sA_cons (sE_lst (m := false) (sA_cons (sE_str (s := [116, 97, 107, 101])) sA_nil)) (sA_cons (sE_str (s := [97])) sA_nil))) (sA_cons (sE_tup (sA_cons (sE_str (s := [101, 100, 105, 116])) (sA_cons (sE_tup (sA_cons (sE_lst (m := false) (sA_cons (sE_str (s := [116, 97, 107, 101])) sA_nil)) (sA_cons (sE_str (s := [97])) sA_nil))) sA_nil))) sA_nil))) sA_nil)))))
  (sS_cons (s_set sc__law_rows.nd rfl (.inl rfl) (sE_op (oAdd (m := false)) (sE_var (i := 4) rfl (.inl rfl)) (sE_lst (m := false) (sA_cons (sE_tup (sA_cons (sE_tup (sA_cons (sE_str (s := [111, 118, 101, 114])) (sA_cons (sE_str (s := [97])) (sA_cons sE_int sA_nil)))) (sA_cons (sE_tup (sA_cons (sE_str (s := [101, 100, 105, 116])) (sA_cons (sE_tup (sA_cons (sE_str (s := [111, 118, 101, 114])) (sA_cons (sE_str (s := [97])) (sA_cons sE_int sA_nil)))) sA_nil))) sA_nil))) (sA_cons (sE_tup (sA_cons (sE_tup (sA_cons (sE_str (s := [106, 111, 105, 110])) (sA_cons (sE_str (s := [99])) (sA_cons (sE_str (s := [97])) sA_nil)))) (sA_cons (sE_tup (sA_cons (sE_str (s := [101, 100, 105, 116])) (sA_cons (sE_tup (sA_cons (sE_str (s := [106, 111, 105, 110])) (sA_cons (sE_str (s := [99])) (sA_cons (sE_str (s := [97])) sA_nil)))) sA_nil))) sA_nil))) sA_nil)))))
  (sS_cons (s_set sc__law_rows.nd rfl (.inl rfl) (sE_op (oAdd (m := false)) (sE_var (i := 4) rfl (.inl rfl)) (sE_lst (m := false) (sA_cons (sE_tup (sA_cons (sE_tup (sA_cons (sE_str (s := [112, 117, 116])) (sA_cons (sE_var (i := 1) rfl (.inl rfl)) (sA_cons sE_non sA_nil)))) (sA_cons (sE_tup (sA_cons (sE_str (s := [110, 97, 109, 101])) (sA_cons (sE_var (i := 1) rfl (.inl rfl)) sA_nil))) sA_nil))) (sA_cons (sE_tup (sA_cons (sE_tup (sA_cons (sE_str (s := [112, 117, 116])) (sA_cons (sE_str (s := [97])) (sA_cons sE_non sA_nil)))) (sA_cons (sE_tup (sA_cons (sE_str (s := [110, 97, 109, 101])) (sA_cons (sE_str (s := [97])) sA_nil))) sA_nil))) (sA_cons (sE_tup (sA_cons (sE_tup (sA_cons (sE_str (s := [112, 117, 116])) (sA_cons (sE_str (s := [99])) (sA_cons (sE_ix (sE_var (i := 2) rfl (.inl rfl)) sE_int) sA_nil)))) (sA_cons (sE_tup (sA_cons (sE_str (s := [99, 111, 109, 112, 108, 101, 120])) (sA_cons (sE_ix (sE_var (i := 2) rfl (.inl rfl)) sE_int) sA_nil))) sA_nil))) sA_nil))))))
  (sS_cons (s_set sc__law_rows.nd rfl (.inl rfl) (sE_op (oAdd (m := false)) (sE_var (i := 4) rfl (.inl rfl)) (sE_lst (m := false) (sA_cons (sE_tup (sA_cons (sE_tup (sA_cons (sE_str (s := [112, 117, 116])) (sA_cons (sE_str (s := [99])) (sA_cons (sE_ix (sE_var (i := 3) rfl (.inl rfl)) sE_int) sA_nil)))) (sA_cons (sE_tup (sA_cons (sE_str (s := [99, 111, 109, 112, 108, 101, 120])) (sA_cons (sE_ix (sE_var (i := 3) rfl (.inl rfl)) sE_int) sA_nil))) sA_nil))) (sA_cons (sE_tup (sA_cons (sE_tup (sA_cons (sE_str (s := [116, 97, 107, 101])) (sA_cons (sE_str (s := [99])) sA_nil))) (sA_cons (sE_tup (sA_cons (sE_str (s := [110, 97, 109, 101])) (sA_cons (sE_str (s := [99])) sA_nil))) sA_nil))) (sA_cons (sE_tup (sA_cons (sE_tup (sA_cons (sE_str (s := [116, 97, 107, 101])) (sA_cons (sE_var (i := 1) rfl (.inl rfl)) sA_nil))) (sA_cons (sE_tup (sA_cons (sE_str (s := [110, 97, 109, 101])) (sA_cons (sE_var (i := 1) rfl (.inl rfl)) sA_nil))) sA_nil))) sA_nil))))))
  (sS_cons (s_set sc__law_rows.nd rfl (.inl rfl) (sE_op (oAdd (m := false)) (sE_var (i := 4) rfl (.inl rfl)) (sE_lst (m := false) (sA_cons (sE_tup (sA_cons (sE_tup (sA_cons (sE_str (s := [110, 97, 109, 101])) (sA_cons (sE_str (s := [99])) (sA_cons (sE_str (s := [97])) sA_nil)))) (sA_cons (sE_tup (sA_cons (sE_str (s := [110, 97, 109, 101])) (sA_cons (sE_str (s := [99])) sA_nil))) sA_nil))) (sA_cons (sE_tup (sA_cons (sE_tup (sA_cons (sE_str (s := [110, 97, 109, 101])) (sA_cons (sE_str (s := [97])) (sA_cons (sE_str (s := [98])) sA_nil)))) (sA_cons (sE_tup (sA_cons (sE_str (s := [110, 97, 109, 101])) (sA_cons (sE_str (s := [98])) sA_nil))) sA_nil))) (sA_cons (sE_tup (sA_cons (sE_tup (sA_cons (sE_str (s := [110, 97, 109, 101])) (sA_cons (sE_str (s := [97])) (sA_cons (sE_var (i := 1) rfl (.inl rfl)) sA_nil)))) (sA_cons (sE_tup (sA_cons (sE_str (s := [110, 97, 109, 101])) (sA_cons (sE_var (i := 1) rfl (.inl rfl)) sA_nil))) sA_nil))) sA_nil))))))
  (sS_cons (s_set sc__law_rows.nd rfl (.inl rfl) (sE_op (oAdd (m := false)) (sE_op (oAdd (m := false)) (sE_var (i := 4) rfl (.inl rfl)) (sE_lc (own := [("kind_so", 7)]) (m := false) rfl sc__law_rows.nd (sI_tup (sE_tup (sA_cons (sE_str (s := [102, 97, 99, 101])) (sA_cons (sE_str (s := [99, 117, 116])) (sA_cons (sE_str (s := [108, 105, 110, 107])) sA_nil))))) (blkOk_by (by kernel_rfl)) (fun s H C cl fp => (sG_name sc__law_rows.nd rfl (.inl rfl))) (fun s H C cl fp => sTs_nil) (fun s H C cl fp => (sE_tup (sA_cons (sE_tup (sA_cons (sE_var (i := 7) rfl (.inl rfl)) (sA_cons (sE_str (s := [99])) (sA_cons sE_non sA_nil)))) (sA_cons (sE_tup (sA_cons (sE_str (s := [110, 97, 109, 101])) (sA_cons (sE_str (s := [99])) sA_nil))) sA_nil)))))) (sE_lst (m := false) (sA_cons (sE_tup (sA_cons (sE_tup (sA_cons (sE_str (s := [111, 118, 101, 114])) (sA_cons (sE_str (s := [99])) sA_nil))) (sA_cons (sE_tup (sA_cons (sE_str (s := [110, 97, 109, 101])) (sA_cons (sE_str (s := [99])) sA_nil))) sA_nil))) sA_nil))))
  (sS_cons (s_set sc__law_rows.nd rfl (.inl rfl) (sE_op (oAdd (m := false)) (sE_var (i := 4) rfl (.inl rfl)) (sE_lst (m := false) (sA_cons (sE_tup (sA_cons (sE_tup (sA_cons (sE_str (s := [106, 111, 105, 110])) (sA_cons (sE_str (s := [97])) (sA_cons (sE_str (s := [99])) (sA_cons (sE_str (s := [100])) sA_nil))))) (sA_cons (sE_tup (sA_cons (sE_str (s := [110, 97, 109, 101])) (sA_cons (sE_str (s := [97])) sA_nil))) sA_nil))) (sA_cons (sE_tup (sA_cons (sE_tup (sA_cons (sE_str (s := [106, 111, 105, 110])) (sA_cons (sE_str (s := [99])) (sA_cons (sE_str (s := [100])) (sA_cons (sE_str (s := [97])) sA_nil))))) (sA_cons (sE_tup (sA_cons (sE_str (s := [110, 97, 109, 101])) (sA_cons (sE_str (s := [100])) sA_nil))) sA_nil))) (sA_cons (sE_tup (sA_cons (sE_tup (sA_cons (sE_str (s := [106, 111, 105, 110])) (sA_cons (sE_str (s := [99])) (sA_cons (sE_str (s := [97])) (sA_cons (sE_var (i := 1) rfl (.inl rfl)) sA_nil))))) (sA_cons (sE_tup (sA_cons (sE_str (s := [110, 97, 109, 101])) (sA_cons (sE_var (i := 1) rfl (.inl rfl)) sA_nil))) sA_nil))) sA_nil))))))
  (sS_cons (s_set sc__law_rows.nd rfl (.inl rfl) (sE_op (oAdd (m := false)) (sE_var (i := 4) rfl (.inl rfl)) (sE_lst (m := false) (sA_cons (sE_tup (sA_cons (sE_tup (sA_cons (sE_str (s := [106, 111, 105, 110])) (sA_cons (sE_str (s := [99])) (sA_cons (sE_str (s := [97])) (sA_cons (sE_str (s := [102, 117, 108, 108])) sA_nil))))) (sA_cons (sE_tup (sA_cons (sE_str (s := [103, 114, 101, 97, 116])) (sA_cons sE_int sA_nil))) sA_nil))) (sA_cons (sE_tup (sA_cons (sE_tup (sA_cons (sE_str (s := [106, 111, 105, 110])) (sA_cons (sE_str (s := [99])) (sA_cons (sE_str (s := [102, 117, 108, 108])) (sA_cons (sE_str (s := [102, 117, 108, 108])) sA_nil))))) (sA_cons (sE_tup (sA_cons (sE_str (s := [103, 114, 101, 97, 116])) (sA_cons sE_int sA_nil))) sA_nil))) sA_nil)))))
  (sS_cons (s_set sc__law_rows.nd rfl (.inl rfl) (sE_call (ok__law_of F) tk_of (hr.mono (by decide)) rfl (F.glo 31 rfl) (F.fun 31 rfl).kp (bd__law_of F) (sA_cons (sE_var (i := 0) rfl (.inl rfl)) (sA_cons (sE_lst (m := false) (sA_cons sE_non (sA_cons (sE_tup (sA_cons sE_int sA_nil)) (sA_cons (sE_tup (sA_cons sE_int (sA_cons sE_int sA_nil))) (sA_cons (sE_tup (sA_cons sE_int (sA_cons sE_int sA_nil))) (sA_cons (sE_lst (m := false) (sA_cons sE_int sA_nil)) (sA_cons (sE_tup (sA_cons sE_bl sA_nil)) (sA_cons (sE_tup (sA_cons (sE_neg sE_int) sA_nil)) (sA_cons sE_int (sA_cons (sE_str (s := [48])) (sA_cons (sE_tup (sA_cons sE_non sA_nil)) (sA_cons (sE_tup (sA_cons sE_int (sA_cons sE_int (sA_cons sE_int (sA_cons sE_int sA_nil))))) sA_nil)))))))))))) sA_nil))))
  (sS_cons (s_set sc__law_rows.nd rfl (.inl rfl) (sE_op (oAdd (m := false)) (sE_var (i := 4) rfl (.inl rfl)) (sE_lst (m := false) (sA_cons (sE_tup (sA_cons (sE_tup (sA_cons (sE_str (s := [102, 97, 99, 101])) (sA_cons (sE_str (s := [97])) (sA_cons (sE_var (i := 5) rfl (.inl rfl)) sA_nil)))) (sA_cons (sE_tup (sA_cons (sE_str (s := [102, 97, 99, 101])) (sA_cons (sE_var (i := 5) rfl (.inl rfl)) sA_nil))) sA_nil))) (sA_cons (sE_tup (sA_cons (sE_tup (sA_cons (sE_str (s := [99, 117, 116])) (sA_cons (sE_str (s := [97])) (sA_cons (sE_var (i := 5) rfl (.inl rfl)) sA_nil)))) (sA_cons (sE_tup (sA_cons (sE_str (s := [102, 97, 99, 101])) (sA_cons (sE_var (i := 5) rfl (.inl rfl)) sA_nil))) sA_nil))) (sA_cons (sE_tup (sA_cons (sE_tup (sA_cons (sE_str (s := [108, 105, 110, 107])) (sA_cons (sE_str (s := [97])) (sA_cons (sE_var (i := 5) rfl (.inl rfl)) sA_nil)))) (sA_cons (sE_tup (sA_cons (sE_str (s := [102, 97, 99, 101])) (sA_cons (sE_var (i := 5) rfl (.inl rfl)) sA_nil))) sA_nil))) sA_nil))))))
  (sS_one (s_ret (sE_op (oAdd (m := false)) (sE_var (i := 4) rfl (.inl rfl)) (sE_lst (m := false) (sA_cons (sE_tup (sA_cons (sE_tup (sA_cons (sE_str (s := [102, 97, 99, 101])) (sA_cons (sE_str (s := [98])) (sA_cons (sE_tup (sA_cons sE_int sA_nil)) sA_nil)))) (sA_cons (sE_tup (sA_cons (sE_str (s := [102, 97, 99, 101])) (sA_cons (sE_tup (sA_cons sE_int sA_nil)) sA_nil))) sA_nil))) (sA_cons (sE_tup (sA_cons (sE_tup (sA_cons (sE_str (s := [110, 97, 109, 101])) (sA_cons (sE_var (i := 1) rfl (.inl rfl)) (sA_cons (sE_var (i := 1) rfl (.inl rfl)) sA_nil)))) (sA_cons (sE_tup (sA_cons (sE_str (s := [110, 97, 109, 101])) (sA_cons (sE_var (i := 1) rfl (.inl rfl)) sA_nil))) sA_nil))) sA_nil))))))))))))))))))))
end
end EK
end S_EkG
section S_EkH
/-! EkH: the program's defs, each by the rules. -/
namespace EK
open PySem PySem.Spec PyProof.Rows L2 Evl EV LamX
section
variable {w : World} {K : PySem.W.Frag} {mg : Str → Option Value} {base : Heap} {gh : G}
theorem sc_Bench_take : FnScope ["self", "name"] ["self", "name"] (defScope (mth 71 11)) := ⟨rfl, rfl, rfl, by decide +kernel, rfl, by decide +kernel, by decide +kernel⟩
theorem bd_Bench_take (F : Fx w K mg base) : Binds K (fdOf K (He.ma K (He.ga K "Bench") "take")) ["self", "name"] [] := FunD.bindsN (F.fun 51 rfl) (fun _ _ _ _ _ _ us hl => match us, hl with | [_, _], _ => rfl)
def F_Bench_take : FF := fDef 2 (sEx (fMeth 0 2 F_Bench_edit (fVar 0) (fCons (fTup (fCons (fC (.str [116, 97, 107, 101])) (fCons (fVar 1) fNil))) fNil)))
theorem ok_Bench_take (F : Fx w K mg base) : FnOk pw w K mg base (L2.CX pw w) 9 (He.ma K (He.ga K "Bench") "take") (fdOf K (He.ma K (He.ga K "Bench") "take")) ["self", "name"] (spF (Pk w K gh) 2 F_Bench_take) := fn_evD (k := 8) (N := ["self", "name"]) (ps := ["self", "name"]) (F.fun 51 rfl) sc_Bench_take fun cdv A outer s₀ H E hr =>
  (sS_one (s_expr (sE_meth (c := 0) rfl (sE_var (i := 0) rfl (.inl rfl)) F.bench (F.meth 86 rfl) (fnm_ne (by decide +kernel) (by decide +kernel)) (ok_Bench_edit F) tk_of (hr.mono (by decide)) (bd_Bench_edit F) (sA_cons (sE_tup (sA_cons (sE_str (s := [116, 97, 107, 101])) (sA_cons (sE_var (i := 1) rfl (.inl rfl)) sA_nil))) sA_nil))))
theorem sc_Bench_rename : FnScope ["self", "name", "new_name"] ["self", "name", "new_name"] (defScope (mth 71 12)) := ⟨rfl, rfl, rfl, by decide +kernel, rfl, by decide +kernel, by decide +kernel⟩
theorem bd_Bench_rename (F : Fx w K mg base) : Binds K (fdOf K (He.ma K (He.ga K "Bench") "rename")) ["self", "name", "new_name"] [] := FunD.bindsN (F.fun 52 rfl) (fun _ _ _ _ _ _ us hl => match us, hl with | [_, _, _], _ => rfl)
def F_Bench_rename : FF := fDef 3 (sEx (fMeth 0 2 F_Bench_edit (fVar 0) (fCons (fTup (fCons (fC (.str [110, 97, 109, 101])) (fCons (fVar 1) (fCons (fVar 2) fNil)))) fNil)))
theorem ok_Bench_rename (F : Fx w K mg base) : FnOk pw w K mg base (L2.CX pw w) 9 (He.ma K (He.ga K "Bench") "rename") (fdOf K (He.ma K (He.ga K "Bench") "rename")) ["self", "name", "new_name"] (spF (Pk w K gh) 3 F_Bench_rename) := fn_evD (k := 8) (N := ["self", "name", "new_name"]) (ps := ["self", "name", "new_name"]) (F.fun 52 rfl) sc_Bench_rename fun cdv A outer s₀ H E hr =>
  (sS_one (s_expr (sE_meth (c := 0) rfl (sE_var (i := 0) rfl (.inl rfl)) F.bench (F.meth 86 rfl) (fnm_ne (by decide +kernel) (by decide +kernel)) (ok_Bench_edit F) tk_of (hr.mono (by decide)) (bd_Bench_edit F) (sA_cons (sE_tup (sA_cons (sE_str (s := [110, 97, 109, 101])) (sA_cons (sE_var (i := 1) rfl (.inl rfl)) (sA_cons (sE_var (i := 2) rfl (.inl rfl)) sA_nil)))) sA_nil))))
theorem sc_Bench_put_joined : FnScope ["self", "new_name", "one", "other"] ["self", "new_name", "one", "other"] (defScope (mth 71 17)) := ⟨rfl, rfl, rfl, by decide +kernel, rfl, by decide +kernel, by decide +kernel⟩
theorem bd_Bench_put_joined (F : Fx w K mg base) : Binds K (fdOf K (He.ma K (He.ga K "Bench") "put_joined")) ["self", "new_name", "one", "other"] [] := FunD.bindsN (F.fun 57 rfl) (fun _ _ _ _ _ _ us hl => match us, hl with | [_, _, _, _], _ => rfl)
def F_Bench_put_joined : FF := fDef 4 (sEx (fMeth 0 2 F_Bench_edit (fVar 0) (fCons (fTup (fCons (fC (.str [106, 111, 105, 110])) (fCons (fVar 1) (fCons (fVar 2) (fCons (fVar 3) fNil))))) fNil)))
theorem ok_Bench_put_joined (F : Fx w K mg base) : FnOk pw w K mg base (L2.CX pw w) 9 (He.ma K (He.ga K "Bench") "put_joined") (fdOf K (He.ma K (He.ga K "Bench") "put_joined")) ["self", "new_name", "one", "other"] (spF (Pk w K gh) 4 F_Bench_put_joined) := fn_evD (k := 8) (N := ["self", "new_name", "one", "other"]) (ps := ["self", "new_name", "one", "other"]) (F.fun 57 rfl) sc_Bench_put_joined fun cdv A outer s₀ H E hr =>
  (sS_one (s_expr (sE_meth (c := 0) rfl (sE_var (i := 0) rfl (.inl rfl)) F.bench (F.meth 86 rfl) (fnm_ne (by decide +kernel) (by decide +kernel)) (ok_Bench_edit F) tk_of (hr.mono (by decide)) (bd_Bench_edit F) (sA_cons (sE_tup (sA_cons (sE_str (s := [106, 111, 105, 110])) (sA_cons (sE_var (i := 1) rfl (.inl rfl)) (sA_cons (sE_var (i := 2) rfl (.inl rfl)) (sA_cons (sE_var (i := 3) rfl (.inl rfl)) sA_nil))))) sA_nil))))
theorem sc_Bench_turn_over : FnScope ["self", "name"] ["self", "name"] (defScope (mth 71 16)) := ⟨rfl, rfl, rfl, by decide +kernel, rfl, by decide +kernel, by decide +kernel⟩
theorem bd_Bench_turn_over (F : Fx w K mg base) : Binds K (fdOf K (He.ma K (He.ga K "Bench") "turn_over")) ["self", "name"] [] := FunD.bindsN (F.fun 56 rfl) (fun _ _ _ _ _ _ us hl => match us, hl with | [_, _], _ => rfl)
def F_Bench_turn_over : FF := fDef 2 (sEx (fMeth 0 2 F_Bench_edit (fVar 0) (fCons (fTup (fCons (fC (.str [111, 118, 101, 114])) (fCons (fVar 1) fNil))) fNil)))
theorem ok_Bench_turn_over (F : Fx w K mg base) : FnOk pw w K mg base (L2.CX pw w) 9 (He.ma K (He.ga K "Bench") "turn_over") (fdOf K (He.ma K (He.ga K "Bench") "turn_over")) ["self", "name"] (spF (Pk w K gh) 2 F_Bench_turn_over) := fn_evD (k := 8) (N := ["self", "name"]) (ps := ["self", "name"]) (F.fun 56 rfl) sc_Bench_turn_over fun cdv A outer s₀ H E hr =>
  (sS_one (s_expr (sE_meth (c := 0) rfl (sE_var (i := 0) rfl (.inl rfl)) F.bench (F.meth 86 rfl) (fnm_ne (by decide +kernel) (by decide +kernel)) (ok_Bench_edit F) tk_of (hr.mono (by decide)) (bd_Bench_edit F) (sA_cons (sE_tup (sA_cons (sE_str (s := [111, 118, 101, 114])) (sA_cons (sE_var (i := 1) rfl (.inl rfl)) sA_nil))) sA_nil))))
theorem sc_Bench_put_face : FnScope ["self", "name", "lot"] ["self", "name", "lot"] (defScope (mth 71 13)) := ⟨rfl, rfl, rfl, by decide +kernel, rfl, by decide +kernel, by decide +kernel⟩
theorem bd_Bench_put_face (F : Fx w K mg base) : Binds K (fdOf K (He.ma K (He.ga K "Bench") "put_face")) ["self", "name", "lot"] [] := FunD.bindsN (F.fun 53 rfl) (fun _ _ _ _ _ _ us hl => match us, hl with | [_, _, _], _ => rfl)
def F_Bench_put_face : FF := fDef 3 (sEx (fMeth 0 2 F_Bench_edit (fVar 0) (fCons (fTup (fCons (fC (.str [102, 97, 99, 101])) (fCons (fVar 1) (fCons (fVar 2) fNil)))) fNil)))
theorem ok_Bench_put_face (F : Fx w K mg base) : FnOk pw w K mg base (L2.CX pw w) 9 (He.ma K (He.ga K "Bench") "put_face") (fdOf K (He.ma K (He.ga K "Bench") "put_face")) ["self", "name", "lot"] (spF (Pk w K gh) 3 F_Bench_put_face) := fn_evD (k := 8) (N := ["self", "name", "lot"]) (ps := ["self", "name", "lot"]) (F.fun 53 rfl) sc_Bench_put_face fun cdv A outer s₀ H E hr =>
  (sS_one (s_expr (sE_meth (c := 0) rfl (sE_var (i := 0) rfl (.inl rfl)) F.bench (F.meth 86 rfl) (fnm_ne (by decide +kernel) (by decide +kernel)) (ok_Bench_edit F) tk_of (hr.mono (by decide)) (bd_Bench_edit F) (sA_cons (sE_tup (sA_cons (sE_str (s := [102, 97, 99, 101])) (sA_cons (sE_var (i := 1) rfl (.inl rfl)) (sA_cons (sE_var (i := 2) rfl (.inl rfl)) sA_nil)))) sA_nil))))
theorem sc_Bench_cut : FnScope ["self", "name", "lot"] ["self", "name", "lot"] (defScope (mth 71 14)) := ⟨rfl, rfl, rfl, by decide +kernel, rfl, by decide +kernel, by decide +kernel⟩
theorem bd_Bench_cut (F : Fx w K mg base) : Binds K (fdOf K (He.ma K (He.ga K "Bench") "cut")) ["self", "name", "lot"] [] := FunD.bindsN (F.fun 54 rfl) (fun _ _ _ _ _ _ us hl => match us, hl with | [_, _, _], _ => rfl)
def F_Bench_cut : FF := fDef 3 (sEx (fMeth 0 2 F_Bench_edit (fVar 0) (fCons (fTup (fCons (fC (.str [99, 117, 116])) (fCons (fVar 1) (fCons (fVar 2) fNil)))) fNil)))
theorem ok_Bench_cut (F : Fx w K mg base) : FnOk pw w K mg base (L2.CX pw w) 9 (He.ma K (He.ga K "Bench") "cut") (fdOf K (He.ma K (He.ga K "Bench") "cut")) ["self", "name", "lot"] (spF (Pk w K gh) 3 F_Bench_cut) := fn_evD (k := 8) (N := ["self", "name", "lot"]) (ps := ["self", "name", "lot"]) (F.fun 54 rfl) sc_Bench_cut fun cdv A outer s₀ H E hr =>
  (sS_one (s_expr (sE_meth (c := 0) rfl (sE_var (i := 0) rfl (.inl rfl)) F.bench (F.meth 86 rfl) (fnm_ne (by decide +kernel) (by decide +kernel)) (ok_Bench_edit F) tk_of (hr.mono (by decide)) (bd_Bench_edit F) (sA_cons (sE_tup (sA_cons (sE_str (s := [99, 117, 116])) (sA_cons (sE_var (i := 1) rfl (.inl rfl)) (sA_cons (sE_var (i := 2) rfl (.inl rfl)) sA_nil)))) sA_nil))))
end
end EK
end S_EkH
section S_EkI
/-! EkI: the program's defs, each by the rules. -/
namespace EK
open PySem PySem.Spec PyProof.Rows L2 Evl EV LamX
section
variable {w : World} {K : PySem.W.Frag} {mg : Str → Option Value} {base : Heap} {gh : G}
theorem sc_Bench_to_link : FnScope ["self", "name", "lot"] ["self", "name", "lot"] (defScope (mth 71 15)) := ⟨rfl, rfl, rfl, by decide +kernel, rfl, by decide +kernel, by decide +kernel⟩
theorem bd_Bench_to_link (F : Fx w K mg base) : Binds K (fdOf K (He.ma K (He.ga K "Bench") "to_link")) ["self", "name", "lot"] [] := FunD.bindsN (F.fun 55 rfl) (fun _ _ _ _ _ _ us hl => match us, hl with | [_, _, _], _ => rfl)
def F_Bench_to_link : FF := fDef 3 (sEx (fMeth 0 2 F_Bench_edit (fVar 0) (fCons (fTup (fCons (fC (.str [108, 105, 110, 107])) (fCons (fVar 1) (fCons (fVar 2) fNil)))) fNil)))
theorem ok_Bench_to_link (F : Fx w K mg base) : FnOk pw w K mg base (L2.CX pw w) 9 (He.ma K (He.ga K "Bench") "to_link") (fdOf K (He.ma K (He.ga K "Bench") "to_link")) ["self", "name", "lot"] (spF (Pk w K gh) 3 F_Bench_to_link) := fn_evD (k := 8) (N := ["self", "name", "lot"]) (ps := ["self", "name", "lot"]) (F.fun 55 rfl) sc_Bench_to_link fun cdv A outer s₀ H E hr =>
  (sS_one (s_expr (sE_meth (c := 0) rfl (sE_var (i := 0) rfl (.inl rfl)) F.bench (F.meth 86 rfl) (fnm_ne (by decide +kernel) (by decide +kernel)) (ok_Bench_edit F) tk_of (hr.mono (by decide)) (bd_Bench_edit F) (sA_cons (sE_tup (sA_cons (sE_str (s := [108, 105, 110, 107])) (sA_cons (sE_var (i := 1) rfl (.inl rfl)) (sA_cons (sE_var (i := 2) rfl (.inl rfl)) sA_nil)))) sA_nil))))
theorem sc__law_by_name : FnScope ["desk", "deed", "kind_so"] ["desk", "deed"] (defScope (top 80)) := ⟨rfl, rfl, rfl, by decide +kernel, rfl, by decide +kernel, by decide +kernel⟩
theorem bd__law_by_name (F : Fx w K mg base) : Binds K (fdOf K (He.ga K "_law_by_name")) ["desk", "deed"] [] := FunD.bindsN (F.fun 36 rfl) (fun _ _ _ _ _ _ us hl => match us, hl with | [_, _], _ => rfl)
def F__law_by_name : FF := fDef 3 (sSeq (sSet 2 (f2 dIx (fVar 1) (fC (.int 0)))) (sSeq (sIf (tOf (f2 dEqG (fVar 2) (fC (.str [112, 117, 116])))) (sRet (fMeth 0 3 F_Bench_put (fVar 0) (fCons (f2 dIx (fVar 1) (fC (.int 1))) (fCons (f2 dIx (fVar 1) (fC (.int 2))) fNil)))) sNil) (sSeq (sIf (tOf (f2 dEqG (fVar 2) (fC (.str [116, 97, 107, 101])))) (sRet (fMeth 0 2 F_Bench_take (fVar 0) (fCons (f2 dIx (fVar 1) (fC (.int 1))) fNil))) sNil) (sSeq (sIf (tOf (f2 dEqG (fVar 2) (fC (.str [110, 97, 109, 101])))) (sRet (fMeth 0 3 F_Bench_rename (fVar 0) (fCons (f2 dIx (fVar 1) (fC (.int 1))) (fCons (f2 dIx (fVar 1) (fC (.int 2))) fNil)))) sNil) (sSeq (sIf (tOf (f2 dEqG (fVar 2) (fC (.str [106, 111, 105, 110])))) (sRet (fMeth 0 4 F_Bench_put_joined (fVar 0) (fCons (f2 dIx (fVar 1) (fC (.int 1))) (fCons (f2 dIx (fVar 1) (fC (.int 2))) (fCons (f2 dIx (fVar 1) (fC (.int 3))) fNil))))) sNil) (sSeq (sIf (tOf (f2 dEqG (fVar 2) (fC (.str [111, 118, 101, 114])))) (sRet (fMeth 0 2 F_Bench_turn_over (fVar 0) (fCons (f2 dIx (fVar 1) (fC (.int 1))) fNil))) sNil) (sSeq (sIf (tOf (f2 dEqG (fVar 2) (fC (.str [102, 97, 99, 101])))) (sRet (fMeth 0 3 F_Bench_put_face (fVar 0) (fCons (f2 dIx (fVar 1) (fC (.int 1))) (fCons (f2 dIx (fVar 1) (fC (.int 2))) fNil)))) sNil) (sRet (fIf (tOf (f2 dEqG (fVar 2) (fC (.str [99, 117, 116])))) (fMeth 0 3 F_Bench_cut (fVar 0) (fCons (f2 dIx (fVar 1) (fC (.int 1))) (fCons (f2 dIx (fVar 1) (fC (.int 2))) fNil))) (fMeth 0 3 F_Bench_to_link (fVar 0) (fCons (f2 dIx (fVar 1) (fC (.int 1))) (fCons (f2 dIx (fVar 1) (fC (.int 2))) fNil))))))))))))
theorem ok__law_by_name (F : Fx w K mg base) : FnOk pw w K mg base (L2.CX pw w) 10 (He.ga K "_law_by_name") (fdOf K (He.ga K "_law_by_name")) ["desk", "deed"] (spF (Pk w K gh) 2 F__law_by_name) := fn_evD (k := 9) (N := ["desk", "deed", "kind_so"]) (ps := ["desk", "deed"]) (F.fun 36 rfl) sc__law_by_name fun cdv A outer s₀ H E hr =>
  (sS_cons (s_set sc__law_by_name.nd rfl (.inl rfl) (sE_ix (sE_var (i := 1) rfl (.inl rfl)) sE_int))
  (sS_cons (s_if (sT_cmp (oEqG (rm_of hr)) (sE_var (i := 2) rfl (.inl rfl)) (sE_str (s := [112, 117, 116]))) (sS_one (s_ret (sE_meth (c := 0) rfl (sE_var (i := 0) rfl (.inl rfl)) F.bench (F.meth 88 rfl) (fnm_ne (by decide +kernel) (by decide +kernel)) (ok_Bench_put F) tk_of (hr.mono (by decide)) (bd_Bench_put F) (sA_cons (sE_ix (sE_var (i := 1) rfl (.inl rfl)) sE_int) (sA_cons (sE_ix (sE_var (i := 1) rfl (.inl rfl)) sE_int) sA_nil))))) sS_nil)
  (sS_cons (s_if (sT_cmp (oEqG (rm_of hr)) (sE_var (i := 2) rfl (.inl rfl)) (sE_str (s := [116, 97, 107, 101]))) (sS_one (s_ret (sE_meth (c := 0) rfl (sE_var (i := 0) rfl (.inl rfl)) F.bench (F.meth 89 rfl) (fnm_ne (by decide +kernel) (by decide +kernel)) (ok_Bench_take F) tk_of (hr.mono (by decide)) (bd_Bench_take F) (sA_cons (sE_ix (sE_var (i := 1) rfl (.inl rfl)) sE_int) sA_nil)))) sS_nil)
  (sS_cons (s_if (sT_cmp (oEqG (rm_of hr)) (sE_var (i := 2) rfl (.inl rfl)) (sE_str (s := [110, 97, 109, 101]))) (sS_one (s_ret (sE_meth (c := 0) rfl (sE_var (i := 0) rfl (.inl rfl)) F.bench (F.meth 90 rfl) (fnm_ne (by decide +kernel) (by decide +kernel)) (ok_Bench_rename F) tk_of (hr.mono (by decide)) (bd_Bench_rename F) (sA_cons (sE_ix (sE_var (i := 1) rfl (.inl rfl)) sE_int) (sA_cons (sE_ix (sE_var (i := 1) rfl (.inl rfl)) sE_int) sA_nil))))) sS_nil)
  (sS_cons (s_if (sT_cmp (oEqG (rm_of hr)) (sE_var (i := 2) rfl (.inl rfl)) (sE_str (s := [106, 111, 105, 110]))) (sS_one (s_ret (sE_meth (c := 0) rfl (sE_var (i := 0) rfl (.inl rfl)) F.bench (F.meth 95 rfl) (fnm_ne (by decide +kernel) (by decide +kernel)) (ok_Bench_put_joined F) tk_of (hr.mono (by decide)) (bd_Bench_put_joined F) (sA_cons (sE_ix (sE_var (i := 1) rfl (.inl rfl)) sE_int) (sA_cons (sE_ix (sE_var (i := 1) rfl (.inl rfl)) sE_int) (sA_cons (sE_ix (sE_var (i := 1) rfl (.inl rfl)) sE_int) sA_nil)))))) sS_nil)
  (sS_cons (s_if (sT_cmp (oEqG (rm_of hr)) (sE_var (i := 2) rfl (.inl rfl)) (sE_str (s := [111, 118, 101, 114]))) (sS_one (s_ret (sE_meth (c := 0) rfl (sE_var (i := 0) rfl (.inl rfl)) F.bench (F.meth 94 rfl) (fnm_ne (by decide +kernel) (by decide +kernel)) (ok_Bench_turn_over F) tk_of (hr.mono (by decide)) (bd_Bench_turn_over F) (sA_cons (sE_ix (sE_var (i := 1) rfl (.inl rfl)) sE_int) sA_nil)))) sS_nil)
  (sS_cons (s_if (sT_cmp (oEqG (rm_of hr)) (sE_var (i := 2) rfl (.inl rfl)) (sE_str (s := [102, 97, 99, 101]))) (sS_one (s_ret (sE_meth (c := 0) rfl (sE_var (i := 0) rfl (.inl rfl)) F.bench (F.meth 91 rfl) (fnm_ne (by decide +kernel) (by decide +kernel)) (ok_Bench_put_face F) tk_of (hr.mono (by decide)) (bd_Bench_put_face F) (sA_cons (sE_ix (sE_var (i := 1) rfl (.inl rfl)) sE_int) (sA_cons (sE_ix (sE_var (i := 1) rfl (.inl rfl)) sE_int) sA_nil))))) sS_nil)
  (sS_one (s_ret (sE_if (sT_cmp (oEqG (rm_of hr)) (sE_var (i := 2) rfl (.inl rfl)) (sE_str (s := [99, 117, 116]))) (sE_meth (c := 0) rfl (sE_var (i := 0) rfl (.inl rfl)) F.bench (F.meth 92 rfl) (fnm_ne (by decide +kernel) (by decide +kernel)) (ok_Bench_cut F) tk_of (hr.mono (by decide)) (bd_Bench_cut F) (sA_cons (sE_ix (sE_var (i := 1) rfl (.inl rfl)) sE_int) (sA_cons (sE_ix (sE_var (i := 1) rfl (.inl rfl)) sE_int) sA_nil))) (sE_meth (c := 0) rfl (sE_var (i := 0) rfl (.inl rfl)) F.bench (F.meth 93 rfl) (fnm_ne (by decide +kernel) (by decide +kernel)) (ok_Bench_to_link F) tk_of (hr.mono (by decide)) (bd_Bench_to_link F) (sA_cons (sE_ix (sE_var (i := 1) rfl (.inl rfl)) sE_int) (sA_cons (sE_ix (sE_var (i := 1) rfl (.inl rfl)) sE_int) sA_nil)))))))))))))
theorem sc_Bench_names : FnScope ["self"] ["self"] (defScope (mth 71 4)) := ⟨rfl, rfl, rfl, by decide +kernel, rfl, by decide +kernel, by decide +kernel⟩
theorem bd_Bench_names (F : Fx w K mg base) : Binds K (fdOf K (He.ma K (He.ga K "Bench") "names")) ["self"] [] := FunD.bindsN (F.fun 44 rfl) (fun _ _ _ _ _ _ us hl => match us, hl with | [_], _ => rfl)
def F_Bench_names : FF := fDef 1 (sRet (fB gTuple (fCons (fB gSorted (fCons (fFz (fFld 0 1 (fVar 0))) fNil)) fNil)))
theorem ok_Bench_names (F : Fx w K mg base) : FnOk pw w K mg base (L2.CX pw w) 1 (He.ma K (He.ga K "Bench") "names") (fdOf K (He.ma K (He.ga K "Bench") "names")) ["self"] (spF (Pk w K gh) 1 F_Bench_names) := fn_evD (k := 0) (N := ["self"]) (ps := ["self"]) (F.fun 44 rfl) sc_Bench_names fun cdv A outer s₀ H E hr =>
  (sS_one (s_ret (sE_bt cTuple rfl (F.free 55 rfl) (by kernel_rfl) (sA_cons (sE_bf (cSorted rfl (rm_of hr)) rfl (F.free 54 rfl) (by kernel_rfl) (sA_cons (sE_fz (sE_fld (c := 0) (j := 1) rfl F.bench (F.noat 75 rfl) rfl (own_q rfl) (sE_var (i := 0) rfl (.inl rfl)))) sA_nil)) sA_nil))))
theorem sc_Bench_complex_at : FnScope ["self", "name"] ["self", "name"] (defScope (mth 71 7)) := ⟨rfl, rfl, rfl, by decide +kernel, rfl, by decide +kernel, by decide +kernel⟩
theorem bd_Bench_complex_at (F : Fx w K mg base) : Binds K (fdOf K (He.ma K (He.ga K "Bench") "complex_at")) ["self", "name"] [] := FunD.bindsN (F.fun 47 rfl) (fun _ _ _ _ _ _ us hl => match us, hl with | [_, _], _ => rfl)
theorem kb_Bench_complex_at (F : Fx w K mg base) : Kb K (fdOf K (He.ma K (He.ga K "Bench") "complex_at")) ["self", "name"] 1 ["name"] := by
  obtain ⟨oc, od, dV, kV, doc, pm, an, cdv, ct, osl, e, _, _, hD, _⟩ := (F.fun 47 rfl).ex
  rcases hD with ⟨_, z⟩ | ⟨z, _⟩
  · subst z
    have e : fdOf K (He.ma K (He.ga K "Bench") "complex_at") = _ := e
    rw [e]
    exact kb_of fun us ws h1 h2 => match us, ws, h1, h2 with | [_], [_], _, _ => rfl
  · exact absurd rfl z
def F_Bench_complex_at : FF := fDef 2 (sRet (f2 dGet (fFld 0 1 (fVar 0)) (fMeth 0 2 F_Bench_need_there (fVar 0) (fCons (fVar 1) fNil))))
theorem ok_Bench_complex_at (F : Fx w K mg base) : FnOk pw w K mg base (L2.CX pw w) 4 (He.ma K (He.ga K "Bench") "complex_at") (fdOf K (He.ma K (He.ga K "Bench") "complex_at")) ["self", "name"] (spF (Pk w K gh) 2 F_Bench_complex_at) := fn_evD (k := 3) (N := ["self", "name"]) (ps := ["self", "name"]) (F.fun 47 rfl) sc_Bench_complex_at fun cdv A outer s₀ H E hr =>
  (sS_one (s_ret (sE_dget (rm_of hr) (sE_fld (c := 0) (j := 1) rfl F.bench (F.noat 75 rfl) rfl (own_q rfl) (sE_var (i := 0) rfl (.inl rfl))) (sE_meth (c := 0) rfl (sE_var (i := 0) rfl (.inl rfl)) F.bench (F.meth 83 rfl) (fnm_ne (by decide +kernel) (by decide +kernel)) (ok_Bench_need_there F) tk_of (hr.mono (by decide)) (bd_Bench_need_there F) (sA_cons (sE_var (i := 1) rfl (.inl rfl)) sA_nil)))))
theorem sc_Bench_acts : FnScope ["self"] ["self"] (defScope (mth 71 3)) := ⟨rfl, rfl, rfl, by decide +kernel, rfl, by decide +kernel, by decide +kernel⟩
theorem bd_Bench_acts (F : Fx w K mg base) : Binds K (fdOf K (propG K (He.ma K (He.ga K "Bench") "acts"))) ["self"] [] := FunD.bindsN (F.fun 43 rfl) (fun _ _ _ _ _ _ us hl => match us, hl with | [_], _ => rfl)
def F_Bench_acts : FF := fDef 1 (sRet (fB gLen (fCons (fFld 0 2 (fVar 0)) fNil)))
theorem ok_Bench_acts (F : Fx w K mg base) : FnOk pw w K mg base (L2.CX pw w) 1 (propG K (He.ma K (He.ga K "Bench") "acts")) (fdOf K (propG K (He.ma K (He.ga K "Bench") "acts"))) ["self"] (spF (Pk w K gh) 1 F_Bench_acts) := fn_evD (k := 0) (N := ["self"]) (ps := ["self"]) (F.fun 43 rfl) sc_Bench_acts fun cdv A outer s₀ H E hr =>
  (sS_one (s_ret (sE_bf (cLen (rm_of hr)) rfl (F.free 51 rfl) (by kernel_rfl) (sA_cons (sE_fld (c := 0) (j := 2) rfl F.bench (F.noat 76 rfl) rfl (own_q rfl) (sE_var (i := 0) rfl (.inl rfl))) sA_nil))))
theorem sc__law_bounds_right : FnScope ["desk", "five", "k", "told"] [] (defScope (top 81)) := ⟨rfl, rfl, rfl, by decide +kernel, rfl, by decide +kernel, by decide +kernel⟩
theorem bd__law_bounds_right (F : Fx w K mg base) : Binds K (fdOf K (He.ga K "_law_bounds_right")) [] [] := FunD.bindsN (F.fun 37 rfl) (fun _ _ _ _ _ _ us hl => match us, hl with | [], _ => rfl)
def F__law_bounds_right : FF := fDef 4 (sSeq (sAsg (gTp 2 (gsCons (gNm 0) (gsCons (gNm 1) gsNil))) (fTup (fCons (fMk 0 2 F_Bench___init__ (fCons (fC (.int 2)) fNil)) (fCons (fTup (fCons (fC (.int 5)) (fCons (fTup (fCons (fTup (fCons (fC (.int 0)) (fCons (fC (.int 1)) fNil))) (fCons (fTup (fCons (fC (.int 2)) fNil)) fNil))) fNil))) fNil)))) (sSeq (sFor (iR1 (fCons (fC (.int 12)) fNil)) (gNm 2) (sEx (fMeth 0 3 F_Bench_put (fVar 0) (fCons (f2 dIx (fC (.str [97, 98, 99, 100, 101, 102, 103, 104, 105, 106, 107, 108])) (fVar 2)) (fCons (fVar 1) fNil))))) (sSeq (sSet 3 (fLst true (fCons (fLam 1 1 2 sH_heard (fMeth 0 3 F_Bench_put (fVar 0) (fCons (fC (.str [109])) (fCons (fVar 1) fNil)))) (fCons (fLam 1 1 2 sH_heard (fMeth 0 3 F_Bench_put (fVar 0) (fCons (fC (.str [109])) (fCons (fC .non) fNil)))) (fCons (fB gLen (fCons (fMeth 0 1 F_Bench_names (fVar 0) fNil) fNil)) fNil))))) (sSeq (sSet 3 (f2 (dAdd true) (fVar 3) (fLst false (fCons (fLam 1 1 2 sH_heard (fMeth 0 4 F_Bench_put_joined (fVar 0) (fCons (fC (.str [109])) (fCons (fC (.str [97])) (fCons (fC (.str [98])) fNil))))) (fCons (fLam 1 1 2 sH_heard (fMeth 0 3 F_Bench_rename (fVar 0) (fCons (fC (.str [97])) (fCons (fC (.str [115, 101, 118, 101, 110, 97, 98])) fNil)))) (fCons (fMeth 0 2 F_Bench_take (fVar 0) (fCons (fC (.str [98])) fNil)) fNil)))))) (sSeq (sSet 3 (f2 (dAdd true) (fVar 3) (fLst false (fCons (fLam 1 1 2 sH_heard (fMeth 0 4 F_Bench_put_joined (fVar 0) (fCons (fC (.str [101, 105, 103, 104, 116, 97, 98, 99])) (fCons (fC (.str [99])) (fCons (fC (.str [100])) fNil))))) (fCons (f2 dIx (fMeth 0 2 F_Bench_complex_at (fVar 0) (fCons (fC (.str [101, 105, 103, 104, 116, 97, 98, 99])) fNil)) (fC (.int 0))) (fCons (fProp 0 F_Bench_acts (fVar 0)) fNil)))))) (sSeq (sEx (fMl mApp (fVar 3) (fCons (fLam 1 1 2 sH_heard (fMeth 0 4 F_Bench_put_joined (fVar 0) (fCons (fC (.str [122])) (fCons (fC (.str [101, 105, 103, 104, 116, 97, 98, 99])) (fCons (fC (.str [99])) fNil))))) fNil))) (sRet (fCall 2 F__law_like (fCons (fVar 3) (fCons (fLst false (fCons (fTup (fCons (fC (.str [103, 114, 101, 97, 116])) (fCons (fC (.int 12)) fNil))) (fCons (fTup (fCons (fC (.str [99, 111, 109, 112, 108, 101, 120])) (fCons (fTup fNil) fNil))) (fCons (fC (.int 12)) (fCons (fTup (fCons (fC (.str [103, 114, 101, 97, 116])) (fCons (fC (.int 12)) fNil))) (fCons (fLst false (fCons (fC .non) fNil)) (fCons (fC .non) (fCons (fLst false (fCons (fC .non) fNil)) (fCons (fC (.int 10)) (fCons (fC (.int 15)) (fCons (fTup (fCons (fC (.str [103, 114, 101, 97, 116])) (fCons (fC (.int 10)) fNil))) fNil))))))))))) fNil))))))))))
theorem ok__law_bounds_right (F : Fx w K mg base) : FnG pw w K mg base (L2.CX pw w) 12 (He.ga K "_law_bounds_right") (fdOf K (He.ga K "_law_bounds_right")) [] (spF (Pk w K gh) 0 F__law_bounds_right) := by
  obtain ⟨ocH, odH, dVH, kVH, docH, pmH, anH, cdvH, ctH, oslH, lkH, cdH, bdH⟩ := heardX F
  exact fn_evGD (k := 11) (N := ["desk", "five", "k", "told"]) (ps := []) (p := ("_law_bounds_right", none)) rfl (F.fun 37 rfl) sc__law_bounds_right fun cdv A outer s₀ H E hcd hgd hr =>
  (sS_cons (s_asg (vs := [0, 1]) (sE_tup (sA_cons (sE_mk (c := 0) (F.mkr 73 rfl) (ok_Bench___init__ F) tk_of (hr.mono (by decide)) rfl (F.glo 40 rfl) (bd_Bench___init__ F) (sA_cons sE_int sA_nil)) (sA_cons (sE_tup (sA_cons sE_int (sA_cons (sE_tup (sA_cons (sE_tup (sA_cons sE_int (sA_cons sE_int sA_nil))) (sA_cons (sE_tup (sA_cons sE_int sA_nil)) sA_nil))) sA_nil))) sA_nil))) (sG_tup rfl (sGs_cons (sG_name sc__law_bounds_right.nd rfl (.inr rfl)) (sGs_cons (sG_name sc__law_bounds_right.nd rfl (.inr rfl)) sGs_nil))))
  (sS_cons (s_for (vs := [2]) po_of rfl (sI_range1 rfl (F.free 61 rfl) (sA_cons sE_int sA_nil)) (sG_name sc__law_bounds_right.nd rfl (.inl rfl)) (sS_one (s_expr (sE_meth (c := 0) rfl (sE_var (i := 0) rfl (.inr (.inl rfl))) F.bench (F.meth 88 rfl) (fnm_ne (by decide +kernel) (by decide +kernel)) (ok_Bench_put F) tk_of (hr.mono (by decide)) (bd_Bench_put F) (sA_cons (sE_ix (sE_str (s := [97, 98, 99, 100, 101, 102, 103, 104, 105, 106, 107, 108])) (sE_var (i := 2) rfl (.inl rfl))) (sA_cons (sE_var (i := 1) rfl (.inr (.inl rfl))) sA_nil))))))
  (sS_cons (s_set sc__law_bounds_right.nd rfl (.inl rfl) (sE_lst (m := true) (sA_cons (sE_lam (n := 0) (i := 1) (t := 1) (k := 9) (NL := ["desk", "five", "k", "told"]) (ls := []) (Ng := ["call", "error"]) rfl tk_of rfl (F.glo 33 rfl) (F.fun 33 rfl).kp lkH cdH bdH sc__law_heard rfl (.inl rfl) (hrd_ok F) (F.tb (tfL.getD 1 ("law", none)) (by simp [tfL])) hcd (by kernel_rfl) (hr.mono (by decide)) (lmS_by (by kernel_rfl)) (lmD0 rfl) (lmB0 (fun _ _ _ _ _ _ => rfl)) (fun A outer s H E f c hr => (sE_meth (c := 0) rfl (sE_var (i := 0) rfl (.inr (.inr rfl))) F.bench (F.meth 88 rfl) (fnm_ne (by decide +kernel) (by decide +kernel)) (ok_Bench_put F) tk_lm (hr.mono (by decide)) (bd_Bench_put F) (sA_cons (sE_str (s := [109])) (sA_cons (sE_var (i := 1) rfl (.inr (.inr rfl))) sA_nil))))) (sA_cons (sE_lam (n := 0) (i := 1) (t := 1) (k := 9) (NL := ["desk", "five", "-", "told"]) (ls := ["k"]) (Ng := ["call", "error"]) rfl tk_of rfl (F.glo 33 rfl) (F.fun 33 rfl).kp lkH cdH bdH sc__law_heard rfl (.inl rfl) (hrd_ok F) (F.tb (tfL.getD 1 ("law", none)) (by simp [tfL])) hcd (by kernel_rfl) (hr.mono (by decide)) (lmS_by (by kernel_rfl)) (lmD1 rfl rfl) (lmB1 (y := "k") (fun _ _ _ _ _ _ _ => ⟨_, rfl, fun _ => rfl⟩)) (fun A outer s H E f c hr => (sE_meth (c := 0) rfl (sE_var (i := 0) rfl (.inr (.inr rfl))) F.bench (F.meth 88 rfl) (fnm_ne (by decide +kernel) (by decide +kernel)) (ok_Bench_put F) tk_lm (hr.mono (by decide)) (bd_Bench_put F) (sA_cons (sE_str (s := [109])) (sA_cons sE_non sA_nil))))) (sA_cons (sE_bf (cLen (rm_of hr)) rfl (F.free 51 rfl) (by kernel_rfl) (sA_cons (sE_meth0 (c := 0) rfl (sE_var (i := 0) rfl (.inr (.inl rfl))) F.bench (F.meth 82 rfl) (fnm_ne (by decide +kernel) (by decide +kernel)) (ok_Bench_names F) tk_of (hr.mono (by decide)) (bd_Bench_names F)) sA_nil)) sA_nil)))))
  (sS_cons (s_set sc__law_bounds_right.nd rfl (.inl rfl) (sE_op (oAdd (m := true)) (sE_var (i := 3) rfl (.inl rfl)) (sE_lst (m := false) (sA_cons (sE_lam (n := 0) (i := 1) (t := 1) (k := 9) (NL := ["desk", "five", "k", "told"]) (ls := []) (Ng := ["call", "error"]) rfl tk_of rfl (F.glo 33 rfl) (F.fun 33 rfl).kp lkH cdH bdH sc__law_heard rfl (.inl rfl) (hrd_ok F) (F.tb (tfL.getD 1 ("law", none)) (by simp [tfL])) hcd (by kernel_rfl) (hr.mono (by decide)) (lmS_by (by kernel_rfl)) (lmD0 rfl) (lmB0 (fun _ _ _ _ _ _ => rfl)) (fun A outer s H E f c hr => (sE_meth (c := 0) rfl (sE_var (i := 0) rfl (.inr (.inr rfl))) F.bench (F.meth 95 rfl) (fnm_ne (by decide +kernel) (by decide +kernel)) (ok_Bench_put_joined F) tk_lm (hr.mono (by decide)) (bd_Bench_put_joined F) (sA_cons (sE_str (s := [109])) (sA_cons (sE_str (s := [97])) (sA_cons (sE_str (s := [98])) sA_nil)))))) (sA_cons (sE_lam (n := 0) (i := 1) (t := 1) (k := 9) (NL := ["desk", "five", "-", "told"]) (ls := ["k"]) (Ng := ["call", "error"]) rfl tk_of rfl (F.glo 33 rfl) (F.fun 33 rfl).kp lkH cdH bdH sc__law_heard rfl (.inl rfl) (hrd_ok F) (F.tb (tfL.getD 1 ("law", none)) (by simp [tfL])) hcd (by kernel_rfl) (hr.mono (by decide)) (lmS_by (by kernel_rfl)) (lmD1 rfl rfl) (lmB1 (y := "k") (fun _ _ _ _ _ _ _ => ⟨_, rfl, fun _ => rfl⟩)) (fun A outer s H E f c hr => (sE_meth (c := 0) rfl (sE_var (i := 0) rfl (.inr (.inr rfl))) F.bench (F.meth 90 rfl) (fnm_ne (by decide +kernel) (by decide +kernel)) (ok_Bench_rename F) tk_lm (hr.mono (by decide)) (bd_Bench_rename F) (sA_cons (sE_str (s := [97])) (sA_cons (sE_str (s := [115, 101, 118, 101, 110, 97, 98])) sA_nil))))) (sA_cons (sE_meth (c := 0) rfl (sE_var (i := 0) rfl (.inr (.inl rfl))) F.bench (F.meth 89 rfl) (fnm_ne (by decide +kernel) (by decide +kernel)) (ok_Bench_take F) tk_of (hr.mono (by decide)) (bd_Bench_take F) (sA_cons (sE_str (s := [98])) sA_nil)) sA_nil))))))
  (sS_cons (s_set sc__law_bounds_right.nd rfl (.inl rfl) (sE_op (oAdd (m := true)) (sE_var (i := 3) rfl (.inl rfl)) (sE_lst (m := false) (sA_cons (sE_lam (n := 0) (i := 1) (t := 1) (k := 9) (NL := ["desk", "five", "k", "told"]) (ls := []) (Ng := ["call", "error"]) rfl tk_of rfl (F.glo 33 rfl) (F.fun 33 rfl).kp lkH cdH bdH sc__law_heard rfl (.inl rfl) (hrd_ok F) (F.tb (tfL.getD 1 ("law", none)) (by simp [tfL])) hcd (by kernel_rfl) (hr.mono (by decide)) (lmS_by (by kernel_rfl)) (lmD0 rfl) (lmB0 (fun _ _ _ _ _ _ => rfl)) (fun A outer s H E f c hr => (sE_meth (c := 0) rfl (sE_var (i := 0) rfl (.inr (.inr rfl))) F.bench (F.meth 95 rfl) (fnm_ne (by decide +kernel) (by decide +kernel)) (ok_Bench_put_joined F) tk_lm (hr.mono (by decide)) (bd_Bench_put_joined F) (sA_cons (sE_str (s := [101, 105, 103, 104, 116, 97, 98, 99])) (sA_cons (sE_str (s := [99])) (sA_cons (sE_str (s := [100])) sA_nil)))))) (sA_cons (sE_ix (sE_meth (c := 0) rfl (sE_var (i := 0) rfl (.inr (.inl rfl))) F.bench (F.meth 85 rfl) (fnm_ne (by decide +kernel) (by decide +kernel)) (ok_Bench_complex_at F) tk_of (hr.mono (by decide)) (bd_Bench_complex_at F) (sA_cons (sE_str (s := [101, 105, 103, 104, 116, 97, 98, 99])) sA_nil)) sE_int) (sA_cons (sE_prop (c := 0) (sE_var (i := 0) rfl (.inr (.inl rfl))) F.bench F.prop (ok_Bench_acts F) (hr.mono (by decide)) (bd_Bench_acts F)) sA_nil))))))
  (sS_cons (s_expr (sE_lm rfl PySem.F.plainAttrs_list PySem.F.slot_list_append PySem.F.type_list_append meApp (sE_var (i := 3) rfl (.inl rfl)) (sA_cons (sE_lam (n := 0) (i := 1) (t := 1) (k := 9) (NL := ["desk", "five", "k", "told"]) (ls := []) (Ng := ["call", "error"]) rfl tk_of rfl (F.glo 33 rfl) (F.fun 33 rfl).kp lkH cdH bdH sc__law_heard rfl (.inl rfl) (hrd_ok F) (F.tb (tfL.getD 1 ("law", none)) (by simp [tfL])) hcd (by kernel_rfl) (hr.mono (by decide)) (lmS_by (by kernel_rfl)) (lmD0 rfl) (lmB0 (fun _ _ _ _ _ _ => rfl)) (fun A outer s H E f c hr => (sE_meth (c := 0) rfl (sE_var (i := 0) rfl (.inr (.inr rfl))) F.bench (F.meth 95 rfl) (fnm_ne (by decide +kernel) (by decide +kernel)) (ok_Bench_put_joined F) tk_lm (hr.mono (by decide)) (bd_Bench_put_joined F) (sA_cons (sE_str (s := [122])) (sA_cons (sE_str (s := [101, 105, 103, 104, 116, 97, 98, 99])) (sA_cons (sE_str (s := [99])) sA_nil)))))) sA_nil)))
  (sS_one (s_ret (sE_callG (ok__law_like F) hgd tk_of (hr.mono (by decide)) rfl (F.glo 32 rfl) (F.fun 32 rfl).kp (bd__law_like F) (sA_cons (sE_var (i := 3) rfl (.inl rfl)) (sA_cons (sE_lst (m := false) (sA_cons (sE_tup (sA_cons (sE_str (s := [103, 114, 101, 97, 116])) (sA_cons sE_int sA_nil))) (sA_cons (sE_tup (sA_cons (sE_str (s := [99, 111, 109, 112, 108, 101, 120])) (sA_cons (sE_tup sA_nil) sA_nil))) (sA_cons sE_int (sA_cons (sE_tup (sA_cons (sE_str (s := [103, 114, 101, 97, 116])) (sA_cons sE_int sA_nil))) (sA_cons (sE_lst (m := false) (sA_cons sE_non sA_nil)) (sA_cons sE_non (sA_cons (sE_lst (m := false) (sA_cons sE_non sA_nil)) (sA_cons sE_int (sA_cons sE_int (sA_cons (sE_tup (sA_cons (sE_str (s := [103, 114, 101, 97, 116])) (sA_cons sE_int sA_nil))) sA_nil))))))))))) sA_nil)))))))))))
end
end EK
end S_EkI
section S_EkJ
/-! EkJ: the program's defs, each by the rules. -/
namespace EK
open PySem PySem.Spec PyProof.Rows L2 Evl EV LamX
section
variable {w : World} {K : PySem.W.Frag} {mg : Str → Option Value} {base : Heap} {gh : G}
theorem sc_Bench___eq__ : FnScope ["self", "other", "same"] ["self", "other"] (defScope (mth 71 1)) := ⟨rfl, rfl, rfl, by decide +kernel, rfl, by decide +kernel, by decide +kernel⟩
theorem bd_Bench___eq__ (F : Fx w K mg base) : Binds K (fdOf K (He.ma K (He.ga K "Bench") "__eq__")) ["self", "other"] [] := FunD.bindsN (F.fun 41 rfl) (fun _ _ _ _ _ _ us hl => match us, hl with | [_, _], _ => rfl)
def F_Bench___eq__ : FF := fDef 3 (sSeq (sIf (tNotF (tOf (fIsiC 0 (fVar 1)))) (sRet (fC (.bl false))) sNil) (sSeq (sSet 2 (fAnd (f2 dEqG (fFld 0 0 (fVar 0)) (fFld 0 0 (fVar 1))) (f2 dEqG (fFld 0 1 (fVar 0)) (fFld 0 1 (fVar 1))))) (sRet (fAnd (fVar 2) (fAnd (f2 dEqG (fProp 0 F_Bench_acts (fVar 0)) (fProp 0 F_Bench_acts (fVar 1))) (f2 dEqG (fFld 0 4 (fVar 0)) (fFld 0 4 (fVar 1))))))))
theorem ok_Bench___eq__ (F : Fx w K mg base) : FnOk pw w K mg base (L2.CX pw w) 3 (He.ma K (He.ga K "Bench") "__eq__") (fdOf K (He.ma K (He.ga K "Bench") "__eq__")) ["self", "other"] (spF (Pk w K gh) 2 F_Bench___eq__) := fn_evD (k := 2) (N := ["self", "other", "same"]) (ps := ["self", "other"]) (F.fun 41 rfl) sc_Bench___eq__ fun cdv A outer s₀ H E hr =>
  (sS_cons (s_if (sT_not (sT_val (sE_isiC (c := 0) rfl F.isiC rfl (F.free 50 rfl) rfl (F.glo 40 rfl) (by decide) (sE_var (i := 1) rfl (.inl rfl))))) (sS_one (s_ret sE_bl)) sS_nil)
  (sS_cons (s_set sc_Bench___eq__.nd rfl (.inl rfl) (sE_and (sE_cmp (oEqG (rm_of hr)) (sE_fld (c := 0) (j := 0) rfl F.bench (F.noat 74 rfl) rfl (own_q rfl) (sE_var (i := 0) rfl (.inl rfl))) (sE_fld (c := 0) (j := 0) rfl F.bench (F.noat 74 rfl) rfl (own_q rfl) (sE_var (i := 1) rfl (.inl rfl)))) (sE_one (sE_cmp (oEqG (rm_of hr)) (sE_fld (c := 0) (j := 1) rfl F.bench (F.noat 75 rfl) rfl (own_q rfl) (sE_var (i := 0) rfl (.inl rfl))) (sE_fld (c := 0) (j := 1) rfl F.bench (F.noat 75 rfl) rfl (own_q rfl) (sE_var (i := 1) rfl (.inl rfl)))))))
  (sS_one (s_ret (sE_and (sE_var (i := 2) rfl (.inl rfl)) (sE_and (sE_cmp (oEqG (rm_of hr)) (sE_prop (c := 0) (sE_var (i := 0) rfl (.inl rfl)) F.bench F.prop (ok_Bench_acts F) (hr.mono (by decide)) (bd_Bench_acts F)) (sE_prop (c := 0) (sE_var (i := 1) rfl (.inl rfl)) F.bench F.prop (ok_Bench_acts F) (hr.mono (by decide)) (bd_Bench_acts F))) (sE_one (sE_cmp (oEqG (rm_of hr)) (sE_fld (c := 0) (j := 4) rfl F.bench (F.noat 78 rfl) rfl (own_q rfl) (sE_var (i := 0) rfl (.inl rfl))) (sE_fld (c := 0) (j := 4) rfl F.bench (F.noat 78 rfl) rfl (own_q rfl) (sE_var (i := 1) rfl (.inl rfl)))))))))))
theorem sc_Bench_asked : FnScope ["self", "name", "body"] ["self", "name"] (defScope (mth 71 21)) := ⟨rfl, rfl, rfl, by decide +kernel, rfl, by decide +kernel, by decide +kernel⟩
theorem bd_Bench_asked (F : Fx w K mg base) : Binds K (fdOf K (He.ma K (He.ga K "Bench") "asked")) ["self", "name"] [] := FunD.bindsN (F.fun 60 rfl) (fun _ _ _ _ _ _ us hl => match us, hl with | [_, _], _ => rfl)
def F_Bench_asked : FF := fDef 3 (sSeq (sSet 2 (f2 dGet (fFld 0 1 (fVar 0)) (fVar 1))) (sSeq (sIf (tOf (f2 (dIn true) (fVar 2) (fFld 0 4 (fVar 0)))) (sPut (fFld 0 4 (fVar 0)) (fVar 2) (fB gTuple (fCons (fCall 2 F_holes_in (fCons (fFld 0 0 (fVar 0)) (fCons (fVar 2) fNil))) fNil))) sNil) (sRet (f2 dGet (fFld 0 4 (fVar 0)) (fVar 2)))))
theorem ok_Bench_asked (F : Fx w K mg base) : FnOk pw w K mg base (L2.CX pw w) 7 (He.ma K (He.ga K "Bench") "asked") (fdOf K (He.ma K (He.ga K "Bench") "asked")) ["self", "name"] (spF (Pk w K gh) 2 F_Bench_asked) := fn_evD (k := 6) (N := ["self", "name", "body"]) (ps := ["self", "name"]) (F.fun 60 rfl) sc_Bench_asked fun cdv A outer s₀ H E hr =>
  (sS_cons (s_set sc_Bench_asked.nd rfl (.inl rfl) (sE_dget (rm_of hr) (sE_fld (c := 0) (j := 1) rfl F.bench (F.noat 75 rfl) rfl (own_q rfl) (sE_var (i := 0) rfl (.inl rfl))) (sE_var (i := 1) rfl (.inl rfl))))
  (sS_cons (s_if (sT_cmp (oNotInA (rm_of hr)) (sE_var (i := 2) rfl (.inl rfl)) (sE_fld (c := 0) (j := 4) rfl F.bench (F.noat 78 rfl) rfl (own_q rfl) (sE_var (i := 0) rfl (.inl rfl)))) (sS_one (s_put (rm_of hr) (sE_fld (c := 0) (j := 4) rfl F.bench (F.noat 78 rfl) rfl (own_q rfl) (sE_var (i := 0) rfl (.inl rfl))) (sE_var (i := 2) rfl (.inl rfl)) (sE_bt cTuple rfl (F.free 55 rfl) (by kernel_rfl) (sA_cons (sE_call (ok_holes_in F) tk_of (hr.mono (by decide)) rfl (F.glo 25 rfl) (F.fun 25 rfl).kp (bd_holes_in F) (sA_cons (sE_fld (c := 0) (j := 0) rfl F.bench (F.noat 74 rfl) rfl (own_q rfl) (sE_var (i := 0) rfl (.inl rfl))) (sA_cons (sE_var (i := 2) rfl (.inl rfl)) sA_nil))) sA_nil)))) sS_nil)
  (sS_one (s_ret (sE_dget (rm_of hr) (sE_fld (c := 0) (j := 4) rfl F.bench (F.noat 78 rfl) rfl (own_q rfl) (sE_var (i := 0) rfl (.inl rfl))) (sE_var (i := 2) rfl (.inl rfl)))))))
theorem sc_Bench_holes_at : FnScope ["self", "name"] ["self", "name"] (defScope (mth 71 22)) := ⟨rfl, rfl, rfl, by decide +kernel, rfl, by decide +kernel, by decide +kernel⟩
theorem bd_Bench_holes_at (F : Fx w K mg base) : Binds K (fdOf K (He.ma K (He.ga K "Bench") "holes_at")) ["self", "name"] [] := FunD.bindsN (F.fun 61 rfl) (fun _ _ _ _ _ _ us hl => match us, hl with | [_, _], _ => rfl)
def F_Bench_holes_at : FF := fDef 2 (sRet (fMeth 0 2 F_Bench_asked (fVar 0) (fCons (fMeth 0 2 F_Bench_need_there (fVar 0) (fCons (fVar 1) fNil)) fNil)))
theorem ok_Bench_holes_at (F : Fx w K mg base) : FnOk pw w K mg base (L2.CX pw w) 8 (He.ma K (He.ga K "Bench") "holes_at") (fdOf K (He.ma K (He.ga K "Bench") "holes_at")) ["self", "name"] (spF (Pk w K gh) 2 F_Bench_holes_at) := fn_evD (k := 7) (N := ["self", "name"]) (ps := ["self", "name"]) (F.fun 61 rfl) sc_Bench_holes_at fun cdv A outer s₀ H E hr =>
  (sS_one (s_ret (sE_meth (c := 0) rfl (sE_var (i := 0) rfl (.inl rfl)) F.bench (F.meth 98 rfl) (fnm_ne (by decide +kernel) (by decide +kernel)) (ok_Bench_asked F) tk_of (hr.mono (by decide)) (bd_Bench_asked F) (sA_cons (sE_meth (c := 0) rfl (sE_var (i := 0) rfl (.inl rfl)) F.bench (F.meth 83 rfl) (fnm_ne (by decide +kernel) (by decide +kernel)) (ok_Bench_need_there F) tk_of (hr.mono (by decide)) (bd_Bench_need_there F) (sA_cons (sE_var (i := 1) rfl (.inl rfl)) sA_nil)) sA_nil))))
theorem sc_Bench_undo : FnScope ["self"] ["self"] (defScope (mth 71 18)) := ⟨rfl, rfl, rfl, by decide +kernel, rfl, by decide +kernel, by decide +kernel⟩
theorem bd_Bench_undo (F : Fx w K mg base) : Binds K (fdOf K (He.ma K (He.ga K "Bench") "undo")) ["self"] [] := FunD.bindsN (F.fun 58 rfl) (fun _ _ _ _ _ _ us hl => match us, hl with | [_], _ => rfl)
def F_Bench_undo : FF := fDef 1 (sSeq (sIf (tOf (f2 dEqG (fFld 0 2 (fVar 0)) (fLst false fNil))) (sRaise0 6) sNil) (sSeq (sEx (fMl mApp (fFld 0 3 (fVar 0)) (fCons (fFld 0 1 (fVar 0)) fNil))) (sFd 0 1 (fVar 0) (fFz (fMl mPop (fFld 0 2 (fVar 0)) fNil)))))
theorem ok_Bench_undo (F : Fx w K mg base) : FnOk pw w K mg base (L2.CX pw w) 1 (He.ma K (He.ga K "Bench") "undo") (fdOf K (He.ma K (He.ga K "Bench") "undo")) ["self"] (spF (Pk w K gh) 1 F_Bench_undo) := fn_evD (k := 0) (N := ["self"]) (ps := ["self"]) (F.fun 58 rfl) sc_Bench_undo fun cdv A outer s₀ H E hr =>
  (sS_cons (s_if (sT_cmp (oEqG (rm_of hr)) (sE_fld (c := 0) (j := 2) rfl F.bench (F.noat 76 rfl) rfl (own_q rfl) (sE_var (i := 0) rfl (.inl rfl))) (sE_lst (m := false) sA_nil)) (sS_one (s_raise0 (c := 6) tk_of rfl PySem.F.excBase_ValueError (He.exc_ok (F.fact 106 rfl)).1 (F.glo 49 rfl) (He.exc_ok (F.fact 106 rfl)).2.1 (raises_own (He.exc_ok (F.fact 106 rfl)).2.2.1 (He.exc_ok (F.fact 106 rfl)).2.2.2) rfl)) sS_nil)
  (sS_cons (s_expr (sE_lm rfl PySem.F.plainAttrs_list PySem.F.slot_list_append PySem.F.type_list_append meApp (sE_fld (c := 0) (j := 3) rfl F.bench (F.noat 77 rfl) rfl (own_q rfl) (sE_var (i := 0) rfl (.inl rfl))) (sA_cons (sE_fld (c := 0) (j := 1) rfl F.bench (F.noat 75 rfl) rfl (own_q rfl) (sE_var (i := 0) rfl (.inl rfl))) sA_nil)))
  (sS_one (s_fld (c := 0) (j := 1) rfl F.bench (F.noat 75 rfl) rfl (own_q rfl) (sE_var (i := 0) rfl (.inl rfl)) (sE_fz (sE_lm0 rfl PySem.F.plainAttrs_list PySem.F.slot_list_pop PySem.F.type_list_pop mePop (sE_fld (c := 0) (j := 2) rfl F.bench (F.noat 76 rfl) rfl (own_q rfl) (sE_var (i := 0) rfl (.inl rfl)))))))))
theorem sc__law_equal_right : FnScope ["near", "far", "tag", "told", "complex_so", "one", "two"] [] (defScope (top 82)) := ⟨rfl, rfl, rfl, by decide +kernel, rfl, by decide +kernel, by decide +kernel⟩
theorem bd__law_equal_right (F : Fx w K mg base) : Binds K (fdOf K (He.ga K "_law_equal_right")) [] [] := FunD.bindsN (F.fun 38 rfl) (fun _ _ _ _ _ _ us hl => match us, hl with | [], _ => rfl)
def F__law_equal_right : FF := fDef 7 (sSeq (sPar 0 1 (fCons (fCall 0 F__law_some_bench fNil) (fCons (fMk 0 2 F_Bench___init__ (fCons (fC (.int 5)) fNil)) fNil))) (sSeq (sFor (iTp (fTup (fCons (fC (.str [102, 117, 108, 108])) (fCons (fC (.str [98])) (fCons (fC (.str [97])) fNil))))) (gNm 2) (sEx (fMeth 0 3 F_Bench_put (fVar 1) (fCons (fVar 2) (fCons (fMeth 0 2 F_Bench_complex_at (fVar 0) (fCons (fVar 2) fNil)) fNil))))) (sSeq (sSet 3 (fLst true (fCons (f2 (dEqO 0 F_Bench___eq__) (fVar 0) (fVar 1)) (fCons (f2 (dNeO 0 F_Bench___eq__) (fVar 0) (fVar 1)) (fCons (f2 (dEqO 0 F_Bench___eq__) (fVar 0) (fC .non)) (fCons (f2 (dEqO 0 F_Bench___eq__) (fVar 0) (fC (.int 5))) (fCons (f2 (dEqO 0 F_Bench___eq__) (fVar 0) (fMk 0 2 F_Bench___init__ (fCons (fC (.int 5)) fNil))) fNil))))))) (sSeq (sEx (fMeth 0 2 F_Bench_holes_at (fVar 0) (fCons (fC (.str [97])) fNil))) (sSeq (sEx (fMeth 0 2 F_Bench_holes_at (fVar 0) (fCons (fC (.str [98])) fNil))) (sSeq (sEx (fMl mApp (fVar 3) (fCons (f2 (dEqO 0 F_Bench___eq__) (fVar 0) (fVar 1)) fNil))) (sSeq (sEx (fMeth 0 2 F_Bench_holes_at (fVar 1) (fCons (fC (.str [98])) fNil))) (sSeq (sEx (fMl mApp (fVar 3) (fCons (f2 (dEqO 0 F_Bench___eq__) (fVar 0) (fVar 1)) fNil))) (sSeq (sEx (fMeth 0 2 F_Bench_holes_at (fVar 1) (fCons (fC (.str [97])) fNil))) (sSeq (sEx (fMl mApp (fVar 3) (fCons (f2 (dEqO 0 F_Bench___eq__) (fVar 0) (fVar 1)) fNil))) (sSeq (sEx (fMeth 0 2 F_Bench_take (fVar 0) (fCons (fC (.str [97])) fNil))) (sSeq (sEx (fMeth 0 1 F_Bench_undo (fVar 0) fNil)) (sSeq (sEx (fMl mApp (fVar 3) (fCons (f2 (dEqO 0 F_Bench___eq__) (fVar 0) (fVar 1)) fNil))) (sSeq (sEx (fMeth 0 3 F_Bench_rename (fVar 0) (fCons (fC (.str [97])) (fCons (fC (.str [99])) fNil)))) (sSeq (sEx (fMeth 0 3 F_Bench_rename (fVar 0) (fCons (fC (.str [99])) (fCons (fC (.str [97])) fNil)))) (sSeq (sSet 3 (f2 (dAdd true) (fVar 3) (fLst false (fCons (f2 (dEqO 0 F_Bench___eq__) (fVar 0) (fVar 1)) (fCons (f2 (dEqO 0 F_Bench___eq__) (fMk 0 2 F_Bench___init__ (fCons (fC (.int 2)) fNil)) (fMk 0 2 F_Bench___init__ (fCons (fC (.int 3)) fNil))) (fCons (f2 (dEqO 0 F_Bench___eq__) (fMk 0 2 F_Bench___init__ (fCons (fC (.int 7)) fNil)) (fMk 0 2 F_Bench___init__ (fCons (fC (.int 7)) fNil))) fNil)))))) (sSeq (sIf (tOf (f2 dNeG (fVar 3) (fLst false (fCons (fC (.bl true)) (fCons (fC (.bl false)) (fCons (fC (.bl false)) (fCons (fC (.bl false)) (fCons (fC (.bl false)) (fCons (fC (.bl false)) (fCons (fC (.bl false)) (fCons (fC (.bl true)) (fCons (fC (.bl true)) (fCons (fC (.bl false)) (fCons (fC (.bl false)) (fCons (fC (.bl true)) fNil))))))))))))))) (sRet (fC (.bl false))) sNil) (sSeq (sSet 3 (fLst true fNil)) (sSeq (sFor (iTp (fTup (fCons (fTup (fCons (fC (.str [115, 101, 118, 101, 110, 97, 98])) (fCons (fTup (fCons (fC (.int 2)) (fCons (fTup (fCons (fTup (fCons (fC (.int 0)) fNil)) fNil)) fNil))) fNil))) (fCons (fTup (fCons (fC (.str [115, 101, 118, 101, 110, 97, 98])) (fCons (fTup (fCons (fC (.int 2)) (fCons (fTup (fCons (fTup (fCons (fC (.int 1)) fNil)) fNil)) fNil))) fNil))) (fCons (fTup (fCons (fC (.str [115, 101, 118, 101, 110, 97, 99])) (fCons (fTup (fCons (fC (.int 2)) (fCons (fTup (fCons (fTup (fCons (fC (.int 0)) fNil)) fNil)) fNil))) fNil))) (fCons (fTup (fCons (fC (.str [115, 101, 118, 101, 110, 97, 98])) (fCons (fTup (fCons (fC (.int 3)) (fCons (fTup (fCons (fTup (fCons (fC (.int 0)) fNil)) fNil)) fNil))) fNil))) fNil)))))) (gTp 2 (gsCons (gNm 2) (gsCons (gNm 4) gsNil))) (sSeq (sPar 5 6 (fCons (fMk 0 2 F_Bench___init__ (fCons (fC (.int 2)) fNil)) (fCons (fMk 0 2 F_Bench___init__ (fCons (fC (.int 2)) fNil)) fNil))) (sSeq (sEx (fMeth 0 3 F_Bench_put (fVar 5) (fCons (fC (.str [115, 101, 118, 101, 110, 97, 98])) (fCons (fTup (fCons (fC (.int 2)) (fCons (fTup (fCons (fTup (fCons (fC (.int 0)) fNil)) fNil)) fNil))) fNil)))) (sSeq (sEx (fMeth 0 3 F_Bench_put (fVar 6) (fCons (fVar 2) (fCons (fVar 4) fNil)))) (sEx (fMl mApp (fVar 3) (fCons (f2 (dEqO 0 F_Bench___eq__) (fVar 5) (fVar 6)) fNil))))))) (sRet (f2 dEqG (fVar 3) (fLst false (fCons (fC (.bl true)) (fCons (fC (.bl false)) (fCons (fC (.bl false)) (fCons (fC (.bl false)) fNil))))))))))))))))))))))))))
theorem ok__law_equal_right (F : Fx w K mg base) : FnOk pw w K mg base (L2.CX pw w) 11 (He.ga K "_law_equal_right") (fdOf K (He.ga K "_law_equal_right")) [] (spF (Pk w K gh) 0 F__law_equal_right) := fn_evD (k := 10) (N := ["near", "far", "tag", "told", "complex_so", "one", "two"]) (ps := []) (F.fun 38 rfl) sc__law_equal_right fun cdv A outer s₀ H E hr =>
  (sS_cons (s_par rfl sc__law_equal_right.nd rfl rfl (by decide) rfl rfl (sA_cons (sE_call0 (ok__law_some_bench F) tk_of (hr.mono (by decide)) rfl (F.glo 34 rfl) (F.fun 34 rfl).kp (bd__law_some_bench F)) (sA_cons (sE_mk (c := 0) (F.mkr 73 rfl) (ok_Bench___init__ F) tk_of (hr.mono (by decide)) rfl (F.glo 40 rfl) (bd_Bench___init__ F) (sA_cons sE_int sA_nil)) sA_nil)) (by kernel_rfl))
  (sS_cons (s_for (vs := [2]) po_of rfl (sI_tup (sE_tup (sA_cons (sE_str (s := [102, 117, 108, 108])) (sA_cons (sE_str (s := [98])) (sA_cons (sE_str (s := [97])) sA_nil))))) (sG_name sc__law_equal_right.nd rfl (.inl rfl)) (sS_one (s_expr (sE_meth (c := 0) rfl (sE_var (i := 1) rfl (.inl rfl)) F.bench (F.meth 88 rfl) (fnm_ne (by decide +kernel) (by decide +kernel)) (ok_Bench_put F) tk_of (hr.mono (by decide)) (bd_Bench_put F) (sA_cons (sE_var (i := 2) rfl (.inl rfl)) (sA_cons (sE_meth (c := 0) rfl (sE_var (i := 0) rfl (.inl rfl)) F.bench (F.meth 85 rfl) (fnm_ne (by decide +kernel) (by decide +kernel)) (ok_Bench_complex_at F) tk_of (hr.mono (by decide)) (bd_Bench_complex_at F) (sA_cons (sE_var (i := 2) rfl (.inl rfl)) sA_nil)) sA_nil))))))
  (sS_cons (s_set sc__law_equal_right.nd rfl (.inl rfl) (sE_lst (m := true) (sA_cons (sE_cmp (oEqO (c := 0) (ok_Bench___eq__ F) tk_of (hr.mono (by decide)) (bd_Bench___eq__ F) F.eqC) (sE_var (i := 0) rfl (.inl rfl)) (sE_var (i := 1) rfl (.inl rfl))) (sA_cons (sE_cmp (oNeO (c := 0) (ok_Bench___eq__ F) tk_of (hr.mono (by decide)) (bd_Bench___eq__ F) F.eqC) (sE_var (i := 0) rfl (.inl rfl)) (sE_var (i := 1) rfl (.inl rfl))) (sA_cons (sE_cmp (oEqO (c := 0) (ok_Bench___eq__ F) tk_of (hr.mono (by decide)) (bd_Bench___eq__ F) F.eqC) (sE_var (i := 0) rfl (.inl rfl)) sE_non) (sA_cons (sE_cmp (oEqO (c := 0) (ok_Bench___eq__ F) tk_of (hr.mono (by decide)) (bd_Bench___eq__ F) F.eqC) (sE_var (i := 0) rfl (.inl rfl)) sE_int) (sA_cons (sE_cmp (oEqO (c := 0) (ok_Bench___eq__ F) tk_of (hr.mono (by decide)) (bd_Bench___eq__ F) F.eqC) (sE_var (i := 0) rfl (.inl rfl)) (sE_mk (c := 0) (F.mkr 73 rfl) (ok_Bench___init__ F) tk_of (hr.mono (by decide)) rfl (F.glo 40 rfl) (bd_Bench___init__ F) (sA_cons sE_int sA_nil))) sA_nil)))))))
  (sS_cons (s_expr (sE_meth (c := 0) rfl (sE_var (i := 0) rfl (.inl rfl)) F.bench (F.meth 99 rfl) (fnm_ne (by decide +kernel) (by decide +kernel)) (ok_Bench_holes_at F) tk_of (hr.mono (by decide)) (bd_Bench_holes_at F) (sA_cons (sE_str (s := [97])) sA_nil)))
  (sS_cons (s_expr (sE_meth (c := 0) rfl (sE_var (i := 0) rfl (.inl rfl)) F.bench (F.meth 99 rfl) (fnm_ne (by decide +kernel) (by decide +kernel)) (ok_Bench_holes_at F) tk_of (hr.mono (by decide)) (bd_Bench_holes_at F) (sA_cons (sE_str (s := [98])) sA_nil)))
  (sS_cons (s_expr (sE_lm rfl PySem.F.plainAttrs_list PySem.F.slot_list_append PySem.F.type_list_append meApp (sE_var (i := 3) rfl (.inl rfl)) (sA_cons (sE_cmp (oEqO (c := 0) (ok_Bench___eq__ F) tk_of (hr.mono (by decide)) (bd_Bench___eq__ F) F.eqC) (sE_var (i := 0) rfl (.inl rfl)) (sE_var (i := 1) rfl (.inl rfl))) sA_nil)))
  (sS_cons (s_expr (sE_meth (c := 0) rfl (sE_var (i := 1) rfl (.inl rfl)) F.bench (F.meth 99 rfl) (fnm_ne (by decide +kernel) (by decide +kernel)) (ok_Bench_holes_at F) tk_of (hr.mono (by decide)) (bd_Bench_holes_at F) (sA_cons (sE_str (s := [98])) sA_nil)))
  (sS_cons (s_expr (sE_lm rfl PySem.F.plainAttrs_list PySem.F.slot_list_append PySem.F.type_list_append meApp (sE_var (i := 3) rfl (.inl rfl)) (sA_cons (sE_cmp (oEqO (c := 0) (ok_Bench___eq__ F) tk_of (hr.mono (by decide)) (bd_Bench___eq__ F) F.eqC) (sE_var (i := 0) rfl (.inl rfl)) (sE_var (i := 1) rfl (.inl rfl))) sA_nil)))
  (sS_cons (s_expr (sE_meth (c := 0) rfl (sE_var (i := 1) rfl (.inl rfl)) F.bench (F.meth 99 rfl) (fnm_ne (by decide +kernel) (by decide +kernel)) (ok_Bench_holes_at F) tk_of (hr.mono (by decide)) (bd_Bench_holes_at F) (sA_cons (sE_str (s := [97])) sA_nil)))
  (sS_cons (s_expr (sE_lm rfl PySem.F.plainAttrs_list PySem.F.slot_list_append PySem.F.type_list_append meApp (sE_var (i := 3) rfl (.inl rfl)) (sA_cons (sE_cmp (oEqO (c := 0) (ok_Bench___eq__ F) tk_of (hr.mono (by decide)) (bd_Bench___eq__ F) F.eqC) (sE_var (i := 0) rfl (.inl rfl)) (sE_var (i := 1) rfl (.inl rfl))) sA_nil)))
  (sS_cons (s_expr (sE_meth (c := 0) rfl (sE_var (i := 0) rfl (.inl rfl)) F.bench (F.meth 89 rfl) (fnm_ne (by decide +kernel) (by decide +kernel)) (ok_Bench_take F) tk_of (hr.mono (by decide)) (bd_Bench_take F) (sA_cons (sE_str (s := [97])) sA_nil)))
  (sS_cons (s_expr (sE_meth0 (c := 0) rfl (sE_var (i := 0) rfl (.inl rfl)) F.bench (F.meth 96 rfl) (fnm_ne (by decide +kernel) (by decide +kernel)) (ok_Bench_undo F) tk_of (hr.mono (by decide)) (bd_Bench_undo F)))
  (sS_cons (s_expr (sE_lm rfl PySem.F.plainAttrs_list PySem.F.slot_list_append PySem.F.type_list_append meApp (sE_var (i := 3) rfl (.inl rfl)) (sA_cons (sE_cmp (oEqO (c := 0) (ok_Bench___eq__ F) tk_of (hr.mono (by decide)) (bd_Bench___eq__ F) F.eqC) (sE_var (i := 0) rfl (.inl rfl)) (sE_var (i := 1) rfl (.inl rfl))) sA_nil)))
  (sS_cons (s_expr (sE_meth (c := 0) rfl (sE_var (i := 0) rfl (.inl rfl)) F.bench (F.meth 90 rfl) (fnm_ne (by decide +kernel) (by decide +kernel)) (ok_Bench_rename F) tk_of (hr.mono (by decide)) (bd_Bench_rename F) (sA_cons (sE_str (s := [97])) (sA_cons (sE_str (s := [99])) sA_nil))))
  (sS_cons (s_expr (sE_meth (c := 0) rfl (sE_var (i := 0) rfl (.inl rfl)) F.bench (F.meth 90 rfl) (fnm_ne (by decide +kernel) (by decide +kernel)) (ok_Bench_rename F) tk_of (hr.mono (by decide)) (bd_Bench_rename F) (sA_cons (sE_str (s := [99])) (sA_cons (sE_str (s := [97])) sA_nil))))
  (sS_cons (s_set sc__law_equal_right.nd rfl (.inl rfl) (sE_op (oAdd (m := true)) (sE_var (i := 3) rfl (.inl rfl)) (sE_lst (m := false) (sA_cons (sE_cmp (oEqO (c := 0) (ok_Bench___eq__ F) tk_of (hr.mono (by decide)) (bd_Bench___eq__ F) F.eqC) (sE_var (i := 0) rfl (.inl rfl)) (sE_var (i := 1) rfl (.inl rfl))) (sA_cons (sE_cmp (oEqO (c := 0) (ok_Bench___eq__ F) tk_of (hr.mono (by decide)) (bd_Bench___eq__ F) F.eqC) (sE_mk (c := 0) (F.mkr 73 rfl) (ok_Bench___init__ F) tk_of (hr.mono (by decide)) rfl (F.glo 40 rfl) (bd_Bench___init__ F) (sA_cons sE_int sA_nil)) (sE_mk (c := 0) (F.mkr 73 rfl) (ok_Bench___init__ F) tk_of (hr.mono (by decide)) rfl (F.glo 40 rfl) (bd_Bench___init__ F) (sA_cons sE_int sA_nil))) (sA_cons (sE_cmp (oEqO (c := 0) (ok_Bench___eq__ F) tk_of (hr.mono (by decide)) (bd_Bench___eq__ F) F.eqC) (sE_mk (c := 0) (F.mkr 73 rfl) (ok_Bench___init__ F) tk_of (hr.mono (by decide)) rfl (F.glo 40 rfl) (bd_Bench___init__ F) (sA_cons sE_int sA_nil)) (sE_mk (c := 0) (F.mkr 73 rfl) (ok_Bench___init__ F) tk_of (hr.mono (by decide)) rfl (F.glo 40 rfl) (bd_Bench___init__ F) (sA_cons sE_int sA_nil))) sA_nil))))))
  (sS_cons (s_if (sT_cmp (oNeG (rm_of hr)) (sE_var (i := 3) rfl (.inl rfl)) (sE_lst (m := false) (sA_cons sE_bl (sA_cons sE_bl (sA_cons sE_bl (sA_cons sE_bl (sA_cons sE_bl (sA_cons sE_bl (sA_cons sE_bl (sA_cons sE_bl (sA_cons sE_bl (sA_cons sE_bl (sA_cons sE_bl (sA_cons sE_bl sA_nil)))))))))))))) (sS_one (s_ret sE_bl)) sS_nil)
  (sS_cons (s_set sc__law_equal_right.nd rfl (.inl rfl) (sE_lst (m := true) sA_nil))
  (sS_cons (s_for (vs := [2, 4]) po_of rfl (sI_tup (sE_tup (sA_cons (sE_tup (sA_cons (sE_str (s := [115, 101, 118, 101, 110, 97, 98])) (sA_cons (sE_tup (sA_cons sE_int (sA_cons (sE_tup (sA_cons (sE_tup (sA_cons sE_int sA_nil)) sA_nil)) sA_nil))) sA_nil))) (sA_cons (sE_tup (sA_cons (sE_str (s := [115, 101, 118, 101, 110, 97, 98])) (sA_cons (sE_tup (sA_cons sE_int (sA_cons (sE_tup (sA_cons (sE_tup (sA_cons sE_int sA_nil)) sA_nil)) sA_nil))) sA_nil))) (sA_cons (sE_tup (sA_cons (sE_str (s := [115, 101, 118, 101, 110, 97, 99])) (sA_cons (sE_tup (sA_cons sE_int (sA_cons (sE_tup (sA_cons (sE_tup (sA_cons sE_int sA_nil)) sA_nil)) sA_nil))) sA_nil))) (sA_cons (sE_tup (sA_cons (sE_str (s := [115, 101, 118, 101, 110, 97, 98])) (sA_cons (sE_tup (sA_cons sE_int (sA_cons (sE_tup (sA_cons (sE_tup (sA_cons sE_int sA_nil)) sA_nil)) sA_nil))) sA_nil))) sA_nil)))))) (sG_tup rfl (sGs_cons (sG_name sc__law_equal_right.nd rfl (.inl rfl)) (sGs_cons (sG_name sc__law_equal_right.nd rfl (.inl rfl)) sGs_nil))) (sS_cons (s_par rfl sc__law_equal_right.nd rfl rfl (by decide) rfl rfl (sA_cons (sE_mk (c := 0) (F.mkr 73 rfl) (ok_Bench___init__ F) tk_of (hr.mono (by decide)) rfl (F.glo 40 rfl) (bd_Bench___init__ F) (sA_cons sE_int sA_nil)) (sA_cons (sE_mk (c := 0) (F.mkr 73 rfl) (ok_Bench___init__ F) tk_of (hr.mono (by decide)) rfl (F.glo 40 rfl) (bd_Bench___init__ F) (sA_cons sE_int sA_nil)) sA_nil)) (by kernel_rfl))
  (sS_cons (s_expr (sE_meth (c := 0) rfl (sE_var (i := 5) rfl (.inl rfl)) F.bench (F.meth 88 rfl) (fnm_ne (by decide +kernel) (by decide +kernel)) (ok_Bench_put F) tk_of (hr.mono (by decide)) (bd_Bench_put F) (sA_cons (sE_str (s := [115, 101, 118, 101, 110, 97, 98])) (sA_cons (sE_tup (sA_cons sE_int (sA_cons (sE_tup (sA_cons (sE_tup (sA_cons sE_int sA_nil)) sA_nil)) sA_nil))) sA_nil))))
  (sS_cons (s_expr (sE_meth (c := 0) rfl (sE_var (i := 6) rfl (.inl rfl)) F.bench (F.meth 88 rfl) (fnm_ne (by decide +kernel) (by decide +kernel)) (ok_Bench_put F) tk_of (hr.mono (by decide)) (bd_Bench_put F) (sA_cons (sE_var (i := 2) rfl (.inl rfl)) (sA_cons (sE_var (i := 4) rfl (.inl rfl)) sA_nil))))
  (sS_one (s_expr (sE_lm rfl PySem.F.plainAttrs_list PySem.F.slot_list_append PySem.F.type_list_append meApp (sE_var (i := 3) rfl (.inl rfl)) (sA_cons (sE_cmp (oEqO (c := 0) (ok_Bench___eq__ F) tk_of (hr.mono (by decide)) (bd_Bench___eq__ F) F.eqC) (sE_var (i := 5) rfl (.inl rfl)) (sE_var (i := 6) rfl (.inl rfl))) sA_nil))))))))
  (sS_one (s_ret (sE_cmp (oEqG (rm_of hr)) (sE_var (i := 3) rfl (.inl rfl)) (sE_lst (m := false) (sA_cons sE_bl (sA_cons sE_bl (sA_cons sE_bl (sA_cons sE_bl sA_nil)))))))))))))))))))))))))))
theorem sc_Bench_copy : FnScope ["self", "twin"] ["self"] (defScope (mth 71 2)) := ⟨rfl, rfl, rfl, by decide +kernel, rfl, by decide +kernel, by decide +kernel⟩
theorem bd_Bench_copy (F : Fx w K mg base) : Binds K (fdOf K (He.ma K (He.ga K "Bench") "copy")) ["self"] [] := FunD.bindsN (F.fun 42 rfl) (fun _ _ _ _ _ _ us hl => match us, hl with | [_], _ => rfl)
def F_Bench_copy : FF := fDef 2 (sSeq (sSet 1 (fMk 0 2 F_Bench___init__ (fCons (fFld 0 0 (fVar 0)) fNil))) (sSeq (sFd2 0 1 4 (fVar 1) (fVar 1) (fFz (fB gDict (fCons (fFld 0 1 (fVar 0)) fNil))) (fB gDict (fCons (fFld 0 4 (fVar 0)) fNil))) (sSeq (sFd2 0 2 3 (fVar 1) (fVar 1) (fB (gList true) (fCons (fFld 0 2 (fVar 0)) fNil)) (fB (gList true) (fCons (fFld 0 3 (fVar 0)) fNil))) (sRet (fVar 1)))))
theorem ok_Bench_copy (F : Fx w K mg base) : FnOk pw w K mg base (L2.CX pw w) 8 (He.ma K (He.ga K "Bench") "copy") (fdOf K (He.ma K (He.ga K "Bench") "copy")) ["self"] (spF (Pk w K gh) 1 F_Bench_copy) := fn_evD (k := 7) (N := ["self", "twin"]) (ps := ["self"]) (F.fun 42 rfl) sc_Bench_copy fun cdv A outer s₀ H E hr =>
  (sS_cons (s_set sc_Bench_copy.nd rfl (.inl rfl) (sE_mk (c := 0) (F.mkr 73 rfl) (ok_Bench___init__ F) tk_of (hr.mono (by decide)) rfl (F.glo 40 rfl) (bd_Bench___init__ F) (sA_cons (sE_fld (c := 0) (j := 0) rfl F.bench (F.noat 74 rfl) rfl (own_q rfl) (sE_var (i := 0) rfl (.inl rfl))) sA_nil)))
  (sS_cons (s_fld2 (c := 0) (j := 1) (j' := 4) rfl rfl F.bench (F.noat 75 rfl) rfl (own_q rfl) (F.noat 78 rfl) rfl (own_q rfl) (sE_var (i := 1) rfl (.inl rfl)) (sE_var (i := 1) rfl (.inl rfl)) (sE_fz (sE_bt cDict rfl (F.free 57 rfl) (by kernel_rfl) (sA_cons (sE_fld (c := 0) (j := 1) rfl F.bench (F.noat 75 rfl) rfl (own_q rfl) (sE_var (i := 0) rfl (.inl rfl))) sA_nil))) (sE_bt cDict rfl (F.free 57 rfl) (by kernel_rfl) (sA_cons (sE_fld (c := 0) (j := 4) rfl F.bench (F.noat 78 rfl) rfl (own_q rfl) (sE_var (i := 0) rfl (.inl rfl))) sA_nil)))
  (sS_cons (s_fld2 (c := 0) (j := 2) (j' := 3) rfl rfl F.bench (F.noat 76 rfl) rfl (own_q rfl) (F.noat 77 rfl) rfl (own_q rfl) (sE_var (i := 1) rfl (.inl rfl)) (sE_var (i := 1) rfl (.inl rfl)) (sE_bt (cList (m := true)) rfl (F.free 56 rfl) (by kernel_rfl) (sA_cons (sE_fld (c := 0) (j := 2) rfl F.bench (F.noat 76 rfl) rfl (own_q rfl) (sE_var (i := 0) rfl (.inl rfl))) sA_nil)) (sE_bt (cList (m := true)) rfl (F.free 56 rfl) (by kernel_rfl) (sA_cons (sE_fld (c := 0) (j := 3) rfl F.bench (F.noat 77 rfl) rfl (own_q rfl) (sE_var (i := 0) rfl (.inl rfl))) sA_nil)))
  (sS_one (s_ret (sE_var (i := 1) rfl (.inl rfl)))))))
end
end EK
end S_EkJ
section S_EkK
/-! EkK: the program's defs, each by the rules. -/
namespace EK
open PySem PySem.Spec PyProof.Rows L2 Evl EV LamX
section
variable {w : World} {K : PySem.W.Frag} {mg : Str → Option Value} {base : Heap} {gh : G}
theorem sc_Bench_redo : FnScope ["self"] ["self"] (defScope (mth 71 19)) := ⟨rfl, rfl, rfl, by decide +kernel, rfl, by decide +kernel, by decide +kernel⟩
theorem bd_Bench_redo (F : Fx w K mg base) : Binds K (fdOf K (He.ma K (He.ga K "Bench") "redo")) ["self"] [] := FunD.bindsN (F.fun 59 rfl) (fun _ _ _ _ _ _ us hl => match us, hl with | [_], _ => rfl)
def F_Bench_redo : FF := fDef 1 (sSeq (sIf (tOf (f2 dEqG (fFld 0 3 (fVar 0)) (fLst false fNil))) (sRaise0 6) sNil) (sSeq (sEx (fMl mApp (fFld 0 2 (fVar 0)) (fCons (fFld 0 1 (fVar 0)) fNil))) (sFd 0 1 (fVar 0) (fFz (fMl mPop (fFld 0 3 (fVar 0)) fNil)))))
theorem ok_Bench_redo (F : Fx w K mg base) : FnOk pw w K mg base (L2.CX pw w) 1 (He.ma K (He.ga K "Bench") "redo") (fdOf K (He.ma K (He.ga K "Bench") "redo")) ["self"] (spF (Pk w K gh) 1 F_Bench_redo) := fn_evD (k := 0) (N := ["self"]) (ps := ["self"]) (F.fun 59 rfl) sc_Bench_redo fun cdv A outer s₀ H E hr =>
  (sS_cons (s_if (sT_cmp (oEqG (rm_of hr)) (sE_fld (c := 0) (j := 3) rfl F.bench (F.noat 77 rfl) rfl (own_q rfl) (sE_var (i := 0) rfl (.inl rfl))) (sE_lst (m := false) sA_nil)) (sS_one (s_raise0 (c := 6) tk_of rfl PySem.F.excBase_ValueError (He.exc_ok (F.fact 106 rfl)).1 (F.glo 49 rfl) (He.exc_ok (F.fact 106 rfl)).2.1 (raises_own (He.exc_ok (F.fact 106 rfl)).2.2.1 (He.exc_ok (F.fact 106 rfl)).2.2.2) rfl)) sS_nil)
  (sS_cons (s_expr (sE_lm rfl PySem.F.plainAttrs_list PySem.F.slot_list_append PySem.F.type_list_append meApp (sE_fld (c := 0) (j := 2) rfl F.bench (F.noat 76 rfl) rfl (own_q rfl) (sE_var (i := 0) rfl (.inl rfl))) (sA_cons (sE_fld (c := 0) (j := 1) rfl F.bench (F.noat 75 rfl) rfl (own_q rfl) (sE_var (i := 0) rfl (.inl rfl))) sA_nil)))
  (sS_one (s_fld (c := 0) (j := 1) rfl F.bench (F.noat 75 rfl) rfl (own_q rfl) (sE_var (i := 0) rfl (.inl rfl)) (sE_fz (sE_lm0 rfl PySem.F.plainAttrs_list PySem.F.slot_list_pop PySem.F.type_list_pop mePop (sE_fld (c := 0) (j := 3) rfl F.bench (F.noat 77 rfl) rfl (own_q rfl) (sE_var (i := 0) rfl (.inl rfl)))))))))
theorem sc_Bench_known : FnScope ["self", "name"] ["self", "name"] (defScope (mth 71 23)) := ⟨rfl, rfl, rfl, by decide +kernel, rfl, by decide +kernel, by decide +kernel⟩
theorem bd_Bench_known (F : Fx w K mg base) : Binds K (fdOf K (He.ma K (He.ga K "Bench") "known")) ["self", "name"] [] := FunD.bindsN (F.fun 62 rfl) (fun _ _ _ _ _ _ us hl => match us, hl with | [_, _], _ => rfl)
def F_Bench_known : FF := fDef 2 (sRet (fMd mGet (fFld 0 4 (fVar 0)) (fCons (f2 dGet (fFld 0 1 (fVar 0)) (fMeth 0 2 F_Bench_need_there (fVar 0) (fCons (fVar 1) fNil))) fNil)))
theorem ok_Bench_known (F : Fx w K mg base) : FnOk pw w K mg base (L2.CX pw w) 4 (He.ma K (He.ga K "Bench") "known") (fdOf K (He.ma K (He.ga K "Bench") "known")) ["self", "name"] (spF (Pk w K gh) 2 F_Bench_known) := fn_evD (k := 3) (N := ["self", "name"]) (ps := ["self", "name"]) (F.fun 62 rfl) sc_Bench_known fun cdv A outer s₀ H E hr =>
  (sS_one (s_ret (sE_dm PySem.F.slot_dict_get PySem.F.type_dict_get (meGet (rm_of hr)) (sE_fld (c := 0) (j := 4) rfl F.bench (F.noat 78 rfl) rfl (own_q rfl) (sE_var (i := 0) rfl (.inl rfl))) (sA_cons (sE_dget (rm_of hr) (sE_fld (c := 0) (j := 1) rfl F.bench (F.noat 75 rfl) rfl (own_q rfl) (sE_var (i := 0) rfl (.inl rfl))) (sE_meth (c := 0) rfl (sE_var (i := 0) rfl (.inl rfl)) F.bench (F.meth 83 rfl) (fnm_ne (by decide +kernel) (by decide +kernel)) (ok_Bench_need_there F) tk_of (hr.mono (by decide)) (bd_Bench_need_there F) (sA_cons (sE_var (i := 1) rfl (.inl rfl)) sA_nil))) sA_nil))))
theorem sc_Bench_likes : FnScope ["self", "name", "one"] ["self", "name"] (defScope (mth 71 27)) := ⟨rfl, rfl, rfl, by decide +kernel, rfl, by decide +kernel, by decide +kernel⟩
theorem bd_Bench_likes (F : Fx w K mg base) : Binds K (fdOf K (He.ma K (He.ga K "Bench") "likes")) ["self", "name"] [] := FunD.bindsN (F.fun 66 rfl) (fun _ _ _ _ _ _ us hl => match us, hl with | [_, _], _ => rfl)
def F_Bench_likes : FF := fDef 3 (sSeq (sEx (fMeth 0 2 F_Bench_need_there (fVar 0) (fCons (fVar 1) fNil))) sNever)
theorem ok_Bench_likes (F : Fx w K mg base) : FnOk pw w K mg base (L2.CX pw w) 4 (He.ma K (He.ga K "Bench") "likes") (fdOf K (He.ma K (He.ga K "Bench") "likes")) ["self", "name"] (spF (Pk w K gh) 2 F_Bench_likes) := fn_evD (k := 3) (N := ["self", "name", "one"]) (ps := ["self", "name"]) (F.fun 66 rfl) sc_Bench_likes fun cdv A outer s₀ H E hr =>
  (sS_cons (s_expr (sE_meth (c := 0) rfl (sE_var (i := 0) rfl (.inr (.inl rfl))) F.bench (F.meth 83 rfl) (fnm_ne (by decide +kernel) (by decide +kernel)) (ok_Bench_need_there F) tk_of (hr.mono (by decide)) (bd_Bench_need_there F) (sA_cons (sE_var (i := 1) rfl (.inr (.inl rfl))) sA_nil)))
  sS_never)
theorem sc_Bench_lot : FnScope ["self", "name", "holes", "one"] ["self", "name"] (defScope (mth 71 28)) := ⟨rfl, rfl, rfl, by decide +kernel, rfl, by decide +kernel, by decide +kernel⟩
theorem bd_Bench_lot (F : Fx w K mg base) : Binds K (fdOf K (He.ma K (He.ga K "Bench") "lot")) ["self", "name"] [] := FunD.bindsN (F.fun 67 rfl) (fun _ _ _ _ _ _ us hl => match us, hl with | [_, _], _ => rfl)
def F_Bench_lot : FF := fDef 4 (sSeq (sEx (fMeth 0 2 F_Bench_need_there (fVar 0) (fCons (fVar 1) fNil))) sNever)
theorem ok_Bench_lot (F : Fx w K mg base) : FnOk pw w K mg base (L2.CX pw w) 4 (He.ma K (He.ga K "Bench") "lot") (fdOf K (He.ma K (He.ga K "Bench") "lot")) ["self", "name"] (spF (Pk w K gh) 2 F_Bench_lot) := fn_evD (k := 3) (N := ["self", "name", "holes", "one"]) (ps := ["self", "name"]) (F.fun 67 rfl) sc_Bench_lot fun cdv A outer s₀ H E hr =>
  (sS_cons (s_expr (sE_meth (c := 0) rfl (sE_var (i := 0) rfl (.inr (.inl rfl))) F.bench (F.meth 83 rfl) (fnm_ne (by decide +kernel) (by decide +kernel)) (ok_Bench_need_there F) tk_of (hr.mono (by decide)) (bd_Bench_need_there F) (sA_cons (sE_var (i := 1) rfl (.inr (.inl rfl))) sA_nil)))
  sS_never)
theorem sc_Bench_are_alike : FnScope ["self", "name", "other", "one", "far"] ["self", "name", "other"] (defScope (mth 71 25)) := ⟨rfl, rfl, rfl, by decide +kernel, rfl, by decide +kernel, by decide +kernel⟩
theorem bd_Bench_are_alike (F : Fx w K mg base) : Binds K (fdOf K (He.ma K (He.ga K "Bench") "are_alike")) ["self", "name", "other"] [] := FunD.bindsN (F.fun 64 rfl) (fun _ _ _ _ _ _ us hl => match us, hl with | [_, _, _], _ => rfl)
def F_Bench_are_alike : FF := fDef 5 (sSeq (sPar 3 4 (fCons (f2 dGet (fFld 0 1 (fVar 0)) (fMeth 0 2 F_Bench_need_there (fVar 0) (fCons (fVar 1) fNil))) (fCons (f2 dGet (fFld 0 1 (fVar 0)) (fMeth 0 2 F_Bench_need_there (fVar 0) (fCons (fVar 2) fNil))) fNil))) sNever)
theorem ok_Bench_are_alike (F : Fx w K mg base) : FnOk pw w K mg base (L2.CX pw w) 4 (He.ma K (He.ga K "Bench") "are_alike") (fdOf K (He.ma K (He.ga K "Bench") "are_alike")) ["self", "name", "other"] (spF (Pk w K gh) 3 F_Bench_are_alike) := fn_evD (k := 3) (N := ["self", "name", "other", "one", "far"]) (ps := ["self", "name", "other"]) (F.fun 64 rfl) sc_Bench_are_alike fun cdv A outer s₀ H E hr =>
  (sS_cons (s_par rfl sc_Bench_are_alike.nd rfl rfl (by decide) rfl rfl (sA_cons (sE_dget (rm_of hr) (sE_fld (c := 0) (j := 1) rfl F.bench (F.noat 75 rfl) rfl (own_q rfl) (sE_var (i := 0) rfl (.inl rfl))) (sE_meth (c := 0) rfl (sE_var (i := 0) rfl (.inl rfl)) F.bench (F.meth 83 rfl) (fnm_ne (by decide +kernel) (by decide +kernel)) (ok_Bench_need_there F) tk_of (hr.mono (by decide)) (bd_Bench_need_there F) (sA_cons (sE_var (i := 1) rfl (.inl rfl)) sA_nil))) (sA_cons (sE_dget (rm_of hr) (sE_fld (c := 0) (j := 1) rfl F.bench (F.noat 75 rfl) rfl (own_q rfl) (sE_var (i := 0) rfl (.inl rfl))) (sE_meth (c := 0) rfl (sE_var (i := 0) rfl (.inl rfl)) F.bench (F.meth 83 rfl) (fnm_ne (by decide +kernel) (by decide +kernel)) (ok_Bench_need_there F) tk_of (hr.mono (by decide)) (bd_Bench_need_there F) (sA_cons (sE_var (i := 2) rfl (.inl rfl)) sA_nil))) sA_nil)) (by kernel_rfl))
  sS_never)
theorem sc_Bench_are_near : FnScope ["self", "name", "other"] ["self", "name", "other"] (defScope (mth 71 26)) := ⟨rfl, rfl, rfl, by decide +kernel, rfl, by decide +kernel, by decide +kernel⟩
theorem bd_Bench_are_near (F : Fx w K mg base) : Binds K (fdOf K (He.ma K (He.ga K "Bench") "are_near")) ["self", "name", "other"] [] := FunD.bindsN (F.fun 65 rfl) (fun _ _ _ _ _ _ us hl => match us, hl with | [_, _, _], _ => rfl)
def F_Bench_are_near : FF := fDef 3 (sSeq (sEx (fMeth 0 2 F_Bench_need_there (fVar 0) (fCons (fVar 1) fNil))) (sSeq (sEx (fMeth 0 2 F_Bench_need_there (fVar 0) (fCons (fVar 2) fNil))) sNever))
theorem ok_Bench_are_near (F : Fx w K mg base) : FnOk pw w K mg base (L2.CX pw w) 4 (He.ma K (He.ga K "Bench") "are_near") (fdOf K (He.ma K (He.ga K "Bench") "are_near")) ["self", "name", "other"] (spF (Pk w K gh) 3 F_Bench_are_near) := fn_evD (k := 3) (N := ["self", "name", "other"]) (ps := ["self", "name", "other"]) (F.fun 65 rfl) sc_Bench_are_near fun cdv A outer s₀ H E hr =>
  (sS_cons (s_expr (sE_meth (c := 0) rfl (sE_var (i := 0) rfl (.inl rfl)) F.bench (F.meth 83 rfl) (fnm_ne (by decide +kernel) (by decide +kernel)) (ok_Bench_need_there F) tk_of (hr.mono (by decide)) (bd_Bench_need_there F) (sA_cons (sE_var (i := 1) rfl (.inl rfl)) sA_nil)))
  (sS_cons (s_expr (sE_meth (c := 0) rfl (sE_var (i := 0) rfl (.inl rfl)) F.bench (F.meth 83 rfl) (fnm_ne (by decide +kernel) (by decide +kernel)) (ok_Bench_need_there F) tk_of (hr.mono (by decide)) (bd_Bench_need_there F) (sA_cons (sE_var (i := 2) rfl (.inl rfl)) sA_nil)))
  sS_never))
end
end EK
end S_EkK
section S_EkL
/-! EkL: the program's defs, each by the rules. -/
namespace EK
open PySem PySem.Spec PyProof.Rows L2 Evl EV LamX
section
variable {w : World} {K : PySem.W.Frag} {mg : Str → Option Value} {base : Heap} {gh : G}
theorem sc_Bench_book : FnScope ["self"] ["self"] (defScope (mth 71 24)) := ⟨rfl, rfl, rfl, by decide +kernel, rfl, by decide +kernel, by decide +kernel⟩
theorem bd_Bench_book (F : Fx w K mg base) : Binds K (fdOf K (He.ma K (He.ga K "Bench") "book")) ["self"] [] := FunD.bindsN (F.fun 63 rfl) (fun _ _ _ _ _ _ us hl => match us, hl with | [_], _ => rfl)
def F_Bench_book : FF := fDef 1 (sRet (fTi (fFld 0 4 (fVar 0))))
theorem ok_Bench_book (F : Fx w K mg base) : FnOk pw w K mg base (L2.CX pw w) 1 (He.ma K (He.ga K "Bench") "book") (fdOf K (He.ma K (He.ga K "Bench") "book")) ["self"] (spF (Pk w K gh) 1 F_Bench_book) := fn_evD (k := 0) (N := ["self"]) (ps := ["self"]) (F.fun 63 rfl) sc_Bench_book fun cdv A outer s₀ H E hr =>
  (sS_one (s_ret (sE_ti rfl (sE_fld (c := 0) (j := 4) rfl F.bench (F.noat 78 rfl) rfl (own_q rfl) (sE_var (i := 0) rfl (.inl rfl))) rfl (F.free 55 rfl) (by kernel_rfl))))
theorem sc_law : FnScope ["script", "m", "desk", "held", "kept", "deed", "due", "shown", "odd", "told", "tag"] ["script"] (defScope (top 83)) := ⟨rfl, rfl, rfl, by decide +kernel, rfl, by decide +kernel, by decide +kernel⟩
theorem bd_law (F : Fx w K mg base) : Binds K (fdOf K (He.ga K "law")) ["script"] [] := FunD.bindsN (F.fun 39 rfl) (fun _ _ _ _ _ _ us hl => match us, hl with | [_], _ => rfl)
def st_law_0 : FS := (sSet 1 (fCall 2 F__law_begun (fCons (fVar 0) (fCons (fC (.int 0)) fNil))))
def st_law_1 : FS := (sSet 2 (fCall 0 F__law_some_bench fNil))
def st_law_2 : FS := (sEx (fMeth 0 3 F_Bench_put (fVar 2) (fCons (fC (.str [108, 97, 116, 101, 114])) (fCons (fMeth 0 2 F_Bench_complex_at (fVar 2) (fCons (fC (.str [97])) fNil)) fNil))))
def st_law_3 : FS := (sEx (fMeth 0 1 F_Bench_undo (fVar 2) fNil))
def st_law_4 : FS := (sSet 3 (fMeth 0 1 F_Bench_copy (fVar 2) fNil))
def st_law_5 : FS := (sSet 4 (fLst false (fCons (fTup (fCons (fC (.str [97])) (fCons (fC (.str [98])) (fCons (fC (.str [102, 117, 108, 108])) fNil)))) (fCons (fLst false (fCons (fTup (fCons (fC (.int 3)) (fCons (fTup (fCons (fTup (fCons (fC (.int 0)) (fCons (fC (.int 1)) fNil))) (fCons (fTup (fCons (fC (.int 2)) fNil)) fNil))) fNil))) (fCons (fTup (fCons (fC (.int 2)) (fCons (fTup fNil) fNil))) (fCons (fTup (fCons (fC (.int 8)) (fCons (fTup (fCons (fTup (fCons (fC (.int 0)) fNil)) fNil)) fNil))) fNil)))) fNil))))
def st_law_6 : FS := (sFor (iLs (fCall 1 F__law_rows (fCons (fVar 1) fNil))) (gTp 2 (gsCons (gNm 5) (gsCons (gNm 6) gsNil))) (gcU [0, 5, 6, 7] (sSeq (sIf (tOrF (tNotF (tOf (fCall 2 F__law_like (fCons (fLam 0 0 2 sH_heard (fMeth 0 2 F_Bench_edit (fVar 2) (fCons (fVar 5) fNil))) (fCons (fVar 6) fNil))))) (tOrF (tNotF (tOf (f2 (dEqO 0 F_Bench___eq__) (fVar 2) (fVar 3)))) (tOf (f2 dNeG (fProp 0 F_Bench_acts (fVar 2)) (fC (.int 3)))))) (sRet (fC (.bl false))) sNil) (sSeq (sIf (tAndF (tOf (f2 dNeG (f2 dIx (fVar 6) (fC (.int 0))) (fC (.str [101, 100, 105, 116])))) (tNotF (tOf (fCall 2 F__law_like (fCons (fLam 0 0 2 sH_heard (fCall 2 F__law_by_name (fCons (fVar 2) (fCons (fVar 5) fNil)))) (fCons (fVar 6) fNil)))))) (sRet (fC (.bl false))) sNil) (sSeq (sSet 7 (fLc false [10] (iTp (fMeth 0 1 F_Bench_names (fVar 2) fNil)) (gNm 10) tYesF (fMeth 0 2 F_Bench_complex_at (fVar 2) (fCons (fVar 10) fNil)))) (sIf (tOrF (tNotF (tOf (f2 (dEqO 0 F_Bench___eq__) (fVar 2) (fVar 3)))) (tNotF (tOf (fCall 2 F__law_like (fCons (fLst false (fCons (fMeth 0 1 F_Bench_names (fVar 2) fNil) (fCons (fVar 7) fNil))) (fCons (fVar 4) fNil)))))) (sRet (fC (.bl false))) sNil))))))
def st_law_7 : FS := (sEx (fMeth 0 1 F_Bench_redo (fVar 2) fNil))
def st_law_8 : FS := (sIf (tOrF (tOf (f2 dNeG (fMeth 0 1 F_Bench_names (fVar 2) fNil) (fTup (fCons (fC (.str [97])) (fCons (fC (.str [98])) (fCons (fC (.str [102, 117, 108, 108])) (fCons (fC (.str [108, 97, 116, 101, 114])) fNil))))))) (tOf (f2 (dIsN true) (fMeth 0 1 F_Bench_undo (fVar 2) fNil) (fC .non)))) (sRet (fC (.bl false))) sNil)
def st_law_9 : FS := (sSet 8 (fCall 2 F__law_of (fCons (fVar 1) (fCons (fLst false (fCons (fC .non) (fCons (fC (.str [99])) (fCons (fC (.int 9)) (fCons (fTup (fCons (fC (.str [97])) fNil)) (fCons (fC (.str [])) (fCons (fLst false (fCons (fC (.str [97])) fNil)) (fCons (fFz fDnew) fNil)))))))) fNil))))
def st_law_10 : FS := (sSet 9 (fLst true (fCons (fLam 0 0 2 sH_heard (fMeth 0 2 F_Bench_complex_at (fVar 2) (fCons (fVar 8) fNil))) (fCons (fLam 0 0 2 sH_heard (fMeth 0 2 F_Bench_holes_at (fVar 2) (fCons (fVar 8) fNil))) (fCons (fLam 0 0 2 sH_heard (fMeth 0 2 F_Bench_known (fVar 2) (fCons (fVar 8) fNil))) fNil)))))
def st_law_11 : FS := (sSet 9 (f2 (dAdd true) (fVar 9) (fLst false (fCons (fLam 0 0 2 sH_heard (fMeth 0 2 F_Bench_likes (fVar 2) (fCons (fVar 8) fNil))) (fCons (fLam 0 0 2 sH_heard (fMeth 0 2 F_Bench_lot (fVar 2) (fCons (fVar 8) fNil))) fNil)))))
def st_law_12 : FS := (sSet 9 (f2 (dAdd true) (fVar 9) (fLst false (fCons (fLam 0 0 2 sH_heard (fMeth 0 3 F_Bench_are_alike (fVar 2) (fCons (fVar 8) (fCons (fC .non) fNil)))) (fCons (fLam 0 0 2 sH_heard (fMeth 0 3 F_Bench_are_alike (fVar 2) (fCons (fC (.str [97])) (fCons (fVar 8) fNil)))) fNil)))))
def st_law_13 : FS := (sSet 9 (f2 (dAdd true) (fVar 9) (fLst false (fCons (fLam 0 0 2 sH_heard (fMeth 0 3 F_Bench_are_near (fVar 2) (fCons (fVar 8) (fCons (fC (.str [97])) fNil)))) (fCons (fLam 0 0 2 sH_heard (fMeth 0 3 F_Bench_are_near (fVar 2) (fCons (fC (.str [98])) (fCons (fVar 8) fNil)))) fNil)))))
def st_law_14 : FS := (sEx (fMl mApp (fVar 9) (fCons (fLam 0 0 2 sH_heard (fMeth 0 1 F_Bench_redo (fMk 0 2 F_Bench___init__ (fCons (fC (.int 2)) fNil)) fNil)) fNil)))
def st_law_15 : FS := (sIf (tOrF (tNotF (tOf (fCall 2 F__law_like (fCons (fVar 9) (fCons (f2 (dAdd false) (f2 (dMul false) (fLst false (fCons (fTup (fCons (fC (.str [110, 97, 109, 101])) (fCons (fVar 8) fNil))) fNil)) (fC (.int 9))) (fLst false (fCons (fTup (fCons (fC (.str [110, 111, 116, 104, 105, 110, 103])) fNil)) fNil))) fNil))))) (tNotF (tOf (fCall 2 F__law_like (fCons (fMeth 0 1 F_Bench_book (fVar 2) fNil) (fCons (fTup fNil) fNil)))))) (sRet (fC (.bl false))) sNil)
def st_law_16 : FS := (sSet 8 (fCall 2 F__law_of (fCons (fVar 1) (fCons (fLst false (fCons (fC .non) (fCons (fC (.int 0)) (fCons (fC (.int 1)) (fCons (fC (.int 4)) (fCons (fC (.int 11)) (fCons (fC (.bl true)) (fCons (fC (.str [50])) (fCons (fTup (fCons (fC (.int 2)) fNil)) (fCons (fLst false (fCons (fC (.int 2)) fNil)) (fCons (fFz fDnew) fNil))))))))))) fNil))))
def st_law_17 : FS := (sIf (tOrF (tNotF (tOf (fCall 2 F__law_like (fCons (fLam 0 0 2 sH_heard (fMk 0 2 F_Bench___init__ (fCons (fVar 8) fNil))) (fCons (fTup (fCons (fC (.str [112, 114, 105, 109, 101])) (fCons (fVar 8) fNil))) fNil))))) (tOf (f2 dNeG (fFld 0 0 (fMk 0 2 F_Bench___init__ (fCons (fC (.int 7)) fNil))) (fC (.int 7))))) (sRet (fC (.bl false))) sNil)
def st_law_18 : FS := (sRet (fAnd (fCall 0 F__law_bounds_right fNil) (fCall 0 F__law_equal_right fNil)))
def F_law : FF := fDef 11 (sSeq st_law_0 (sSeq st_law_1 (sSeq st_law_2 (sSeq st_law_3 (sSeq st_law_4 (sSeq st_law_5 (sSeq st_law_6 (sSeq st_law_7 (sSeqN 53 [] st_law_8 (sSeqN 53 [] st_law_9 (sSeq st_law_10 (sSeq st_law_11 (sSeq st_law_12 (sSeq st_law_13 (sSeq st_law_14 (sSeqN 53 [8, 9] st_law_15 (sSeq st_law_16 (sSeqN 53 [8] st_law_17 st_law_18))))))))))))))))))
theorem ok_law (F : Fx w K mg base) (hgc : ∀ n, Nat.ble 2 n = true → ∀ i a, (Pk w K gh).gh.ρ i = some a → i < n) : FnG pw w K mg base (L2.CX pw w) 13 (He.ga K "law") (fdOf K (He.ga K "law")) ["script"] (spZ (Pk w K gh) 1 F_law) := by
  obtain ⟨ocH, odH, dVH, kVH, docH, pmH, anH, cdvH, ctH, oslH, lkH, cdH, bdH⟩ := heardX F
  exact fn_evZ (k := 12) (N := ["script", "m", "desk", "held", "kept", "deed", "due", "shown", "odd", "told", "tag"]) (ps := ["script"]) (p := ("law", none)) rfl (F.fun 39 rfl) sc_law fun cdv A outer s₀ H E hcd hgd hr =>
  (sZ_cons (s_set sc_law.nd rfl (.inl rfl) (sE_call (ok__law_begun F) tk_of (hr.mono (by decide)) rfl (F.glo 29 rfl) (F.fun 29 rfl).kp (bd__law_begun F) (sA_cons (sE_var (i := 0) rfl (.inl rfl)) (sA_cons sE_int sA_nil))))
  (sZ_cons (s_set sc_law.nd rfl (.inr rfl) (sE_call0 (ok__law_some_bench F) tk_of (hr.mono (by decide)) rfl (F.glo 34 rfl) (F.fun 34 rfl).kp (bd__law_some_bench F)))
  (sZ_cons (s_expr (sE_meth (c := 0) rfl (sE_var (i := 2) rfl (.inr (.inl rfl))) F.bench (F.meth 88 rfl) (fnm_ne (by decide +kernel) (by decide +kernel)) (ok_Bench_put F) tk_of (hr.mono (by decide)) (bd_Bench_put F) (sA_cons (sE_str (s := [108, 97, 116, 101, 114])) (sA_cons (sE_meth (c := 0) rfl (sE_var (i := 2) rfl (.inr (.inl rfl))) F.bench (F.meth 85 rfl) (fnm_ne (by decide +kernel) (by decide +kernel)) (ok_Bench_complex_at F) tk_of (hr.mono (by decide)) (bd_Bench_complex_at F) (sA_cons (sE_str (s := [97])) sA_nil)) sA_nil))))
  (sZ_cons (s_expr (sE_meth0 (c := 0) rfl (sE_var (i := 2) rfl (.inr (.inl rfl))) F.bench (F.meth 96 rfl) (fnm_ne (by decide +kernel) (by decide +kernel)) (ok_Bench_undo F) tk_of (hr.mono (by decide)) (bd_Bench_undo F)))
  (sZ_cons (s_set sc_law.nd rfl (.inl rfl) (sE_meth0 (c := 0) rfl (sE_var (i := 2) rfl (.inr (.inl rfl))) F.bench (F.meth 81 rfl) (fnm_ne (by decide +kernel) (by decide +kernel)) (ok_Bench_copy F) tk_of (hr.mono (by decide)) (bd_Bench_copy F)))
  (sZ_cons (s_set sc_law.nd rfl (.inl rfl) (sE_lst (m := false) (sA_cons (sE_tup (sA_cons (sE_str (s := [97])) (sA_cons (sE_str (s := [98])) (sA_cons (sE_str (s := [102, 117, 108, 108])) sA_nil)))) (sA_cons (sE_lst (m := false) (sA_cons (sE_tup (sA_cons sE_int (sA_cons (sE_tup (sA_cons (sE_tup (sA_cons sE_int (sA_cons sE_int sA_nil))) (sA_cons (sE_tup (sA_cons sE_int sA_nil)) sA_nil))) sA_nil))) (sA_cons (sE_tup (sA_cons sE_int (sA_cons (sE_tup sA_nil) sA_nil))) (sA_cons (sE_tup (sA_cons sE_int (sA_cons (sE_tup (sA_cons (sE_tup (sA_cons sE_int sA_nil)) sA_nil)) sA_nil))) sA_nil)))) sA_nil))))
  (sZ_cons (s_for (vs := [5, 6]) po_of rfl (sI_lst (sE_call (ok__law_rows F) tk_of (hr.mono (by decide)) rfl (F.glo 35 rfl) (F.fun 35 rfl).kp (bd__law_rows F) (sA_cons (sE_var (i := 1) rfl (.inl rfl)) sA_nil))) (sG_tup rfl (sGs_cons (sG_name sc_law.nd rfl (.inr rfl)) (sGs_cons (sG_name sc_law.nd rfl (.inl rfl)) sGs_nil))) (s_gc (drop := [0, 5, 6, 7]) (sS_cons (s_if (sT_w (sW_or (sT_not (sT_val (sE_callG (ok__law_like F) hgd tk_of (hr.mono (by decide)) rfl (F.glo 32 rfl) (F.fun 32 rfl).kp (bd__law_like F) (sA_cons (sE_lam (n := 0) (i := 0) (t := 0) (k := 8) (NL := ["script", "m", "desk", "held", "kept", "deed", "due", "shown", "odd", "told", "tag"]) (ls := []) (Ng := ["call", "error"]) rfl tk_of rfl (F.glo 33 rfl) (F.fun 33 rfl).kp lkH cdH bdH sc__law_heard rfl (.inl rfl) (hrd_ok F) (F.tb (tfL.getD 0 ("law", none)) (by simp [tfL])) hcd (by kernel_rfl) (hr.mono (by decide)) (lmS_by (by kernel_rfl)) (lmD0 rfl) (lmB0 (fun _ _ _ _ _ _ => rfl)) (fun A outer s H E f c hr => (sE_methK (c := 0) rfl (sE_var (i := 2) rfl (.inr (.inr rfl))) F.bench (F.meth 86 rfl) (fnm_ne (by decide +kernel) (by decide +kernel)) (ok_Bench_edit F) tk_lm (hr.mono (by decide)) (kb_Bench_edit F) rfl (sK_cons (sE_var (i := 5) rfl (.inr (.inr rfl))) sK_nil)))) (sA_cons (sE_var (i := 6) rfl (.inl rfl)) sA_nil))))) (sW_or (sT_not (sT_cmp (oEqO (c := 0) (ok_Bench___eq__ F) tk_of (hr.mono (by decide)) (bd_Bench___eq__ F) F.eqC) (sE_var (i := 2) rfl (.inr (.inl rfl))) (sE_var (i := 3) rfl (.inl rfl)))) (sW_or1 (sT_cmp (oNeG (rm_of hr)) (sE_prop (c := 0) (sE_var (i := 2) rfl (.inr (.inl rfl))) F.bench F.prop (ok_Bench_acts F) (hr.mono (by decide)) (bd_Bench_acts F)) sE_int))))) (sS_one (s_ret sE_bl)) sS_nil)
  (sS_cons (s_if (sT_w (sW_and (sT_cmp (oNeG (rm_of hr)) (sE_ix (sE_var (i := 6) rfl (.inl rfl)) sE_int) (sE_str (s := [101, 100, 105, 116]))) (sW_and1 (sT_not (sT_val (sE_callG (ok__law_like F) hgd tk_of (hr.mono (by decide)) rfl (F.glo 32 rfl) (F.fun 32 rfl).kp (bd__law_like F) (sA_cons (sE_lam (n := 0) (i := 0) (t := 0) (k := 10) (NL := ["script", "m", "desk", "held", "kept", "deed", "due", "shown", "odd", "told", "tag"]) (ls := []) (Ng := ["call", "error"]) rfl tk_of rfl (F.glo 33 rfl) (F.fun 33 rfl).kp lkH cdH bdH sc__law_heard rfl (.inl rfl) (hrd_ok F) (F.tb (tfL.getD 0 ("law", none)) (by simp [tfL])) hcd (by kernel_rfl) (hr.mono (by decide)) (lmS_by (by kernel_rfl)) (lmD0 rfl) (lmB0 (fun _ _ _ _ _ _ => rfl)) (fun A outer s H E f c hr => (sE_call (ok__law_by_name F) tk_lm (hr.mono (by decide)) rfl (F.glo 36 rfl) (F.fun 36 rfl).kp (bd__law_by_name F) (sA_cons (sE_var (i := 2) rfl (.inr (.inr rfl))) (sA_cons (sE_var (i := 5) rfl (.inr (.inr rfl))) sA_nil))))) (sA_cons (sE_var (i := 6) rfl (.inl rfl)) sA_nil)))))))) (sS_one (s_ret sE_bl)) sS_nil)
  (sS_cons (s_setLc (own := [("tag", 10)]) (m := false) rfl sc_law.nd rfl rfl (sw_true rfl rfl rfl (by kernel_rfl)) (sI_tup (sE_meth0 (c := 0) rfl (sE_var (i := 2) rfl (.inr (.inl rfl))) F.bench (F.meth 82 rfl) (fnm_ne (by decide +kernel) (by decide +kernel)) (ok_Bench_names F) tk_of (hr.mono (by decide)) (bd_Bench_names F))) (blkOk_by (by kernel_rfl)) (fun s H C cl fp => (sG_name sc_law.nd rfl (.inl rfl))) (fun s H C cl fp => sTs_nil) (fun s H C cl fp => (sE_meth (c := 0) rfl (sE_var (i := 2) rfl (.inr (.inl rfl))) F.bench (F.meth 85 rfl) (fnm_ne (by decide +kernel) (by decide +kernel)) (ok_Bench_complex_at F) LamX.takes0 (hr.mono (by decide)) (bd_Bench_complex_at F) (sA_cons (sE_var (i := 10) rfl (.inl rfl)) sA_nil))))
  (sS_one (s_if (sT_w (sW_or (sT_not (sT_cmp (oEqO (c := 0) (ok_Bench___eq__ F) tk_of (hr.mono (by decide)) (bd_Bench___eq__ F) F.eqC) (sE_var (i := 2) rfl (.inr (.inl rfl))) (sE_var (i := 3) rfl (.inl rfl)))) (sW_or1 (sT_not (sT_val (sE_callG (ok__law_like F) hgd tk_of (hr.mono (by decide)) rfl (F.glo 32 rfl) (F.fun 32 rfl).kp (bd__law_like F) (sA_cons (sE_lst (m := false) (sA_cons (sE_meth0 (c := 0) rfl (sE_var (i := 2) rfl (.inr (.inl rfl))) F.bench (F.meth 82 rfl) (fnm_ne (by decide +kernel) (by decide +kernel)) (ok_Bench_names F) tk_of (hr.mono (by decide)) (bd_Bench_names F)) (sA_cons (sE_var (i := 7) rfl (.inl rfl)) sA_nil))) (sA_cons (sE_var (i := 4) rfl (.inl rfl)) sA_nil)))))))) (sS_one (s_ret sE_bl)) sS_nil)))))))
  (sZ_cons (s_expr (sE_meth0 (c := 0) rfl (sE_var (i := 2) rfl (.inr (.inl rfl))) F.bench (F.meth 97 rfl) (fnm_ne (by decide +kernel) (by decide +kernel)) (ok_Bench_redo F) tk_of (hr.mono (by decide)) (bd_Bench_redo F)))
  (sZ_gc (hgc 53 (by decide)) (s_if (sT_w (sW_or (sT_cmp (oNeG (rm_of hr)) (sE_meth0 (c := 0) rfl (sE_var (i := 2) rfl (.inr (.inl rfl))) F.bench (F.meth 82 rfl) (fnm_ne (by decide +kernel) (by decide +kernel)) (ok_Bench_names F) tk_of (hr.mono (by decide)) (bd_Bench_names F)) (sE_tup (sA_cons (sE_str (s := [97])) (sA_cons (sE_str (s := [98])) (sA_cons (sE_str (s := [102, 117, 108, 108])) (sA_cons (sE_str (s := [108, 97, 116, 101, 114])) sA_nil)))))) (sW_or1 (sT_cmp oIsNot (sE_meth0 (c := 0) rfl (sE_var (i := 2) rfl (.inr (.inl rfl))) F.bench (F.meth 96 rfl) (fnm_ne (by decide +kernel) (by decide +kernel)) (ok_Bench_undo F) tk_of (hr.mono (by decide)) (bd_Bench_undo F)) sE_non)))) (sS_one (s_ret sE_bl)) sS_nil)
  (sZ_gc (hgc 53 (by decide)) (s_set sc_law.nd rfl (.inr rfl) (sE_call (ok__law_of F) tk_of (hr.mono (by decide)) rfl (F.glo 31 rfl) (F.fun 31 rfl).kp (bd__law_of F) (sA_cons (sE_var (i := 1) rfl (.inl rfl)) (sA_cons (sE_lst (m := false) (sA_cons sE_non (sA_cons (sE_str (s := [99])) (sA_cons sE_int (sA_cons (sE_tup (sA_cons (sE_str (s := [97])) sA_nil)) (sA_cons (sE_str (s := [])) (sA_cons (sE_lst (m := false) (sA_cons (sE_str (s := [97])) sA_nil)) (sA_cons (sE_fz sE_dnew) sA_nil)))))))) sA_nil))))
  (sZ_cons (s_set sc_law.nd rfl (.inl rfl) (sE_lst (m := true) (sA_cons (sE_lam (n := 0) (i := 0) (t := 0) (k := 4) (NL := ["script", "m", "desk", "held", "kept", "deed", "due", "shown", "odd", "told", "tag"]) (ls := []) (Ng := ["call", "error"]) rfl tk_of rfl (F.glo 33 rfl) (F.fun 33 rfl).kp lkH cdH bdH sc__law_heard rfl (.inl rfl) (hrd_ok F) (F.tb (tfL.getD 0 ("law", none)) (by simp [tfL])) hcd (by kernel_rfl) (hr.mono (by decide)) (lmS_by (by kernel_rfl)) (lmD0 rfl) (lmB0 (fun _ _ _ _ _ _ => rfl)) (fun A outer s H E f c hr => (sE_methK (c := 0) rfl (sE_var (i := 2) rfl (.inr (.inr rfl))) F.bench (F.meth 85 rfl) (fnm_ne (by decide +kernel) (by decide +kernel)) (ok_Bench_complex_at F) tk_lm (hr.mono (by decide)) (kb_Bench_complex_at F) rfl (sK_cons (sE_var (i := 8) rfl (.inr (.inr rfl))) sK_nil)))) (sA_cons (sE_lam (n := 0) (i := 0) (t := 0) (k := 8) (NL := ["script", "m", "desk", "held", "kept", "deed", "due", "shown", "odd", "told", "tag"]) (ls := ["k"]) (Ng := ["call", "error"]) rfl tk_of rfl (F.glo 33 rfl) (F.fun 33 rfl).kp lkH cdH bdH sc__law_heard rfl (.inl rfl) (hrd_ok F) (F.tb (tfL.getD 0 ("law", none)) (by simp [tfL])) hcd (by kernel_rfl) (hr.mono (by decide)) (lmS_by (by kernel_rfl)) (lmD1 rfl rfl) (lmB1 (y := "k") (fun _ _ _ _ _ _ _ => ⟨_, rfl, fun _ => rfl⟩)) (fun A outer s H E f c hr => (sE_meth (c := 0) rfl (sE_var (i := 2) rfl (.inr (.inr rfl))) F.bench (F.meth 99 rfl) (fnm_ne (by decide +kernel) (by decide +kernel)) (ok_Bench_holes_at F) tk_lm (hr.mono (by decide)) (bd_Bench_holes_at F) (sA_cons (sE_var (i := 8) rfl (.inr (.inr rfl))) sA_nil)))) (sA_cons (sE_lam (n := 0) (i := 0) (t := 0) (k := 4) (NL := ["script", "m", "desk", "held", "kept", "deed", "due", "shown", "odd", "told", "tag"]) (ls := ["j"]) (Ng := ["call", "error"]) rfl tk_of rfl (F.glo 33 rfl) (F.fun 33 rfl).kp lkH cdH bdH sc__law_heard rfl (.inl rfl) (hrd_ok F) (F.tb (tfL.getD 0 ("law", none)) (by simp [tfL])) hcd (by kernel_rfl) (hr.mono (by decide)) (lmS_by (by kernel_rfl)) (lmD1 rfl rfl) (lmB1 (y := "j") (fun _ _ _ _ _ _ _ => ⟨_, rfl, fun _ => rfl⟩)) (fun A outer s H E f c hr => (sE_meth (c := 0) rfl (sE_var (i := 2) rfl (.inr (.inr rfl))) F.bench (F.meth 100 rfl) (fnm_ne (by decide +kernel) (by decide +kernel)) (ok_Bench_known F) tk_lm (hr.mono (by decide)) (bd_Bench_known F) (sA_cons (sE_var (i := 8) rfl (.inr (.inr rfl))) sA_nil)))) sA_nil)))))
  (sZ_cons (s_set sc_law.nd rfl (.inl rfl) (sE_op (oAdd (m := true)) (sE_var (i := 9) rfl (.inl rfl)) (sE_lst (m := false) (sA_cons (sE_lam (n := 0) (i := 0) (t := 0) (k := 4) (NL := ["script", "m", "desk", "held", "kept", "deed", "due", "shown", "odd", "told", "tag"]) (ls := []) (Ng := ["call", "error"]) rfl tk_of rfl (F.glo 33 rfl) (F.fun 33 rfl).kp lkH cdH bdH sc__law_heard rfl (.inl rfl) (hrd_ok F) (F.tb (tfL.getD 0 ("law", none)) (by simp [tfL])) hcd (by kernel_rfl) (hr.mono (by decide)) (lmS_by (by kernel_rfl)) (lmD0 rfl) (lmB0 (fun _ _ _ _ _ _ => rfl)) (fun A outer s H E f c hr => (sE_meth (c := 0) rfl (sE_var (i := 2) rfl (.inr (.inr rfl))) F.bench (F.meth 104 rfl) (fnm_ne (by decide +kernel) (by decide +kernel)) (ok_Bench_likes F) tk_lm (hr.mono (by decide)) (bd_Bench_likes F) (sA_cons (sE_var (i := 8) rfl (.inr (.inr rfl))) sA_nil)))) (sA_cons (sE_lam (n := 0) (i := 0) (t := 0) (k := 4) (NL := ["script", "m", "desk", "held", "kept", "deed", "due", "shown", "odd", "told", "tag"]) (ls := ["k"]) (Ng := ["call", "error"]) rfl tk_of rfl (F.glo 33 rfl) (F.fun 33 rfl).kp lkH cdH bdH sc__law_heard rfl (.inl rfl) (hrd_ok F) (F.tb (tfL.getD 0 ("law", none)) (by simp [tfL])) hcd (by kernel_rfl) (hr.mono (by decide)) (lmS_by (by kernel_rfl)) (lmD1 rfl rfl) (lmB1 (y := "k") (fun _ _ _ _ _ _ _ => ⟨_, rfl, fun _ => rfl⟩)) (fun A outer s H E f c hr => (sE_meth (c := 0) rfl (sE_var (i := 2) rfl (.inr (.inr rfl))) F.bench (F.meth 105 rfl) (fnm_ne (by decide +kernel) (by decide +kernel)) (ok_Bench_lot F) tk_lm (hr.mono (by decide)) (bd_Bench_lot F) (sA_cons (sE_var (i := 8) rfl (.inr (.inr rfl))) sA_nil)))) sA_nil)))))
  (sZ_cons (s_set sc_law.nd rfl (.inl rfl) (sE_op (oAdd (m := true)) (sE_var (i := 9) rfl (.inl rfl)) (sE_lst (m := false) (sA_cons (sE_lam (n := 0) (i := 0) (t := 0) (k := 4) (NL := ["script", "m", "desk", "held", "kept", "deed", "due", "shown", "odd", "told", "tag"]) (ls := []) (Ng := ["call", "error"]) rfl tk_of rfl (F.glo 33 rfl) (F.fun 33 rfl).kp lkH cdH bdH sc__law_heard rfl (.inl rfl) (hrd_ok F) (F.tb (tfL.getD 0 ("law", none)) (by simp [tfL])) hcd (by kernel_rfl) (hr.mono (by decide)) (lmS_by (by kernel_rfl)) (lmD0 rfl) (lmB0 (fun _ _ _ _ _ _ => rfl)) (fun A outer s H E f c hr => (sE_meth (c := 0) rfl (sE_var (i := 2) rfl (.inr (.inr rfl))) F.bench (F.meth 102 rfl) (fnm_ne (by decide +kernel) (by decide +kernel)) (ok_Bench_are_alike F) tk_lm (hr.mono (by decide)) (bd_Bench_are_alike F) (sA_cons (sE_var (i := 8) rfl (.inr (.inr rfl))) (sA_cons sE_non sA_nil))))) (sA_cons (sE_lam (n := 0) (i := 0) (t := 0) (k := 4) (NL := ["script", "m", "desk", "held", "kept", "deed", "due", "shown", "odd", "told", "tag"]) (ls := ["k"]) (Ng := ["call", "error"]) rfl tk_of rfl (F.glo 33 rfl) (F.fun 33 rfl).kp lkH cdH bdH sc__law_heard rfl (.inl rfl) (hrd_ok F) (F.tb (tfL.getD 0 ("law", none)) (by simp [tfL])) hcd (by kernel_rfl) (hr.mono (by decide)) (lmS_by (by kernel_rfl)) (lmD1 rfl rfl) (lmB1 (y := "k") (fun _ _ _ _ _ _ _ => ⟨_, rfl, fun _ => rfl⟩)) (fun A outer s H E f c hr => (sE_meth (c := 0) rfl (sE_var (i := 2) rfl (.inr (.inr rfl))) F.bench (F.meth 102 rfl) (fnm_ne (by decide +kernel) (by decide +kernel)) (ok_Bench_are_alike F) tk_lm (hr.mono (by decide)) (bd_Bench_are_alike F) (sA_cons (sE_str (s := [97])) (sA_cons (sE_var (i := 8) rfl (.inr (.inr rfl))) sA_nil))))) sA_nil)))))
  (sZ_cons (s_set sc_law.nd rfl (.inl rfl) (sE_op (oAdd (m := true)) (sE_var (i := 9) rfl (.inl rfl)) (sE_lst (m := false) (sA_cons (sE_lam (n := 0) (i := 0) (t := 0) (k := 4) (NL := ["script", "m", "desk", "held", "kept", "deed", "due", "shown", "odd", "told", "tag"]) (ls := []) (Ng := ["call", "error"]) rfl tk_of rfl (F.glo 33 rfl) (F.fun 33 rfl).kp lkH cdH bdH sc__law_heard rfl (.inl rfl) (hrd_ok F) (F.tb (tfL.getD 0 ("law", none)) (by simp [tfL])) hcd (by kernel_rfl) (hr.mono (by decide)) (lmS_by (by kernel_rfl)) (lmD0 rfl) (lmB0 (fun _ _ _ _ _ _ => rfl)) (fun A outer s H E f c hr => (sE_meth (c := 0) rfl (sE_var (i := 2) rfl (.inr (.inr rfl))) F.bench (F.meth 103 rfl) (fnm_ne (by decide +kernel) (by decide +kernel)) (ok_Bench_are_near F) tk_lm (hr.mono (by decide)) (bd_Bench_are_near F) (sA_cons (sE_var (i := 8) rfl (.inr (.inr rfl))) (sA_cons (sE_str (s := [97])) sA_nil))))) (sA_cons (sE_lam (n := 0) (i := 0) (t := 0) (k := 4) (NL := ["script", "m", "desk", "held", "kept", "deed", "due", "shown", "odd", "told", "tag"]) (ls := ["k"]) (Ng := ["call", "error"]) rfl tk_of rfl (F.glo 33 rfl) (F.fun 33 rfl).kp lkH cdH bdH sc__law_heard rfl (.inl rfl) (hrd_ok F) (F.tb (tfL.getD 0 ("law", none)) (by simp [tfL])) hcd (by kernel_rfl) (hr.mono (by decide)) (lmS_by (by kernel_rfl)) (lmD1 rfl rfl) (lmB1 (y := "k") (fun _ _ _ _ _ _ _ => ⟨_, rfl, fun _ => rfl⟩)) (fun A outer s H E f c hr => (sE_meth (c := 0) rfl (sE_var (i := 2) rfl (.inr (.inr rfl))) F.bench (F.meth 103 rfl) (fnm_ne (by decide +kernel) (by decide +kernel)) (ok_Bench_are_near F) tk_lm (hr.mono (by decide)) (bd_Bench_are_near F) (sA_cons (sE_str (s := [98])) (sA_cons (sE_var (i := 8) rfl (.inr (.inr rfl))) sA_nil))))) sA_nil)))))
  (sZ_cons (s_expr (sE_lm rfl PySem.F.plainAttrs_list PySem.F.slot_list_append PySem.F.type_list_append meApp (sE_var (i := 9) rfl (.inl rfl)) (sA_cons (sE_lam (n := 0) (i := 0) (t := 0) (k := 7) (NL := ["script", "m", "desk", "held", "kept", "deed", "due", "shown", "odd", "told", "tag"]) (ls := []) (Ng := ["call", "error"]) rfl tk_of rfl (F.glo 33 rfl) (F.fun 33 rfl).kp lkH cdH bdH sc__law_heard rfl (.inl rfl) (hrd_ok F) (F.tb (tfL.getD 0 ("law", none)) (by simp [tfL])) hcd (by kernel_rfl) (hr.mono (by decide)) (lmS_by (by kernel_rfl)) (lmD0 rfl) (lmB0 (fun _ _ _ _ _ _ => rfl)) (fun A outer s H E f c hr => (sE_meth0 (c := 0) rfl (sE_mk (c := 0) (F.mkr 73 rfl) (ok_Bench___init__ F) tk_lm (hr.mono (by decide)) rfl (F.glo 40 rfl) (bd_Bench___init__ F) (sA_cons sE_int sA_nil)) F.bench (F.meth 97 rfl) (fnm_ne (by decide +kernel) (by decide +kernel)) (ok_Bench_redo F) tk_lm (hr.mono (by decide)) (bd_Bench_redo F)))) sA_nil)))
  (sZ_gc (hgc 53 (by decide)) (s_if (sT_w (sW_or (sT_not (sT_val (sE_callG (ok__law_like F) hgd tk_of (hr.mono (by decide)) rfl (F.glo 32 rfl) (F.fun 32 rfl).kp (bd__law_like F) (sA_cons (sE_var (i := 9) rfl (.inl rfl)) (sA_cons (sE_op (oAdd (m := false)) (sE_op (oMul (m := false)) (sE_lst (m := false) (sA_cons (sE_tup (sA_cons (sE_str (s := [110, 97, 109, 101])) (sA_cons (sE_var (i := 8) rfl (.inr (.inl rfl))) sA_nil))) sA_nil)) sE_int) (sE_lst (m := false) (sA_cons (sE_tup (sA_cons (sE_str (s := [110, 111, 116, 104, 105, 110, 103])) sA_nil)) sA_nil))) sA_nil))))) (sW_or1 (sT_not (sT_val (sE_callG (ok__law_like F) hgd tk_of (hr.mono (by decide)) rfl (F.glo 32 rfl) (F.fun 32 rfl).kp (bd__law_like F) (sA_cons (sE_meth0 (c := 0) rfl (sE_var (i := 2) rfl (.inr (.inl rfl))) F.bench (F.meth 101 rfl) (fnm_ne (by decide +kernel) (by decide +kernel)) (ok_Bench_book F) tk_of (hr.mono (by decide)) (bd_Bench_book F)) (sA_cons (sE_tup sA_nil) sA_nil)))))))) (sS_one (s_ret sE_bl)) sS_nil)
  (sZ_cons (s_set sc_law.nd rfl (.inr rfl) (sE_call (ok__law_of F) tk_of (hr.mono (by decide)) rfl (F.glo 31 rfl) (F.fun 31 rfl).kp (bd__law_of F) (sA_cons (sE_var (i := 1) rfl (.inl rfl)) (sA_cons (sE_lst (m := false) (sA_cons sE_non (sA_cons sE_int (sA_cons sE_int (sA_cons sE_int (sA_cons sE_int (sA_cons sE_bl (sA_cons (sE_str (s := [50])) (sA_cons (sE_tup (sA_cons sE_int sA_nil)) (sA_cons (sE_lst (m := false) (sA_cons sE_int sA_nil)) (sA_cons (sE_fz sE_dnew) sA_nil))))))))))) sA_nil))))
  (sZ_gc (hgc 53 (by decide)) (s_if (sT_w (sW_or (sT_not (sT_val (sE_callG (ok__law_like F) hgd tk_of (hr.mono (by decide)) rfl (F.glo 32 rfl) (F.fun 32 rfl).kp (bd__law_like F) (sA_cons (sE_lam (n := 0) (i := 0) (t := 0) (k := 7) (NL := ["script", "m", "desk", "held", "kept", "deed", "due", "shown", "odd", "told", "tag"]) (ls := []) (Ng := ["call", "error"]) rfl tk_of rfl (F.glo 33 rfl) (F.fun 33 rfl).kp lkH cdH bdH sc__law_heard rfl (.inl rfl) (hrd_ok F) (F.tb (tfL.getD 0 ("law", none)) (by simp [tfL])) hcd (by kernel_rfl) (hr.mono (by decide)) (lmS_by (by kernel_rfl)) (lmD0 rfl) (lmB0 (fun _ _ _ _ _ _ => rfl)) (fun A outer s H E f c hr => (sE_mkK (c := 0) (F.mkr 73 rfl) (ok_Bench___init__ F) tk_lm (hr.mono (by decide)) rfl (F.glo 40 rfl) (kb_Bench___init__ F) rfl (sK_cons (sE_var (i := 8) rfl (.inr (.inr rfl))) sK_nil)))) (sA_cons (sE_tup (sA_cons (sE_str (s := [112, 114, 105, 109, 101])) (sA_cons (sE_var (i := 8) rfl (.inr (.inl rfl))) sA_nil))) sA_nil))))) (sW_or1 (sT_cmp (oNeG (rm_of hr)) (sE_fld (c := 0) (j := 0) rfl F.bench (F.noat 74 rfl) rfl (own_q rfl) (sE_mk (c := 0) (F.mkr 73 rfl) (ok_Bench___init__ F) tk_of (hr.mono (by decide)) rfl (F.glo 40 rfl) (bd_Bench___init__ F) (sA_cons sE_int sA_nil))) sE_int)))) (sS_one (s_ret sE_bl)) sS_nil)
  (sZ_last (sS_one (s_ret (sE_and (sE_callG0 (ok__law_bounds_right F) hgd tk_of (hr.mono (by decide)) rfl (F.glo 37 rfl) (F.fun 37 rfl).kp (bd__law_bounds_right F)) (sE_one (sE_call0 (ok__law_equal_right F) tk_of (hr.mono (by decide)) rfl (F.glo 38 rfl) (F.fun 38 rfl).kp (bd__law_equal_right F)))))))))))))))))))))))))
end
end EK
end S_EkL
section S_EmA
/-! EmA: the law's draws. -/
namespace EK
open EV
def kM : List D := [.str [108, 101, 102, 116], .str [115, 101, 101, 100], .str [99, 101, 108, 108, 115], .str [115, 112, 111, 116]]
/-- the state of the draws -/
def mC (L S : Int) (Z : List D) (sp : Nat) : C := .dct kM [.int L, .int S, .lst Z, .int (Int.ofNat sp)]
/-! ### one step each -/
section
variable {sl : Sl} {h h1 h2 h3 h4 : Hc} {fa fb f fo fi fv : FE} {a b d o x v : D} {op : D2} {r : R D} {i j : Nat}
theorem f2_ok (ha : fa sl h = .ok a h1) (hb : fb sl h1 = .ok b h2) (ho : op a b h2 = r) : f2 op fa fb sl h = r := by
  unfold f2; rw [ha]
  show (fb sl h1).bind _ = r
  rw [hb]; exact ho
theorem fB_ok {g : FF} (ha : f sl h = .ok a h1) (ho : g [a] h1 = r) : fB g (fCons f fNil) sl h = r := by
  unfold fB fCons; rw [ha]; exact ho
theorem sSet_ok (ha : f sl h = .ok d h1) : sSet i f sl h = .nx (sl.set i (some d)) h1 := by
  unfold sSet; rw [ha]; rfl
theorem sPut_ok (hv : fv sl h = .ok v h1) (ho : fo sl h1 = .ok o h2) (hi : fi sl h2 = .ok x h3) (hs : setD o x v h3 = some h4) : sPut fo fi fv sl h = .nx sl h4 := by
  unfold sPut; rw [hv]
  show R.st (fo sl h1) _ = _
  rw [ho]
  show R.st (fi sl h2) _ = _
  rw [hi]
  show (match setD o x v h3 with | some h' => RS.nx sl h' | none => .no) = _
  rw [hs]
theorem tOf_ok {k : Bool} (ha : f sl h = .ok (.bl k) h1) : tOf f sl h = .ok k h1 := by
  unfold tOf; rw [ha]; rfl
theorem sIf_t {t : FT} {s s' : FS} (ha : t sl h = .ok true h1) : sIf t s s' sl h = s sl h1 := by
  unfold sIf; rw [ha]; rfl
theorem sIf_f {t : FT} {s s' : FS} (ha : t sl h = .ok false h1) : sIf t s s' sl h = s' sl h1 := by
  unfold sIf; rw [ha]; rfl
theorem sRet_ok (ha : f sl h = .ok d h1) : sRet f sl h = .rt d h1 := by
  unfold sRet; rw [ha]; rfl
theorem sPar_ok (ha : fa sl h = .ok a h1) (hb : fb sl h1 = .ok b h2) : sPar i j (fCons fa (fCons fb fNil)) sl h = .nx ((sl.set i (some a)).set j (some b)) h2 := by
  unfold sPar fCons; rw [ha]
  show R.st (R.bind (R.bind (fb sl h1) _) _) _ = _
  rw [hb]; rfl
theorem seq_nx {s s' : FS} {sl' : Sl} (e : s sl h = .nx sl' h1) : sSeq s s' sl h = s' sl' h1 := by
  unfold sSeq; rw [e]; rfl
theorem seq_rt {s s' : FS} (e : s sl h = .rt d h1) : sSeq s s' sl h = .rt d h1 := by
  unfold sSeq; rw [e]; rfl
end
section
variable {h : Hc} {i : Nat} {L S : Int} {Z : List D} {sp n : Nat}
theorem get_set {c d : C} (hg : h.get i = some c) : (h.set i d).get i = some d := cget_set_self hg
theorem cset_cset : ∀ {cs : List (Nat × C)} {i : Nat} {c d : C}, cset (cset cs i c) i d = cset cs i d
  | [], _, _, _ => rfl
  | (j, x) :: r, i, c, d => by
    by_cases e : j = i
    · have e1 : cset ((j, x) :: r) i c = (j, c) :: r := if_pos e
      have e2 : cset ((j, x) :: r) i d = (j, d) :: r := if_pos e
      rw [e1, e2]
      exact if_pos e
    · have e1 : cset ((j, x) :: r) i c = (j, x) :: cset r i c := if_neg e
      have e2 : cset ((j, x) :: r) i d = (j, x) :: cset r i d := if_neg e
      rw [e1, e2]
      exact (if_neg e).trans (congrArg _ cset_cset)
theorem set_set {c d : C} : (h.set i c).set i d = h.set i d := by
  unfold Hc.set
  rw [cset_cset]
theorem dget_m {k : List Nat} {v : D} (hg : h.get i = some (mC L S Z sp)) (hk : lookD kM [.int L, .int S, .lst Z, .int (Int.ofNat sp)] (.str k) = some v) : dGet (.ref i) (.str k) h = .ok v h := by
  have e : dctOf h (.ref i) = some (kM, [.int L, .int S, .lst Z, .int (Int.ofNat sp)]) := by
    show (match h.get i with | some (.dct ks vs) => some (ks, vs) | _ => none) = _
    rw [hg]
    rfl
  unfold dGet
  rw [e]
  show R.opt (lookD kM [.int L, .int S, .lst Z, .int (Int.ofNat sp)] (.str k)) (fun y => R.ok y h) = _
  rw [hk]
  rfl
theorem setD_m {k : List Nat} {v : D} {vs : List D} (hg : h.get i = some (mC L S Z sp)) (hk : putD kM [.int L, .int S, .lst Z, .int (Int.ofNat sp)] (.str k) v = (kM, vs)) : setD (.ref i) (.str k) v h = some (h.set i (.dct kM vs)) := by
  show setC i (.str k) v h = _
  unfold setC
  rw [hg]
  show (match putD kM [.int L, .int S, .lst Z, .int (Int.ofNat sp)] (.str k) v with | (ks', vs') => some (h.set i (.dct ks' vs'))) = _
  rw [hk]
theorem iMul_r {a b : Int} (hb : small b = true) : iMul a b h = .ok (.int (a * b)) h := by
  unfold iMul
  rw [hb, Bool.or_true]
theorem dMul_r {a b : Int} (hb : small b = true) : dMul false (.int a) (.int b) h = .ok (.int (a * b)) h := iMul_r hb
theorem small_of {a : Int} (h1 : -18446744073709551615 ≤ a) (h2 : a ≤ 18446744073709551615) : small a = true := by
  unfold small
  exact Nat.ble_eq_true_of_le (by omega)
theorem iMod_n {a : Int} {n : Nat} (hn : 1 ≤ n) : iMod a (Int.ofNat n) h = .ok (.int (a % Int.ofNat n)) h := by
  unfold iMod
  simp only [Nat.ble_eq_true_of_le hn]
theorem iDiv_n {a : Int} {n : Nat} (hn : 1 ≤ n) (h2 : n ≤ 1073741823) : iDiv a (Int.ofNat n) h = .ok (.int (a / Int.ofNat n)) h := by
  unfold iDiv
  simp only [Nat.ble_eq_true_of_le hn, Nat.ble_eq_true_of_le h2, Bool.and_self]
theorem fDef_rt {ns : Nat} {s : FS} {ds : List D} {d : D} {h' : Hc} (e : s (ds.map some ++ List.replicate (ns - ds.length) none) h = .rt d h') : fDef ns s ds h = .ok d h' := by
  unfold fDef; rw [e]
/-- from what is left of the great number -/
theorem draw_left {p : Nat} (hg : h.get i = some (mC (Int.ofNat (p + 1)) S Z sp)) (hn : 1 ≤ n) (h2 : n ≤ 1000) :
    F__law_draw [.ref i, .int (Int.ofNat n)] h = .ok (.int (Int.ofNat (p + 1) % Int.ofNat n)) (h.set i (mC (Int.ofNat (p + 1) / Int.ofNat n) S Z sp)) := by
  have g1 : dGet (.ref i) (.str [108, 101, 102, 116]) h = .ok (.int (Int.ofNat (p + 1))) h := dget_m hg rfl
  refine fDef_rt (seq_rt ?_)
  show st__law_draw_0 [some (.ref i), some (.int (Int.ofNat n)), none, none, none, none, none, none] h = _
  refine (sIf_t (tOf_ok (f2_ok (f2_ok rfl rfl g1) rfl rfl))).trans ?_
  refine (seq_nx (sSet_ok (f2_ok (fB_ok (f2_ok rfl rfl g1) rfl) rfl (iMod_n hn)))).trans ?_
  exact (seq_nx (sPut_ok (f2_ok (f2_ok rfl rfl g1) rfl (iDiv_n hn (by omega))) rfl rfl (setD_m hg rfl))).trans (sRet_ok rfl)
/-- from all cells -/
theorem draw_cells {Zs : List Int} (hL : iLt 0 L = false) (hZ : Zs ≠ []) (hS : 0 ≤ S) (hS2 : S < 2147483647) (hsp : sp ≤ 1000) (hg : h.get i = some (mC L S (Zs.map .int) sp)) (hn : 1 ≤ n) :
    ∃ x : Int, F__law_draw [.ref i, .int (Int.ofNat n)] h = .ok (.int (x % Int.ofNat n)) (h.set i (mC L S (Zs.map .int) (sp + 1))) := by
  have g1 : dGet (.ref i) (.str [108, 101, 102, 116]) h = .ok (.int L) h := dget_m hg rfl
  have g2 : dGet (.ref i) (.str [115, 112, 111, 116]) h = .ok (.int (Int.ofNat sp)) h := dget_m hg rfl
  have hg' : (h.set i (mC L S (Zs.map .int) (sp + 1))).get i = some (mC L S (Zs.map .int) (sp + 1)) := get_set hg
  have g3 : dGet (.ref i) (.str [99, 101, 108, 108, 115]) (h.set i (mC L S (Zs.map .int) (sp + 1))) = .ok (.lst (Zs.map .int)) (h.set i (mC L S (Zs.map .int) (sp + 1))) := dget_m hg' rfl
  have g4 : dGet (.ref i) (.str [115, 101, 101, 100]) (h.set i (mC L S (Zs.map .int) (sp + 1))) = .ok (.int S) (h.set i (mC L S (Zs.map .int) (sp + 1))) := dget_m hg' rfl
  have ssp : small (Int.ofNat sp) = true := small_of (by simp <;> omega) (by simp <;> omega)
  obtain ⟨z, hz⟩ : ∃ z : Int, L2.atI (Zs.map D.int) (Int.ofNat sp % Int.ofNat (Zs.map D.int).length) = some (.int z) := by
    have hl : 0 < Zs.length := List.length_pos_iff.mpr hZ
    have h1 : 0 ≤ Int.ofNat sp % Int.ofNat (Zs.map D.int).length := Int.emod_nonneg _ (by simp; exact hZ)
    have h2 : Int.ofNat sp % Int.ofNat (Zs.map D.int).length < Int.ofNat (Zs.map D.int).length := Int.emod_lt_of_pos _ (by simp; exact hl)
    obtain ⟨k, hk⟩ := Int.eq_ofNat_of_zero_le h1
    rw [hk] at h2 ⊢
    have hkl : k < Zs.length := by
      have : (k : Int) < (Zs.length : Int) := by simpa using h2
      omega
    refine ⟨Zs[k], ?_⟩
    unfold L2.atI L2.ixN
    rw [if_pos (by omega), if_pos (by simpa using h2)]
    simp [hkl]
  have small1 : ∀ x : Int, small (x % 2147483647) = true := fun x => small_of (by have := Int.emod_nonneg x (b := 2147483647) (by omega); omega) (by have := Int.emod_lt_of_pos x (b := 2147483647) (by omega); omega)
  have hlen : 1 ≤ (Zs.map D.int).length := by simp; exact List.length_pos_iff.mpr hZ
  generalize hB : (z * (2 * Int.ofNat sp + 3) + (S + 40503 * Int.ofNat sp * Int.ofNat sp)) % 2147483647 = B
  have sB : small B = true := by rw [← hB]; exact small1 _
  refine ⟨((((B * B + 69621 * Int.ofNat sp + S) % 2147483629) * 48271 + Int.ofNat sp) % 2147483647) / 11, fDef_rt ?_⟩
  show sSeq st__law_draw_0 _ [some (.ref i), some (.int (Int.ofNat n)), none, none, none, none, none, none] h = _
  refine (seq_nx (sIf_f (tOf_ok (f2_ok (f2_ok rfl rfl g1) rfl (by show R.ok (D.bl (iLt 0 L)) h = _; rw [hL]))))).trans ?_
  refine (seq_nx (sSet_ok (f2_ok rfl rfl g2))).trans ?_
  refine (seq_nx (sPut_ok (f2_ok rfl rfl rfl) rfl rfl (setD_m hg rfl))).trans ?_
  refine (seq_nx (sPar_ok (f2_ok rfl rfl g3) (f2_ok (a := .int S) (b := .int (40503 * Int.ofNat sp * Int.ofNat sp)) (f2_ok rfl rfl g4) (f2_ok (a := .int (40503 * Int.ofNat sp)) (b := .int (Int.ofNat sp)) (f2_ok (a := .int 40503) (b := .int (Int.ofNat sp)) rfl rfl (dMul_r ssp)) rfl (dMul_r ssp)) rfl))).trans ?_
  refine (seq_nx (sSet_ok (f2_ok rfl (f2_ok (fB_ok rfl rfl) (fB_ok rfl rfl) (iMod_n hlen)) (by show R.opt (L2.atI (Zs.map D.int) _) _ = _; rw [hz]; rfl)))).trans ?_
  refine (seq_nx (sSet_ok (d := .int B) (f2_ok (fB_ok (a := .int (z * (2 * Int.ofNat sp + 3) + (S + 40503 * Int.ofNat sp * Int.ofNat sp))) (f2_ok (a := .int (z * (2 * Int.ofNat sp + 3))) (b := .int (S + 40503 * Int.ofNat sp * Int.ofNat sp)) (f2_ok (a := .int z) (b := .int (2 * Int.ofNat sp + 3)) rfl (f2_ok (a := .int (2 * Int.ofNat sp)) (b := .int 3) (f2_ok (a := .int 2) (b := .int (Int.ofNat sp)) rfl rfl (dMul_r ssp)) rfl rfl) (dMul_r (small_of (by simp <;> omega) (by simp <;> omega)))) rfl rfl) rfl) rfl (by show iMod _ (Int.ofNat 2147483647) _ = _; exact (iMod_n (by omega)).trans (congrArg (fun z => R.ok (D.int z) _) hB))))).trans ?_
  refine (seq_nx (sSet_ok (f2_ok (fB_ok (a := .int (B * B + 69621 * Int.ofNat sp + S)) (f2_ok (a := .int (B * B + 69621 * Int.ofNat sp)) (b := .int S) (f2_ok (a := .int (B * B)) (b := .int (69621 * Int.ofNat sp)) (f2_ok (a := .int B) (b := .int B) rfl rfl (dMul_r sB)) (f2_ok (a := .int 69621) (b := .int (Int.ofNat sp)) rfl rfl (dMul_r ssp)) rfl) (f2_ok rfl rfl g4) rfl) rfl) rfl (by show iMod _ (Int.ofNat 2147483629) _ = _; exact iMod_n (by omega))))).trans ?_
  have t1 : f2 (dAdd false) (f2 (dMul false) (fVar 7) (fC (.int 48271))) (fVar 3) [some (.ref i), some (.int (Int.ofNat n)), none, some (.int (Int.ofNat sp)), some (.lst (Zs.map .int)), some (.int (S + 40503 * Int.ofNat sp * Int.ofNat sp)), some (.int z), some (.int ((B * B + 69621 * Int.ofNat sp + S) % 2147483629))] (h.set i (mC L S (Zs.map .int) (sp + 1))) = .ok (.int (((B * B + 69621 * Int.ofNat sp + S) % 2147483629) * 48271 + Int.ofNat sp)) (h.set i (mC L S (Zs.map .int) (sp + 1))) :=
    f2_ok (a := .int (((B * B + 69621 * Int.ofNat sp + S) % 2147483629) * 48271)) (b := .int (Int.ofNat sp)) (f2_ok (a := .int ((B * B + 69621 * Int.ofNat sp + S) % 2147483629)) (b := .int 48271) rfl rfl (dMul_r rfl)) rfl rfl
  have t2 := fB_ok (g := gInt) (r := .ok (.int (((B * B + 69621 * Int.ofNat sp + S) % 2147483629) * 48271 + Int.ofNat sp)) (h.set i (mC L S (Zs.map .int) (sp + 1)))) t1 rfl
  have t3 := f2_ok (op := dMod) (fb := fC (.int 2147483647)) (b := .int (Int.ofNat 2147483647)) t2 rfl (iMod_n (h := h.set i (mC L S (Zs.map .int) (sp + 1))) (n := 2147483647) (by omega))
  have t4 := f2_ok (op := dFdiv) (fb := fC (.int 11)) (b := .int (Int.ofNat 11)) t3 rfl (iDiv_n (h := h.set i (mC L S (Zs.map .int) (sp + 1))) (n := 11) (by omega) (by omega))
  exact sRet_ok (f2_ok (op := dMod) (fb := fVar 1) (b := .int (Int.ofNat n)) t4 rfl (iMod_n hn))
theorem draw_ok {Zs : List Int} (hZ : Zs ≠ []) (hS : 0 ≤ S) (hS2 : S < 2147483647) (hsp : sp ≤ 1000) (hg : h.get i = some (mC L S (Zs.map .int) sp)) (hn : 1 ≤ n) (h2 : n ≤ 1000) :
    ∃ (k : Nat) (L' : Int) (sp' : Nat), k < n ∧ sp' ≤ sp + 1 ∧ F__law_draw [.ref i, .int (Int.ofNat n)] h = .ok (.int (Int.ofNat k)) (h.set i (mC L' S (Zs.map .int) sp')) := by
  have nat : ∀ x : Int, ∃ k : Nat, k < n ∧ x % Int.ofNat n = Int.ofNat k := fun x => by
    have h1 : 0 ≤ x % Int.ofNat n := Int.emod_nonneg _ (by simp; omega)
    have h2 : x % Int.ofNat n < Int.ofNat n := Int.emod_lt_of_pos _ (by simp; omega)
    obtain ⟨k, hk⟩ := Int.eq_ofNat_of_zero_le h1
    exact ⟨k, by rw [hk] at h2; have : (k : Int) < (n : Int) := h2; omega, hk⟩
  have low : iLt 0 L = false → ∃ (k : Nat) (L' : Int) (sp' : Nat), k < n ∧ sp' ≤ sp + 1 ∧ F__law_draw [.ref i, .int (Int.ofNat n)] h = .ok (.int (Int.ofNat k)) (h.set i (mC L' S (Zs.map .int) sp')) := fun hL => by
    obtain ⟨x, e⟩ := draw_cells hL hZ hS hS2 hsp hg hn
    obtain ⟨k, k1, k2⟩ := nat x
    exact ⟨k, L, sp + 1, k1, Nat.le_refl _, by rw [e, k2]⟩
  cases L with
  | negSucc q => exact low rfl
  | ofNat q =>
    cases q with
    | zero => exact low rfl
    | succ p =>
      obtain ⟨k, k1, k2⟩ := nat (Int.ofNat (p + 1))
      exact ⟨k, _, sp, k1, Nat.le_succ _, by rw [draw_left hg hn h2, k2]⟩
/-- one of a list's things -/
theorem of_ok {Zs : List Int} {xs : List D} (hZ : Zs ≠ []) (hS : 0 ≤ S) (hS2 : S < 2147483647) (hsp : sp ≤ 1000) (hg : h.get i = some (mC L S (Zs.map .int) sp)) (hx : 1 ≤ xs.length) (h2 : xs.length ≤ 1000) :
    ∃ (d : D) (L' : Int) (sp' : Nat), d ∈ xs ∧ sp' ≤ sp + 1 ∧ F__law_of [.ref i, .lst xs] h = .ok d (h.set i (mC L' S (Zs.map .int) sp')) := by
  obtain ⟨k, L', sp', hk, h3, e⟩ := draw_ok hZ hS hS2 hsp hg hx h2
  refine ⟨xs[k], L', sp', List.getElem_mem hk, h3, fDef_rt ?_⟩
  refine sRet_ok (f2_ok rfl (b := .int (Int.ofNat k)) (h2 := h.set i (mC L' S (Zs.map .int) sp')) e ?_)
  show R.opt (L2.atI xs (Int.ofNat k)) _ = _
  have z : L2.atI xs (Int.ofNat k) = some xs[k] := by
    unfold L2.atI L2.ixN
    rw [if_pos (by simp), if_pos (by simp; omega)]
    simp [hk]
  rw [z]
  rfl
end
end EK
end S_EmA
section S_EmB
/-! EmB: how the draws begin. -/
namespace EK
open EV
def hZ : Hc := ⟨2, [(0, .tbl 0), (1, .tbl 1)]⟩
def hM (mc : C) : Hc := ⟨4, [(3, mc), (0, .tbl 0), (1, .tbl 1)]⟩
theorem short_eq {α : Type} {xs : List D} {r : R α} (h : xs.length ≤ 100000) : short xs r = r := by
  unfold short
  rw [Nat.ble_eq_true_of_le h]
theorem cut_int (ns : List Int) (lo hi : Option Int) : ∃ ms : List Int, cutD (ns.map D.int) lo hi = ms.map D.int ∧ ms.length ≤ ns.length := by
  unfold cutD
  rw [List.length_map, ← List.map_drop, ← List.map_take]
  exact ⟨_, rfl, by rw [List.length_take, List.length_drop]; omega⟩
theorem seq_st {s s' : FS} {sl : Sl} {h : Hc} {r : RS} (e : s sl h = r) : sSeq s s' sl h = r.seq s' := by
  unfold sSeq; rw [e]
theorem fIf_t {t : FT} {a b : FE} {sl : Sl} {h h1 : Hc} (e : t sl h = .ok true h1) : fIf t a b sl h = a sl h1 := by
  unfold fIf; rw [e]; rfl
def headZ : List Int → Int
  | [] => 0
  | z :: _ => z
theorem fPr_ok {fk fv : FE} {r : List (FE × FE)} {sl : Sl} {h : Hc} {k v : D} {ps : List (D × D)} (h1 : fk sl h = .ok k h) (h2 : fv sl h = .ok v h) (h3 : fPr r sl h = .ok ps h) : fPr ((fk, fv) :: r) sl h = .ok ((k, v) :: ps) h := by
  unfold fPr
  rw [h1]
  show R.bind (fv sl h) _ = _
  rw [h2]
  show R.bind (fPr r sl h) _ = _
  rw [h3]
  rfl
theorem great_ok {sl : Sl} (hs : sl.length = 6) : ∀ (ns acc : List Int), acc.length + ns.length ≤ 1000 →
    ∃ Gs : List Int, lcL (gNm 5) (tOf (f2 (dCmp fun i j => iLe j i) (fVar 5) (f2 dPow (fC (.int 10)) (fC (.int 18))))) (fVar 5) 2 sl (ns.map D.int) ⟨3, (2, .lst (acc.map D.int)) :: [(0, .tbl 0), (1, .tbl 1)]⟩ = .ok () ⟨3, (2, .lst (Gs.map D.int)) :: [(0, .tbl 0), (1, .tbl 1)]⟩
  | [], acc, _ => ⟨acc, rfl⟩
  | z :: ns, acc, hl => by
    have hl' : acc.length + ns.length + 1 ≤ 1000 := by rw [List.length_cons] at hl; omega
    have v5 : ∀ h, fVar 5 (sl.set 5 (some (D.int z))) h = .ok (.int z) h := fun h => by
      unfold fVar
      rw [gs_set_self (by omega)]
    have t : ∀ h, tOf (f2 (dCmp fun i j => iLe j i) (fVar 5) (f2 dPow (fC (.int 10)) (fC (.int 18)))) (sl.set 5 (some (D.int z))) h = .ok (iLe 1000000000000000000 z) h := fun h => by
      refine tOf_ok (f2_ok (v5 h) (b := .int 1000000000000000000) (h2 := h) ?_ rfl)
      exact rfl
    cases q : iLe 1000000000000000000 z with
    | false =>
      obtain ⟨Gs, e⟩ := great_ok hs ns acc (by omega)
      refine ⟨Gs, ?_⟩
      rw [← e]
      show (nx (tOf _ (sl.set 5 (some (D.int z))) _)).bind _ = _
      rw [t, q]
      rfl
    | true =>
      obtain ⟨Gs, e⟩ := great_ok hs ns (acc ++ [z]) (by rw [List.length_append]; simp; omega)
      refine ⟨Gs, ?_⟩
      rw [← e]
      show (nx (tOf _ (sl.set 5 (some (D.int z))) _)).bind _ = _
      rw [t, q]
      show (nx (fVar 5 (sl.set 5 (some (D.int z))) _)).bind _ = _
      rw [v5]
      have a : app 2 (.int z) ⟨3, (2, .lst (acc.map D.int)) :: [(0, .tbl 0), (1, .tbl 1)]⟩ = some ⟨3, (2, .lst ((acc ++ [z]).map D.int)) :: [(0, .tbl 0), (1, .tbl 1)]⟩ := by
        show (match Nat.ble (acc.map D.int).length 100000 with | true => some (Hc.set ⟨3, (2, .lst (acc.map D.int)) :: [(0, .tbl 0), (1, .tbl 1)]⟩ 2 (.lst (acc.map D.int ++ [D.int z]))) | false => none) = _
        rw [Nat.ble_eq_true_of_le (by rw [List.length_map]; omega), List.map_append]
        rfl
      show (match app 2 (.int z) ⟨3, (2, .lst (acc.map D.int)) :: [(0, .tbl 0), (1, .tbl 1)]⟩ with | some h => lcL _ _ _ 2 sl (ns.map D.int) h | none => .no) = _
      rw [a]
theorem seed_ok {a b c d : Option D} {h : Hc} : ∀ (ns : List Int) (S : Int) (o : Option D), 0 ≤ S → S < 2147483647 → ∃ (S' : Int) (o' : Option D), 0 ≤ S' ∧ S' < 2147483647 ∧
    forL (gNm 5) (sSet 4 (f2 dMod (fB gInt (fCons (f2 (dAdd false) (f2 (dMul false) (fVar 4) (fC (.int 48271))) (fVar 5)) fNil)) (fC (.int 2147483647)))) (ns.map D.int) [a, b, c, d, some (.int S), o] h = .nx [a, b, c, d, some (.int S'), o'] h
  | [], S, o, h1, h2 => ⟨S, o, h1, h2, rfl⟩
  | z :: ns, S, o, h1, h2 => by
    have n1 : 0 ≤ (S * 48271 + z) % 2147483647 := Int.emod_nonneg _ (by omega)
    have n2 : (S * 48271 + z) % 2147483647 < 2147483647 := Int.emod_lt_of_pos _ (by omega)
    obtain ⟨S', o', k1, k2, e⟩ := seed_ok (a := a) (b := b) (c := c) (d := d) (h := h) ns ((S * 48271 + z) % 2147483647) (some (D.int z)) n1 n2
    refine ⟨S', o', k1, k2, ?_⟩
    rw [← e]
    have t1 : f2 (dAdd false) (f2 (dMul false) (fVar 4) (fC (.int 48271))) (fVar 5) [a, b, c, d, some (D.int S), some (D.int z)] h = .ok (.int (S * 48271 + z)) h := f2_ok (a := .int (S * 48271)) (b := D.int z) (f2_ok (a := D.int S) (b := D.int 48271) rfl rfl (dMul_r rfl)) rfl rfl
    have t2 := fB_ok (g := gInt) (r := .ok (.int (S * 48271 + z)) h) t1 rfl
    have t3 := f2_ok (op := dMod) (fb := fC (.int 2147483647)) (b := .int (Int.ofNat 2147483647)) t2 rfl (iMod_n (h := h) (n := 2147483647) (by omega))
    have t4 := sSet_ok (i := 4) t3
    show (match sSet 4 _ [a, b, c, d, some (D.int S), some (D.int z)] h with | .nx sl2 h2 => forL _ _ _ sl2 h2 | .ct sl2 h2 => forL _ _ _ sl2 h2 | .bk sl2 h2 => .nx sl2 h2 | r => r) = _
    rw [t4]
    rfl
theorem begun_ok (ns : List Int) (hl : ns.length ≤ 63) : ∃ (L S : Int) (Zs : List Int), Zs ≠ [] ∧ 0 ≤ S ∧ S < 2147483647 ∧ F__law_begun [.cst (ns.map D.int), .int 0] hZ = .ok (.ref 3) (hM (mC L S (Zs.map .int) 0)) := by
  obtain ⟨m1, e1, l1⟩ := cut_int ns (some 0) none
  obtain ⟨m2, e2, l2⟩ := cut_int ns none (some 0)
  obtain ⟨Gs, eG⟩ := great_ok (sl := [some (.cst (ns.map D.int)), some (.int 0), some (.lst ((m1 ++ m2).map D.int)), none, none, none]) rfl ns [] (by simp; omega)
  obtain ⟨S, o, s1, s2, eS⟩ := seed_ok (a := some (.cst (ns.map D.int))) (b := some (.int 0)) (c := some (.lst ((m1 ++ m2).map D.int))) (d := some (.lst (Gs.map D.int))) (h := ⟨3, [(0, .tbl 0), (1, .tbl 1)]⟩) (m1 ++ m2) 91 none (by omega) (by omega)
  have a0 : st__law_begun_0 [some (.cst (ns.map D.int)), some (.int 0), none, none, none, none] hZ = .nx [some (.cst (ns.map D.int)), some (.int 0), some (.lst ((m1 ++ m2).map D.int)), none, none, none] hZ := by
    refine sSet_ok (f2_ok (a := .lst (m1.map D.int)) (b := .lst (m2.map D.int)) (h1 := hZ) (h2 := hZ) ?_ ?_ ?_)
    · show R.ok (D.lst (cutD (ns.map D.int) (some 0) none)) hZ = _
      rw [e1]
    · show R.ok (D.lst (cutD (ns.map D.int) none (some 0))) hZ = _
      rw [e2]
    · show short (m1.map D.int ++ m2.map D.int) (mkL false (m1.map D.int ++ m2.map D.int) hZ) = _
      rw [short_eq (by rw [List.length_append, List.length_map, List.length_map]; omega), List.map_append]
      rfl
  have a1 : st__law_begun_1 [some (.cst (ns.map D.int)), some (.int 0), some (.lst ((m1 ++ m2).map D.int)), none, none, none] hZ = .nx [some (.cst (ns.map D.int)), some (.int 0), some (.lst ((m1 ++ m2).map D.int)), some (.lst (Gs.map D.int)), none, none] ⟨3, [(0, .tbl 0), (1, .tbl 1)]⟩ := by
    refine sSet_ok (i := 3) (d := .lst (Gs.map D.int)) (h1 := ⟨3, [(0, .tbl 0), (1, .tbl 1)]⟩) ?_
    show (lcL (gNm 5) _ _ 2 [some (.cst (ns.map D.int)), some (.int 0), some (.lst ((m1 ++ m2).map D.int)), none, none, none] (ns.map D.int) ⟨3, (2, .lst (([] : List Int).map D.int)) :: [(0, .tbl 0), (1, .tbl 1)]⟩).bind _ = _
    rw [eG]
    rfl
  have a2 : st__law_begun_2 [some (.cst (ns.map D.int)), some (.int 0), some (.lst ((m1 ++ m2).map D.int)), some (.lst (Gs.map D.int)), none, none] ⟨3, [(0, .tbl 0), (1, .tbl 1)]⟩ = .nx [some (.cst (ns.map D.int)), some (.int 0), some (.lst ((m1 ++ m2).map D.int)), some (.lst (Gs.map D.int)), some (.int 91), none] ⟨3, [(0, .tbl 0), (1, .tbl 1)]⟩ := rfl
  have a3 : st__law_begun_3 [some (.cst (ns.map D.int)), some (.int 0), some (.lst ((m1 ++ m2).map D.int)), some (.lst (Gs.map D.int)), some (.int 91), none] ⟨3, [(0, .tbl 0), (1, .tbl 1)]⟩ = .nx [some (.cst (ns.map D.int)), some (.int 0), some (.lst ((m1 ++ m2).map D.int)), some (.lst (Gs.map D.int)), some (.int S), o] ⟨3, [(0, .tbl 0), (1, .tbl 1)]⟩ := by
    show forL (gNm 5) _ ((m1 ++ m2).map D.int) _ _ = _
    exact eS
  refine ⟨headZ Gs, S, (m1 ++ m2) ++ [17], by simp, s1, s2, fDef_rt ?_⟩
  show sSeq st__law_begun_0 _ [some (.cst (ns.map D.int)), some (.int 0), none, none, none, none] hZ = _
  rw [seq_nx a0, seq_nx a1, seq_nx a2, seq_nx a3]
  have len : (((m1 ++ m2).map D.int) ++ [D.int 17]).length ≤ 100000 := by
    rw [List.length_append, List.length_map, List.length_append]
    simp
    omega
  have cells : ∀ h, f2 (dAdd false) (fVar 2) (fLst false (fCons (f2 (dAdd false) (f2 (dMul false) (fC (.int 61)) (fVar 1)) (fC (.int 17))) fNil)) [some (.cst (ns.map D.int)), some (.int 0), some (.lst ((m1 ++ m2).map D.int)), some (.lst (Gs.map D.int)), some (.int S), o] h = .ok (.lst (((m1 ++ m2) ++ [17]).map D.int)) h := fun h => by
    refine f2_ok (a := .lst ((m1 ++ m2).map D.int)) (b := .lst [.int 17]) (h1 := h) (h2 := h) rfl rfl ?_
    show short ((m1 ++ m2).map D.int ++ [.int 17]) (mkL false ((m1 ++ m2).map D.int ++ [.int 17]) h) = _
    rw [short_eq len, show (m1 ++ m2).map D.int ++ [D.int 17] = ((m1 ++ m2) ++ [17]).map D.int from by simp]
    rfl
  have left : ∀ h, fIf (tOf (f2 (dCmp iLt) (fVar 1) (fB gLen (fCons (fVar 3) fNil)))) (f2 dIx (fVar 3) (fVar 1)) (fC (.int 0)) [some (.cst (ns.map D.int)), some (.int 0), some (.lst ((m1 ++ m2).map D.int)), some (.lst (Gs.map D.int)), some (.int S), o] h = .ok (.int (headZ Gs)) h := fun h => by
    cases Gs with
    | nil => rfl
    | cons z r =>
      have hz : L2.atI (D.int z :: r.map D.int) 0 = some (D.int z) := by
        unfold L2.atI L2.ixN
        rw [if_pos (by omega), if_pos (by simp <;> omega)]
        rfl
      have t : tOf (f2 (dCmp iLt) (fVar 1) (fB gLen (fCons (fVar 3) fNil))) [some (.cst (ns.map D.int)), some (.int 0), some (.lst ((m1 ++ m2).map D.int)), some (.lst ((z :: r).map D.int)), some (.int S), o] h = .ok true h := tOf_ok (f2_ok (a := .int 0) (b := .int (Int.ofNat ((r.map D.int).length + 1))) rfl (fB_ok (a := .lst ((z :: r).map D.int)) rfl rfl) rfl)
      refine (fIf_t t).trans ?_
      refine f2_ok (a := .lst ((z :: r).map D.int)) (b := .int 0) (h1 := h) (h2 := h) rfl rfl ?_
      show R.opt (L2.atI (D.int z :: r.map D.int) 0) _ = _
      rw [hz]
      rfl
  refine sRet_ok (d := .ref 3) (h1 := hM (mC _ S (((m1 ++ m2) ++ [17]).map .int) 0)) ?_
  unfold fDsp
  rw [fPr_ok (h := Hc.new ⟨3, [(0, .tbl 0), (1, .tbl 1)]⟩ (.dct [] [])) (v := .int (headZ Gs)) rfl (left _) (fPr_ok (v := .int S) rfl rfl (fPr_ok rfl (cells _) (fPr_ok (v := .int 0) rfl rfl rfl)))]
  kernel_rfl
end EK
end S_EmB
section S_EmC
/-! EmC: the state at the law's rows. -/
namespace EK
open EV
def keptD : D := D.lst [D.tup [D.str [97], D.str [98], D.str [102, 117, 108, 108]], D.lst [D.tup [D.int (Int.ofNat 3), D.tup [D.tup [D.int (Int.ofNat 0), D.int (Int.ofNat 1)], D.tup [D.int (Int.ofNat 2)]]], D.tup [D.int (Int.ofNat 2), D.tup []], D.tup [D.int (Int.ofNat 8), D.tup [D.tup [D.int (Int.ofNat 0)]]]]]
/-- the cells ahead of the rows; mc: the draws' -/
def hR (n : Nat) (mc : C) : Hc := ⟨n, [(49, C.lst [D.dct [D.str [97], D.str [98], D.str [102, 117, 108, 108], D.str [108, 97, 116, 101, 114]] [D.tup [D.int (Int.ofNat 3), D.tup [D.tup [D.int (Int.ofNat 0), D.int (Int.ofNat 1)], D.tup [D.int (Int.ofNat 2)]]], D.tup [D.int (Int.ofNat 2), D.tup []], D.tup [D.int (Int.ofNat 8), D.tup [D.tup [D.int (Int.ofNat 0)]]], D.tup [D.int (Int.ofNat 3), D.tup [D.tup [D.int (Int.ofNat 0), D.int (Int.ofNat 1)], D.tup [D.int (Int.ofNat 2)]]]]]), (48, C.lst [D.dct [] [], D.dct [D.str [97]] [D.tup [D.int (Int.ofNat 3), D.tup [D.tup [D.int (Int.ofNat 0), D.int (Int.ofNat 1)], D.tup [D.int (Int.ofNat 2)]]]], D.dct [D.str [97], D.str [98]] [D.tup [D.int (Int.ofNat 3), D.tup [D.tup [D.int (Int.ofNat 0), D.int (Int.ofNat 1)], D.tup [D.int (Int.ofNat 2)]]], D.tup [D.int (Int.ofNat 2), D.tup []]]]), (47, C.dct [] []), (45, C.dct [] []), (44, C.lst []), (43, C.lst []), (41, C.ins 0 [0, 1, 2, 3, 4] [D.int (Int.ofNat 5), D.dct [D.str [97], D.str [98], D.str [102, 117, 108, 108]] [D.tup [D.int (Int.ofNat 3), D.tup [D.tup [D.int (Int.ofNat 0), D.int (Int.ofNat 1)], D.tup [D.int (Int.ofNat 2)]]], D.tup [D.int (Int.ofNat 2), D.tup []], D.tup [D.int (Int.ofNat 8), D.tup [D.tup [D.int (Int.ofNat 0)]]]], D.ref 48, D.ref 49, D.ref 47]), (40, C.lst [D.dct [D.str [97], D.str [98], D.str [102, 117, 108, 108], D.str [108, 97, 116, 101, 114]] [D.tup [D.int (Int.ofNat 3), D.tup [D.tup [D.int (Int.ofNat 0), D.int (Int.ofNat 1)], D.tup [D.int (Int.ofNat 2)]]], D.tup [D.int (Int.ofNat 2), D.tup []], D.tup [D.int (Int.ofNat 8), D.tup [D.tup [D.int (Int.ofNat 0)]]], D.tup [D.int (Int.ofNat 3), D.tup [D.tup [D.int (Int.ofNat 0), D.int (Int.ofNat 1)], D.tup [D.int (Int.ofNat 2)]]]]]), (28, C.lst []), (22, C.lst []), (19, C.lst []), (8, C.dct [] []), (7, C.lst []), (6, C.lst [D.dct [] [], D.dct [D.str [97]] [D.tup [D.int (Int.ofNat 3), D.tup [D.tup [D.int (Int.ofNat 0), D.int (Int.ofNat 1)], D.tup [D.int (Int.ofNat 2)]]]], D.dct [D.str [97], D.str [98]] [D.tup [D.int (Int.ofNat 3), D.tup [D.tup [D.int (Int.ofNat 0), D.int (Int.ofNat 1)], D.tup [D.int (Int.ofNat 2)]]], D.tup [D.int (Int.ofNat 2), D.tup []]]]), (4, C.ins 0 [0, 1, 2, 3, 4] [D.int (Int.ofNat 5), D.dct [D.str [97], D.str [98], D.str [102, 117, 108, 108]] [D.tup [D.int (Int.ofNat 3), D.tup [D.tup [D.int (Int.ofNat 0), D.int (Int.ofNat 1)], D.tup [D.int (Int.ofNat 2)]]], D.tup [D.int (Int.ofNat 2), D.tup []], D.tup [D.int (Int.ofNat 8), D.tup [D.tup [D.int (Int.ofNat 0)]]]], D.ref 6, D.ref 40, D.ref 8]), (3, mc), (0, C.tbl 0), (1, C.tbl 1)]⟩
theorem pre_ok (x : D) (mc : C) (rest : FS) : sSeq st_law_1 (sSeq st_law_2 (sSeq st_law_3 (sSeq st_law_4 (sSeq st_law_5 rest)))) [some x, some (.ref 3), none, none, none, none, none, none, none, none, none] (hM mc) = rest [some x, some (.ref 3), some (.ref 4), some (.ref 41), some keptD, none, none, none, none, none, none] (hR 50 mc) := by kernel_rfl
def oddL : List D := [.non, .int 5, .str [], .str [65], .str [97, 49], .str [110, 105, 110, 101, 108, 111, 110, 103, 115], .tup [.str [97]], .bl true, .lst [.str [97]], .dct [] [], .str [97, 10], .str [10, 97], .str [97, 32, 98], .str [97, 95], .str [97, 66]]
def spL : List D := [.tup [.non, .tup []], .tup [.lst [.int 2, .tup []], .tup []], .tup [.tup [.int 0, .tup []], .tup [.int 0]], .tup [.tup [.int 11, .tup []], .tup [.int 0]], .tup [.tup [.bl true, .tup []], .tup [.int 0]], .tup [.tup [.int 2, .lst [.tup []]], .tup [.int 1]]]
def moL : List D := [.tup [.tup [.int 2, .tup [.tup [.int 0], .tup [.int 0, .int 1]]], .tup [.int 1, .int 1]], .tup [.tup [.int 2, .tup [.tup [.int 1], .tup [.int 0]]], .tup [.int 1, .int 1]], .tup [.tup [.int 2, .tup [.tup [.int 2]]], .tup [.int 1, .int 0]], .tup [.tup [.int 2, .tup [.tup [.int 0, .int 0]]], .tup [.int 1, .int 0]]]
def lotL : List D := [.non, .tup [.int 3], .tup [.int 1, .int 0], .tup [.int 0, .int 0], .lst [.int 0], .tup [.bl true], .tup [.int (-1)], .int 0, .str [48], .tup [.non], .tup [.int 0, .int 1, .int 2, .int 3]]
def odd2L : List D := [.non, .str [99], .int 9, .tup [.str [97]], .str [], .lst [.str [97]], .dct [] []]
def prL : List D := [.non, .int 0, .int 1, .int 4, .int 11, .bl true, .str [50], .tup [.int 2], .lst [.int 2], .dct [] []]
theorem r0 (mc : C) : st__law_rows_0 [some (.ref 3), none, none, none, none, none, none, none] (hR 50 mc) = (F__law_of [.ref 3, .lst oddL] (hR 51 mc)).st fun d h => .nx [some (.ref 3), some d, none, none, none, none, none, none] h := by kernel_rfl
theorem r1 (odd : D) (mc : C) : st__law_rows_1 [some (.ref 3), some odd, none, none, none, none, none, none] (hR 51 mc) = (F__law_of [.ref 3, .lst spL] (hR 51 mc)).st fun d h => .nx [some (.ref 3), some odd, some d, none, none, none, none, none] h := by kernel_rfl
theorem r2 (odd sp : D) (mc : C) : st__law_rows_2 [some (.ref 3), some odd, some sp, none, none, none, none, none] (hR 51 mc) = (F__law_of [.ref 3, .lst moL] (hR 51 mc)).st fun d h => .nx [some (.ref 3), some odd, some sp, some d, none, none, none, none] h := by kernel_rfl
end EK
end S_EmC
section S_EmD
/-! EmD: the law's rows. -/
namespace EK
open EV
def rowsA (odd s0 s1 m0 m1 : D) : List D := [D.tup [D.non, D.tup [D.str [101, 100, 105, 116], D.non]], D.tup [D.tup [], D.tup [D.str [101, 100, 105, 116], D.tup []]], D.tup [D.str [112, 117, 116], D.tup [D.str [101, 100, 105, 116], D.str [112, 117, 116]]], D.tup [D.tup [D.str [80, 117, 116], D.str [99], D.non], D.tup [D.str [101, 100, 105, 116], D.tup [D.str [80, 117, 116], D.str [99], D.non]]], D.tup [D.tup [D.str [112, 117, 116], D.str [99]], D.tup [D.str [101, 100, 105, 116], D.tup [D.str [112, 117, 116], D.str [99]]]], D.tup [D.lst [D.str [116, 97, 107, 101], D.str [97]], D.tup [D.str [101, 100, 105, 116], D.lst [D.str [116, 97, 107, 101], D.str [97]]]], D.tup [D.tup [D.str [116, 97, 107, 101], D.str [97], D.str [98]], D.tup [D.str [101, 100, 105, 116], D.tup [D.str [116, 97, 107, 101], D.str [97], D.str [98]]]], D.tup [D.tup [D.lst [D.str [116, 97, 107, 101]], D.str [97]], D.tup [D.str [101, 100, 105, 116], D.tup [D.lst [D.str [116, 97, 107, 101]], D.str [97]]]], D.tup [D.tup [D.str [111, 118, 101, 114], D.str [97], D.int (Int.ofNat 1)], D.tup [D.str [101, 100, 105, 116], D.tup [D.str [111, 118, 101, 114], D.str [97], D.int (Int.ofNat 1)]]], D.tup [D.tup [D.str [106, 111, 105, 110], D.str [99], D.str [97]], D.tup [D.str [101, 100, 105, 116], D.tup [D.str [106, 111, 105, 110], D.str [99], D.str [97]]]], D.tup [D.tup [D.str [112, 117, 116], odd, D.non], D.tup [D.str [110, 97, 109, 101], odd]], D.tup [D.tup [D.str [112, 117, 116], D.str [97], D.non], D.tup [D.str [110, 97, 109, 101], D.str [97]]], D.tup [D.tup [D.str [112, 117, 116], D.str [99], s0], D.tup [D.str [99, 111, 109, 112, 108, 101, 120], s1]], D.tup [D.tup [D.str [112, 117, 116], D.str [99], m0], D.tup [D.str [99, 111, 109, 112, 108, 101, 120], m1]], D.tup [D.tup [D.str [116, 97, 107, 101], D.str [99]], D.tup [D.str [110, 97, 109, 101], D.str [99]]], D.tup [D.tup [D.str [116, 97, 107, 101], odd], D.tup [D.str [110, 97, 109, 101], odd]], D.tup [D.tup [D.str [110, 97, 109, 101], D.str [99], D.str [97]], D.tup [D.str [110, 97, 109, 101], D.str [99]]], D.tup [D.tup [D.str [110, 97, 109, 101], D.str [97], D.str [98]], D.tup [D.str [110, 97, 109, 101], D.str [98]]], D.tup [D.tup [D.str [110, 97, 109, 101], D.str [97], odd], D.tup [D.str [110, 97, 109, 101], odd]], D.tup [D.tup [D.str [102, 97, 99, 101], D.str [99], D.non], D.tup [D.str [110, 97, 109, 101], D.str [99]]], D.tup [D.tup [D.str [99, 117, 116], D.str [99], D.non], D.tup [D.str [110, 97, 109, 101], D.str [99]]], D.tup [D.tup [D.str [108, 105, 110, 107], D.str [99], D.non], D.tup [D.str [110, 97, 109, 101], D.str [99]]], D.tup [D.tup [D.str [111, 118, 101, 114], D.str [99]], D.tup [D.str [110, 97, 109, 101], D.str [99]]], D.tup [D.tup [D.str [106, 111, 105, 110], D.str [97], D.str [99], D.str [100]], D.tup [D.str [110, 97, 109, 101], D.str [97]]], D.tup [D.tup [D.str [106, 111, 105, 110], D.str [99], D.str [100], D.str [97]], D.tup [D.str [110, 97, 109, 101], D.str [100]]], D.tup [D.tup [D.str [106, 111, 105, 110], D.str [99], D.str [97], odd], D.tup [D.str [110, 97, 109, 101], odd]], D.tup [D.tup [D.str [106, 111, 105, 110], D.str [99], D.str [97], D.str [102, 117, 108, 108]], D.tup [D.str [103, 114, 101, 97, 116], D.int (Int.ofNat 10)]], D.tup [D.tup [D.str [106, 111, 105, 110], D.str [99], D.str [102, 117, 108, 108], D.str [102, 117, 108, 108]], D.tup [D.str [103, 114, 101, 97, 116], D.int (Int.ofNat 10)]]]
def rowsL (odd s0 s1 m0 m1 lot : D) : List D := [D.tup [D.non, D.tup [D.str [101, 100, 105, 116], D.non]], D.tup [D.tup [], D.tup [D.str [101, 100, 105, 116], D.tup []]], D.tup [D.str [112, 117, 116], D.tup [D.str [101, 100, 105, 116], D.str [112, 117, 116]]], D.tup [D.tup [D.str [80, 117, 116], D.str [99], D.non], D.tup [D.str [101, 100, 105, 116], D.tup [D.str [80, 117, 116], D.str [99], D.non]]], D.tup [D.tup [D.str [112, 117, 116], D.str [99]], D.tup [D.str [101, 100, 105, 116], D.tup [D.str [112, 117, 116], D.str [99]]]], D.tup [D.lst [D.str [116, 97, 107, 101], D.str [97]], D.tup [D.str [101, 100, 105, 116], D.lst [D.str [116, 97, 107, 101], D.str [97]]]], D.tup [D.tup [D.str [116, 97, 107, 101], D.str [97], D.str [98]], D.tup [D.str [101, 100, 105, 116], D.tup [D.str [116, 97, 107, 101], D.str [97], D.str [98]]]], D.tup [D.tup [D.lst [D.str [116, 97, 107, 101]], D.str [97]], D.tup [D.str [101, 100, 105, 116], D.tup [D.lst [D.str [116, 97, 107, 101]], D.str [97]]]], D.tup [D.tup [D.str [111, 118, 101, 114], D.str [97], D.int (Int.ofNat 1)], D.tup [D.str [101, 100, 105, 116], D.tup [D.str [111, 118, 101, 114], D.str [97], D.int (Int.ofNat 1)]]], D.tup [D.tup [D.str [106, 111, 105, 110], D.str [99], D.str [97]], D.tup [D.str [101, 100, 105, 116], D.tup [D.str [106, 111, 105, 110], D.str [99], D.str [97]]]], D.tup [D.tup [D.str [112, 117, 116], odd, D.non], D.tup [D.str [110, 97, 109, 101], odd]], D.tup [D.tup [D.str [112, 117, 116], D.str [97], D.non], D.tup [D.str [110, 97, 109, 101], D.str [97]]], D.tup [D.tup [D.str [112, 117, 116], D.str [99], s0], D.tup [D.str [99, 111, 109, 112, 108, 101, 120], s1]], D.tup [D.tup [D.str [112, 117, 116], D.str [99], m0], D.tup [D.str [99, 111, 109, 112, 108, 101, 120], m1]], D.tup [D.tup [D.str [116, 97, 107, 101], D.str [99]], D.tup [D.str [110, 97, 109, 101], D.str [99]]], D.tup [D.tup [D.str [116, 97, 107, 101], odd], D.tup [D.str [110, 97, 109, 101], odd]], D.tup [D.tup [D.str [110, 97, 109, 101], D.str [99], D.str [97]], D.tup [D.str [110, 97, 109, 101], D.str [99]]], D.tup [D.tup [D.str [110, 97, 109, 101], D.str [97], D.str [98]], D.tup [D.str [110, 97, 109, 101], D.str [98]]], D.tup [D.tup [D.str [110, 97, 109, 101], D.str [97], odd], D.tup [D.str [110, 97, 109, 101], odd]], D.tup [D.tup [D.str [102, 97, 99, 101], D.str [99], D.non], D.tup [D.str [110, 97, 109, 101], D.str [99]]], D.tup [D.tup [D.str [99, 117, 116], D.str [99], D.non], D.tup [D.str [110, 97, 109, 101], D.str [99]]], D.tup [D.tup [D.str [108, 105, 110, 107], D.str [99], D.non], D.tup [D.str [110, 97, 109, 101], D.str [99]]], D.tup [D.tup [D.str [111, 118, 101, 114], D.str [99]], D.tup [D.str [110, 97, 109, 101], D.str [99]]], D.tup [D.tup [D.str [106, 111, 105, 110], D.str [97], D.str [99], D.str [100]], D.tup [D.str [110, 97, 109, 101], D.str [97]]], D.tup [D.tup [D.str [106, 111, 105, 110], D.str [99], D.str [100], D.str [97]], D.tup [D.str [110, 97, 109, 101], D.str [100]]], D.tup [D.tup [D.str [106, 111, 105, 110], D.str [99], D.str [97], odd], D.tup [D.str [110, 97, 109, 101], odd]], D.tup [D.tup [D.str [106, 111, 105, 110], D.str [99], D.str [97], D.str [102, 117, 108, 108]], D.tup [D.str [103, 114, 101, 97, 116], D.int (Int.ofNat 10)]], D.tup [D.tup [D.str [106, 111, 105, 110], D.str [99], D.str [102, 117, 108, 108], D.str [102, 117, 108, 108]], D.tup [D.str [103, 114, 101, 97, 116], D.int (Int.ofNat 10)]], D.tup [D.tup [D.str [102, 97, 99, 101], D.str [97], lot], D.tup [D.str [102, 97, 99, 101], lot]], D.tup [D.tup [D.str [99, 117, 116], D.str [97], lot], D.tup [D.str [102, 97, 99, 101], lot]], D.tup [D.tup [D.str [108, 105, 110, 107], D.str [97], lot], D.tup [D.str [102, 97, 99, 101], lot]], D.tup [D.tup [D.str [102, 97, 99, 101], D.str [98], D.tup [D.int 2]], D.tup [D.str [102, 97, 99, 101], D.tup [D.int 2]]], D.tup [D.tup [D.str [110, 97, 109, 101], odd, odd], D.tup [D.str [110, 97, 109, 101], odd]]]
theorem r3 (odd s0 s1 m0 m1 : D) (mc : C) (rest : FS) : sSeq st__law_rows_3 (sSeq st__law_rows_4 (sSeq st__law_rows_5 (sSeq st__law_rows_6 (sSeq st__law_rows_7 (sSeq st__law_rows_8 (sSeq st__law_rows_9 (sSeq st__law_rows_10 (sSeq st__law_rows_11 rest)))))))) [some (.ref 3), some odd, some (.tup [s0, s1]), some (.tup [m0, m1]), none, none, none, none] (hR 51 mc) = rest [some (.ref 3), some odd, some (.tup [s0, s1]), some (.tup [m0, m1]), some (.lst (rowsA odd s0 s1 m0 m1)), none, none, none] (hR 53 mc) := by kernel_rfl
theorem r12 (a b c e : D) (mc : C) : st__law_rows_12 [some (.ref 3), some a, some b, some c, some e, none, none, none] (hR 53 mc) = (F__law_of [.ref 3, .lst lotL] (hR 53 mc)).st fun d h => .nx [some (.ref 3), some a, some b, some c, some e, some d, none, none] h := by kernel_rfl
theorem r13 (odd s0 s1 m0 m1 lot b c : D) (mc : C) : sSeq st__law_rows_13 st__law_rows_14 [some (.ref 3), some odd, some b, some c, some (.lst (rowsA odd s0 s1 m0 m1)), some lot, none, none] (hR 53 mc) = .rt (.lst (rowsL odd s0 s1 m0 m1 lot)) (hR 53 mc) := by kernel_rfl
/-- a row's turn -/
def lawB : FS := (sSeq (sIf (tOrF (tNotF (tOf (fCall 2 F__law_like (fCons (fLam 0 0 2 sH_heard (fMeth 0 2 F_Bench_edit (fVar 2) (fCons (fVar 5) fNil))) (fCons (fVar 6) fNil))))) (tOrF (tNotF (tOf (f2 (dEqO 0 F_Bench___eq__) (fVar 2) (fVar 3)))) (tOf (f2 dNeG (fProp 0 F_Bench_acts (fVar 2)) (fC (.int 3)))))) (sRet (fC (.bl false))) sNil) (sSeq (sIf (tAndF (tOf (f2 dNeG (f2 dIx (fVar 6) (fC (.int 0))) (fC (.str [101, 100, 105, 116])))) (tNotF (tOf (fCall 2 F__law_like (fCons (fLam 0 0 2 sH_heard (fCall 2 F__law_by_name (fCons (fVar 2) (fCons (fVar 5) fNil)))) (fCons (fVar 6) fNil)))))) (sRet (fC (.bl false))) sNil) (sSeq (sSet 7 (fLc false [10] (iTp (fMeth 0 1 F_Bench_names (fVar 2) fNil)) (gNm 10) tYesF (fMeth 0 2 F_Bench_complex_at (fVar 2) (fCons (fVar 10) fNil)))) (sIf (tOrF (tNotF (tOf (f2 (dEqO 0 F_Bench___eq__) (fVar 2) (fVar 3)))) (tNotF (tOf (fCall 2 F__law_like (fCons (fLst false (fCons (fMeth 0 1 F_Bench_names (fVar 2) fNil) (fCons (fVar 7) fNil))) (fCons (fVar 4) fNil)))))) (sRet (fC (.bl false))) sNil))))
def tgB : FG := (gTp 2 (gsCons (gNm 5) (gsCons (gNm 6) gsNil)))
theorem st6_eq : st_law_6 = sFor (iLs (fCall 1 F__law_rows (fCons (fVar 1) fNil))) tgB (gcU [0, 5, 6, 7] lawB) := rfl
def slE (o : Option D) : Sl := [o, some (.ref 3), some (.ref 4), some (.ref 41), some keptD, none, none, none, none, none, none]
def rowOk (r : D) : Prop := ∀ (o : Option D) (mc : C), (match tgB r (slE o) with
  | some sl => gcU [0, 5, 6, 7] lawB sl (hR 53 mc) | none => .no) = (match (match cellB 53 mc with
    | true => okC 53 [(0, .tbl 0), (1, .tbl 1)] | false => false) with
  | true => .nx (slE none) (hR 53 mc) | false => .no)
end EK
end S_EmD
section S_EmE
namespace EK
open EV
theorem row0 : rowOk (D.tup [D.non, D.tup [D.str [101, 100, 105, 116], D.non]]) := fun o mc => by kernel_rfl
theorem row1 : rowOk (D.tup [D.tup [], D.tup [D.str [101, 100, 105, 116], D.tup []]]) := fun o mc => by kernel_rfl
theorem row2 : rowOk (D.tup [D.str [112, 117, 116], D.tup [D.str [101, 100, 105, 116], D.str [112, 117, 116]]]) := fun o mc => by kernel_rfl
theorem row3 : rowOk (D.tup [D.tup [D.str [80, 117, 116], D.str [99], D.non], D.tup [D.str [101, 100, 105, 116], D.tup [D.str [80, 117, 116], D.str [99], D.non]]]) := fun o mc => by kernel_rfl
theorem row4 : rowOk (D.tup [D.tup [D.str [112, 117, 116], D.str [99]], D.tup [D.str [101, 100, 105, 116], D.tup [D.str [112, 117, 116], D.str [99]]]]) := fun o mc => by kernel_rfl
theorem row5 : rowOk (D.tup [D.lst [D.str [116, 97, 107, 101], D.str [97]], D.tup [D.str [101, 100, 105, 116], D.lst [D.str [116, 97, 107, 101], D.str [97]]]]) := fun o mc => by kernel_rfl
theorem row6 : rowOk (D.tup [D.tup [D.str [116, 97, 107, 101], D.str [97], D.str [98]], D.tup [D.str [101, 100, 105, 116], D.tup [D.str [116, 97, 107, 101], D.str [97], D.str [98]]]]) := fun o mc => by kernel_rfl
theorem row7 : rowOk (D.tup [D.tup [D.lst [D.str [116, 97, 107, 101]], D.str [97]], D.tup [D.str [101, 100, 105, 116], D.tup [D.lst [D.str [116, 97, 107, 101]], D.str [97]]]]) := fun o mc => by kernel_rfl
theorem row8 : rowOk (D.tup [D.tup [D.str [111, 118, 101, 114], D.str [97], D.int (Int.ofNat 1)], D.tup [D.str [101, 100, 105, 116], D.tup [D.str [111, 118, 101, 114], D.str [97], D.int (Int.ofNat 1)]]]) := fun o mc => by kernel_rfl
theorem row9 : rowOk (D.tup [D.tup [D.str [106, 111, 105, 110], D.str [99], D.str [97]], D.tup [D.str [101, 100, 105, 116], D.tup [D.str [106, 111, 105, 110], D.str [99], D.str [97]]]]) := fun o mc => by kernel_rfl
theorem row10 : ∀ odd ∈ oddL, rowOk (D.tup [D.tup [D.str [112, 117, 116], odd, D.non], D.tup [D.str [110, 97, 109, 101], odd]]) := (List.forall_mem_cons.2 ⟨fun o mc => by kernel_rfl, (List.forall_mem_cons.2 ⟨fun o mc => by kernel_rfl, (List.forall_mem_cons.2 ⟨fun o mc => by kernel_rfl, (List.forall_mem_cons.2 ⟨fun o mc => by kernel_rfl, (List.forall_mem_cons.2 ⟨fun o mc => by kernel_rfl, (List.forall_mem_cons.2 ⟨fun o mc => by kernel_rfl, (List.forall_mem_cons.2 ⟨fun o mc => by kernel_rfl, (List.forall_mem_cons.2 ⟨fun o mc => by kernel_rfl, (List.forall_mem_cons.2 ⟨fun o mc => by kernel_rfl, (List.forall_mem_cons.2 ⟨fun o mc => by kernel_rfl, (List.forall_mem_cons.2 ⟨fun o mc => by kernel_rfl, (List.forall_mem_cons.2 ⟨fun o mc => by kernel_rfl, (List.forall_mem_cons.2 ⟨fun o mc => by kernel_rfl, (List.forall_mem_cons.2 ⟨fun o mc => by kernel_rfl, (List.forall_mem_cons.2 ⟨fun o mc => by kernel_rfl, (fun _ h => nomatch h)⟩)⟩)⟩)⟩)⟩)⟩)⟩)⟩)⟩)⟩)⟩)⟩)⟩)⟩)⟩)
theorem row11 : rowOk (D.tup [D.tup [D.str [112, 117, 116], D.str [97], D.non], D.tup [D.str [110, 97, 109, 101], D.str [97]]]) := fun o mc => by kernel_rfl
theorem row12 : ∀ s0 s1, D.tup [s0, s1] ∈ spL → rowOk (D.tup [D.tup [D.str [112, 117, 116], D.str [99], s0], D.tup [D.str [99, 111, 109, 112, 108, 101, 120], s1]]) := by
  have key : ∀ d ∈ spL, (match d with | D.tup [s0, s1] => rowOk (D.tup [D.tup [D.str [112, 117, 116], D.str [99], s0], D.tup [D.str [99, 111, 109, 112, 108, 101, 120], s1]]) | _ => True) := (List.forall_mem_cons.2 ⟨fun o mc => by kernel_rfl, (List.forall_mem_cons.2 ⟨fun o mc => by kernel_rfl, (List.forall_mem_cons.2 ⟨fun o mc => by kernel_rfl, (List.forall_mem_cons.2 ⟨fun o mc => by kernel_rfl, (List.forall_mem_cons.2 ⟨fun o mc => by kernel_rfl, (List.forall_mem_cons.2 ⟨fun o mc => by kernel_rfl, (fun _ h => nomatch h)⟩)⟩)⟩)⟩)⟩)⟩)
  exact fun _ _ h => key _ h
theorem row13 : ∀ m0 m1, D.tup [m0, m1] ∈ moL → rowOk (D.tup [D.tup [D.str [112, 117, 116], D.str [99], m0], D.tup [D.str [99, 111, 109, 112, 108, 101, 120], m1]]) := by
  have key : ∀ d ∈ moL, (match d with | D.tup [m0, m1] => rowOk (D.tup [D.tup [D.str [112, 117, 116], D.str [99], m0], D.tup [D.str [99, 111, 109, 112, 108, 101, 120], m1]]) | _ => True) := (List.forall_mem_cons.2 ⟨fun o mc => by kernel_rfl, (List.forall_mem_cons.2 ⟨fun o mc => by kernel_rfl, (List.forall_mem_cons.2 ⟨fun o mc => by kernel_rfl, (List.forall_mem_cons.2 ⟨fun o mc => by kernel_rfl, (fun _ h => nomatch h)⟩)⟩)⟩)⟩)
  exact fun _ _ h => key _ h
theorem row14 : rowOk (D.tup [D.tup [D.str [116, 97, 107, 101], D.str [99]], D.tup [D.str [110, 97, 109, 101], D.str [99]]]) := fun o mc => by kernel_rfl
theorem row15 : ∀ odd ∈ oddL, rowOk (D.tup [D.tup [D.str [116, 97, 107, 101], odd], D.tup [D.str [110, 97, 109, 101], odd]]) := (List.forall_mem_cons.2 ⟨fun o mc => by kernel_rfl, (List.forall_mem_cons.2 ⟨fun o mc => by kernel_rfl, (List.forall_mem_cons.2 ⟨fun o mc => by kernel_rfl, (List.forall_mem_cons.2 ⟨fun o mc => by kernel_rfl, (List.forall_mem_cons.2 ⟨fun o mc => by kernel_rfl, (List.forall_mem_cons.2 ⟨fun o mc => by kernel_rfl, (List.forall_mem_cons.2 ⟨fun o mc => by kernel_rfl, (List.forall_mem_cons.2 ⟨fun o mc => by kernel_rfl, (List.forall_mem_cons.2 ⟨fun o mc => by kernel_rfl, (List.forall_mem_cons.2 ⟨fun o mc => by kernel_rfl, (List.forall_mem_cons.2 ⟨fun o mc => by kernel_rfl, (List.forall_mem_cons.2 ⟨fun o mc => by kernel_rfl, (List.forall_mem_cons.2 ⟨fun o mc => by kernel_rfl, (List.forall_mem_cons.2 ⟨fun o mc => by kernel_rfl, (List.forall_mem_cons.2 ⟨fun o mc => by kernel_rfl, (fun _ h => nomatch h)⟩)⟩)⟩)⟩)⟩)⟩)⟩)⟩)⟩)⟩)⟩)⟩)⟩)⟩)⟩)
theorem row16 : rowOk (D.tup [D.tup [D.str [110, 97, 109, 101], D.str [99], D.str [97]], D.tup [D.str [110, 97, 109, 101], D.str [99]]]) := fun o mc => by kernel_rfl
theorem row17 : rowOk (D.tup [D.tup [D.str [110, 97, 109, 101], D.str [97], D.str [98]], D.tup [D.str [110, 97, 109, 101], D.str [98]]]) := fun o mc => by kernel_rfl
theorem row18 : ∀ odd ∈ oddL, rowOk (D.tup [D.tup [D.str [110, 97, 109, 101], D.str [97], odd], D.tup [D.str [110, 97, 109, 101], odd]]) := (List.forall_mem_cons.2 ⟨fun o mc => by kernel_rfl, (List.forall_mem_cons.2 ⟨fun o mc => by kernel_rfl, (List.forall_mem_cons.2 ⟨fun o mc => by kernel_rfl, (List.forall_mem_cons.2 ⟨fun o mc => by kernel_rfl, (List.forall_mem_cons.2 ⟨fun o mc => by kernel_rfl, (List.forall_mem_cons.2 ⟨fun o mc => by kernel_rfl, (List.forall_mem_cons.2 ⟨fun o mc => by kernel_rfl, (List.forall_mem_cons.2 ⟨fun o mc => by kernel_rfl, (List.forall_mem_cons.2 ⟨fun o mc => by kernel_rfl, (List.forall_mem_cons.2 ⟨fun o mc => by kernel_rfl, (List.forall_mem_cons.2 ⟨fun o mc => by kernel_rfl, (List.forall_mem_cons.2 ⟨fun o mc => by kernel_rfl, (List.forall_mem_cons.2 ⟨fun o mc => by kernel_rfl, (List.forall_mem_cons.2 ⟨fun o mc => by kernel_rfl, (List.forall_mem_cons.2 ⟨fun o mc => by kernel_rfl, (fun _ h => nomatch h)⟩)⟩)⟩)⟩)⟩)⟩)⟩)⟩)⟩)⟩)⟩)⟩)⟩)⟩)⟩)
theorem row19 : rowOk (D.tup [D.tup [D.str [102, 97, 99, 101], D.str [99], D.non], D.tup [D.str [110, 97, 109, 101], D.str [99]]]) := fun o mc => by kernel_rfl
theorem row20 : rowOk (D.tup [D.tup [D.str [99, 117, 116], D.str [99], D.non], D.tup [D.str [110, 97, 109, 101], D.str [99]]]) := fun o mc => by kernel_rfl
theorem row21 : rowOk (D.tup [D.tup [D.str [108, 105, 110, 107], D.str [99], D.non], D.tup [D.str [110, 97, 109, 101], D.str [99]]]) := fun o mc => by kernel_rfl
theorem row22 : rowOk (D.tup [D.tup [D.str [111, 118, 101, 114], D.str [99]], D.tup [D.str [110, 97, 109, 101], D.str [99]]]) := fun o mc => by kernel_rfl
theorem row23 : rowOk (D.tup [D.tup [D.str [106, 111, 105, 110], D.str [97], D.str [99], D.str [100]], D.tup [D.str [110, 97, 109, 101], D.str [97]]]) := fun o mc => by kernel_rfl
theorem row24 : rowOk (D.tup [D.tup [D.str [106, 111, 105, 110], D.str [99], D.str [100], D.str [97]], D.tup [D.str [110, 97, 109, 101], D.str [100]]]) := fun o mc => by kernel_rfl
theorem row25 : ∀ odd ∈ oddL, rowOk (D.tup [D.tup [D.str [106, 111, 105, 110], D.str [99], D.str [97], odd], D.tup [D.str [110, 97, 109, 101], odd]]) := (List.forall_mem_cons.2 ⟨fun o mc => by kernel_rfl, (List.forall_mem_cons.2 ⟨fun o mc => by kernel_rfl, (List.forall_mem_cons.2 ⟨fun o mc => by kernel_rfl, (List.forall_mem_cons.2 ⟨fun o mc => by kernel_rfl, (List.forall_mem_cons.2 ⟨fun o mc => by kernel_rfl, (List.forall_mem_cons.2 ⟨fun o mc => by kernel_rfl, (List.forall_mem_cons.2 ⟨fun o mc => by kernel_rfl, (List.forall_mem_cons.2 ⟨fun o mc => by kernel_rfl, (List.forall_mem_cons.2 ⟨fun o mc => by kernel_rfl, (List.forall_mem_cons.2 ⟨fun o mc => by kernel_rfl, (List.forall_mem_cons.2 ⟨fun o mc => by kernel_rfl, (List.forall_mem_cons.2 ⟨fun o mc => by kernel_rfl, (List.forall_mem_cons.2 ⟨fun o mc => by kernel_rfl, (List.forall_mem_cons.2 ⟨fun o mc => by kernel_rfl, (List.forall_mem_cons.2 ⟨fun o mc => by kernel_rfl, (fun _ h => nomatch h)⟩)⟩)⟩)⟩)⟩)⟩)⟩)⟩)⟩)⟩)⟩)⟩)⟩)⟩)⟩)
theorem row26 : rowOk (D.tup [D.tup [D.str [106, 111, 105, 110], D.str [99], D.str [97], D.str [102, 117, 108, 108]], D.tup [D.str [103, 114, 101, 97, 116], D.int (Int.ofNat 10)]]) := fun o mc => by kernel_rfl
theorem row27 : rowOk (D.tup [D.tup [D.str [106, 111, 105, 110], D.str [99], D.str [102, 117, 108, 108], D.str [102, 117, 108, 108]], D.tup [D.str [103, 114, 101, 97, 116], D.int (Int.ofNat 10)]]) := fun o mc => by kernel_rfl
theorem row28 : ∀ lot ∈ lotL, rowOk (D.tup [D.tup [D.str [102, 97, 99, 101], D.str [97], lot], D.tup [D.str [102, 97, 99, 101], lot]]) := (List.forall_mem_cons.2 ⟨fun o mc => by kernel_rfl, (List.forall_mem_cons.2 ⟨fun o mc => by kernel_rfl, (List.forall_mem_cons.2 ⟨fun o mc => by kernel_rfl, (List.forall_mem_cons.2 ⟨fun o mc => by kernel_rfl, (List.forall_mem_cons.2 ⟨fun o mc => by kernel_rfl, (List.forall_mem_cons.2 ⟨fun o mc => by kernel_rfl, (List.forall_mem_cons.2 ⟨fun o mc => by kernel_rfl, (List.forall_mem_cons.2 ⟨fun o mc => by kernel_rfl, (List.forall_mem_cons.2 ⟨fun o mc => by kernel_rfl, (List.forall_mem_cons.2 ⟨fun o mc => by kernel_rfl, (List.forall_mem_cons.2 ⟨fun o mc => by kernel_rfl, (fun _ h => nomatch h)⟩)⟩)⟩)⟩)⟩)⟩)⟩)⟩)⟩)⟩)⟩)
theorem row29 : ∀ lot ∈ lotL, rowOk (D.tup [D.tup [D.str [99, 117, 116], D.str [97], lot], D.tup [D.str [102, 97, 99, 101], lot]]) := (List.forall_mem_cons.2 ⟨fun o mc => by kernel_rfl, (List.forall_mem_cons.2 ⟨fun o mc => by kernel_rfl, (List.forall_mem_cons.2 ⟨fun o mc => by kernel_rfl, (List.forall_mem_cons.2 ⟨fun o mc => by kernel_rfl, (List.forall_mem_cons.2 ⟨fun o mc => by kernel_rfl, (List.forall_mem_cons.2 ⟨fun o mc => by kernel_rfl, (List.forall_mem_cons.2 ⟨fun o mc => by kernel_rfl, (List.forall_mem_cons.2 ⟨fun o mc => by kernel_rfl, (List.forall_mem_cons.2 ⟨fun o mc => by kernel_rfl, (List.forall_mem_cons.2 ⟨fun o mc => by kernel_rfl, (List.forall_mem_cons.2 ⟨fun o mc => by kernel_rfl, (fun _ h => nomatch h)⟩)⟩)⟩)⟩)⟩)⟩)⟩)⟩)⟩)⟩)⟩)
theorem row30 : ∀ lot ∈ lotL, rowOk (D.tup [D.tup [D.str [108, 105, 110, 107], D.str [97], lot], D.tup [D.str [102, 97, 99, 101], lot]]) := (List.forall_mem_cons.2 ⟨fun o mc => by kernel_rfl, (List.forall_mem_cons.2 ⟨fun o mc => by kernel_rfl, (List.forall_mem_cons.2 ⟨fun o mc => by kernel_rfl, (List.forall_mem_cons.2 ⟨fun o mc => by kernel_rfl, (List.forall_mem_cons.2 ⟨fun o mc => by kernel_rfl, (List.forall_mem_cons.2 ⟨fun o mc => by kernel_rfl, (List.forall_mem_cons.2 ⟨fun o mc => by kernel_rfl, (List.forall_mem_cons.2 ⟨fun o mc => by kernel_rfl, (List.forall_mem_cons.2 ⟨fun o mc => by kernel_rfl, (List.forall_mem_cons.2 ⟨fun o mc => by kernel_rfl, (List.forall_mem_cons.2 ⟨fun o mc => by kernel_rfl, (fun _ h => nomatch h)⟩)⟩)⟩)⟩)⟩)⟩)⟩)⟩)⟩)⟩)⟩)
theorem row31 : rowOk (D.tup [D.tup [D.str [102, 97, 99, 101], D.str [98], D.tup [D.int 2]], D.tup [D.str [102, 97, 99, 101], D.tup [D.int 2]]]) := fun o mc => by kernel_rfl
theorem row32 : ∀ odd ∈ oddL, rowOk (D.tup [D.tup [D.str [110, 97, 109, 101], odd, odd], D.tup [D.str [110, 97, 109, 101], odd]]) := (List.forall_mem_cons.2 ⟨fun o mc => by kernel_rfl, (List.forall_mem_cons.2 ⟨fun o mc => by kernel_rfl, (List.forall_mem_cons.2 ⟨fun o mc => by kernel_rfl, (List.forall_mem_cons.2 ⟨fun o mc => by kernel_rfl, (List.forall_mem_cons.2 ⟨fun o mc => by kernel_rfl, (List.forall_mem_cons.2 ⟨fun o mc => by kernel_rfl, (List.forall_mem_cons.2 ⟨fun o mc => by kernel_rfl, (List.forall_mem_cons.2 ⟨fun o mc => by kernel_rfl, (List.forall_mem_cons.2 ⟨fun o mc => by kernel_rfl, (List.forall_mem_cons.2 ⟨fun o mc => by kernel_rfl, (List.forall_mem_cons.2 ⟨fun o mc => by kernel_rfl, (List.forall_mem_cons.2 ⟨fun o mc => by kernel_rfl, (List.forall_mem_cons.2 ⟨fun o mc => by kernel_rfl, (List.forall_mem_cons.2 ⟨fun o mc => by kernel_rfl, (List.forall_mem_cons.2 ⟨fun o mc => by kernel_rfl, (fun _ h => nomatch h)⟩)⟩)⟩)⟩)⟩)⟩)⟩)⟩)⟩)⟩)⟩)⟩)⟩)⟩)⟩)
end EK
end S_EmE
section S_EmF
namespace EK
open EV
/-- what is asked of the draws' cell -/
def seeB (mc : C) : Bool := match cellB 53 mc with
  | true => okC 53 [(0, .tbl 0), (1, .tbl 1)] | false => false
def slO (d : D) : Sl := [none, some (.ref 3), some (.ref 4), some (.ref 41), some keptD, none, none, none, some d, none, none]
theorem t78 (mc : C) (rest : FS) : sSeq st_law_7 (sSeqN 53 [] st_law_8 rest) (slE none) (hR 53 mc) = (match seeB mc with | true => rest (slE none) (hR 53 mc) | false => .no) := by kernel_rfl
theorem t9a (mc : C) : st_law_9 (slE none) (hR 53 mc) = (F__law_of [.ref 3, .lst odd2L] (hR 54 mc)).st fun d h => .nx (slO d) h := by kernel_rfl
theorem t9b : ∀ d ∈ odd2L, ∀ (mc : C) (k : FS), gcR 53 [] (slO d) (hR 54 mc) k = (match seeB mc with | true => k (slO d) (hR 53 mc) | false => .no) := (List.forall_mem_cons.2 ⟨fun mc k => by kernel_rfl, (List.forall_mem_cons.2 ⟨fun mc k => by kernel_rfl, (List.forall_mem_cons.2 ⟨fun mc k => by kernel_rfl, (List.forall_mem_cons.2 ⟨fun mc k => by kernel_rfl, (List.forall_mem_cons.2 ⟨fun mc k => by kernel_rfl, (List.forall_mem_cons.2 ⟨fun mc k => by kernel_rfl, (List.forall_mem_cons.2 ⟨fun mc k => by kernel_rfl, (fun _ h => nomatch h)⟩)⟩)⟩)⟩)⟩)⟩)⟩)
theorem t10 : ∀ d ∈ odd2L, ∀ (mc : C) (rest : FS), (sSeq st_law_10 (sSeq st_law_11 (sSeq st_law_12 (sSeq st_law_13 (sSeq st_law_14 (sSeqN 53 [8, 9] st_law_15 rest)))))) (slO d) (hR 53 mc) = (match seeB mc with | true => rest (slE none) (hR 53 mc) | false => .no) := (List.forall_mem_cons.2 ⟨fun mc rest => by kernel_rfl, (List.forall_mem_cons.2 ⟨fun mc rest => by kernel_rfl, (List.forall_mem_cons.2 ⟨fun mc rest => by kernel_rfl, (List.forall_mem_cons.2 ⟨fun mc rest => by kernel_rfl, (List.forall_mem_cons.2 ⟨fun mc rest => by kernel_rfl, (List.forall_mem_cons.2 ⟨fun mc rest => by kernel_rfl, (List.forall_mem_cons.2 ⟨fun mc rest => by kernel_rfl, (fun _ h => nomatch h)⟩)⟩)⟩)⟩)⟩)⟩)⟩)
theorem t16 (mc : C) : st_law_16 (slE none) (hR 53 mc) = (F__law_of [.ref 3, .lst prL] (hR 54 mc)).st fun d h => .nx (slO d) h := by kernel_rfl
theorem t17 : ∀ d ∈ prL, ∀ (mc : C) (rest : FS), sSeqN 53 [8] st_law_17 rest (slO d) (hR 54 mc) = (match seeB mc with | true => rest (slE none) (hR 53 mc) | false => .no) := (List.forall_mem_cons.2 ⟨fun mc rest => by kernel_rfl, (List.forall_mem_cons.2 ⟨fun mc rest => by kernel_rfl, (List.forall_mem_cons.2 ⟨fun mc rest => by kernel_rfl, (List.forall_mem_cons.2 ⟨fun mc rest => by kernel_rfl, (List.forall_mem_cons.2 ⟨fun mc rest => by kernel_rfl, (List.forall_mem_cons.2 ⟨fun mc rest => by kernel_rfl, (List.forall_mem_cons.2 ⟨fun mc rest => by kernel_rfl, (List.forall_mem_cons.2 ⟨fun mc rest => by kernel_rfl, (List.forall_mem_cons.2 ⟨fun mc rest => by kernel_rfl, (List.forall_mem_cons.2 ⟨fun mc rest => by kernel_rfl, (fun _ h => nomatch h)⟩)⟩)⟩)⟩)⟩)⟩)⟩)⟩)⟩)⟩)
def isRt (r : RS) : Bool := match r with
  | .rt (.bl true) _ => true | _ => false
theorem t18 (mc : C) : isRt (st_law_18 (slE none) (hR 53 mc)) = true := by kernel_rfl
end EK
end S_EmF
section S_EmG
namespace EK
open EV
/-! EmG: the law is true. -/
theorem seeB_ok {L S : Int} {Zs : List Int} {sp : Nat} : seeB (mC L S (Zs.map .int) sp) = true := by
  have z : ∀ zs : List Int, refBs 53 (zs.map D.int) = true := fun zs => by
    induction zs with
    | nil => rfl
    | cons a r ih =>
      show (refB 53 (D.int a) && refBs 53 (r.map D.int)) = true
      rw [ih]; rfl
  have e : cellB 53 (mC L S (Zs.map .int) sp) = true := by
    show (refBs 53 kM && (true && (true && (refBs 53 (Zs.map D.int) && true)))) = true
    rw [z]; rfl
  unfold seeB
  rw [e]
  rfl
theorem sp_pair : ∀ d ∈ spL, ∃ a b, d = D.tup [a, b] := (List.forall_mem_cons.2 ⟨⟨_, _, rfl⟩, (List.forall_mem_cons.2 ⟨⟨_, _, rfl⟩, (List.forall_mem_cons.2 ⟨⟨_, _, rfl⟩, (List.forall_mem_cons.2 ⟨⟨_, _, rfl⟩, (List.forall_mem_cons.2 ⟨⟨_, _, rfl⟩, (List.forall_mem_cons.2 ⟨⟨_, _, rfl⟩, (fun _ h => nomatch h)⟩)⟩)⟩)⟩)⟩)⟩)
theorem mo_pair : ∀ d ∈ moL, ∃ a b, d = D.tup [a, b] := (List.forall_mem_cons.2 ⟨⟨_, _, rfl⟩, (List.forall_mem_cons.2 ⟨⟨_, _, rfl⟩, (List.forall_mem_cons.2 ⟨⟨_, _, rfl⟩, (List.forall_mem_cons.2 ⟨⟨_, _, rfl⟩, (fun _ h => nomatch h)⟩)⟩)⟩)⟩)
theorem seqN_nx {n : Nat} {dr : List Nat} {s s' : FS} {sl sl' : Sl} {h h1 : Hc} (e : s sl h = .nx sl' h1) : sSeqN n dr s s' sl h = gcR n dr sl' h1 s' := by
  unfold sSeqN; rw [e]
theorem of_st {f : D → Hc → RS} {r : R D} {d : D} {h : Hc} (e : r = .ok d h) : r.st f = f d h := by rw [e]; rfl
theorem hR_set {n : Nat} {a b : C} : (hR n a).set 3 b = hR n b := rfl
theorem hR_get {n : Nat} {a : C} : (hR n a).get 3 = some a := rfl
section
variable {L S : Int} {Zs : List Int} {sp : Nat}
theorem rows_ok (hZ : Zs ≠ []) (hS : 0 ≤ S) (hS2 : S < 2147483647) (hsp : sp ≤ 100) : ∃ (odd s0 s1 m0 m1 lot : D) (L' : Int) (sp' : Nat), odd ∈ oddL ∧ D.tup [s0, s1] ∈ spL ∧ D.tup [m0, m1] ∈ moL ∧ lot ∈ lotL ∧ sp' ≤ sp + 4 ∧
    F__law_rows [.ref 3] (hR 50 (mC L S (Zs.map .int) sp)) = .ok (.lst (rowsL odd s0 s1 m0 m1 lot)) (hR 53 (mC L' S (Zs.map .int) sp')) := by
  obtain ⟨odd, L1, p1, ho, q1, e1⟩ := of_ok (h := hR 51 (mC L S (Zs.map .int) sp)) (i := 3) (xs := oddL) hZ hS hS2 (by omega) hR_get (by decide) (by decide)
  obtain ⟨sx, L2, p2, hs, q2, e2⟩ := of_ok (h := hR 51 (mC L1 S (Zs.map .int) p1)) (i := 3) (xs := spL) hZ hS hS2 (by omega) hR_get (by decide) (by decide)
  obtain ⟨mx, L3, p3, hm, q3, e3⟩ := of_ok (h := hR 51 (mC L2 S (Zs.map .int) p2)) (i := 3) (xs := moL) hZ hS hS2 (by omega) hR_get (by decide) (by decide)
  obtain ⟨lot, L4, p4, hl, q4, e4⟩ := of_ok (h := hR 53 (mC L3 S (Zs.map .int) p3)) (i := 3) (xs := lotL) hZ hS hS2 (by omega) hR_get (by decide) (by decide)
  obtain ⟨s0, s1, es⟩ := sp_pair sx hs
  obtain ⟨m0, m1, em⟩ := mo_pair mx hm
  subst es em
  refine ⟨odd, s0, s1, m0, m1, lot, L4, p4, ho, hs, hm, hl, by omega, fDef_rt ?_⟩
  show sSeq st__law_rows_0 _ [some (.ref 3), none, none, none, none, none, none, none] _ = _
  rw [seq_nx ((r0 _).trans (of_st e1)), hR_set, seq_nx ((r1 _ _).trans (of_st e2)), hR_set, seq_nx ((r2 _ _ _).trans (of_st e3)), hR_set, r3, seq_nx ((r12 _ _ _ _ _).trans (of_st e4)), hR_set, r13]
end
theorem loop_ok {mc : C} (hc : seeB mc = true) : ∀ (ds : List D) (o : Option D), (∀ d ∈ ds, rowOk d) → ∃ o', forL tgB (gcU [0, 5, 6, 7] lawB) ds (slE o) (hR 53 mc) = .nx (slE o') (hR 53 mc) ∧ (ds ≠ [] → o' = none)
  | [], o, _ => ⟨o, rfl, fun h => absurd rfl h⟩
  | d :: ds, o, h => by
    obtain ⟨o', e, k⟩ := loop_ok hc ds none (fun x hx => h x (List.mem_cons_of_mem _ hx))
    have r := h d List.mem_cons_self o mc
    have r : (match tgB d (slE o) with
      | some sl => gcU [0, 5, 6, 7] lawB sl (hR 53 mc) | none => .no) = (match seeB mc with
      | true => .nx (slE none) (hR 53 mc) | false => .no) := r
    rw [hc] at r
    simp only at r
    refine ⟨o', ?_, fun _ => ?_⟩
    · show (match tgB d (slE o) with
        | none => RS.no
        | some sl1 => match gcU [0, 5, 6, 7] lawB sl1 (hR 53 mc) with
          | .nx sl2 h2 => forL tgB (gcU [0, 5, 6, 7] lawB) ds sl2 h2
          | .ct sl2 h2 => forL tgB (gcU [0, 5, 6, 7] lawB) ds sl2 h2
          | .bk sl2 h2 => .nx sl2 h2
          | r => r) = _
      cases q : tgB d (slE o) with
      | none => rw [q] at r; cases r
      | some sl1 =>
        rw [q] at r
        simp only at r
        simp only [r]
        exact e
    · cases ds with
      | nil =>
        have e' : RS.nx (slE none) (hR 53 mc) = RS.nx (slE o') (hR 53 mc) := e
        injection e' with e1 _
        injection e1 with e2 _
        exact e2.symm
      | cons a b => exact k (by simp)
theorem law_ok (ns : List Int) (hl : ns.length ≤ 63) : ∃ h', F_law [.cst (ns.map D.int)] hZ = .ok (.bl true) h' := by
  obtain ⟨L, S, Zs, hZ', hS, hS2, eb⟩ := begun_ok ns hl
  obtain ⟨odd, s0, s1, m0, m1, lot, L1, p1, hodd, hs, hm, hlot, q1, er⟩ := rows_ok (L := L) (sp := 0) hZ' hS hS2 (by omega)
  have all : ∀ d ∈ rowsL odd s0 s1 m0 m1 lot, rowOk d := (List.forall_mem_cons.2 ⟨row0, (List.forall_mem_cons.2 ⟨row1, (List.forall_mem_cons.2 ⟨row2, (List.forall_mem_cons.2 ⟨row3, (List.forall_mem_cons.2 ⟨row4, (List.forall_mem_cons.2 ⟨row5, (List.forall_mem_cons.2 ⟨row6, (List.forall_mem_cons.2 ⟨row7, (List.forall_mem_cons.2 ⟨row8, (List.forall_mem_cons.2 ⟨row9, (List.forall_mem_cons.2 ⟨row10 _ hodd, (List.forall_mem_cons.2 ⟨row11, (List.forall_mem_cons.2 ⟨row12 _ _ hs, (List.forall_mem_cons.2 ⟨row13 _ _ hm, (List.forall_mem_cons.2 ⟨row14, (List.forall_mem_cons.2 ⟨row15 _ hodd, (List.forall_mem_cons.2 ⟨row16, (List.forall_mem_cons.2 ⟨row17, (List.forall_mem_cons.2 ⟨row18 _ hodd, (List.forall_mem_cons.2 ⟨row19, (List.forall_mem_cons.2 ⟨row20, (List.forall_mem_cons.2 ⟨row21, (List.forall_mem_cons.2 ⟨row22, (List.forall_mem_cons.2 ⟨row23, (List.forall_mem_cons.2 ⟨row24, (List.forall_mem_cons.2 ⟨row25 _ hodd, (List.forall_mem_cons.2 ⟨row26, (List.forall_mem_cons.2 ⟨row27, (List.forall_mem_cons.2 ⟨row28 _ hlot, (List.forall_mem_cons.2 ⟨row29 _ hlot, (List.forall_mem_cons.2 ⟨row30 _ hlot, (List.forall_mem_cons.2 ⟨row31, (List.forall_mem_cons.2 ⟨row32 _ hodd, (fun _ h => nomatch h)⟩)⟩)⟩)⟩)⟩)⟩)⟩)⟩)⟩)⟩)⟩)⟩)⟩)⟩)⟩)⟩)⟩)⟩)⟩)⟩)⟩)⟩)⟩)⟩)⟩)⟩)⟩)⟩)⟩)⟩)⟩)⟩)⟩)
  obtain ⟨o', el, ho⟩ := loop_ok (mc := mC L1 S (Zs.map .int) p1) seeB_ok (rowsL odd s0 s1 m0 m1 lot) (some (.cst (ns.map D.int))) all
  have ho := ho (by simp [rowsL])
  subst ho
  obtain ⟨d2, L2, p2, hd2, q2, e2⟩ := of_ok (h := hR 54 (mC L1 S (Zs.map .int) p1)) (i := 3) (xs := odd2L) hZ' hS hS2 (by omega) hR_get (by decide) (by decide)
  obtain ⟨d3, L3, p3, hd3, q3, e3⟩ := of_ok (h := hR 54 (mC L2 S (Zs.map .int) p2)) (i := 3) (xs := prL) hZ' hS hS2 (by omega) hR_get (by decide) (by decide)
  have last := t18 (mC L3 S (Zs.map .int) p3)
  cases q : st_law_18 (slE none) (hR 53 (mC L3 S (Zs.map .int) p3)) with
  | rt d h' =>
    rw [q] at last
    cases d with
    | bl b =>
      cases b with
      | true =>
        refine ⟨h', fDef_rt ?_⟩
        show sSeq st_law_0 _ [some (.cst (ns.map D.int)), none, none, none, none, none, none, none, none, none, none] hZ = _
        have a0 : st_law_0 [some (.cst (ns.map D.int)), none, none, none, none, none, none, none, none, none, none] hZ = .nx [some (.cst (ns.map D.int)), some (.ref 3), none, none, none, none, none, none, none, none, none] (hM (mC L S (Zs.map .int) 0)) := by
          show R.st (F__law_begun [.cst (ns.map D.int), .int 0] hZ) _ = _
          rw [eb]
          rfl
        rw [seq_nx a0, pre_ok]
        have a6 : st_law_6 [some (.cst (ns.map D.int)), some (.ref 3), some (.ref 4), some (.ref 41), some keptD, none, none, none, none, none, none] (hR 50 (mC L S (Zs.map .int) 0)) = .nx (slE none) (hR 53 (mC L1 S (Zs.map .int) p1)) := by
          rw [st6_eq]
          show R.st (R.bind (F__law_rows [.ref 3] (hR 50 (mC L S (Zs.map .int) 0))) _) _ = _
          rw [er]
          exact el
        rw [seq_nx a6, t78, seeB_ok]
        show sSeqN 53 [] st_law_9 _ (slE none) (hR 53 (mC L1 S (Zs.map .int) p1)) = _
        have a9 : st_law_9 (slE none) (hR 53 (mC L1 S (Zs.map .int) p1)) = .nx (slO d2) (hR 54 (mC L2 S (Zs.map .int) p2)) := (t9a _).trans ((of_st e2).trans rfl)
        rw [seqN_nx a9, t9b d2 hd2, seeB_ok]
        show sSeq st_law_10 _ (slO d2) (hR 53 (mC L2 S (Zs.map .int) p2)) = _
        rw [t10 d2 hd2, seeB_ok]
        show sSeq st_law_16 _ (slE none) (hR 53 (mC L2 S (Zs.map .int) p2)) = _
        have a16 : st_law_16 (slE none) (hR 53 (mC L2 S (Zs.map .int) p2)) = .nx (slO d3) (hR 54 (mC L3 S (Zs.map .int) p3)) := (t16 _).trans ((of_st e3).trans rfl)
        rw [seq_nx a16, t17 d3 hd3, seeB_ok]
        exact q
      | false => cases last
    | _ => cases last
  | _ => rw [q] at last; cases last
end EK
end S_EmG
section S_EzA
/-! EzA: a law's end where guards and tables count; the claim. -/
namespace EV
open PySem PySem.Spec
    PyProof.Rows L2 LamX
/-- the empty tables at T, the script's object at a -/
def trk (T : List Addr) (a : Addr) (o : Option HO) : Hp := fun b => if b ∈ T then some (.tbl #[]) else if b = a then o else none
section
variable {T : List Addr} {a b : Addr} {o : Option HO} {u : HO}
theorem trk_in (m : b ∈ T) : trk T a o b = some (.tbl #[]) := if_pos m
theorem trk_at (m : a ∉ T) : trk T a o a = o := by
  unfold trk; rw [if_neg m, if_pos rfl]
theorem trk_no (m : b ∉ T) (n : b ≠ a) : trk T a o b = none := by
  unfold trk; rw [if_neg m, if_neg n]
theorem trk_is (z : trk T a o b = some u) : (b ∈ T ∧ u = .tbl #[]) ∨ (b = a ∧ o = some u) := by
  unfold trk at z
  by_cases m : b ∈ T
  · rw [if_pos m] at z; cases z; exact .inl ⟨m, rfl⟩
  · rw [if_neg m] at z
    by_cases e : b = a
    · rw [if_pos e] at z; exact .inr ⟨e, z⟩
    · rw [if_neg e] at z; cases z
end
abbrev tab0 : Obj := { cls := .none, data := .fields #[] }
abbrev lstO (vs : List Value) : Obj := { cls := .type "list", data := .seq vs.toArray }
/-- a law's one call, told by FnG -/
theorem goG {prog : Program} {w : World} {K : PySem.W.Frag} {mg mb : Str → Option Value} {C : CXT} {k : Nat} {f a : Addr} {ts : List (Addr × Addr)} {fd : FuncData} {x : Str} {sp : Sp} {s : Shared} {vs : List Value} {zs : List Int}
    (kIn : K.In s.heap) (nG : s.heap.Ns mainGlobals mg) (nB : s.heap.Ns builtinsNs mb) (bB : ∀ y : Str, y ≠ "__name__" → mb y = bootBuiltins y) (nL : s.heap.NoLimit) (gE : s.gens = #[])
    (tE : ∀ p ∈ ts, s.heap.get? p.2 = some tab0) (tK : ∀ p ∈ ts, K.lookup p.2 = none) (tC : ∀ p ∈ ts, PySem.W.CodeHd s.heap p.1 p.2)
    (bMn : ∃ (m : Addr) (om : Obj), mg "__builtins__" = some (.ref m) ∧ m ≠ builtinsNs ∧ s.heap.get? m = some om ∧ om.cls = .type "module" ∧ om.dict = some builtinsNs ∧ om.data = .plain)
    (aO : s.heap.get? a = some (lstO vs)) (aI : IntsAre vs zs) (aL : zs.length ≤ sizeLine) (rm : Room k callerA)
    (fn : ∀ bs : Heap, K.In bs → bs.Ns mainGlobals mg → (∀ p ∈ ts, TabB bs mg p.1 p.2) → FnG prog w K mg bs C k f fd [x] sp) (bd : ∀ (s : Shared) (u : Value), BindsTo s fd ⟨[u], []⟩ [(x, u)])
    (tell : ∀ H : Hp, (∀ p ∈ ts, H p.2 = some (.tbl #[])) → SqL K H a (zs.map V.int) → sp [.ref a] H (fun v _ => v = .bl true) fun _ _ _ => False)
    (noE : ∀ H e s', C [] H s (fun _ _ _ => False) e s' → False) :
    codeAny (model prog w) callerA (.call (.ref f) ⟨[.ref a], []⟩) (fun r s' => r = .ok (.ret (.bool true)) ∧ OldK s.heap s'.heap ∧ s'.os = s.os ∧ AllBare s'.gens) s := by
  have vI := vals_ints aI
  have lI := aI.length
  obtain ⟨T, eT⟩ : ∃ T : List Addr, T = ts.map (·.2) := ⟨_, rfl⟩
  have inT : ∀ p ∈ ts, p.2 ∈ T := fun p hp => by rw [eT]; exact List.mem_map.mpr ⟨p, hp, rfl⟩
  have ofT : ∀ b ∈ T, ∃ p ∈ ts, p.2 = b := fun b hb => by
    rw [eT] at hb
    rcases List.mem_map.mp hb with ⟨p, hp, e⟩
    exact ⟨p, hp, e⟩
  have atT : ∀ b ∈ T, s.heap.get? b = some tab0 := fun b hb => by
    obtain ⟨p, hp, rfl⟩ := ofT b hb
    exact tE p hp
  have aN : a ∉ T := fun m => by
    have q := (atT a m).symm.trans aO
    cases q
  obtain ⟨o, ho⟩ : ∃ o : Option HO, (o = none ∧ ∃ ob, K.lookup a = some ob) ∨ (K.lookup a = none ∧ o = some (.frz (lstO vs) (.lst (zs.map V.int)))) := by
    cases q : K.lookup a with
    | some ob => exact ⟨none, .inl ⟨rfl, ob, rfl⟩⟩
    | none => exact ⟨_, .inr ⟨rfl, rfl⟩⟩
  obtain ⟨H, eH⟩ : ∃ H : Hp, H = trk T a o := ⟨_, rfl⟩
  have hT : ∀ p ∈ ts, H p.2 = some (.tbl #[]) := fun p hp => by rw [eH]; exact trk_in (inT p hp)
  have isH : ∀ {b : Addr} {u : HO}, H b = some u → (b ∈ T ∧ u = .tbl #[]) ∨ (b = a ∧ o = some u) := fun {b u} z => trk_is (by rw [← eH]; exact z)
  have oF : ∀ {u : HO}, o = some u → u = .frz (lstO vs) (.lst (zs.map V.int)) ∧ K.lookup a = none := fun {u} z => by
    rcases ho with ⟨e, _⟩ | ⟨n, e⟩
    · rw [e] at z; cases z
    · rw [e] at z; cases z; exact ⟨rfl, n⟩
  -- what else lies there is not told of
  have free : ∀ {b : Addr} {ob : Obj}, s.heap.get? b = some ob → (∀ l n, ob.data ≠ .seq l n) → ob.data ≠ .fields #[] → H b = none := fun {b ob} e n1 n2 => by
    cases q : H b with
    | none => rfl
    | some u =>
      rcases isH q with ⟨m, _⟩ | ⟨rfl, _⟩
      · rw [atT b m] at e; cases e; exact absurd rfl n2
      · rw [aO] at e; cases e; exact absurd rfl (n1 _ _)
  have keep : ∀ {b : Addr} {ob : Obj}, s.heap.get? b = some ob → H b = none → (hidT s.heap H).get? b = some ob := fun e n => hidT_get e n
  have freeD : ∀ {b : Addr} {ob : Obj} {es : Array DictEntry} {ep : Nat}, s.heap.get? b = some ob → ob.data = .dict es ep → H b = none := fun e d => free e (fun l n z => by rw [d] at z; cases z) (fun z => by rw [d] at z; cases z)
  have nsB : ∀ {b : Addr} {m : Str → Option Value}, s.heap.Ns b m → (hidT s.heap H).Ns b m := fun ⟨ob, es, ep, e, d, r⟩ => ⟨ob, es, ep, keep e (freeD e d), d, r⟩
  have kB : K.In (hidT s.heap H) := fun b ob e => keep (kIn b ob e) (by
    cases q : H b with
    | none => rfl
    | some u =>
      rcases isH q with ⟨m, _⟩ | ⟨rfl, z⟩
      · obtain ⟨p, hp, rfl⟩ := ofT b m
        rw [tK p hp] at e; cases e
      · rw [(oF z).2] at e; cases e)
  have md : L2.Mod K mg (hidT s.heap H) := ⟨kB, nsB nG, ⟨mb, nsB nB, bB⟩, by
    obtain ⟨c, l1, l2⟩ := nL
    exact ⟨c, nsB l1, l2⟩⟩
  have tB : ∀ p ∈ ts, TabB (hidT s.heap H) mg p.1 p.2 := fun p hp => by
    have e0 := tE p hp
    refine ⟨?_, ?_, fun z => ?_⟩
    · obtain ⟨oc, us, fl, tf, fg, tg, fi, tx, tt, c1, c2⟩ := tC p hp
      have d := c2.1
      have d3 := c2.2.1
      refine ⟨oc, us, fl, tf, fg, tg, fi, tx, tt, keep c1 (free c1 (fun l n z => ?_) (fun z => ?_)), c2⟩
      · first | (rw [d] at z; cases z) | (rw [d3] at z; cases z)
      · first | (rw [d3] at z; cases z; simp at c2) | (rw [d] at z; cases z; simp at c2)
    · obtain ⟨m, om, b1, b2, b3, b4, b5, b6⟩ := bMn
      have m1 : m ≠ mainGlobals := fun q => by
        obtain ⟨og, es, ep, eg, dg, _⟩ := nG
        rw [q, eg] at b3; cases b3
        rw [dg] at b6; cases b6
      have m2 : m ≠ p.2 := fun q => by
        rw [q, e0] at b3; cases b3; cases b6
      exact ⟨m, om, b1, b2, m1, m2, keep b3 (free b3 (fun l n z => by rw [b6] at z; cases z) (fun z => by rw [b6] at z; cases z)), b4, b5, b6⟩
    · obtain ⟨og, es, ep, eg, dg, _⟩ := nG
      rw [z, e0] at eg; cases eg; cases dg
  have hS : SqL K H a (zs.map V.int) := by
    rcases ho with ⟨_, ob, n⟩ | ⟨_, e⟩
    · have q := (kIn a ob n).symm.trans aO
      cases q
      exact .inr ⟨_, vs.toArray, _, n, rfl, rfl, rfl, by rw [List.size_toArray, lI]; exact aL, by simpa using vI⟩
    · exact .inl (.inr ⟨lstO vs, by rw [eH, trk_at aN]; exact e⟩)
  have hok : HOk prog w H s.heap := fun b u z => by
    rcases isH z with ⟨m, rfl⟩ | ⟨rfl, q⟩
    · exact atT b m
    · obtain ⟨rfl, _⟩ := oF q
      exact ⟨aO, by rw [List.length_map]; exact aL, vs, _, vI, aO⟩
  have e0 : Env0 prog w K mg (hidT s.heap H) callerA [] s H := ⟨rfl, md, fun b ob e => of_hidT e, Nat.le_of_eq (hidT_size _ _), trivial, fun b hb => (nomatch hb), hok, .of_eq gE⟩
  refine codeAny_mono ((fn _ kB (nsB nG) tB).run callerA [] s H ⟨[.ref a], []⟩ [.ref a] [.ref a] _ _ rfl rm e0 (bd s (.ref a)) (.cons rfl .nil) (tell H hT hS)) fun r s' z => ?_
  cases r with
  | error e => exact (noE H e s' z).elim
  | ok fl =>
    cases fl with
    | next => exact z.elim
    | brk => exact z.elim
    | cont => exact z.elim
    | ret u =>
      obtain ⟨v, H', eo, br, un, hok', rl, q⟩ := z
      have q2 : v = .bl true := q
      subst q2
      obtain rfl : u = Value.bool true := rl
      have old : ∀ b ob, b ∉ T → s.heap.get? b = some ob → s'.heap.get? b = some ob := fun b ob nb e => by
        cases hb : H b with
        | none => exact un.keep b ob e hb (fun m => (nomatch m)) (by simp)
        | some u =>
          rcases isH hb with ⟨m, _⟩ | ⟨rfl, q⟩
          · exact absurd m nb
          · obtain ⟨rfl, _⟩ := oF q
            have e2 := (hok' b _ (un.frzs b _ _ hb)).1
            rw [aO] at e; cases e
            exact e2
      have more : ∀ b ∈ T, ∃ l : Array Value, s'.heap.get? b = some { cls := .none, data := .fields l } ∧ isCodeTable s.heap b := fun b m => by
        obtain ⟨p, hp, rfl⟩ := ofT b m
        obtain ⟨l, z⟩ := un.tbls p.2 #[] (hT p hp)
        exact ⟨_, hok' p.2 _ z, ((tC p hp).tab (tE p hp)).isCodeTable⟩
      refine ⟨rfl, ⟨fun b ob e => ?_, fun b ob e => ?_⟩, eo, br⟩
      · by_cases m : b ∈ T
        · obtain ⟨l, z, c⟩ := more b m
          rw [atT b m] at e; cases e
          exact .inr (.inl ⟨c, rfl, #[], l, rfl, by rw [Array.empty_append]; exact z⟩)
        · exact .inl (old b ob m e)
      · by_cases m : b ∈ T
        · obtain ⟨l, z, _⟩ := more b m
          exact ⟨_, z⟩
        · exact ⟨ob, old b ob m e⟩
/-- the end of such a law -/
theorem walkG {l : PySem.W.OpenLaw} {n k : Nat} {q : Program} {ls : List Str} {XP : (Str → Option Value) → Heap → Prop} {YP : World → Heap → Prop} {d : DefRec} {C : World → CXT} {x : Str}
    (mo : l.most = some n) (hn : n ≤ sizeLine) (nd : d.params.defaults = []) (rm : Room k callerA)
    (F : ∀ (w : World) (mg : Str → Option Value) (f : Addr) (h : Heap), YP w h → h.Ns mainGlobals mg → mg d.name = some (.ref f) → ∃ (K : PySem.W.Frag) (fd : FuncData) (ts : List (Addr × Addr)) (sp : Sp), K.In h ∧ (∀ p ∈ ts, h.get? p.2 = some tab0) ∧ (∀ p ∈ ts, K.lookup p.2 = none) ∧
      (∀ p ∈ ts, PySem.W.CodeHd h p.1 p.2) ∧ (∀ (s : Shared) (u : Value), BindsTo s fd ⟨[u], []⟩ [(x, u)]) ∧
      (∀ (H : Hp) (a : Addr) (zs : List Int), zs.length ≤ n → (∀ p ∈ ts, H p.2 = some (.tbl #[])) → SqL K H a (zs.map V.int) → sp [.ref a] H (fun v _ => v = .bl true) fun _ _ _ => False) ∧
      ∀ bs : Heap, K.In bs → bs.Ns mainGlobals mg → (∀ p ∈ ts, TabB bs mg p.1 p.2) → FnG l.prog w K mg bs (C w) k f fd [x] sp)
    (noE : ∀ (w : World) (H : Hp) (s : Shared) (e : Value) (s' : Shared), C w [] H s (fun _ _ _ => False) e s' → False) :
    PySem.W.WalkO q ls XP YP l.row.toRowW d [] (fun f vs => PySem.call f vs) := by
  refine Att.attach_callB mo nd fun w s₀ s mg mb f o pm cd doc a vs zs G Y e1 e2 e3 hmg aO aI aL _ gE => ?_
  obtain ⟨K, fd, ts, sp, kIn, tE, tK, tC, bd, tell, fn⟩ := F w mg f _ Y G.T.g hmg
  exact goG kIn G.T.g G.T.b G.T.builtins G.T.nolimit gE tE tK tC G.T.bmain aO aI (Nat.le_trans aL hn) rm fn bd (fun H h1 h2 => tell H a zs aL h1 h2) fun H e s' => noE w H s e s'
end EV
end S_EzA
noncomputable section S_EzB
/-! EzB: the claim. -/
namespace EK
open PySem PySem.Spec PyProof.Rows L2 Evl EV LamX
section
variable {w : World} {K : PySem.W.Frag} {mg : Str → Option Value} {h base : Heap}
/-- the two tables -/
abbrev tA (K : PySem.W.Frag) (i : Nat) : Addr := (He.cT K (tfL.getD i ("law", none))).2
def rho0 (K : PySem.W.Frag) : Nat → Option Addr
  | 0 => some (tA K 0)
  | 1 => some (tA K 1)
  | _ + 2 => none
theorem rho0_lt {i : Nat} {a : Addr} (e : rho0 K i = some a) : i < 2 := match i, e with
  | 0, _ => by decide
  | 1, _ => by decide
  | _ + 2, e => nomatch e
/-- all but the tables is fixed -/
def gh0 (K : PySem.W.Frag) (H : Hp) : G := ⟨fun b => if b = tA K 0 ∨ b = tA K 1 then none else H b, rho0 K⟩
def spLw (w : World) (K : PySem.W.Frag) : Sp := fun vs H Q E => ∃ gh : G, (∀ i a, gh.ρ i = some a → i < 2) ∧ spZ (Pk w K gh) 1 F_law vs H Q E
theorem lawG (F : Fx w K mg base) : FnG pw w K mg base (L2.CX pw w) 13 (He.ga K "law") (fdOf K (He.ga K "law")) ["script"] (spLw w K) := by
  refine ⟨fun vs H Q E ⟨_, _, z⟩ => z.1, fun A outer s H args us vs Q E hg rm e b v ⟨gh, lt, z⟩ => ?_⟩
  have two : ∀ n, Nat.ble 2 n = true → ∀ i a, (Pk w K gh).gh.ρ i = some a → i < n := fun n hn i a q => Nat.lt_of_lt_of_le (lt i a q) (Nat.le_of_ble_eq_true hn)
  exact (ok_law F two).run A outer s H args us vs Q E hg rm e b v z
theorem rvInts {P : Pm} {F : Hp} {ρ : Nat → Option Addr} : ∀ zs : List Int, RVs P F ρ (zs.map D.int) (zs.map V.int)
  | [] => .nil
  | z :: r => .cons (.int z) (rvInts r)
theorem tellL (ne : tA K 0 ≠ tA K 1) (H : Hp) (a : Addr) (zs : List Int) (l : zs.length ≤ 63) (t : ∀ p ∈ tfL.map (He.cT K), H p.2 = some (.tbl #[])) (S : SqL K H a (zs.map V.int)) : spLw w K [.ref a] H (fun v _ => v = .bl true) fun _ _ _ => False := by
  have t0 : H (tA K 0) = some (.tbl #[]) := t (He.cT K ("law", none)) (by simp [tfL])
  have t1 : H (tA K 1) = some (.tbl #[]) := t (He.cT K ("_law_bounds_right", none)) (by simp [tfL])
  obtain ⟨h', eq⟩ := law_ok zs l
  have stay : ∀ {b : Addr} {u : HO}, H b = some u → (∀ ps, u ≠ .tbl ps) → (gh0 K H).F b = some u := fun {b u} e n => by
    have nb : ¬ (b = tA K 0 ∨ b = tA K 1) := fun z => by
      rcases z with rfl | rfl
      · rw [t0] at e; cases e; exact n _ rfl
      · rw [t1] at e; cases e; exact n _ rfl
    show (if b = tA K 0 ∨ b = tA K 1 then none else H b) = some u
    rw [if_neg nb, e]
  have S0 : SqL K (gh0 K H).F a (zs.map V.int) := by
    rcases S with (e | ⟨o, e⟩) | r
    · exact .inl (.inl (stay e (fun ps z => nomatch z)))
    · exact .inl (.inr ⟨o, stay e (fun ps z => nomatch z)⟩)
    · exact .inr r
  refine ⟨gh0 K H, fun i a q => rho0_lt q, rfl, [.cst (zs.map D.int)], hZ, ?_, .cons (.cst S0 (rvInts zs)) .nil, ?_⟩
  · have cell : ∀ i c, hZ.get i = some c → ∃ (ad : Addr) (o : HO), (gh0 K H).ρ i = some ad ∧ (gh0 K H).F ad = none ∧ H ad = some o ∧ RC (Pk w K (gh0 K H)) (gh0 K H).F (gh0 K H).ρ ad c o := fun i c e => by
      have e2 : (if (0 : Nat) = i then some (C.tbl 0) else if (1 : Nat) = i then some (C.tbl 1) else none) = some c := e
      by_cases i0 : (0 : Nat) = i
      · subst i0
        cases e2
        exact ⟨tA K 0, _, rfl, if_pos (.inl rfl), t0, .tbl rfl trivial (fun _ _ z => nomatch z)⟩
      · rw [if_neg i0] at e2
        by_cases i1 : (1 : Nat) = i
        · subst i1
          cases e2
          exact ⟨tA K 1, _, rfl, if_pos (.inr rfl), t1, .tbl rfl trivial (fun _ _ z => nomatch z)⟩
        · rw [if_neg i1] at e2
          cases e2
    refine ⟨fun b u e => ?_, cell, fun i j c c' e1 e2 e3 => ?_, fun i hi => ?_, G.le.refl _⟩
    · have e' : (if b = tA K 0 ∨ b = tA K 1 then none else H b) = some u := e
      by_cases z : b = tA K 0 ∨ b = tA K 1
      · rw [if_pos z] at e'; cases e'
      · rw [if_neg z] at e'; exact e'
    · obtain ⟨a1, _, r1, _⟩ := cell i c e1
      obtain ⟨a2, _, r2, _⟩ := cell j c' e2
      have l1 := rho0_lt r1
      have l2 := rho0_lt r2
      have e4 : rho0 K i = rho0 K j := e3
      match i, j, l1, l2 with
      | 0, 0, _, _ => rfl
      | 1, 1, _, _ => rfl
      | 0, 1, _, _ => exact absurd (Option.some.inj e4) ne
      | 1, 0, _, _ => exact absurd (Option.some.inj e4) (Ne.symm ne)
    · have h2 : 2 ≤ i := hi
      match i, h2 with
      | _ + 2, _ => rfl
  · rw [eq]
    intro g' H' v _ _ r
    cases r
    rfl
theorem SaysQ.at (c : SaysQ w h K) (i : Nat) {d : QD} (e : qL[i]? = some d) (e0 : d.clo = [] := by rfl) : FunD K d.name d.qual (defArgs d.st) (defBody d.st) (defScope d.st) [] [] (d.ad K) (fdOf K (d.ad K)) := by
  refine fun_of ?_ (List.all_eq_true.mp (and2 (and2 c.ex).1).1 d (List.mem_of_getElem? e)) e0
  have q := congrArg (fun l => l[i]?) c.q
  rw [List.getElem?_map, List.getElem?_map, e] at q
  exact Option.some.inj q
theorem endL {f : Addr} (kIn : K.In h) (nG : h.Ns mainGlobals mg) (e : mg ("law" : Str) = some (.ref f)) (c : SaysQ w h K) :
    ∃ (K : PySem.W.Frag) (fd : FuncData) (ts : List (Addr × Addr)) (sp : Sp), K.In h ∧ (∀ p ∈ ts, h.get? p.2 = some tab0) ∧ (∀ p ∈ ts, K.lookup p.2 = none) ∧
      (∀ p ∈ ts, PySem.W.CodeHd h p.1 p.2) ∧ (∀ (s : Shared) (u : Value), BindsTo s fd ⟨[u], []⟩ [(("script" : Str), u)]) ∧
      (∀ (H : Hp) (a : Addr) (zs : List Int), zs.length ≤ 63 → (∀ p ∈ ts, H p.2 = some (.tbl #[])) → SqL K H a (zs.map V.int) → sp [.ref a] H (fun v _ => v = .bl true) fun _ _ _ => False) ∧
      ∀ bs : Heap, K.In bs → bs.Ns mainGlobals mg → (∀ p ∈ ts, TabB bs mg p.1 p.2) → FnG pw w K mg bs (L2.CX pw w) 13 f fd ["script"] sp := by
  have g := He.glo_ok kIn nG (List.all_eq_true.mp c.f (.glo "law") (List.mem_of_getElem? (i := 39) rfl))
  rw [e] at g
  cases g
  have ne : tA K 0 ≠ tA K 1 := by
    have z := (and2 (and2 c.ex).2).2
    have z2 := (and2 z).2
    intro q
    have q2 : (He.cT K ("law", none)).2 = (He.cT K ("_law_bounds_right", none)).2 := q
    rw [decide_eq_true q2] at z2
    cases z2
  have F := c.at 39 (d := ⟨fun K => He.ga K "law", "law", "law", top 83, []⟩) rfl
  have b := (FunD.bindsA (ps := ["script"]) F fun _ _ _ _ _ _ us hl => match us, hl with | [_], _ => rfl)
  have up : ∀ {X : Addr × Addr → Prop}, (∀ p ∈ tfL, X (He.cT K p)) → ∀ p ∈ tfL.map (He.cT K), X p := fun x p hp => by
    obtain ⟨d, hd, rfl⟩ := List.mem_map.mp hp
    exact x d hd
  refine ⟨K, _, tfL.map (He.cT K), spLw w K, kIn, up c.empty, up c.out, up fun p hp => PySem.W.codeHd_of_K kIn (c.hd p hp), fun s u => b s [u] rfl, tellL ne, fun bs k2 n2 tb => ?_⟩
  exact lawG ⟨k2, n2, c.f, c.ex, c.q, c.t, fun p hp => tb _ (List.mem_map.mpr ⟨p, hp, rfl⟩)⟩
end
end EK
open PySem PySem.W
    PySem.Calls PyProof.Rows
theorem PySem.Challenge.cw_stairfaces_k76_bench_refused_holds : PySem.Challenge.rw_stairfaces_k76_bench_refused.Holds := by
  w_on; o_law
  refine HandSHeadRun.head_any (r := EK.rowO) (q := view EK.rowO.prog [83]) (H := EK.hkQ) (ob := EK.obH) (M := 30000) (loose := EK.namesO) (d := HandSHeadRun.topDef EK.rowO.prog 83) (kwd := []) EK.obH_eq
    (by kernel_rfl) (fun s => by kernel_rfl) EK.runO (by kernel_rfl) (by kernel_rfl) (by kernel_rfl) (by rfl) (by first | assumption | decide +kernel) (by decide +kernel) ⟨rfl, rfl, rfl, rfl, rfl, by decide +kernel⟩ ?hw ?hc
  case hw => w_witness2
  case hc =>
    refine EV.walkG (l := PySem.Challenge.rw_stairfaces_k76_bench_refused) (n := 63) (k := 13) (x := "script") (C := fun w => L2.CX EK.pw w) rfl (by decide) (by kernel_rfl) ⟨rfl, by decide, by decide⟩ ?F ?N
    case F =>
      intro w mg f h Y nG e
      obtain ⟨K, kIn, c⟩ := Y
      have nm : (HandSHeadRun.topDef EK.rowO.prog 83).name = ("law" : PySem.Str) := by kernel_rfl
      rw [nm] at e
      exact EK.endL kIn nG e c
    case N =>
      intro w H s e s' z
      obtain ⟨_, _, _, _, _, _, _, _, _, _, _, _, q⟩ := z
      exact q
end S_EzB
