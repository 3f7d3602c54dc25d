import PyProof.Rows.All
import Wide.All
import OpenK.AllK
import Wide.FinOn
import KE.KDictKeyed
import KE.KeyNested
import KE.KDictWalk
import HandS.ForMost
import HandS.Flow
import HandS.Evl
import HandS.Style
import HandS.TupAny
import HandS.Deep
import HandS.IsInst
import HandS.Zip
import HandS.More
import HandS.Exc
import KE.KDictDisplayH
import PyProof.DictUpdate
import PyProof.DictDisplay
import HandS.TupSets
import KE.GoesMore
import HandS.Words
import HandS.Defaults
import HandS.Comp
import KE.KStateDown
import HandS.Ends
import HandS.WordsExc
import HandS.Head0
import HandS.Head1
import HandS.Head2
import HandS.HeadEnd
import HandS.HeadHook1
import HandS.HeadHook2
import HandS.HeadHook3
import PySem.Challenge.RW_nameswait_k06_whole_shortest_histories
set_option Elab.async false
set_option linter.all false
set_option maxRecDepth 100000
set_option maxHeartbeats 0
/-! Data, what the heap bears of it, the frame's invariant. -/
namespace NW
open PySem PySem.Spec PyProof.Rows L2 Evl

/-- a value as plain data -/
inductive D where
  | non | bl (b : Bool) | int (i : Int) | str (x : Str) | tup (l : List D) | lst (l : List D) | dS (l : List (Str × D)) | dT (l : List (D × D)) | opq (a : Addr)

mutual
def D.key : D → NestedKey
  | .non => .none
  | .bl b => .num (if b = true then 1 else 0)
  | .int i => .num i
  | .str x => .text x
  | .tup l => .tup (keyL l)
  | .lst _ => .none
  | .dS _ => .none
  | .dT _ => .none
  | .opq _ => .none
def keyL : List D → List NestedKey
  | [] => []
  | d :: r => d.key :: keyL r
end
mutual
/-- None, bools, ints, texts, tuples of these -/
def D.im : D → Bool
  | .non => true
  | .bl _ => true
  | .int _ => true
  | .str _ => true
  | .tup l => imL l
  | .lst _ => false
  | .dS _ => false
  | .dT _ => false
  | .opq _ => false
def imL : List D → Bool
  | [] => true
  | d :: r => d.im && imL r
end
mutual
def D.py : D → PyData
  | .non => .none
  | .bl b => .bool b
  | .int i => .int i
  | .str x => .str x
  | .tup l => .tuple (pyL l)
  | .lst l => .list (pyL l)
  | .dS _ => .none
  | .dT _ => .none
  | .opq _ => .none
def pyL : List D → List PyData
  | [] => []
  | d :: r => d.py :: pyL r
end
mutual
/-- data without dicts -/
def D.sq : D → Bool
  | .non => true
  | .bl _ => true
  | .int _ => true
  | .str _ => true
  | .tup l => sqL l
  | .lst l => sqL l
  | .dS _ => false
  | .dT _ => false
  | .opq _ => false
def sqL : List D → Bool
  | [] => true
  | d :: r => d.sq && sqL r
end

/-- the text, the world, the written part -/
structure Wd where
  P : Program
  w : World
  K : PySem.W.Frag
abbrev wd (X : Cx) : Wd := ⟨X.prog, X.w, X.K⟩

/-- the very object at an address -/
abbrev xo (a : Addr) (ob : Obj) : HO := .ext fun h => h.get? a = some ob
/-- the object is a dict whose keys are nested tuples: the entries' keys, where their tuples stand, the values -/
structure DObT (T : Wd) (a : Addr) (ob : Obj) (xs : List (NestedKey × Addr × V)) : Prop where
  nm : (a == sysModules) = false
  len : xs.length ≤ sizeLine
  ob : ∃ ys : List (NestedKey × Addr × Value), Paired (fun x y => x.1 = y.1 ∧ x.2.1 = y.2.1 ∧ RelV x.2.2 y.2.2) xs ys ∧ ob.ExactDict ∧ ∃ es ep, ob.data = .dict es ep ∧ es.toList = ys.map (entryOfKey (nestedKind T.P T.w)) ∧ (ys.map (·.1)).Nodup

mutual
inductive Rep (T : Wd) (F : Hp) : V → D → Prop
  | non : Rep T F .non .non
  | bl (b : Bool) : Rep T F (.bl b) (.bl b)
  | int (i : Int) : Rep T F (.int i) (.int i)
  | str (x : Str) : Rep T F (.str x) (.str x)
  | tup {a : Addr} {xs : List V} {ds : List D} : SqT T.K F a xs → RepL T F xs ds → Rep T F (.ref a) (.tup ds)
  | lst {a : Addr} {xs : List V} {ds : List D} : F a = some (.lst xs) → RepL T F xs ds → Rep T F (.ref a) (.lst ds)
  | dS {a : Addr} {kvs : List (Key × V)} {es : List (Str × D)} : Rd F a (.dK kvs) → RepS T F kvs es → Rep T F (.ref a) (.dS es)
  | dT {a : Addr} {ob : Obj} {xs : List (NestedKey × Addr × V)} {es : List (D × D)} : Rd F a (xo a ob) → DObT T a ob xs → RepT T F xs es → Rep T F (.ref a) (.dT es)
  /-- something that is only handed on -/
  | opq (a : Addr) : Rep T F (.ref a) (.opq a)
inductive RepL (T : Wd) (F : Hp) : List V → List D → Prop
  | nil : RepL T F [] []
  | cons {v : V} {vs : List V} {d : D} {ds : List D} : Rep T F v d → RepL T F vs ds → RepL T F (v :: vs) (d :: ds)
inductive RepS (T : Wd) (F : Hp) : List (Key × V) → List (Str × D) → Prop
  | nil : RepS T F [] []
  | cons {k : Str} {v : V} {d : D} {kvs : List (Key × V)} {es : List (Str × D)} : Rep T F v d → RepS T F kvs es → RepS T F ((.inr k, v) :: kvs) ((k, d) :: es)
inductive RepT (T : Wd) (F : Hp) : List (NestedKey × Addr × V) → List (D × D) → Prop
  | nil : RepT T F [] []
  | cons {b : Addr} {v : V} {k d : D} {xs : List (NestedKey × Addr × V)} {es : List (D × D)} : Rep T F (.ref b) k → k.im = true → k.key.depth ≤ 8 → Rep T F v d → RepT T F xs es → RepT T F ((k.key, b, v) :: xs) ((k, d) :: es)
end

/-- readable things stay readable -/
def plainO : HO → Prop
  | .frz _ _ => False
  | _ => True
structure RdLe (F F' : Hp) : Prop where
  rd : ∀ a u, plainO u → Rd F a u → Rd F' a u
  l : ∀ a xs, F a = some (.lst xs) → F' a = some (.lst xs)
theorem RdLe.ex {F F' : Hp} (e : Ex F F') : RdLe F F' := ⟨fun a u _ h => ex_rd e h, fun a xs h => e a _ h⟩
section
variable {T : Wd} {F F' : Hp}
theorem RdLe.t (le : RdLe F F') {a : Addr} {xs : List V} (h : SqT T.K F a xs) : SqT T.K F' a xs := h.elim (fun z => .inl (le.rd _ _ trivial z)) .inr
mutual
theorem Rep.mono (le : RdLe F F') : ∀ {v : V} {d : D}, Rep T F v d → Rep T F' v d
  | _, _, .non => .non
  | _, _, .bl b => .bl b
  | _, _, .int i => .int i
  | _, _, .str x => .str x
  | _, _, .tup h r => .tup (le.t h) (RepL.mono le r)
  | _, _, .lst h r => .lst (le.l _ _ h) (RepL.mono le r)
  | _, _, .dS h r => .dS (le.rd _ _ trivial h) (RepS.mono le r)
  | _, _, .dT h o r => .dT (le.rd _ _ trivial h) o (RepT.mono le r)
  | _, _, .opq a => .opq a
theorem RepL.mono (le : RdLe F F') : ∀ {vs : List V} {ds : List D}, RepL T F vs ds → RepL T F' vs ds
  | _, _, .nil => .nil
  | _, _, .cons h r => .cons (Rep.mono le h) (RepL.mono le r)
theorem RepS.mono (le : RdLe F F') : ∀ {vs : List (Key × V)} {ds : List (Str × D)}, RepS T F vs ds → RepS T F' vs ds
  | _, _, .nil => .nil
  | _, _, .cons h r => .cons (Rep.mono le h) (RepS.mono le r)
theorem RepT.mono (le : RdLe F F') : ∀ {vs : List (NestedKey × Addr × V)} {ds : List (D × D)}, RepT T F vs ds → RepT T F' vs ds
  | _, _, .nil => .nil
  | _, _, .cons h i j g r => .cons (Rep.mono le h) i j (Rep.mono le g) (RepT.mono le r)
end
theorem Rep.ex {v : V} {d : D} (e : Ex F F') (h : Rep T F v d) : Rep T F' v d := h.mono (.ex e)
theorem RepL.ex {v : List V} {d : List D} (e : Ex F F') (h : RepL T F v d) : RepL T F' v d := h.mono (.ex e)
theorem RepL.len {vs : List V} {ds : List D} (h : RepL T F vs ds) : vs.length = ds.length := by
  induction ds generalizing vs with
  | nil => cases h; rfl
  | cons d r ih => cases h with | cons h1 h2 => simp [ih h2]
theorem RepS.len {vs : List (Key × V)} {ds : List (Str × D)} (h : RepS T F vs ds) : vs.length = ds.length := by
  induction ds generalizing vs with
  | nil => cases h; rfl
  | cons d r ih => cases h with | cons h1 h2 => simp [ih h2]
theorem RepT.len {vs : List (NestedKey × Addr × V)} {ds : List (D × D)} (h : RepT T F vs ds) : vs.length = ds.length := by
  induction ds generalizing vs with
  | nil => cases h; rfl
  | cons d r ih => cases h with | cons h1 h2 h3 h4 h5 => simp [ih h5]
theorem RepL.get {vs : List V} {ds : List D} (h : RepL T F vs ds) : ∀ {i : Nat} {d : D}, ds[i]? = some d → ∃ v, vs[i]? = some v ∧ Rep T F v d := by
  induction ds generalizing vs with
  | nil => intro i d e; simp at e
  | cons d r ih =>
    cases h with
    | cons h1 h2 =>
      intro i e hi
      cases i with
      | zero => simp at hi; subst hi; exact ⟨_, rfl, h1⟩
      | succ i => simpa using ih h2 (i := i) (by simpa using hi)
theorem RepL.app {vs us : List V} {ds es : List D} (h : RepL T F vs ds) (g : RepL T F us es) : RepL T F (vs ++ us) (ds ++ es) := by
  induction ds generalizing vs with
  | nil => cases h; exact g
  | cons d r ih => cases h with | cons h1 h2 => exact .cons h1 (ih h2)
theorem RepL.take {vs : List V} {ds : List D} (h : RepL T F vs ds) : ∀ n, RepL T F (vs.take n) (ds.take n) := by
  induction ds generalizing vs with
  | nil => cases h; intro n; simp; exact .nil
  | cons d r ih =>
    cases h with
    | cons h1 h2 =>
      intro n
      cases n with
      | zero => exact .nil
      | succ n => exact .cons h1 (ih h2 n)
theorem RepL.drop {vs : List V} {ds : List D} (h : RepL T F vs ds) : ∀ n, RepL T F (vs.drop n) (ds.drop n) := by
  induction ds generalizing vs with
  | nil => cases h; intro n; simp; exact .nil
  | cons d r ih =>
    cases h with
    | cons h1 h2 =>
      intro n
      cases n with
      | zero => exact .cons h1 h2
      | succ n => exact ih h2 n
end

/-! ### steps of the heap: F what nobody writes, H all -/
structure EStp (F H F' H' : Hp) : Prop where
  ex : Ex H H'
  sub : Ex F' H'
  ag : ∀ a, H a ≠ none → F' a = F a
theorem some_ne {H : Hp} {a : Addr} {o : HO} (h : H a = some o) : H a ≠ none := by rw [h]; simp
section
variable {F H F1 H1 F2 H2 F' H' : Hp}
theorem EStp.le (st : EStp F H F' H') (s : Ex F H) : Ex F F' := fun a o e => by
  rw [st.ag a (some_ne (s a o e))]
  exact e
theorem EStp.refl (s : Ex F H) : EStp F H F H := ⟨Ex.refl H, s, fun _ _ => rfl⟩
theorem EStp.trans (a : EStp F H F1 H1) (b : EStp F1 H1 F2 H2) : EStp F H F2 H2 := ⟨a.ex.trans b.ex, b.sub, fun x hx => (b.ag x (by
  cases q : H x with
  | none => exact absurd q hx
  | some o => exact some_ne (a.ex x o q))).trans (a.ag x hx)⟩
theorem Ex.sub_upd {p : Addr} {o : HO} (s : Ex F H) : Ex (upd F p o) (upd H p o) := fun a u e => by
  by_cases h : a = p
  · subst h; rw [upd_same] at e ⊢; exact e
  · rw [upd_ne h] at e ⊢; exact s a u e
theorem Ex.sub_new {p : Addr} {o : HO} (s : Ex F H) (hp : H p = none) : Ex F (upd H p o) := s.trans (Ex.new hp)
theorem Ex.none_sub {p : Addr} (s : Ex F H) (hp : H p = none) : F p = none := by
  cases q : F p with
  | none => rfl
  | some o => rw [s p o q] at hp; cases hp
/-- a new thing that nobody will write -/
theorem EStp.new {p : Addr} (s : Ex F H) (hp : H p = none) (o : HO) : EStp F H (upd F p o) (upd H p o) :=
  ⟨Ex.new hp, Ex.sub_upd s, fun a ha => upd_ne (by rintro rfl; exact ha hp)⟩
/-- a new thing of one's own -/
theorem EStp.newH {p : Addr} (s : Ex F H) (hp : H p = none) (o : HO) : EStp F H F (upd H p o) :=
  ⟨Ex.new hp, Ex.sub_new s hp, fun _ _ => rfl⟩
end

/-! ### slots -/
inductive Slot where
  | un | val (d : D) | own (d : D)
abbrev Ro := List Slot
/-- what stands at p is d, and the frame's own; its parts are nobody's -/
def Own (T : Wd) (F H : Hp) (p : Addr) : D → Prop
  | .lst ds => ∃ xs, H p = some (.lst xs) ∧ RepL T F xs ds
  | .dS es => ∃ kvs, H p = some (.dK kvs) ∧ RepS T F kvs es
  | .dT es => ∃ ob xs, H p = some (xo p ob) ∧ DObT T p ob xs ∧ RepT T F xs es
  | _ => False
section
variable {T : Wd} {F H F' H' F0 H0 : Hp} {p : Addr} {d : D}
theorem Own.there (o : Own T F H p d) : ∃ u, H p = some u := by
  cases d with
  | lst ds => obtain ⟨xs, h, _⟩ := o; exact ⟨_, h⟩
  | dS es => obtain ⟨xs, h, _⟩ := o; exact ⟨_, h⟩
  | dT es => obtain ⟨ob, xs, h, _⟩ := o; exact ⟨_, h⟩
  | _ => exact o.elim
theorem Own.ne (o : Own T F H p d) : H p ≠ none := let ⟨_, h⟩ := o.there; some_ne h
/-- the object at p kept, the parts kept -/
theorem Own.keep (o : Own T F H p d) (e : H' p = H p) (le : RdLe F F') : Own T F' H' p d := by
  cases d with
  | lst ds => obtain ⟨xs, h, r⟩ := o; exact ⟨xs, e.trans h, r.mono le⟩
  | dS es => obtain ⟨xs, h, r⟩ := o; exact ⟨xs, e.trans h, r.mono le⟩
  | dT es => obtain ⟨ob, xs, h, q, r⟩ := o; exact ⟨ob, xs, e.trans h, q, r.mono le⟩
  | _ => exact o.elim
theorem Own.step (o : Own T F H p d) (e : Ex H H') (le : Ex F F') : Own T F' H' p d := by
  obtain ⟨u, h⟩ := o.there
  exact o.keep ((e p u h).trans h.symm) (.ex le)
/-- read where all is readable -/
theorem Own.rep {u : HO} (o : Own T F H p d) (h : H p = some u) (e : Ex F F') (hp : F' p = some u) : Rep T F' (.ref p) d := by
  cases d with
  | lst ds => obtain ⟨xs, q, r⟩ := o; rw [h] at q; cases q; exact .lst hp (r.ex e)
  | dS es => obtain ⟨xs, q, r⟩ := o; rw [h] at q; cases q; exact .dS (.of hp) (r.mono (.ex e))
  | dT es => obtain ⟨ob, xs, q, z, r⟩ := o; rw [h] at q; exact .dT (.of (hp.trans q)) z (r.mono (.ex e))
  | _ => exact o.elim
/-- it is nobody's from now on -/
theorem Own.frz {u : HO} (o : Own T F H p d) (h : H p = some u) (hf : F p = none) : Rep T (upd F p u) (.ref p) d :=
  o.rep h (Ex.new hf) upd_same

structure FI (T : Wd) (F0 H0 : Hp) (ρ : Ro) (σ : L2.St) (F H : Hp) : Prop where
  st : EStp F0 H0 F H
  len : σ.length = ρ.length
  val : ∀ (i : Nat) (d : D), ρ[i]? = some (Slot.val d) → ∃ v, σ[i]? = some (some v) ∧ Rep T F v d
  own : ∀ (i : Nat) (d : D), ρ[i]? = some (Slot.own d) → ∃ p, σ[i]? = some (some (.ref p)) ∧ H0 p = none ∧ F p = none ∧ Own T F H p d
  one : ∀ (i j : Nat) (d e : D) (p : Addr), ρ[i]? = some (Slot.own d) → ρ[j]? = some (Slot.own e) → σ[i]? = some (some (.ref p)) → σ[j]? = some (some (.ref p)) → i = j
variable {ρ : Ro} {σ : L2.St} {i : Nat} {v : V}
theorem FI.sub (I : FI T F0 H0 ρ σ F H) : Ex F H := I.st.sub
theorem FI.step (I : FI T F0 H0 ρ σ F H) (st : EStp F H F' H') : FI T F0 H0 ρ σ F' H' := by
  have le := st.le I.sub
  refine ⟨I.st.trans st, I.len, fun i d h => ?_, fun i d h => ?_, I.one⟩
  · obtain ⟨v, e, r⟩ := I.val i d h
    exact ⟨v, e, r.ex le⟩
  · obtain ⟨p, e, z, f, o⟩ := I.own i d h
    exact ⟨p, e, z, (st.ag p o.ne).trans f, o.step st.ex le⟩
theorem set_get {α : Type} {l : List α} {i j : Nat} {a b : α} (h : (l.set i a)[j]? = some b) : (i = j ∧ j < l.length ∧ b = a) ∨ (i ≠ j ∧ l[j]? = some b) := by
  rw [List.getElem?_set] at h
  split at h
  · rename_i e
    split at h
    · rename_i hl
      exact .inl ⟨e, e ▸ hl, (Option.some.inj h).symm⟩
    · cases h
  · rename_i e
    exact .inr ⟨e, h⟩
theorem set_at {α : Type} {l : List α} {i : Nat} {a : α} (h : i < l.length) : (l.set i a)[i]? = some a := by
  rw [List.getElem?_set, if_pos rfl, if_pos h]
theorem set_ne {α : Type} {l : List α} {i j : Nat} {a : α} (h : i ≠ j) : (l.set i a)[j]? = l[j]? := by
  rw [List.getElem?_set, if_neg h]
/-- a slot is set -/
theorem FI.setVal (I : FI T F0 H0 ρ σ F H) (r : Rep T F v d) : FI T F0 H0 (ρ.set i (Slot.val d)) (σ.set i (some v)) F H := by
  refine ⟨I.st, by simp [I.len], fun j e h => ?_, fun j e h => ?_, fun j k d e p h1 h2 h3 h4 => ?_⟩
  · rcases set_get h with ⟨rfl, hl, q⟩ | ⟨ne, h⟩
    · cases q
      exact ⟨v, set_at (by rw [I.len]; exact hl), r⟩
    · obtain ⟨u, e1, r1⟩ := I.val j e h
      exact ⟨u, by rw [set_ne ne]; exact e1, r1⟩
  · rcases set_get h with ⟨rfl, hl, q⟩ | ⟨ne, h⟩
    · cases q
    · obtain ⟨p, e1, r1⟩ := I.own j e h
      exact ⟨p, by rw [set_ne ne]; exact e1, r1⟩
  · rcases set_get h1 with ⟨_, _, q⟩ | ⟨n1, h1⟩
    · cases q
    · rcases set_get h2 with ⟨_, _, q⟩ | ⟨n2, h2⟩
      · cases q
      · rw [set_ne n1] at h3
        rw [set_ne n2] at h4
        exact I.one j k d e p h1 h2 h3 h4
theorem FI.setUn (I : FI T F0 H0 ρ σ F H) (o : Option V) : FI T F0 H0 (ρ.set i Slot.un) (σ.set i o) F H := by
  refine ⟨I.st, by simp [I.len], fun j e h => ?_, fun j e h => ?_, fun j k d e p h1 h2 h3 h4 => ?_⟩
  · rcases set_get h with ⟨rfl, hl, q⟩ | ⟨ne, h⟩
    · cases q
    · obtain ⟨u, e1, r1⟩ := I.val j e h
      exact ⟨u, by rw [set_ne ne]; exact e1, r1⟩
  · rcases set_get h with ⟨rfl, hl, q⟩ | ⟨ne, h⟩
    · cases q
    · obtain ⟨p, e1, r1⟩ := I.own j e h
      exact ⟨p, by rw [set_ne ne]; exact e1, r1⟩
  · rcases set_get h1 with ⟨_, _, q⟩ | ⟨n1, h1⟩
    · cases q
    · rcases set_get h2 with ⟨_, _, q⟩ | ⟨n2, h2⟩
      · cases q
      · rw [set_ne n1] at h3
        rw [set_ne n2] at h4
        exact I.one j k d e p h1 h2 h3 h4
theorem FI.setOwn (I : FI T F0 H0 ρ σ F H) (z : H0 p = none) (f : F p = none) (o : Own T F H p d) (ap : ∀ (j : Nat) (e : D), ρ[j]? = some (Slot.own e) → σ[j]? ≠ some (some (.ref p))) :
    FI T F0 H0 (ρ.set i (Slot.own d)) (σ.set i (some (.ref p))) F H := by
  refine ⟨I.st, by simp [I.len], fun j e h => ?_, fun j e h => ?_, fun j k d e q h1 h2 h3 h4 => ?_⟩
  · rcases set_get h with ⟨rfl, hl, q⟩ | ⟨ne, h⟩
    · cases q
    · obtain ⟨u, e1, r1⟩ := I.val j e h
      exact ⟨u, by rw [set_ne ne]; exact e1, r1⟩
  · rcases set_get h with ⟨rfl, hl, q⟩ | ⟨ne, h⟩
    · cases q
      exact ⟨p, set_at (by rw [I.len]; exact hl), z, f, o⟩
    · obtain ⟨q, e1, r1⟩ := I.own j e h
      exact ⟨q, by rw [set_ne ne]; exact e1, r1⟩
  · rcases set_get h1 with ⟨e1, l1, q1⟩ | ⟨n1, h1⟩
    · rcases set_get h2 with ⟨e2, _, q2⟩ | ⟨n2, h2⟩
      · exact e1.symm.trans e2
      · subst e1
        rw [set_at (by rw [I.len]; exact l1)] at h3
        rw [set_ne n2, ← h3] at h4
        exact absurd h4 (by
          have := ap k e h2
          intro q
          apply this
          rw [q])
    · rcases set_get h2 with ⟨e2, l2, q2⟩ | ⟨n2, h2⟩
      · subst e2
        rw [set_at (by rw [I.len]; exact l2)] at h4
        rw [set_ne n1] at h3
        cases h4
        exact absurd h3 (ap j d h1)
      · rw [set_ne n1] at h3
        rw [set_ne n2] at h4
        exact I.one j k d e q h1 h2 h3 h4
/-- one's own thing is written -/
theorem FI.mut {e : D} {u : HO} (I : FI T F0 H0 ρ σ F H) (hi : ρ[i]? = some (Slot.own e)) (hs : σ[i]? = some (some (.ref p))) (o : Own T F (upd H p u) p d) :
    FI T F0 H0 (ρ.set i (Slot.own d)) σ F (upd H p u) := by
  obtain ⟨q, e1, z, f, o1⟩ := I.own i e hi
  rw [hs] at e1
  cases e1
  have sub : Ex F (upd H p u) := fun a x h => by
    rw [upd_ne (by rintro rfl; rw [f] at h; cases h)]
    exact I.sub a x h
  refine ⟨⟨fun a x h => ?_, sub, I.st.ag⟩, by simp [I.len], fun j e h => ?_, fun j e' h => ?_, fun j k d' e' q h1 h2 h3 h4 => ?_⟩
  · rw [upd_ne (by rintro rfl; rw [z] at h; cases h)]
    exact I.st.ex a x h
  · rcases set_get h with ⟨rfl, hl, q⟩ | ⟨ne, h⟩
    · cases q
    · exact I.val j e h
  · rcases set_get h with ⟨rfl, hl, q⟩ | ⟨ne, h⟩
    · cases q
      exact ⟨p, hs, z, f, o⟩
    · obtain ⟨q, e2, z2, f2, o2⟩ := I.own j e' h
      refine ⟨q, e2, z2, f2, o2.keep (upd_ne ?_) (.ex (Ex.refl F))⟩
      rintro rfl
      exact ne (I.one i j e e' q hi h hs e2)
  · have g : ∀ (m : Nat) (d' : D), (ρ.set i (Slot.own d))[m]? = some (Slot.own d') → ∃ d2, ρ[m]? = some (Slot.own d2) := fun m d' h => by
      rcases set_get h with ⟨rfl, _, _⟩ | ⟨_, h⟩
      · exact ⟨e, hi⟩
      · exact ⟨_, h⟩
    obtain ⟨d1, g1⟩ := g j _ h1
    obtain ⟨d2, g2⟩ := g k _ h2
    exact I.one j k d1 d2 q g1 g2 h3 h4
/-- a slot's own thing is given to all -/
theorem FI.give (I : FI T F0 H0 ρ σ F H) (hi : ρ[i]? = some (Slot.own d)) : ∃ F', Ex F F' ∧ FI T F0 H0 (ρ.set i (Slot.val d)) σ F' H := by
  obtain ⟨p, hs, z, f, o⟩ := I.own i d hi
  obtain ⟨u, hu⟩ := o.there
  have le : Ex F (upd F p u) := Ex.new f
  refine ⟨upd F p u, le, ⟨I.st.ex, fun a x h => ?_, fun a ha => ?_⟩, by simp [I.len], fun j e h => ?_, fun j e h => ?_, fun j k d' e' q h1 h2 h3 h4 => ?_⟩
  · by_cases ha : a = p
    · subst ha; rw [upd_same] at h; cases h; exact hu
    · rw [upd_ne ha] at h; exact I.sub a x h
  · rw [upd_ne (by rintro rfl; exact ha z)]
    exact I.st.ag a ha
  · rcases set_get h with ⟨rfl, hl, q⟩ | ⟨ne, h⟩
    · cases q
      exact ⟨_, hs, o.frz hu f⟩
    · obtain ⟨v, e1, r⟩ := I.val j e h
      exact ⟨v, e1, r.ex le⟩
  · rcases set_get h with ⟨rfl, hl, q⟩ | ⟨ne, h⟩
    · cases q
    · obtain ⟨q, e2, z2, f2, o2⟩ := I.own j e h
      refine ⟨q, e2, z2, ?_, o2.keep rfl (.ex le)⟩
      rw [upd_ne ?_]
      · exact f2
      · rintro rfl
        exact ne (I.one i j d e q hi h hs e2)
  · rcases set_get h1 with ⟨_, _, q⟩ | ⟨n1, h1⟩
    · cases q
    · rcases set_get h2 with ⟨_, _, q⟩ | ⟨n2, h2⟩
      · cases q
      · exact I.one j k d' e' q h1 h2 h3 h4
end

/-! ### what comes of an expression -/
def Res (T : Wd) (F H F' H' : Hp) (v : V) (d : D) : Bool → Prop
  | true => ∃ p, v = .ref p ∧ H p = none ∧ F' p = none ∧ Own T F' H' p d
  | false => Rep T F' v d
/-- to be looked at -/
def Pk (T : Wd) (F H : Hp) (v : V) (d : D) : Prop := Rep T F v d ∨ ∃ p, v = .ref p ∧ Own T F H p d
section
variable {T : Wd} {F H F' H' F2 H2 : Hp} {v : V} {d : D}
theorem Res.pk {b : Bool} (r : Res T F H F' H' v d b) : Pk T F' H' v d := by
  cases b with
  | true => obtain ⟨p, e, _, _, o⟩ := r; exact .inr ⟨p, e, o⟩
  | false => exact .inl r
theorem Pk.ex (r : Pk T F H v d) (e : Ex H H') (f : Ex F F') : Pk T F' H' v d := r.elim (fun r => .inl (r.ex f)) fun ⟨p, q, o⟩ => .inr ⟨p, q, o.step e f⟩
theorem Res.frz {b : Bool} (st : EStp F H F' H') (r : Res T F H F' H' v d b) : ∃ F2, EStp F H F2 H' ∧ Ex F' F2 ∧ Rep T F2 v d := by
  cases b with
  | false => exact ⟨F', st, Ex.refl _, r⟩
  | true =>
    obtain ⟨p, rfl, hn, hf, o⟩ := r
    obtain ⟨u, hu⟩ := o.there
    refine ⟨upd F' p u, ⟨st.ex, fun a x h => ?_, fun a ha => ?_⟩, Ex.new hf, o.frz hu hf⟩
    · by_cases ha : a = p
      · subst ha; rw [upd_same] at h; cases h; exact hu
      · rw [upd_ne ha] at h; exact st.sub a x h
    · rw [upd_ne (by rintro rfl; exact ha hn)]
      exact st.ag a ha
/-- what is looked at, by kinds -/
theorem Pk.lst {ds : List D} (r : Pk T F H v (.lst ds)) (s : Ex F H) : ∃ a xs, v = .ref a ∧ H a = some (.lst xs) ∧ RepL T F xs ds := by
  rcases r with r | ⟨p, rfl, xs, h, r⟩
  · cases r with
    | lst h r => exact ⟨_, _, rfl, s _ _ h, r⟩
  · exact ⟨p, xs, rfl, h, r⟩
theorem Pk.lstF {ds : List D} (r : Rep T F v (.lst ds)) : ∃ a xs, v = .ref a ∧ F a = some (.lst xs) ∧ RepL T F xs ds := by
  cases r with
  | lst h r => exact ⟨_, _, rfl, h, r⟩
theorem Pk.tup {ds : List D} (r : Pk T F H v (.tup ds)) : ∃ a xs, v = .ref a ∧ SqT T.K F a xs ∧ RepL T F xs ds := by
  rcases r with r | ⟨p, rfl, o⟩
  · cases r with
    | tup h r => exact ⟨_, _, rfl, h, r⟩
  · exact o.elim
theorem Pk.int {i : Int} (r : Pk T F H v (.int i)) : v = .int i := by
  rcases r with r | ⟨p, rfl, o⟩
  · cases r; rfl
  · exact o.elim
theorem Pk.bl {i : Bool} (r : Pk T F H v (.bl i)) : v = .bl i := by
  rcases r with r | ⟨p, rfl, o⟩
  · cases r; rfl
  · exact o.elim
theorem Pk.str {i : Str} (r : Pk T F H v (.str i)) : v = .str i := by
  rcases r with r | ⟨p, rfl, o⟩
  · cases r; rfl
  · exact o.elim
theorem Pk.non (r : Pk T F H v .non) : v = .non := by
  rcases r with r | ⟨p, rfl, o⟩
  · cases r; rfl
  · exact o.elim
theorem Pk.dS {es : List (Str × D)} (r : Pk T F H v (.dS es)) (s : Ex F H) : ∃ a kvs, v = .ref a ∧ Rd H a (.dK kvs) ∧ RepS T F kvs es := by
  rcases r with r | ⟨p, rfl, xs, h, r⟩
  · cases r with
    | dS h r => exact ⟨_, _, rfl, ex_rd s h, r⟩
  · exact ⟨p, xs, rfl, .of h, r⟩
theorem Pk.dT {es : List (D × D)} (r : Pk T F H v (.dT es)) (s : Ex F H) : ∃ a ob xs, v = .ref a ∧ Rd H a (xo a ob) ∧ DObT T a ob xs ∧ RepT T F xs es := by
  rcases r with r | ⟨p, rfl, ob, xs, h, q, r⟩
  · cases r with
    | dT h q r => exact ⟨_, _, _, rfl, ex_rd s h, q, r⟩
  · exact ⟨p, ob, xs, rfl, .of h, q, r⟩
end
end NW

/-! Expressions as functions of the frame's data. -/
namespace NW
open PySem PySem.Spec PyProof.Rows L2 Evl

abbrev DV := Ro → Option D
abbrev DE := Ro → Option (D × Bool)
abbrev DA := Ro → Option (List D)
abbrev DB := Ro → Option Bool
def At (T : Wd) (ρ : Ro) (σ : L2.St) (F H : Hp) : Prop := ∃ F0 H0, FI T F0 H0 ρ σ F H
section
variable {T : Wd} {ρ : Ro} {σ : L2.St} {F H F' H' : Hp}
theorem At.sub (A : At T ρ σ F H) : Ex F H := let ⟨_, _, I⟩ := A; I.sub
theorem At.step (A : At T ρ σ F H) (st : EStp F H F' H') : At T ρ σ F' H' := let ⟨F0, H0, I⟩ := A; ⟨F0, H0, I.step st⟩
end
def rV (T : Wd) (den : DV) : TE := fun σ H Q => ∃ ρ F d, At T ρ σ F H ∧ den ρ = some d ∧ ∀ v F' H', EStp F H F' H' → Rep T F' v d → Q v H'
def rE (T : Wd) (den : DE) : TE := fun σ H Q => ∃ ρ F d b, At T ρ σ F H ∧ den ρ = some (d, b) ∧ ∀ v F' H', EStp F H F' H' → Res T F H F' H' v d b → Q v H'
def rO (T : Wd) (den : DV) : TE := fun σ H Q => ∃ ρ F d, At T ρ σ F H ∧ den ρ = some d ∧ ∀ v F' H', EStp F H F' H' → Pk T F' H' v d → Q v H'
def rA (T : Wd) (den : DA) : TA := fun σ H Q => ∃ ρ F d, At T ρ σ F H ∧ den ρ = some d ∧ ∀ v F' H', EStp F H F' H' → RepL T F' v d → Q v H'
def rB (T : Wd) (den : DB) : TT := fun σ H Q => ∃ ρ F b, At T ρ σ F H ∧ den ρ = some b ∧ ∀ F' H', EStp F H F' H' → Q b H'
def rC (T : Wd) (den : DB) : TE := fun σ H Q => ∃ ρ F b, At T ρ σ F H ∧ den ρ = some b ∧ ∀ F' H', EStp F H F' H' → Q (.bl b) H'
/-- a value that is nobody's; one that may be one's own; one to be looked at; arguments; a test; a comparison -/
abbrev SV (X : Cx) (e : Expr) (den : DV) : Prop := PE X e (rV (wd X) den)
abbrev SE (X : Cx) (e : Expr) (den : DE) : Prop := PE X e (rE (wd X) den)
abbrev SO (X : Cx) (e : Expr) (den : DV) : Prop := PE X e (rO (wd X) den)
abbrev SA (X : Cx) (e : List Expr) (den : DA) : Prop := PA X e (rA (wd X) den)
abbrev ST (X : Cx) (e : Expr) (den : DB) : Prop := PT X e (rB (wd X) den)
abbrev SW (X : Cx) (e : Expr) (den : DB) : Prop := PW X e (rB (wd X) den)
abbrev SC (X : Cx) (op : CmpOp) (a b : Expr) (den : DB) : Prop := PC X op a b (rC (wd X) den)

section
variable {X : Cx} {e a b c : Expr} {es : List Expr} {pos : Pos}
theorem pe_imp {t t' : TE} (h : PE X e t) (f : ∀ σ H Q, t' σ H Q → t σ H Q) : PE X e t' := ⟨fun pins s σ H Q I q => h.run pins s σ H Q I (f σ H Q q)⟩
theorem pt_imp {t t' : TT} (h : PT X e t) (f : ∀ σ H Q, t' σ H Q → t σ H Q) : PT X e t' := ⟨fun pins s σ H Q I q => h.run pins s σ H Q I (f σ H Q q)⟩
theorem pw_imp {t t' : TT} (h : PW X e t) (f : ∀ σ H Q, t' σ H Q → t σ H Q) : PW X e t' := ⟨fun w pins s σ H Q I q => h.run w pins s σ H Q I (f σ H Q q)⟩
theorem pa_imp {t t' : TA} (h : PA X es t) (f : ∀ σ H Q, t' σ H Q → t σ H Q) : PA X es t' := ⟨fun p pins s σ H Q I q => h.run p pins s σ H Q I (f σ H Q q)⟩
theorem pc_imp {op : CmpOp} {t t' : TE} (h : PC X op a b t) (f : ∀ σ H Q, t' σ H Q → t σ H Q) : PC X op a b t' := ⟨fun pins s σ H Q I q => h.run pins s σ H Q I (f σ H Q q)⟩

/-! ### from one kind to another -/
def toE (den : DV) : DE := fun ρ => (den ρ).map fun d => (d, false)
def ofE (den : DE) : DV := fun ρ => (den ρ).map (·.1)
theorem toE_eq {den : DV} {ρ : Ro} {d : D} {b : Bool} (h : toE den ρ = some (d, b)) : den ρ = some d ∧ b = false := by
  unfold toE at h
  cases q : den ρ with
  | none => rw [q] at h; cases h
  | some x => rw [q] at h; cases h; exact ⟨rfl, rfl⟩
theorem ofE_eq {den : DE} {ρ : Ro} {d : D} (h : ofE den ρ = some d) : ∃ b, den ρ = some (d, b) := by
  unfold ofE at h
  cases q : den ρ with
  | none => rw [q] at h; cases h
  | some x => rw [q] at h; cases h; exact ⟨x.2, rfl⟩
theorem se_of {den : DV} (h : SV X e den) : SE X e (toE den) := pe_imp h fun σ H Q ⟨ρ, F, d, b, A, q, k⟩ => by
  obtain ⟨q1, rfl⟩ := toE_eq q
  exact ⟨ρ, F, d, A, q1, k⟩
theorem so_of {den : DV} (h : SV X e den) : SO X e den := pe_imp h fun σ H Q ⟨ρ, F, d, A, q, k⟩ => ⟨ρ, F, d, A, q, fun v F' H' st r => k v F' H' st (.inl r)⟩
theorem so_ofE {den : DE} (h : SE X e den) : SO X e (ofE den) := pe_imp h fun σ H Q ⟨ρ, F, d, A, q, k⟩ => by
  obtain ⟨b, q⟩ := ofE_eq q
  exact ⟨ρ, F, d, b, A, q, fun v F' H' st r => k v F' H' st r.pk⟩
theorem sv_ofE {den : DE} (h : SE X e den) : SV X e (ofE den) := pe_imp h fun σ H Q ⟨ρ, F, d, A, q, k⟩ => by
  obtain ⟨b, q⟩ := ofE_eq q
  refine ⟨ρ, F, d, b, A, q, fun v F' H' st r => ?_⟩
  obtain ⟨F2, st2, _, r2⟩ := r.frz st
  exact k v F2 H' st2 r2

/-! ### constants, names -/
def dC (d : D) : DV := fun _ => some d
theorem sv_c {v : V} {d : D} (h : PE X e (tC v)) (r : ∀ F, Rep (wd X) F v d) : SV X e (dC d) := pe_imp h fun σ H Q ⟨ρ, F, d', A, q, k⟩ => by
  cases q
  exact k _ F H (.refl A.sub) (r F)
theorem sv_int {i j} : SV X (.Constant (.int i) j pos) (dC (.int i)) := sv_c pe_int fun _ => .int i
theorem sv_bl {i j} : SV X (.Constant (.bool i) j pos) (dC (.bl i)) := sv_c pe_bl fun _ => .bl i
theorem sv_str {i j} : SV X (.Constant (.str i) j pos) (dC (.str i)) := sv_c pe_str fun _ => .str i
theorem sv_non {j} : SV X (.Constant .none j pos) (dC .non) := sv_c pe_non fun _ => .non
theorem sv_gint {x : Str} {i : Int} (hg : Gl X x) (hm : ∃ t, X.mg x = some (.int i t)) (hd : (x == ("__debug__" : Str)) = false := by decide) : SV X (.Name x pos) (dC (.int i)) :=
  let ⟨t, h⟩ := hm; sv_c (pe_glob (v := .int i) hg h ⟨t, rfl⟩ hd) fun _ => .int i
theorem sv_gstr {x i : Str} (hg : Gl X x) (hm : ∃ t, X.mg x = some (.str i t)) (hd : (x == ("__debug__" : Str)) = false := by decide) : SV X (.Name x pos) (dC (.str i)) :=
  let ⟨t, h⟩ := hm; sv_c (pe_glob (v := .str i) hg h ⟨t, rfl⟩ hd) fun _ => .str i
/-- a tuple of the module -/
theorem sv_gtup {x : Str} {a : Addr} {d : D} (hg : Gl X x) (hm : X.mg x = some (.ref a)) (r : ∀ F, Rep (wd X) F (.ref a) d) (hd : (x == ("__debug__" : Str)) = false := by decide) : SV X (.Name x pos) (dC d) :=
  sv_c (pe_glob (v := .ref a) hg hm rfl hd) r
def dVar (i : Nat) : DV := fun ρ => match ρ[i]? with
  | some (.val d) => some d
  | _ => none
def dPk (i : Nat) : DV := fun ρ => match ρ[i]? with
  | some (.val d) => some d
  | some (.own d) => some d
  | _ => none
theorem dVar_eq {i : Nat} {ρ : Ro} {d : D} (h : dVar i ρ = some d) : ρ[i]? = some (.val d) := by
  unfold dVar at h
  split at h
  · rename_i q; cases h; exact q
  · cases h
theorem dPk_eq {i : Nat} {ρ : Ro} {d : D} (h : dPk i ρ = some d) : ρ[i]? = some (.val d) ∨ ρ[i]? = some (.own d) := by
  unfold dPk at h
  split at h
  · rename_i q; cases h; exact .inl q
  · rename_i q; cases h; exact .inr q
  · cases h
theorem sv_var {i : Nat} {x : Str} (hN : X.N[i]? = some x) (hv : Vis X.env.scope x) (hd : (x == ("__debug__" : Str)) = false := by decide) (hcd : (x == ("__classdict__" : Str)) = false := by decide) : SV X (.Name x pos) (dVar i) :=
  pe_imp (pe_var hN hv hd hcd) fun σ H Q ⟨ρ, F, d, A, q, k⟩ => by
    obtain ⟨F0, H0, I⟩ := id A
    obtain ⟨v, e, r⟩ := I.val i d (dVar_eq q)
    exact ⟨v, e, k v F H (.refl A.sub) r⟩
theorem so_var {i : Nat} {x : Str} (hN : X.N[i]? = some x) (hv : Vis X.env.scope x) (hd : (x == ("__debug__" : Str)) = false := by decide) (hcd : (x == ("__classdict__" : Str)) = false := by decide) : SO X (.Name x pos) (dPk i) :=
  pe_imp (pe_var hN hv hd hcd) fun σ H Q ⟨ρ, F, d, A, q, k⟩ => by
    obtain ⟨F0, H0, I⟩ := id A
    rcases dPk_eq q with q | q
    · obtain ⟨v, e, r⟩ := I.val i d q
      exact ⟨v, e, k v F H (.refl A.sub) (.inl r)⟩
    · obtain ⟨p, e, _, _, o⟩ := I.own i d q
      exact ⟨_, e, k _ F H (.refl A.sub) (.inr ⟨p, rfl, o⟩)⟩

/-! ### arguments, displays -/
def dNil : DA := fun _ => some []
def dCons (d : DV) (ds : DA) : DA := fun ρ => (d ρ).bind fun x => (ds ρ).bind fun xs => some (x :: xs)
theorem bind2 {α β γ : Type} {x : Option α} {y : Option β} {f : α → β → Option γ} {z : γ} (h : (x.bind fun a => y.bind fun b => f a b) = some z) : ∃ a b, x = some a ∧ y = some b ∧ f a b = some z := by
  cases x with
  | none => cases h
  | some a =>
    cases y with
    | none => cases h
    | some b => exact ⟨a, b, rfl, rfl, h⟩
theorem bind1 {α β : Type} {x : Option α} {f : α → Option β} {z : β} (h : x.bind f = some z) : ∃ a, x = some a ∧ f a = some z := by
  cases x with
  | none => cases h
  | some a => exact ⟨a, rfl, h⟩
theorem sa_nil : SA X [] dNil := pa_imp pa_nil fun σ H Q ⟨ρ, F, d, A, q, k⟩ => by
  cases q
  exact k [] F H (.refl A.sub) .nil
theorem sa_cons {d : DV} {ds : DA} (h : SV X e d) (hs : SA X es ds) (hst : starEach (e :: es) X.env = (false, eval e X.env) :: starEach es X.env := by rfl) : SA X (e :: es) (dCons d ds) :=
  pa_imp (pa_cons h hs hst) fun σ H Q ⟨ρ, F, d, A, q, k⟩ => by
    obtain ⟨x, xs, q1, q2, q⟩ := bind2 q
    cases q
    exact ⟨ρ, F, x, A, q1, fun v F1 H1 s1 r1 => ⟨ρ, F1, xs, A.step s1, q2, fun vs F2 H2 s2 r2 => k (v :: vs) F2 H2 (s1.trans s2) (.cons (r1.ex (s2.le s1.sub)) r2)⟩⟩
/-- few enough -/
abbrev lim : Nat := 100000
def ok (n : Nat) : Bool := decide (n ≤ lim)
theorem ok_sz {n : Nat} (h : ok n = true) : n ≤ sizeLine := sz_of (of_decide_eq_true h)
def gTupD (xs : List D) : Option D := if ok xs.length then some (.tup xs) else none
def dTup (ds : DA) : DV := fun ρ => (ds ρ).bind gTupD
theorem gTupD_eq {xs : List D} {d : D} (h : gTupD xs = some d) : ok xs.length = true ∧ d = .tup xs := by
  unfold gTupD at h
  split at h
  · rename_i z; exact ⟨z, (Option.some.inj h).symm⟩
  · cases h
theorem tup_new {T : Wd} {F H : Hp} {vs : List V} {ds : List D} {p : Addr} (s : Ex F H) (hp : H p = none) (r : RepL T F vs ds) : EStp F H (upd F p (.tup vs)) (upd H p (.tup vs)) ∧ Rep T (upd F p (.tup vs)) (.ref p) (.tup ds) :=
  ⟨.new s hp _, .tup (.of upd_same) (r.ex (Ex.new (Ex.none_sub s hp)))⟩
theorem sv_tup {ds : DA} {n} (h : SA X es ds) : SV X (.Tuple es n pos) (dTup ds) := pe_imp (pe_tup h) fun σ H Q ⟨ρ, F, d, A, q, k⟩ => by
  obtain ⟨xs, q1, q⟩ := bind1 q
  obtain ⟨z, rfl⟩ := gTupD_eq q
  refine ⟨ρ, F, xs, A, q1, fun vs F1 H1 s1 r1 => ⟨by rw [r1.len]; exact ok_sz z, fun p hp => ?_⟩⟩
  obtain ⟨s2, r2⟩ := tup_new s1.sub hp r1
  exact k _ _ _ (s1.trans s2) r2
def gLstD (xs : List D) : Option (D × Bool) := if ok xs.length then some (.lst xs, true) else none
def dLst (ds : DA) : DE := fun ρ => (ds ρ).bind gLstD
theorem gLstD_eq {xs : List D} {d : D × Bool} (h : gLstD xs = some d) : ok xs.length = true ∧ d = (.lst xs, true) := by
  unfold gLstD at h
  split at h
  · rename_i z; exact ⟨z, (Option.some.inj h).symm⟩
  · cases h
/-- a new list of one's own -/
theorem lst_new {T : Wd} {F H F1 H1 : Hp} {vs : List V} {ds : List D} {p : Addr} (st : EStp F H F1 H1) (hp : H1 p = none) (r : RepL T F1 vs ds) :
    EStp F H F1 (upd H1 p (.lst vs)) ∧ Res T F H F1 (upd H1 p (.lst vs)) (.ref p) (.lst ds) true :=
  ⟨st.trans (.newH st.sub hp _), p, rfl, fresh_back st.ex hp, Ex.none_sub st.sub hp, vs, upd_same, r⟩
theorem se_lst {ds : DA} (h : SA X es ds) : SE X (.List es pos) (dLst ds) := pe_imp (pe_lst h) fun σ H Q ⟨ρ, F, d, b, A, q, k⟩ => by
  obtain ⟨xs, q1, q⟩ := bind1 q
  obtain ⟨z, q⟩ := gLstD_eq q
  cases q
  refine ⟨ρ, F, xs, A, q1, fun vs F1 H1 s1 r1 => ⟨by rw [r1.len]; exact ok_sz z, fun p hp => ?_⟩⟩
  obtain ⟨s2, r2⟩ := lst_new s1 hp r1
  exact k _ _ _ s2 r2

/-! ### operations of two operands -/
def dOp (g : D → D → Option D) (da db : DV) : DV := fun ρ => (da ρ).bind fun x => (db ρ).bind fun y => g x y
def OpD (X : Cx) (f : Value → Value → Sem Value) (g : D → D → Option D) : Prop :=
  OpR X f fun x y H Q => ∃ F a b d, Ex F H ∧ Pk (wd X) F H x a ∧ Pk (wd X) F H y b ∧ g a b = some d ∧ ∀ v F' H', EStp F H F' H' → Rep (wd X) F' v d → Q v H'
theorem two {T : Wd} {σ : L2.St} {H : Hp} {ρ : Ro} {F : Hp} {da db : DV} {a b : D} {R : V → V → Hp → Prop} (A : At T ρ σ F H) (ea : da ρ = some a) (eb : db ρ = some b)
    (k : ∀ x y F' H', EStp F H F' H' → Pk T F' H' x a → Pk T F' H' y b → R x y H') : rO T da σ H fun x H1 => rO T db σ H1 fun y H2 => R x y H2 :=
  ⟨ρ, F, a, A, ea, fun x F1 H1 s1 p1 => ⟨ρ, F1, b, A.step s1, eb, fun y F2 H2 s2 p2 => k x y F2 H2 (s1.trans s2) (p1.ex s2.ex (s2.le s1.sub)) p2⟩⟩
theorem sv_bin {op : Operator} {g : D → D → Option D} {da db : DV} (ho : OpD X (binaryOp op) g) (ha : SO X a da) (hb : SO X b db) : SV X (.BinOp a op b pos) (dOp g da db) :=
  pe_imp (pe_op ho ha hb) fun σ H Q ⟨ρ, F, d, A, q, k⟩ => by
    obtain ⟨x, y, q1, q2, q⟩ := bind2 q
    exact two A q1 q2 fun v u F1 H1 s1 p1 p2 => ⟨F1, x, y, d, s1.sub, p1, p2, q, fun w F2 H2 s2 r => k w F2 H2 (s1.trans s2) r⟩
def addD : D → D → Option D
  | .int i, .int j => some (.int (i + j))
  | .str a, .str b => if ok (a.length + b.length) then some (.str (a ++ b)) else none
  | .tup a, .tup b => if ok (a.length + b.length) then some (.tup (a ++ b)) else none
  | _, _ => none
theorem od_add : OpD X (binaryOp .Add) addD := by
  intro pins s σ H x y v u Q I rx ry h
  obtain ⟨F, a, b, d, sub, pa, pb, e, k⟩ := h
  unfold addD at e
  split at e
  · cases e
    cases pa.int
    cases pb.int
    exact op_add pins s σ H _ _ v u Q I rx ry ⟨_, _, rfl, rfl, k _ F H (.refl sub) (.int _)⟩
  · split at e
    · rename_i z
      cases e
      cases pa.str
      cases pb.str
      exact op_add_str pins s σ H _ _ v u Q I rx ry ⟨_, _, rfl, rfl, ok_sz z, k _ F H (.refl sub) (.str _)⟩
    · cases e
  · split at e
    · rename_i z
      cases e
      obtain ⟨a1, xs, rfl, h1, r1⟩ := pa.tup
      obtain ⟨a2, ys, rfl, h2, r2⟩ := pb.tup
      have g1 := (RdLe.ex sub).t h1
      have g2 := (RdLe.ex sub).t h2
      refine op_catA pins s σ H _ _ v u Q I rx ry ⟨_, _, xs, ys, rfl, rfl, g1, g2, by rw [r1.len, r2.len]; exact ok_sz z, fun h => ?_, fun _ h => ?_, fun _ _ p hp => ?_⟩
      · subst h
        cases r1
        exact k _ F H (.refl sub) (.tup h2 r2)
      · subst h
        cases r2
        rw [List.append_nil] at k
        exact k _ F H (.refl sub) (.tup h1 r1)
      · obtain ⟨s2, r⟩ := tup_new sub hp (r1.app r2)
        exact k _ _ _ s2 r
    · cases e
  · cases e
def subD : D → D → Option D
  | .int i, .int j => some (.int (i - j))
  | _, _ => none
theorem od_sub : OpD X (binaryOp .Sub) subD := by
  intro pins s σ H x y v u Q I rx ry h
  obtain ⟨F, a, b, d, sub, pa, pb, e, k⟩ := h
  unfold subD at e
  split at e
  · cases e
    cases pa.int
    cases pb.int
    exact op_sub pins s σ H _ _ v u Q I rx ry ⟨_, _, rfl, rfl, k _ F H (.refl sub) (.int _)⟩
  · cases e
def modD : D → D → Option D
  | .int i, .int j => if decide (0 < j) then some (.int (i % j)) else none
  | _, _ => none
theorem od_mod : OpD X (binaryOp .Mod) modD := by
  intro pins s σ H x y v u Q I rx ry h
  obtain ⟨F, a, b, d, sub, pa, pb, e, k⟩ := h
  unfold modD at e
  split at e
  · split at e
    · rename_i z
      cases e
      cases pa.int
      cases pb.int
      exact op_mod pins s σ H _ _ v u Q I rx ry ⟨_, _, rfl, rfl, of_decide_eq_true z, k _ F H (.refl sub) (.int _)⟩
    · cases e
  · cases e
def divD : D → D → Option D
  | .int i, .int j => if decide (0 < j) && decide (j < 1073741824) then some (.int (i / j)) else none
  | _, _ => none
theorem od_div : OpD X (binaryOp .FloorDiv) divD := by
  intro pins s σ H x y v u Q I rx ry h
  obtain ⟨F, a, b, d, sub, pa, pb, e, k⟩ := h
  unfold divD at e
  split at e
  · split at e
    · rename_i z
      obtain ⟨z1, z2⟩ := Bool.and_eq_true_iff.mp z
      cases e
      cases pa.int
      cases pb.int
      exact op_fdiv pins s σ H _ _ v u Q I rx ry ⟨_, _, rfl, rfl, ⟨of_decide_eq_true z1, of_decide_eq_true z2⟩, k _ F H (.refl sub) (.int _)⟩
    · cases e
  · cases e
/-- list + list: a new list -/
def dCat (da db : DV) : DE := fun ρ => (da ρ).bind fun x => (db ρ).bind fun y => match x, y with
  | .lst a, .lst b => if ok (a.length + b.length) then some (.lst (a ++ b), true) else none
  | _, _ => none
theorem se_cat {da db : DV} (ha : SO X a da) (hb : SO X b db) : SE X (.BinOp a .Add b pos) (dCat da db) :=
  pe_imp (pe_op op_cat ha hb) fun σ H Q ⟨ρ, F, d, bb, A, q, k⟩ => by
    obtain ⟨x, y, q1, q2, q⟩ := bind2 q
    split at q
    · split at q
      · rename_i z
        cases q
        refine two A q1 q2 fun v u F1 H1 s1 p1 p2 => ?_
        obtain ⟨b1, xs, rfl, h1, r1⟩ := p1.lst s1.sub
        obtain ⟨b2, ys, rfl, h2, r2⟩ := p2.lst s1.sub
        refine ⟨_, _, xs, ys, rfl, rfl, h1, h2, by rw [r1.len, r2.len]; exact ok_sz z, fun p hp => ?_⟩
        obtain ⟨s2, r⟩ := lst_new s1 hp (r1.app r2)
        exact k _ _ _ s2 r
      · cases q
    · cases q
end
end NW

/-! Dicts: what they hold, looked up, stored. -/
namespace NW
open PySem PySem.Spec PyProof.Rows L2 Evl

def lookS (es : List (Str × D)) (k : Str) : Option D := (es.find? fun p => decide (p.1 = k)).map (·.2)
def putS (es : List (Str × D)) (k : Str) (d : D) : List (Str × D) := if es.any (fun p => decide (p.1 = k)) then es.map (fun p => if p.1 = k then (p.1, d) else p) else es ++ [(k, d)]
def lookT (es : List (D × D)) (q : D) : Option D := (es.find? fun p => decide (p.1.key = q.key)).map (·.2)
def putT (es : List (D × D)) (q d : D) : List (D × D) := if (lookT es q).isSome then es.map (fun p => if p.1.key = q.key then (p.1, d) else p) else es ++ [(q, d)]
/-- a tuple that may be a key -/
def keyOk : D → Bool
  | .tup l => imL l && decide ((NestedKey.tup (keyL l)).depth ≤ 8)
  | _ => false
theorem keyOk_of {q : D} (h : keyOk q = true) : q.im = true ∧ q.key.depth ≤ 8 ∧ ∃ l, q = .tup l := by
  cases q with
  | tup l =>
    have h' : (imL l && decide ((NestedKey.tup (keyL l)).depth ≤ 8)) = true := h
    obtain ⟨h1, h2⟩ := Bool.and_eq_true_iff.mp h'
    exact ⟨h1, of_decide_eq_true h2, l, rfl⟩
  | _ => cases h

section
variable {T : Wd} {F F' H : Hp}
theorem RepS.look {kvs : List (Key × V)} {es : List (Str × D)} (r : RepS T F kvs es) (k : Str) :
    (∃ d v, lookS es k = some d ∧ valV kvs (.inr k) = some v ∧ Rep T F v d) ∨ (lookS es k = none ∧ valV kvs (.inr k : Key) = none) := by
  induction es generalizing kvs with
  | nil => cases r; exact .inr ⟨rfl, rfl⟩
  | cons p es ih =>
    cases r with
    | @cons k' v d kvs _ h t =>
      by_cases e : k' = k
      · subst e
        exact .inl ⟨d, v, by simp [lookS], valV_pos rfl, h⟩
      · rw [valV_neg (fun z => e (Sum.inr.inj z))]
        have q : lookS ((k', d) :: es) k = lookS es k := by simp [lookS, List.find?_cons, e]
        rw [q]
        exact ih t
theorem RepS.any {kvs : List (Key × V)} {es : List (Str × D)} (r : RepS T F kvs es) (k : Str) : (kvs.any fun kv => decide (kv.1 = (.inr k : Key))) = es.any fun p => decide (p.1 = k) := by
  induction es generalizing kvs with
  | nil => cases r; rfl
  | cons p es ih =>
    cases r with
    | @cons k' v d kvs _ h t =>
      rw [List.any_cons, List.any_cons, ih t]
      have e : decide ((Sum.inr k' : Key) = Sum.inr k) = decide (k' = k) := key_rr k' k
      show (decide ((Sum.inr k' : Key) = Sum.inr k) || _) = _
      rw [e]
theorem RepS.put {kvs : List (Key × V)} {es : List (Str × D)} {v : V} {d : D} (r : RepS T F kvs es) (k : Str) (h : Rep T F v d) : RepS T F (putK kvs (.inr k) v) (putS es k d) := by
  unfold putK putS
  rw [r.any k]
  split
  · rename_i zz
    clear zz
    induction es generalizing kvs with
    | nil => cases r; exact .nil
    | cons p es ih =>
      cases r with
      | @cons k' v' d' kvs _ h' t =>
        rw [List.map_cons, List.map_cons]
        by_cases e : k' = k
        · subst e
          rw [if_pos rfl, if_pos rfl]
          exact .cons h (ih t)
        · rw [if_neg e, if_neg (fun z => e (Sum.inr.inj z))]
          exact .cons h' (ih t)
  · rename_i zz
    clear zz
    induction es generalizing kvs with
    | nil => cases r; exact .cons h .nil
    | cons p es ih =>
      cases r with
      | cons h' t => exact .cons h' (ih t)
abbrev TP3 : List (NestedKey × Addr × V) → List (NestedKey × Addr × Value) → Prop := Paired (fun x y => x.1 = y.1 ∧ x.2.1 = y.2.1 ∧ RelV x.2.2 y.2.2)
theorem RepT.look {xs : List (NestedKey × Addr × V)} {ys : List (NestedKey × Addr × Value)} {es : List (D × D)} (r : RepT T F xs es) (p : TP3 xs ys) (q : D) :
    (∃ d e v, lookT es q = some d ∧ atKey ys q.key = some e ∧ RelV v e.2 ∧ Rep T F v d) ∨ (lookT es q = none ∧ atKey ys q.key = none) := by
  induction es generalizing xs ys with
  | nil => cases r; cases p; exact .inr ⟨rfl, rfl⟩
  | cons e es ih =>
    cases r with
    | @cons b v k d xs _ h1 h2 h3 h4 t =>
      cases p with
      | @cons _ y _ ys hp tp =>
        obtain ⟨y1, y2, y3⟩ := y
        obtain ⟨e1, e2, e3⟩ := hp
        have e1' : k.key = y1 := e1
        by_cases z : k.key = q.key
        · exact .inl ⟨d, (y2, y3), v, by simp [lookT, z], by simp [atKey, ← e1', z], e3, h4⟩
        · have q1 : lookT ((k, d) :: es) q = lookT es q := by simp [lookT, List.find?_cons, z]
          have q2 : atKey ((y1, y2, y3) :: ys) q.key = atKey ys q.key := by simp [atKey, List.find?_cons, ← e1', z]
          rw [q1, q2]
          exact ih t tp
theorem RepT.put {xs : List (NestedKey × Addr × V)} {ys : List (NestedKey × Addr × Value)} {es : List (D × D)} {b : Addr} {q d : D} {v : V} {u : Value} (r : RepT T F xs es) (p : TP3 xs ys) (hb : Rep T F (.ref b) q) (hq : keyOk q = true)
    (h : Rep T F v d) (rv : RelV v u) : ∃ xs', TP3 xs' (storedH ys q.key b u) ∧ RepT T F xs' (putT es q d) ∧ xs'.length ≤ xs.length + 1 := by
  obtain ⟨k1, k2, _⟩ := keyOk_of hq
  have key : (lookT es q).isSome = (atKey ys q.key).isSome := by
    rcases r.look p q with ⟨d', e', v', a1, a2, _⟩ | ⟨a1, a2⟩
    · rw [a1, a2]; rfl
    · rw [a1, a2]; rfl
  unfold putT storedH
  rw [← key]
  clear key
  split
  · rename_i zz
    clear zz
    suffices hh : ∃ xs', TP3 xs' (ys.map (putAt q.key u)) ∧ RepT T F xs' (es.map fun p => if p.1.key = q.key then (p.1, d) else p) ∧ xs'.length = xs.length by
      obtain ⟨xs', a, b, c⟩ := hh
      exact ⟨xs', a, b, by omega⟩
    induction es generalizing xs ys with
    | nil => cases r; cases p; exact ⟨[], .nil, .nil, rfl⟩
    | cons e es ih =>
      cases r with
      | @cons b v' k d' xs _ h1 h2 h3 h4 t =>
        cases p with
        | @cons _ y _ ys hp tp =>
          obtain ⟨y1, y2, y3⟩ := y
          obtain ⟨e1, e2, e3⟩ := hp
          have e1' : k.key = y1 := e1
          obtain ⟨xs', a1, a2, a3⟩ := ih t tp
          rw [List.map_cons, List.map_cons]
          by_cases z : k.key = q.key
          · refine ⟨(k.key, b, v) :: xs', .cons ?_ a1, ?_, by simp [a3]⟩
            · unfold putAt
              rw [if_pos (e1' ▸ z)]
              exact ⟨e1, e2, rv⟩
            · rw [if_pos z]
              exact .cons h1 h2 h3 h a2
          · refine ⟨(k.key, b, v') :: xs', .cons ?_ a1, ?_, by simp [a3]⟩
            · unfold putAt
              rw [if_neg (fun z' => z (e1'.trans z'))]
              exact ⟨e1, e2, e3⟩
            · rw [if_neg z]
              exact .cons h1 h2 h3 h4 a2
  · rename_i zz
    clear zz
    refine ⟨xs ++ [(q.key, b, v)], ?_, ?_, by simp⟩
    · clear r
      induction ys generalizing xs with
      | nil => cases p; exact .cons ⟨rfl, rfl, rv⟩ .nil
      | cons y ys ih => cases p with | cons hp tp => exact .cons hp (ih tp)
    · clear p
      induction es generalizing xs with
      | nil => cases r; exact .cons hb k1 k2 h .nil
      | cons e es ih => cases r with | cons a1 a2 a3 a4 t => exact .cons a1 a2 a3 a4 (ih t)
end

section
variable {X : Cx} {pins : List (Addr × Obj)} {σ : L2.St} {H F : Hp} {s : Shared}
mutual
theorem Rep.nest (I : Inv X pins σ H s) (sub : Ex F H) : ∀ {v : V} {d : D} {u : Value}, Rep (wd X) F v d → RelV v u → d.im = true → NestedIs s.heap d.key u
  | _, _, _, .non, r, _ => by cases r; exact .none
  | _, _, _, .bl b, r, _ => by cases r; exact .bool rfl
  | _, _, _, .int i, r, _ => by obtain ⟨t, rfl⟩ := r; exact .int i t
  | _, _, _, .str x, r, _ => by obtain ⟨t, rfl⟩ := r; exact .text x t
  | _, _, _, .tup h rl, r, hi => by
    cases r
    obtain ⟨its, rv, ⟨o, ho, hc, n, hd⟩, _⟩ := I.tuple ((RdLe.ex sub).t h)
    exact .tup ho hc hd (RepL.nest I sub rl rv hi)
  | _, _, _, .lst _ _, _, hi => by cases hi
  | _, _, _, .dS _ _, _, hi => by cases hi
  | _, _, _, .dT _ _ _, _, hi => by cases hi
theorem RepL.nest (I : Inv X pins σ H s) (sub : Ex F H) : ∀ {v : List V} {d : List D} {u : List Value}, RepL (wd X) F v d → Vals v u → imL d = true → NestedAll s.heap (keyL d) u
  | _, _, _, .nil, r, _ => by cases r; exact .nil
  | _, _, _, .cons h t, r, hi => by
    cases r with
    | cons r1 r2 =>
      obtain ⟨h1, h2⟩ := Bool.and_eq_true_iff.mp hi
      exact .cons (Rep.nest I sub h r1 h1) (RepL.nest I sub t r2 h2)
end
/-- the dict of tuple keys, as the library tells it -/
theorem dT_at {a : Addr} {ob : Obj} {xs : List (NestedKey × Addr × V)} {es : List (D × D)} (I : Inv X pins σ H s) (sub : Ex F H) (hr : Rd H a (xo a ob)) (o : DObT (wd X) a ob xs) (r : RepT (wd X) F xs es) :
    ∃ ys, TP3 xs ys ∧ s.heap.DictOfH (nestedKind X.prog X.w) a ys ∧ (∃ es ep, ob.data = .dict es ep ∧ es.toList = ys.map (entryOfKey (nestedKind X.prog X.w))) ∧ s.heap.get? a = some ob := by
  obtain ⟨hget, _⟩ := hr.ok I.hok
  obtain ⟨ys, p, ex, ens, ep, hd, he, nd⟩ := o.ob
  refine ⟨ys, p, ⟨ob, ens, ep, hget, ex, hd, he, ?_, nd⟩, ⟨ens, ep, hd, he⟩, hget⟩
  clear hr nd he o hget ex hd
  induction es generalizing xs ys with
  | nil => cases r; cases p; intro x hx; cases hx
  | cons e es ih =>
    cases r with
    | @cons b v k d xs _ h1 h2 h3 h4 t =>
      cases p with
      | @cons _ y _ ys hp tp =>
        obtain ⟨y1, y2, y3⟩ := y
        obtain ⟨e1, e2, e3⟩ := hp
        intro x hx
        rcases List.mem_cons.mp hx with rfl | hx
        · have e1' : k.key = y1 := e1
          have e2' : b = y2 := e2
          subst e1' e2'
          exact ⟨Rep.nest I sub h1 (u := .ref b) rfl h2, h3⟩
        · exact ih t _ tp x hx
/-- a key that stands -/
theorem key_at {b : Addr} {q : D} (I : Inv X pins σ H s) (sub : Ex F H) (r : Rep (wd X) F (.ref b) q) (hq : keyOk q = true) : (nestedKind X.prog X.w).is s.heap q.key b := by
  obtain ⟨k1, k2, _⟩ := keyOk_of hq
  exact ⟨Rep.nest I sub r rfl k1, k2⟩
end
theorem nk_room {X : Cx} (hu : X.A.units + 64 < cLine) : (nestedKind X.prog X.w).room X.A.in1 := by
  show X.A.units + 1 + 8 < cLine
  omega
theorem nk_room0 {X : Cx} (hu : X.A.units + 64 < cLine) : (nestedKind X.prog X.w).room X.A := by
  show X.A.units + 8 < cLine
  omega

section
variable {X : Cx}
/-- q in the dict of tuple keys -/
def rInT (T : Wd) (f : Bool → Bool) : R2 := fun x y H Q => ∃ F b a ob xs es q, Ex F H ∧ x = .ref b ∧ y = .ref a ∧ Rep T F (.ref b) q ∧ keyOk q = true ∧ Rd H a (xo a ob) ∧ DObT T a ob xs ∧ RepT T F xs es ∧ Q (.bl (f (lookT es q).isSome)) H
theorem op_inT (hu : X.A.units + 64 < cLine) : OpR X (compareOp .In) (rInT (wd X) id) := by
  intro pins s σ H x y v u Q I rx ry h
  obtain ⟨F, b, a, ob, xs, es, q, sub, rfl, rfl, hb, hq, ha, o, r, k⟩ := h
  cases rx
  cases ry
  obtain ⟨ys, p, dd, _, _⟩ := dT_at I sub ha o r
  refine wpAny_in_heap (nk_room hu) (key_at I sub hb hq) o.nm dd ⟨.bl (lookT es q).isSome, H, I.tok _, ?_, k⟩
  rcases r.look p q with ⟨d, e, v, a1, a2, _⟩ | ⟨a1, a2⟩ <;> rw [a1, a2] <;> rfl
theorem op_notInT (hu : X.A.units + 64 < cLine) : OpR X (compareOp .NotIn) (rInT (wd X) not) := by
  intro pins s σ H x y v u Q I rx ry h
  obtain ⟨F, b, a, ob, xs, es, q, sub, rfl, rfl, hb, hq, ha, o, r, k⟩ := h
  cases rx
  cases ry
  obtain ⟨ys, p, dd, _, _⟩ := dT_at I sub ha o r
  refine wpAny_notIn_heap (nk_room hu) (key_at I sub hb hq) o.nm dd ⟨.bl (!(lookT es q).isSome), H, I.tok _, ?_, k⟩
  rcases r.look p q with ⟨d, e, v, a1, a2, _⟩ | ⟨a1, a2⟩ <;> rw [a1, a2] <;> rfl
def rIxT' (T : Wd) : R2 := fun x y H Q => ∃ F b a ob xs es q d, Ex F H ∧ x = .ref a ∧ y = .ref b ∧ Rep T F (.ref b) q ∧ keyOk q = true ∧ Rd H a (xo a ob) ∧ DObT T a ob xs ∧ RepT T F xs es ∧ lookT es q = some d ∧ ∀ v, Rep T F v d → Q v H
theorem ix_dT (hu : X.A.units + 64 < cLine) : IxR X (rIxT' (wd X)) := by
  intro value slice pins s σ H x y v u Q I rx ry h hs
  obtain ⟨F, b, a, ob, xs, es, q, d, sub, rfl, rfl, hb, hq, ha, o, r, l, k⟩ := h
  cases rx
  cases ry
  obtain ⟨ys, p, dd, _, _⟩ := dT_at I sub ha o r
  rcases r.look p q with ⟨d', e, v, a1, a2, a3, a4⟩ | ⟨a1, a2⟩
  · rw [l] at a1
    cases a1
    exact tail_any dd.typeIs slot_dict_getitem.lookup (wpAny_getItem_heap (nk_room hu) (key_at I sub hb hq) dd a2 ⟨v, H, I.tok _, a3, k v a4⟩) hs
  · rw [l] at a1
    cases a1
/-- d[k], texts as keys -/
def rIxS' (T : Wd) : R2 := fun x y H Q => ∃ F a kvs es k d, Ex F H ∧ x = .ref a ∧ y = .str k ∧ Rd H a (.dK kvs) ∧ RepS T F kvs es ∧ lookS es k = some d ∧ ∀ v, Rep T F v d → Q v H
theorem ix_dS (hu : X.A.units + 64 < cLine) : IxR X (rIxS' (wd X)) := by
  intro value slice pins s σ H x y v u Q I rx ry h hs
  obtain ⟨F, a, kvs, es, k, d, sub, rfl, rfl, ha, r, l, kk⟩ := h
  cases rx
  rcases r.look k with ⟨d', z, a1, a2, a3⟩ | ⟨a1, a2⟩
  · rw [l] at a1
    cases a1
    have g : DGet H a (.str k) (some z) := .inl ⟨kvs, .inr k, ha, rfl, a2.symm⟩
    exact tail_any (dict_typeIs I g) slot_dict_getitem.lookup (d_getItem (by omega) I g ry fun w' s' I' r' => ⟨z, H, I', r', kk z a3⟩) hs
  · rw [l] at a1
    cases a1
def rInS (T : Wd) (f : Bool → Bool) : R2 := fun x y H Q => ∃ F a kvs es k, Ex F H ∧ x = .str k ∧ y = .ref a ∧ Rd H a (.dK kvs) ∧ RepS T F kvs es ∧ Q (.bl (f (lookS es k).isSome)) H
theorem op_inS (hu : X.A.units + 64 < cLine) : OpR X (compareOp .In) (rInS (wd X) id) := by
  intro pins s σ H x y v u Q I rx ry h
  obtain ⟨F, a, kvs, es, k, sub, rfl, rfl, ha, r, kk⟩ := h
  cases ry
  have g : DGet H a (.str k) (valV kvs (.inr k)) := .inl ⟨kvs, .inr k, ha, rfl, rfl⟩
  refine d_in (by omega) I g rx fun s' I' => ⟨.bl (lookS es k).isSome, H, I', ?_, kk⟩
  rcases r.look k with ⟨d', z, a1, a2, a3⟩ | ⟨a1, a2⟩ <;> rw [a1, a2] <;> rfl
theorem op_notInS (hu : X.A.units + 64 < cLine) : OpR X (compareOp .NotIn) (rInS (wd X) not) := by
  intro pins s σ H x y v u Q I rx ry h
  obtain ⟨F, a, kvs, es, k, sub, rfl, rfl, ha, r, kk⟩ := h
  cases ry
  have g : DGet H a (.str k) (valV kvs (.inr k)) := .inl ⟨kvs, .inr k, ha, rfl, rfl⟩
  refine d_notIn (by omega) I g rx fun s' I' => ⟨.bl (!(lookS es k).isSome), H, I', ?_, kk⟩
  rcases r.look k with ⟨d', z, a1, a2, a3⟩ | ⟨a1, a2⟩ <;> rw [a1, a2] <;> rfl

/-! ### stores, by values -/
/-- the heap behind d[q] = v for tuple keys -/
theorem setT {pins : List (Addr × Obj)} {σ : L2.St} {H F : Hp} {s : Shared} {a b : Addr} {ob : Obj} {xs : List (NestedKey × Addr × V)} {es : List (D × D)} {q d : D} {v : V} {r : Value} {E : Value → Shared → Prop} {Q : Unit → Shared → Prop}
    (hu : X.A.units + 64 < cLine) (I : Inv X pins σ H s) (sub : Ex F H) (ha : H a = some (xo a ob)) (o : DObT (wd X) a ob xs) (rp : RepT (wd X) F xs es) (hb : Rep (wd X) F (.ref b) q) (hq : keyOk q = true) (rv : Rep (wd X) F v d) (ru : RelV v r)
    (hz : ok (es.length + 1) = true) (h : ∀ s' ob' xs', Inv X pins σ (upd H a (xo a ob')) s' → DObT (wd X) a ob' xs' → RepT (wd X) F xs' (putT es q d) → Q () s') :
    wpAny (model X.prog X.w) X.A (setItem (.ref a) (.ref b) r) Q E s := by
  obtain ⟨ys, p, dd, _, _⟩ := dT_at I sub (.of ha) o rp
  have hl : ys.length ≤ sizeLine := by
    have e1 := rp.len
    have e2 := Paired.length p
    have e3 := ok_sz hz
    omega
  refine wpAny_setItem_heap (hsz := hl) (nk_room hu) (key_at I sub hb hq) dd fun h' dd' hs => ?_
  obtain ⟨xs', p', r', l'⟩ := rp.put p hb hq rv ru
  obtain ⟨ob', ens, ep, hg, ex, hd, he, his, nd⟩ := dd'
  refine h _ ob' xs' (d_write I (by rw [ha]; exact True.intro) hs ⟨ob', hg⟩ ⟨hg, ⟨ob', hg⟩, fun h1 h2 e k => k _ e⟩) ⟨o.nm, ?_, _, p', ex, ens, ep, hd, he, nd⟩ r'
  have e1 := rp.len
  have e3 := ok_sz hz
  omega
theorem setS {pins : List (Addr × Obj)} {σ : L2.St} {H F : Hp} {s : Shared} {a : Addr} {kvs : List (Key × V)} {es : List (Str × D)} {k : Str} {d : D} {v : V} {r iv : Value} {E : Value → Shared → Prop} {Q : Unit → Shared → Prop}
    (hu : X.A.units + 64 < cLine) (I : Inv X pins σ H s) (ha : H a = some (.dK kvs)) (rp : RepS (wd X) F kvs es) (ri : RelV (.str k) iv) (rv : Rep (wd X) F v d) (ru : RelV v r)
    (hz : ok (es.length + 1) = true) (h : ∀ s' kvs', Inv X pins σ (upd H a (.dK kvs')) s' → RepS (wd X) F kvs' (putS es k d) → Q () s') :
    wpAny (model X.prog X.w) X.A (setItem (.ref a) iv r) Q E s := by
  have g : DPut H a (kV (.inr k)) v (upd H a (.dK (putK kvs (.inr k) v))) := DPut.k ha (by
    have e1 := rp.len
    have e3 := ok_sz hz
    omega)
  exact d_setItem (by omega) I g ri ru fun s' I' => h s' _ I' (rp.put k rv)

/-! ### displays -/
def dNewS : DE := fun _ => some (.dS [], true)
def dNewT : DE := fun _ => some (.dT [], true)
theorem se_newS {pos : Pos} : SE X (.Dict [] [] pos) dNewS := pe_imp pe_dnewK fun σ H Q ⟨ρ, F, d, b, A, q, k⟩ p hp => by
  cases q
  exact k _ F _ (.newH A.sub hp _) ⟨p, rfl, hp, Ex.none_sub A.sub hp, [], upd_same, .nil⟩
def tNewX : TE := fun _ H Q => ∀ p ob, H p = none → (p == sysModules) = false → ob.ExactDict → ob.data = .dict #[] 0 → Q (.ref p) (upd H p (xo p ob))
theorem pe_newX {pos : Pos} : PE X (.Dict [] [] pos) tNewX := ⟨fun pins s σ H Q I h =>
  wpAny_Dict_empty ⟨.ref s.heap.objs.size, _, I.laid (a := s.heap.objs.size) (o := xo s.heap.objs.size { cls := .type "dict", data := .dict #[] }) (t' := s.toks) (fun _ _ q => Heap.get?_push_of_some _ q) (Nat.le_refl _)
    ⟨Heap.get?_push_size _ rfl, ⟨_, Heap.get?_push_size _ rfl⟩, fun h1 h2 e k => k _ e⟩, rfl, h _ _ (I.hok.fresh (Nat.le_refl _)) (beq_eq_false_iff_ne.mpr (Ne.symm (Nat.ne_of_lt I.big))) ⟨rfl, rfl, rfl⟩ rfl⟩⟩
theorem se_newT {pos : Pos} : SE X (.Dict [] [] pos) dNewT := pe_imp pe_newX fun σ H Q ⟨ρ, F, d, b, A, q, k⟩ p ob hp hm hx hd => by
  cases q
  exact k _ F _ (.newH A.sub hp _) ⟨p, rfl, hp, Ex.none_sub A.sub hp, ob, [], upd_same, ⟨hm, Nat.zero_le _, [], .nil, hx, #[], 0, hd, rfl, List.nodup_nil⟩, .nil⟩
/-- {q: v}, q a tuple -/
def dOneT (dk dv : DV) : DE := fun ρ => (dk ρ).bind fun q => (dv ρ).bind fun d => if keyOk q then some (.dT [(q, d)], true) else none
theorem dict_pairsH {knd : HeapKind X.prog X.w NestedKey} {A : Around} {E : Value → Shared → Prop} {s : Shared} {env : Env} {keys : List (Option Expr)} {values : List Expr} {pos : Pos} {pairs : List (Sem Value × Sem Value)} {Q : Value → Shared → Prop} (hu : knd.room A)
    (hshape : (evalEachOpt keys env).zip ((evalEach values env).map fun v => do let x ← v; standAt pos; pure x) = pairs.map fun p => (some p.1, p.2)) (h0 : pairs ≠ []) (hlen : pairs.length ≤ 15)
    (h : wpAny (model X.prog X.w) A (evalPairs pairs) (fun vs s₁ => ∃ ps, CarriesH knd s₁.heap vs ps ∧ s₁.heap.DictOfH knd s.heap.objs.size [] ∧
      ∀ h' tk, h'.DictOfH knd s.heap.objs.size (storedAllH [] ps) → Heap.SameBut s.heap.objs.size s₁.heap h' → Q (.ref s.heap.objs.size) { s₁ with heap := h', toks := tk }) E
      { s with heap := s.heap.push { cls := .type "dict", data := .dict #[] } }) :
    wpAny (model X.prog X.w) A (eval (.Dict keys values pos) env) Q E s := by
  rw [arm_eval_Dict, hshape, dictDisplay_pairs pairs h0 (by omega)]
  exact wpAny_bind (wpAny_standAt (wpAny_bind (wpAny_subDictH (knd := knd) (Q := fun d s' => wpAny (model X.prog X.w) A (pure (Value.ref d)) Q E s') hu hlen
    (wpAny_mono h (fun vs s₁ h₁ => by obtain ⟨ps, hc, hm, hq⟩ := h₁; exact ⟨ps, hc, hm, fun h' tk a b => wpAny_pure (hq h' tk a b)⟩) fun _ _ e => e))))
theorem se_oneT {pos : Pos} {k v : Expr} {dk dv : DV} (hu : X.A.units + 64 < cLine) (hk : SV X k dk) (hv : SV X v dv) : SE X (.Dict [some k] [v] pos) (dOneT dk dv) := by
  refine ⟨fun pins s σ H Q I ⟨ρ, F, d, b, A, q, kk⟩ => ?_⟩
  obtain ⟨qk, d', q1, q2, q⟩ := bind2 q
  split at q
  · rename_i hq
    cases q
    have hn := I.hok.fresh (Nat.le_refl s.heap.objs.size)
    have I1 := I.laid (a := s.heap.objs.size) (o := xo s.heap.objs.size { cls := .type "dict", data := .dict #[] }) (h' := s.heap.push { cls := .type "dict", data := .dict #[] }) (t' := s.toks) (fun _ _ q => Heap.get?_push_of_some _ q) (Nat.le_refl _)
      ⟨Heap.get?_push_size _ rfl, ⟨_, Heap.get?_push_size _ rfl⟩, fun h1 h2 e k => k _ e⟩
    have st0 : EStp F H F (upd H s.heap.objs.size (xo s.heap.objs.size { cls := .type "dict", data := .dict #[] })) := .newH A.sub hn _
    have r1 : rV (wd X) dk σ (upd H s.heap.objs.size (xo s.heap.objs.size { cls := .type "dict", data := .dict #[] })) fun x H1 => ∃ F1, EStp F H F1 H1 ∧ Rep (wd X) F1 x qk ∧ H1 s.heap.objs.size = some (xo s.heap.objs.size { cls := .type "dict", data := .dict #[] }) ∧ F1 s.heap.objs.size = none :=
      ⟨ρ, F, qk, A.step st0, q1, fun x F1 H1 s1 r1 => ⟨F1, st0.trans s1, r1, s1.ex _ _ upd_same, (s1.ag _ (some_ne upd_same)).trans (Ex.none_sub A.sub hn)⟩⟩
    refine dict_pairsH (knd := nestedKind X.prog X.w) (nk_room0 hu) (zip_pairTrees [some k] [v] X.env pos rfl rfl) (by intro z; cases z) (by show 1 ≤ 15; decide) ?_
    refine pairTrees_cons_walk (thn (hk.run pins _ σ _ _ I1 r1) fun u s1 ⟨x, H1, I1, rx, F1, st1, e1, hp1, fp1⟩ => ?_)
    have r2 : rV (wd X) dv σ H1 fun y H2 => ∃ F2, EStp F H F2 H2 ∧ Rep (wd X) F2 x qk ∧ H2 s.heap.objs.size = some (xo s.heap.objs.size { cls := .type "dict", data := .dict #[] }) ∧ F2 s.heap.objs.size = none ∧ Rep (wd X) F2 y d' :=
      ⟨ρ, F1, d', A.step st1, q2, fun y F2 H2 s2 r2 => ⟨F2, st1.trans s2, e1.ex (s2.le st1.sub), s2.ex _ _ hp1, (s2.ag _ (some_ne hp1)).trans fp1, r2⟩⟩
    refine thn (hv.run pins s1 σ H1 _ I1 r2) fun w2 s2 ⟨y, H2, I2, ry, F2, st, e1, hp, fp, ry2⟩ => pairTrees_nil_walk ?_
    obtain ⟨k1, k2, l, rfl⟩ := keyOk_of hq
    cases e1 with
    | @tup ka xs ds hx hr =>
      cases rx
      have kn := key_at I2 st.sub (.tup hx hr) hq
      obtain ⟨hg, _⟩ := I2.hok _ _ hp
      refine ⟨[((D.tup l).key, ka, w2)], ⟨rfl, rfl, kn, True.intro⟩, ⟨_, #[], 0, hg, ⟨rfl, rfl, rfl⟩, rfl, rfl, fun _ hx => by simp at hx, List.nodup_nil⟩, fun h' tk hm hs => ?_⟩
      obtain ⟨ob', ens, ep, hg', ex, hd, he, his, nd⟩ := hm
      have nm : (s.heap.objs.size == sysModules) = false := beq_eq_false_iff_ne.mpr (Ne.symm (Nat.ne_of_lt I.big))
      refine ⟨.ref s.heap.objs.size, _, d_write (t' := tk) (ob := xo s.heap.objs.size ob') I2 (by rw [hp]; exact True.intro) hs ⟨ob', hg'⟩ ⟨hg', ⟨ob', hg'⟩, fun h1 h2 e k => k _ e⟩, rfl, ?_⟩
      refine kk (.ref s.heap.objs.size) F2 _ ⟨fun a o e => ?_, fun a o e => ?_, st.ag⟩ ⟨_, rfl, hn, fp, ob', [((D.tup l).key, ka, y)], upd_same, ⟨nm, by show 1 ≤ sizeLine; decide, _, .cons ⟨rfl, rfl, ry⟩ .nil, ex, ens, ep, hd, he, nd⟩, .cons (.tup hx hr) k1 k2 ry2 .nil⟩
      · rw [upd_ne (by rintro rfl; rw [hn] at e; cases e)]
        exact st.ex a o e
      · rw [upd_ne (by rintro rfl; rw [fp] at e; cases e)]
        exact st.sub a o e
  · cases q
/-- a written dict with texts as keys and plain values -/
def scV : D → Option V
  | .non => some .non
  | .bl b => some (.bl b)
  | .int i => some (.int i)
  | .str x => some (.str x)
  | _ => none
theorem scV_rep {T : Wd} {F : Hp} {d : D} {v : V} (h : scV d = some v) : Rep T F v d := by
  cases d <;> cases h
  · exact .non
  · exact .bl _
  · exact .int _
  · exact .str _
def litS (es : List (Str × D)) : List (Str × D) := es.foldl (fun acc p => putS acc p.1 p.2) []
def dLitS (es : List (Str × D)) : DE := fun _ => some (.dS (litS es), true)
theorem RepS.fold {T : Wd} {F : Hp} : ∀ {more : List (Str × V × D)} {kvs : List (Key × V)} {es : List (Str × D)}, RepS T F kvs es → (∀ m ∈ more, Rep T F m.2.1 m.2.2) →
    RepS T F (mergeK kvs (more.map fun m => (.inr m.1, m.2.1))) ((more.map fun m => (m.1, m.2.2)).foldl (fun acc p => putS acc p.1 p.2) es)
  | [], _, _, r, _ => r
  | m :: ms, kvs, es, r, h => RepS.fold (more := ms) (r.put m.1 (h m List.mem_cons_self)) fun x hx => h x (List.mem_cons_of_mem _ hx)
theorem tPairs_c : ∀ {ms : List (Str × V × D)} {σ : L2.St} {H : Hp} {Q : List (V × V) → Hp → Prop}, Q (ms.map fun m => (.str m.1, m.2.1)) H → tPairs (ms.map fun m => (tC (.str m.1), tC m.2.1)) σ H Q
  | [], _, _, _, q => q
  | m :: ms, σ, H, Q, q => tPairs_c (ms := ms) (Q := fun ps H3 => Q ((.str m.1, m.2.1) :: ps) H3) q
theorem se_litS {pos : Pos} {keys : List (Option Expr)} {values : List Expr} (ms : List (Str × V × D)) (h : PPs X pos keys values (ms.map fun m => (tC (.str m.1), tC m.2.1))) (hv : ∀ m ∈ ms, scV m.2.2 = some m.2.1)
    (hall : keys.all (·.isSome) = true) (hl : keys.length = values.length) (h0 : keys ≠ []) (h15 : keys.length ≤ 15) (hm : ms.length ≤ 15) : SE X (.Dict keys values pos) (dLitS (ms.map fun m => (m.1, m.2.2))) :=
  pe_imp (pe_disp h hall hl h0 h15) fun σ H Q ⟨ρ, F, d, b, A, q, k⟩ p hp => by
    cases q
    refine tPairs_c ⟨upd_same, ms.map fun m => (.inr m.1, m.2.1), by rw [List.map_map]; rfl, by rw [List.length_map]; exact hm, ?_⟩
    rw [upd_upd]
    exact k _ F _ (.newH A.sub hp _) ⟨p, rfl, hp, Ex.none_sub A.sub hp, _, upd_same, RepS.fold .nil fun m hx => scV_rep (hv m hx)⟩
end
end NW

/-! {**d, k: v} -/
namespace NW
open PySem PySem.Spec PyProof.Rows
section
variable {prog : Program} {w : World} {K : Type} [DecidableEq K] {knd : PySem.KeyKind prog w K} {A : Around} {E : Value → Shared → Prop} {s : Shared}
theorem wpAny_dictPut_pairs {d : Addr} {kvs : List (K × Value)} {k : K} {key v : Value} {Q : Unit → Shared → Prop} (hkey : knd.is k key = true) (hm : s.heap.DictOf knd d kvs)
    (hQ : ∀ h', h'.DictOf knd d (stored kvs k v) → Heap.SameBut d s.heap h' → Q () { s with heap := h' }) (hsz : kvs.length ≤ sizeLine) :
    wpAny (model prog w) A (dictPut d (knd.hash k) key v) Q E s := by
  obtain ⟨o, es, ep, ho, hc, hd, hk, hp, hn⟩ := hm
  have hes : es.size ≤ sizeLine := by have e1 := hp.length; have e2 : es.toList.length = es.size := by simp
                                      omega
  unfold dictPut
  refine wpAny_bind (wpAny_dictFind_of hkey ho hd hk ?_)
  have hidx : (es.findIdx? fun e => knd.is k e.key) = kvs.findIdx? fun kv => decide (kv.1 = k) := by
    rw [← hp.findIdx k]; obtain ⟨l⟩ := es; simp
  cases hi : es.findIdx? fun e => knd.is k e.key with
  | some i =>
    refine wpAny_updateDict ho hd (hQ _ ⟨_, _, ep, Heap.get?_update_self _ ho (Obj.isFreed_of_dict (Obj.data_mapDict hd _)),
      hc.mapDict _, Obj.data_mapDict hd _, hk.modify _ _, ?_, ?_⟩ (Heap.SameBut.update ..))
    · rw [stored, if_pos (any_of_findIdx_some (hidx ▸ hi))]
      have hl : (es.toList.findIdx? fun e => knd.is k e.key) = some i := by rw [← hi]; obtain ⟨l⟩ := es; simp
      have := hp.modify hn hl v
      obtain ⟨l⟩ := es
      simpa using this
    · rw [stored, if_pos (any_of_findIdx_some (hidx ▸ hi)), keys_map_store]; exact hn
  | none =>
    have hnot : k ∉ kvs.map (·.1) := not_mem_of_findIdx_none (hidx ▸ hi)
    have hany : ¬ (kvs.any fun kv => decide (kv.1 = k)) = true := by
      rw [List.any_eq_true]; rintro ⟨kv, hkv, he⟩
      exact hnot (List.mem_map.mpr ⟨kv, hkv, of_decide_eq_true he⟩)
    refine wpAny_updateDictKeys (hz := hes) ho hd (hQ _ ⟨_, _, ep + 1, Heap.get?_update_self _ ho (Obj.isFreed_of_dict (Obj.data_mapDictKeys hd _)),
      hc.mapDictKeys _, Obj.data_mapDictKeys hd _, hk.push hkey _, ?_, ?_⟩ (Heap.SameBut.update ..))
    · rw [stored, if_neg hany]
      have := hp.append hkey (knd.hash k) v
      obtain ⟨l⟩ := es
      simpa using this
    · rw [stored, if_neg hany, List.map_append, List.nodup_append]
      refine ⟨hn, by simp, ?_⟩
      intro a ha b hb
      simp only [List.map_cons, List.map_nil, List.mem_singleton] at hb
      subst hb
      exact fun e => hnot (e ▸ ha)
theorem iter_dict_slot : typeLookup (.type "dict") "__iter__" = pure (some (.builtin "dict.__iter__")) := PySem.F.slot_dict_iter.lookup
theorem wpAny_mergeMapping {d o : Addr} {kvs more : List (K × Value)} {Q : Unit → Shared → Prop} (hdo : d ≠ o) (hoS : (o == sysModules) = false)
    (hd : s.heap.DictOf knd d kvs) (ho : s.heap.DictOf knd o more)
    (hQ : ∀ h', h'.DictOf knd d (merged kvs more) → h'.DictOf knd o more → Heap.SameBut d s.heap h' → Q () { s with heap := h' })
    (hsz : kvs.length + more.length ≤ sizeLine) :
    wpAny (model prog w) A (mergeMapping d (.ref o) false) Q E s := by
  obtain ⟨od, esd, epd, hod, hcd, hdd, hkd, hpd, hnd⟩ := id hd
  obtain ⟨oo, eso, epo, hoo, hco, hdo', hko, hpo, hno⟩ := id ho
  have hlen : more.length = eso.size := by rw [← hpo.length]; simp
  unfold mergeMapping
  refine wpAny_bind ?_
  refine wpAny_isInstance ho.typeIs isSubtype_dict_dict ?_
  dsimp only
  rw [if_pos rfl]
  refine wpAny_bind ?_
  refine wpAny_specialOf ho.typeIs iter_dict_slot ?_
  rw [show ((some (Value.builtin "dict.__iter__")) == some (Value.builtin "dict.__iter__")) = true from by decide +kernel]
  refine wpAny_bind (wpAny_pure ?_)
  dsimp only
  rw [hoS]
  rw [if_neg (by decide)]
  have loop : wpAny (model prog w) A (do
      let es ← dictEntries o
      let epoch ← dictEpoch o
      forIn (List.range es.size) PUnit.unit fun i (_ : PUnit) => (do
        let es' ← dictEntries o
        match es'[i]? with
        | some e => do
          holding [e.key, e.val] (dictPut d e.hash e.key e.val)
          let ep' ← dictEpoch o
          if (ep' != epoch) = true then do
            (unsupported "dict.changed-during-merge" : Sem PUnit)
            pure (ForInStep.yield PUnit.unit)
          else pure (ForInStep.yield PUnit.unit)
        | _ => do
          (unsupported "dict.changed-during-merge" : Sem PUnit)
          pure (ForInStep.yield PUnit.unit) : Sem (ForInStep PUnit))
      pure ()) Q E s := by
    refine wpAny_bind (wpAny_dictEntries hoo hdo' ?_)
    refine wpAny_bind (wpAny_dictEpoch hoo hdo' ?_)
    refine wpAny_bind ?_
    rw [List.range_eq_range']
    refine wpAny_forIn_list _
      (fun rest _ s' => ∃ h' i, s' = { s with heap := h' } ∧ rest = List.range' i (eso.size - i) ∧ i ≤ eso.size ∧ h'.DictOf knd d (merged kvs (more.take i)) ∧ h'.get? o = some oo ∧ Heap.SameBut d s.heap h')
      _ ?_ ?_ _ _ ⟨s.heap, 0, rfl, by simp, Nat.zero_le _, by simpa [merged] using hd, hoo, Heap.SameBut.refl _ _⟩
    · rintro x rest b s' ⟨h', i, rfl, hr, hi, hd', hoo', hs'⟩
      have hlt : i < eso.size := by
        rcases Nat.lt_or_ge i eso.size with h | h
        · exact h
        · rw [Nat.sub_eq_zero_of_le h] at hr; simp at hr
      obtain ⟨rfl, hrest⟩ : x = i ∧ rest = List.range' (i + 1) (eso.size - (i + 1)) := by
        have e : eso.size - i = (eso.size - (i + 1)) + 1 := by omega
        rw [e, List.range'_succ] at hr
        injection hr with h1 h2
        exact ⟨h1, h2⟩
      refine wpAny_bind (wpAny_dictEntries hoo' hdo' ?_)
      rw [Array.getElem?_eq_getElem hlt]
      obtain ⟨kv, hkv⟩ : ∃ kv, more[x]? = some kv := ⟨more[x]'(by rw [hlen]; exact hlt), List.getElem?_eq_getElem _⟩
      obtain ⟨k, v⟩ := kv
      obtain ⟨hkey, hval⟩ := hpo.get? (e := eso[x]) (by simp [hlt]) hkv
      obtain ⟨k', hkey', hhash⟩ := hko eso[x] (Array.getElem_mem hlt)
      obtain rfl : k' = k := knd.inj _ _ _ hkey' hkey
      show wpAny _ _ (holding [eso[x].key, eso[x].val] (dictPut d eso[x].hash eso[x].key eso[x].val) >>= _) _ _ _
      rw [hhash, hval]
      have hmx : (merged kvs (more.take x)).length ≤ sizeLine := by
        have e1 := merged_length_le kvs (more.take x)
        have e2 : (more.take x).length ≤ more.length := by rw [List.length_take]; omega
        omega
      refine wpAny_bind (wpAny_holding (wpAny_dictPut_pairs hkey hd' (fun h'' hd'' hs'' => ?_) hmx))
      have hoo'' : h''.get? o = some oo := (hs''.2 o (Ne.symm hdo)).trans hoo'
      refine wpAny_bind (wpAny_dictEpoch hoo'' hdo' ?_)
      rw [if_neg (by simp)]
      exact wpAny_pure ⟨h'', x + 1, rfl, hrest, hlt, by rw [merged_take_succ kvs more x (k', v) hkv]; exact hd'', hoo'', hs'.trans hs''⟩
    · rintro b s' ⟨h', i, rfl, hr, hi, hd', hoo', hs'⟩
      have hin : i = eso.size := by
        rcases Nat.lt_or_ge i eso.size with h | h
        · have e : eso.size - i = (eso.size - (i + 1)) + 1 := by omega
          rw [e, List.range'_succ] at hr; exact nomatch hr
        · exact Nat.le_antisymm hi h
      refine wpAny_pure (hQ h' ?_ ⟨oo, eso, epo, hoo', hco, hdo', hko, hpo, hno⟩ hs')
      rw [hin, ← hlen, List.take_length] at hd'; exact hd'
  refine wpAny_bind (wpAny_dictEntries hod hdd ?_)
  split
  · refine wpAny_bind (wpAny_dictEntries hoo hdo' ?_)
    refine wpAny_bind ?_
    rw [← Array.forIn_toList]
    refine wpAny_forIn_list _ (fun rest _ s' => s' = s ∧ ∀ e ∈ rest, ∃ k, knd.is k e.key = true) _ ?_ ?_ _ _ ⟨rfl, fun e he => ?_⟩
    · rintro x rest b s' ⟨rfl, hx⟩
      obtain ⟨k, hk⟩ := hx x List.mem_cons_self
      have hb := knd.byValue k _ hk
      split
      · rename_i a ha
        rw [ha] at hb
        cases hb
      · exact wpAny_pure ⟨rfl, fun e he => hx e (List.mem_cons_of_mem _ he)⟩
    · rintro b s' ⟨rfl, _⟩
      exact loop
    · obtain ⟨k, hk, _⟩ := hko e (by simpa using he)
      exact ⟨k, hk⟩
  · exact loop
/-- {**m, k: v}, by the machine -/
theorem wpAny_display_star {tm tk tv : Sem Value} {Q : Value → Shared → Prop}
    (h : wpAny (model prog w) A tm (fun m s1 => wpAny (model prog w) A (mergeMapping s.heap.objs.size m false) (fun _ s2 => wpAny (model prog w) A (subDict [(tk, tv)]) (fun sub s3 => wpAny (model prog w) A (mergeMapping s.heap.objs.size (.ref sub) false) (fun _ s4 => Q (.ref s.heap.objs.size) s4) (fun _ _ => False) s3) E s2) (fun _ _ => False) s1) E
      { s with heap := s.heap.push { cls := .type "dict", data := .dict #[] } }) :
    wpAny (model prog w) A (dictDisplay [(none, tm), (some tk, tv)]) Q E s := by
  unfold dictDisplay
  dsimp only
  rw [List.forIn_cons]
  refine wpAny_bind ?_
  rw [if_pos (by rfl)]
  simp only [List.isEmpty_nil, if_true, pure_bind]
  refine wpAny_bind ?_
  refine wpAny_bind ?_
  refine wpAny_alloc ?_
  refine wpAny_bind ?_
  refine wpAny_holding (wpAny_mono h (fun m s1 h1 => ?_) fun _ _ e => e)
  refine wpAny_bind ?_
  refine wpAny_onRaise ?_
  refine wpAny_tryCatch ?_
  refine wpAny_onRaise ?_
  refine wpAny_holding (wpAny_mono h1 (fun _ s2 h2 => ?_) fun _ _ e => e.elim)
  refine wpAny_pure ?_
  dsimp only
  rw [List.forIn_cons]
  refine wpAny_bind ?_
  dsimp only
  rw [if_neg (by simp)]
  refine wpAny_pure ?_
  dsimp only
  rw [List.forIn_nil]
  refine wpAny_pure ?_
  refine wpAny_bind ?_
  dsimp only
  rw [if_neg (by simp)]
  refine wpAny_bind ?_
  refine wpAny_holding (wpAny_mono h2 (fun sub s3 h3 => ?_) fun _ _ e => e)
  refine wpAny_bind ?_
  refine wpAny_onRaise ?_
  refine wpAny_holding (wpAny_mono h3 (fun _ s4 h4 => ?_) fun _ _ e => e.elim)
  refine wpAny_pure ?_
  exact wpAny_pure h4
end
open L2 Evl
section
variable {X : Cx}
/-- {**m, k: v}: m a dict of text keys -/
def dStar (dm : DV) (dk dv : DV) : DE := fun ρ => (dm ρ).bind fun m => (dk ρ).bind fun k => (dv ρ).bind fun v => match m, k with
  | .dS es, .str k => if ok (es.length + 1) then some (.dS (putS es k v), true) else none
  | _, _ => none
theorem bind3 {α β γ δ : Type} {x : Option α} {y : Option β} {w : Option γ} {f : α → β → γ → Option δ} {z : δ} (h : (x.bind fun a => y.bind fun b => w.bind fun c => f a b c) = some z) : ∃ a b c, x = some a ∧ y = some b ∧ w = some c ∧ f a b c = some z := by
  cases x with
  | none => cases h
  | some a =>
    obtain ⟨b, c, h1, h2, h3⟩ := bind2 (x := y) (y := w) (f := fun b c => f a b c) h
    exact ⟨a, b, c, rfl, h1, h2, h3⟩
theorem kv_one {k : Key} {y : V} : ∀ {vs : List (Key × Value)}, KV [(k, y)] vs → ∃ u, vs = [(k, u)] ∧ L2.RelV y u
  | _, .cons (b := (k', u)) h .nil => ⟨u, by rw [← show k = k' from h.1], h.2⟩
theorem merged_one {K : Type} [DecidableEq K] (kvs : List (K × Value)) (k : K) (v : Value) : merged kvs [(k, v)] = stored kvs k v := rfl
theorem merged_nil_one {K : Type} [DecidableEq K] (k : K) (v : Value) : merged [] [(k, v)] = [(k, v)] := rfl
theorem se_star {pos : Pos} {m k v : Expr} {dm dk dv : DV} (hm : SV X m dm) (hk : SV X k dk) (hv : SV X v dv) : SE X (.Dict [none, some k] [m, v] pos) (dStar dm dk dv) := by
  refine ⟨fun pins s σ H Q I ⟨ρ, F, d, b, A, q, kk⟩ => ?_⟩
  obtain ⟨m', k', v', q1, q2, q3, q⟩ := bind3 q
  split at q
  · rename_i es kx
    split at q
    · rename_i hz
      cases q
      generalize hp0 : s.heap.objs.size = p at *
      have hn : H p = none := hp0 ▸ I.hok.fresh (Nat.le_refl s.heap.objs.size)
      have I1 : Inv X pins σ (upd H p (.dK [])) { s with heap := s.heap.push { cls := .type "dict", data := .dict #[] } } := by
        have := I.laid (a := s.heap.objs.size) (o := .dK []) (h' := s.heap.push { cls := .type "dict", data := .dict #[] }) (t' := s.toks) (fun _ _ q => Heap.get?_push_of_some _ q) (Nat.le_refl _) (dk_empty s.heap I.big)
        rw [hp0] at this
        exact this
      have st0 : EStp F H F (upd H p (.dK [])) := .newH A.sub hn _
      have fp0 : F p = none := Ex.none_sub A.sub hn
      rw [arm_eval_Dict]
      refine wpAny_bind (wpAny_standAt ?_)
      show wpAny _ _ (dictDisplay [(none, do let x ← eval m X.env; standAt pos; pure x), (some (eval k X.env), do let x ← eval v X.env; standAt pos; pure x)]) _ _ _
      refine wpAny_display_star ?_
      rw [hp0]
      -- m
      have rm : rV (wd X) dm σ (upd H p (.dK [])) fun x H1 => ∃ F1, EStp F H F1 H1 ∧ F1 p = none ∧ H1 p = some (.dK []) ∧ Rep (wd X) F1 x (.dS es) :=
        ⟨ρ, F, _, A.step st0, q1, fun x F1 H1 s1 r1 => ⟨F1, st0.trans s1, (s1.ag _ (some_ne upd_same)).trans fp0, s1.ex _ _ upd_same, r1⟩⟩
      refine wpAny_bind (thn (hm.run pins _ σ _ _ I1 rm) fun u s1 ⟨x, H1, I2, rx, F1, st1, fp1, hp1, pk⟩ => wpAny_bind (wpAny_standAt (wpAny_pure ?_)))
      cases pk with
      | @dS a kvs _ ha rs =>
        obtain rfl : u = Value.ref a := rx
        have nap : p ≠ a := by
          rintro rfl
          rcases ha with ha | ⟨o, ha⟩ <;> (rw [fp1] at ha; cases ha)
        obtain ⟨z1, hd1, vs, rel, dd⟩ := dk_rd I2.hok (ex_rd st1.sub ha)
        obtain ⟨z2, hd2, vs0, rel0, dd0⟩ := dk_of I2.hok hp1
        cases rel0
        have lv : vs.length ≤ sizeLine := by rw [← rel.length]; exact z1
        have nd : (vs.map (·.1)).Nodup := by obtain ⟨_, _, _, _, _, _, _, _, h⟩ := dd; exact h
        refine wpAny_mergeMapping (knd := mixKind X.prog X.w) nap hd1 dd0 dd (fun h' dd1 _ hs => ?_) (by simpa using lv)
        rw [merged_nil_of_nodup vs nd] at dd1
        have he1 : ∃ q, h'.get? p = some q := let ⟨q, _, _, hq, _⟩ := dd1; ⟨q, hq⟩
        have I3 : Inv X pins σ (upd H1 p (.dK kvs)) { s1 with heap := h' } := d_write (t' := s1.toks) I2 (by rw [hp1]; exact True.intro) hs he1 (dk_new z1 hd2 rel dd1)
        have st2 : EStp F H F1 (upd H1 p (.dK kvs)) := ⟨fun a o e => by rw [upd_ne (by rintro rfl; rw [hn] at e; cases e)]; exact st1.ex a o e, fun a o e => by rw [upd_ne (by rintro rfl; rw [fp1] at e; cases e)]; exact st1.sub a o e, st1.ag⟩
        -- the pair
        generalize hs2 : ({ s1 with heap := h' } : Shared) = s2 at *
        generalize hq0 : s2.heap.objs.size = r at *
        have hrn : (upd H1 p (.dK kvs)) r = none := hq0 ▸ I3.hok.fresh (Nat.le_refl s2.heap.objs.size)
        have I4 : Inv X pins σ (upd (upd H1 p (.dK kvs)) r (.dK [])) { s2 with heap := s2.heap.push { cls := .type "dict", data := .dict #[] } } := by
          have := I3.laid (a := s2.heap.objs.size) (o := .dK []) (h' := s2.heap.push { cls := .type "dict", data := .dict #[] }) (t' := s2.toks) (fun _ _ q => Heap.get?_push_of_some _ q) (Nat.le_refl _) (dk_empty s2.heap I3.big)
          rw [hq0] at this
          exact this
        have st3 : EStp F1 (upd H1 p (.dK kvs)) F1 (upd (upd H1 p (.dK kvs)) r (.dK [])) := .newH st2.sub hrn _
        have frn : F1 r = none := Ex.none_sub st2.sub hrn
        have npr : p ≠ r := by rintro rfl; rw [upd_same] at hrn; cases hrn
        have rk : rV (wd X) dk σ (upd (upd H1 p (.dK kvs)) r (.dK [])) fun y H2 => ∃ F2, EStp F1 (upd H1 p (.dK kvs)) F2 H2 ∧ F2 r = none ∧ H2 r = some (.dK []) ∧ Rep (wd X) F2 y (.str kx) :=
          ⟨ρ, F1, _, A.step (st2.trans st3), q2, fun x F2 H2 s2 r2 => ⟨F2, st3.trans s2, (s2.ag _ (some_ne upd_same)).trans frn, s2.ex _ _ upd_same, r2⟩⟩
        refine wpAny_subDict (knd := mixKind X.prog X.w) (by show 1 ≤ 15; decide) ?_
        rw [hq0]
        refine evalPairs_cons (thn (hk.run pins _ σ _ _ I4 rk) fun ku s3 ⟨y, H2, I5, ry, F2, st4, fr2, hr2, rky⟩ => ?_)
        have rv : rV (wd X) dv σ H2 fun y2 H3 => ∃ F3, EStp F1 (upd H1 p (.dK kvs)) F3 H3 ∧ F3 r = none ∧ H3 r = some (.dK []) ∧ Rep (wd X) F3 y2 v' :=
          ⟨ρ, F2, _, A.step (st2.trans st4), q3, fun x F3 H3 s3 r3 => ⟨F3, st4.trans s3, (s3.ag _ (some_ne hr2)).trans fr2, s3.ex _ _ hr2, r3⟩⟩
        refine wpAny_bind (thn (hv.run pins s3 σ H2 _ I5 rv) fun vu s4 ⟨y2, H3, I6, ry2, F3, st5, fr3, hr3, rvy⟩ => wpAny_bind (wpAny_standAt (wpAny_pure (evalPairs_nil ?_))))
        cases rky
        have kis : (mixKind X.prog X.w).is (.inr kx) ku = true := kV_is ry
        obtain ⟨z3, hd3, vs3, rel3, dd3⟩ := dk_of I6.hok hr3
        cases rel3
        refine ⟨[(.inr kx, vu)], ⟨kis, rfl, True.intro⟩, dd3, fun h2 dd4 hs4 => ?_⟩
        rw [merged_nil_one] at dd4
        have he4 : ∃ q, h2.get? r = some q := let ⟨q, _, _, hq, _⟩ := dd4; ⟨q, hq⟩
        have kvone : KV [((.inr kx : Key), y2)] [(.inr kx, vu)] := .cons ⟨rfl, ry2⟩ .nil
        have I7 : Inv X pins σ (upd H3 r (.dK [(.inr kx, y2)])) { s4 with heap := h2, toks := s4.toks + [(ku, vu)].length } := d_write I6 (by rw [hr3]; exact True.intro) hs4 he4 (dk_new (by show 1 ≤ sizeLine; decide) hd3 kvone dd4)
        have hp7 : (upd H3 r (.dK [(.inr kx, y2)])) p = some (.dK kvs) := by rw [upd_ne npr]; exact st5.ex p _ upd_same
        obtain ⟨z5, hd5, vs5, rel5, dd5⟩ := dk_of I7.hok hp7
        obtain ⟨z6, hd6, vs6, rel6, dd6⟩ := dk_of I7.hok (upd_same (H := H3) (a := r) (o := .dK [(.inr kx, y2)]))
        have l5 : vs5.length + vs6.length ≤ sizeLine := by
          have e1 := rel5.length
          have e2 := rel6.length
          have e3 := rs.len
          have e4 := ok_sz hz
          simp at e2
          omega
        refine wpAny_mergeMapping (knd := mixKind X.prog X.w) npr hd6 dd5 dd6 (fun h3 dd7 _ hs7 => ?_) l5
        have he7 : ∃ q, h3.get? p = some q := let ⟨q, _, _, hq, _⟩ := dd7; ⟨q, hq⟩
        obtain ⟨u6, rfl, h6⟩ := kv_one rel6
        have rel7 : KV (putK kvs (.inr kx) y2) (merged vs5 [(.inr kx, u6)]) := rel5.put (.inr kx) h6
        have l7 : (putK kvs (.inr kx : Key) y2).length ≤ sizeLine := by
          have e1 := length_putK kvs (.inr kx : Key) y2
          have e3 := rs.len
          have e4 := ok_sz hz
          omega
        have I8 := d_write (t' := s4.toks + [(ku, vu)].length) I7 (by rw [hp7]; exact True.intro) hs7 he7 (dk_new l7 hd5 rel7 dd7)
        refine ⟨.ref p, _, I8, rfl, ?_⟩
        have stE := st2.trans st5
        have fp3 : F3 p = none := (st5.ag p (some_ne upd_same)).trans fp1
        refine kk (.ref p) F3 _ ⟨fun a o e => ?_, fun a o e => ?_, stE.ag⟩ ⟨p, rfl, hn, fp3, _, upd_same, (rs.mono (.ex (st5.le st2.sub))).put kx rvy⟩
        · rw [upd_ne (by rintro rfl; rw [hn] at e; cases e)]
          by_cases har : a = r
          · subst har
            have z := st2.ex a o e
            rw [hrn] at z
            cases z
          · rw [upd_ne har]
            exact stE.ex a o e
        · rw [upd_ne (by rintro rfl; rw [fp3] at e; cases e), upd_ne (by rintro rfl; rw [fr3] at e; cases e)]
          exact st5.sub a o e
    · cases q
  · cases q
end
end NW

/-! Comparisons, tests, choices, subscripts. -/
namespace NW
open PySem PySem.Spec PyProof.Rows L2 Evl
section
variable {X : Cx} {e a b c : Expr} {es : List Expr} {pos : Pos}
theorem Pk.sc {T : Wd} {F H : Hp} {v x : V} {d : D} (h : scV d = some x) (p : Pk T F H v d) : v = x := by
  cases d <;> cases h
  · exact p.non
  · exact p.bl
  · exact p.int
  · exact p.str
def scL : List D → Option (List V)
  | [] => some []
  | d :: r => (scV d).bind fun x => (scL r).map (x :: ·)
theorem scL_rep {T : Wd} {F : Hp} : ∀ {ds : List D} {xs ys : List V}, scL ds = some xs → RepL T F ys ds → ys = xs
  | [], _, _, h, r => by cases h; cases r; rfl
  | d :: ds, xs, ys, h, r => by
    obtain ⟨x, h1, h2⟩ := bind1 h
    cases q : scL ds with
    | none => rw [q] at h2; cases h2
    | some zs =>
      rw [q] at h2
      cases h2
      cases r with
      | cons r1 r2 => rw [Pk.sc (H := F) h1 (.inl r1), scL_rep q r2]
theorem scV_flat {d : D} {x : V} (h : scV d = some x) : flatV x = true := by cases d <;> cases h <;> rfl
theorem scL_flat : ∀ {ds : List D} {xs : List V}, scL ds = some xs → xs.all flatV = true
  | [], _, h => by cases h; rfl
  | d :: ds, xs, h => by
    obtain ⟨x, h1, h2⟩ := bind1 h
    cases q : scL ds with
    | none => rw [q] at h2; cases h2
    | some zs =>
      rw [q] at h2
      cases h2
      rw [List.all_cons, scV_flat h1, scL_flat q]
      rfl
mutual
theorem Rep.dp {T : Wd} {F H : Hp} (s : Ex F H) : ∀ {v : V} {d : D}, Rep T F v d → d.sq = true → Dp T.K H v d.py
  | _, _, .non, _ => .non
  | _, _, .bl b, _ => .bl b
  | _, _, .int i, _ => .int i
  | _, _, .str x, _ => .str x
  | _, _, .tup h r, q => .tup ((RdLe.ex s).t h) (RepL.dp s r q)
  | _, _, .lst h r, q => .lst (.of (s _ _ h)) (RepL.dp s r q)
  | _, _, .dS _ _, q => by cases q
  | _, _, .dT _ _ _, q => by cases q
theorem RepL.dp {T : Wd} {F H : Hp} (s : Ex F H) : ∀ {v : List V} {d : List D}, RepL T F v d → sqL d = true → DpAll T.K H v (pyL d)
  | _, _, .nil, _ => .nil
  | _, _, .cons h r, q => by
    obtain ⟨q1, q2⟩ := Bool.and_eq_true_iff.mp q
    exact .cons (Rep.dp s h q1) (RepL.dp s r q2)
end
theorem Pk.dp {T : Wd} {F H : Hp} {v : V} {d : D} (s : Ex F H) (p : Pk T F H v d) (q : d.sq = true) : Dp T.K H v d.py := by
  rcases p with r | ⟨p, rfl, o⟩
  · exact r.dp s q
  · cases d with
    | lst ds =>
      obtain ⟨xs, h, r⟩ := o
      exact .lst (.of h) (RepL.dp s r q)
    | dS es => cases q
    | dT es => cases q
    | _ => exact o.elim

def CmpD (X : Cx) (op : CmpOp) (g : D → D → Option Bool) : Prop :=
  OpR X (compareOp op) fun x y H Q => ∃ F a b c, Ex F H ∧ Pk (wd X) F H x a ∧ Pk (wd X) F H y b ∧ g a b = some c ∧ Q (.bl c) H
/-- the room that comparisons and dicts want -/
abbrev Rm (X : Cx) : Prop := X.A.units + 65 < cLine
def notG (g : D → D → Option Bool) : D → D → Option Bool := fun a b => (g a b).map (!·)
theorem notG_eq {g : D → D → Option Bool} {a b : D} {c : Bool} (h : notG g a b = some c) : g a b = some (!c) := by
  unfold notG at h
  cases q : g a b with
  | none => rw [q] at h; cases h
  | some x => rw [q] at h; cases h; rw [Bool.not_not]
def eqD (a b : D) : Option Bool := match scV a, scV b with
  | some x, some y => if scal x y then some (decide (x = y)) else none
  | _, _ => if a.sq && b.sq && SeqAt.shaped a.py && SeqAt.shaped b.py then some (PyData.eqv a.py b.py) else none
theorem and4 {a b c d : Bool} (h : (a && b && c && d) = true) : a = true ∧ b = true ∧ c = true ∧ d = true := by
  cases a <;> cases b <;> cases c <;> cases d <;> simp_all
theorem cd_eq (hu : Rm X) : CmpD X .Eq eqD := by
  intro pins s σ H x y v u Q I rx ry h
  obtain ⟨F, a, b, c, sub, pa, pb, e, q⟩ := h
  unfold eqD at e
  split at e
  · rename_i x' y' h1 h2
    split at e
    · rename_i hs
      cases e
      cases pa.sc h1
      cases pb.sc h2
      exact op_eq pins s σ H _ _ v u Q I rx ry ⟨hs, q⟩
    · cases e
  · split at e
    · rename_i hs
      obtain ⟨h1, h2, h3, h4⟩ := and4 hs
      cases e
      exact op_eqD (by omega) pins s σ H _ _ v u Q I rx ry ⟨_, _, pa.dp sub h1, pb.dp sub h2, h3, h4, q⟩
    · cases e
theorem cd_ne (hu : Rm X) : CmpD X .NotEq (notG eqD) := by
  intro pins s σ H x y v u Q I rx ry h
  obtain ⟨F, a, b, c, sub, pa, pb, e, q⟩ := h
  have e2 := notG_eq e
  clear e
  have e := e2
  clear e2
  unfold eqD at e
  split at e
  · rename_i x' y' h1 h2
    split at e
    · rename_i hs
      cases pa.sc h1
      cases pb.sc h2
      refine op_ne pins s σ H _ _ v u Q I rx ry ⟨hs, ?_⟩
      rw [Option.some.inj e, Bool.not_not]
      exact q
    · cases e
  · split at e
    · rename_i hs
      obtain ⟨h1, h2, h3, h4⟩ := and4 hs
      refine op_neD (by omega) pins s σ H _ _ v u Q I rx ry ⟨_, _, pa.dp sub h1, pb.dp sub h2, h3, h4, ?_⟩
      rw [Option.some.inj e, Bool.not_not]
      exact q
    · cases e
def ltD : D → D → Option Bool
  | .int i, .int j => some (decide (i < j))
  | _, _ => none
def leD : D → D → Option Bool
  | .int i, .int j => some (decide (i ≤ j))
  | _, _ => none
def gtD : D → D → Option Bool
  | .int i, .int j => some (decide (j < i))
  | _, _ => none
def geD : D → D → Option Bool
  | .int i, .int j => some (decide (j ≤ i))
  | _, _ => none
theorem cd_lt : CmpD X .Lt ltD := by
  intro pins s σ H x y v u Q I rx ry ⟨F, a, b, c, sub, pa, pb, e, q⟩
  unfold ltD at e
  split at e
  · cases e; cases pa.int; cases pb.int; exact op_lt pins s σ H _ _ v u Q I rx ry ⟨_, _, rfl, rfl, q⟩
  · cases e
theorem cd_le : CmpD X .LtE leD := by
  intro pins s σ H x y v u Q I rx ry ⟨F, a, b, c, sub, pa, pb, e, q⟩
  unfold leD at e
  split at e
  · cases e; cases pa.int; cases pb.int; exact op_le pins s σ H _ _ v u Q I rx ry ⟨_, _, rfl, rfl, q⟩
  · cases e
theorem cd_gt : CmpD X .Gt gtD := by
  intro pins s σ H x y v u Q I rx ry ⟨F, a, b, c, sub, pa, pb, e, q⟩
  unfold gtD at e
  split at e
  · cases e; cases pa.int; cases pb.int; exact op_gt pins s σ H _ _ v u Q I rx ry ⟨_, _, rfl, rfl, q⟩
  · cases e
theorem cd_ge : CmpD X .GtE geD := by
  intro pins s σ H x y v u Q I rx ry ⟨F, a, b, c, sub, pa, pb, e, q⟩
  unfold geD at e
  split at e
  · cases e; cases pa.int; cases pb.int; exact op_ge pins s σ H _ _ v u Q I rx ry ⟨_, _, rfl, rfl, q⟩
  · cases e
def D.isN : D → Bool
  | .non => true
  | _ => false
def isD (a b : D) : Option Bool := if b.isN then some a.isN else none
theorem Pk.isN {T : Wd} {F H : Hp} {v : V} {d : D} (p : Pk T F H v d) : decide (v = .non) = d.isN := by
  cases d with
  | non => cases p.non; rfl
  | bl _ => cases p.bl; rfl
  | int _ => cases p.int; rfl
  | str _ => cases p.str; rfl
  | tup _ => obtain ⟨_, _, rfl, _⟩ := p.tup; rfl
  | lst _ =>
    rcases p with r | ⟨p, rfl, o⟩
    · cases r; rfl
    · rfl
  | dS _ =>
    rcases p with r | ⟨p, rfl, o⟩
    · cases r; rfl
    · rfl
  | dT _ =>
    rcases p with r | ⟨p, rfl, o⟩
    · cases r; rfl
    · rfl
  | opq _ =>
    rcases p with r | ⟨p, rfl, o⟩
    · cases r; rfl
    · rfl
theorem isN_non {d : D} (h : d.isN = true) : d = .non := by cases d <;> first | rfl | cases h
theorem cd_is : CmpD X .Is isD := by
  intro pins s σ H x y v u Q I rx ry ⟨F, a, b, c, sub, pa, pb, e, q⟩
  unfold isD at e
  split at e
  · rename_i hb
    cases isN_non hb
    cases pb.non
    cases e
    refine op_isN pins s σ H _ _ v u Q I rx ry ⟨rfl, ?_⟩
    rw [pa.isN]
    exact q
  · cases e
theorem cd_isnot : CmpD X .IsNot (notG isD) := by
  intro pins s σ H x y v u Q I rx ry ⟨F, a, b, c, sub, pa, pb, e, q⟩
  have e2 := notG_eq e
  clear e
  have e := e2
  clear e2
  unfold isD at e
  split at e
  · rename_i hb
    cases isN_non hb
    cases pb.non
    refine op_notN pins s σ H _ _ v u Q I rx ry ⟨rfl, ?_⟩
    rw [pa.isN, Option.some.inj e, Bool.not_not]
    exact q
  · cases e
def inSeq (a : D) (ds : List D) : Option Bool := match scV a, scL ds with
  | some v, some vs => some (inV v vs)
  | _, _ => none
def inD (a b : D) : Option Bool := match b with
  | .str z => (match a with
    | .str x => (match x.cps.toList with
      | [c] => some (decide (c ∈ z.cps.toList))
      | _ => none)
    | _ => none)
  | .dS es => (match a with
    | .str k => some (lookS es k).isSome
    | _ => none)
  | .dT es => if keyOk a then some (lookT es a).isSome else none
  | .tup ds => inSeq a ds
  | .lst ds => (match inSeq a ds with
    | some r => some r
    | none => if a.sq && sqL ds && SeqAt.shaped a.py && SeqAt.shaped (.list (pyL ds)) then some ((pyL ds).any fun z => PyData.eqv z a.py) else none)
  | _ => none
theorem one_sign {x : Str} {c : Nat} (h : x.cps.toList = [c]) : x = ⟨#[c]⟩ := by
  obtain ⟨l⟩ := x
  have : l = #[c] := by
    apply Array.ext'
    simpa using h
  rw [this]
theorem rep_ref {T : Wd} {F H : Hp} {v : V} {q : D} (p : Pk T F H v q) (h : keyOk q = true) : ∃ b, v = .ref b ∧ Rep T F (.ref b) q := by
  obtain ⟨_, _, l, rfl⟩ := keyOk_of h
  obtain ⟨a, xs, rfl, h1, h2⟩ := p.tup
  exact ⟨a, rfl, .tup h1 h2⟩
theorem in_of (hu : Rm X) {op : CmpOp} {f : Bool → Bool} (neg : Bool) (hf : ∀ x, f x = (if neg then !x else x))
    (h1 : OpR X (compareOp op) (fun x y H Q => ∃ (c : Nat) (z : Str), x = .str ⟨#[c]⟩ ∧ y = .str z ∧ Q (.bl (f (decide (c ∈ z.cps.toList)))) H))
    (h2 : OpR X (compareOp op) (rInS (wd X) f)) (h3 : OpR X (compareOp op) (rInT (wd X) f)) (h4 : OpR X (compareOp op) (rIn X.K neg))
    (h5 : OpR X (compareOp op) (fun x y H Q => ∃ d ds, Dp X.K H x d ∧ Dp X.K H y (.list ds) ∧ SeqAt.shaped d = true ∧ SeqAt.shaped (.list ds) = true ∧ Q (.bl (f (ds.any fun z => PyData.eqv z d))) H)) :
    OpR X (compareOp op) fun x y H Q => ∃ F a b c, Ex F H ∧ Pk (wd X) F H x a ∧ Pk (wd X) F H y b ∧ inD a b = some c ∧ Q (.bl (f c)) H := by
  have seq : ∀ {pins : List (Addr × Obj)} {s : Shared} {σ : L2.St} {H : Hp} {x y : V} {v u : Value} {Q : VK} {F : Hp} {a : D} {ds : List D} {c : Bool} {p : Addr} {xs : List V}, L2.Inv X pins σ H s → L2.RelV x v → L2.RelV y u → y = .ref p → (SqL X.K H p xs ∨ SqT X.K H p xs) → RepL (wd X) F xs ds →
      Pk (wd X) F H x a → inSeq a ds = some c → Q (.bl (f c)) H → wpAny (model X.prog X.w) X.A (compareOp op v u) (EP X pins σ Q) X.xe s := by
    intro pins s σ H x y v u Q F a ds c p xs I rx ry ey hs r pa e q
    subst ey
    unfold inSeq at e
    split at e
    · rename_i z zs e1 e2
      cases e
      cases pa.sc e1
      cases scL_rep e2 r
      refine h4 pins s σ H _ _ v u Q I rx ry ⟨p, xs, rfl, hs, scV_flat e1, scL_flat e2, ?_⟩
      rw [hf] at q
      cases neg <;> simpa using q
    · cases e
  intro pins s σ H x y v u Q I rx ry ⟨F, a, b, c, sub, pa, pb, e, q⟩
  unfold inD at e
  split at e
  · split at e
    · split at e
      · rename_i hx
        cases e
        cases pa.str
        cases pb.str
        rw [one_sign hx] at rx
        exact h1 pins s σ H _ _ v u Q I rx ry ⟨_, _, rfl, rfl, q⟩
      · cases e
    · cases e
  · split at e
    · cases e
      cases pa.str
      obtain ⟨p, kvs, rfl, hk, r⟩ := pb.dS sub
      exact h2 pins s σ H _ _ v u Q I rx ry ⟨F, p, kvs, _, _, sub, rfl, rfl, hk, r, q⟩
    · cases e
  · split at e
    · rename_i hk
      cases e
      obtain ⟨b', rfl, rb⟩ := rep_ref pa hk
      obtain ⟨p, ob, xs, rfl, hp, o, r⟩ := pb.dT sub
      exact h3 pins s σ H _ _ v u Q I rx ry ⟨F, b', p, ob, xs, _, _, sub, rfl, rfl, rb, hk, hp, o, r, q⟩
    · cases e
  · obtain ⟨p, xs, rfl, hp, r⟩ := pb.tup
    exact seq I rx ry rfl (.inr ((RdLe.ex sub).t hp)) r pa e q
  · obtain ⟨p, xs, rfl, hp, r⟩ := pb.lst sub
    split at e
    · rename_i r' hr
      cases e
      exact seq I rx ry rfl (.inl (.of hp)) r pa hr q
    · split at e
      · rename_i hs
        obtain ⟨g1, g2, g3, g4⟩ := and4 hs
        cases e
        exact h5 pins s σ H _ _ v u Q I rx ry ⟨_, _, pa.dp sub g1, .lst (.of hp) (RepL.dp sub r g2), g3, g4, q⟩
      · cases e
  · cases e
theorem cd_in (hu : Rm X) : CmpD X .In inD :=
  in_of hu (f := id) false (fun _ => rfl) op_in_sign (op_inS (by omega)) (op_inT (by omega)) op_in_seq (op_inD (by omega))
theorem cd_notIn (hu : Rm X) : CmpD X .NotIn (notG inD) := by
  intro pins s σ H x y v u Q I rx ry ⟨F, a, b, c, sub, pa, pb, e, q⟩
  have e2 := notG_eq e
  refine in_of (X := X) hu (op := .NotIn) (f := not) true (fun _ => rfl) op_notIn_sign (op_notInS (by omega)) (op_notInT (by omega)) op_notIn_seq (op_notInD (by omega)) pins s σ H x y v u Q I rx ry ⟨F, a, b, _, sub, pa, pb, e2, ?_⟩
  rw [Bool.not_not]
  exact q
end
end NW

/-! Tests, choices, subscripts, slices, built-in calls. -/
namespace NW
open PySem PySem.Spec PyProof.Rows L2 Evl
section
variable {X : Cx} {e a b c : Expr} {es rest : List Expr} {pos : Pos}

/-! ### tests -/
def dCmp (g : D → D → Option Bool) (da db : DV) : DB := fun ρ => (da ρ).bind fun x => (db ρ).bind fun y => g x y
def dBv (d : DB) : DV := fun ρ => (d ρ).map .bl
def dTest (d : DV) : DB := fun ρ => match d ρ with
  | some (.bl c) => some c
  | _ => none
theorem dBv_eq {d : DB} {ρ : Ro} {z : D} (h : dBv d ρ = some z) : ∃ c, d ρ = some c ∧ z = .bl c := by
  unfold dBv at h
  cases q : d ρ with
  | none => rw [q] at h; cases h
  | some c => rw [q] at h; cases h; exact ⟨c, rfl, rfl⟩
theorem dTest_eq {d : DV} {ρ : Ro} {c : Bool} (h : dTest d ρ = some c) : d ρ = some (.bl c) := by
  unfold dTest at h
  split at h
  · rename_i q; cases h; exact q
  · cases h
theorem st_cmp {op : CmpOp} {g : D → D → Option Bool} {da db : DV} (hc : CmpD X op g) (ha : SO X a da) (hb : SO X b db) (hm : behindInMarks op b = false := by first | exact nobehind _ (by decide) (by decide) | rfl) : ST X (.Compare a [op] [b] pos) (dCmp g da db) :=
  pt_imp (pt_cmpR hc ha hb hm) fun σ H Q ⟨ρ, F, c, A, q, k⟩ => by
    obtain ⟨x, y, q1, q2, q⟩ := bind2 q
    exact two A q1 q2 fun v u F1 H1 s1 p1 p2 => ⟨F1, x, y, c, s1.sub, p1, p2, q, c, rfl, k F1 H1 s1⟩
theorem sv_cmp {op : CmpOp} {g : D → D → Option Bool} {da db : DV} (hc : CmpD X op g) (ha : SO X a da) (hb : SO X b db) (hm : behindInMarks op b = false := by first | exact nobehind _ (by decide) (by decide) | rfl) : SV X (.Compare a [op] [b] pos) (dBv (dCmp g da db)) :=
  pe_imp (pe_cmpR hc ha hb hm) fun σ H Q ⟨ρ, F, d, A, q, k⟩ => by
    obtain ⟨c, q', rfl⟩ := dBv_eq q
    obtain ⟨x, y, q1, q2, q⟩ := bind2 q'
    exact two A q1 q2 fun v u F1 H1 s1 p1 p2 => ⟨F1, x, y, c, s1.sub, p1, p2, q, k _ F1 H1 s1 (.bl c)⟩
def dChain (g g' : D → D → Option Bool) (da db dc : DV) : DB := fun ρ => (da ρ).bind fun x => (db ρ).bind fun y => (g x y).bind fun c => if c = true then (dc ρ).bind fun z => g' y z else some false
theorem chain_go {T : Wd} {g g' : D → D → Option Bool} {da db dc : DV} {σ : L2.St} {H : Hp} {ρ : Ro} {F : Hp} {r : Bool} {R R' : R2} {Q : VK} (A : At T ρ σ F H) (e : dChain g g' da db dc ρ = some r)
    (hR : R = fun x y H Q => ∃ F a b c, Ex F H ∧ Pk T F H x a ∧ Pk T F H y b ∧ g a b = some c ∧ Q (.bl c) H) (hR' : R' = fun x y H Q => ∃ F a b c, Ex F H ∧ Pk T F H x a ∧ Pk T F H y b ∧ g' a b = some c ∧ Q (.bl c) H)
    (k : ∀ F' H', EStp F H F' H' → Q (.bl r) H') : tChain R R' (rO T da) (rO T db) (rO T dc) σ H Q := by
  subst hR hR'
  obtain ⟨x, y, q1, q2, q⟩ := bind2 e
  obtain ⟨c, q3, q⟩ := bind1 q
  refine two A q1 q2 fun v u F1 H1 s1 p1 p2 => ⟨F1, x, y, c, s1.sub, p1, p2, q3, c, rfl, ?_⟩
  cases c with
  | true =>
    rw [if_pos rfl] at q ⊢
    obtain ⟨z, q4, q⟩ := bind1 q
    exact ⟨ρ, F1, z, A.step s1, q4, fun w F2 H2 s2 p3 => ⟨F2, y, z, r, s2.sub, p2.ex s2.ex (s2.le s1.sub), p3, q, k F2 H2 (s1.trans s2)⟩⟩
  | false =>
    rw [if_neg (by decide)] at q ⊢
    cases q
    exact k F1 H1 s1
theorem st_chain {op op' : CmpOp} {g g' : D → D → Option Bool} {da db dc : DV} (hg : CmpD X op g) (hg' : CmpD X op' g') (ha : SO X a da) (hb : SO X b db) (hc : SO X c dc) (hm : lastMarks [op, op'] [b, c] = false := by with_unfolding_all rfl) : ST X (.Compare a [op, op'] [b, c] pos) (dChain g g' da db dc) :=
  pt_imp (pt_chain hg hg' ha hb hc hm) fun σ H Q ⟨ρ, F, r, A, q, k⟩ => chain_go A q rfl rfl fun F' H' st => ⟨r, rfl, k F' H' st⟩
theorem sv_chain {op op' : CmpOp} {g g' : D → D → Option Bool} {da db dc : DV} (hg : CmpD X op g) (hg' : CmpD X op' g') (ha : SO X a da) (hb : SO X b db) (hc : SO X c dc) (hm : lastMarks [op, op'] [b, c] = false := by with_unfolding_all rfl) : SV X (.Compare a [op, op'] [b, c] pos) (dBv (dChain g g' da db dc)) :=
  pe_imp (pe_chain hg hg' ha hb hc hm) fun σ H Q ⟨ρ, F, d, A, q, k⟩ => by
    obtain ⟨r, q', rfl⟩ := dBv_eq q
    exact chain_go A q' rfl rfl fun F' H' st => k _ F' H' st (.bl r)
/-- a bool as a test -/
theorem st_val {d : DV} (h : SV X e d) (he : ∀ whole, isTrue e X.env whole = (do let v ← whole; standAt e.pos; holding [v] (truthy v)) := by intro _; rfl) : ST X e (dTest d) :=
  pt_imp (pt_val h he) fun σ H Q ⟨ρ, F, c, A, q, k⟩ => ⟨ρ, F, _, A, dTest_eq q, fun v F' H' st r => by
    cases r
    exact ⟨c, rfl, k F' H' st⟩⟩
def dAnd (d d' : DB) : DB := fun ρ => (d ρ).bind fun c => if c = true then d' ρ else some false
def dOr (d d' : DB) : DB := fun ρ => (d ρ).bind fun c => if c = true then some true else d' ρ
def dNot (d : DB) : DB := fun ρ => (d ρ).map (!·)
theorem dNot_eq {d : DB} {ρ : Ro} {c : Bool} (h : dNot d ρ = some c) : d ρ = some (!c) := by
  unfold dNot at h
  cases q : d ρ with
  | none => rw [q] at h; cases h
  | some x => rw [q] at h; cases h; rw [Bool.not_not]
theorem sw_and1 {d : DB} (h : ST X a d) : SW X (.BoolOp .And [a] pos) d := pw_and1 h
theorem sw_or1 {d : DB} (h : ST X a d) : SW X (.BoolOp .Or [a] pos) d := pw_or1 h
theorem sw_and {d d' : DB} (h : ST X a d) (h' : SW X (.BoolOp .And (b :: rest) pos) d') : SW X (.BoolOp .And (a :: b :: rest) pos) (dAnd d d') :=
  pw_imp (pw_and h h') fun σ H Q ⟨ρ, F, r, A, q, k⟩ => by
    obtain ⟨c, q1, q⟩ := bind1 q
    refine ⟨ρ, F, c, A, q1, fun F1 H1 s1 => ?_⟩
    cases c with
    | true => exact ⟨ρ, F1, r, A.step s1, q, fun F2 H2 s2 => k F2 H2 (s1.trans s2)⟩
    | false => cases q; exact k F1 H1 s1
theorem sw_or {d d' : DB} (h : ST X a d) (h' : SW X (.BoolOp .Or (b :: rest) pos) d') : SW X (.BoolOp .Or (a :: b :: rest) pos) (dOr d d') :=
  pw_imp (pw_or h h') fun σ H Q ⟨ρ, F, r, A, q, k⟩ => by
    obtain ⟨c, q1, q⟩ := bind1 q
    refine ⟨ρ, F, c, A, q1, fun F1 H1 s1 => ?_⟩
    cases c with
    | true => cases q; exact k F1 H1 s1
    | false => exact ⟨ρ, F1, r, A.step s1, q, fun F2 H2 s2 => k F2 H2 (s1.trans s2)⟩
theorem st_not {d : DB} (h : ST X a d) : ST X (.UnaryOp .Not a pos) (dNot d) := pt_imp (pt_not h) fun σ H Q ⟨ρ, F, r, A, q, k⟩ => ⟨ρ, F, _, A, dNot_eq q, fun F1 H1 s1 => by
  show Q (!!r) H1
  rw [Bool.not_not]
  exact k F1 H1 s1⟩
def dAndV (d d' : DV) : DV := fun ρ => (dTest d ρ).bind fun c => if c = true then d' ρ else some (.bl false)
def dOrV (d d' : DV) : DV := fun ρ => (dTest d ρ).bind fun c => if c = true then some (.bl true) else d' ρ
theorem sv_one {op : BoolOp} {d : DV} (h : SV X a d) : SV X (.BoolOp op [a] pos) d := pe_one h
theorem sv_and {d d' : DV} (h : SV X a d) (h' : SV X (.BoolOp .And (b :: rest) pos) d') : SV X (.BoolOp .And (a :: b :: rest) pos) (dAndV d d') :=
  pe_imp (pe_and h h') fun σ H Q ⟨ρ, F, r, A, q, k⟩ => by
    obtain ⟨c, q1, q⟩ := bind1 q
    refine ⟨ρ, F, _, A, dTest_eq q1, fun v F1 H1 s1 r1 => ?_⟩
    cases r1
    refine ⟨c, rfl, ?_⟩
    cases c with
    | true => exact ⟨ρ, F1, r, A.step s1, q, fun v F2 H2 s2 r2 => k v F2 H2 (s1.trans s2) r2⟩
    | false => cases q; exact k _ F1 H1 s1 (.bl false)
theorem sv_or {d d' : DV} (h : SV X a d) (h' : SV X (.BoolOp .Or (b :: rest) pos) d') : SV X (.BoolOp .Or (a :: b :: rest) pos) (dOrV d d') :=
  pe_imp (pe_or h h') fun σ H Q ⟨ρ, F, r, A, q, k⟩ => by
    obtain ⟨c, q1, q⟩ := bind1 q
    refine ⟨ρ, F, _, A, dTest_eq q1, fun v F1 H1 s1 r1 => ?_⟩
    cases r1
    refine ⟨c, rfl, ?_⟩
    cases c with
    | true => cases q; exact k _ F1 H1 s1 (.bl true)
    | false => exact ⟨ρ, F1, r, A.step s1, q, fun v F2 H2 s2 r2 => k v F2 H2 (s1.trans s2) r2⟩
theorem sv_not {d : DV} (h : SV X a d) : SV X (.UnaryOp .Not a pos) (dBv (dNot (dTest d))) :=
  pe_imp (pe_not h) fun σ H Q ⟨ρ, F, r, A, q, k⟩ => by
    obtain ⟨c, q', rfl⟩ := dBv_eq q
    refine ⟨ρ, F, _, A, dTest_eq (dNot_eq q'), fun v F1 H1 s1 r1 => ?_⟩
    cases r1
    refine ⟨_, rfl, ?_⟩
    rw [Bool.not_not]
    exact k _ F1 H1 s1 (.bl c)
/-- one of two -/
def dIf {α : Type} (c : DB) (d d' : Ro → Option α) : Ro → Option α := fun ρ => (c ρ).bind fun b => if b = true then d ρ else d' ρ
theorem sv_if {d : DB} {da db : DV} (hc : ST X c d) (ha : SV X a da) (hb : SV X b db) : SV X (.IfExp c a b pos) (dIf d da db) :=
  pe_imp (pe_ifExp hc ha hb) fun σ H Q ⟨ρ, F, r, A, q, k⟩ => by
    obtain ⟨c, q1, q⟩ := bind1 q
    refine ⟨ρ, F, c, A, q1, fun F1 H1 s1 => ?_⟩
    cases c with
    | true => exact ⟨ρ, F1, r, A.step s1, q, fun v F2 H2 s2 r2 => k v F2 H2 (s1.trans s2) r2⟩
    | false => exact ⟨ρ, F1, r, A.step s1, q, fun v F2 H2 s2 r2 => k v F2 H2 (s1.trans s2) r2⟩

/-! ### subscripts -/
def ixD (a b : D) : Option D := match a, b with
  | .lst l, .int i => atI l i
  | .tup l, .int i => atI l i
  | .str z, .int i => if ok z.length then (atI z.cps.toList i).map fun c => .str ⟨#[c]⟩ else none
  | .dS es, .str k => lookS es k
  | .dT es, q => if keyOk q then lookT es q else none
  | _, _ => none
theorem RepL.at {T : Wd} {F : Hp} {vs : List V} {ds : List D} (r : RepL T F vs ds) {i : Int} {d : D} (h : atI ds i = some d) : ∃ v, atI vs i = some v ∧ Rep T F v d := by
  unfold atI at h ⊢
  obtain ⟨j, h1, h2⟩ := bind1 h
  obtain ⟨v, h3, h4⟩ := r.get h2
  refine ⟨v, ?_, h4⟩
  rw [r.len, h1]
  exact h3
def rIxA (T : Wd) : R2 := fun x y H Q => ∃ F a b d, Ex F H ∧ Pk T F H x a ∧ Pk T F H y b ∧ ixD a b = some d ∧ ∀ v, Rep T F v d → Q v H
theorem ix_all (hu : Rm X) : IxR X (rIxA (wd X)) := by
  intro value slice pins s σ H x y v u Q I rx ry ⟨F, a, b, d, sub, pa, pb, e, k⟩ hs
  unfold ixD at e
  split at e
  · cases pb.int
    obtain ⟨p, xs, rfl, hp, r⟩ := pa.lst sub
    obtain ⟨z, h1, h2⟩ := r.at e
    exact ix_seq value slice pins s σ H _ _ v u Q I rx ry (.inl ⟨p, xs, _, z, rfl, rfl, .of hp, h1, k z h2⟩) hs
  · cases pb.int
    obtain ⟨p, xs, rfl, hp, r⟩ := pa.tup
    obtain ⟨z, h1, h2⟩ := r.at e
    exact ix_seq value slice pins s σ H _ _ v u Q I rx ry (.inr (.inl ⟨p, xs, _, z, rfl, rfl, (RdLe.ex sub).t hp, h1, k z h2⟩)) hs
  · split at e
    · rename_i hz
      cases pa.str
      cases pb.int
      cases h1 : atI _ _ with
      | none => rw [h1] at e; cases e
      | some c =>
        rw [h1] at e
        cases e
        exact ix_seq value slice pins s σ H _ _ v u Q I rx ry (.inr (.inr ⟨_, _, c, rfl, rfl, ok_sz hz, h1, k _ (.str _)⟩)) hs
    · cases e
  · cases pb.str
    obtain ⟨p, kvs, rfl, hp, r⟩ := pa.dS sub
    exact ix_dS (by omega) value slice pins s σ H _ _ v u Q I rx ry ⟨F, p, kvs, _, _, d, sub, rfl, rfl, hp, r, e, k⟩ hs
  · split at e
    · rename_i hk
      obtain ⟨b', rfl, rb⟩ := rep_ref pb hk
      obtain ⟨p, ob, xs, rfl, hp, o, r⟩ := pa.dT sub
      exact ix_dT (by omega) value slice pins s σ H _ _ v u Q I rx ry ⟨F, b', p, ob, xs, _, _, d, sub, rfl, rfl, rb, hk, hp, o, r, e, k⟩ hs
    · cases e
  · cases e
theorem sv_ix {da db : DV} (hu : Rm X) (ha : SO X a da) (hb : SO X b db) (hs : PlainIx b := by intro _ _; rfl) : SV X (.Subscript a b pos) (dOp ixD da db) :=
  pe_imp (pe_ix (ix_all hu) ha hb hs) fun σ H Q ⟨ρ, F, d, A, q, k⟩ => by
    obtain ⟨x, y, q1, q2, q⟩ := bind2 q
    exact two A q1 q2 fun v u F1 H1 s1 p1 p2 => ⟨F1, x, y, d, s1.sub, p1, p2, q, fun v r => k v F1 H1 s1 r⟩
/-- a dict of the module's -/
def dKix (es : List (Str × D)) (d : DV) : DV := fun ρ => match d ρ with
  | some (.str k) => lookS es k
  | _ => none
theorem sv_kix {x : Str} {p : Addr} {es : List (Str × D)} {db : DV} {px : Pos} (hg : Gl X x) (hm : X.mg x = some (.ref p)) (h : ∀ k d, lookS es k = some d → ∃ v, KDct X.K X.w p k v ∧ ∀ F, Rep (wd X) F v d) (hb : SV X b db) (hs : PlainIx b := by intro _ _; rfl)
    (hd : (x == ("__debug__" : Str)) = false := by decide) : SV X (.Subscript (.Name x px) b pos) (dKix es db) :=
  pe_imp (pe_ix ix_kdict (pe_glob (v := .ref p) hg hm rfl hd) hb hs) fun σ H Q ⟨ρ, F, d, A, q, k⟩ => by
    unfold dKix at q
    split at q
    · rename_i z hz
      obtain ⟨v, h1, h2⟩ := h _ _ q
      exact ⟨ρ, F, _, A, hz, fun u F1 H1 s1 r => by
        cases r
        exact ⟨p, _, v, rfl, rfl, h1, k v F1 H1 s1 (h2 F1)⟩⟩
    · cases q

/-! ### slices -/
def cutD (xs : List D) (lo hi : Option Int) : List D := (xs.drop (HT.sIx xs.length 0 lo)).take (HT.sIx xs.length xs.length hi - HT.sIx xs.length 0 lo)
theorem cutD_len (xs : List D) (lo hi : Option Int) : (cutD xs lo hi).length ≤ xs.length := by
  unfold cutD
  rw [List.length_take, List.length_drop]
  omega
theorem RepL.cut {T : Wd} {F : Hp} {vs : List V} {ds : List D} (r : RepL T F vs ds) (lo hi : Option Int) : RepL T F (cutV vs lo hi) (cutD ds lo hi) := by
  unfold cutV cutD
  rw [r.len]
  exact (r.drop _).take _
abbrev DI := Ro → Option (Option Int)
def rI' (T : Wd) (di : DI) : TO := fun σ H Q => ∃ ρ F i, At T ρ σ F H ∧ di ρ = some i ∧ ∀ F' H', EStp F H F' H' → Q i H'
abbrev SI (X : Cx) (e : Option Expr) (di : DI) : Prop := PO X e (rI' (wd X) di)
def dI0 : DI := fun _ => some none
def dI1 (d : DV) : DI := fun ρ => match d ρ with
  | some (.int i) => some (some i)
  | _ => none
theorem po_imp {oe : Option Expr} {t t' : TO} (h : PO X oe t) (f : ∀ σ H Q, t' σ H Q → t σ H Q) : PO X oe t' := ⟨fun pins s σ H Q I q => h.run pins s σ H Q I (f σ H Q q)⟩
theorem si_none : SI X none dI0 := po_imp po_none fun σ H Q ⟨ρ, F, i, A, q, k⟩ => by
  cases q
  exact k F H (.refl A.sub)
theorem si_some {d : DV} (h : SV X e d) : SI X (some e) (dI1 d) := po_imp (po_some h) fun σ H Q ⟨ρ, F, i, A, q, k⟩ => by
  unfold dI1 at q
  split at q
  · rename_i z hz
    cases q
    exact ⟨ρ, F, _, A, hz, fun v F1 H1 s1 r => by
      cases r
      exact ⟨_, rfl, k F1 H1 s1⟩⟩
  · cases q
def dSl (d : DV) (lo hi : DI) : DV := fun ρ => (d ρ).bind fun x => (lo ρ).bind fun l => (hi ρ).bind fun h => match x with
  | .tup ds => some (.tup (cutD ds l h))
  | _ => none
def dSlL (d : DV) (lo hi : DI) : DE := fun ρ => (d ρ).bind fun x => (lo ρ).bind fun l => (hi ρ).bind fun h => match x with
  | .lst ds => some (.lst (cutD ds l h), true)
  | _ => none
theorem sl_go {T : Wd} {d : DV} {lo hi : DI} {σ : L2.St} {H : Hp} {ρ : Ro} {F : Hp} {x : D} {l h : Option Int} {R : V → Option Int → Option Int → Hp → VK → Prop} {Q : VK} (A : At T ρ σ F H) (q1 : d ρ = some x) (q2 : lo ρ = some l) (q3 : hi ρ = some h)
    (k : ∀ v F' H', EStp F H F' H' → Pk T F' H' v x → R v l h H' Q) : tSl R (rO T d) (rI' T lo) (rI' T hi) σ H Q :=
  ⟨ρ, F, x, A, q1, fun v F1 H1 s1 p1 => ⟨ρ, F1, l, A.step s1, q2, fun F2 H2 s2 => ⟨ρ, F2, h, A.step (s1.trans s2), q3, fun F3 H3 s3 =>
    k v F3 H3 ((s1.trans s2).trans s3) ((p1.ex s2.ex (s2.le s1.sub)).ex s3.ex (s3.le s2.sub))⟩⟩⟩
theorem whole_cut {ds : List D} {lo hi : Option Int} (h : HT.sIx ds.length 0 lo = 0 ∧ HT.sIx ds.length ds.length hi = ds.length) : cutD ds lo hi = ds := by
  unfold cutD
  rw [h.1, h.2]
  simp
theorem sv_sl {d : DV} {lo hi : DI} {l h : Option Expr} {p2 : Pos} (he : SO X e d) (hl : SI X l lo) (hh : SI X h hi) : SV X (.Subscript e (.Slice l h none p2) pos) (dSl d lo hi) :=
  pe_imp (pe_slice sl_tupA he hl hh) fun σ H Q ⟨ρ, F, z, A, q, k⟩ => by
    obtain ⟨x, l, h, q1, q2, q3, q⟩ := bind3 q
    split at q
    · rename_i ds
      cases q
      refine sl_go A q1 q2 q3 fun v F1 H1 s1 p1 => ?_
      obtain ⟨p, xs, rfl, hp, r⟩ := p1.tup
      refine ⟨p, xs, rfl, (RdLe.ex s1.sub).t hp, fun hw => ?_, fun hw p' hp' => ?_⟩
      · rw [r.len] at hw
        rw [whole_cut hw] at k
        exact k _ F1 H1 s1 (.tup hp r)
      · obtain ⟨s2, r2⟩ := tup_new s1.sub hp' (r.cut l h)
        exact k _ _ _ (s1.trans s2) r2
    · cases q
theorem se_sl {d : DV} {lo hi : DI} {l h : Option Expr} {p2 : Pos} (he : SO X e d) (hl : SI X l lo) (hh : SI X h hi) : SE X (.Subscript e (.Slice l h none p2) pos) (dSlL d lo hi) :=
  pe_imp (pe_slice sl_list he hl hh) fun σ H Q ⟨ρ, F, z, b, A, q, k⟩ => by
    obtain ⟨x, l, h, q1, q2, q3, q⟩ := bind3 q
    split at q
    · rename_i ds
      cases q
      refine sl_go A q1 q2 q3 fun v F1 H1 s1 p1 => ?_
      obtain ⟨p, xs, rfl, hp, r⟩ := p1.lst s1.sub
      refine ⟨p, xs, rfl, .of hp, fun p' hp' => ?_⟩
      obtain ⟨s2, r2⟩ := lst_new s1 hp' (r.cut l h)
      exact k _ _ _ s2 r2
    · cases q
end
end NW

/-! Built-in calls. -/
namespace NW
open PySem PySem.Spec PyProof.Rows L2 Evl
section
variable {X : Cx} {e a b c : Expr} {es rest : List Expr} {pos p p2 : Pos}
abbrev Arg1 (X : Cx) (e : Expr) : Prop := starEach [e] X.env = [(false, eval e X.env)]
abbrev Arg2 (X : Cx) (e f : Expr) : Prop := starEach [e, f] X.env = [(false, eval e X.env), (false, eval f X.env)]
theorem bl_one {id : String} {x : Str} {r : List V → Hp → VK → Prop} {te : TE} (hc : CallR X (.builtin id) r) (hg : Gl X x) (hm : X.mg x = none) (hv : bootBuiltins x = some (.builtin id)) (he : PE X e te) (h1 : Arg1 X e)
    (hn : x ≠ "__name__") (hdb : (x == ("__debug__" : Str)) = false) : PE X (.Call (.Name x p) [e] [] pos) (tCB r (tCons te tNil)) := pe_callB hc hg hm hv (pa_cons he pa_nil h1) hn hdb h1 rfl
theorem ty_one {id : String} {x : Str} {r : List V → Hp → VK → Prop} {te : TE} (hc : CallR X (.type id) r) (hg : Gl X x) (hm : X.mg x = none) (hv : bootBuiltins x = some (.type id)) (he : PE X e te) (h1 : Arg1 X e)
    (hn : x ≠ "__name__") (hdb : (x == ("__debug__" : Str)) = false) : PE X (.Call (.Name x p) [e] [] pos) (tCB r (tCons te tNil)) := pe_callTy hc hg hm hv (pa_cons he pa_nil h1) hn hdb h1 rfl
theorem bl_two {id : String} {x : Str} {r : List V → Hp → VK → Prop} {te tf : TE} (hc : CallR X (.builtin id) r) (hg : Gl X x) (hm : X.mg x = none) (hv : bootBuiltins x = some (.builtin id)) (ha : PE X a te) (hb : PE X b tf) (h1 : Arg2 X a b) (h2 : Arg1 X b) (hpl : (backTo pos (starEach [b] X.env)).any (·.1) = false)
    (hn : x ≠ "__name__") (hdb : (x == ("__debug__" : Str)) = false) : PE X (.Call (.Name x p) [a, b] [] pos) (tCB r (tCons te (tCons tf tNil))) :=
  pe_callB hc hg hm hv (pa_cons ha (pa_cons hb pa_nil h2) (h1.trans (by rw [h2]))) hn hdb (h1.trans (by rw [h2])) hpl
theorem o_one {T : Wd} {d : DV} {σ : L2.St} {H : Hp} {ρ : Ro} {F : Hp} {x : D} {r : List V → Hp → VK → Prop} {Q : VK} (A : At T ρ σ F H) (q : d ρ = some x) (k : ∀ v F' H', EStp F H F' H' → Pk T F' H' v x → r [v] H' Q) : tCB r (tCons (rO T d) tNil) σ H Q :=
  ⟨ρ, F, x, A, q, fun v F1 H1 s1 p1 => k v F1 H1 s1 p1⟩
def dF1 {α : Type} (g : D → Option α) (d : DV) : Ro → Option α := fun ρ => (d ρ).bind g
def lenD : D → Option D
  | .lst l => some (.int l.length)
  | .tup l => some (.int l.length)
  | .str z => if ok z.length then some (.int z.length) else none
  | _ => none
theorem sv_len {d : DV} (hg : Gl X "len") (hm : X.mg "len" = none) (h : SO X e d) (h1 : Arg1 X e := by rfl) : SV X (.Call (.Name "len" p) [e] [] pos) (dF1 lenD d) :=
  pe_imp (bl_one (call_len_seq.or call_len_str) hg hm boot_len h h1 (by decide) (by decide)) fun σ H Q ⟨ρ, F, z, A, q, k⟩ => by
    obtain ⟨x, q1, q⟩ := bind1 q
    refine o_one A q1 fun v F1 H1 s1 p1 => ?_
    unfold lenD at q
    split at q
    · cases q
      obtain ⟨a, xs, rfl, hp, r⟩ := p1.lst s1.sub
      refine .inl ⟨a, xs, rfl, .inl (.of hp), ?_⟩
      rw [r.len]
      exact k _ F1 H1 s1 (.int _)
    · cases q
      obtain ⟨a, xs, rfl, hp, r⟩ := p1.tup
      refine .inl ⟨a, xs, rfl, .inr ((RdLe.ex s1.sub).t hp), ?_⟩
      rw [r.len]
      exact k _ F1 H1 s1 (.int _)
    · split at q
      · rename_i hz
        cases q
        cases p1.str
        exact .inr ⟨_, rfl, ok_sz hz, k _ F1 H1 s1 (.int _)⟩
      · cases q
    · cases q
def intD : D → Option D
  | .int i => some (.int i)
  | .bl b => some (.int (if b = true then 1 else 0))
  | _ => none
theorem sv_intc {d : DV} (hg : Gl X "int") (hm : X.mg "int" = none) (h : SO X e d) (h1 : Arg1 X e := by rfl) : SV X (.Call (.Name "int" p) [e] [] pos) (dF1 intD d) :=
  pe_imp (ty_one call_int1 hg hm rfl h h1 (by decide) (by decide)) fun σ H Q ⟨ρ, F, z, A, q, k⟩ => by
    obtain ⟨x, q1, q⟩ := bind1 q
    refine o_one A q1 fun v F1 H1 s1 p1 => ?_
    unfold intD at q
    split at q
    · cases q
      cases p1.int
      exact .inl ⟨_, rfl, k _ F1 H1 s1 (.int _)⟩
    · cases q
      cases p1.bl
      exact .inr ⟨_, rfl, k _ F1 H1 s1 (.int _)⟩
    · cases q
def absD : D → Option D
  | .int i => some (.int (if i < 0 then -i else i))
  | _ => none
theorem sv_abs {d : DV} (hg : Gl X "abs") (hm : X.mg "abs" = none) (h : SO X e d) (h1 : Arg1 X e := by rfl) : SV X (.Call (.Name "abs" p) [e] [] pos) (dF1 absD d) :=
  pe_imp (bl_one call_abs hg hm rfl h h1 (by decide) (by decide)) fun σ H Q ⟨ρ, F, z, A, q, k⟩ => by
    obtain ⟨x, q1, q⟩ := bind1 q
    refine o_one A q1 fun v F1 H1 s1 p1 => ?_
    unfold absD at q
    split at q
    · cases q
      cases p1.int
      exact ⟨_, rfl, k _ F1 H1 s1 (.int _)⟩
    · cases q
/-- tuple(list) -/
def tupleD : D → Option D
  | .lst l => some (.tup l)
  | _ => none
theorem sv_tuple {d : DV} (hg : Gl X "tuple") (hm : X.mg "tuple" = none) (h : SO X e d) (h1 : Arg1 X e := by rfl) : SV X (.Call (.Name "tuple" p) [e] [] pos) (dF1 tupleD d) :=
  pe_imp (ty_one call_tuple_of hg hm rfl h h1 (by decide) (by decide)) fun σ H Q ⟨ρ, F, z, A, q, k⟩ => by
    obtain ⟨x, q1, q⟩ := bind1 q
    refine o_one A q1 fun v F1 H1 s1 p1 => ?_
    unfold tupleD at q
    split at q
    · cases q
      obtain ⟨a, xs, rfl, hp, r⟩ := p1.lst s1.sub
      refine ⟨a, xs, rfl, .inl ⟨.of hp, fun l hl => ?_⟩⟩
      obtain ⟨s2, r2⟩ := tup_new s1.sub hl r
      exact k _ _ _ (s1.trans s2) r2
    · cases q
/-- dict(d), texts as keys -/
def dictD : D → Option (D × Bool)
  | .dS es => some (.dS es, true)
  | _ => none
theorem se_dict {d : DV} (hg : Gl X "dict") (hm : X.mg "dict" = none) (h : SO X e d) (h1 : Arg1 X e := by rfl) : SE X (.Call (.Name "dict" p) [e] [] pos) (dF1 dictD d) :=
  pe_imp (ty_one call_dictD hg hm rfl h h1 (by decide) (by decide)) fun σ H Q ⟨ρ, F, z, b, A, q, k⟩ => by
    obtain ⟨x, q1, q⟩ := bind1 q
    refine o_one A q1 fun v F1 H1 s1 p1 => ?_
    unfold dictD at q
    split at q
    · cases q
      obtain ⟨a, kvs, rfl, hp, r⟩ := p1.dS s1.sub
      exact ⟨a, kvs, rfl, hp, fun l hl => k _ F1 _ (s1.trans (.newH s1.sub hl _)) ⟨l, rfl, fresh_back s1.ex hl, Ex.none_sub s1.sub hl, kvs, upd_same, r⟩⟩
    · cases q
/-- all, max of a list -/
def blL : List D → Option (List Bool)
  | [] => some []
  | .bl b :: r => (blL r).map (b :: ·)
  | _ :: _ => none
def intL : List D → Option (List Int)
  | [] => some []
  | .int b :: r => (intL r).map (b :: ·)
  | _ :: _ => none
theorem blL_rep {T : Wd} {F : Hp} : ∀ {ds : List D} {bs : List Bool} {vs : List V}, blL ds = some bs → RepL T F vs ds → vs = bs.map V.bl
  | [], _, _, h, r => by cases h; cases r; rfl
  | .bl b :: ds, bs, vs, h, r => by
    have h' : (blL ds).map (b :: ·) = some bs := h
    cases q : blL ds with
    | none => rw [q] at h'; cases h'
    | some zs =>
      rw [q] at h'
      cases h'
      cases r with
      | cons r1 r2 => cases r1; rw [blL_rep q r2]; rfl
theorem intL_rep {T : Wd} {F : Hp} : ∀ {ds : List D} {bs : List Int} {vs : List V}, intL ds = some bs → RepL T F vs ds → vs = bs.map V.int
  | [], _, _, h, r => by cases h; cases r; rfl
  | .int b :: ds, bs, vs, h, r => by
    have h' : (intL ds).map (b :: ·) = some bs := h
    cases q : intL ds with
    | none => rw [q] at h'; cases h'
    | some zs =>
      rw [q] at h'
      cases h'
      cases r with
      | cons r1 r2 => cases r1; rw [intL_rep q r2]; rfl
def allD : D → Option D
  | .lst l => (blL l).map fun bs => .bl (bs.all id)
  | _ => none
theorem sv_all {d : DV} (hcalm : X.calm = true) (hg : Gl X "all") (hm : X.mg "all" = none) (h : SO X e d) (h1 : Arg1 X e := by rfl) : SV X (.Call (.Name "all" p) [e] [] pos) (dF1 allD d) :=
  pe_imp (bl_one (cr_all hcalm) hg hm rfl h h1 (by decide) (by decide)) fun σ H Q ⟨ρ, F, z, A, q, k⟩ => by
    obtain ⟨x, q1, q⟩ := bind1 q
    refine o_one A q1 fun v F1 H1 s1 p1 => ?_
    unfold allD at q
    split at q
    · cases q2 : blL _ with
      | none => rw [q2] at q; cases q
      | some bs =>
        rw [q2] at q
        cases q
        obtain ⟨a, xs, rfl, hp, r⟩ := p1.lst s1.sub
        cases blL_rep q2 r
        exact ⟨a, bs, rfl, .of hp, k _ F1 H1 s1 (.bl _)⟩
    · cases q
def maxI : List Int → Option Int
  | [] => none
  | [i] => some i
  | i :: r => (maxI r).map fun m => if m > i then m else i
theorem maxI_mem : ∀ {l : List Int} {m : Int}, maxI l = some m → m ∈ l ∧ ∀ y ∈ l, y ≤ m
  | [], _, h => by cases h
  | [i], m, h => by cases h; simp
  | i :: j :: r, m, h => by
    have h' : (maxI (j :: r)).map (fun m => if m > i then m else i) = some m := h
    cases q : maxI (j :: r) with
    | none => rw [q] at h'; cases h'
    | some k =>
      rw [q] at h'
      obtain ⟨h1, h2⟩ := maxI_mem q
      have h3 : (if k > i then k else i) = m := Option.some.inj h'
      subst h3
      split
      · exact ⟨List.mem_cons_of_mem _ h1, fun y hy => by
          rcases List.mem_cons.mp hy with rfl | hy
          · omega
          · exact h2 y hy⟩
      · exact ⟨List.mem_cons_self, fun y hy => by
          rcases List.mem_cons.mp hy with rfl | hy
          · omega
          · have := h2 y hy; omega⟩
def maxD : D → Option D
  | .lst l => (intL l).bind fun ns => (maxI ns).map .int
  | _ => none
theorem sv_max {d : DV} (hcalm : X.calm = true) (hg : Gl X "max") (hm : X.mg "max" = none) (h : SO X e d) (h1 : Arg1 X e := by rfl) : SV X (.Call (.Name "max" p) [e] [] pos) (dF1 maxD d) :=
  pe_imp (bl_one (cr_max hcalm) hg hm rfl h h1 (by decide) (by decide)) fun σ H Q ⟨ρ, F, z, A, q, k⟩ => by
    obtain ⟨x, q1, q⟩ := bind1 q
    refine o_one A q1 fun v F1 H1 s1 p1 => ?_
    unfold maxD at q
    split at q
    · obtain ⟨ns, q2, q⟩ := bind1 q
      cases q3 : maxI ns with
      | none => rw [q3] at q; cases q
      | some m =>
        rw [q3] at q
        cases q
        obtain ⟨a, xs, rfl, hp, r⟩ := p1.lst s1.sub
        cases intL_rep q2 r
        obtain ⟨m1, m2⟩ := maxI_mem q3
        refine ⟨a, ns, rfl, .of hp, ?_, fun m' h1 h2 => ?_⟩
        · cases ns with
          | nil => cases q3
          | cons _ _ => simp
        · have : m' = m := Int.le_antisymm (m2 m' h1) (h2 m m1)
          subst this
          exact k _ F1 H1 s1 (.int _)
    · cases q
/-- two ints -/
theorem o_two {T : Wd} {d d' : DV} {σ : L2.St} {H : Hp} {ρ : Ro} {F : Hp} {x y : D} {r : List V → Hp → VK → Prop} {Q : VK} (A : At T ρ σ F H) (q : d ρ = some x) (q' : d' ρ = some y)
    (k : ∀ v u F' H', EStp F H F' H' → Pk T F' H' v x → Pk T F' H' u y → r [v, u] H' Q) : tCB r (tCons (rO T d) (tCons (rO T d') tNil)) σ H Q :=
  two A q q' fun v u F1 H1 s1 p1 p2 => k v u F1 H1 s1 p1 p2
def max2D : D → D → Option D
  | .int i, .int j => some (.int (if j > i then j else i))
  | _, _ => none
def min2D : D → D → Option D
  | .int i, .int j => some (.int (if j < i then j else i))
  | _, _ => none
theorem sv_max2 {d d' : DV} (hcalm : X.calm = true) (hg : Gl X "max") (hm : X.mg "max" = none) (ha : SO X a d) (hb : SO X b d') (h1 : Arg2 X a b := by rfl) (h2 : Arg1 X b := by rfl) (hpl : (backTo pos (starEach [b] X.env)).any (·.1) = false := by rfl) :
    SV X (.Call (.Name "max" p) [a, b] [] pos) (dOp max2D d d') :=
  pe_imp (bl_two (call_max2 hcalm) hg hm rfl ha hb h1 h2 hpl (by decide) (by decide)) fun σ H Q ⟨ρ, F, z, A, q, k⟩ => by
    obtain ⟨x, y, q1, q2, q⟩ := bind2 q
    refine o_two A q1 q2 fun v u F1 H1 s1 p1 p2 => ?_
    unfold max2D at q
    split at q
    · cases q
      cases p1.int
      cases p2.int
      exact ⟨_, _, rfl, k _ F1 H1 s1 (.int _)⟩
    · cases q
theorem sv_min2 {d d' : DV} (hcalm : X.calm = true) (hg : Gl X "min") (hm : X.mg "min" = none) (ha : SO X a d) (hb : SO X b d') (h1 : Arg2 X a b := by rfl) (h2 : Arg1 X b := by rfl) (hpl : (backTo pos (starEach [b] X.env)).any (·.1) = false := by rfl) :
    SV X (.Call (.Name "min" p) [a, b] [] pos) (dOp min2D d d') :=
  pe_imp (bl_two (call_min2 hcalm) hg hm rfl ha hb h1 h2 hpl (by decide) (by decide)) fun σ H Q ⟨ρ, F, z, A, q, k⟩ => by
    obtain ⟨x, y, q1, q2, q⟩ := bind2 q
    refine o_two A q1 q2 fun v u F1 H1 s1 p1 p2 => ?_
    unfold min2D at q
    split at q
    · cases q
      cases p1.int
      cases p2.int
      exact ⟨_, _, rfl, k _ F1 H1 s1 (.int _)⟩
    · cases q

/-! ### isinstance -/
def D.ty : D → String
  | .non => "NoneType"
  | .bl _ => "bool"
  | .int _ => "int"
  | .str _ => "str"
  | .tup _ => "tuple"
  | .lst _ => "list"
  | .dS _ => "dict"
  | .dT _ => "dict"
  | .opq _ => "?"
def Kit (K : PySem.W.Frag) (t : String) : Prop := ∀ ty ∈ ["NoneType", "bool", "int", "str", "tuple"], PySem.W.kitOne K (.type ty) (.type t) = some (ty == t || (ty == "bool" && t == "int"))
def isiD (t : String) (d : D) : Option D := if ["NoneType", "bool", "int", "str", "tuple"].contains d.ty then some (.bl (d.ty == t || (d.ty == "bool" && t == "int"))) else none
theorem sv_isi {d : DV} {t : String} {x : Str} (hk : Kit X.K t) (hg : Gl X "isinstance") (hm : X.mg "isinstance" = none) (hgx : Gl X x) (hmx : X.mg x = none) (hvx : bootBuiltins x = some (.type t)) (h : SO X e d)
    (hnx : x ≠ "__name__" := by decide) (hdx : (x == ("__debug__" : Str)) = false := by decide) (h1 : Arg2 X e (.Name x p2) := by rfl) (hpl : (backTo pos (starEach [.Name x p2] X.env)).any (·.1) = false := by rfl) :
    SV X (.Call (.Name "isinstance" p) [e, .Name x p2] [] pos) (dF1 (isiD t) d) :=
  pe_imp (bl_two call_isi hg hm rfl h (pe_bltn (v := .ty t) hgx hmx hvx rfl hnx hdx) h1 rfl hpl (by decide) (by decide)) fun σ H Q ⟨ρ, F, z, A, q, k⟩ => by
    obtain ⟨x, q1, q⟩ := bind1 q
    refine ⟨ρ, F, x, A, q1, fun v F1 H1 s1 p1 => ?_⟩
    unfold isiD at q
    split at q
    · rename_i hc
      cases q
      have hmem : x.ty ∈ ["NoneType", "bool", "int", "str", "tuple"] := List.contains_iff_mem.mp hc
      refine ⟨v, .ty t, .type x.ty, .type t, _, rfl, .ty t, ?_, hk _ hmem, k _ F1 H1 s1 (.bl _)⟩
      cases x with
      | non => cases p1.non; exact .base .non
      | bl b => cases p1.bl; exact .base (.bl b)
      | int i => cases p1.int; exact .base (.int i)
      | str z => cases p1.str; exact .base (.str z)
      | tup l =>
        obtain ⟨a, xs, rfl, hp, r⟩ := p1.tup
        rcases (RdLe.ex s1.sub).t hp with (z | ⟨o, z⟩) | ⟨o, its, n, z1, z2, _⟩
        · exact .base (.tup z)
        · exact .fTuple z
        · exact .kTuple z1 z2
      | lst l => simp [D.ty] at hmem
      | dS l => simp [D.ty] at hmem
      | dT l => simp [D.ty] at hmem
      | opq l => simp [D.ty] at hmem
    · cases q
/-! ### d.get -/
def get1D : D → D → Option D
  | .dS es, .str k => some ((lookS es k).getD .non)
  | _, _ => none
def get2D (a k z : D) : Option D := match a, k with
  | .dS es, .str k => some ((lookS es k).getD z)
  | .dT es, q => if keyOk q then some ((lookT es q).getD z) else none
  | _, _ => none
theorem sv_get1 {o : Expr} {apos cpos : Pos} {d dk : DV} (hu : Rm X) (ho : SO X o d) (he : SO X e dk) (m : M1 X o "get" apos e cpos) : SV X (.Call (.Attribute o "get" apos) [e] [] cpos) (dOp get1D d dk) :=
  pe_imp (pe_dget1 (by omega) ho he m) fun σ H Q ⟨ρ, F, z, A, q, k⟩ => by
    obtain ⟨x, y, q1, q2, q⟩ := bind2 q
    unfold get1D at q
    split at q
    · cases q
      refine ⟨ρ, F, _, A, q1, fun v F1 H1 s1 p1 => ?_⟩
      obtain ⟨a, kvs, rfl, hp, r⟩ := p1.dS s1.sub
      refine ⟨a, rfl, .inl ⟨kvs, hp⟩, ρ, F1, _, A.step s1, q2, fun u F2 H2 s2 p2 => ?_⟩
      cases p2.str
      obtain ⟨a', kvs', e', hp', r'⟩ := (p1.ex s2.ex (s2.le s1.sub)).dS s2.sub
      cases e'
      refine ⟨_, .inl ⟨kvs', .inr _, hp', rfl, rfl⟩, ?_⟩
      rcases r'.look _ with ⟨d', v', a1, a2, a3⟩ | ⟨a1, a2⟩
      · rw [a1] at k
        rw [a2]
        exact k _ F2 H2 (s1.trans s2) a3
      · rw [a1] at k
        rw [a2]
        exact k _ F2 H2 (s1.trans s2) .non
    · cases q
theorem sv_get2 {o f : Expr} {apos cpos : Pos} {d dk dz : DV} (hu : Rm X) (ho : SO X o d) (he : SV X e dk) (hf : SV X f dz) (m : M2 X o "get" apos e f cpos) : SV X (.Call (.Attribute o "get" apos) [e, f] [] cpos) (fun ρ => (d ρ).bind fun x => (dk ρ).bind fun y => (dz ρ).bind fun z => get2D x y z) := by
  refine ⟨fun pins s σ H Q I ⟨ρ, F, z, A, q, k⟩ => ?_⟩
  obtain ⟨x, y, z', q1, q2, q3, q⟩ := bind3 q
  have r1 : rO (wd X) d σ H fun v H1 => ∃ F1, EStp F H F1 H1 ∧ Pk (wd X) F1 H1 v x := ⟨ρ, F, x, A, q1, fun v F1 H1 s1 p1 => ⟨F1, s1, p1⟩⟩
  refine wpAny_Call_method m.base m.few m.line PySem.F.plainAttrs_dict PySem.F.slot_dict_get PySem.F.type_dict_get (thn (ho.run pins s σ H _ I r1) fun u s1 ⟨v, H1, I1, rx, F1, st1, p1⟩ => ?_)
  unfold get2D at q
  split at q
  · cases q
    obtain ⟨a, kvs, rfl, hp, r⟩ := p1.dS st1.sub
    obtain rfl : u = Value.ref a := rx
    obtain ⟨t1, t2, _⟩ := isD_at I1 (.inl ⟨kvs, hp⟩)
    refine ⟨t1, t2, ?_⟩
    rw [m.trees]
    have r2 : rV (wd X) dk σ H1 fun v H2 => ∃ F2, EStp F1 H1 F2 H2 ∧ Rep (wd X) F2 v _ := ⟨ρ, F1, _, A.step st1, q2, fun v F2 H2 s2 p2 => ⟨F2, s2, p2⟩⟩
    refine Calls.callWith_builtin rfl (Calls.evalArgs_plain (Calls.spliced_cons (thn (he.run pins s1 σ H1 _ I1 r2) fun iv s2 ⟨y, H2, I2, ry, F2, st2, p2⟩ => ?_)))
    have r3 : rV (wd X) dz σ H2 fun v H3 => ∃ F3, EStp F2 H2 F3 H3 ∧ Rep (wd X) F3 v z' := ⟨ρ, F2, _, (A.step st1).step st2, q3, fun v F2 H2 s2 p2 => ⟨F2, s2, p2⟩⟩
    refine Calls.spliced_cons (thn (hf.run pins s2 σ H2 _ I2 r3) fun fv s3 ⟨w, H3, I3, rz, F3, st3, p3⟩ => Calls.spliced_nil ?_)
    have st := st2.trans st3
    cases p2
    obtain ⟨a', kvs', e', hp', r'⟩ := (p1.ex st.ex (st.le st1.sub)).dS st.sub
    cases e'
    refine d_get2 (by show X.A.units + 1 < cLine; omega) I3 (.inl ⟨kvs', .inr _, hp', rfl, rfl⟩) ry rz fun w' s4 I4 rw' => ⟨_, H3, I4, rw', ?_⟩
    rcases r'.look _ with ⟨d', v', a1, a2, a3⟩ | ⟨a1, a2⟩
    · rw [a1] at k
      rw [a2]
      exact k _ F3 H3 (st1.trans st) a3
    · rw [a1] at k
      rw [a2]
      exact k _ F3 H3 (st1.trans st) p3
  · split at q
    · rename_i hk
      cases q
      obtain ⟨a, ob, xs, rfl, hp, o, r⟩ := p1.dT st1.sub
      obtain rfl : u = Value.ref a := rx
      obtain ⟨ys, tp, dd, _, hget⟩ := dT_at I1 st1.sub hp o r
      refine ⟨dd.typeIs, fun b hb => ?_, ?_⟩
      · cases hb
        obtain ⟨ys, p, ex, _⟩ := o.ob
        exact ⟨ob, hget, ex.2.1⟩
      rw [m.trees]
      have r2 : rV (wd X) dk σ H1 fun v H2 => ∃ F2, EStp F1 H1 F2 H2 ∧ Rep (wd X) F2 v y := ⟨ρ, F1, _, A.step st1, q2, fun v F2 H2 s2 p2 => ⟨F2, s2, p2⟩⟩
      refine Calls.callWith_builtin rfl (Calls.evalArgs_plain (Calls.spliced_cons (thn (he.run pins s1 σ H1 _ I1 r2) fun iv s2 ⟨yv, H2, I2, ry, F2, st2, p2⟩ => ?_)))
      have r3 : rV (wd X) dz σ H2 fun v H3 => ∃ F3, EStp F2 H2 F3 H3 ∧ Rep (wd X) F3 v z' := ⟨ρ, F2, _, (A.step st1).step st2, q3, fun v F2 H2 s2 p2 => ⟨F2, s2, p2⟩⟩
      refine Calls.spliced_cons (thn (hf.run pins s2 σ H2 _ I2 r3) fun fv s3 ⟨w, H3, I3, rz, F3, st3, p3⟩ => Calls.spliced_nil ?_)
      have st := st2.trans st3
      obtain ⟨b, rfl, rb⟩ := rep_ref (.inl p2 : Pk (wd X) F2 H2 _ _) hk
      obtain rfl : iv = Value.ref b := ry
      obtain ⟨a', ob', xs', e', hp', o', r'⟩ := (p1.ex st.ex (st.le st1.sub)).dT st.sub
      cases e'
      obtain ⟨ys', tp', dd', _, _⟩ := dT_at I3 st3.sub hp' o' r'
      refine call_meetsIn PySem.F.slot_dict_get dd'.typeIs PySem.F.entry_dict_get (PySem.F.args_dict_get_3 _ _ _) (meetsH_dict_get_default (nestedKind X.prog X.w) a b o'.nm fv) ⟨nk_room (by show X.A.units + 64 < cLine; omega), y.key, ys', key_at I3 st3.sub (rb.ex (st3.le st2.sub)) hk, dd', ?_⟩
      rcases r'.look tp' y with ⟨d', e, v', a1, a2, a3, a4⟩ | ⟨a1, a2⟩
      · rw [a1] at k
        rw [a2]
        exact ⟨v', H3, I3.tok _, a3, k _ F3 H3 (st1.trans st) a4⟩
      · rw [a1] at k
        rw [a2]
        exact ⟨w, H3, I3.tok _, rz, k _ F3 H3 (st1.trans st) p3⟩
    · cases q
  · cases q
end
end NW

/-! Statements as functions of the frame's data. -/
namespace NW
open PySem PySem.Spec PyProof.Rows L2 Evl
inductive Out where
  | nx (ρ : Ro) | rt (d : D) (b : Bool) | bk (ρ : Ro) | ct (ρ : Ro)
abbrev DS := Ro → Option Out
def EndOk (T : Wd) (F0 H0 F : Hp) (E : Ends) : Out → Prop
  | .nx ρ => ∀ σ F' H', FI T F0 H0 ρ σ F' H' → Ex F F' → E.nx σ H'
  | .rt d b => ∀ v F' H', EStp F0 H0 F' H' → Res T F0 H0 F' H' v d b → E.rt v H'
  | .bk ρ => ∀ σ F' H', FI T F0 H0 ρ σ F' H' → Ex F F' → E.bk σ H'
  | .ct ρ => ∀ σ F' H', FI T F0 H0 ρ σ F' H' → Ex F F' → E.ct σ H'
theorem EndOk.mono {T : Wd} {F0 H0 F F1 : Hp} {E : Ends} {o : Out} (h : EndOk T F0 H0 F E o) (le : Ex F F1) : EndOk T F0 H0 F1 E o := by
  cases o with
  | nx ρ => exact fun σ F' H' I e => h σ F' H' I (le.trans e)
  | rt d b => exact h
  | bk ρ => exact fun σ F' H' I e => h σ F' H' I (le.trans e)
  | ct ρ => exact fun σ F' H' I e => h σ F' H' I (le.trans e)
def rS (T : Wd) (den : DS) : TS := fun E σ H => ∃ F0 H0 ρ F o, FI T F0 H0 ρ σ F H ∧ den ρ = some o ∧ EndOk T F0 H0 F E o
abbrev SS (X : Cx) (st : Stmt) (den : DS) : Prop := PS X st (rS (wd X) den)
abbrev SSs (X : Cx) (st : List Stmt) (den : DS) : Prop := PSs X st (rS (wd X) den)
section
variable {X : Cx} {e a b c : Expr} {es : List Expr} {st : Stmt} {rest sts sts' : List Stmt} {pos : Pos}
theorem ps_imp {t t' : TS} (h : PS X st t) (f : ∀ E σ H, t' E σ H → t E σ H) : PS X st t' := ⟨fun pins s σ H E I q => h.run pins s σ H E I (f E σ H q)⟩
theorem pss_imp {t t' : TS} (h : PSs X rest t) (f : ∀ E σ H, t' E σ H → t E σ H) : PSs X rest t' := ⟨fun pins s σ H E I q => h.run pins s σ H E I (f E σ H q)⟩
theorem FI.at {T : Wd} {F0 H0 F H : Hp} {ρ : Ro} {σ : L2.St} (I : FI T F0 H0 ρ σ F H) : At T ρ σ F H := ⟨F0, H0, I⟩
theorem Res.lift {T : Wd} {F0 H0 F H F' H' : Hp} {v : V} {d : D} {b : Bool} (r : Res T F H F' H' v d b) (ex : Ex H0 H) : Res T F0 H0 F' H' v d b := by
  cases b with
  | false => exact r
  | true =>
    obtain ⟨p, e, hn, hf, o⟩ := r
    exact ⟨p, e, fresh_back ex hn, hf, o⟩

/-! ### in a row -/
def dSkip : DS := fun ρ => some (.nx ρ)
def andThen (d : DS) : Out → Option Out
  | .nx ρ => d ρ
  | o => some o
def dSeq (d1 d2 : DS) : DS := fun ρ => (d1 ρ).bind (andThen d2)
theorem sss_nil : SSs X [] dSkip := pss_imp pss_nil fun E σ H ⟨F0, H0, ρ, F, o, I, q, k⟩ => by
  cases q
  exact k σ F H I (Ex.refl F)
theorem sss_cons {d1 d2 : DS} (h1 : SS X st d1) (h2 : SSs X rest d2) : SSs X (st :: rest) (dSeq d1 d2) := pss_imp (pss_cons h1 h2) fun E σ H ⟨F0, H0, ρ, F, o, I, q, k⟩ => by
  obtain ⟨o1, q1, q2⟩ := bind1 q
  refine ⟨F0, H0, ρ, F, o1, I, q1, ?_⟩
  cases o1 with
  | nx ρ1 => exact fun σ' F' H' I' le => ⟨F0, H0, ρ1, F', o, I', q2, k.mono le⟩
  | rt d b => cases q2; exact k
  | bk ρ1 => cases q2; exact k
  | ct ρ1 => cases q2; exact k
theorem sss_one {d : DS} (h : SS X st d) : SSs X [st] d := pss_one h
/-- never reached -/
def dNever : DS := fun _ => none
theorem ss_never : SS X st dNever := ps_imp ps_never fun E σ H ⟨F0, H0, ρ, F, o, I, q, k⟩ => by cases q
theorem ss_pass : SS X (.Pass pos) dSkip := ps_imp ps_pass fun E σ H ⟨F0, H0, ρ, F, o, I, q, k⟩ => by
  cases q
  exact k σ F H I (Ex.refl F)
def dCont : DS := fun ρ => some (.ct ρ)
theorem ss_cont : SS X (.Continue pos) dCont := ps_imp ps_continue fun E σ H ⟨F0, H0, ρ, F, o, I, q, k⟩ => by
  cases q
  exact k σ F H I (Ex.refl F)
/-! ### return -/
def dRet (d : DE) : DS := fun ρ => (d ρ).map fun x => .rt x.1 x.2
theorem ss_ret {d : DE} (h : SE X e d) : SS X (.Return (some e) pos) (dRet d) := ps_imp (ps_ret h) fun E σ H ⟨F0, H0, ρ, F, o, I, q, k⟩ => by
  unfold dRet at q
  cases q1 : d ρ with
  | none => rw [q1] at q; cases q
  | some x =>
    rw [q1] at q
    cases q
    exact ⟨ρ, F, x.1, x.2, I.at, q1, fun v F' H' s r => k v F' H' (I.st.trans s) (r.lift I.st.ex)⟩
def dRetN : DS := fun _ => some (.rt .non false)
theorem ss_retN : SS X (.Return none pos) dRetN := ps_imp ps_retN fun E σ H ⟨F0, H0, ρ, F, o, I, q, k⟩ => by
  cases q
  exact k _ F H I.st .non
def dRetO (i : Nat) : DS := fun ρ => match ρ[i]? with
  | some (.own d) => some (.rt d true)
  | _ => none
theorem ss_retO {i : Nat} {x : Str} {px : Pos} (hN : X.N[i]? = some x) (hv : Vis X.env.scope x) (hd : (x == ("__debug__" : Str)) = false := by decide) (hcd : (x == ("__classdict__" : Str)) = false := by decide) : SS X (.Return (some (.Name x px)) pos) (dRetO i) :=
  ps_imp (ps_ret (pe_var hN hv hd hcd)) fun E σ H ⟨F0, H0, ρ, F, o, I, q, k⟩ => by
    unfold dRetO at q
    split at q
    · rename_i d hq
      cases q
      obtain ⟨p, e, z, f, w⟩ := I.own i d hq
      exact ⟨_, e, k _ F H I.st ⟨p, rfl, z, f, w⟩⟩
    · cases q
/-! ### stores of names -/
def dSet (i : Nat) (d : DV) : DS := fun ρ => (d ρ).map fun x => .nx (ρ.set i (.val x))
def dSetO (i : Nat) (d : DE) : DS := fun ρ => (d ρ).bind fun x => if x.2 = true then some (.nx (ρ.set i (.own x.1))) else none
theorem ss_set {i : Nat} {x : Str} {px : Pos} {d : DV} (hN : X.N.Nodup) (hi : X.N[i]? = some x) (hx : Loc X.env.scope x) (he : SV X e d) (hs : swapsWith e (some (.Name x px)) pos.line X.env = pure false := by rfl) (hf : X.fn x = true ∨ X.env.scope.names.lookup x = some .local := by first | exact .inl rfl | exact .inr rfl | assumption) :
    SS X (.Assign [.Name x px] e pos) (dSet i d) := ps_imp (ps_set hN hi hx he hs hf) fun E σ H ⟨F0, H0, ρ, F, o, I, q, k⟩ => by
  unfold dSet at q
  cases q1 : d ρ with
  | none => rw [q1] at q; cases q
  | some x =>
    rw [q1] at q
    cases q
    exact ⟨ρ, F, x, I.at, q1, fun v F' H' s r => k _ F' H' ((I.step s).setVal r) (s.le I.sub)⟩
/-- the fresh thing is no slot's -/
theorem FI.apart {T : Wd} {F0 H0 F H F' H' : Hp} {ρ : Ro} {σ : L2.St} {p : Addr} (I : FI T F0 H0 ρ σ F H) (hp : H p = none) : ∀ (j : Nat) (e : D), ρ[j]? = some (Slot.own e) → σ[j]? ≠ some (some (.ref p)) := fun j e h z => by
  obtain ⟨q, e1, _, _, o⟩ := I.own j e h
  rw [e1] at z
  cases z
  exact o.ne hp
theorem FI.setRes {T : Wd} {F0 H0 F H F' H' : Hp} {ρ : Ro} {σ : L2.St} {v : V} {d : D} {i : Nat} (I : FI T F0 H0 ρ σ F H) (s : EStp F H F' H') (r : Res T F H F' H' v d true) : FI T F0 H0 (ρ.set i (.own d)) (σ.set i (some v)) F' H' := by
  obtain ⟨p, rfl, hn, hf, o⟩ := r
  exact (I.step s).setOwn (fresh_back I.st.ex hn) hf o (I.apart (F' := F) (H' := H) hn)
theorem ss_setO {i : Nat} {x : Str} {px : Pos} {d : DE} (hN : X.N.Nodup) (hi : X.N[i]? = some x) (hx : Loc X.env.scope x) (he : SE X e d) (hs : swapsWith e (some (.Name x px)) pos.line X.env = pure false := by rfl) (hf : X.fn x = true ∨ X.env.scope.names.lookup x = some .local := by first | exact .inl rfl | exact .inr rfl | assumption) :
    SS X (.Assign [.Name x px] e pos) (dSetO i d) := ps_imp (ps_set hN hi hx he hs hf) fun E σ H ⟨F0, H0, ρ, F, o, I, q, k⟩ => by
  obtain ⟨⟨x, b⟩, q1, q⟩ := bind1 q
  cases b with
  | false => cases q
  | true =>
    cases q
    exact ⟨ρ, F, x, true, I.at, q1, fun v F' H' s r => k _ F' H' (I.setRes s r) (s.le I.sub)⟩
/-! ### targets -/
def Chg (is : List Nat) (σ σ' : L2.St) : Prop := ∀ vs : List Nat, (∀ i ∈ is, i ∈ vs) → wipe σ' vs = wipe σ vs
abbrev DT := D → Ro → Option Ro
def rG (T : Wd) (is : List Nat) (den : DT) : TG := fun v σ H Q => ∃ F0 H0 ρ F d ρ', FI T F0 H0 ρ σ F H ∧ Rep T F v d ∧ den d ρ = some ρ' ∧ ∀ σ', FI T F0 H0 ρ' σ' F H → Chg is σ σ' → Q σ' H
abbrev SG (X : Cx) (tg : Expr) (is : List Nat) (den : DT) : Prop := PG X tg (rG (wd X) is den)
theorem pg_imp {tg : Expr} {t t' : TG} (h : PG X tg t) (f : ∀ v σ H Q, t' v σ H Q → t v σ H Q) : PG X tg t' := ⟨fun pins s σ H v u Q I r q => h.run pins s σ H v u Q I r (f v σ H Q q)⟩
theorem wipe_get {σ : L2.St} {j : Nat} : ∀ {vs : List Nat}, (wipe σ vs)[j]? = if j ∈ vs then (if j < σ.length then some none else none) else σ[j]?
  | [] => by simp [wipe]
  | v :: vs => by
    unfold wipe
    rw [List.getElem?_set, wipe_length, wipe_get (vs := vs)]
    by_cases h : v = j
    · subst h
      simp
    · have h' : ¬ j = v := fun z => h z.symm
      simp [h, h']
theorem chg_set {σ : L2.St} {i : Nat} {o : Option V} : Chg [i] σ (σ.set i o) := fun vs h => by
  apply List.ext_getElem?
  intro j
  rw [wipe_get, wipe_get, List.length_set]
  by_cases hj : j ∈ vs
  · simp [hj]
  · have : i ≠ j := by rintro rfl; exact hj (h i (by simp))
    simp [hj, this]
theorem Chg.trans {is js : List Nat} {σ σ1 σ2 : L2.St} (h : Chg is σ σ1) (h' : Chg js σ1 σ2) : Chg (is ++ js) σ σ2 := fun vs hv => (h' vs fun i hi => hv i (List.mem_append_right _ hi)).trans (h vs fun i hi => hv i (List.mem_append_left _ hi))
def tgN (i : Nat) : DT := fun d ρ => some (ρ.set i (.val d))
theorem sg_name {i : Nat} {x : Str} (hN : X.N.Nodup) (hi : X.N[i]? = some x) (hx : Loc X.env.scope x) (hf : X.fn x = true ∨ X.env.scope.names.lookup x = some .local := by first | exact .inl rfl | exact .inr rfl | assumption) : SG X (.Name x pos) [i] (tgN i) :=
  pg_imp (pg_name hN hi hx hf) fun v σ H Q ⟨F0, H0, ρ, F, d, ρ', I, r, q, k⟩ => by
    cases q
    exact k _ (I.setVal r) chg_set
def setAll : List Nat → List D → Ro → Option Ro
  | [], [], ρ => some ρ
  | i :: is, d :: ds, ρ => setAll is ds (ρ.set i (.val d))
  | _, _, _ => none
theorem setAll_len : ∀ {is : List Nat} {ds : List D} {ρ ρ' : Ro}, setAll is ds ρ = some ρ' → ds.length = is.length
  | [], [], _, _, _ => rfl
  | i :: is, d :: ds, ρ, ρ', h => by rw [List.length_cons, List.length_cons, setAll_len (is := is) h]
  | [], _ :: _, _, _, h => by cases h
  | _ :: _, [], _, _, h => by cases h
def rGs (T : Wd) (is : List Nat) : TGs := fun vs σ H Q => ∃ F0 H0 ρ F ds ρ', FI T F0 H0 ρ σ F H ∧ RepL T F vs ds ∧ setAll is ds ρ = some ρ' ∧ ∀ σ', FI T F0 H0 ρ' σ' F H → Chg is σ σ' → Q σ' H
abbrev SGs (X : Cx) (ts : List Expr) (is : List Nat) : Prop := PGs X ts (rGs (wd X) is)
theorem pgs_imp {ts : List Expr} {t t' : TGs} (h : PGs X ts t) (f : ∀ v σ H Q, t' v σ H Q → t v σ H Q) : PGs X ts t' := ⟨fun pins s σ H v u Q I r q => h.run pins s σ H v u Q I r (f v σ H Q q)⟩
theorem sgs_nil : SGs X [] [] := pgs_imp pgs_nil fun v σ H Q ⟨F0, H0, ρ, F, ds, ρ', I, r, q, k⟩ => by
  cases ds with
  | nil =>
    cases r
    cases q
    exact ⟨rfl, k σ I fun _ _ => rfl⟩
  | cons _ _ => cases q
theorem sgs_cons {i : Nat} {is : List Nat} {x : Str} {px : Pos} (hN : X.N.Nodup) (hi : X.N[i]? = some x) (hx : Loc X.env.scope x) (h : SGs X es is) (hf : X.fn x = true ∨ X.env.scope.names.lookup x = some .local := by first | exact .inl rfl | exact .inr rfl | assumption)
    (hs : (assignEach (.Name x px :: es) X.env).map (·.2) = assign (.Name x px) X.env :: (assignEach es X.env).map (·.2) := by rfl) : SGs X (.Name x px :: es) (i :: is) :=
  pgs_imp (pgs_cons (pg_name hN hi hx hf) h hs) fun v σ H Q ⟨F0, H0, ρ, F, ds, ρ', I, r, q, k⟩ => by
    cases ds with
    | nil => cases q
    | cons d ds =>
      cases r with
      | cons r1 r2 => exact ⟨_, _, rfl, F0, H0, _, F, ds, ρ', I.setVal r1, r2, q, fun σ' I' ch => k σ' I' (chg_set.trans ch)⟩
def tgT (is : List Nat) : DT := fun d ρ => match d with
  | .tup ds => setAll is ds ρ
  | _ => none
theorem sg_tup {is : List Nat} {n : Nat} (hc : X.calm = true) (h : SGs X es is) (hn : (assignEach es X.env).length = is.length := by rfl) (hst : (assignEach es X.env).findIdx? (·.1) = none := by rfl) : SG X (.Tuple es n pos) is (tgT is) :=
  pg_imp (pg_tup hc h hn hst) fun v σ H Q ⟨F0, H0, ρ, F, d, ρ', I, r, q, k⟩ => by
    unfold tgT at q
    split at q
    · cases r with
      | tup hq r => exact ⟨_, _, rfl, (RdLe.ex I.sub).t hq, by rw [r.len]; exact setAll_len q, F0, H0, ρ, F, _, ρ', I, r, q, k⟩
    · cases q
def dAsg (g : DT) (d : DV) : DS := fun ρ => (d ρ).bind fun x => (g x ρ).map .nx
theorem ss_asg {tg : Expr} {is : List Nat} {g : DT} {d : DV} (he : SV X e d) (hg : SG X tg is g) (hs : swapsWithSole [tg] e pos.line X.env = pure false := by rfl) (hw : swappedStores [tg] e X.env = pure none := by rfl)
    (h1 : (assignEach [tg] X.env).map (·.2) = [assign tg X.env] := by rfl) : SS X (.Assign [tg] e pos) (dAsg g d) := ps_imp (ps_asg he hg hs hw h1) fun E σ H ⟨F0, H0, ρ, F, o, I, q, k⟩ => by
  obtain ⟨x, q1, q⟩ := bind1 q
  cases q2 : g x ρ with
  | none => rw [q2] at q; cases q
  | some ρ' =>
    rw [q2] at q
    cases q
    exact ⟨ρ, F, x, I.at, q1, fun v F' H' s r => ⟨F0, H0, ρ, F', x, ρ', I.step s, r, q2, fun σ' I' _ => k σ' F' H' I' (s.le I.sub)⟩⟩
/-! ### if -/
def dIfS (c : DB) (d d' : DS) : DS := fun ρ => (c ρ).bind fun b => if b = true then d ρ else d' ρ
theorem ss_if {dc : DB} {d d' : DS} (hc : ST X c dc) (ha : SSs X sts d) (hb : SSs X sts' d') : SS X (.If c sts sts' pos) (dIfS dc d d') := ps_imp (ps_if hc ha hb) fun E σ H ⟨F0, H0, ρ, F, o, I, q, k⟩ => by
  obtain ⟨b, q1, q⟩ := bind1 q
  refine ⟨ρ, F, b, I.at, q1, fun F' H' s => ?_⟩
  cases b with
  | true => exact ⟨F0, H0, ρ, F', o, I.step s, q, k.mono (s.le I.sub)⟩
  | false => exact ⟨F0, H0, ρ, F', o, I.step s, q, k.mono (s.le I.sub)⟩
/-! ### given to all -/
def frzR (i : Nat) (ρ : Ro) : Ro := match ρ[i]? with
  | some (.own d) => ρ.set i (.val d)
  | _ => ρ
def dFrz (i : Nat) (d : DS) : DS := fun ρ => d (frzR i ρ)
theorem FI.frzR {T : Wd} {F0 H0 F H : Hp} {ρ : Ro} {σ : L2.St} (I : FI T F0 H0 ρ σ F H) (i : Nat) : ∃ F', Ex F F' ∧ FI T F0 H0 (frzR i ρ) σ F' H := by
  unfold NW.frzR
  split
  · rename_i d h
    exact I.give h
  · exact ⟨F, Ex.refl F, I⟩
theorem ss_frz {i : Nat} {d : DS} (h : SS X st d) : SS X st (dFrz i d) := ps_imp h fun E σ H ⟨F0, H0, ρ, F, o, I, q, k⟩ => by
  obtain ⟨F', le, I'⟩ := I.frzR i
  exact ⟨F0, H0, _, F', o, I', q, k.mono le⟩
/-! ### while -/
def loopW (c : DB) (body : DS) : Nat → Ro → Option Out
  | 0, _ => none
  | n + 1, ρ => (c ρ).bind fun b => if b = true then (body ρ).bind fun o => match o with
    | .nx ρ' => loopW c body n ρ'
    | .ct ρ' => loopW c body n ρ'
    | .bk ρ' => some (.nx ρ')
    | .rt d f => some (.rt d f)
    else some (.nx ρ)
def dWhile (n : Nat) (c : DB) (body : DS) : DS := loopW c body n
theorem ss_while {dc : DB} {d : DS} (n : Nat) (hp : PassesOwn (model X.prog X.w) X.A X.env X.xe) (hc : ST X c dc) (hb : SSs X sts d) : SS X (.While c sts [] pos) (dWhile n dc d) := ps_imp (ps_while hp hc hb) fun E σ H ⟨F0, H0, ρ, F, o, I, q, k⟩ => by
  refine ⟨fun m σ1 H1 => ∃ ρ1 F1, FI (wd X) F0 H0 ρ1 σ1 F1 H1 ∧ Ex F F1 ∧ loopW dc d m ρ1 = some o, ⟨n, ρ, F, I, Ex.refl F, q⟩, fun m σ1 H1 ⟨ρ1, F1, I1, le, q1⟩ => ?_⟩
  cases m with
  | zero => cases q1
  | succ m =>
    obtain ⟨b, q2, q1⟩ := bind1 (show ((dc ρ1).bind _) = some o from q1)
    refine ⟨ρ1, F1, b, I1.at, q2, fun F2 H2 s2 => ?_⟩
    cases b with
    | false =>
      rw [if_neg (by decide)] at q1 ⊢
      cases q1
      exact k σ1 F2 H2 (I1.step s2) (le.trans (s2.le I1.sub))
    | true =>
      rw [if_pos rfl] at q1 ⊢
      obtain ⟨o1, q3, q1⟩ := bind1 q1
      refine ⟨fun σ' H' => ∃ ρ' F', FI (wd X) F0 H0 ρ' σ' F' H' ∧ Ex F F' ∧ loopW dc d m ρ' = some o, fun σ' H' w => ⟨m, Nat.lt_succ_self m, w⟩, F0, H0, ρ1, F2, o1, I1.step s2, q3, ?_⟩
      have le2 := le.trans (s2.le I1.sub)
      cases o1 with
      | nx ρ' => exact fun σ' F' H' I' e => ⟨ρ', F', I', le2.trans e, q1⟩
      | ct ρ' => exact fun σ' F' H' I' e => ⟨ρ', F', I', le2.trans e, q1⟩
      | bk ρ' =>
        cases q1
        exact fun σ' F' H' I' e => k σ' F' H' I' (le2.trans e)
      | rt z f =>
        cases q1
        exact k
/-! ### for -/
structure Src (T : Wd) (F0 : Hp) (J : It) (ds : List D) : Prop where
  go : ∀ (i : Nat) (F H : Hp), Ex F0 F → Ex F H → i < ds.length → J.go i H
  yld : ∀ (i : Nat) (F H : Hp) (x : V) (H' : Hp) (d : D), Ex F0 F → Ex F H → J.yld i H x H' → ds[i]? = some d → ∃ F', EStp F H F' H' ∧ Rep T F' x d
  stop : ∀ (i : Nat) (F H : Hp), Ex F0 F → Ex F H → ds.length ≤ i → J.stop i H
def rF (T : Wd) (den : DA) : TI := fun σ H R => ∃ ρ F ds, At T ρ σ F H ∧ den ρ = some ds ∧ ∀ J F' H', EStp F H F' H' → Src T F' J ds → R J H'
abbrev SF (X : Cx) (tg iter : Expr) (den : DA) : Prop := PI X tg iter (rF (wd X) den)
theorem pi_imp {tg iter : Expr} {t t' : TI} (h : PI X tg iter t) (f : ∀ σ H R, t' σ H R → t σ H R) : PI X tg iter t' := ⟨fun pins s σ H R I q => h.run pins s σ H R I (f σ H R q)⟩
def loopF (tg : DT) (body : DS) : List D → Ro → Option Out
  | [], ρ => some (.nx ρ)
  | d :: ds, ρ => (tg d ρ).bind fun ρ1 => (body ρ1).bind fun o => match o with
    | .nx ρ' => loopF tg body ds ρ'
    | .ct ρ' => loopF tg body ds ρ'
    | .bk ρ' => some (.nx ρ')
    | .rt d f => some (.rt d f)
def dFor (src : DA) (tg : DT) (body : DS) : DS := fun ρ => (src ρ).bind fun ds => loopF tg body ds ρ
theorem for_go {tg : DT} {src : DA} {body : DS} {is : List Nat} {E : Ends} {σ : L2.St} {H F0 H0 F : Hp} {ρ : Ro} {o : Out} {T : Wd} (I : FI T F0 H0 ρ σ F H) (q : dFor src tg body ρ = some o) (k : EndOk T F0 H0 F E o) :
    tFor (rF T src) (rG T is tg) (rS T body) E σ H := by
  obtain ⟨ds, q1, q⟩ := bind1 q
  refine ⟨ρ, F, ds, I.at, q1, fun J F1 H1 s1 S => ?_⟩
  have leF : Ex F F1 := s1.le I.sub
  refine ⟨fun i m σ2 H2 => ∃ ρ2 F2, m = ds.length - i ∧ FI T F0 H0 ρ2 σ2 F2 H2 ∧ Ex F1 F2 ∧ loopF tg body (ds.drop i) ρ2 = some o, ⟨_, ρ, F1, rfl, I.step s1, Ex.refl _, by rw [List.drop_zero]; exact q⟩, fun i m σ2 H2 ⟨ρ2, F2, em, I2, le2, q2⟩ => ?_⟩
  by_cases hi : i < ds.length
  · rw [List.drop_eq_getElem_cons hi] at q2
    obtain ⟨ρ3, q3, q2⟩ := bind1 (show ((tg ds[i] ρ2).bind _) = some o from q2)
    obtain ⟨o1, q4, q2⟩ := bind1 q2
    refine .inr ⟨S.go i F2 H2 le2 I2.sub hi, fun σ' H' => ∃ ρ' F', FI T F0 H0 ρ' σ' F' H' ∧ Ex F1 F' ∧ loopF tg body (ds.drop (i + 1)) ρ' = some o, fun σ' H' ⟨ρ', F', a, b, c⟩ => ⟨_, by omega, ρ', F', rfl, a, b, c⟩, fun x H3 y => ?_⟩
    obtain ⟨F3, s3, r3⟩ := S.yld i F2 H2 x H3 ds[i] le2 I2.sub y (List.getElem?_eq_getElem hi)
    have le3 := s3.le I2.sub
    refine ⟨F0, H0, ρ2, F3, _, ρ3, I2.step s3, r3, q3, fun σ4 I4 _ => ⟨F0, H0, ρ3, F3, o1, I4, q4, ?_⟩⟩
    cases o1 with
    | nx ρ' => exact fun σ' F' H' I' e => ⟨ρ', F', I', (le2.trans le3).trans e, q2⟩
    | ct ρ' => exact fun σ' F' H' I' e => ⟨ρ', F', I', (le2.trans le3).trans e, q2⟩
    | bk ρ' =>
      cases q2
      exact fun σ' F' H' I' e => k σ' F' H' I' (((leF.trans le2).trans le3).trans e)
    | rt z f =>
      cases q2
      exact k
  · rw [List.drop_eq_nil_of_le (Nat.le_of_not_lt hi)] at q2
    cases q2
    exact .inl ⟨S.stop i F2 H2 le2 I2.sub (Nat.le_of_not_lt hi), k σ2 F2 H2 I2 (leF.trans le2)⟩
theorem ss_for {tg iter : Expr} {is : List Nat} {src : DA} {g : DT} {d : DS} (hp : PassesOwn (model X.prog X.w) X.A X.env X.xe) (hc : X.calm = true) (hi : SF X tg iter src) (hg : SG X tg is g) (hb : SSs X sts d)
    (hs : ∀ x, foldedSetIterable iter X.env x = pure x := by intro _; rfl) : SS X (.For tg iter sts [] pos) (dFor src g d) := ps_imp (ps_for hp hc hi hg hb hs) fun E σ H ⟨F0, H0, ρ, F, o, I, q, k⟩ => for_go I q k
end
end NW

/-! Sources of loops. -/
namespace NW
open PySem PySem.Spec PyProof.Rows L2 Evl
theorem meets_enumerate_newT (l : Addr) (items : Array Value) (n : Nat) (dct : Option Addr) (sl : Array (Option Value)) :
    Meets (Builtin.«enumerate.__new__» ⟨[.type "enumerate", .ref l], []⟩) (fun _ R s => s.heap.get? l = some { cls := .type "tuple", dict := dct, data := .seq items n, slots := sl } ∧
      R (.ok (.ret (.ref (s.heap.push { cls := .type "tuple_iterator", data := .fields #[.ref l, .int 0 0] }).objs.size)))
        { s with heap := (s.heap.push { cls := .type "tuple_iterator", data := .fields #[.ref l, .int 0 0] }).push { cls := .type "enumerate", data := .fields #[.none, .bool false, .ref s.heap.objs.size, rawInt 0, .none, .none] } }) :=
  .of_wp fun prog w A R s h => by
    obtain ⟨hp, g, d, tk, os⟩ := s; obtain ⟨hl, h⟩ := h
    have hsub := sub_enumerate
    have hL : Heap.IsTuple (Shared.heap ⟨hp, g, d, tk, os⟩) l items := ⟨_, hl, rfl, n, rfl⟩
    wp_walk using AutoSeq1.wpAny_loadPart' hl
    refine wpAny_stack_any fun st => wpAny_pure ?_
    split
    · rename_i c _ _ _ _ _
      cases (c == Value.type "enumerate")
      · wp_walk using AutoSeq1.wpAny_loadPart' hl, wpAny_pyIter_tuple hL
        exact ⟨_, rfl, h⟩
      · wp_walk using AutoSeq1.wpAny_loadPart' hl, wpAny_pyIter_tuple hL
        exact ⟨_, rfl, h⟩
    · wp_walk using AutoSeq1.wpAny_loadPart' hl, wpAny_pyIter_tuple hL
      exact ⟨_, rfl, h⟩
section
variable {prog : Program} {w : World} {A : Around} {E : Value → Shared → Prop} {s : Shared}
theorem call_enumerate_tup {l : Addr} {items : Array Value} {Q : Value → Shared → Prop} (hL : s.heap.IsTuple l items)
    (h : ∀ h', IsEnum h' (s.heap.objs.size + 1) s.heap.objs.size 0 .none → h'.IsTupleIter s.heap.objs.size l 0 → h'.objs.size = s.heap.objs.size + 2 →
      (∀ b o, s.heap.get? b = some o → h'.get? b = some o) → Q (.ref (s.heap.objs.size + 1)) { s with heap := h' }) :
    wpAny (model prog w) A (call (.type "enumerate") [.ref l]) Q E s := by
  obtain ⟨⟨c, dct, dt, sl⟩, hl, hc, n, hd⟩ := hL
  replace hc : c = .type "tuple" := hc
  replace hd : dt = .seq items n := hd
  subst hc hd
  refine callType_new F.called_enumerate (by decide) (F.typeCall_enumerate_1 _) (F.newCall_enumerate_1 _) (fun obj => F.args_object_init_2 obj _) F.entry_enumerate_new
    (meets_enumerate_newT l items n dct sl) ⟨hl, ?_⟩
  have hz : (s.heap.push { cls := .type "tuple_iterator", data := .fields #[.ref l, .int 0 0] }).objs.size = s.heap.objs.size + 1 := Heap.size_push ..
  show _ ∧ _
  rw [hz]
  have he : IsEnum ((s.heap.push { cls := .type "tuple_iterator", data := .fields #[.ref l, .int 0 0] }).push
      { cls := .type "enumerate", data := .fields #[.none, .bool false, .ref s.heap.objs.size, rawInt 0, .none, .none] }) (s.heap.objs.size + 1) s.heap.objs.size 0 .none := by
    have := Heap.get?_push_size (s.heap.push { cls := .type "tuple_iterator", data := .fields #[.ref l, .int 0 0] })
      (o := { cls := .type "enumerate", data := .fields #[.none, .bool false, .ref s.heap.objs.size, rawInt 0, .none, .none] }) rfl
    rw [hz] at this; exact this
  refine ⟨⟨_, he, rfl⟩, h _ he ⟨_, Heap.get?_push_of_some _ (Heap.get?_push_size _ rfl), rfl, rfl⟩ (by rw [Heap.size_push, hz]) fun b o x => Heap.get?_push_of_some _ (Heap.get?_push_of_some _ x)⟩
end
theorem wpAny_pyNext_enum_endT {prog : Program} {w : World} {A : Around} {E : Value → Shared → Prop} {s : Shared} {e it l : Addr} {i : Nat} {items : Array Value} {old : Value} {Q : Option Value → Shared → Prop} (hh : A.handled = none)
    (he : IsEnum s.heap e it i old) (hit : s.heap.IsTupleIter it l i) (hl : s.heap.IsTuple l items) (hx : items[i]? = none)
    (hQ : ∀ h', Heap.ExtBut it s.heap h' → Q none { s with heap := h' }) : wpAny (model prog w) A (pyNext (.ref e)) Q E s := by
  have hT : s.TypeIs (.ref e) "enumerate" := ⟨_, he, rfl⟩
  unfold pyNext
  refine wpAny_bind (wpAny_attempt (wpAny_callSpecial?_slot (name := Str.ofString "__next__") hT F.slot_enumerate_next
    (wpAny_call_entry F.slot_enumerate_next hT F.entry_enumerate_next ?_ (F.args_enumerate_next_1 _))))
  show wpAny _ _ (field (.ref e) 2 >>= _) _ _ _
  refine wpAny_bind (wpAny_field he rfl (x := .ref it) rfl ?_)
  refine wpAny_bind (wpAny_nextOf_tuple_end hh hit hl hx fun h' x he' hx' => ?_)
  obtain ⟨o, ho, hc⟩ := hx'
  refine wpAny_bind (wpAny_isInstance (T := "StopIteration") (b := true) ⟨o, ho, hc⟩ isSubtype_stop ?_)
  exact wpAny_pure (hQ _ he')
def IteT (K : PySem.W.Frag) (a : Addr) : It :=
  ⟨fun i H => ∃ (xs : List V) (x : V), SqT K H a xs ∧ xs[i]? = some x, fun i H v H' => ∃ T x, v = .ref T ∧ H T = none ∧ H' = upd H T (.tup [.int (i : Nat), x]) ∧ ∀ xs, SqT K H a xs → xs[i]? = some x, fun i H => ∃ xs : List V, SqT K H a xs ∧ xs.length ≤ i⟩
theorem turn_enumT {P : Program} {w : World} {K : PySem.W.Frag} {elts : List Expr} {kk : Nat} {tpos : Pos} (a e it : Addr) (hae : a ≠ e) (hai : a ≠ it) :
    Turn P w K (.Tuple elts kk tpos) (IteT K a) [e, it] e (fun i h => (∃ old, IsEnum h e it ((i : Nat) : Int) old) ∧ h.IsTupleIter it a i ∧ e ≠ it) where
  mem := by simp
  obj := fun i h st b hb => by
    obtain ⟨⟨old, he⟩, ⟨o, ho, hc, hd⟩, _⟩ := st
    have e' : b = e ∨ b = it := by simpa using hb
    rcases e' with z | z
    · rw [z]; exact ⟨_, he, fun v q => nomatch q⟩
    · rw [z]; exact ⟨o, ho, fun v q => by rw [hd] at q; cases q⟩
  keep := fun i h h' st k => let ⟨⟨old, he⟩, hi, hne⟩ := st; ⟨⟨old, k e (by simp) _ he⟩, hi.at fun o q => k it (by simp) o q, hne⟩
  item := by
    intro X hP hw hK hc i pins s σ H E I hf st hg
    subst hP hw hK
    obtain ⟨⟨old, he⟩, hit, hne⟩ := st
    obtain ⟨xs, x, hq, hx⟩ := hg
    obtain ⟨its, rv, p, hz⟩ := I.tuple hq
    obtain ⟨u, hu, ru⟩ := rv.get hx
    have hel : e < s.heap.objs.size := Heap.lt_size he
    have hil : it < s.heap.objs.size := by obtain ⟨_, q, _⟩ := hit; exact Heap.lt_size q
    have hlt : i < its.toArray.size := by
      rw [List.size_toArray]
      exact (List.getElem?_eq_some_iff.mp hu).1
    refine wpAny_pyNext_enum_itemD (Draws.tuple (A := X.A.in1) (show X.A.in1.handled = none from I.ok.hd hc) it a hai its.toArray) he ⟨hit, p⟩ hlt hne (by simp [hne, Ne.symm hae]) fun y h' tk hy ho hit' hT hsz hk => ?_
    have ey : y = u := by
      have hy' : its[i]? = some y := by simpa using hy
      rw [hu] at hy'
      exact (Option.some.inj hy').symm
    subst ey
    refine ⟨_, rfl, wpAny_letOwnedTupleGo_enum (s := { s with heap := h', toks := tk + 1 }) ho fun h'' he' sb => ?_⟩
    have hT2 : h''.get? s.heap.objs.size = some { cls := .type "tuple", data := .seq #[.int i tk, y] } := (sb.2 _ (Nat.ne_of_gt hel)).trans hT
    have new : ObjOk X.prog X.w (upd H s.heap.objs.size (.tup [.int (i : Nat), x])) h'' s.heap.objs.size (.tup [.int (i : Nat), x]) :=
      ⟨by show 2 ≤ sizeLine; decide, [.int i tk, y], .cons ⟨_, rfl⟩ (.cons ru .nil), ⟨_, hT2, rfl, _, rfl⟩⟩
    have I1 : Inv X pins σ (upd H s.heap.objs.size (.tup [.int (i : Nat), x])) { s with heap := h'', toks := tk + 1 } :=
      I.turnedNew (ch := [e, it]) (fun b ob hb q => (sb.2 b (fun z => hb (by simp [z]))).trans (hk b ob (fun z => hb (by simp [z])) (fun z => hb (by simp [z])) q)) hf (Nat.le_refl _) new
    refine ⟨.ref s.heap.objs.size, _, I1, rfl, ⟨_, x, rfl, I.hok.fresh (Nat.le_refl _), rfl, fun ys hy => by rw [I.tuple_inj hy hq]; exact hx⟩, ⟨⟨y, ?_⟩, hit'.1.at fun o q => (sb.2 it (Ne.symm hne)).trans q, hne⟩, fun b hb => ?_⟩
    · have e1 : ((i + 1 : Nat) : Int) = (i : Int) + 1 := by omega
      rw [e1]; exact he'
    · have hb' : b < s.heap.objs.size := by
        have e' : b = e ∨ b = it := by simpa using hb
        rcases e' with z | z
        · rw [z]; exact hel
        · rw [z]; exact hil
      rw [upd_ne (Nat.ne_of_lt hb')]
      exact (hf b hb).1
  done := by
    intro X hP hw hK hc i pins s σ H E I hf st hg
    subst hP hw hK
    obtain ⟨⟨old, he⟩, hit, hne⟩ := st
    obtain ⟨xs, hq, hx⟩ := hg
    obtain ⟨its, rv, p, hz⟩ := I.tuple hq
    obtain ⟨f0, f1, f2, f3, f4, f5⟩ := hf it (by simp)
    have hl := rv.length
    refine wpAny_pyNext_enum_endT (I.ok.hd hc) he hit p (by simp; omega) fun h' eb => ⟨rfl, I.turned (t' := s.toks) (fun b o hb q => eb b o hb q) f0 f1 f3 f4 f5⟩
  self := fun A i s Q E st h => let ⟨⟨_, he⟩, _⟩ := st; wpAny_pyIter_enum he h
def iEnumT (K : PySem.W.Frag) (ta : TA) : TI := fun σ H R => ta σ H fun vs H1 => ∃ a xs, vs = [.ref a] ∧ SqT K H1 a xs ∧ R (IteT K a) H1
theorem pi_enumT {X : Cx} {e : Expr} {ta : TA} {p pos tpos : Pos} {elts : List Expr} {kk : Nat} (hg : Gl X "enumerate") (hm : X.mg "enumerate" = none) (ha : PA X [e] ta) (hs : starEach [e] X.env = [(false, eval e X.env)] := by rfl) :
    PI X (.Tuple elts kk tpos) (.Call (.Name "enumerate" p) [e] [] pos) (iEnumT X.K ta) := by
  refine ⟨fun pins s σ H R I h => ?_⟩
  refine Call_ (ld_blt I hg hm boot_enumerate (PyProof.Rows.callWith_type1 (thn (ha.run pos pins s σ H _ I h) fun us s1 ⟨vs, H1, I1, r1, q1⟩ => ?_) hs rfl))
  obtain ⟨a, xs, ex, hq, q⟩ := q1
  subst ex
  cases r1 with
  | cons r rr =>
    cases rr
    cases r
    obtain ⟨its, rv, p', hz⟩ := I1.tuple hq
    have hlt : a < s1.heap.objs.size := by obtain ⟨_, q, _⟩ := p'; exact Heap.lt_size q
    refine call_enumerate_tup p' fun h' he hit hsz hk => wpAny_pyIter_enum he ?_
    have I2 : Inv X pins σ H1 { s1 with heap := h' } := I1.kept (t' := s1.toks) hk
    refine ⟨s1.heap.objs.size + 1, [s1.heap.objs.size + 1, s1.heap.objs.size], _, _, H1, rfl, I2, turn_enumT a (s1.heap.objs.size + 1) s1.heap.objs.size (Nat.ne_of_lt (Nat.lt_succ_of_lt hlt)) (Nat.ne_of_lt hlt), ⟨⟨.none, he⟩, hit, Nat.succ_ne_self _⟩, fun b hb => ?_, q⟩
    have e' : b = s1.heap.objs.size + 1 ∨ b = s1.heap.objs.size := by simpa using hb
    have hle : s1.heap.objs.size ≤ b := by
      rcases e' with z | z
      · rw [z]; exact Nat.le_add_right _ _
      · rw [z]; exact Nat.le_refl _
    exact I1.fpOk hle (I1.hok.fresh hle)
end NW

/-! Sources of loops; loops over dicts. -/
namespace NW
open PySem PySem.Spec PyProof.Rows L2 Evl
section
variable {T : Wd} {F H F0 : Hp}
theorem RepS.get {kvs : List (Key × V)} {es : List (Str × D)} (r : RepS T F kvs es) : ∀ {i : Nat} {k : Str} {d : D}, es[i]? = some (k, d) → ∃ v, kvs[i]? = some (.inr k, v) ∧ Rep T F v d := by
  induction es generalizing kvs with
  | nil => intro i k d e; simp at e
  | cons p es ih =>
    cases r with
    | cons h t =>
      intro i k d e
      cases i with
      | zero => simp at e; obtain ⟨rfl, rfl⟩ := e; exact ⟨_, rfl, h⟩
      | succ i => simpa using ih t (i := i) (by simpa using e)
theorem RepT.get {xs : List (NestedKey × Addr × V)} {es : List (D × D)} (r : RepT T F xs es) : ∀ {i : Nat} {k : D} {d : D}, es[i]? = some (k, d) → ∃ b v, xs[i]? = some (k.key, b, v) ∧ Rep T F (.ref b) k := by
  induction es generalizing xs with
  | nil => intro i k d e; simp at e
  | cons p es ih =>
    cases r with
    | cons h1 h2 h3 h4 t =>
      intro i k d e
      cases i with
      | zero => simp at e; obtain ⟨rfl, rfl⟩ := e; exact ⟨_, _, rfl, h1⟩
      | succ i => simpa using ih t (i := i) (by simpa using e)
theorem src_list {a : Addr} {xs : List V} {ds : List D} (K : PySem.W.Frag) (h : F0 a = some (.lst xs)) (r : RepL T F0 xs ds) : Src T F0 (Itl K a) ds where
  go := fun i F H e1 e2 hi => ⟨xs, xs[i]'(by rw [r.len]; exact hi), .inl (.of (e2 _ _ (e1 _ _ h))), List.getElem?_eq_getElem _⟩
  yld := fun i F H x H' d e1 e2 y hd => by
    obtain ⟨rfl, y⟩ := y
    obtain ⟨v, h1, h2⟩ := r.get hd
    have := y xs (.inl (.of (e2 _ _ (e1 _ _ h))))
    rw [h1] at this
    cases this
    exact ⟨F, .refl e2, h2.ex e1⟩
  stop := fun i F H e1 e2 hi => ⟨xs, .inl (.of (e2 _ _ (e1 _ _ h))), by rw [r.len]; exact hi⟩
theorem src_tup {a : Addr} {xs : List V} {ds : List D} (h : SqT T.K F0 a xs) (r : RepL T F0 xs ds) : Src T F0 (Itt T.K a) ds where
  go := fun i F H e1 e2 hi => ⟨xs, xs[i]'(by rw [r.len]; exact hi), (RdLe.ex (e1.trans e2)).t h, List.getElem?_eq_getElem _⟩
  yld := fun i F H x H' d e1 e2 y hd => by
    obtain ⟨rfl, y⟩ := y
    obtain ⟨v, h1, h2⟩ := r.get hd
    have := y xs ((RdLe.ex (e1.trans e2)).t h)
    rw [h1] at this
    cases this
    exact ⟨F, .refl e2, h2.ex e1⟩
  stop := fun i F H e1 e2 hi => ⟨xs, (RdLe.ex (e1.trans e2)).t h, by rw [r.len]; exact hi⟩
/-- 0, 1, .. with the things -/
def enumD (n : Nat) : List D → List D
  | [] => []
  | d :: ds => .tup [.int n, d] :: enumD (n + 1) ds
theorem enumD_get : ∀ {ds : List D} {n i : Nat} {z : D}, (enumD n ds)[i]? = some z → ∃ d, ds[i]? = some d ∧ z = .tup [.int ((n + i : Nat) : Int), d]
  | [], n, i, z, h => by simp [enumD] at h
  | d :: ds, n, 0, z, h => by simp [enumD] at h; exact ⟨d, rfl, h.symm⟩
  | d :: ds, n, i + 1, z, h => by
    have h' : (enumD (n + 1) ds)[i]? = some z := by simpa [enumD] using h
    obtain ⟨e, h1, h2⟩ := enumD_get h'
    refine ⟨e, by simpa using h1, ?_⟩
    rw [h2]
    have : n + 1 + i = n + (i + 1) := by omega
    rw [this]
theorem enumD_len : ∀ {ds : List D} {n : Nat}, (enumD n ds).length = ds.length
  | [], _ => rfl
  | d :: ds, n => by simp [enumD, enumD_len]
theorem pair_rep {x : V} {d : D} {i : Int} {p : Addr} (s : Ex F H) (hp : H p = none) (r : Rep T F x d) : EStp F H (upd F p (.tup [.int i, x])) (upd H p (.tup [.int i, x])) ∧ Rep T (upd F p (.tup [.int i, x])) (.ref p) (.tup [.int i, d]) :=
  tup_new s hp (.cons (.int i) (.cons r .nil))
theorem src_enumL {a : Addr} {xs : List V} {ds : List D} (K : PySem.W.Frag) (h : F0 a = some (.lst xs)) (r : RepL T F0 xs ds) : Src T F0 (Ite K a) (enumD 0 ds) where
  go := fun i F H e1 e2 hi => ⟨xs, xs[i]'(by rw [r.len]; rw [enumD_len] at hi; exact hi), .inl (.of (e2 _ _ (e1 _ _ h))), List.getElem?_eq_getElem _⟩
  yld := fun i F H x H' d e1 e2 y hd => by
    obtain ⟨t, u, rfl, ht, rfl, y⟩ := y
    obtain ⟨z, hz, rfl⟩ := enumD_get hd
    obtain ⟨v, h1, h2⟩ := r.get hz
    have := y xs (.inl (.of (e2 _ _ (e1 _ _ h))))
    rw [h1] at this
    cases this
    rw [Nat.zero_add]
    exact ⟨_, pair_rep e2 ht (h2.ex e1)⟩
  stop := fun i F H e1 e2 hi => ⟨xs, .inl (.of (e2 _ _ (e1 _ _ h))), by rw [r.len]; rw [enumD_len] at hi; exact hi⟩
theorem src_enumT {a : Addr} {xs : List V} {ds : List D} (h : SqT T.K F0 a xs) (r : RepL T F0 xs ds) : Src T F0 (IteT T.K a) (enumD 0 ds) where
  go := fun i F H e1 e2 hi => ⟨xs, xs[i]'(by rw [r.len]; rw [enumD_len] at hi; exact hi), (RdLe.ex (e1.trans e2)).t h, List.getElem?_eq_getElem _⟩
  yld := fun i F H x H' d e1 e2 y hd => by
    obtain ⟨t, u, rfl, ht, rfl, y⟩ := y
    obtain ⟨z, hz, rfl⟩ := enumD_get hd
    obtain ⟨v, h1, h2⟩ := r.get hz
    have := y xs ((RdLe.ex (e1.trans e2)).t h)
    rw [h1] at this
    cases this
    rw [Nat.zero_add]
    exact ⟨_, pair_rep e2 ht (h2.ex e1)⟩
  stop := fun i F H e1 e2 hi => ⟨xs, (RdLe.ex (e1.trans e2)).t h, by rw [r.len]; rw [enumD_len] at hi; exact hi⟩
/-- 0, 1, .. n - 1 -/
def rngD (n : Nat) : List D := (List.range n).map fun i => .int (i : Nat)
theorem src_rng {n : Nat} : Src T F0 (Itr 0 n) (rngD n) where
  go := fun i F H e1 e2 hi => by
    show i < n
    simpa [rngD] using hi
  yld := fun i F H x H' d e1 e2 y hd => by
    obtain ⟨rfl, rfl⟩ := y
    have : d = .int (i : Nat) := by
      unfold rngD at hd
      rw [List.getElem?_map] at hd
      cases q : (List.range n)[i]? with
      | none => rw [q] at hd; cases hd
      | some j =>
        rw [q] at hd
        have := List.getElem?_eq_some_iff.mp q
        obtain ⟨_, rfl⟩ := this
        simpa using hd.symm
    subst this
    refine ⟨F, .refl e2, ?_⟩
    rw [Int.zero_add]
    exact .int _
  stop := fun i F H e1 e2 hi => by
    show n ≤ i
    simpa [rngD] using hi
def zipD : List D → List D → List D
  | d :: ds, e :: es => .tup [d, e] :: zipD ds es
  | _, _ => []
theorem zipD_get : ∀ {ds es : List D} {i : Nat} {z : D}, (zipD ds es)[i]? = some z → ∃ d e, ds[i]? = some d ∧ es[i]? = some e ∧ z = .tup [d, e]
  | [], es, i, z, h => by simp [zipD] at h
  | d :: ds, [], i, z, h => by simp [zipD] at h
  | d :: ds, e :: es, 0, z, h => by simp [zipD] at h; exact ⟨d, e, rfl, rfl, h.symm⟩
  | d :: ds, e :: es, i + 1, z, h => by
    have h' : (zipD ds es)[i]? = some z := by simpa [zipD] using h
    obtain ⟨a, b, h1, h2, h3⟩ := zipD_get h'
    exact ⟨a, b, by simpa using h1, by simpa using h2, h3⟩
theorem zipD_len : ∀ {ds es : List D}, (zipD ds es).length = min ds.length es.length
  | [], es => by simp [zipD]
  | d :: ds, [] => by simp [zipD]
  | d :: ds, e :: es => by simp [zipD, zipD_len]
theorem src_zip {a b : Addr} {xs ys : List V} {ds es : List D} (h : SqT T.K F0 a xs) (h' : SqT T.K F0 b ys) (r : RepL T F0 xs ds) (r' : RepL T F0 ys es) : Src T F0 (RZ.ItzT T.K a b) (zipD ds es) where
  go := fun i F H e1 e2 hi => by
    rw [zipD_len, Nat.lt_min] at hi
    exact ⟨xs, ys, xs[i]'(by rw [r.len]; exact hi.1), ys[i]'(by rw [r'.len]; exact hi.2), (RdLe.ex (e1.trans e2)).t h, (RdLe.ex (e1.trans e2)).t h', List.getElem?_eq_getElem _, List.getElem?_eq_getElem _⟩
  yld := fun i F H x H' d e1 e2 y hd => by
    obtain ⟨t, u, w, rfl, ht, rfl, y1, y2⟩ := y
    obtain ⟨z, z', hz, hz', rfl⟩ := zipD_get hd
    obtain ⟨v, h1, h2⟩ := r.get hz
    obtain ⟨v', h1', h2'⟩ := r'.get hz'
    have e := y1 xs ((RdLe.ex (e1.trans e2)).t h)
    have e' := y2 ys ((RdLe.ex (e1.trans e2)).t h')
    rw [h1] at e
    rw [h1'] at e'
    cases e
    cases e'
    exact ⟨_, tup_new e2 ht (.cons (h2.ex e1) (.cons (h2'.ex e1) .nil))⟩
  stop := fun i F H e1 e2 hi => by
    rw [zipD_len] at hi
    refine ⟨xs, ys, (RdLe.ex (e1.trans e2)).t h, (RdLe.ex (e1.trans e2)).t h', ?_⟩
    rw [r.len, r'.len]
    omega
end

/-! ### keys of a dict of tuples -/
def ItX (d : Addr) (ob : Obj) (xs : List (NestedKey × Addr × V)) : It :=
  ⟨fun i H => Rd H d (xo d ob) ∧ i < xs.length, fun i H x H' => H' = H ∧ ∃ k b v, xs[i]? = some (k, b, v) ∧ x = .ref b, fun i H => Rd H d (xo d ob) ∧ xs.length ≤ i⟩
section
variable {P : Program} {w : World} {K : PySem.W.Frag} {tg : Expr} {d : Addr} {o : Obj} {es : Array DictEntry} {ep : Nat}
theorem pairG {α β : Type} {R : α → β → Prop} {xs : List α} {ys : List β} (p : Paired R xs ys) : ∀ {i : Nat} {x : α}, xs[i]? = some x → ∃ y, ys[i]? = some y ∧ R x y := by
  induction p with
  | nil => intro i x h; simp at h
  | cons h t ih =>
    intro i x e
    cases i with
    | zero => simp at e; subst e; exact ⟨_, rfl, h⟩
    | succ i => simpa using ih (i := i) (by simpa using e)
theorem turn_keysX {xs : List (NestedKey × Addr × V)} {ys : List (NestedKey × Addr × Value)} (it : Addr) (hod : o.data = .dict es ep) (tp : TP3 xs ys) (hes : es.toList = ys.map (entryOfKey (nestedKind P w))) :
    Turn P w K tg (ItX d o xs) [it] it (fun i h => h.IsKeyIter it d i xs.length ep) where
  mem := by simp
  obj := fun i h st b hb => by
    have e : b = it := by simpa using hb
    subst e
    obtain ⟨oi, e, c, dd⟩ := st
    exact ⟨oi, e, fun v z => by rw [dd] at z; cases z⟩
  keep := fun i h h' st k => st.at fun oi e => k it (by simp) oi e
  item := by
    intro X hP hw hK hc i pins s σ H E I hf st hg
    subst hP hw hK
    obtain ⟨hd, hi⟩ := hg
    obtain ⟨f0, f1, f2, f3, f4, f5⟩ := hf it (by simp)
    obtain ⟨hgd, _⟩ := hd.ok I.hok
    have hsz : es.size = xs.length := by
      have l := congrArg List.length hes
      rw [Array.length_toList, List.length_map, ← Paired.length tp] at l
      exact l
    obtain ⟨⟨k, b, v⟩, hkv⟩ : ∃ p, xs[i]? = some p := ⟨xs[i], List.getElem?_eq_getElem hi⟩
    obtain ⟨⟨k', b', v'⟩, hy, e1, e2, e3⟩ := pairG tp hkv
    have hen : es[i]? = some (entryOfKey (nestedKind X.prog X.w) (k', b', v')) := by
      have : es.toList[i]? = some (entryOfKey (nestedKind X.prog X.w) (k', b', v')) := by rw [hes, List.getElem?_map, hy]; rfl
      simpa using this
    refine next_key_item st hgd hod hsz hen fun h' st' sb => ?_
    have I1 : Inv X pins σ H { s with heap := h' } := I.turned (t' := s.toks) (fun b ob hb e => (sb.2 b hb).trans e) f0 f1 f3 f4 f5
    obtain ⟨oi, e, c, dd⟩ := id st'
    have e2' : b = b' := e2
    refine ⟨_, rfl, go_of (s := { s with heap := h' }) e c dd (by decide) ⟨.ref b, H, I1, ?_, ⟨rfl, k, b, v, hkv, rfl⟩, st', fun b hb => (hf b hb).1⟩⟩
    show Value.ref b' = Value.ref b
    rw [e2']
  done := by
    intro X hP hw hK hc i pins s σ H E I hf st hg
    subst hP hw hK
    obtain ⟨hd, hi⟩ := hg
    obtain ⟨f0, f1, f2, f3, f4, f5⟩ := hf it (by simp)
    obtain ⟨hgd, _⟩ := hd.ok I.hok
    have hsz : es.size = xs.length := by
      have l := congrArg List.length hes
      rw [Array.length_toList, List.length_map, ← Paired.length tp] at l
      exact l
    exact next_key_end (I.ok.hd hc) st hgd hod hsz hi fun h' eb => ⟨rfl, I.turned (t' := s.toks) (fun b ob hb e => eb b ob hb e) f0 f1 f3 f4 f5⟩
  self := fun A i s Q E st h => by
    refine wpAny_pyIter_slot st.typeIs F.slot_dict_keyiterator_iter (wpAny_call_entry F.slot_dict_keyiterator_iter st.typeIs F.entry_dict_keyiterator_iter ?_ (F.args_dict_keyiterator_iter_1 _))
    show wpAny _ _ (ret (.ref it)) _ _ s
    exact wpAny_pure ⟨_, rfl, "dict_keyiterator", _, st.typeIs, F.slot_dict_keyiterator_next.lookup, h⟩
end
section
variable {X : Cx} {tg e a b : Expr} {pos p : Pos}
def iKX (T : Wd) (td : TE) : TI := fun σ H R => td σ H fun x H1 => ∃ d ob xs, x = .ref d ∧ Rd H1 d (xo d ob) ∧ DObT T d ob xs ∧ R (ItX d ob xs) H1
theorem pi_keysX {td : TE} (he : PE X e td) : PI X tg e (iKX (wd X) td) := by
  refine ⟨fun pins s σ H R I h => ?_⟩
  refine thn (he.run pins s σ H _ I h) fun u s1 ⟨x, H1, I1, rx, d, ob, xs, ex, hd, o, q⟩ => ?_
  subst ex
  obtain rfl : u = Value.ref d := rx
  obtain ⟨hgd, _⟩ := hd.ok I1.hok
  obtain ⟨ys, tp, hx, es, ep, hdt, hes, nd⟩ := o.ob
  have hsz : es.size = xs.length := by
    have l := congrArg List.length hes
    rw [Array.length_toList, List.length_map, ← Paired.length tp] at l
    exact l
  refine iter_keys o.nm hgd hx hdt (pi_one (tk := s1.toks) I1 _ (turn_keysX _ hdt tp hes) ⟨_, Heap.get?_push_size _ rfl, rfl, ?_⟩ q)
  rw [hsz] <;> rfl
theorem src_keysX {T : Wd} {F0 : Hp} {d : Addr} {ob : Obj} {xs : List (NestedKey × Addr × V)} {es : List (D × D)} (h : Rd F0 d (xo d ob)) (r : RepT T F0 xs es) : Src T F0 (ItX d ob xs) (es.map (·.1)) where
  go := fun i F H e1 e2 hi => ⟨ex_rd (e1.trans e2) h, by rw [r.len]; simpa using hi⟩
  yld := fun i F H x H' z e1 e2 y hd => by
    obtain ⟨rfl, k, b, v, y, rfl⟩ := y
    rw [List.getElem?_map] at hd
    cases q : es[i]? with
    | none => rw [q] at hd; cases hd
    | some kd =>
      rw [q] at hd
      cases hd
      obtain ⟨b', v', h1, h2⟩ := r.get q
      rw [h1] at y
      cases y
      exact ⟨F, .refl e2, h2.ex e1⟩
  stop := fun i F H e1 e2 hi => ⟨ex_rd (e1.trans e2) h, by rw [r.len]; simpa using hi⟩

/-! ### the sources -/
def seqS (d : DE) : DA := fun ρ => match d ρ with
  | some (.lst ds, _) => some ds
  | _ => none
theorem sf_list {d : DE} (h : SE X e d) : SF X tg e (seqS d) := pi_imp (pi_list h) fun σ H R ⟨ρ, F, ds, A, q, k⟩ => by
  unfold seqS at q
  split at q
  · rename_i hq
    cases q
    refine ⟨ρ, F, _, _, A, hq, fun v F' H' s r => ?_⟩
    obtain ⟨F2, s2, _, r2⟩ := r.frz s
    cases r2 with
    | lst ha r3 => exact ⟨_, rfl, ⟨_, .inl (.of (s2.sub _ _ ha))⟩, k _ F2 H' s2 (src_list _ ha r3)⟩
  · cases q
def seqT (d : DV) : DA := fun ρ => match d ρ with
  | some (.tup ds) => some ds
  | _ => none
theorem sf_tup {d : DV} (h : SV X e d) : SF X tg e (seqT d) := pi_imp (pi_tup h) fun σ H R ⟨ρ, F, ds, A, q, k⟩ => by
  unfold seqT at q
  split at q
  · rename_i hq
    cases q
    refine ⟨ρ, F, _, A, hq, fun v F' H' s r => ?_⟩
    cases r with
    | tup ha r3 => exact ⟨_, rfl, ⟨_, (RdLe.ex s.sub).t ha⟩, k _ F' H' s (src_tup ha r3)⟩
  · cases q
def keysT (d : DV) : DA := fun ρ => match d ρ with
  | some (.dT es) => some (es.map (·.1))
  | _ => none
theorem sf_keysT {d : DV} (h : SV X e d) : SF X tg e (keysT d) := pi_imp (pi_keysX h) fun σ H R ⟨ρ, F, ds, A, q, k⟩ => by
  unfold keysT at q
  split at q
  · rename_i hq
    cases q
    refine ⟨ρ, F, _, A, hq, fun v F' H' s r => ?_⟩
    cases r with
    | dT ha o r3 => exact ⟨_, _, _, rfl, ex_rd s.sub ha, o, k _ F' H' s (src_keysX ha r3)⟩
  · cases q
def rngS (d : DV) : DA := fun ρ => match d ρ with
  | some (.int i) => if decide (0 ≤ i) && decide (i ≤ 100000) then some (rngD i.toNat) else none
  | _ => none
theorem sf_range {d : DV} (hg : Gl X "range") (hm : X.mg "range" = none) (h : SV X a d) (h1 : Arg1 X a := by rfl) : SF X tg (.Call (.Name "range" p) [a] [] pos) (rngS d) :=
  pi_imp (pi_range1 hg hm (pa_cons h pa_nil h1) h1) fun σ H R ⟨ρ, F, ds, A, q, k⟩ => by
    unfold rngS at q
    split at q
    · rename_i hq
      split at q
      · rename_i hz
        cases q
        obtain ⟨z1, z2⟩ := Bool.and_eq_true_iff.mp hz
        have z1 := of_decide_eq_true z1
        have z2 := of_decide_eq_true z2
        refine ⟨ρ, F, _, A, hq, fun v F' H' s r => ?_⟩
        cases r
        exact ⟨_, rfl, by omega, by omega, k _ F' H' s src_rng⟩
      · cases q
    · cases q
def enumL (d : DE) : DA := fun ρ => (seqS d ρ).map (enumD 0)
def enumT (d : DV) : DA := fun ρ => (seqT d ρ).map (enumD 0)
theorem sf_enumL {d : DE} {els : List Expr} {n : Nat} {tp : Pos} (hg : Gl X "enumerate") (hm : X.mg "enumerate" = none) (h : SE X a d) (h1 : Arg1 X a := by rfl) : SF X (.Tuple els n tp) (.Call (.Name "enumerate" p) [a] [] pos) (enumL d) :=
  pi_imp (pi_enum hg hm (pa_cons h pa_nil h1) h1) fun σ H R ⟨ρ, F, ds, A, q, k⟩ => by
    unfold enumL seqS at q
    split at q
    · rename_i hq
      cases q
      refine ⟨ρ, F, _, _, A, hq, fun v F' H' s r => ?_⟩
      obtain ⟨F2, s2, _, r2⟩ := r.frz s
      cases r2 with
      | lst ha r3 => exact ⟨_, _, rfl, .inl (.of (s2.sub _ _ ha)), k _ F2 H' s2 (src_enumL _ ha r3)⟩
    · cases q
theorem sf_enumT {d : DV} {els : List Expr} {n : Nat} {tp : Pos} (hg : Gl X "enumerate") (hm : X.mg "enumerate" = none) (h : SV X a d) (h1 : Arg1 X a := by rfl) : SF X (.Tuple els n tp) (.Call (.Name "enumerate" p) [a] [] pos) (enumT d) :=
  pi_imp (pi_enumT hg hm (pa_cons h pa_nil h1) h1) fun σ H R ⟨ρ, F, ds, A, q, k⟩ => by
    unfold enumT seqT at q
    split at q
    · rename_i hq
      cases q
      refine ⟨ρ, F, _, A, hq, fun v F' H' s r => ?_⟩
      cases r with
      | tup ha r3 => exact ⟨_, _, rfl, (RdLe.ex s.sub).t ha, k _ F' H' s (src_enumT ha r3)⟩
    · cases q
def zipT (d d' : DV) : DA := fun ρ => (seqT d ρ).bind fun xs => (seqT d' ρ).bind fun ys => some (zipD xs ys)
theorem seqT_eq {d : DV} {ρ : Ro} {ds : List D} (h : seqT d ρ = some ds) : d ρ = some (.tup ds) := by
  unfold seqT at h
  split at h
  · rename_i q; cases h; exact q
  · cases h
theorem sf_zip {d d' : DV} {els : List Expr} {n : Nat} {tp : Pos} (hg : Gl X "zip") (hm : X.mg "zip" = none) (h : SV X a d) (h' : SV X b d') (h1 : Arg2 X a b := by rfl) (h2 : Arg1 X b := by rfl) (hpl : (backTo pos (starEach [b] X.env)).any (·.1) = false := by rfl) : SF X (.Tuple els n tp) (.Call (.Name "zip" p) [a, b] [] pos) (zipT d d') :=
  pi_imp (RZ.pi_zipA hg hm (pa_cons h (pa_cons h' pa_nil h2) (h1.trans (by rw [h2]))) (h1.trans (by rw [h2])) hpl) fun σ H R ⟨ρ, F, ds, A, q, k⟩ => by
    obtain ⟨xs, ys, q1, q2, q⟩ := bind2 q
    cases q
    refine ⟨ρ, F, _, A, seqT_eq q1, fun v F' H' s r => ⟨ρ, F', _, A.step s, seqT_eq q2, fun v' F2 H2 s2 r' => ?_⟩⟩
    have r := r.ex (s2.le s.sub)
    cases r with
    | tup ha r3 =>
      cases r' with
      | tup hb r4 => exact ⟨_, _, _, _, rfl, .inr ⟨(RdLe.ex s2.sub).t ha, (RdLe.ex s2.sub).t hb, k _ F2 H2 (s.trans s2) (src_zip ha hb r3 r4)⟩⟩
end
end NW

/-! Stores side by side, append, stores into dicts; calls of own defs. -/
namespace NW
open PySem PySem.Spec PyProof.Rows L2 Evl
section
variable {X : Cx} {e a b c : Expr} {es : List Expr} {st : Stmt} {pos : Pos}
/-! ### a, b = x, y -/
def putR (o : Bool) (i : Nat) (x : D × Bool) (ρ : Ro) : Option Ro := if o = true then (if x.2 = true then some (ρ.set i (.own x.1)) else none) else some (ρ.set i (.val x.1))
theorem FI.put {T : Wd} {F0 H0 F H F' H' : Hp} {ρ ρ' : Ro} {σ : L2.St} {v : V} {x : D × Bool} {o : Bool} {i : Nat} (I : FI T F0 H0 ρ σ F H) (s : EStp F H F' H') (r : Res T F H F' H' v x.1 x.2) (q : putR o i x ρ = some ρ') :
    ∃ F2, EStp F H F2 H' ∧ Ex F' F2 ∧ FI T F0 H0 ρ' (σ.set i (some v)) F2 H' := by
  obtain ⟨d, b⟩ := x
  unfold putR at q
  cases o with
  | true =>
    cases b with
    | false => cases q
    | true =>
      cases q
      exact ⟨F', s, Ex.refl _, I.setRes s r⟩
  | false =>
    cases q
    obtain ⟨F2, s2, le, r2⟩ := r.frz s
    exact ⟨F2, s2, le, (I.step s2).setVal r2⟩
def dPar (o o' : Bool) (i j : Nat) (d d' : DE) : DS := fun ρ => (d ρ).bind fun x => (d' ρ).bind fun y => (putR o i x ρ).bind fun ρ1 => (putR o' j y ρ1).map .nx
theorem map_some {α β : Type} {x : Option α} {f : α → β} {z : β} (h : x.map f = some z) : ∃ a, x = some a ∧ f a = z := by
  cases x with
  | none => cases h
  | some a => cases h; exact ⟨a, rfl, rfl⟩
theorem FI.bare {T : Wd} {F0 H0 F H F' H' : Hp} {ρ : Ro} {σ : L2.St} (I : FI T F0 H0 ρ σ F H) (s : EStp F H F' H') : At T ρ σ F' H' := (I.step s).at
theorem ss_par {o o' : Bool} {i j : Nat} {x y : Str} {d d' : DE} {px py pt : Pos} {kt k2 pt2} (hc : X.calm = true) (hN : X.N.Nodup) (hi : X.N[i]? = some x) (hj : X.N[j]? = some y) (hij : i ≠ j)
    (hx : X.env.scope.names.lookup x = some .local) (hy : X.env.scope.names.lookup y = some .local) (ha : SE X a d) (hb : SE X b d')
    (hw : swappedStores [.Tuple [.Name x px, .Name y py] kt pt] (.Tuple [a, b] k2 pt2) X.env = pure (some [x, y]))
    (hs : swapsWithSole [.Tuple [.Name x px, .Name y py] kt pt] (.Tuple [a, b] k2 pt2) pos.line X.env = pure false := by rfl) (h1 : Arg2 X a b := by rfl) (h2 : Arg1 X b := by rfl) :
    SS X (.Assign [.Tuple [.Name x px, .Name y py] kt pt] (.Tuple [a, b] k2 pt2) pos) (dPar o o' i j d d') :=
  ps_imp (ps_par hc hN hi hj hij hx hy (pa_cons ha (pa_cons hb pa_nil h2) (h1.trans (by rw [h2]))) hw hs) fun E σ H ⟨F0, H0, ρ, F, out, I, q, k⟩ => by
    obtain ⟨u, w, q1, q2, q⟩ := bind2 q
    obtain ⟨ρ1, q3, q⟩ := bind1 q
    obtain ⟨ρ2, q4, rfl⟩ := map_some q
    refine ⟨ρ, F, u.1, u.2, I.at, q1, fun v F1 H1 s1 r1 => ?_⟩
    obtain ⟨F1', s1', le1, I1⟩ := I.put s1 r1 q3
    refine ⟨ρ, F1', w.1, w.2, I.bare s1', q2, fun v' F2 H2 s2 r2 => ⟨v, v', rfl, ?_⟩⟩
    obtain ⟨F2', s2', le2, I2⟩ := I1.put s2 r2 q4
    exact k _ F2' H2 I2 ((s1'.le I.sub).trans (s2'.le s1'.sub))
def dPar3 (o o' o'' : Bool) (i j l : Nat) (d d' d'' : DE) : DS := fun ρ => (d ρ).bind fun x => (d' ρ).bind fun y => (d'' ρ).bind fun z => (putR o i x ρ).bind fun ρ1 => (putR o' j y ρ1).bind fun ρ2 => (putR o'' l z ρ2).map .nx
theorem ss_par3 {o o' o'' : Bool} {i j l : Nat} {x y z : Str} {d d' d'' : DE} {px py pz pt : Pos} {kt k2 pt2} (hc : X.calm = true) (hN : X.N.Nodup) (hi : X.N[i]? = some x) (hj : X.N[j]? = some y) (hl : X.N[l]? = some z) (hij : i ≠ j) (hil : i ≠ l) (hjl : j ≠ l)
    (hx : X.env.scope.names.lookup x = some .local) (hy : X.env.scope.names.lookup y = some .local) (hz : X.env.scope.names.lookup z = some .local) (ha : SE X a d) (hb : SE X b d') (hcc : SE X c d'')
    (hw : swappedStores [.Tuple [.Name x px, .Name y py, .Name z pz] kt pt] (.Tuple [a, b, c] k2 pt2) X.env = pure (some [x, y, z]))
    (hs : swapsWithSole [.Tuple [.Name x px, .Name y py, .Name z pz] kt pt] (.Tuple [a, b, c] k2 pt2) pos.line X.env = pure false := by rfl)
    (h1 : starEach [a, b, c] X.env = (false, eval a X.env) :: starEach [b, c] X.env := by rfl) (h2 : Arg2 X b c := by rfl) (h3 : Arg1 X c := by rfl) :
    SS X (.Assign [.Tuple [.Name x px, .Name y py, .Name z pz] kt pt] (.Tuple [a, b, c] k2 pt2) pos) (dPar3 o o' o'' i j l d d' d'') :=
  ps_imp (ps_par3 hc hN hi hj hl hij hil hjl hx hy hz (pa_cons ha (pa_cons hb (pa_cons hcc pa_nil h3) (h2.trans (by rw [h3]))) h1) hw hs) fun E σ H ⟨F0, H0, ρ, F, out, I, q, k⟩ => by
    obtain ⟨u, w, t, q1, q2, q5, q⟩ := bind3 q
    obtain ⟨ρ1, q3, q⟩ := bind1 q
    obtain ⟨ρ2, q4, q⟩ := bind1 q
    obtain ⟨ρ3, q6, rfl⟩ := map_some q
    refine ⟨ρ, F, u.1, u.2, I.at, q1, fun v F1 H1 s1 r1 => ?_⟩
    obtain ⟨F1', s1', le1, I1⟩ := I.put s1 r1 q3
    refine ⟨ρ, F1', w.1, w.2, I.bare s1', q2, fun v' F2 H2 s2 r2 => ?_⟩
    obtain ⟨F2', s2', le2, I2⟩ := I1.put s2 r2 q4
    refine ⟨ρ, F2', t.1, t.2, I.bare (s1'.trans s2'), q5, fun v'' F3 H3 s3 r3 => ⟨v, v', v'', rfl, ?_⟩⟩
    obtain ⟨F3', s3', le3, I3⟩ := I2.put s3 r3 q6
    exact k _ F3' H3 I3 (((s1'.le I.sub).trans (s2'.le s1'.sub)).trans (s3'.le s2'.sub))
/-! ### xs.append(e) -/
def dApp (i : Nat) (d : DV) : DS := fun ρ => (d ρ).bind fun y => match ρ[i]? with
  | some (.own (.lst l)) => if ok (l.length + 1) then some (.nx (ρ.set i (.own (.lst (l ++ [y]))))) else none
  | _ => none
theorem ss_app {i : Nat} {x : Str} {px apos cpos : Pos} {d : DV} (hN : X.N[i]? = some x) (hv : Vis X.env.scope x) (he : SV X e d) (h1 : Arg1 X e := by rfl)
    (hd : (x == ("__debug__" : Str)) = false := by decide) (hcd : (x == ("__classdict__" : Str)) = false := by decide)
    (hbase : attributeBase (.Name x px) "append" X.env (eval (.Name x px) X.env) = eval (.Name x px) X.env := by rfl)
    (hfew : ((backTo cpos (starEach [e] X.env)).all (fun x => !x.1) && (backToKw cpos (keywordEach [] X.env)).all (fun x => x.1.isSome)
      && decide (([e] : List Expr).length + ([] : List Keyword).length + (if ([] : List Keyword).isEmpty then 0 else 1) < 30)) = true := by rfl)
    (hline : (apos.endLine == cpos.line) = true := by rfl) (hs : swapsWith (.Call (.Attribute (.Name x px) "append" apos) [e] [] cpos) none pos.line X.env = pure false := by rfl) :
    SS X (.Expr (.Call (.Attribute (.Name x px) "append" apos) [e] [] cpos) pos) (dApp i d) :=
  ps_imp (ps_expr (pe_bm PySem.F.plainAttrs_list PySem.F.slot_list_append PySem.F.type_list_append mt_append (pe_var hN hv hd hcd) (pa_cons he pa_nil h1) hbase hfew hline h1 rfl) hs) fun E σ H ⟨F0, H0, ρ, F, out, I, q, k⟩ => by
    obtain ⟨y, q1, q⟩ := bind1 q
    split at q
    · rename_i l hl
      split at q
      · rename_i hz
        cases q
        obtain ⟨p, e1, z, f, w⟩ := I.own i _ hl
        obtain ⟨xs, hx, r⟩ := w
        refine ⟨_, e1, .inl ⟨rfl, xs, .inl (.of hx)⟩, ρ, F, y, I.at, q1, fun v F1 H1 s1 r1 => ?_⟩
        have hx1 := s1.ex _ _ hx
        have I1 := I.step s1
        have r' := r.ex (s1.le I.sub)
        refine ⟨p, xs, v, rfl, rfl, hx1, ?_, ?_⟩
        · have e2 := r.len
          have e3 := ok_sz hz
          omega
        · exact k σ F1 _ (I1.mut hl e1 ⟨_, upd_same, r'.app (.cons r1 .nil)⟩) (s1.le I.sub)
      · cases q
    · cases q
/-! ### d[q] = v -/
def putD : D → D → D → Option D
  | .dS es, .str k, z => if ok (es.length + 1) then some (.dS (putS es k z)) else none
  | .dT es, k, z => if ok (es.length + 1) && keyOk k then some (.dT (putT es k z)) else none
  | _, _, _ => none
def tPut (T : Wd) : TSet := fun o y v H Q => ∃ F p a k z b, o = .ref p ∧ Ex F H ∧ F p = none ∧ Own T F H p a ∧ Rep T F y k ∧ Rep T F v z ∧ putD a k z = some b ∧ ∀ u, Own T F (upd H p u) p b → Q (upd H p u)
theorem set_put (hu : Rm X) : PSet X (tPut (wd X)) := by
  intro pins s σ H o i v ov iv u Q I ro ri rv ⟨F, p, a, k, z, b, e, sub, f, w, ry, rz, q, kk⟩
  subst e
  cases ro
  unfold putD at q
  split at q
  · split at q
    · rename_i hz
      cases q
      obtain ⟨kvs, hx, r⟩ := w
      cases ry
      exact setS (by omega) I hx r ri rz rv hz fun s' kvs' I' r' => ⟨_, I', kk _ ⟨kvs', upd_same, r'⟩⟩
    · cases q
  · split at q
    · rename_i hz
      obtain ⟨hz, hk⟩ := Bool.and_eq_true_iff.mp hz
      cases q
      obtain ⟨ob, xs, hx, w, r⟩ := w
      obtain ⟨b', rfl, rb⟩ := rep_ref (.inl ry : Pk (wd X) F H _ _) hk
      cases ri
      exact setT (by omega) I sub hx w r rb hk rz rv hz fun s' ob' xs' I' w' r' => ⟨_, I', kk _ ⟨ob', xs', upd_same, w', r'⟩⟩
    · cases q
  · cases q
def dPut (i : Nat) (dk dv : DV) : DS := fun ρ => (dv ρ).bind fun z => (dk ρ).bind fun k => match ρ[i]? with
  | some (.own a) => (putD a k z).map fun b => .nx (ρ.set i (.own b))
  | _ => none
theorem ss_put {i : Nat} {x : Str} {px sp : Pos} {dk dv : DV} (hu : Rm X) (hN : X.N[i]? = some x) (hv : Vis X.env.scope x) (hk : SV X a dk) (he : SV X e dv)
    (hd : (x == ("__debug__" : Str)) = false := by decide) (hcd : (x == ("__classdict__" : Str)) = false := by decide)
    (hst : ∀ v, assign (.Subscript (.Name x px) a sp) X.env v = (do
      let ov ← holding [v] (eval (.Name x px) X.env)
      let iv ← holding [v, ov] (eval a X.env)
      standAt sp
      holding [v, ov, iv] (setItem ov iv v)
      release [v, ov, iv] []) := by intro _; rfl)
    (hs : swapsWithSole [.Subscript (.Name x px) a sp] e pos.line X.env = pure false := by rfl) (hw : swappedStores [.Subscript (.Name x px) a sp] e X.env = pure none := by rfl)
    (h1 : (assignEach [.Subscript (.Name x px) a sp] X.env).map (·.2) = [assign (.Subscript (.Name x px) a sp) X.env] := by rfl) :
    SS X (.Assign [.Subscript (.Name x px) a sp] e pos) (dPut i dk dv) :=
  ps_imp (ps_asg he (pg_sub (pe_var hN hv hd hcd) hk (set_put hu) hst) hs hw h1) fun E σ H ⟨F0, H0, ρ, F, out, I, q, k⟩ => by
    obtain ⟨z, kd, q1, q2, q⟩ := bind2 q
    split at q
    · rename_i ad hl
      obtain ⟨bd, q3, rfl⟩ := map_some q
      refine ⟨ρ, F, z, I.at, q1, fun v F1 H1 s1 r1 => ?_⟩
      have I1 := I.step s1
      obtain ⟨p, e1, h0, f, w⟩ := I1.own i _ hl
      refine ⟨_, e1, ρ, F1, kd, I1.at, q2, fun y F2 H2 s2 r2 => ?_⟩
      have I2 := I1.step s2
      refine ⟨F2, p, ad, kd, z, bd, rfl, s2.sub, (s2.ag _ w.ne).trans f, w.step s2.ex (s2.le s1.sub), r2, r1.ex (s2.le s1.sub), q3, fun u w' => ?_⟩
      exact k σ F2 _ (I2.mut hl e1 w') ((s1.le I.sub).trans (s2.le s1.sub))
    · cases q
/-! ### calls -/
abbrev Fn := List D → Option (D × Bool)
/-- what a def promises -/
def spD (T : Wd) (n : Nat) (f : Fn) : Sp := fun vs H Q _ => ∃ F ds d b, Ex F H ∧ RepL T F vs ds ∧ ds.length = n ∧ f ds = some (d, b) ∧ ∀ v F' H', EStp F H F' H' → Res T F H F' H' v d b → Q v H'
structure CalD (P : Program) (w : World) (K : PySem.W.Frag) (mg : Str → Option Value) (base : Heap) (k : Nat) (x : Str) (n : Nat) (f : Fn) : Prop where
  ex : ∃ (fa : Addr) (fd : FuncData) (ps : List Str), FnOk P w K mg base L2.CX0 k fa fd ps (spD ⟨P, w, K⟩ n f) ∧ mg x = some (.ref fa) ∧ PySem.W.keepIn K (.ref fa) = true ∧ Binds K fd ps []
def dCall (n : Nat) (f : Fn) (da : DA) : DE := fun ρ => (da ρ).bind fun ds => if ds.length = n then f ds else none
theorem se_call {k j n : Nat} {x : Str} {f : Fn} {da : DA} {p : Pos} (c : CalD X.prog X.w X.K X.mg X.base k x n f) (hr : Room j X.A) (hk : k ≤ j) (hg : Gl X x) (ha : SA X (e :: es) da)
    (hdb : (x == ("__debug__" : Str)) = false := by decide) (he : starEach (e :: es) X.env = (false, eval e X.env) :: starEach es X.env := by rfl) (hpl : (backTo pos (starEach es X.env)).any (·.1) = false := by rfl) :
    SE X (.Call (.Name x p) (e :: es) [] pos) (dCall n f da) := by
  obtain ⟨fa, fd, ps, Fo, hm, kp, hb⟩ := c.ex
  refine pe_imp (pe_call Fo (hr.mono hk) hg hm kp hb .nil L2.pass0 ha hdb he hpl) fun σ H Q ⟨ρ, F, d, b, A, q, kk⟩ => ?_
  obtain ⟨ds, q1, q⟩ := bind1 q
  split at q
  · rename_i hn
    refine ⟨ρ, F, ds, A, q1, fun vs F1 H1 s1 r1 => ⟨F1, ds, d, b, s1.sub, by rw [List.append_nil]; exact r1, hn, q, fun v F2 H2 s2 r2 => ?_⟩⟩
    exact kk v F2 H2 (s1.trans s2) (r2.lift s1.ex)
  · cases q
theorem se_call0 {k j : Nat} {x : Str} {f : Fn} {p : Pos} (c : CalD X.prog X.w X.K X.mg X.base k x 0 f) (hr : Room j X.A) (hk : k ≤ j) (hg : Gl X x)
    (hdb : (x == ("__debug__" : Str)) = false := by decide) :
    SE X (.Call (.Name x p) [] [] pos) (fun _ => f []) := by
  obtain ⟨fa, fd, ps, Fo, hm, kp, hb⟩ := c.ex
  refine pe_imp (pe_call0 (sp := spD (wd X) 0 f) (E := L2.E0) Fo (hr.mono hk) hg hm kp hb .nil L2.pass0 hdb) fun σ H Q ⟨ρ, F, d, b, A, q, kk⟩ => ?_
  exact ⟨F, [], d, b, A.sub, .nil, rfl, q, fun v F2 H2 s2 r2 => kk v F2 H2 s2 r2⟩
/-- a def by its body -/
def endF : Out → Option (D × Bool)
  | .nx _ => some (.non, false)
  | .rt d b => some (d, b)
  | _ => none
def fnOf (m : Nat) (body : DS) : Fn := fun ds => (body (ds.map Slot.val ++ List.replicate (m - ds.length) Slot.un)).bind endF
theorem start_at {T : Wd} {F H : Hp} {N : List Str} {vs : List V} {ds : List D} (s : Ex F H) (r : RepL T F vs ds) (hl : ds.length ≤ N.length) : FI T F H (ds.map Slot.val ++ List.replicate (N.length - ds.length) Slot.un) (L2.start N vs) F H := by
  have el := r.len
  have key : ∀ (i : Nat) (sl : Slot), (ds.map Slot.val ++ List.replicate (N.length - ds.length) Slot.un)[i]? = some sl → sl = .un ∨ ∃ d, ds[i]? = some d ∧ sl = .val d ∧ i < vs.length := by
    intro i sl h
    by_cases hi : i < ds.length
    · rw [List.getElem?_append_left (by simpa using hi), List.getElem?_map, List.getElem?_eq_getElem hi] at h
      refine .inr ⟨ds[i], List.getElem?_eq_getElem hi, ?_, by omega⟩
      simpa using h.symm
    · rw [List.getElem?_append_right (by simpa using Nat.le_of_not_lt hi)] at h
      exact .inl (List.eq_of_mem_replicate (List.mem_of_getElem? h))
  refine ⟨.refl s, ?_, fun i d h => ?_, fun i d h => ?_, fun i j d e p h1 => ?_⟩
  · unfold L2.start
    simp only [List.length_append, List.length_map, List.length_replicate]
    omega
  · rcases key i _ h with h | ⟨d', h1, h2, h3⟩
    · cases h
    · cases h2
      obtain ⟨v, h4, h5⟩ := r.get h1
      refine ⟨v, ?_, h5⟩
      unfold L2.start
      rw [List.getElem?_append_left (by simpa using h3), List.getElem?_map, h4]
      rfl
  · rcases key i _ h with h | ⟨d', h1, h2, h3⟩
    · cases h
    · cases h2
  · rcases key i _ h1 with h | ⟨d', h1, h2, h3⟩
    · cases h
    · cases h2
theorem cal_body {P : Program} {w : World} {K : PySem.W.Frag} {mg : Str → Option Value} {base : Heap} {x : Str} {st : Stmt} {f : Addr} {fd : FuncData} {N ps : List Str} {k m n : Nat} {den : DS} (F : FunD K x x (defArgs st) (defBody st) (defScope st) [] [] f fd) (hmg : mg x = some (.ref f)) (b : Binds K fd ps []) (S : FnScope N ps (defScope st)) (hn : ps.length = n) (hm : N.length = m) (hnm : n ≤ m)
    (hbody : ∀ (cdv : Value) (A : Around) (outer : List Env) (s : Shared) (H : Hp) (E : XK), Room k (A.deeper (envOfC x (defScope st) s.heap.objs.size f cdv)) →
      SSs (cxOf L2.CX0 P w K mg base N x (defScope st) f cdv A outer s H E).nox (defBody st) den) : CalD P w K mg base (k + 1) x n (fnOf m den) := by
  refine ⟨f, fd, ps, F.ok S (fun vs H Q E ⟨F, ds, d, bb, s, r, l, _⟩ => ?_) (fun cdv A outer s H vs Q E hr ⟨F0, ds, d, bb, sub, r, l, q, kk⟩ => ⟨_, PSs.nox (hbody cdv A outer s H E hr), ?_⟩), hmg, F.kp, b⟩
  · rw [r.len, l, hn]
  · obtain ⟨o, q1, q2⟩ := bind1 q
    have I := start_at (T := ⟨P, w, K⟩) sub r (show ds.length ≤ N.length by omega)
    rw [hm] at I
    refine ⟨F0, H, _, F0, o, I, q1, ?_⟩
    cases o with
    | nx ρ =>
      cases q2
      exact fun σ' F' H' I' _ => kk _ F' H' I'.st .non
    | rt d' b' =>
      cases q2
      exact fun v F' H' s r => kk v F' H' s r
    | bk ρ => cases q2
    | ct ρ => cases q2
end
end NW

/-! List comprehensions. -/
namespace NW
open PySem PySem.Spec PyProof.Rows L2 Evl
def wipeR (ρ : Ro) : List Nat → Ro
  | [] => ρ
  | v :: vs => (wipeR ρ vs).set v .un
theorem FI.wipe {T : Wd} {F0 H0 F H : Hp} {ρ : Ro} {σ : L2.St} (I : FI T F0 H0 ρ σ F H) : ∀ vs, FI T F0 H0 (wipeR ρ vs) (L2.wipe σ vs) F H
  | [] => I
  | v :: vs => (I.wipe vs).setUn _
theorem wipe_wipe {σ : L2.St} {vs : List Nat} : L2.wipe (L2.wipe σ vs) vs = L2.wipe σ vs := by
  apply List.ext_getElem?
  intro j
  rw [wipe_get, wipe_get, wipe_length]
  by_cases h : j ∈ vs <;> simp [h]
/-- something else in the heap is written -/
theorem FI.other {T : Wd} {F0 H0 F H : Hp} {ρ : Ro} {σ : L2.St} {p : Addr} {u : HO} (I : FI T F0 H0 ρ σ F H) (h0 : H0 p = none) (hf : F p = none) (ap : ∀ (j : Nat) (e : D), ρ[j]? = some (Slot.own e) → σ[j]? ≠ some (some (.ref p))) : FI T F0 H0 ρ σ F (upd H p u) := by
  refine ⟨⟨fun a x h => ?_, fun a x h => ?_, I.st.ag⟩, I.len, I.val, fun j e h => ?_, I.one⟩
  · rw [upd_ne (by rintro rfl; rw [h0] at h; cases h)]
    exact I.st.ex a x h
  · rw [upd_ne (by rintro rfl; rw [hf] at h; cases h)]
    exact I.sub a x h
  · obtain ⟨q, e1, z, f, o⟩ := I.own j e h
    refine ⟨q, e1, z, f, o.keep (upd_ne ?_) (.ex (Ex.refl F))⟩
    rintro rfl
    exact ap j e h e1
def loopC (tg : DT) (c : DB) (el : DV) (vs : List Nat) : List D → List D → Ro → Option (List D)
  | [], acc, _ => some acc
  | d :: ds, acc, ρ => (tg d (wipeR ρ vs)).bind fun ρ1 => (c ρ1).bind fun b =>
    if b = true then (el ρ1).bind fun y => if ok acc.length then loopC tg c el vs ds (acc ++ [y]) ρ else none
    else loopC tg c el vs ds acc ρ
def dLc (src : DA) (tg : DT) (c : DB) (el : DV) (vs : List Nat) : DE := fun ρ => (src ρ).bind fun ds => (loopC tg c el vs ds [] ρ).map fun l => (.lst l, true)
theorem lc_go {T : Wd} {src : DA} {tg : DT} {c : DB} {el : DV} {vs is : List Nat} {σ : L2.St} {H F : Hp} {ρ : Ro} {Q : VK} {d : D} {bb : Bool} (his : ∀ i ∈ is, i ∈ vs) (A : At T ρ σ F H) (q : dLc src tg c el vs ρ = some (d, bb)) (k : ∀ v F' H', EStp F H F' H' → Res T F H F' H' v d bb → Q v H') :
    tLc (rF T src) (rG T is tg) (rB T c) (rV T el) vs σ H Q := by
  obtain ⟨ds, q1, q⟩ := bind1 q
  obtain ⟨l, q2, e⟩ := map_some q
  cases e
  refine ⟨ρ, F, ds, A, q1, fun J F1 H1 s1 S p hp => ?_⟩
  obtain ⟨F0, H0, I⟩ := A
  have I1 := I.step s1
  have h0 : H0 p = none := fresh_back I1.st.ex hp
  have hF1 : F1 p = none := Ex.none_sub s1.sub hp
  have ap : ∀ (j : Nat) (e : D), ρ[j]? = some (Slot.own e) → σ[j]? ≠ some (some (.ref p)) := I1.apart (F' := F1) (H' := H1) hp
  refine ⟨fun i m H2 => ∃ F2 acc accD, m = ds.length - i ∧ FI T F0 H0 ρ σ F2 H2 ∧ EStp F1 H1 F2 H2 ∧ H2 p = some (.lst acc) ∧ F2 p = none ∧ RepL T F2 acc accD ∧ loopC tg c el vs (ds.drop i) accD ρ = some l,
    ⟨_, F1, [], [], rfl, I1.other h0 hF1 ap, .newH s1.sub hp _, upd_same, hF1, .nil, by rw [List.drop_zero]; exact q2⟩, fun i m H2 ⟨F2, acc, accD, em, I2, st2, hp2, fp2, r2, q3⟩ => ?_⟩
  have le2 := st2.le s1.sub
  by_cases hi : i < ds.length
  · rw [List.drop_eq_getElem_cons hi] at q3
    obtain ⟨ρ1, q4, q3⟩ := bind1 (show ((tg ds[i] (wipeR ρ vs)).bind _) = some l from q3)
    obtain ⟨b, q5, q3⟩ := bind1 q3
    refine .inr ⟨S.go i F2 H2 le2 I2.sub hi, fun H' => ∃ F' acc accD, FI T F0 H0 ρ σ F' H' ∧ EStp F1 H1 F' H' ∧ H' p = some (.lst acc) ∧ F' p = none ∧ RepL T F' acc accD ∧ loopC tg c el vs (ds.drop (i + 1)) accD ρ = some l, fun H' ⟨F', acc, accD, w⟩ => ⟨_, by omega, F', acc, accD, rfl, w⟩, fun x H3 y => ?_⟩
    obtain ⟨F3, s3, r3⟩ := S.yld i F2 H2 x H3 ds[i] le2 I2.sub y (List.getElem?_eq_getElem hi)
    have I3 := I2.step s3
    refine ⟨F0, H0, wipeR ρ vs, F3, _, ρ1, I3.wipe vs, r3, q4, fun σ4 I4 ch => ⟨(ch vs his).trans wipe_wipe, ρ1, F3, b, I4.at, q5, fun F5 H5 s5 => ?_⟩⟩
    have s35 := s3.trans s5
    have hp5 : H5 p = some (.lst acc) := s35.ex _ _ hp2
    have fp5 : F5 p = none := (s35.ag p (some_ne hp2)).trans fp2
    cases b with
    | false =>
      rw [if_neg (by decide)] at q3
      exact ⟨F5, acc, accD, I3.step s5, st2.trans s35, hp5, fp5, r2.ex (s35.le I2.sub), q3⟩
    | true =>
      rw [if_pos rfl] at q3
      obtain ⟨yd, q6, q3⟩ := bind1 q3
      split at q3
      · rename_i hz
        refine ⟨ρ1, F5, yd, (I4.step s5).at, q6, fun yv F6 H6 s6 r6 => ?_⟩
        have s36 := s35.trans s6
        have hp6 : H6 p = some (.lst acc) := s36.ex _ _ hp2
        have fp6 : F6 p = none := (s36.ag p (some_ne hp2)).trans fp2
        have I6 := (I3.step s5).step s6
        have st6 := st2.trans s36
        have r2' := r2.ex (s36.le I2.sub)
        refine ⟨acc, hp6, ?_, F6, acc ++ [yv], accD ++ [yd], I6.other h0 fp6 ap, ⟨fun a o e => ?_, fun a o e => ?_, st6.ag⟩, upd_same, fp6, r2'.app (.cons r6 .nil), q3⟩
        · have e1 := r2.len
          have e2 : accD.length ≤ 100000 := of_decide_eq_true hz
          rw [e1, sizeLine_eq]
          omega
        · rw [upd_ne (by rintro rfl; rw [hp] at e; cases e)]
          exact st6.ex a o e
        · rw [upd_ne (by rintro rfl; rw [fp6] at e; cases e)]
          exact st6.sub a o e
      · cases q3
  · rw [List.drop_eq_nil_of_le (Nat.le_of_not_lt hi)] at q3
    cases q3
    exact .inl ⟨S.stop i F2 H2 le2 I2.sub (Nat.le_of_not_lt hi), k _ F2 H2 (s1.trans st2) ⟨p, rfl, fresh_back s1.ex hp, fp2, acc, hp2, r2⟩⟩
abbrev STs (X : Cx) (e : List Expr) (den : DB) : Prop := PTs X e (rB (wd X) den)
section
variable {X : Cx} {pos : Pos}
def dYes : DB := fun _ => some true
theorem sts_nil : STs X [] dYes := ⟨fun pins s σ H Q I ⟨ρ, F, b, A, q, k⟩ => by
  cases q
  exact pts_nil.run pins s σ H Q I (k F H (.refl A.sub))⟩
theorem sts_one {c : Expr} {d : DB} (h : ST X c d) : STs X [c] d := pts_one h
theorem se_lc {elt tg iter : Expr} {ifs : List Expr} {scope : Scope} {own : List (Str × Nat)} {src : DA} {g : DT} {c : DB} {el : DV} {is : List Nat} (hc : X.calm = true) (hN : X.N.Nodup) (hi : SF X tg iter src) (ok : BlkOk X.N X.env.scope scope own) (his : ∀ i ∈ is, i ∈ own.map (·.2))
    (hg : ∀ (s : Shared) (H : Hp) (C : Addr) (cl : List (Str × Addr)) (fp : List Addr), SG (X.blk s H scope (compEnvC scope cl C X.env) fp) tg is g) (ht : ∀ (s : Shared) (H : Hp) (C : Addr) (cl : List (Str × Addr)) (fp : List Addr), STs (X.blk s H scope (compEnvC scope cl C X.env) fp) ifs c)
    (he : ∀ (s : Shared) (H : Hp) (C : Addr) (cl : List (Str × Addr)) (fp : List Addr), SV (X.blk s H scope (compEnvC scope cl C X.env) fp) elt el) (hs : ∀ x, foldedSetIterable iter X.env x = pure x := by intro _; rfl) :
    SE X (.ListComp elt [⟨tg, iter, ifs, 0⟩] scope pos) (dLc src g c el (own.map (·.2))) :=
  pe_imp (pe_lc hc hN hi ok (fun s H C cl fp => hg s H C cl fp) (fun s H C cl fp => ht s H C cl fp) (fun s H C cl fp => he s H C cl fp) hs) fun σ H Q ⟨ρ, F, d, b, A, q, k⟩ => lc_go his A q k
end
end NW

/-! Loops over dicts with texts as keys: the dict is locked while the loop runs. -/
namespace NW
open PySem PySem.Spec PyProof.Rows L2 Evl
open Classical in
noncomputable def lk (p : Addr) (od : Obj) (u : HO) (G : Hp) : Hp := fun a => if a = p ∧ G a = some u then some (.frz od u) else G a
open Classical in
noncomputable def ul (p : Addr) (od : Obj) (u : HO) (G : Hp) : Hp := fun a => if a = p ∧ G a = some (.frz od u) then some u else G a
section
variable {T : Wd} {F H F0 H0 F1 H1 G : Hp} {p a : Addr} {od : Obj} {u o : HO} {ρ : Ro} {σ : L2.St}
theorem lk_at (h : G p = some u) : lk p od u G = upd G p (.frz od u) := by
  funext a
  unfold lk upd
  by_cases e : a = p
  · subst e; simp [h]
  · simp [e]
theorem ul_at (h : G p = some (.frz od u)) : ul p od u G = upd G p u := by
  funext a
  unfold ul upd
  by_cases e : a = p
  · subst e; simp [h]
  · simp [e]
theorem lk_ne (h : a ≠ p) : lk p od u G a = G a := by simp [lk, h]
theorem ul_ne (h : a ≠ p) : ul p od u G a = G a := by simp [ul, h]
theorem lk_p (h : G p = some u) : lk p od u G p = some (.frz od u) := by simp [lk, h]
theorem ul_p (h : G p = some (.frz od u)) : ul p od u G p = some u := by simp [ul, h]
theorem lk_not (h : G p ≠ some u) : lk p od u G = G := by
  funext a
  unfold lk
  by_cases e : a = p
  · subst e; simp [h]
  · simp [e]
theorem ul_not (h : G p ≠ some (.frz od u)) : ul p od u G = G := by
  funext a
  unfold ul
  by_cases e : a = p
  · subst e; simp [h]
  · simp [e]
theorem lk_none (h : G a = none) : lk p od u G a = none := by
  by_cases e : a = p
  · subst e
    rw [lk_not (by rw [h]; intro z; cases z)]
    exact h
  · rw [lk_ne e]; exact h
theorem ul_none (h : G a = none) : ul p od u G a = none := by
  by_cases e : a = p
  · subst e
    rw [ul_not (by rw [h]; intro z; cases z)]
    exact h
  · rw [ul_ne e]; exact h
theorem lk_ne_none (h : lk p od u G a ≠ none) : G a ≠ none := fun z => h (lk_none z)
theorem ul_ne_none (h : ul p od u G a ≠ none) : G a ≠ none := fun z => h (ul_none z)
theorem lk_ex (e : Ex F H) (h : H p = some u) : Ex (lk p od u F) (lk p od u H) := fun a o q => by
  by_cases ha : a = p
  · subst ha
    rw [lk_p h]
    by_cases hF : F a = some u
    · rw [lk_p hF] at q; exact q
    · rw [lk_not hF] at q
      have z := e a o q
      rw [h] at z
      exact absurd (q.trans z.symm) hF
  · rw [lk_ne ha] at q ⊢
    exact e a o q
theorem ul_ex (e : Ex F H) (h : H p = some (.frz od u)) : Ex (ul p od u F) (ul p od u H) := fun a o q => by
  by_cases ha : a = p
  · subst ha
    rw [ul_p h]
    by_cases hF : F a = some (.frz od u)
    · rw [ul_p hF] at q; exact q
    · rw [ul_not hF] at q
      have z := e a o q
      rw [h] at z
      exact absurd (q.trans z.symm) hF
  · rw [ul_ne ha] at q ⊢
    exact e a o q
theorem ul_lk (hm : plainO u) (hG : ∀ x, G p = some x → x = u) : ul p od u (lk p od u G) = G := by
  funext a
  by_cases ha : a = p
  · subst ha
    by_cases h : G a = some u
    · rw [ul_p (lk_p h), h]
    · have n : G a = none := by
        cases q : G a with
        | none => rfl
        | some x => exact absurd (by rw [q, hG x q]) h
      rw [ul_none (lk_none n), n]
  · rw [ul_ne ha, lk_ne ha]
theorem rdle_lk {kvs : List (Key × V)} : RdLe F (lk p od (.dK kvs) F) where
  rd := fun a w hw r => by
    by_cases ha : a = p
    · subst ha
      by_cases h : F a = some (.dK kvs)
      · rcases r with r | ⟨o, r⟩
        · rw [h] at r
          cases r
          exact .inr ⟨od, lk_p h⟩
        · rw [h] at r
          cases r
      · rw [lk_not h]; exact r
    · unfold Rd at r ⊢
      rw [lk_ne ha]; exact r
  l := fun a xs h => by
    by_cases ha : a = p
    · subst ha
      rw [lk_not (by rw [h]; intro z; cases z)]
      exact h
    · rw [lk_ne ha]; exact h
theorem rdle_ul {kvs : List (Key × V)} : RdLe F (ul p od (.dK kvs) F) where
  rd := fun a w hw r => by
    by_cases ha : a = p
    · subst ha
      by_cases h : F a = some (.frz od (.dK kvs))
      · rcases r with r | ⟨o, r⟩
        · rw [h] at r
          cases r
          exact hw.elim
        · rw [h] at r
          cases r
          exact .inl (ul_p h)
      · rw [ul_not h]; exact r
    · unfold Rd at r ⊢
      rw [ul_ne ha]; exact r
  l := fun a xs h => by
    by_cases ha : a = p
    · subst ha
      rw [ul_not (by rw [h]; intro z; cases z)]
      exact h
    · rw [ul_ne ha]; exact h
theorem estp_lk {kvs : List (Key × V)} (s : EStp F0 H0 F H) (h : H p = some (.dK kvs)) : EStp (lk p od (.dK kvs) F0) (lk p od (.dK kvs) H0) (lk p od (.dK kvs) F) (lk p od (.dK kvs) H) :=
  ⟨lk_ex s.ex h, lk_ex s.sub h, fun a ha => by
    have e := s.ag a (lk_ne_none ha)
    by_cases hp : a = p
    · subst hp
      unfold lk
      rw [e]
    · rw [lk_ne hp, lk_ne hp]; exact e⟩
theorem lk_back (h : lk p od u G a = none) : G a = none := by
  cases q : G a with
  | none => rfl
  | some x =>
    by_cases e : a = p
    · subst e
      by_cases hx : G a = some u
      · rw [lk_p hx] at h; cases h
      · rw [lk_not hx, q] at h; cases h
    · rw [lk_ne e, q] at h; cases h
theorem estp_ul {kvs : List (Key × V)} (s : EStp (lk p od (.dK kvs) F0) (lk p od (.dK kvs) H0) F H) (h : H p = some (.frz od (.dK kvs))) (b1 : ∀ x, H0 p = some x → x = .dK kvs) (b2 : H0 p ≠ none → F0 p = some (.dK kvs)) :
    EStp F0 H0 (ul p od (.dK kvs) F) (ul p od (.dK kvs) H) :=
  ⟨fun a o e => by
    by_cases hp : a = p
    · subst hp
      rw [ul_p h, b1 o e]
    · rw [ul_ne hp]
      exact s.ex a o (by rw [lk_ne hp]; exact e), ul_ex s.sub h, fun a ha => by
    have e := s.ag a (fun z => ha (lk_back z))
    by_cases hp : a = p
    · subst hp
      have z := b2 ha
      rw [lk_p z] at e
      rw [ul_p e, z]
    · rw [lk_ne hp] at e
      rw [ul_ne hp]; exact e⟩
theorem FI.lock {kvs : List (Key × V)} (I : FI T F0 H0 ρ σ F H) (h : H p = some (.dK kvs)) (hF : F p ≠ none) : FI T (lk p od (.dK kvs) F0) (lk p od (.dK kvs) H0) ρ σ (lk p od (.dK kvs) F) (lk p od (.dK kvs) H) := by
  refine ⟨estp_lk I.st h, I.len, fun i d e => ?_, fun i d e => ?_, I.one⟩
  · obtain ⟨v, e1, r⟩ := I.val i d e
    exact ⟨v, e1, r.mono rdle_lk⟩
  · obtain ⟨q, e1, z, f, o⟩ := I.own i d e
    refine ⟨q, e1, lk_none z, lk_none f, o.keep (lk_ne ?_) rdle_lk⟩
    rintro rfl
    exact hF f
theorem FI.unlock {kvs : List (Key × V)} (I : FI T (lk p od (.dK kvs) F0) (lk p od (.dK kvs) H0) ρ σ F H) (h : H p = some (.frz od (.dK kvs))) (hF : F p ≠ none) (b1 : ∀ x, H0 p = some x → x = .dK kvs) (b2 : H0 p ≠ none → F0 p = some (.dK kvs)) : FI T F0 H0 ρ σ (ul p od (.dK kvs) F) (ul p od (.dK kvs) H) := by
  refine ⟨estp_ul I.st h b1 b2, I.len, fun i d e => ?_, fun i d e => ?_, I.one⟩
  · obtain ⟨v, e1, r⟩ := I.val i d e
    exact ⟨v, e1, r.mono rdle_ul⟩
  · obtain ⟨q, e1, z, f, o⟩ := I.own i d e
    refine ⟨q, e1, lk_back z, ul_none f, o.keep (ul_ne ?_) rdle_ul⟩
    rintro rfl
    exact hF f
theorem Res.unlock {kvs : List (Key × V)} {v : V} {d : D} {b : Bool} (r : Res T (lk p od (.dK kvs) F0) (lk p od (.dK kvs) H0) F H v d b) (h : F p ≠ none) : Res T F0 H0 (ul p od (.dK kvs) F) (ul p od (.dK kvs) H) v d b := by
  cases b with
  | false => exact Rep.mono rdle_ul r
  | true =>
    obtain ⟨q, e, hn, hf, o⟩ := r
    refine ⟨q, e, lk_back hn, ul_none hf, o.keep (ul_ne ?_) rdle_ul⟩
    rintro rfl
    exact h hf
end
section
variable {X : Cx} {st : Stmt} {e : Expr}
/-- an expression behind which its dict is locked -/
def tLkV (te : TE) : TE := fun σ H Q => te σ H fun x H1 => ∃ d kvs, x = .ref d ∧ ((H1 d = some (.dK kvs) ∧ ∀ od, Q x (upd H1 d (.frz od (.dK kvs)))) ∨ ((∃ od, H1 d = some (.frz od (.dK kvs))) ∧ Q x H1))
theorem pe_lk {te : TE} (h : PE X e te) : PE X e (tLkV te) := ⟨fun pins s σ H Q I hw => thn (h.run pins s σ H _ I hw) fun v s1 ⟨x, H1, I1, r, d, kvs, ex, q⟩ => by
  subst ex
  rcases q with ⟨hd, q⟩ | ⟨_, q⟩
  · obtain ⟨od, I2⟩ := I1.lock hd trivial
    exact ⟨_, _, I2, r, q od⟩
  · exact ⟨_, H1, I1, r, q⟩⟩
/-- or unlocked first -/
def UN (H : Hp) (P : Hp → Prop) (H' : Hp) : Prop := P H' ∨ ∃ d kvs od, (∀ o' u', H d ≠ some (.frz o' u')) ∧ H' d = some (.frz od (.dK kvs)) ∧ P (upd H' d (.dK kvs))
def tUnl (t : TS) : TS := fun E σ H => t ⟨fun σ' H' => UN H (E.nx σ') H', fun v H' => UN H (E.rt v) H', fun σ' H' => UN H (E.bk σ') H', fun σ' H' => UN H (E.ct σ') H'⟩ σ H
theorem Inv.unl {pins : List (Addr × Obj)} {s s1 : Shared} {σ σ' : L2.St} {H H' : Hp} {P : Hp → Prop} (I : Inv X pins σ H s) (I2 : Inv X pins σ' H' s1) (q : UN H P H') : ∃ H2, Inv X pins σ' H2 s1 ∧ P H2 := by
  rcases q with q | ⟨d, kvs, od, hn, hd, q⟩
  · exact ⟨H', I2, q⟩
  · exact ⟨_, I2.unlock hd fun o' u' e => hn o' u' (I.base.frzs d o' u' e), q⟩
theorem ps_unl {t : TS} (h : PS X st t) : PS X st (tUnl t) := by
  refine ⟨fun pins s σ H E I hw => thn (h.run pins s σ _ _ I hw) fun f s1 q => ?_⟩
  cases f with
  | next => obtain ⟨σ', H', I2, q⟩ := q; obtain ⟨H2, I3, q⟩ := Inv.unl I I2 q; exact ⟨σ', H2, I3, q⟩
  | brk => obtain ⟨σ', H', I2, q⟩ := q; obtain ⟨H2, I3, q⟩ := Inv.unl I I2 q; exact ⟨σ', H2, I3, q⟩
  | cont => obtain ⟨σ', H', I2, q⟩ := q; obtain ⟨H2, I3, q⟩ := Inv.unl I I2 q; exact ⟨σ', H2, I3, q⟩
  | ret v => obtain ⟨x, σ', H', I2, r, q⟩ := q; obtain ⟨H2, I3, q⟩ := Inv.unl I I2 q; exact ⟨x, σ', H2, I3, r, q⟩
/-- the loop behind the source -/
theorem loop_go {T : Wd} {tg : DT} {body : DS} {is : List Nat} {E : Ends} {σ : L2.St} {H1 F0 H0 F1 : Hp} {ρ : Ro} {o : Out} {ds : List D} {J : It} (I : FI T F0 H0 ρ σ F1 H1) (S : Src T F1 J ds) (q : loopF tg body ds ρ = some o) (k : EndOk T F0 H0 F1 E o) :
    ∃ W : Nat → Nat → L2.St → Hp → Prop, (∃ m, W 0 m σ H1) ∧ ∀ i m σ H, W i m σ H →
      (J.stop i H ∧ E.nx σ H) ∨ (J.go i H ∧ ∃ N : L2.St → Hp → Prop, (∀ σ' H', N σ' H' → ∃ m', m' < m ∧ W (i + 1) m' σ' H') ∧ ∀ x H', J.yld i H x H' → (rG T is tg) x σ H' fun σ2 H2 => (rS T body) { E with nx := N, ct := N, bk := E.nx } σ2 H2) := by
  refine ⟨fun i m σ2 H2 => ∃ ρ2 F2, m = ds.length - i ∧ FI T F0 H0 ρ2 σ2 F2 H2 ∧ Ex F1 F2 ∧ loopF tg body (ds.drop i) ρ2 = some o, ⟨_, ρ, F1, rfl, I, Ex.refl _, by rw [List.drop_zero]; exact q⟩, fun i m σ2 H2 ⟨ρ2, F2, em, I2, le2, q2⟩ => ?_⟩
  by_cases hi : i < ds.length
  · rw [List.drop_eq_getElem_cons hi] at q2
    obtain ⟨ρ3, q3, q2⟩ := bind1 (show ((tg ds[i] ρ2).bind _) = some o from q2)
    obtain ⟨o1, q4, q2⟩ := bind1 q2
    refine .inr ⟨S.go i F2 H2 le2 I2.sub hi, fun σ' H' => ∃ ρ' F', FI T F0 H0 ρ' σ' F' H' ∧ Ex F1 F' ∧ loopF tg body (ds.drop (i + 1)) ρ' = some o, fun σ' H' ⟨ρ', F', a, b, c⟩ => ⟨_, by omega, ρ', F', rfl, a, b, c⟩, fun x H3 y => ?_⟩
    obtain ⟨F3, s3, r3⟩ := S.yld i F2 H2 x H3 ds[i] le2 I2.sub y (List.getElem?_eq_getElem hi)
    have le3 := s3.le I2.sub
    refine ⟨F0, H0, ρ2, F3, _, ρ3, I2.step s3, r3, q3, fun σ4 I4 _ => ⟨F0, H0, ρ3, F3, o1, I4, q4, ?_⟩⟩
    cases o1 with
    | nx ρ' => exact fun σ' F' H' I' e => ⟨ρ', F', I', (le2.trans le3).trans e, q2⟩
    | ct ρ' => exact fun σ' F' H' I' e => ⟨ρ', F', I', (le2.trans le3).trans e, q2⟩
    | bk ρ' =>
      cases q2
      exact fun σ' F' H' I' e => k σ' F' H' I' ((le2.trans le3).trans e)
    | rt z f =>
      cases q2
      exact k
  · rw [List.drop_eq_nil_of_le (Nat.le_of_not_lt hi)] at q2
    cases q2
    exact .inl ⟨S.stop i F2 H2 le2 I2.sub (Nat.le_of_not_lt hi), k σ2 F2 H2 I2 le2⟩
/-- the pairs, the keys -/
def itemsD (es : List (Str × D)) : List D := es.map fun p => .tup [.str p.1, p.2]
def keysD (es : List (Str × D)) : List D := es.map fun p => .str p.1
theorem src_items {T : Wd} {F0 : Hp} {d : Addr} {o : Obj} {kvs : List (Key × V)} {es : List (Str × D)} (h : F0 d = some (.frz o (.dK kvs))) (r : RepS T F0 kvs es) : Src T F0 (Iti d o kvs) (itemsD es) where
  go := fun i F H e1 e2 hi => ⟨e2 _ _ (e1 _ _ h), by rw [r.len]; simpa [itemsD] using hi⟩
  yld := fun i F H x H' z e1 e2 y hd => by
    obtain ⟨t, k, v, y, rfl, ht, rfl⟩ := y
    unfold itemsD at hd
    rw [List.getElem?_map] at hd
    cases q : es[i]? with
    | none => rw [q] at hd; cases hd
    | some kd =>
      rw [q] at hd
      cases hd
      obtain ⟨v', h1, h2⟩ := r.get q
      rw [h1] at y
      cases y
      exact ⟨_, tup_new e2 ht (.cons (.str _) (.cons (h2.ex e1) .nil))⟩
  stop := fun i F H e1 e2 hi => ⟨e2 _ _ (e1 _ _ h), by rw [r.len]; simpa [itemsD] using hi⟩
theorem src_keys {T : Wd} {F0 : Hp} {d : Addr} {o : Obj} {kvs : List (Key × V)} {es : List (Str × D)} (h : F0 d = some (.frz o (.dK kvs))) (r : RepS T F0 kvs es) : Src T F0 (Itk d o kvs) (keysD es) where
  go := fun i F H e1 e2 hi => ⟨e2 _ _ (e1 _ _ h), by rw [r.len]; simpa [keysD] using hi⟩
  yld := fun i F H x H' z e1 e2 y hd => by
    obtain ⟨rfl, k, v, y, rfl⟩ := y
    unfold keysD at hd
    rw [List.getElem?_map] at hd
    cases q : es[i]? with
    | none => rw [q] at hd; cases hd
    | some kd =>
      rw [q] at hd
      cases hd
      obtain ⟨v', h1, h2⟩ := r.get q
      rw [h1] at y
      cases y
      exact ⟨F, .refl e2, .str _⟩
  stop := fun i F H e1 e2 hi => ⟨e2 _ _ (e1 _ _ h), by rw [r.len]; simpa [keysD] using hi⟩
def noRt : Out → Option Out
  | .rt _ _ => none
  | o => some o
/-- no return in such a loop -/
def dForS (f : List (Str × D) → List D) (den : DV) (tg : DT) (body : DS) : DS := fun ρ => match den ρ with
  | some (.dS es) => (loopF tg body (f es) ρ).bind noRt
  | _ => none
theorem forS_go {T : Wd} {f : List (Str × D) → List D} {JJ : Addr → Obj → List (Key × V) → It} {wi : TI} {tg : DT} {den : DV} {body : DS} {is : List Nat} {E : Ends} {σ : L2.St} {H F0 H0 F : Hp} {ρ : Ro} {o : Out}
    (hsrc : ∀ {F0 : Hp} {d : Addr} {o : Obj} {kvs : List (Key × V)} {es : List (Str × D)}, F0 d = some (.frz o (.dK kvs)) → RepS T F0 kvs es → Src T F0 (JJ d o kvs) (f es))
    (hwi : wi = fun σ H R => tLkV (rV T den) σ H fun x H1 => ∃ d o kvs, x = .ref d ∧ H1 d = some (.frz o (.dK kvs)) ∧ R (JJ d o kvs) H1)
    (I : FI T F0 H0 ρ σ F H) (q : dForS f den tg body ρ = some o) (k : EndOk T F0 H0 F E o) :
    tUnl (tFor wi (rG T is tg) (rS T body)) E σ H := by
  subst hwi
  unfold dForS at q
  split at q
  · rename_i es hden
    obtain ⟨o', qq, q0⟩ := bind1 q
    have eo : o' = o := by cases o' <;> cases q0 <;> rfl
    subst eo
    refine ⟨ρ, F, _, I.at, hden, fun v F1 H1 s1 r1 => ?_⟩
    have I1 := I.step s1
    have leF := s1.le I.sub
    cases r1 with
    | @dS a kvs _ ha rs =>
      refine ⟨a, kvs, rfl, ?_⟩
      rcases ha with ha | ⟨od, ha⟩
      · have hH : H1 a = some (.dK kvs) := s1.sub _ _ ha
        refine .inl ⟨hH, fun od => ⟨a, od, kvs, rfl, upd_same, ?_⟩⟩
        have I2 : FI T (lk a od (.dK kvs) F0) (lk a od (.dK kvs) H0) ρ σ (lk a od (.dK kvs) F1) (lk a od (.dK kvs) H1) := I1.lock hH (some_ne ha)
        have b1 : ∀ x, H0 a = some x → x = .dK kvs := fun x hx => by
          have z := I1.st.ex a x hx
          rw [hH] at z
          exact (Option.some.inj z).symm
        have b2 : H0 a ≠ none → F0 a = some (.dK kvs) := fun hx => (I1.st.ag a hx).symm.trans ha
        have nf : ∀ o' u', H a ≠ some (.frz o' u') := fun o' u' z => by
          have z := s1.ex a _ z
          rw [hH] at z
          cases z
        have hl : lk a od (.dK kvs) F1 a = some (.frz od (.dK kvs)) := lk_p ha
        have rs' : RepS T (lk a od (.dK kvs) F1) kvs es := rs.mono rdle_lk
        rw [← lk_at hH]
        refine loop_go I2 (hsrc hl rs') qq ?_
        have fin : ∀ {F' H' : Hp}, Ex (lk a od (.dK kvs) F1) F' → Ex F' H' → F' a = some (.frz od (.dK kvs)) ∧ H' a = some (.frz od (.dK kvs)) := fun e1 e2 => ⟨e1 _ _ hl, e2 _ _ (e1 _ _ hl)⟩
        have up : ∀ {F' : Hp}, Ex (lk a od (.dK kvs) F1) F' → Ex F (ul a od (.dK kvs) F') := fun {F'} e1 b o hb => by
          have hb1 := leF b o hb
          by_cases hp : b = a
          · subst hp
            rw [ha] at hb1
            cases hb1
            exact ul_p (e1 _ _ hl)
          · rw [ul_ne hp]
            exact e1 b o (by rw [lk_ne hp]; exact hb1)
        cases o' with
        | nx ρ' =>
          intro σ' F' H' I' e
          obtain ⟨g1, g2⟩ := fin e I'.sub
          refine .inr ⟨a, kvs, od, nf, g2, ?_⟩
          rw [← ul_at g2]
          exact k σ' _ _ (I'.unlock g2 (some_ne g1) b1 b2) (up e)
        | ct ρ' =>
          intro σ' F' H' I' e
          obtain ⟨g1, g2⟩ := fin e I'.sub
          refine .inr ⟨a, kvs, od, nf, g2, ?_⟩
          rw [← ul_at g2]
          exact k σ' _ _ (I'.unlock g2 (some_ne g1) b1 b2) (up e)
        | bk ρ' =>
          intro σ' F' H' I' e
          obtain ⟨g1, g2⟩ := fin e I'.sub
          refine .inr ⟨a, kvs, od, nf, g2, ?_⟩
          rw [← ul_at g2]
          exact k σ' _ _ (I'.unlock g2 (some_ne g1) b1 b2) (up e)
        | rt z f => cases q0
      · have hH : H1 a = some (.frz od (.dK kvs)) := s1.sub _ _ ha
        refine .inr ⟨⟨od, hH⟩, a, od, kvs, rfl, hH, ?_⟩
        refine loop_go I1 (hsrc ha rs) qq ?_
        cases o' with
        | nx ρ' => exact fun σ' F' H' I' e => .inl (k σ' F' H' I' (leF.trans e))
        | ct ρ' => exact fun σ' F' H' I' e => .inl (k σ' F' H' I' (leF.trans e))
        | bk ρ' => exact fun σ' F' H' I' e => .inl (k σ' F' H' I' (leF.trans e))
        | rt z f => exact fun v F' H' s r => .inl (k v F' H' s r)
  · cases q
theorem ss_items {els : List Expr} {n : Nat} {tp apos cpos pos : Pos} {is : List Nat} {den : DV} {g : DT} {d : DS} {sts : List Stmt} (hp : PassesOwn (model X.prog X.w) X.A X.env X.xe) (hc : X.calm = true) (he : SV X e den) (hg : SG X (.Tuple els n tp) is g) (hb : SSs X sts d)
    (hbase : attributeBase e "items" X.env (eval e X.env) = eval e X.env := by rfl) (hline : (apos.endLine == cpos.line) = true := by rfl)
    (hs : ∀ x, foldedSetIterable (.Call (.Attribute e "items" apos) [] [] cpos) X.env x = pure x := by intro _; rfl) : SS X (.For (.Tuple els n tp) (.Call (.Attribute e "items" apos) [] [] cpos) sts [] pos) (dForS itemsD den g d) :=
  ps_imp (ps_unl (ps_for hp hc (pi_items (pe_lk he) hbase hline) hg hb hs)) fun E σ H ⟨F0, H0, ρ, F, o, I, q, k⟩ => forS_go (wi := iItems (tLkV (rV (wd X) den))) (JJ := Iti) (fun h r => src_items h r) rfl I q k
theorem ss_keysS {tg : Expr} {pos : Pos} {is : List Nat} {den : DV} {g : DT} {d : DS} {sts : List Stmt} (hp : PassesOwn (model X.prog X.w) X.A X.env X.xe) (hc : X.calm = true) (he : SV X e den) (hg : SG X tg is g) (hb : SSs X sts d)
    (hs : ∀ x, foldedSetIterable e X.env x = pure x := by intro _; rfl) : SS X (.For tg e sts [] pos) (dForS keysD den g d) :=
  ps_imp (ps_unl (ps_for hp hc (pi_imp (t' := fun σ H R => tLkV (rV (wd X) den) σ H fun x H1 => ∃ d o kvs, x = .ref d ∧ H1 d = some (.frz o (.dK kvs)) ∧ R (Itk d o kvs) H1) (pi_keys (pe_lk he)) fun σ H R h => by
    obtain ⟨ρ, F, z, A, q, k⟩ := h
    refine ⟨ρ, F, z, A, q, fun v F' H' s r => ?_⟩
    obtain ⟨a, kvs, e, k⟩ := k v F' H' s r
    refine ⟨a, kvs, e, ?_⟩
    rcases k with ⟨h1, k⟩ | ⟨h1, k⟩
    · refine .inl ⟨h1, fun od => ?_⟩
      obtain ⟨d, o, kv, e', h2, h3⟩ := k od
      exact ⟨d, o, e', .inl ⟨kv, h2, h3⟩⟩
    · obtain ⟨d, o, kv, e', h2, h3⟩ := k
      exact .inr ⟨h1, d, o, e', .inl ⟨kv, h2, h3⟩⟩) hg hb hs)) fun E σ H ⟨F0, H0, ρ, F, o, I, q, k⟩ => forS_go (JJ := Itk) (fun h r => src_keys h r) rfl I q k
end
end NW

/-! A few more. -/
namespace NW
open PySem PySem.Spec PyProof.Rows L2 Evl
theorem Res.liftF {T : Wd} {F H F1 H1 F' H' : Hp} {v : V} {d : D} {b : Bool} (r : Res T F1 H1 F' H' v d b) (s : EStp F H F1 H1) : Res T F H F' H' v d b := r.lift s.ex
section
variable {X : Cx} {e : Expr} {pos : Pos}
def negD : D → Option D
  | .int i => some (.int (-i))
  | _ => none
theorem sv_neg {d : DV} (h : SO X e d) : SV X (.UnaryOp .USub e pos) (dF1 negD d) := pe_imp (pe_un un_neg h) fun σ H Q ⟨ρ, F, z, A, q, k⟩ => by
  obtain ⟨x, q1, q⟩ := bind1 q
  refine ⟨ρ, F, x, A, q1, fun v F1 H1 s1 p1 => ?_⟩
  unfold negD at q
  split at q
  · cases q
    cases p1.int
    exact ⟨_, rfl, k _ F1 H1 s1 (.int _)⟩
  · cases q
def dDrop (d : DE) : DS := fun ρ => (d ρ).map fun _ => .nx ρ
theorem ss_expr {d : DE} (h : SE X e d) (hs : swapsWith e none pos.line X.env = pure false := by rfl) : SS X (.Expr e pos) (dDrop d) := ps_imp (ps_expr h hs) fun E σ H ⟨F0, H0, ρ, F, o, I, q, k⟩ => by
  obtain ⟨x, q1, rfl⟩ := map_some q
  exact ⟨ρ, F, x.1, x.2, I.at, q1, fun v F' H' s r => k σ F' H' (I.step s) (s.le I.sub)⟩
/-- the signs of a text -/
def signsD (z : Str) : List D := z.cps.toList.map fun c => .str ⟨#[c]⟩
def strS (d : DV) : DA := fun ρ => match d ρ with
  | some (.str z) => some (signsD z)
  | _ => none
theorem sf_str {tg : Expr} {d : DV} (h : SV X e d) : SF X tg e (strS d) := pi_imp (pi_str h) fun σ H R ⟨ρ, F, ds, A, q, k⟩ => by
  unfold strS at q
  split at q
  · rename_i z hq
    cases q
    refine ⟨ρ, F, _, A, hq, fun v F' H' s r => ?_⟩
    cases r
    refine ⟨z, rfl, k _ F' H' s ⟨fun i F H e1 e2 hi => ?_, fun i F H x H' d e1 e2 y hd => ?_, fun i F H e1 e2 hi => ?_⟩⟩
    · show i < z.cps.size
      simpa [signsD] using hi
    · obtain ⟨rfl, c, y, rfl⟩ := y
      have y' : z.cps.toList[i]? = some c := by simpa using y
      unfold signsD at hd
      rw [List.getElem?_map, y'] at hd
      cases hd
      exact ⟨F, .refl e2, .str _⟩
    · show z.cps.size ≤ i
      simpa [signsD] using hi
  · cases q
theorem se_if {c a b : Expr} {d : DB} {da db : DE} (hc : ST X c d) (ha : SE X a da) (hb : SE X b db) : SE X (.IfExp c a b pos) (dIf d da db) :=
  pe_imp (pe_ifExp hc ha hb) fun σ H Q ⟨ρ, F, r, bb, A, q, k⟩ => by
    obtain ⟨c, q1, q⟩ := bind1 q
    refine ⟨ρ, F, c, A, q1, fun F1 H1 s1 => ?_⟩
    cases c with
    | true => exact ⟨ρ, F1, r, bb, A.step s1, q, fun v F2 H2 s2 r2 => k v F2 H2 (s1.trans s2) (r2.liftF s1)⟩
    | false => exact ⟨ρ, F1, r, bb, A.step s1, q, fun v F2 H2 s2 r2 => k v F2 H2 (s1.trans s2) (r2.liftF s1)⟩
end
end NW

/-! A set of pairs of texts that are all one and the same pair: in the model's own words. -/
namespace NW
open PySem PySem.Spec PyProof.Rows L2
/-- a pair of texts at an address -/
abbrev IsP (P : Program) (w : World) (h : Heap) (k : List Str) (a : Addr) : Prop := IsTupleKey (PySem.strKind P w) h k a
abbrev phash (P : Program) (w : World) (k : List Str) : Int := tupleKeyHash (PySem.strKind P w) k
section
variable {P : Program} {w : World} {A : Around} {E : Value → Shared → Prop} {s : Shared} {x y : Str} {a b c : Addr} {k : List Str}
theorem pair_at {h : Heap} (H : IsP P w h [x, y] b) : ∃ o items n tx ty, h.get? b = some o ∧ o.cls = .type "tuple" ∧ o.data = .seq items n ∧ items.toList = [Value.str x tx, Value.str y ty] := by
  obtain ⟨o, items, n, ho, hc, hd, hi⟩ := H
  generalize hl : items.toList = l at hi
  cases hi with
  | cons h1 r1 =>
    cases r1 with
    | cons h2 r2 =>
      cases r2
      obtain ⟨tx, rfl⟩ := Value.isStrOf_shape h1
      obtain ⟨ty, rfl⟩ := Value.isStrOf_shape h2
      exact ⟨o, items, n, tx, ty, ho, hc, hd, hl⟩
theorem class_str (n : Nat) (t : Tok) : ofAClassStatement n (.str x t) = pure false := by cases n <;> rfl
theorem value_str (n : Nat) (t : Tok) : hashByValue n (.str x t) = pure false := by cases n <;> rfl
/-- it is of no class of the program's -/
theorem class_pair {Q : Bool → Shared → Prop} (H : IsP P w s.heap [x, y] b) (h : Q false s) : wpAny (model P w) A (ofAClassStatement 8 (.ref b)) Q E s := by
  have hT := H.typeIs
  obtain ⟨o, items, n, tx, ty, ho, _, hd, hl⟩ := pair_at H
  unfold ofAClassStatement
  refine wpAny_bind (wpAny_typeOf hT ?_)
  have e : (("tuple" : String) == "tuple") = true := by decide
  simp only [e, if_true, Bool.not_true, Bool.false_eq_true, if_false]
  try refine wpAny_bind (wpAny_pure ?_)
  try simp only [Bool.not_true, Bool.false_eq_true, if_false]
  show wpAny _ _ (seqItems? (.ref b) >>= _) _ _ s
  refine wpAny_bind (wpAny_seqItems ho hd ?_)
  dsimp only
  rw [← Array.forIn_toList, hl]
  simp only [List.forIn_cons, List.forIn_nil, class_str, pure_bind, Bool.false_eq_true, if_false]
  exact wpAny_pure h
/-- its hash is by the texts' -/
theorem value_pair {Q : Bool → Shared → Prop} (H : IsP P w s.heap [x, y] b) (h : Q false s) : wpAny (model P w) A (hashByValue 8 (.ref b)) Q E s := by
  have hT := H.typeIs
  obtain ⟨o, items, n, tx, ty, ho, _, hd, hl⟩ := pair_at H
  unfold hashByValue
  refine wpAny_bind (wpAny_specialOf hT F.slot_tuple_hash.lookup ?_)
  show wpAny _ _ (seqItems? (.ref b) >>= _) _ _ s
  refine wpAny_bind (wpAny_seqItems ho hd ?_)
  rw [Option.getD_some, ← Array.forIn_toList, hl]
  simp only [List.forIn_cons, List.forIn_nil, value_str, pure_bind, Bool.not_false, if_true]
  exact wpAny_pure h
/-- a search among pairs is not seen -/
theorem unseen {ys : List Value} (H : IsP P w s.heap [x, y] b) (hy : ys = [Value.ref c]) (Hc : IsP P w s.heap [x, y] c) {Q : Bool → Shared → Prop} (h : Q false s) : wpAny (model P w) A (searchCouldBeSeen (.ref b) ys) Q E s := by
  subst hy
  unfold searchCouldBeSeen
  simp only [List.forIn_cons, List.forIn_nil]
  by_cases hv : (b == c || (carriedByValue (.ref b) && carriedByValue (.ref c))) = true
  · rw [if_pos hv]
    simp only [pure_bind]
    exact wpAny_pure h
  · rw [if_neg hv]
    refine wpAny_bind (wpAny_bind (wpAny_bind (wpAny_eqIsQuiet_tuple H ?_)))
    simp only [Bool.not_true, Bool.false_eq_true, if_false]
    refine wpAny_bind (wpAny_eqIsQuiet_tuple Hc ?_)
    simp only [Bool.not_true, Bool.false_eq_true, if_false]
    refine wpAny_bind (class_pair H ?_)
    simp only [Bool.false_eq_true, if_false]
    refine wpAny_bind (class_pair Hc ?_)
    simp only [Bool.false_eq_true, if_false, pure_bind]
    exact wpAny_pure (wpAny_pure (wpAny_pure h))
end
end NW

/-! Searching and adding, the set empty or with one pair. -/
namespace NW
open PySem PySem.Spec PyProof.Rows L2
/-- the set at a with these rows; hs are the rows' hashes -/
structure SetR (w : World) (h : Heap) (a : Addr) (es : Array (Int × Value)) (ep : Nat) (t : SetTable) (hs : List Int) : Prop where
  ob : ∃ o, h.get? a = some o ∧ o.ExactSet ∧ o.data = .set es ep t
  size : es.size = hs.length
  tab : TabOk t hs
  led : w.params.followText "set-order" = true ∨ t.led = true
  mask : t.mask = 7
  few : hs.length ≤ 1
theorem SetR.fits {w : World} {h : Heap} {a : Addr} {es : Array (Int × Value)} {ep : Nat} {t : SetTable} {hs : List Int} (R : SetR w h a es ep t hs) : t.fits es.size = true := by
  have h1 := R.tab.sz
  have h2 := R.size
  have h3 := R.few
  have h4 := R.mask
  unfold SetTable.fits SetTable.fill
  rw [R.tab.dm, Bool.and_eq_true, beq_iff_eq, decide_eq_true_eq]
  show t.place.size = es.size ∧ t.place.size + 0 ≤ t.mask
  omega
theorem SetR.plainWay {w : World} {h : Heap} {a : Addr} {es : Array (Int × Value)} {ep : Nat} {t : SetTable} {hs : List Int} (R : SetR w h a es ep t hs) : ¬ t.gaveWay = true := by
  unfold SetTable.gaveWay
  rw [R.mask]
  decide
section
variable {P : Program} {w : World} {A : Around} {E : Value → Shared → Prop} {s : Shared} {x y : Str} {a b c : Addr} {k : List Str} {es : Array (Int × Value)} {ep : Nat} {t : SetTable} {hs : List Int}
/-- a search in the empty set -/
theorem search_none (R : SetR w s.heap a #[] ep t []) {h : Int} {v : Value} {Q : SetFound → Shared → Prop}
    (hQ : ∀ K, way t.mask h K ∉ t.place.toList → (∀ c, c < K → way t.mask h c ∈ t.place.toList) → Q (.free (way t.mask h K) false) s) : wpAny (model P w) A (setSearch a v h true) Q E s := by
  obtain ⟨o, ho, hex, hd⟩ := R.ob
  have hm := R.mask
  obtain ⟨K, hKf, hK, hKb⟩ := R.tab.first (by show 0 ≤ t.mask; omega) h
  have hpl : t.place.toList = [] := by
    have := R.tab.sz
    exact List.eq_nil_of_length_eq_zero (by rw [Array.length_toList, this]; rfl)
  unfold setSearch
  rw [show (100000 : Nat) = 99999 + 1 from rfl, setSearchFrom_succ]
  refine wpAny_bind (wpAny_setState_of ho hd R.fits ?_)
  refine wp_if_neg R.plainWay ?_
  try refine wpAny_bind (wpAny_pure ?_)
  have spec := go_spec t R.tab.ris R.tab.dm (fun i => ((#[] : Array (Int × Value))[i]?.map (·.1)).getD 0) h (10 * SetTable.turns t.mask) K (runAt t.mask (SetTable.bits h % (t.mask + 1)) (SetTable.bits h)) rfl hKf hKb hK
  rcases spec with ⟨q, i, hq, hi, _⟩ | ⟨_, hpr⟩
  · rw [hpl] at hi
    cases hi
  · have hpr' : t.probe (fun i => ((#[] : Array (Int × Value))[i]?.map (·.1)).getD 0) h ((none : Option SetTable.Probe).getD (t.probeStart h)) = some (.empty (way t.mask h K) none) := hpr
    rw [hpr']
    exact wpAny_pure (hQ K hK hKb)
theorem hash_at (h : Int) (v : Value) : ((#[(h, v)] : Array (Int × Value))[0]?.map (·.1)).getD 0 = h := by
  have e : (#[(h, v)] : Array (Int × Value))[0]? = some (h, v) := by
    rw [← Array.getElem?_toList]
    exact List.getElem?_cons_zero
  rw [e, Option.map_some, Option.getD_some]
/-- a search for the pair that is there -/
theorem search_from1 (f : Nat) (R : SetR w s.heap a #[(phash P w [x, y], .ref b)] ep t [phash P w [x, y]]) (Hb : IsP P w s.heap [x, y] b) (Hc : IsP P w s.heap [x, y] c) (hu : A.units < cLine) {Q : SetFound → Shared → Prop} (hQ : Q (.there none) s) :
    wpAny (model P w) A (setSearchFrom a (.ref c) (phash P w [x, y]) true (f + 1) none) Q E s := by
  obtain ⟨o, ho, hex, hd⟩ := R.ob
  have hm := R.mask
  generalize hh : phash P w [x, y] = h at *
  obtain ⟨K, hKf, hK, hKb⟩ := R.tab.first (by show 1 ≤ t.mask; omega) h
  have hsz := R.tab.sz
  have hpl : ∃ j, t.place.toList = [j] := by
    have h1 : t.place.toList.length = 1 := by rw [Array.length_toList, hsz]; rfl
    match hl : t.place.toList, h1 with
    | [j], _ => exact ⟨j, rfl⟩
  obtain ⟨j, hpl⟩ := hpl
  rw [setSearchFrom_succ]
  refine wpAny_bind (wpAny_setState_of ho hd R.fits ?_)
  refine wp_if_neg R.plainWay ?_
  try refine wpAny_bind (wpAny_pure ?_)
  have spec := go_spec t R.tab.ris R.tab.dm (fun i => ((#[(h, Value.ref b)] : Array (Int × Value))[i]?.map (·.1)).getD 0) h (10 * SetTable.turns t.mask) K (runAt t.mask (SetTable.bits h % (t.mask + 1)) (SetTable.bits h)) rfl hKf hKb hK
  rcases spec with ⟨q, i, hq, hi, _, _, hpr⟩ | ⟨hno, _⟩
  · have hpr' : t.probe (fun i => ((#[(h, Value.ref b)] : Array (Int × Value))[i]?.map (·.1)).getD 0) h ((none : Option SetTable.Probe).getD (t.probeStart h)) = some (.candidate (way t.mask h q) i (nth t.mask (runAt t.mask (SetTable.bits h % (t.mask + 1)) (SetTable.bits h)) (q + 1))) := hpr
    rw [hpr']
    have hi0 : i = 0 := by
      rw [hpl] at hi
      cases i with
      | zero => rfl
      | succ i => cases hi
    subst hi0
    have rest : wpAny (model P w) A (searchRest a (.ref c) h true f #[(h, Value.ref b)] t (way t.mask h q) 0 (nth t.mask (runAt t.mask (SetTable.bits h % (t.mask + 1)) (SetTable.bits h)) (q + 1))) Q E s := by
      unfold searchRest
      show wpAny _ _ (holding [Value.ref b] (eqBool (.ref b) (.ref c)) >>= _) _ _ _
      refine wpAny_bind (wpAny_holding (wpAny_eqBool_tuple hu Hb Hc ?_))
      refine wpAny_bind (wpAny_setState_of ho hd R.fits ?_)
      refine wp_if_pos (by simp) ?_
      exact wpAny_pure hQ
    show wpAny _ _ (if (!t.led) = true then _ else _) _ _ _
    by_cases hl : t.led = true
    · refine wp_if_neg (by simp [hl]) ?_
      try refine wpAny_bind (wpAny_pure ?_)
      exact rest
    · refine wp_if_pos (by simp [hl]) ?_
      refine wpAny_bind (unseen (c := b) Hc (by simp) Hb ?_)
      refine wp_if_neg (by decide) ?_
      try refine wpAny_bind (wpAny_pure ?_)
      exact rest
  · exfalso
    have e0 : t.place.toList[0]? = some j := by rw [hpl, List.getElem?_cons_zero]
    obtain ⟨q, hq, e⟩ := R.tab.before hK (i := 0) (h := h) (j := j) List.getElem?_cons_zero e0
    rw [← e] at e0
    exact absurd (hash_at h (.ref b)) (hno q 0 hq e0)
theorem search_one (R : SetR w s.heap a #[(phash P w [x, y], .ref b)] ep t [phash P w [x, y]]) (Hb : IsP P w s.heap [x, y] b) (Hc : IsP P w s.heap [x, y] c) (hu : A.units < cLine) {Q : SetFound → Shared → Prop} (hQ : Q (.there none) s) :
    wpAny (model P w) A (setSearch a (.ref c) (phash P w [x, y]) true) Q E s := by
  unfold setSearch
  exact search_from1 99999 R Hb Hc hu hQ
/-- the first pair is added -/
theorem add_first (R : SetR w s.heap a #[] ep t []) (Hc : IsP P w s.heap [x, y] c) {Q : Bool → Shared → Prop}
    (hQ : ∀ h' ep' t', Heap.SameBut a s.heap h' → SetR w h' a #[(phash P w [x, y], .ref c)] ep' t' [phash P w [x, y]] → Q true { s with heap := h' }) : wpAny (model P w) A (setAddHashed a (.ref c) (phash P w [x, y])) Q E s := by
  obtain ⟨o, ho, hex, hd⟩ := R.ob
  have hm := R.mask
  generalize hh : phash P w [x, y] = h at *
  unfold setAddHashed
  refine wpAny_holding ?_
  rw [show (100000 : Nat) = 99999 + 1 from rfl, setAddHashedIn_succ]
  refine wpAny_bind (wpAny_setState_of ho hd R.fits ?_)
  refine wp_if_neg (by simp [byScan, Value.scannable]) ?_
  try refine wpAny_bind (wpAny_pure ?_)
  refine wpAny_bind (search_none R fun K hK hKb => ?_)
  dsimp only
  refine wpAny_bind (wpAny_setState_of ho hd R.fits ?_)
  dsimp only
  obtain ⟨q1, q2, q3, q4, q5, q6, q7, q8, q9⟩ := R.tab.put hK hKb
  generalize hpt : t.put (way t.mask h K) = pt at q1 q3 q4 q5 q6 q7 q8 q9 ⊢
  obtain ⟨t1, p⟩ := pt
  dsimp only at q1 q3 q4 q5 q6 q7 q8 q9 ⊢
  have hp0 : SetTable.below t.place (way t.mask h K) = 0 := by
    have : SetTable.below t.place (way t.mask h K) ≤ 0 := q2
    omega
  rw [hp0] at q1 q3
  subst q1
  have hes : SetTable.insertAt (#[] : Array (Int × Value)) 0 (h, Value.ref c) = #[(h, Value.ref c)] := by
    apply Array.ext'
    rw [SetTable.toList_insertAt]
    rfl
  have fin : ∀ t2 : SetTable, (t2 = t1 ∨ t2 = { t1 with plain := false }) → wpAny (model P w) A (do
      storeSet a (SetTable.insertAt #[] 0 (h, Value.ref c)) t2
      if !false && t2.tooFull then setRelay a (SetTable.grown ((#[] : Array (Int × Value)).size + 1))
      return true) Q E s := fun t2 ht2 => by
    have hT : TabOk t2 [h] := by
      have q3' : TabOk t1 [h] := q3
      rcases ht2 with rfl | rfl
      · exact q3'
      · exact ⟨q3'.ris, q3'.dm, q3'.sz, q3'.mok, q3'.bd, q3'.reach⟩
    have hmk : t2.mask = 7 := by
      have : t1.mask = 7 := by rw [q4]; exact hm
      rcases ht2 with rfl | rfl <;> exact this
    have hld : w.params.followText "set-order" = true ∨ t2.led = true := by
      have : w.params.followText "set-order" = true ∨ t1.led = true := by rw [q5]; exact R.led
      rcases ht2 with rfl | rfl <;> exact this
    have hfl : t2.fill = 1 := by
      have : t1.fill = 1 := q9
      rcases ht2 with rfl | rfl <;> exact this
    rw [hes]
    refine wpAny_bind (wpAny_storeSet_of ho hd ?_ (by show 1 ≤ sizeLine; rw [sizeLine_eq]; omega))
    have hnf : ¬ t2.tooFull = true := by
      unfold SetTable.tooFull
      rw [hfl, hmk]
      decide
    have sb : Heap.SameBut a s.heap (s.heap.update a (Obj.putSet #[(h, Value.ref c)] t2)) := Heap.SameBut.update ..
    have ho1 := store_at (es' := #[(h, Value.ref c)]) (t' := t2) ho hd
    have done : Q true { s with heap := s.heap.update a (Obj.putSet #[(h, Value.ref c)] t2) } := hQ _ (ep + 1) t2 sb ⟨⟨_, ho1, ⟨hex.1, hex.2.1, hex.2.2⟩, rfl⟩, rfl, hT, hld, hmk, Nat.le_refl 1⟩
    first
      | (refine wp_if_neg (by simp [hnf]) ?_; exact wpAny_pure done)
      | (refine wpAny_bind ?_; refine wp_if_neg (by simp [hnf]) ?_; refine wpAny_pure ?_; exact wpAny_pure done)
      | (refine wp_if_neg (by simp [hnf]) ?_; refine wpAny_bind (wpAny_pure ?_); exact wpAny_pure done)
  by_cases hp : t1.plain = true
  · first
      | (refine wpAny_bind ?_; refine wp_if_pos hp ?_; refine value_pair Hc ?_)
      | refine wp_if_pos hp (wpAny_bind (value_pair Hc ?_))
    simp only [Bool.false_eq_true, if_false]
    exact fin _ (.inr rfl)
  · first
      | (refine wpAny_bind ?_; refine wp_if_neg hp ?_; refine wpAny_pure ?_)
      | refine wp_if_neg hp (wpAny_bind (wpAny_pure ?_))
    simp only [if_true]
    exact fin _ (.inl rfl)
/-- the pair that is there is added again -/
theorem add_again (R : SetR w s.heap a #[(phash P w [x, y], .ref b)] ep t [phash P w [x, y]]) (Hb : IsP P w s.heap [x, y] b) (Hc : IsP P w s.heap [x, y] c) (hu : A.units < cLine) {Q : Bool → Shared → Prop} (hQ : Q false s) :
    wpAny (model P w) A (setAddHashed a (.ref c) (phash P w [x, y])) Q E s := by
  obtain ⟨o, ho, hex, hd⟩ := R.ob
  unfold setAddHashed
  refine wpAny_holding ?_
  rw [show (100000 : Nat) = 99999 + 1 from rfl, setAddHashedIn_succ]
  refine wpAny_bind (wpAny_setState_of ho hd R.fits ?_)
  refine wp_if_neg (by simp [byScan, Value.scannable]) ?_
  try refine wpAny_bind (wpAny_pure ?_)
  refine wpAny_bind (search_one R Hb Hc hu ?_)
  exact wpAny_pure hQ
end
end NW

/-! set(xs), all things of xs one and the same pair. -/
namespace NW
open PySem PySem.Spec PyProof.Rows L2
/-- the set behind i items -/
def SetI (P : Program) (w : World) (x y : Str) (ks : List Addr) (i : Nat) (h : Heap) (a : Addr) : Prop :=
  (i = 0 ∧ ∃ ep t, SetR w h a #[] ep t []) ∨ (0 < i ∧ ∃ b ep t, b ∈ ks ∧ SetR w h a #[(phash P w [x, y], .ref b)] ep t [phash P w [x, y]])
section
variable {P : Program} {w : World} {A : Around} {E : Value → Shared → Prop} {s : Shared} {x y : Str} {ks : List Addr}
theorem pair_keep {h h' : Heap} {k : List Str} {b : Addr} (z : IsP P w h k b) (hk : ∀ c o, h.get? c = some o → h'.get? c = some o) : IsP P w h' k b := by
  obtain ⟨o, items, n, ho, r⟩ := z
  exact ⟨o, items, n, hk b o ho, r⟩
theorem SetR.keep {h h' : Heap} {a : Addr} {es : Array (Int × Value)} {ep : Nat} {t : SetTable} {hs : List Int} (R : SetR w h a es ep t hs) (ha : ∀ o, h.get? a = some o → h'.get? a = some o) : SetR w h' a es ep t hs := by
  obtain ⟨o, ho, r⟩ := R.ob
  exact ⟨⟨o, ha o ho, r⟩, R.size, R.tab, R.led, R.mask, R.few⟩
theorem SetI.keep {h h' : Heap} {a : Addr} {i : Nat} (R : SetI P w x y ks i h a) (ha : ∀ o, h.get? a = some o → h'.get? a = some o) : SetI P w x y ks i h' a := by
  rcases R with ⟨e, ep, t, R⟩ | ⟨e, b, ep, t, hb, R⟩
  · exact .inl ⟨e, ep, t, R.keep ha⟩
  · exact .inr ⟨e, b, ep, t, hb, R.keep ha⟩
theorem set_new {h : Heap} {a : Addr} (ho : h.get? a = some { cls := .type "set", dict := none, data := .set #[] 0 (.fresh 0 0 (!w.params.followText "set-order")) }) : SetR w h a #[] 0 (.fresh 0 0 (!w.params.followText "set-order")) [] where
  ob := ⟨_, ho, ⟨rfl, rfl, rfl⟩, rfl⟩
  size := rfl
  tab := ⟨List.Pairwise.nil, rfl, rfl, .inl rfl, fun x hx => (by cases hx), fun i h j hi => (by simp at hi)⟩
  led := by
    show _ ∨ (!w.params.followText "set-order") = true
    cases w.params.followText "set-order"
    · exact .inr rfl
    · exact .inl rfl
  mask := rfl
  few := Nat.zero_le 1
/-- one more of the pairs -/
theorem add_pair {a c : Addr} {i : Nat} (R : SetI P w x y ks i s.heap a) (hb : ∀ b ∈ ks, IsP P w s.heap [x, y] b) (hc : c ∈ ks) (hu : A.units < cLine) {Q : Bool → Shared → Prop}
    (hQ : ∀ b h', Heap.SameBut a s.heap h' → SetI P w x y ks (i + 1) h' a → Q b { s with heap := h' }) : wpAny (model P w) A (setAddHashed a (.ref c) (phash P w [x, y])) Q E s := by
  rcases R with ⟨e, ep, t, R⟩ | ⟨e, b, ep, t, hm, R⟩
  · exact add_first R (hb c hc) fun h' ep' t' sb R' => hQ true h' sb (.inr ⟨Nat.succ_pos i, c, ep', t', hc, R'⟩)
  · refine add_again R (hb b hm) (hb c hc) hu ?_
    have := hQ false s.heap (Heap.SameBut.refl a s.heap) (.inr ⟨Nat.succ_pos i, b, ep, t, hm, R⟩)
    exact this
/-- the loop that fills the set -/
theorem fill_pairs {I : Addr} {fp wr : List Addr} {G : Array GenState → Array GenState → Prop} {n : Nat} {Pv : Nat → Value → Prop} {St : Nat → Shared → Prop} {R : Result → Shared → Prop}
    (W : WalksS P w A.in1 I fp wr G n Pv St) (S : Addr) (hSf : S ∉ fp) (hval : ∀ i v, Pv i v → ∃ c, c ∈ ks ∧ v = .ref c)
    (h0 : Heap) (hk : ∀ c ∈ ks, IsP P w h0 [x, y] c) (hS0 : h0.get? S = none) (hw0 : ∀ b ∈ wr, h0.get? b = none) (hu : A.in1.units < cLine) :
    ∀ (k i : Nat) (s : Shared), n - i = k → i ≤ n → St i s → (∀ b o, h0.get? b = some o → s.heap.get? b = some o) → SetI P w x y ks i s.heap S →
      (∀ s', Moved (S :: wr) G s s' → SetI P w x y ks n s'.heap S → (∀ b o, h0.get? b = some o → s'.heap.get? b = some o) → R (.ok (.ret .none)) s') →
      codeAny (model P w) A (.builtin "set.update.loop" ⟨[.ref S, .ref I], []⟩) R s := by
  have hSw : S ∉ wr := fun h => hSf (W.sub _ h)
  have hsub : ∀ b ∈ wr, b ∈ S :: wr := fun b hb => List.mem_cons_of_mem _ hb
  have stay : ∀ {s s' : Shared}, Moved wr G s s' → (∀ b o, h0.get? b = some o → s.heap.get? b = some o) → ∀ b o, h0.get? b = some o → s'.heap.get? b = some o := fun hm hkp b o e =>
    hm.heap b o (fun hb => by rw [hw0 b hb] at e; cases e) (hkp b o e)
  intro k
  induction k with
  | zero =>
    intro i s hk' hi hst hkp hS hR
    have hin : i = n := by omega
    subst hin
    refine codeAny_builtin F.entry_set_update_loop ?_
    rw [Around.under_plainId F.plain_set_update_loop _]
    show wpAny _ A.in1 (pyNext (.ref I) >>= _) _ _ s
    refine wpAny_bind (W.done s _ _ hst fun s' hm => ?_)
    show wpAny _ A.in1 (ret Value.none) _ _ s'
    exact wpAny_pure (hR s' (hm.mono hsub) (hS.keep fun o e => hm.heap S o hSw e) (stay hm hkp))
  | succ k ih =>
    intro i s hk' hi hst hkp hS hR
    have hlt : i < n := by omega
    refine codeAny_builtin F.entry_set_update_loop ?_
    rw [Around.under_plainId F.plain_set_update_loop _]
    show wpAny _ A.in1 (pyNext (.ref I) >>= _) _ _ s
    refine wpAny_bind (W.item i s _ _ hlt hst fun v s' hP hst' hm => ?_)
    obtain ⟨c, hc, rfl⟩ := hval i v hP
    have hkp' := stay hm hkp
    have hS' : SetI P w x y ks i s'.heap S := hS.keep fun o e => hm.heap S o hSw e
    have hall : ∀ b ∈ ks, IsP P w s'.heap [x, y] b := fun b hb => pair_keep (hk b hb) hkp'
    show wpAny _ A.in1 (holding [Value.ref c] (setAdd S (.ref c)) >>= _) _ _ s'
    refine wpAny_bind (wpAny_holding ?_)
    unfold setAdd
    refine wpAny_holding ?_
    refine wpAny_bind (wpAny_pyHash_tuple hu (hall c hc) ?_)
    refine add_pair (s := { s' with toks := s'.toks + ([x, y].length + 1) }) hS' hall hc hu fun b h' hsb hS2 => ?_
    have hkp2 : ∀ b o, h0.get? b = some o → h'.get? b = some o := fun b o e => (hsb.2 b (fun z => by rw [z, hS0] at e; cases e)).trans (hkp' b o e)
    refine wpAny_pure ⟨plainId_quiet F.plain_set_update_loop _, ih (i + 1) _ (by omega) hlt (W.frame _ s' _ _ hst' (Nat.le_add_right _ _) fun b hb o e => ?_) hkp2 hS2 fun s'' hm'' hS'' hkp'' => ?_⟩
    · rw [hsb.2 b (fun h : b = S => hSf (by rw [← h]; exact hb))]; exact e
    · refine hR s'' (Moved.trans W.gtrans ((hm.mono hsub).then_heap (Nat.le_add_right _ _) fun b o hb e => ?_) hm'') hS'' hkp''
      rw [hsb.2 b (fun h : b = S => hb (by rw [h]; exact List.mem_cons_self))]; exact e
end
end NW

/-! set(xs) called, xs a list of one and the same pair. -/
namespace NW
open PySem PySem.Spec PyProof.Rows L2
/-- a new set -/
abbrev newSet (w : World) : Obj := { cls := .type "set", dict := none, data := .set #[] 0 (.fresh 0 0 (!w.params.followText "set-order")) }
section
variable {P : Program} {w : World} {A : Around} {E : Value → Shared → Prop} {s : Shared} {x y : Str} {ks : List Addr}
theorem call_set_pairs {l : Addr} {items : Array Value} {Q : Value → Shared → Prop} (hh : A.handled = none) (hl : s.heap.IsList l items) (hit : items.toList = ks.map Value.ref)
    (hk : ∀ c ∈ ks, IsP P w s.heap [x, y] c) (hu : A.units + 3 < cLine)
    (h : ∀ (h' : Heap) (tk : Nat), SetI P w x y ks items.size h' s.heap.objs.size → (∀ b o, s.heap.get? b = some o → h'.get? b = some o) → Q (.ref s.heap.objs.size) { s with heap := h', toks := tk }) :
    wpAny (model P w) A (call (.type "set") [.ref l]) Q E s := by
  obtain ⟨c, tl, hmro⟩ := F.called_set.mro
  have hmade := F.called_set.made
  have hsub := F.called_set.sub
  refine wpAny_call (codeAny_of_tree ?_)
  show wpAny _ _ (callAny (.type "set") _) _ _ _
  refine wpAny_pure ⟨Code.quiet_builtin _ (by decide +kernel), codeAny_builtin F.entry_type_call ?_⟩
  rw [Around.under_plain (weight_type_call_type "set" [.ref l] []) rfl]
  have h1 := F.called_set.notType
  have h2 := F.called_set.canCreate
  have hct := F.typeCall_set_1 (.ref l)
  repeat (any_goals (first | assumption | wp_step))
  refine codeAny_mono (code_set_led1 (.ref l) (E := E) (Q₁ := fun obj s₁ => obj = .ref s.heap.objs.size ∧ s₁ = { s with heap := s.heap.push (newSet w) }) ⟨rfl, rfl⟩) fun r s₁ hr => ?_
  cases r with
  | error e => exact hr
  | ok fl =>
    cases fl with
    | ret obj =>
      obtain ⟨rfl, rfl⟩ := hr
      have hS : (s.heap.push (newSet w)).get? s.heap.objs.size = some (newSet w) := Heap.get?_push_size _ rfl
      have hT : Shared.TypeIs { s with heap := s.heap.push (newSet w) } (.ref s.heap.objs.size) "set" := ⟨_, hS, rfl⟩
      have hli := F.called_set.init.lookup
      have hbi := F.called_set.init.bind (.ref s.heap.objs.size)
      repeat (any_goals (first | assumption | wp_step))
      refine codeAny_mono (codeAny_call_builtin (R := wants (fun r s₂ => r = .none ∧ ∃ h' tk, s₂ = { s with heap := h', toks := tk } ∧ SetI P w x y ks items.size h' s.heap.objs.size ∧
          (∀ b o, s.heap.get? b = some o → h'.get? b = some o)) E) F.called_set.init.plain F.entry_set_init (check_set_init_1 hT ?_)) fun r₂ s₂ hr₂ => ?_
      · obtain ⟨ol, hol, hcl, nl, hdl⟩ := hl
        obtain ⟨ocls, odict, odata, oslots⟩ := ol
        simp only at hcl hdl
        subst hcl; subst hdl
        have hol' : (s.heap.push (newSet w)).get? l = some { cls := .type "list", dict := odict, data := .seq items nl, slots := oslots } := Heap.get?_push_of_some _ hol
        have hsls := F.sub_list_set
        have hslf := F.sub_list_frozenset
        have hne : (Value.type "list" == Value.type "dict") = false := by decide
        have hl1 : (s.heap.push (newSet w)).IsList l items := ⟨_, hol', rfl, nl, rfl⟩
        unfold Builtin.«set.__init__» noKeywords Builtin.Frozenset.updateFrom
        generalize hPI : pyIter = PI
        wp_walk
        subst hPI
        refine wpAny_pyIter_list hl1 ?_
        refine wpAny_bind (wpAny_runValue ?_)
        have hlS : l < s.heap.objs.size := Heap.lt_size hol
        have hh3 : A.in1.in1.in1.handled = none := by simp [hh]
        have hz1 : (s.heap.push (newSet w)).objs.size = s.heap.objs.size + 1 := Heap.size_push ..
        have hneI : l ≠ (s.heap.push (newSet w)).objs.size := by
          rw [Heap.size_push]; exact Nat.ne_of_lt (Nat.lt_succ_of_lt hlS)
        have hSf : s.heap.objs.size ∉ [(s.heap.push (newSet w)).objs.size, l] := by
          rw [Heap.size_push]; simp only [List.mem_cons, List.mem_singleton, List.not_mem_nil, or_false, not_or]
          exact ⟨Nat.ne_of_lt (Nat.lt_succ_self _), Nat.ne_of_gt hlS⟩
        have hval : ∀ (i : Nat) (v : Value), items[i]? = some v → ∃ c, c ∈ ks ∧ v = .ref c := fun i v hv => by
          have q : items.toList[i]? = some v := by rw [Array.getElem?_toList]; exact hv
          rw [hit] at q
          obtain ⟨c, hc, e⟩ := List.mem_map.mp (List.mem_of_getElem? q)
          exact ⟨c, hc, e.symm⟩
        have none_of : ∀ b, s.heap.objs.size ≤ b → s.heap.get? b = none := fun b hb => by
          cases q : s.heap.get? b with
          | none => rfl
          | some o => exact absurd (Nat.lt_of_lt_of_le (Heap.lt_size q) hb) (Nat.lt_irrefl _)
        refine fill_pairs ((Walks.list hh3 _ l hneI items).toS) s.heap.objs.size
          hSf hval s.heap hk (none_of _ (Nat.le_refl _)) (fun b hb => none_of b (by
            rw [List.mem_singleton.mp hb, Heap.size_push]
            exact Nat.le_succ _)) hu (items.size - 0) 0 _ (by omega) (Nat.zero_le _)
          ⟨⟨_, Heap.get?_push_size _ rfl, rfl, rfl⟩, (hl1.push _)⟩ (fun b o e => Heap.get?_push_of_some _ (Heap.get?_push_of_some _ e)) ?hS0 ?hR
        case hS0 =>
          have hget : ((s.heap.push (newSet w)).push { cls := .type "list_iterator", data := .fields #[.ref l, .int 0 0] }).get? s.heap.objs.size = some (newSet w) := Heap.get?_push_of_some _ hS
          exact .inl ⟨rfl, 0, _, set_new hget⟩
        case hR =>
          intro s' hm hS' hkp
          obtain ⟨h', g2, d', tk', os'⟩ := s'
          have eg : g2 = s.gens := hm.gens
          have ed : d' = s.drawn := hm.drawn
          have eo : os' = s.os := hm.os
          subst eg; subst ed; subst eo
          show wpAny _ _ _ _ _ _
          refine wpAny_pure ?_
          show wpAny _ _ (ret Value.none) _ _ _
          exact wpAny_pure ⟨rfl, h', tk', rfl, hS', hkp⟩
      · cases r₂ with
        | error e => exact hr₂
        | ok fl₂ =>
          cases fl₂ with
          | ret r =>
            obtain ⟨rfl, h', tk, rfl, hS', hk'⟩ := hr₂
            repeat (any_goals (first | assumption | wp_step))
            exact h _ _ hS' hk'
          | _ => exact hr₂.elim
    | _ => exact hr.elim
end
end NW

/-! sorted(s), s a set with one pair at most; both as rules of calls. -/
namespace NW
open PySem PySem.Spec PyProof.Rows L2
section
variable {P : Program} {w : World} {A : Around} {E : Value → Shared → Prop} {s : Shared} {x y : Str} {ks : List Addr} {n : Nat}
/-- what a sort leaves of one thing at most -/
theorem few_perm {α : Type} {l m : List α} (h : l.Perm m) (hm : m.length ≤ 1) : l = m := by
  match m, hm with
  | [], _ => exact h.eq_nil
  | [a], _ => exact List.perm_singleton.mp h
theorem sort_few {a : Addr} {vs : List Value} {c : Nat} {Q : Value → Shared → Prop} (ho : s.heap.get? a = some (seqObj "list" vs.toArray c)) (hv : vs.length ≤ 1)
    (h : Q .none { s with heap := sortedHeap s.heap a vs vs.toArray }) : wpAny (model P w) A (call (.builtin "list.sort") [.ref a]) Q E s :=
  wpAny_call_entry slot_list_sort ⟨_, ho, rfl⟩ entry_list_sort (SK.plain_sort (r := fun _ => 0) ho (by omega) (fun h2 => absurd h2 (by omega)) fun ps out h1 h2 _ => by
    have e : ps = vs.zip vs := few_perm h2 (by rw [List.length_zip]; omega)
    have e2 : out = vs.toArray := by
      apply Array.ext'
      rw [h1, e, List.map_snd_zip (Nat.le_refl _)]
    rw [e2]
    exact ⟨_, rfl, h⟩) (args_list_sort _)
def Few (ks : List Addr) (n : Nat) (l : List Value) : Prop := (n = 0 ∧ l = []) ∨ (0 < n ∧ ∃ b, b ∈ ks ∧ l = [Value.ref b])
theorem sorted_pairs {a : Addr} {Q : Value → Shared → Prop} (R : SetI P w x y ks n s.heap a) (hh : A.handled = none)
    (hQ : ∀ s' p c vs, (∀ b o, s.heap.get? b = some o → s'.heap.get? b = some o) → s'.gens = s.gens → s'.os = s.os → s.heap.objs.size ≤ p → s'.heap.get? p = some (seqObj "list" vs.toArray c) → Few ks n vs → Q (.ref p) s') :
    wpAny (model P w) A (call (.builtin "sorted") [.ref a]) Q E s := by
  have main : ∀ es ep t hs, SetR w s.heap a es ep t hs → Few ks n (es.toList.map (·.2)) → wpAny (model P w) A (call (.builtin "sorted") [.ref a]) Q E s := fun es ep t hs R hf => by
    obtain ⟨o, ho, hex, hd⟩ := R.ob
    have hsz := R.size
    have hfew := R.few
    have hl : (es.toList.map (·.2)).length ≤ 1 := by
      rw [List.length_map, Array.length_toList, hsz]
      exact hfew
    refine Calls.call_function_entry kind_sorted plain_sorted entry_sorted (args_sorted1 _) ?_
    unfold Builtin.«sorted»
    refine wpAny_bind (m := checkCount "sorted" 1 1 _) (wpAny_pure ?_)
    refine wpAny_bind (collect_set (A := A.in1) hh ⟨o, ho, hex.1, hd⟩ R.fits (by unfold scanBound; omega) R.tab.ris R.led fun s1 vs k1 hz g1 o1 pm => ?_)
    have ev : vs = es.toList.map (·.2) := few_perm pm hl
    subst ev
    refine wpAny_bind (wpAny_newList ?_ (by rw [sizeLine_eq]; omega))
    have hoL : (s1.heap.push (seqObj "list" (es.toList.map (·.2)).toArray 0)).get? s1.heap.objs.size = some (seqObj "list" (es.toList.map (·.2)).toArray 0) := Heap.get?_push_size _ rfl
    refine wpAny_bind (wpAny_holding (sort_few (s := { s1 with heap := s1.heap.push (seqObj "list" (es.toList.map (·.2)).toArray 0) }) hoL hl ?_))
    obtain ⟨c, hc⟩ := sortedHeap_at (vs := es.toList.map (·.2)) (out := (es.toList.map (·.2)).toArray) hoL
    refine wpAny_pure ⟨_, rfl, hQ _ s1.heap.objs.size c (es.toList.map (·.2)) (fun b u e => ?_) g1 o1 hz hc hf⟩
    have q := k1 b u e
    have hlt := Heap.lt_size q
    show (sortedHeap (s1.heap.push _) s1.heap.objs.size _ _).get? b = some u
    rw [sortedHeap_old (Nat.ne_of_lt hlt) (by rw [size_push']; exact Nat.lt_succ_of_lt hlt)]
    exact Heap.get?_push_of_some _ q
  rcases R with ⟨e, ep, t, R⟩ | ⟨e, b, ep, t, hb, R⟩
  · exact main _ _ _ _ R (.inl ⟨e, rfl⟩)
  · exact main _ _ _ _ R (.inr ⟨e, b, hb, rfl⟩)
/-- the set as a thing of the heap -/
def SetO (P : Program) (w : World) (x y : Str) (ks : List Addr) (n : Nat) (a : Addr) : HO := .ext fun h => SetI P w x y ks n h a
theorem setI_at {h : Heap} {a : Addr} (R : SetI P w x y ks n h a) : ∃ o, h.get? a = some o := by
  rcases R with ⟨e, ep, t, R⟩ | ⟨e, b, ep, t, hb, R⟩
  · exact R.ob.elim fun o z => ⟨o, z.1⟩
  · exact R.ob.elim fun o z => ⟨o, z.1⟩
theorem setO_new {H : Hp} {h : Heap} {a : Addr} (R : SetI P w x y ks n h a) : ObjOk P w H h a (SetO P w x y ks n a) :=
  ⟨R, setI_at R, fun h1 h2 p k => SetI.keep p k⟩
end
section
variable {X : Cx} {x y : Str}
theorem is_pair {pins : List (Addr × Obj)} {σ : L2.St} {H : Hp} {s : Shared} {b : Addr} (I : Inv X pins σ H s) (h : SqT X.K H b [V.str x, V.str y]) : IsP X.prog X.w s.heap [x, y] b := by
  obtain ⟨its, r, ⟨o, ho, hc, n, hd⟩, _⟩ := I.tuple h
  refine ⟨o, its.toArray, n, ho, hc, hd, ?_⟩
  have r' : Vals [V.str x, V.str y] its := r
  cases r' with
  | cons r1 t1 =>
    cases t1 with
    | cons r2 t2 =>
      cases t2
      obtain ⟨tx, rfl⟩ := r1
      obtain ⟨ty, rfl⟩ := r2
      exact .cons (strKind_is _ _ _ _) (.cons (strKind_is _ _ _ _) .nil)
theorem refs_of : ∀ {ks : List Addr} {us : List Value}, Vals (ks.map V.ref) us → us = ks.map Value.ref
  | [], _, .nil => rfl
  | p :: ks, _, .cons r t => by
    cases r
    rw [refs_of t]
    rfl
def rSetP (K : PySem.W.Frag) (P : Program) (w : World) : List V → Hp → VK → Prop := fun xs H Q => ∃ (l : Addr) (ks : List Addr) (x y : Str), xs = [V.ref l] ∧ SqL K H l (ks.map V.ref) ∧ (∀ c ∈ ks, SqT K H c [V.str x, V.str y]) ∧
  ∀ a, H a = none → Q (.ref a) (upd H a (SetO P w x y ks ks.length a))
theorem cr_setP (hc : X.calm = true) (hu : X.A.units + 64 < cLine) : CallR X (.type "set") (rSetP X.K X.prog X.w) := by
  intro pins s σ H xs us Q I r h
  obtain ⟨l, ks, x, y, rfl, hl, hk, q⟩ := h
  rw [Vals.ref1 r]
  obtain ⟨its, rv, pl, hz⟩ := I.list hl
  have hn : H s.heap.objs.size = none := I.hok.fresh (Nat.le_refl _)
  have hr := refs_of rv
  refine call_set_pairs (P := X.prog) (w := X.w) (x := x) (y := y) (ks := ks) (I.ok.hd hc) pl.isList (by simpa using hr) (fun p hp => is_pair I (hk p hp)) (by omega) fun h' tk R k => ?_
  have hsz : its.toArray.size = ks.length := by rw [List.size_toArray, hr, List.length_map]
  rw [hsz] at R
  exact ⟨.ref s.heap.objs.size, upd H s.heap.objs.size (SetO X.prog X.w x y ks ks.length s.heap.objs.size), I.laid (t' := tk) k (Nat.le_refl _) (setO_new R), rfl, q _ hn⟩
def rSortP (P : Program) (w : World) : List V → Hp → VK → Prop := fun vs H Q => ∃ (a : Addr) (ks : List Addr) (n : Nat) (x y : Str), vs = [V.ref a] ∧ H a = some (SetO P w x y ks n a) ∧
  ∀ (l : List V) (p : Addr), H p = none → ((n = 0 ∧ l = []) ∨ (0 < n ∧ ∃ b, b ∈ ks ∧ l = [V.ref b])) → Q (.ref p) (upd H p (.lst l))
theorem cr_sortP (hc : X.calm = true) : CallR X (.builtin "sorted") (rSortP X.prog X.w) := by
  intro pins s σ H vs us Q I r h
  obtain ⟨a, ks, n, x, y, rfl, ha, q⟩ := h
  have R : SetI X.prog X.w x y ks n s.heap a := (I.hok a _ ha).1
  rw [Vals.ref1 r]
  refine sorted_pairs R (I.ok.hd hc) fun s' p c vs k g o hp hg hf => ?_
  have hn : H p = none := I.hok.fresh hp
  have key : ∃ l : List V, Vals l vs ∧ ((n = 0 ∧ l = []) ∨ (0 < n ∧ ∃ b, b ∈ ks ∧ l = [V.ref b])) ∧ l.length ≤ 1 := by
    rcases hf with ⟨e, rfl⟩ | ⟨e, b, hb, rfl⟩
    · exact ⟨[], .nil, .inl ⟨e, rfl⟩, by simp⟩
    · exact ⟨[V.ref b], .cons rfl .nil, .inr ⟨e, b, hb, rfl⟩, by simp⟩
  obtain ⟨l, hv, hl, hlen⟩ := key
  have J : Inv X pins σ (upd H p (.lst l)) { s with heap := s'.heap, gens := s'.gens, drawn := s'.drawn, toks := s'.toks } :=
    I.call (ch := []) (Un.laid k hp hn) (I.hok.laid k hp ⟨by rw [sizeLine_eq]; omega, vs, c, hv, hg⟩) (by rw [g]; exact I.bare) (fun _ z => nomatch z)
  have e : s' = { s with heap := s'.heap, gens := s'.gens, drawn := s'.drawn, toks := s'.toks } := by
    cases s'
    cases s
    cases o
    rfl
  rw [e]
  exact ⟨.ref p, _, J, rfl, q l p hn hl⟩
end
end NW

/-! sorted(set(xs)), all things of xs one and the same pair of texts. -/
namespace NW
open PySem PySem.Spec PyProof.Rows L2 Evl
/-- the list's things are all the pair (a, b) -/
def allPair (a b : Str) : List D → Bool
  | [] => true
  | .tup [.str x, .str y] :: r => decide (x = a) && decide (y = b) && allPair a b r
  | _ => false
def sortSetD : D → Option (D × Bool)
  | .lst [] => some (.lst [], true)
  | .lst (.tup [.str a, .str b] :: r) => if allPair a b r && decide (r.length ≤ 50000) then some (.lst [.tup [.str a, .str b]], true) else none
  | _ => none
section
variable {X : Cx} {e : Expr} {pos p p2 pos2 : Pos}
theorem rep_pair {T : Wd} {F : Hp} {v : V} {a b : Str} (r : Rep T F v (.tup [.str a, .str b])) : ∃ c, v = .ref c ∧ SqT T.K F c [V.str a, V.str b] := by
  cases r with
  | @tup c xs _ h r =>
    cases r with
    | cons r1 r =>
      cases r with
      | cons r2 r =>
        cases r
        cases r1
        cases r2
        exact ⟨c, rfl, h⟩
theorem all_pairs {T : Wd} {F : Hp} {a b : Str} : ∀ {ds : List D} {vs : List V}, allPair a b ds = true → RepL T F vs ds → ∃ ks : List Addr, vs = ks.map V.ref ∧ ∀ c ∈ ks, SqT T.K F c [V.str a, V.str b]
  | [], _, _, .nil => ⟨[], rfl, by simp⟩
  | d :: ds, _, h, .cons r1 r => by
    unfold allPair at h
    split at h
    · rename_i q; cases q
    · rename_i x y r' q
      cases q
      simp only [Bool.and_eq_true, decide_eq_true_eq] at h
      obtain ⟨⟨rfl, rfl⟩, h3⟩ := h
      obtain ⟨c, rfl, hc⟩ := rep_pair r1
      obtain ⟨ks, rfl, hk⟩ := all_pairs h3 r
      exact ⟨c :: ks, rfl, fun z hz => by
        rcases List.mem_cons.mp hz with rfl | hz
        · exact hc
        · exact hk z hz⟩
    · cases h
theorem sort_set_go {T : Wd} {P : Program} {w : World} {F F1 H H1 : Hp} {l : Addr} {ks : List Addr} {a b : Str} {Q : VK} (s1 : EStp F H F1 H1) (h : F1 l = some (.lst (ks.map V.ref))) (hk : ∀ c ∈ ks, SqT T.K F1 c [V.str a, V.str b])
    (k : ∀ v F' H', EStp F H F' H' → Res T F H F' H' v (.lst (if ks = [] then [] else [.tup [.str a, .str b]])) true → Q v H') :
    rSetP T.K P w [V.ref l] H1 fun v2 H2 => rSortP P w [v2] H2 Q := by
  refine ⟨l, ks, a, b, rfl, .inl (.of (s1.sub _ _ h)), fun c hc => (RdLe.ex s1.sub).t (hk c hc), fun q hq => ⟨q, ks, ks.length, a, b, rfl, upd_same, fun l2 p hp hl => ?_⟩⟩
  have hpq : p ≠ q := by
    rintro rfl
    rw [upd_same] at hp
    cases hp
  have hp1 : H1 p = none := by rw [upd_ne hpq] at hp; exact hp
  have st := s1.trans ((EStp.newH s1.sub hq (SetO P w a b ks ks.length q)).trans (EStp.newH (Ex.sub_new s1.sub hq) hp (.lst l2)))
  refine k _ F1 _ st ⟨p, rfl, fresh_back s1.ex hp1, Ex.none_sub s1.sub hp1, l2, upd_same, ?_⟩
  rcases hl with ⟨e, rfl⟩ | ⟨e, c, hc, rfl⟩
  · rw [if_pos (List.eq_nil_of_length_eq_zero e)]
    exact .nil
  · rw [if_neg (fun z => by rw [z] at e; exact absurd e (by simp))]
    exact .cons (.tup (hk c hc) (.cons (.str _) (.cons (.str _) .nil))) .nil
theorem se_sortSet {d : DV} (hc : X.calm = true) (hu : Rm X) (hg : Gl X "sorted") (hm : X.mg "sorted" = none) (hg2 : Gl X "set") (hm2 : X.mg "set" = none) (h : SV X e d) (h1 : Arg1 X e := by rfl) (h2 : Arg1 X (.Call (.Name "set" p2) [e] [] pos2) := by rfl) : SE X (.Call (.Name "sorted" p) [.Call (.Name "set" p2) [e] [] pos2] [] pos) (dF1 sortSetD d) :=
  pe_imp (bl_one (cr_sortP hc) hg hm rfl (ty_one (cr_setP hc (by omega)) hg2 hm2 rfl h h1 (by decide) (by decide)) h2 (by decide) (by decide)) fun σ H Q ⟨ρ, F, z, b, A, q, k⟩ => by
    obtain ⟨x, q1, q⟩ := bind1 q
    refine ⟨ρ, F, x, A, q1, fun v F1 H1 s1 p1 => ?_⟩
    unfold sortSetD at q
    split at q
    · cases q
      cases p1 with
      | lst hp r =>
        cases r
        exact sort_set_go (T := wd X) (ks := []) (a := "") (b := "") s1 hp (by simp) k
    · rename_i a b' r'
      split at q
      · rename_i hq
        cases q
        cases p1 with
        | lst hp r =>
          have ha : allPair a b' (.tup [.str a, .str b'] :: r') = true := by
            simp only [allPair, decide_true, Bool.true_and]
            exact (Bool.and_eq_true_iff.mp hq).1
          obtain ⟨ks, rfl, hk⟩ := all_pairs ha r
          have hne : ks ≠ [] := by
            rintro rfl
            cases r
          refine sort_set_go (T := wd X) (ks := ks) (a := a) (b := b') s1 hp hk ?_
          rw [if_neg hne]
          exact k
      · cases q
    · cases q
end
end NW

namespace NW
open PySem PySem.Spec PyProof.Rows L2 Evl

def top (i : Nat) : Stmt := PySem.Challenge.pw_nameswait_k06_whole_shortest_histories.main.body.getD i (.Pass ⟨0, 0, 0, 0⟩)
def fuel : Nat := 100000
def partsD : List D := [.str "wait", .str "forward", .str "bars", .str "hops", .str "marks", .str "life", .str "copies", .str "passing"]
def choicesD : List (Str × D) := [("wait", .tup [.int 0, .int 1, .int 2, .int 3, .non]), ("forward", .tup [.int 0, .int 1, .int 2, .int 3, .non]), ("hops", .tup [.int 0, .int 1, .int 2]), ("marks", .tup [.int 1, .int 2, .int 3]), ("life", .tup [.int 0, .int 1, .int 2, .int 3, .int 4, .non]), ("copies", .tup [.str "no", .str "same", .str "anew"]), ("passing", .tup [.str "no", .str "kept", .str "counted"])]
def dGet2 (d dk dz : DV) : DV := fun ρ => (d ρ).bind fun x => (dk ρ).bind fun y => (dz ρ).bind fun z => get2D x y z
structure GF (P : Program) (w : World) (K : PySem.W.Frag) (mg : Str → Option Value) : Prop where
  WAIT : ∃ t, mg "WAIT" = some (.int 0 t)
  FORWARD : ∃ t, mg "FORWARD" = some (.int 1 t)
  BARS : ∃ t, mg "BARS" = some (.int 2 t)
  HOPS : ∃ t, mg "HOPS" = some (.int 3 t)
  MARKS : ∃ t, mg "MARKS" = some (.int 4 t)
  LIFE : ∃ t, mg "LIFE" = some (.int 5 t)
  COPIES : ∃ t, mg "COPIES" = some (.int 6 t)
  PASSING : ∃ t, mg "PASSING" = some (.int 7 t)
  LETTERS : ∃ t, mg "LETTERS" = some (.str "abcdefghijklmnopqrstuvwxyz" t)
  NO : ∃ t, mg "NO" = some (.str "no" t)
  SAME : ∃ t, mg "SAME" = some (.str "same" t)
  ANEW : ∃ t, mg "ANEW" = some (.str "anew" t)
  KEPT : ∃ t, mg "KEPT" = some (.str "kept" t)
  COUNTED : ∃ t, mg "COUNTED" = some (.str "counted" t)
  ASTRAY : ∃ t, mg "ASTRAY" = some (.str "astray" t)
  LOST : ∃ t, mg "LOST" = some (.str "lost" t)
  MEANT : ∃ t, mg "MEANT" = some (.str "meant" t)
  OTHER : ∃ t, mg "OTHER" = some (.str "other" t)
  TIME : ∃ t, mg "TIME" = some (.str "time" t)
  MINE : ∃ t, mg "MINE" = some (.str "mine" t)
  THEIRS : ∃ t, mg "THEIRS" = some (.str "theirs" t)
  OUT : ∃ t, mg "OUT" = some (.str "out" t)
  NEW : ∃ t, mg "NEW" = some (.str "new" t)
  NONE : ∃ t, mg "NONE" = some (.str "none" t)
  NEXT : ∃ t, mg "NEXT" = some (.str "next" t)
  OFF : ∃ t, mg "OFF" = some (.str "off" t)
  int : mg "int" = none
  len : mg "len" = none
  isinstance : mg "isinstance" = none
  bool : mg "bool" = none
  str : mg "str" = none
  tuple : mg "tuple" = none
  max : mg "max" = none
  min : mg "min" = none
  abs : mg "abs" = none
  range : mg "range" = none
  enumerate : mg "enumerate" = none
  zip : mg "zip" = none
  all : mg "all" = none
  sorted : mg "sorted" = none
  set : mg "set" = none
  dict : mg "dict" = none
  k_int : Kit K "int"
  k_bool : Kit K "bool"
  k_str : Kit K "str"
  k_tuple : Kit K "tuple"
  parts : ∃ a, mg "RULE_PARTS" = some (.ref a) ∧ ∀ F, Rep ⟨P, w, K⟩ F (.ref a) (.tup partsD)
  choices : ∃ p, mg "CHOICES" = some (.ref p) ∧ ∀ k d, lookS choicesD k = some d → ∃ v, KDct K w p k v ∧ ∀ F, Rep ⟨P, w, K⟩ F v d
theorem rm_of {k : Nat} {X : Cx} (hr : Room k X.A) : Rm X := by
  have := hr.un
  show X.A.units + 65 < cLine
  omega
def b_is_integer : DS := (dRet (toE (dAndV (dF1 (isiD "int") (dPk 0)) (dAndV (dBv (dNot (dTest (dF1 (isiD "bool") (dPk 0))))) (dBv (dChain leD leD (dPk 1) (dPk 0) (dPk 2)))))))
def f_is_integer : Fn := fnOf 3 b_is_integer

def b_fits : DS := (dSeq (dIfS (dCmp eqD (dPk 0) (dC (.str "bars"))) (dRet (toE (dF1 (isiD "bool") (dPk 1)))) dSkip)
  (dSeq (dIfS (dCmp isD (dPk 1) (dC .non)) (dRet (toE (dBv (dCmp inD (dC .non) (dKix choicesD (dVar 0)))))) dSkip)
  (dSeq (dIfS (dTest (dF1 (isiD "str") (dPk 1))) (dRet (toE (dBv (dCmp inD (dPk 1) (dKix choicesD (dVar 0)))))) dSkip)
  (dRet (toE (dAndV (ofE (dCall 3 f_is_integer (dCons (dVar 1) (dCons (dC (.int 0)) (dCons (dC (.int 9)) dNil))))) (dBv (dCmp inD (dPk 1) (dKix choicesD (dVar 0))))))))))
def f_fits : Fn := fnOf 2 b_fits

def b_is_rule : DS := (dSeq (dIfS (dOr (dNot (dTest (dF1 (isiD "tuple") (dPk 0)))) (dCmp (notG eqD) (dF1 lenD (dPk 0)) (dF1 lenD (dC (.tup partsD))))) (dRet (toE (dC (.bl false)))) dSkip)
  (dRet (toE (dF1 allD (ofE (dLc (zipT (dC (.tup partsD)) (dVar 0)) (tgT [1, 2]) dYes (ofE (dCall 2 f_fits (dCons (dVar 1) (dCons (dVar 2) dNil)))) [1, 2]))))))
def f_is_rule : Fn := fnOf 3 b_is_rule

def b_need_rule : DS := (dIfS (dNot (dTest (ofE (dCall 1 f_is_rule (dCons (dVar 0) dNil))))) dNever dSkip)
def f_need_rule : Fn := fnOf 1 b_need_rule

def b_need_threat : DS := (dSeq (dIfS (dOr (dNot (dTest (dF1 (isiD "str") (dPk 0)))) (dCmp (notG inD) (dPk 0) (dTup (dCons (dC (.str "astray")) (dCons (dC (.str "lost")) dNil))))) dNever dSkip)
  (dIfS (dOr (dNot (dTest (dF1 (isiD "str") (dPk 1)))) (dCmp (notG inD) (dPk 1) (dTup (dCons (dC (.str "meant")) (dCons (dC (.str "other")) (dCons (dC (.str "time")) dNil)))))) dNever dSkip))
def f_need_threat : Fn := fnOf 2 b_need_threat

def b_first_scene : DS := (dRet (toE (dTup (dCons (dC (.int 0)) (dCons (dTup (dCons (dTup (dCons (dC (.str "mine")) (dCons (dC (.str "mine")) (dCons (dC (.int 0)) (dCons (dC (.int 0)) (dCons (dC (.str "none")) dNil)))))) dNil)) (dCons (dC (.int 0)) dNil))))))
def f_first_scene : Fn := fnOf 0 b_first_scene

def b_oldest : DS := (dRet (toE (dF1 maxD (ofE (dCat (ofE (dLst (dCons (dC (.int 0)) dNil))) (ofE (dLc (seqT (dTup (dCons (dOp ixD (dPk 0) (dC (.int 0))) (dCons (dOp ixD (dPk 0) (dC (.int 1))) dNil)))) (tgN 1) (dCmp (notG isD) (dPk 1) (dC .non)) (dVar 1) [1])))))))
def f_oldest : Fn := fnOf 2 b_oldest

def b_is_fine : DS := (dRet (toE (dAndV (dBv (dCmp (notG eqD) (dOp ixD (dPk 1) (dC (.int 4))) (dC (.str "none")))) (dOrV (dBv (dCmp isD (dOp ixD (dPk 0) (dC (.int 1))) (dC .non))) (dBv (dCmp ltD (dOp ixD (dPk 1) (dC (.int 3))) (dOp ixD (dPk 0) (dC (.int 1)))))))))
def f_is_fine : Fn := fnOf 2 b_is_fine

def b_may_come : DS := (dSeq (dIfS (dTest (dVar 3)) (dRet (toE (dBv (dCmp eqD (dOp ixD (dPk 1) (dC (.int 1))) (dPk 2))))) dSkip)
  (dSeq (dIfS (dOr (dChain eqD eqD (dOp ixD (dPk 1) (dC (.int 1))) (dPk 2) (dC (.str "mine"))) (dOr (dCmp isD (dOp ixD (dPk 0) (dC (.int 0))) (dC .non)) (dCmp ltD (dOp ixD (dPk 1) (dC (.int 3))) (dOp ixD (dPk 0) (dC (.int 0)))))) (dRet (toE (dC (.bl false)))) dSkip)
  (dRet (toE (dOrV (dBv (dNot (dTest (dOp ixD (dPk 0) (dC (.int 2)))))) (dBv (dNot (dTest (ofE (dCall 2 f_is_fine (dCons (dVar 0) (dCons (dVar 1) dNil))))))))))))
def f_may_come : Fn := fnOf 4 b_may_come

def b_cut_at : DS := (dSeq (dAsg (tgT [3, 4, 5]) (dVar 0))
  (dSeq (dIfS (dAnd (dCmp (notG isD) (dPk 5) (dC .non)) (dAnd (dCmp (notG eqD) (dPk 5) (dC (.str "out"))) (dCmp gtD (dPk 5) (dPk 1)))) (dSet 5 (dC (.str "out"))) dSkip)
  (dRet (toE (dTup (dCons (dVar 3) (dCons (dOp addD (dSl (dPk 4) dI0 (dI1 (dVar 1))) (dTup (dCons (dVar 2) dNil))) (dCons (dVar 5) dNil))))))))
def f_cut_at : Fn := fnOf 6 b_cut_at

def b_come_at : DS := (dSeq (dSet 5 (dOp modD (dOp addD (dOp ixD (dOp ixD (dOp ixD (dPk 1) (dC (.int 1))) (dPk 2)) (dC (.int 2))) (dF1 intD (dBv (dNot (dTest (dVar 4)))))) (dOp ixD (dPk 0) (dC (.int 4)))))
  (dRet (dCall 3 f_cut_at (dCons (dVar 1) (dCons (dVar 2) (dCons (dTup (dCons (dVar 3) (dCons (dVar 3) (dCons (dVar 5) (dCons (dC (.int 0)) (dCons (dC (.str "none")) dNil)))))) dNil))))))
def f_come_at : Fn := fnOf 6 b_come_at

def b_renamed : DS := (dSeq (dAsg (tgT [2, 3, 4]) (dVar 1))
  (dSeq (dAsg (tgT [5, 6, 7, 8, 9]) (dOp ixD (dPk 3) (dF1 negD (dC (.int 1)))))
  (dSeq (dSet 10 (dBv (dCmp eqD (dPk 4) (dOp subD (dF1 lenD (dPk 3)) (dC (.int 1))))))
  (dSeq (dIfS (dAnd (dCmp eqD (dPk 7) (dC (.int 0))) (dAnd (dCmp (notG eqD) (dOp ixD (dPk 0) (dC (.int 1))) (dC (.int 0))) (dCmp leD (dF1 lenD (dPk 3)) (dOp ixD (dPk 0) (dC (.int 3)))))) (dSeq (dSet 3 (dOp addD (dSl (dPk 3) dI0 (dI1 (dF1 negD (dC (.int 1))))) (dTup (dCons (dTup (dCons (dC .non) (dCons (dVar 5) (dCons (dVar 7) (dCons (dC (.int 0)) (dCons (dC (.str "next")) dNil)))))) (dCons (dTup (dCons (dVar 5) (dCons (dVar 5) (dCons (dC (.int 0)) (dCons (dC (.int 0)) (dCons (dC (.str "none")) dNil)))))) dNil)))))
  (dRet (toE (dTup (dCons (dVar 2) (dCons (dVar 3) (dCons (dIf (dTest (dVar 10)) (dOp subD (dF1 lenD (dPk 3)) (dC (.int 1))) (dVar 4)) dNil))))))) dSkip)
  (dRet (toE (dTup (dCons (dVar 2) (dCons (dOp addD (dSl (dPk 3) dI0 (dI1 (dF1 negD (dC (.int 1))))) (dTup (dCons (dTup (dCons (dC .non) (dCons (dVar 5) (dCons (dVar 7) (dCons (dC (.int 0)) (dCons (dC (.str "off")) dNil)))))) dNil))) (dCons (dIf (dTest (dVar 10)) (dC (.str "out")) (dVar 4)) dNil))))))))))
def f_renamed : Fn := fnOf 11 b_renamed

def l_aged_1 : DS := (dApp 5 (dTup (dCons (dVar 6) (dCons (dVar 7) (dCons (dVar 8) (dCons (dOp min2D (dOp addD (dPk 9) (dF1 intD (dBv (dCmp isD (dPk 6) (dC .non))))) (ofE (dCall 1 f_oldest (dCons (dVar 0) dNil)))) (dCons (dVar 10) dNil)))))))
def l_aged_2 : DS := (dIfS (dAnd (dCmp eqD (dOp ixD (dPk 13) (dC (.int 4))) (dC (.str "next"))) (dNot (dTest (ofE (dCall 2 f_is_fine (dCons (dVar 0) (dCons (dVar 13) dNil))))))) (dRet (dCall 3 f_cut_at (dCons (dVar 11) (dCons (dVar 12) (dCons (dOp addD (dSl (dPk 13) dI0 (dI1 (dC (.int 4)))) (dTup (dCons (dC (.str "off")) dNil))) dNil))))) dSkip)
def b_aged : DS := (dSeq (dAsg (tgT [2, 3, 4]) (dVar 1))
  (dSeq (dSetO 5 (dLst dNil))
  (dSeq (dFor (seqT (dVar 3)) (tgT [6, 7, 8, 9, 10]) l_aged_1)
  (dSeq (dSet 11 (dTup (dCons (dIf (dCmp isD (dOp ixD (dPk 0) (dC (.int 5))) (dC .non)) (dC (.int 0)) (dOp addD (dPk 2) (dC (.int 1)))) (dCons (dF1 tupleD (dPk 5)) (dCons (dVar 4) dNil)))))
  (dSeq (dFrz 5 (dFor (enumL (toE (dVar 5))) (tgT [12, 13]) l_aged_2))
  (dRet (toE (dVar 11))))))))
def f_aged : Fn := fnOf 14 b_aged

def l_comings_1 : DS := (dIfS (dTest (ofE (dCall 4 f_may_come (dCons (dVar 0) (dCons (dVar 8) (dCons (dVar 9) (dCons (dVar 10) dNil))))))) (dApp 5 (dTup (dCons (dTup (dCons (dC (.str "take")) (dCons (dVar 9) (dCons (dVar 10) (dCons (dVar 7) dNil))))) (dCons (ofE (dCall 5 f_come_at (dCons (dVar 0) (dCons (dVar 1) (dCons (dVar 7) (dCons (dVar 9) (dCons (dVar 10) dNil))))))) dNil)))) dSkip)
def l_comings_2 : DS := (dSeq (dIfS (dCmp (notG isD) (dOp ixD (dPk 8) (dC (.int 0))) (dC .non)) dCont dSkip)
  (dSeq (dFor (seqT (dTup (dCons (dTup (dCons (dC (.str "mine")) (dCons (dC (.bl true)) dNil))) (dCons (dTup (dCons (dC (.str "mine")) (dCons (dC (.bl false)) dNil))) (dCons (dTup (dCons (dC (.str "theirs")) (dCons (dC (.bl true)) dNil))) (dCons (dTup (dCons (dC (.str "theirs")) (dCons (dC (.bl false)) dNil))) dNil)))))) (tgT [9, 10]) l_comings_1)
  (dSeq (dSet 10 (dBv (dCmp eqD (dOp ixD (dPk 8) (dC (.int 1))) (dC (.str "mine")))))
  (dIfS (dAnd (dTest (ofE (dCall 4 f_may_come (dCons (dVar 0) (dCons (dVar 8) (dCons (dC (.str "mine")) (dCons (dVar 10) dNil))))))) (dOr (dCmp eqD (dPk 4) (dC (.str "out"))) (dAnd (dCmp eqD (dPk 4) (dPk 6)) (dCmp ltD (dPk 7) (dPk 6))))) (dSeq (dSet 11 (ofE (dCall 5 f_come_at (dCons (dVar 0) (dCons (dVar 1) (dCons (dVar 7) (dCons (dC (.str "mine")) (dCons (dVar 10) dNil))))))))
  (dApp 5 (dTup (dCons (dTup (dCons (dC (.str "change")) (dCons (dVar 4) (dCons (dVar 7) dNil)))) (dCons (dTup (dCons (dOp ixD (dPk 11) (dC (.int 0))) (dCons (dOp ixD (dPk 11) (dC (.int 1))) (dCons (dVar 7) dNil)))) dNil))))) dSkip))))
def b_comings : DS := (dSeq (dAsg (tgT [2, 3, 4]) (dVar 1))
  (dSeq (dPar true false 5 6 (dLst dNil) (toE (dOp subD (dF1 lenD (dPk 3)) (dC (.int 1)))))
  (dSeq (dFor (enumT (dVar 3)) (tgT [7, 8]) l_comings_2)
  (dRetO 5))))
def f_comings : Fn := fnOf 12 b_comings

def l_leavings_1 : DS := (dIfS (dCmp (notG eqD) (dTup (dCons (dVar 6) (dCons (dVar 14) dNil))) (dTup (dCons (dC (.str "mine")) (dCons (dC (.str "mine")) dNil)))) (dApp 12 (dTup (dCons (dTup (dCons (dC (.str "pass")) (dCons (dVar 5) (dCons (dVar 14) dNil)))) (dCons (dTup (dCons (dVar 2) (dCons (dOp addD (dSl (dPk 3) dI0 (dI1 (dVar 5))) (dTup (dCons (dTup (dCons (dVar 14) (dCons (dVar 14) (dCons (dVar 13) (dCons (dC (.int 0)) (dCons (dC (.str "none")) dNil)))))) dNil))) (dCons (dVar 11) dNil)))) dNil)))) dSkip)
def b_leavings : DS := (dSeq (dAsg (tgT [2, 3, 4]) (dVar 1))
  (dSeq (dSet 5 (dOp subD (dF1 lenD (dPk 3)) (dC (.int 1))))
  (dSeq (dAsg (tgT [6, 7, 8, 9, 10]) (dOp ixD (dPk 3) (dPk 5)))
  (dSeq (dIfS (dCmp isD (dPk 6) (dC .non)) (dRet (dLst dNil)) dSkip)
  (dSeq (dSet 11 (dIf (dCmp eqD (dPk 4) (dPk 5)) (dC .non) (dVar 4)))
  (dSeq (dSetO 12 (dLst (dCons (dTup (dCons (dTup (dCons (dC (.str "give")) (dCons (dVar 5) dNil))) (dCons (dTup (dCons (dVar 2) (dCons (dOp addD (dSl (dPk 3) dI0 (dI1 (dVar 5))) (dTup (dCons (dTup (dCons (dC .non) (dCons (dVar 6) (dCons (dVar 8) (dCons (dC (.int 0)) (dCons (dC (.str "none")) dNil)))))) dNil))) (dCons (dVar 11) dNil)))) dNil))) dNil)))
  (dSeq (dApp 12 (dTup (dCons (dTup (dCons (dC (.str "change")) (dCons (dVar 5) (dCons (dC (.str "new")) dNil)))) (dCons (ofE (dCall 2 f_renamed (dCons (dVar 0) (dCons (dVar 1) dNil)))) dNil))))
  (dSeq (dIfS (dCmp (notG eqD) (dOp ixD (dPk 0) (dC (.int 7))) (dC (.str "no"))) (dSeq (dSet 13 (dOp modD (dOp addD (dPk 8) (dF1 intD (dBv (dCmp eqD (dOp ixD (dPk 0) (dC (.int 7))) (dC (.str "counted")))))) (dOp ixD (dPk 0) (dC (.int 4)))))
  (dFor (seqT (dTup (dCons (dC (.str "mine")) (dCons (dC (.str "theirs")) dNil)))) (tgN 14) l_leavings_1)) dSkip)
  (dRetO 12)))))))))
def f_leavings : Fn := fnOf 15 b_leavings

def b_copies : DS := (dSeq (dAsg (tgT [2, 3, 4]) (dVar 1))
  (dSeq (dSet 5 (dOp subD (dF1 lenD (dPk 3)) (dC (.int 1))))
  (dSeq (dIfS (dCmp eqD (dOp ixD (dPk 0) (dC (.int 6))) (dC (.str "same"))) (dRet (dLst (dCons (dTup (dCons (dTup (dCons (dC (.str "copy")) dNil)) (dCons (dTup (dCons (dC (.int 0)) (dCons (dVar 3) (dCons (dVar 4) dNil)))) dNil))) dNil))) dSkip)
  (dSeq (dIfS (dAnd (dCmp eqD (dOp ixD (dPk 0) (dC (.int 6))) (dC (.str "anew"))) (dAnd (dCmp (notG isD) (dOp ixD (dOp ixD (dPk 3) (dPk 5)) (dC (.int 0))) (dC .non)) (dCmp eqD (dOp ixD (dOp ixD (dPk 3) (dPk 5)) (dC (.int 2))) (dC (.int 0))))) (dSeq (dIfS (dCmp (notG isD) (dPk 4) (dC .non)) (dSet 4 (dIf (dCmp eqD (dPk 4) (dPk 5)) (dC (.int 0)) (dC (.str "out")))) dSkip)
  (dRet (dLst (dCons (dTup (dCons (dTup (dCons (dC (.str "copy")) dNil)) (dCons (dTup (dCons (dC (.int 0)) (dCons (dSl (dPk 3) (dI1 (dVar 5)) dI0) (dCons (dVar 4) dNil)))) dNil))) dNil)))) dSkip)
  (dRet (dLst dNil))))))
def f_copies : Fn := fnOf 6 b_copies

def b_steps_of : DS := (dSeq (dSet 2 (ofE (dCat (ofE (dCat (ofE (dCat (ofE (dLst (dCons (dTup (dCons (dTup (dCons (dC (.str "tick")) dNil)) (dCons (ofE (dCall 2 f_aged (dCons (dVar 0) (dCons (dVar 1) dNil)))) dNil))) dNil))) (ofE (dCall 2 f_comings (dCons (dVar 0) (dCons (dVar 1) dNil)))))) (ofE (dCall 2 f_leavings (dCons (dVar 0) (dCons (dVar 1) dNil)))))) (ofE (dCall 2 f_copies (dCons (dVar 0) (dCons (dVar 1) dNil)))))))
  (dRet (dLc (seqS (toE (dVar 2))) (tgT [3, 4]) (dOr (dCmp isD (dOp ixD (dPk 0) (dC (.int 5))) (dC .non)) (dCmp leD (dOp ixD (dPk 4) (dC (.int 0))) (dOp ixD (dPk 0) (dC (.int 5))))) (dTup (dCons (dVar 3) (dCons (dVar 4) dNil))) [3, 4])))
def f_steps_of : Fn := fnOf 5 b_steps_of

def b_end_of : DS := (dSeq (dSet 1 (dOp ixD (dOp ixD (dPk 0) (dC (.int 1))) (dF1 negD (dC (.int 1)))))
  (dRet (toE (dIf (dCmp eqD (dOp ixD (dPk 1) (dC (.int 2))) (dC (.int 0))) (dOp ixD (dPk 1) (dC (.int 0))) (dC .non)))))
def f_end_of : Fn := fnOf 2 b_end_of

def b_first_state : DS := (dRet (toE (dTup (dCons (ofE dNewS) (dCons (dTup dNil) dNil)))))
def f_first_state : Fn := fnOf 0 b_first_state

def b_is_good : DS := (dSeq (dSet 2 (dOp ixD (dPk 0) (dC (.int 1))))
  (dRet (toE (dAndV (dBv (dCmp isD (dOp ixD (dPk 1) (dC (.int 0))) (dC .non))) (dAndV (dBv (dCmp (notG isD) (dOp ixD (dPk 1) (dC (.int 4))) (dC .non))) (dOrV (dBv (dCmp isD (dPk 2) (dC .non))) (dBv (dCmp ltD (dOp ixD (dPk 1) (dC (.int 3))) (dPk 2)))))))))
def f_is_good : Fn := fnOf 3 b_is_good

def b_is_open : DS := (dSeq (dAsg (tgT [4, 5]) (dVar 1))
  (dSeq (dIfS (dCmp (notG inD) (dPk 3) (dPk 4)) (dRet (toE (dC (.bl true)))) dSkip)
  (dSeq (dPar false false 6 7 (toE (dOp ixD (dPk 4) (dPk 3))) (toE (dOp ixD (dPk 0) (dC (.int 0)))))
  (dSeq (dIfS (dCmp (notG isD) (dOp ixD (dPk 6) (dC (.int 0))) (dC .non)) (dRet (toE (dC (.bl false)))) dSkip)
  (dSeq (dIfS (dCmp eqD (dOp ixD (dPk 6) (dC (.int 1))) (dPk 2)) (dRet (toE (dC (.bl true)))) dSkip)
  (dSeq (dIfS (dOr (dCmp isD (dPk 7) (dC .non)) (dCmp ltD (dOp ixD (dPk 6) (dC (.int 3))) (dPk 7))) (dRet (toE (dC (.bl false)))) dSkip)
  (dRet (toE (dOrV (dBv (dNot (dTest (dOp ixD (dPk 0) (dC (.int 2)))))) (dBv (dNot (dTest (ofE (dCall 2 f_is_good (dCons (dVar 0) (dCons (dVar 6) dNil))))))))))))))))
def f_is_open : Fn := fnOf 8 b_is_open

def b_come : DS := (dSeq (dSet 3 (dC (.int 0)))
  (dSeq (dIfS (dCmp inD (dPk 2) (dPk 0)) (dSet 3 (dOp addD (dOp ixD (dOp ixD (dPk 0) (dPk 2)) (dC (.int 2))) (dF1 intD (dBv (dCmp (notG eqD) (dOp ixD (dOp ixD (dPk 0) (dPk 2)) (dC (.int 1))) (dPk 1)))))) dSkip)
  (dRet (dStar (dVar 0) (dVar 2) (dTup (dCons (dVar 1) (dCons (dVar 1) (dCons (dVar 3) (dCons (dC (.int 0)) (dCons (dC .non) dNil))))))))))
def f_come : Fn := fnOf 4 b_come

def b_unheld : DS := (dSeq (dSet 3 (dOp ixD (dPk 0) (dPk 1)))
  (dRet (dStar (dVar 0) (dVar 1) (dTup (dCons (dC .non) (dCons (dOp ixD (dPk 3) (dC (.int 1))) (dCons (dOp ixD (dPk 3) (dC (.int 2))) (dCons (dC (.int 0)) (dCons (dVar 2) dNil)))))))))
def f_unheld : Fn := fnOf 4 b_unheld

def l_goes_to_1 : DS := (dSeq (dSet 7 (dOp ixD (dPk 4) (dPk 2)))
  (dSeq (dIfS (dCmp (notG eqD) (dOp modD (dOp subD (dOp ixD (dPk 7) (dC (.int 2))) (dPk 3)) (dOp ixD (dPk 0) (dC (.int 4)))) (dC (.int 0))) (dRet (toE (dTup (dCons (dC .non) (dCons (dC .non) dNil))))) dSkip)
  (dSeq (dIfS (dCmp (notG isD) (dOp ixD (dPk 7) (dC (.int 0))) (dC .non)) (dRet (toE (dTup (dCons (dVar 2) (dCons (dOp ixD (dPk 7) (dC (.int 0))) dNil))))) dSkip)
  (dSeq (dIfS (dNot (dTest (ofE (dCall 2 f_is_good (dCons (dVar 0) (dCons (dVar 7) dNil)))))) (dRet (toE (dTup (dCons (dC .non) (dCons (dC .non) dNil))))) dSkip)
  (dAsg (tgT [2, 3]) (dOp ixD (dPk 7) (dC (.int 4))))))))
def b_goes_to : DS := (dSeq (dAsg (tgT [4, 5]) (dVar 1))
  (dSeq (dFor (rngS (dOp addD (dOp ixD (dPk 0) (dC (.int 3))) (dC (.int 1)))) (tgN 6) l_goes_to_1)
  (dRet (toE (dTup (dCons (dC .non) (dCons (dC .non) dNil)))))))
def f_goes_to : Fn := fnOf 8 b_goes_to

def b_is_dead : DS := (dSeq (dSet 2 (dOp ixD (dPk 0) (dC (.int 5))))
  (dRet (toE (dAndV (dBv (dCmp (notG isD) (dPk 2) (dC .non))) (dBv (dCmp gtD (dOp ixD (dPk 1) (dC (.int 3))) (dPk 2)))))))
def f_is_dead : Fn := fnOf 3 b_is_dead

def b_led_to : DS := (dSeq (dIfS (dTest (ofE (dCall 2 f_is_dead (dCons (dVar 0) (dCons (dVar 2) dNil))))) (dRet (toE (dTup (dCons (dC .non) (dCons (dC .non) dNil))))) dSkip)
  (dRet (dCall 4 f_goes_to (dCons (dVar 0) (dCons (dVar 1) (dCons (dOp ixD (dPk 2) (dC (.int 0))) (dCons (dOp ixD (dPk 2) (dC (.int 1))) dNil)))))))
def f_led_to : Fn := fnOf 3 b_led_to

def b_threads : DS := (dRet (toE (dF1 tupleD (ofE (dLc (seqT (dVar 0)) (tgN 3) dYes (dOp addD (dSl (dPk 3) dI0 (dI1 (dC (.int 4)))) (dTup (dCons (dIf (dCmp eqD (dOp ixD (dPk 3) (dC (.int 4))) (dPk 1)) (dVar 2) (dOp ixD (dPk 3) (dC (.int 4)))) dNil))) [3])))))
def f_threads : Fn := fnOf 4 b_threads

def b_taken : DS := (dSeq (dIfS (dNot (dTest (ofE (dCall 4 f_is_open (dCons (dVar 0) (dCons (dVar 1) (dCons (dVar 2) (dCons (dVar 3) dNil)))))))) (dRet (toE (dC .non))) dSkip)
  (dRet (toE (dTup (dCons (ofE (dCall 3 f_come (dCons (dOp ixD (dPk 1) (dC (.int 0))) (dCons (dVar 2) (dCons (dVar 3) dNil))))) (dCons (dOp ixD (dPk 1) (dC (.int 1))) dNil))))))
def f_taken : Fn := fnOf 4 b_taken

def b_held_by : DS := (dRet (toE (dIf (dCmp inD (dPk 1) (dOp ixD (dPk 0) (dC (.int 0)))) (dOp ixD (dOp ixD (dOp ixD (dPk 0) (dC (.int 0))) (dPk 1)) (dC (.int 0))) (dC .non))))
def f_held_by : Fn := fnOf 2 b_held_by

def b_given_up : DS := (dSeq (dIfS (dCmp isD (ofE (dCall 2 f_held_by (dCons (dVar 1) (dCons (dVar 2) dNil)))) (dC .non)) (dRet (toE (dC .non))) dSkip)
  (dRet (toE (dTup (dCons (ofE (dCall 3 f_unheld (dCons (dOp ixD (dPk 1) (dC (.int 0))) (dCons (dVar 2) (dCons (dC .non) dNil))))) (dCons (ofE (dCall 3 f_threads (dCons (dOp ixD (dPk 1) (dC (.int 1))) (dCons (dVar 2) (dCons (dC .non) dNil))))) dNil))))))
def f_given_up : Fn := fnOf 3 b_given_up

def b_changed : DS := (dSeq (dSet 4 (ofE (dCall 2 f_held_by (dCons (dVar 1) (dCons (dVar 2) dNil)))))
  (dSeq (dIfS (dOr (dCmp isD (dPk 4) (dC .non)) (dOr (dCmp eqD (dPk 2) (dPk 3)) (dNot (dTest (ofE (dCall 4 f_is_open (dCons (dVar 0) (dCons (dVar 1) (dCons (dVar 4) (dCons (dVar 3) dNil)))))))))) (dRet (toE (dC .non))) dSkip)
  (dSeq (dSet 5 (ofE (dCall 3 f_come (dCons (dOp ixD (dPk 1) (dC (.int 0))) (dCons (dVar 4) (dCons (dVar 3) dNil))))))
  (dRet (toE (dTup (dCons (ofE (dCall 3 f_unheld (dCons (dVar 5) (dCons (dVar 2) (dCons (dTup (dCons (dVar 3) (dCons (dOp ixD (dOp ixD (dPk 5) (dPk 3)) (dC (.int 2))) dNil))) dNil))))) (dCons (ofE (dCall 3 f_threads (dCons (dOp ixD (dPk 1) (dC (.int 1))) (dCons (dVar 2) (dCons (dVar 3) dNil))))) dNil))))))))
def f_changed : Fn := fnOf 6 b_changed

def b_passed : DS := (dSeq (dSet 4 (ofE (dCall 2 f_held_by (dCons (dVar 1) (dCons (dVar 2) dNil)))))
  (dSeq (dIfS (dOr (dCmp eqD (dOp ixD (dPk 0) (dC (.int 7))) (dC (.str "no"))) (dOr (dCmp isD (dPk 4) (dC .non)) (dCmp eqD (dPk 4) (dPk 3)))) (dRet (toE (dC .non))) dSkip)
  (dSeq (dSet 5 (dOp addD (dOp ixD (dOp ixD (dOp ixD (dPk 1) (dC (.int 0))) (dPk 2)) (dC (.int 2))) (dF1 intD (dBv (dCmp eqD (dOp ixD (dPk 0) (dC (.int 7))) (dC (.str "counted")))))))
  (dRet (toE (dTup (dCons (ofE (dStar (dOp ixD (dPk 1) (dC (.int 0))) (dVar 2) (dTup (dCons (dVar 3) (dCons (dVar 3) (dCons (dVar 5) (dCons (dC (.int 0)) (dCons (dC .non) dNil)))))))) (dCons (ofE (dCall 3 f_threads (dCons (dOp ixD (dPk 1) (dC (.int 1))) (dCons (dVar 2) (dCons (dC .non) dNil))))) dNil))))))))
def f_passed : Fn := fnOf 6 b_passed

def b_written : DS := (dSeq (dSet 3 (ofE (dCall 2 f_held_by (dCons (dVar 1) (dCons (dVar 2) dNil)))))
  (dSeq (dIfS (dCmp isD (dPk 3) (dC .non)) (dRet (toE (dC .non))) dSkip)
  (dRet (toE (dTup (dCons (dOp ixD (dPk 1) (dC (.int 0))) (dCons (dOp addD (dOp ixD (dPk 1) (dC (.int 1))) (dTup (dCons (dTup (dCons (dVar 2) (dCons (dOp ixD (dOp ixD (dOp ixD (dPk 1) (dC (.int 0))) (dPk 2)) (dC (.int 2))) (dCons (dVar 3) (dCons (dC (.int 0)) (dCons (dVar 2) dNil)))))) dNil))) dNil)))))))
def f_written : Fn := fnOf 4 b_written

def b_copied : DS := (dSeq (dIfS (dOr (dCmp eqD (dOp ixD (dPk 0) (dC (.int 6))) (dC (.str "no"))) (dOr (dCmp geD (dPk 2) (dF1 lenD (dOp ixD (dPk 1) (dC (.int 1))))) (dTest (ofE (dCall 2 f_is_dead (dCons (dVar 0) (dCons (dOp ixD (dOp ixD (dPk 1) (dC (.int 1))) (dPk 2)) dNil))))))) (dRet (toE (dC .non))) dSkip)
  (dSeq (dAsg (tgT [3, 4, 5, 6, 7]) (dOp ixD (dOp ixD (dPk 1) (dC (.int 1))) (dPk 2)))
  (dSeq (dIfS (dCmp eqD (dOp ixD (dPk 0) (dC (.int 6))) (dC (.str "anew"))) (dSeq (dAsg (tgT [3, 8]) (ofE (dCall 3 f_led_to (dCons (dVar 0) (dCons (dVar 1) (dCons (dOp ixD (dOp ixD (dPk 1) (dC (.int 1))) (dPk 2)) dNil))))))
  (dSeq (dIfS (dCmp isD (dPk 8) (dC .non)) (dRet (toE (dC .non))) dSkip)
  (dSet 4 (dOp ixD (dOp ixD (dOp ixD (dPk 1) (dC (.int 0))) (dPk 3)) (dC (.int 2)))))) dSkip)
  (dRet (toE (dTup (dCons (dOp ixD (dPk 1) (dC (.int 0))) (dCons (dOp addD (dOp ixD (dPk 1) (dC (.int 1))) (dTup (dCons (dTup (dCons (dVar 3) (dCons (dVar 4) (dCons (dVar 5) (dCons (dC (.int 0)) (dCons (dVar 7) dNil)))))) dNil))) dNil))))))))
def f_copied : Fn := fnOf 9 b_copied

def l_ticked_1 : DS := (dPut 1 (dVar 2) (dOp addD (dOp addD (dSl (dPk 3) dI0 (dI1 (dC (.int 3)))) (dTup (dCons (dOp addD (dOp ixD (dPk 3) (dC (.int 3))) (dF1 intD (dBv (dCmp isD (dOp ixD (dPk 3) (dC (.int 0))) (dC .non))))) dNil))) (dSl (dPk 3) (dI1 (dC (.int 4))) dI0)))
def b_ticked : DS := (dSeq (dSetO 1 dNewS)
  (dSeq (dForS itemsD (dOp ixD (dPk 0) (dC (.int 0))) (tgT [2, 3]) l_ticked_1)
  (dFrz 1 (dRet (toE (dTup (dCons (dVar 1) (dCons (dF1 tupleD (ofE (dLc (seqT (dOp ixD (dPk 0) (dC (.int 1)))) (tgN 4) dYes (dOp addD (dOp addD (dSl (dPk 4) dI0 (dI1 (dC (.int 3)))) (dTup (dCons (dOp addD (dOp ixD (dPk 4) (dC (.int 3))) (dC (.int 1))) dNil))) (dSl (dPk 4) (dI1 (dC (.int 4))) dI0)) [4]))) dNil))))))))
def f_ticked : Fn := fnOf 5 b_ticked

def b_stepped : DS := (dSeq (dSet 3 (dOp ixD (dPk 2) (dC (.int 0))))
  (dSeq (dIfS (dCmp eqD (dPk 3) (dC (.str "tick"))) (dRet (dCall 1 f_ticked (dCons (dVar 1) dNil))) dSkip)
  (dSeq (dIfS (dCmp eqD (dPk 3) (dC (.str "copy"))) (dRet (dCall 3 f_copied (dCons (dVar 0) (dCons (dVar 1) (dCons (dOp ixD (dPk 2) (dC (.int 1))) dNil))))) dSkip)
  (dSeq (dIfS (dCmp eqD (dPk 3) (dC (.str "give"))) (dRet (dCall 3 f_given_up (dCons (dVar 0) (dCons (dVar 1) (dCons (dOp ixD (dPk 2) (dC (.int 1))) dNil))))) dSkip)
  (dSeq (dIfS (dCmp eqD (dPk 3) (dC (.str "write"))) (dRet (dCall 3 f_written (dCons (dVar 0) (dCons (dVar 1) (dCons (dOp ixD (dPk 2) (dC (.int 1))) dNil))))) dSkip)
  (dSeq (dIfS (dCmp eqD (dPk 3) (dC (.str "take"))) (dRet (dCall 4 f_taken (dCons (dVar 0) (dCons (dVar 1) (dCons (dOp ixD (dPk 2) (dC (.int 1))) (dCons (dOp ixD (dPk 2) (dC (.int 2))) dNil)))))) dSkip)
  (dSeq (dIfS (dCmp eqD (dPk 3) (dC (.str "change"))) (dRet (dCall 4 f_changed (dCons (dVar 0) (dCons (dVar 1) (dCons (dOp ixD (dPk 2) (dC (.int 1))) (dCons (dOp ixD (dPk 2) (dC (.int 2))) dNil)))))) dSkip)
  (dRet (dCall 4 f_passed (dCons (dVar 0) (dCons (dVar 1) (dCons (dOp ixD (dPk 2) (dC (.int 1))) (dCons (dOp ixD (dPk 2) (dC (.int 2))) dNil)))))))))))))
def f_stepped : Fn := fnOf 4 b_stepped

def l_behind_1 : DS := (dSet 1 (ofE (dIf (dCmp (notG isD) (dPk 1) (dC .non)) (dCall 3 f_stepped (dCons (dVar 0) (dCons (dVar 1) (dCons (dVar 3) dNil)))) (toE (dC .non)))))
def b_behind : DS := (dSeq (dFor (seqT (dVar 2)) (tgN 3) l_behind_1)
  (dRet (toE (dVar 1))))
def f_behind : Fn := fnOf 4 b_behind

def b_status : DS := (dSeq (dSet 1 (ofE (dCall 1 f_end_of (dCons (dVar 0) dNil))))
  (dSeq (dIfS (dCmp eqD (dPk 1) (dC (.str "theirs"))) (dRet (toE (dC (.str "astray")))) dSkip)
  (dRet (toE (dIf (dAnd (dCmp isD (dPk 1) (dC .non)) (dCmp (notG isD) (dOp ixD (dPk 0) (dC (.int 2))) (dC .non))) (dC (.str "lost")) (dC .non))))))
def f_status : Fn := fnOf 2 b_status

def b_doer_of : DS := (dSeq (dIfS (dCmp eqD (dOp ixD (dPk 1) (dC (.int 0))) (dC (.str "tick"))) (dRet (toE (dC (.str "time")))) dSkip)
  (dSeq (dIfS (dCmp eqD (dOp ixD (dPk 1) (dC (.int 0))) (dC (.str "copy"))) (dRet (toE (dC (.str "other")))) dSkip)
  (dSeq (dSet 2 (dIf (dCmp eqD (dOp ixD (dPk 1) (dC (.int 0))) (dC (.str "take"))) (dOp ixD (dPk 1) (dC (.int 1))) (dC (.str "mine"))))
  (dSeq (dIfS (dAnd (dCmp (notG eqD) (dOp ixD (dPk 1) (dC (.int 0))) (dC (.str "take"))) (dCmp (notG eqD) (dOp ixD (dPk 1) (dC (.int 1))) (dC (.str "out")))) (dSet 2 (dOp ixD (dOp ixD (dOp ixD (dPk 0) (dC (.int 1))) (dOp ixD (dPk 1) (dC (.int 1)))) (dC (.int 0)))) dSkip)
  (dRet (toE (dIf (dCmp eqD (dPk 2) (dC (.str "mine"))) (dC (.str "meant")) (dC (.str "other")))))))))
def f_doer_of : Fn := fnOf 3 b_doer_of

def l_all_scenes_1 : DS := (dIfS (dCmp (notG inD) (dPk 7) (dPk 2)) (dSeq (dPut 2 (dVar 7) (dTup (dCons (dVar 5) (dCons (dVar 6) dNil))))
  (dApp 4 (dVar 7))) dSkip)
def l_all_scenes_2 : DS := (dFor (seqS (dCall 2 f_steps_of (dCons (dVar 0) (dCons (dVar 5) dNil)))) (tgT [6, 7]) l_all_scenes_1)
def l_all_scenes_3 : DS := (dSeq (dSetO 4 (dLst dNil))
  (dSeq (dFor (seqS (toE (dVar 3))) (tgN 5) l_all_scenes_2)
  (dFrz 4 (dSet 3 (dVar 4)))))
def b_all_scenes : DS := (dSeq (dSet 1 (ofE (fun _ => f_first_scene [])))
  (dSeq (dPar true false 2 3 (dOneT (dVar 1) (dC .non)) (dLst (dCons (dVar 1) dNil)))
  (dSeq (dWhile fuel (dCmp (notG eqD) (dPk 3) (ofE (dLst dNil))) l_all_scenes_3)
  (dRetO 2))))
def f_all_scenes : Fn := fnOf 8 b_all_scenes

def l_way_to_1 : DS := (dSeq (dAsg (tgT [3, 4]) (dOp ixD (dPk 0) (dPk 1)))
  (dSeq (dSet 2 (ofE (dCat (ofE (dLst (dCons (dTup (dCons (dVar 4) (dCons (dVar 1) dNil))) dNil))) (dPk 2))))
  (dSet 1 (dVar 3))))
def b_way_to : DS := (dSeq (dSet 2 (ofE (dLst dNil)))
  (dSeq (dWhile fuel (dCmp (notG isD) (dOp ixD (dPk 0) (dPk 1)) (dC .non)) l_way_to_1)
  (dRet (toE (dVar 2)))))
def f_way_to : Fn := fnOf 5 b_way_to

def l_letters_of_1 : DS := (dSeq (dSet 0 (dOp subD (dOp divD (dPk 0) (dC (.int 26))) (dC (.int 1))))
  (dSet 1 (dOp addD (dOp ixD (dC (.str "abcdefghijklmnopqrstuvwxyz")) (dOp modD (dPk 0) (dC (.int 26)))) (dPk 1))))
def b_letters_of : DS := (dSeq (dSet 1 (dOp ixD (dC (.str "abcdefghijklmnopqrstuvwxyz")) (dOp modD (dPk 0) (dC (.int 26)))))
  (dSeq (dWhile fuel (dCmp geD (dPk 0) (dC (.int 26))) l_letters_of_1)
  (dRet (toE (dVar 1)))))
def f_letters_of : Fn := fnOf 2 b_letters_of

def b_told_event : DS := (dSeq (dPar false false 4 5 (toE (dOp ixD (dPk 2) (dC (.int 0)))) (dCall 1 f_letters_of (dCons (dVar 3) dNil)))
  (dSeq (dIfS (dCmp eqD (dPk 4) (dC (.str "tick"))) (dRet (toE (dTup (dCons (dC (.str "tick")) dNil)))) dSkip)
  (dSeq (dIfS (dCmp eqD (dPk 4) (dC (.str "copy"))) (dRet (toE (dTup (dCons (dC (.str "copy")) (dCons (dOp subD (dF1 lenD (dOp ixD (dPk 0) (dC (.int 1)))) (dC (.int 1))) dNil))))) dSkip)
  (dSeq (dIfS (dCmp eqD (dPk 4) (dC (.str "take"))) (dSeq (dSet 6 (dOp ixD (dPk 1) (dOp ixD (dPk 2) (dC (.int 3)))))
  (dSeq (dIfS (dCmp eqD (dOp ixD (dPk 2) (dC (.int 1))) (dC (.str "mine"))) (dRet (toE (dTup (dCons (dC (.str "take")) (dCons (dC (.str "me")) (dCons (dVar 6) dNil)))))) dSkip)
  (dRet (toE (dTup (dCons (dC (.str "take")) (dCons (dIf (dTest (dOp ixD (dPk 2) (dC (.int 2)))) (dOp ixD (dOp ixD (dOp ixD (dPk 0) (dC (.int 0))) (dPk 6)) (dC (.int 1))) (dOp addD (dC (.str "you")) (dPk 5))) (dCons (dVar 6) dNil)))))))) dSkip)
  (dSeq (dSet 6 (dIf (dCmp eqD (dOp ixD (dPk 2) (dC (.int 1))) (dC (.str "out"))) (dOp ixD (dOp ixD (dOp ixD (dPk 0) (dC (.int 1))) (dF1 negD (dC (.int 1)))) (dC (.int 4))) (dOp ixD (dPk 1) (dOp ixD (dPk 2) (dC (.int 1))))))
  (dSeq (dIfS (dCmp eqD (dPk 4) (dC (.str "pass"))) (dRet (toE (dTup (dCons (dC (.str "pass")) (dCons (dVar 6) (dCons (dIf (dCmp eqD (dOp ixD (dPk 2) (dC (.int 2))) (dC (.str "mine"))) (dC (.str "me")) (dOp addD (dC (.str "you")) (dPk 5))) dNil)))))) dSkip)
  (dSeq (dIfS (dCmp eqD (dPk 4) (dC (.str "change"))) (dRet (toE (dTup (dCons (dC (.str "change")) (dCons (dVar 6) (dCons (dIf (dCmp eqD (dOp ixD (dPk 2) (dC (.int 2))) (dC (.str "new"))) (dOp addD (dC (.str "to")) (dPk 5)) (dOp ixD (dPk 1) (dOp ixD (dPk 2) (dC (.int 2))))) dNil)))))) dSkip)
  (dRet (toE (dTup (dCons (dVar 4) (dCons (dVar 6) dNil))))))))))))
def f_told_event : Fn := fnOf 7 b_told_event

def b_names_then : DS := (dSeq (dIfS (dCmp eqD (dOp ixD (dPk 1) (dC (.int 0))) (dC (.str "copy"))) (dRet (dSlL (dPk 0) (dI1 (dOp subD (dF1 lenD (dPk 0)) (dPk 3))) dI0)) dSkip)
  (dSeq (dIfS (dAnd (dCmp eqD (dOp ixD (dPk 1) (dC (.int 0))) (dC (.str "change"))) (dCmp eqD (dOp ixD (dPk 1) (dC (.int 2))) (dC (.str "new")))) (dSet 0 (ofE (dCat (dPk 0) (ofE (dLst (dCons (dOp ixD (dPk 2) (dC (.int 2))) dNil)))))) dSkip)
  (dRet (dSlL (dPk 0) dI0 (dI1 (dVar 3))))))
def f_names_then : Fn := fnOf 4 b_names_then

def l_history_of_1 : DS := (dSeq (dSet 7 (ofE (dCall 4 f_told_event (dCons (dVar 4) (dCons (dVar 3) (dCons (dVar 5) (dCons (dF1 lenD (dPk 2)) dNil)))))))
  (dSeq (dSet 4 (ofE (dCall 3 f_stepped (dCons (dVar 0) (dCons (dVar 4) (dCons (dVar 7) dNil))))))
  (dSeq (dSet 2 (dOp addD (dPk 2) (dTup (dCons (dVar 7) dNil))))
  (dSet 3 (ofE (dCall 4 f_names_then (dCons (dVar 3) (dCons (dVar 5) (dCons (dVar 7) (dCons (dF1 lenD (dOp ixD (dPk 6) (dC (.int 1)))) dNil))))))))))
def b_history_of : DS := (dSeq (dPar false false 2 3 (toE (dTup (dCons (dTup (dCons (dC (.str "take")) (dCons (dC (.str "me")) (dCons (dC (.str "a")) dNil)))) (dCons (dTup (dCons (dC (.str "write")) (dCons (dC (.str "a")) dNil))) dNil)))) (dLst (dCons (dC (.str "a")) dNil)))
  (dSeq (dSet 4 (ofE (dCall 3 f_behind (dCons (dVar 0) (dCons (ofE (fun _ => f_first_state [])) (dCons (dVar 2) dNil))))))
  (dSeq (dFor (seqS (toE (dVar 1))) (tgT [5, 6]) l_history_of_1)
  (dRet (toE (dVar 2))))))
def f_history_of : Fn := fnOf 8 b_history_of

def l_found_harms_1 : DS := (dSeq (dSet 6 (ofE (dCall 1 f_status (dCons (dVar 5) dNil))))
  (dIfS (dAnd (dCmp (notG isD) (dPk 6) (dC .non)) (dAnd (dCmp (notG eqD) (dPk 6) (ofE (dCall 1 f_status (dCons (dVar 3) dNil)))) (dCmp (notG inD) (dTup (dCons (dVar 6) (dCons (ofE (dCall 2 f_doer_of (dCons (dVar 3) (dCons (dVar 4) dNil)))) dNil))) (dPk 1)))) (dPut 1 (dTup (dCons (dVar 6) (dCons (ofE (dCall 2 f_doer_of (dCons (dVar 3) (dCons (dVar 4) dNil)))) dNil))) (ofE (dCat (ofE (dCall 2 f_way_to (dCons (dVar 2) (dCons (dVar 3) dNil)))) (ofE (dLst (dCons (dTup (dCons (dVar 4) (dCons (dVar 5) dNil))) dNil)))))) dSkip))
def l_found_harms_2 : DS := (dFor (seqS (dCall 2 f_steps_of (dCons (dVar 0) (dCons (dVar 3) dNil)))) (tgT [4, 5]) l_found_harms_1)
def b_found_harms : DS := (dSeq (dPar true false 1 2 dNewT (dCall 1 f_all_scenes (dCons (dVar 0) dNil)))
  (dSeq (dFor (keysT (dVar 2)) (tgN 3) l_found_harms_2)
  (dRetO 1)))
def f_found_harms : Fn := fnOf 7 b_found_harms

def b_shortest : DS := (dSeq (dDrop (dCall 1 f_need_rule (dCons (dVar 0) dNil)))
  (dSeq (dDrop (dCall 2 f_need_threat (dCons (dVar 1) (dCons (dVar 2) dNil))))
  (dSeq (dSet 3 (ofE (dCall 1 f_found_harms (dCons (dVar 0) dNil))))
  (dRet (dIf (dCmp inD (dTup (dCons (dVar 1) (dCons (dVar 2) dNil))) (dPk 3)) (dCall 2 f_history_of (dCons (dVar 0) (dCons (dOp ixD (dPk 3) (dTup (dCons (dVar 1) (dCons (dVar 2) dNil)))) dNil))) (toE (dC .non)))))))
def f_shortest : Fn := fnOf 4 b_shortest

def b_law_good : DS := (dRet (toE (dAndV (dBv (dCmp isD (dOp ixD (dPk 1) (dC (.int 0))) (dC .non))) (dAndV (dBv (dCmp (notG isD) (dOp ixD (dPk 1) (dC (.int 4))) (dC .non))) (dOrV (dBv (dCmp isD (dOp ixD (dPk 0) (dC (.int 1))) (dC .non))) (dBv (dCmp ltD (dOp ixD (dPk 1) (dC (.int 3))) (dOp ixD (dPk 0) (dC (.int 1))))))))))
def f_law_good : Fn := fnOf 2 b_law_good

def b_law_open : DS := (dSeq (dSet 4 (dOp get1D (dOp ixD (dPk 1) (dC (.int 0))) (dPk 3)))
  (dSeq (dIfS (dCmp isD (dPk 4) (dC .non)) (dRet (toE (dC (.bl true)))) dSkip)
  (dSeq (dIfS (dOr (dCmp (notG isD) (dOp ixD (dPk 4) (dC (.int 0))) (dC .non)) (dCmp eqD (dOp ixD (dPk 4) (dC (.int 1))) (dPk 2))) (dRet (toE (dBv (dCmp isD (dOp ixD (dPk 4) (dC (.int 0))) (dC .non))))) dSkip)
  (dRet (toE (dAndV (dBv (dCmp (notG isD) (dOp ixD (dPk 0) (dC (.int 0))) (dC .non))) (dAndV (dBv (dCmp geD (dOp ixD (dPk 4) (dC (.int 3))) (dOp ixD (dPk 0) (dC (.int 0))))) (dBv (dNot (dTest (dAndV (dOp ixD (dPk 0) (dC (.int 2))) (ofE (dCall 2 f_law_good (dCons (dVar 0) (dCons (dVar 4) dNil)))))))))))))))
def f_law_open : Fn := fnOf 5 b_law_open

def b_law_come : DS := (dSeq (dSetO 3 (dF1 dictD (dPk 0)))
  (dSeq (dSet 4 (dGet2 (dPk 3) (dVar 2) (dTup (dCons (dC .non) (dCons (dVar 1) (dCons (dC (.int 0)) (dCons (dC (.int 0)) (dCons (dC .non) dNil))))))))
  (dSeq (dPut 3 (dVar 2) (dTup (dCons (dVar 1) (dCons (dVar 1) (dCons (dOp addD (dOp ixD (dPk 4) (dC (.int 2))) (dF1 intD (dBv (dCmp (notG eqD) (dOp ixD (dPk 4) (dC (.int 1))) (dPk 1))))) (dCons (dC (.int 0)) (dCons (dC .non) dNil)))))))
  (dRetO 3))))
def f_law_come : Fn := fnOf 5 b_law_come

def l_law_end_1 : DS := (dSeq (dIfS (dCmp (notG isD) (dOp ixD (dOp ixD (dPk 4) (dPk 2)) (dC (.int 0))) (dC .non)) (dRet (toE (dTup (dCons (dVar 2) (dCons (dOp ixD (dOp ixD (dPk 4) (dPk 2)) (dC (.int 0))) dNil))))) dSkip)
  (dSeq (dIfS (dOr (dCmp eqD (dPk 5) (dC (.int 0))) (dNot (dTest (ofE (dCall 2 f_law_good (dCons (dVar 0) (dCons (dOp ixD (dPk 4) (dPk 2)) dNil))))))) (dRet (toE (dTup (dCons (dC .non) (dCons (dC .non) dNil))))) dSkip)
  (dSeq (dSet 5 (dOp subD (dPk 5) (dC (.int 1))))
  (dAsg (tgT [2, 3]) (dOp ixD (dOp ixD (dPk 4) (dPk 2)) (dC (.int 4)))))))
def b_law_end : DS := (dSeq (dPar false false 4 5 (toE (dOp ixD (dPk 1) (dC (.int 0)))) (toE (dOp ixD (dPk 0) (dC (.int 3)))))
  (dSeq (dWhile fuel (dCmp eqD (dOp modD (dF1 intD (dOp subD (dOp ixD (dOp ixD (dPk 4) (dPk 2)) (dC (.int 2))) (dPk 3))) (dOp ixD (dPk 0) (dC (.int 4)))) (dC (.int 0))) l_law_end_1)
  (dRet (toE (dTup (dCons (dC .non) (dCons (dC .non) dNil)))))))
def f_law_end : Fn := fnOf 6 b_law_end

def b_law_dead : DS := (dRet (toE (dAndV (dBv (dCmp (notG isD) (dOp ixD (dPk 0) (dC (.int 5))) (dC .non))) (dBv (dCmp gtD (dOp ixD (dPk 1) (dC (.int 3))) (dOp ixD (dPk 0) (dC (.int 5))))))))
def f_law_dead : Fn := fnOf 2 b_law_dead

def b_law_to : DS := (dSeq (dIfS (dTest (ofE (dCall 2 f_law_dead (dCons (dVar 0) (dCons (dVar 2) dNil))))) (dRet (toE (dTup (dCons (dC .non) (dCons (dC .non) dNil))))) dSkip)
  (dRet (dCall 4 f_law_end (dCons (dVar 0) (dCons (dVar 1) (dCons (dOp ixD (dPk 2) (dC (.int 0))) (dCons (dOp ixD (dPk 2) (dC (.int 1))) dNil)))))))
def f_law_to : Fn := fnOf 3 b_law_to

def l_law_rethread_1 : DS := (dApp 3 (dOp addD (dSl (dPk 4) dI0 (dI1 (dC (.int 4)))) (dTup (dCons (dIf (dCmp eqD (dOp ixD (dPk 4) (dC (.int 4))) (dPk 1)) (dVar 2) (dOp ixD (dPk 4) (dC (.int 4)))) dNil))))
def b_law_rethread : DS := (dSeq (dSetO 3 (dLst dNil))
  (dSeq (dFor (seqS (toE (dVar 0))) (tgN 4) l_law_rethread_1)
  (dRetO 3)))
def f_law_rethread : Fn := fnOf 5 b_law_rethread

def b_law_held : DS := (dRet (toE (dIf (dCmp inD (dPk 1) (dOp ixD (dPk 0) (dC (.int 0)))) (dOp ixD (dOp ixD (dOp ixD (dPk 0) (dC (.int 0))) (dPk 1)) (dC (.int 0))) (dC .non))))
def f_law_held : Fn := fnOf 2 b_law_held

def b_law_named : DS := (dSeq (dAsg (tgT [3, 4]) (dVar 1))
  (dSeq (dPar false false 5 6 (toE (dOp ixD (dPk 2) (dC (.int 0)))) (toE (dOp ixD (dPk 2) (dC (.int 1)))))
  (dSeq (dSet 7 (ofE (dCall 2 f_law_held (dCons (dVar 1) (dCons (dVar 6) dNil)))))
  (dSeq (dIfS (dCmp eqD (dPk 5) (dC (.str "take"))) (dSeq (dIfS (dNot (dTest (ofE (dCall 4 f_law_open (dCons (dVar 0) (dCons (dVar 1) (dCons (dVar 6) (dCons (dOp ixD (dPk 2) (dC (.int 2))) dNil)))))))) (dRet (toE (dC .non))) dSkip)
  (dRet (toE (dTup (dCons (ofE (dCall 3 f_law_come (dCons (dVar 3) (dCons (dVar 6) (dCons (dOp ixD (dPk 2) (dC (.int 2))) dNil))))) (dCons (dVar 4) dNil)))))) dSkip)
  (dSeq (dIfS (dCmp isD (dPk 7) (dC .non)) (dRet (toE (dC .non))) dSkip)
  (dSeq (dPar true false 8 9 (dF1 dictD (dPk 3)) (toE (dOp ixD (dPk 3) (dPk 6))))
  (dSeq (dIfS (dCmp eqD (dPk 5) (dC (.str "write"))) (dFrz 8 (dRet (toE (dTup (dCons (dVar 8) (dCons (ofE (dCat (dPk 4) (ofE (dLst (dCons (dTup (dCons (dVar 6) (dCons (dOp ixD (dPk 9) (dC (.int 2))) (dCons (dVar 7) (dCons (dC (.int 0)) (dCons (dVar 6) dNil)))))) dNil))))) dNil)))))) dSkip)
  (dSeq (dIfS (dCmp eqD (dPk 5) (dC (.str "give"))) (dSeq (dPut 8 (dVar 6) (dTup (dCons (dC .non) (dCons (dVar 7) (dCons (dOp ixD (dPk 9) (dC (.int 2))) (dCons (dC (.int 0)) (dCons (dC .non) dNil)))))))
  (dFrz 8 (dRet (toE (dTup (dCons (dVar 8) (dCons (ofE (dCall 3 f_law_rethread (dCons (dVar 4) (dCons (dVar 6) (dCons (dC .non) dNil))))) dNil))))))) dSkip)
  (dSeq (dIfS (dCmp eqD (dPk 5) (dC (.str "pass"))) (dSeq (dIfS (dOr (dCmp eqD (dOp ixD (dPk 0) (dC (.int 7))) (dC (.str "no"))) (dCmp eqD (dPk 7) (dOp ixD (dPk 2) (dC (.int 2))))) (dRet (toE (dC .non))) dSkip)
  (dSeq (dSet 10 (dOp addD (dOp ixD (dPk 9) (dC (.int 2))) (dF1 intD (dBv (dCmp eqD (dOp ixD (dPk 0) (dC (.int 7))) (dC (.str "counted")))))))
  (dSeq (dPut 8 (dVar 6) (dTup (dCons (dOp ixD (dPk 2) (dC (.int 2))) (dCons (dOp ixD (dPk 2) (dC (.int 2))) (dCons (dVar 10) (dCons (dC (.int 0)) (dCons (dC .non) dNil)))))))
  (dFrz 8 (dRet (toE (dTup (dCons (dVar 8) (dCons (ofE (dCall 3 f_law_rethread (dCons (dVar 4) (dCons (dVar 6) (dCons (dC .non) dNil))))) dNil))))))))) dSkip)
  (dSeq (dIfS (dOr (dCmp eqD (dPk 6) (dOp ixD (dPk 2) (dC (.int 2)))) (dNot (dTest (ofE (dCall 4 f_law_open (dCons (dVar 0) (dCons (dVar 1) (dCons (dVar 7) (dCons (dOp ixD (dPk 2) (dC (.int 2))) dNil))))))))) (dRet (toE (dC .non))) dSkip)
  (dSeq (dSetO 8 (dCall 3 f_law_come (dCons (dVar 3) (dCons (dVar 7) (dCons (dOp ixD (dPk 2) (dC (.int 2))) dNil)))))
  (dSeq (dPut 8 (dVar 6) (dTup (dCons (dC .non) (dCons (dVar 7) (dCons (dOp ixD (dPk 9) (dC (.int 2))) (dCons (dC (.int 0)) (dCons (dTup (dCons (dOp ixD (dPk 2) (dC (.int 2))) (dCons (dOp ixD (dOp ixD (dPk 8) (dOp ixD (dPk 2) (dC (.int 2)))) (dC (.int 2))) dNil))) dNil)))))))
  (dFrz 8 (dRet (toE (dTup (dCons (dVar 8) (dCons (ofE (dCall 3 f_law_rethread (dCons (dVar 4) (dCons (dVar 6) (dCons (dOp ixD (dPk 2) (dC (.int 2))) dNil))))) dNil))))))))))))))))))
def f_law_named : Fn := fnOf 11 b_law_named

def l_law_next_1 : DS := (dSeq (dSet 5 (dOp ixD (dPk 3) (dPk 8)))
  (dPut 7 (dVar 8) (dOp addD (dSl (dPk 5) dI0 (dI1 (dC (.int 3)))) (dTup (dCons (dOp addD (dOp ixD (dPk 5) (dC (.int 3))) (dF1 intD (dBv (dCmp isD (dOp ixD (dPk 5) (dC (.int 0))) (dC .non))))) (dCons (dOp ixD (dPk 5) (dC (.int 4))) dNil))))))
def b_law_next : DS := (dSeq (dAsg (tgT [3, 4]) (dVar 1))
  (dSeq (dIfS (dCmp eqD (dOp ixD (dPk 2) (dC (.int 0))) (dC (.str "tick"))) (dSeq (dSetO 7 dNewS)
  (dSeq (dForS keysD (dVar 3) (tgN 8) l_law_next_1)
  (dFrz 7 (dRet (toE (dTup (dCons (dVar 7) (dCons (ofE (dLc (seqS (toE (dVar 4))) (tgN 10) dYes (dOp addD (dSl (dPk 10) dI0 (dI1 (dC (.int 3)))) (dTup (dCons (dOp addD (dOp ixD (dPk 10) (dC (.int 3))) (dC (.int 1))) (dCons (dOp ixD (dPk 10) (dC (.int 4))) dNil)))) [10])) dNil)))))))) dSkip)
  (dSeq (dIfS (dCmp (notG eqD) (dOp ixD (dPk 2) (dC (.int 0))) (dC (.str "copy"))) (dRet (dCall 3 f_law_named (dCons (dVar 0) (dCons (dVar 1) (dCons (dVar 2) dNil))))) dSkip)
  (dSeq (dIfS (dOr (dCmp eqD (dOp ixD (dPk 0) (dC (.int 6))) (dC (.str "no"))) (dOr (dCmp geD (dOp ixD (dPk 2) (dC (.int 1))) (dF1 lenD (dPk 4))) (dTest (ofE (dCall 2 f_law_dead (dCons (dVar 0) (dCons (dOp ixD (dPk 4) (dOp ixD (dPk 2) (dC (.int 1)))) dNil))))))) (dRet (toE (dC .non))) dSkip)
  (dSeq (dSet 5 (dOp ixD (dPk 4) (dOp ixD (dPk 2) (dC (.int 1)))))
  (dSeq (dSet 6 (dTup (dCons (dOp ixD (dPk 5) (dC (.int 0))) (dCons (dOp ixD (dPk 5) (dC (.int 1))) (dCons (dOp ixD (dPk 5) (dC (.int 2))) (dCons (dC (.int 0)) (dCons (dOp ixD (dPk 5) (dC (.int 4))) dNil)))))))
  (dSeq (dIfS (dCmp eqD (dOp ixD (dPk 0) (dC (.int 6))) (dC (.str "anew"))) (dSeq (dAsg (tgT [8, 9]) (ofE (dCall 3 f_law_to (dCons (dVar 0) (dCons (dVar 1) (dCons (dVar 5) dNil))))))
  (dSeq (dIfS (dCmp isD (dPk 9) (dC .non)) (dRet (toE (dC .non))) dSkip)
  (dSet 6 (dTup (dCons (dVar 8) (dCons (dOp ixD (dOp ixD (dPk 3) (dPk 8)) (dC (.int 2))) (dCons (dOp ixD (dPk 5) (dC (.int 2))) (dCons (dC (.int 0)) (dCons (dOp ixD (dPk 5) (dC (.int 4))) dNil))))))))) dSkip)
  (dRet (toE (dTup (dCons (dVar 3) (dCons (ofE (dCat (dPk 4) (ofE (dLst (dCons (dVar 6) dNil))))) dNil))))))))))))
def f_law_next : Fn := fnOf 11 b_law_next

def b_law_begin : DS := (dRet (toE (dTup (dCons (ofE dNewS) (dCons (ofE (dLst dNil)) dNil)))))
def f_law_begin : Fn := fnOf 0 b_law_begin

def b_law_word : DS := (dSeq (dAsg (tgT [3, 4]) (ofE (dCall 3 f_law_to (dCons (dVar 0) (dCons (dVar 1) (dCons (dVar 2) dNil))))))
  (dSeq (dIfS (dTest (ofE (dCall 2 f_law_dead (dCons (dVar 0) (dCons (dVar 2) dNil))))) (dRet (toE (dC (.str "dead")))) dSkip)
  (dSeq (dIfS (dCmp (notG isD) (dPk 4) (dC .non)) (dRet (toE (dIf (dCmp eqD (dPk 4) (dOp ixD (dPk 2) (dC (.int 2)))) (dC (.str "right")) (dC (.str "astray"))))) dSkip)
  (dRet (toE (dIf (dCmp (notG isD) (dOp ixD (dPk 2) (dC (.int 4))) (dC .non)) (dC (.str "lost")) (dC (.str "nowhere"))))))))
def f_law_word : Fn := fnOf 5 b_law_word

def l_law_harms_1 : DS := (dSeq (dSet 7 (dIf (dAnd (dCmp eqD (dOp ixD (dPk 3) (dC (.int 0))) (dC (.str "copy"))) (dCmp eqD (dPk 6) (dOp subD (dF1 lenD (dOp ixD (dPk 2) (dC (.int 1)))) (dC (.int 1))))) (dOp ixD (dPk 3) (dC (.int 1))) (dVar 6)))
  (dSeq (dSet 8 (ofE (dIf (dCmp ltD (dPk 7) (dF1 lenD (dOp ixD (dPk 1) (dC (.int 1))))) (dCall 3 f_law_word (dCons (dVar 0) (dCons (dVar 1) (dCons (dOp ixD (dOp ixD (dPk 1) (dC (.int 1))) (dPk 7)) dNil)))) (toE (dC (.str "right"))))))
  (dSeq (dSet 9 (ofE (dCall 3 f_law_word (dCons (dVar 0) (dCons (dVar 2) (dCons (dOp ixD (dOp ixD (dPk 2) (dC (.int 1))) (dPk 6)) dNil))))))
  (dIfS (dAnd (dCmp inD (dPk 9) (ofE (dLst (dCons (dC (.str "astray")) (dCons (dC (.str "lost")) dNil))))) (dCmp (notG eqD) (dPk 9) (dPk 8))) (dSeq (dSet 10 (dIf (dCmp eqD (dPk 5) (dOp ixD (dOp ixD (dOp ixD (dPk 2) (dC (.int 1))) (dPk 6)) (dC (.int 2)))) (dC (.str "meant")) (dC (.str "other"))))
  (dApp 4 (dTup (dCons (dVar 9) (dCons (dIf (dCmp eqD (dOp ixD (dPk 3) (dC (.int 0))) (dC (.str "tick"))) (dC (.str "time")) (dVar 10)) dNil))))) dSkip))))
def b_law_harms : DS := (dSeq (dPar true false 4 5 (dLst dNil) (toE (dC .non)))
  (dSeq (dIfS (dCmp inD (dOp ixD (dPk 3) (dC (.int 0))) (ofE (dLst (dCons (dC (.str "take")) (dCons (dC (.str "give")) (dCons (dC (.str "change")) (dCons (dC (.str "pass")) dNil))))))) (dSet 5 (ofE (dIf (dCmp eqD (dOp ixD (dPk 3) (dC (.int 0))) (dC (.str "take"))) (toE (dOp ixD (dPk 3) (dC (.int 1)))) (dCall 2 f_law_held (dCons (dVar 1) (dCons (dOp ixD (dPk 3) (dC (.int 1))) dNil)))))) dSkip)
  (dSeq (dFor (rngS (dF1 lenD (dOp ixD (dPk 2) (dC (.int 1))))) (tgN 6) l_law_harms_1)
  (dFrz 4 (dRet (dF1 sortSetD (dVar 4)))))))
def f_law_harms : Fn := fnOf 11 b_law_harms

def b_law_top : DS := (dRet (toE (dF1 maxD (ofE (dCat (ofE (dLst (dCons (dC (.int 0)) dNil))) (ofE (dLc (seqT (dSl (dPk 0) dI0 (dI1 (dC (.int 2))))) (tgN 1) (dCmp (notG isD) (dPk 1) (dC .non)) (dF1 intD (dPk 1)) [1])))))))
def f_law_top : Fn := fnOf 2 b_law_top

def b_law_fine : DS := (dRet (toE (dAndV (dBv (dCmp (notG eqD) (dOp ixD (dPk 1) (dC (.int 4))) (dC (.str "none")))) (dOrV (dBv (dCmp isD (dOp ixD (dPk 0) (dC (.int 1))) (dC .non))) (dBv (dCmp ltD (dOp ixD (dPk 1) (dC (.int 3))) (dOp ixD (dPk 0) (dC (.int 1)))))))))
def f_law_fine : Fn := fnOf 2 b_law_fine

def b_law_may : DS := (dSeq (dIfS (dTest (dVar 3)) (dRet (toE (dBv (dCmp eqD (dOp ixD (dPk 1) (dC (.int 1))) (dPk 2))))) dSkip)
  (dSeq (dIfS (dOr (dChain eqD eqD (dOp ixD (dPk 1) (dC (.int 1))) (dPk 2) (dC (.str "x"))) (dOr (dCmp isD (dOp ixD (dPk 0) (dC (.int 0))) (dC .non)) (dCmp ltD (dOp ixD (dPk 1) (dC (.int 3))) (dOp ixD (dPk 0) (dC (.int 0)))))) (dRet (toE (dC (.bl false)))) dSkip)
  (dRet (toE (dBv (dNot (dTest (dAndV (dOp ixD (dPk 0) (dC (.int 2))) (ofE (dCall 2 f_law_fine (dCons (dVar 0) (dCons (dVar 1) dNil))))))))))))
def f_law_may : Fn := fnOf 4 b_law_may

def b_law_cut : DS := (dSeq (dAsg (tgT [3, 4, 5]) (dVar 0))
  (dSeq (dIfS (dAnd (dCmp (notG isD) (dPk 5) (dC .non)) (dAnd (dCmp (notG eqD) (dPk 5) (dC (.str "out"))) (dCmp gtD (dPk 5) (dPk 1)))) (dSet 5 (dC (.str "out"))) dSkip)
  (dRet (toE (dTup (dCons (dVar 3) (dCons (dOp addD (dSl (dPk 4) dI0 (dI1 (dVar 1))) (dTup (dCons (dVar 2) dNil))) (dCons (dVar 5) dNil))))))))
def f_law_cut : Fn := fnOf 6 b_law_cut

def b_law_come_in : DS := (dSeq (dSet 5 (dOp ixD (dOp ixD (dPk 1) (dC (.int 1))) (dPk 2)))
  (dSeq (dSet 6 (dOp modD (dF1 intD (dOp addD (dOp ixD (dPk 5) (dC (.int 2))) (dF1 intD (dBv (dNot (dTest (dVar 4))))))) (dOp ixD (dPk 0) (dC (.int 4)))))
  (dRet (dCall 3 f_law_cut (dCons (dVar 1) (dCons (dVar 2) (dCons (dTup (dCons (dVar 3) (dCons (dVar 3) (dCons (dVar 6) (dCons (dC (.int 0)) (dCons (dC (.str "none")) dNil)))))) dNil)))))))
def f_law_come_in : Fn := fnOf 7 b_law_come_in

def b_law_new_name : DS := (dSeq (dAsg (tgT [2, 3, 4]) (dVar 1))
  (dSeq (dAsg (tgT [5, 6, 7, 8, 9]) (dOp ixD (dPk 3) (dF1 negD (dC (.int 1)))))
  (dSeq (dSet 10 (dBv (dCmp eqD (dPk 4) (dOp subD (dF1 lenD (dPk 3)) (dC (.int 1))))))
  (dSeq (dIfS (dOr (dCmp (notG eqD) (dPk 7) (dC (.int 0))) (dOr (dCmp eqD (dOp ixD (dPk 0) (dC (.int 1))) (dC (.int 0))) (dCmp gtD (dF1 lenD (dPk 3)) (dOp ixD (dPk 0) (dC (.int 3)))))) (dRet (toE (dTup (dCons (dVar 2) (dCons (dOp addD (dSl (dPk 3) dI0 (dI1 (dF1 negD (dC (.int 1))))) (dTup (dCons (dTup (dCons (dC .non) (dCons (dVar 5) (dCons (dVar 7) (dCons (dC (.int 0)) (dCons (dC (.str "off")) dNil)))))) dNil))) (dCons (dIf (dTest (dVar 10)) (dC (.str "out")) (dVar 4)) dNil)))))) dSkip)
  (dSeq (dSet 3 (dOp addD (dSl (dPk 3) dI0 (dI1 (dF1 negD (dC (.int 1))))) (dTup (dCons (dTup (dCons (dC .non) (dCons (dVar 5) (dCons (dVar 7) (dCons (dC (.int 0)) (dCons (dC (.str "next")) dNil)))))) (dCons (dTup (dCons (dVar 5) (dCons (dVar 5) (dCons (dC (.int 0)) (dCons (dC (.int 0)) (dCons (dC (.str "none")) dNil)))))) dNil)))))
  (dRet (toE (dTup (dCons (dVar 2) (dCons (dVar 3) (dCons (dIf (dTest (dVar 10)) (dOp subD (dF1 lenD (dPk 3)) (dC (.int 1))) (dVar 4)) dNil)))))))))))
def f_law_new_name : Fn := fnOf 11 b_law_new_name

def l_law_older_1 : DS := (dSeq (dSet 9 (dOp min2D (dOp addD (dF1 intD (dPk 9)) (dF1 intD (dBv (dCmp isD (dPk 6) (dC .non))))) (ofE (dCall 1 f_law_top (dCons (dVar 0) dNil)))))
  (dApp 5 (dTup (dCons (dVar 6) (dCons (dVar 7) (dCons (dVar 8) (dCons (dVar 9) (dCons (dVar 10) dNil))))))))
def l_law_older_2 : DS := (dIfS (dAnd (dCmp eqD (dOp ixD (dOp ixD (dPk 5) (dPk 12)) (dC (.int 4))) (dC (.str "next"))) (dNot (dTest (ofE (dCall 2 f_law_fine (dCons (dVar 0) (dCons (dOp ixD (dPk 5) (dPk 12)) dNil))))))) (dRet (dCall 3 f_law_cut (dCons (dVar 11) (dCons (dVar 12) (dCons (dOp addD (dSl (dOp ixD (dPk 5) (dPk 12)) dI0 (dI1 (dC (.int 4)))) (dTup (dCons (dC (.str "off")) dNil))) dNil))))) dSkip)
def b_law_older : DS := (dSeq (dAsg (tgT [2, 3, 4]) (dVar 1))
  (dSeq (dSetO 5 (dLst dNil))
  (dSeq (dFor (seqT (dVar 3)) (tgT [6, 7, 8, 9, 10]) l_law_older_1)
  (dSeq (dSet 11 (dTup (dCons (dIf (dCmp isD (dOp ixD (dPk 0) (dC (.int 5))) (dC .non)) (dC (.int 0)) (dOp addD (dF1 intD (dPk 2)) (dC (.int 1)))) (dCons (dF1 tupleD (dPk 5)) (dCons (dVar 4) dNil)))))
  (dSeq (dFor (rngS (dF1 lenD (dPk 5))) (tgN 12) l_law_older_2)
  (dRet (toE (dVar 11))))))))
def f_law_older : Fn := fnOf 13 b_law_older

def l_law_moves_1 : DS := (dIfS (dTest (ofE (dCall 4 f_law_may (dCons (dVar 0) (dCons (dOp ixD (dPk 3) (dPk 12)) (dCons (dVar 15) (dCons (dVar 16) dNil))))))) (dApp 5 (dTup (dCons (dC (.str "take")) (dCons (dVar 15) (dCons (ofE (dCall 5 f_law_come_in (dCons (dVar 0) (dCons (dVar 1) (dCons (dVar 12) (dCons (dVar 15) (dCons (dVar 16) dNil))))))) dNil))))) dSkip)
def l_law_moves_2 : DS := (dIfS (dCmp isD (dOp ixD (dOp ixD (dPk 3) (dPk 12)) (dC (.int 0))) (dC .non)) (dSeq (dFor (seqS (dLst (dCons (dTup (dCons (dC (.str "x")) (dCons (dC (.bl true)) dNil))) (dCons (dTup (dCons (dC (.str "x")) (dCons (dC (.bl false)) dNil))) (dCons (dTup (dCons (dC (.str "y")) (dCons (dC (.bl true)) dNil))) (dCons (dTup (dCons (dC (.str "y")) (dCons (dC (.bl false)) dNil))) dNil)))))) (tgT [15, 16]) l_law_moves_1)
  (dSeq (dSet 16 (dBv (dCmp eqD (dOp ixD (dOp ixD (dPk 3) (dPk 12)) (dC (.int 1))) (dC (.str "x")))))
  (dIfS (dAnd (dOr (dCmp eqD (dPk 4) (dC (.str "out"))) (dAnd (dCmp eqD (dPk 4) (dPk 6)) (dCmp ltD (dPk 12) (dPk 6)))) (dTest (ofE (dCall 4 f_law_may (dCons (dVar 0) (dCons (dOp ixD (dPk 3) (dPk 12)) (dCons (dC (.str "x")) (dCons (dVar 16) dNil)))))))) (dSeq (dSet 17 (ofE (dCall 5 f_law_come_in (dCons (dVar 0) (dCons (dVar 1) (dCons (dVar 12) (dCons (dC (.str "x")) (dCons (dVar 16) dNil))))))))
  (dApp 5 (dTup (dCons (dC (.str "change")) (dCons (dC (.str "x")) (dCons (dTup (dCons (dOp ixD (dPk 17) (dC (.int 0))) (dCons (dOp ixD (dPk 17) (dC (.int 1))) (dCons (dVar 12) dNil)))) dNil)))))) dSkip))) dSkip)
def l_law_moves_3 : DS := (dIfS (dCmp (notG eqD) (dTup (dCons (dVar 7) (dCons (dVar 14) dNil))) (dTup (dCons (dC (.str "x")) (dCons (dC (.str "x")) dNil)))) (dSeq (dSet 18 (dOp modD (dF1 intD (dOp addD (dPk 9) (dF1 intD (dBv (dCmp eqD (dOp ixD (dPk 0) (dC (.int 7))) (dC (.str "counted"))))))) (dOp ixD (dPk 0) (dC (.int 4)))))
  (dApp 5 (dTup (dCons (dC (.str "pass")) (dCons (dVar 7) (dCons (dTup (dCons (dVar 2) (dCons (dOp addD (dSl (dPk 3) dI0 (dI1 (dVar 6))) (dTup (dCons (dTup (dCons (dVar 14) (dCons (dVar 14) (dCons (dVar 18) (dCons (dC (.int 0)) (dCons (dC (.str "none")) dNil)))))) dNil))) (dCons (dVar 13) dNil)))) dNil)))))) dSkip)
def b_law_moves : DS := (dSeq (dAsg (tgT [2, 3, 4]) (dVar 1))
  (dSeq (dPar true false 5 6 (dLst (dCons (dTup (dCons (dC (.str "tick")) (dCons (dC (.str "time")) (dCons (ofE (dCall 2 f_law_older (dCons (dVar 0) (dCons (dVar 1) dNil)))) dNil)))) dNil)) (toE (dOp subD (dF1 lenD (dPk 3)) (dC (.int 1)))))
  (dSeq (dAsg (tgT [7, 8, 9, 10, 11]) (dOp ixD (dPk 3) (dPk 6)))
  (dSeq (dFor (rngS (dF1 lenD (dPk 3))) (tgN 12) l_law_moves_2)
  (dSeq (dIfS (dCmp (notG isD) (dPk 7) (dC .non)) (dSeq (dSet 13 (dIf (dCmp eqD (dPk 4) (dPk 6)) (dC .non) (dVar 4)))
  (dSeq (dApp 5 (dTup (dCons (dC (.str "give")) (dCons (dVar 7) (dCons (dTup (dCons (dVar 2) (dCons (dOp addD (dSl (dPk 3) dI0 (dI1 (dVar 6))) (dTup (dCons (dTup (dCons (dC .non) (dCons (dVar 7) (dCons (dVar 9) (dCons (dC (.int 0)) (dCons (dC (.str "none")) dNil)))))) dNil))) (dCons (dVar 13) dNil)))) dNil)))))
  (dSeq (dApp 5 (dTup (dCons (dC (.str "change")) (dCons (dVar 7) (dCons (ofE (dCall 2 f_law_new_name (dCons (dVar 0) (dCons (dVar 1) dNil)))) dNil)))))
  (dFor (seqS (dIf (dCmp (notG eqD) (dOp ixD (dPk 0) (dC (.int 7))) (dC (.str "no"))) (dLst (dCons (dC (.str "x")) (dCons (dC (.str "y")) dNil))) (dLst dNil))) (tgN 14) l_law_moves_3)))) dSkip)
  (dSeq (dIfS (dCmp eqD (dOp ixD (dPk 0) (dC (.int 6))) (dC (.str "same"))) (dApp 5 (dTup (dCons (dC (.str "copy")) (dCons (dC (.str "y")) (dCons (dTup (dCons (dC (.int 0)) (dCons (dVar 3) (dCons (dVar 4) dNil)))) dNil))))) dSkip)
  (dSeq (dIfS (dAnd (dCmp eqD (dOp ixD (dPk 0) (dC (.int 6))) (dC (.str "anew"))) (dAnd (dCmp (notG isD) (dPk 7) (dC .non)) (dCmp eqD (dPk 9) (dC (.int 0))))) (dApp 5 (dTup (dCons (dC (.str "copy")) (dCons (dC (.str "y")) (dCons (dTup (dCons (dC (.int 0)) (dCons (dSl (dPk 3) (dI1 (dVar 6)) dI0) (dCons (dIf (dCmp eqD (dPk 4) (dPk 6)) (dC (.int 0)) (dIf (dCmp isD (dPk 4) (dC .non)) (dC .non) (dC (.str "out")))) dNil)))) dNil))))) dSkip)
  (dRetO 5))))))))
def f_law_moves : Fn := fnOf 19 b_law_moves

def b_law_stands_so : DS := (dSeq (dAsg (tgT [1, 2, 3]) (dVar 0))
  (dSeq (dIfS (dAnd (dCmp (notG isD) (dOp ixD (dOp ixD (dPk 2) (dF1 negD (dC (.int 1)))) (dC (.int 0))) (dC .non)) (dCmp eqD (dOp ixD (dOp ixD (dPk 2) (dF1 negD (dC (.int 1)))) (dC (.int 2))) (dC (.int 0)))) (dRet (toE (dIf (dCmp eqD (dOp ixD (dOp ixD (dPk 2) (dF1 negD (dC (.int 1)))) (dC (.int 0))) (dC (.str "x"))) (dC (.str "right")) (dC (.str "astray"))))) dSkip)
  (dRet (toE (dIf (dCmp isD (dPk 3) (dC .non)) (dC (.str "nowhere")) (dC (.str "lost")))))))
def f_law_stands_so : Fn := fnOf 4 b_law_stands_so

def l_law_threats_1 : DS := (dIfS (dOr (dCmp isD (dOp ixD (dPk 0) (dC (.int 5))) (dC .non)) (dCmp leD (dOp ixD (dPk 10) (dC (.int 0))) (dOp ixD (dPk 0) (dC (.int 5))))) (dSeq (dSet 11 (ofE (dCall 1 f_law_stands_so (dCons (dVar 10) dNil))))
  (dSeq (dIfS (dAnd (dCmp inD (dPk 11) (ofE (dLst (dCons (dC (.str "astray")) (dCons (dC (.str "lost")) dNil))))) (dCmp (notG eqD) (dPk 11) (ofE (dCall 1 f_law_stands_so (dCons (dVar 7) dNil))))) (dSeq (dSet 12 (dGet2 (ofE (dLitS [("time", .str "time"), ("x", .str "meant")])) (dVar 9) (dC (.str "other"))))
  (dPut 2 (dTup (dCons (dVar 11) (dCons (dVar 12) dNil))) (dF1 intD (dGet2 (dPk 2) (dTup (dCons (dVar 11) (dCons (dVar 12) dNil))) (dVar 3))))) dSkip)
  (dIfS (dCmp (notG inD) (dPk 10) (dPk 4)) (dSeq (dPut 4 (dVar 10) (dC (.bl true)))
  (dApp 6 (dVar 10))) dSkip))) dSkip)
def l_law_threats_2 : DS := (dFor (seqS (dCall 2 f_law_moves (dCons (dVar 0) (dCons (dVar 7) dNil)))) (tgT [8, 9, 10]) l_law_threats_1)
def l_law_threats_3 : DS := (dSeq (dPar true false 6 3 (dLst dNil) (toE (dOp addD (dPk 3) (dC (.int 1)))))
  (dSeq (dFor (seqS (toE (dVar 5))) (tgN 7) l_law_threats_2)
  (dFrz 6 (dSet 5 (dVar 6)))))
def b_law_threats : DS := (dSeq (dPar3 false true false 1 2 3 (toE (dTup (dCons (dC (.int 0)) (dCons (dTup (dCons (dTup (dCons (dC (.str "x")) (dCons (dC (.str "x")) (dCons (dC (.int 0)) (dCons (dC (.int 0)) (dCons (dC (.str "none")) dNil)))))) dNil)) (dCons (dC (.int 0)) dNil))))) dNewT (toE (dC (.int 2))))
  (dSeq (dPar true false 4 5 (dOneT (dVar 1) (dC (.bl true))) (dLst (dCons (dVar 1) dNil)))
  (dSeq (dWhile fuel (dCmp (notG eqD) (dPk 5) (ofE (dLst dNil))) l_law_threats_3)
  (dRetO 2))))
def f_law_threats : Fn := fnOf 13 b_law_threats

def l_law_is_event_1 : DS := (dSeq (dIfS (dOr (dNot (dTest (dF1 (isiD "str") (dPk 2)))) (dNot (dChain leD leD (dC (.int 1)) (dF1 lenD (dPk 2)) (dC (.int 8))))) (dRet (toE (dC (.bl false)))) dSkip)
  (dIfS (dCmp (notG eqD) (ofE (dLc (strS (dVar 2)) (tgN 3) (dCmp (notG inD) (dPk 3) (dC (.str "abcdefghijklmnopqrstuvwxyz"))) (dVar 3) [3])) (ofE (dLst dNil))) (dRet (toE (dC (.bl false)))) dSkip))
def b_law_is_event : DS := (dSeq (dIfS (dOr (dNot (dTest (dF1 (isiD "tuple") (dPk 0)))) (dOr (dCmp eqD (dPk 0) (dTup dNil)) (dNot (dTest (dF1 (isiD "str") (dOp ixD (dPk 0) (dC (.int 0)))))))) (dRet (toE (dC (.bl false)))) dSkip)
  (dSeq (dIfS (dCmp eqD (dOp ixD (dPk 0) (dC (.int 0))) (dC (.str "copy"))) (dRet (toE (dAndV (dBv (dCmp eqD (dF1 lenD (dPk 0)) (dC (.int 2)))) (dAndV (dF1 (isiD "int") (dOp ixD (dPk 0) (dC (.int 1)))) (dAndV (dBv (dNot (dTest (dF1 (isiD "bool") (dOp ixD (dPk 0) (dC (.int 1))))))) (dBv (dCmp geD (dOp ixD (dPk 0) (dC (.int 1))) (dC (.int 0))))))))) dSkip)
  (dSeq (dSet 1 (dGet2 (ofE (dLitS [("tick", .int 1), ("give", .int 2), ("write", .int 2), ("take", .int 3), ("change", .int 3), ("pass", .int 3)])) (dOp ixD (dPk 0) (dC (.int 0))) (dC (.int 0))))
  (dSeq (dIfS (dCmp (notG eqD) (dF1 lenD (dPk 0)) (dPk 1)) (dRet (toE (dC (.bl false)))) dSkip)
  (dSeq (dFor (seqT (dSl (dPk 0) (dI1 (dC (.int 1))) dI0)) (tgN 2) l_law_is_event_1)
  (dRet (toE (dC (.bl true)))))))))
def f_law_is_event : Fn := fnOf 4 b_law_is_event

def l_law_rows_1 : DS := (dSeq (dSet 5 (ofE (dIf (dTest (ofE (dCall 1 f_law_is_event (dCons (dVar 4) dNil)))) (dCall 3 f_law_next (dCons (dVar 0) (dCons (dVar 2) (dCons (dVar 4) dNil)))) (toE (dC .non)))))
  (dSeq (dIfS (dCmp isD (dPk 5) (dC .non)) (dRet (toE (dC .non))) dSkip)
  (dSeq (dApp 3 (ofE (dCall 4 f_law_harms (dCons (dVar 0) (dCons (dVar 2) (dCons (dVar 5) (dCons (dVar 4) dNil)))))))
  (dSet 2 (dVar 5)))))
def b_law_rows : DS := (dSeq (dPar false true 2 3 (fun _ => f_law_begin []) (dLst dNil))
  (dSeq (dFor (seqT (dVar 1)) (tgN 4) l_law_rows_1)
  (dRetO 3)))
def f_law_rows : Fn := fnOf 6 b_law_rows

end NW

/-! The head: what the top leaves. -/
namespace NW
open PySem PySem.Spec PyProof.Rows L2
def dd (n : Str) (i : Nat) : He.DefD := ⟨(n, none), n, n, defArgs (top i), defBody (top i), defScope (top i), [], []⟩
def fn0 : List He.DefD := [dd "is_integer" 27, dd "fits" 28, dd "is_rule" 29, dd "need_rule" 30, dd "need_threat" 31, dd "first_scene" 40, dd "oldest" 41, dd "is_fine" 42, dd "may_come" 43, dd "cut_at" 44, dd "come_at" 45, dd "renamed" 46, dd "aged" 47, dd "comings" 48, dd "leavings" 49, dd "copies" 50, dd "steps_of" 51, dd "end_of" 52, dd "first_state" 54, dd "is_good" 55, dd "is_open" 56, dd "come" 57, dd "unheld" 58, dd "goes_to" 59, dd "is_dead" 60, dd "led_to" 61, dd "threads" 62, dd "taken" 63, dd "held_by" 64, dd "given_up" 65, dd "changed" 66, dd "passed" 67, dd "written" 68, dd "copied" 69, dd "ticked" 70, dd "stepped" 71, dd "behind" 72, dd "status" 74, dd "doer_of" 75]
def fn1 : List He.DefD := [dd "all_scenes" 76, dd "way_to" 77, dd "letters_of" 78, dd "told_event" 79, dd "names_then" 80, dd "history_of" 81, dd "found_harms" 82, dd "shortest" 83, dd "_law_bag" 85, dd "_law_take" 86, dd "_law_of" 87, dd "_law_rule" 88, dd "_law_good" 89, dd "_law_open" 90, dd "_law_come" 91, dd "_law_end" 92, dd "_law_dead" 93, dd "_law_to" 94, dd "_law_rethread" 95, dd "_law_held" 96, dd "_law_named" 97, dd "_law_next" 98, dd "_law_begin" 99, dd "_law_word" 100, dd "_law_harms" 101, dd "_law_top" 102, dd "_law_fine" 103, dd "_law_may" 104, dd "_law_cut" 105, dd "_law_come_in" 106, dd "_law_new_name" 107, dd "_law_older" 108, dd "_law_moves" 109, dd "_law_stands_so" 110, dd "_law_threats" 111, dd "_law_rows" 112, dd "_law_is_event" 113, dd "law" 114]
def fn : List He.DefD := fn0 ++ fn1
def fa0 : List He.Fa := [.glo "is_integer", .glo "fits", .glo "is_rule", .glo "need_rule", .glo "need_threat", .glo "first_scene", .glo "oldest", .glo "is_fine", .glo "may_come", .glo "cut_at", .glo "come_at", .glo "renamed", .glo "aged", .glo "comings", .glo "leavings", .glo "copies", .glo "steps_of", .glo "end_of", .glo "first_state", .glo "is_good", .glo "is_open", .glo "come", .glo "unheld", .glo "goes_to", .glo "is_dead", .glo "led_to", .glo "threads", .glo "taken", .glo "held_by", .glo "given_up", .glo "changed", .glo "passed", .glo "written", .glo "copied", .glo "ticked", .glo "stepped", .glo "behind", .glo "status", .glo "doer_of"]
def fa1 : List He.Fa := [.glo "all_scenes", .glo "way_to", .glo "letters_of", .glo "told_event", .glo "names_then", .glo "history_of", .glo "found_harms", .glo "shortest", .glo "_law_bag", .glo "_law_take", .glo "_law_of", .glo "_law_rule", .glo "_law_good", .glo "_law_open", .glo "_law_come", .glo "_law_end", .glo "_law_dead", .glo "_law_to", .glo "_law_rethread", .glo "_law_held", .glo "_law_named", .glo "_law_next", .glo "_law_begin", .glo "_law_word", .glo "_law_harms", .glo "_law_top", .glo "_law_fine", .glo "_law_may", .glo "_law_cut", .glo "_law_come_in", .glo "_law_new_name", .glo "_law_older", .glo "_law_moves", .glo "_law_stands_so", .glo "_law_threats", .glo "_law_rows", .glo "_law_is_event", .glo "law", .int "WAIT" 0]
def fa2 : List He.Fa := [.int "FORWARD" 1, .int "BARS" 2, .int "HOPS" 3, .int "MARKS" 4, .int "LIFE" 5, .int "COPIES" 6, .int "PASSING" 7, .str "LETTERS" "abcdefghijklmnopqrstuvwxyz", .str "NO" "no", .str "SAME" "same", .str "ANEW" "anew", .str "KEPT" "kept", .str "COUNTED" "counted", .str "ASTRAY" "astray", .str "LOST" "lost", .str "MEANT" "meant", .str "OTHER" "other", .str "TIME" "time", .str "MINE" "mine", .str "THEIRS" "theirs", .str "OUT" "out", .str "NEW" "new", .str "NONE" "none", .str "NEXT" "next", .str "OFF" "off", .free "int", .free "len", .free "isinstance", .free "bool", .free "str", .free "tuple", .free "max", .free "min", .free "abs", .free "range", .free "enumerate", .free "zip", .free "all", .free "sorted"]
def fa3 : List He.Fa := [.free "set", .free "dict", .glo "RULE_PARTS", .glo "CHOICES"]
def fa : List He.Fa := fa0 ++ fa1 ++ fa2 ++ fa3
def nm0 : List PySem.Str := [("is_integer" : PySem.Str), ("fits" : PySem.Str), ("is_rule" : PySem.Str), ("need_rule" : PySem.Str), ("need_threat" : PySem.Str), ("first_scene" : PySem.Str), ("oldest" : PySem.Str), ("is_fine" : PySem.Str), ("may_come" : PySem.Str), ("cut_at" : PySem.Str), ("come_at" : PySem.Str), ("renamed" : PySem.Str), ("aged" : PySem.Str), ("comings" : PySem.Str), ("leavings" : PySem.Str), ("copies" : PySem.Str), ("steps_of" : PySem.Str), ("end_of" : PySem.Str), ("first_state" : PySem.Str), ("is_good" : PySem.Str), ("is_open" : PySem.Str), ("come" : PySem.Str), ("unheld" : PySem.Str), ("goes_to" : PySem.Str), ("is_dead" : PySem.Str), ("led_to" : PySem.Str), ("threads" : PySem.Str), ("taken" : PySem.Str), ("held_by" : PySem.Str), ("given_up" : PySem.Str), ("changed" : PySem.Str), ("passed" : PySem.Str), ("written" : PySem.Str), ("copied" : PySem.Str), ("ticked" : PySem.Str), ("stepped" : PySem.Str), ("behind" : PySem.Str), ("status" : PySem.Str), ("doer_of" : PySem.Str)]
def nm1 : List PySem.Str := [("all_scenes" : PySem.Str), ("way_to" : PySem.Str), ("letters_of" : PySem.Str), ("told_event" : PySem.Str), ("names_then" : PySem.Str), ("history_of" : PySem.Str), ("found_harms" : PySem.Str), ("shortest" : PySem.Str), ("_law_bag" : PySem.Str), ("_law_take" : PySem.Str), ("_law_of" : PySem.Str), ("_law_rule" : PySem.Str), ("_law_good" : PySem.Str), ("_law_open" : PySem.Str), ("_law_come" : PySem.Str), ("_law_end" : PySem.Str), ("_law_dead" : PySem.Str), ("_law_to" : PySem.Str), ("_law_rethread" : PySem.Str), ("_law_held" : PySem.Str), ("_law_named" : PySem.Str), ("_law_next" : PySem.Str), ("_law_begin" : PySem.Str), ("_law_word" : PySem.Str), ("_law_harms" : PySem.Str), ("_law_top" : PySem.Str), ("_law_fine" : PySem.Str), ("_law_may" : PySem.Str), ("_law_cut" : PySem.Str), ("_law_come_in" : PySem.Str), ("_law_new_name" : PySem.Str), ("_law_older" : PySem.Str), ("_law_moves" : PySem.Str), ("_law_stands_so" : PySem.Str), ("_law_threats" : PySem.Str), ("_law_rows" : PySem.Str), ("_law_is_event" : PySem.Str), ("WAIT" : PySem.Str), ("FORWARD" : PySem.Str)]
def nm2 : List PySem.Str := [("BARS" : PySem.Str), ("HOPS" : PySem.Str), ("MARKS" : PySem.Str), ("LIFE" : PySem.Str), ("COPIES" : PySem.Str), ("PASSING" : PySem.Str), ("LETTERS" : PySem.Str), ("NO" : PySem.Str), ("SAME" : PySem.Str), ("ANEW" : PySem.Str), ("KEPT" : PySem.Str), ("COUNTED" : PySem.Str), ("ASTRAY" : PySem.Str), ("LOST" : PySem.Str), ("MEANT" : PySem.Str), ("OTHER" : PySem.Str), ("TIME" : PySem.Str), ("MINE" : PySem.Str), ("THEIRS" : PySem.Str), ("OUT" : PySem.Str), ("NEW" : PySem.Str), ("NONE" : PySem.Str), ("NEXT" : PySem.Str), ("OFF" : PySem.Str), ("HouseError" : PySem.Str), ("InvalidRule" : PySem.Str), ("InvalidHarm" : PySem.Str), ("InvalidDoer" : PySem.Str), ("RULE_PARTS" : PySem.Str), ("CHOICES" : PySem.Str)]
def nm : List PySem.Str := nm0 ++ nm1 ++ nm2
def partsV : List He.Dv := [.str "wait", .str "forward", .str "bars", .str "hops", .str "marks", .str "life", .str "copies", .str "passing"]
def choicesV : List (Str × List He.Dv) := [("wait", [.int 0, .int 1, .int 2, .int 3, .non]), ("forward", [.int 0, .int 1, .int 2, .int 3, .non]), ("hops", [.int 0, .int 1, .int 2]), ("marks", [.int 1, .int 2, .int 3]), ("life", [.int 0, .int 1, .int 2, .int 3, .int 4, .non]), ("copies", [.str "no", .str "same", .str "anew"]), ("passing", [.str "no", .str "kept", .str "counted"])]
def tabs : List He.Tab := [(fun K => He.ga K "CHOICES", ["wait", "forward", "hops", "marks", "life", "copies", "passing"])]
def tupAt (K : PySem.W.Frag) (t : Addr) (vs : List He.Dv) : Bool := match K.lookup t with
  | some ⟨.type c, _, .seq its _, _⟩ => decide (c = "tuple") && (decide (its.size ≤ sizeLine) && He.relAll (vs.map (He.Dv.v K)) its.toList)
  | _ => false
def chAt (K : PySem.W.Frag) (q : Str × List He.Dv) : Bool := match PySem.W.nsIn K (He.ga K "CHOICES") q.1 with
  | some (some (.ref t)) => tupAt K t q.2
  | _ => false
def extra (K : PySem.W.Frag) : Bool := He.tupB K "RULE_PARTS" partsV && choicesV.all (chAt K)
abbrev AlN : Type := He.AlT × Bool
def obsN (K : PySem.W.Frag) : AlN := (He.obsT fa fn tabs K, extra K)
def obsNG (g : Addr → Option Obj) : AlN := obsN (He.frG g (He.asD g 2))
def SaysN (w : World) (K : PySem.W.Frag) : Prop := obsN K = (He.valT fn tabs w, true)
def hk : PySem.W.Hook where
  α := AlN
  obs := fun s => obsNG s.heap.get?
  val := fun w => (He.valT fn tabs w, true)
  says := fun w h => ∃ K : PySem.W.Frag, K.In h ∧ SaysN w K
  of := fun _ _ e => ⟨_, He.frG_in, e⟩
  keeps := fun _ _ _ ⟨K, hK, c⟩ k => ⟨K, PySem.W.Frag.In.keeps hK k, c⟩
abbrev R : PySem.W.OpenRow := PySem.W.OpenLaw.row PySem.Challenge.rw_nameswait_k06_whole_shortest_histories
def ob (s : PySem.W.SharedT) : AlN := obsNG (HandSHeadRun.getT s)
theorem ob_eq (s : PySem.W.SharedT) : ob s = hk.obs s.abs := by
  have e : HandSHeadRun.getT s = s.abs.heap.get? := funext (HandSHeadRun.getT_eq s)
  show obsNG (HandSHeadRun.getT s) = obsNG s.abs.heap.get?
  rw [e]
/-- the run of the top -/
noncomputable abbrev runT (w : World) (os : OsState) : Option PySem.W.SharedT := HandSHeadRun.endF (HandSHeadRun.stepQ (HandSHeadRun.denQ HandSHeadRun.tabQ) R.prog w) 6000 R.prog w os
theorem join3 {α β γ δ : Type} {e : Option α} {f : α → β} {g : α → γ} {h : α → δ} {b : β} {c : γ} {d : δ} (h1 : e.map f = some b) (h2 : e.map g = some c) (h3 : e.map h = some d) : e.map (fun s => (f s, g s, h s)) = some (b, c, d) := by
  cases e with
  | none => cases h1
  | some a =>
    cases h1
    cases h2
    cases h3
    rfl
theorem looksF (w : World) (os : OsState) : (runT (w.withFollow "special-get-raises" false) os).map (fun s => HandSHeadRun.looksF R.prog (PySem.W.boot_heap (w.withFollow "special-get-raises" false).params) s.abs) = some true := by
  kernel_rfl
theorem seenF (w : World) (os : OsState) : (runT (w.withFollow "special-get-raises" false) os).map (fun s => HandSHeadRun.seenQ (PySem.W.view R.prog [114]) nm (PySem.importedModules R.prog.main.body) (fun s => PySem.W.xlAt (PySem.W.view R.prog [114]) [] s && PySem.W.recOk R.toRowW.records s) s.abs) = some (PySem.W.openGood (PySem.W.view R.prog [114]) nm) := by
  kernel_rfl
theorem obsF (w : World) (os : OsState) : (runT (w.withFollow "special-get-raises" false) os).map ob = some (hk.val (w.withFollow "special-get-raises" false)) := by
  kernel_rfl
theorem looksT (w : World) (os : OsState) : (runT (w.withFollow "special-get-raises" true) os).map (fun s => HandSHeadRun.looksF R.prog (PySem.W.boot_heap (w.withFollow "special-get-raises" true).params) s.abs) = some true := by
  kernel_rfl
theorem seenT (w : World) (os : OsState) : (runT (w.withFollow "special-get-raises" true) os).map (fun s => HandSHeadRun.seenQ (PySem.W.view R.prog [114]) nm (PySem.importedModules R.prog.main.body) (fun s => PySem.W.xlAt (PySem.W.view R.prog [114]) [] s && PySem.W.recOk R.toRowW.records s) s.abs) = some (PySem.W.openGood (PySem.W.view R.prog [114]) nm) := by
  kernel_rfl
theorem obsT (w : World) (os : OsState) : (runT (w.withFollow "special-get-raises" true) os).map ob = some (hk.val (w.withFollow "special-get-raises" true)) := by
  kernel_rfl
theorem run (w : World) : HandSHeadRun.RunEq R (PySem.W.view R.prog [114]) hk ob 6000 nm w :=
  PySem.W.byRow2 "special-get-raises" (P := fun w => HandSHeadRun.RunEq R (PySem.W.view R.prog [114]) hk ob 6000 nm w) (fun w os => join3 (looksF w os) (seenF w os) (obsF w os)) (fun w os => join3 (looksT w os) (seenT w os) (obsT w os)) w
end NW

/-! How the denotations compute. -/
namespace NW
open PySem PySem.Spec L2
section
variable {ρ : Ro} {d d' d'' : DV} {e e' e'' : DE} {c c' : DB} {da : DA} {i j l n : Nat} {x y z : D} {g g' : D → D → Option D} {p p' : D → D → Option Bool}
def valS : Slot → Option D
  | .val d => some d
  | _ => none
def pkS : Slot → Option D
  | .val d => some d
  | .own d => some d
  | _ => none
def testD : D → Option Bool
  | .bl c => some c
  | _ => none
def intOf : D → Option (Option Int)
  | .int i => some (some i)
  | _ => none
@[simp] theorem valS_val : valS (.val x) = some x := rfl
@[simp] theorem pkS_val : pkS (.val x) = some x := rfl
@[simp] theorem pkS_own : pkS (.own x) = some x := rfl
@[simp] theorem testD_bl {b : Bool} : testD (.bl b) = some b := rfl
@[simp] theorem intOf_int {k : Int} : intOf (.int k) = some (some k) := rfl
@[simp] theorem dC_ev : dC x ρ = some x := rfl
@[simp] theorem dVar_ev : dVar i ρ = (ρ[i]?).bind valS := by
  unfold dVar
  cases ρ[i]? with
  | none => rfl
  | some s => cases s <;> rfl
@[simp] theorem dPk_ev : dPk i ρ = (ρ[i]?).bind pkS := by
  unfold dPk
  cases ρ[i]? with
  | none => rfl
  | some s => cases s <;> rfl
@[simp] theorem dNil_ev : dNil ρ = some [] := rfl
@[simp] theorem dCons_ev : dCons d da ρ = (d ρ).bind fun x => (da ρ).bind fun xs => some (x :: xs) := rfl
@[simp] theorem dTup_ev : dTup da ρ = (da ρ).bind gTupD := rfl
@[simp] theorem dLst_ev : dLst da ρ = (da ρ).bind gLstD := rfl
@[simp] theorem ok_ev {k : Nat} : ok k = decide (k ≤ 100000) := rfl
theorem gTupD_ok {xs : List D} (h : xs.length ≤ 100000) : gTupD xs = some (.tup xs) := by simp [gTupD, h]
theorem gLstD_ok {xs : List D} (h : xs.length ≤ 100000) : gLstD xs = some (.lst xs, true) := by simp [gLstD, h]
@[simp] theorem gTup0 : gTupD [] = some (.tup []) := rfl
@[simp] theorem gTup1 {a : D} : gTupD [a] = some (.tup [a]) := rfl
@[simp] theorem gTup2 {a b : D} : gTupD [a, b] = some (.tup [a, b]) := rfl
@[simp] theorem gTup3 {a b c : D} : gTupD [a, b, c] = some (.tup [a, b, c]) := rfl
@[simp] theorem gTup4 {a b c d : D} : gTupD [a, b, c, d] = some (.tup [a, b, c, d]) := rfl
@[simp] theorem gTup5 {a b c d e : D} : gTupD [a, b, c, d, e] = some (.tup [a, b, c, d, e]) := rfl
@[simp] theorem gLst0 : gLstD [] = some (.lst [], true) := rfl
@[simp] theorem gLst1 {a : D} : gLstD [a] = some (.lst [a], true) := rfl
@[simp] theorem gLst2 {a b : D} : gLstD [a, b] = some (.lst [a, b], true) := rfl
@[simp] theorem gLst4 {a b c d : D} : gLstD [a, b, c, d] = some (.lst [a, b, c, d], true) := rfl
@[simp] theorem dOp_ev : dOp g d d' ρ = (d ρ).bind fun x => (d' ρ).bind fun y => g x y := rfl
@[simp] theorem dF1_ev {α : Type} {f : D → Option α} : dF1 f d ρ = (d ρ).bind f := rfl
@[simp] theorem dCmp_ev : dCmp p d d' ρ = (d ρ).bind fun x => (d' ρ).bind fun y => p x y := rfl
@[simp] theorem dBv_ev : dBv c ρ = (c ρ).map .bl := rfl
@[simp] theorem dTest_ev : dTest d ρ = (d ρ).bind testD := by
  unfold dTest
  cases d ρ with
  | none => rfl
  | some s => cases s <;> rfl
@[simp] theorem dChain_ev : dChain p p' d d' d'' ρ = (d ρ).bind fun x => (d' ρ).bind fun y => (p x y).bind fun c => if c = true then (d'' ρ).bind fun z => p' y z else some false := rfl
@[simp] theorem dAnd_ev : dAnd c c' ρ = (c ρ).bind fun b => if b = true then c' ρ else some false := rfl
@[simp] theorem dOr_ev : dOr c c' ρ = (c ρ).bind fun b => if b = true then some true else c' ρ := rfl
@[simp] theorem dNot_ev : dNot c ρ = (c ρ).map (!·) := rfl
@[simp] theorem dAndV_ev : dAndV d d' ρ = (dTest d ρ).bind fun c => if c = true then d' ρ else some (.bl false) := rfl
@[simp] theorem dOrV_ev : dOrV d d' ρ = (dTest d ρ).bind fun c => if c = true then some (.bl true) else d' ρ := rfl
@[simp] theorem dIf_ev {α : Type} {a b : Ro → Option α} : dIf c a b ρ = (c ρ).bind fun k => if k = true then a ρ else b ρ := rfl
@[simp] theorem toE_ev : toE d ρ = (d ρ).map fun x => (x, false) := rfl
@[simp] theorem ofE_ev : ofE e ρ = (e ρ).map (·.1) := rfl
def catD : D → D → Option (D × Bool)
  | .lst a, .lst b => if ok (a.length + b.length) then some (.lst (a ++ b), true) else none
  | _, _ => none
@[simp] theorem dCat_ev : dCat d d' ρ = (d ρ).bind fun x => (d' ρ).bind fun y => catD x y := by
  unfold dCat
  congr
@[simp] theorem dI0_ev : dI0 ρ = some none := rfl
@[simp] theorem dI1_ev : dI1 d ρ = (d ρ).bind intOf := by
  unfold dI1
  cases d ρ with
  | none => rfl
  | some s => cases s <;> rfl
def slT : D → Option Int → Option Int → Option D
  | .tup ds, l, h => some (.tup (cutD ds l h))
  | _, _, _ => none
def slL : D → Option Int → Option Int → Option (D × Bool)
  | .lst ds, l, h => some (.lst (cutD ds l h), true)
  | _, _, _ => none
@[simp] theorem dSl_ev {lo hi : DI} : dSl d lo hi ρ = (d ρ).bind fun x => (lo ρ).bind fun l => (hi ρ).bind fun h => slT x l h := by
  unfold dSl
  congr
  funext x
  cases x <;> rfl
@[simp] theorem dSlL_ev {lo hi : DI} : dSlL d lo hi ρ = (d ρ).bind fun x => (lo ρ).bind fun l => (hi ρ).bind fun h => slL x l h := by
  unfold dSlL
  congr
  funext x
  cases x <;> rfl
@[simp] theorem slT_tup {ds : List D} {lo hi : Option Int} : slT (.tup ds) lo hi = some (.tup (cutD ds lo hi)) := rfl
@[simp] theorem slL_lst {ds : List D} {lo hi : Option Int} : slL (.lst ds) lo hi = some (.lst (cutD ds lo hi), true) := rfl
@[simp] theorem dNewS_ev : dNewS ρ = some (.dS [], true) := rfl
@[simp] theorem dNewT_ev : dNewT ρ = some (.dT [], true) := rfl
@[simp] theorem dOneT_ev : dOneT d d' ρ = (d ρ).bind fun q => (d' ρ).bind fun v => if keyOk q then some (.dT [(q, v)], true) else none := rfl
def starD : D → D → D → Option (D × Bool)
  | .dS es, .str kx, v => if ok (es.length + 1) then some (.dS (putS es kx v), true) else none
  | _, _, _ => none
@[simp] theorem dLitS_ev {es : List (Str × D)} : dLitS es ρ = some (.dS (litS es), true) := rfl
@[simp] theorem dGet2_ev : dGet2 d d' d'' ρ = (d ρ).bind fun x => (d' ρ).bind fun y => (d'' ρ).bind fun z => get2D x y z := rfl
def kixD (es : List (Str × D)) : D → Option D
  | .str k => lookS es k
  | _ => none
@[simp] theorem dKix_ev {es : List (Str × D)} : dKix es d ρ = (d ρ).bind (kixD es) := by
  unfold dKix
  cases d ρ with
  | none => rfl
  | some s => cases s <;> rfl
@[simp] theorem dCall_ev {f : Fn} : dCall n f da ρ = (da ρ).bind fun ds => if ds.length = n then f ds else none := rfl
/-! statements -/
variable {s s' : DS} {o : Out} {v : D} {b : Bool} {t : DT}
@[simp] theorem dSkip_ev : dSkip ρ = some (.nx ρ) := rfl
@[simp] theorem dSeq_ev : dSeq s s' ρ = (s ρ).bind (andThen s') := rfl
@[simp] theorem andThen_nx : andThen s (.nx ρ) = s ρ := rfl
@[simp] theorem andThen_rt : andThen s (.rt v b) = some (.rt v b) := rfl
@[simp] theorem andThen_ct : andThen s (.ct ρ) = some (.ct ρ) := rfl
@[simp] theorem andThen_bk : andThen s (.bk ρ) = some (.bk ρ) := rfl
@[simp] theorem dNever_ev : dNever ρ = none := rfl
@[simp] theorem dCont_ev : dCont ρ = some (.ct ρ) := rfl
@[simp] theorem dRet_ev : dRet e ρ = (e ρ).map fun x => .rt x.1 x.2 := rfl
@[simp] theorem dRetN_ev : dRetN ρ = some (.rt .non false) := rfl
def ownS : Slot → Option Out
  | .own d => some (.rt d true)
  | _ => none
@[simp] theorem ownS_own : ownS (.own x) = some (.rt x true) := rfl
@[simp] theorem dRetO_ev : dRetO i ρ = (ρ[i]?).bind ownS := by
  unfold dRetO
  cases ρ[i]? with
  | none => rfl
  | some s => cases s <;> rfl
@[simp] theorem dSet_ev : dSet i d ρ = (d ρ).map fun x => .nx (ρ.set i (.val x)) := rfl
@[simp] theorem dSetO_ev : dSetO i e ρ = (e ρ).bind fun x => if x.2 = true then some (.nx (ρ.set i (.own x.1))) else none := rfl
@[simp] theorem tgN_ev : tgN i x ρ = some (ρ.set i (.val x)) := rfl
@[simp] theorem tgT_ev {is : List Nat} {ds : List D} : tgT is (.tup ds) ρ = setAll is ds ρ := rfl
@[simp] theorem setAll_nil : setAll [] [] ρ = some ρ := rfl
@[simp] theorem setAll_cons {is : List Nat} {ds : List D} : setAll (i :: is) (x :: ds) ρ = setAll is ds (ρ.set i (.val x)) := rfl
@[simp] theorem dAsg_ev : dAsg t d ρ = (d ρ).bind fun x => (t x ρ).map .nx := rfl
@[simp] theorem dIfS_ev : dIfS c s s' ρ = (c ρ).bind fun b => if b = true then s ρ else s' ρ := rfl
def frzS (i : Nat) (ρ : Ro) : Slot → Ro
  | .own d => ρ.set i (.val d)
  | _ => ρ
@[simp] theorem frzS_own : frzS i ρ (.own x) = ρ.set i (.val x) := rfl
@[simp] theorem frzS_val : frzS i ρ (.val x) = ρ := rfl
@[simp] theorem frzS_un : frzS i ρ .un = ρ := rfl
theorem frzR_ev {sl : Slot} (h : ρ[i]? = some sl) : frzR i ρ = frzS i ρ sl := by
  unfold frzR
  rw [h]
  cases sl <;> rfl
@[simp] theorem frzR_0 {a : Slot} {r : Ro} : frzR 0 (a :: r) = frzS 0 (a :: r) a := frzR_ev rfl
@[simp] theorem frzR_1 {a b : Slot} {r : Ro} : frzR 1 (a :: b :: r) = frzS 1 (a :: b :: r) b := frzR_ev rfl
@[simp] theorem frzR_2 {a b c : Slot} {r : Ro} : frzR 2 (a :: b :: c :: r) = frzS 2 (a :: b :: c :: r) c := frzR_ev rfl
@[simp] theorem frzR_3 {a b c d : Slot} {r : Ro} : frzR 3 (a :: b :: c :: d :: r) = frzS 3 (a :: b :: c :: d :: r) d := frzR_ev rfl
@[simp] theorem frzR_4 {a b c d e : Slot} {r : Ro} : frzR 4 (a :: b :: c :: d :: e :: r) = frzS 4 (a :: b :: c :: d :: e :: r) e := frzR_ev rfl
@[simp] theorem frzR_5 {a b c d e f : Slot} {r : Ro} : frzR 5 (a :: b :: c :: d :: e :: f :: r) = frzS 5 (a :: b :: c :: d :: e :: f :: r) f := frzR_ev rfl
@[simp] theorem frzR_6 {a b c d e f g : Slot} {r : Ro} : frzR 6 (a :: b :: c :: d :: e :: f :: g :: r) = frzS 6 (a :: b :: c :: d :: e :: f :: g :: r) g := frzR_ev rfl
@[simp] theorem dFrz_ev : dFrz i s ρ = s (frzR i ρ) := rfl
@[simp] theorem putR_t {x : D} : putR true i (x, true) ρ = some (ρ.set i (.own x)) := rfl
@[simp] theorem putR_f {x : D × Bool} : putR false i x ρ = some (ρ.set i (.val x.1)) := rfl
@[simp] theorem dPar_ev {o o' : Bool} : dPar o o' i j e e' ρ = (e ρ).bind fun x => (e' ρ).bind fun y => (putR o i x ρ).bind fun ρ1 => (putR o' j y ρ1).map .nx := rfl
@[simp] theorem dPar3_ev {o o' o'' : Bool} : dPar3 o o' o'' i j l e e' e'' ρ = (e ρ).bind fun x => (e' ρ).bind fun y => (e'' ρ).bind fun z => (putR o i x ρ).bind fun ρ1 => (putR o' j y ρ1).bind fun ρ2 => (putR o'' l z ρ2).map .nx := rfl
def appS (i : Nat) (ρ : Ro) (y : D) : Slot → Option Out
  | .own (.lst l) => if ok (l.length + 1) then some (.nx (ρ.set i (.own (.lst (l ++ [y]))))) else none
  | _ => none
theorem appS_own {l : List D} (h : l.length < 100000) : appS i ρ y (.own (.lst l)) = some (.nx (ρ.set i (.own (.lst (l ++ [y]))))) := by
  have h' : l.length + 1 ≤ 100000 := h
  simp [appS, h']
@[simp] theorem dApp_ev : dApp i d ρ = (d ρ).bind fun y => (ρ[i]?).bind (appS i ρ y) := by
  unfold dApp
  congr
  funext y
  cases h : ρ[i]? with
  | none => rfl
  | some s =>
    cases s with
    | own d => cases d <;> rfl
    | _ => rfl
def putSl (i : Nat) (ρ : Ro) (k z : D) : Slot → Option Out
  | .own a => (putD a k z).map fun b => .nx (ρ.set i (.own b))
  | _ => none
@[simp] theorem putSl_own {a k z : D} : putSl i ρ k z (.own a) = (putD a k z).map fun b => .nx (ρ.set i (.own b)) := rfl
@[simp] theorem dPut_ev : dPut i d d' ρ = (d' ρ).bind fun z => (d ρ).bind fun k => (ρ[i]?).bind (putSl i ρ k z) := by
  unfold dPut
  congr
  funext z
  congr
  funext k
  cases h : ρ[i]? with
  | none => rfl
  | some s => cases s <;> rfl
@[simp] theorem dDrop_ev : dDrop e ρ = (e ρ).map fun _ => .nx ρ := rfl
def lstS : D × Bool → Option (List D)
  | (.lst ds, _) => some ds
  | _ => none
def tupS : D → Option (List D)
  | .tup ds => some ds
  | _ => none
@[simp] theorem lstS_lst {ds : List D} : lstS (.lst ds, b) = some ds := rfl
@[simp] theorem tupS_tup {ds : List D} : tupS (.tup ds) = some ds := rfl
@[simp] theorem seqS_ev : seqS e ρ = (e ρ).bind lstS := by
  unfold seqS
  cases e ρ with
  | none => rfl
  | some s =>
    obtain ⟨s, b⟩ := s
    cases s <;> rfl
@[simp] theorem seqT_ev : seqT d ρ = (d ρ).bind tupS := by
  unfold seqT
  cases d ρ with
  | none => rfl
  | some s => cases s <;> rfl
@[simp] theorem enumT_ev : enumT d ρ = (seqT d ρ).map (enumD 0) := rfl
@[simp] theorem enumL_ev : enumL e ρ = (seqS e ρ).map (enumD 0) := rfl
@[simp] theorem dFor_ev : dFor da t s ρ = (da ρ).bind fun ds => loopF t s ds ρ := rfl
@[simp] theorem loopF_nil : loopF t s [] ρ = some (.nx ρ) := rfl
def onward (t : DT) (s : DS) (ds : List D) : Out → Option Out
  | .nx ρ' => loopF t s ds ρ'
  | .ct ρ' => loopF t s ds ρ'
  | .bk ρ' => some (.nx ρ')
  | .rt d f => some (.rt d f)
@[simp] theorem onward_nx {ds : List D} : onward t s ds (.nx ρ) = loopF t s ds ρ := rfl
@[simp] theorem onward_ct {ds : List D} : onward t s ds (.ct ρ) = loopF t s ds ρ := rfl
@[simp] theorem onward_bk {ds : List D} : onward t s ds (.bk ρ) = some (.nx ρ) := rfl
@[simp] theorem onward_rt {ds : List D} : onward t s ds (.rt v b) = some (.rt v b) := rfl
@[simp] theorem loopF_cons {ds : List D} : loopF t s (x :: ds) ρ = (t x ρ).bind fun ρ1 => (s ρ1).bind (onward t s ds) := rfl
@[simp] theorem fnOf_ev {ds : List D} : fnOf n s ds = (s (ds.map Slot.val ++ List.replicate (n - ds.length) Slot.un)).bind endF := rfl
@[simp] theorem endF_rt : endF (.rt v b) = some (v, b) := rfl
@[simp] theorem endF_nx : endF (.nx ρ) = some (.non, false) := rfl
/-! the operations -/
variable {k k' : Int} {w w' : Str} {q q' : Bool} {ds ds' : List D}
@[simp] theorem addD_ii : addD (.int k) (.int k') = some (.int (k + k')) := rfl
theorem addD_tt (h : ds.length + ds'.length ≤ 100000) : addD (.tup ds) (.tup ds') = some (.tup (ds ++ ds')) := by
  show (if ok _ then _ else _) = _
  rw [if_pos (by simpa using h)]
@[simp] theorem subD_ii : subD (.int k) (.int k') = some (.int (k - k')) := rfl
@[simp] theorem modD_ii : modD (.int k) (.int k') = if 0 < k' then some (.int (k % k')) else none := by
  show (if decide (0 < k') then _ else _) = _
  by_cases h : 0 < k' <;> simp [h]
@[simp] theorem eqD_ii : eqD (.int k) (.int k') = some (decide (k = k')) := by
  unfold eqD
  simp [scV, scal]
@[simp] theorem eqD_ss : eqD (.str w) (.str w') = some (decide (w = w')) := by
  unfold eqD
  simp [scV, scal]
@[simp] theorem eqD_is : eqD (.int k) (.str w') = some false := rfl
@[simp] theorem eqD_si : eqD (.str w) (.int k) = some false := rfl
@[simp] theorem eqD_nn : eqD .non .non = some true := rfl
@[simp] theorem eqD_ni : eqD .non (.int k) = some false := rfl
@[simp] theorem eqD_ns : eqD .non (.str w) = some false := rfl
@[simp] theorem eqD_in : eqD (.int k) .non = some false := rfl
@[simp] theorem eqD_sn : eqD (.str w) .non = some false := rfl
@[simp] theorem notG_ev : notG p x y = (p x y).map (!·) := rfl
@[simp] theorem ltD_ii : ltD (.int k) (.int k') = some (decide (k < k')) := rfl
@[simp] theorem leD_ii : leD (.int k) (.int k') = some (decide (k ≤ k')) := rfl
@[simp] theorem gtD_ii : gtD (.int k) (.int k') = some (decide (k' < k)) := rfl
@[simp] theorem geD_ii : geD (.int k) (.int k') = some (decide (k' ≤ k)) := rfl
@[simp] theorem isD_non : isD x .non = some x.isN := rfl
@[simp] theorem isN_n : D.isN .non = true := rfl
@[simp] theorem isN_i : D.isN (.int k) = false := rfl
@[simp] theorem isN_s : D.isN (.str w) = false := rfl
@[simp] theorem isN_t : D.isN (.tup ds) = false := rfl
@[simp] theorem isN_b : D.isN (.bl q) = false := rfl
@[simp] theorem isN_l : D.isN (.lst ds) = false := rfl
@[simp] theorem ixD_t : ixD (.tup ds) (.int k) = atI ds k := rfl
@[simp] theorem ixD_l : ixD (.lst ds) (.int k) = atI ds k := rfl
@[simp] theorem ixD_S {es : List (Str × D)} : ixD (.dS es) (.str w) = lookS es w := rfl
@[simp] theorem ixD_T {es : List (D × D)} : ixD (.dT es) (.tup ds) = if keyOk (.tup ds) then lookT es (.tup ds) else none := rfl
theorem atI_nat {xs : List D} {m : Nat} : atI xs ((m : Nat) : Int) = xs[m]? := by
  unfold atI ixN
  rw [if_pos (by omega)]
  by_cases h : m < xs.length
  · rw [if_pos (by omega)]
    simp
  · rw [if_neg (by omega)]
    simp [Nat.le_of_not_lt h]
@[simp] theorem atI_0 {xs : List D} : atI xs 0 = xs[0]? := atI_nat (m := 0)
@[simp] theorem atI_1 {xs : List D} : atI xs 1 = xs[1]? := atI_nat (m := 1)
@[simp] theorem atI_2 {xs : List D} : atI xs 2 = xs[2]? := atI_nat (m := 2)
@[simp] theorem atI_3 {xs : List D} : atI xs 3 = xs[3]? := atI_nat (m := 3)
@[simp] theorem atI_4 {xs : List D} : atI xs 4 = xs[4]? := atI_nat (m := 4)
@[simp] theorem atI_5 {xs : List D} : atI xs 5 = xs[5]? := atI_nat (m := 5)
@[simp] theorem atI_6 {xs : List D} : atI xs 6 = xs[6]? := atI_nat (m := 6)
@[simp] theorem atI_7 {xs : List D} : atI xs 7 = xs[7]? := atI_nat (m := 7)
theorem atI_m1 {xs : List D} (h : xs ≠ []) : atI xs (-1) = xs[xs.length - 1]? := by
  have : 0 < xs.length := List.length_pos_iff.mpr h
  unfold atI ixN
  rw [if_neg (by omega), if_pos (by omega)]
  show xs[_]? = _
  congr 1
  omega
@[simp] theorem atI_m1a {a : D} : atI [a] (-1) = some a := rfl
@[simp] theorem atI_m1b {a b : D} : atI [a, b] (-1) = some b := rfl
@[simp] theorem lenD_l : lenD (.lst ds) = some (.int ds.length) := rfl
@[simp] theorem lenD_t : lenD (.tup ds) = some (.int ds.length) := rfl
@[simp] theorem intD_i : intD (.int k) = some (.int k) := rfl
@[simp] theorem intD_b : intD (.bl q) = some (.int (if q = true then 1 else 0)) := rfl
@[simp] theorem negD_i : negD (.int k) = some (.int (-k)) := rfl
@[simp] theorem tupleD_l : tupleD (.lst ds) = some (.tup ds) := rfl
@[simp] theorem min2D_i : min2D (.int k) (.int k') = some (.int (if k' < k then k' else k)) := rfl
@[simp] theorem max2D_i : max2D (.int k) (.int k') = some (.int (if k' > k then k' else k)) := rfl
@[simp] theorem catD_l : catD (.lst ds) (.lst ds') = if ds.length + ds'.length ≤ 100000 then some (.lst (ds ++ ds'), true) else none := by
  show (if ok _ then _ else _) = _
  by_cases h : ds.length + ds'.length ≤ 100000 <;> simp [h]
@[simp] theorem get2D_S {es : List (Str × D)} : get2D (.dS es) (.str w) z = some ((lookS es w).getD z) := rfl
@[simp] theorem get1D_S {es : List (Str × D)} : get1D (.dS es) (.str w) = some ((lookS es w).getD .non) := rfl
@[simp] theorem dictD_S {es : List (Str × D)} : dictD (.dS es) = some (.dS es, true) := rfl
@[simp] theorem inD_S {es : List (Str × D)} : inD (.str w) (.dS es) = some (lookS es w).isSome := rfl
end
end NW

/-! Rules and scenes as plain things; their data. -/
namespace NW
open PySem PySem.Spec L2
inductive Cp where
  | no | same | anew
  deriving DecidableEq
inductive Pg where
  | no | kept | counted
  deriving DecidableEq
/-- a rule whose names lead on once at most (hops) -/
structure Rule where
  wait : Option Int
  fwd : Option Int
  bars : Bool
  hops : Bool
  marks : Int
  life : Option Int
  cp : Cp
  pg : Pg
  pos : 0 < marks
def optD : Option Int → D
  | none => .non
  | some n => .int n
def cpD : Cp → D
  | .no => .str "no"
  | .same => .str "same"
  | .anew => .str "anew"
def pgD : Pg → D
  | .no => .str "no"
  | .kept => .str "kept"
  | .counted => .str "counted"
def hopD (b : Bool) : D := .int (if b then 1 else 0)
def ruleD (r : Rule) : D := .tup [optD r.wait, optD r.fwd, .bl r.bars, hopD r.hops, .int r.marks, optD r.life, cpD r.cp, pgD r.pg]
inductive Fw where
  | none | next | off
  deriving DecidableEq
def fwD : Fw → D
  | .none => .str "none"
  | .next => .str "next"
  | .off => .str "off"
/-- who: true is the one who is meant -/
structure Row where
  who : Option Bool
  last : Bool
  num : Int
  old : Int
  fw : Fw
  deriving DecidableEq
/-- the two names of holders: the program's, the law's -/
structure Lab where
  m : Str
  t : Str
  ne : m ≠ t
def Lab.s (L : Lab) : Bool → Str
  | true => L.m
  | false => L.t
def whoD (L : Lab) (b : Bool) : D := .str (L.s b)
def wD (L : Lab) : Option Bool → D
  | none => .non
  | some b => whoD L b
def rowD (L : Lab) (x : Row) : D := .tup [wD L x.who, whoD L x.last, .int x.num, .int x.old, fwD x.fw]
inductive Rows where
  | one (x : Row)
  | two (y x : Row)
  deriving DecidableEq
def Rows.top : Rows → Row
  | .one x => x
  | .two _ x => x
def rowsL (L : Lab) : Rows → List D
  | .one x => [rowD L x]
  | .two y x => [rowD L y, rowD L x]
inductive Thr where
  | no | out | p0 | p1
  deriving DecidableEq
def thrD : Thr → D
  | .no => .non
  | .out => .str "out"
  | .p0 => .int 0
  | .p1 => .int 1
structure Scene where
  age : Int
  rows : Rows
  thr : Thr
  deriving DecidableEq
def scD (L : Lab) (s : Scene) : D := .tup [.int s.age, .tup (rowsL L s.rows), thrD s.thr]
def LP : Lab := ⟨"mine", "theirs", by decide⟩
def LX : Lab := ⟨"x", "y", by decide⟩
theorem Lab.inj {L : Lab} {a b : Bool} : L.s a = L.s b ↔ a = b := by
  cases a <;> cases b <;> simp [Lab.s, L.ne, L.ne.symm]

theorem ofS_inj {a b : String} : Str.ofString a = Str.ofString b ↔ a = b := by
  refine ⟨fun h => ?_, fun h => by rw [h]⟩
  rw [Str.ofString_eq_toList, Str.ofString_eq_toList] at h
  have h1 : a.toList.map Char.toNat = b.toList.map Char.toNat := by
    have := congrArg Str.cps h
    simpa using this
  have h2 : a.toList = b.toList := by
    have inj : ∀ (l l' : List Char), l.map Char.toNat = l'.map Char.toNat → l = l' := by
      intro l
      induction l with
      | nil => intro l' h; cases l' with
        | nil => rfl
        | cons _ _ => simp at h
      | cons c l ih => intro l' h; cases l' with
        | nil => simp at h
        | cons c' l' =>
          simp at h
          rw [ih l' h.2, Char.toNat_inj.mp h.1]
    exact inj _ _ h1
  exact String.toList_inj.mp h2
section
variable {r : Rule} {L : Lab} {x : Row} {s : Scene} {is : List Nat} {ρ : Ro} {a b : Bool} {o : Option Int} {k : Int}
@[simp] theorem ix_r0 : ixD (ruleD r) (.int 0) = some (optD r.wait) := rfl
@[simp] theorem ix_r1 : ixD (ruleD r) (.int 1) = some (optD r.fwd) := rfl
@[simp] theorem ix_r2 : ixD (ruleD r) (.int 2) = some (.bl r.bars) := rfl
@[simp] theorem ix_r3 : ixD (ruleD r) (.int 3) = some (hopD r.hops) := rfl
@[simp] theorem ix_r4 : ixD (ruleD r) (.int 4) = some (.int r.marks) := rfl
@[simp] theorem ix_r5 : ixD (ruleD r) (.int 5) = some (optD r.life) := rfl
@[simp] theorem ix_r6 : ixD (ruleD r) (.int 6) = some (cpD r.cp) := rfl
@[simp] theorem ix_r7 : ixD (ruleD r) (.int 7) = some (pgD r.pg) := rfl
@[simp] theorem ix_x0 : ixD (rowD L x) (.int 0) = some (wD L x.who) := rfl
@[simp] theorem ix_x1 : ixD (rowD L x) (.int 1) = some (whoD L x.last) := rfl
@[simp] theorem ix_x2 : ixD (rowD L x) (.int 2) = some (.int x.num) := rfl
@[simp] theorem ix_x3 : ixD (rowD L x) (.int 3) = some (.int x.old) := rfl
@[simp] theorem ix_x4 : ixD (rowD L x) (.int 4) = some (fwD x.fw) := rfl
@[simp] theorem ix_s0 : ixD (scD L s) (.int 0) = some (.int s.age) := rfl
@[simp] theorem ix_s1 : ixD (scD L s) (.int 1) = some (.tup (rowsL L s.rows)) := rfl
@[simp] theorem ix_s2 : ixD (scD L s) (.int 2) = some (thrD s.thr) := rfl
@[simp] theorem tg_x : tgT is (rowD L x) ρ = setAll is [wD L x.who, whoD L x.last, .int x.num, .int x.old, fwD x.fw] ρ := rfl
@[simp] theorem tg_s : tgT is (scD L s) ρ = setAll is [.int s.age, .tup (rowsL L s.rows), thrD s.thr] ρ := rfl
@[simp] theorem eq_ww : eqD (whoD L a) (whoD L b) = some (decide (a = b)) := by
  cases a <;> cases b <;> simp [whoD, Lab.s, L.ne, L.ne.symm]
@[simp] theorem eq_wm : eqD (whoD LP a) (.str "mine") = some a := by
  cases a <;> simp [whoD, Lab.s, LP, ofS_inj]
@[simp] theorem eq_wx : eqD (whoD LX a) (.str "x") = some a := by
  cases a <;> simp [whoD, Lab.s, LX, ofS_inj]
@[simp] theorem isN_o : D.isN (optD o) = decide (o = none) := by cases o <;> rfl
@[simp] theorem isN_w {w : Option Bool} : D.isN (wD L w) = decide (w = none) := by
  cases w with
  | none => rfl
  | some b => rfl
@[simp] theorem isN_th {t : Thr} : D.isN (thrD t) = decide (t = .no) := by cases t <;> rfl
@[simp] theorem eq_f0 {f : Fw} : eqD (fwD f) (.str "none") = some (decide (f = .none)) := by cases f <;> simp [fwD, ofS_inj]
@[simp] theorem eq_f1 {f : Fw} : eqD (fwD f) (.str "next") = some (decide (f = .next)) := by cases f <;> simp [fwD, ofS_inj]
@[simp] theorem eq_c0 {c : Cp} : eqD (cpD c) (.str "no") = some (decide (c = .no)) := by cases c <;> simp [cpD, ofS_inj]
@[simp] theorem eq_c1 {c : Cp} : eqD (cpD c) (.str "same") = some (decide (c = .same)) := by cases c <;> simp [cpD, ofS_inj]
@[simp] theorem eq_c2 {c : Cp} : eqD (cpD c) (.str "anew") = some (decide (c = .anew)) := by cases c <;> simp [cpD, ofS_inj]
@[simp] theorem eq_p0 {c : Pg} : eqD (pgD c) (.str "no") = some (decide (c = .no)) := by cases c <;> simp [pgD, ofS_inj]
@[simp] theorem eq_p2 {c : Pg} : eqD (pgD c) (.str "counted") = some (decide (c = .counted)) := by cases c <;> simp [pgD, ofS_inj]
@[simp] theorem eq_t0 {t : Thr} : eqD (thrD t) (.int 0) = some (decide (t = .p0)) := by cases t <;> simp [thrD]
@[simp] theorem eq_t1 {t : Thr} : eqD (thrD t) (.int 1) = some (decide (t = .p1)) := by cases t <;> simp [thrD]
@[simp] theorem eq_to {t : Thr} : eqD (thrD t) (.str "out") = some (decide (t = .out)) := by cases t <;> simp [thrD]
end

/-! ### the program's small defs -/
def fine (r : Rule) (x : Row) : Bool := decide (x.fw ≠ .none) && (match r.fwd with
  | none => true
  | some f => decide (x.old < f))
theorem m_is_fine (r : Rule) (L : Lab) (x : Row) : f_is_fine [ruleD r, rowD L x] = some (.bl (fine r x), false) := by
  unfold f_is_fine b_is_fine fine
  by_cases h : x.fw = .none <;> cases h2 : r.fwd <;> simp [h, h2, optD]
theorem m_law_fine (r : Rule) (L : Lab) (x : Row) : f_law_fine [ruleD r, rowD L x] = some (.bl (fine r x), false) := by
  unfold f_law_fine b_law_fine fine
  by_cases h : x.fw = .none <;> cases h2 : r.fwd <;> simp [h, h2, optD]
def mayCome (r : Rule) (x : Row) (who back : Bool) : Bool :=
  if back then decide (x.last = who) else
  if x.last = who ∧ who = true then false else
  match r.wait with
  | none => false
  | some w => decide (w ≤ x.old) && !(r.bars && fine r x)
theorem m_may_come (r : Rule) (x : Row) (who back : Bool) : f_may_come [ruleD r, rowD LP x, whoD LP who, .bl back] = some (.bl (mayCome r x who back), false) := by
  unfold f_may_come b_may_come mayCome
  cases back
  · by_cases h : x.last = who ∧ who = true
    · obtain ⟨h1, h2⟩ := h
      simp [h1, h2]
    · cases h2 : r.wait with
      | none =>
        cases who <;> cases h3 : x.last <;> simp [h2, h3, optD]
      | some wt =>
        by_cases h4 : x.old < wt
        · cases who <;> cases h3 : x.last <;> simp [h2, h3, h4, optD, Int.not_le.mpr h4]
        · cases who <;> cases h3 : x.last <;> cases h5 : r.bars <;> simp [h2, h3, h4, h5, optD, Int.not_lt.mp h4, m_is_fine]
            <;> simp_all
  · simp
theorem m_law_may (r : Rule) (x : Row) (who back : Bool) : f_law_may [ruleD r, rowD LX x, whoD LX who, .bl back] = some (.bl (mayCome r x who back), false) := by
  unfold f_law_may b_law_may mayCome
  cases back
  · by_cases h : x.last = who ∧ who = true
    · obtain ⟨h1, h2⟩ := h
      simp [h1, h2]
    · cases h2 : r.wait with
      | none =>
        cases who <;> cases h3 : x.last <;> simp [h2, h3, optD]
      | some wt =>
        by_cases h4 : x.old < wt
        · cases who <;> cases h3 : x.last <;> simp [h2, h3, h4, optD, Int.not_le.mpr h4]
        · cases who <;> cases h3 : x.last <;> cases h5 : r.bars <;> simp [h2, h3, h4, h5, optD, Int.not_lt.mp h4, m_law_fine]
            <;> simp_all
  · simp
end NW

/-! The scenes' moves. -/
namespace NW
open PySem PySem.Spec L2
/-! ### loops -/
theorem loopF_ix {α β : Type} {enc : α → D} {R : Nat → β → Ro → Prop} {step : β → α → β} {tg : DT} {body : DS} : ∀ {xs : List α} {b : β} {ρ : Ro} {k : Nat},
    (∀ i b ρ x, xs[i]? = some x → R (k + i) b ρ → ∃ ρ1 ρ2, tg (enc x) ρ = some ρ1 ∧ (body ρ1 = some (.nx ρ2) ∨ body ρ1 = some (.ct ρ2)) ∧ R (k + i + 1) (step b x) ρ2) → R k b ρ →
    ∃ ρ', loopF tg body (xs.map enc) ρ = some (.nx ρ') ∧ R (k + xs.length) (xs.foldl step b) ρ'
  | [], b, ρ, k, _, r => ⟨ρ, rfl, r⟩
  | x :: xs, b, ρ, k, h, r => by
    obtain ⟨ρ1, ρ2, h1, h2, h3⟩ := h 0 b ρ x rfl r
    obtain ⟨ρ', h4, h5⟩ := loopF_ix (xs := xs) (k := k + 1) (fun i b ρ y hy hr => by
      have := h (i + 1) b ρ y (by simpa using hy) (by rw [show k + (i + 1) = k + 1 + i by omega]; exact hr)
      rw [show k + (i + 1) + 1 = k + 1 + i + 1 by omega] at this
      exact this) h3
    refine ⟨ρ', ?_, ?_⟩
    · rw [List.map_cons, loopF_cons, h1, Option.bind_some]
      rcases h2 with h2 | h2 <;> rw [h2] <;> exact h4
    · rw [List.length_cons, show k + (xs.length + 1) = k + 1 + xs.length by omega]
      exact h5
section
variable {r : Rule} {L : Lab} {x : Row} {s : Scene} {is : List Nat} {ρ : Ro} {a b : Bool} {o : Option Int} {k : Int}
def plD (p : Bool) : D := .int (if p then 1 else 0)
def cutAt (s : Scene) (p : Bool) (x : Row) : Scene := match p, s.rows with
  | true, .two y _ => ⟨s.age, .two y x, s.thr⟩
  | true, .one y => ⟨s.age, .two y x, s.thr⟩
  | false, _ => ⟨s.age, .one x, if s.thr = .p1 then .out else s.thr⟩
@[simp] theorem cut0 {ds : List D} : cutD ds none (some 0) = [] := by simp [cutD, HT.sIx]
@[simp] theorem cut1a {y : D} : cutD [y] none (some 1) = [y] := rfl
@[simp] theorem cut1b {y z : D} : cutD [y, z] none (some 1) = [y] := rfl
@[simp] theorem cutm1a {y : D} : cutD [y] none (some (-1)) = [] := rfl
@[simp] theorem cutm1b {y z : D} : cutD [y, z] none (some (-1)) = [y] := rfl
@[simp] theorem cutt0a {y : D} : cutD [y] (some 0) none = [y] := rfl
@[simp] theorem cutt1b {y z : D} : cutD [y, z] (some 1) none = [z] := rfl
@[simp] theorem gtThr {p : Bool} {i : Int} : gtD (.int i) (plD p) = some (decide ((if p then 1 else 0) < i)) := rfl
@[simp] theorem addTT0 {ds : List D} : addD (.tup []) (.tup [y]) = some (.tup [y]) := rfl
@[simp] theorem addTT1 {x y : D} : addD (.tup [x]) (.tup [y]) = some (.tup [x, y]) := rfl
@[simp] theorem addTT2 {x y z : D} : addD (.tup [x]) (.tup [y, z]) = some (.tup [x, y, z]) := rfl
@[simp] theorem addTT02 {y z : D} : addD (.tup []) (.tup [y, z]) = some (.tup [y, z]) := rfl
theorem m_cut_at (s : Scene) (p : Bool) (x : Row) : f_cut_at [scD L s, plD p, rowD L x] = some (scD L (cutAt s p x), false) := by
  obtain ⟨age, rows, thr⟩ := s
  unfold f_cut_at b_cut_at
  cases p <;> cases rows <;> cases thr <;> simp [plD, thrD, rowsL, cutAt, scD, isN_i]
theorem m_law_cut (s : Scene) (p : Bool) (x : Row) : f_law_cut [scD L s, plD p, rowD L x] = some (scD L (cutAt s p x), false) := by
  obtain ⟨age, rows, thr⟩ := s
  unfold f_law_cut b_law_cut
  cases p <;> cases rows <;> cases thr <;> simp [plD, thrD, rowsL, cutAt, scD, isN_i]
@[simp] theorem ix_p {xs : List D} {p : Bool} : ixD (.tup xs) (plD p) = xs[if p then 1 else 0]? := by cases p <;> simp [plD]
def rowAt (s : Scene) (p : Bool) : Row := match s.rows with
  | .one x => x
  | .two y x => if p then x else y
/-- the place is there -/
def has (s : Scene) (p : Bool) : Prop := p = true → ∃ y x, s.rows = .two y x
theorem rows_at {s : Scene} {p : Bool} (h : has s p) : (rowsL L s.rows)[if p then 1 else 0]? = some (rowD L (rowAt s p)) := by
  unfold rowAt
  cases p with
  | false => cases s.rows <;> rfl
  | true =>
    obtain ⟨y, x, e⟩ := h rfl
    rw [e]
    rfl
def comeAt (r : Rule) (s : Scene) (p who back : Bool) : Scene := cutAt s p ⟨some who, who, ((rowAt s p).num + (if back then 0 else 1)) % r.marks, 0, .none⟩
theorem row_lit {w l : Bool} {n o : Int} : D.tup [whoD L w, whoD L l, .int n, .int o, .str "none"] = rowD L ⟨some w, l, n, o, .none⟩ := rfl
theorem m_come_at {p who back : Bool} (h : has s p) : f_come_at [ruleD r, scD L s, plD p, whoD L who, .bl back] = some (scD L (comeAt r s p who back), false) := by
  unfold f_come_at b_come_at comeAt
  simp only [fnOf_ev, dSeq_ev, dSet_ev, dOp_ev, dPk_ev, dC_ev, dF1_ev, dBv_ev, dNot_ev, dTest_ev, dVar_ev]
  simp [rows_at h, r.pos, row_lit, m_cut_at]
  cases back <;> simp
theorem m_law_come_in {p who back : Bool} (h : has s p) : f_law_come_in [ruleD r, scD L s, plD p, whoD L who, .bl back] = some (scD L (comeAt r s p who back), false) := by
  unfold f_law_come_in b_law_come_in comeAt
  simp [rows_at h, r.pos, row_lit, m_law_cut]
  cases back <;> simp
theorem row_n {l : Bool} {n o : Int} : D.tup [.non, whoD L l, .int n, .int o, .str "none"] = rowD L ⟨none, l, n, o, .none⟩ := rfl
theorem row_x {l : Bool} {n o : Int} : D.tup [.non, whoD L l, .int n, .int o, .str "next"] = rowD L ⟨none, l, n, o, .next⟩ := rfl
theorem row_o {l : Bool} {n o : Int} : D.tup [.non, whoD L l, .int n, .int o, .str "off"] = rowD L ⟨none, l, n, o, .off⟩ := rfl
@[simp] theorem wD_some {w : Bool} : wD L (some w) = whoD L w := rfl
@[simp] theorem wD_none : wD L none = .non := rfl
/-! oldest -/
@[simp] theorem wipeR_nil : wipeR ρ [] = ρ := rfl
@[simp] theorem wipeR_cons {i : Nat} {vs : List Nat} : wipeR ρ (i :: vs) = (wipeR ρ vs).set i .un := rfl
@[simp] theorem dLc_ev {src : DA} {tg : DT} {c : DB} {el : DV} {vs : List Nat} : dLc src tg c el vs ρ = (src ρ).bind fun ds => (loopC tg c el vs ds [] ρ).map fun l => (.lst l, true) := rfl
@[simp] theorem loopC_nil {tg : DT} {c : DB} {el : DV} {vs : List Nat} {acc : List D} : loopC tg c el vs [] acc ρ = some acc := rfl
@[simp] theorem loopC_cons {tg : DT} {c : DB} {el : DV} {vs : List Nat} {acc ds : List D} {d : D} : loopC tg c el vs (d :: ds) acc ρ = (tg d (wipeR ρ vs)).bind fun ρ1 => (c ρ1).bind fun b =>
    if b = true then (el ρ1).bind fun y => if ok acc.length then loopC tg c el vs ds (acc ++ [y]) ρ else none
    else loopC tg c el vs ds acc ρ := rfl
def oldest (r : Rule) : Int := (maxI (0 :: (r.wait.toList ++ r.fwd.toList))).getD 0
theorem m_oldest : f_oldest [ruleD r] = some (.int (oldest r), false) := by
  unfold f_oldest b_oldest oldest
  cases h : r.wait <;> cases h2 : r.fwd <;> simp [h, h2, optD, maxD, intL, maxI, dYes]
@[simp] theorem sl_r2 : slT (ruleD r) none (some 2) = some (.tup [optD r.wait, optD r.fwd]) := rfl
theorem m_law_top : f_law_top [ruleD r] = some (.int (oldest r), false) := by
  unfold f_law_top b_law_top oldest
  cases h : r.wait <;> cases h2 : r.fwd <;> simp [h, h2, optD, maxD, intL, maxI, dYes]
/-! renamed -/
def renamed (r : Rule) (s : Scene) : Scene :=
  let x := s.rows.top
  let w := x.who.getD false
  match s.rows with
  | .one _ => if x.num = 0 ∧ r.fwd ≠ some 0 ∧ r.hops = true then ⟨s.age, .two ⟨none, w, x.num, 0, .next⟩ ⟨some w, w, 0, 0, .none⟩, if s.thr = .p0 then .p1 else s.thr⟩
    else ⟨s.age, .one ⟨none, w, x.num, 0, .off⟩, if s.thr = .p0 then .out else s.thr⟩
  | .two y _ => ⟨s.age, .two y ⟨none, w, x.num, 0, .off⟩, if s.thr = .p1 then .out else s.thr⟩
@[simp] theorem leHop : leD (.int k) (hopD b) = some (decide (k ≤ if b then 1 else 0)) := rfl
theorem fwd3 (r : Rule) : r.fwd = none ∨ r.fwd = some 0 ∨ ∃ f, r.fwd = some f ∧ f ≠ 0 := by
  cases h : r.fwd with
  | none => exact .inl rfl
  | some f =>
    by_cases hf : f = 0
    · exact .inr (.inl (by rw [hf]))
    · exact .inr (.inr ⟨f, rfl, hf⟩)
theorem m_renamed {w : Bool} (h : s.rows.top.who = some w) : f_renamed [ruleD r, scD L s] = some (scD L (renamed r s), false) := by
  obtain ⟨age, rows, thr⟩ := s
  unfold f_renamed b_renamed renamed
  cases rows with
  | one x =>
    obtain ⟨who, last, num, old, fw⟩ := x
    have h' : who = some w := h
    subst h'
    rcases fwd3 r with h2 | h2 | ⟨f, h2, hf⟩
    · by_cases h1 : num = 0 <;> cases h3 : r.hops <;> cases thr <;> simp [rowsL, thrD, scD, h1, h2, h3, Rows.top, optD, row_lit, row_n, row_x, row_o]
    · by_cases h1 : num = 0 <;> cases h3 : r.hops <;> cases thr <;> simp [rowsL, thrD, scD, h1, h2, h3, Rows.top, optD, row_lit, row_n, row_x, row_o]
    · by_cases h1 : num = 0 <;> cases h3 : r.hops <;> cases thr <;> simp [rowsL, thrD, scD, h1, h2, h3, hf, Rows.top, optD, row_lit, row_n, row_x, row_o]
  | two y x =>
    obtain ⟨who, last, num, old, fw⟩ := x
    have h' : who = some w := h
    subst h'
    rcases fwd3 r with h2 | h2 | ⟨f, h2, hf⟩
    · by_cases h1 : num = 0 <;> cases h3 : r.hops <;> cases thr <;> simp [rowsL, thrD, scD, h1, h2, h3, Rows.top, optD, row_lit, row_n, row_x, row_o]
    · by_cases h1 : num = 0 <;> cases h3 : r.hops <;> cases thr <;> simp [rowsL, thrD, scD, h1, h2, h3, Rows.top, optD, row_lit, row_n, row_x, row_o]
    · by_cases h1 : num = 0 <;> cases h3 : r.hops <;> cases thr <;> simp [rowsL, thrD, scD, h1, h2, h3, hf, Rows.top, optD, row_lit, row_n, row_x, row_o]
end
end NW

/-! Ageing; what comes, what leaves, copies. -/
namespace NW
open PySem PySem.Spec L2
section
variable {r : Rule} {L : Lab} {x : Row} {s : Scene} {is : List Nat} {ρ : Ro} {a b : Bool} {o : Option Int} {k : Int}
theorem m_law_new_name {w : Bool} (h : s.rows.top.who = some w) : f_law_new_name [ruleD r, scD L s] = some (scD L (renamed r s), false) := by
  obtain ⟨age, rows, thr⟩ := s
  unfold f_law_new_name b_law_new_name renamed
  cases rows with
  | one x =>
    obtain ⟨who, last, num, old, fw⟩ := x
    have h' : who = some w := h
    subst h'
    rcases fwd3 r with h2 | h2 | ⟨f, h2, hf⟩
    · by_cases h1 : num = 0 <;> cases h3 : r.hops <;> cases thr <;> simp [rowsL, thrD, scD, h1, h2, h3, Rows.top, optD, row_lit, row_n, row_x, row_o, gtD, hopD]
    · by_cases h1 : num = 0 <;> cases h3 : r.hops <;> cases thr <;> simp [rowsL, thrD, scD, h1, h2, h3, Rows.top, optD, row_lit, row_n, row_x, row_o, gtD, hopD]
    · by_cases h1 : num = 0 <;> cases h3 : r.hops <;> cases thr <;> simp [rowsL, thrD, scD, h1, h2, h3, hf, Rows.top, optD, row_lit, row_n, row_x, row_o, gtD, hopD]
  | two y x =>
    obtain ⟨who, last, num, old, fw⟩ := x
    have h' : who = some w := h
    subst h'
    rcases fwd3 r with h2 | h2 | ⟨f, h2, hf⟩
    · by_cases h1 : num = 0 <;> cases h3 : r.hops <;> cases thr <;> simp [rowsL, thrD, scD, h1, h2, h3, Rows.top, optD, row_lit, row_n, row_x, row_o, gtD, hopD]
    · by_cases h1 : num = 0 <;> cases h3 : r.hops <;> cases thr <;> simp [rowsL, thrD, scD, h1, h2, h3, Rows.top, optD, row_lit, row_n, row_x, row_o, gtD, hopD]
    · by_cases h1 : num = 0 <;> cases h3 : r.hops <;> cases thr <;> simp [rowsL, thrD, scD, h1, h2, h3, hf, Rows.top, optD, row_lit, row_n, row_x, row_o, gtD, hopD]
end
end NW

/-! Ageing; what comes, what leaves, copies. -/
namespace NW
open PySem PySem.Spec L2
section
variable {r : Rule} {L : Lab} {x : Row} {s : Scene} {is : List Nat} {ρ : Ro} {a b : Bool} {o : Option Int} {k : Int}
/-! ageing -/
def agedRow (r : Rule) (x : Row) : Row := ⟨x.who, x.last, x.num, if oldest r < x.old + (if x.who = none then 1 else 0) then oldest r else x.old + (if x.who = none then 1 else 0), x.fw⟩
def unled (x : Row) : Row := ⟨x.who, x.last, x.num, x.old, .off⟩
def lapsed (r : Rule) (x : Row) : Bool := decide (x.fw = .next) && !fine r x
def agedRows (r : Rule) : Rows → Rows
  | .one x => .one (agedRow r x)
  | .two y x => .two (agedRow r y) (agedRow r x)
def aged (r : Rule) (s : Scene) : Scene :=
  let found : Scene := ⟨if r.life = none then 0 else s.age + 1, agedRows r s.rows, s.thr⟩
  match found.rows with
  | .one x => if lapsed r x then cutAt found false (unled x) else found
  | .two y x => if lapsed r y then cutAt found false (unled y) else if lapsed r x then cutAt found true (unled x) else found
theorem row_g {w : Option Bool} {l : Bool} {n o : Int} {f : Fw} : D.tup [wD L w, whoD L l, .int n, .int o, fwD f] = rowD L ⟨w, l, n, o, f⟩ := rfl
theorem row_go {w : Option Bool} {l : Bool} {n o : Int} : D.tup [wD L w, whoD L l, .int n, .int o, .str "off"] = rowD L ⟨w, l, n, o, .off⟩ := rfl
@[simp] theorem sl_row : slT (rowD L x) none (some 4) = some (.tup [wD L x.who, whoD L x.last, .int x.num, .int x.old]) := rfl
@[simp] theorem add41 {a b c d e : D} : addD (.tup [a, b, c, d]) (.tup [e]) = some (.tup [a, b, c, d, e]) := rfl
@[simp] theorem appS_0 {i : Nat} {y : D} : appS i ρ y (.own (.lst [])) = some (.nx (ρ.set i (.own (.lst [y])))) := rfl
@[simp] theorem appS_1 {i : Nat} {y z : D} : appS i ρ y (.own (.lst [z])) = some (.nx (ρ.set i (.own (.lst [z, y])))) := rfl
@[simp] theorem enum1 {y : D} : enumD 0 [y] = [.tup [plD false, y]] := rfl
@[simp] theorem enum2 {y z : D} : enumD 0 [y, z] = [.tup [plD false, y], .tup [plD true, z]] := rfl
theorem sc_lit1 {a : Int} {x : Row} {t : Thr} : D.tup [.int a, .tup [rowD L x], thrD t] = scD L ⟨a, .one x, t⟩ := rfl
theorem sc_lit2 {a : Int} {y x : Row} {t : Thr} : D.tup [.int a, .tup [rowD L y, rowD L x], thrD t] = scD L ⟨a, .two y x, t⟩ := rfl
theorem m_aged : f_aged [ruleD r, scD L s] = some (scD L (aged r s), false) := by
  obtain ⟨age, rows, thr⟩ := s
  unfold f_aged b_aged l_aged_1 l_aged_2
  have e : ∀ x, agedRow r x = ⟨x.who, x.last, x.num, if oldest r < x.old + (if x.who = none then 1 else 0) then oldest r else x.old + (if x.who = none then 1 else 0), x.fw⟩ := fun _ => rfl
  cases rows with
  | one x =>
    cases hl : r.life with
    | none =>
      simp [rowsL, m_oldest, row_g, ← e, hl, optD, sc_lit1, m_is_fine]
      by_cases h1 : (agedRow r x).fw = .next <;> cases h2 : fine r (agedRow r x) <;> simp [h1, h2, row_go, m_cut_at, aged, agedRows, lapsed, hl, unled]
    | some l =>
      simp [rowsL, m_oldest, row_g, ← e, hl, optD, sc_lit1, m_is_fine]
      by_cases h1 : (agedRow r x).fw = .next <;> cases h2 : fine r (agedRow r x) <;> simp [h1, h2, row_go, m_cut_at, aged, agedRows, lapsed, hl, unled]
  | two y x =>
    cases hl : r.life with
    | none =>
      simp [rowsL, m_oldest, row_g, ← e, hl, optD, sc_lit2, m_is_fine]
      by_cases h1 : (agedRow r y).fw = .next <;> cases h2 : fine r (agedRow r y) <;> by_cases h3 : (agedRow r x).fw = .next <;> cases h4 : fine r (agedRow r x) <;> simp [h1, h2, h3, h4, row_go, m_cut_at, aged, agedRows, lapsed, hl, unled, m_is_fine]
    | some l =>
      simp [rowsL, m_oldest, row_g, ← e, hl, optD, sc_lit2, m_is_fine]
      by_cases h1 : (agedRow r y).fw = .next <;> cases h2 : fine r (agedRow r y) <;> by_cases h3 : (agedRow r x).fw = .next <;> cases h4 : fine r (agedRow r x) <;> simp [h1, h2, h3, h4, row_go, m_cut_at, aged, agedRows, lapsed, hl, unled, m_is_fine]
@[simp] theorem rngS_ev {d : DV} {i : Int} (h : d ρ = some (.int i)) : rngS d ρ = if 0 ≤ i ∧ i ≤ 100000 then some (rngD i.toNat) else none := by
  unfold rngS
  rw [h]
  by_cases h1 : 0 ≤ i <;> by_cases h2 : i ≤ 100000 <;> simp [h1, h2]
@[simp] theorem rng1 : rngD 1 = [plD false] := rfl
@[simp] theorem rng2 : rngD 2 = [plD false, plD true] := rfl
@[simp] theorem ix_lp {xs : List D} {p : Bool} : ixD (.lst xs) (plD p) = xs[if p then 1 else 0]? := by cases p <;> simp [plD]
theorem m_law_older : f_law_older [ruleD r, scD L s] = some (scD L (aged r s), false) := by
  obtain ⟨age, rows, thr⟩ := s
  unfold f_law_older b_law_older l_law_older_1 l_law_older_2
  have e : ∀ x, agedRow r x = ⟨x.who, x.last, x.num, if oldest r < x.old + (if x.who = none then 1 else 0) then oldest r else x.old + (if x.who = none then 1 else 0), x.fw⟩ := fun _ => rfl
  cases rows with
  | one x =>
    cases hl : r.life with
    | none =>
      simp [rowsL, m_law_top, row_g, ← e, hl, optD, sc_lit1, m_law_fine, rngS]
      by_cases h1 : (agedRow r x).fw = .next <;> cases h2 : fine r (agedRow r x) <;> simp [h1, h2, row_go, m_law_cut, aged, agedRows, lapsed, hl, unled]
    | some l =>
      simp [rowsL, m_law_top, row_g, ← e, hl, optD, sc_lit1, m_law_fine, rngS]
      by_cases h1 : (agedRow r x).fw = .next <;> cases h2 : fine r (agedRow r x) <;> simp [h1, h2, row_go, m_law_cut, aged, agedRows, lapsed, hl, unled]
  | two y x =>
    cases hl : r.life with
    | none =>
      simp [rowsL, m_law_top, row_g, ← e, hl, optD, sc_lit2, m_law_fine, rngS]
      by_cases h1 : (agedRow r y).fw = .next <;> cases h2 : fine r (agedRow r y) <;> by_cases h3 : (agedRow r x).fw = .next <;> cases h4 : fine r (agedRow r x) <;> simp [h1, h2, h3, h4, row_go, m_law_cut, aged, agedRows, lapsed, hl, unled, m_law_fine]
    | some l =>
      simp [rowsL, m_law_top, row_g, ← e, hl, optD, sc_lit2, m_law_fine, rngS]
      by_cases h1 : (agedRow r y).fw = .next <;> cases h2 : fine r (agedRow r y) <;> by_cases h3 : (agedRow r x).fw = .next <;> cases h4 : fine r (agedRow r x) <;> simp [h1, h2, h3, h4, row_go, m_law_cut, aged, agedRows, lapsed, hl, unled, m_law_fine]
end
end NW

/-! What comes, what leaves, copies: the program's moves. -/
namespace NW
open PySem PySem.Spec L2
inductive Ev where
  | tick | copy | take (w back p : Bool) | chg (t : Thr) (p : Bool) | give (p : Bool) | new (p : Bool) | pass (p to : Bool)
  deriving DecidableEq
def evD : Ev → D
  | .tick => .tup [.str "tick"]
  | .copy => .tup [.str "copy"]
  | .take w b p => .tup [.str "take", whoD LP w, .bl b, plD p]
  | .chg t p => .tup [.str "change", thrD t, plD p]
  | .give p => .tup [.str "give", plD p]
  | .new p => .tup [.str "change", plD p, .str "new"]
  | .pass p t => .tup [.str "pass", plD p, whoD LP t]
abbrev Mv := Ev × Scene
def mvD (z : Mv) : D := .tup [evD z.1, scD LP z.2]
def mvsD (l : List Mv) : List D := l.map mvD
theorem mvs_app {a b : List Mv} : mvsD (a ++ b) = mvsD a ++ mvsD b := List.map_append
@[simp] theorem mvs_one {z : Mv} : mvsD [z] = [mvD z] := rfl
@[simp] theorem mvs_nil : mvsD [] = [] := rfl
theorem mvs_len {a : List Mv} : (mvsD a).length = a.length := List.length_map ..
theorem foldl_app {α β : Type} (f : α → List β) : ∀ (xs : List α) (b : List β), xs.foldl (fun b w => b ++ f w) b = b ++ xs.flatMap f
  | [], b => by simp
  | x :: xs, b => by simp [foldl_app f xs]
section
variable {r : Rule} {s : Scene} {is : List Nat} {ρ : Ro} {a b : Bool} {o : Option Int} {k : Int} {p : Bool} {acc : List Mv}
def pairs4 : List (Bool × Bool) := [(true, true), (true, false), (false, true), (false, false)]
def takeIf (r : Rule) (s : Scene) (p : Bool) (w : Bool × Bool) : List Mv := if mayCome r (rowAt s p) w.1 w.2 then [(.take w.1 w.2 p, comeAt r s p w.1 w.2)] else []
theorem takeIf_len {w : Bool × Bool} : (takeIf r s p w).length ≤ 1 := by unfold takeIf; split <;> simp
theorem app_own {i : Nat} {y : D} (h : acc.length < 1000) : appS i ρ y (.own (.lst (mvsD acc))) = some (.nx (ρ.set i (.own (.lst (mvsD acc ++ [y]))))) := appS_own (by rw [mvs_len]; omega)
theorem take_one {w : Bool × Bool} {a6 a11 : Slot} (h : has s p) (hl : acc.length < 1000) :
    l_comings_1 [.val (ruleD r), .val (scD LP s), .val (.int s.age), .val (.tup (rowsL LP s.rows)), .val (thrD s.thr), .own (.lst (mvsD acc)), a6, .val (plD p), .val (rowD LP (rowAt s p)), .val (whoD LP w.1), .val (.bl w.2), a11] =
    some (.nx [.val (ruleD r), .val (scD LP s), .val (.int s.age), .val (.tup (rowsL LP s.rows)), .val (thrD s.thr), .own (.lst (mvsD (acc ++ takeIf r s p w))), a6, .val (plD p), .val (rowD LP (rowAt s p)), .val (whoD LP w.1), .val (.bl w.2), a11]) := by
  unfold l_comings_1 takeIf
  cases hm : mayCome r (rowAt s p) w.1 w.2 <;> simp [hm, m_may_come, m_come_at h, app_own hl, mvs_app, mvs_one, mvD, evD]
theorem takes_all {a6 a9 a10 a11 : Slot} (h : has s p) (hl : acc.length < 900) : ∃ c9 c10,
    loopF (tgT [9, 10]) l_comings_1 [.tup [.str "mine", .bl true], .tup [.str "mine", .bl false], .tup [.str "theirs", .bl true], .tup [.str "theirs", .bl false]] [.val (ruleD r), .val (scD LP s), .val (.int s.age), .val (.tup (rowsL LP s.rows)), .val (thrD s.thr), .own (.lst (mvsD acc)), a6, .val (plD p), .val (rowD LP (rowAt s p)), a9, a10, a11] =
    some (.nx [.val (ruleD r), .val (scD LP s), .val (.int s.age), .val (.tup (rowsL LP s.rows)), .val (thrD s.thr), .own (.lst (mvsD (acc ++ pairs4.flatMap (takeIf r s p)))), a6, .val (plD p), .val (rowD LP (rowAt s p)), c9, c10, a11]) := by
  obtain ⟨ρ', h1, h2, b9, b10, h3⟩ := loopF_ix (enc := fun w : Bool × Bool => D.tup [whoD LP w.1, .bl w.2]) (tg := tgT [9, 10]) (body := l_comings_1) (xs := pairs4) (b := acc) (k := 0) (step := fun b w => b ++ takeIf r s p w)
    (R := fun i b ρ => b.length ≤ acc.length + i ∧ ∃ a9 a10, ρ = [.val (ruleD r), .val (scD LP s), .val (.int s.age), .val (.tup (rowsL LP s.rows)), .val (thrD s.thr), .own (.lst (mvsD b)), a6, .val (plD p), .val (rowD LP (rowAt s p)), a9, a10, a11])
    (fun i b ρ w hw ⟨hb, b9, b10, e⟩ => by
      have hi : i < 4 := (List.getElem?_eq_some_iff.mp hw).1
      subst e
      refine ⟨_, _, by simp only [tgT_ev, setAll_cons, setAll_nil]; rfl, .inl (take_one h (by omega)), ?_, _, _, rfl⟩
      have := takeIf_len (r := r) (s := s) (p := p) (w := w)
      rw [List.length_append]
      omega) ⟨by omega, a9, a10, rfl⟩
  rw [foldl_app] at h3
  exact ⟨b9, b10, by rw [h3] at h1; exact h1⟩
def thrOf (p : Bool) : Thr := if p then .p1 else .p0
theorem thr_of : plD p = thrD (thrOf p) := by cases p <;> rfl
def topP (s : Scene) : Bool := match s.rows with
  | .one _ => false
  | .two _ _ => true
def chgOk (s : Scene) (p : Bool) : Bool := decide (s.thr = .out) || (decide (s.thr = .p1) && topP s && !p)
def chgAt (r : Rule) (s : Scene) (p : Bool) : List Mv :=
  if mayCome r (rowAt s p) true (rowAt s p).last && chgOk s p then [(.chg s.thr p, ⟨(comeAt r s p true (rowAt s p).last).age, (comeAt r s p true (rowAt s p).last).rows, thrOf p⟩)] else []
def comesAt (r : Rule) (s : Scene) (p : Bool) : List Mv := if (rowAt s p).who = none then pairs4.flatMap (takeIf r s p) ++ chgAt r s p else []
theorem flat_len : (pairs4.flatMap (takeIf r s p)).length ≤ 4 := by
  have := fun w => takeIf_len (r := r) (s := s) (p := p) (w := w)
  simp only [pairs4, List.flatMap_cons, List.flatMap_nil, List.length_append, List.length_nil]
  have h1 := this (true, true)
  have h2 := this (true, false)
  have h3 := this (false, true)
  have h4 := this (false, false)
  omega
theorem chg_len : (chgAt r s p).length ≤ 1 := by unfold chgAt; split <;> simp
theorem comes_len : (comesAt r s p).length ≤ 5 := by
  unfold comesAt
  have h1 := flat_len (r := r) (s := s) (p := p)
  have h2 := chg_len (r := r) (s := s) (p := p)
  split
  · rw [List.length_append]; omega
  · simp
theorem mine_who : D.str "mine" = whoD LP true := rfl
@[simp] theorem eqThrP {t : Thr} {q : Bool} : eqD (thrD t) (plD q) = some (decide (t = thrOf q)) := by
  cases t <;> cases q <;> simp [thrD, plD, thrOf]
@[simp] theorem ltPl {q q' : Bool} : ltD (plD q) (plD q') = some (!q && q') := by cases q <;> cases q' <;> rfl
theorem sc_of {s : Scene} {t : Thr} {L : Lab} : D.tup [.int s.age, .tup (rowsL L s.rows), thrD t] = scD L ⟨s.age, s.rows, t⟩ := rfl
theorem comes_one {a9 a10 a11 : Slot} (h : has s p) (hl : acc.length < 800) : ∃ c9 c10 c11,
    l_comings_2 [.val (ruleD r), .val (scD LP s), .val (.int s.age), .val (.tup (rowsL LP s.rows)), .val (thrD s.thr), .own (.lst (mvsD acc)), .val (plD (topP s)), .val (plD p), .val (rowD LP (rowAt s p)), a9, a10, a11] = some (.nx [.val (ruleD r), .val (scD LP s), .val (.int s.age), .val (.tup (rowsL LP s.rows)), .val (thrD s.thr), .own (.lst (mvsD (acc ++ comesAt r s p))), .val (plD (topP s)), .val (plD p), .val (rowD LP (rowAt s p)), c9, c10, c11]) ∨
    l_comings_2 [.val (ruleD r), .val (scD LP s), .val (.int s.age), .val (.tup (rowsL LP s.rows)), .val (thrD s.thr), .own (.lst (mvsD acc)), .val (plD (topP s)), .val (plD p), .val (rowD LP (rowAt s p)), a9, a10, a11] = some (.ct [.val (ruleD r), .val (scD LP s), .val (.int s.age), .val (.tup (rowsL LP s.rows)), .val (thrD s.thr), .own (.lst (mvsD (acc ++ comesAt r s p))), .val (plD (topP s)), .val (plD p), .val (rowD LP (rowAt s p)), c9, c10, c11]) := by
  unfold l_comings_2 comesAt
  by_cases hw : (rowAt s p).who = none
  · obtain ⟨b9, b10, ht⟩ := takes_all (r := r) (a6 := .val (plD (topP s))) (a9 := a9) (a10 := a10) (a11 := a11) h (acc := acc) (by omega)
    have hl2 : (acc ++ pairs4.flatMap (takeIf r s p)).length < 1000 := by
      have := flat_len (r := r) (s := s) (p := p)
      rw [List.length_append]
      omega
    have hmay := m_may_come r (rowAt s p) true (rowAt s p).last
    unfold chgAt
    unfold chgOk
    have sc_pl : ∀ s' : Scene, D.tup [.int s'.age, .tup (rowsL LP s'.rows), plD p] = scD LP ⟨s'.age, s'.rows, thrOf p⟩ := fun s' => by rw [thr_of]; rfl
    rw [if_pos hw]
    simp only [← List.append_assoc]
    generalize acc ++ pairs4.flatMap (takeIf r s p) = acc2 at *
    cases hm : mayCome r (rowAt s p) true (rowAt s p).last
    · refine ⟨b9, .val (.bl (rowAt s p).last), a11, .inl ?_⟩
      simp [-loopF_cons, hw, ht]
      simp [mine_who, hmay, hm]
    · by_cases h1 : s.thr = .out
      · refine ⟨b9, .val (.bl (rowAt s p).last), .val (scD LP (comeAt r s p true (rowAt s p).last)), .inl ?_⟩
        simp [-loopF_cons, hw, ht]
        simp [mine_who, hmay, hm, h1, m_come_at h, app_own hl2, mvs_app, mvD, evD, sc_pl]
      · by_cases h2 : s.thr = .p1 ∧ topP s = true ∧ p = false
        · obtain ⟨h2, h3, h4⟩ := h2
          refine ⟨b9, .val (.bl (rowAt s p).last), .val (scD LP (comeAt r s p true (rowAt s p).last)), .inl ?_⟩
          simp [-loopF_cons, hw, ht]
          subst h4
          simp [mine_who, hmay, hm, h1, h2, h3, m_come_at h, app_own hl2, mvs_app, mvD, evD, sc_pl, thrOf]
        · refine ⟨b9, .val (.bl (rowAt s p).last), a11, .inl ?_⟩
          simp [-loopF_cons, hw, ht]
          have h3 : (decide (s.thr = thrOf (topP s)) && (!p && topP s)) = false := by
            cases ht : topP s <;> cases hp : p <;> simp [thrOf]
            intro h5
            exact h2 ⟨h5, ht, hp⟩
          have h4 : (decide (s.thr = .out) || decide (s.thr = .p1) && topP s && !p) = false := by
            cases ht : topP s <;> cases hp : p <;> simp [h1]
            intro h5
            exact h2 ⟨h5, ht, hp⟩
          have h7 : ¬ ((s.thr = .p1 ∧ topP s = true) ∧ p = false) := fun ⟨⟨a, b⟩, c⟩ => h2 ⟨a, b, c⟩
          by_cases h5 : s.thr = thrOf (topP s)
          · cases hT : topP s with
            | false => simp [mine_who, hmay, hm, h5, hT, thrOf]
            | true =>
              have hp : p = true := by
                cases p with
                | true => rfl
                | false => exact absurd ⟨⟨by rw [h5, hT]; rfl, hT⟩, rfl⟩ h7
              subst hp
              simp [mine_who, hmay, hm, h5, hT, thrOf]
          · simp [mine_who, hmay, hm, h1, h5, h7]
  · refine ⟨a9, a10, a11, .inr ?_⟩
    simp [hw]
end
end NW

/-! All that comes; what leaves; copies; the steps. -/
namespace NW
open PySem PySem.Spec L2
section
variable {r : Rule} {s : Scene} {is : List Nat} {ρ : Ro} {a b : Bool} {o : Option Int} {k : Int} {p : Bool} {acc : List Mv}
def comings (r : Rule) (s : Scene) : List Mv := match s.rows with
  | .one _ => comesAt r s false
  | .two _ _ => comesAt r s false ++ comesAt r s true
theorem m_comings : f_comings [ruleD r, scD LP s] = some (.lst (mvsD (comings r s)), true) := by
  unfold f_comings b_comings
  obtain ⟨age, rows, thr⟩ := s
  cases rows with
  | one x =>
    obtain ⟨c9, c10, c11, e⟩ := comes_one (r := r) (s := ⟨age, .one x, thr⟩) (p := false) (acc := []) (a9 := .un) (a10 := .un) (a11 := .un) (fun z => nomatch z) (by simp)
    simp [rowsL, rowAt, topP, plD] at e
    rcases e with e | e <;> simp [rowsL, e, comings, plD]
  | two y x =>
    obtain ⟨c9, c10, c11, e⟩ := comes_one (r := r) (s := ⟨age, .two y x, thr⟩) (p := false) (acc := []) (a9 := .un) (a10 := .un) (a11 := .un) (fun z => nomatch z) (by simp)
    obtain ⟨d9, d10, d11, e2⟩ := comes_one (r := r) (s := ⟨age, .two y x, thr⟩) (p := true) (acc := comesAt r ⟨age, .two y x, thr⟩ false) (a9 := c9) (a10 := c10) (a11 := c11) (fun _ => ⟨y, x, rfl⟩) (by have := comes_len (r := r) (s := ⟨age, .two y x, thr⟩) (p := false); omega)
    simp [rowsL, rowAt, topP, plD] at e e2
    rcases e with e | e <;> rcases e2 with e2 | e2 <;> simp [rowsL, e, e2, comings, plD]
/-! what leaves -/
def putTop (s : Scene) (x : Row) : Rows := match s.rows with
  | .one _ => .one x
  | .two y _ => .two y x
def less (s : Scene) : Thr := if s.thr = thrOf (topP s) then .no else s.thr
def passOne (r : Rule) (s : Scene) (w to : Bool) : List Mv := if w = true ∧ to = true then [] else
  [(.pass (topP s) to, ⟨s.age, putTop s ⟨some to, to, (s.rows.top.num + (if r.pg = .counted then 1 else 0)) % r.marks, 0, .none⟩, less s⟩)]
def leavings (r : Rule) (s : Scene) : List Mv := match s.rows.top.who with
  | none => []
  | some w => [(.give (topP s), ⟨s.age, putTop s ⟨none, w, s.rows.top.num, 0, .none⟩, less s⟩), (.new (topP s), renamed r s)] ++
    (if r.pg = .no then [] else passOne r s w true ++ passOne r s w false)
@[simp] theorem eq_2w {a b : Bool} : eqD (.tup [whoD LP a, whoD LP b]) (.tup [.str "mine", .str "mine"]) = some (a && b) := by cases a <;> cases b <;> decide +kernel
@[simp] theorem appS_2 {i : Nat} {y z u : D} : appS i ρ y (.own (.lst [z, u])) = some (.nx (ρ.set i (.own (.lst [z, u, y])))) := rfl
@[simp] theorem appS_3 {i : Nat} {y z u v : D} : appS i ρ y (.own (.lst [z, u, v])) = some (.nx (ρ.set i (.own (.lst [z, u, v, y])))) := rfl
theorem sc_n1 {a : Int} {x : Row} {L : Lab} : D.tup [.int a, .tup [rowD L x], .non] = scD L ⟨a, .one x, .no⟩ := rfl
theorem sc_n2 {a : Int} {y x : Row} {L : Lab} : D.tup [.int a, .tup [rowD L y, rowD L x], .non] = scD L ⟨a, .two y x, .no⟩ := rfl
@[simp] theorem isN_wb {L : Lab} {a : Bool} : (whoD L a).isN = false := by cases a <;> rfl
@[simp] theorem eq_2ww {a b c d : Bool} : eqD (.tup [whoD LP a, whoD LP b]) (.tup [whoD LP c, whoD LP d]) = some (decide (a = c) && decide (b = d)) := by cases a <;> cases b <;> cases c <;> cases d <;> decide +kernel
theorem theirs_who : D.str "theirs" = whoD LP false := rfl
theorem m_leavings : f_leavings [ruleD r, scD LP s] = some (.lst (mvsD (leavings r s)), true) := by
  have hr := fun w h => m_renamed (r := r) (L := LP) (s := s) (w := w) h
  obtain ⟨age, rows, thr⟩ := s
  unfold f_leavings b_leavings l_leavings_1 leavings
  cases rows with
  | one x =>
    obtain ⟨who, last, num, old, fw⟩ := x
    cases who with
    | none => simp [rowsL, Rows.top]
    | some w =>
      have hr := hr w rfl
      by_cases ht : thr = .p0
      · subst ht
        cases hp : r.pg <;> cases w <;> simp [rowsL, hp, mvsD, mvD, evD, Rows.top, topP, less, thrOf, putTop, passOne, hr, row_n, sc_lit1, sc_n1, r.pos, mine_who, theirs_who, row_lit, plD]
      · cases hp : r.pg <;> cases w <;> simp [rowsL, hp, mvsD, mvD, evD, Rows.top, topP, ht, less, thrOf, putTop, passOne, hr, row_n, sc_lit1, sc_n1, r.pos, mine_who, theirs_who, row_lit, plD]
  | two y x =>
    obtain ⟨who, last, num, old, fw⟩ := x
    cases who with
    | none => simp [rowsL, Rows.top]
    | some w =>
      have hr := hr w rfl
      by_cases ht : thr = .p1
      · subst ht
        cases hp : r.pg <;> cases w <;> simp [rowsL, hp, mvsD, mvD, evD, Rows.top, topP, less, thrOf, putTop, passOne, hr, row_n, sc_lit2, sc_n2, r.pos, mine_who, theirs_who, row_lit, plD]
      · cases hp : r.pg <;> cases w <;> simp [rowsL, hp, mvsD, mvD, evD, Rows.top, topP, ht, less, thrOf, putTop, passOne, hr, row_n, sc_lit2, sc_n2, r.pos, mine_who, theirs_who, row_lit, plD]
def copies (r : Rule) (s : Scene) : List Mv :=
  if r.cp = .same then [(.copy, ⟨0, s.rows, s.thr⟩)] else
  if r.cp = .anew ∧ s.rows.top.who ≠ none ∧ s.rows.top.num = 0 then [(.copy, ⟨0, .one s.rows.top, if s.thr = .no then .no else if s.thr = thrOf (topP s) then .p0 else .out⟩)] else []
theorem m_copies : f_copies [ruleD r, scD LP s] = some (.lst (mvsD (copies r s)), true) := by
  obtain ⟨age, rows, thr⟩ := s
  unfold f_copies b_copies copies
  cases hc : r.cp with
  | no => cases rows <;> simp [rowsL, hc]
  | same => cases rows <;> simp [rowsL, hc, mvD, evD, sc_lit1, sc_lit2]
  | anew =>
    cases rows with
    | one x =>
      by_cases h1 : x.who = none <;> by_cases h2 : x.num = 0 <;> cases thr <;> simp [rowsL, hc, mvD, evD, h1, h2, Rows.top, thrD, scD, topP, thrOf]
    | two y x =>
      by_cases h1 : x.who = none <;> by_cases h2 : x.num = 0 <;> cases thr <;> simp [rowsL, hc, mvD, evD, h1, h2, Rows.top, thrD, scD, topP, thrOf]
end
end NW

/-! The steps; what a scene says. -/
namespace NW
open PySem PySem.Spec L2
theorem loopC_map {α : Type} {enc out : α → D} {pr : α → Bool} {tg : DT} {c : DB} {el : DV} {vs : List Nat} {ρ : Ro} : ∀ {xs : List α} {acc : List D},
    (∀ x ∈ xs, ∃ ρ1, tg (enc x) (wipeR ρ vs) = some ρ1 ∧ c ρ1 = some (pr x) ∧ (pr x = true → el ρ1 = some (out x))) → acc.length + xs.length ≤ 100000 →
    loopC tg c el vs (xs.map enc) acc ρ = some (acc ++ (xs.filter pr).map out)
  | [], acc, _, _ => by simp
  | x :: xs, acc, h, hl => by
    obtain ⟨ρ1, h1, h2, h3⟩ := h x List.mem_cons_self
    have ih := fun acc' hl' => loopC_map (xs := xs) (acc := acc') (fun y hy => h y (List.mem_cons_of_mem _ hy)) hl'
    rw [List.length_cons] at hl
    rw [List.map_cons, loopC_cons, h1, Option.bind_some, h2, Option.bind_some]
    cases hp : pr x with
    | false =>
      rw [if_neg (by decide), ih acc (by omega), List.filter_cons_of_neg (by simp [hp])]
    | true =>
      rw [if_pos rfl, h3 hp, Option.bind_some, if_pos (by simp; omega), ih (acc ++ [out x]) (by simp; omega), List.filter_cons_of_pos hp]
      simp
section
variable {r : Rule} {s : Scene} {is : List Nat} {ρ : Ro} {a b : Bool} {o : Option Int} {k : Int} {p : Bool} {acc : List Mv} {L : Lab}
def allSteps (r : Rule) (s : Scene) : List Mv := [(.tick, aged r s)] ++ comings r s ++ leavings r s ++ copies r s
def lifeOk (r : Rule) (t : Scene) : Bool := match r.life with
  | none => true
  | some l => decide (t.age ≤ l)
def steps (r : Rule) (s : Scene) : List Mv := (allSteps r s).filter fun z => lifeOk r z.2
theorem comings_len : (comings r s).length ≤ 10 := by
  unfold comings
  have h1 := comes_len (r := r) (s := s) (p := false)
  have h2 := comes_len (r := r) (s := s) (p := true)
  split
  · omega
  · rw [List.length_append]; omega
theorem leavings_len : (leavings r s).length ≤ 4 := by
  unfold leavings passOne
  split
  · simp
  · split
    · simp
    · split <;> split <;> simp
theorem copies_len : (copies r s).length ≤ 1 := by
  unfold copies
  split
  · simp
  · split <;> simp
theorem all_len : (allSteps r s).length ≤ 16 := by
  have h1 := comings_len (r := r) (s := s)
  have h2 := leavings_len (r := r) (s := s)
  have h3 := copies_len (r := r) (s := s)
  unfold allSteps
  simp only [List.length_append, List.length_cons, List.length_nil]
  omega
theorem m_steps_of : f_steps_of [ruleD r, scD LP s] = some (.lst (mvsD (steps r s)), true) := by
  unfold f_steps_of b_steps_of
  have h1 := comings_len (r := r) (s := s)
  have h2 := leavings_len (r := r) (s := s)
  have h3 := copies_len (r := r) (s := s)
  have e1 : (1 + (mvsD (comings r s)).length ≤ 100000) := by rw [mvs_len]; omega
  have e2 : (1 + (mvsD (comings r s)).length + (mvsD (leavings r s)).length ≤ 100000) := by rw [mvs_len, mvs_len]; omega
  have e3 : (1 + (mvsD (comings r s)).length + (mvsD (leavings r s)).length + (mvsD (copies r s)).length ≤ 100000) := by rw [mvs_len, mvs_len, mvs_len]; omega
  have e0 : (D.tup [.tup [.str "tick"], scD LP (aged r s)] :: (mvsD (comings r s) ++ (mvsD (leavings r s) ++ mvsD (copies r s)))) = mvsD (allSteps r s) := by
    unfold allSteps
    simp only [mvs_app, List.append_assoc]
    rfl
  have key : ∀ ρ : Ro, loopC (tgT [3, 4]) (dOr (dCmp isD (dOp ixD (dPk 0) (dC (.int 5))) (dC .non)) (dCmp leD (dOp ixD (dPk 4) (dC (.int 0))) (dOp ixD (dPk 0) (dC (.int 5))))) (dTup (dCons (dVar 3) (dCons (dVar 4) dNil))) [3, 4] (mvsD (allSteps r s)) [] [.val (ruleD r), .val (scD LP s), .val (.lst (mvsD (allSteps r s))), .un, .un] = some (mvsD (steps r s)) := by
    intro _
    refine (loopC_map (pr := fun z => lifeOk r z.2) (out := mvD) (fun z _ => ⟨_, rfl, ?_, fun _ => rfl⟩) (by have := all_len (r := r) (s := s); simp; omega)).trans ?_
    · unfold lifeOk
      cases hl : r.life <;> simp [hl, optD]
    · rfl
  simp [m_aged, m_comings, m_leavings, m_copies]
  rw [if_pos (by omega)]
  simp
  rw [if_pos (by omega)]
  simp
  rw [if_pos (by omega)]
  simp only [Option.map_some, Option.bind_some, List.append_assoc]
  rw [e0]
  have k := key []
  simp only [andThen_nx, dRet_ev, dLc_ev, seqS_ev, toE_ev, dVar_ev]
  simp only [List.getElem?_cons_succ, List.getElem?_cons_zero, Option.bind_some, valS_val, Option.map_some, lstS_lst]
  rw [k]
  rfl
end
end NW

/-! The law's moves: the same. -/
namespace NW
open PySem PySem.Spec L2
def wordOf : Ev → Str
  | .tick => "tick"
  | .copy => "copy"
  | .take _ _ _ => "take"
  | .chg _ _ => "change"
  | .give _ => "give"
  | .new _ => "change"
  | .pass _ _ => "pass"
/-- who does it -/
inductive By where
  | time | me | you
  deriving DecidableEq
def byD : By → D
  | .time => .str "time"
  | .me => .str "x"
  | .you => .str "y"
def byW (w : Bool) : By := if w then .me else .you
def byOf (s : Scene) : Ev → By
  | .tick => .time
  | .copy => .you
  | .take w _ _ => byW w
  | .chg _ _ => .me
  | .give _ => byW (s.rows.top.who.getD false)
  | .new _ => byW (s.rows.top.who.getD false)
  | .pass _ _ => byW (s.rows.top.who.getD false)
def lmD (s : Scene) (z : Mv) : D := .tup [.str (wordOf z.1), byD (byOf s z.1), scD LX z.2]
def lmsD (s : Scene) (l : List Mv) : List D := l.map (lmD s)
section
variable {r : Rule} {s : Scene} {is : List Nat} {ρ : Ro} {a b : Bool} {o : Option Int} {k : Int} {p : Bool} {acc : List Mv} {L : Lab}
theorem lms_app {a b : List Mv} : lmsD s (a ++ b) = lmsD s a ++ lmsD s b := List.map_append
@[simp] theorem lms_one {z : Mv} : lmsD s [z] = [lmD s z] := rfl
@[simp] theorem lms_nil : lmsD s [] = [] := rfl
theorem lms_len {a : List Mv} : (lmsD s a).length = a.length := List.length_map ..
theorem lapp_own {i : Nat} {y : D} (h : acc.length < 1000) : appS i ρ y (.own (.lst (lmsD s acc))) = some (.nx (ρ.set i (.own (.lst (lmsD s acc ++ [y]))))) := appS_own (by rw [lms_len]; omega)
theorem by_who {w : Bool} : byD (byW w) = whoD LX w := by cases w <;> rfl
theorem by_me : byD .me = whoD LX true := rfl
theorem take_oneL {w : Bool × Bool} {a7 a8 a9 a10 a11 a13 a14 a17 a18 : Slot} (h : has s p) (hl : acc.length < 1000) :
    l_law_moves_1 [.val (ruleD r), .val (scD LX s), .val (.int s.age), .val (.tup (rowsL LX s.rows)), .val (thrD s.thr), .own (.lst (lmsD s acc)), .val (plD (topP s)), a7, a8, a9, a10, a11, .val (plD p), a13, a14, .val (whoD LX w.1), .val (.bl w.2), a17, a18] =
    some (.nx [.val (ruleD r), .val (scD LX s), .val (.int s.age), .val (.tup (rowsL LX s.rows)), .val (thrD s.thr), .own (.lst (lmsD s (acc ++ takeIf r s p w))), .val (plD (topP s)), a7, a8, a9, a10, a11, .val (plD p), a13, a14, .val (whoD LX w.1), .val (.bl w.2), a17, a18]) := by
  unfold l_law_moves_1 takeIf
  cases hm : mayCome r (rowAt s p) w.1 w.2 <;> simp [hm, rows_at h, m_law_may, m_law_come_in h, lapp_own hl, lms_app, lms_one, lmD, wordOf, byOf, by_who]
theorem takes_allL {a7 a8 a9 a10 a11 a13 a14 a15 a16 a17 a18 : Slot} (h : has s p) (hl : acc.length < 900) : ∃ c15 c16,
    loopF (tgT [15, 16]) l_law_moves_1 [.tup [.str "x", .bl true], .tup [.str "x", .bl false], .tup [.str "y", .bl true], .tup [.str "y", .bl false]] [.val (ruleD r), .val (scD LX s), .val (.int s.age), .val (.tup (rowsL LX s.rows)), .val (thrD s.thr), .own (.lst (lmsD s acc)), .val (plD (topP s)), a7, a8, a9, a10, a11, .val (plD p), a13, a14, a15, a16, a17, a18] =
    some (.nx [.val (ruleD r), .val (scD LX s), .val (.int s.age), .val (.tup (rowsL LX s.rows)), .val (thrD s.thr), .own (.lst (lmsD s (acc ++ pairs4.flatMap (takeIf r s p)))), .val (plD (topP s)), a7, a8, a9, a10, a11, .val (plD p), a13, a14, c15, c16, a17, a18]) := by
  obtain ⟨ρ', h1, h2, b9, b10, h3⟩ := loopF_ix (enc := fun w : Bool × Bool => D.tup [whoD LX w.1, .bl w.2]) (tg := tgT [15, 16]) (body := l_law_moves_1) (xs := pairs4) (b := acc) (k := 0) (step := fun b w => b ++ takeIf r s p w)
    (R := fun i b ρ => b.length ≤ acc.length + i ∧ ∃ a15 a16, ρ = [.val (ruleD r), .val (scD LX s), .val (.int s.age), .val (.tup (rowsL LX s.rows)), .val (thrD s.thr), .own (.lst (lmsD s b)), .val (plD (topP s)), a7, a8, a9, a10, a11, .val (plD p), a13, a14, a15, a16, a17, a18])
    (fun i b ρ w hw ⟨hb, b9, b10, e⟩ => by
      have hi : i < 4 := (List.getElem?_eq_some_iff.mp hw).1
      subst e
      refine ⟨_, _, by simp only [tgT_ev, setAll_cons, setAll_nil]; rfl, .inl (take_oneL h (by omega)), ?_, _, _, rfl⟩
      have := takeIf_len (r := r) (s := s) (p := p) (w := w)
      rw [List.length_append]
      omega) ⟨by omega, a15, a16, rfl⟩
  rw [foldl_app] at h3
  exact ⟨b9, b10, by rw [h3] at h1; exact h1⟩
theorem x_who : D.str "x" = whoD LX true := rfl
theorem y_who : D.str "y" = whoD LX false := rfl
theorem comes_oneL {a7 a8 a9 a10 a11 a13 a14 a15 a16 a17 a18 : Slot} (h : has s p) (hl : acc.length < 800) : ∃ c15 c16 c17,
    l_law_moves_2 [.val (ruleD r), .val (scD LX s), .val (.int s.age), .val (.tup (rowsL LX s.rows)), .val (thrD s.thr), .own (.lst (lmsD s acc)), .val (plD (topP s)), a7, a8, a9, a10, a11, .val (plD p), a13, a14, a15, a16, a17, a18] =
    some (.nx [.val (ruleD r), .val (scD LX s), .val (.int s.age), .val (.tup (rowsL LX s.rows)), .val (thrD s.thr), .own (.lst (lmsD s (acc ++ comesAt r s p))), .val (plD (topP s)), a7, a8, a9, a10, a11, .val (plD p), a13, a14, c15, c16, c17, a18]) := by
  unfold l_law_moves_2 comesAt
  by_cases hw : (rowAt s p).who = none
  · obtain ⟨b15, b16, ht⟩ := takes_allL (r := r) (a7 := a7) (a8 := a8) (a9 := a9) (a10 := a10) (a11 := a11) (a13 := a13) (a14 := a14) (a15 := a15) (a16 := a16) (a17 := a17) (a18 := a18) h (acc := acc) (by omega)
    have hl2 : (acc ++ pairs4.flatMap (takeIf r s p)).length < 1000 := by
      have := flat_len (r := r) (s := s) (p := p)
      rw [List.length_append]
      omega
    have hmay := m_law_may r (rowAt s p) true (rowAt s p).last
    unfold chgAt chgOk
    have sc_pl : ∀ s' : Scene, D.tup [.int s'.age, .tup (rowsL LX s'.rows), plD p] = scD LX ⟨s'.age, s'.rows, thrOf p⟩ := fun s' => by rw [thr_of]; rfl
    rw [if_pos hw]
    simp only [← List.append_assoc]
    generalize acc ++ pairs4.flatMap (takeIf r s p) = acc2 at *
    by_cases h1 : s.thr = .out
    · cases hm : mayCome r (rowAt s p) true (rowAt s p).last
      · refine ⟨b15, .val (.bl (rowAt s p).last), a17, ?_⟩
        simp [-loopF_cons, hw, ht, rows_at h]
        simp [x_who, hmay, hm, h1, rows_at h]
      · refine ⟨b15, .val (.bl (rowAt s p).last), .val (scD LX (comeAt r s p true (rowAt s p).last)), ?_⟩
        simp [-loopF_cons, hw, ht, rows_at h]
        simp [x_who, hmay, hm, h1, rows_at h, m_law_come_in h, lapp_own hl2, lms_app, lmD, wordOf, byOf, sc_pl, by_me]
    · by_cases h2 : s.thr = .p1 ∧ topP s = true ∧ p = false
      · obtain ⟨h2, h3, h4⟩ := h2
        cases hm : mayCome r (rowAt s p) true (rowAt s p).last
        · refine ⟨b15, .val (.bl (rowAt s p).last), a17, ?_⟩
          simp [-loopF_cons, hw, ht, rows_at h]
          subst h4
          have hr := rows_at (L := LX) h
          simp [x_who, hmay, hm, h1, h2, h3, rows_at h, thrOf]
        · refine ⟨b15, .val (.bl (rowAt s p).last), .val (scD LX (comeAt r s p true (rowAt s p).last)), ?_⟩
          simp [-loopF_cons, hw, ht, rows_at h]
          subst h4
          simp [x_who, hmay, hm, h1, h2, h3, rows_at h, m_law_come_in h, lapp_own hl2, lms_app, lmD, wordOf, byOf, sc_pl, thrOf, by_me]
      · refine ⟨b15, .val (.bl (rowAt s p).last), a17, ?_⟩
        simp [-loopF_cons, hw, ht, rows_at h]
        have h7 : ¬ ((s.thr = .p1 ∧ topP s = true) ∧ p = false) := fun ⟨⟨a, b⟩, c⟩ => h2 ⟨a, b, c⟩
        by_cases h5 : s.thr = thrOf (topP s)
        · cases hT : topP s with
          | false => simp [x_who, hmay, h5, hT, thrOf]
          | true =>
            have hp : p = true := by
              cases p with
              | true => rfl
              | false => exact absurd ⟨⟨by rw [h5, hT]; rfl, hT⟩, rfl⟩ h7
            subst hp
            simp [x_who, hmay, h5, hT, thrOf]
        · simp [x_who, hmay, h1, h5, h7]
  · refine ⟨a15, a16, a17, ?_⟩
    simp [hw, rows_at h]
end
end NW

/-! The law's moves: the same. -/
namespace NW
open PySem PySem.Spec L2
section
variable {r : Rule} {s : Scene} {is : List Nat} {ρ : Ro} {a b : Bool} {o : Option Int} {k : Int} {p : Bool} {acc : List Mv} {L : Lab}
theorem lap0 {i : Nat} {y : D} (h : acc.length < 1000) : appS i ρ y (.own (.lst (lmsD s acc))) = some (.nx (ρ.set i (.own (.lst (lmsD s acc ++ [y]))))) := lapp_own h
theorem lapn {i : Nat} {y : D} {l : List D} (h : acc.length < 1000) (hl : l.length < 1000) : appS i ρ y (.own (.lst (lmsD s acc ++ l))) = some (.nx (ρ.set i (.own (.lst (lmsD s acc ++ (l ++ [y])))))) := by
  rw [appS_own (by rw [List.length_append, lms_len]; omega), List.append_assoc]
theorem lms_cons {z : Mv} {l : List Mv} : lmsD s (z :: l) = lmD s z :: lmsD s l := rfl
theorem isN_LX {b : Bool} : (whoD LX b).isN = false := isN_wb
@[simp] theorem eq_2wx {a b c d : Bool} : eqD (.tup [whoD LX a, whoD LX b]) (.tup [whoD LX c, whoD LX d]) = some (decide (a = c) && decide (b = d)) := by cases a <;> cases b <;> cases c <;> cases d <;> decide +kernel
@[simp] theorem who_y {a : Bool} : byD .you = whoD LX false := rfl
theorem m_law_moves1 {age : Int} {x : Row} {thr : Thr} : f_law_moves [ruleD r, scD LX ⟨age, .one x, thr⟩] = some (.lst (lmsD ⟨age, .one x, thr⟩ (allSteps r ⟨age, .one x, thr⟩)), true) := by
  have hr := fun w h => m_law_new_name (r := r) (L := LX) (s := ⟨age, .one x, thr⟩) (w := w) h
  have ho := m_law_older (r := r) (L := LX) (s := ⟨age, .one x, thr⟩)
  unfold f_law_moves b_law_moves l_law_moves_3
  have e := fun acc hl a7 a8 a9 a10 a11 a13 a14 a15 a16 a17 a18 => comes_oneL (r := r) (s := ⟨age, .one x, thr⟩) (p := false) (acc := acc) (a7 := a7) (a8 := a8) (a9 := a9) (a10 := a10) (a11 := a11) (a13 := a13) (a14 := a14) (a15 := a15) (a16 := a16) (a17 := a17) (a18 := a18) (fun z => nomatch z) hl
  obtain ⟨c15, c16, c17, e1⟩ := e [(.tick, aged r ⟨age, .one x, thr⟩)] (by simp) (.val (wD LX x.who)) (.val (whoD LX x.last)) (.val (.int x.num)) (.val (.int x.old)) (.val (fwD x.fw)) .un .un .un .un .un .un
  simp [rowsL, topP, plD, lmD, wordOf, byOf, byD] at e1
  clear e
  have hlen : ((Ev.tick, aged r ⟨age, .one x, thr⟩) :: comesAt r ⟨age, .one x, thr⟩ false).length < 1000 := by
    have := comes_len (r := r) (s := ⟨age, .one x, thr⟩) (p := false)
    rw [List.length_cons]
    omega
  have hall : allSteps r ⟨age, .one x, thr⟩ = ((Ev.tick, aged r ⟨age, .one x, thr⟩) :: comesAt r ⟨age, .one x, thr⟩ false) ++ (leavings r ⟨age, .one x, thr⟩ ++ copies r ⟨age, .one x, thr⟩) := by
    unfold allSteps comings
    simp
  generalize ((Ev.tick, aged r ⟨age, .one x, thr⟩) :: comesAt r ⟨age, .one x, thr⟩ false) = acc3 at *
  rw [hall]
  simp [rowsL, rngS, ho, e1, plD]
  clear e1 ho hall
  obtain ⟨who, last, num, old, fw⟩ := x
  cases who with
  | none =>
    cases hc : r.cp <;> simp [leavings, copies, hc, Rows.top, lms_app, lap0 hlen, lmD, wordOf, byOf, sc_lit1, x_who, y_who]
  | some w =>
    have hr := hr w rfl
    have hlf : ∀ (l : List D) (i : Nat) (ρ : Ro) (y : D), l.length < 1000 → appS i ρ y (.own (.lst (lmsD ⟨age, .one ⟨some w, last, num, old, fw⟩, thr⟩ acc3 ++ l))) = some (.nx (ρ.set i (.own (.lst (lmsD ⟨age, .one ⟨some w, last, num, old, fw⟩, thr⟩ acc3 ++ (l ++ [y])))))) := fun l i ρ y h => lapn hlen h
    rcases Decidable.em (num = 0) with rfl | hn
    · rcases Decidable.em (thr = .p0) with rfl | ht
      · cases w <;> cases hp : r.pg <;> cases hc : r.cp <;>
          simp [*, leavings, copies, Rows.top, lms_app, lap0 hlen, lmD, wordOf, byOf, sc_lit1, sc_n1, x_who, y_who, row_n, row_lit, r.pos, lms_cons, less, thrOf, topP, passOne, putTop, by_who] <;> rfl
      · cases w <;> cases hp : r.pg <;> cases hc : r.cp <;>
          simp [*, leavings, copies, Rows.top, lms_app, lap0 hlen, lmD, wordOf, byOf, sc_lit1, sc_n1, x_who, y_who, row_n, row_lit, r.pos, lms_cons, less, thrOf, topP, passOne, putTop, by_who] <;> (cases thr <;> first | rfl | exact absurd rfl ht)
    · rcases Decidable.em (thr = .p0) with rfl | ht
      · cases w <;> cases hp : r.pg <;> cases hc : r.cp <;>
          simp [*, leavings, copies, Rows.top, lms_app, lap0 hlen, lmD, wordOf, byOf, sc_lit1, sc_n1, x_who, y_who, row_n, row_lit, r.pos, lms_cons, less, thrOf, topP, passOne, putTop, by_who]
      · cases w <;> cases hp : r.pg <;> cases hc : r.cp <;>
          simp [*, leavings, copies, Rows.top, lms_app, lap0 hlen, lmD, wordOf, byOf, sc_lit1, sc_n1, x_who, y_who, row_n, row_lit, r.pos, lms_cons, less, thrOf, topP, passOne, putTop, by_who]
end
end NW

/-! The law's moves: the same. -/
namespace NW
open PySem PySem.Spec L2
section
variable {r : Rule} {s : Scene} {is : List Nat} {ρ : Ro} {a b : Bool} {o : Option Int} {k : Int} {p : Bool} {acc : List Mv} {L : Lab}
theorem m_law_moves2 {age : Int} {y x : Row} {thr : Thr} : f_law_moves [ruleD r, scD LX ⟨age, .two y x, thr⟩] = some (.lst (lmsD ⟨age, .two y x, thr⟩ (allSteps r ⟨age, .two y x, thr⟩)), true) := by
  have hr := fun w h => m_law_new_name (r := r) (L := LX) (s := ⟨age, .two y x, thr⟩) (w := w) h
  have ho := m_law_older (r := r) (L := LX) (s := ⟨age, .two y x, thr⟩)
  unfold f_law_moves b_law_moves l_law_moves_3
  have e := fun acc hl a7 a8 a9 a10 a11 a13 a14 a15 a16 a17 a18 => comes_oneL (r := r) (s := ⟨age, .two y x, thr⟩) (p := false) (acc := acc) (a7 := a7) (a8 := a8) (a9 := a9) (a10 := a10) (a11 := a11) (a13 := a13) (a14 := a14) (a15 := a15) (a16 := a16) (a17 := a17) (a18 := a18) (fun z => nomatch z) hl
  have e' := fun acc hl a7 a8 a9 a10 a11 a13 a14 a15 a16 a17 a18 => comes_oneL (r := r) (s := ⟨age, .two y x, thr⟩) (p := true) (acc := acc) (a7 := a7) (a8 := a8) (a9 := a9) (a10 := a10) (a11 := a11) (a13 := a13) (a14 := a14) (a15 := a15) (a16 := a16) (a17 := a17) (a18 := a18) (fun _ => ⟨y, x, rfl⟩) hl
  have hl0 := comes_len (r := r) (s := ⟨age, .two y x, thr⟩) (p := false)
  obtain ⟨d15, d16, d17, e2⟩ := e [(.tick, aged r ⟨age, .two y x, thr⟩)] (by simp) (.val (wD LX x.who)) (.val (whoD LX x.last)) (.val (.int x.num)) (.val (.int x.old)) (.val (fwD x.fw)) .un .un .un .un .un .un
  obtain ⟨c15, c16, c17, e1⟩ := e' ([(.tick, aged r ⟨age, .two y x, thr⟩)] ++ comesAt r ⟨age, .two y x, thr⟩ false) (by simp; omega) (.val (wD LX x.who)) (.val (whoD LX x.last)) (.val (.int x.num)) (.val (.int x.old)) (.val (fwD x.fw)) .un .un d15 d16 d17 .un
  simp [rowsL, topP, plD, lmD, wordOf, byOf, byD] at e1 e2
  clear e e'
  have hlen : ((Ev.tick, aged r ⟨age, .two y x, thr⟩) :: (comesAt r ⟨age, .two y x, thr⟩ false ++ comesAt r ⟨age, .two y x, thr⟩ true)).length < 1000 := by
    have := comes_len (r := r) (s := ⟨age, .two y x, thr⟩) (p := true)
    rw [List.length_cons, List.length_append]
    omega
  have hall : allSteps r ⟨age, .two y x, thr⟩ = ((Ev.tick, aged r ⟨age, .two y x, thr⟩) :: (comesAt r ⟨age, .two y x, thr⟩ false ++ comesAt r ⟨age, .two y x, thr⟩ true)) ++ (leavings r ⟨age, .two y x, thr⟩ ++ copies r ⟨age, .two y x, thr⟩) := by
    unfold allSteps comings
    simp
  generalize ((Ev.tick, aged r ⟨age, .two y x, thr⟩) :: (comesAt r ⟨age, .two y x, thr⟩ false ++ comesAt r ⟨age, .two y x, thr⟩ true)) = acc3 at *
  rw [hall]
  simp [rowsL, rngS, ho, e1, e2, plD]
  clear e1 e2 ho hall
  obtain ⟨who, last, num, old, fw⟩ := x
  cases who with
  | none =>
    cases hc : r.cp <;> simp [leavings, copies, hc, Rows.top, lms_app, lap0 hlen, lmD, wordOf, byOf, sc_lit2, x_who, y_who]
  | some w =>
    have hr := hr w rfl
    have hlf : ∀ (l : List D) (i : Nat) (ρ : Ro) (yy : D), l.length < 1000 → appS i ρ yy (.own (.lst (lmsD ⟨age, .two y ⟨some w, last, num, old, fw⟩, thr⟩ acc3 ++ l))) = some (.nx (ρ.set i (.own (.lst (lmsD ⟨age, .two y ⟨some w, last, num, old, fw⟩, thr⟩ acc3 ++ (l ++ [yy])))))) := fun l i ρ y h => lapn hlen h
    rcases Decidable.em (num = 0) with rfl | hn
    · rcases Decidable.em (thr = .p1) with rfl | ht
      · cases w <;> cases hp : r.pg <;> cases hc : r.cp <;>
          simp [*, leavings, copies, Rows.top, lms_app, lap0 hlen, lmD, wordOf, byOf, sc_lit2, sc_n2, x_who, y_who, row_n, row_lit, r.pos, lms_cons, less, thrOf, topP, passOne, putTop, by_who] <;> rfl
      · cases w <;> cases hp : r.pg <;> cases hc : r.cp <;>
          simp [*, leavings, copies, Rows.top, lms_app, lap0 hlen, lmD, wordOf, byOf, sc_lit2, sc_n2, x_who, y_who, row_n, row_lit, r.pos, lms_cons, less, thrOf, topP, passOne, putTop, by_who] <;> (cases thr <;> first | rfl | exact absurd rfl ht)
    · rcases Decidable.em (thr = .p1) with rfl | ht
      · cases w <;> cases hp : r.pg <;> cases hc : r.cp <;>
          simp [*, leavings, copies, Rows.top, lms_app, lap0 hlen, lmD, wordOf, byOf, sc_lit2, sc_n2, x_who, y_who, row_n, row_lit, r.pos, lms_cons, less, thrOf, topP, passOne, putTop, by_who]
      · cases w <;> cases hp : r.pg <;> cases hc : r.cp <;>
          simp [*, leavings, copies, Rows.top, lms_app, lap0 hlen, lmD, wordOf, byOf, sc_lit2, sc_n2, x_who, y_who, row_n, row_lit, r.pos, lms_cons, less, thrOf, topP, passOne, putTop, by_who]
theorem m_law_moves : f_law_moves [ruleD r, scD LX s] = some (.lst (lmsD s (allSteps r s)), true) := by
  obtain ⟨age, rows, thr⟩ := s
  cases rows with
  | one x => exact m_law_moves1
  | two y x => exact m_law_moves2
end
end NW

/-! What a scene says; scenes as keys. -/
namespace NW
open PySem PySem.Spec L2
inductive Harm where
  | astray | lost
  deriving DecidableEq
inductive Doer where
  | meant | other | time
  deriving DecidableEq
def hS : Harm → Str
  | .astray => "astray"
  | .lost => "lost"
def dS' : Doer → Str
  | .meant => "meant"
  | .other => "other"
  | .time => "time"
def hD (h : Harm) : D := .str (hS h)
def doD (d : Doer) : D := .str (dS' d)
def ohD : Option Harm → D
  | none => .non
  | some h => hD h
section
variable {r : Rule} {s t : Scene} {is : List Nat} {ρ : Ro} {a b : Bool} {o : Option Int} {k : Int} {p : Bool} {acc : List Mv} {L : Lab}
def endOf (s : Scene) : Option Bool := if s.rows.top.num = 0 then s.rows.top.who else none
theorem m_end_of : f_end_of [scD L s] = some (wD L (endOf s), false) := by
  obtain ⟨age, rows, thr⟩ := s
  unfold f_end_of b_end_of endOf
  cases rows with
  | one x => by_cases h : x.num = 0 <;> simp [rowsL, Rows.top, h]
  | two y x => by_cases h : x.num = 0 <;> simp [rowsL, Rows.top, h]
def status (s : Scene) : Option Harm := if endOf s = some false then some .astray else if endOf s = none ∧ s.thr ≠ .no then some .lost else none
theorem m_status : f_status [scD LP s] = some (ohD (status s), false) := by
  unfold f_status b_status status
  cases h : endOf s with
  | none => by_cases h2 : s.thr = .no <;> simp [m_end_of, h, h2, ohD, hD, hS]
  | some w => cases w <;> simp [m_end_of, h, ohD, hD, hS, theirs_who]
/-- how the law says it -/
def stand (s : Scene) : Str := match status s with
  | some h => hS h
  | none => if endOf s = none then "nowhere" else "right"
theorem m_law_stands_so : f_law_stands_so [scD LX s] = some (.str (stand s), false) := by
  obtain ⟨age, rows, thr⟩ := s
  unfold f_law_stands_so b_law_stands_so stand status endOf
  cases rows with
  | one x =>
    obtain ⟨who, last, num, old, fw⟩ := x
    by_cases h : num = 0 <;> by_cases h2 : thr = .no <;> rcases who with _ | _ | _ <;> simp [rowsL, Rows.top, h, h2, hS, x_who]
  | two y x =>
    obtain ⟨who, last, num, old, fw⟩ := x
    by_cases h : num = 0 <;> by_cases h2 : thr = .no <;> rcases who with _ | _ | _ <;> simp [rowsL, Rows.top, h, h2, hS, x_who]
/-! who does it -/
def placeOf : Ev → Option Bool
  | .chg .p0 _ => some false
  | .chg .p1 _ => some true
  | .give p => some p
  | .new p => some p
  | .pass p _ => some p
  | _ => none
/-- by the program -/
def doerP (s : Scene) (e : Ev) : Doer := match e with
  | .tick => .time
  | .copy => .other
  | .take w _ _ => if w then .meant else .other
  | _ => match placeOf e with
    | none => .meant
    | some p => if (rowAt s p).who = some true then .meant else .other
def okPlace (s : Scene) (e : Ev) : Prop := (∀ p, placeOf e = some p → has s p) ∧ ∀ p, e ≠ .chg .no p
@[simp] theorem eq_wm' {w : Option Bool} : eqD (wD LP w) (.str "mine") = some (decide (w = some true)) := by
  cases w with
  | none => simp
  | some b => cases b <;> simp [eq_wm]
theorem m_doer_of {e : Ev} (h : okPlace s e) : f_doer_of [scD LP s, evD e] = some (doD (doerP s e), false) := by
  obtain ⟨h1, h2⟩ := h
  unfold f_doer_of b_doer_of doerP
  cases e with
  | tick => simp [evD, doD, dS']
  | copy => simp [evD, doD, dS', ofS_inj]
  | take w b p => cases w <;> simp [evD, doD, dS', ofS_inj]
  | chg t p =>
    cases t with
    | no => exact absurd rfl (h2 p)
    | out => simp [evD, doD, dS', ofS_inj, placeOf, thrD]
    | p0 =>
      have hh := rows_at (L := LP) (h1 false rfl)
      simp at hh
      by_cases hw : (rowAt s false).who = some true <;> simp [evD, doD, dS', ofS_inj, placeOf, thrD, hh, hw]
    | p1 =>
      have hh := rows_at (L := LP) (h1 true rfl)
      simp at hh
      by_cases hw : (rowAt s true).who = some true <;> simp [evD, doD, dS', ofS_inj, placeOf, thrD, hh, hw]
  | give p =>
    have hh := rows_at (L := LP) (h1 p rfl)
    by_cases hw : (rowAt s p).who = some true <;> cases p <;> simp at hh <;> simp [evD, doD, dS', ofS_inj, placeOf, hh, hw, plD]
  | new p =>
    have hh := rows_at (L := LP) (h1 p rfl)
    by_cases hw : (rowAt s p).who = some true <;> cases p <;> simp at hh <;> simp [evD, doD, dS', ofS_inj, placeOf, hh, hw, plD]
  | pass p t =>
    have hh := rows_at (L := LP) (h1 p rfl)
    by_cases hw : (rowAt s p).who = some true <;> cases p <;> simp at hh <;> simp [evD, doD, dS', ofS_inj, placeOf, hh, hw, plD]
/-! scenes as keys -/
theorem wD_key {a b : Option Bool} (h : (wD L a).key = (wD L b).key) : a = b := by
  have ne := L.ne
  have ne' := L.ne.symm
  rcases a with _ | _ | _ <;> rcases b with _ | _ | _ <;> simp_all [wD, whoD, Lab.s, D.key]
theorem fw_key {a b : Fw} (h : (fwD a).key = (fwD b).key) : a = b := by
  cases a <;> cases b <;> simp_all [fwD, D.key, ofS_inj]
theorem row_key {x y : Row} (h : (rowD L x).key = (rowD L y).key) : x = y := by
  obtain ⟨who, last, num, old, fw⟩ := x
  obtain ⟨who', last', num', old', fw'⟩ := y
  simp only [rowD, D.key, keyL, NestedKey.tup.injEq, List.cons.injEq, NestedKey.num.injEq] at h
  obtain ⟨h1, h2, h3, h4, h5, _⟩ := h
  have e1 := wD_key h1
  have e2 : some last = some last' := wD_key (L := L) (a := some last) (b := some last') h2
  have e5 := fw_key h5
  simp_all
theorem thr_key {a b : Thr} (h : (thrD a).key = (thrD b).key) : a = b := by
  cases a <;> cases b <;> simp_all [thrD, D.key]
theorem sc_key {s t : Scene} : (scD L s).key = (scD L t).key ↔ s = t := by
  refine ⟨fun h => ?_, fun h => by rw [h]⟩
  obtain ⟨age, rows, thr⟩ := s
  obtain ⟨age', rows', thr'⟩ := t
  simp only [scD, D.key, keyL, NestedKey.tup.injEq, List.cons.injEq, NestedKey.num.injEq] at h
  obtain ⟨h1, h2, h3, _⟩ := h
  have e3 := thr_key h3
  cases rows with
  | one x =>
    cases rows' with
    | one x' =>
      simp only [rowsL, keyL, List.cons.injEq] at h2
      rw [row_key h2.1, h1, e3]
    | two y' x' => simp [rowsL, keyL] at h2
  | two y x =>
    cases rows' with
    | one x' => simp [rowsL, keyL] at h2
    | two y' x' =>
      simp only [rowsL, keyL, List.cons.injEq] at h2
      rw [row_key h2.1, row_key h2.2.1, h1, e3]
theorem wD_im {w : Option Bool} : (wD L w).im = true ∧ (wD L w).key.depth = 0 := by rcases w with _ | _ | _ <;> exact ⟨rfl, rfl⟩
theorem fw_im {f : Fw} : (fwD f).im = true ∧ (fwD f).key.depth = 0 := by cases f <;> exact ⟨rfl, rfl⟩
theorem thr_im {f : Thr} : (thrD f).im = true ∧ (thrD f).key.depth = 0 := by cases f <;> exact ⟨rfl, rfl⟩
theorem row_im {x : Row} : (rowD L x).im = true ∧ (rowD L x).key.depth = 1 := by
  have h1 := wD_im (L := L) (w := x.who)
  have h2 := wD_im (L := L) (w := some x.last)
  have h3 := fw_im (f := x.fw)
  simp only [wD] at h2
  constructor
  · simp [rowD, D.im, imL, h1.1, h2.1, h3.1]
  · simp [rowD, D.key, keyL, NestedKey.depth, NestedKey.depthAll, h1.2, h2.2, h3.2]
theorem sc_im : (scD L s).im = true ∧ (scD L s).key.depth ≤ 3 := by
  obtain ⟨age, rows, thr⟩ := s
  have h3 := thr_im (f := thr)
  cases rows with
  | one x =>
    have h1 := row_im (L := L) (x := x)
    constructor
    · simp [scD, rowsL, D.im, imL, h1.1, h3.1]
    · simp [scD, rowsL, D.key, keyL, NestedKey.depth, NestedKey.depthAll, h1.2, h3.2]
  | two y x =>
    have h1 := row_im (L := L) (x := x)
    have h2 := row_im (L := L) (x := y)
    constructor
    · simp [scD, rowsL, D.im, imL, h1.1, h2.1, h3.1]
    · simp [scD, rowsL, D.key, keyL, NestedKey.depth, NestedKey.depthAll, h1.2, h2.2, h3.2]
theorem sc_ok : keyOk (scD L s) = true := by
  have h1 := (sc_im (L := L) (s := s)).1
  have h2 := (sc_im (L := L) (s := s)).2
  have e : keyOk (scD L s) = ((scD L s).im && decide ((scD L s).key.depth ≤ 8)) := rfl
  rw [e, h1]
  simp
  omega
/-! dicts with scenes as keys -/
def dicT {α : Type} (L : Lab) (f : α → D) (l : List (Scene × α)) : List (D × D) := l.map fun z => (scD L z.1, f z.2)
theorem look_dic {α : Type} {f : α → D} {l : List (Scene × α)} {t : Scene} : lookT (dicT L f l) (scD L t) = (l.lookup t).map f := by
  unfold lookT dicT
  induction l with
  | nil => rfl
  | cons z l ih =>
    obtain ⟨u, v⟩ := z
    rw [List.map_cons, List.find?_cons, List.lookup_cons]
    by_cases h : u = t
    · subst h
      simp
    · have h1 : ¬ (scD L u).key = (scD L t).key := fun z => h (sc_key.mp z)
      have h2 : (t == u) = false := by simpa using fun z => h z.symm
      rw [h2]
      simp only [h1, decide_false, Bool.false_eq_true]
      exact ih
theorem put_dic {α : Type} {f : α → D} {l : List (Scene × α)} {t : Scene} {v : α} (h : l.lookup t = none) : putT (dicT L f l) (scD L t) (f v) = dicT L f (l ++ [(t, v)]) := by
  unfold putT
  rw [look_dic, h]
  simp [dicT]
theorem inD_dic {α : Type} {f : α → D} {l : List (Scene × α)} {t : Scene} : inD (scD L t) (.dT (dicT L f l)) = some (l.lookup t).isSome := by
  show (if keyOk (scD L t) then some (lookT _ _).isSome else none) = _
  rw [sc_ok, if_pos rfl, look_dic]
  simp
theorem len_dic {α : Type} {f : α → D} {l : List (Scene × α)} : (dicT L f l).length = l.length := List.length_map ..
theorem putD_dic {α : Type} {f : α → D} {l : List (Scene × α)} {t : Scene} {v : α} {d : D} (hd : d = f v) (h : l.lookup t = none) (hl : l.length < 100000) : putD (.dT (dicT L f l)) (scD L t) d = some (.dT (dicT L f (l ++ [(t, v)]))) := by
  subst hd
  show (if ok _ && keyOk (scD L t) then some (D.dT (putT _ _ _)) else none) = _
  rw [sc_ok, put_dic h, len_dic]
  have : l.length + 1 ≤ 100000 := hl
  simp [this]
theorem ixD_dic {α : Type} {f : α → D} {l : List (Scene × α)} {t : Scene} : ixD (.dT (dicT L f l)) (scD L t) = (l.lookup t).map f := by
  show (if keyOk (scD L t) then lookT _ _ else none) = _
  rw [sc_ok, if_pos rfl, look_dic]
/-! lists of scenes against [] -/
theorem sq_rows : ∀ {rows : Rows}, sqL (rowsL L rows) = true := by
  have h : ∀ x : Row, (rowD L x).sq = true := fun x => by
    obtain ⟨who, last, num, old, fw⟩ := x
    rcases who with _ | _ | _ <;> cases fw <;> rfl
  intro rows
  cases rows <;> simp [rowsL, sqL, h]
theorem sc_sq : (scD L s).sq = true := by
  obtain ⟨age, rows, thr⟩ := s
  cases thr <;> simp [scD, D.sq, sqL, sq_rows, thrD]
end
end NW

/-! Lists of scenes against []. -/
namespace NW
open PySem PySem.Spec L2
section
variable {L : Lab} {s : Scene}
def Lab.ok (L : Lab) : Prop := (PyData.str L.m).canLay0 = true ∧ (PyData.str L.t).canLay0 = true
theorem ok_LP : LP.ok := by constructor <;> decide +kernel
theorem ok_LX : LX.ok := by constructor <;> decide +kernel
theorem lay_who (h : L.ok) {b : Bool} : (whoD L b).py.canLay0 = true ∧ (whoD L b).py.depth = 0 := by
  cases b
  · exact ⟨h.2, rfl⟩
  · exact ⟨h.1, rfl⟩
theorem lay_w (h : L.ok) {b : Option Bool} : (wD L b).py.canLay0 = true ∧ (wD L b).py.depth = 0 := by
  cases b with
  | none => exact ⟨rfl, rfl⟩
  | some b => exact lay_who h
theorem lay_fw {f : Fw} : (fwD f).py.canLay0 = true ∧ (fwD f).py.depth = 0 := by cases f <;> exact ⟨by decide +kernel, rfl⟩
theorem lay_thr {f : Thr} : (thrD f).py.canLay0 = true ∧ (thrD f).py.depth = 0 := by cases f <;> exact ⟨by decide +kernel, rfl⟩
theorem lay_row (h : L.ok) {x : Row} : (rowD L x).py.canLay0 = true ∧ (rowD L x).py.depth = 1 := by
  have h1 := lay_w h (b := x.who)
  have h2 := lay_who h (b := x.last)
  have h3 := lay_fw (f := x.fw)
  constructor
  · simp [rowD, D.py, pyL, PyData.canLay0, PyData.canLayAll0, h1.1, h2.1, h3.1]
  · simp [rowD, D.py, pyL, PyData.depth, PyData.depthAll, h1.2, h2.2, h3.2]
theorem lay_sc (h : L.ok) : (scD L s).py.canLay0 = true ∧ (scD L s).py.depth ≤ 3 := by
  obtain ⟨age, rows, thr⟩ := s
  have h3 := lay_thr (f := thr)
  cases rows with
  | one x =>
    have h1 := lay_row h (x := x)
    constructor
    · simp [scD, rowsL, D.py, pyL, PyData.canLay0, PyData.canLayAll0, h1.1, h3.1]
    · simp [scD, rowsL, D.py, pyL, PyData.depth, PyData.depthAll, h1.2, h3.2]
  | two y x =>
    have h1 := lay_row h (x := x)
    have h2 := lay_row h (x := y)
    constructor
    · simp [scD, rowsL, D.py, pyL, PyData.canLay0, PyData.canLayAll0, h1.1, h2.1, h3.1]
    · simp [scD, rowsL, D.py, pyL, PyData.depth, PyData.depthAll, h1.2, h2.2, h3.2]
def scsD (L : Lab) (l : List Scene) : List D := l.map (scD L)
theorem lay_all (h : L.ok) : ∀ {l : List Scene}, PyData.canLayAll0 (pyL (scsD L l)) = true ∧ PyData.depthAll (pyL (scsD L l)) ≤ 3 ∧ sqL (scsD L l) = true
  | [] => ⟨rfl, Nat.zero_le _, rfl⟩
  | s :: l => by
    obtain ⟨h1, h2⟩ := lay_sc h (s := s)
    obtain ⟨i1, i2, i3⟩ := lay_all h (l := l)
    refine ⟨?_, ?_, ?_⟩
    · simp only [scsD, List.map_cons, pyL, PyData.canLayAll0, h1, Bool.true_and]
      exact i1
    · simp only [scsD, List.map_cons, pyL, PyData.depthAll]
      exact Nat.max_le.mpr ⟨h2, i2⟩
    · simp only [scsD, List.map_cons, sqL, sc_sq, Bool.true_and]
      exact i3
theorem eq_nil (h : L.ok) {l : List Scene} : eqD (.lst (scsD L l)) (.lst []) = some l.isEmpty := by
  obtain ⟨h1, h2, h3⟩ := lay_all h (l := l)
  have e1 : (D.lst (scsD L l)).sq = true := h3
  have e2 : SeqAt.shaped (D.lst (scsD L l)).py = true := by
    show (PyData.canLayAll0 _ && decide (PyData.depthAll _ + 1 ≤ 64)) = true
    rw [h1]
    simp
    omega
  have e3 : SeqAt.shaped (D.lst []).py = true := by decide +kernel
  show (if ((D.lst (scsD L l)).sq && (D.lst []).sq && SeqAt.shaped (D.lst (scsD L l)).py && SeqAt.shaped (D.lst []).py) then some (PyData.eqv (D.lst (scsD L l)).py (D.lst []).py) else none) = _
  rw [e1, e2, e3]
  cases l with
  | nil => simp [scsD, D.py, pyL, PyData.eqv, PyData.eqvAll, D.sq, sqL]
  | cons s l => simp [scsD, D.py, pyL, PyData.eqv, PyData.eqvAll, D.sq, sqL]
end
end NW

/-! The steps as a relation; what stays true of scenes. -/
namespace NW
open PySem PySem.Spec L2
inductive Step (r : Rule) (s : Scene) : Ev → Scene → Prop where
  | tick : Step r s .tick (aged r s)
  | take {p w b : Bool} : has s p → (rowAt s p).who = none → mayCome r (rowAt s p) w b = true → Step r s (.take w b p) (comeAt r s p w b)
  | chg {p : Bool} : has s p → (rowAt s p).who = none → mayCome r (rowAt s p) true (rowAt s p).last = true → chgOk s p = true →
      Step r s (.chg s.thr p) ⟨(comeAt r s p true (rowAt s p).last).age, (comeAt r s p true (rowAt s p).last).rows, thrOf p⟩
  | give {w : Bool} : s.rows.top.who = some w → Step r s (.give (topP s)) ⟨s.age, putTop s ⟨none, w, s.rows.top.num, 0, .none⟩, less s⟩
  | new {w : Bool} : s.rows.top.who = some w → Step r s (.new (topP s)) (renamed r s)
  | pass {w to : Bool} : s.rows.top.who = some w → r.pg ≠ .no → ¬ (w = true ∧ to = true) →
      Step r s (.pass (topP s) to) ⟨s.age, putTop s ⟨some to, to, (s.rows.top.num + (if r.pg = .counted then 1 else 0)) % r.marks, 0, .none⟩, less s⟩
  | same : r.cp = .same → Step r s .copy ⟨0, s.rows, s.thr⟩
  | anew {w : Bool} : r.cp = .anew → s.rows.top.who = some w → s.rows.top.num = 0 → Step r s .copy ⟨0, .one s.rows.top, if s.thr = .no then .no else if s.thr = thrOf (topP s) then .p0 else .out⟩
section
variable {r : Rule} {s t : Scene} {e : Ev} {p : Bool}
theorem mem_takes {z : Mv} (h : z ∈ pairs4.flatMap (takeIf r s p)) : ∃ w b, mayCome r (rowAt s p) w b = true ∧ z = (.take w b p, comeAt r s p w b) := by
  obtain ⟨w, _, hz⟩ := List.mem_flatMap.mp h
  unfold takeIf at hz
  split at hz
  · rename_i hm
    exact ⟨w.1, w.2, hm, by simpa using hz⟩
  · simp at hz
theorem mem_comes {z : Mv} (hp : has s p) (h : z ∈ comesAt r s p) : Step r s z.1 z.2 := by
  unfold comesAt at h
  split at h
  · rename_i hw
    rcases List.mem_append.mp h with h | h
    · obtain ⟨w, b, hm, rfl⟩ := mem_takes h
      exact .take hp hw hm
    · unfold chgAt at h
      split at h
      · rename_i hm
        obtain ⟨h1, h2⟩ := Bool.and_eq_true_iff.mp hm
        obtain rfl := List.mem_singleton.mp h
        exact .chg hp hw h1 h2
      · simp at h
  · simp at h
theorem has0 : has s false := fun z => nomatch z
theorem step_of (h : (e, t) ∈ allSteps r s) : Step r s e t := by
  unfold allSteps at h
  rcases List.mem_append.mp h with h | h
  · rcases List.mem_append.mp h with h | h
    · rcases List.mem_append.mp h with h | h
      · have : (e, t) = (Ev.tick, aged r s) := by simpa using h
        cases this
        exact .tick
      · unfold comings at h
        split at h
        · exact mem_comes (z := (e, t)) has0 h
        · rename_i y x hr
          rcases List.mem_append.mp h with h | h
          · exact mem_comes (z := (e, t)) has0 h
          · exact mem_comes (z := (e, t)) (fun _ => ⟨y, x, hr⟩) h
    · unfold leavings at h
      split at h
      · simp at h
      · rename_i w hw
        rcases List.mem_append.mp h with h | h
        · simp only [List.mem_cons, List.not_mem_nil, or_false, Prod.mk.injEq] at h
          rcases h with ⟨rfl, rfl⟩ | ⟨rfl, rfl⟩
          · exact .give hw
          · exact .new hw
        · split at h
          · simp at h
          · rename_i hp
            have one : ∀ to, (e, t) ∈ passOne r s w to → Step r s e t := fun to h => by
              unfold passOne at h
              split at h
              · simp at h
              · rename_i hn
                simp only [List.mem_cons, List.not_mem_nil, or_false, Prod.mk.injEq] at h
                obtain ⟨rfl, rfl⟩ := h
                exact .pass hw hp hn
            rcases List.mem_append.mp h with h | h
            · exact one _ h
            · exact one _ h
  · unfold copies at h
    split at h
    · rename_i hc
      simp only [List.mem_cons, List.not_mem_nil, or_false, Prod.mk.injEq] at h
      obtain ⟨rfl, rfl⟩ := h
      exact .same hc
    · split at h
      · rename_i hc
        obtain ⟨h1, h2, h3⟩ := hc
        simp only [List.mem_cons, List.not_mem_nil, or_false, Prod.mk.injEq] at h
        obtain ⟨rfl, rfl⟩ := h
        cases hw : s.rows.top.who with
        | none => exact absurd hw h2
        | some w => exact .anew h1 hw h3
      · simp at h
theorem steps_iff : (e, t) ∈ steps r s → Step r s e t ∧ lifeOk r t = true := fun h => by
  obtain ⟨h1, h2⟩ := List.mem_filter.mp h
  exact ⟨step_of h1, h2⟩
/-! what stays true -/
structure Tight (r : Rule) : Prop where
  wait : ∀ w, r.wait = some w → 0 ≤ w ∧ w ≤ 2
  fwd : ∀ f, r.fwd = some f → 0 ≤ f ∧ f ≤ 2
  marks : r.marks ≤ 2
  life : ∀ l, r.life = some l → 0 ≤ l ∧ l ≤ 2
theorem old_ge {r : Rule} (T : Tight r) : 0 ≤ oldest r ∧ oldest r ≤ 2 ∧ (∀ w, r.wait = some w → w ≤ oldest r) ∧ ∀ f, r.fwd = some f → f ≤ oldest r := by
  have h1 := T.wait
  have h2 := T.fwd
  unfold oldest
  cases hw : r.wait with
  | none =>
    cases hf : r.fwd with
    | none => simp [maxI]
    | some f =>
      have := h2 f hf
      simp [maxI]
      split <;> omega
  | some w =>
    have a := h1 w hw
    cases hf : r.fwd with
    | none =>
      simp [maxI]
      split <;> omega
    | some f =>
      have b := h2 f hf
      simp [maxI]
      split <;> split <;> omega
structure RowOk (r : Rule) (x : Row) : Prop where
  num0 : 0 ≤ x.num
  num1 : x.num < r.marks
  old0 : 0 ≤ x.old
  old1 : x.old ≤ oldest r
  held : ∀ w, x.who = some w → x.last = w ∧ x.old = 0 ∧ x.fw = .none
/-- why an unled name leads nowhere -/
def Unled (r : Rule) (one : Bool) (x : Row) : Prop := x.num ≠ 0 ∨ one = false ∨ r.hops = false ∨ ∃ f, r.fwd = some f ∧ f ≤ x.old
structure WF (r : Rule) (s : Scene) : Prop where
  age0 : 0 ≤ s.age
  ageN : r.life = none → s.age = 0
  ageL : lifeOk r s = true
  top : RowOk r s.rows.top
  fw : s.rows.top.fw ≠ .next
  off : s.rows.top.fw = .off → Unled r (!topP s) s.rows.top
  two : ∀ y x, s.rows = .two y x → RowOk r y ∧ y.who = none ∧ y.fw = .next ∧ y.num = 0 ∧ fine r y = true ∧ r.hops = true
  thr : ∀ q, s.thr = thrOf q → topP s = q ∧ s.rows.top.who = some true
section
variable {r : Rule} {s t : Scene} {e : Ev} {p : Bool}
theorem row_new (T : Tight r) {w : Bool} {n : Int} (h0 : 0 ≤ n) (h1 : n < r.marks) : RowOk r ⟨some w, w, n, 0, .none⟩ := ⟨h0, h1, Int.le_refl 0, (old_ge T).1, fun w' h => by cases h; exact ⟨rfl, rfl, rfl⟩⟩
theorem row_left (T : Tight r) {w : Bool} {n : Int} {f : Fw} (h0 : 0 ≤ n) (h1 : n < r.marks) : RowOk r ⟨none, w, n, 0, f⟩ := ⟨h0, h1, Int.le_refl 0, (old_ge T).1, fun w' h => by cases h⟩
theorem mod_ok {i : Int} : 0 ≤ i % r.marks ∧ i % r.marks < r.marks := ⟨Int.emod_nonneg _ (by have := r.pos; omega), Int.emod_lt_of_pos _ r.pos⟩
theorem aged_ok (T : Tight r) {x : Row} (h : RowOk r x) : RowOk r (agedRow r x) := by
  have h2 := old_ge T
  refine ⟨h.num0, h.num1, ?_, ?_, fun w hw => ?_⟩
  · have := h.old0
    simp only [agedRow]
    split <;> split <;> omega
  · simp only [agedRow]
    split <;> omega
  · obtain ⟨a, b, c⟩ := h.held w hw
    refine ⟨a, ?_, c⟩
    have hn : ¬ x.who = none := by rw [show x.who = some w from hw]; simp
    simp only [agedRow, hn, if_false, b]
    split <;> omega
end
end
end NW

/-! The law's draws: by hand, on the heap itself. -/
namespace NW
open PySem PySem.Spec PyProof.Rows L2 Evl
/-- a def by its promise -/
structure CalR (P : Program) (w : World) (K : PySem.W.Frag) (mg : Str → Option Value) (base : Heap) (k : Nat) (x : Str) (sp : Sp) : Prop where
  ex : ∃ (fa : Addr) (fd : FuncData) (ps : List Str), FnOk P w K mg base L2.CX0 k fa fd ps sp ∧ mg x = some (.ref fa) ∧ PySem.W.keepIn K (.ref fa) = true ∧ Binds K fd ps []
theorem pe_callR {X : Cx} {e : Expr} {es : List Expr} {pos : Pos} {k j : Nat} {x : Str} {sp : Sp} {ta : TA} {p : Pos} (c : CalR X.prog X.w X.K X.mg X.base k x sp) (hr : Room j X.A) (hk : k ≤ j) (hg : Gl X x) (ha : PA X (e :: es) ta)
    (hdb : (x == ("__debug__" : Str)) = false := by decide) (he : starEach (e :: es) X.env = (false, eval e X.env) :: starEach es X.env := by rfl) (hpl : (backTo pos (starEach es X.env)).any (·.1) = false := by rfl) :
    PE X (.Call (.Name x p) (e :: es) [] pos) (tCall sp [] L2.E0 ta) := by
  obtain ⟨fa, fd, ps, Fo, hm, kp, hb⟩ := c.ex
  exact pe_call Fo (hr.mono hk) hg hm kp hb .nil L2.pass0 ha hdb he hpl
theorem cal_raw {P : Program} {w : World} {K : PySem.W.Frag} {mg : Str → Option Value} {base : Heap} {x : Str} {st : Stmt} {f : Addr} {fd : FuncData} {N ps : List Str} {k : Nat} {sp : Sp} (F : FunD K x x (defArgs st) (defBody st) (defScope st) [] [] f fd) (hmg : mg x = some (.ref f)) (b : Binds K fd ps []) (S : FnScope N ps (defScope st))
    (len : ∀ vs H Q E, sp vs H Q E → vs.length = ps.length)
    (hbody : ∀ (cdv : Value) (A : Around) (outer : List Env) (s : Shared) (H : Hp) (vs : List V) (Q : VK) (E : XK), Room k (A.deeper (envOfC x (defScope st) s.heap.objs.size f cdv)) → sp vs H Q E →
      ∃ t, PSs (cxOf L2.CX0 P w K mg base N x (defScope st) f cdv A outer s H E).nox (defBody st) t ∧ t { nx := fun _ H' => Q .non H', rt := Q } (start N vs) H) : CalR P w K mg base (k + 1) x sp :=
  ⟨f, fd, ps, F.ok S len (fun cdv A outer s H vs Q E hr h => let ⟨t, h1, h2⟩ := hbody cdv A outer s H vs Q E hr h; ⟨t, PSs.nox h1, h2⟩), hmg, F.kp, b⟩
/-- the bag: a great cell's rest, a number to mix, how many draws -/
def bagL (c a n : Int) : HO := .lst [.int c, .int a, .int n]
def spBag (K : PySem.W.Frag) : Sp := fun vs H Q _ => ∃ (l : Addr) (ns : List Int) (k : Nat), vs = [.ref l, .int (k : Nat)] ∧ SqL K H l (ns.map V.int) ∧ k ≤ 100 ∧
  ∀ p c a, H p = none → 0 ≤ a → a < 998244353 → Q (.ref p) (upd H p (bagL c a 0))
def spTake : Sp := fun vs H Q _ => ∃ (p : Addr) (m c a n : Int), vs = [.ref p, .int m] ∧ H p = some (bagL c a n) ∧ (0 ≤ a ∧ a < 998244353 ∧ 0 ≤ n ∧ n ≤ 100) ∧ 0 < m ∧ m ≤ 100 ∧
  ∀ v c' n', 0 ≤ v → v < m → 0 ≤ n' → n' ≤ n + 1 → Q (.int v) (upd H p (bagL c' a n'))
def spOf : Sp := fun vs H Q _ => ∃ (p l : Addr) (xs : List V) (c a n : Int), vs = [.ref p, .ref l] ∧ H p = some (bagL c a n) ∧ l ≠ p ∧ H l = some (.lst xs) ∧ (0 ≤ a ∧ a < 998244353 ∧ 0 ≤ n ∧ n ≤ 100) ∧ 0 < xs.length ∧ xs.length ≤ 100 ∧
  ∀ v c' n', v ∈ xs → 0 ≤ n' → n' ≤ n + 1 → Q v (upd H p (bagL c' a n'))
section
variable {P : Program} {w : World} {K : PySem.W.Frag} {mg : Str → Option Value} {base : Heap} {f : Addr} {fd : FuncData}
theorem ok_law_bag (G : GF P w K mg) (F : FunD K "_law_bag" "_law_bag" (defArgs (top 85)) (defBody (top 85)) (defScope (top 85)) [] [] f fd) (hmg : mg "_law_bag" = some (.ref f)) : CalR P w K mg base 1 "_law_bag" (spBag K) := by
  have nd : (["_law_script", "_law_k", "_law_cell", "_law_mixed"] : List Str).Nodup := by decide +kernel
  refine cal_raw (N := ["_law_script", "_law_k", "_law_cell", "_law_mixed"]) (ps := ["_law_script", "_law_k"]) (k := 0) F hmg (F.bindsN fun _ _ _ _ _ _ us hl => match us, hl with | [_, _], _ => rfl) ⟨rfl, rfl, rfl, nd, rfl, by decide +kernel, by decide +kernel⟩ (fun vs H Q E h => ?_) fun cdv A outer s H vs Q E hr h => ?_
  · obtain ⟨l, ns, k, rfl, _⟩ := h; rfl
  · refine ⟨_, (pss_cons (ps_set (i := 2) nd rfl (.inl rfl) pe_int) (pss_cons (ps_if (pt_cmpR op_lt (pe_var (i := 1) rfl (.inl rfl)) (bl_one call_len_seq rfl G.len boot_len (pe_var (i := 0) rfl (.inl rfl)) rfl (by decide) (by decide)) (nomark _)) (pss_one (ps_set (i := 2) nd rfl (.inl rfl) (bl_one call_abs rfl G.abs rfl (ty_one call_int1 rfl G.int rfl (pe_ix ix_seq (pe_var (i := 0) rfl (.inl rfl)) (pe_var (i := 1) rfl (.inl rfl)) (fun _ _ => rfl)) rfl (by decide) (by decide)) rfl (by decide) (by decide)))) pss_nil) (pss_cons (ps_set (i := 3) nd rfl (.inl rfl) (pe_op op_mod (ty_one call_int1 rfl G.int rfl (pe_op op_add (pe_op op_add (pe_var (i := 2) rfl (.inl rfl)) (pe_op op_mul pe_int (pe_var (i := 1) rfl (.inl rfl)))) pe_int) rfl (by decide) (by decide)) pe_int)) (pss_one (ps_ret (pe_lst (pa_cons (pe_ifExp (pt_cmpR op_ge (pe_var (i := 2) rfl (.inl rfl)) (pe_op op_pow pe_int pe_int) (nomark _)) (pe_var (i := 2) rfl (.inl rfl)) pe_int) (pa_cons (pe_var (i := 3) rfl (.inl rfl)) (pa_cons pe_int pa_nil))))))))), ?_⟩
    obtain ⟨l, ns, k, rfl, hs, hk, q⟩ := h
    have fin : ∀ c : Int, 0 ≤ (c + 977 * (k : Int) + 11) % 998244353 ∧ (c + 977 * (k : Int) + 11) % 998244353 < 998244353 := fun c => ⟨Int.emod_nonneg _ (by decide), Int.emod_lt_of_pos _ (by decide)⟩
    refine ⟨_, rfl, _, rfl, l, _, rfl, .inl hs, _, _, rfl, rfl, _, rfl, ?_⟩
    show (if decide _ = true then _ else _)
    split
    · rename_i hlt
      have hlt' : k < ns.length := by
        have := of_decide_eq_true hlt
        rw [List.length_map] at this
        omega
      have hat : atI (ns.map V.int) ((k : Nat) : Int) = some (.int ns[k]) := by
        rw [L2.atI_nat]
        rw [List.getElem?_map, List.getElem?_eq_getElem hlt']
        rfl
      refine ⟨_, rfl, _, rfl, .inl ⟨l, _, _, _, rfl, rfl, hs, hat, ?_⟩⟩
      refine .inl ⟨_, rfl, _, rfl, ?_⟩
      generalize (if ns[k] < 0 then -ns[k] else ns[k]) = c
      refine ⟨_, rfl, _, rfl, _, _, rfl, rfl, .inl ⟨by decide, by decide⟩, _, _, rfl, rfl, _, _, rfl, rfl, .inl ⟨_, rfl, _, _, rfl, rfl, show (0 : Int) < 998244353 by decide, ?_⟩⟩
      refine ⟨_, rfl, _, _, rfl, rfl, ⟨by decide, by decide, by decide⟩, _, _, rfl, rfl, _, rfl, ?_⟩
      show (if decide _ = true then _ else _)
      split
      · exact ⟨_, rfl, _, rfl, by show 3 ≤ sizeLine; rw [sizeLine_eq]; decide, fun p hp => q p _ _ hp (fin _).1 (fin _).2⟩
      · exact ⟨_, rfl, by show 3 ≤ sizeLine; rw [sizeLine_eq]; decide, fun p hp => q p _ _ hp (fin _).1 (fin _).2⟩
    · refine ⟨_, rfl, _, rfl, _, _, rfl, rfl, .inl ⟨by decide, by decide⟩, _, _, rfl, rfl, _, _, rfl, rfl, .inl ⟨_, rfl, _, _, rfl, rfl, show (0 : Int) < 998244353 by decide, ?_⟩⟩
      refine ⟨_, rfl, _, _, rfl, rfl, ⟨by decide, by decide, by decide⟩, _, _, rfl, rfl, _, rfl, ?_⟩
      show (if decide _ = true then _ else _)
      split
      · exact ⟨_, rfl, _, rfl, by show 3 ≤ sizeLine; rw [sizeLine_eq]; decide, fun p hp => q p _ _ hp (fin _).1 (fin _).2⟩
      · exact ⟨_, rfl, by show 3 ≤ sizeLine; rw [sizeLine_eq]; decide, fun p hp => q p _ _ hp (fin _).1 (fin _).2⟩

theorem ok_law_take (G : GF P w K mg) (F : FunD K "_law_take" "_law_take" (defArgs (top 86)) (defBody (top 86)) (defScope (top 86)) [] [] f fd) (hmg : mg "_law_take" = some (.ref f)) : CalR P w K mg base 1 "_law_take" spTake := by
  have nd : (["_law_bag_here", "_law_many", "_law_first", "_law_second", "_law_found"] : List Str).Nodup := by decide +kernel
  refine cal_raw (N := ["_law_bag_here", "_law_many", "_law_first", "_law_second", "_law_found"]) (ps := ["_law_bag_here", "_law_many"]) (k := 0) F hmg (F.bindsN fun _ _ _ _ _ _ us hl => match us, hl with | [_, _], _ => rfl) ⟨rfl, rfl, rfl, nd, rfl, by decide +kernel, by decide +kernel⟩ (fun vs H Q E h => ?_) fun cdv A outer s H vs Q E hr h => ?_
  · obtain ⟨p, m, c, a, n, rfl, _⟩ := h; rfl
  · refine ⟨_, (pss_cons (ps_if (pt_cmpR op_gt (pe_ix ix_seq (pe_var (i := 0) rfl (.inl rfl)) pe_int (fun _ _ => rfl)) pe_int (nomark _)) (pss_cons (ps_set (i := 4) nd rfl (.inl rfl) (pe_op op_mod (ty_one call_int1 rfl G.int rfl (pe_ix ix_seq (pe_var (i := 0) rfl (.inl rfl)) pe_int (fun _ _ => rfl)) rfl (by decide) (by decide)) (pe_var (i := 1) rfl (.inl rfl)))) (pss_cons (ps_asg (pe_op op_fdiv (ty_one call_int1 rfl G.int rfl (pe_ix ix_seq (pe_var (i := 0) rfl (.inl rfl)) pe_int (fun _ _ => rfl)) rfl (by decide) (by decide)) (pe_var (i := 1) rfl (.inl rfl))) (pg_sub (pe_var (i := 0) rfl (.inl rfl)) pe_int set_list)) (pss_one (ps_ret (pe_var (i := 4) rfl (.inl rfl)))))) pss_nil) (pss_cons (ps_asg (pe_op op_add (pe_ix ix_seq (pe_var (i := 0) rfl (.inl rfl)) pe_int (fun _ _ => rfl)) pe_int) (pg_sub (pe_var (i := 0) rfl (.inl rfl)) pe_int set_list)) (pss_cons (ps_set (i := 2) nd rfl (.inl rfl) (pe_op op_mod (pe_op op_pow (ty_one call_int1 rfl G.int rfl (pe_op op_add (pe_ix ix_seq (pe_var (i := 0) rfl (.inl rfl)) pe_int (fun _ _ => rfl)) (pe_op op_mul pe_int (pe_ix ix_seq (pe_var (i := 0) rfl (.inl rfl)) pe_int (fun _ _ => rfl)))) rfl (by decide) (by decide)) pe_int) pe_int)) (pss_cons (ps_set (i := 3) nd rfl (.inl rfl) (pe_op op_mod (pe_op op_pow (ty_one call_int1 rfl G.int rfl (pe_op op_add (pe_var (i := 2) rfl (.inl rfl)) (pe_op op_mul pe_int (pe_ix ix_seq (pe_var (i := 0) rfl (.inl rfl)) pe_int (fun _ _ => rfl)))) rfl (by decide) (by decide)) pe_int) pe_int)) (pss_one (ps_ret (pe_op op_mod (ty_one call_int1 rfl G.int rfl (pe_op op_fdiv (pe_var (i := 3) rfl (.inl rfl)) pe_int) rfl (by decide) (by decide)) (pe_var (i := 1) rfl (.inl rfl))))))))), ?_⟩
    obtain ⟨p, m, c, a, n, rfl, h0, ⟨a0, a1, n0, n1⟩, m0, m1, q⟩ := h
    have hb : SqL K H p [.int c, .int a, .int n] := .inl (.of h0)
    refine ⟨_, rfl, .inl ⟨p, _, _, _, rfl, rfl, hb, rfl, _, _, rfl, rfl, _, rfl, ?_⟩⟩
    show (if decide _ = true then _ else _)
    split
    · refine ⟨_, rfl, .inl ⟨p, _, _, _, rfl, rfl, hb, rfl, .inl ⟨_, rfl, _, rfl, _, _, rfl, rfl, m0, ?_⟩⟩⟩
      refine ⟨_, rfl, .inl ⟨p, _, _, _, rfl, rfl, hb, rfl, .inl ⟨_, rfl, _, rfl, _, _, rfl, rfl, ⟨m0, by omega⟩, ?_⟩⟩⟩
      refine ⟨_, rfl, p, _, _, 0, rfl, rfl, h0, rfl, ?_⟩
      exact ⟨_, rfl, q _ _ n (Int.emod_nonneg _ (by omega)) (Int.emod_lt_of_pos _ m0) n0 (by omega)⟩
    · refine ⟨_, rfl, .inl ⟨p, _, _, _, rfl, rfl, hb, rfl, _, _, rfl, rfl, ?_⟩⟩
      refine ⟨_, rfl, p, _, _, 2, rfl, rfl, h0, rfl, ?_⟩
      have hb1 : SqL K (upd H p (.lst [.int c, .int a, .int (n + 1)])) p [.int c, .int a, .int (n + 1)] := .inl (.of upd_same)
      have k1 : (a + 6700417 * (n + 1)).natAbs < 2 ^ 64 := by omega
      have k2 : ∀ X : Int, (X % 2147483629 + 65537 * (n + 1)).natAbs < 2 ^ 64 := fun X => by
        have h1 := Int.emod_nonneg X (show (2147483629 : Int) ≠ 0 by decide)
        have h2 := Int.emod_lt_of_pos X (show (0 : Int) < 2147483629 by decide)
        omega
      refine ⟨_, rfl, .inl ⟨p, _, _, _, rfl, rfl, hb1, rfl, _, rfl, .inl ⟨p, _, _, _, rfl, rfl, hb1, rfl, _, _, rfl, rfl, .inl ⟨by decide, by decide⟩, _, _, rfl, rfl, .inl ⟨_, rfl, _, _, rfl, rfl, ⟨by decide, by decide, k1⟩, _, _, rfl, rfl, show (0 : Int) < 2147483629 by decide, ?_⟩⟩⟩⟩
      refine ⟨_, rfl, _, rfl, .inl ⟨p, _, _, _, rfl, rfl, hb1, rfl, _, _, rfl, rfl, .inl ⟨by decide, by decide⟩, _, _, rfl, rfl, .inl ⟨_, rfl, _, _, rfl, rfl, ⟨by decide, by decide, k2 _⟩, _, _, rfl, rfl, show (0 : Int) < 2147483587 by decide, ?_⟩⟩⟩
      refine ⟨_, rfl, _, _, rfl, rfl, ⟨by decide, by decide⟩, .inl ⟨_, rfl, _, rfl, _, _, rfl, rfl, m0, ?_⟩⟩
      exact q _ c (n + 1) (Int.emod_nonneg _ (by omega)) (Int.emod_lt_of_pos _ m0) (by omega) (Int.le_refl _)

theorem ok_law_of (G : GF P w K mg) (c_law_take : CalR P w K mg base 1 "_law_take" spTake) (F : FunD K "_law_of" "_law_of" (defArgs (top 87)) (defBody (top 87)) (defScope (top 87)) [] [] f fd) (hmg : mg "_law_of" = some (.ref f)) : CalR P w K mg base 2 "_law_of" spOf := by
  have nd : (["_law_bag_here", "_law_some"] : List Str).Nodup := by decide +kernel
  refine cal_raw (N := ["_law_bag_here", "_law_some"]) (ps := ["_law_bag_here", "_law_some"]) (k := 1) F hmg (F.bindsN fun _ _ _ _ _ _ us hl => match us, hl with | [_, _], _ => rfl) ⟨rfl, rfl, rfl, nd, rfl, by decide +kernel, by decide +kernel⟩ (fun vs H Q E h => ?_) fun cdv A outer s H vs Q E hr h => ?_
  · obtain ⟨p, l, xs, c, a, n, rfl, _⟩ := h; rfl
  · refine ⟨_, (pss_one (ps_ret (pe_ix ix_seq (pe_var (i := 1) rfl (.inl rfl)) (pe_callR c_law_take hr (by decide) rfl (pa_cons (pe_var (i := 0) rfl (.inl rfl)) (pa_cons (bl_one call_len_seq rfl G.len boot_len (pe_var (i := 1) rfl (.inl rfl)) rfl (by decide) (by decide)) pa_nil))) (fun _ _ => rfl)))), ?_⟩
    obtain ⟨p, l, xs, c, a, n, rfl, h0, hne, hl, hb, x0, x1, q⟩ := h
    refine ⟨_, rfl, _, rfl, _, rfl, l, xs, rfl, .inl (.inl (.of hl)), p, _, c, a, n, rfl, h0, hb, by omega, by omega, fun v c' n' v0 v1 g0 g1 => ?_⟩
    obtain ⟨i, rfl⟩ : ∃ i : Nat, v = (i : Nat) := ⟨v.toNat, by omega⟩
    have hi : i < xs.length := by omega
    refine .inl ⟨l, xs, _, xs[i], rfl, rfl, .inl (.of (by rw [upd_ne hne]; exact hl)), L2.atI_nat (List.getElem?_eq_getElem hi), q _ _ _ (List.getElem_mem hi) g0 g1⟩

end
end NW

/-! The law's rule is a tight one. -/
namespace NW
open PySem PySem.Spec PyProof.Rows L2 Evl
/-- all but p stays -/
def Fr (p : Addr) (H H' : Hp) : Prop := ∀ a o, a ≠ p → H a = some o → H' a = some o
theorem Fr.refl {p : Addr} {H : Hp} : Fr p H H := fun _ _ _ h => h
theorem Fr.trans {p : Addr} {H H' H2 : Hp} (a : Fr p H H') (b : Fr p H' H2) : Fr p H H2 := fun x o n h => b x o n (a x o n h)
theorem Fr.new {p q : Addr} {H : Hp} {o : HO} (h : H q = none) : Fr p H (upd H q o) := fun a u _ e => by
  rw [upd_ne (by rintro rfl; rw [h] at e; cases e)]
  exact e
theorem Fr.at {p : Addr} {H : Hp} {o : HO} : Fr p H (upd H p o) := fun a u n e => by
  rw [upd_ne n]
  exact e
def optV : Option Int → V
  | none => .non
  | some i => .int i
def cpV : Cp → V
  | .no => .str "no"
  | .same => .str "same"
  | .anew => .str "anew"
def pgV : Pg → V
  | .no => .str "no"
  | .kept => .str "kept"
  | .counted => .str "counted"
def ruleV (r : Rule) : List V := [optV r.wait, optV r.fwd, .bl r.bars, .int (if r.hops then 1 else 0), .int r.marks, optV r.life, cpV r.cp, pgV r.pg]
def spRule : Sp := fun vs H Q _ => ∃ (p : Addr) (c a : Int), vs = [.ref p, .bl true] ∧ H p = some (bagL c a 0) ∧ 0 ≤ a ∧ a < 998244353 ∧
  ∀ (r : Rule) (q : Addr) (H' : Hp), Tight r → H q = none → Fr p H H' → H' q = some (.tup (ruleV r)) → Q (.ref q) H'
theorem few_of {v : V} (h : v ∈ [V.int 0, V.int 1, V.int 1, V.int 2, V.non]) : ∃ o : Option Int, v = optV o ∧ ∀ w, o = some w → 0 ≤ w ∧ w ≤ 2 := by
  simp only [List.mem_cons, List.not_mem_nil, or_false] at h
  rcases h with rfl | rfl | rfl | rfl | rfl
  · exact ⟨some 0, rfl, fun w e => by cases e; decide⟩
  · exact ⟨some 1, rfl, fun w e => by cases e; decide⟩
  · exact ⟨some 1, rfl, fun w e => by cases e; decide⟩
  · exact ⟨some 2, rfl, fun w e => by cases e; decide⟩
  · exact ⟨none, rfl, fun w e => by cases e⟩
theorem life_of {v : V} (h : v ∈ [V.int 0, V.int 1, V.int 2, V.int 2, V.non]) : ∃ o : Option Int, v = optV o ∧ ∀ w, o = some w → 0 ≤ w ∧ w ≤ 2 := by
  refine few_of ?_
  simp only [List.mem_cons, List.not_mem_nil, or_false] at h ⊢
  rcases h with rfl | rfl | rfl | rfl | rfl <;> simp
theorem marks_of {v : V} (h : v ∈ [V.int 1, V.int 1, V.int 2]) : ∃ i : Int, v = .int i ∧ 0 < i ∧ i ≤ 2 := by
  simp only [List.mem_cons, List.not_mem_nil, or_false] at h
  rcases h with rfl | rfl | rfl
  · exact ⟨1, rfl, by decide⟩
  · exact ⟨1, rfl, by decide⟩
  · exact ⟨2, rfl, by decide⟩
theorem cp_of {v : V} (h : v ∈ [V.str "no", V.str "no", V.str "same", V.str "anew"]) : ∃ c, v = cpV c := by
  simp only [List.mem_cons, List.not_mem_nil, or_false] at h
  rcases h with rfl | rfl | rfl | rfl
  · exact ⟨.no, rfl⟩
  · exact ⟨.no, rfl⟩
  · exact ⟨.same, rfl⟩
  · exact ⟨.anew, rfl⟩
theorem pg_of {v : V} (h : v ∈ [V.str "no", V.str "no", V.str "kept", V.str "counted"]) : ∃ c, v = pgV c := by
  simp only [List.mem_cons, List.not_mem_nil, or_false] at h
  rcases h with rfl | rfl | rfl | rfl
  · exact ⟨.no, rfl⟩
  · exact ⟨.no, rfl⟩
  · exact ⟨.kept, rfl⟩
  · exact ⟨.counted, rfl⟩
section
variable {P : Program} {w : World} {K : PySem.W.Frag} {mg : Str → Option Value} {base : Heap} {f : Addr} {fd : FuncData}
theorem ok_law_rule (G : GF P w K mg) (c_law_take : CalR P w K mg base 1 "_law_take" spTake) (c_law_of : CalR P w K mg base 2 "_law_of" spOf) (F : FunD K "_law_rule" "_law_rule" (defArgs (top 88)) (defBody (top 88)) (defScope (top 88)) [] [] f fd) (hmg : mg "_law_rule" = some (.ref f)) : CalR P w K mg base 3 "_law_rule" spRule := by
  have nd : (["_law_bag_here", "_law_tight", "_law_some", "_law_lives", "_law_first", "_law_counts", "_law_second", "_law_copying"] : List Str).Nodup := by decide +kernel
  refine cal_raw (N := ["_law_bag_here", "_law_tight", "_law_some", "_law_lives", "_law_first", "_law_counts", "_law_second", "_law_copying"]) (ps := ["_law_bag_here", "_law_tight"]) (k := 2) F hmg (F.bindsN fun _ _ _ _ _ _ us hl => match us, hl with | [_, _], _ => rfl) ⟨rfl, rfl, rfl, nd, rfl, by decide +kernel, by decide +kernel⟩ (fun vs H Q E h => ?_) fun cdv A outer s H vs Q E hr h => ?_
  · obtain ⟨p, c, a, rfl, _⟩ := h; rfl
  · refine ⟨_, (pss_cons (ps_set (i := 2) nd rfl (.inl rfl) (pe_ifExp (pt_not (pt_val (pe_var (i := 1) rfl (.inl rfl)) (by intro _; rfl))) (pe_lst (pa_cons pe_int (pa_cons pe_int (pa_cons pe_int (pa_cons pe_int (pa_cons pe_non pa_nil)))))) (pe_lst (pa_cons pe_int (pa_cons pe_int (pa_cons pe_int (pa_cons pe_int (pa_cons pe_non pa_nil)))))))) (pss_cons (ps_set (i := 3) nd rfl (.inl rfl) (pe_ifExp (pt_not (pt_val (pe_var (i := 1) rfl (.inl rfl)) (by intro _; rfl))) (pe_lst (pa_cons pe_int (pa_cons pe_int (pa_cons pe_int (pa_cons pe_int (pa_cons pe_int (pa_cons pe_non (pa_cons pe_non pa_nil)))))))) (pe_lst (pa_cons pe_int (pa_cons pe_int (pa_cons pe_int (pa_cons pe_int (pa_cons pe_non pa_nil)))))))) (pss_cons (ps_set (i := 4) nd rfl (.inl rfl) (pe_tup (pa_cons (pe_callR c_law_of hr (by decide) rfl (pa_cons (pe_var (i := 0) rfl (.inl rfl)) (pa_cons (pe_var (i := 2) rfl (.inl rfl)) pa_nil))) (pa_cons (pe_callR c_law_of hr (by decide) rfl (pa_cons (pe_var (i := 0) rfl (.inl rfl)) (pa_cons (pe_var (i := 2) rfl (.inl rfl)) pa_nil))) (pa_cons (pe_cmpR op_eq (pe_callR c_law_take hr (by decide) rfl (pa_cons (pe_var (i := 0) rfl (.inl rfl)) (pa_cons pe_int pa_nil))) pe_int (nomark _)) pa_nil))))) (pss_cons (ps_set (i := 5) nd rfl (.inl rfl) (pe_ifExp (pt_val (pe_var (i := 1) rfl (.inl rfl)) (by intro _; rfl)) (pe_lst (pa_cons pe_int (pa_cons pe_int (pa_cons pe_int pa_nil)))) (pe_lst (pa_cons pe_int (pa_cons pe_int (pa_cons pe_int pa_nil)))))) (pss_cons (ps_set (i := 6) nd rfl (.inl rfl) (pe_tup (pa_cons (pe_callR c_law_take hr (by decide) rfl (pa_cons (pe_var (i := 0) rfl (.inl rfl)) (pa_cons (pe_ifExp (pt_val (pe_var (i := 1) rfl (.inl rfl)) (by intro _; rfl)) pe_int pe_int) pa_nil))) (pa_cons (pe_callR c_law_of hr (by decide) rfl (pa_cons (pe_var (i := 0) rfl (.inl rfl)) (pa_cons (pe_var (i := 5) rfl (.inl rfl)) pa_nil))) (pa_cons (pe_callR c_law_of hr (by decide) rfl (pa_cons (pe_var (i := 0) rfl (.inl rfl)) (pa_cons (pe_var (i := 3) rfl (.inl rfl)) pa_nil))) pa_nil))))) (pss_cons (ps_set (i := 7) nd rfl (.inl rfl) (pe_callR c_law_of hr (by decide) rfl (pa_cons (pe_var (i := 0) rfl (.inl rfl)) (pa_cons (pe_lst (pa_cons pe_str (pa_cons pe_str (pa_cons pe_str (pa_cons pe_str pa_nil))))) pa_nil)))) (pss_one (ps_ret (pe_op op_catA (pe_op op_catA (pe_var (i := 4) rfl (.inl rfl)) (pe_var (i := 6) rfl (.inl rfl))) (pe_tup (pa_cons (pe_var (i := 7) rfl (.inl rfl)) (pa_cons (pe_callR c_law_of hr (by decide) rfl (pa_cons (pe_var (i := 0) rfl (.inl rfl)) (pa_cons (pe_lst (pa_cons pe_str (pa_cons pe_str (pa_cons pe_str (pa_cons pe_str pa_nil))))) pa_nil))) pa_nil)))))))))))), ?_⟩
    obtain ⟨p, c, a, rfl, h0, a0, a1, q⟩ := h
    have z3 : 3 ≤ sizeLine := by rw [sizeLine_eq]; decide
    have z4 : 4 ≤ sizeLine := by rw [sizeLine_eq]; decide
    have z5 : 5 ≤ sizeLine := by rw [sizeLine_eq]; decide
    have z8 : 8 ≤ sizeLine := by rw [sizeLine_eq]; decide
    have apart : ∀ {G : Hp} {x : Addr} {o : HO}, G p = some o → G x = none → x ≠ p := fun h h' e => by rw [e, h] at h'; cases h'
    refine ⟨_, rfl, true, rfl, ?_⟩
    show (if (!true) = true then _ else _)
    rw [if_neg (by decide)]
    refine ⟨z5, fun l2 hl2 => ?_⟩
    have n2 := apart h0 hl2
    have r1 : Fr p H (upd H l2 (.lst [.int 0, .int 1, .int 1, .int 2, .non])) := Fr.new hl2
    have b1 : upd H l2 (.lst [.int 0, .int 1, .int 1, .int 2, .non]) p = some (bagL c a 0) := by rw [upd_ne (Ne.symm n2)]; exact h0
    have e1 : upd H l2 (.lst [.int 0, .int 1, .int 1, .int 2, .non]) l2 = some (.lst [.int 0, .int 1, .int 1, .int 2, .non]) := upd_same
    generalize upd H l2 (.lst [.int 0, .int 1, .int 1, .int 2, .non]) = H1 at r1 b1 e1
    refine ⟨_, rfl, true, rfl, ?_⟩
    show (if (!true) = true then _ else _)
    rw [if_neg (by decide)]
    refine ⟨z5, fun l3 hl3 => ?_⟩
    have n3 := apart b1 hl3
    have s2 : Fr p H1 (upd H1 l3 (.lst [.int 0, .int 1, .int 2, .int 2, .non])) := Fr.new hl3
    have b2 : upd H1 l3 (.lst [.int 0, .int 1, .int 2, .int 2, .non]) p = some (bagL c a 0) := by rw [upd_ne (Ne.symm n3)]; exact b1
    have e2 := s2 _ _ n2 e1
    have e3 : upd H1 l3 (.lst [.int 0, .int 1, .int 2, .int 2, .non]) l3 = some (.lst [.int 0, .int 1, .int 2, .int 2, .non]) := upd_same
    have r2 := r1.trans s2
    generalize upd H1 l3 (.lst [.int 0, .int 1, .int 2, .int 2, .non]) = H2 at r2 b2 e2 e3
    clear s2 e1 r1 b1
    -- the first three
    refine ⟨_, rfl, _, rfl, p, l2, _, c, a, 0, rfl, b2, n2, e2, ⟨a0, a1, by decide, by decide⟩, by decide, by decide, fun v1 c1 m1 hv1 g1 g1' => ?_⟩
    have b3 : upd H2 p (bagL c1 a m1) p = some (bagL c1 a m1) := upd_same
    have e4 := (Fr.at (o := bagL c1 a m1)) _ _ n2 e2
    have e5 := (Fr.at (o := bagL c1 a m1)) _ _ n3 e3
    have r3 := r2.trans (Fr.at (o := bagL c1 a m1))
    generalize upd H2 p (bagL c1 a m1) = H3 at r3 b3 e4 e5
    refine ⟨_, rfl, _, rfl, p, l2, _, c1, a, m1, rfl, b3, n2, e4, ⟨a0, a1, g1, by omega⟩, by decide, by decide, fun v2 c2 m2 hv2 g2 g2' => ?_⟩
    have b4 : upd H3 p (bagL c2 a m2) p = some (bagL c2 a m2) := upd_same
    have e6 := (Fr.at (o := bagL c2 a m2)) _ _ n3 e5
    have r4 := r3.trans (Fr.at (o := bagL c2 a m2))
    generalize upd H3 p (bagL c2 a m2) = H4 at r4 b4 e6
    refine ⟨_, rfl, p, _, c2, a, m2, rfl, b4, ⟨a0, a1, g2, by omega⟩, by decide, by decide, fun v3 c3 m3 w3 w3' g3 g3' => ?_⟩
    have b5 : upd H4 p (bagL c3 a m3) p = some (bagL c3 a m3) := upd_same
    have e7 := (Fr.at (o := bagL c3 a m3)) _ _ n3 e6
    have r5 := r4.trans (Fr.at (o := bagL c3 a m3))
    generalize upd H4 p (bagL c3 a m3) = H5 at r5 b5 e7
    refine ⟨rfl, z3, fun t4 ht4 => ?_⟩
    have n4 := apart b5 ht4
    have s6 : Fr p H5 (upd H5 t4 (.tup [v1, v2, .bl (decide (V.int v3 = V.int 0))])) := Fr.new ht4
    have b6 : upd H5 t4 (.tup [v1, v2, .bl (decide (V.int v3 = V.int 0))]) p = some (bagL c3 a m3) := by rw [upd_ne (Ne.symm n4)]; exact b5
    have e8 := s6 _ _ n3 e7
    have f4 : upd H5 t4 (.tup [v1, v2, .bl (decide (V.int v3 = V.int 0))]) t4 = some (.tup [v1, v2, .bl (decide (V.int v3 = V.int 0))]) := upd_same
    have r6 := r5.trans s6
    generalize upd H5 t4 (.tup [v1, v2, .bl (decide (V.int v3 = V.int 0))]) = H6 at r6 b6 e8 f4
    clear s6
    -- the counts
    refine ⟨_, rfl, true, rfl, ?_⟩
    show (if true = true then _ else _)
    rw [if_pos rfl]
    refine ⟨z3, fun l5 hl5 => ?_⟩
    have n5 := apart b6 hl5
    have s7 : Fr p H6 (upd H6 l5 (.lst [.int 1, .int 1, .int 2])) := Fr.new hl5
    have b7 : upd H6 l5 (.lst [.int 1, .int 1, .int 2]) p = some (bagL c3 a m3) := by rw [upd_ne (Ne.symm n5)]; exact b6
    have e9 := s7 _ _ n3 e8
    have f5 := s7 _ _ n4 f4
    have e10 : upd H6 l5 (.lst [.int 1, .int 1, .int 2]) l5 = some (.lst [.int 1, .int 1, .int 2]) := upd_same
    have r7 := r6.trans s7
    generalize upd H6 l5 (.lst [.int 1, .int 1, .int 2]) = H7 at r7 b7 e9 f5 e10
    clear s7
    -- the second three
    refine ⟨_, rfl, _, rfl, true, rfl, ?_⟩
    show (if true = true then _ else _)
    rw [if_pos rfl]
    refine ⟨p, 2, c3, a, m3, rfl, b7, ⟨a0, a1, g3, by omega⟩, by decide, by decide, fun v4 c4 m4 w4 w4' g4 g4' => ?_⟩
    have b8 : upd H7 p (bagL c4 a m4) p = some (bagL c4 a m4) := upd_same
    have e11 := (Fr.at (o := bagL c4 a m4)) _ _ n3 e9
    have f6 := (Fr.at (o := bagL c4 a m4)) _ _ n4 f5
    have e12 := (Fr.at (o := bagL c4 a m4)) _ _ n5 e10
    have r8 := r7.trans (Fr.at (o := bagL c4 a m4))
    generalize upd H7 p (bagL c4 a m4) = H8 at r8 b8 e11 f6 e12
    refine ⟨_, rfl, _, rfl, p, l5, _, c4, a, m4, rfl, b8, n5, e12, ⟨a0, a1, g4, by omega⟩, by decide, by decide, fun v5 c5 m5 hv5 g5 g5' => ?_⟩
    have b9 : upd H8 p (bagL c5 a m5) p = some (bagL c5 a m5) := upd_same
    have e13 := (Fr.at (o := bagL c5 a m5)) _ _ n3 e11
    have f7 := (Fr.at (o := bagL c5 a m5)) _ _ n4 f6
    have r9 := r8.trans (Fr.at (o := bagL c5 a m5))
    generalize upd H8 p (bagL c5 a m5) = H9 at r9 b9 e13 f7
    refine ⟨_, rfl, _, rfl, p, l3, _, c5, a, m5, rfl, b9, n3, e13, ⟨a0, a1, g5, by omega⟩, by decide, by decide, fun v6 c6 m6 hv6 g6 g6' => ?_⟩
    have b10 : upd H9 p (bagL c6 a m6) p = some (bagL c6 a m6) := upd_same
    have f8 := (Fr.at (o := bagL c6 a m6)) _ _ n4 f7
    have r10 := r9.trans (Fr.at (o := bagL c6 a m6))
    generalize upd H9 p (bagL c6 a m6) = H10 at r10 b10 f8
    refine ⟨z3, fun t6 ht6 => ?_⟩
    have n6 := apart b10 ht6
    have s11 : Fr p H10 (upd H10 t6 (.tup [.int v4, v5, v6])) := Fr.new ht6
    have b11 : upd H10 t6 (.tup [.int v4, v5, v6]) p = some (bagL c6 a m6) := by rw [upd_ne (Ne.symm n6)]; exact b10
    have f9 := s11 _ _ n4 f8
    have k6 : upd H10 t6 (.tup [.int v4, v5, v6]) t6 = some (.tup [.int v4, v5, v6]) := upd_same
    have r11 := r10.trans s11
    generalize upd H10 t6 (.tup [.int v4, v5, v6]) = H11 at r11 b11 f9 k6
    clear s11
    -- the copying
    refine ⟨_, rfl, z4, fun l7 hl7 => ?_⟩
    have n7 := apart b11 hl7
    have s12 : Fr p H11 (upd H11 l7 (.lst [.str "no", .str "no", .str "same", .str "anew"])) := Fr.new hl7
    have b12 : upd H11 l7 (.lst [.str "no", .str "no", .str "same", .str "anew"]) p = some (bagL c6 a m6) := by rw [upd_ne (Ne.symm n7)]; exact b11
    have f10 := s12 _ _ n4 f9
    have k7 := s12 _ _ n6 k6
    have e14 : upd H11 l7 (.lst [.str "no", .str "no", .str "same", .str "anew"]) l7 = some (.lst [.str "no", .str "no", .str "same", .str "anew"]) := upd_same
    have r12 := r11.trans s12
    generalize upd H11 l7 (.lst [.str "no", .str "no", .str "same", .str "anew"]) = H12 at r12 b12 f10 k7 e14
    clear s12
    refine ⟨p, l7, _, c6, a, m6, rfl, b12, n7, e14, ⟨a0, a1, g6, by omega⟩, by decide, by decide, fun v7 c7 m7 hv7 g7 g7' => ?_⟩
    have b13 : upd H12 p (bagL c7 a m7) p = some (bagL c7 a m7) := upd_same
    have f11 := (Fr.at (o := bagL c7 a m7)) _ _ n4 f10
    have k8 := (Fr.at (o := bagL c7 a m7)) _ _ n6 k7
    have r13 := r12.trans (Fr.at (o := bagL c7 a m7))
    generalize upd H12 p (bagL c7 a m7) = H13 at r13 b13 f11 k8
    -- all together
    refine ⟨_, rfl, _, rfl, _, _, _, _, rfl, rfl, .inl (.of f11), .inl (.of k8), by show 6 ≤ sizeLine; rw [sizeLine_eq]; decide, (fun h => nomatch h), (fun _ h => nomatch h), fun _ _ t9 ht9 => ?_⟩
    have n9 := apart b13 ht9
    have s14 : Fr p H13 (upd H13 t9 (.tup ([v1, v2, .bl (decide (V.int v3 = V.int 0))] ++ [.int v4, v5, v6]))) := Fr.new ht9
    have b14 : upd H13 t9 (.tup ([v1, v2, .bl (decide (V.int v3 = V.int 0))] ++ [.int v4, v5, v6])) p = some (bagL c7 a m7) := by rw [upd_ne (Ne.symm n9)]; exact b13
    have k9 : upd H13 t9 (.tup ([v1, v2, .bl (decide (V.int v3 = V.int 0))] ++ [.int v4, v5, v6])) t9 = some (.tup ([v1, v2, .bl (decide (V.int v3 = V.int 0))] ++ [.int v4, v5, v6])) := upd_same
    have r14 := r13.trans s14
    generalize upd H13 t9 (.tup ([v1, v2, .bl (decide (V.int v3 = V.int 0))] ++ [.int v4, v5, v6])) = H14 at r14 b14 k9
    clear s14
    refine ⟨_, rfl, _, rfl, z4, fun l10 hl10 => ?_⟩
    have n10 := apart b14 hl10
    have s15 : Fr p H14 (upd H14 l10 (.lst [.str "no", .str "no", .str "kept", .str "counted"])) := Fr.new hl10
    have b15 : upd H14 l10 (.lst [.str "no", .str "no", .str "kept", .str "counted"]) p = some (bagL c7 a m7) := by rw [upd_ne (Ne.symm n10)]; exact b14
    have k10 := s15 _ _ n9 k9
    have e15 : upd H14 l10 (.lst [.str "no", .str "no", .str "kept", .str "counted"]) l10 = some (.lst [.str "no", .str "no", .str "kept", .str "counted"]) := upd_same
    have r15 := r14.trans s15
    generalize upd H14 l10 (.lst [.str "no", .str "no", .str "kept", .str "counted"]) = H15 at r15 b15 k10 e15
    clear s15
    refine ⟨p, l10, _, c7, a, m7, rfl, b15, n10, e15, ⟨a0, a1, g7, by omega⟩, by decide, by decide, fun v8 c8 m8 hv8 g8 g8' => ?_⟩
    have b16 : upd H15 p (bagL c8 a m8) p = some (bagL c8 a m8) := upd_same
    have k11 := (Fr.at (o := bagL c8 a m8)) _ _ n9 k10
    have r16 := r15.trans (Fr.at (o := bagL c8 a m8))
    generalize upd H15 p (bagL c8 a m8) = H16 at r16 b16 k11
    refine ⟨by show 2 ≤ sizeLine; rw [sizeLine_eq]; decide, fun t11 ht11 => ?_⟩
    have n11 := apart b16 ht11
    have s17 : Fr p H16 (upd H16 t11 (.tup [v7, v8])) := Fr.new ht11
    have b17 : upd H16 t11 (.tup [v7, v8]) p = some (bagL c8 a m8) := by rw [upd_ne (Ne.symm n11)]; exact b16
    have k12 := s17 _ _ n9 k11
    have k13 : upd H16 t11 (.tup [v7, v8]) t11 = some (.tup [v7, v8]) := upd_same
    have r17 := r16.trans s17
    generalize upd H16 t11 (.tup [v7, v8]) = H17 at r17 b17 k12 k13
    clear s17
    refine ⟨_, _, _, _, rfl, rfl, .inl (.of k12), .inl (.of k13), z8, (fun h => nomatch h), (fun _ h => nomatch h), fun _ _ t12 ht12 => ?_⟩
    obtain ⟨o1, rfl, u1⟩ := few_of hv1
    obtain ⟨o2, rfl, u2⟩ := few_of hv2
    obtain ⟨i5, rfl, u5, u5'⟩ := marks_of hv5
    obtain ⟨o6, rfl, u6⟩ := life_of hv6
    obtain ⟨c7', rfl⟩ := cp_of hv7
    obtain ⟨c8', rfl⟩ := pg_of hv8
    have hfree : H t12 = none := by
      cases z : H t12 with
      | none => rfl
      | some o =>
        have := r17 t12 o (apart b17 ht12) z
        rw [ht12] at this
        cases this
    have hv4 : v4 = if decide (v4 = 1) = true then 1 else 0 := by
      by_cases h : v4 = 1
      · simp [h]
      · simp [h]; omega
    refine q ⟨o1, o2, decide (V.int v3 = V.int 0), decide (v4 = 1), i5, o6, c7', c8', u5⟩ t12 _ ⟨u1, u2, u5', u6⟩ hfree (r17.trans (Fr.new ht12)) ?_
    rw [upd_same]
    unfold ruleV
    simp only [← hv4]
    rfl

end
end NW

/-! The invariant is kept. -/
namespace NW
open PySem PySem.Spec L2
section
variable {r : Rule} {s t : Scene} {e : Ev} {p : Bool}
theorem thr_cases (t : Thr) : t = .no ∨ t = .out ∨ ∃ q, t = thrOf q := by
  cases t
  · exact .inl rfl
  · exact .inr (.inl rfl)
  · exact .inr (.inr ⟨false, rfl⟩)
  · exact .inr (.inr ⟨true, rfl⟩)
@[simp] theorem thrOf_no {q : Bool} : (Thr.no = thrOf q) ↔ False := by cases q <;> simp [thrOf]
@[simp] theorem thrOf_out {q : Bool} : (Thr.out = thrOf q) ↔ False := by cases q <;> simp [thrOf]
theorem thrOf_inj {q q' : Bool} (h : thrOf q = thrOf q') : q = q' := by cases q <;> cases q' <;> simp_all [thrOf]
theorem unled_aged (T : Tight r) {b : Bool} {x : Row} (h : Unled r b x) (hx : 0 ≤ x.old) : Unled r b (agedRow r x) := by
  rcases h with h | h | h | ⟨f, h1, h2⟩
  · exact .inl h
  · exact .inr (.inl h)
  · exact .inr (.inr (.inl h))
  · refine .inr (.inr (.inr ⟨f, h1, ?_⟩))
    have := (old_ge T).2.2.2 f h1
    simp only [agedRow]
    split <;> split <;> omega
theorem wf_tick (T : Tight r) (W : WF r s) (hl : lifeOk r (aged r s) = true) : WF r (aged r s) := by
  obtain ⟨age, rows, thr⟩ := s
  have ht := W.top
  have hf := W.fw
  have ho := W.off
  have hth := W.thr
  have a0 : 0 ≤ (if r.life = none then 0 else age + 1 : Int) := by
    have : 0 ≤ age := W.age0
    split <;> omega
  have aN : r.life = none → (if r.life = none then 0 else age + 1 : Int) = 0 := fun h => by simp [h]
  cases rows with
  | one x =>
    have hx : lapsed r (agedRow r x) = false := by
      have : ¬ x.fw = .next := hf
      simp [lapsed, agedRow, this]
    have e : aged r ⟨age, .one x, thr⟩ = ⟨if r.life = none then 0 else age + 1, .one (agedRow r x), thr⟩ := by
      simp [aged, agedRows, hx]
    rw [e] at hl ⊢
    refine ⟨a0, aN, hl, aged_ok T ht, hf, fun h => unled_aged T (ho h) ht.old0, fun y z h => (by cases h), fun q h => ?_⟩
    exact hth q h
  | two y x =>
    obtain ⟨y1, y2, y3, y4, y5, y6⟩ := W.two y x rfl
    have hx : lapsed r (agedRow r x) = false := by
      have : ¬ x.fw = .next := hf
      simp [lapsed, agedRow, this]
    cases hy : lapsed r (agedRow r y) with
    | true =>
      have e : aged r ⟨age, .two y x, thr⟩ = cutAt ⟨if r.life = none then 0 else age + 1, .two (agedRow r y) (agedRow r x), thr⟩ false (unled (agedRow r y)) := by
        simp [aged, agedRows, hy]
      rw [e] at hl ⊢
      have hyo := aged_ok T y1
      refine ⟨a0, aN, hl, ⟨hyo.num0, hyo.num1, hyo.old0, hyo.old1, fun w hw => absurd (show y.who = some w from hw) (by rw [y2]; simp)⟩, by simp [cutAt, Rows.top, unled], fun _ => ?_, fun y z h => (by cases h), fun q h => ?_⟩
      · have h2 := (Bool.and_eq_true_iff.mp hy).2
        refine .inr (.inr (.inr ?_))
        show ∃ f, r.fwd = some f ∧ f ≤ (agedRow r y).old
        unfold fine at h2
        cases hfw : r.fwd with
        | none => simp [hfw, agedRow, y3] at h2
        | some f => exact ⟨f, rfl, by simpa [hfw, agedRow, y3] using h2⟩
      · exfalso
        have h' : (if thr = .p1 then Thr.out else thr) = thrOf q := h
        split at h'
        · simp at h'
        · rename_i hne
          obtain ⟨q1, _⟩ := hth q h'
          have : q = true := q1.symm
          subst this
          exact hne h'
    | false =>
      have e : aged r ⟨age, .two y x, thr⟩ = ⟨if r.life = none then 0 else age + 1, .two (agedRow r y) (agedRow r x), thr⟩ := by
        simp [aged, agedRows, hx, hy]
      rw [e] at hl ⊢
      refine ⟨a0, aN, hl, aged_ok T ht, hf, fun h => unled_aged T (ho h) ht.old0, fun y' z h => ?_, fun q h => hth q h⟩
      cases h
      refine ⟨aged_ok T y1, y2, y3, y4, ?_, y6⟩
      unfold lapsed at hy
      have : (agedRow r y).fw = .next := y3
      simpa [this] using hy
theorem top_row {p : Bool} (h : topP s = p) : s.rows.top = rowAt s p := by
  unfold topP at h
  unfold rowAt Rows.top
  split at h <;> subst h <;> simp_all
theorem cut_thr (W : WF r s) (hw : (rowAt s p).who = none) (hp : has s p) {x : Row} : ∀ q, (cutAt s p x).thr ≠ thrOf q := by
  intro q h
  obtain ⟨age, rows, thr⟩ := s
  cases p with
  | false =>
    have h' : (if thr = .p1 then Thr.out else thr) = thrOf q := h
    split at h'
    · simp at h'
    · rename_i hne
      obtain ⟨q1, q2⟩ := W.thr q h'
      cases q with
      | true => exact hne h'
      | false =>
        rw [top_row q1, hw] at q2
        cases q2
  | true =>
    obtain ⟨y, z, hr⟩ := hp rfl
    have hr' : rows = .two y z := hr
    subst hr'
    have h' : thr = thrOf q := h
    obtain ⟨q1, q2⟩ := W.thr q h'
    have : q = true := q1.symm
    subst this
    rw [top_row q1, hw] at q2
    cases q2
theorem wf_cut (T : Tight r) (W : WF r s) (hw : (rowAt s p).who = none) (hp : has s p) {w : Bool} {n : Int} (n0 : 0 ≤ n) (n1 : n < r.marks) {th : Thr} (hth : ∀ q, th = thrOf q → q = p ∧ w = true) : WF r ⟨s.age, (cutAt s p ⟨some w, w, n, 0, .none⟩).rows, th⟩ := by
  obtain ⟨age, rows, thr⟩ := s
  cases p with
  | false =>
    refine ⟨W.age0, W.ageN, W.ageL, row_new T n0 n1, by simp [cutAt, Rows.top], fun h => by simp [cutAt, Rows.top] at h, fun y z h => by simp [cutAt] at h, fun q h => ?_⟩
    obtain ⟨rfl, rfl⟩ := hth q h
    exact ⟨rfl, rfl⟩
  | true =>
    obtain ⟨y, z, hr⟩ := hp rfl
    have hr' : rows = .two y z := hr
    subst hr'
    refine ⟨W.age0, W.ageN, W.ageL, row_new T n0 n1, by simp [cutAt, Rows.top], fun h => by simp [cutAt, Rows.top] at h, fun y' z' h => ?_, fun q h => ?_⟩
    · have h' : Rows.two y ⟨some w, w, n, 0, .none⟩ = .two y' z' := h
      cases h'
      exact W.two y z rfl
    · obtain ⟨rfl, rfl⟩ := hth q h
      exact ⟨rfl, rfl⟩
theorem come_eq {w b : Bool} : comeAt r s p w b = ⟨s.age, (cutAt s p ⟨some w, w, ((rowAt s p).num + (if b then 0 else 1)) % r.marks, 0, .none⟩).rows, (cutAt s p ⟨some w, w, ((rowAt s p).num + (if b then 0 else 1)) % r.marks, 0, .none⟩).thr⟩ := by
  obtain ⟨age, rows, thr⟩ := s
  unfold comeAt
  cases p <;> cases rows <;> rfl
end
end NW

/-! The invariant is kept by all steps. -/
namespace NW
open PySem PySem.Spec L2
section
variable {r : Rule} {s t : Scene} {e : Ev} {p : Bool}
theorem age_life (h : lifeOk r s = true) {rows : Rows} {th : Thr} : lifeOk r ⟨s.age, rows, th⟩ = true := h
theorem less_ne (W : WF r s) : ∀ q, less s ≠ thrOf q := fun q h => by
  unfold less at h
  split at h
  · simp at h
  · rename_i hne
    obtain ⟨q1, _⟩ := W.thr q h
    rw [← q1] at h
    exact hne h
theorem wf_put (W : WF r s) {x : Row} (hx : RowOk r x) (hf : x.fw = .none) {th : Thr} (hth : ∀ q, th ≠ thrOf q) : WF r ⟨s.age, putTop s x, th⟩ := by
  obtain ⟨age, rows, thr⟩ := s
  cases rows with
  | one y =>
    refine ⟨W.age0, W.ageN, W.ageL, hx, ?_, fun h => ?_, fun y z h => (by cases h), fun q h => absurd h (hth q)⟩
    · show x.fw ≠ .next
      rw [hf]; simp
    · have h' : x.fw = .off := h
      rw [hf] at h'
      cases h'
  | two y z =>
    refine ⟨W.age0, W.ageN, W.ageL, hx, ?_, fun h => ?_, fun y' z' h => ?_, fun q h => absurd h (hth q)⟩
    · show x.fw ≠ .next
      rw [hf]; simp
    · have h' : x.fw = .off := h
      rw [hf] at h'
      cases h'
    · have h' : Rows.two y x = .two y' z' := h
      cases h'
      exact W.two y z rfl
theorem wf_new (T : Tight r) (W : WF r s) {w : Bool} (hw : s.rows.top.who = some w) : WF r (renamed r s) := by
  obtain ⟨age, rows, thr⟩ := s
  have hh := W.top
  cases rows with
  | one x =>
    have hw' : x.who = some w := hw
    have hx : RowOk r x := hh
    have e : renamed r ⟨age, .one x, thr⟩ = if x.num = 0 ∧ r.fwd ≠ some 0 ∧ r.hops = true then ⟨age, .two ⟨none, w, x.num, 0, .next⟩ ⟨some w, w, 0, 0, .none⟩, if thr = .p0 then .p1 else thr⟩
      else ⟨age, .one ⟨none, w, x.num, 0, .off⟩, if thr = .p0 then .out else thr⟩ := by
      simp [renamed, Rows.top, hw']
    rw [e]
    split
    · rename_i hc
      obtain ⟨c1, c2, c3⟩ := hc
      refine ⟨W.age0, W.ageN, W.ageL, row_new T (Int.le_refl 0) r.pos, by simp [Rows.top], fun h => by simp [Rows.top] at h, fun y z h => ?_, fun q h => ?_⟩
      · cases h
        refine ⟨row_left T hx.num0 hx.num1, rfl, rfl, c1, ?_, c3⟩
        unfold fine
        cases hf : r.fwd with
        | none => simp [hf]
        | some f =>
          have h1 := (T.fwd f hf).1
          have h2 : f ≠ 0 := fun z => c2 (by rw [hf, z])
          simp [hf]
          omega
      · have h' : (if thr = .p0 then Thr.p1 else thr) = thrOf q := h
        split at h'
        · rename_i ht
          obtain ⟨_, q2⟩ := W.thr false ht
          have : some w = some true := hw.symm.trans q2
          cases this
          cases q with
          | true => exact ⟨rfl, rfl⟩
          | false => simp [thrOf] at h'
        · rename_i hne
          obtain ⟨q1, _⟩ := W.thr q h'
          have : q = false := q1.symm
          subst this
          exact absurd h' hne
    · rename_i hc
      refine ⟨W.age0, W.ageN, W.ageL, row_left T hx.num0 hx.num1, by simp [Rows.top], fun _ => ?_, fun y z h => (by cases h), fun q h => ?_⟩
      · by_cases c1 : x.num = 0
        · by_cases c2 : r.fwd = some 0
          · exact .inr (.inr (.inr ⟨0, c2, Int.le_refl 0⟩))
          · refine .inr (.inr (.inl ?_))
            cases h3 : r.hops with
            | false => rfl
            | true => exact absurd ⟨c1, c2, h3⟩ hc
        · exact .inl c1
      · exfalso
        have h' : (if thr = .p0 then Thr.out else thr) = thrOf q := h
        split at h'
        · simp at h'
        · rename_i hne
          obtain ⟨q1, _⟩ := W.thr q h'
          have : q = false := q1.symm
          subst this
          exact hne h'
  | two y x =>
    have hw' : x.who = some w := hw
    have hx : RowOk r x := hh
    have e : renamed r ⟨age, .two y x, thr⟩ = ⟨age, .two y ⟨none, w, x.num, 0, .off⟩, if thr = .p1 then .out else thr⟩ := by
      simp [renamed, Rows.top, hw']
    rw [e]
    refine ⟨W.age0, W.ageN, W.ageL, row_left T hx.num0 hx.num1, by simp [Rows.top], fun _ => .inr (.inl rfl), fun y' z h => ?_, fun q h => ?_⟩
    · cases h
      exact W.two y x rfl
    · exfalso
      have h' : (if thr = .p1 then Thr.out else thr) = thrOf q := h
      split at h'
      · simp at h'
      · rename_i hne
        obtain ⟨q1, _⟩ := W.thr q h'
        have : q = true := q1.symm
        subst this
        exact hne h'
theorem wf_step (T : Tight r) (W : WF r s) (h : Step r s e t) (hl : lifeOk r t = true) : WF r t := by
  cases h with
  | tick => exact wf_tick T W hl
  | take hp hw hm =>
    rw [come_eq]
    exact wf_cut T W hw hp mod_ok.1 mod_ok.2 fun q h => absurd h (cut_thr W hw hp q)
  | @chg p hp hw hm hc =>
    rw [come_eq]
    exact wf_cut T W hw hp mod_ok.1 mod_ok.2 fun q h => ⟨(thrOf_inj h).symm, rfl⟩
  | give hw => exact wf_put W (row_left T W.top.num0 W.top.num1) rfl (less_ne W)
  | new hw => exact wf_new T W hw
  | pass hw hp hn => exact wf_put W (row_new T mod_ok.1 mod_ok.2) rfl (less_ne W)
  | same hc => exact ⟨Int.le_refl 0, fun _ => rfl, hl, W.top, W.fw, W.off, W.two, W.thr⟩
  | @anew w hc hw hn =>
    obtain ⟨a, b, c⟩ := W.top.held w hw
    refine ⟨Int.le_refl 0, fun _ => rfl, hl, W.top, W.fw, fun h => ?_, fun y z h => (by cases h), fun q h => ?_⟩
    · have h' : s.rows.top.fw = .off := h
      rw [c] at h'
      cases h'
    · have h' : (if s.thr = .no then Thr.no else if s.thr = thrOf (topP s) then .p0 else .out) = thrOf q := h
      split at h'
      · simp at h'
      · split at h'
        · rename_i h2
          obtain ⟨_, q2⟩ := W.thr _ h2
          cases q with
          | false => exact ⟨rfl, q2⟩
          | true => simp [thrOf] at h'
        · simp at h'
def first : Scene := ⟨0, .one ⟨some true, true, 0, 0, .none⟩, .p0⟩
theorem wf_first (T : Tight r) : WF r first := by
  refine ⟨Int.le_refl 0, fun _ => rfl, ?_, row_new T (Int.le_refl 0) r.pos, by simp [first, Rows.top], fun h => by simp [first, Rows.top] at h, fun y z h => (by cases h), fun q h => ?_⟩
  · unfold lifeOk
    cases hl : r.life with
    | none => rfl
    | some l =>
      have := (T.life l hl).1
      exact decide_eq_true this
  · cases q with
    | false => exact ⟨rfl, rfl⟩
    | true => simp [first, thrOf] at h
theorem wf_steps (T : Tight r) (W : WF r s) (h : (e, t) ∈ steps r s) : WF r t := let ⟨h1, h2⟩ := steps_iff h; wf_step T W h1 h2
end
end NW

/-! Few scenes: numbers for them. -/
namespace NW
open PySem PySem.Spec L2
def whoN : Option Bool → Nat
  | none => 0
  | some false => 1
  | some true => 2
def fwN : Fw → Nat
  | .none => 0
  | .next => 1
  | .off => 2
def thrN : Thr → Nat
  | .no => 0
  | .out => 1
  | .p0 => 2
  | .p1 => 3
/-- a row's number, below 108 -/
def rowN (x : Row) : Nat := (((whoN x.who * 2 + (if x.last then 1 else 0)) * 2 + x.num.toNat) * 3 + x.old.toNat) * 3 + fwN x.fw
/-- a lower row's, below 12 -/
def lowN (x : Row) : Nat := ((if x.last then 1 else 0) * 2 + x.num.toNat) * 3 + x.old.toNat
def scN (s : Scene) : Nat := (match s.rows with
  | .one x => rowN x
  | .two y x => (lowN y + 1) * 108 + rowN x) * 12 + s.age.toNat * 4 + thrN s.thr
section
variable {r : Rule} {s t : Scene}
structure Small (x : Row) : Prop where
  num0 : 0 ≤ x.num
  num1 : x.num < 2
  old0 : 0 ≤ x.old
  old1 : x.old ≤ 2
theorem small_of (T : Tight r) {x : Row} (h : RowOk r x) : Small x := ⟨h.num0, by have := T.marks; have := h.num1; omega, h.old0, by have := (old_ge T).2.1; have := h.old1; omega⟩
theorem rowN_lt {x : Row} (h : Small x) : rowN x < 108 := by
  obtain ⟨h1, h2, h3, h4⟩ := h
  have a : whoN x.who ≤ 2 := by rcases x.who with _ | _ | _ <;> decide
  have b : fwN x.fw ≤ 2 := by cases x.fw <;> decide
  unfold rowN
  have e1 : x.num.toNat ≤ 1 := by omega
  have e2 : x.old.toNat ≤ 2 := by omega
  split <;> omega
theorem lowN_lt {x : Row} (h : Small x) : lowN x < 12 := by
  obtain ⟨h1, h2, h3, h4⟩ := h
  unfold lowN
  have e1 : x.num.toNat ≤ 1 := by omega
  have e2 : x.old.toNat ≤ 2 := by omega
  split <;> omega
theorem whoN_inj {a b : Option Bool} (h : whoN a = whoN b) : a = b := by rcases a with _ | _ | _ <;> rcases b with _ | _ | _ <;> simp_all [whoN]
theorem fwN_inj {a b : Fw} (h : fwN a = fwN b) : a = b := by cases a <;> cases b <;> simp_all [fwN]
theorem thrN_inj {a b : Thr} (h : thrN a = thrN b) : a = b := by cases a <;> cases b <;> simp_all [thrN]
theorem rowN_inj {x y : Row} (h : Small x) (g : Small y) (e : rowN x = rowN y) : x = y := by
  obtain ⟨who, last, num, old, fw⟩ := x
  obtain ⟨who', last', num', old', fw'⟩ := y
  obtain ⟨h1, h2, h3, h4⟩ := h
  obtain ⟨g1, g2, g3, g4⟩ := g
  simp only at h1 h2 h3 h4 g1 g2 g3 g4
  have a : whoN who ≤ 2 := by rcases who with _ | _ | _ <;> decide
  have b : fwN fw ≤ 2 := by cases fw <;> decide
  have a' : whoN who' ≤ 2 := by rcases who' with _ | _ | _ <;> decide
  have b' : fwN fw' ≤ 2 := by cases fw' <;> decide
  simp only [rowN] at e
  have f1 : fwN fw = fwN fw' := by cases last <;> cases last' <;> simp at e <;> omega
  have f2 : old = old' := by cases last <;> cases last' <;> simp at e <;> omega
  have f3 : num = num' := by cases last <;> cases last' <;> simp at e <;> omega
  have f4 : last = last' := by cases last <;> cases last' <;> simp at e <;> first | rfl | (exfalso; omega)
  have f5 : whoN who = whoN who' := by cases last <;> cases last' <;> simp at e <;> omega
  rw [fwN_inj f1, f2, f3, f4, whoN_inj f5]
theorem lowN_inj {x y : Row} (h : Small x) (g : Small y) (hw : x.who = y.who) (hf : x.fw = y.fw) (e : lowN x = lowN y) : x = y := by
  obtain ⟨who, last, num, old, fw⟩ := x
  obtain ⟨who', last', num', old', fw'⟩ := y
  obtain ⟨h1, h2, h3, h4⟩ := h
  obtain ⟨g1, g2, g3, g4⟩ := g
  simp only at h1 h2 h3 h4 g1 g2 g3 g4 hw hf
  simp only [lowN] at e
  have f2 : old = old' := by cases last <;> cases last' <;> simp at e <;> omega
  have f3 : num = num' := by cases last <;> cases last' <;> simp at e <;> omega
  have f4 : last = last' := by cases last <;> cases last' <;> simp at e <;> first | rfl | (exfalso; omega)
  rw [hf, f2, f3, f4, hw]
theorem age_le (T : Tight r) (W : WF r s) : 0 ≤ s.age ∧ s.age ≤ 2 := by
  refine ⟨W.age0, ?_⟩
  have h := W.ageL
  unfold lifeOk at h
  cases hl : r.life with
  | none => rw [W.ageN hl]; decide
  | some l =>
    rw [hl] at h
    have := (T.life l hl).2
    have := of_decide_eq_true h
    omega
theorem scN_lt (T : Tight r) (W : WF r s) : scN s < 20000 := by
  obtain ⟨a1, a2⟩ := age_le T W
  have hx := rowN_lt (small_of T W.top)
  have ht : thrN s.thr ≤ 3 := by cases s.thr <;> decide
  obtain ⟨age, rows, thr⟩ := s
  simp only at a1 a2 ht
  cases rows with
  | one x =>
    have hx' : rowN x < 108 := hx
    simp only [scN]
    omega
  | two y x =>
    have hx' : rowN x < 108 := hx
    have hy := lowN_lt (small_of T (W.two y x rfl).1)
    simp only [scN]
    omega
theorem scN_inj (T : Tight r) (W : WF r s) (W' : WF r t) (e : scN s = scN t) : s = t := by
  obtain ⟨a1, a2⟩ := age_le T W
  obtain ⟨b1, b2⟩ := age_le T W'
  have hx := small_of T W.top
  have hx' := small_of T W'.top
  have hxn := rowN_lt hx
  have hxn' := rowN_lt hx'
  obtain ⟨age, rows, thr⟩ := s
  obtain ⟨age', rows', thr'⟩ := t
  have ht : thrN thr ≤ 3 := by cases thr <;> decide
  have ht' : thrN thr' ≤ 3 := by cases thr' <;> decide
  simp only at a1 a2 b1 b2
  cases rows with
  | one x =>
    cases rows' with
    | one x' =>
      have k : rowN x < 108 := hxn
      have k' : rowN x' < 108 := hxn'
      simp only [scN] at e
      have f1 : thrN thr = thrN thr' := by omega
      have f2 : age = age' := by omega
      have f3 : rowN x = rowN x' := by omega
      have f5 : x = x' := rowN_inj hx hx' f3
      rw [thrN_inj f1, f2, f5]
    | two y' x' =>
      exfalso
      have k : rowN x < 108 := hxn
      have k' : rowN x' < 108 := hxn'
      simp only [scN] at e
      omega
  | two y x =>
    cases rows' with
    | one x' =>
      exfalso
      have k : rowN x < 108 := hxn
      have k' : rowN x' < 108 := hxn'
      simp only [scN] at e
      omega
    | two y' x' =>
      have k : rowN x < 108 := hxn
      have k' : rowN x' < 108 := hxn'
      obtain ⟨y1, y2, y3, _⟩ := W.two y x rfl
      obtain ⟨z1, z2, z3, _⟩ := W'.two y' x' rfl
      simp only [scN] at e
      have f1 : thrN thr = thrN thr' := by omega
      have f2 : age = age' := by omega
      have f3 : rowN x = rowN x' := by omega
      have f4 : lowN y = lowN y' := by omega
      have f5 : x = x' := rowN_inj hx hx' f3
      rw [thrN_inj f1, f2, f5, lowN_inj (small_of T y1) (small_of T z1) (y2.trans z2.symm) (y3.trans z3.symm) f4]
theorem nodup_map_on {α β : Type} {f : α → β} : ∀ {l : List α}, l.Nodup → (∀ x ∈ l, ∀ y ∈ l, f x = f y → x = y) → (l.map f).Nodup
  | [], _, _ => List.nodup_nil
  | x :: l, hn, h => by
    obtain ⟨h1, h2⟩ := List.nodup_cons.mp hn
    rw [List.map_cons, List.nodup_cons]
    refine ⟨fun hm => ?_, nodup_map_on h2 fun a ha b hb => h a (List.mem_cons_of_mem _ ha) b (List.mem_cons_of_mem _ hb)⟩
    obtain ⟨y, hy, e⟩ := List.mem_map.mp hm
    have := h y (List.mem_cons_of_mem _ hy) x List.mem_cons_self e
    subst this
    exact h1 hy
/-- so different scenes are few -/
theorem few (T : Tight r) {l : List Scene} (hn : l.Nodup) (hw : ∀ s ∈ l, WF r s) : l.length ≤ 20000 := by
  have h1 : (l.map scN).Nodup := nodup_map_on hn fun x hx y hy e => scN_inj T (hw x hx) (hw y hy) e
  have h2 := L2.nat_nodup_len (l.map scN) (List.range 20000) h1 fun n hm => by
    obtain ⟨s, hs, rfl⟩ := List.mem_map.mp hm
    exact List.mem_range.mpr (scN_lt T (hw s hs))
  simpa using h2
end
end NW

/-! The search, in plain Lean. -/
namespace NW
open PySem PySem.Spec L2
abbrev Par := Option (Scene × Ev)
abbrev Ent := Scene × (Par × Nat)
abbrev Found := List Ent
def push (x : Scene) (k : Nat) (st : Found × List Scene) (z : Mv) : Found × List Scene :=
  if (st.1.lookup z.2).isSome then st else (st.1 ++ [(z.2, (some (x, z.1), k + 1))], st.2 ++ [z.2])
def scan (r : Rule) (k : Nat) (st : Found × List Scene) (x : Scene) : Found × List Scene := (steps r x).foldl (push x k) st
def rise (r : Rule) (k : Nat) (f : Found) (line : List Scene) : Found × List Scene := line.foldl (scan r k) (f, [])
def bfsGo (r : Rule) : Nat → Nat → Found → List Scene → Option Found
  | 0, _, _, _ => none
  | n + 1, k, f, line => if line.isEmpty then some f else bfsGo r n (k + 1) (rise r k f line).1 (rise r k f line).2
def start0 : Found := [(first, (none, 0))]
theorem look_none {f : Found} {t : Scene} : (f.lookup t).isSome = false ↔ t ∉ f.map (·.1) := by
  induction f with
  | nil => simp
  | cons z f ih =>
    obtain ⟨u, v⟩ := z
    rw [List.lookup_cons]
    by_cases h : t = u
    · subst h; simp
    · have h2 : (t == u) = false := by simpa using h
      rw [h2]
      simp only [List.map_cons, List.mem_cons, h, false_or]
      exact ih
theorem look_some {f : Found} {t : Scene} : (f.lookup t).isSome = true ↔ t ∈ f.map (·.1) := by
  by_cases h : t ∈ f.map (·.1)
  · simp only [h, iff_true]
    cases q : (f.lookup t).isSome with
    | true => rfl
    | false => exact absurd h (look_none.mp q)
  · simp only [h, iff_false]
    rw [look_none.mpr h]
    simp
/-- an entry's parent stands before it, a level lower -/
def ParOk (r : Rule) (f : Found) (i : Nat) (z : Ent) : Prop :=
  (z.2.1 = none ∧ z.1 = first ∧ z.2.2 = 0) ∨ ∃ x e j y, z.2.1 = some (x, e) ∧ (e, z.1) ∈ steps r x ∧ j < i ∧ f[j]? = some y ∧ y.1 = x ∧ z.2.2 = y.2.2 + 1
structure Core (r : Rule) (f : Found) : Prop where
  nd : (f.map (·.1)).Nodup
  wf : ∀ z ∈ f, WF r z.1
  par : ∀ i z, f[i]? = some z → ParOk r f i z
def HasAt (f : Found) (x : Scene) (k : Nat) : Prop := ∃ z ∈ f, z.1 = x ∧ z.2.2 = k
section
variable {r : Rule} {f : Found} {x : Scene} {k : Nat} {later : List Scene}
theorem par_app {g : Found} {i : Nat} {z : Ent} (h : ParOk r f i z) (hi : i ≤ f.length) : ParOk r (f ++ g) i z := by
  rcases h with h | ⟨x, e, j, y, h1, h2, h3, h4, h5, h6⟩
  · exact .inl h
  · exact .inr ⟨x, e, j, y, h1, h2, h3, by rw [List.getElem?_append_left (by omega)]; exact h4, h5, h6⟩
theorem core_push (T : Tight r) (C : Core r f) (hx : HasAt f x k) {e : Ev} {t : Scene} (ht : (e, t) ∈ steps r x) (hn : t ∉ f.map (·.1)) : Core r (f ++ [(t, (some (x, e), k + 1))]) := by
  obtain ⟨z, hz, h1, h2⟩ := hx
  have hwf : WF r t := wf_steps T (h1 ▸ C.wf z hz) ht
  refine ⟨?_, fun y hy => ?_, fun i y hy => ?_⟩
  · rw [List.map_append, List.nodup_append]
    refine ⟨C.nd, by simp, fun a ha b hb e => ?_⟩
    have : b = t := by simpa using hb
    subst this
    subst e
    exact hn ha
  · rcases List.mem_append.mp hy with hy | hy
    · exact C.wf y hy
    · have : y = (t, (some (x, e), k + 1)) := by simpa using hy
      subst this
      exact hwf
  · by_cases hi : i < f.length
    · rw [List.getElem?_append_left hi] at hy
      exact par_app (C.par i y hy) (by omega)
    · rw [List.getElem?_append_right (by omega)] at hy
      have hi2 : i - f.length = 0 := by
        have := (List.getElem?_eq_some_iff.mp hy).1
        simp at this
        omega
      rw [hi2] at hy
      have : y = (t, (some (x, e), k + 1)) := by simpa using hy.symm
      subst this
      obtain ⟨j, hj⟩ := List.getElem?_of_mem hz
      have hjl := (List.getElem?_eq_some_iff.mp hj).1
      exact .inr ⟨x, e, j, z, rfl, ht, by omega, by rw [List.getElem?_append_left hjl]; exact hj, h1, by rw [h2]⟩
theorem hat_app {g : Found} (h : HasAt f x k) : HasAt (f ++ g) x k := let ⟨z, h1, h2⟩ := h; ⟨z, List.mem_append_left _ h1, h2⟩
/-- the moves of one scene -/
theorem scan_moves (T : Tight r) (hx : HasAt f x k) (C : Core r f) : ∀ (ms : List Mv), (∀ z ∈ ms, z ∈ steps r x) → ∃ B : Found, ms.foldl (push x k) (f, later) = (f ++ B, later ++ B.map (·.1)) ∧ (∀ b ∈ B, b.2.2 = k + 1) ∧ Core r (f ++ B) ∧ ∀ z ∈ ms, z.2 ∈ (f ++ B).map (·.1) := by
  intro ms
  induction ms generalizing f later with
  | nil => intro _; exact ⟨[], by simp, by simp, by simpa using C, by simp⟩
  | cons z ms ih =>
    intro h
    have hz := h z List.mem_cons_self
    have hr := fun y hy => h y (List.mem_cons_of_mem _ hy)
    rw [List.foldl_cons]
    by_cases hm : z.2 ∈ f.map (·.1)
    · have e : push x k (f, later) z = (f, later) := by
        unfold push
        rw [if_pos (look_some.mpr hm)]
      rw [e]
      obtain ⟨B, h1, h2, h3, h4⟩ := ih (later := later) hx C hr
      refine ⟨B, h1, h2, h3, fun y hy => ?_⟩
      rcases List.mem_cons.mp hy with rfl | hy
      · rw [List.map_append]
        exact List.mem_append_left _ hm
      · exact h4 y hy
    · have e : push x k (f, later) z = (f ++ [(z.2, (some (x, z.1), k + 1))], later ++ [z.2]) := by
        unfold push
        rw [if_neg (by rw [look_none.mpr hm]; simp)]
      rw [e]
      obtain ⟨B, h1, h2, h3, h4⟩ := ih (later := later ++ [z.2]) (hat_app hx) (core_push T C hx hz hm) hr
      refine ⟨(z.2, (some (x, z.1), k + 1)) :: B, ?_, ?_, ?_, fun y hy => ?_⟩
      · rw [h1]
        simp
      · intro b hb
        rcases List.mem_cons.mp hb with rfl | hb
        · rfl
        · exact h2 b hb
      · rw [show f ++ (z.2, (some (x, z.1), k + 1)) :: B = f ++ [(z.2, (some (x, z.1), k + 1))] ++ B by simp]
        exact h3
      · rw [show f ++ (z.2, (some (x, z.1), k + 1)) :: B = f ++ [(z.2, (some (x, z.1), k + 1))] ++ B by simp]
        rcases List.mem_cons.mp hy with rfl | hy
        · simp
        · exact h4 y hy
/-- one line -/
theorem rise_line (T : Tight r) : ∀ (line : List Scene) (f : Found) (later : List Scene), (∀ x ∈ line, HasAt f x k) → Core r f → ∃ B : Found, line.foldl (scan r k) (f, later) = (f ++ B, later ++ B.map (·.1)) ∧ (∀ b ∈ B, b.2.2 = k + 1) ∧ Core r (f ++ B) ∧
    ∀ x ∈ line, ∀ z ∈ steps r x, z.2 ∈ (f ++ B).map (·.1) := by
  intro line
  induction line with
  | nil => intro f later _ C; exact ⟨[], by simp, by simp, by simpa using C, by simp⟩
  | cons x line ih =>
    intro f later h C
    obtain ⟨B, h1, h2, h3, h4⟩ := scan_moves (later := later) T (h x List.mem_cons_self) C (steps r x) fun _ h => h
    obtain ⟨B', g1, g2, g3, g4⟩ := ih (f ++ B) (later ++ B.map (·.1)) (fun y hy => hat_app (h y (List.mem_cons_of_mem _ hy))) h3
    refine ⟨B ++ B', ?_, ?_, ?_, ?_⟩
    · rw [List.foldl_cons]
      show line.foldl (scan r k) ((steps r x).foldl (push x k) (f, later)) = _
      rw [h1, g1]
      simp
    · intro b hb
      rcases List.mem_append.mp hb with hb | hb
      · exact h2 b hb
      · exact g2 b hb
    · rw [← List.append_assoc]; exact g3
    · intro y hy z hz
      rw [← List.append_assoc]
      rcases List.mem_cons.mp hy with rfl | hy
      · rw [List.map_append]
        exact List.mem_append_left _ (h4 z hz)
      · exact g4 y hy z hz
end
end NW

/-! The search ends; what it leaves. -/
namespace NW
open PySem PySem.Spec L2
section
variable {r : Rule} {f : Found} {x : Scene} {k : Nat} {line : List Scene}
structure LInv (r : Rule) (k : Nat) (f : Found) (line : List Scene) : Prop where
  core : Core r f
  split : ∃ A Lk : Found, f = A ++ Lk ∧ Lk.map (·.1) = line ∧ (∀ z ∈ Lk, z.2.2 = k) ∧ (∀ z ∈ A, z.2.2 < k) ∧ ∀ z ∈ A, ∀ m ∈ steps r z.1, ∃ y ∈ f, y.1 = m.2 ∧ y.2.2 ≤ z.2.2 + 1
theorem LInv.rise (T : Tight r) (I : LInv r k f line) : LInv r (k + 1) (rise r k f line).1 (rise r k f line).2 ∧ ∃ B : Found, (NW.rise r k f line).1 = f ++ B ∧ (NW.rise r k f line).2 = B.map (·.1) := by
  obtain ⟨A, Lk, e1, e2, h1, h2, h3⟩ := I.split
  have hat : ∀ x ∈ line, HasAt f x k := fun x hx => by
    rw [← e2] at hx
    obtain ⟨z, hz, rfl⟩ := List.mem_map.mp hx
    exact ⟨z, by rw [e1]; exact List.mem_append_right _ hz, rfl, h1 z hz⟩
  obtain ⟨B, g1, g2, g3, g4⟩ := rise_line T line f [] hat I.core
  have er : NW.rise r k f line = (f ++ B, B.map (·.1)) := by
    unfold NW.rise
    rw [g1]
    simp
  rw [er]
  refine ⟨⟨g3, f, B, rfl, rfl, g2, fun z hz => ?_, fun z hz m hm => ?_⟩, B, rfl, rfl⟩
  · rw [e1] at hz
    rcases List.mem_append.mp hz with hz | hz
    · have := h2 z hz; omega
    · have := h1 z hz; omega
  · rw [e1] at hz
    rcases List.mem_append.mp hz with hz | hz
    · obtain ⟨y, hy, q1, q2⟩ := h3 z hz m hm
      exact ⟨y, List.mem_append_left _ hy, q1, q2⟩
    · have hx : z.1 ∈ line := by rw [← e2]; exact List.mem_map_of_mem hz
      obtain ⟨y, hy, q⟩ := List.mem_map.mp (g4 z.1 hx m hm)
      refine ⟨y, hy, q, ?_⟩
      have hk := h1 z hz
      rcases List.mem_append.mp hy with hy | hy
      · rw [e1] at hy
        rcases List.mem_append.mp hy with hy | hy
        · have := h2 y hy; omega
        · have := h1 y hy; omega
      · have := g2 y hy; omega
theorem few_f (T : Tight r) (C : Core r f) : f.length ≤ 20000 := by
  have := few T C.nd fun s hs => by
    obtain ⟨z, hz, rfl⟩ := List.mem_map.mp hs
    exact C.wf z hz
  simpa using this
theorem linv0 (T : Tight r) : LInv r 0 start0 [first] := by
  refine ⟨⟨by simp [start0], fun z hz => ?_, fun i z hz => ?_⟩, [], start0, rfl, rfl, ?_, ?_, ?_⟩
  · have : z = (first, (none, 0)) := by simpa [start0] using hz
    subst this
    exact wf_first T
  · have hz' := List.mem_of_getElem? hz
    have : z = (first, (none, 0)) := by simpa [start0] using hz'
    subst this
    exact .inl ⟨rfl, rfl, rfl⟩
  · intro z hz
    have : z = (first, (none, 0)) := by simpa [start0] using hz
    subst this
    rfl
  · simp
  · simp
/-- what the search leaves -/
structure Done (r : Rule) (out : Found) : Prop where
  core : Core r out
  closed : ∀ z ∈ out, ∀ m ∈ steps r z.1, ∃ y ∈ out, y.1 = m.2 ∧ y.2.2 ≤ z.2.2 + 1
/-- with something else done at each scene -/
def bfsW {β : Type} (r : Rule) (work : β → Scene → Nat → β) : Nat → Nat → Found → List Scene → β → Option (Found × β)
  | 0, _, _, _, _ => none
  | n + 1, k, f, line, b => if line.isEmpty then some (f, b) else bfsW r work n (k + 1) (rise r k f line).1 (rise r k f line).2 (line.foldl (fun b x => work b x k) b)
theorem go_on (T : Tight r) : ∀ (n k : Nat) (f : Found) (line : List Scene), LInv r k f line → 20002 - f.length ≤ n → 2 ≤ n → ∃ out, bfsGo r n k f line = some out ∧ Done r out ∧ (∃ B, out = f ++ B) ∧
    ∀ {β : Type} (work : β → Scene → Nat → β) (b0 b : β), (∀ A Lk : Found, f = A ++ Lk → Lk.map (·.1) = line → (∀ z ∈ Lk, z.2.2 = k) → b = A.foldl (fun b z => work b z.1 z.2.2) b0) → bfsW r work n k f line b = some (out, out.foldl (fun b z => work b z.1 z.2.2) b0) := by
  intro n
  induction n with
  | zero => intro k f line _ _ h; omega
  | succ n ih =>
    intro k f line I hn h2
    obtain ⟨A, Lk, e1, e2, a1, a2, a3⟩ := I.split
    cases line with
    | nil =>
      have hLk : Lk = [] := List.map_eq_nil_iff.mp e2
      subst hLk
      rw [List.append_nil] at e1
      refine ⟨f, rfl, ⟨I.core, fun z hz => a3 z (e1 ▸ hz)⟩, ⟨[], by simp⟩, fun {β} work b0 b hb => ?_⟩
      show some (f, b) = _
      rw [hb f [] (by simp) rfl (by simp)]
    | cons x line =>
      obtain ⟨I', B, q1, q2⟩ := I.rise T
      have hfew := few_f T I'.core
      have key : ∃ out, bfsGo r n (k + 1) (rise r k f (x :: line)).1 (rise r k f (x :: line)).2 = some out ∧ Done r out ∧ (∃ B, out = (rise r k f (x :: line)).1 ++ B) ∧ ∀ {β : Type} (work : β → Scene → Nat → β) (b0 b : β), (∀ A Lk : Found, (rise r k f (x :: line)).1 = A ++ Lk → Lk.map (·.1) = (rise r k f (x :: line)).2 → (∀ z ∈ Lk, z.2.2 = k + 1) → b = A.foldl (fun b z => work b z.1 z.2.2) b0) → bfsW r work n (k + 1) (rise r k f (x :: line)).1 (rise r k f (x :: line)).2 b = some (out, out.foldl (fun b z => work b z.1 z.2.2) b0) := by
        cases B with
        | nil =>
          have hl : (rise r k f (x :: line)).2 = [] := by rw [q2]; rfl
          obtain ⟨n', rfl⟩ : ∃ n', n = n' + 1 := ⟨n - 1, by omega⟩
          obtain ⟨A', Lk', g1, g2, g3, g4, g5⟩ := I'.split
          rw [hl] at g2
          have hLk : Lk' = [] := List.map_eq_nil_iff.mp g2
          subst hLk
          rw [List.append_nil] at g1
          refine ⟨(rise r k f (x :: line)).1, ?_, ⟨I'.core, fun z hz => g5 z (g1 ▸ hz)⟩, ⟨[], by simp⟩, fun {β} work b0 b hb => ?_⟩
          · rw [hl]; rfl
          · rw [hl] at hb ⊢
            show some (_, b) = _
            rw [hb (rise r k f (x :: line)).1 [] (by simp) rfl (by simp)]
        | cons b0 B0 =>
          refine ih (k + 1) _ _ I' ?_ ?_
          · rw [q1, List.length_append, List.length_cons]
            omega
          · rw [q1, List.length_append, List.length_cons] at hfew
            omega
      obtain ⟨out, h1, h3, ⟨B', h4⟩, h5⟩ := key
      refine ⟨out, h1, h3, ⟨B ++ B', by rw [h4, q1, List.append_assoc]⟩, fun {β} work b0 b hb => ?_⟩
      show bfsW r work n (k + 1) _ _ _ = _
      refine h5 work b0 _ fun A' Lk' u1 u2 u3 => ?_
      have hb' := hb A Lk e1 e2 a1
      have hA : A' = f := by
        rw [q1] at u1
        rw [q2] at u2
        have l1 : Lk'.length = B.length := by
          have := congrArg List.length u2
          simpa using this
        have := congrArg List.length u1
        simp only [List.length_append] at this
        have l2 : A'.length = f.length := by omega
        exact (List.append_inj u1 l2.symm).1.symm
      subst hA
      rw [hb', e1, List.foldl_append]
      have e3 : ∀ (L : Found) (b : β), (∀ z ∈ L, z.2.2 = k) → (L.map (·.1)).foldl (fun b x => work b x k) b = L.foldl (fun b z => work b z.1 z.2.2) b := by
        intro L
        induction L with
        | nil => intro b _; rfl
        | cons z L ihL =>
          intro b hL
          rw [List.map_cons, List.foldl_cons, List.foldl_cons, hL z List.mem_cons_self]
          exact ihL _ fun y hy => hL y (List.mem_cons_of_mem _ hy)
      rw [← e2]
      exact e3 Lk _ a1
/-- the search by the rule r -/
theorem search (T : Tight r) : ∃ out, bfsGo r 90000 0 start0 [first] = some out ∧ Done r out ∧ (∃ B, out = start0 ++ B) ∧ ∀ {β : Type} (work : β → Scene → Nat → β) (b : β), bfsW r work 90000 0 start0 [first] b = some (out, out.foldl (fun b z => work b z.1 z.2.2) b) := by
  obtain ⟨out, h1, h2, h3, h4⟩ := go_on T 90000 0 start0 [first] (linv0 T) (by simp [start0]) (by omega)
  refine ⟨out, h1, h2, h3, fun {β} work b => h4 work b b fun A Lk e1 e2 _ => ?_⟩
  cases A with
  | nil => rfl
  | cons a A =>
    have l1 := congrArg List.length e1
    have l2 := congrArg List.length e2
    rw [List.length_append, List.length_cons] at l1
    rw [List.length_map] at l2
    have l3 : List.length start0 = 1 := rfl
    have l4 : List.length [first] = 1 := rfl
    omega
end
end NW

/-! The program's search is this search. -/
namespace NW
open PySem PySem.Spec L2
def parD : Par → D
  | none => .non
  | some (s, e) => .tup [scD LP s, evD e]
def parE (v : Par × Nat) : D := parD v.1
def fdD (f : Found) : D := .dT (dicT LP parE f)
section
variable {r : Rule} {f : Found} {x : Scene} {k : Nat} {line later : List Scene}
theorem m_first_scene : f_first_scene [] = some (scD LP first, false) := by
  unfold f_first_scene b_first_scene
  simp
  rfl
theorem scs_len {l : List Scene} {L : Lab} : (scsD L l).length = l.length := List.length_map ..
theorem scs_app {l : List Scene} {t : Scene} {L : Lab} : scsD L (l ++ [t]) = scsD L l ++ [scD L t] := by simp [scsD]
theorem push_one {z : Mv} {a0 a1 a3 : Slot} (hf : f.length ≤ 20000) (hl : later.length ≤ 50000) :
    l_all_scenes_1 [a0, a1, .own (fdD f), a3, .own (.lst (scsD LP later)), .val (scD LP x), .val (evD z.1), .val (scD LP z.2)] =
    some (.nx [a0, a1, .own (fdD (push x k (f, later) z).1), a3, .own (.lst (scsD LP (push x k (f, later) z).2)), .val (scD LP x), .val (evD z.1), .val (scD LP z.2)]) := by
  unfold l_all_scenes_1 push
  cases h : (f.lookup z.2).isSome with
  | true => simp [fdD, inD_dic, h]
  | false =>
    have h' : f.lookup z.2 = none := by simpa using h
    have hp := putD_dic (L := LP) (f := parE) (l := f) (t := z.2) (v := (some (x, z.1), k + 1)) (d := .tup [scD LP x, evD z.1]) rfl h' (by omega)
    have ha : ∀ (ρ : Ro) (y : D), appS 4 ρ y (.own (.lst (scsD LP later))) = some (.nx (ρ.set 4 (.own (.lst (scsD LP later ++ [y]))))) := fun ρ y => appS_own (by rw [scs_len]; omega)
    simp [fdD, inD_dic, h', hp, ha, scs_app]
theorem take_next {α : Type} {l : List α} {i : Nat} {a : α} (h : l[i]? = some a) : l.take (i + 1) = l.take i ++ [a] := by
  rw [List.take_add_one, h]
  rfl
theorem scan_loop (T : Tight r) (C : Core r f) (hx : HasAt f x k) (hl : later.length ≤ 20000) {a0 a1 a3 a6 a7 : Slot} : ∃ c6 c7,
    loopF (tgT [6, 7]) l_all_scenes_1 (mvsD (steps r x)) [a0, a1, .own (fdD f), a3, .own (.lst (scsD LP later)), .val (scD LP x), a6, a7] =
    some (.nx [a0, a1, .own (fdD (scan r k (f, later) x).1), a3, .own (.lst (scsD LP (scan r k (f, later) x).2)), .val (scD LP x), c6, c7]) := by
  obtain ⟨ρ', h1, h2, b6, b7, h3⟩ := loopF_ix (enc := mvD) (tg := tgT [6, 7]) (body := l_all_scenes_1) (xs := steps r x) (b := (f, later)) (k := 0) (step := push x k)
    (R := fun i st ρ => st = ((steps r x).take i).foldl (push x k) (f, later) ∧ ∃ a6 a7, ρ = [a0, a1, .own (fdD st.1), a3, .own (.lst (scsD LP st.2)), .val (scD LP x), a6, a7])
    (fun i st ρ z hz ⟨he, a6, a7, e⟩ => by
      subst e
      rw [Nat.zero_add] at he ⊢
      obtain ⟨B, q1, q2, q3, q4⟩ := scan_moves (later := later) T hx C ((steps r x).take i) fun y hy => List.mem_of_mem_take hy
      rw [q1] at he
      have hb := few_f T q3
      rw [he]
      refine ⟨_, _, by simp only [mvD, tgT_ev, setAll_cons, setAll_nil]; rfl, .inl (push_one (k := k) hb (by simp; rw [List.length_append] at hb; omega)), ?_, _, _, rfl⟩
      rw [take_next hz, List.foldl_append, q1]
      rfl) ⟨rfl, a6, a7, rfl⟩
  refine ⟨b6, b7, ?_⟩
  rw [h3] at h1
  exact h1
theorem line_loop (T : Tight r) (C : Core r f) (hx : ∀ x ∈ line, HasAt f x k) {a1 a3 a5 a6 a7 : Slot} : ∃ c5 c6 c7,
    loopF (tgN 5) l_all_scenes_2 (scsD LP line) [.val (ruleD r), a1, .own (fdD f), a3, .own (.lst []), a5, a6, a7] =
    some (.nx [.val (ruleD r), a1, .own (fdD (rise r k f line).1), a3, .own (.lst (scsD LP (rise r k f line).2)), c5, c6, c7]) := by
  obtain ⟨ρ', h1, h2, b5, b6, b7, h3⟩ := loopF_ix (enc := scD LP) (tg := tgN 5) (body := l_all_scenes_2) (xs := line) (b := (f, ([] : List Scene))) (k := 0) (step := scan r k)
    (R := fun i st ρ => st = (line.take i).foldl (scan r k) (f, []) ∧ ∃ a5 a6 a7, ρ = [.val (ruleD r), a1, .own (fdD st.1), a3, .own (.lst (scsD LP st.2)), a5, a6, a7])
    (fun i st ρ x hz ⟨he, a5, a6, a7, e⟩ => by
      subst e
      rw [Nat.zero_add] at he ⊢
      obtain ⟨B, q1, q2, q3, q4⟩ := rise_line T (line.take i) f [] (fun y hy => hx y (List.mem_of_mem_take hy)) C
      rw [q1] at he
      have hb := few_f T q3
      have hxx : HasAt (f ++ B) x k := hat_app (hx x (List.mem_of_getElem? hz))
      obtain ⟨c6, c7, hs⟩ := scan_loop T q3 hxx (later := [] ++ B.map (·.1)) (by simp; rw [List.length_append] at hb; omega) (a0 := .val (ruleD r)) (a1 := a1) (a3 := a3) (a6 := a6) (a7 := a7)
      subst he
      refine ⟨_, _, by simp only [tgN_ev]; rfl, .inl ?_, ?_, .val (scD LP x), c6, c7, rfl⟩
      · show l_all_scenes_2 [.val (ruleD r), a1, .own (fdD (f ++ B)), a3, .own (.lst (scsD LP ([] ++ B.map (·.1)))), .val (scD LP x), a6, a7] = _
        unfold l_all_scenes_2
        simp [-loopF_cons, m_steps_of, mvsD] at hs ⊢
        exact hs
      · rw [take_next hz, List.foldl_append, q1]
        rfl) ⟨rfl, a5, a6, a7, rfl⟩
  refine ⟨b5, b6, b7, ?_⟩
  rw [h3] at h1
  exact h1
theorem while_sim (T : Tight r) {out : Found} {a1 : Slot} : ∀ (n m k : Nat) (f : Found) (line : List Scene) (a4 a5 a6 a7 : Slot), n ≤ m → LInv r k f line → bfsGo r n k f line = some out → ∃ c3 c4 c5 c6 c7,
    loopW (dCmp (notG eqD) (dPk 3) (ofE (dLst dNil))) l_all_scenes_3 m [.val (ruleD r), a1, .own (fdD f), .val (.lst (scsD LP line)), a4, a5, a6, a7] = some (.nx [.val (ruleD r), a1, .own (fdD out), c3, c4, c5, c6, c7]) := by
  intro n
  induction n with
  | zero => intro m k f line a4 a5 a6 a7 _ _ h; cases h
  | succ n ih =>
    intro m k f line a4 a5 a6 a7 hm I h
    obtain ⟨m, rfl⟩ : ∃ m', m = m' + 1 := ⟨m - 1, by omega⟩
    have hc : (dCmp (notG eqD) (dPk 3) (ofE (dLst dNil))) [.val (ruleD r), a1, .own (fdD f), .val (.lst (scsD LP line)), a4, a5, a6, a7] = some (!line.isEmpty) := by
      simp [eq_nil ok_LP]
    cases line with
    | nil =>
      have e : f = out := Option.some.inj h
      subst e
      refine ⟨.val (.lst (scsD LP [])), a4, a5, a6, a7, ?_⟩
      unfold loopW
      rw [hc]
      rfl
    | cons x line =>
      obtain ⟨A, Lk, e1, e2, h1, h2, h3⟩ := I.split
      have hat : ∀ y ∈ x :: line, HasAt f y k := fun y hy => by
        rw [← e2] at hy
        obtain ⟨z, hz, rfl⟩ := List.mem_map.mp hy
        exact ⟨z, by rw [e1]; exact List.mem_append_right _ hz, rfl, h1 z hz⟩
      obtain ⟨c5, c6, c7, hl⟩ := line_loop T I.core hat (a1 := a1) (a3 := .val (.lst (scsD LP (x :: line)))) (a5 := a5) (a6 := a6) (a7 := a7)
      obtain ⟨I', _⟩ := I.rise T
      obtain ⟨b3, b4, b5, b6, b7, hh⟩ := ih m (k + 1) _ _ (.val (.lst (scsD LP (rise r k f (x :: line)).2))) c5 c6 c7 (by omega) I' h
      refine ⟨b3, b4, b5, b6, b7, ?_⟩
      unfold loopW
      rw [hc]
      have hb : l_all_scenes_3 [.val (ruleD r), a1, .own (fdD f), .val (.lst (scsD LP (x :: line))), a4, a5, a6, a7] = some (.nx [.val (ruleD r), a1, .own (fdD (rise r k f (x :: line)).1), .val (.lst (scsD LP (rise r k f (x :: line)).2)), .val (.lst (scsD LP (rise r k f (x :: line)).2)), c5, c6, c7]) := by
        unfold l_all_scenes_3
        simp [-loopF_cons, hl]
      show (l_all_scenes_3 _).bind _ = _
      rw [hb]
      exact hh
theorem m_all_scenes (T : Tight r) {out : Found} (h : bfsGo r 90000 0 start0 [first] = some out) : f_all_scenes [ruleD r] = some (fdD out, true) := by
  obtain ⟨c3, c4, c5, c6, c7, hw⟩ := while_sim T 90000 fuel 0 start0 [first] .un .un .un .un (by decide) (linv0 T) h (a1 := .val (scD LP first))
  unfold f_all_scenes b_all_scenes dWhile
  have e0 : D.dT [(scD LP first, .non)] = fdD start0 := rfl
  have e1 : [scD LP first] = scsD LP [first] := rfl
  have ok1 : keyOk (scD LP first) = true := sc_ok
  simp [m_first_scene, ok1]
  rw [e0, e1, hw]
  simp
end
end NW

/-! The way to a scene. -/
namespace NW
open PySem PySem.Spec L2
def wayGo (f : Found) : Nat → Scene → List Mv → Option (List Mv)
  | 0, _, _ => none
  | n + 1, s, rows => match f.lookup s with
    | none => none
    | some (none, _) => some rows
    | some (some (x, e), _) => wayGo f n x ((e, s) :: rows)
/-- the way from the first scene, by the parents; where its scenes stand -/
inductive Tree (r : Rule) (f : Found) : Nat → Scene → List Mv → Prop where
  | root {i : Nat} {z : Ent} : f[i]? = some z → z.1 = first → z.2.1 = none → Tree r f i first []
  | more {i j : Nat} {z y : Ent} {e : Ev} {l : List Mv} : f[i]? = some z → z.2.1 = some (y.1, e) → (e, z.1) ∈ steps r y.1 → j < i → f[j]? = some y → z.2.2 = y.2.2 + 1 → Tree r f j y.1 l → Tree r f i z.1 (l ++ [(e, z.1)])
section
variable {r : Rule} {f : Found} {x : Scene} {k : Nat} {line later : List Scene}
theorem look_at : ∀ {f : Found}, (f.map (·.1)).Nodup → ∀ {z : Ent}, z ∈ f → f.lookup z.1 = some z.2
  | [], _, z, h => by cases h
  | y :: f, hn, z, h => by
    rw [List.map_cons, List.nodup_cons] at hn
    obtain ⟨h1, h2⟩ := hn
    obtain ⟨u, v⟩ := y
    rw [List.lookup_cons]
    rcases List.mem_cons.mp h with rfl | h
    · simp
    · have hne : (z.1 == u) = false := by
        have : z.1 ≠ u := fun q => h1 (List.mem_map.mpr ⟨z, h, q⟩)
        simpa using this
      rw [hne]
      exact look_at h2 h
theorem tree_of (C : Core r f) : ∀ (i : Nat) (z : Ent), f[i]? = some z → ∃ l, Tree r f i z.1 l ∧ l.length = z.2.2 ∧ ∀ n, i < n → ∀ rows, wayGo f n z.1 rows = some (l ++ rows) := by
  intro i
  induction i using Nat.strongRecOn with
  | _ i ih =>
    intro z hz
    have hl := look_at C.nd (List.mem_of_getElem? hz)
    rcases C.par i z hz with ⟨h1, h2, h3⟩ | ⟨x, e, j, y, h1, h2, h3, h4, h5, h6⟩
    · refine ⟨[], ?_, h3.symm, fun n hn rows => ?_⟩
      · rw [h2]
        exact .root hz h2 h1
      · obtain ⟨n, rfl⟩ : ∃ m, n = m + 1 := ⟨n - 1, by omega⟩
        obtain ⟨s, p, lv⟩ := z
        simp only at h1
        subst h1
        unfold wayGo
        rw [hl]
        rfl
    · subst h5
      obtain ⟨l, t1, t2, t3⟩ := ih j h3 y h4
      refine ⟨l ++ [(e, z.1)], .more hz h1 h2 h3 h4 h6 t1, by rw [List.length_append, t2, h6]; rfl, fun n hn rows => ?_⟩
      obtain ⟨n, rfl⟩ : ∃ m, n = m + 1 := ⟨n - 1, by omega⟩
      obtain ⟨s, p, lv⟩ := z
      simp only at h1
      subst h1
      unfold wayGo
      rw [hl]
      show wayGo f n y.1 _ = _
      rw [t3 n (by omega)]
      simp
theorem way_while {out : Found} : ∀ (n m : Nat) (s : Scene) (rows l : List Mv) (a3 a4 : Slot), n ≤ m → rows.length + n ≤ 90000 → wayGo out n s rows = some l → ∃ c1 c3 c4,
    loopW (dCmp (notG isD) (dOp ixD (dPk 0) (dPk 1)) (dC .non)) l_way_to_1 m [.val (fdD out), .val (scD LP s), .val (.lst (mvsD rows)), a3, a4] = some (.nx [.val (fdD out), c1, .val (.lst (mvsD l)), c3, c4]) := by
  intro n
  induction n with
  | zero => intro m s rows l a3 a4 _ _ h; cases h
  | succ n ih =>
    intro m s rows l a3 a4 hm hb h
    obtain ⟨m, rfl⟩ : ∃ m', m = m' + 1 := ⟨m - 1, by omega⟩
    unfold wayGo at h
    split at h
    · cases h
    · rename_i lv hlk
      cases h
      refine ⟨.val (scD LP s), a3, a4, ?_⟩
      unfold loopW
      simp [fdD, ixD_dic, hlk, parE, parD]
    · rename_i x e lv hlk
      obtain ⟨c1, c3, c4, hh⟩ := ih m x ((e, s) :: rows) l (.val (scD LP x)) (.val (evD e)) (by omega) (by rw [List.length_cons]; omega) h
      refine ⟨c1, c3, c4, ?_⟩
      have hbd : l_way_to_1 [.val (fdD out), .val (scD LP s), .val (.lst (mvsD rows)), a3, a4] = some (.nx [.val (fdD out), .val (scD LP x), .val (.lst (mvsD ((e, s) :: rows))), .val (scD LP x), .val (evD e)]) := by
        have hlen : 1 + (mvsD rows).length ≤ 100000 := by rw [mvs_len]; omega
        unfold l_way_to_1
        simp [fdD, ixD_dic, hlk, parE, parD]
        rw [if_pos (by omega)]
        simp [mvsD, mvD]
      unfold loopW
      have hc : (dCmp (notG isD) (dOp ixD (dPk 0) (dPk 1)) (dC .non)) [.val (fdD out), .val (scD LP s), .val (.lst (mvsD rows)), a3, a4] = some true := by
        simp [fdD, ixD_dic, hlk, parE, parD]
      rw [hc]
      show (l_way_to_1 _).bind _ = _
      rw [hbd]
      exact hh
theorem m_way_to {out : Found} {s : Scene} {l : List Mv} {n : Nat} (hn : n ≤ 50000) (h : wayGo out n s [] = some l) : f_way_to [fdD out, scD LP s] = some (.lst (mvsD l), false) := by
  obtain ⟨c1, c3, c4, hh⟩ := way_while n fuel s [] l .un .un (by have : fuel = 100000 := rfl; omega) (by simp; omega) h
  unfold f_way_to b_way_to dWhile
  simp at hh ⊢
  rw [hh]
  simp
end
end NW

/-! The harms that are found. -/
namespace NW
open PySem PySem.Spec L2
abbrev Pair := Harm × Doer
def pairD (p : Pair) : D := .tup [hD p.1, doD p.2]
theorem pair_key {p q : Pair} : (pairD p).key = (pairD q).key ↔ p = q := by
  refine ⟨fun h => ?_, fun h => by rw [h]⟩
  obtain ⟨a, b⟩ := p
  obtain ⟨c, d⟩ := q
  cases a <;> cases b <;> cases c <;> cases d <;> simp_all [pairD, hD, doD, hS, dS', D.key, keyL, ofS_inj]
theorem pair_ok {p : Pair} : keyOk (pairD p) = true := by
  obtain ⟨a, b⟩ := p
  cases a <;> cases b <;> decide +kernel
def dicP {α : Type} (f : α → D) (l : List (Pair × α)) : List (D × D) := l.map fun z => (pairD z.1, f z.2)
section
variable {α : Type} {f : α → D} {l : List (Pair × α)} {t : Pair} {v : α}
theorem look_dicP : lookT (dicP f l) (pairD t) = (l.lookup t).map f := by
  unfold lookT dicP
  induction l with
  | nil => rfl
  | cons z l ih =>
    obtain ⟨u, v⟩ := z
    rw [List.map_cons, List.find?_cons, List.lookup_cons]
    by_cases h : u = t
    · subst h
      simp
    · have h1 : ¬ (pairD u).key = (pairD t).key := fun z => h (pair_key.mp z)
      have h2 : (t == u) = false := by simpa using fun z => h z.symm
      rw [h2]
      simp only [h1, decide_false, Bool.false_eq_true]
      exact ih
theorem inD_dicP : inD (pairD t) (.dT (dicP f l)) = some (l.lookup t).isSome := by
  show (if keyOk (pairD t) then some (lookT _ _).isSome else none) = _
  rw [pair_ok, if_pos rfl, look_dicP]
  simp
theorem len_dicP : (dicP f l).length = l.length := List.length_map ..
theorem putD_dicP {d : D} (hd : d = f v) (h : l.lookup t = none) (hl : l.length < 100000) : putD (.dT (dicP f l)) (pairD t) d = some (.dT (dicP f (l ++ [(t, v)]))) := by
  subst hd
  have hput : putT (dicP f l) (pairD t) (f v) = dicP f (l ++ [(t, v)]) := by
    unfold putT
    rw [look_dicP, h]
    simp [dicP]
  show (if ok _ && keyOk (pairD t) then some (D.dT (putT _ _ _)) else none) = _
  rw [pair_ok, hput, len_dicP]
  have : l.length + 1 ≤ 100000 := hl
  simp [this]
theorem ixD_dicP : ixD (.dT (dicP f l)) (pairD t) = (l.lookup t).map f := by
  show (if keyOk (pairD t) then lookT _ _ else none) = _
  rw [pair_ok, if_pos rfl, look_dicP]
theorem pairs6 {l : List (Pair × α)} (h : (l.map (·.1)).Nodup) : l.length ≤ 6 := by
  have := L2.nat_nodup_len ((l.map (·.1)).map fun p : Pair => (match p.1 with | .astray => 0 | .lost => 3) + (match p.2 with | .meant => 0 | .other => 1 | .time => 2)) (List.range 6) (nodup_map_on h fun x _ y _ e => by
    obtain ⟨a, b⟩ := x
    obtain ⟨c, d⟩ := y
    cases a <;> cases b <;> cases c <;> cases d <;> simp_all) fun n hn => by
      obtain ⟨p, _, rfl⟩ := List.mem_map.mp hn
      obtain ⟨a, b⟩ := p
      cases a <;> cases b <;> decide
  simpa using this
end
/-! who does it, on both sides -/
def doerL : By → Doer
  | .time => .time
  | .me => .meant
  | .you => .other
section
variable {r : Rule} {s t : Scene} {e : Ev} {f : Found} {k : Nat}
theorem ok_place (W : WF r s) (h : Step r s e t) : okPlace s e := by
  have hasTop : has s (topP s) := fun h => by
    unfold topP at h
    split at h
    · cases h
    · rename_i y x hr
      exact ⟨y, x, hr⟩
  cases h with
  | tick => exact ⟨fun p h => by simp [placeOf] at h, fun p h => by cases h⟩
  | take _ _ _ => exact ⟨fun p h => by simp [placeOf] at h, fun p h => by cases h⟩
  | @chg p hp hw hm hc =>
    unfold chgOk at hc
    refine ⟨fun q h => ?_, fun q h => ?_⟩
    · rcases thr_cases s.thr with h1 | h1 | ⟨q', h1⟩
      · rw [h1] at hc; simp at hc
      · rw [h1] at h; simp [placeOf] at h
      · obtain ⟨h2, _⟩ := W.thr q' h1
        have : q = q' := by
          rw [h1] at h
          cases q' <;> simp [thrOf, placeOf] at h <;> exact h
        subst this
        rw [← h2]
        exact hasTop
    · injection h with h1
      rw [h1] at hc
      simp at hc
  | give _ => exact ⟨fun p h => by simp [placeOf] at h; subst h; exact hasTop, fun p h => by cases h⟩
  | new _ => exact ⟨fun p h => by simp [placeOf] at h; subst h; exact hasTop, fun p h => by cases h⟩
  | pass _ _ _ => exact ⟨fun p h => by simp [placeOf] at h; subst h; exact hasTop, fun p h => by cases h⟩
  | same _ => exact ⟨fun p h => by simp [placeOf] at h, fun p h => by cases h⟩
  | anew _ _ _ => exact ⟨fun p h => by simp [placeOf] at h, fun p h => by cases h⟩
theorem doer_same (W : WF r s) (h : Step r s e t) : doerP s e = doerL (byOf s e) := by
  cases h with
  | tick => rfl
  | @take p w b _ _ _ => cases w <;> rfl
  | @chg p hp hw hm hc =>
    show doerP s (.chg s.thr p) = .meant
    rcases thr_cases s.thr with h1 | h1 | ⟨q', h1⟩
    · unfold chgOk at hc
      rw [h1] at hc; simp at hc
    · rw [h1]; rfl
    · obtain ⟨h2, h3⟩ := W.thr q' h1
      rw [top_row h2] at h3
      rw [h1]
      cases q' <;> simp [thrOf, doerP, placeOf, h3]
  | @give w hw =>
    rw [top_row rfl] at hw
    cases w <;> simp [doerP, placeOf, hw, byOf, doerL, byW, top_row rfl]
  | @new w hw =>
    rw [top_row rfl] at hw
    cases w <;> simp [doerP, placeOf, hw, byOf, doerL, byW, top_row rfl]
  | @pass w to hw _ _ =>
    rw [top_row rfl] at hw
    cases w <;> simp [doerP, placeOf, hw, byOf, doerL, byW, top_row rfl]
  | same _ => rfl
  | anew _ _ _ => rfl
/-- the harm of a move -/
def pairOf (s : Scene) (m : Mv) : Option Pair := match status m.2 with
  | none => none
  | some h => if status s = some h then none else some (h, doerP s m.1)
abbrev Known := List (Pair × List Mv)
def knStep (s : Scene) (way : List Mv) (kn : Known) (m : Mv) : Known := match pairOf s m with
  | none => kn
  | some p => if (kn.lookup p).isSome then kn else kn ++ [(p, way ++ [m])]
def wayD (l : List Mv) : D := .lst (mvsD l)
def knD (kn : Known) : D := .dT (dicP wayD kn)
theorem look_noneP {α : Type} {l : List (Pair × α)} {t : Pair} : l.lookup t = none ↔ t ∉ l.map (·.1) := by
  induction l with
  | nil => simp
  | cons z l ih =>
    obtain ⟨u, v⟩ := z
    rw [List.lookup_cons]
    by_cases h : t = u
    · subst h; simp
    · have h2 : (t == u) = false := by simpa using h
      rw [h2]
      simp only [List.map_cons, List.mem_cons, h, false_or]
      exact ih
theorem kn_nodup {way : List Mv} {kn : Known} {m : Mv} (h : (kn.map (·.1)).Nodup) : ((knStep s way kn m).map (·.1)).Nodup := by
  unfold knStep
  split
  · exact h
  · rename_i p hp
    split
    · exact h
    · rename_i hn
      have hn' : kn.lookup p = none := by
        cases q : kn.lookup p with
        | none => rfl
        | some v => rw [q] at hn; exact absurd rfl hn
      rw [List.map_append, List.nodup_append]
      refine ⟨h, by simp, fun a ha b hb e => ?_⟩
      have : b = p := by simpa using hb
      subst this
      subst e
      exact look_noneP.mp hn' ha
end
end NW

/-! found_harms. -/
namespace NW
open PySem PySem.Spec L2
section
variable {r : Rule} {s t : Scene} {e : Ev} {f out : Found} {k : Nat} {kn : Known}
@[simp] theorem isN_oh {h : Option Harm} : (ohD h).isN = decide (h = none) := by cases h <;> rfl
@[simp] theorem eq_oh {a b : Option Harm} : eqD (ohD a) (ohD b) = some (decide (a = b)) := by
  rcases a with _ | _ | _ <;> rcases b with _ | _ | _ <;> simp [ohD, hD, hS, ofS_inj]
@[simp] theorem isN_h {h : Harm} : (hD h).isN = false := rfl
@[simp] theorem eq_ho {a : Harm} {b : Option Harm} : eqD (hD a) (ohD b) = some (decide (some a = b)) := eq_oh (a := some a)
theorem pair_lit {h : Harm} {d : Doer} : D.tup [hD h, doD d] = pairD (h, d) := rfl
theorem oh_some {h : Harm} : ohD (some h) = hD h := rfl
theorem fh_one {z : Mv} {l : List Mv} {a6 : Slot} (hp : okPlace s z.1) (hn : (kn.map (·.1)).Nodup) (hw : f_way_to [fdD out, scD LP s] = some (.lst (mvsD l), false)) (hl : l.length ≤ 30000) : ∃ c6,
    l_found_harms_1 [.val (ruleD r), .own (knD kn), .val (fdD out), .val (scD LP s), .val (evD z.1), .val (scD LP z.2), a6] = some (.nx [.val (ruleD r), .own (knD (knStep s l kn z)), .val (fdD out), .val (scD LP s), .val (evD z.1), .val (scD LP z.2), c6]) := by
  refine ⟨.val (ohD (status z.2)), ?_⟩
  unfold l_found_harms_1 knStep pairOf
  cases h1 : status z.2 with
  | none => simp [m_status, h1]
  | some h =>
    by_cases h2 : status s = some h
    · simp [m_status, h1, h2]
    · have h2' : ¬ some h = status s := fun q => h2 q.symm
      cases h3 : (kn.lookup (h, doerP s z.1)).isSome with
      | true =>
        have h3' : inD (pairD (h, doerP s z.1)) (knD kn) = some true := by rw [knD, inD_dicP, h3]
        simp [m_status, h1, h2, h2', m_doer_of hp, oh_some, pair_lit, h3', h3]
      | false =>
        have h3' : inD (pairD (h, doerP s z.1)) (knD kn) = some false := by rw [knD, inD_dicP, h3]
        have h4 : kn.lookup (h, doerP s z.1) = none := by
          cases q : kn.lookup (h, doerP s z.1) with
          | none => rfl
          | some v => rw [q] at h3; cases h3
        have h5 := putD_dicP (f := wayD) (l := kn) (t := (h, doerP s z.1)) (v := l ++ [z]) (d := .lst (mvsD l ++ [mvD z])) (by simp [wayD, mvsD]) h4 (by have := pairs6 hn; omega)
        have hlen : (mvsD l).length + 1 ≤ 100000 := by rw [mvs_len]; omega
        simp [m_status, h1, h2, h2', m_doer_of hp, oh_some, pair_lit, h3', h3, hw, hlen]
        rw [show D.tup [evD z.1, scD LP z.2] = mvD z from rfl]
        simp [knD, h5, h4]
theorem fh_scene (W : WF r s) {l : List Mv} {a4 a5 a6 : Slot} (hn : (kn.map (·.1)).Nodup) (hw : f_way_to [fdD out, scD LP s] = some (.lst (mvsD l), false)) (hl : l.length ≤ 30000) : ∃ c4 c5 c6,
    l_found_harms_2 [.val (ruleD r), .own (knD kn), .val (fdD out), .val (scD LP s), a4, a5, a6] = some (.nx [.val (ruleD r), .own (knD ((steps r s).foldl (knStep s l) kn)), .val (fdD out), .val (scD LP s), c4, c5, c6]) ∧ (((steps r s).foldl (knStep s l) kn).map (·.1)).Nodup := by
  obtain ⟨ρ', h1, h2, b4, b5, b6, h3⟩ := loopF_ix (enc := mvD) (tg := tgT [4, 5]) (body := l_found_harms_1) (xs := steps r s) (b := kn) (k := 0) (step := knStep s l)
    (R := fun i b ρ => (b.map (·.1)).Nodup ∧ ∃ a4 a5 a6, ρ = [.val (ruleD r), .own (knD b), .val (fdD out), .val (scD LP s), a4, a5, a6])
    (fun i b ρ z hz ⟨hb, a4, a5, a6, e⟩ => by
      subst e
      obtain ⟨hs, _⟩ := steps_iff (List.mem_of_getElem? hz)
      obtain ⟨c6, h⟩ := fh_one (r := r) (out := out) (z := z) (a6 := a6) (ok_place W hs) hb hw hl
      exact ⟨_, _, by simp only [mvD, tgT_ev, setAll_cons, setAll_nil]; rfl, .inl h, kn_nodup hb, _, _, _, rfl⟩) ⟨hn, a4, a5, a6, rfl⟩
  refine ⟨b4, b5, b6, ?_, h2⟩
  rw [h3] at h1
  unfold l_found_harms_2
  simp [-loopF_cons, m_steps_of, mvsD]
  exact h1
def wayOf (out : Found) (s : Scene) : List Mv := (wayGo out 30000 s []).getD []
def knAll (r : Rule) (out : Found) : Known := out.foldl (fun kn z => (steps r z.1).foldl (knStep z.1 (wayOf out z.1)) kn) []
theorem way_of (T : Tight r) (C : Core r out) {i : Nat} {z : Ent} (hz : out[i]? = some z) : ∃ l, Tree r out i z.1 l ∧ l.length = z.2.2 ∧ wayOf out z.1 = l ∧ l.length ≤ 20000 ∧ f_way_to [fdD out, scD LP z.1] = some (.lst (mvsD l), false) := by
  have hi := (List.getElem?_eq_some_iff.mp hz).1
  have hf := few_f T C
  obtain ⟨l, t1, t2, t3⟩ := tree_of C i z hz
  have t4 := t3 30000 (by omega) []
  rw [List.append_nil] at t4
  refine ⟨l, t1, t2, by unfold wayOf; rw [t4]; rfl, ?_, m_way_to (by omega) t4⟩
  -- a way is no longer than its place
  have : ∀ {i s l}, Tree r out i s l → l.length ≤ i := by
    intro i s l t
    induction t with
    | root _ _ _ => exact Nat.zero_le _
    | more _ _ _ hj _ _ _ ih => rw [List.length_append]; simp; omega
  have := this t1
  omega
theorem m_found_harms (T : Tight r) (h : bfsGo r 90000 0 start0 [first] = some out) (C : Core r out) : f_found_harms [ruleD r] = some (knD (knAll r out), true) ∧ ((knAll r out).map (·.1)).Nodup := by
  obtain ⟨ρ', h1, h2, b3, b4, b5, b6, h3⟩ := loopF_ix (enc := fun z : Ent => scD LP z.1) (tg := tgN 3) (body := l_found_harms_2) (xs := out) (b := ([] : Known)) (k := 0) (step := fun kn z => (steps r z.1).foldl (knStep z.1 (wayOf out z.1)) kn)
    (ρ := [.val (ruleD r), .own (knD []), .val (fdD out), .un, .un, .un, .un])
    (R := fun i b ρ => (b.map (·.1)).Nodup ∧ ∃ a3 a4 a5 a6, ρ = [.val (ruleD r), .own (knD b), .val (fdD out), a3, a4, a5, a6])
    (fun i b ρ z hz ⟨hb, a3, a4, a5, a6, e⟩ => by
      subst e
      obtain ⟨l, t1, t2, t3, t4, t5⟩ := way_of T C hz
      obtain ⟨c4, c5, c6, h, hn⟩ := fh_scene (a4 := a4) (a5 := a5) (a6 := a6) (C.wf z (List.mem_of_getElem? hz)) hb t5 (by omega)
      rw [t3]
      exact ⟨_, _, by simp only [tgN_ev]; rfl, .inl h, hn, _, _, _, _, rfl⟩) ⟨by simp, .un, .un, .un, .un, rfl⟩
  refine ⟨?_, h2⟩
  unfold f_found_harms b_found_harms
  have e0 : D.dT [] = knD [] := rfl
  have ek : keysT (dVar 2) [.val (ruleD r), .own (knD []), .val (fdD out), .un, .un, .un, .un] = some (out.map fun z => scD LP z.1) := by
    unfold keysT
    simp [fdD, dicT]
  simp [m_all_scenes T h, e0]
  rw [ek]
  simp only [Option.bind_some]
  rw [h1, h3]
  simp [knAll]
end
end NW

/-! The law's search. -/
namespace NW
open PySem PySem.Spec L2
abbrev Due := List (Pair × Nat)
def dueStep (s : Scene) (n : Nat) (due : Due) (m : Mv) : Due := match pairOf s m with
  | none => due
  | some p => if (due.lookup p).isSome then due else due ++ [(p, n)]
def natD (n : Nat) : D := .int n
def dueD (l : Due) : D := .dT (dicP natD l)
def yesE (v : Par × Nat) : D := .bl true
def kwD (f : Found) : D := .dT (dicT LX yesE f)
section
variable {r : Rule} {s t x : Scene} {e : Ev} {f out : Found} {k : Nat} {due : Due} {later line : List Scene}
theorem th_by {b : By} : get2D (.dS (litS [("time", .str "time"), ("x", .str "meant")])) (byD b) (.str "other") = some (doD (doerL b)) := by
  cases b <;> simp [litS, putS, byD, lookS, doD, doerL, dS', get2D_S, ofS_inj]
theorem put_same {α : Type} {g : α → D} {l : List (Pair × α)} {p : Pair} {v : α} (hn : (l.map (·.1)).Nodup) (h : l.lookup p = some v) : putT (dicP g l) (pairD p) (g v) = dicP g l := by
  unfold putT
  rw [look_dicP, h]
  simp only [Option.map_some, Option.isSome_some, if_true]
  unfold dicP
  rw [List.map_map]
  refine List.map_congr_left fun z hz => ?_
  show (if (pairD z.1).key = (pairD p).key then (pairD z.1, g v) else (pairD z.1, g z.2)) = _
  split
  · rename_i hk
    have e := pair_key.mp hk
    have : l.lookup z.1 = some z.2 := by
      clear h hk e
      induction l with
      | nil => cases hz
      | cons y l ih =>
        rw [List.map_cons, List.nodup_cons] at hn
        obtain ⟨u, w⟩ := y
        rw [List.lookup_cons]
        rcases List.mem_cons.mp hz with rfl | hz
        · simp
        · have hne : (z.1 == u) = false := by
            have : z.1 ≠ u := fun q => hn.1 (List.mem_map.mpr ⟨z, hz, q⟩)
            simpa using this
          rw [hne]
          exact ih hn.2 hz
    rw [e, h] at this
    rw [Option.some.inj this]
  · rfl
theorem due_put {p : Pair} {n : Nat} (hn : (due.map (·.1)).Nodup) : putD (dueD due) (pairD p) (natD ((due.lookup p).getD n)) = some (dueD (if (due.lookup p).isSome then due else due ++ [(p, n)])) := by
  have h6 := pairs6 hn
  cases h : due.lookup p with
  | none =>
    have hp := putD_dicP (f := natD) (l := due) (t := p) (v := n) (d := natD n) rfl h (by omega)
    exact hp
  | some v =>
    show (if ok _ && keyOk (pairD p) then some (D.dT (putT _ _ _)) else none) = _
    rw [pair_ok]
    have e : ok ((dicP natD due).length + 1) = true := by
      rw [len_dicP]
      simp
      omega
    rw [e]
    show some (D.dT (putT (dicP natD due) (pairD p) (natD v))) = _
    rw [put_same hn h]
    rfl
theorem due_get {p : Pair} {n : Nat} : get2D (dueD due) (pairD p) (natD n) = some (natD ((due.lookup p).getD n)) := by
  show (if keyOk (pairD p) then some ((lookT _ _).getD _) else none) = _
  rw [pair_ok, if_pos rfl, look_dicP]
  cases due.lookup p <;> rfl
theorem due_nodup {m : Mv} {n : Nat} (h : (due.map (·.1)).Nodup) : ((dueStep s n due m).map (·.1)).Nodup := by
  unfold dueStep
  split
  · exact h
  · rename_i p hp
    split
    · exact h
    · rename_i hn
      have hn' : due.lookup p = none := by
        cases q : due.lookup p with
        | none => rfl
        | some v => rw [q] at hn; exact absurd rfl hn
      rw [List.map_append, List.nodup_append]
      refine ⟨h, by simp, fun a ha b hb e => ?_⟩
      have : b = p := by simpa using hb
      subst this
      subst e
      exact look_noneP.mp hn' ha
theorem stand_none {s : Scene} (h : status s = none) : stand s = "nowhere" ∨ stand s = "right" := by
  unfold stand
  rw [h]
  by_cases q : endOf s = none
  · exact .inl (by simp [q])
  · exact .inr (by simp [q])
theorem stand_some {s : Scene} {q : Harm} (h : status s = some q) : stand s = hS q := by
  unfold stand
  rw [h]
theorem stand_in {s : Scene} : inD (.str (stand s)) (.lst [.str "astray", .str "lost"]) = some (status s).isSome := by
  cases h : status s with
  | none => rcases stand_none h with e | e <;> rw [e] <;> decide +kernel
  | some q =>
    rw [stand_some h]
    cases q <;> decide +kernel
theorem stand_eq {a b : Scene} {h : Harm} (ha : status a = some h) : eqD (.str (stand a)) (.str (stand b)) = some (decide (status b = some h)) := by
  rw [eqD_ss, stand_some ha]
  congr 1
  cases hb : status b with
  | none => rcases stand_none hb with e | e <;> rw [e] <;> cases h <;> simp [hS, ofS_inj]
  | some q =>
    rw [stand_some hb]
    cases q <;> cases h <;> simp [hS, ofS_inj]
def pushIf (r : Rule) (x : Scene) (k : Nat) (st : (Found × List Scene) × Due) (m : Mv) : (Found × List Scene) × Due := if lifeOk r m.2 then (push x k st.1 m, dueStep x (k + 3) st.2 m) else st
theorem life_lt {L : Lab} {t : Scene} : ((dOr (dCmp isD (dOp ixD (dPk 0) (dC (.int 5))) (dC .non)) (dCmp leD (dOp ixD (dPk 10) (dC (.int 0))) (dOp ixD (dPk 0) (dC (.int 5))))) : DB) = dOr (dCmp isD (dOp ixD (dPk 0) (dC (.int 5))) (dC .non)) (dCmp leD (dOp ixD (dPk 10) (dC (.int 0))) (dOp ixD (dPk 0) (dC (.int 5)))) := rfl
theorem th_one {z : Mv} {a1 a5 a11 a12 : Slot} (hd : doerP x z.1 = doerL (byOf x z.1)) (hn : (due.map (·.1)).Nodup) (hf : f.length ≤ 20000) (hl : later.length ≤ 50000) : ∃ c11 c12,
    l_law_threats_1 [.val (ruleD r), a1, .own (dueD due), .val (natD (k + 3)), .own (kwD f), a5, .own (.lst (scsD LX later)), .val (scD LX x), .val (.str (wordOf z.1)), .val (byD (byOf x z.1)), .val (scD LX z.2), a11, a12] =
    some (.nx [.val (ruleD r), a1, .own (dueD (pushIf r x k ((f, later), due) z).2), .val (natD (k + 3)), .own (kwD (pushIf r x k ((f, later), due) z).1.1), a5, .own (.lst (scsD LX (pushIf r x k ((f, later), due) z).1.2)), .val (scD LX x), .val (.str (wordOf z.1)), .val (byD (byOf x z.1)), .val (scD LX z.2), c11, c12]) := by
  unfold l_law_threats_1 pushIf
  have hlife : ∀ ρ : Ro, ρ[0]? = some (.val (ruleD r)) → ρ[10]? = some (.val (scD LX z.2)) → (dOr (dCmp isD (dOp ixD (dPk 0) (dC (.int 5))) (dC .non)) (dCmp leD (dOp ixD (dPk 10) (dC (.int 0))) (dOp ixD (dPk 0) (dC (.int 5))))) ρ = some (lifeOk r z.2) := by
    intro ρ h0 h10
    unfold lifeOk
    cases hl : r.life <;> simp [h0, h10, hl, optD]
  cases hlf : lifeOk r z.2 with
  | false =>
    refine ⟨a11, a12, ?_⟩
    rw [dIfS_ev, hlife _ rfl rfl, hlf]
    rfl
  | true =>
    have hput : ∀ {y : D × Bool}, True := fun {_} => trivial
    -- the search's part
    have part : ∀ (due' : Due) (c11 c12 : Slot), (dIfS (dCmp (notG inD) (dPk 10) (dPk 4)) (dSeq (dPut 4 (dVar 10) (dC (.bl true))) (dApp 6 (dVar 10))) dSkip) [.val (ruleD r), a1, .own (dueD due'), .val (natD (k + 3)), .own (kwD f), a5, .own (.lst (scsD LX later)), .val (scD LX x), .val (.str (wordOf z.1)), .val (byD (byOf x z.1)), .val (scD LX z.2), c11, c12] =
        some (.nx [.val (ruleD r), a1, .own (dueD due'), .val (natD (k + 3)), .own (kwD (push x k (f, later) z).1), a5, .own (.lst (scsD LX (push x k (f, later) z).2)), .val (scD LX x), .val (.str (wordOf z.1)), .val (byD (byOf x z.1)), .val (scD LX z.2), c11, c12]) := by
      intro due' c11 c12
      unfold push
      cases h : (f.lookup z.2).isSome with
      | true => simp [kwD, inD_dic, h]
      | false =>
        have h' : f.lookup z.2 = none := by simpa using h
        have hp := putD_dic (L := LX) (f := yesE) (l := f) (t := z.2) (v := (some (x, z.1), k + 1)) (d := .bl true) rfl h' (by omega)
        have ha : ∀ (ρ : Ro) (y : D), appS 6 ρ y (.own (.lst (scsD LX later))) = some (.nx (ρ.set 6 (.own (.lst (scsD LX later ++ [y]))))) := fun ρ y => appS_own (by rw [scs_len]; omega)
        simp [kwD, inD_dic, h', hp, ha, scs_app]
    generalize (dIfS (dCmp (notG inD) (dPk 10) (dPk 4)) (dSeq (dPut 4 (dVar 10) (dC (.bl true))) (dApp 6 (dVar 10))) dSkip) = PT at part ⊢
    cases hs : status z.2 with
    | none =>
      have e1 : pairOf x z = none := by simp [pairOf, hs]
      have e2 : dueStep x (k + 3) due z = due := by simp [dueStep, e1]
      refine ⟨.val (.str (stand z.2)), a12, ?_⟩
      have hin := stand_in (s := z.2)
      rw [hs] at hin
      rw [dIfS_ev, hlife _ rfl rfl, hlf]
      simp [e2, m_law_stands_so, hin, part]
    | some h =>
      have hin := stand_in (s := z.2)
      rw [hs] at hin
      by_cases h2 : status x = some h
      · have e1 : pairOf x z = none := by simp [pairOf, hs, h2]
        have e2 : dueStep x (k + 3) due z = due := by simp [dueStep, e1]
        refine ⟨.val (.str (stand z.2)), a12, ?_⟩
        rw [dIfS_ev, hlife _ rfl rfl, hlf]
        have heq := stand_eq (b := x) hs
        simp only [eqD_ss] at heq
        simp [e2, m_law_stands_so, hin, part, heq, h2]
      · have e1 : pairOf x z = some (h, doerP x z.1) := by simp [pairOf, hs, h2]
        refine ⟨.val (.str (stand z.2)), .val (doD (doerP x z.1)), ?_⟩
        rw [dIfS_ev, hlife _ rfl rfl, hlf]
        have heq := stand_eq (b := x) hs
        simp only [eqD_ss] at heq
        have hst : D.str (stand z.2) = hD h := by rw [stand_some hs]; rfl
        have hby := th_by (b := byOf x z.1)
        rw [← hd] at hby
        have hget := due_get (due := due) (p := (h, doerP x z.1)) (n := k + 3)
        have hpt := due_put (due := due) (p := (h, doerP x z.1)) (n := k + 3) hn
        have e2 : dueStep x (k + 3) due z = (if (due.lookup (h, doerP x z.1)).isSome then due else due ++ [((h, doerP x z.1), k + 3)]) := by simp [dueStep, e1]
        have hint : ∀ n : Nat, intD (natD n) = some (natD n) := fun _ => rfl
        have hinH : inD (hD h) (.lst [.str "astray", .str "lost"]) = some true := by rw [← hst]; exact hin
        have heqH : eqD (hD h) (.str (stand x)) = some (decide (status x = some h)) := by rw [← hst]; exact stand_eq hs
        rw [e2]
        simp [m_law_stands_so, hinH, heqH, h2, hby, hst, pair_lit, hget, hint, hpt, part]
end
end NW

/-! The law's search, whole. -/
namespace NW
open PySem PySem.Spec L2
section
variable {r : Rule} {s t x : Scene} {e : Ev} {f out : Found} {k : Nat} {due : Due} {later line : List Scene}
def work (r : Rule) (due : Due) (x : Scene) (k : Nat) : Due := (steps r x).foldl (dueStep x (k + 3)) due
theorem if_fold : ∀ (ms : List Mv) (st : (Found × List Scene) × Due), ms.foldl (pushIf r x k) st = ((ms.filter fun z => lifeOk r z.2).foldl (push x k) st.1, (ms.filter fun z => lifeOk r z.2).foldl (dueStep x (k + 3)) st.2)
  | [], st => rfl
  | m :: ms, st => by
    rw [List.foldl_cons, if_fold ms]
    unfold pushIf
    cases h : lifeOk r m.2 with
    | true => simp [h]
    | false => simp [h]
theorem due_nodups {n : Nat} : ∀ (ms : List Mv) {due : Due}, (due.map (·.1)).Nodup → ((ms.foldl (dueStep x n) due).map (·.1)).Nodup
  | [], _, h => h
  | m :: ms, _, h => due_nodups ms (due_nodup h)
theorem th_scene (T : Tight r) (C : Core r f) (W : WF r x) (hx : HasAt f x k) (hn : (due.map (·.1)).Nodup) (hl : later.length ≤ 20000) {a1 a5 a8 a9 a10 a11 a12 : Slot} : ∃ c8 c9 c10 c11 c12,
    l_law_threats_2 [.val (ruleD r), a1, .own (dueD due), .val (natD (k + 3)), .own (kwD f), a5, .own (.lst (scsD LX later)), .val (scD LX x), a8, a9, a10, a11, a12] =
    some (.nx [.val (ruleD r), a1, .own (dueD (work r due x k)), .val (natD (k + 3)), .own (kwD (scan r k (f, later) x).1), a5, .own (.lst (scsD LX (scan r k (f, later) x).2)), .val (scD LX x), c8, c9, c10, c11, c12]) := by
  obtain ⟨ρ', h1, h2, b8, b9, b10, b11, b12, h3⟩ := loopF_ix (enc := lmD x) (tg := tgT [8, 9, 10]) (body := l_law_threats_1) (xs := allSteps r x) (b := ((f, later), due)) (k := 0) (step := pushIf r x k)
    (R := fun i st ρ => st = ((allSteps r x).take i).foldl (pushIf r x k) ((f, later), due) ∧ ∃ a8 a9 a10 a11 a12, ρ = [.val (ruleD r), a1, .own (dueD st.2), .val (natD (k + 3)), .own (kwD st.1.1), a5, .own (.lst (scsD LX st.1.2)), .val (scD LX x), a8, a9, a10, a11, a12])
    (fun i st ρ z hz ⟨he, a8, a9, a10, a11, a12, e⟩ => by
      subst e
      rw [Nat.zero_add] at he ⊢
      obtain ⟨B, q1, q2, q3, q4⟩ := scan_moves (later := later) T hx C (((allSteps r x).take i).filter fun z => lifeOk r z.2) fun y hy => by
        obtain ⟨y1, y2⟩ := List.mem_filter.mp hy
        exact List.mem_filter.mpr ⟨List.mem_of_mem_take y1, y2⟩
      have hst : st = ((f ++ B, later ++ B.map (·.1)), (((allSteps r x).take i).filter fun z => lifeOk r z.2).foldl (dueStep x (k + 3)) due) := by
        rw [he, if_fold, q1]
      have hnd := due_nodups (x := x) (n := k + 3) (((allSteps r x).take i).filter fun z => lifeOk r z.2) hn
      have hb := few_f T q3
      obtain ⟨c11, c12, ho⟩ := th_one (r := r) (x := x) (k := k) (z := z) (a1 := a1) (a5 := a5) (a11 := a11) (a12 := a12) (doer_same W (step_of (List.mem_of_getElem? hz))) hnd hb (later := later ++ B.map (·.1)) (by simp; rw [List.length_append] at hb; omega)
      rw [hst]
      refine ⟨_, _, by simp only [lmD, tgT_ev, setAll_cons, setAll_nil]; rfl, .inl ho, ?_, _, _, _, _, _, rfl⟩
      rw [take_next hz, List.foldl_append, ← he, hst]
      rfl) ⟨rfl, a8, a9, a10, a11, a12, rfl⟩
  refine ⟨b8, b9, b10, b11, b12, ?_⟩
  rw [h3, if_fold] at h1
  unfold l_law_threats_2
  simp [-loopF_cons, m_law_moves, lmsD]
  exact h1
theorem work_nodup {due : Due} (h : (due.map (·.1)).Nodup) : ((work r due x k).map (·.1)).Nodup := due_nodups _ h
theorem th_line (T : Tight r) (C : Core r f) (hx : ∀ x ∈ line, HasAt f x k) (hn : (due.map (·.1)).Nodup) {a1 a5 a7 a8 a9 a10 a11 a12 : Slot} : ∃ c7 c8 c9 c10 c11 c12,
    loopF (tgN 7) l_law_threats_2 (scsD LX line) [.val (ruleD r), a1, .own (dueD due), .val (natD (k + 3)), .own (kwD f), a5, .own (.lst []), a7, a8, a9, a10, a11, a12] =
    some (.nx [.val (ruleD r), a1, .own (dueD (line.foldl (fun b x => work r b x k) due)), .val (natD (k + 3)), .own (kwD (rise r k f line).1), a5, .own (.lst (scsD LX (rise r k f line).2)), c7, c8, c9, c10, c11, c12]) ∧
    ((line.foldl (fun b x => work r b x k) due).map (·.1)).Nodup := by
  obtain ⟨ρ', h1, ⟨h2a, h2b⟩, b7, b8, b9, b10, b11, b12, h3⟩ := loopF_ix (enc := scD LX) (tg := tgN 7) (body := l_law_threats_2) (xs := line) (b := ((f, ([] : List Scene)), due)) (k := 0) (step := fun st x => (scan r k st.1 x, work r st.2 x k))
    (R := fun i st ρ => (st.1 = (line.take i).foldl (scan r k) (f, []) ∧ (st.2.map (·.1)).Nodup) ∧ ∃ a7 a8 a9 a10 a11 a12, ρ = [.val (ruleD r), a1, .own (dueD st.2), .val (natD (k + 3)), .own (kwD st.1.1), a5, .own (.lst (scsD LX st.1.2)), a7, a8, a9, a10, a11, a12])
    (fun i st ρ x hz ⟨⟨he, hnd⟩, a7, a8, a9, a10, a11, a12, e⟩ => by
      subst e
      obtain ⟨st1, st2⟩ := st
      simp only at he hnd
      rw [Nat.zero_add] at he ⊢
      obtain ⟨B, q1, q2, q3, q4⟩ := rise_line T (line.take i) f [] (fun y hy => hx y (List.mem_of_mem_take hy)) C
      rw [q1] at he
      subst he
      have hb := few_f T q3
      have hxx : HasAt (f ++ B) x k := hat_app (hx x (List.mem_of_getElem? hz))
      have hW : WF r x := by
        obtain ⟨z, z1, z2, _⟩ := hxx
        rw [← z2]
        exact q3.wf z z1
      obtain ⟨c8, c9, c10, c11, c12, hs⟩ := th_scene T q3 hW hxx hnd (later := [] ++ B.map (·.1)) (by simp; rw [List.length_append] at hb; omega) (a1 := a1) (a5 := a5) (a8 := a8) (a9 := a9) (a10 := a10) (a11 := a11) (a12 := a12)
      refine ⟨_, _, by simp only [tgN_ev]; rfl, .inl hs, ⟨?_, work_nodup hnd⟩, .val (scD LX x), c8, c9, c10, c11, c12, rfl⟩
      rw [take_next hz, List.foldl_append, q1]
      rfl) ⟨⟨rfl, hn⟩, a7, a8, a9, a10, a11, a12, rfl⟩
  have e2 : ∀ (l : List Scene) (st : (Found × List Scene) × Due), l.foldl (fun st x => (scan r k st.1 x, work r st.2 x k)) st = (l.foldl (scan r k) st.1, l.foldl (fun b x => work r b x k) st.2) := by
    intro l
    induction l with
    | nil => intro st; rfl
    | cons y l ih => intro st; rw [List.foldl_cons, ih]; rfl
  rw [e2] at h2b h3
  refine ⟨b7, b8, b9, b10, b11, b12, ?_, h2b⟩
  rw [h3] at h1
  exact h1
theorem th_while (T : Tight r) {out : Found} {dd : Due} {a1 : Slot} : ∀ (n m k : Nat) (f : Found) (line : List Scene) (due : Due) (a6 a7 a8 a9 a10 a11 a12 : Slot), n ≤ m → LInv r k f line → (due.map (·.1)).Nodup → bfsW r (work r) n k f line due = some (out, dd) → (dd.map (·.1)).Nodup ∧ ∃ c3 c4 c5 c6 c7 c8 c9 c10 c11 c12,
    loopW (dCmp (notG eqD) (dPk 5) (ofE (dLst dNil))) l_law_threats_3 m [.val (ruleD r), a1, .own (dueD due), .val (natD (k + 2)), .own (kwD f), .val (.lst (scsD LX line)), a6, a7, a8, a9, a10, a11, a12] = some (.nx [.val (ruleD r), a1, .own (dueD dd), c3, c4, c5, c6, c7, c8, c9, c10, c11, c12]) := by
  intro n
  induction n with
  | zero => intro m k f line due a6 a7 a8 a9 a10 a11 a12 _ _ _ h; cases h
  | succ n ih =>
    intro m k f line due a6 a7 a8 a9 a10 a11 a12 hm I hn h
    obtain ⟨m, rfl⟩ : ∃ m', m = m' + 1 := ⟨m - 1, by omega⟩
    have hc : (dCmp (notG eqD) (dPk 5) (ofE (dLst dNil))) [.val (ruleD r), a1, .own (dueD due), .val (natD (k + 2)), .own (kwD f), .val (.lst (scsD LX line)), a6, a7, a8, a9, a10, a11, a12] = some (!line.isEmpty) := by
      simp [eq_nil ok_LX]
    cases line with
    | nil =>
      have e : (f, due) = (out, dd) := Option.some.inj h
      cases e
      refine ⟨hn, .val (natD (k + 2)), .own (kwD out), .val (.lst (scsD LX [])), a6, a7, a8, a9, a10, a11, a12, ?_⟩
      unfold loopW
      rw [hc]
      rfl
    | cons x line =>
      obtain ⟨A, Lk, e1, e2, h1, h2, h3⟩ := I.split
      have hat : ∀ y ∈ x :: line, HasAt f y k := fun y hy => by
        rw [← e2] at hy
        obtain ⟨z, hz, rfl⟩ := List.mem_map.mp hy
        exact ⟨z, by rw [e1]; exact List.mem_append_right _ hz, rfl, h1 z hz⟩
      obtain ⟨c7, c8, c9, c10, c11, c12, hl, hn'⟩ := th_line T I.core hat hn (a1 := a1) (a5 := .val (.lst (scsD LX (x :: line)))) (a7 := a7) (a8 := a8) (a9 := a9) (a10 := a10) (a11 := a11) (a12 := a12)
      obtain ⟨I', _⟩ := I.rise T
      obtain ⟨hd, b3, b4, b5, b6, b7, b8, b9, b10, b11, b12, hh⟩ := ih m (k + 1) _ _ _ (.val (.lst (scsD LX (rise r k f (x :: line)).2))) c7 c8 c9 c10 c11 c12 (by omega) I' hn' h
      refine ⟨hd, b3, b4, b5, b6, b7, b8, b9, b10, b11, b12, ?_⟩
      unfold loopW
      rw [hc]
      have hk : (natD (k + 2) : D) = .int ((k : Int) + 2) := rfl
      have hb : l_law_threats_3 [.val (ruleD r), a1, .own (dueD due), .val (natD (k + 2)), .own (kwD f), .val (.lst (scsD LX (x :: line))), a6, a7, a8, a9, a10, a11, a12] = some (.nx [.val (ruleD r), a1, .own (dueD ((x :: line).foldl (fun b x => work r b x k) due)), .val (natD (k + 1 + 2)), .own (kwD (rise r k f (x :: line)).1), .val (.lst (scsD LX (rise r k f (x :: line)).2)), .val (.lst (scsD LX (rise r k f (x :: line)).2)), c7, c8, c9, c10, c11, c12]) := by
        have ha : addD (natD (k + 2)) (.int 1) = some (natD (k + 3)) := by
          show some (D.int _) = some (D.int _)
          congr 2
        unfold l_law_threats_3
        simp [-loopF_cons, ha, hl, -List.foldl_cons]
      show (l_law_threats_3 _).bind _ = _
      rw [hb]
      exact hh
end
end NW

/-! The law's dues; the same pairs as the program's. -/
namespace NW
open PySem PySem.Spec L2
section
variable {r : Rule} {s t x : Scene} {e : Ev} {f out : Found} {k : Nat} {due : Due} {later line : List Scene}
def dueAll (r : Rule) (out : Found) : Due := out.foldl (fun b z => work r b z.1 z.2.2) []
theorem m_law_threats (T : Tight r) (h : bfsW r (work r) 90000 0 start0 [first] [] = some (out, dueAll r out)) : f_law_threats [ruleD r] = some (dueD (dueAll r out), true) ∧ ((dueAll r out).map (·.1)).Nodup := by
  obtain ⟨hn, c3, c4, c5, c6, c7, c8, c9, c10, c11, c12, hw⟩ := th_while T 90000 fuel 0 start0 [first] [] .un .un .un .un .un .un .un (by decide) (linv0 T) (by simp) h (a1 := .val (scD LX first))
  refine ⟨?_, hn⟩
  unfold f_law_threats b_law_threats dWhile
  have e0 : D.dT [(scD LX first, .bl true)] = kwD start0 := rfl
  have e1 : [scD LX first] = scsD LX [first] := rfl
  have e2 : D.dT [] = dueD [] := rfl
  have e3 : D.int 2 = natD (0 + 2) := rfl
  have e4 : D.tup [.int 0, .tup [.tup [.str "x", .str "x", .int 0, .int 0, .str "none"]], .int 0] = scD LX first := rfl
  have ok1 : keyOk (scD LX first) = true := sc_ok
  simp [e4, ok1]
  rw [e0, e1, e2, e3, hw]
  simp
/-! known and due run side by side -/
def Side (kn : Known) (due : Due) (v : Pair → Nat → List Mv → Prop) : Prop := ∀ p, (kn.lookup p = none ∧ due.lookup p = none) ∨ ∃ w n, kn.lookup p = some w ∧ due.lookup p = some n ∧ v p n w
theorem look_app {α : Type} {l : List (Pair × α)} {p q : Pair} {v : α} : (l ++ [(q, v)]).lookup p = match l.lookup p with
  | some w => some w
  | none => if p = q then some v else none := by
  induction l with
  | nil =>
    rw [List.nil_append, List.lookup_cons]
    by_cases h : p = q
    · subst h; simp
    · have : (p == q) = false := by simpa using h
      rw [this]
      simp [h]
  | cons z l ih =>
    obtain ⟨u, w⟩ := z
    rw [List.cons_append, List.lookup_cons, List.lookup_cons]
    cases hb : (p == u) with
    | true => rfl
    | false => exact ih
theorem side_step {kn : Known} {v : Pair → Nat → List Mv → Prop} {way : List Mv} {n : Nat} {m : Mv} (h : Side kn due v) (hv : ∀ p, pairOf s m = some p → kn.lookup p = none → v p n (way ++ [m])) : Side (knStep s way kn m) (dueStep s n due m) v := by
  unfold knStep dueStep
  cases hp : pairOf s m with
  | none => exact h
  | some p =>
    rcases h p with ⟨h1, h2⟩ | ⟨w, l, h1, h2, h3⟩
    · simp only [h1, h2, Option.isSome_none, Bool.false_eq_true, if_false]
      intro q
      rw [look_app, look_app]
      rcases h q with ⟨g1, g2⟩ | ⟨w, l, g1, g2, g3⟩
      · rw [g1, g2]
        by_cases hq : q = p
        · subst hq
          exact .inr ⟨_, _, if_pos rfl, if_pos rfl, hv q hp h1⟩
        · exact .inl ⟨if_neg hq, if_neg hq⟩
      · rw [g1, g2]
        exact .inr ⟨w, l, rfl, rfl, g3⟩
    · simp only [h1, h2, Option.isSome_some, if_true]
      exact h
end
end NW

/-! The first move with a pair, and the way to it. -/
namespace NW
open PySem PySem.Spec L2
/-- w leads to the first move with p -/
def Rec (r : Rule) (out : Found) (p : Pair) (n : Nat) (w : List Mv) : Prop :=
  ∃ i z m l, out[i]? = some z ∧ Tree r out i z.1 l ∧ w = l ++ [m] ∧ m ∈ steps r z.1 ∧ pairOf z.1 m = some p ∧ n = l.length + 3 ∧ ∀ j, j < i → ∀ y, out[j]? = some y → ∀ m' ∈ steps r y.1, pairOf y.1 m' ≠ some p
section
variable {r : Rule} {s t x : Scene} {e : Ev} {f out : Found} {k : Nat} {due : Due} {kn : Known}
theorem kn_mono {way : List Mv} {p : Pair} {m : Mv} (h : (kn.lookup p).isSome = true) : ((knStep s way kn m).lookup p).isSome = true := by
  unfold knStep
  split
  · exact h
  · split
    · exact h
    · rw [look_app]
      cases q : kn.lookup p with
      | none => rw [q] at h; cases h
      | some v => rfl
theorem kn_monos {way : List Mv} {p : Pair} : ∀ (ms : List Mv) {kn : Known}, (kn.lookup p).isSome = true → ((ms.foldl (knStep s way) kn).lookup p).isSome = true
  | [], _, h => h
  | m :: ms, _, h => kn_monos ms (kn_mono h)
theorem kn_has {way : List Mv} {p : Pair} {m : Mv} (h : pairOf s m = some p) : ((knStep s way kn m).lookup p).isSome = true := by
  unfold knStep
  rw [h]
  show ((if (kn.lookup p).isSome = true then kn else kn ++ [(p, way ++ [m])]).lookup p).isSome = true
  split
  · assumption
  · rename_i hn
    rw [look_app]
    cases q : kn.lookup p with
    | none => simp
    | some v => rfl
theorem moves_side {way : List Mv} {n : Nat} {v : Pair → Nat → List Mv → Prop} : ∀ (ms : List Mv) {kn : Known} {due : Due}, Side kn due v → (∀ m ∈ ms, ∀ p, pairOf s m = some p → kn.lookup p = none → v p n (way ++ [m])) →
    Side (ms.foldl (knStep s way) kn) (ms.foldl (dueStep s n) due) v ∧ ∀ m ∈ ms, ∀ p, pairOf s m = some p → ((ms.foldl (knStep s way) kn).lookup p).isSome = true
  | [], _, _, h, _ => ⟨h, by simp⟩
  | m :: ms, kn, due, h, hv => by
    have h1 := side_step h (hv m List.mem_cons_self)
    obtain ⟨g1, g2⟩ := moves_side ms h1 fun m' hm p hp hk => by
      refine hv m' (List.mem_cons_of_mem _ hm) p hp ?_
      cases q : kn.lookup p with
      | none => rfl
      | some v =>
        have := kn_mono (s := s) (way := way) (m := m) (p := p) (kn := kn) (by rw [q]; rfl)
        rw [hk] at this
        cases this
    refine ⟨g1, fun m' hm p hp => ?_⟩
    rcases List.mem_cons.mp hm with rfl | hm
    · exact kn_monos ms (kn_has hp)
    · exact g2 m' hm p hp
theorem side_go (T : Tight r) (C : Core r out) : ∀ (rest pre : Found) (kn : Known) (due : Due), out = pre ++ rest → Side kn due (Rec r out) → (∀ y ∈ pre, ∀ m ∈ steps r y.1, ∀ p, pairOf y.1 m = some p → (kn.lookup p).isSome = true) →
    Side (rest.foldl (fun kn z => (steps r z.1).foldl (knStep z.1 (wayOf out z.1)) kn) kn) (rest.foldl (fun b z => work r b z.1 z.2.2) due) (Rec r out) ∧
    ∀ y ∈ out, ∀ m ∈ steps r y.1, ∀ p, pairOf y.1 m = some p → ((rest.foldl (fun kn z => (steps r z.1).foldl (knStep z.1 (wayOf out z.1)) kn) kn).lookup p).isSome = true := by
  intro rest
  induction rest with
  | nil =>
    intro pre kn due e h hp
    rw [List.append_nil] at e
    subst e
    exact ⟨h, hp⟩
  | cons z rest ih =>
    intro pre kn due e h hp
    have hz : out[pre.length]? = some z := by rw [e]; simp
    obtain ⟨l, t1, t2, t3, t4, t5⟩ := way_of T C hz
    obtain ⟨g1, g2⟩ := moves_side (s := z.1) (way := wayOf out z.1) (n := z.2.2 + 3) (steps r z.1) h fun m hm p hpm hk => by
      refine ⟨pre.length, z, m, l, hz, t1, by rw [t3], hm, hpm, by rw [t2], fun j hj y hy m' hm' hq => ?_⟩
      have hy' : y ∈ pre := by
        rw [e, List.getElem?_append_left hj] at hy
        exact List.mem_of_getElem? hy
      have := hp y hy' m' hm' p hq
      rw [hk] at this
      cases this
    refine ih (pre ++ [z]) _ _ (by rw [e]; simp) g1 fun y hy m hm p hpm => ?_
    rcases List.mem_append.mp hy with hy | hy
    · exact kn_monos _ (hp y hy m hm p hpm)
    · have : y = z := by simpa using hy
      subst this
      exact g2 m hm p hpm
theorem side_all (T : Tight r) (C : Core r out) : Side (knAll r out) (dueAll r out) (Rec r out) :=
  (side_go T C out [] [] [] rfl (fun p => .inl ⟨rfl, rfl⟩) (by simp)).1
end
end NW

/-! Copies anew: none off a scene of two rows in the search's tree. -/
namespace NW
open PySem PySem.Spec L2
section
variable {r : Rule} {s t x : Scene} {e : Ev} {f out : Found} {k : Nat} {p : Bool}
theorem mem_pairs4 (w b : Bool) : (w, b) ∈ pairs4 := by cases w <;> cases b <;> simp [pairs4]
theorem comes_mem (hp : has s p) {z : Mv} (h : z ∈ comesAt r s p) : z ∈ comings r s := by
  unfold comings
  split
  · rename_i y hr
    cases p with
    | false => exact h
    | true =>
      obtain ⟨a, b, hr'⟩ := hp rfl
      rw [hr] at hr'
      cases hr'
  · cases p with
    | false => exact List.mem_append_left _ h
    | true => exact List.mem_append_right _ h
theorem of_step (h : Step r s e t) : (e, t) ∈ allSteps r s := by
  unfold allSteps
  cases h with
  | tick => simp
  | @take p w b hp hw hm =>
    refine List.mem_append_left _ (List.mem_append_left _ (List.mem_append_right _ (comes_mem hp ?_)))
    unfold comesAt
    rw [if_pos hw]
    refine List.mem_append_left _ (List.mem_flatMap.mpr ⟨(w, b), mem_pairs4 w b, ?_⟩)
    unfold takeIf
    rw [if_pos hm]
    exact List.mem_singleton.mpr rfl
  | @chg p hp hw hm hc =>
    refine List.mem_append_left _ (List.mem_append_left _ (List.mem_append_right _ (comes_mem hp ?_)))
    unfold comesAt
    rw [if_pos hw]
    refine List.mem_append_right _ ?_
    unfold chgAt
    rw [if_pos (by rw [hm, hc]; rfl)]
    exact List.mem_singleton.mpr rfl
  | @give w hw =>
    refine List.mem_append_left _ (List.mem_append_right _ ?_)
    unfold leavings
    rw [hw]
    simp
  | @new w hw =>
    refine List.mem_append_left _ (List.mem_append_right _ ?_)
    unfold leavings
    rw [hw]
    simp
  | @pass w to hw hp hn =>
    refine List.mem_append_left _ (List.mem_append_right _ ?_)
    unfold leavings
    rw [hw]
    refine List.mem_append_right _ ?_
    rw [if_neg hp]
    cases to with
    | true =>
      refine List.mem_append_left _ ?_
      unfold passOne
      rw [if_neg hn]
      exact List.mem_singleton.mpr rfl
    | false =>
      refine List.mem_append_right _ ?_
      unfold passOne
      rw [if_neg hn]
      exact List.mem_singleton.mpr rfl
  | same hc =>
    refine List.mem_append_right _ ?_
    unfold copies
    rw [if_pos hc]
    exact List.mem_singleton.mpr rfl
  | @anew w hc hw hn =>
    refine List.mem_append_right _ ?_
    unfold copies
    rw [if_neg (by rw [hc]; simp), if_pos ⟨hc, by rw [hw]; simp, hn⟩]
    exact List.mem_singleton.mpr rfl
theorem in_steps (h : Step r s e t) (hl : lifeOk r t = true) : (e, t) ∈ steps r s := List.mem_filter.mpr ⟨of_step h, hl⟩
/-- the thread, one row less -/
def down : Thr → Thr
  | .p1 => .p0
  | t => t
inductive Rel : Scene → Scene → Prop where
  | one {a : Int} {y x : Row} {t : Thr} : Rel ⟨a, .two y x, t⟩ ⟨a, .one x, down t⟩
  | two {a : Int} {y : Row} {w : Bool} {o : Int} {t t' : Thr} : ((t = .out ∧ t' = .p1) ∨ (t = .no ∧ t' = .no) ∨ (t = .out ∧ t' = .out)) → Rel ⟨a, .two y ⟨none, w, 0, o, .off⟩, t⟩ ⟨a, .two ⟨none, w, 0, o, .next⟩ ⟨some w, w, 0, 0, .none⟩, t'⟩
/-- a step of the one is a step of the other, or the lower row goes -/
theorem rel_step (T : Tight r) (hcp : r.cp = .anew) (W : WF r s) (W' : WF r x) (h : Rel s x) (st : Step r s e t) (h2 : topP t = true) : ∃ e' t', Step r x e' t' ∧ Rel t t' := by
  cases h with
  | @one a y x th =>
    have hth0 : th ≠ .p0 := fun q => by
      have := (W.thr false q).1
      cases this
    have hthw : th = .p1 → x.who = some true := fun q => (W.thr true q).2
    have hfw : x.fw ≠ .next := W.fw
    cases st with
    | tick =>
      have hx : lapsed r (agedRow r x) = false := by simp [lapsed, agedRow, hfw]
      cases hy : lapsed r (agedRow r y) with
      | true =>
        have e : aged r ⟨a, .two y x, th⟩ = cutAt ⟨if r.life = none then 0 else a + 1, .two (agedRow r y) (agedRow r x), th⟩ false (unled (agedRow r y)) := by
          simp [aged, agedRows, hy]
        rw [e] at h2
        cases h2
      | false =>
        have e : aged r ⟨a, .two y x, th⟩ = ⟨if r.life = none then 0 else a + 1, .two (agedRow r y) (agedRow r x), th⟩ := by
          simp [aged, agedRows, hx, hy]
        have e' : aged r ⟨a, .one x, down th⟩ = ⟨if r.life = none then 0 else a + 1, .one (agedRow r x), down th⟩ := by
          simp [aged, agedRows, hx]
        rw [e]
        exact ⟨_, _, .tick, e' ▸ .one⟩
    | @take p w b hp hw hm =>
      cases p with
      | false => cases h2
      | true =>
        have hne : th ≠ .p1 := fun q => by
          have := hthw q
          rw [show x.who = none from hw] at this
          cases this
        have hd : down th = th := by cases th <;> first | rfl | exact absurd rfl hne
        refine ⟨_, _, .take (p := false) (w := w) (b := b) has0 hw hm, ?_⟩
        have e : comeAt r ⟨a, .one x, down th⟩ false w b = ⟨a, .one ⟨some w, w, (x.num + (if b then 0 else 1)) % r.marks, 0, .none⟩, down th⟩ := by
          simp [comeAt, cutAt, rowAt, hd]
          intro q
          exact absurd q hne
        rw [e]
        exact .one
    | @chg p hp hw hm hc =>
      cases p with
      | false => cases h2
      | true =>
        have hout : th = .out := by
          unfold chgOk at hc
          simpa using hc
        refine ⟨_, _, .chg (p := false) has0 hw hm ?_, ?_⟩
        · simp [chgOk, hout, down]
        · exact .one (t := .p1)
    | @give w hw =>
      refine ⟨_, _, .give (w := w) hw, ?_⟩
      have e : less ⟨a, .one x, down th⟩ = down (less ⟨a, .two y x, th⟩) := by
        cases th <;> first | rfl | exact absurd rfl hth0
      show Rel ⟨a, .two y ⟨none, w, x.num, 0, .none⟩, less ⟨a, .two y x, th⟩⟩ ⟨a, .one ⟨none, w, x.num, 0, .none⟩, less ⟨a, .one x, down th⟩⟩
      rw [e]
      exact .one
    | @new w hw =>
      have hw' : x.who = some w := hw
      refine ⟨_, _, .new (w := w) hw, ?_⟩
      have e : renamed r ⟨a, .two y x, th⟩ = ⟨a, .two y ⟨none, w, x.num, 0, .off⟩, if th = .p1 then .out else th⟩ := by
        simp [renamed, Rows.top, hw']
      have e' : renamed r ⟨a, .one x, down th⟩ = if x.num = 0 ∧ r.fwd ≠ some 0 ∧ r.hops = true then ⟨a, .two ⟨none, w, x.num, 0, .next⟩ ⟨some w, w, 0, 0, .none⟩, if down th = .p0 then .p1 else down th⟩
          else ⟨a, .one ⟨none, w, x.num, 0, .off⟩, if down th = .p0 then .out else down th⟩ := by
        simp [renamed, Rows.top, hw']
      rw [e, e']
      by_cases hc : x.num = 0 ∧ r.fwd ≠ some 0 ∧ r.hops = true
      · rw [if_pos hc, hc.1]
        refine .two ?_
        cases th with
        | no => exact .inr (.inl ⟨rfl, rfl⟩)
        | out => exact .inr (.inr ⟨rfl, rfl⟩)
        | p0 => exact absurd rfl hth0
        | p1 => exact .inl ⟨rfl, rfl⟩
      · rw [if_neg hc]
        have e2 : (if down th = .p0 then Thr.out else down th) = down (if th = .p1 then .out else th) := by
          cases th <;> first | rfl | exact absurd rfl hth0
        rw [e2]
        exact .one
    | @pass w to hw hp hn =>
      refine ⟨_, _, .pass (w := w) (to := to) hw hp hn, ?_⟩
      have e : less ⟨a, .one x, down th⟩ = down (less ⟨a, .two y x, th⟩) := by
        cases th <;> first | rfl | exact absurd rfl hth0
      show Rel ⟨a, .two y ⟨some to, to, (x.num + (if r.pg = .counted then 1 else 0)) % r.marks, 0, .none⟩, less ⟨a, .two y x, th⟩⟩ ⟨a, .one ⟨some to, to, (x.num + (if r.pg = .counted then 1 else 0)) % r.marks, 0, .none⟩, less ⟨a, .one x, down th⟩⟩
      rw [e]
      exact .one
    | same hc => rw [hcp] at hc; cases hc
    | @anew w hc hw hn => cases h2
  | @two a y w o th th' hh =>
    have hfine : ∀ q, mayCome r ⟨none, w, 0, o, .off⟩ q = mayCome r ⟨none, w, 0, o, .next⟩ q := fun q => by
      funext b
      simp [mayCome, fine]
    have hheld : agedRow r ⟨some w, w, 0, 0, .none⟩ = ⟨some w, w, 0, 0, .none⟩ := by
      have := (old_ge T).1
      simp [agedRow]
      intro h
      omega
    cases st with
    | tick =>
      have hx : lapsed r (agedRow r ⟨none, w, 0, o, .off⟩) = false := by simp [lapsed, agedRow]
      have hz : lapsed r ⟨some w, w, 0, 0, .none⟩ = false := by simp [lapsed]
      cases hy : lapsed r (agedRow r y) with
      | true =>
        have e : aged r ⟨a, .two y ⟨none, w, 0, o, .off⟩, th⟩ = cutAt ⟨if r.life = none then 0 else a + 1, .two (agedRow r y) (agedRow r ⟨none, w, 0, o, .off⟩), th⟩ false (unled (agedRow r y)) := by
          simp [aged, agedRows, hy]
        rw [e] at h2
        cases h2
      | false =>
        have e : aged r ⟨a, .two y ⟨none, w, 0, o, .off⟩, th⟩ = ⟨if r.life = none then 0 else a + 1, .two (agedRow r y) (agedRow r ⟨none, w, 0, o, .off⟩), th⟩ := by
          simp [aged, agedRows, hx, hy]
        rw [e]
        refine ⟨_, _, .tick, ?_⟩
        cases hn : lapsed r (agedRow r ⟨none, w, 0, o, .next⟩) with
        | true =>
          have e' : aged r ⟨a, .two ⟨none, w, 0, o, .next⟩ ⟨some w, w, 0, 0, .none⟩, th'⟩ = ⟨if r.life = none then 0 else a + 1, .one (agedRow r ⟨none, w, 0, o, .off⟩), if th' = .p1 then .out else th'⟩ := by
            simp [aged, agedRows, hn, cutAt]
            rfl
          rw [e']
          have e2 : (if th' = .p1 then Thr.out else th') = down th := by
            rcases hh with ⟨rfl, rfl⟩ | ⟨rfl, rfl⟩ | ⟨rfl, rfl⟩ <;> rfl
          rw [e2]
          exact .one
        | false =>
          have e' : aged r ⟨a, .two ⟨none, w, 0, o, .next⟩ ⟨some w, w, 0, 0, .none⟩, th'⟩ = ⟨if r.life = none then 0 else a + 1, .two (agedRow r ⟨none, w, 0, o, .next⟩) ⟨some w, w, 0, 0, .none⟩, th'⟩ := by
            simp [aged, agedRows, hn, hheld, hz]
          rw [e']
          exact .two hh
    | @take p w' b hp hw hm =>
      cases p with
      | false => cases h2
      | true =>
        have hm' : mayCome r ⟨none, w, 0, o, .off⟩ w' b = true := hm
        rw [hfine] at hm'
        refine ⟨_, _, .take (p := false) (w := w') (b := b) has0 rfl hm', ?_⟩
        have e2 : (if th' = .p1 then Thr.out else th') = down th := by
          rcases hh with ⟨rfl, rfl⟩ | ⟨rfl, rfl⟩ | ⟨rfl, rfl⟩ <;> rfl
        have e : comeAt r ⟨a, .two ⟨none, w, 0, o, .next⟩ ⟨some w, w, 0, 0, .none⟩, th'⟩ false w' b = ⟨a, .one ⟨some w', w', (0 + (if b then 0 else 1)) % r.marks, 0, .none⟩, if th' = .p1 then .out else th'⟩ := rfl
        rw [e, e2]
        exact .one
    | @chg p hp hw hm hc =>
      cases p with
      | false => cases h2
      | true =>
        have hm' : mayCome r ⟨none, w, 0, o, .off⟩ true w = true := hm
        rw [hfine] at hm'
        have hth : th = .out := by
          unfold chgOk at hc
          simpa using hc
        have hc' : chgOk ⟨a, .two ⟨none, w, 0, o, .next⟩ ⟨some w, w, 0, 0, .none⟩, th'⟩ false = true := by
          rcases hh with ⟨_, rfl⟩ | ⟨h, _⟩ | ⟨_, rfl⟩
          · rfl
          · rw [hth] at h; cases h
          · rfl
        exact ⟨_, _, .chg (p := false) has0 rfl hm' hc', .one (t := .p1)⟩
    | @give w hw => cases hw
    | @new w hw => cases hw
    | @pass w to hw hp hn => cases hw
    | same hc => rw [hcp] at hc; cases hc
    | @anew w hc hw hn => cases h2
end
end NW

/-! No copy anew off two rows in the tree. -/
namespace NW
open PySem PySem.Spec L2
section
variable {r : Rule} {s t x : Scene} {e : Ev} {f out : Found} {k : Nat} {p : Bool}
theorem cut_one {y : Row} : topP (cutAt s false y) = false := rfl
theorem rel_new (T : Tight r) (hcp : r.cp = .anew) (W : WF r x) (h1 : topP x = false) (st : Step r x e t) (h2 : topP t = true) : Rel t x := by
  obtain ⟨a, rows, th⟩ := x
  cases rows with
  | two y z => cases h1
  | one z =>
    have hfw : z.fw ≠ .next := W.fw
    cases st with
    | tick =>
      have hx : lapsed r (agedRow r z) = false := by simp [lapsed, agedRow, hfw]
      have e : aged r ⟨a, .one z, th⟩ = ⟨if r.life = none then 0 else a + 1, .one (agedRow r z), th⟩ := by
        simp [aged, agedRows, hx]
      rw [e] at h2
      cases h2
    | @take p w b hp hw hm =>
      cases p with
      | false => cases h2
      | true => obtain ⟨_, _, q⟩ := hp rfl; cases q
    | @chg p hp hw hm hc =>
      cases p with
      | false => cases h2
      | true => obtain ⟨_, _, q⟩ := hp rfl; cases q
    | @give w hw => cases h2
    | @new w hw =>
      have hw' : z.who = some w := hw
      have e' : renamed r ⟨a, .one z, th⟩ = if z.num = 0 ∧ r.fwd ≠ some 0 ∧ r.hops = true then ⟨a, .two ⟨none, w, z.num, 0, .next⟩ ⟨some w, w, 0, 0, .none⟩, if th = .p0 then .p1 else th⟩
          else ⟨a, .one ⟨none, w, z.num, 0, .off⟩, if th = .p0 then .out else th⟩ := by
        simp [renamed, Rows.top, hw']
      rw [e'] at h2 ⊢
      by_cases hc : z.num = 0 ∧ r.fwd ≠ some 0 ∧ r.hops = true
      · rw [if_pos hc]
        obtain ⟨b1, b2, b3⟩ := W.top.held w hw
        have hz : z = ⟨some w, w, 0, 0, .none⟩ := by
          obtain ⟨who, last, num, old, fw⟩ := z
          have c1 : last = w := b1
          have c2 : old = 0 := b2
          have c3 : fw = .none := b3
          have c4 : num = 0 := hc.1
          have c5 : who = some w := hw'
          rw [c1, c2, c3, c4, c5]
        have hth : th = down (if th = .p0 then .p1 else th) := by
          cases th with
          | p1 => exact absurd (W.thr true rfl).1 (by intro q; cases q)
          | _ => rfl
        have : Rel ⟨a, .two ⟨none, w, z.num, 0, .next⟩ ⟨some w, w, 0, 0, .none⟩, if th = .p0 then .p1 else th⟩ ⟨a, .one ⟨some w, w, 0, 0, .none⟩, down (if th = .p0 then .p1 else th)⟩ := .one
        rw [← hth, ← hz] at this
        rw [hz] at this
        rw [hz]
        exact this
      · rw [if_neg hc] at h2
        cases h2
    | @pass w to hw hp hn => cases h2
    | same hc => rw [hcp] at hc; cases hc
    | @anew w hc hw hn => cases h2
theorem rel_age (h : Rel s t) : s.age = t.age := by cases h <;> rfl
theorem life_age (h : s.age = t.age) (hl : lifeOk r s = true) : lifeOk r t = true := by
  unfold lifeOk at hl ⊢
  split
  · rfl
  · rename_i l hr
    rw [hr] at hl
    rw [← h]
    exact hl
theorem collapse (T : Tight r) (hcp : r.cp = .anew) (D : Done r out) : ∀ (i : Nat) (z : Ent), out[i]? = some z → topP z.1 = true → ∃ y ∈ out, Rel z.1 y.1 ∧ y.2.2 + 1 ≤ z.2.2 := by
  intro i
  induction i using Nat.strongRecOn with
  | _ i ih =>
    intro z hz h2
    rcases D.core.par i z hz with ⟨_, q, _⟩ | ⟨x, e, j, y, h1, hs, hj, hy, rfl, hl⟩
    · rw [q] at h2; cases h2
    · have hym := List.mem_of_getElem? hy
      obtain ⟨st, lf⟩ := steps_iff hs
      have W := D.core.wf y hym
      cases hx : topP y.1 with
      | false => exact ⟨y, hym, rel_new T hcp W hx st h2, by omega⟩
      | true =>
        obtain ⟨u, hu, hr, hlu⟩ := ih j hj y hy hx
        obtain ⟨e', t', st', hr'⟩ := rel_step T hcp W (D.core.wf u hu) hr st h2
        have lf' := life_age (r := r) (rel_age hr') lf
        obtain ⟨v, hv, q1, q2⟩ := D.closed u hu (e', t') (in_steps st' lf')
        refine ⟨v, hv, ?_, by omega⟩
        rw [q1]
        exact hr'
theorem same_ent (C : Core r out) {y z : Ent} (hy : y ∈ out) (hz : z ∈ out) (h : y.1 = z.1) : y = z := by
  have e1 := look_at C.nd hy
  have e2 := look_at C.nd hz
  rw [h, e2] at e1
  obtain ⟨a, b⟩ := y
  obtain ⟨c, d⟩ := z
  have h' : a = c := h
  have e3 : d = b := Option.some.inj e1
  rw [h', e3]
/-- a copy anew in the tree leaves a scene of one row -/
theorem no_copy (T : Tight r) (hcp : r.cp = .anew) (D : Done r out) {i j : Nat} {z y : Ent} (hz : out[i]? = some z) (hy : out[j]? = some y) (hs : (Ev.copy, z.1) ∈ steps r y.1) (hl : z.2.2 = y.2.2 + 1) : topP y.1 = false := by
  cases hx : topP y.1 with
  | false => rfl
  | true =>
    exfalso
    obtain ⟨u, hu, hr, hlu⟩ := collapse T hcp D j y hy hx
    obtain ⟨st, lf⟩ := steps_iff hs
    have W := D.core.wf y (List.mem_of_getElem? hy)
    have key : ∃ e', Step r u.1 e' z.1 := by
      generalize z.1 = t at st
      generalize y.1 = s at *
      generalize u.1 = x at *
      cases st with
      | same hc => rw [hcp] at hc; cases hc
      | @anew w hc hw hn =>
        cases hr with
        | @one a y x th =>
          refine ⟨.copy, ?_⟩
          have := Step.anew (r := r) (s := ⟨a, .one x, down th⟩) (w := w) hc hw hn
          have e : (if down th = .no then Thr.no else if down th = thrOf (topP ⟨a, .one x, down th⟩) then .p0 else .out) = (if th = .no then Thr.no else if th = thrOf (topP ⟨a, .two y x, th⟩) then .p0 else .out) := by
            cases th with
            | p0 => exact absurd (W.thr false rfl).1 (by intro q; cases q)
            | _ => rfl
          rw [e] at this
          exact this
        | two hh => cases hw
    obtain ⟨e', st'⟩ := key
    obtain ⟨v, hv, q1, q2⟩ := D.closed u hu (e', z.1) (in_steps st' lf)
    have := same_ent D.core hv (List.mem_of_getElem? hz) q1
    rw [this] at q2
    omega
end
end NW

/-! letters_of. -/
namespace NW
open PySem PySem.Spec L2
def letGo : Nat → Nat → List Nat → List Nat
  | 0, _, acc => acc
  | f + 1, n, acc => if n < 26 then acc else letGo f (n / 26 - 1) ((n / 26 - 1) % 26 :: acc)
def letters (n : Nat) : List Nat := letGo n n [n % 26]
def strOf (l : List Nat) : Str := ⟨(l.map (97 + ·)).toArray⟩
def decStep (a c : Nat) : Nat := a * 26 + c + 1
theorem dec_go : ∀ (f n : Nat) (rest : List Nat), n ≤ f → (letGo f n (n % 26 :: rest)).foldl decStep 0 = rest.foldl decStep (n + 1)
  | 0, n, rest, h => by
    have : n = 0 := by omega
    subst this
    rfl
  | f + 1, n, rest, h => by
    unfold letGo
    split
    · rename_i hn
      rw [List.foldl_cons]
      congr 1
      unfold decStep
      omega
    · rename_i hn
      rw [dec_go f (n / 26 - 1) (n % 26 :: rest) (by omega), List.foldl_cons]
      congr 1
      unfold decStep
      omega
theorem letters_inj {n m : Nat} (h : letters n = letters m) : n = m := by
  have e1 := dec_go n n [] (Nat.le_refl n)
  have e2 := dec_go m m [] (Nat.le_refl m)
  unfold letters at h
  rw [h, e2] at e1
  simpa using e1.symm
theorem strOf_inj {a b : List Nat} (h : strOf a = strOf b) : a = b := by
  have h1 := congrArg (fun z : Str => z.cps.toList) h
  simp only [strOf] at h1
  have h2 : a.map (97 + ·) = b.map (97 + ·) := by simpa using h1
  exact List.map_inj_right (fun x y e => by omega) |>.mp h2
theorem let_lt : ∀ (f n : Nat) (acc : List Nat), (∀ c ∈ acc, c < 26) → ∀ c ∈ letGo f n acc, c < 26
  | 0, _, _, h => h
  | f + 1, n, acc, h => by
    unfold letGo
    split
    · exact h
    · exact let_lt f _ _ fun c hc => by
        rcases List.mem_cons.mp hc with rfl | hc
        · exact Nat.mod_lt _ (by decide)
        · exact h c hc
/-- the written letters -/
def abc : Str := "abcdefghijklmnopqrstuvwxyz"
theorem abc_at : ∀ i, i < 26 → abc.cps.toList[i]? = some (97 + i) := by decide +kernel
theorem ix_abc {i : Nat} (h : i < 26) : ixD (.str abc) (.int (i : Nat)) = some (.str (strOf [i])) := by
  have hz : ok abc.length = true := by decide +kernel
  show (if ok abc.length then (atI abc.cps.toList ((i : Nat) : Int)).map fun c => D.str ⟨#[c]⟩ else none) = _
  rw [hz, if_pos rfl]
  have e : atI abc.cps.toList ((i : Nat) : Int) = abc.cps.toList[i]? := by
    unfold atI ixN
    rw [if_pos (by omega)]
    have hl : abc.cps.toList.length = 26 := by decide +kernel
    rw [if_pos (by rw [hl]; omega)]
    simp
  rw [e, abc_at i h]
  rfl
theorem str_app {a b : List Nat} : strOf a ++ strOf b = strOf (a ++ b) := by
  show (⟨(strOf a).cps ++ (strOf b).cps⟩ : Str) = _
  unfold strOf
  simp
theorem str_len {a : List Nat} : (strOf a).length = a.length := by
  show (strOf a).cps.size = _
  simp [strOf]
theorem add_str {a b : List Nat} (h : a.length + b.length ≤ 90000) : addD (.str (strOf a)) (.str (strOf b)) = some (.str (strOf (a ++ b))) := by
  show (if ok ((strOf a).length + (strOf b).length) then some (D.str (strOf a ++ strOf b)) else none) = _
  rw [str_len, str_len, if_pos (by simp; omega), str_app]
theorem let_while : ∀ (f m n : Nat) (acc : List Nat), f < m → n ≤ f → acc.length + f ≤ 80000 → ∃ c0, loopW (dCmp geD (dPk 0) (dC (.int 26))) l_letters_of_1 m [.val (.int (n : Nat)), .val (.str (strOf acc))] = some (.nx [c0, .val (.str (strOf (letGo f n acc)))])
  | 0, m, n, acc, hm, hn, hl => by
    obtain ⟨m, rfl⟩ : ∃ m', m = m' + 1 := ⟨m - 1, by omega⟩
    have : n = 0 := by omega
    subst this
    refine ⟨.val (.int (0 : Nat)), ?_⟩
    unfold loopW
    simp [letGo]
  | f + 1, m, n, acc, hm, hn, hl => by
    obtain ⟨m, rfl⟩ : ∃ m', m = m' + 1 := ⟨m - 1, by omega⟩
    by_cases h : n < 26
    · refine ⟨.val (.int (n : Nat)), ?_⟩
      have h' : ¬ (26 : Int) ≤ (n : Int) := by omega
      unfold loopW
      simp [letGo, h, h']
    · have h' : (26 : Int) ≤ (n : Int) := by omega
      obtain ⟨c0, ih⟩ := let_while f m (n / 26 - 1) ((n / 26 - 1) % 26 :: acc) (by omega) (by omega) (by rw [List.length_cons]; omega)
      refine ⟨c0, ?_⟩
      have e1 : divD (.int (n : Nat)) (.int 26) = some (.int ((n / 26 : Nat) : Int)) := by
        show (if (decide ((0 : Int) < 26) && decide ((26 : Int) < 1073741824)) = true then some (D.int ((n : Int) / 26)) else none) = _
        rw [if_pos (by decide)]
        congr 1
      have e2 : ((n / 26 : Nat) : Int) - 1 = ((n / 26 - 1 : Nat) : Int) := by omega
      have e3 : (((n / 26 - 1 : Nat) : Int)) % 26 = (((n / 26 - 1) % 26 : Nat) : Int) := by omega
      have hb : l_letters_of_1 [.val (.int (n : Nat)), .val (.str (strOf acc))] = some (.nx [.val (.int ((n / 26 - 1 : Nat) : Int)), .val (.str (strOf ((n / 26 - 1) % 26 :: acc)))]) := by
        unfold l_letters_of_1
        have ha := add_str (a := [(n / 26 - 1) % 26]) (b := acc) (by simp; omega)
        have hx := ix_abc (i := (n / 26 - 1) % 26) (Nat.mod_lt _ (by decide))
        simp only [dSeq_ev, dSet_ev, dOp_ev, dPk_ev, dC_ev, List.getElem?_cons_zero, List.getElem?_cons_succ, Option.bind_some, pkS_val, e1, subD_ii, e2, Option.map_some, List.set_cons_zero, List.set_cons_succ, andThen_nx, modD_ii, e3]
        rw [if_pos (by decide)]
        simp only [Option.bind_some]
        rw [show D.str "abcdefghijklmnopqrstuvwxyz" = D.str abc from rfl, hx]
        simp only [Option.bind_some]
        rw [ha]
        rfl
      unfold loopW
      have hc : (dCmp geD (dPk 0) (dC (.int 26))) [.val (.int (n : Nat)), .val (.str (strOf acc))] = some true := by simp [h']
      rw [hc]
      show (l_letters_of_1 _).bind _ = _
      rw [hb]
      show loopW _ _ m _ = _
      rw [ih]
      simp [letGo, h]
theorem m_letters_of {n : Nat} (h : n ≤ 70000) : f_letters_of [.int (n : Nat)] = some (.str (strOf (letters n)), false) := by
  obtain ⟨c0, hw⟩ := let_while n fuel n [n % 26] (by have : fuel = 100000 := rfl; omega) (Nat.le_refl n) (by simp; omega)
  have hx := ix_abc (i := n % 26) (Nat.mod_lt _ (by decide))
  have e3 : ((n : Nat) : Int) % 26 = ((n % 26 : Nat) : Int) := by omega
  unfold f_letters_of b_letters_of dWhile
  rw [show D.str "abcdefghijklmnopqrstuvwxyz" = D.str abc from rfl]
  simp [-Int.natCast_emod, e3, hx, hw, letters]
end NW

/-! Names and links as they are. -/
namespace NW
open PySem PySem.Spec L2
/-- a name: its holder, the last one, the number, how long unheld, where it leads -/
structure Rc where
  hold : Option Str
  last : Str
  num : Int
  old : Int
  fw : Option (Str × Int)
structure Lk where
  name : Str
  num : Int
  meant : Str
  age : Int
  thr : Option Str
abbrev Ns := List (Str × Rc)
structure Rst where
  ns : Ns
  ls : List Lk
def oS : Option Str → D
  | none => .non
  | some x => .str x
def fD : Option (Str × Int) → D
  | none => .non
  | some (x, k) => .tup [.str x, .int k]
def recD (x : Rc) : D := .tup [oS x.hold, .str x.last, .int x.num, .int x.old, fD x.fw]
def lkD (x : Lk) : D := .tup [.str x.name, .int x.num, .str x.meant, .int x.age, oS x.thr]
def nsL (ns : Ns) : List (Str × D) := ns.map fun p => (p.1, recD p.2)
def nsD (ns : Ns) : D := .dS (nsL ns)
def lksL (l : List Lk) : List D := l.map lkD
/-- the program's, the law's -/
def stP (s : Rst) : D := .tup [nsD s.ns, .tup (lksL s.ls)]
def stX (s : Rst) : D := .tup [nsD s.ns, .lst (lksL s.ls)]
def getN (ns : Ns) (k : Str) : Option Rc := (ns.find? fun p => decide (p.1 = k)).map (·.2)
def putN (ns : Ns) (k : Str) (v : Rc) : Ns := if ns.any (fun p => decide (p.1 = k)) then ns.map (fun p => if p.1 = k then (p.1, v) else p) else ns ++ [(k, v)]
theorem look_ns {ns : Ns} {k : Str} : lookS (nsL ns) k = (getN ns k).map recD := by
  unfold lookS getN nsL
  induction ns with
  | nil => rfl
  | cons p ns ih =>
    rw [List.map_cons, List.find?_cons, List.find?_cons]
    by_cases h : p.1 = k
    · simp [h]
    · simp only [h, decide_false]
      exact ih
theorem put_ns {ns : Ns} {k : Str} {v : Rc} : putS (nsL ns) k (recD v) = nsL (putN ns k v) := by
  unfold putS putN
  have e : (nsL ns).any (fun p => decide (p.1 = k)) = ns.any fun p => decide (p.1 = k) := by
    unfold nsL
    rw [List.any_map]
    rfl
  rw [e]
  split
  · unfold nsL
    rw [List.map_map, List.map_map]
    refine List.map_congr_left fun p _ => ?_
    show (if p.1 = k then (p.1, recD v) else (p.1, recD p.2)) = _
    by_cases h : p.1 = k
    · simp [h]
    · simp [h]
  · simp [nsL]
theorem get_put {ns : Ns} {k k' : Str} {v : Rc} : getN (putN ns k v) k' = if k' = k then some v else getN ns k' := by
  unfold putN
  split
  · rename_i h
    induction ns with
    | nil => simp at h
    | cons p ns ih =>
      unfold getN
      rw [List.map_cons, List.find?_cons]
      by_cases hp : p.1 = k
      · rw [if_pos hp]
        by_cases hk : k' = k
        · subst hk
          simp [hp]
        · have h1 : ¬ p.1 = k' := fun q => hk (q.symm.trans hp)
          simp only [h1, decide_false, hk, if_false]
          rw [List.find?_cons]
          simp only [h1, decide_false]
          by_cases h2 : ns.any (fun p => decide (p.1 = k)) = true
          · have := ih h2
            rw [if_neg hk] at this
            exact this
          · congr 1
            have e : ns.map (fun p => if p.1 = k then (p.1, v) else p) = ns := by
              have : ∀ q ∈ ns, (if q.1 = k then (q.1, v) else q) = q := fun q hq => by
                rw [if_neg]
                intro hqk
                exact h2 (List.any_eq_true.mpr ⟨q, hq, by simp [hqk]⟩)
              rw [List.map_congr_left this]
              simp
            rw [e]
      · rw [if_neg hp]
        have h2 : ns.any (fun p => decide (p.1 = k)) = true := by simpa [hp] using h
        have := ih h2
        rw [List.find?_cons]
        by_cases h3 : p.1 = k'
        · have hk : ¬ k' = k := fun q => hp (h3.trans q)
          simp [h3, hk]
        · simp only [h3, decide_false]
          exact this
  · rename_i h
    have hn : ∀ q ∈ ns, q.1 ≠ k := fun q hq hqk => h (List.any_eq_true.mpr ⟨q, hq, by simp [hqk]⟩)
    unfold getN
    rw [List.find?_append]
    by_cases hk : k' = k
    · subst hk
      have : ns.find? (fun p => decide (p.1 = k')) = none := List.find?_eq_none.mpr fun q hq => by simp [hn q hq]
      rw [this]
      simp
    · rw [if_neg hk]
      have : ¬ k = k' := fun q => hk q.symm
      cases hf : ns.find? (fun p => decide (p.1 = k')) with
      | none => simp [this]
      | some z => simp
end NW

/-! Records, links: the small defs of both sides. -/
namespace NW
open PySem PySem.Spec L2
section
variable {r : Rule} {x : Rc} {l : Lk} {s : Rst} {ns : Ns} {n h : Str} {is : List Nat} {ρ : Ro} {o : Option Str}
@[simp] theorem ix_c0 : ixD (recD x) (.int 0) = some (oS x.hold) := rfl
@[simp] theorem ix_c1 : ixD (recD x) (.int 1) = some (.str x.last) := rfl
@[simp] theorem ix_c2 : ixD (recD x) (.int 2) = some (.int x.num) := rfl
@[simp] theorem ix_c3 : ixD (recD x) (.int 3) = some (.int x.old) := rfl
@[simp] theorem ix_c4 : ixD (recD x) (.int 4) = some (fD x.fw) := rfl
@[simp] theorem ix_l0 : ixD (lkD l) (.int 0) = some (.str l.name) := rfl
@[simp] theorem ix_l1 : ixD (lkD l) (.int 1) = some (.int l.num) := rfl
@[simp] theorem ix_l2 : ixD (lkD l) (.int 2) = some (.str l.meant) := rfl
@[simp] theorem ix_l3 : ixD (lkD l) (.int 3) = some (.int l.age) := rfl
@[simp] theorem ix_l4 : ixD (lkD l) (.int 4) = some (oS l.thr) := rfl
@[simp] theorem ix_P0 : ixD (stP s) (.int 0) = some (nsD s.ns) := rfl
@[simp] theorem ix_P1 : ixD (stP s) (.int 1) = some (.tup (lksL s.ls)) := rfl
@[simp] theorem ix_X0 : ixD (stX s) (.int 0) = some (nsD s.ns) := rfl
@[simp] theorem ix_X1 : ixD (stX s) (.int 1) = some (.lst (lksL s.ls)) := rfl
@[simp] theorem tg_P : tgT is (stP s) ρ = setAll is [nsD s.ns, .tup (lksL s.ls)] ρ := rfl
@[simp] theorem tg_X : tgT is (stX s) ρ = setAll is [nsD s.ns, .lst (lksL s.ls)] ρ := rfl
@[simp] theorem isN_oS : (oS o).isN = decide (o = none) := by cases o <;> rfl
@[simp] theorem isN_f {f : Option (Str × Int)} : (fD f).isN = decide (f = none) := by
  cases f with
  | none => rfl
  | some p => rfl
@[simp] theorem isN_rec : (recD x).isN = false := rfl
@[simp] theorem in_ns : inD (.str n) (nsD ns) = some (getN ns n).isSome := by
  show some (lookS (nsL ns) n).isSome = _
  rw [look_ns]
  simp
@[simp] theorem ix_ns : ixD (nsD ns) (.str n) = (getN ns n).map recD := by
  show lookS (nsL ns) n = _
  rw [look_ns]
@[simp] theorem eq_oo {o o' : Option Str} : eqD (oS o) (oS o') = some (decide (o = o')) := by
  cases o <;> cases o' <;> simp [oS]
@[simp] theorem eq_os {o : Option Str} {w : Str} : eqD (oS o) (.str w) = some (decide (o = some w)) := eq_oo (o' := some w)
@[simp] theorem eq_on {o : Option Str} : eqD (oS o) .non = some (decide (o = none)) := eq_oo (o' := none)
/-! good records -/
def good (r : Rule) (x : Rc) : Bool := decide (x.hold = none) && decide (x.fw ≠ none) && (match r.fwd with
  | none => true
  | some f => decide (x.old < f))
theorem m_is_good : f_is_good [ruleD r, recD x] = some (.bl (good r x), false) := by
  unfold f_is_good b_is_good good
  by_cases h1 : x.hold = none <;> by_cases h2 : x.fw = none <;> cases h3 : r.fwd <;> simp [h1, h2, h3, optD]
theorem m_law_good : f_law_good [ruleD r, recD x] = some (.bl (good r x), false) := by
  unfold f_law_good b_law_good good
  by_cases h1 : x.hold = none <;> by_cases h2 : x.fw = none <;> cases h3 : r.fwd <;> simp [h1, h2, h3, optD]
def dead (r : Rule) (l : Lk) : Bool := match r.life with
  | none => false
  | some f => decide (f < l.age)
theorem m_is_dead : f_is_dead [ruleD r, lkD l] = some (.bl (dead r l), false) := by
  unfold f_is_dead b_is_dead dead
  cases h3 : r.life <;> simp [h3, optD]
theorem m_law_dead : f_law_dead [ruleD r, lkD l] = some (.bl (dead r l), false) := by
  unfold f_law_dead b_law_dead dead
  cases h3 : r.life <;> simp [h3, optD]
def heldBy (s : Rst) (n : Str) : Option Str := (getN s.ns n).bind (·.hold)
theorem m_held_by : f_held_by [stP s, .str n] = some (oS (heldBy s n), false) := by
  unfold f_held_by b_held_by heldBy
  cases h : getN s.ns n <;> simp [h, oS]
theorem m_law_held : f_law_held [stX s, .str n] = some (oS (heldBy s n), false) := by
  unfold f_law_held b_law_held heldBy
  cases h : getN s.ns n <;> simp [h, oS]
/-! who may come -/
def openTo (r : Rule) (s : Rst) (h n : Str) : Bool := match getN s.ns n with
  | none => true
  | some x => if x.hold ≠ none then false else if x.last = h then true else match r.wait with
    | none => false
    | some w => decide (w ≤ x.old) && !(r.bars && good r x)
theorem m_is_open : f_is_open [ruleD r, stP s, .str h, .str n] = some (.bl (openTo r s h n), false) := by
  unfold f_is_open b_is_open openTo
  cases hg : getN s.ns n with
  | none => simp [hg]
  | some x =>
    by_cases h1 : x.hold = none
    · by_cases h2 : x.last = h
      · simp [hg, h1, h2]
      · cases h3 : r.wait with
        | none => simp [hg, h1, h2, h3, optD]
        | some w =>
          by_cases h4 : x.old < w
          · simp [hg, h1, h2, h3, optD, h4, Int.not_le.mpr h4]
          · cases h5 : r.bars <;> simp [hg, h1, h2, h3, optD, h4, Int.not_lt.mp h4, h5, m_is_good]
    · simp [hg, h1]
theorem m_law_open : f_law_open [ruleD r, stX s, .str h, .str n] = some (.bl (openTo r s h n), false) := by
  unfold f_law_open b_law_open openTo
  have hget : get1D (nsD s.ns) (.str n) = some (((getN s.ns n).map recD).getD .non) := by
    show some ((lookS (nsL s.ns) n).getD .non) = _
    rw [look_ns]
  cases hg : getN s.ns n with
  | none => simp [hget, hg]
  | some x =>
    by_cases h1 : x.hold = none
    · by_cases h2 : x.last = h
      · simp [hget, hg, h1, h2]
      · cases h3 : r.wait with
        | none => simp [hget, hg, h1, h2, h3, optD]
        | some w =>
          by_cases h4 : w ≤ x.old
          · cases h5 : r.bars <;> simp [hget, hg, h1, h2, h3, optD, h4, h5, m_law_good]
          · simp [hget, hg, h1, h2, h3, optD, h4]
    · simp [hget, hg, h1]
end
end NW

/-! Coming, leaving, threads. -/
namespace NW
open PySem PySem.Spec L2
section
variable {r : Rule} {x : Rc} {l : Lk} {s : Rst} {ns : Ns} {n h : Str} {is : List Nat} {ρ : Ro} {o : Option Str}
theorem ns_len {ns : Ns} : (nsL ns).length = ns.length := List.length_map ..
@[simp] theorem dStar_ev {d d' d'' : DV} : dStar d d' d'' ρ = (d ρ).bind fun x => (d' ρ).bind fun y => (d'' ρ).bind fun z => starD x y z := by
  unfold dStar
  congr
  funext x
  cases d' ρ with
  | none => rfl
  | some y =>
    cases d'' ρ with
    | none => rfl
    | some z => cases x <;> cases y <;> rfl
theorem star_ns (hl : ns.length < 100000) : starD (nsD ns) (.str n) (recD x) = some (nsD (putN ns n x), true) := by
  show (if ok ((nsL ns).length + 1) then some (D.dS (putS (nsL ns) n (recD x)), true) else none) = _
  rw [ns_len, if_pos (by simp; omega), put_ns]
  rfl
theorem rec_lit {a b : Str} {k : Int} : D.tup [.str a, .str b, .int k, .int 0, .non] = recD ⟨some a, b, k, 0, none⟩ := rfl
theorem rec_litN {b : Str} {k : Int} {f : Option (Str × Int)} : D.tup [.non, .str b, .int k, .int 0, fD f] = recD ⟨none, b, k, 0, f⟩ := rfl
/-- h comes to n -/
def comeN (ns : Ns) (h n : Str) : Ns := putN ns n ⟨some h, h, match getN ns n with
  | none => 0
  | some x => x.num + (if x.last = h then 0 else 1), 0, none⟩
theorem m_come (hl : ns.length < 100000) : f_come [nsD ns, .str h, .str n] = some (nsD (comeN ns h n), true) := by
  unfold f_come b_come comeN
  cases hg : getN ns n with
  | none => simp [hg, rec_lit, star_ns hl]
  | some x => by_cases h1 : x.last = h <;> simp [hg, rec_lit, star_ns hl, h1]
def unheldN (ns : Ns) (n : Str) (f : Option (Str × Int)) : Ns := match getN ns n with
  | none => ns
  | some x => putN ns n ⟨none, x.last, x.num, 0, f⟩
theorem m_unheld (hl : ns.length < 100000) {f : Option (Str × Int)} (hg : getN ns n = some x) : f_unheld [nsD ns, .str n, fD f] = some (nsD (unheldN ns n f), true) := by
  unfold f_unheld b_unheld unheldN
  simp [hg, rec_litN, star_ns hl]
theorem old_rec {x : Rc} {n : Str} {a b : Int} : True := trivial
theorem m_law_come (hl : ns.length < 100000) : f_law_come [nsD ns, .str h, .str n] = some (nsD (comeN ns h n), true) := by
  unfold f_law_come b_law_come comeN
  have hget : ∀ z : D, get2D (nsD ns) (.str n) z = some (((getN ns n).map recD).getD z) := fun z => by
    show some ((lookS (nsL ns) n).getD z) = _
    rw [look_ns]
  have hput : ∀ v : Rc, putD (nsD ns) (.str n) (recD v) = some (nsD (putN ns n v)) := fun v => by
    show (if ok ((nsL ns).length + 1) then some (D.dS (putS (nsL ns) n (recD v))) else none) = _
    rw [ns_len, if_pos (by simp; omega), put_ns]
    rfl
  have hd : dictD (nsD ns) = some (nsD ns, true) := rfl
  have e0 : D.tup [.non, .str h, .int 0, .int 0, .non] = recD ⟨none, h, 0, 0, none⟩ := rfl
  cases hg : getN ns n with
  | none => simp [hget, hg, rec_lit, hput, hd, e0]
  | some x => by_cases h1 : x.last = h <;> simp [hget, hg, rec_lit, hput, hd, h1]
/-! threads -/
def thrLk (n : Str) (t : Option Str) (l : Lk) : Lk := if l.thr = some n then { l with thr := t } else l
@[simp] theorem sl_lk : slT (lkD l) none (some 4) = some (.tup [.str l.name, .int l.num, .str l.meant, .int l.age]) := rfl
theorem lk_lit {a : Str} {k : Int} {b : Str} {c : Int} {o : Option Str} : D.tup [.str a, .int k, .str b, .int c, oS o] = lkD ⟨a, k, b, c, o⟩ := rfl
theorem m_threads {ls : List Lk} (hl : ls.length ≤ 50000) {t : Option Str} : f_threads [.tup (lksL ls), .str n, oS t] = some (.tup (lksL (ls.map (thrLk n t))), false) := by
  unfold f_threads b_threads
  have key := loopC_map (enc := lkD) (out := fun l => lkD (thrLk n t l)) (pr := fun _ => true) (tg := tgN 3) (c := dYes) (el := (dOp addD (dSl (dPk 3) dI0 (dI1 (dC (.int 4)))) (dTup (dCons (dIf (dCmp eqD (dOp ixD (dPk 3) (dC (.int 4))) (dPk 1)) (dVar 2) (dOp ixD (dPk 3) (dC (.int 4)))) dNil)))) (vs := [3]) (ρ := [.val (.tup (lksL ls)), .val (.str n), .val (oS t), .un]) (xs := ls) (acc := [])
    (fun l _ => ⟨_, rfl, rfl, fun _ => by
      by_cases h : l.thr = some n
      · simp [h, thrLk, lk_lit]
      · simp [h, thrLk, lk_lit]⟩) (by simp; omega)
  simp [lksL] at key ⊢
  rw [key]
  have hf : ls.filter (fun _ => true) = ls := List.filter_eq_self.mpr fun _ _ => rfl
  simp [hf]
end
end NW

/-! The law's threads; where a name leads. -/
namespace NW
open PySem PySem.Spec L2
section
variable {r : Rule} {x : Rc} {l : Lk} {s : Rst} {ns : Ns} {n h : Str} {is : List Nat} {ρ : Ro} {o : Option Str}
theorem lks_len {ls : List Lk} : (lksL ls).length = ls.length := List.length_map ..
theorem m_law_rethread {ls : List Lk} (hl : ls.length ≤ 50000) {t : Option Str} : f_law_rethread [.lst (lksL ls), .str n, oS t] = some (.lst (lksL (ls.map (thrLk n t))), true) := by
  obtain ⟨ρ', h1, h2, b4, h3⟩ := loopF_ix (enc := lkD) (tg := tgN 4) (body := l_law_rethread_1) (xs := ls) (b := ([] : List Lk)) (k := 0) (step := fun b l => b ++ [thrLk n t l])
    (ρ := [.val (.lst (lksL ls)), .val (.str n), .val (oS t), .own (.lst (lksL [])), .un])
    (R := fun i b ρ => b.length = i ∧ ∃ a4, ρ = [.val (.lst (lksL ls)), .val (.str n), .val (oS t), .own (.lst (lksL b)), a4])
    (fun i b ρ l hz ⟨hb, a4, e⟩ => by
      subst e
      have hi := (List.getElem?_eq_some_iff.mp hz).1
      have ha : ∀ (ρ : Ro) (y : D), appS 3 ρ y (.own (.lst (lksL b))) = some (.nx (ρ.set 3 (.own (.lst (lksL b ++ [y]))))) := fun ρ y => appS_own (by rw [lks_len]; omega)
      refine ⟨_, [.val (.lst (lksL ls)), .val (.str n), .val (oS t), .own (.lst (lksL (b ++ [thrLk n t l]))), .val (lkD l)], by simp only [tgN_ev]; rfl, .inl ?_, by simp; omega, _, rfl⟩
      unfold l_law_rethread_1
      have e : lksL (b ++ [thrLk n t l]) = lksL b ++ [lkD (thrLk n t l)] := by simp [lksL]
      rw [e]
      by_cases h : l.thr = some n
      · simp [h, thrLk, lk_lit, ha]
      · simp [h, thrLk, lk_lit, ha]) ⟨rfl, .un, rfl⟩
  have hf : ls.foldl (fun b l => b ++ [thrLk n t l]) [] = ls.map (thrLk n t) := by
    rw [foldl_app (fun l => [thrLk n t l]) ls [], List.nil_append]
    clear h1 h2 h3 hl
    induction ls with
    | nil => rfl
    | cons a l ih => rw [List.flatMap_cons, ih]; rfl
  rw [hf] at h3
  unfold f_law_rethread b_law_rethread
  have e0 : D.lst [] = D.lst (lksL []) := rfl
  simp
  rw [e0]
  have h1' : loopF (tgN 4) l_law_rethread_1 (lksL ls) [.val (.lst (lksL ls)), .val (.str n), .val (oS t), .own (.lst (lksL [])), .un] = some (.nx ρ') := h1
  rw [h1', h3]
  simp
end
end NW

/-! Where a name leads. -/
namespace NW
open PySem PySem.Spec L2
section
variable {r : Rule} {x : Rc} {l : Lk} {s : Rst} {ns : Ns} {n h : Str} {is : List Nat} {ρ : Ro} {o : Option Str}
/-- none: an unknown name; some none: nowhere; some (some (n, h)): to n, held by h -/
def goes (r : Rule) (ns : Ns) : Nat → Str → Int → Option (Option (Str × Str))
  | 0, _, _ => some none
  | k + 1, n, i => match getN ns n with
    | none => none
    | some x => if (x.num - i) % r.marks ≠ 0 then some none else match x.hold with
      | some h => some (some (n, h))
      | none => if good r x then (match x.fw with
        | some (n', i') => goes r ns k n' i'
        | none => some none) else some none
def endD : Option (Str × Str) → D
  | none => .tup [.non, .non]
  | some (n, h) => .tup [.str n, .str h]
theorem good_fw (h : good r x = true) : ∃ p, x.fw = some p := by
  cases hf : x.fw with
  | none => simp [good, hf] at h
  | some p => exact ⟨p, rfl⟩
@[simp] theorem tg_f {p : Str × Int} : tgT is (fD (some p)) ρ = setAll is [.str p.1, .int p.2] ρ := rfl
/-- one turn of the program's loop -/
theorem go_turn {k : Nat} {i : Int} {w : Option (Str × Str)} {a1 a5 a6 a7 : Slot} (hg : goes r ns (k + 1) n i = some w) : ∃ o, l_goes_to_1 [.val (ruleD r), a1, .val (.str n), .val (.int i), .val (nsD ns), a5, a6, a7] = some o ∧
    ((o = .rt (endD w) false) ∨ ∃ n' i' c7, goes r ns k n' i' = some w ∧ o = .nx [.val (ruleD r), a1, .val (.str n'), .val (.int i'), .val (nsD ns), a5, a6, c7]) := by
  unfold goes at hg
  cases hx : getN ns n with
  | none => rw [hx] at hg; cases hg
  | some x =>
    rw [hx] at hg
    simp only at hg
    unfold l_goes_to_1
    by_cases h1 : (x.num - i) % r.marks = 0
    · simp only [h1, ne_eq, not_true_eq_false, if_false] at hg
      cases h2 : x.hold with
      | some h =>
        rw [h2] at hg
        cases hg
        exact ⟨_, by simp [hx, r.pos, h1, h2]; rfl, .inl rfl⟩
      | none =>
        rw [h2] at hg
        cases h3 : good r x with
        | false =>
          simp [h3] at hg
          subst hg
          exact ⟨_, by simp [hx, r.pos, h1, h2, m_is_good, h3]; rfl, .inl rfl⟩
        | true =>
          obtain ⟨⟨n', i'⟩, hf⟩ := good_fw h3
          simp [h3, hf] at hg
          exact ⟨_, by simp [hx, r.pos, h1, h2, m_is_good, h3, hf]; rfl, .inr ⟨n', i', _, hg, rfl⟩⟩
    · simp [h1] at hg
      subst hg
      exact ⟨_, by simp [hx, r.pos, h1]; rfl, .inl rfl⟩
def hopN (r : Rule) : Nat := if r.hops then 2 else 1
theorem m_goes_to {num : Int} {w : Option (Str × Str)} (hg : goes r s.ns (hopN r) n num = some w) : f_goes_to [ruleD r, stP s, .str n, .int num] = some (endD w, false) := by
  unfold f_goes_to b_goes_to
  cases hh : r.hops with
  | false =>
    have hN : hopN r = 1 := by simp [hopN, hh]
    rw [hN] at hg
    obtain ⟨o, e1, h1⟩ := go_turn (a1 := .val (stP s)) (a5 := .val (.tup (lksL s.ls))) (a6 := .val (plD false)) (a7 := .un) hg
    rcases h1 with rfl | ⟨n', i', c7, h2, rfl⟩
    · simp [hh, hopD, rngS, e1]
    · have hw : w = none := (Option.some.inj h2).symm
      subst hw
      simp [hh, hopD, rngS, e1, endD]
  | true =>
    have hN : hopN r = 2 := by simp [hopN, hh]
    rw [hN] at hg
    obtain ⟨o, e1, h1⟩ := go_turn (a1 := .val (stP s)) (a5 := .val (.tup (lksL s.ls))) (a6 := .val (plD false)) (a7 := .un) hg
    rcases h1 with rfl | ⟨n', i', c7, h2, rfl⟩
    · simp [hh, hopD, rngS, e1]
    · obtain ⟨o, e2, h3⟩ := go_turn (a1 := .val (stP s)) (a5 := .val (.tup (lksL s.ls))) (a6 := .val (plD true)) (a7 := c7) h2
      rcases h3 with rfl | ⟨n'', i'', c7', h4, rfl⟩
      · simp [hh, hopD, rngS, e1, e2]
      · have hw : w = none := (Option.some.inj h4).symm
        subst hw
        simp [hh, hopD, rngS, e1, e2, endD]
end
end NW

/-! Where a link leads; its word. -/
namespace NW
open PySem PySem.Spec L2
section
variable {r : Rule} {x : Rc} {l : Lk} {s : Rst} {ns : Ns} {n h : Str} {is : List Nat} {ρ : Ro} {o : Option Str}
/-- one turn of the law's loop; left: how many leads are left -/
theorem end_turn {k : Nat} {i : Int} {w : Option (Str × Str)} {a1 : Slot} {m : Nat} (hg : goes r ns (k + 1) n i = some w) (hk : k ≤ m) :
    ∃ ρ', loopW (dCmp eqD (dOp modD (dF1 intD (dOp subD (dOp ixD (dOp ixD (dPk 4) (dPk 2)) (dC (.int 2))) (dPk 3))) (dOp ixD (dPk 0) (dC (.int 4)))) (dC (.int 0))) l_law_end_1 (m + 1) [.val (ruleD r), a1, .val (.str n), .val (.int i), .val (nsD ns), .val (.int (k : Nat))] = some ρ' ∧
    (ρ' = .rt (endD w) false ∨ (w = none ∧ ∃ ρ, ρ' = .nx ρ)) := by
  induction k generalizing n i m with
  | zero =>
    unfold goes at hg
    cases hx : getN ns n with
    | none => rw [hx] at hg; cases hg
    | some x =>
      rw [hx] at hg
      simp only at hg
      unfold loopW l_law_end_1
      by_cases h1 : (x.num - i) % r.marks = 0
      · simp only [h1, ne_eq, not_true_eq_false, if_false] at hg
        cases h2 : x.hold with
        | some h =>
          rw [h2] at hg
          cases hg
          exact ⟨_, by simp [hx, r.pos, h1, h2]; rfl, .inl rfl⟩
        | none =>
          rw [h2] at hg
          have hw : w = none := by
            simp only at hg
            split at hg
            · split at hg
              · exact (Option.some.inj hg).symm
              · exact (Option.some.inj hg).symm
            · exact (Option.some.inj hg).symm
          subst hw
          exact ⟨_, by simp [hx, r.pos, h1, h2]; rfl, .inl rfl⟩
      · simp [h1] at hg
        subst hg
        exact ⟨_, by simp [hx, r.pos, h1]; rfl, .inr ⟨rfl, _, rfl⟩⟩
  | succ k ih =>
    obtain ⟨m, rfl⟩ : ∃ q, m = q + 1 := ⟨m - 1, by omega⟩
    unfold goes at hg
    cases hx : getN ns n with
    | none => rw [hx] at hg; cases hg
    | some x =>
      rw [hx] at hg
      simp only at hg
      unfold loopW l_law_end_1
      by_cases h1 : (x.num - i) % r.marks = 0
      · simp only [h1, ne_eq, not_true_eq_false, if_false] at hg
        cases h2 : x.hold with
        | some h =>
          rw [h2] at hg
          cases hg
          exact ⟨_, by simp [hx, r.pos, h1, h2]; rfl, .inl rfl⟩
        | none =>
          rw [h2] at hg
          simp only at hg
          by_cases h3 : good r x = true
          · obtain ⟨p, h4⟩ := good_fw h3
            rw [if_pos h3, h4] at hg
            obtain ⟨ρ', q1, q2⟩ := ih (m := m) hg (by omega)
            refine ⟨ρ', ?_, q2⟩
            have hk0 : ¬ ((k : Int) + 1 = 0) := by omega
            have hk1 : (k : Int) + 1 - 1 = k := by omega
            simp [m_law_good, hx, r.pos, h1, h2, h3, h4, hk0, hk1, setAll]
            exact q1
          · rw [if_neg h3] at hg
            cases hg
            have hk0 : ¬ ((k : Int) + 1 = 0) := by omega
            exact ⟨_, by simp [m_law_good, hx, r.pos, h1, h2, h3, hk0]; rfl, .inl rfl⟩
      · simp [h1] at hg
        subst hg
        exact ⟨_, by simp [hx, r.pos, h1]; rfl, .inr ⟨rfl, _, rfl⟩⟩
end
end NW

namespace NW
open PySem PySem.Spec L2
section
variable {r : Rule} {x : Rc} {l : Lk} {s : Rst} {n h : Str} {ρ : Ro}
theorem m_law_end {i : Int} {w : Option (Str × Str)} {S : D} (hS : ixD S (.int 0) = some (nsD s.ns)) (hg : goes r s.ns (hopN r) n i = some w) : f_law_end [ruleD r, S, .str n, .int i] = some (endD w, false) := by
  unfold f_law_end b_law_end
  have hf : fuel = 99999 + 1 := rfl
  cases hh : r.hops with
  | false =>
    have hN : hopN r = 0 + 1 := by simp [hopN, hh]
    rw [hN] at hg
    obtain ⟨ρ', e1, h1⟩ := end_turn (a1 := .val S) (m := 99999) hg (by omega)
    rw [show ((0 : Nat) : Int) = 0 from rfl, ← hf] at e1
    rcases h1 with rfl | ⟨rfl, ρ1, rfl⟩
    · simp [hh, hopD, hS, dWhile, e1]
    · simp [hh, hopD, hS, dWhile, e1, endD]
  | true =>
    have hN : hopN r = 1 + 1 := by simp [hopN, hh]
    rw [hN] at hg
    obtain ⟨ρ', e1, h1⟩ := end_turn (a1 := .val S) (m := 99999) hg (by omega)
    rw [show ((1 : Nat) : Int) = 1 from rfl, ← hf] at e1
    rcases h1 with rfl | ⟨rfl, ρ1, rfl⟩
    · simp [hh, hopD, hS, dWhile, e1]
    · simp [hh, hopD, hS, dWhile, e1, endD]
/-- where a link leads: dead leads nowhere -/
def leads (r : Rule) (ns : Ns) (l : Lk) : Option (Option (Str × Str)) := if dead r l then some none else goes r ns (hopN r) l.name l.num
theorem m_led_to {w : Option (Str × Str)} (hg : leads r s.ns l = some w) : f_led_to [ruleD r, stP s, lkD l] = some (endD w, false) := by
  unfold f_led_to b_led_to
  unfold leads at hg
  by_cases h : dead r l = true
  · rw [if_pos h] at hg; cases hg
    simp [m_is_dead, h, endD]
  · rw [if_neg h] at hg
    simp [m_is_dead, h, m_goes_to hg]
theorem m_law_to {w : Option (Str × Str)} {S : D} (hS : ixD S (.int 0) = some (nsD s.ns)) (hg : leads r s.ns l = some w) : f_law_to [ruleD r, S, lkD l] = some (endD w, false) := by
  unfold f_law_to b_law_to
  unfold leads at hg
  by_cases h : dead r l = true
  · rw [if_pos h] at hg; cases hg
    simp [m_law_dead, h, endD]
  · rw [if_neg h] at hg
    simp [m_law_dead, h, m_law_end hS hg]
/-- a link's word -/
def wordS (r : Rule) (ns : Ns) (l : Lk) (w : Option (Str × Str)) : Str :=
  if dead r l then "dead" else match w with
    | some p => if p.2 = l.meant then "right" else "astray"
    | none => if l.thr.isSome then "lost" else "nowhere"
@[simp] theorem tg_e {w : Option (Str × Str)} {is : List Nat} : tgT is (endD w) ρ = setAll is (match w with | none => [.non, .non] | some p => [.str p.1, .str p.2]) ρ := by cases w <;> rfl
theorem m_law_word {w : Option (Str × Str)} {S : D} (hS : ixD S (.int 0) = some (nsD s.ns)) (hg : leads r s.ns l = some w) : f_law_word [ruleD r, S, lkD l] = some (.str (wordS r s.ns l w), false) := by
  unfold f_law_word b_law_word wordS
  cases h : dead r l with
  | true => cases w <;> simp [m_law_to hS hg, m_law_dead, h, setAll]
  | false =>
    cases w with
    | some p => by_cases h2 : p.2 = l.meant <;> simp [m_law_to hS hg, m_law_dead, h, setAll, h2]
    | none => cases h2 : l.thr <;> simp [m_law_to hS hg, m_law_dead, h, setAll, h2, oS]
end
end NW

/-! The told events: both sides step alike. -/
namespace NW
open PySem PySem.Spec L2
inductive Te where
  | tick | copy (k : Nat) | give (n : Str) | write (n : Str) | take (h n : Str) | change (n m : Str) | pass (n h : Str)
def teD : Te → D
  | .tick => .tup [.str "tick"]
  | .copy k => .tup [.str "copy", .int (k : Nat)]
  | .give n => .tup [.str "give", .str n]
  | .write n => .tup [.str "write", .str n]
  | .take h n => .tup [.str "take", .str h, .str n]
  | .change n m => .tup [.str "change", .str n, .str m]
  | .pass n h => .tup [.str "pass", .str n, .str h]
/-- the number that a name has behind h coming to it -/
def cnum (ns : Ns) (h n : Str) : Int := match getN ns n with
  | none => 0
  | some x => x.num + (if x.last = h then 0 else 1)
section
variable {r : Rule} {x : Rc} {l : Lk} {s : Rst} {ns : Ns} {n h m : Str} {is : List Nat} {ρ : Ro} {o : Option Str} {k : Nat}
theorem get_come {q : Str} : getN (comeN ns h n) q = if q = n then some ⟨some h, h, cnum ns h n, 0, none⟩ else getN ns q := get_put
theorem put_len {v : Rc} : (putN ns n v).length ≤ ns.length + 1 := by
  unfold putN
  split <;> simp
theorem come_len : (comeN ns h n).length ≤ ns.length + 1 := put_len
@[simp] theorem dict_ns : dictD (nsD ns) = some (nsD ns, true) := rfl
theorem putD_ns (hl : ns.length < 100000) {v : Rc} : putD (nsD ns) (.str n) (recD v) = some (nsD (putN ns n v)) := by
  show (if ok ((nsL ns).length + 1) then some (D.dS (putS (nsL ns) n (recD v))) else none) = _
  rw [ns_len, if_pos (by simp; omega), put_ns]
  rfl
theorem rec_lit0 {b : Str} {k : Int} : D.tup [.non, .str b, .int k, .int 0, .non] = recD ⟨none, b, k, 0, none⟩ := rfl
theorem rec_lit1 {b m : Str} {k i : Int} : D.tup [.non, .str b, .int k, .int 0, .tup [.str m, .int i]] = recD ⟨none, b, k, 0, some (m, i)⟩ := rfl
theorem stP_lit {ns : Ns} {ls : List Lk} : D.tup [nsD ns, .tup (lksL ls)] = stP ⟨ns, ls⟩ := rfl
theorem stX_lit {ns : Ns} {ls : List Lk} : D.tup [nsD ns, .lst (lksL ls)] = stX ⟨ns, ls⟩ := rfl
@[simp] theorem frzR_7 {a b c d e f g h : Slot} {r : Ro} : frzR 7 (a :: b :: c :: d :: e :: f :: g :: h :: r) = frzS 7 (a :: b :: c :: d :: e :: f :: g :: h :: r) h := frzR_ev rfl
@[simp] theorem frzR_8 {a b c d e f g h i : Slot} {r : Ro} : frzR 8 (a :: b :: c :: d :: e :: f :: g :: h :: i :: r) = frzS 8 (a :: b :: c :: d :: e :: f :: g :: h :: i :: r) i := frzR_ev rfl
theorem m_threads0 {ls : List Lk} (hl : ls.length ≤ 50000) : f_threads [.tup (lksL ls), .str n, .non] = some (.tup (lksL (ls.map (thrLk n none))), false) := m_threads (t := none) hl
theorem m_threads1 {ls : List Lk} (hl : ls.length ≤ 50000) : f_threads [.tup (lksL ls), .str n, .str m] = some (.tup (lksL (ls.map (thrLk n (some m)))), false) := m_threads (t := some m) hl
theorem m_ret0 {ls : List Lk} (hl : ls.length ≤ 50000) : f_law_rethread [.lst (lksL ls), .str n, .non] = some (.lst (lksL (ls.map (thrLk n none))), true) := m_law_rethread (t := none) hl
theorem m_ret1 {ls : List Lk} (hl : ls.length ≤ 50000) : f_law_rethread [.lst (lksL ls), .str n, .str m] = some (.lst (lksL (ls.map (thrLk n (some m)))), true) := m_law_rethread (t := some m) hl
theorem m_unh0 (hl : ns.length < 100000) (hg : getN ns n = some x) : f_unheld [nsD ns, .str n, .non] = some (nsD (putN ns n ⟨none, x.last, x.num, 0, none⟩), true) := by
  have := m_unheld (f := none) hl hg
  unfold unheldN at this
  rw [hg] at this
  exact this
theorem m_unh1 (hl : ns.length < 100000) (hg : getN ns n = some x) {i : Int} : f_unheld [nsD ns, .str n, .tup [.str m, .int i]] = some (nsD (putN ns n ⟨none, x.last, x.num, 0, some (m, i)⟩), true) := by
  have := m_unheld (f := some (m, i)) hl hg
  unfold unheldN at this
  rw [hg] at this
  exact this
/-- both sides step from s to s' at e -/
structure Both (r : Rule) (s : Rst) (e : Te) (s' : Rst) : Prop where
  p : ∃ b, f_stepped [ruleD r, stP s, teD e] = some (stP s', b)
  x : ∃ b, f_law_next [ruleD r, stX s, teD e] = some (stX s', b)
theorem held_of (hg : getN s.ns n = some x) : heldBy s n = x.hold := by simp -implicitDefEqProofs [heldBy, hg]
theorem both_take (hl : s.ns.length < 50000) (ho : openTo r s h n = true) : Both r s (.take h n) ⟨comeN s.ns h n, s.ls⟩ := by
  have h1 : f_taken [ruleD r, stP s, .str h, .str n] = some (stP ⟨comeN s.ns h n, s.ls⟩, false) := by
    unfold f_taken b_taken
    simp -implicitDefEqProofs [m_is_open, ho, m_come (ns := s.ns) (h := h) (n := n) (by omega), stP_lit]
  refine ⟨⟨false, ?_⟩, ⟨false, ?_⟩⟩
  · unfold f_stepped b_stepped
    simp -implicitDefEqProofs [teD, ofS_inj, h1]
  · unfold f_law_next b_law_next f_law_named b_law_named
    simp -implicitDefEqProofs [teD, ofS_inj, m_law_held, m_law_open, ho, m_law_come (ns := s.ns) (h := h) (n := n) (by omega), stX_lit, setAll]
theorem both_give (hl : s.ns.length < 50000) (hk : s.ls.length < 50000) (hg : getN s.ns n = some x) (hh : x.hold = some h) (hla : x.last = h) :
    Both r s (.give n) ⟨putN s.ns n ⟨none, h, x.num, 0, none⟩, s.ls.map (thrLk n none)⟩ := by
  have hb : heldBy s n = some h := (held_of hg).trans hh
  have h1 : f_given_up [ruleD r, stP s, .str n] = some (stP ⟨putN s.ns n ⟨none, h, x.num, 0, none⟩, s.ls.map (thrLk n none)⟩, false) := by
    unfold f_given_up b_given_up
    simp -implicitDefEqProofs [m_held_by, hb, oS, m_unh0 (ns := s.ns) (by omega) hg, m_threads0 (ls := s.ls) (by omega), stP_lit, hla]
  refine ⟨⟨false, ?_⟩, ⟨false, ?_⟩⟩
  · unfold f_stepped b_stepped
    simp -implicitDefEqProofs [teD, ofS_inj, h1]
  · unfold f_law_next b_law_next f_law_named b_law_named
    simp -implicitDefEqProofs [teD, ofS_inj, m_law_held, hb, hg, oS, rec_lit0, putD_ns (ns := s.ns) (show s.ns.length < 100000 by omega), m_ret0 (ls := s.ls) (by omega), stX_lit, setAll]
theorem both_pass (hl : s.ns.length < 50000) (hk : s.ls.length < 50000) (hp : r.pg ≠ .no) (hg : getN s.ns n = some x) (hh : x.hold = some h) (hne : h ≠ m) :
    Both r s (.pass n m) ⟨putN s.ns n ⟨some m, m, x.num + (if r.pg = .counted then 1 else 0), 0, none⟩, s.ls.map (thrLk n none)⟩ := by
  have hb : heldBy s n = some h := (held_of hg).trans hh
  have hst : ∀ v, starD (nsD s.ns) (.str n) (recD v) = some (nsD (putN s.ns n v), true) := fun v => star_ns (by omega)
  have h1 : f_passed [ruleD r, stP s, .str n, .str m] = some (stP ⟨putN s.ns n ⟨some m, m, x.num + (if r.pg = .counted then 1 else 0), 0, none⟩, s.ls.map (thrLk n none)⟩, false) := by
    unfold f_passed b_passed
    simp -implicitDefEqProofs [m_held_by, hb, oS, hp, hne, hg, rec_lit, hst, m_threads0 (ls := s.ls) (by omega), stP_lit]
  refine ⟨⟨false, ?_⟩, ⟨false, ?_⟩⟩
  · unfold f_stepped b_stepped
    simp -implicitDefEqProofs [teD, ofS_inj, h1]
  · unfold f_law_next b_law_next f_law_named b_law_named
    simp -implicitDefEqProofs [teD, ofS_inj, m_law_held, hb, hg, hp, hne, oS, rec_lit, putD_ns (ns := s.ns) (show s.ns.length < 100000 by omega), m_ret0 (ls := s.ls) (by omega), stX_lit, setAll]
theorem both_change (hl : s.ns.length < 50000) (hk : s.ls.length < 50000) (hg : getN s.ns n = some x) (hh : x.hold = some h) (hla : x.last = h) (hne : n ≠ m) (ho : openTo r s h m = true) :
    Both r s (.change n m) ⟨putN (comeN s.ns h m) n ⟨none, h, x.num, 0, some (m, cnum s.ns h m)⟩, s.ls.map (thrLk n (some m))⟩ := by
  have hb : heldBy s n = some h := (held_of hg).trans hh
  have hcl := come_len (ns := s.ns) (h := h) (n := m)
  have hgm : getN (comeN s.ns h m) m = some ⟨some h, h, cnum s.ns h m, 0, none⟩ := by rw [get_come, if_pos rfl]
  have hgn : getN (comeN s.ns h m) n = some x := by rw [get_come, if_neg hne, hg]
  have h1 : f_changed [ruleD r, stP s, .str n, .str m] = some (stP ⟨putN (comeN s.ns h m) n ⟨none, h, x.num, 0, some (m, cnum s.ns h m)⟩, s.ls.map (thrLk n (some m))⟩, false) := by
    unfold f_changed b_changed
    simp -implicitDefEqProofs [m_held_by, hb, oS, hne, m_is_open, ho, m_come (ns := s.ns) (h := h) (n := m) (by omega), hgm, m_unh1 (ns := comeN s.ns h m) (by omega) hgn, m_threads1 (ls := s.ls) (by omega), stP_lit, hla]
  refine ⟨⟨false, ?_⟩, ⟨false, ?_⟩⟩
  · unfold f_stepped b_stepped
    simp -implicitDefEqProofs [teD, ofS_inj, h1]
  · unfold f_law_next b_law_next f_law_named b_law_named
    simp -implicitDefEqProofs [teD, ofS_inj, m_law_held, m_law_open, ho, hb, hg, hne, oS, m_law_come (ns := s.ns) (h := h) (n := m) (by omega), hgm, rec_lit1, putD_ns (ns := comeN s.ns h m) (show (comeN s.ns h m).length < 100000 by omega), m_ret1 (ls := s.ls) (by omega), stX_lit, setAll]
end
end NW

/-! Ticks and copies on both sides. -/
namespace NW
open PySem PySem.Spec L2
def agedRc (x : Rc) : Rc := ⟨x.hold, x.last, x.num, x.old + (if x.hold = none then 1 else 0), x.fw⟩
def agedLk (l : Lk) : Lk := ⟨l.name, l.num, l.meant, l.age + 1, l.thr⟩
def tickN (ns : Ns) : Ns := ns.map fun p => (p.1, agedRc p.2)
def tickS (s : Rst) : Rst := ⟨tickN s.ns, s.ls.map agedLk⟩
section
variable {r : Rule} {x : Rc} {l : Lk} {s : Rst} {ns : Ns} {n h m : Str} {is : List Nat} {ρ : Ro} {o : Option Str} {k : Nat}
theorem get_tick : getN (tickN ns) n = (getN ns n).map agedRc := by
  unfold getN tickN
  induction ns with
  | nil => rfl
  | cons p ns ih =>
    rw [List.map_cons, List.find?_cons, List.find?_cons]
    by_cases hp : p.1 = n
    · simp -implicitDefEqProofs [hp]
    · simp only [hp, decide_false]
      exact ih
theorem get_mem : ∀ {ns : Ns}, (ns.map (·.1)).Nodup → ∀ {p : Str × Rc}, p ∈ ns → getN ns p.1 = some p.2
  | [], _, p, h => by cases h
  | q :: ns, hn, p, h => by
    rw [List.map_cons, List.nodup_cons] at hn
    unfold getN
    rw [List.find?_cons]
    rcases List.mem_cons.mp h with rfl | h
    · simp
    · have hne : ¬ q.1 = p.1 := fun e => hn.1 (e ▸ List.mem_map.mpr ⟨p, h, rfl⟩)
      simp only [hne, decide_false]
      exact get_mem hn.2 h
theorem put_new {v : Rc} (h : n ∉ ns.map (·.1)) : putN ns n v = ns ++ [(n, v)] := by
  unfold putN
  rw [if_neg]
  intro hh
  obtain ⟨p, hp, e⟩ := List.any_eq_true.mp hh
  exact h (List.mem_map.mpr ⟨p, hp, of_decide_eq_true e⟩)
theorem keys_put {v : Rc} (h : (ns.map (·.1)).Nodup) : ((putN ns n v).map (·.1)).Nodup := by
  unfold putN
  split
  · have e : (ns.map fun p => if p.1 = n then (p.1, v) else p).map (·.1) = ns.map (·.1) := by
      rw [List.map_map]
      refine List.map_congr_left fun p _ => ?_
      show (if p.1 = n then (p.1, v) else p).1 = p.1
      split <;> rfl
    rw [e]
    exact h
  · rename_i hh
    rw [List.map_append, List.nodup_append]
    refine ⟨h, by simp, fun a ha b hb e => ?_⟩
    have hbn : b = n := by simpa using hb
    obtain ⟨p, hp, rfl⟩ := List.mem_map.mp ha
    exact hh (List.any_eq_true.mpr ⟨p, hp, by simp -implicitDefEqProofs [e, hbn]⟩)
theorem keys_tick (h : (ns.map (·.1)).Nodup) : ((tickN ns).map (·.1)).Nodup := by
  have e : (tickN ns).map (·.1) = ns.map (·.1) := by
    unfold tickN
    rw [List.map_map]
    rfl
  rw [e]
  exact h
theorem put_mem {v : Rc} {p : Str × Rc} (h : p ∈ putN ns n v) : p.1 = n ∨ p ∈ ns := by
  unfold putN at h
  split at h
  · obtain ⟨q, hq, e⟩ := List.mem_map.mp h
    split at e
    · rename_i hqn
      rw [← e]
      exact .inl hqn
    · rw [← e]
      exact .inr hq
  · rcases List.mem_append.mp h with h | h
    · exact .inr h
    · have : p = (n, v) := by simpa using h
      rw [this]
      exact .inl rfl
@[simp] theorem sl_rec3 : slT (recD x) none (some 3) = some (.tup [oS x.hold, .str x.last, .int x.num]) := rfl
@[simp] theorem sl_rec4 : slT (recD x) (some 4) none = some (.tup [fD x.fw]) := rfl
@[simp] theorem sl_lk3 : slT (lkD l) none (some 3) = some (.tup [.str l.name, .int l.num, .str l.meant]) := rfl
@[simp] theorem sl_lk4' : slT (lkD l) (some 4) none = some (.tup [oS l.thr]) := rfl
@[simp] theorem add31 {a b c d : D} : addD (.tup [a, b, c]) (.tup [d]) = some (.tup [a, b, c, d]) := rfl
@[simp] theorem add32 {a b c d e : D} : addD (.tup [a, b, c]) (.tup [d, e]) = some (.tup [a, b, c, d, e]) := rfl
@[simp] theorem tg_l : tgT is (lkD l) ρ = setAll is [.str l.name, .int l.num, .str l.meant, .int l.age, oS l.thr] ρ := rfl
theorem rec_g {a : Option Str} {b : Str} {i j : Int} {f : Option (Str × Int)} : D.tup [oS a, .str b, .int i, .int j, fD f] = recD ⟨a, b, i, j, f⟩ := rfl
theorem take_step {α : Type} {xs : List α} {i : Nat} {y : α} (h : xs[i]? = some y) : xs.take (i + 1) = xs.take i ++ [y] := by
  rw [List.take_succ, h]
  rfl
/-- the names behind a turn of the loop -/
theorem tick_put (hn : (ns.map (·.1)).Nodup) {i : Nat} {p : Str × Rc} (h : ns[i]? = some p) : putN ((ns.take i).map fun p => (p.1, agedRc p.2)) p.1 (agedRc p.2) = (ns.take (i + 1)).map fun p => (p.1, agedRc p.2) := by
  rw [take_step h, List.map_append]
  refine put_new ?_
  rw [List.map_map]
  have hi := (List.getElem?_eq_some_iff.mp h).1
  have e : ns = ns.take i ++ ns.drop i := (List.take_append_drop i ns).symm
  have hd : ns.drop i = p :: ns.drop (i + 1) := by
    rw [List.drop_eq_getElem_cons hi]
    have := (List.getElem?_eq_some_iff.mp h).2
    rw [this]
  rw [e, List.map_append, List.nodup_append] at hn
  intro hm
  have hm' : p.1 ∈ (ns.take i).map (·.1) := hm
  refine hn.2.2 p.1 hm' p.1 ?_ rfl
  rw [hd]
  exact List.mem_map.mpr ⟨p, List.mem_cons_self, rfl⟩
theorem fold_tick : ∀ (xs : Ns) (b : Ns), xs.foldl (fun b p => b ++ [(p.1, agedRc p.2)]) b = b ++ xs.map fun p => (p.1, agedRc p.2)
  | [], b => by simp
  | x :: xs, b => by rw [List.foldl_cons, fold_tick xs]; simp
theorem lks_aged {ls : List Lk} : lksL (ls.map agedLk) = ls.map fun l => lkD (agedLk l) := by
  unfold lksL
  rw [List.map_map]
  rfl
theorem tick_litP : D.tup [nsD (tickN s.ns), D.tup (s.ls.map fun l => lkD (agedLk l))] = stP (tickS s) := by
  rw [← lks_aged]
  rfl
theorem tick_litX : D.tup [nsD (tickN s.ns), D.lst (s.ls.map fun l => lkD (agedLk l))] = stX (tickS s) := by
  rw [← lks_aged]
  rfl
theorem m_ticked (hl : s.ns.length < 50000) (hk : s.ls.length < 50000) (hn : (s.ns.map (·.1)).Nodup) : f_ticked [stP s] = some (stP (tickS s), false) := by
  obtain ⟨ρ', h1, h2, b2, b3, h3⟩ := loopF_ix (enc := fun p : Str × Rc => D.tup [.str p.1, recD p.2]) (tg := tgT [2, 3]) (body := l_ticked_1) (xs := s.ns) (b := ([] : Ns)) (k := 0) (step := fun b p => b ++ [(p.1, agedRc p.2)])
    (ρ := [.val (stP s), .own (nsD []), .un, .un, .un])
    (R := fun i b ρ => b = (s.ns.take i).map (fun p => (p.1, agedRc p.2)) ∧ ∃ a2 a3, ρ = [.val (stP s), .own (nsD b), a2, a3, .un])
    (fun i b ρ p hz ⟨hb, a2, a3, e⟩ => by
      subst e
      rw [Nat.zero_add] at hb ⊢
      have hi := (List.getElem?_eq_some_iff.mp hz).1
      have hbl : b.length < 100000 := by rw [hb]; simp; omega
      have hp := putD_ns (ns := b) (n := p.1) hbl (v := agedRc p.2)
      have hq := tick_put hn hz
      rw [← hb] at hq
      refine ⟨_, [.val (stP s), .own (nsD (b ++ [(p.1, agedRc p.2)])), .val (.str p.1), .val (recD p.2), .un], by simp only [tgT_ev, setAll_cons, setAll_nil]; rfl, .inl ?_, ?_, _, _, rfl⟩
      · unfold l_ticked_1
        have e2 : b ++ [(p.1, agedRc p.2)] = putN b p.1 (agedRc p.2) := by
          rw [hq, take_step hz, List.map_append, ← hb]
          rfl
        rw [e2]
        by_cases hh : p.2.hold = none
        · have ea : agedRc p.2 = ⟨p.2.hold, p.2.last, p.2.num, p.2.old + 1, p.2.fw⟩ := by simp -implicitDefEqProofs [agedRc, hh]
          rw [ea] at hp ⊢
          simp -implicitDefEqProofs [hh, rec_g, hp]
          simp -implicitDefEqProofs [hh] at hp
          exact hp
        · have ea : agedRc p.2 = ⟨p.2.hold, p.2.last, p.2.num, p.2.old, p.2.fw⟩ := by simp -implicitDefEqProofs [agedRc, hh]
          rw [ea] at hp ⊢
          simp -implicitDefEqProofs [hh, rec_g, hp]
      · rw [take_step hz, List.map_append, ← hb]
        rfl) ⟨rfl, .un, .un, rfl⟩
  rw [fold_tick, List.nil_append] at h3
  have key := loopC_map (enc := lkD) (out := fun l => lkD (agedLk l)) (pr := fun _ => true) (tg := tgN 4) (c := dYes) (el := (dOp addD (dOp addD (dSl (dPk 4) dI0 (dI1 (dC (.int 3)))) (dTup (dCons (dOp addD (dOp ixD (dPk 4) (dC (.int 3))) (dC (.int 1))) dNil))) (dSl (dPk 4) (dI1 (dC (.int 4))) dI0))) (vs := [4])
    (ρ := [.val (stP s), .val (nsD (tickN s.ns)), b2, b3, .un]) (xs := s.ls) (acc := [])
    (fun l _ => ⟨_, rfl, rfl, fun _ => by
      simp
      rfl⟩) (by simp; omega)
  have hf : s.ls.filter (fun _ => true) = s.ls := List.filter_eq_self.mpr fun _ _ => rfl
  rw [hf, List.nil_append] at key
  unfold f_ticked b_ticked
  have e0 : D.dS [] = nsD [] := rfl
  have hF : dForS itemsD (dOp ixD (dPk 0) (dC (.int 0))) (tgT [2, 3]) l_ticked_1 [.val (stP s), .own (nsD []), .un, .un, .un] = some (.nx ρ') := by
    unfold dForS
    have : (dOp ixD (dPk 0) (dC (.int 0))) [Slot.val (stP s), .own (nsD []), .un, .un, .un] = some (.dS (nsL s.ns)) := rfl
    rw [this]
    show (loopF (tgT [2, 3]) l_ticked_1 (itemsD (nsL s.ns)) _).bind noRt = _
    have e : itemsD (nsL s.ns) = s.ns.map fun p => D.tup [.str p.1, recD p.2] := by
      unfold itemsD nsL
      rw [List.map_map]
      rfl
    rw [e, h1]
    rfl
  simp only [fnOf_ev, List.map_cons, List.map_nil, List.length_cons, List.length_nil, List.replicate, List.cons_append, List.nil_append, dSeq_ev, dSetO_ev, dNewS_ev, Option.bind_some, if_true, List.set_cons_succ, List.set_cons_zero, andThen_nx, Nat.reduceAdd, Nat.reduceSub]
  rw [e0, hF]
  simp only [Option.bind_some, andThen_nx]
  rw [h3]
  have e1 : (s.ns.map fun p => (p.1, agedRc p.2)) = tickN s.ns := rfl
  rw [e1]
  simp -implicitDefEqProofs [lksL] at key ⊢
  rw [key]
  simp
  exact tick_litP
theorem m_law_tick (hl : s.ns.length < 50000) (hk : s.ls.length < 50000) (hn : (s.ns.map (·.1)).Nodup) : f_law_next [ruleD r, stX s, teD .tick] = some (stX (tickS s), false) := by
  obtain ⟨ρ', h1, h2, b5, b8, h3⟩ := loopF_ix (enc := fun p : Str × Rc => D.str p.1) (tg := tgN 8) (body := l_law_next_1) (xs := s.ns) (b := ([] : Ns)) (k := 0) (step := fun b p => b ++ [(p.1, agedRc p.2)])
    (ρ := [.val (ruleD r), .val (stX s), .val (teD .tick), .val (nsD s.ns), .val (.lst (lksL s.ls)), .un, .un, .own (nsD []), .un, .un, .un])
    (R := fun i b ρ => b = (s.ns.take i).map (fun p => (p.1, agedRc p.2)) ∧ ∃ a5 a8, ρ = [.val (ruleD r), .val (stX s), .val (teD .tick), .val (nsD s.ns), .val (.lst (lksL s.ls)), a5, .un, .own (nsD b), a8, .un, .un])
    (fun i b ρ p hz ⟨hb, a5, a8, e⟩ => by
      subst e
      rw [Nat.zero_add] at hb ⊢
      have hi := (List.getElem?_eq_some_iff.mp hz).1
      have hbl : b.length < 100000 := by rw [hb]; simp; omega
      have hp := putD_ns (ns := b) (n := p.1) hbl (v := agedRc p.2)
      have hq := tick_put hn hz
      have hg := get_mem hn (List.mem_of_getElem? hz)
      rw [← hb] at hq
      refine ⟨_, [.val (ruleD r), .val (stX s), .val (teD .tick), .val (nsD s.ns), .val (.lst (lksL s.ls)), .val (recD p.2), .un, .own (nsD (b ++ [(p.1, agedRc p.2)])), .val (.str p.1), .un, .un], by simp only [tgN_ev]; rfl, .inl ?_, ?_, _, _, rfl⟩
      · unfold l_law_next_1
        have e2 : b ++ [(p.1, agedRc p.2)] = putN b p.1 (agedRc p.2) := by
          rw [hq, take_step hz, List.map_append, ← hb]
          rfl
        rw [e2]
        by_cases hh : p.2.hold = none
        · have ea : agedRc p.2 = ⟨p.2.hold, p.2.last, p.2.num, p.2.old + 1, p.2.fw⟩ := by simp -implicitDefEqProofs [agedRc, hh]
          rw [ea] at hp ⊢
          simp -implicitDefEqProofs [hg, hh, rec_g, hp]
          simp -implicitDefEqProofs [hh] at hp
          exact hp
        · have ea : agedRc p.2 = ⟨p.2.hold, p.2.last, p.2.num, p.2.old, p.2.fw⟩ := by simp -implicitDefEqProofs [agedRc, hh]
          rw [ea] at hp ⊢
          simp -implicitDefEqProofs [hg, hh, rec_g, hp]
      · rw [take_step hz, List.map_append, ← hb]
        rfl) ⟨rfl, .un, .un, rfl⟩
  rw [fold_tick, List.nil_append] at h3
  have key := loopC_map (enc := lkD) (out := fun l => lkD (agedLk l)) (pr := fun _ => true) (tg := tgN 10) (c := dYes) (el := (dOp addD (dSl (dPk 10) dI0 (dI1 (dC (.int 3)))) (dTup (dCons (dOp addD (dOp ixD (dPk 10) (dC (.int 3))) (dC (.int 1))) (dCons (dOp ixD (dPk 10) (dC (.int 4))) dNil))))) (vs := [10])
    (ρ := [.val (ruleD r), .val (stX s), .val (teD .tick), .val (nsD s.ns), .val (.lst (lksL s.ls)), b5, .un, .val (nsD (tickN s.ns)), b8, .un, .un]) (xs := s.ls) (acc := [])
    (fun l _ => ⟨_, rfl, rfl, fun _ => by
      simp
      rfl⟩) (by simp; omega)
  have hf : s.ls.filter (fun _ => true) = s.ls := List.filter_eq_self.mpr fun _ _ => rfl
  rw [hf, List.nil_append] at key
  unfold f_law_next b_law_next
  have e0 : D.dS [] = nsD [] := rfl
  have hF : dForS keysD (dVar 3) (tgN 8) l_law_next_1 [.val (ruleD r), .val (stX s), .val (teD .tick), .val (nsD s.ns), .val (.lst (lksL s.ls)), .un, .un, .own (nsD []), .un, .un, .un] = some (.nx ρ') := by
    unfold dForS
    have : (dVar 3) [.val (ruleD r), .val (stX s), .val (teD .tick), .val (nsD s.ns), .val (.lst (lksL s.ls)), .un, .un, .own (nsD []), .un, .un, .un] = some (.dS (nsL s.ns)) := rfl
    rw [this]
    show (loopF (tgN 8) l_law_next_1 (keysD (nsL s.ns)) _).bind noRt = _
    have e : keysD (nsL s.ns) = s.ns.map fun p => D.str p.1 := by
      unfold keysD nsL
      rw [List.map_map]
      rfl
    rw [e, h1]
    rfl
  have e1 : (s.ns.map fun p => (p.1, agedRc p.2)) = tickN s.ns := rfl
  rw [e1] at h3
  have hev : ixD (teD .tick) (.int 0) = some (.str "tick") := rfl
  simp -implicitDefEqProofs [hev, setAll]
  rw [e0, hF, h3]
  simp -implicitDefEqProofs [lksL] at key ⊢
  rw [key]
  simp
  exact tick_litX
theorem both_tick (hl : s.ns.length < 50000) (hk : s.ls.length < 50000) (hn : (s.ns.map (·.1)).Nodup) : Both r s .tick (tickS s) := by
  refine ⟨⟨false, ?_⟩, ⟨false, m_law_tick hl hk hn⟩⟩
  unfold f_stepped b_stepped
  simp -implicitDefEqProofs [teD, ofS_inj, m_ticked hl hk hn]
theorem lks_app {a b : List Lk} : lksL (a ++ b) = lksL a ++ lksL b := List.map_append
theorem at_lks {ls : List Lk} (h : ls[k]? = some l) : atI (lksL ls) ((k : Nat) : Int) = some (lkD l) := by
  rw [atI_nat]
  unfold lksL
  rw [List.getElem?_map, h]
  rfl
theorem both_same (hk : s.ls.length < 50000) (hc : r.cp = .same) (hg : s.ls[k]? = some l) (hd : dead r l = false) :
    Both r s (.copy k) ⟨s.ns, s.ls ++ [⟨l.name, l.num, l.meant, 0, l.thr⟩]⟩ := by
  have hi := (List.getElem?_eq_some_iff.mp hg).1
  have hi' : ¬ (s.ls.length : Int) ≤ (k : Int) := by omega
  have ha := at_lks hg
  have hle : lksL (s.ls ++ [⟨l.name, l.num, l.meant, 0, l.thr⟩]) = lksL s.ls ++ [.tup [.str l.name, .int l.num, .str l.meant, .int 0, oS l.thr]] := lks_app
  have hadd := addD_tt (ds := lksL s.ls) (ds' := [.tup [.str l.name, .int l.num, .str l.meant, .int 0, oS l.thr]]) (by rw [lks_len]; simp; omega)
  have hcat : (lksL s.ls).length + 1 ≤ 100000 := by rw [lks_len]; omega
  have h1 : f_copied [ruleD r, stP s, .int (k : Nat)] = some (stP ⟨s.ns, s.ls ++ [⟨l.name, l.num, l.meant, 0, l.thr⟩]⟩, false) := by
    unfold f_copied b_copied
    simp -implicitDefEqProofs [hc, lks_len, hi', ha, m_is_dead, hd, setAll, hadd, ofS_inj]
    rw [← hle]
    rfl
  refine ⟨⟨false, ?_⟩, ⟨false, ?_⟩⟩
  · unfold f_stepped b_stepped
    simp -implicitDefEqProofs [teD, ofS_inj, h1]
  · unfold f_law_next b_law_next
    simp -implicitDefEqProofs [teD, ofS_inj, hc, lks_len, hi', ha, m_law_dead, hd, setAll, hcat]
    rw [if_pos (by omega)]
    simp
    rw [← hle]
    rfl
theorem both_anew (hk : s.ls.length < 50000) (hc : r.cp = .anew) (hg : s.ls[k]? = some l) (hd : dead r l = false) (hw : leads r s.ns l = some (some (n, h))) (hx : getN s.ns n = some x) :
    Both r s (.copy k) ⟨s.ns, s.ls ++ [⟨n, x.num, l.meant, 0, l.thr⟩]⟩ := by
  have hi := (List.getElem?_eq_some_iff.mp hg).1
  have hi' : ¬ (s.ls.length : Int) ≤ (k : Int) := by omega
  have ha := at_lks hg
  have hle : lksL (s.ls ++ [⟨n, x.num, l.meant, 0, l.thr⟩]) = lksL s.ls ++ [.tup [.str n, .int x.num, .str l.meant, .int 0, oS l.thr]] := lks_app
  have hadd := addD_tt (ds := lksL s.ls) (ds' := [.tup [.str n, .int x.num, .str l.meant, .int 0, oS l.thr]]) (by rw [lks_len]; simp; omega)
  have hcat : (lksL s.ls).length + 1 ≤ 100000 := by rw [lks_len]; omega
  have h1 : f_copied [ruleD r, stP s, .int (k : Nat)] = some (stP ⟨s.ns, s.ls ++ [⟨n, x.num, l.meant, 0, l.thr⟩]⟩, false) := by
    unfold f_copied b_copied
    simp -implicitDefEqProofs [hc, lks_len, hi', ha, m_is_dead, hd, setAll, hadd, m_led_to hw, hx]
    rw [← hle]
    rfl
  have hto := m_law_to (s := s) (S := stX s) rfl hw
  refine ⟨⟨false, ?_⟩, ⟨false, ?_⟩⟩
  · unfold f_stepped b_stepped
    simp -implicitDefEqProofs [teD, ofS_inj, h1]
  · unfold f_law_next b_law_next
    simp -implicitDefEqProofs [teD, ofS_inj, hc, lks_len, hi', ha, m_law_dead, hd, setAll, hcat, hto, hx]
    rw [if_pos (by omega)]
    simp
    rw [← hle]
    rfl
end
end NW

/-! Words; told events have the form of events. -/
namespace NW
open PySem PySem.Spec L2
/-- one to eight letters -/
def Word (x : Str) : Prop := ∃ l, x = strOf l ∧ 1 ≤ l.length ∧ l.length ≤ 8 ∧ ∀ c ∈ l, c < 26
def meS : Str := strOf [12, 4]
def aS : Str := strOf [0]
def toS (k : Nat) : Str := strOf (19 :: 14 :: letters k)
def youS (k : Nat) : Str := strOf (24 :: 14 :: 20 :: letters k)
theorem me_lit : ("me" : Str) = meS := by decide +kernel
theorem a_lit : ("a" : Str) = aS := by decide +kernel
theorem to_lit : ("to" : Str) = strOf [19, 14] := by decide +kernel
theorem you_lit : ("you" : Str) = strOf [24, 14, 20] := by decide +kernel
def lvl : Nat → Nat
  | 0 => 26
  | d + 1 => 26 * lvl d + 26
theorem go_len : ∀ (d f n : Nat) (acc : List Nat), n < lvl d → (letGo f n acc).length ≤ acc.length + d
  | d, 0, n, acc, _ => by unfold letGo; omega
  | 0, f + 1, n, acc, h => by
    unfold letGo
    rw [if_pos (show n < 26 from h)]
    omega
  | d + 1, f + 1, n, acc, h => by
    unfold letGo
    split
    · omega
    · have h' : n < 26 * lvl d + 26 := h
      have := go_len d f (n / 26 - 1) ((n / 26 - 1) % 26 :: acc) (by omega)
      rw [List.length_cons] at this
      omega
theorem let_len {n : Nat} (h : n ≤ 30000) : (letters n).length ≤ 4 := by
  have := go_len 3 n n [n % 26] (by have : lvl 3 = 475254 := rfl; omega)
  unfold letters
  simp at this
  omega
theorem go_pos : ∀ (f n : Nat) (acc : List Nat), 1 ≤ acc.length → 1 ≤ (letGo f n acc).length
  | 0, _, _, h => h
  | f + 1, n, acc, h => by
    unfold letGo
    split
    · exact h
    · exact go_pos f _ _ (by simp)
theorem letters_lt {n : Nat} : ∀ c ∈ letters n, c < 26 := let_lt n n [n % 26] fun c hc => by
  have : c = n % 26 := by simpa using hc
  omega
theorem word_me : Word meS := ⟨_, rfl, by decide, by decide, by decide⟩
theorem word_a : Word aS := ⟨_, rfl, by decide, by decide, by decide⟩
theorem word_to {k : Nat} (h : k ≤ 30000) : Word (toS k) := by
  have := let_len h
  refine ⟨_, rfl, by simp, by simp; omega, fun c hc => ?_⟩
  rcases List.mem_cons.mp hc with rfl | hc
  · decide
  · rcases List.mem_cons.mp hc with rfl | hc
    · decide
    · exact letters_lt c hc
theorem word_you {k : Nat} (h : k ≤ 30000) : Word (youS k) := by
  have := let_len h
  refine ⟨_, rfl, by simp, by simp; omega, fun c hc => ?_⟩
  rcases List.mem_cons.mp hc with rfl | hc
  · decide
  · rcases List.mem_cons.mp hc with rfl | hc
    · decide
    · rcases List.mem_cons.mp hc with rfl | hc
      · decide
      · exact letters_lt c hc
theorem to_inj {i j : Nat} (h : toS i = toS j) : i = j := by
  have := strOf_inj h
  simp only [List.cons.injEq, true_and] at this
  exact letters_inj this
theorem you_inj {i j : Nat} (h : youS i = youS j) : i = j := by
  have := strOf_inj h
  simp only [List.cons.injEq, true_and] at this
  exact letters_inj this
theorem me_you {k : Nat} : meS ≠ youS k := fun h => by
  have := strOf_inj h
  simp at this
theorem a_to {k : Nat} : aS ≠ toS k := fun h => by
  have := strOf_inj h
  simp at this
theorem add_to {k : Nat} (h : k ≤ 30000) : addD (.str "to") (.str (strOf (letters k))) = some (.str (toS k)) := by
  rw [to_lit, add_str (by have := let_len h; simp; omega)]
  rfl
theorem add_you {k : Nat} (h : k ≤ 30000) : addD (.str "you") (.str (strOf (letters k))) = some (.str (youS k)) := by
  rw [you_lit, add_str (by have := let_len h; simp; omega)]
  rfl
theorem word_lay {x : Str} (h : Word x) : PyData.strOk x = true := by
  obtain ⟨l, rfl, _, _, h⟩ := h
  unfold PyData.strOk strOf
  rw [Array.all_eq_true]
  intro i hi
  simp at hi ⊢
  have := h l[i] (List.getElem_mem _)
  omega
theorem sign_in {c : Nat} (h : c < 26) : inD (.str ⟨#[97 + c]⟩) (.str abc) = some true := by
  have e : inD (.str ⟨#[97 + c]⟩) (.str abc) = some (decide (97 + c ∈ abc.cps.toList)) := rfl
  rw [e]
  congr 1
  exact decide_eq_true (List.mem_of_getElem? (abc_at c h))
theorem len_str {l : List Nat} (h : l.length ≤ 1000) : lenD (.str (strOf l)) = some (.int l.length) := by
  unfold lenD
  simp -implicitDefEqProofs [str_len]
  try omega
theorem nil_nil : eqD (.lst []) (.lst []) = some true := by decide +kernel
theorem isi_str {x : Str} : isiD "str" (.str x) = some (.bl true) := by
  unfold isiD D.ty
  simp
/-- a turn of the look at a word -/
theorem is_word {x : Str} (hw : Word x) {d : D} {a1 a2 a3 : Slot} : ∃ c2, l_law_is_event_1 [.val d, a1, .val (.str x), a3] = some (.nx [.val d, a1, c2, a3]) := by
  obtain ⟨l, rfl, h1, h2, h3⟩ := hw
  have key := loopC_map (enc := fun c => D.str ⟨#[97 + c]⟩) (out := fun c => D.str ⟨#[97 + c]⟩) (pr := fun _ => false) (tg := tgN 3) (c := (dCmp (notG inD) (dPk 3) (dC (.str abc)))) (el := dVar 3) (vs := [3])
    (ρ := [.val d, a1, .val (.str (strOf l)), a3]) (xs := l) (acc := [])
    (fun c hc => ⟨[.val d, a1, .val (.str (strOf l)), .val (.str ⟨#[97 + c]⟩)], rfl, by
      simp -implicitDefEqProofs [sign_in (h3 c hc)], fun h => by cases h⟩) (by simp; omega)
  have hs : signsD (strOf l) = l.map fun c => D.str ⟨#[97 + c]⟩ := by
    unfold signsD strOf
    simp
  have hf : l.filter (fun _ => false) = [] := List.filter_eq_nil_iff.mpr (by simp)
  rw [hf] at key
  simp only [List.map_nil, List.append_nil] at key
  refine ⟨.val (.str (strOf l)), ?_⟩
  unfold l_law_is_event_1
  have hl1 : (1 : Int) ≤ l.length := by omega
  have hl2 : (l.length : Int) ≤ 8 := by omega
  have hsrc : strS (dVar 2) [.val d, a1, .val (.str (strOf l)), a3] = some (l.map fun c => D.str ⟨#[97 + c]⟩) := by
    unfold strS
    simp -implicitDefEqProofs [hs]
  rw [show D.str "abcdefghijklmnopqrstuvwxyz" = D.str abc from rfl]
  simp -implicitDefEqProofs [isi_str, len_str (l := l) (by omega), hl1, hl2, hsrc, nil_nil]
  rw [key]
  simp -implicitDefEqProofs [nil_nil]
def teWords : Te → List Str
  | .tick => []
  | .copy _ => []
  | .give n => [n]
  | .write n => [n]
  | .take h n => [h, n]
  | .change n m => [n, m]
  | .pass n h => [n, h]
theorem lay_words : ∀ {l : List Str}, (∀ x ∈ l, Word x) → PyData.canLayAll0 (pyL (l.map D.str)) = true ∧ PyData.depthAll (pyL (l.map D.str)) = 0 ∧ sqL (l.map D.str) = true
  | [], _ => ⟨rfl, rfl, rfl⟩
  | x :: l, h => by
    obtain ⟨h1, h2, h3⟩ := lay_words (l := l) fun y hy => h y (List.mem_cons_of_mem _ hy)
    have hx := word_lay (h x List.mem_cons_self)
    refine ⟨?_, ?_, ?_⟩
    · simp -implicitDefEqProofs [pyL, D.py, PyData.canLayAll0, PyData.canLay0, hx]
      simpa using h1
    · simp -implicitDefEqProofs [pyL, D.py, PyData.depthAll, PyData.depth]
      simpa using h2
    · simp -implicitDefEqProofs [sqL, D.sq]
      simpa using h3
theorem tup_nil {w : Str} {l : List Str} (hw : PyData.strOk w = true) (h : ∀ x ∈ l, Word x) : eqD (.tup (.str w :: l.map D.str)) (.tup []) = some false := by
  obtain ⟨h1, h2, h3⟩ := lay_words h
  unfold eqD
  simp only [scV]
  have e1 : (D.tup (.str w :: l.map D.str)).sq = true := by simpa [D.sq, sqL] using h3
  have e2 : SeqAt.shaped (D.tup (.str w :: l.map D.str)).py = true := by
    unfold SeqAt.shaped
    simp only [D.py, pyL, PyData.canLay0, PyData.canLayAll0, hw, h1, PyData.depth, PyData.depthAll, h2]
    decide
  rw [e1, e2]
  rw [if_pos (by decide +kernel)]
  congr 1
end NW

/-! A state that a scene tells of. -/
namespace NW
open PySem PySem.Spec L2
def isMe (x : Str) : Bool := decide (x = meS)
inductive NameOk (u : Nat) : Str → Prop where
  | a : NameOk u aS
  | to {k : Nat} : k < u → NameOk u (toS k)
inductive HoldOk (u : Nat) : Str → Prop where
  | me : HoldOk u meS
  | you {k : Nat} : k < u → HoldOk u (youS k)
theorem NameOk.up {u v : Nat} {x : Str} (h : NameOk u x) (l : u ≤ v) : NameOk v x := by
  cases h with
  | a => exact .a
  | to h => exact .to (by omega)
theorem HoldOk.up {u v : Nat} {x : Str} (h : HoldOk u x) (l : u ≤ v) : HoldOk v x := by
  cases h with
  | me => exact .me
  | you h => exact .you (by omega)
theorem to_fresh {u : Nat} (h : NameOk u (toS u)) : False := by
  generalize e : toS u = x at h
  cases h with
  | a => exact a_to e.symm
  | to h => have := to_inj e; omega
theorem you_fresh {u : Nat} (h : HoldOk u (youS u)) : False := by
  generalize e : youS u = x at h
  cases h with
  | me => exact me_you e.symm
  | you h => have := you_inj e; omega
theorem NameOk.word {u : Nat} {x : Str} (h : NameOk u x) (hu : u ≤ 30000) : Word x := by
  cases h with
  | a => exact word_a
  | to h => exact word_to (by omega)
theorem HoldOk.word {u : Nat} {x : Str} (h : HoldOk u x) (hu : u ≤ 30000) : Word x := by
  cases h with
  | me => exact word_me
  | you h => exact word_you (by omega)
structure RcOk (u : Nat) (n : Str) (x : Rc) : Prop where
  name : NameOk u n
  last : HoldOk u x.last
  hold : ∀ h, x.hold = some h → x.last = h
/-- the names, u events behind the first -/
structure NsOk (u : Nat) (ns : Ns) : Prop where
  keys : (ns.map (·.1)).Nodup
  all : ∀ n x, getN ns n = some x → RcOk u n x
  few : ns.length ≤ 2 * u
theorem RcOk.up {u v : Nat} {n : Str} {x : Rc} (h : RcOk u n x) (l : u ≤ v) : RcOk v n x := ⟨h.name.up l, h.last.up l, h.hold⟩
theorem NsOk.tick {u : Nat} {ns : Ns} (h : NsOk u ns) : NsOk (u + 1) (tickN ns) := by
  refine ⟨keys_tick h.keys, fun n x e => ?_, ?_⟩
  · rw [get_tick] at e
    obtain ⟨y, hy, rfl⟩ := Option.map_eq_some_iff.mp e
    have := (h.all n y hy).up (Nat.le_succ u)
    exact ⟨this.name, this.last, this.hold⟩
  · have := h.few
    simp [tickN]
    omega
theorem NsOk.put1 {u : Nat} {ns : Ns} (h : NsOk u ns) {n : Str} {x : Rc} (hx : RcOk (u + 1) n x) : NsOk (u + 1) (putN ns n x) := by
  refine ⟨keys_put h.keys, fun m y e => ?_, ?_⟩
  · rw [get_put] at e
    split at e
    · rename_i q
      cases e
      subst q
      exact hx
    · exact (h.all m y e).up (Nat.le_succ u)
  · have := h.few
    have := put_len (ns := ns) (n := n) (v := x)
    omega
theorem NsOk.put2 {u : Nat} {ns : Ns} (h : NsOk u ns) {n m : Str} {x y : Rc} (hx : RcOk (u + 1) n x) (hy : RcOk (u + 1) m y) : NsOk (u + 1) (putN (putN ns n x) m y) := by
  refine ⟨keys_put (keys_put h.keys), fun q z e => ?_, ?_⟩
  · rw [get_put] at e
    split at e
    · rename_i q
      cases e
      subst q
      exact hy
    · rw [get_put] at e
      split at e
      · rename_i q
        cases e
        subst q
        exact hx
      · exact (h.all q z e).up (Nat.le_succ u)
  · have := h.few
    have := put_len (ns := ns) (n := n) (v := x)
    have := put_len (ns := putN ns n x) (n := m) (v := y)
    omega
theorem NsOk.same {u : Nat} {ns : Ns} (h : NsOk u ns) : NsOk (u + 1) ns := ⟨h.keys, fun n x e => (h.all n x e).up (Nat.le_succ u), by have := h.few; omega⟩
/-- a row tells of a record; k is the number by which it is come to -/
structure RowSim (r : Rule) (y : Row) (x : Rc) (k : Int) : Prop where
  who : y.who = x.hold.map isMe
  last : y.last = isMe x.last
  num : y.num = (x.num - k) % r.marks
  old : y.old = if oldest r < x.old then oldest r else x.old
  fw : y.fw = .none ↔ x.fw = none
def RowsSim (r : Rule) (ns : Ns) (n0 : Str) (k0 : Int) : Rows → List Str → Prop
  | .one x, nm => nm = [n0] ∧ ∃ c, getN ns n0 = some c ∧ RowSim r x c k0
  | .two y x, nm => ∃ n1 c c1 k1, nm = [n0, n1] ∧ n0 ≠ n1 ∧ getN ns n0 = some c ∧ RowSim r y c k0 ∧ c.fw = some (n1, k1) ∧ getN ns n1 = some c1 ∧ RowSim r x c1 k1
def ThrSim (ns : Ns) (o : Option Str) (nm : List Str) : Thr → Prop
  | .no => o = none
  | .p0 => ∃ n, nm[0]? = some n ∧ o = some n
  | .p1 => ∃ n, nm[1]? = some n ∧ o = some n
  | .out => ∃ n c, o = some n ∧ getN ns n = some c ∧ c.hold = some meS ∧ n ∉ nm
structure Alike (r : Rule) (L l : Lk) : Prop where
  name : l.name = L.name
  num : (l.num - L.num) % r.marks = 0
  meant : l.meant = meS
  thr : l.thr = L.thr
  age : L.age ≤ l.age
/-- the scene t tells of the state s; L is the last link, nm are the rows' names -/
structure Sim (r : Rule) (u : Nat) (t : Scene) (nm : List Str) (s : Rst) (L : Lk) : Prop where
  ns : NsOk u s.ns
  few : s.ls.length ≤ u
  last : s.ls[s.ls.length - 1]? = some L
  alike : ∀ l ∈ s.ls, Alike r L l
  age : t.age = if r.life = none then 0 else L.age
  rows : RowsSim r s.ns L.name L.num t.rows nm
  thr : ThrSim s.ns L.thr nm t.thr
  pos : 0 ≤ L.age
section
variable {r : Rule} {t t' : Scene} {s s' : Rst} {nm : List Str} {L l : Lk} {u : Nat} {y : Row} {x c : Rc} {k : Int} {n h : Str} {ns : Ns} {w b p : Bool}
theorem old_lt (T : Tight r) (S : RowSim r y x k) {f : Int} (hf : r.fwd = some f) : y.old < f ↔ x.old < f := by
  have := (old_ge T).2.2.2 f hf
  rw [S.old]
  split <;> omega
theorem good_row (T : Tight r) (S : RowSim r y x k) (hh : x.hold = none) : good r x = fine r y := by
  unfold good fine
  have e1 : decide (x.hold = none) = true := by simp [hh]
  have e2 : decide (x.fw ≠ none) = decide (y.fw ≠ .none) := by
    by_cases q : y.fw = .none
    · have := S.fw.mp q
      simp [q, this]
    · have : ¬ x.fw = none := fun z => q (S.fw.mpr z)
      simp [q, this]
  rw [e1, e2, Bool.true_and]
  congr 1
  cases hf : r.fwd with
  | none => rfl
  | some f =>
    simp only
    exact decide_eq_decide.mpr (old_lt T S hf).symm
theorem may_open (T : Tight r) (S : RowSim r y x k) (hg : getN s.ns n = some x) (hw : y.who = none) (hm : mayCome r y w b = true) (hl : x.last = h ↔ b = true) : openTo r s h n = true := by
  have hh : x.hold = none := by
    have := S.who
    rw [hw] at this
    cases q : x.hold with
    | none => rfl
    | some z => rw [q] at this; cases this
  unfold openTo
  rw [hg]
  simp only [hh, ne_eq, not_true_eq_false, if_false]
  cases b with
  | true => rw [if_pos (hl.mpr rfl)]
  | false =>
    have : ¬ x.last = h := fun q => by cases hl.mp q
    rw [if_neg this]
    unfold mayCome at hm
    simp only [Bool.false_eq_true, if_false] at hm
    split at hm
    · cases hm
    · cases hwt : r.wait with
      | none => rw [hwt] at hm; cases hm
      | some wt =>
        rw [hwt] at hm
        simp only at hm ⊢
        obtain ⟨h1, h2⟩ := Bool.and_eq_true_iff.mp hm
        rw [good_row T S hh, h2, Bool.and_true]
        have h3 := of_decide_eq_true h1
        have h4 := S.old
        refine decide_eq_true ?_
        rw [h4] at h3
        split at h3 <;> omega
theorem emod_shift {a d m : Int} : ((a - k) % m + d) % m = (a + d - k) % m := by
  rw [Int.emod_add_emod]
  congr 1
  omega
theorem come_row (T : Tight r) (S : RowSim r y x k) (hg : getN ns n = some x) (hl : x.last = h ↔ b = true) (hi : isMe h = w) :
    RowSim r ⟨some w, w, (y.num + (if b then 0 else 1)) % r.marks, 0, .none⟩ ⟨some h, h, cnum ns h n, 0, none⟩ k := by
  refine ⟨by simp [hi], by simp [hi], ?_, ?_, by simp⟩
  · show (y.num + _) % r.marks = (cnum ns h n - k) % r.marks
    unfold cnum
    rw [hg, S.num]
    simp only
    rw [emod_shift]
    congr 2
    congr 1
    by_cases q : x.last = h
    · rw [if_pos (hl.mp q), if_pos q]
    · have : ¬ b = true := fun z => q (hl.mpr z)
      rw [if_neg this, if_neg q]
  · have := (old_ge T).1
    show (0 : Int) = if oldest r < 0 then oldest r else 0
    rw [if_neg (by omega)]
theorem aged_row (T : Tight r) (S : RowSim r y x k) : RowSim r (agedRow r y) (agedRc x) k := by
  refine ⟨S.who, S.last, S.num, ?_, S.fw⟩
  have h1 : (y.who = none) ↔ (x.hold = none) := by
    rw [S.who]
    cases x.hold <;> simp
  have h2 := S.old
  show (if oldest r < y.old + (if y.who = none then 1 else 0) then oldest r else y.old + (if y.who = none then 1 else 0)) = (if oldest r < x.old + (if x.hold = none then 1 else 0) then oldest r else x.old + (if x.hold = none then 1 else 0))
  rw [h2]
  by_cases q : x.hold = none
  · rw [if_pos q, if_pos (h1.mpr q)]
    repeat' split
    all_goals omega
  · have : ¬ y.who = none := fun z => q (h1.mp z)
    rw [if_neg q, if_neg this]
    repeat' split
    all_goals omega
end
end NW

/-! Where the links of a told state lead; their words. -/
namespace NW
open PySem PySem.Spec L2
section
variable {r : Rule} {t t' : Scene} {s s' : Rst} {nm : List Str} {L l : Lk} {u : Nat} {y : Row} {x c : Rc} {k : Int} {n h : Str} {ns : Ns} {w b p : Bool}
theorem num_alike {a d e : Int} (h : (d - e) % r.marks = 0) : (a - d) % r.marks = (a - e) % r.marks := by
  have : a - e = (a - d) + (d - e) := by omega
  rw [this, Int.add_emod, h, Int.add_zero, Int.emod_emod_of_dvd _ (Int.dvd_refl _)]
/-- the last row: where the name leads from there -/
theorem goes_top (T : Tight r) (S : RowSim r y x k) (hg : getN ns n = some x) {i : Int} (hi : (i - k) % r.marks = 0) {one : Bool} {m : Nat} (hm : m + (if one then 0 else 1) + 1 = hopN r) (ho : y.fw = .off → Unled r one y) (hf : y.fw ≠ .next) :
    ∃ o, goes r ns (m + 1) n i = some o ∧ (o.map fun p => isMe p.2) = (if y.num = 0 then y.who else none) ∧ (∀ q, o = some q → q.1 = n) := by
  have hnum : (x.num - i) % r.marks = y.num := by rw [S.num, num_alike hi]
  unfold goes
  rw [hg]
  simp only
  rw [hnum]
  by_cases h0 : y.num = 0
  · simp only [h0, ne_eq, not_true_eq_false, if_false, if_true]
    cases hh : x.hold with
    | some h =>
      refine ⟨_, rfl, ?_, fun q e => ?_⟩
      · rw [S.who, hh]; rfl
      · cases e; rfl
    | none =>
      have hw : y.who = none := by rw [S.who, hh]; rfl
      rw [hw]
      simp only
      cases hgd : good r x with
      | false => exact ⟨none, rfl, rfl, fun q e => by cases e⟩
      | true =>
        have hfine : fine r y = true := by rw [← good_row T S hh]; exact hgd
        have hfw : x.fw ≠ none := by
          obtain ⟨p, e⟩ := good_fw hgd
          rw [e]; simp
        have hne : y.fw ≠ .none := fun q => hfw (S.fw.mp q)
        have hoff : y.fw = .off := by
          cases q : y.fw with
          | none => exact absurd q hne
          | next => exact absurd q hf
          | off => rfl
        obtain ⟨⟨n', i'⟩, hx⟩ := good_fw hgd
        rw [hx]
        simp only [if_true]
        have hm0 : m = 0 := by
          rcases ho hoff with q | q | q | ⟨f, q1, q2⟩
          · exact absurd h0 q
          · subst q
            have : hopN r ≤ 2 := by unfold hopN; split <;> omega
            simp at hm
            omega
          · have : hopN r = 1 := by simp [hopN, q]
            omega
          · have hf2 : y.old < f := by
              unfold fine at hfine
              rw [q1] at hfine
              exact of_decide_eq_true (Bool.and_eq_true_iff.mp hfine).2
            omega
        subst hm0
        exact ⟨none, rfl, rfl, fun q e => by cases e⟩
  · simp only [h0, ne_eq, not_false_eq_true, if_true, if_false]
    exact ⟨none, rfl, rfl, fun q e => by cases e⟩
theorem sim_goes (T : Tight r) (W : WF r t) (R : RowsSim r ns L.name L.num t.rows nm) {i : Int} (hi : (i - L.num) % r.marks = 0) :
    ∃ o, goes r ns (hopN r) L.name i = some o ∧ (o.map fun p => isMe p.2) = endOf t ∧ (topP t = false → ∀ q, o = some q → q.1 = L.name) := by
  obtain ⟨age, rows, thr⟩ := t
  cases rows with
  | one x =>
    obtain ⟨rfl, c, hg, S⟩ := R
    have h1 : 1 ≤ hopN r := by unfold hopN; split <;> omega
    obtain ⟨o, e1, e2, e3⟩ := goes_top T S hg hi (one := true) (m := hopN r - 1) (by simp; omega) (fun q => W.off q) W.fw
    rw [Nat.sub_add_cancel h1] at e1
    exact ⟨o, e1, e2, fun _ => e3⟩
  | two y x =>
    obtain ⟨n1, c, c1, k1, rfl, hne, hg, S, hf, hg1, S1⟩ := R
    obtain ⟨y1, y2, y3, y4, y5, y6⟩ := W.two y x rfl
    have hN : hopN r = 2 := by simp [hopN, y6]
    have hh : c.hold = none := by
      have := S.who
      rw [y2] at this
      cases q : c.hold with
      | none => rfl
      | some z => rw [q] at this; cases this
    have hgd : good r c = true := by rw [good_row T S hh]; exact y5
    have hnum : (c.num - i) % r.marks = 0 := by rw [num_alike hi, ← S.num, y4]
    obtain ⟨o, e1, e2, e3⟩ := goes_top (ns := ns) (n := n1) T S1 hg1 (i := k1) (by rw [Int.sub_self]; exact Int.zero_emod _) (one := false) (m := 0) (by simp [hN]) (fun q => W.off q) W.fw
    refine ⟨o, ?_, e2, fun q => by cases q⟩
    rw [hN]
    unfold goes
    rw [hg]
    simp only [hnum, ne_eq, not_true_eq_false, if_false, hh, hgd, if_true, hf]
    exact e1
theorem endOf_eq : endOf t = if t.rows.top.num = 0 then t.rows.top.who else none := rfl
theorem thr_some (S : Sim r u t nm s L) : L.thr.isSome = decide (t.thr ≠ .no) := by
  have := S.thr
  cases q : t.thr with
  | no => rw [q] at this; have e : L.thr = none := this; simp [e]
  | p0 => rw [q] at this; obtain ⟨n, _, e⟩ := this; simp [e]
  | p1 => rw [q] at this; obtain ⟨n, _, e⟩ := this; simp [e]
  | out => rw [q] at this; obtain ⟨n, c, e, _⟩ := this; simp [e]
/-- every link's word: dead, or the scene's -/
theorem sim_word (T : Tight r) (W : WF r t) (S : Sim r u t nm s L) (hl : l ∈ s.ls) : ∃ w, leads r s.ns l = some w ∧ wordS r s.ns l w = (if dead r l then ("dead" : Str) else stand t) := by
  have A := S.alike l hl
  unfold leads wordS
  cases hd : dead r l with
  | true => exact ⟨none, rfl, rfl⟩
  | false =>
    obtain ⟨o, e1, e2, _⟩ := sim_goes T W S.rows A.num
    refine ⟨o, by rw [A.name]; exact e1, ?_⟩
    have ht := thr_some S
    rw [← A.thr] at ht
    simp only [Bool.false_eq_true, if_false]
    unfold stand status
    rw [← e2]
    cases o with
    | none =>
      simp only [Option.map_none, true_and, reduceCtorEq, if_false, ht]
      by_cases q : t.thr = .no <;> simp [q, hS]
    | some p =>
      simp only [Option.map_some, A.meant, isMe, Option.some.injEq, reduceCtorEq, false_and, if_false]
      by_cases q : p.2 = meS <;> simp [q, hS]
theorem sim_alive (S : Sim r u t nm s L) (hl : lifeOk r t = true) : dead r L = false := by
  unfold dead
  unfold lifeOk at hl
  cases q : r.life with
  | none => rfl
  | some f =>
    rw [q] at hl
    have h1 := of_decide_eq_true hl
    rw [S.age, q] at h1
    simp at h1
    simp only
    exact decide_eq_false (by omega)
theorem alike_dead (A : Alike r L l) (h : dead r L = true) : dead r l = true := by
  unfold dead at h ⊢
  cases q : r.life with
  | none => rw [q] at h; cases h
  | some f =>
    rw [q] at h
    have h1 : f < L.age := of_decide_eq_true h
    have := A.age
    exact decide_eq_true (by omega)
end
end NW

/-! Told events, the rows' names behind them. -/
namespace NW
open PySem PySem.Spec L2
def nmD (nm : List Str) : D := .lst (nm.map D.str)
section
variable {r : Rule} {t t' : Scene} {s s' : Rst} {nm : List Str} {L l : Lk} {u : Nat} {y : Row} {x c : Rc} {k : Int} {n m h n0 n1 : Str} {ns : Ns} {w b p : Bool}
@[simp] theorem ix_nm {p : Bool} : ixD (nmD nm) (plD p) = (nm[if p then 1 else 0]?).map D.str := by
  unfold nmD
  rw [ix_lp, List.getElem?_map]
@[simp] theorem ix_nm0 : ixD (nmD nm) (.int 0) = (nm[0]?).map D.str := ix_nm (p := false)
@[simp] theorem ix_nm1 : ixD (nmD nm) (.int 1) = (nm[1]?).map D.str := ix_nm (p := true)
theorem told_tick (hu : u ≤ 30000) : f_told_event [stP s, nmD nm, evD .tick, .int (u : Nat)] = some (teD .tick, false) := by
  unfold f_told_event b_told_event
  simp -implicitDefEqProofs [evD, teD, ofS_inj, m_letters_of (n := u) (by omega)]
theorem told_copy (hu : u ≤ 30000) (h1 : 1 ≤ s.ls.length) : f_told_event [stP s, nmD nm, evD .copy, .int (u : Nat)] = some (teD (.copy (s.ls.length - 1)), false) := by
  have e : (s.ls.length : Int) - 1 = ((s.ls.length - 1 : Nat) : Int) := by omega
  unfold f_told_event b_told_event
  simp -implicitDefEqProofs [evD, teD, ofS_inj, m_letters_of (n := u) (by omega), lks_len, e]
theorem told_take (hu : u ≤ 30000) (hn : nm[if p then 1 else 0]? = some n) (hg : getN s.ns n = some c) :
    f_told_event [stP s, nmD nm, evD (.take w b p), .int (u : Nat)] = some (teD (.take (if w then meS else if b then c.last else youS u) n), false) := by
  unfold f_told_event b_told_event
  cases w with
  | true => simp -implicitDefEqProofs [evD, teD, ofS_inj, m_letters_of (n := u) (by omega), hn, me_lit]
  | false =>
    cases b with
    | true => simp -implicitDefEqProofs [evD, teD, ofS_inj, m_letters_of (n := u) (by omega), hn, hg]
    | false => simp -implicitDefEqProofs [evD, teD, ofS_inj, m_letters_of (n := u) (by omega), hn, add_you hu]
theorem at_last (hL : s.ls[s.ls.length - 1]? = some L) : atI (lksL s.ls) (-1) = some (lkD L) := by
  have h1 : lksL s.ls ≠ [] := by
    intro q
    have : s.ls = [] := List.map_eq_nil_iff.mp q
    rw [this] at hL
    cases hL
  rw [atI_m1 h1, lks_len]
  unfold lksL
  rw [List.getElem?_map, hL]
  rfl
theorem told_out (hu : u ≤ 30000) (hL : s.ls[s.ls.length - 1]? = some L) (ht : L.thr = some m) (hn : nm[if p then 1 else 0]? = some n) :
    f_told_event [stP s, nmD nm, evD (.chg .out p), .int (u : Nat)] = some (teD (.change m n), false) := by
  have h1 := at_last hL
  have h2 : oS (some m) = D.str m := rfl
  unfold f_told_event b_told_event
  cases p <;> simp at hn <;> simp -implicitDefEqProofs [evD, teD, ofS_inj, m_letters_of (n := u) (by omega), thrD, hn, h1, ht, plD, h2]
theorem told_top (hu : u ≤ 30000) : f_told_event [stP s, nmD [n0, n1], evD (.chg .p1 false), .int (u : Nat)] = some (teD (.change n1 n0), false) := by
  unfold f_told_event b_told_event
  simp -implicitDefEqProofs [evD, teD, ofS_inj, m_letters_of (n := u) (by omega), thrD, plD]
theorem told_give (hu : u ≤ 30000) (hn : nm[if p then 1 else 0]? = some n) : f_told_event [stP s, nmD nm, evD (.give p), .int (u : Nat)] = some (teD (.give n), false) := by
  unfold f_told_event b_told_event
  cases p <;> simp at hn <;> simp -implicitDefEqProofs [evD, teD, ofS_inj, m_letters_of (n := u) (by omega), thrD, plD, hn]
theorem told_new (hu : u ≤ 30000) (hn : nm[if p then 1 else 0]? = some n) : f_told_event [stP s, nmD nm, evD (.new p), .int (u : Nat)] = some (teD (.change n (toS u)), false) := by
  unfold f_told_event b_told_event
  cases p <;> simp at hn <;> simp -implicitDefEqProofs [evD, teD, ofS_inj, m_letters_of (n := u) (by omega), thrD, plD, hn, add_to hu]
theorem told_pass (hu : u ≤ 30000) (hn : nm[if p then 1 else 0]? = some n) : f_told_event [stP s, nmD nm, evD (.pass p w), .int (u : Nat)] = some (teD (.pass n (if w then meS else youS u)), false) := by
  unfold f_told_event b_told_event
  cases p <;> cases w <;> simp at hn <;> simp -implicitDefEqProofs [evD, teD, ofS_inj, m_letters_of (n := u) (by omega), thrD, plD, hn, add_you hu, me_lit]
/-! the names behind -/
@[simp] theorem cut2b {y z : D} : cutD [y, z] none (some 2) = [y, z] := rfl
@[simp] theorem cut2c {y z x : D} : cutD [y, z, x] none (some 2) = [y, z] := rfl
@[simp] theorem cutt0b {y z : D} : cutD [y, z] (some 0) none = [y, z] := rfl
def rowN' (s : Scene) : Nat := match s.rows with
  | .one _ => 1
  | .two _ _ => 2
def lenRows : Rows → Nat
  | .one _ => 1
  | .two _ _ => 2
theorem then_copy {ev : D} (h : nm = [n0] ∨ ∃ n1, nm = [n0, n1]) : f_names_then [nmD nm, evD .copy, ev, .int (nm.length : Nat)] = some (nmD nm, true) := by
  unfold f_names_then b_names_then
  rcases h with rfl | ⟨n1, rfl⟩ <;> simp -implicitDefEqProofs [evD, nmD]
/-- events that make no name anew -/
def plainE : Ev → Bool
  | .copy => false
  | .new _ => false
  | _ => true
theorem then_plain {ev : D} {e : Ev} (he : plainE e = true) (h : nm = [n0] ∨ ∃ n1, nm = [n0, n1]) {i : Nat} (hi : i = 1 ∨ i = 2) : f_names_then [nmD nm, evD e, ev, .int (i : Nat)] = some (nmD (nm.take i), true) := by
  unfold f_names_then b_names_then
  cases e with
  | copy => cases he
  | new p => cases he
  | tick => rcases h with rfl | ⟨n1, rfl⟩ <;> rcases hi with rfl | rfl <;> simp -implicitDefEqProofs [evD, nmD, ofS_inj] <;> rfl
  | take a b c => rcases h with rfl | ⟨n1, rfl⟩ <;> rcases hi with rfl | rfl <;> simp -implicitDefEqProofs [evD, nmD, ofS_inj] <;> rfl
  | give p => rcases h with rfl | ⟨n1, rfl⟩ <;> rcases hi with rfl | rfl <;> simp -implicitDefEqProofs [evD, nmD, ofS_inj] <;> rfl
  | pass p q => rcases h with rfl | ⟨n1, rfl⟩ <;> rcases hi with rfl | rfl <;> simp -implicitDefEqProofs [evD, nmD, ofS_inj] <;> rfl
  | chg t p => cases p <;> rcases h with rfl | ⟨n1, rfl⟩ <;> rcases hi with rfl | rfl <;> simp -implicitDefEqProofs [evD, nmD, ofS_inj, plD] <;> rfl
theorem then_new1 : f_names_then [nmD [n0], evD (.new p), teD (.change n m), .int 1] = some (nmD [n0], true) := by
  unfold f_names_then b_names_then
  cases p <;> simp -implicitDefEqProofs [evD, nmD, ofS_inj, plD, teD]
theorem then_new2 : f_names_then [nmD [n0], evD (.new p), teD (.change n m), .int 2] = some (nmD [n0, m], true) := by
  unfold f_names_then b_names_then
  cases p <;> simp -implicitDefEqProofs [evD, nmD, ofS_inj, plD, teD]
theorem then_new3 : f_names_then [nmD [n0, n1], evD (.new p), teD (.change n m), .int 2] = some (nmD [n0, n1], true) := by
  unfold f_names_then b_names_then
  cases p <;> simp -implicitDefEqProofs [evD, nmD, ofS_inj, plD, teD]
end
end NW

/-! A told step: what is common. -/
namespace NW
open PySem PySem.Spec L2
/-- where the law looks for the link ahead -/
def srcIx (ev : Te) (len i : Nat) : Nat := match ev with
  | .copy k => if i = len - 1 then k else i
  | _ => i
def doerOf (s : Rst) : Te → Doer
  | .tick => .time
  | .take h _ => if h = meS then .meant else .other
  | .give n => if heldBy s n = some meS then .meant else .other
  | .change n _ => if heldBy s n = some meS then .meant else .other
  | .pass n _ => if heldBy s n = some meS then .meant else .other
  | _ => .other
structure Go (r : Rule) (u : Nat) (t t' : Scene) (nm nm' : List Str) (s s' : Rst) (L' : Lk) (e : Ev) (ev : Te) : Prop where
  told : f_told_event [stP s, nmD nm, evD e, .int (u : Nat)] = some (teD ev, false)
  both : Both r s ev s'
  behind : ∃ b, f_names_then [nmD nm, evD e, teD ev, .int (lenRows t'.rows : Nat)] = some (nmD nm', b)
  word : ∀ x ∈ teWords ev, Word x
  sim : Sim r (u + 1) t' nm' s' L'
  src : ∀ i l', s'.ls[i]? = some l' → ∃ l, s.ls[srcIx ev s'.ls.length i]? = some l ∧ (dead r l = true → dead r l' = true)
  doer : doerP t e = doerOf s ev
section
variable {r : Rule} {t t' : Scene} {s s' : Rst} {nm : List Str} {L l : Lk} {u : Nat} {y : Row} {x c : Rc} {k : Int} {n m h n0 n1 : Str} {ns : Ns} {w b p : Bool} {o : Option Str}
theorem place {k0 : Int} (R : RowsSim r ns n0 k0 t.rows nm) (hp : has t p) : ∃ n c k, nm[if p then 1 else 0]? = some n ∧ getN ns n = some c ∧ RowSim r (rowAt t p) c k ∧
    ∀ ns' c' x', getN ns' n = some c' → RowSim r x' c' k → (∀ q, p = true → nm[0]? = some q → q ≠ n → getN ns' q = getN ns q) → RowsSim r ns' n0 k0 (cutAt t p x').rows (nm.take (if p then 2 else 1)) := by
  obtain ⟨age, rows, thr⟩ := t
  cases rows with
  | one z =>
    cases p with
    | true => obtain ⟨_, _, q⟩ := hp rfl; cases q
    | false =>
      obtain ⟨rfl, c, h1, h2⟩ := R
      exact ⟨n0, c, k0, rfl, h1, h2, fun ns' c' x' g1 g2 _ => ⟨rfl, c', g1, g2⟩⟩
  | two y z =>
    obtain ⟨n1, c, c1, k1, rfl, hne, h1, h2, h3, h4, h5⟩ := R
    cases p with
    | false => exact ⟨n0, c, k0, rfl, h1, h2, fun ns' c' x' g1 g2 _ => ⟨rfl, c', g1, g2⟩⟩
    | true =>
      refine ⟨n1, c1, k1, rfl, h4, h5, fun ns' c' x' g1 g2 g3 => ⟨n1, c, c', k1, rfl, hne, ?_, h2, h3, g1, g2⟩⟩
      rw [g3 n0 rfl rfl hne, h1]
theorem nm_cases {k0 : Int} (R : RowsSim r ns n0 k0 t.rows nm) : (nm = [n0] ∧ lenRows t.rows = 1 ∧ topP t = false) ∨ ∃ n1, nm = [n0, n1] ∧ n0 ≠ n1 ∧ lenRows t.rows = 2 ∧ topP t = true := by
  obtain ⟨age, rows, thr⟩ := t
  cases rows with
  | one z => exact .inl ⟨R.1, rfl, rfl⟩
  | two y z =>
    obtain ⟨n1, c, c1, k1, e, hne, _⟩ := R
    exact .inr ⟨n1, e, hne, rfl, rfl⟩
theorem nm_two {k0 : Int} (R : RowsSim r ns n0 k0 t.rows nm) : nm = [n0] ∨ ∃ n1, nm = [n0, n1] := by
  rcases nm_cases R with ⟨e, _⟩ | ⟨n1, e, _⟩
  · exact .inl e
  · exact .inr ⟨n1, e⟩
theorem len_cut : lenRows (cutAt t p y).rows = if p then 2 else 1 := by
  obtain ⟨age, rows, thr⟩ := t
  cases p <;> cases rows <;> rfl
theorem put_cut : putTop t y = (cutAt t (topP t) y).rows := by
  obtain ⟨age, rows, thr⟩ := t
  cases rows <;> rfl
theorem take_nm {k0 : Int} (R : RowsSim r ns n0 k0 t.rows nm) : nm.take (if topP t then 2 else 1) = nm := by
  rcases nm_cases R with ⟨rfl, _, e⟩ | ⟨n1, rfl, _, _, e⟩ <;> rw [e] <;> rfl
theorem has_top : has t (topP t) := fun h => by
  unfold topP at h
  split at h
  · cases h
  · rename_i y x hr
    exact ⟨y, x, hr⟩
theorem isMe_iff : isMe h = true ↔ h = meS := by simp [isMe]
theorem who_some (S : RowSim r y x k) (hw : y.who = some w) : ∃ h, x.hold = some h ∧ isMe h = w := by
  have := S.who
  rw [hw] at this
  cases q : x.hold with
  | none => rw [q] at this; cases this
  | some z => rw [q] at this; exact ⟨z, rfl, (Option.some.inj this).symm⟩
theorem who_none (S : RowSim r y x k) (hw : y.who = none) : x.hold = none := by
  have := S.who
  rw [hw] at this
  cases q : x.hold with
  | none => rfl
  | some z => rw [q] at this; cases this
/-- the thread behind a cut -/
theorem thr_cut {k0 : Int} (W : WF r t) (R : RowsSim r ns n0 k0 t.rows nm) (H : ThrSim ns o nm t.thr) (hw : (rowAt t p).who = none) (hp : has t p) {ns' : Ns} (hn : nm[if p then 1 else 0]? = some n)
    (hk : ∀ q c, q ≠ n → getN ns q = some c → ∃ c', getN ns' q = some c' ∧ c'.hold = c.hold) {x' : Row} : ThrSim ns' o (nm.take (if p then 2 else 1)) (cutAt t p x').thr := by
  have hnot := cut_thr W hw hp (x := x')
  have hout : ∀ {m c}, o = some m → getN ns m = some c → c.hold = some meS → m ∉ nm → (cutAt t p x').thr = .out → ThrSim ns' o (nm.take (if p then 2 else 1)) (cutAt t p x').thr := by
    intro m c e1 e2 e3 e4 e5
    rw [e5]
    have hne : m ≠ n := fun q => e4 (q ▸ List.mem_of_getElem? hn)
    obtain ⟨c', g1, g2⟩ := hk m c hne e2
    exact ⟨m, c', e1, g1, g2.trans e3, fun q => e4 (List.mem_of_mem_take q)⟩
  have hno : t.thr = .no → (cutAt t p x').thr = .no := fun q => by
    obtain ⟨age, rows, thr⟩ := t
    subst q
    cases p <;> cases rows <;> rfl
  have hou : t.thr = .out → (cutAt t p x').thr = .out := fun q => by
    obtain ⟨age, rows, thr⟩ := t
    subst q
    cases p <;> cases rows <;> rfl
  cases ht : t.thr with
  | no => rw [hno ht]; rw [ht] at H; exact H
  | out =>
    rw [ht] at H
    obtain ⟨m, c, e1, e2, e3, e4⟩ := H
    exact hout e1 e2 e3 e4 (hou ht)
  | p0 =>
    exfalso
    have : (cutAt t p x').thr = thrOf false := by
      obtain ⟨age, rows, thr⟩ := t
      have : thr = .p0 := ht
      subst this
      cases p <;> cases rows <;> rfl
    exact hnot _ this
  | p1 =>
    cases p with
    | true =>
      exfalso
      have : (cutAt t true x').thr = thrOf true := by
        obtain ⟨age, rows, thr⟩ := t
        have : thr = .p1 := ht
        subst this
        cases rows <;> rfl
      exact hnot _ this
    | false =>
      have e5 : (cutAt t false x').thr = .out := by
        obtain ⟨age, rows, thr⟩ := t
        have : thr = .p1 := ht
        subst this
        rfl
      rw [e5]
      obtain ⟨w1, w2⟩ := W.thr true ht
      rw [ht] at H
      obtain ⟨age, rows, thr⟩ := t
      cases rows with
      | one z => cases w1
      | two y z =>
        obtain ⟨n1, c, c1, k1, rfl, hne, h1, h2, h3, h4, h5⟩ := R
        obtain ⟨m, q1, q2⟩ := H
        cases q1
        have hn' : n0 = n := Option.some.inj hn
        obtain ⟨hh, g1, g2⟩ := who_some h5 w2
        obtain ⟨c', f1, f2⟩ := hk n1 c1 (hn' ▸ Ne.symm hne) h4
        refine ⟨n1, c', q2, f1, by rw [f2, g1, isMe_iff.mp g2], ?_⟩
        intro q
        have : n1 = n0 := by simpa using q
        exact hne this.symm
/-- the links behind -/
theorem ls_map {f : Lk → Lk} (S : Sim r u t nm s L) (hf : ∀ l, Alike r L l → Alike r (f L) (f l)) : (s.ls.map f).length ≤ u + 1 ∧ (s.ls.map f)[(s.ls.map f).length - 1]? = some (f L) ∧ ∀ l ∈ s.ls.map f, Alike r (f L) l := by
  refine ⟨by have := S.few; simp; omega, ?_, fun l hl => ?_⟩
  · rw [List.length_map, List.getElem?_map, S.last]
    rfl
  · obtain ⟨l0, h0, rfl⟩ := List.mem_map.mp hl
    exact hf l0 (S.alike l0 h0)
theorem src_map {f : Lk → Lk} {ev : Te} (he : ∀ k, ev ≠ .copy k) (hd : ∀ l, dead r l = true → dead r (f l) = true) {i : Nat} {l' : Lk} (h : (s.ls.map f)[i]? = some l') {len : Nat} : ∃ l, s.ls[srcIx ev len i]? = some l ∧ (dead r l = true → dead r l' = true) := by
  have e : srcIx ev len i = i := by
    cases ev with
    | copy k => exact absurd rfl (he k)
    | _ => rfl
  rw [e]
  rw [List.getElem?_map] at h
  obtain ⟨l, h1, rfl⟩ := Option.map_eq_some_iff.mp h
  exact ⟨l, h1, hd l⟩
theorem alike_thr {q : Str} {o : Option Str} (A : Alike r L l) : Alike r (thrLk q o L) (thrLk q o l) := by
  unfold thrLk
  rw [A.thr]
  split
  · exact ⟨A.name, A.num, A.meant, rfl, A.age⟩
  · exact ⟨A.name, A.num, A.meant, A.thr, A.age⟩
theorem dead_thr {q : Str} {o : Option Str} : dead r (thrLk q o l) = dead r l := by
  unfold thrLk
  split <;> rfl
theorem thrLk_name {q : Str} {o : Option Str} : (thrLk q o L).name = L.name ∧ (thrLk q o L).num = L.num ∧ (thrLk q o L).age = L.age := by
  unfold thrLk
  split <;> exact ⟨rfl, rfl, rfl⟩
theorem alike_age (A : Alike r L l) : Alike r (agedLk L) (agedLk l) := ⟨A.name, A.num, A.meant, A.thr, by have := A.age; simp [agedLk]; omega⟩
theorem dead_age (h : dead r l = true) : dead r (agedLk l) = true := by
  unfold dead agedLk at *
  cases q : r.life with
  | none => rw [q] at h; cases h
  | some f =>
    rw [q] at h
    have : f < l.age := of_decide_eq_true h
    exact decide_eq_true (by simp; omega)
theorem map_id' (ls : List Lk) : ls.map id = ls := List.map_id ls
end
end NW

/-! The told steps. -/
namespace NW
open PySem PySem.Spec L2
section
variable {r : Rule} {t t' : Scene} {s s' : Rst} {nm : List Str} {L l : Lk} {u : Nat} {y : Row} {x c : Rc} {k : Int} {n m h n0 n1 : Str} {ns : Ns} {w b p : Bool} {o : Option Str}
theorem mem_at {α : Type} {l : List α} {i : Nat} {a : α} (h : l[i]? = some a) : a ∈ l := List.mem_of_getElem? h
theorem age_come : (comeAt r t p w b).age = t.age := by
  obtain ⟨age, rows, thr⟩ := t
  cases p <;> cases rows <;> rfl
theorem doer_if (g : isMe h = w) : (if some w = some true then Doer.meant else .other) = if some h = some meS then Doer.meant else .other := by
  by_cases q : h = meS
  · have : w = true := by rw [← g]; exact isMe_iff.mpr q
    simp [q, this]
  · have : w = false := by
      rw [← g]
      exact decide_eq_false q
    simp [q, this]
theorem thr_at {k0 : Int} (W : WF r t) (R : RowsSim r ns n0 k0 t.rows nm) (H : ThrSim ns o nm t.thr) (h1 : nm[if topP t then 1 else 0]? = some n) {q : Bool} (e : t.thr = thrOf q) : o = some n := by
  obtain ⟨q1, q2⟩ := W.thr q e
  rw [e] at H
  rw [q1] at h1
  cases q with
  | false =>
    obtain ⟨n', z1, z2⟩ := H
    have h1' : nm[0]? = some n := h1
    rw [h1'] at z1; cases z1; exact z2
  | true =>
    obtain ⟨n', z1, z2⟩ := H
    have h1' : nm[1]? = some n := h1
    rw [h1'] at z1; cases z1; exact z2
theorem less_thr {k0 : Int} (W : WF r t) (R : RowsSim r ns n0 k0 t.rows nm) (H : ThrSim ns L.thr nm t.thr) (h1 : nm[if topP t then 1 else 0]? = some n) {v : Rc} : ThrSim (putN ns n v) (thrLk n none L).thr nm (less t) := by
  have hthr : ∀ q, t.thr = thrOf q → L.thr = some n ∧ less t = .no := fun q e => ⟨thr_at W R H h1 e, by unfold less; rw [e, (W.thr q e).1, if_pos rfl]⟩
  rcases thr_cases t.thr with e | e | ⟨q, e⟩
  · rw [e] at H
    have : less t = .no := by unfold less; rw [e]; simp
    rw [this]
    have H' : L.thr = none := H
    show (thrLk n none L).thr = none
    unfold thrLk
    rw [H']
    simp [H']
  · rw [e] at H
    have : less t = .out := by unfold less; rw [e]; simp
    rw [this]
    obtain ⟨m, cm, e1, e2, e3, e4⟩ := H
    have hne : m ≠ n := fun q => e4 (q ▸ mem_at h1)
    refine ⟨m, cm, ?_, by rw [get_put, if_neg hne, e2], e3, e4⟩
    unfold thrLk
    rw [e1, if_neg (by simp [hne])]
    exact e1
  · obtain ⟨z1, z2⟩ := hthr q e
    rw [z2]
    show (thrLk n none L).thr = none
    unfold thrLk
    rw [if_pos z1]
theorem top_doer {e : Ev} (he : e = .give (topP t) ∨ e = .new (topP t) ∨ ∃ q, e = .pass (topP t) q) (hw : t.rows.top.who = some w) (g : isMe h = w) (hh : heldBy s n = some h) : doerP t e = if heldBy s n = some meS then Doer.meant else .other := by
  rw [hh, ← doer_if g, ← hw, top_row (s := t) rfl]
  rcases he with rfl | rfl | ⟨q, rfl⟩ <;> rfl
theorem go_take (T : Tight r) (W : WF r t) (S : Sim r u t nm s L) (hu : u < 24000) (hp : has t p) (hw : (rowAt t p).who = none) (hm : mayCome r (rowAt t p) w b = true) :
    ∃ ev nm' s' L', Go r u t (comeAt r t p w b) nm nm' s s' L' (.take w b p) ev := by
  obtain ⟨n, c, k, h1, h2, h3, h4⟩ := place S.rows hp
  have hR := S.ns.all n c h2
  have hlen : s.ns.length < 50000 := by have := S.ns.few; omega
  let h : Str := if w then meS else if b then c.last else youS u
  have hh : h = if w then meS else if b then c.last else youS u := rfl
  have hlastw : w = false → b = true → isMe c.last = false := fun e1 e2 => by
    subst e1 e2
    unfold mayCome at hm
    simp only [if_true] at hm
    have := of_decide_eq_true hm
    rw [← h3.last, this]
  have hi : isMe h = w := by
    cases w with
    | true => rw [hh]; exact isMe_iff.mpr rfl
    | false =>
      cases b with
      | true => rw [hh]; exact hlastw rfl rfl
      | false =>
        rw [hh]
        show isMe (youS u) = false
        unfold isMe
        exact decide_eq_false fun q => me_you q.symm
  have hl : c.last = h ↔ b = true := by
    cases w with
    | true =>
      have e : h = meS := rfl
      rw [e, ← isMe_iff, ← h3.last]
      unfold mayCome at hm
      cases b with
      | true =>
        simp only [if_true] at hm
        have := of_decide_eq_true hm
        simp [this]
      | false =>
        simp only [Bool.false_eq_true, if_false] at hm
        split at hm
        · cases hm
        · rename_i q
          simp at q
          simp [q]
    | false =>
      cases b with
      | true => simp [hh]
      | false =>
        have e : h = youS u := rfl
        rw [e]
        refine ⟨fun q => ?_, fun q => by cases q⟩
        have := hR.last
        rw [q] at this
        exact (you_fresh this).elim
  have hH : HoldOk (u + 1) h := by
    cases w with
    | true => exact .me
    | false =>
      cases b with
      | true => exact hR.last.up (Nat.le_succ u)
      | false => exact .you (Nat.lt_succ_self u)
  have ho := may_open T h3 h2 hw hm hl
  have hN : NsOk (u + 1) (comeN s.ns h n) := S.ns.put1 (n := n) ⟨hR.name.up (Nat.le_succ u), hH, fun h' e => by cases e; rfl⟩
  refine ⟨.take h n, nm.take (if p then 2 else 1), ⟨comeN s.ns h n, s.ls⟩, L, told_take (by omega) h1 h2, both_take hlen ho, ?_, fun x hx => ?_, ⟨hN, by have := S.few; show s.ls.length ≤ u + 1; omega, S.last, S.alike, by rw [age_come]; exact S.age, ?_, ?_, S.pos⟩, fun i l' hl' => ⟨l', hl', id⟩, ?_⟩
  · refine ⟨true, ?_⟩
    have e : lenRows (comeAt r t p w b).rows = if p then 2 else 1 := len_cut
    rw [e]
    exact then_plain rfl (nm_two S.rows) (by cases p <;> simp)
  · simp only [teWords, List.mem_cons, List.not_mem_nil, or_false] at hx
    rcases hx with rfl | rfl
    · exact hH.word (by omega)
    · exact hR.name.word (by omega)
  · exact h4 _ _ _ (by rw [get_come, if_pos rfl]) (come_row T h3 h2 hl hi) (fun q _ _ hne => by rw [get_come, if_neg hne])
  · exact thr_cut W S.rows S.thr hw hp h1 (fun q c hne hg => ⟨c, by show getN (comeN s.ns h n) q = _; rw [get_come, if_neg hne, hg], rfl⟩)
  · show (if w = true then Doer.meant else .other) = if h = meS then .meant else .other
    by_cases q : h = meS
    · rw [if_pos q, if_pos (by rw [← hi]; exact isMe_iff.mpr q)]
    · rw [if_neg q, if_neg (by rw [← hi]; exact fun z => q (isMe_iff.mp z))]
theorem go_tick (T : Tight r) (W : WF r t) (S : Sim r u t nm s L) (hu : u < 24000) : ∃ ev nm' s' L', Go r u t (aged r t) nm nm' s s' L' .tick ev := by
  have hlen : s.ns.length < 50000 := by have := S.ns.few; omega
  have hlen2 : s.ls.length < 50000 := by have := S.few; omega
  obtain ⟨a1, a2, a3⟩ := ls_map (f := agedLk) S fun l A => alike_age A
  have hhold : ∀ q c, getN s.ns q = some c → ∃ c', getN (tickN s.ns) q = some c' ∧ c'.hold = c.hold := fun q c e => ⟨agedRc c, by rw [get_tick, e]; rfl, rfl⟩
  have main : RowsSim r (tickN s.ns) L.name L.num (aged r t).rows (nm.take (lenRows (aged r t).rows)) ∧ ThrSim (tickN s.ns) L.thr (nm.take (lenRows (aged r t).rows)) (aged r t).thr ∧ (aged r t).age = (if r.life = none then 0 else t.age + 1) ∧ (lenRows (aged r t).rows = 1 ∨ lenRows (aged r t).rows = 2) := by
    obtain ⟨age, rows, thr⟩ := t
    have keep : ThrSim (tickN s.ns) L.thr nm thr := by
      have := S.thr
      cases thr with
      | no => exact this
      | p0 => exact this
      | p1 => exact this
      | out =>
        obtain ⟨m, c, e1, e2, e3, e4⟩ := this
        obtain ⟨c', g1, g2⟩ := hhold m c e2
        exact ⟨m, c', e1, g1, g2.trans e3, e4⟩
    cases rows with
    | one z =>
      obtain ⟨rfl, c, h1, h2⟩ := S.rows
      have hx : lapsed r (agedRow r z) = false := by
        have : ¬ z.fw = .next := W.fw
        simp [lapsed, agedRow, this]
      have e : aged r ⟨age, .one z, thr⟩ = ⟨if r.life = none then 0 else age + 1, .one (agedRow r z), thr⟩ := by
        simp [aged, agedRows, hx]
      rw [e]
      exact ⟨⟨rfl, agedRc c, by rw [get_tick, h1]; rfl, aged_row T h2⟩, keep, rfl, .inl rfl⟩
    | two y z =>
      obtain ⟨n1, c, c1, k1, rfl, hne, h1, h2, h3, h4, h5⟩ := S.rows
      have hx : lapsed r (agedRow r z) = false := by
        have : ¬ z.fw = .next := W.fw
        simp [lapsed, agedRow, this]
      cases hy : lapsed r (agedRow r y) with
      | true =>
        have e : aged r ⟨age, .two y z, thr⟩ = cutAt ⟨if r.life = none then 0 else age + 1, .two (agedRow r y) (agedRow r z), thr⟩ false (unled (agedRow r y)) := by
          simp [aged, agedRows, hy]
        rw [e]
        have R0 := aged_row T h2
        refine ⟨⟨rfl, agedRc c, by rw [get_tick, h1]; rfl, ⟨R0.who, R0.last, R0.num, R0.old, ?_⟩⟩, ?_, rfl, .inl rfl⟩
        · show (Fw.off = Fw.none) ↔ _
          have : (agedRc c).fw ≠ none := by show c.fw ≠ none; rw [h3]; simp
          simp [this]
        · have := thr_cut (p := false) (x' := unled (agedRow r y)) W S.rows S.thr (W.two y z rfl).2.1 (fun q => nomatch q) (ns' := tickN s.ns) (n := L.name) rfl (fun q c _ e => hhold q c e)
          exact this
      | false =>
        have e : aged r ⟨age, .two y z, thr⟩ = ⟨if r.life = none then 0 else age + 1, .two (agedRow r y) (agedRow r z), thr⟩ := by
          simp [aged, agedRows, hx, hy]
        rw [e]
        exact ⟨⟨n1, agedRc c, agedRc c1, k1, rfl, hne, by rw [get_tick, h1]; rfl, aged_row T h2, h3, by rw [get_tick, h4]; rfl, aged_row T h5⟩, keep, rfl, .inr rfl⟩
  obtain ⟨m1, m2, m3, m4⟩ := main
  refine ⟨.tick, nm.take (lenRows (aged r t).rows), tickS s, agedLk L, told_tick (by omega), both_tick hlen hlen2 S.ns.keys, ⟨true, then_plain rfl (nm_two S.rows) m4⟩, fun x hx => by simp [teWords] at hx, ⟨S.ns.tick, a1, a2, a3, ?_, m1, m2, by have := S.pos; show (0 : Int) ≤ L.age + 1; omega⟩, fun i l' hl' => src_map (fun k q => by cases q) (fun l => dead_age) hl', rfl⟩
  rw [m3, S.age]
  show _ = if r.life = none then 0 else L.age + 1
  split <;> rfl
theorem go_give (T : Tight r) (W : WF r t) (S : Sim r u t nm s L) (hu : u < 24000) (hw : t.rows.top.who = some w) : ∃ ev nm' s' L', Go r u t ⟨t.age, putTop t ⟨none, w, t.rows.top.num, 0, .none⟩, less t⟩ nm nm' s s' L' (.give (topP t)) ev := by
  have hlen : s.ns.length < 50000 := by have := S.ns.few; omega
  have hlen2 : s.ls.length < 50000 := by have := S.few; omega
  obtain ⟨n, c, k, h1, h2, h3, h4⟩ := place S.rows (has_top (t := t))
  rw [← top_row rfl] at h3
  obtain ⟨h, g1, g2⟩ := who_some h3 hw
  have hR := S.ns.all n c h2
  have hla := hR.hold h g1
  obtain ⟨a1, a2, a3⟩ := ls_map (f := thrLk n none) S fun l A => alike_thr A
  obtain ⟨t1, t2, t3⟩ := thrLk_name (q := n) (o := none) (L := L)
  have hN : NsOk (u + 1) (putN s.ns n ⟨none, h, c.num, 0, none⟩) := S.ns.put1 ⟨hR.name.up (Nat.le_succ u), by have := hR.last.up (Nat.le_succ u); rw [hla] at this; exact this, fun h' e => by cases e⟩
  refine ⟨.give n, nm, ⟨putN s.ns n ⟨none, h, c.num, 0, none⟩, s.ls.map (thrLk n none)⟩, thrLk n none L, told_give (by omega) h1, both_give hlen hlen2 h2 g1 hla, ?_, fun x hx => ?_, ⟨hN, a1, a2, a3, ?_, ?_, ?_, by rw [t3]; exact S.pos⟩, fun i l' hl' => src_map (fun k q => by cases q) (fun l => by rw [dead_thr]; exact id) hl', ?_⟩
  · have := then_plain (ev := teD (.give n)) (e := .give (topP t)) rfl (nm_two S.rows) (i := if topP t then 2 else 1) (by cases topP t <;> simp)
    rw [take_nm S.rows] at this
    refine ⟨true, ?_⟩
    show f_names_then [_, _, _, .int (lenRows (putTop t _) : Nat)] = _
    rw [put_cut, len_cut]
    exact this
  · simp only [teWords, List.mem_cons, List.not_mem_nil, or_false] at hx
    subst hx
    exact hR.name.word (by omega)
  · rw [t3]; exact S.age
  · rw [t1, t2]
    show RowsSim _ _ _ _ (putTop t _) _
    rw [put_cut, ← take_nm S.rows]
    refine h4 _ ⟨none, h, c.num, 0, none⟩ _ (by rw [get_put, if_pos rfl]) ⟨rfl, by show w = isMe h; exact g2.symm, h3.num, ?_, by simp⟩ (fun q _ _ hne => by rw [get_put, if_neg hne])
    have := (old_ge T).1
    show (0 : Int) = if oldest r < 0 then oldest r else 0
    rw [if_neg (by omega)]
  · exact less_thr W S.rows S.thr h1
  · exact top_doer (.inl rfl) hw g2 ((held_of h2).trans g1)
end
end NW

/-! The told steps: passed on, changed, copied. -/
namespace NW
open PySem PySem.Spec L2
section
variable {r : Rule} {t t' : Scene} {s s' : Rst} {nm : List Str} {L l : Lk} {u : Nat} {y : Row} {x c : Rc} {k : Int} {n m h n0 n1 : Str} {ns : Ns} {w b p : Bool} {o : Option Str}
theorem old0 (T : Tight r) : (0 : Int) = if oldest r < 0 then oldest r else 0 := by
  have := (old_ge T).1
  rw [if_neg (by omega)]
theorem go_pass (T : Tight r) (W : WF r t) (S : Sim r u t nm s L) (hu : u < 24000) {to : Bool} (hw : t.rows.top.who = some w) (hpg : r.pg ≠ .no) (hno : ¬ (w = true ∧ to = true)) :
    ∃ ev nm' s' L', Go r u t ⟨t.age, putTop t ⟨some to, to, (t.rows.top.num + (if r.pg = .counted then 1 else 0)) % r.marks, 0, .none⟩, less t⟩ nm nm' s s' L' (.pass (topP t) to) ev := by
  have hlen : s.ns.length < 50000 := by have := S.ns.few; omega
  have hlen2 : s.ls.length < 50000 := by have := S.few; omega
  obtain ⟨n, c, k, h1, h2, h3, h4⟩ := place S.rows (has_top (t := t))
  rw [← top_row rfl] at h3
  obtain ⟨h, g1, g2⟩ := who_some h3 hw
  have hR := S.ns.all n c h2
  have hla := hR.hold h g1
  let m : Str := if to then meS else youS u
  have hm : m = if to then meS else youS u := rfl
  have hne : h ≠ m := by
    cases to with
    | true =>
      intro q
      have e : m = meS := rfl
      rw [e] at q
      have : w = true := by rw [← g2]; exact isMe_iff.mpr q
      exact hno ⟨this, rfl⟩
    | false =>
      intro q
      have e : m = youS u := rfl
      rw [e] at q
      have := hR.last
      rw [hla, q] at this
      exact you_fresh this
  have hi : isMe m = to := by
    cases to with
    | true => exact isMe_iff.mpr rfl
    | false => exact decide_eq_false fun q => me_you q.symm
  have hH : HoldOk (u + 1) m := by
    cases to with
    | true => exact .me
    | false => exact .you (Nat.lt_succ_self u)
  obtain ⟨a1, a2, a3⟩ := ls_map (f := thrLk n none) S fun l A => alike_thr A
  obtain ⟨t1, t2, t3⟩ := thrLk_name (q := n) (o := none) (L := L)
  have hN : NsOk (u + 1) (putN s.ns n ⟨some m, m, c.num + (if r.pg = .counted then 1 else 0), 0, none⟩) := S.ns.put1 ⟨hR.name.up (Nat.le_succ u), hH, fun h' e => by cases e; rfl⟩
  refine ⟨.pass n m, nm, ⟨_, s.ls.map (thrLk n none)⟩, thrLk n none L, told_pass (by omega) h1, both_pass hlen hlen2 hpg h2 g1 hne, ?_, fun x hx => ?_, ⟨hN, a1, a2, a3, ?_, ?_, less_thr W S.rows S.thr h1, by rw [t3]; exact S.pos⟩, fun i l' hl' => src_map (fun k q => by cases q) (fun l => by rw [dead_thr]; exact id) hl', top_doer (.inr (.inr ⟨to, rfl⟩)) hw g2 ((held_of h2).trans g1)⟩
  · have := then_plain (ev := teD (.pass n m)) (e := .pass (topP t) to) rfl (nm_two S.rows) (i := if topP t then 2 else 1) (by cases topP t <;> simp)
    rw [take_nm S.rows] at this
    refine ⟨true, ?_⟩
    show f_names_then [_, _, _, .int (lenRows (putTop t _) : Nat)] = _
    rw [put_cut, len_cut]
    exact this
  · simp only [teWords, List.mem_cons, List.not_mem_nil, or_false] at hx
    rcases hx with rfl | rfl
    · exact hR.name.word (by omega)
    · exact hH.word (by omega)
  · rw [t3]; exact S.age
  · rw [t1, t2]
    show RowsSim _ _ _ _ (putTop t _) _
    rw [put_cut, ← take_nm S.rows]
    refine h4 _ ⟨some m, m, c.num + (if r.pg = .counted then 1 else 0), 0, none⟩ _ (by rw [get_put, if_pos rfl]) ⟨by simp [hi], hi.symm, ?_, old0 T, by simp⟩ (fun q _ _ hne => by rw [get_put, if_neg hne])
    show (t.rows.top.num + _) % r.marks = (c.num + _ - k) % r.marks
    rw [h3.num, emod_shift]
theorem go_chg (T : Tight r) (W : WF r t) (S : Sim r u t nm s L) (hu : u < 24000) (hp : has t p) (hw : (rowAt t p).who = none) (hm : mayCome r (rowAt t p) true (rowAt t p).last = true) (hc : chgOk t p = true) :
    ∃ ev nm' s' L', Go r u t ⟨(comeAt r t p true (rowAt t p).last).age, (comeAt r t p true (rowAt t p).last).rows, thrOf p⟩ nm nm' s s' L' (.chg t.thr p) ev := by
  have hlen : s.ns.length < 50000 := by have := S.ns.few; omega
  have hlen2 : s.ls.length < 50000 := by have := S.few; omega
  obtain ⟨n, c, k, h1, h2, h3, h4⟩ := place S.rows hp
  have hR := S.ns.all n c h2
  have hl : c.last = meS ↔ (rowAt t p).last = true := by rw [h3.last, isMe_iff]
  have ho := may_open T h3 h2 hw hm hl
  have src : ∃ m cm, L.thr = some m ∧ getN s.ns m = some cm ∧ cm.hold = some meS ∧ n ≠ m ∧ (∀ q, p = true → nm[0]? = some q → q ≠ m) ∧ f_told_event [stP s, nmD nm, evD (.chg t.thr p), .int (u : Nat)] = some (teD (.change m n), false) ∧ doerP t (.chg t.thr p) = .meant := by
    rcases thr_cases t.thr with e | e | ⟨q, e⟩
    · unfold chgOk at hc; rw [e] at hc; simp at hc
    · have H := S.thr
      rw [e] at H ⊢
      obtain ⟨m, cm, e1, e2, e3, e4⟩ := H
      refine ⟨m, cm, e1, e2, e3, fun q => e4 (q ▸ mem_at h1), fun q _ hq z => e4 (z ▸ mem_at hq), told_out (by omega) S.last e1 h1, rfl⟩
    · obtain ⟨w1, w2⟩ := W.thr q e
      have hh : q = true ∧ p = false := by
        unfold chgOk at hc
        rw [e, w1] at hc
        cases q <;> cases p <;> simp [thrOf] at hc <;> exact ⟨rfl, rfl⟩
      obtain ⟨rfl, rfl⟩ := hh
      have H := S.thr
      have R := S.rows
      rw [e] at H ⊢
      obtain ⟨age, rows, thr⟩ := t
      cases rows with
      | one z => cases w1
      | two y z =>
        obtain ⟨n1, d, c1, k1, rfl, hne, f1, f2, f3, f4, f5⟩ := R
        obtain ⟨m, q1, q2⟩ := H
        have q1' : n1 = m := Option.some.inj q1
        subst q1'
        have hn : L.name = n := Option.some.inj h1
        subst hn
        obtain ⟨hh, g1, g2⟩ := who_some f5 w2
        refine ⟨n1, c1, q2, f4, by rw [g1, isMe_iff.mp g2], hne, fun q z => (by cases z), told_top (by omega), ?_⟩
        have : z.who = some true := w2
        simp [doerP, placeOf, thrOf, rowAt, this]
  obtain ⟨m, cm, e1, e2, e3, e4, e5, e6, e7⟩ := src
  have hM := S.ns.all m cm e2
  have hla := hM.hold meS e3
  obtain ⟨a1, a2, a3⟩ := ls_map (f := thrLk m (some n)) S fun l A => alike_thr A
  obtain ⟨t1, t2, t3⟩ := thrLk_name (q := m) (o := some n) (L := L)
  have hN : NsOk (u + 1) (putN (comeN s.ns meS n) m ⟨none, meS, cm.num, 0, some (n, cnum s.ns meS n)⟩) := S.ns.put2 (n := n) (m := m) ⟨hR.name.up (Nat.le_succ u), .me, fun h' e => by cases e; rfl⟩ ⟨hM.name.up (Nat.le_succ u), .me, fun h' e => by cases e⟩
  refine ⟨.change m n, nm.take (if p then 2 else 1), ⟨_, s.ls.map (thrLk m (some n))⟩, thrLk m (some n) L, e6, both_change hlen hlen2 e2 e3 hla (Ne.symm e4) ho, ?_, fun x hx => ?_, ⟨hN, a1, a2, a3, ?_, ?_, ?_, by rw [t3]; exact S.pos⟩, fun i l' hl' => src_map (fun k q => by cases q) (fun l => by rw [dead_thr]; exact id) hl', ?_⟩
  · refine ⟨true, ?_⟩
    have e : lenRows (comeAt r t p true (rowAt t p).last).rows = if p then 2 else 1 := len_cut
    show f_names_then [_, _, _, .int (lenRows (comeAt r t p true (rowAt t p).last).rows : Nat)] = _
    rw [e]
    exact then_plain rfl (nm_two S.rows) (by cases p <;> simp)
  · simp only [teWords, List.mem_cons, List.not_mem_nil, or_false] at hx
    rcases hx with rfl | rfl
    · exact hM.name.word (by omega)
    · exact hR.name.word (by omega)
  · rw [t3]
    show (comeAt _ _ _ _ _).age = _
    rw [age_come]; exact S.age
  · rw [t1, t2]
    exact h4 _ _ _ (by rw [get_put, if_neg e4, get_come, if_pos rfl]) (come_row T h3 h2 hl (isMe_iff.mpr rfl)) (fun q hq hz hne => by rw [get_put, if_neg (e5 q hq hz), get_come, if_neg hne])
  · have e : (thrLk m (some n) L).thr = some n := by unfold thrLk; rw [if_pos e1]
    show ThrSim _ (thrLk m (some n) L).thr _ (thrOf p)
    rw [e]
    cases p with
    | false => exact ⟨n, by rw [List.getElem?_take]; simpa using h1, rfl⟩
    | true => exact ⟨n, by rw [List.getElem?_take]; simpa using h1, rfl⟩
  · rw [e7]
    show _ = if heldBy s m = some meS then Doer.meant else .other
    rw [held_of e2, e3, if_pos rfl]
theorem go_new (T : Tight r) (W : WF r t) (S : Sim r u t nm s L) (hu : u < 24000) (hw : t.rows.top.who = some w) : ∃ ev nm' s' L', Go r u t (renamed r t) nm nm' s s' L' (.new (topP t)) ev := by
  have hlen : s.ns.length < 50000 := by have := S.ns.few; omega
  have hlen2 : s.ls.length < 50000 := by have := S.few; omega
  obtain ⟨n, c, k, h1, h2, h3, h4⟩ := place S.rows (has_top (t := t))
  rw [← top_row rfl] at h3
  obtain ⟨h, g1, g2⟩ := who_some h3 hw
  have hR := S.ns.all n c h2
  have hla := hR.hold h g1
  have hnew : getN s.ns (toS u) = none := by
    cases q : getN s.ns (toS u) with
    | none => rfl
    | some z => exact (to_fresh (S.ns.all _ z q).name).elim
  have hfresh : ∀ q c, getN s.ns q = some c → q ≠ toS u := fun q c e z => by rw [z, hnew] at e; cases e
  have hne : n ≠ toS u := hfresh n c h2
  have ho : openTo r s h (toS u) = true := by unfold openTo; rw [hnew]
  have hcn : cnum s.ns h (toS u) = 0 := by unfold cnum; rw [hnew]
  have hnm : toS u ∉ nm := fun q => by
    have R := S.rows
    obtain ⟨age, rows, thr⟩ := t
    cases rows with
    | one z =>
      obtain ⟨rfl, d, f1, _⟩ := R
      have : toS u = L.name := by simpa using q
      exact hfresh _ d f1 this.symm
    | two y z =>
      obtain ⟨n1, d, d1, k1, rfl, _, f1, _, _, f4, _⟩ := R
      have : toS u = L.name ∨ toS u = n1 := by simpa using q
      rcases this with e | e
      · exact hfresh _ d f1 e.symm
      · exact hfresh _ d1 f4 e.symm
  obtain ⟨a1, a2, a3⟩ := ls_map (f := thrLk n (some (toS u))) S fun l A => alike_thr A
  obtain ⟨t1, t2, t3⟩ := thrLk_name (q := n) (o := some (toS u)) (L := L)
  have hHold : HoldOk (u + 1) h := by have := hR.last.up (Nat.le_succ u); rw [hla] at this; exact this
  have hN : NsOk (u + 1) (putN (comeN s.ns h (toS u)) n ⟨none, h, c.num, 0, some (toS u, cnum s.ns h (toS u))⟩) := S.ns.put2 (n := toS u) (m := n) ⟨.to (Nat.lt_succ_self u), hHold, fun h' e => by cases e; rfl⟩ ⟨hR.name.up (Nat.le_succ u), hHold, fun h' e => by cases e⟩
  have hget : getN (putN (comeN s.ns h (toS u)) n ⟨none, h, c.num, 0, some (toS u, cnum s.ns h (toS u))⟩) n = some ⟨none, h, c.num, 0, some (toS u, cnum s.ns h (toS u))⟩ := by rw [get_put, if_pos rfl]
  have hget1 : getN (putN (comeN s.ns h (toS u)) n ⟨none, h, c.num, 0, some (toS u, cnum s.ns h (toS u))⟩) (toS u) = some ⟨some h, h, cnum s.ns h (toS u), 0, none⟩ := by rw [get_put, if_neg (Ne.symm hne), get_come, if_pos rfl]
  have hget2 : ∀ q d, q ≠ n → getN s.ns q = some d → getN (putN (comeN s.ns h (toS u)) n ⟨none, h, c.num, 0, some (toS u, cnum s.ns h (toS u))⟩) q = some d := fun q d hq e => by rw [get_put, if_neg hq, get_come, if_neg (hfresh q d e), e]
  have told := told_new (s := s) (nm := nm) (p := topP t) (n := n) (by omega : u ≤ 30000) h1
  have both := both_change hlen hlen2 h2 g1 hla hne ho
  have words : ∀ x ∈ teWords (.change n (toS u)), Word x := fun x hx => by
    simp only [teWords, List.mem_cons, List.not_mem_nil, or_false] at hx
    rcases hx with rfl | rfl
    · exact hR.name.word (by omega)
    · exact word_to (by omega)
  have doer := top_doer (e := .new (topP t)) (.inr (.inl rfl)) hw g2 ((held_of h2).trans g1)
  have hmeant : ∀ q, t.thr = thrOf q → h = meS := fun q e => by
    have := (W.thr q e).2
    rw [hw] at this
    exact isMe_iff.mp (g2.trans (Option.some.inj this))
  have main : ∃ nm', (∃ b, f_names_then [nmD nm, evD (.new (topP t)), teD (.change n (toS u)), .int (lenRows (renamed r t).rows : Nat)] = some (nmD nm', b)) ∧ (renamed r t).age = t.age ∧
      RowsSim r (putN (comeN s.ns h (toS u)) n ⟨none, h, c.num, 0, some (toS u, cnum s.ns h (toS u))⟩) L.name L.num (renamed r t).rows nm' ∧
      ThrSim (putN (comeN s.ns h (toS u)) n ⟨none, h, c.num, 0, some (toS u, cnum s.ns h (toS u))⟩) (thrLk n (some (toS u)) L).thr nm' (renamed r t).thr := by
    have hrow : RowSim r ⟨none, w, t.rows.top.num, 0, .off⟩ ⟨none, h, c.num, 0, some (toS u, cnum s.ns h (toS u))⟩ k := ⟨rfl, g2.symm, h3.num, old0 T, by simp⟩
    -- the thread where nothing is added
    have hthr : ∀ th, (th = if t.thr = thrOf (topP t) then Thr.out else t.thr) → ThrSim (putN (comeN s.ns h (toS u)) n ⟨none, h, c.num, 0, some (toS u, cnum s.ns h (toS u))⟩) (thrLk n (some (toS u)) L).thr nm th := fun th e => by
      have H := S.thr
      rcases thr_cases t.thr with z | z | ⟨q, z⟩
      · rw [z] at H e
        have H' : L.thr = none := H
        have : th = .no := by rw [e]; simp
        rw [this]
        show (thrLk n (some (toS u)) L).thr = none
        unfold thrLk
        rw [H']; simp [H']
      · rw [z] at H e
        have : th = .out := by rw [e]; simp
        rw [this]
        obtain ⟨m, cm, e1, e2, e3, e4⟩ := H
        have hmn : m ≠ n := fun q => e4 (q ▸ mem_at h1)
        refine ⟨m, cm, ?_, hget2 m cm hmn e2, e3, e4⟩
        unfold thrLk
        rw [e1, if_neg (by simp [hmn])]
        exact e1
      · have ht := thr_at W S.rows S.thr h1 z
        have : th = .out := by rw [e, z, (W.thr q z).1, if_pos rfl]
        rw [this]
        refine ⟨toS u, _, ?_, hget1, by rw [hmeant q z], hnm⟩
        unfold thrLk
        rw [if_pos ht]
    have R := S.rows
    obtain ⟨age, rows, thr⟩ := t
    cases rows with
    | one z =>
      have hw' : z.who = some w := hw
      have e' : renamed r ⟨age, .one z, thr⟩ = if z.num = 0 ∧ r.fwd ≠ some 0 ∧ r.hops = true then ⟨age, .two ⟨none, w, z.num, 0, .next⟩ ⟨some w, w, 0, 0, .none⟩, if thr = .p0 then .p1 else thr⟩
          else ⟨age, .one ⟨none, w, z.num, 0, .off⟩, if thr = .p0 then .out else thr⟩ := by
        simp [renamed, Rows.top, hw']
      obtain ⟨rfl, d, f1, f2⟩ := R
      have hn : L.name = n := Option.some.inj h1
      rw [e']
      by_cases hcc : z.num = 0 ∧ r.fwd ≠ some 0 ∧ r.hops = true
      · rw [if_pos hcc]
        refine ⟨[L.name, toS u], ⟨true, then_new2⟩, rfl, ⟨toS u, _, _, 0, rfl, by rw [hn]; exact hne, by rw [hn]; exact hget, ?_, by rw [hcn], hget1, ?_⟩, ?_⟩
        · have := h4 (putN (comeN s.ns h (toS u)) n ⟨none, h, c.num, 0, some (toS u, cnum s.ns h (toS u))⟩) _ _ hget hrow (fun q hq => by cases hq)
          obtain ⟨_, d', y1, y2⟩ := this
          rw [hn, hget] at y1
          cases y1
          exact ⟨y2.who, y2.last, y2.num, y2.old, by simp⟩
        · rw [hcn]
          exact ⟨by simp [g2], g2.symm, by simp, old0 T, by simp⟩
        · have H := S.thr
          rcases thr_cases thr with q | q | ⟨q, e⟩
          · subst q
            have H' : L.thr = none := H
            show (thrLk n (some (toS u)) L).thr = none
            unfold thrLk
            rw [H']; simp [H']
          · subst q
            obtain ⟨m, cm, e1, e2, e3, e4⟩ := H
            have hmn : m ≠ n := fun q => e4 (q ▸ mem_at h1)
            refine ⟨m, cm, ?_, hget2 m cm hmn e2, e3, ?_⟩
            · unfold thrLk
              rw [e1, if_neg (by simp [hmn])]
              exact e1
            · intro q
              have : m = L.name ∨ m = toS u := by simpa using q
              rcases this with q | q
              · exact hmn (q.trans hn)
              · exact hfresh m cm e2 q
          · have ht := thr_at W S.rows S.thr h1 e
            have hq : q = false := ((W.thr q e).1).symm
            subst hq
            have e : thr = .p0 := e
            subst e
            refine ⟨toS u, rfl, ?_⟩
            unfold thrLk
            rw [if_pos ht]
      · rw [if_neg hcc]
        refine ⟨[L.name], ⟨true, then_new1⟩, rfl, ?_, hthr _ rfl⟩
        exact h4 _ _ _ hget hrow (fun q hq => by cases hq)
    | two y z =>
      have hw' : z.who = some w := hw
      have e' : renamed r ⟨age, .two y z, thr⟩ = ⟨age, .two y ⟨none, w, z.num, 0, .off⟩, if thr = .p1 then .out else thr⟩ := by
        simp [renamed, Rows.top, hw']
      have R0 : RowsSim r s.ns L.name L.num (.two y z) nm := R
      obtain ⟨n1, d, d1, k1, rfl, f0, f1, f2, f3, f4, f5⟩ := R
      rw [e']
      refine ⟨[L.name, n1], ⟨true, then_new3⟩, rfl, ?_, hthr _ rfl⟩
      have hn : n1 = n := Option.some.inj h1
      exact h4 _ _ _ hget hrow (fun q _ hq hqn => by
        have : L.name = q := Option.some.inj hq
        subst this
        rw [hget2 _ d hqn f1, f1])
  obtain ⟨nm', m1, m2, m3, m4⟩ := main
  exact ⟨.change n (toS u), nm', ⟨_, s.ls.map (thrLk n (some (toS u)))⟩, thrLk n (some (toS u)) L, told, both, m1, words, ⟨hN, a1, a2, a3, by rw [m2, t3]; exact S.age, by rw [t1, t2]; exact m3, m4, by rw [t3]; exact S.pos⟩, fun i l' hl' => src_map (fun k q => by cases q) (fun l => by rw [dead_thr]; exact id) hl', doer⟩
end
end NW

/-! The told steps: copied; every step. -/
namespace NW
open PySem PySem.Spec L2
section
variable {r : Rule} {t t' : Scene} {s s' : Rst} {nm : List Str} {L l : Lk} {u : Nat} {y : Row} {x c : Rc} {k : Int} {n m h n0 n1 : Str} {ns : Ns} {w b p : Bool} {o : Option Str} {e : Ev}
theorem nm_len {k0 : Int} (R : RowsSim r ns n0 k0 t.rows nm) : nm.length = lenRows t.rows := by
  rcases nm_cases R with ⟨rfl, e, _⟩ | ⟨n1, rfl, _, e, _⟩ <;> rw [e] <;> rfl
theorem behind_copy {k0 : Int} (R : RowsSim r ns n0 k0 t.rows nm) {ev : D} : ∃ b, f_names_then [nmD nm, evD .copy, ev, .int (lenRows t.rows : Nat)] = some (nmD nm, b) := by
  rw [← nm_len R]
  exact ⟨true, then_copy (nm_two R)⟩
theorem few_pos (S : Sim r u t nm s L) : 1 ≤ s.ls.length := by
  have := (List.getElem?_eq_some_iff.mp S.last).1
  omega
theorem src_copy {l' : Lk} (S : Sim r u t nm s L) (hd : dead r L = false) {i : Nat} {z : Lk} (hz : (s.ls ++ [l'])[i]? = some z) : ∃ l, s.ls[srcIx (.copy (s.ls.length - 1)) (s.ls ++ [l']).length i]? = some l ∧ (dead r l = true → dead r z = true) := by
  have h1 := few_pos S
  by_cases q : i = s.ls.length
  · have e : srcIx (.copy (s.ls.length - 1)) (s.ls ++ [l']).length i = s.ls.length - 1 := by
      show (if i = (s.ls ++ [l']).length - 1 then _ else _) = _
      rw [if_pos (by simp; omega)]
    rw [e]
    exact ⟨L, S.last, fun z => by rw [hd] at z; cases z⟩
  · have hi : i < s.ls.length := by
      have := (List.getElem?_eq_some_iff.mp hz).1
      simp at this
      omega
    have e : srcIx (.copy (s.ls.length - 1)) (s.ls ++ [l']).length i = i := by
      show (if i = (s.ls ++ [l']).length - 1 then _ else _) = _
      rw [if_neg (by simp; omega)]
    rw [e]
    rw [List.getElem?_append_left hi] at hz
    exact ⟨z, hz, id⟩
theorem last_app {l' : Lk} : (s.ls ++ [l'])[(s.ls ++ [l']).length - 1]? = some l' := by simp
theorem go_same (W : WF r t) (S : Sim r u t nm s L) (hu : u < 24000) (hc : r.cp = .same) : ∃ ev nm' s' L', Go r u t ⟨0, t.rows, t.thr⟩ nm nm' s s' L' .copy ev := by
  have hlen2 : s.ls.length < 50000 := by have := S.few; omega
  have hd := sim_alive S W.ageL
  have hA := S.alike L (mem_at S.last)
  refine ⟨.copy (s.ls.length - 1), nm, ⟨s.ns, s.ls ++ [⟨L.name, L.num, L.meant, 0, L.thr⟩]⟩, ⟨L.name, L.num, L.meant, 0, L.thr⟩, told_copy (by omega) (few_pos S), both_same hlen2 hc S.last hd, behind_copy S.rows, fun x hx => by simp [teWords] at hx, ⟨S.ns.same, by have := S.few; simp; omega, last_app, fun l hl => ?_, by split <;> rfl, S.rows, S.thr, Int.le_refl 0⟩, fun i l' hl' => src_copy S hd hl', rfl⟩
  rcases List.mem_append.mp hl with hl | hl
  · have A := S.alike l hl
    exact ⟨A.name, A.num, A.meant, A.thr, Int.le_trans S.pos A.age⟩
  · have : l = ⟨L.name, L.num, L.meant, 0, L.thr⟩ := by simpa using hl
    subst this
    exact ⟨rfl, hA.num, hA.meant, rfl, Int.le_refl 0⟩
theorem go_anew (T : Tight r) (W : WF r t) (S : Sim r u t nm s L) (hu : u < 24000) (hc : r.cp = .anew) (hw : t.rows.top.who = some w) (hz : t.rows.top.num = 0) (ht : topP t = false) :
    ∃ ev nm' s' L', Go r u t ⟨0, .one t.rows.top, if t.thr = .no then .no else if t.thr = thrOf (topP t) then .p0 else .out⟩ nm nm' s s' L' .copy ev := by
  have hlen2 : s.ls.length < 50000 := by have := S.few; omega
  have hd := sim_alive S W.ageL
  have hA := S.alike L (mem_at S.last)
  obtain ⟨o, e1, e2, e3⟩ := sim_goes T W S.rows hA.num
  have e4 : endOf t = some w := by rw [endOf_eq, if_pos hz, hw]
  rw [e4] at e2
  obtain ⟨⟨n, h⟩, rfl, e5⟩ := Option.map_eq_some_iff.mp e2
  have e6 : n = L.name := e3 ht _ rfl
  subst e6
  have hle : leads r s.ns L = some (some (L.name, h)) := by
    unfold leads
    rw [hd]
    exact e1
  obtain ⟨age, rows, thr⟩ := t
  cases rows with
  | two y z => cases ht
  | one z =>
    obtain ⟨rfl, c, h2, h3⟩ := S.rows
    have hz' : z.num = 0 := hz
    have hcL : (c.num - L.num) % r.marks = 0 := by rw [← h3.num, hz']
    have hth : (if thr = Thr.no then Thr.no else if thr = thrOf (topP ⟨age, .one z, thr⟩) then Thr.p0 else .out) = thr := by
      cases thr with
      | p1 => exact absurd (W.thr true rfl).1 (by intro q; cases q)
      | _ => rfl
    show ∃ ev nm' s' L', Go r u ⟨age, .one z, thr⟩ ⟨0, .one z, if thr = Thr.no then Thr.no else if thr = thrOf (topP ⟨age, .one z, thr⟩) then Thr.p0 else .out⟩ [L.name] nm' s s' L' .copy ev
    rw [hth]
    refine ⟨.copy (s.ls.length - 1), [L.name], ⟨s.ns, s.ls ++ [⟨L.name, c.num, L.meant, 0, L.thr⟩]⟩, ⟨L.name, c.num, L.meant, 0, L.thr⟩, told_copy (by omega) (few_pos S), both_anew hlen2 hc S.last hd hle h2, behind_copy S.rows, fun x hx => by simp [teWords] at hx, ⟨S.ns.same, by have := S.few; simp; omega, last_app, fun l hl => ?_, by split <;> rfl, ⟨rfl, c, h2, ⟨h3.who, h3.last, ?_, h3.old, h3.fw⟩⟩, S.thr, Int.le_refl 0⟩, fun i l' hl' => src_copy S hd hl', rfl⟩
    · have key : ∀ l, Alike r L l → (l.num - c.num) % r.marks = 0 := fun l A => by
        have e : l.num - c.num = (l.num - L.num) - (c.num - L.num) := by omega
        rw [e, Int.sub_emod, A.num, hcL]
        simp
      rcases List.mem_append.mp hl with hl | hl
      · have A := S.alike l hl
        exact ⟨A.name, key l A, A.meant, A.thr, Int.le_trans S.pos A.age⟩
      · have : l = ⟨L.name, c.num, L.meant, 0, L.thr⟩ := by simpa using hl
        subst this
        exact ⟨rfl, by simp, hA.meant, rfl, Int.le_refl 0⟩
    · show z.num = (c.num - c.num) % r.marks
      rw [hz']
      simp
/-- every step of a told state is told -/
theorem go_step (T : Tight r) (W : WF r t) (S : Sim r u t nm s L) (hu : u < 24000) (st : Step r t e t') (hcp : e = .copy → r.cp = .anew → topP t = false) : ∃ ev nm' s' L', Go r u t t' nm nm' s s' L' e ev := by
  cases st with
  | tick => exact go_tick T W S hu
  | take hp hw hm => exact go_take T W S hu hp hw hm
  | chg hp hw hm hc => exact go_chg T W S hu hp hw hm hc
  | give hw => exact go_give T W S hu hw
  | new hw => exact go_new T W S hu hw
  | pass hw hp hn => exact go_pass T W S hu hw hp hn
  | same hc => exact go_same W S hu hc
  | anew hc hw hn => exact go_anew T W S hu hc hw hn (hcp rfl hc)
end
end NW

/-! The form of told events; the harms of a told step. -/
namespace NW
open PySem PySem.Spec L2
section
variable {r : Rule} {t t' : Scene} {s s' : Rst} {nm : List Str} {L L' l : Lk} {u : Nat} {y : Row} {x c : Rc} {k : Int} {n m h n0 n1 : Str} {ns : Ns} {w b p : Bool} {o : Option Str} {e : Ev} {ev : Te}
def kindsD : D := .dS (litS [("tick", .int 1), ("give", .int 2), ("write", .int 2), ("take", .int 3), ("change", .int 3), ("pass", .int 3)])
theorem kinds_tick {z : D} : get2D kindsD (.str "tick") z = some (.int 1) := by
  unfold kindsD; simp [ofS_inj, litS, putS, lookS]
theorem kinds_give {z : D} : get2D kindsD (.str "give") z = some (.int 2) := by
  unfold kindsD; simp [ofS_inj, litS, putS, lookS]
theorem kinds_write {z : D} : get2D kindsD (.str "write") z = some (.int 2) := by
  unfold kindsD; simp [ofS_inj, litS, putS, lookS]
theorem kinds_take {z : D} : get2D kindsD (.str "take") z = some (.int 3) := by
  unfold kindsD; simp [ofS_inj, litS, putS, lookS]
theorem kinds_change {z : D} : get2D kindsD (.str "change") z = some (.int 3) := by
  unfold kindsD; simp [ofS_inj, litS, putS, lookS]
theorem kinds_pass {z : D} : get2D kindsD (.str "pass") z = some (.int 3) := by
  unfold kindsD; simp [ofS_inj, litS, putS, lookS]
theorem isi_tup {l : List D} : isiD "tuple" (.tup l) = some (.bl true) := by
  unfold isiD D.ty
  simp
theorem isi_int {i : Int} : isiD "int" (.int i) = some (.bl true) := by
  unfold isiD D.ty
  simp
theorem isi_bool {i : Int} : isiD "bool" (.int i) = some (.bl false) := by
  unfold isiD D.ty
  simp
theorem words_loop {d : D} {a1 a3 : Slot} : ∀ {l : List Str}, (∀ x ∈ l, Word x) → ∀ a2, ∃ c2, loopF (tgN 2) l_law_is_event_1 (l.map D.str) [.val d, a1, a2, a3] = some (.nx [.val d, a1, c2, a3])
  | [], _, a2 => ⟨a2, rfl⟩
  | x :: l, h, a2 => by
    obtain ⟨c2, e⟩ := is_word (h x List.mem_cons_self) (d := d) (a1 := a1) (a2 := a2) (a3 := a3)
    obtain ⟨c3, e3⟩ := words_loop (l := l) (fun y hy => h y (List.mem_cons_of_mem _ hy)) c2
    refine ⟨c3, ?_⟩
    rw [List.map_cons, loopF_cons]
    show (l_law_is_event_1 [.val d, a1, .val (.str x), a3]).bind _ = _
    rw [e]
    exact e3
theorem event_of {w : Str} {l : List Str} {i : Int} (hw : PyData.strOk w = true) (h : ∀ x ∈ l, Word x) (hc : decide (w = ("copy" : Str)) = false) (hk : ∀ z, get2D kindsD (.str w) z = some (.int i)) (hi : i = ((l.length + 1 : Nat) : Int)) (hl : l.length ≤ 2) :
    f_law_is_event [.tup (.str w :: l.map D.str)] = some (.bl true, false) := by
  have h1 := tup_nil hw h
  obtain ⟨c2, e⟩ := words_loop (d := .tup (.str w :: l.map D.str)) (a1 := .val (.int i)) (a3 := .un) h .un
  have hcut : slT (.tup (.str w :: l.map D.str)) (some 1) none = some (.tup (l.map D.str)) := by
    match l, hl with
    | [], _ => rfl
    | [a], _ => rfl
    | [a, b], _ => rfl
    | _ :: _ :: _ :: _, hl => simp at hl
  have hk' : ∀ z, get2D (.dS (litS [("tick", .int 1), ("give", .int 2), ("write", .int 2), ("take", .int 3), ("change", .int 3), ("pass", .int 3)])) (.str w) z = some (.int i) := hk
  have hlen : lenD (.tup (.str w :: l.map D.str)) = some (.int i) := by
    rw [lenD_t, hi]
    simp
  unfold f_law_is_event b_law_is_event
  simp -implicitDefEqProofs only [fnOf_ev, List.map_cons, List.map_nil, List.length_cons, List.length_nil, List.replicate, List.cons_append, List.nil_append, dSeq_ev, dIfS_ev, dOr_ev, dNot_ev, dTest_ev, dF1_ev, dPk_ev, List.getElem?_cons_zero, List.getElem?_cons_succ, Option.bind_some, pkS_val, isi_tup, testD_bl, Option.map_some, Bool.not_true, Bool.false_eq_true, if_false, dCmp_ev, dTup_ev, dNil_ev, gTup0, h1, dOp_ev, dC_ev, ixD_t, atI_0, isi_str, dSkip_ev, andThen_nx, eqD_ss, hc, dSet_ev, dGet2_ev, ofE_ev, dLitS_ev, hk', List.set_cons_succ, List.set_cons_zero, hlen, notG_ev, eqD_ii, decide_true, dFor_ev, seqT_ev, dSl_ev, dI1_ev, intOf_int, dI0_ev, hcut, tupS_tup, e, dRet_ev, toE_ev, endF_rt, Nat.reduceAdd, Nat.reduceSub]
theorem copy_event {k : Nat} : f_law_is_event [.tup [.str "copy", .int (k : Nat)]] = some (.bl true, false) := by
  have h1 : eqD (.tup [.str "copy", .int (k : Nat)]) (.tup []) = some false := by
    unfold eqD
    simp only [scV]
    have e1 : (D.tup [.str "copy", .int (k : Nat)]).sq = true := rfl
    have e2 : SeqAt.shaped (D.tup [.str "copy", .int (k : Nat)]).py = true := by
      unfold SeqAt.shaped
      have : PyData.strOk ("copy" : Str) = true := by decide +kernel
      simp [D.py, pyL, PyData.canLay0, PyData.canLayAll0, this, PyData.depth, PyData.depthAll]
    rw [e1, e2]
    rw [if_pos (by decide +kernel)]
    congr 1
  have h2 : (0 : Int) ≤ (k : Nat) := by omega
  unfold f_law_is_event b_law_is_event
  simp -implicitDefEqProofs [isi_tup, h1, isi_str, isi_int, isi_bool, h2]
theorem m_is_event (h : ∀ x ∈ teWords ev, Word x) : f_law_is_event [teD ev] = some (.bl true, false) := by
  cases ev with
  | copy k => exact copy_event
  | tick => exact event_of (w := "tick") (l := []) (by decide +kernel) (by simp) (by simp [ofS_inj]) (fun z => kinds_tick) rfl (by simp)
  | give n => exact event_of (w := "give") (l := [n]) (by decide +kernel) h (by simp [ofS_inj]) (fun z => kinds_give) rfl (by simp)
  | write n => exact event_of (w := "write") (l := [n]) (by decide +kernel) h (by simp [ofS_inj]) (fun z => kinds_write) rfl (by simp)
  | take a n => exact event_of (w := "take") (l := [a, n]) (by decide +kernel) h (by simp [ofS_inj]) (fun z => kinds_take) rfl (by simp)
  | change a n => exact event_of (w := "change") (l := [a, n]) (by decide +kernel) h (by simp [ofS_inj]) (fun z => kinds_change) rfl (by simp)
  | pass a n => exact event_of (w := "pass") (l := [a, n]) (by decide +kernel) h (by simp [ofS_inj]) (fun z => kinds_pass) rfl (by simp)
end
end NW

/-! The harms of a told step. -/
namespace NW
open PySem PySem.Spec L2
def whoOf (s : Rst) : Te → Option Str
  | .take h _ => some h
  | .give n => heldBy s n
  | .change n _ => heldBy s n
  | .pass n _ => heldBy s n
  | _ => none
/-- what a link tells of a step -/
def hitOf (r : Rule) (t : Scene) (m : Mv) (l : Lk) : List Pair := if dead r l then [] else (pairOf t m).toList
def hitAt (r : Rule) (t : Scene) (m : Mv) (ls : List Lk) (i : Nat) : List Pair := match ls[i]? with
  | none => []
  | some l => hitOf r t m l
structure Told (r : Rule) (t : Scene) (m : Mv) (s s' : Rst) (ev : Te) : Prop where
  src : ∀ i l', s'.ls[i]? = some l' → ∃ l, s.ls[srcIx ev s'.ls.length i]? = some l ∧ (dead r l = true → dead r l' = true)
  w1 : ∀ l ∈ s.ls, ∃ w, leads r s.ns l = some w ∧ wordS r s.ns l w = if dead r l then ("dead" : Str) else stand t
  w2 : ∀ l ∈ s'.ls, ∃ w, leads r s'.ns l = some w ∧ wordS r s'.ns l w = if dead r l then ("dead" : Str) else stand m.2
  meant : ∀ l ∈ s'.ls, l.meant = meS
  doer : doerP t m.1 = doerOf s ev
  few : s'.ls.length ≤ 30000
section
variable {r : Rule} {t t' : Scene} {s s' : Rst} {nm : List Str} {L L' l : Lk} {u : Nat} {y : Row} {x c : Rc} {k : Int} {n h n0 n1 : Str} {ns : Ns} {w b p : Bool} {o : Option Str} {e : Ev} {ev : Te} {m : Mv}
theorem hit_len : (hitAt r t m s'.ls n').length ≤ 1 := by
  unfold hitAt hitOf
  split
  · simp
  · split
    · simp
    · cases pairOf t m <;> simp
theorem srcE {i : Nat} {ρ : Ro} (h3 : ρ[3]? = some (.val (teD ev))) (h2 : ρ[2]? = some (.val (stX s'))) (h6 : ρ[6]? = some (.val (.int (i : Nat)))) (hi : i < s'.ls.length) :
    (dIf (dAnd (dCmp eqD (dOp ixD (dPk 3) (dC (.int 0))) (dC (.str "copy"))) (dCmp eqD (dPk 6) (dOp subD (dF1 lenD (dOp ixD (dPk 2) (dC (.int 1)))) (dC (.int 1))))) (dOp ixD (dPk 3) (dC (.int 1))) (dVar 6)) ρ = some (.int (srcIx ev s'.ls.length i : Nat)) := by
  have e1 : (i : Int) = (s'.ls.length : Int) - 1 ↔ i = s'.ls.length - 1 := by omega
  cases ev with
  | copy k =>
    by_cases q : i = s'.ls.length - 1
    · have : (i : Int) = (s'.ls.length : Int) - 1 := e1.mpr q
      simp -implicitDefEqProofs [h3, h2, h6, teD, srcIx, lks_len, this, q]
      omega
    · have : ¬ (i : Int) = (s'.ls.length : Int) - 1 := fun z => q (e1.mp z)
      simp -implicitDefEqProofs [h3, h2, h6, teD, srcIx, lks_len, this, q]
  | _ => simp -implicitDefEqProofs [h3, h2, h6, teD, srcIx, lks_len, ofS_inj]
theorem dead_in : inD (.str "dead") (.lst [.str "astray", .str "lost"]) = some false := by decide +kernel
/-- the doer as the law says it -/
theorem doerE {ρ : Ro} (h3 : ρ[3]? = some (.val (teD ev))) (h10 : ρ[10]? = some (.val (.str (if whoOf s ev = some meS then ("meant" : Str) else "other")))) :
    (dIf (dCmp eqD (dOp ixD (dPk 3) (dC (.int 0))) (dC (.str "tick"))) (dC (.str "time")) (dVar 10)) ρ = some (doD (doerOf s ev)) := by
  cases ev with
  | tick => simp -implicitDefEqProofs [h3, teD, doD, doerOf, dS']
  | take h n =>
    by_cases q : h = meS <;> simp -implicitDefEqProofs [h3, h10, teD, doD, doerOf, dS', ofS_inj, whoOf, q]
  | give n => by_cases q : heldBy s n = some meS <;> simp -implicitDefEqProofs [h3, h10, teD, doD, doerOf, dS', ofS_inj, whoOf, q]
  | change n z => by_cases q : heldBy s n = some meS <;> simp -implicitDefEqProofs [h3, h10, teD, doD, doerOf, dS', ofS_inj, whoOf, q]
  | pass n z => by_cases q : heldBy s n = some meS <;> simp -implicitDefEqProofs [h3, h10, teD, doD, doerOf, dS', ofS_inj, whoOf, q]
  | copy k => simp -implicitDefEqProofs [h3, h10, teD, doD, doerOf, dS', ofS_inj, whoOf]
  | write n => simp -implicitDefEqProofs [h3, h10, teD, doD, doerOf, dS', ofS_inj, whoOf]
theorem harm_turn (H : Told r t m s s' ev) {i : Nat} {b : List Pair} (hi : i < s'.ls.length) (hb : b.length < 100000) {a7 a8 a9 a10 : Slot} : ∃ c7 c8 c9 c10,
    l_law_harms_1 [.val (ruleD r), .val (stX s), .val (stX s'), .val (teD ev), .own (.lst (b.map pairD)), .val (oS (whoOf s ev)), .val (.int (i : Nat)), a7, a8, a9, a10] =
    some (.nx [.val (ruleD r), .val (stX s), .val (stX s'), .val (teD ev), .own (.lst ((b ++ hitAt r t m s'.ls i).map pairD)), .val (oS (whoOf s ev)), .val (.int (i : Nat)), c7, c8, c9, c10]) := by
  have hl' : s'.ls[i]? = some s'.ls[i] := List.getElem?_eq_getElem hi
  generalize s'.ls[i] = l' at hl'
  obtain ⟨l, hl, hdd⟩ := H.src i l' hl'
  obtain ⟨w1, e1, f1⟩ := H.w1 l (mem_at hl)
  obtain ⟨w2, e2, f2⟩ := H.w2 l' (mem_at hl')
  have hm := H.meant l' (mem_at hl')
  have hj := (List.getElem?_eq_some_iff.mp hl).1
  have hj' : ((srcIx ev s'.ls.length i : Nat) : Int) < s.ls.length := by omega
  have hw1 := m_law_word (s := s) (S := stX s) rfl e1
  have hw2 := m_law_word (s := s') (S := stX s') rfl e2
  rw [f1] at hw1
  rw [f2] at hw2
  have ha1 := at_lks hl
  have ha2 := at_lks hl'
  have hhit : hitAt r t m s'.ls i = hitOf r t m l' := by unfold hitAt; rw [hl']
  rw [hhit]
  unfold l_law_harms_1
  rw [dSeq_ev, dSet_ev, srcE (s' := s') (ev := ev) (i := i) rfl rfl rfl hi]
  simp -implicitDefEqProofs only [Option.map_some, Option.bind_some, andThen_nx, List.set_cons_succ, List.set_cons_zero]
  generalize srcIx ev s'.ls.length i = j at *
  have hap : ∀ (ρ : Ro) (y : D), appS 4 ρ y (.own (.lst (b.map pairD))) = some (.nx (ρ.set 4 (.own (.lst (b.map pairD ++ [y]))))) := fun ρ y => appS_own (by rw [List.length_map]; omega)
  cases hd' : dead r l' with
  | true =>
    rw [hd', if_pos rfl] at hw2
    have : hitOf r t m l' = [] := by unfold hitOf; rw [hd']; rfl
    rw [this, List.append_nil]
    refine ⟨.val (.int (j : Nat)), .val (.str (if dead r l then ("dead" : Str) else stand t)), .val (.str "dead"), a10, ?_⟩
    simp -implicitDefEqProofs [lks_len, hj', ha1, ha2, hw1, hw2, dead_in]
  | false =>
    have hd : dead r l = false := by
      cases q : dead r l with
      | false => rfl
      | true => rw [hdd q] at hd'; cases hd'
    rw [hd, if_neg (by simp)] at hw1
    rw [hd', if_neg (by simp)] at hw2
    have hh : hitOf r t m l' = (pairOf t m).toList := by unfold hitOf; rw [hd']; rfl
    rw [hh]
    have hin := stand_in (s := m.2)
    cases hs : status m.2 with
    | none =>
      rw [hs] at hin
      have : pairOf t m = none := by simp [pairOf, hs]
      rw [this]
      refine ⟨.val (.int (j : Nat)), .val (.str (stand t)), .val (.str (stand m.2)), a10, ?_⟩
      simp -implicitDefEqProofs [lks_len, hj', ha1, ha2, hw1, hw2, hin]
    | some q =>
      rw [hs] at hin
      have heq := stand_eq (a := m.2) (b := t) hs
      by_cases h2 : status t = some q
      · have : pairOf t m = none := by simp [pairOf, hs, h2]
        rw [this]
        have heq2 : stand m.2 = stand t := by
          rw [eqD_ss] at heq
          have := Option.some.inj heq
          rw [decide_eq_decide] at this
          exact this.mpr h2
        rw [heq2] at hin
        refine ⟨.val (.int (j : Nat)), .val (.str (stand t)), .val (.str (stand m.2)), a10, ?_⟩
        simp -implicitDefEqProofs [lks_len, hj', ha1, ha2, hw1, hw2, hin, heq2]
      · have hp : pairOf t m = some (q, doerP t m.1) := by simp [pairOf, hs, h2]
        rw [hp]
        have heq2 : ¬ stand m.2 = stand t := by
          rw [eqD_ss] at heq
          have := Option.some.inj heq
          rw [decide_eq_decide] at this
          exact fun z => h2 (this.mp z)
        have hst : D.str (stand m.2) = hD q := by rw [stand_some hs]; rfl
        have hdo := fun ρ a b => doerE (s := s) (ev := ev) (ρ := ρ) a b
        have hq : eqD (oS (whoOf s ev)) (.str meS) = some (decide (whoOf s ev = some meS)) := eq_os
        refine ⟨.val (.int (j : Nat)), .val (.str (stand t)), .val (.str (stand m.2)), .val (.str (if whoOf s ev = some meS then ("meant" : Str) else "other")), ?_⟩
        have hif : ∀ ρ : Ro, (if whoOf s ev = some meS then some (D.str ("meant" : Str)) else some (D.str "other")) = some (D.str (if whoOf s ev = some meS then ("meant" : Str) else "other")) := fun ρ => by
          by_cases z : whoOf s ev = some meS <;> simp [z]
        have hd2 := hdo [.val (ruleD r), .val (stX s), .val (stX s'), .val (teD ev), .own (.lst (b.map pairD)), .val (oS (whoOf s ev)), .val (.int (i : Nat)), .val (.int (j : Nat)), .val (.str (stand t)), .val (.str (stand m.2)), .val (.str (if whoOf s ev = some meS then ("meant" : Str) else "other"))] rfl rfl
        rw [← H.doer] at hd2
        have hpl : D.tup [D.str (stand m.2), doD (doerP t m.1)] = pairD (q, doerP t m.1) := by rw [hst]; rfl
        generalize (dIf (dCmp eqD (dOp ixD (dPk 3) (dC (.int 0))) (dC (.str "tick"))) (dC (.str "time")) (dVar 10)) = DD at hd2 ⊢
        simp -implicitDefEqProofs [lks_len, hj', ha1, ha2, hw1, hw2, hin, heq2, hm, hq, -eq_os, -eq_oo]
        rw [hif [], Option.map_some]
        simp -implicitDefEqProofs only [Option.bind_some, andThen_nx, List.set_cons_succ, List.set_cons_zero, dApp_ev, dTup_ev, dCons_ev, hd2]
        simp -implicitDefEqProofs [hpl, hap]
end
end NW

/-! The law's harms, whole. -/
namespace NW
open PySem PySem.Spec L2
section
variable {r : Rule} {t t' : Scene} {s s' : Rst} {nm : List Str} {L L' l : Lk} {u : Nat} {y : Row} {x c : Rc} {k : Int} {n h n0 n1 : Str} {ns : Ns} {w b p : Bool} {o : Option Str} {e : Ev} {ev : Te} {m : Mv}
def hits (r : Rule) (t : Scene) (m : Mv) (ls : List Lk) : Nat → List Pair
  | 0 => []
  | i + 1 => hits r t m ls i ++ hitAt r t m ls i
theorem hits_len : ∀ i, (hits r t m s.ls i).length ≤ i
  | 0 => Nat.le_refl 0
  | i + 1 => by
    have := hits_len i
    have := hit_len (r := r) (t := t) (m := m) (s' := s) (n' := i)
    unfold hits
    rw [List.length_append]
    omega
theorem hits_all : ∀ i, ∀ q ∈ hits r t m s.ls i, pairOf t m = some q
  | 0, q, h => by cases h
  | i + 1, q, h => by
    unfold hits at h
    rcases List.mem_append.mp h with h | h
    · exact hits_all i q h
    · unfold hitAt hitOf at h
      split at h
      · cases h
      · split at h
        · cases h
        · cases hp : pairOf t m with
          | none => rw [hp] at h; cases h
          | some z =>
            rw [hp] at h
            have : q = z := by simpa using h
            rw [this]
theorem hits_last (hL : s.ls[s.ls.length - 1]? = some L) (hd : dead r L = false) {q : Pair} (hp : pairOf t m = some q) : q ∈ hits r t m s.ls s.ls.length := by
  have h1 := (List.getElem?_eq_some_iff.mp hL).1
  obtain ⟨i, hi⟩ : ∃ i, s.ls.length = i + 1 := ⟨s.ls.length - 1, by omega⟩
  rw [hi] at hL ⊢
  unfold hits
  refine List.mem_append_right _ ?_
  unfold hitAt hitOf
  rw [show i + 1 - 1 = i by omega] at hL
  rw [hL]
  simp [hd, hp]
theorem allPair_of {a b : Str} {q : Pair} (hq : pairD q = .tup [.str a, .str b]) : ∀ {l : List Pair}, (∀ z ∈ l, z = q) → allPair a b (l.map pairD) = true
  | [], _ => rfl
  | z :: l, h => by
    have : z = q := h z List.mem_cons_self
    subst this
    have ih := allPair_of hq (l := l) fun y hy => h y (List.mem_cons_of_mem _ hy)
    rw [List.map_cons, hq]
    simp [allPair, ih]
/-- all of one kind, sorted -/
theorem sort_hits {l : List Pair} {q : Pair} (h : ∀ z ∈ l, z = q) (hl : l.length ≤ 50000) : sortSetD (.lst (l.map pairD)) = some (.lst (if l = [] then [] else [pairD q]), true) := by
  cases l with
  | nil => rfl
  | cons z l =>
    have hz : z = q := h z List.mem_cons_self
    subst hz
    have ha := allPair_of (a := hS z.1) (b := dS' z.2) (q := z) rfl (l := l) fun y hy => h y (List.mem_cons_of_mem _ hy)
    rw [List.map_cons]
    show (if allPair _ _ _ && decide ((l.map pairD).length ≤ 50000) then some (D.lst [D.tup [.str _, .str _]], true) else none) = _
    rw [ha]
    rw [List.length_cons] at hl
    have hl' : (l.map pairD).length ≤ 50000 := by simp; omega
    rw [decide_eq_true hl']
    rfl
/-- the harms of an event, as data -/
def rowH : Option Pair → D
  | none => .lst []
  | some q => .lst [pairD q]
theorem who_set {ρ : Ro} (h3 : ρ[3]? = some (.val (teD ev))) (h1 : ρ[1]? = some (.val (stX s))) : (dIf (dCmp eqD (dOp ixD (dPk 3) (dC (.int 0))) (dC (.str "take"))) (toE (dOp ixD (dPk 3) (dC (.int 1)))) (dCall 2 f_law_held (dCons (dVar 1) (dCons (dOp ixD (dPk 3) (dC (.int 1))) dNil)))) ρ = match ev with
    | .tick => (dIf (dCmp eqD (dOp ixD (dPk 3) (dC (.int 0))) (dC (.str "take"))) (toE (dOp ixD (dPk 3) (dC (.int 1)))) (dCall 2 f_law_held (dCons (dVar 1) (dCons (dOp ixD (dPk 3) (dC (.int 1))) dNil)))) ρ
    | .copy _ => (dIf (dCmp eqD (dOp ixD (dPk 3) (dC (.int 0))) (dC (.str "take"))) (toE (dOp ixD (dPk 3) (dC (.int 1)))) (dCall 2 f_law_held (dCons (dVar 1) (dCons (dOp ixD (dPk 3) (dC (.int 1))) dNil)))) ρ
    | .write _ => (dIf (dCmp eqD (dOp ixD (dPk 3) (dC (.int 0))) (dC (.str "take"))) (toE (dOp ixD (dPk 3) (dC (.int 1)))) (dCall 2 f_law_held (dCons (dVar 1) (dCons (dOp ixD (dPk 3) (dC (.int 1))) dNil)))) ρ
    | _ => some (oS (whoOf s ev), false) := by
  cases ev <;> simp -implicitDefEqProofs [h3, h1, teD, ofS_inj, whoOf, m_law_held, oS]
def dWho : DS := (dIfS (dCmp inD (dOp ixD (dPk 3) (dC (.int 0))) (ofE (dLst (dCons (dC (.str "take")) (dCons (dC (.str "give")) (dCons (dC (.str "change")) (dCons (dC (.str "pass")) dNil))))))) (dSet 5 (ofE (dIf (dCmp eqD (dOp ixD (dPk 3) (dC (.int 0))) (dC (.str "take"))) (toE (dOp ixD (dPk 3) (dC (.int 1)))) (dCall 2 f_law_held (dCons (dVar 1) (dCons (dOp ixD (dPk 3) (dC (.int 1))) dNil)))))) dSkip)
def wordsD : D := .lst [.str "take", .str "give", .str "change", .str "pass"]
theorem in_tick : inD (.str "tick") wordsD = some false := by decide +kernel
theorem in_copy : inD (.str "copy") wordsD = some false := by decide +kernel
theorem in_write : inD (.str "write") wordsD = some false := by decide +kernel
theorem in_take : inD (.str "take") wordsD = some true := by decide +kernel
theorem in_give : inD (.str "give") wordsD = some true := by decide +kernel
theorem in_change : inD (.str "change") wordsD = some true := by decide +kernel
theorem in_pass : inD (.str "pass") wordsD = some true := by decide +kernel
theorem who_step {d1 d2 d4 : D} {a6 a7 a8 a9 a10 : Slot} : dWho [.val (ruleD r), .val (stX s), .val d2, .val (teD ev), .own d4, .val .non, a6, a7, a8, a9, a10] = some (.nx [.val (ruleD r), .val (stX s), .val d2, .val (teD ev), .own d4, .val (oS (whoOf s ev)), a6, a7, a8, a9, a10]) := by
  have hw : D.lst [.str "take", .str "give", .str "change", .str "pass"] = wordsD := rfl
  unfold dWho
  cases ev with
  | tick => simp -implicitDefEqProofs [hw, in_tick, teD, whoOf, oS]
  | copy k => simp -implicitDefEqProofs [hw, in_copy, teD, whoOf, oS]
  | write n => simp -implicitDefEqProofs [hw, in_write, teD, whoOf, oS]
  | take h n => simp -implicitDefEqProofs [hw, in_take, teD, whoOf, oS]
  | give n => simp -implicitDefEqProofs [hw, in_give, teD, whoOf, m_law_held, ofS_inj]
  | change n k => simp -implicitDefEqProofs [hw, in_change, teD, whoOf, m_law_held, ofS_inj]
  | pass n k => simp -implicitDefEqProofs [hw, in_pass, teD, whoOf, m_law_held, ofS_inj]
theorem harms_loop (H : Told r t m s s' ev) {a6 a7 a8 a9 a10 : Slot} : ∃ c6 c7 c8 c9 c10,
    loopF (tgN 6) l_law_harms_1 (rngD s'.ls.length) [.val (ruleD r), .val (stX s), .val (stX s'), .val (teD ev), .own (.lst []), .val (oS (whoOf s ev)), a6, a7, a8, a9, a10] =
    some (.nx [.val (ruleD r), .val (stX s), .val (stX s'), .val (teD ev), .own (.lst ((hits r t m s'.ls s'.ls.length).map pairD)), .val (oS (whoOf s ev)), c6, c7, c8, c9, c10]) := by
  obtain ⟨ρ', h1, h2, b6, b7, b8, b9, b10, h3⟩ := loopF_ix (enc := fun i : Nat => D.int (i : Nat)) (tg := tgN 6) (body := l_law_harms_1) (xs := List.range s'.ls.length) (b := ([] : List Pair)) (k := 0) (step := fun b i => b ++ hitAt r t m s'.ls i)
    (ρ := [.val (ruleD r), .val (stX s), .val (stX s'), .val (teD ev), .own (.lst []), .val (oS (whoOf s ev)), a6, a7, a8, a9, a10])
    (R := fun i b ρ => b = hits r t m s'.ls i ∧ ∃ a6 a7 a8 a9 a10, ρ = [.val (ruleD r), .val (stX s), .val (stX s'), .val (teD ev), .own (.lst (b.map pairD)), .val (oS (whoOf s ev)), a6, a7, a8, a9, a10])
    (fun i b ρ x hz ⟨hb, a6, a7, a8, a9, a10, e⟩ => by
      subst e
      rw [Nat.zero_add] at hb ⊢
      obtain ⟨hi, hx⟩ := List.getElem?_eq_some_iff.mp hz
      rw [List.length_range] at hi
      have hx' : x = i := by simpa using hx.symm
      subst hx'
      have hlen := hits_len (r := r) (t := t) (m := m) (s := s') x
      have hfew := H.few
      obtain ⟨c7, c8, c9, c10, hh⟩ := harm_turn H hi (b := b) (by rw [hb]; omega) (a7 := a7) (a8 := a8) (a9 := a9) (a10 := a10)
      refine ⟨_, _, by simp only [tgN_ev]; rfl, .inl hh, ?_, .val (.int (x : Nat)), c7, c8, c9, c10, rfl⟩
      rw [hb]
      rfl) ⟨rfl, a6, a7, a8, a9, a10, rfl⟩
  refine ⟨b6, b7, b8, b9, b10, ?_⟩
  rw [Nat.zero_add, List.length_range] at h2
  rw [h3, h2] at h1
  exact h1
theorem m_law_harms (H : Told r t m s s' ev) (hL : s'.ls[s'.ls.length - 1]? = some L) (hd : dead r L = false) : f_law_harms [ruleD r, stX s, stX s', teD ev] = some (rowH (pairOf t m), true) := by
  obtain ⟨c6, c7, c8, c9, c10, hl⟩ := harms_loop H (a6 := .un) (a7 := .un) (a8 := .un) (a9 := .un) (a10 := .un)
  have hlen := hits_len (r := r) (t := t) (m := m) (s := s') s'.ls.length
  have hfew := H.few
  have hsort : sortSetD (.lst ((hits r t m s'.ls s'.ls.length).map pairD)) = some (rowH (pairOf t m), true) := by
    cases hp : pairOf t m with
    | none =>
      have : hits r t m s'.ls s'.ls.length = [] := by
        cases q : hits r t m s'.ls s'.ls.length with
        | nil => rfl
        | cons z l =>
          have := hits_all (r := r) (t := t) (m := m) (s := s') s'.ls.length z (by rw [q]; exact List.mem_cons_self)
          rw [hp] at this
          cases this
      rw [this]
      rfl
    | some q =>
      have hm := hits_last hL hd hp
      rw [sort_hits (q := q) (fun z hz => by
        have := hits_all (r := r) (t := t) (m := m) (s := s') s'.ls.length z hz
        rw [hp] at this
        exact (Option.some.inj this).symm) (by omega)]
      rw [if_neg (fun z => by rw [z] at hm; cases hm)]
      rfl
  have hw := who_step (r := r) (s := s) (ev := ev) (d1 := .non) (d2 := stX s') (d4 := .lst []) (a6 := .un) (a7 := .un) (a8 := .un) (a9 := .un) (a10 := .un)
  have hr : rngS (dF1 lenD (dOp ixD (dPk 2) (dC (.int 1)))) [.val (ruleD r), .val (stX s), .val (stX s'), .val (teD ev), .own (.lst []), .val (oS (whoOf s ev)), .un, .un, .un, .un, .un] = some (rngD s'.ls.length) := by
    rw [rngS_ev (i := (s'.ls.length : Nat)) (by simp [lks_len])]
    rw [if_pos (by omega)]
    simp
  unfold f_law_harms b_law_harms
  have e0 : (dIfS (dCmp inD (dOp ixD (dPk 3) (dC (.int 0))) (ofE (dLst (dCons (dC (.str "take")) (dCons (dC (.str "give")) (dCons (dC (.str "change")) (dCons (dC (.str "pass")) dNil))))))) (dSet 5 (ofE (dIf (dCmp eqD (dOp ixD (dPk 3) (dC (.int 0))) (dC (.str "take"))) (toE (dOp ixD (dPk 3) (dC (.int 1)))) (dCall 2 f_law_held (dCons (dVar 1) (dCons (dOp ixD (dPk 3) (dC (.int 1))) dNil)))))) dSkip) = dWho := rfl
  rw [e0]
  simp -implicitDefEqProofs only [fnOf_ev, List.map_cons, List.map_nil, List.length_cons, List.length_nil, List.replicate, List.cons_append, List.nil_append, dSeq_ev, dPar_ev, dLst_ev, dNil_ev, Option.bind_some, gLst0, toE_ev, dC_ev, Option.map_some, putR_t, putR_f, andThen_nx, List.set_cons_succ, List.set_cons_zero, Nat.reduceAdd, Nat.reduceSub, hw, dFor_ev, hr, hl, dFrz_ev, frzR_4, frzS_own, dRet_ev, dF1_ev, dVar_ev, List.getElem?_cons_zero, List.getElem?_cons_succ, valS_val, hsort, endF_rt]
end
end NW

/-! The told way: the program's history, the law's rows. -/
namespace NW
open PySem PySem.Spec L2
inductive Turns (tg : DT) (body : DS) : List D → Ro → Ro → Prop where
  | nil {ρ : Ro} : Turns tg body [] ρ ρ
  | cons {d : D} {ds : List D} {ρ ρ1 ρ2 ρ3 : Ro} : tg d ρ = some ρ1 → body ρ1 = some (.nx ρ2) → Turns tg body ds ρ2 ρ3 → Turns tg body (d :: ds) ρ ρ3
theorem Turns.app {tg : DT} {body : DS} {a b : List D} {ρ ρ1 ρ2 : Ro} (h : Turns tg body a ρ ρ1) (g : Turns tg body b ρ1 ρ2) : Turns tg body (a ++ b) ρ ρ2 := by
  induction h with
  | nil => exact g
  | cons h1 h2 _ ih => exact .cons h1 h2 (ih g)
theorem Turns.loop {tg : DT} {body : DS} {a : List D} {ρ ρ1 : Ro} (h : Turns tg body a ρ ρ1) : loopF tg body a ρ = some (.nx ρ1) := by
  induction h with
  | nil => rfl
  | cons h1 h2 _ ih =>
    rw [loopF_cons, h1, Option.bind_some, h2]
    exact ih
def s0 : Rst := ⟨[(aS, ⟨some meS, meS, 0, 0, none⟩)], [⟨aS, 0, meS, 0, some aS⟩]⟩
def sE : Rst := ⟨[], []⟩
def ev0 : List D := [teD (.take meS aS), teD (.write aS)]
/-- a way that is told: so many events, their data, the law's rows -/
structure Path (r : Rule) (u : Nat) (l : List Mv) (t : Scene) (evs : List D) (nm : List Str) (s : Rst) (L : Lk) (hs : List (Option Pair)) : Prop where
  len : u = l.length + 2
  lenE : evs.length = u
  lenH : hs.length = u
  wf : WF r t
  sim : Sim r u t nm s L
  hist : ∀ (q : D) (a5 a6 a7 : Slot), ∃ c5 c6 c7, Turns (tgT [5, 6]) l_history_of_1 (mvsD l) [.val (ruleD r), .val q, .val (.tup ev0), .val (nmD [aS]), .val (stP s0), a5, a6, a7] [.val (ruleD r), .val q, .val (.tup evs), .val (nmD nm), .val (stP s), c5, c6, c7]
  law : ∀ (q : D) (a4 a5 : Slot), ∃ c4 c5, Turns (tgN 4) l_law_rows_1 evs [.val (ruleD r), .val q, .val (stX sE), .own (.lst []), a4, a5] [.val (ruleD r), .val q, .val (stX s), .own (.lst (hs.map rowH)), c4, c5]
section
variable {r : Rule} {t t' : Scene} {s s' : Rst} {nm nm' : List Str} {L L' l : Lk} {u : Nat} {k : Int} {e : Ev} {ev : Te} {m : Mv} {hs : List (Option Pair)} {evs : List D}
theorem rows_len {rows : Rows} : (rowsL LP rows).length = lenRows rows := by cases rows <;> rfl
theorem hist_turn (G : Go r u t t' nm nm' s s' L' e ev) (hu : u < 24000) (hl : evs.length = u) {q : D} {a7 : Slot} :
    l_history_of_1 [.val (ruleD r), .val q, .val (.tup evs), .val (nmD nm), .val (stP s), .val (evD e), .val (scD LP t'), a7] =
    some (.nx [.val (ruleD r), .val q, .val (.tup (evs ++ [teD ev])), .val (nmD nm'), .val (stP s'), .val (evD e), .val (scD LP t'), .val (teD ev)]) := by
  obtain ⟨b1, h1⟩ := G.both.p
  obtain ⟨b2, h2⟩ := G.behind
  have h3 := G.told
  have h4 := addD_tt (ds := evs) (ds' := [teD ev]) (by rw [hl]; simp; omega)
  unfold l_history_of_1
  simp -implicitDefEqProofs [hl, h3, h1, h4, rows_len, h2]
theorem law_turn (H : f_law_is_event [teD ev] = some (.bl true, false)) (hB : ∃ b, f_law_next [ruleD r, stX s, teD ev] = some (stX s', b)) {p : Option Pair} (hH : f_law_harms [ruleD r, stX s, stX s', teD ev] = some (rowH p, true)) (hl : hs.length < 50000) {q : D} {a5 : Slot} :
    l_law_rows_1 [.val (ruleD r), .val q, .val (stX s), .own (.lst (hs.map rowH)), .val (teD ev), a5] =
    some (.nx [.val (ruleD r), .val q, .val (stX s'), .own (.lst ((hs ++ [p]).map rowH)), .val (teD ev), .val (stX s')]) := by
  obtain ⟨b, hB⟩ := hB
  have hn : (stX s').isN = false := rfl
  have hap : ∀ (ρ : Ro) (y : D), appS 3 ρ y (.own (.lst (hs.map rowH))) = some (.nx (ρ.set 3 (.own (.lst (hs.map rowH ++ [y]))))) := fun ρ y => appS_own (by rw [List.length_map]; omega)
  unfold l_law_rows_1
  simp -implicitDefEqProofs [H, hB, hn, hH, hap]
theorem told_of (T : Tight r) (W : WF r t) (W' : WF r t') (S : Sim r u t nm s L) (G : Go r u t t' nm nm' s s' L' e ev) (hu : u < 24000) : Told r t (e, t') s s' ev where
  src := G.src
  w1 := fun l hl => sim_word T W S hl
  w2 := fun l hl => sim_word T W' G.sim hl
  meant := fun l hl => (G.sim.alike l hl).meant
  doer := G.doer
  few := by have := G.sim.few; omega
/-- one more step of a told way -/
theorem Path.more (T : Tight r) {l : List Mv} (P : Path r u l t evs nm s L hs) (hu : u < 24000) (hm : (e, t') ∈ steps r t) (hcp : e = .copy → r.cp = .anew → topP t = false) :
    ∃ ev nm' s' L', Path r (u + 1) (l ++ [(e, t')]) t' (evs ++ [teD ev]) nm' s' L' (hs ++ [pairOf t (e, t')]) := by
  obtain ⟨st, hl⟩ := steps_iff hm
  have W' := wf_steps T P.wf hm
  obtain ⟨ev, nm', s', L', G⟩ := go_step T P.wf P.sim hu st hcp
  refine ⟨ev, nm', s', L', ⟨by rw [List.length_append, P.len]; rfl, by rw [List.length_append, P.lenE]; rfl, by rw [List.length_append, P.lenH]; rfl, W', G.sim, fun q a5 a6 a7 => ?_, fun q a4 a5 => ?_⟩⟩
  · obtain ⟨c5, c6, c7, hh⟩ := P.hist q a5 a6 a7
    have ht := hist_turn G hu P.lenE (q := q) (a7 := c7)
    refine ⟨.val (evD e), .val (scD LP t'), .val (teD ev), ?_⟩
    rw [mvs_app, mvs_one]
    exact hh.app (.cons (by simp only [mvD, tgT_ev, setAll_cons, setAll_nil]; rfl) ht .nil)
  · obtain ⟨c4, c5, hh⟩ := P.law q a4 a5
    have hd := sim_alive G.sim W'.ageL
    have hH := m_law_harms (told_of T P.wf W' P.sim G hu) G.sim.last hd
    have ht := law_turn (m_is_event G.word) G.both.x hH (hs := hs) (by rw [P.lenH]; omega) (q := q) (a5 := c5)
    exact ⟨_, _, hh.app (.cons (by simp only [tgN_ev]; rfl) ht .nil)⟩
end
end NW

/-! The first two events; the whole told way. -/
namespace NW
open PySem PySem.Spec L2
section
variable {r : Rule} {t t' : Scene} {s s' : Rst} {nm nm' : List Str} {L L' l : Lk} {u : Nat} {k : Int} {e : Ev} {ev : Te} {m : Mv} {hs : List (Option Pair)} {evs : List D} {n h : Str} {x : Rc}
theorem both_write (hl : s.ns.length < 50000) (hk : s.ls.length < 50000) (hg : getN s.ns n = some x) (hh : x.hold = some h) : Both r s (.write n) ⟨s.ns, s.ls ++ [⟨n, x.num, h, 0, some n⟩]⟩ := by
  have hb : heldBy s n = some h := (held_of hg).trans hh
  have hle : lksL (s.ls ++ [⟨n, x.num, h, 0, some n⟩]) = lksL s.ls ++ [.tup [.str n, .int x.num, .str h, .int 0, .str n]] := lks_app
  have hadd := addD_tt (ds := lksL s.ls) (ds' := [.tup [.str n, .int x.num, .str h, .int 0, .str n]]) (by rw [lks_len]; simp; omega)
  have hcat : (lksL s.ls).length + 1 ≤ 100000 := by rw [lks_len]; omega
  have h1 : f_written [ruleD r, stP s, .str n] = some (stP ⟨s.ns, s.ls ++ [⟨n, x.num, h, 0, some n⟩]⟩, false) := by
    unfold f_written b_written
    simp -implicitDefEqProofs [m_held_by, hb, oS, hg, hadd]
    rw [← hle]
    rfl
  refine ⟨⟨false, ?_⟩, ⟨false, ?_⟩⟩
  · unfold f_stepped b_stepped
    simp -implicitDefEqProofs [teD, ofS_inj, h1]
  · unfold f_law_next b_law_next f_law_named b_law_named
    simp -implicitDefEqProofs [teD, ofS_inj, m_law_held, hb, hg, oS, setAll, lks_len]
    rw [if_pos (by omega)]
    simp -implicitDefEqProofs []
    rw [← hle]
    rfl
def s1 : Rst := ⟨[(aS, ⟨some meS, meS, 0, 0, none⟩)], []⟩
theorem get_s1 : getN s1.ns aS = some ⟨some meS, meS, 0, 0, none⟩ := by simp [getN, s1]
theorem get_s0 : getN s0.ns aS = some ⟨some meS, meS, 0, 0, none⟩ := by simp [getN, s0]
theorem first_take : Both r sE (.take meS aS) s1 := by
  have ho : openTo r sE meS aS = true := rfl
  exact both_take (s := sE) (by simp [sE]) ho
theorem first_write : Both r s1 (.write aS) s0 := both_write (s := s1) (by simp [s1]) (by simp [s1]) get_s1 rfl
theorem harms_none (hloop : ∃ c6 c7 c8 c9 c10, loopF (tgN 6) l_law_harms_1 (rngD s'.ls.length) [.val (ruleD r), .val (stX s), .val (stX s'), .val (teD ev), .own (.lst []), .val (oS (whoOf s ev)), .un, .un, .un, .un, .un] =
    some (.nx [.val (ruleD r), .val (stX s), .val (stX s'), .val (teD ev), .own (.lst []), .val (oS (whoOf s ev)), c6, c7, c8, c9, c10])) (hl : s'.ls.length ≤ 1000) : f_law_harms [ruleD r, stX s, stX s', teD ev] = some (rowH none, true) := by
  obtain ⟨c6, c7, c8, c9, c10, hl'⟩ := hloop
  have hw := who_step (r := r) (s := s) (ev := ev) (d1 := .non) (d2 := stX s') (d4 := .lst []) (a6 := .un) (a7 := .un) (a8 := .un) (a9 := .un) (a10 := .un)
  have hr : rngS (dF1 lenD (dOp ixD (dPk 2) (dC (.int 1)))) [.val (ruleD r), .val (stX s), .val (stX s'), .val (teD ev), .own (.lst []), .val (oS (whoOf s ev)), .un, .un, .un, .un, .un] = some (rngD s'.ls.length) := by
    rw [rngS_ev (i := (s'.ls.length : Nat)) (by simp [lks_len])]
    rw [if_pos (by omega)]
    simp
  have hsort : sortSetD (.lst []) = some (rowH none, true) := rfl
  unfold f_law_harms b_law_harms
  have e0 : (dIfS (dCmp inD (dOp ixD (dPk 3) (dC (.int 0))) (ofE (dLst (dCons (dC (.str "take")) (dCons (dC (.str "give")) (dCons (dC (.str "change")) (dCons (dC (.str "pass")) dNil))))))) (dSet 5 (ofE (dIf (dCmp eqD (dOp ixD (dPk 3) (dC (.int 0))) (dC (.str "take"))) (toE (dOp ixD (dPk 3) (dC (.int 1)))) (dCall 2 f_law_held (dCons (dVar 1) (dCons (dOp ixD (dPk 3) (dC (.int 1))) dNil)))))) dSkip) = dWho := rfl
  rw [e0]
  simp -implicitDefEqProofs only [fnOf_ev, List.map_cons, List.map_nil, List.length_cons, List.length_nil, List.replicate, List.cons_append, List.nil_append, dSeq_ev, dPar_ev, dLst_ev, dNil_ev, Option.bind_some, gLst0, toE_ev, dC_ev, Option.map_some, putR_t, putR_f, andThen_nx, List.set_cons_succ, List.set_cons_zero, Nat.reduceAdd, Nat.reduceSub, hw, dFor_ev, hr, hl', dFrz_ev, frzR_4, frzS_own, dRet_ev, dF1_ev, dVar_ev, List.getElem?_cons_zero, List.getElem?_cons_succ, valS_val, hsort, endF_rt]
theorem harms_take : f_law_harms [ruleD r, stX sE, stX s1, teD (.take meS aS)] = some (rowH none, true) :=
  harms_none (s' := s1) ⟨_, _, _, _, _, rfl⟩ (by simp [s1])
theorem right_in : inD (.str "right") (.lst [.str "astray", .str "lost"]) = some false := by decide +kernel
theorem harms_write (T : Tight r) : f_law_harms [ruleD r, stX s1, stX s0, teD (.write aS)] = some (rowH none, true) := by
  have hlk : s0.ls[0]? = some ⟨aS, 0, meS, 0, some aS⟩ := rfl
  have hd : dead r ⟨aS, 0, meS, 0, some aS⟩ = false := by
    unfold dead
    cases q : r.life with
    | none => rfl
    | some f =>
      have := (T.life f q).1
      exact decide_eq_false (by show ¬ f < 0; omega)
  have hN : ∃ j, hopN r = j + 1 := by
    unfold hopN
    split
    · exact ⟨1, rfl⟩
    · exact ⟨0, rfl⟩
  obtain ⟨j, hN⟩ := hN
  have hle : leads r s0.ns ⟨aS, 0, meS, 0, some aS⟩ = some (some (aS, meS)) := by
    unfold leads
    rw [hd, hN]
    unfold goes
    rw [get_s0]
    simp
  have hw : f_law_word [ruleD r, stX s0, lkD ⟨aS, 0, meS, 0, some aS⟩] = some (.str "right", false) := by
    rw [m_law_word (s := s0) rfl hle]
    simp [wordS, hd]
  have ha := at_lks (k := 0) hlk
  have hx0 : (lksL s0.ls)[0]? = some (lkD ⟨aS, 0, meS, 0, some aS⟩) := rfl
  have hr : rngD s0.ls.length = [.int 0] := rfl
  have hl0 : (lksL s1.ls).length = 0 := rfl
  refine harms_none (s' := s0) ⟨.val (.int 0), .val (.int 0), .val (.str "right"), .val (.str "right"), .un, ?_⟩ (by simp [s0])
  rw [hr]
  unfold l_law_harms_1
  simp -implicitDefEqProofs [teD, ofS_inj, hl0, hx0, hw, right_in]
theorem base (T : Tight r) : Path r 2 [] first ev0 [aS] s0 ⟨aS, 0, meS, 0, some aS⟩ [none, none] := by
  refine ⟨rfl, rfl, rfl, wf_first T, ⟨⟨by simp [s0], fun n x e => ?_, by simp [s0]⟩, by simp [s0], rfl, fun l hl => ?_, by show (0 : Int) = _; split <;> rfl, ⟨rfl, ⟨some meS, meS, 0, 0, none⟩, get_s0, ?_⟩, ⟨aS, rfl, rfl⟩, Int.le_refl 0⟩, fun q a5 a6 a7 => ⟨a5, a6, a7, .nil⟩, fun q a4 a5 => ?_⟩
  · by_cases q : n = aS
    · subst q
      rw [get_s0] at e
      cases e
      exact ⟨.a, .me, fun h e => by cases e; rfl⟩
    · have : getN s0.ns n = none := by
        have : ¬ aS = n := fun z => q z.symm
        simp [getN, s0, this]
      rw [this] at e
      cases e
  · have : l = ⟨aS, 0, meS, 0, some aS⟩ := by simpa [s0] using hl
    subst this
    exact ⟨rfl, by simp, rfl, rfl, Int.le_refl 0⟩
  · exact ⟨by simp [isMe], by simp [isMe], by simp, old0 T, by simp⟩
  · have w1 : ∀ x ∈ teWords (.take meS aS), Word x := fun x hx => by
      simp only [teWords, List.mem_cons, List.not_mem_nil, or_false] at hx
      rcases hx with rfl | rfl
      · exact word_me
      · exact word_a
    have w2 : ∀ x ∈ teWords (.write aS), Word x := fun x hx => by
      simp only [teWords, List.mem_cons, List.not_mem_nil, or_false] at hx
      subst hx
      exact word_a
    have t1 := law_turn (m_is_event w1) (first_take (r := r)).x harms_take (hs := []) (by simp) (q := q) (a5 := a5)
    have t2 := law_turn (m_is_event w2) (first_write (r := r)).x (harms_write T) (hs := [none]) (by simp) (q := q) (a5 := .val (stX s1))
    exact ⟨_, _, .cons (by simp only [tgN_ev]; rfl) t1 (.cons (by simp only [tgN_ev]; rfl) t2 .nil)⟩
theorem tree_len {out : Found} : ∀ {i s l}, Tree r out i s l → l.length ≤ i := by
  intro i s l t
  induction t with
  | root _ _ _ => exact Nat.zero_le _
  | more _ _ _ hj _ _ _ ih => rw [List.length_append]; simp; omega
/-- the way to a scene of the tree is told, and no row has the pair p -/
theorem tree_path (T : Tight r) {out : Found} (D : Done r out) {p : Pair} : ∀ {i s l}, Tree r out i s l → (∀ j, j < i → ∀ y, out[j]? = some y → ∀ m' ∈ steps r y.1, pairOf y.1 m' ≠ some p) →
    ∃ u evs nm st L hs, Path r u l s evs nm st L hs ∧ ∀ q ∈ hs, q ≠ some p := by
  intro i s l t
  induction t with
  | root _ _ _ => exact fun _ => ⟨2, ev0, [aS], s0, _, [none, none], base T, fun q hq => by
      have : q = none := by simpa using hq
      rw [this]; simp⟩
  | @more i j z y e l hz hpar hstep hj hy hlev tr ih =>
    intro hno
    obtain ⟨u, evs, nm, st, L, hs, P, hq⟩ := ih fun j' hj' => hno j' (by omega)
    have hi := (List.getElem?_eq_some_iff.mp hz).1
    have hf := few_f T D.core
    have hu : u < 24000 := by
      have := tree_len tr
      have := P.len
      omega
    obtain ⟨ev, nm', s', L', P'⟩ := P.more T hu hstep fun he hc => by
      subst he
      exact no_copy T hc D hz hy hstep hlev
    refine ⟨_, _, nm', s', L', _, P', fun q hm => ?_⟩
    rcases List.mem_append.mp hm with hm | hm
    · exact hq q hm
    · have : q = pairOf y.1 (e, z.1) := by simpa using hm
      rw [this]
      exact hno j hj y hy _ hstep
theorem pair_copy (hs : Step r t .copy t') : pairOf t (.copy, t') = none := by
  cases hs with
  | same hc =>
    have e : status ⟨0, t.rows, t.thr⟩ = status t := rfl
    unfold pairOf
    simp only [e]
    cases status t with
    | none => rfl
    | some h => simp
  | @anew w hc hw hz =>
    have e1 : endOf t = some w := by rw [endOf_eq, if_pos hz, hw]
    have e2 : endOf ⟨0, .one t.rows.top, if t.thr = .no then .no else if t.thr = thrOf (topP t) then .p0 else .out⟩ = some w := by rw [endOf_eq]; show (if t.rows.top.num = 0 then t.rows.top.who else none) = _; rw [if_pos hz, hw]
    have e : status ⟨0, .one t.rows.top, if t.thr = .no then .no else if t.thr = thrOf (topP t) then .p0 else .out⟩ = status t := by
      unfold status
      rw [e1, e2]
      cases w <;> simp
    unfold pairOf
    simp only [e]
    cases status t with
    | none => rfl
    | some h => simp
theorem behind_two : f_behind [ruleD r, stP sE, .tup ev0] = some (stP s0, false) := by
  obtain ⟨b1, h1⟩ := (first_take (r := r)).p
  obtain ⟨b2, h2⟩ := (first_write (r := r)).p
  have n1 : (stP sE).isN = false := rfl
  have n2 : (stP s1).isN = false := rfl
  unfold f_behind b_behind l_behind_1 ev0
  simp -implicitDefEqProofs [h1, h2, n1, n2]
theorem history_of {w : List Mv} (P : Path r u w t evs nm s L hs) : f_history_of [ruleD r, .lst (mvsD w)] = some (.tup evs, false) := by
  obtain ⟨c5, c6, c7, hh⟩ := P.hist (.lst (mvsD w)) .un .un .un
  have hl := hh.loop
  have e0 : D.tup [.tup [.str "take", .str "me", .str "a"], .tup [.str "write", .str "a"]] = .tup ev0 := by rw [me_lit, a_lit]; rfl
  have e1 : D.lst [.str "a"] = nmD [aS] := by rw [a_lit]; rfl
  have e2 : f_first_state [] = some (stP sE, false) := rfl
  unfold f_history_of b_history_of
  simp -implicitDefEqProofs [e0, e1, e2, behind_two, -loopF_cons]
  rw [hl]
  simp -implicitDefEqProofs []
theorem law_rows {w : List Mv} (P : Path r u w t evs nm s L hs) : f_law_rows [ruleD r, .tup evs] = some (.lst (hs.map rowH), true) := by
  obtain ⟨c4, c5, hh⟩ := P.law (.tup evs) .un .un
  have hl := hh.loop
  have e2 : f_law_begin [] = some (stX sE, false) := rfl
  unfold f_law_rows b_law_rows
  simp -implicitDefEqProofs [e2, -loopF_cons]
  rw [hl]
  simp -implicitDefEqProofs []
/-- a pair that can come: its history is told, and the law's rows have it at the last event alone -/
theorem told_all (T : Tight r) {out : Found} (D : Done r out) {p : Pair} {n : Nat} {w : List Mv} (R : Rec r out p n w) : n ≤ 30000 ∧ ∃ evs hs, f_history_of [ruleD r, .lst (mvsD w)] = some (.tup evs, false) ∧ evs.length = n ∧
    f_law_rows [ruleD r, .tup evs] = some (.lst ((hs ++ [some p]).map rowH), true) ∧ hs.length + 1 = n ∧ ∀ q ∈ hs, q ≠ some p := by
  obtain ⟨i, z, m, l, hz, tr, rfl, hm, hp, hn, hno⟩ := R
  obtain ⟨u, evs, nm, st, L, hs, P, hq⟩ := tree_path T D tr hno
  have hi := (List.getElem?_eq_some_iff.mp hz).1
  have hf := few_f T D.core
  have hl := tree_len tr
  have hu := P.len
  obtain ⟨e, t'⟩ := m
  obtain ⟨ev, nm', s', L', P'⟩ := P.more T (by omega) hm fun he hc => by
    subst he
    have := pair_copy (steps_iff hm).1
    rw [this] at hp
    cases hp
  rw [hp] at P'
  refine ⟨by omega, _, hs, history_of P', ?_, law_rows P', ?_, hq⟩
  · rw [P'.lenE]; omega
  · rw [P.lenH]; omega
end
end NW

/-! shortest; what the law does with a rule. -/
namespace NW
open PySem PySem.Spec L2
def l_law_1 : DS := (dSeq (dSet 7 (ofE (dCall 3 f_shortest (dCons (dVar 3) (dCons (dVar 5) (dCons (dVar 6) dNil))))))
  (dSeq (dIfS (dCmp (notG eqD) (dBv (dCmp isD (dPk 7) (dC .non))) (dBv (dCmp (notG inD) (dTup (dCons (dVar 5) (dCons (dVar 6) dNil))) (dPk 4)))) (dRet (toE (dC (.bl false)))) dSkip)
  (dIfS (dCmp (notG isD) (dPk 7) (dC .non)) (dSeq (dSet 8 (ofE (dIf (dTest (dF1 (isiD "tuple") (dPk 7))) (dCall 2 f_law_rows (dCons (dVar 3) (dCons (dVar 7) dNil))) (toE (dC .non)))))
  (dSeq (dIfS (dOr (dCmp isD (dPk 8) (dC .non)) (dCmp (notG eqD) (dF1 lenD (dPk 7)) (dOp ixD (dPk 4) (dTup (dCons (dVar 5) (dCons (dVar 6) dNil)))))) (dRet (toE (dC (.bl false)))) dSkip)
  (dIfS (dCmp (notG eqD) (ofE (dLc (rngS (dF1 lenD (dPk 8))) (tgN 9) (dCmp inD (dTup (dCons (dVar 5) (dCons (dVar 6) dNil))) (dOp ixD (dPk 8) (dPk 9))) (dVar 9) [9])) (ofE (dLst (dCons (dOp subD (dF1 lenD (dPk 8)) (dC (.int 1))) dNil)))) (dRet (toE (dC (.bl false)))) dSkip))) dSkip)))
def l_law_2 : DS := (dFor (seqS (dLst (dCons (dC (.str "meant")) (dCons (dC (.str "other")) (dCons (dC (.str "time")) dNil))))) (tgN 6) l_law_1)
def restD : DS := (dSeq (dSet 4 (ofE (dCall 1 f_law_threats (dCons (dVar 3) dNil))))
  (dFor (seqS (dLst (dCons (dC (.str "astray")) (dCons (dC (.str "lost")) dNil)))) (tgN 5) l_law_2))

section
variable {r : Rule} {p : Pair} {q : Option Pair} {h : Harm} {d : Doer} {hs : List (Option Pair)} {evs : List D}
theorem fit_none {x : Str} (h : x = "wait" ∨ x = "forward" ∨ x = "life") : f_fits [.str x, .non] = some (.bl true, false) := by
  rcases h with rfl | rfl | rfl <;> rfl
theorem fit_small {x : Str} {i : Int} (h : x = "wait" ∨ x = "forward" ∨ x = "life") (hi : i = 0 ∨ i = 1 ∨ i = 2) : f_fits [.str x, .int i] = some (.bl true, false) := by
  rcases h with rfl | rfl | rfl <;> rcases hi with rfl | rfl | rfl <;> rfl
theorem fit_opt {x : Str} {o : Option Int} (h : x = "wait" ∨ x = "forward" ∨ x = "life") (ho : ∀ i, o = some i → 0 ≤ i ∧ i ≤ 2) : f_fits [.str x, optD o] = some (.bl true, false) := by
  cases o with
  | none => exact fit_none h
  | some i =>
    have := ho i rfl
    exact fit_small h (by omega)
theorem fit_bars {b : Bool} : f_fits [.str "bars", .bl b] = some (.bl true, false) := by cases b <;> rfl
theorem fit_hops {b : Bool} : f_fits [.str "hops", hopD b] = some (.bl true, false) := by cases b <;> rfl
theorem fit_marks {i : Int} (hi : i = 1 ∨ i = 2) : f_fits [.str "marks", .int i] = some (.bl true, false) := by rcases hi with rfl | rfl <;> rfl
theorem fit_cp {c : Cp} : f_fits [.str "copies", cpD c] = some (.bl true, false) := by cases c <;> rfl
theorem fit_pg {c : Pg} : f_fits [.str "passing", pgD c] = some (.bl true, false) := by cases c <;> rfl
theorem m_is_rule (T : Tight r) : f_is_rule [ruleD r] = some (.bl true, false) := by
  have h1 := fit_opt (x := "wait") (.inl rfl) T.wait
  have h2 := fit_opt (x := "forward") (.inr (.inl rfl)) T.fwd
  have h3 := fit_opt (x := "life") (.inr (.inr rfl)) T.life
  have h4 := fit_marks (i := r.marks) (by have := r.pos; have := T.marks; omega)
  have hz : zipT (dC (.tup partsD)) (dVar 0) [.val (ruleD r), .un, .un] = some [.tup [.str "wait", optD r.wait], .tup [.str "forward", optD r.fwd], .tup [.str "bars", .bl r.bars], .tup [.str "hops", hopD r.hops], .tup [.str "marks", .int r.marks], .tup [.str "life", optD r.life], .tup [.str "copies", cpD r.cp], .tup [.str "passing", pgD r.pg]] := rfl
  have hl : lenD (.tup partsD) = some (.int 8) := rfl
  have hr : lenD (ruleD r) = some (.int 8) := rfl
  have hi : isiD "tuple" (ruleD r) = some (.bl true) := isi_tup
  have ha : allD (.lst [.bl true, .bl true, .bl true, .bl true, .bl true, .bl true, .bl true, .bl true]) = some (.bl true) := rfl
  unfold f_is_rule b_is_rule
  simp -implicitDefEqProofs [hz, hl, hr, hi, dYes, h1, h2, h3, h4, fit_bars, fit_hops, fit_cp, fit_pg, ha]
theorem m_need_rule (T : Tight r) : f_need_rule [ruleD r] = some (.non, false) := by
  unfold f_need_rule b_need_rule
  simp -implicitDefEqProofs [m_is_rule T]
theorem m_need_threat : f_need_threat [hD h, doD d] = some (.non, false) := by
  cases h <;> cases d <;> rfl
theorem short_none (T : Tight r) {out : Found} (hb : bfsGo r 90000 0 start0 [first] = some out) (C : Core r out) (hk : (knAll r out).lookup (h, d) = none) : f_shortest [ruleD r, hD h, doD d] = some (.non, false) := by
  obtain ⟨h1, _⟩ := m_found_harms T hb C
  have h2 : inD (pairD (h, d)) (knD (knAll r out)) = some false := by rw [knD, inD_dicP, hk]; rfl
  have h3 : D.tup [hD h, doD d] = pairD (h, d) := rfl
  unfold f_shortest b_shortest
  simp -implicitDefEqProofs [m_need_rule T, m_need_threat, h1, h2, h3]
theorem short_some (T : Tight r) {out : Found} (hb : bfsGo r 90000 0 start0 [first] = some out) (C : Core r out) {w : List Mv} (hk : (knAll r out).lookup (h, d) = some w) (hh : f_history_of [ruleD r, .lst (mvsD w)] = some (.tup evs, false)) : f_shortest [ruleD r, hD h, doD d] = some (.tup evs, false) := by
  obtain ⟨h1, _⟩ := m_found_harms T hb C
  have h2 : inD (pairD (h, d)) (knD (knAll r out)) = some true := by rw [knD, inD_dicP, hk]; rfl
  have h3 : D.tup [hD h, doD d] = pairD (h, d) := rfl
  have h4 : ixD (knD (knAll r out)) (pairD (h, d)) = some (.lst (mvsD w)) := by rw [knD, ixD_dicP, hk]; rfl
  unfold f_shortest b_shortest
  simp -implicitDefEqProofs [m_need_rule T, m_need_threat, h1, h2, h3, h4, hh]
/-! the law's own look -/
theorem eqD_bb {a b : Bool} : eqD (.bl a) (.bl b) = some (decide (a = b)) := by cases a <;> cases b <;> rfl
theorem in_row : inD (pairD p) (rowH q) = some (decide (q = some p)) := by
  obtain ⟨a, b⟩ := p
  rcases q with _ | ⟨c, d⟩
  · cases a <;> cases b <;> decide +kernel
  · cases a <;> cases b <;> cases c <;> cases d <;> decide +kernel
theorem eq_one {i : Int} : eqD (.lst [.int i]) (.lst [.int i]) = some true := by
  unfold eqD
  simp [scV, D.sq, sqL, D.py, pyL, SeqAt.shaped, PyData.canLay0, PyData.canLayAll0, PyData.depth, PyData.depthAll, PyData.eqv, PyData.eqvAll]
theorem only_last {m : Nat} {f : Nat → Bool} (h1 : f m = true) (h2 : ∀ i, i < m → f i = false) : (List.range (m + 1)).filter f = [m] := by
  rw [List.range_succ, List.filter_append, List.filter_eq_nil_iff.mpr fun i hi => by rw [h2 i (List.mem_range.mp hi)]; decide]
  simp [h1]
theorem look_last (hq : ∀ x ∈ hs, x ≠ some p) {a0 a1 a2 a3 a4 a7 a9 : Slot} (hl : hs.length ≤ 40000) :
    (dLc (rngS (dF1 lenD (dPk 8))) (tgN 9) (dCmp inD (dTup (dCons (dVar 5) (dCons (dVar 6) dNil))) (dOp ixD (dPk 8) (dPk 9))) (dVar 9) [9]) [a0, a1, a2, a3, a4, .val (hD p.1), .val (doD p.2), a7, .val (.lst ((hs ++ [some p]).map rowH)), a9] = some (.lst [.int (hs.length : Nat)], true) := by
  have key := loopC_map (enc := fun i : Nat => D.int (i : Nat)) (out := fun i : Nat => D.int (i : Nat)) (pr := fun i => decide ((hs ++ [some p])[i]? = some (some p))) (tg := tgN 9) (c := (dCmp inD (dTup (dCons (dVar 5) (dCons (dVar 6) dNil))) (dOp ixD (dPk 8) (dPk 9)))) (el := dVar 9) (vs := [9])
    (ρ := [a0, a1, a2, a3, a4, .val (hD p.1), .val (doD p.2), a7, .val (.lst ((hs ++ [some p]).map rowH)), a9]) (xs := List.range (hs.length + 1)) (acc := [])
    (fun i hi => by
      have hi' : i < (hs ++ [some p]).length := by rw [List.length_append]; exact List.mem_range.mp hi
      refine ⟨_, rfl, ?_, fun _ => rfl⟩
      have h3 : D.tup [hD p.1, doD p.2] = pairD p := rfl
      have h4 : atI ((hs ++ [some p]).map rowH) ((i : Nat) : Int) = some (rowH (hs ++ [some p])[i]) := by
        rw [atI_nat, List.getElem?_map, List.getElem?_eq_getElem hi']
        rfl
      have h5 : ((hs ++ [some p])[i]? = some (some p)) ↔ ((hs ++ [some p])[i] = some p) := by rw [List.getElem?_eq_getElem hi']; simp
      simp -implicitDefEqProofs only [wipeR_cons, wipeR_nil, List.set_cons_succ, List.set_cons_zero, dCmp_ev, dTup_ev, dCons_ev, dVar_ev, dNil_ev, List.getElem?_cons_succ, List.getElem?_cons_zero, Option.bind_some, valS_val, gTup2, h3, dOp_ev, dPk_ev, pkS_val, ixD_l, h4, in_row]
      congr 1
      exact decide_eq_decide.mpr h5.symm) (by simp; omega)
  have hf : (List.range (hs.length + 1)).filter (fun i => decide ((hs ++ [some p])[i]? = some (some p))) = [hs.length] := by
    refine only_last (by simp) fun i hi => ?_
    rw [List.getElem?_append_left hi, List.getElem?_eq_getElem hi]
    have := hq hs[i] (List.getElem_mem hi)
    simpa using this
  rw [hf] at key
  have hr : rngS (dF1 lenD (dPk 8)) [a0, a1, a2, a3, a4, .val (hD p.1), .val (doD p.2), a7, .val (.lst ((hs ++ [some p]).map rowH)), a9] = some ((List.range (hs.length + 1)).map fun i => D.int (i : Nat)) := by
    rw [rngS_ev (i := ((hs.length + 1 : Nat) : Int)) (by simp)]
    rw [if_pos (by omega)]
    rfl
  rw [dLc_ev, hr, Option.bind_some, key]
  rfl
theorem law_one (T : Tight r) {out : Found} (hb : bfsGo r 90000 0 start0 [first] = some out) (D' : Done r out) {a0 a1 a2 a7 a8 a9 : Slot} : ∃ c7 c8 c9, l_law_1 [a0, a1, a2, .val (ruleD r), .val (dueD (dueAll r out)), .val (hD p.1), .val (doD p.2), a7, a8, a9] =
    some (.nx [a0, a1, a2, .val (ruleD r), .val (dueD (dueAll r out)), .val (hD p.1), .val (doD p.2), c7, c8, c9]) := by
  have h3 : D.tup [hD p.1, doD p.2] = pairD p := rfl
  rcases side_all T D'.core p with ⟨h1, h2⟩ | ⟨w, n, h1, h2, hR⟩
  · have hs := short_none T hb D'.core (h := p.1) (d := p.2) h1
    have hin : inD (pairD p) (dueD (dueAll r out)) = some false := by rw [dueD, inD_dicP, h2]; rfl
    refine ⟨.val .non, a8, a9, ?_⟩
    unfold l_law_1
    simp -implicitDefEqProofs [hs, h3, hin, eqD_bb]
  · obtain ⟨hn, evs, hs, e1, e2, e3, e4, e5⟩ := told_all T D' hR
    have hst := short_some T hb D'.core (h := p.1) (d := p.2) h1 e1
    have hin : inD (pairD p) (dueD (dueAll r out)) = some true := by rw [dueD, inD_dicP, h2]; rfl
    have hix : ixD (dueD (dueAll r out)) (pairD p) = some (natD n) := by rw [dueD, ixD_dicP, h2]; rfl
    have hl := look_last (p := p) e5 (a0 := a0) (a1 := a1) (a2 := a2) (a3 := .val (ruleD r)) (a4 := .val (dueD (dueAll r out))) (a7 := .val (.tup evs)) (a9 := a9) (by omega)
    have hlen : lenD (.tup evs) = some (natD n) := by rw [lenD_t, e2]; rfl
    have hnn : eqD (natD n) (natD n) = some true := by
      show eqD (.int _) (.int _) = _
      rw [eqD_ii]
      simp
    have hi : isiD "tuple" (.tup evs) = some (.bl true) := isi_tup
    have hlr : lenD (.lst ((hs ++ [some p]).map rowH)) = some (.int ((hs.length : Int) + 1)) := by
      rw [lenD_l]
      simp
    have hsub : (hs.length : Int) + 1 - 1 = hs.length := by omega
    refine ⟨.val (.tup evs), .val (.lst ((hs ++ [some p]).map rowH)), a9, ?_⟩
    unfold l_law_1
    generalize (dLc (rngS (dF1 lenD (dPk 8))) (tgN 9) (dCmp inD (dTup (dCons (dVar 5) (dCons (dVar 6) dNil))) (dOp ixD (dPk 8) (dPk 9))) (dVar 9) [9]) = LC at hl ⊢
    simp -implicitDefEqProofs only [dSeq_ev, dSet_ev, ofE_ev, dCall_ev, dCons_ev, dVar_ev, dNil_ev, List.getElem?_cons_zero, List.getElem?_cons_succ, Option.bind_some, valS_val, List.length_cons, List.length_nil, Nat.reduceAdd, if_true, hst, Option.map_some, List.set_cons_succ, List.set_cons_zero, andThen_nx, dIfS_ev, dCmp_ev, notG_ev, dBv_ev, dPk_ev, pkS_val, dC_ev, isD_non, isN_t, dTup_ev, gTup2, h3, hin, Bool.not_true, eqD_bb, decide_true, Bool.false_eq_true, if_false, dSkip_ev, Bool.not_false, dIf_ev, dTest_ev, dF1_ev, hi, testD_bl, e3, dOr_ev, isN_l, hlen, dOp_ev, hix, hnn, hl, hlr, subD_ii, hsub, dLst_ev, gLst1, eq_one]
end
end NW

/-! What the law does with a rule, whole. -/
namespace NW
open PySem PySem.Spec L2
section
variable {r : Rule} {h : Harm}
theorem law_two (T : Tight r) {out : Found} (hb : bfsGo r 90000 0 start0 [first] = some out) (D' : Done r out) {a0 a1 a2 a6 a7 a8 a9 : Slot} : ∃ c6 c7 c8 c9, l_law_2 [a0, a1, a2, .val (ruleD r), .val (dueD (dueAll r out)), .val (hD h), a6, a7, a8, a9] =
    some (.nx [a0, a1, a2, .val (ruleD r), .val (dueD (dueAll r out)), .val (hD h), c6, c7, c8, c9]) := by
  obtain ⟨b7, b8, b9, e1⟩ := law_one (p := (h, .meant)) T hb D' (a0 := a0) (a1 := a1) (a2 := a2) (a7 := a7) (a8 := a8) (a9 := a9)
  obtain ⟨d7, d8, d9, e2⟩ := law_one (p := (h, .other)) T hb D' (a0 := a0) (a1 := a1) (a2 := a2) (a7 := b7) (a8 := b8) (a9 := b9)
  obtain ⟨f7, f8, f9, e3⟩ := law_one (p := (h, .time)) T hb D' (a0 := a0) (a1 := a1) (a2 := a2) (a7 := d7) (a8 := d8) (a9 := d9)
  refine ⟨.val (doD .time), f7, f8, f9, ?_⟩
  have hs : seqS (dLst (dCons (dC (.str "meant")) (dCons (dC (.str "other")) (dCons (dC (.str "time")) dNil)))) [a0, a1, a2, .val (ruleD r), .val (dueD (dueAll r out)), .val (hD h), a6, a7, a8, a9] = some [doD .meant, doD .other, doD .time] := rfl
  have t : Turns (tgN 6) l_law_1 [doD .meant, doD .other, doD .time] [a0, a1, a2, .val (ruleD r), .val (dueD (dueAll r out)), .val (hD h), a6, a7, a8, a9] [a0, a1, a2, .val (ruleD r), .val (dueD (dueAll r out)), .val (hD h), .val (doD .time), f7, f8, f9] :=
    .cons (by simp only [tgN_ev]; rfl) e1 (.cons (by simp only [tgN_ev]; rfl) e2 (.cons (by simp only [tgN_ev]; rfl) e3 .nil))
  unfold l_law_2
  rw [dFor_ev, hs, Option.bind_some]
  exact t.loop
theorem m_rest (T : Tight r) {a0 a1 a2 a4 a5 a6 a7 a8 a9 : Slot} : ∃ c4 c5 c6 c7 c8 c9, restD [a0, a1, a2, .val (ruleD r), a4, a5, a6, a7, a8, a9] = some (.nx [a0, a1, a2, .val (ruleD r), c4, c5, c6, c7, c8, c9]) := by
  obtain ⟨out, hb, D', _, hw⟩ := search T
  obtain ⟨ht, _⟩ := m_law_threats T (hw (work r) [])
  obtain ⟨b6, b7, b8, b9, e1⟩ := law_two (h := .astray) T hb D' (a0 := a0) (a1 := a1) (a2 := a2) (a6 := a6) (a7 := a7) (a8 := a8) (a9 := a9)
  obtain ⟨d6, d7, d8, d9, e2⟩ := law_two (h := .lost) T hb D' (a0 := a0) (a1 := a1) (a2 := a2) (a6 := b6) (a7 := b7) (a8 := b8) (a9 := b9)
  refine ⟨.val (dueD (dueAll r out)), .val (hD .lost), d6, d7, d8, d9, ?_⟩
  have hs : ∀ a5, seqS (dLst (dCons (dC (.str "astray")) (dCons (dC (.str "lost")) dNil))) [a0, a1, a2, .val (ruleD r), .val (dueD (dueAll r out)), a5, a6, a7, a8, a9] = some [hD .astray, hD .lost] := fun _ => rfl
  have t : Turns (tgN 5) l_law_2 [hD .astray, hD .lost] [a0, a1, a2, .val (ruleD r), .val (dueD (dueAll r out)), a5, a6, a7, a8, a9] [a0, a1, a2, .val (ruleD r), .val (dueD (dueAll r out)), .val (hD .lost), d6, d7, d8, d9] :=
    .cons (by simp only [tgN_ev]; rfl) e1 (.cons (by simp only [tgN_ev]; rfl) e2 .nil)
  unfold restD
  simp -implicitDefEqProofs only [dSeq_ev, dSet_ev, ofE_ev, dCall_ev, dCons_ev, dVar_ev, dNil_ev, List.getElem?_cons_zero, List.getElem?_cons_succ, Option.bind_some, valS_val, List.length_cons, List.length_nil, Nat.reduceAdd, if_true, ht, Option.map_some, List.set_cons_succ, List.set_cons_zero, andThen_nx, dFor_ev, hs]
  exact t.loop
end
end NW

/-! The law itself. -/
namespace NW
open PySem PySem.Spec PyProof.Rows L2 Evl
def spLaw (K : PySem.W.Frag) : Sp := fun vs H Q _ => ∃ (l : Addr) (ns : List Int), vs = [.ref l] ∧ SqL K H l (ns.map V.int) ∧ ∀ H', Q (.bl true) H'
section
variable {P : Program} {w : World} {K : PySem.W.Frag} {mg : Str → Option Value} {base : Heap} {f : Addr} {fd : FuncData}
theorem sq_ex {H H' : Hp} {l : Addr} {xs : List V} (e : Ex H H') (h : SqL K H l xs) : SqL K H' l xs := by
  rcases h with (h | ⟨o, h⟩) | h
  · exact .inl (.inl (e _ _ h))
  · exact .inl (.inr ⟨o, e _ _ h⟩)
  · exact .inr h
theorem rep_opt {T : Wd} {F : Hp} {o : Option Int} : Rep T F (optV o) (optD o) := by
  cases o with
  | none => exact .non
  | some i => exact .int i
theorem rep_cp {T : Wd} {F : Hp} {c : Cp} : Rep T F (cpV c) (cpD c) := by cases c <;> exact .str _
theorem rep_pg {T : Wd} {F : Hp} {c : Pg} : Rep T F (pgV c) (pgD c) := by cases c <;> exact .str _
theorem rep_rule {T : Wd} {F : Hp} {q : Addr} {r : Rule} (h : F q = some (.tup (ruleV r))) : Rep T F (.ref q) (ruleD r) :=
  .tup (.inl (.of h)) (.cons rep_opt (.cons rep_opt (.cons (.bl _) (.cons (.int _) (.cons (.int _) (.cons rep_opt (.cons rep_cp (.cons rep_pg .nil))))))))
/-- the frame ahead of the look at a rule -/
theorem rest_fi {T : Wd} {H : Hp} {σ : L2.St} {l q : Addr} {r : Rule} (hq : H q = some (.tup (ruleV r))) (hl : σ.length = 10) (h0 : σ[0]? = some (some (.ref l))) (h3 : σ[3]? = some (some (.ref q))) :
    FI T (upd (fun _ => none) q (.tup (ruleV r))) H [.val (.opq l), .un, .un, .val (ruleD r), .un, .un, .un, .un, .un, .un] σ (upd (fun _ => none) q (.tup (ruleV r))) H := by
  have sub : Ex (upd (fun _ => none) q (.tup (ruleV r))) H := fun a o h => by
    by_cases e : a = q
    · subst e
      rw [upd_same] at h
      rw [hq]
      exact h
    · rw [upd_ne e] at h
      cases h
  have key : ∀ (i : Nat) (s : Slot), ([.val (.opq l), .un, .un, .val (ruleD r), .un, .un, .un, .un, .un, .un] : Ro)[i]? = some s → s = .un ∨ (i = 0 ∧ s = .val (.opq l)) ∨ (i = 3 ∧ s = .val (ruleD r)) := by
    intro i s h
    match i, h with
    | 0, h => cases h; exact .inr (.inl ⟨rfl, rfl⟩)
    | 1, h => cases h; exact .inl rfl
    | 2, h => cases h; exact .inl rfl
    | 3, h => cases h; exact .inr (.inr ⟨rfl, rfl⟩)
    | 4, h => cases h; exact .inl rfl
    | 5, h => cases h; exact .inl rfl
    | 6, h => cases h; exact .inl rfl
    | 7, h => cases h; exact .inl rfl
    | 8, h => cases h; exact .inl rfl
    | 9, h => cases h; exact .inl rfl
    | _ + 10, h => simp at h
  refine ⟨.refl sub, hl, fun i d h => ?_, fun i d h => ?_, fun i j d e p h => ?_⟩
  · rcases key i _ h with e | ⟨rfl, e⟩ | ⟨rfl, e⟩
    · cases e
    · cases e
      exact ⟨_, h0, .opq l⟩
    · cases e
      exact ⟨_, h3, rep_rule upd_same⟩
  · rcases key i _ h with e | ⟨rfl, e⟩ | ⟨rfl, e⟩ <;> cases e
  · rcases key i _ h with e | ⟨rfl, e⟩ | ⟨rfl, e⟩ <;> cases e
theorem fn_raw {x : Str} {st : Stmt} {N ps : List Str} {k : Nat} {sp : Sp} (F : FunD K x x (defArgs st) (defBody st) (defScope st) [] [] f fd) (S : FnScope N ps (defScope st))
    (len : ∀ vs H Q E, sp vs H Q E → vs.length = ps.length)
    (hbody : ∀ (cdv : Value) (A : Around) (outer : List Env) (s : Shared) (H : Hp) (vs : List V) (Q : VK) (E : XK), Room k (A.deeper (envOfC x (defScope st) s.heap.objs.size f cdv)) → sp vs H Q E →
      ∃ t, PSs (cxOf L2.CX0 P w K mg base N x (defScope st) f cdv A outer s H E).nox (defBody st) t ∧ t { nx := fun _ H' => Q .non H', rt := Q } (start N vs) H) : FnOk P w K mg base L2.CX0 (k + 1) f fd ps sp :=
  F.ok S len (fun cdv A outer s H vs Q E hr h => let ⟨t, h1, h2⟩ := hbody cdv A outer s H vs Q E hr h; ⟨t, PSs.nox h1, h2⟩)
theorem ok_law (G : GF P w K mg) (c_law_bag : CalR P w K mg base 1 "_law_bag" (spBag K)) (c_law_rule : CalR P w K mg base 3 "_law_rule" spRule) (c_law_threats : CalD P w K mg base 4 "_law_threats" 1 f_law_threats) (c_shortest : CalD P w K mg base 8 "shortest" 3 f_shortest) (c_law_rows : CalD P w K mg base 6 "_law_rows" 2 f_law_rows)
    (F : FunD K "law" "law" (defArgs (top 114)) (defBody (top 114)) (defScope (top 114)) [] [] f fd) : FnOk P w K mg base L2.CX0 9 f fd ["_law_script"] (spLaw K) := by
  have nd : (["_law_script", "_law_k", "_law_bag_here", "_law_rule_here", "_law_due", "_law_harm", "_law_doer", "_law_told", "_law_rows_here", "_law_at"] : List Str).Nodup := by decide +kernel
  refine fn_raw (N := ["_law_script", "_law_k", "_law_bag_here", "_law_rule_here", "_law_due", "_law_harm", "_law_doer", "_law_told", "_law_rows_here", "_law_at"]) (ps := ["_law_script"]) (k := 8) F ⟨rfl, rfl, rfl, nd, rfl, by decide +kernel, by decide +kernel⟩ (fun vs H Q E h => ?_) (fun cdv A outer s H vs Q E hr h => ?_)
  · obtain ⟨l, ns, rfl, _⟩ := h
    rfl
  · have hu := rm_of (X := (cxOf L2.CX0 P w K mg base ["_law_script", "_law_k", "_law_bag_here", "_law_rule_here", "_law_due", "_law_harm", "_law_doer", "_law_told", "_law_rows_here", "_law_at"] "law" (defScope (top 114)) f cdv A outer s H E).nox) hr
    refine ⟨_, (pss_cons (ps_for PassesOwn.never rfl (pi_range1 rfl G.range (pa_cons (bl_two (call_max2 rfl) rfl G.max rfl pe_int (bl_two (call_min2 rfl) rfl G.min rfl pe_int (pe_op op_add (bl_one call_len_seq rfl G.len boot_len (pe_var (i := 0) rfl (.inl rfl)) rfl (by decide) (by decide)) pe_int) rfl rfl rfl (by decide) (by decide)) rfl rfl rfl (by decide) (by decide)) pa_nil)) (pg_name (i := 1) nd rfl (.inl rfl)) (pss_cons (ps_set (i := 2) nd rfl (.inl rfl) (pe_callR c_law_bag hr (by decide) rfl (pa_cons (pe_var (i := 0) rfl (.inl rfl)) (pa_cons (pe_var (i := 1) rfl (.inl rfl)) pa_nil)))) (pss_cons (ps_set (i := 3) nd rfl (.inl rfl) (pe_callR c_law_rule hr (by decide) rfl (pa_cons (pe_var (i := 2) rfl (.inl rfl)) (pa_cons pe_bl pa_nil)))) (sss_cons (ss_set (i := 4) nd rfl (.inl rfl) (sv_ofE (se_call c_law_threats hr (by decide) rfl (sa_cons (sv_var (i := 3) rfl (.inl rfl)) sa_nil))))
  (sss_one (ss_for (is := [5]) PassesOwn.never rfl (sf_list (se_lst (sa_cons sv_str (sa_cons sv_str sa_nil)))) (sg_name nd rfl (.inr rfl)) (sss_one (ss_for (is := [6]) PassesOwn.never rfl (sf_list (se_lst (sa_cons sv_str (sa_cons sv_str (sa_cons sv_str sa_nil))))) (sg_name nd rfl (.inr rfl)) (sss_cons (ss_set (i := 7) nd rfl (.inl rfl) (sv_ofE (se_call c_shortest hr (by decide) rfl (sa_cons (sv_var (i := 3) rfl (.inl rfl)) (sa_cons (sv_var (i := 5) rfl (.inr (.inl rfl))) (sa_cons (sv_var (i := 6) rfl (.inr (.inl rfl))) sa_nil))))))
  (sss_cons (ss_if (st_cmp (cd_ne hu) (so_of (sv_cmp cd_is (so_var (i := 7) rfl (.inl rfl)) (so_of sv_non))) (so_of (sv_cmp (cd_notIn hu) (so_of (sv_tup (sa_cons (sv_var (i := 5) rfl (.inr (.inl rfl))) (sa_cons (sv_var (i := 6) rfl (.inr (.inl rfl))) sa_nil)))) (so_var (i := 4) rfl (.inl rfl))))) (sss_one (ss_ret (se_of sv_bl))) sss_nil)
  (sss_one (ss_if (st_cmp cd_isnot (so_var (i := 7) rfl (.inl rfl)) (so_of sv_non)) (sss_cons (ss_set (i := 8) nd rfl (.inr rfl) (sv_ofE (se_if (st_val (sv_isi (t := "tuple") G.k_tuple rfl G.isinstance rfl G.tuple rfl (so_var (i := 7) rfl (.inl rfl)))) (se_call c_law_rows hr (by decide) rfl (sa_cons (sv_var (i := 3) rfl (.inl rfl)) (sa_cons (sv_var (i := 7) rfl (.inl rfl)) sa_nil))) (se_of sv_non))))
  (sss_cons (ss_if (PW.pt (sw_or (st_cmp cd_is (so_var (i := 8) rfl (.inr (.inl rfl))) (so_of sv_non)) (sw_or1 (st_cmp (cd_ne hu) (so_of (sv_len rfl G.len (so_var (i := 7) rfl (.inl rfl)))) (so_of (sv_ix hu (so_var (i := 4) rfl (.inl rfl)) (so_of (sv_tup (sa_cons (sv_var (i := 5) rfl (.inr (.inl rfl))) (sa_cons (sv_var (i := 6) rfl (.inr (.inl rfl))) sa_nil)))))))))) (sss_one (ss_ret (se_of sv_bl))) sss_nil)
  (sss_one (ss_if (st_cmp (cd_ne hu) (so_ofE (se_lc (own := [("_law_at", 9)]) (is := [9]) rfl nd (sf_range rfl G.range (sv_len rfl G.len (so_var (i := 8) rfl (.inr (.inl rfl))))) (blkOk_by (by rfl)) (by decide) (fun _ _ _ _ _ => (sg_name nd rfl (.inl rfl))) (fun _ _ _ _ _ => (sts_one (st_cmp (cd_in hu) (so_of (sv_tup (sa_cons (sv_var (i := 5) rfl (.inr (.inl rfl))) (sa_cons (sv_var (i := 6) rfl (.inr (.inl rfl))) sa_nil)))) (so_of (sv_ix hu (so_var (i := 8) rfl (.inr (.inl rfl))) (so_var (i := 9) rfl (.inl rfl))))))) (fun _ _ _ _ _ => (sv_var (i := 9) rfl (.inl rfl))))) (so_ofE (se_lst (sa_cons (sv_bin od_sub (so_of (sv_len rfl G.len (so_var (i := 8) rfl (.inr (.inl rfl))))) (so_of sv_int)) sa_nil)))) (sss_one (ss_ret (se_of sv_bl))) sss_nil)))) sss_nil)))))))))))) (pss_one (ps_ret pe_bl))), ?_⟩
    obtain ⟨l, ns, rfl, hs, hQ⟩ := h
    have s0 : (start ["_law_script", "_law_k", "_law_bag_here", "_law_rule_here", "_law_due", "_law_harm", "_law_doer", "_law_told", "_law_rows_here", "_law_at"] [V.ref l])[0]? = some (some (V.ref l)) := rfl
    refine ⟨_, s0, l, _, rfl, .inl hs, _, _, rfl, rfl, _, _, rfl, _, _, rfl, _, rfl, ?_, ?_, for_range (fun i σ H => σ.length = 10 ∧ σ[0]? = some (some (.ref l)) ∧ SqL K H l (ns.map V.int)) ⟨rfl, s0, hs⟩ (fun i σ H hi ⟨hl, h0, hs⟩ => ?_) fun σ H _ => hQ H⟩
    · split <;> split <;> omega
    · split <;> split <;> omega
    · have hi' : i ≤ 100 := by
        have : i < 5 := by
          refine Nat.lt_of_lt_of_le hi ?_
          split <;> split <;> omega
        omega
      have e0 : (0 : Int) + (i : Nat) = (i : Nat) := by omega
      have k0 : (σ.set 1 (some (V.int (0 + (i : Nat)))))[0]? = some (some (.ref l)) := by rw [NW.set_ne (by decide)]; exact h0
      have k1 : (σ.set 1 (some (V.int (0 + (i : Nat)))))[1]? = some (some (.int (i : Nat))) := by rw [NW.set_at (by omega), e0]
      refine ⟨_, k0, _, k1, l, ns, i, rfl, hs, hi', fun p c a hp a0 a1 => ?_⟩
      have j0 : ((σ.set 1 (some (V.int (0 + (i : Nat))))).set 2 (some (.ref p)))[0]? = some (some (.ref l)) := by rw [NW.set_ne (by decide)]; exact k0
      have j2 : ((σ.set 1 (some (V.int (0 + (i : Nat))))).set 2 (some (.ref p)))[2]? = some (some (.ref p)) := NW.set_at (by simp; omega)
      refine ⟨_, j2, p, c, a, rfl, upd_same, a0, a1, fun r q H' T hq fr hq' => ?_⟩
      have ex : Ex H H' := fun x o h => by
        have hx : x ≠ p := by rintro rfl; rw [hp] at h; cases h
        exact fr x o hx (by rw [upd_ne hx]; exact h)
      have g0 : (((σ.set 1 (some (V.int (0 + (i : Nat))))).set 2 (some (.ref p))).set 3 (some (.ref q)))[0]? = some (some (.ref l)) := by rw [NW.set_ne (by decide)]; exact j0
      have g3 : (((σ.set 1 (some (V.int (0 + (i : Nat))))).set 2 (some (.ref p))).set 3 (some (.ref q)))[3]? = some (some (.ref q)) := NW.set_at (by simp; omega)
      obtain ⟨c4, c5, c6, c7, c8, c9, hrest⟩ := m_rest T (a0 := .val (.opq l)) (a1 := .un) (a2 := .un) (a4 := .un) (a5 := .un) (a6 := .un) (a7 := .un) (a8 := .un) (a9 := .un)
      refine ⟨_, _, _, _, _, rest_fi hq' (by simp; exact hl) g0 g3, hrest, fun σ' F' H2 I' e => ⟨I'.len, ?_, sq_ex I'.st.ex (sq_ex ex hs)⟩⟩
      obtain ⟨v, y1, y2⟩ := I'.val 0 (.opq l) rfl
      cases y2
      exact y1
end
end NW

namespace NW
open PySem PySem.Spec PyProof.Rows L2 Evl

theorem ok_is_integer {P : Program} {w : World} {K : PySem.W.Frag} {mg : Str → Option Value} {base : Heap} (G : GF P w K mg)  {f : Addr} {fd : FuncData}
    (F : FunD K "is_integer" "is_integer" (defArgs (top 27)) (defBody (top 27)) (defScope (top 27)) [] [] f fd) (hmg : mg "is_integer" = some (.ref f)) : CalD P w K mg base 1 "is_integer" 3 f_is_integer := by
  have nd : (["value", "low", "high"] : List Str).Nodup := by decide +kernel
  refine cal_body (N := ["value", "low", "high"]) (ps := ["value", "low", "high"]) (k := 0) F hmg (F.bindsN fun _ _ _ _ _ _ us hl => match us, hl with | [_, _, _], _ => rfl) ⟨rfl, rfl, rfl, nd, rfl, by decide +kernel, by decide +kernel⟩ rfl rfl (by decide) fun cdv A outer s H E hr => ?_
  have hu := rm_of (X := (cxOf L2.CX0 P w K mg base ["value", "low", "high"] "is_integer" (defScope (top 27)) f cdv A outer s H E).nox) hr
  exact (sss_one (ss_ret (se_of (sv_and (sv_isi (t := "int") G.k_int rfl G.isinstance rfl G.int rfl (so_var (i := 0) rfl (.inl rfl))) (sv_and (sv_not (sv_isi (t := "bool") G.k_bool rfl G.isinstance rfl G.bool rfl (so_var (i := 0) rfl (.inl rfl)))) (sv_one (sv_chain cd_le cd_le (so_var (i := 1) rfl (.inl rfl)) (so_var (i := 0) rfl (.inl rfl)) (so_var (i := 2) rfl (.inl rfl)))))))))

theorem ok_fits {P : Program} {w : World} {K : PySem.W.Frag} {mg : Str → Option Value} {base : Heap} (G : GF P w K mg) (c_is_integer : CalD P w K mg base 1 "is_integer" 3 f_is_integer) {f : Addr} {fd : FuncData}
    (F : FunD K "fits" "fits" (defArgs (top 28)) (defBody (top 28)) (defScope (top 28)) [] [] f fd) (hmg : mg "fits" = some (.ref f)) : CalD P w K mg base 2 "fits" 2 f_fits := by
  obtain ⟨ac, hch, rch⟩ := G.choices
  have nd : (["part", "value"] : List Str).Nodup := by decide +kernel
  refine cal_body (N := ["part", "value"]) (ps := ["part", "value"]) (k := 1) F hmg (F.bindsN fun _ _ _ _ _ _ us hl => match us, hl with | [_, _], _ => rfl) ⟨rfl, rfl, rfl, nd, rfl, by decide +kernel, by decide +kernel⟩ rfl rfl (by decide) fun cdv A outer s H E hr => ?_
  have hu := rm_of (X := (cxOf L2.CX0 P w K mg base ["part", "value"] "fits" (defScope (top 28)) f cdv A outer s H E).nox) hr
  exact (sss_cons (ss_if (st_cmp (cd_eq hu) (so_var (i := 0) rfl (.inl rfl)) (so_of sv_str)) (sss_one (ss_ret (se_of (sv_isi (t := "bool") G.k_bool rfl G.isinstance rfl G.bool rfl (so_var (i := 1) rfl (.inl rfl)))))) sss_nil)
  (sss_cons (ss_if (st_cmp cd_is (so_var (i := 1) rfl (.inl rfl)) (so_of sv_non)) (sss_one (ss_ret (se_of (sv_cmp (cd_in hu) (so_of sv_non) (so_of (sv_kix rfl hch rch (sv_var (i := 0) rfl (.inl rfl)))))))) sss_nil)
  (sss_cons (ss_if (st_val (sv_isi (t := "str") G.k_str rfl G.isinstance rfl G.str rfl (so_var (i := 1) rfl (.inl rfl)))) (sss_one (ss_ret (se_of (sv_cmp (cd_in hu) (so_var (i := 1) rfl (.inl rfl)) (so_of (sv_kix rfl hch rch (sv_var (i := 0) rfl (.inl rfl)))))))) sss_nil)
  (sss_one (ss_ret (se_of (sv_and (sv_ofE (se_call c_is_integer hr (by decide) rfl (sa_cons (sv_var (i := 1) rfl (.inl rfl)) (sa_cons sv_int (sa_cons sv_int sa_nil))))) (sv_one (sv_cmp (cd_in hu) (so_var (i := 1) rfl (.inl rfl)) (so_of (sv_kix rfl hch rch (sv_var (i := 0) rfl (.inl rfl)))))))))))))

theorem ok_is_rule {P : Program} {w : World} {K : PySem.W.Frag} {mg : Str → Option Value} {base : Heap} (G : GF P w K mg) (c_fits : CalD P w K mg base 2 "fits" 2 f_fits) {f : Addr} {fd : FuncData}
    (F : FunD K "is_rule" "is_rule" (defArgs (top 29)) (defBody (top 29)) (defScope (top 29)) [] [] f fd) (hmg : mg "is_rule" = some (.ref f)) : CalD P w K mg base 3 "is_rule" 1 f_is_rule := by
  obtain ⟨ap, hparts, rparts⟩ := G.parts
  have nd : (["value", "part", "one"] : List Str).Nodup := by decide +kernel
  refine cal_body (N := ["value", "part", "one"]) (ps := ["value"]) (k := 2) F hmg (F.bindsN fun _ _ _ _ _ _ us hl => match us, hl with | [_], _ => rfl) ⟨rfl, rfl, rfl, nd, rfl, by decide +kernel, by decide +kernel⟩ rfl rfl (by decide) fun cdv A outer s H E hr => ?_
  have hu := rm_of (X := (cxOf L2.CX0 P w K mg base ["value", "part", "one"] "is_rule" (defScope (top 29)) f cdv A outer s H E).nox) hr
  exact (sss_cons (ss_if (PW.pt (sw_or (st_not (st_val (sv_isi (t := "tuple") G.k_tuple rfl G.isinstance rfl G.tuple rfl (so_var (i := 0) rfl (.inl rfl))))) (sw_or1 (st_cmp (cd_ne hu) (so_of (sv_len rfl G.len (so_var (i := 0) rfl (.inl rfl)))) (so_of (sv_len rfl G.len (so_of (sv_gtup rfl hparts rparts)))))))) (sss_one (ss_ret (se_of sv_bl))) sss_nil)
  (sss_one (ss_ret (se_of (sv_all rfl rfl G.all (so_ofE (se_lc (own := [("part", 1), ("one", 2)]) (is := [1, 2]) rfl nd (sf_zip rfl G.zip (sv_gtup rfl hparts rparts) (sv_var (i := 0) rfl (.inl rfl))) (blkOk_by (by rfl)) (by decide) (fun _ _ _ _ _ => (sg_tup rfl (sgs_cons nd rfl (.inl rfl) (sgs_cons nd rfl (.inl rfl) sgs_nil)))) (fun _ _ _ _ _ => sts_nil) (fun _ _ _ _ _ => (sv_ofE (se_call c_fits hr (by decide) rfl (sa_cons (sv_var (i := 1) rfl (.inl rfl)) (sa_cons (sv_var (i := 2) rfl (.inl rfl)) sa_nil))))))))))))

theorem ok_need_rule {P : Program} {w : World} {K : PySem.W.Frag} {mg : Str → Option Value} {base : Heap} (G : GF P w K mg) (c_is_rule : CalD P w K mg base 3 "is_rule" 1 f_is_rule) {f : Addr} {fd : FuncData}
    (F : FunD K "need_rule" "need_rule" (defArgs (top 30)) (defBody (top 30)) (defScope (top 30)) [] [] f fd) (hmg : mg "need_rule" = some (.ref f)) : CalD P w K mg base 4 "need_rule" 1 f_need_rule := by
  have nd : (["value"] : List Str).Nodup := by decide +kernel
  refine cal_body (N := ["value"]) (ps := ["value"]) (k := 3) F hmg (F.bindsN fun _ _ _ _ _ _ us hl => match us, hl with | [_], _ => rfl) ⟨rfl, rfl, rfl, nd, rfl, by decide +kernel, by decide +kernel⟩ rfl rfl (by decide) fun cdv A outer s H E hr => ?_
  have hu := rm_of (X := (cxOf L2.CX0 P w K mg base ["value"] "need_rule" (defScope (top 30)) f cdv A outer s H E).nox) hr
  exact (sss_one (ss_if (st_not (st_val (sv_ofE (se_call c_is_rule hr (by decide) rfl (sa_cons (sv_var (i := 0) rfl (.inl rfl)) sa_nil))))) (sss_one ss_never) sss_nil))

theorem ok_need_threat {P : Program} {w : World} {K : PySem.W.Frag} {mg : Str → Option Value} {base : Heap} (G : GF P w K mg)  {f : Addr} {fd : FuncData}
    (F : FunD K "need_threat" "need_threat" (defArgs (top 31)) (defBody (top 31)) (defScope (top 31)) [] [] f fd) (hmg : mg "need_threat" = some (.ref f)) : CalD P w K mg base 1 "need_threat" 2 f_need_threat := by
  have nd : (["harm", "doer"] : List Str).Nodup := by decide +kernel
  refine cal_body (N := ["harm", "doer"]) (ps := ["harm", "doer"]) (k := 0) F hmg (F.bindsN fun _ _ _ _ _ _ us hl => match us, hl with | [_, _], _ => rfl) ⟨rfl, rfl, rfl, nd, rfl, by decide +kernel, by decide +kernel⟩ rfl rfl (by decide) fun cdv A outer s H E hr => ?_
  have hu := rm_of (X := (cxOf L2.CX0 P w K mg base ["harm", "doer"] "need_threat" (defScope (top 31)) f cdv A outer s H E).nox) hr
  exact (sss_cons (ss_if (PW.pt (sw_or (st_not (st_val (sv_isi (t := "str") G.k_str rfl G.isinstance rfl G.str rfl (so_var (i := 0) rfl (.inl rfl))))) (sw_or1 (st_cmp (cd_notIn hu) (so_var (i := 0) rfl (.inl rfl)) (so_of (sv_tup (sa_cons (sv_gstr rfl G.ASTRAY) (sa_cons (sv_gstr rfl G.LOST) sa_nil)))))))) (sss_one ss_never) sss_nil)
  (sss_one (ss_if (PW.pt (sw_or (st_not (st_val (sv_isi (t := "str") G.k_str rfl G.isinstance rfl G.str rfl (so_var (i := 1) rfl (.inl rfl))))) (sw_or1 (st_cmp (cd_notIn hu) (so_var (i := 1) rfl (.inl rfl)) (so_of (sv_tup (sa_cons (sv_gstr rfl G.MEANT) (sa_cons (sv_gstr rfl G.OTHER) (sa_cons (sv_gstr rfl G.TIME) sa_nil))))))))) (sss_one ss_never) sss_nil)))

theorem ok_first_scene {P : Program} {w : World} {K : PySem.W.Frag} {mg : Str → Option Value} {base : Heap} (G : GF P w K mg)  {f : Addr} {fd : FuncData}
    (F : FunD K "first_scene" "first_scene" (defArgs (top 40)) (defBody (top 40)) (defScope (top 40)) [] [] f fd) (hmg : mg "first_scene" = some (.ref f)) : CalD P w K mg base 1 "first_scene" 0 f_first_scene := by
  have nd : ([] : List Str).Nodup := by decide +kernel
  refine cal_body (N := []) (ps := []) (k := 0) F hmg (F.bindsN fun _ _ _ _ _ _ us hl => match us, hl with | [], _ => rfl) ⟨rfl, rfl, rfl, nd, rfl, by decide +kernel, by decide +kernel⟩ rfl rfl (by decide) fun cdv A outer s H E hr => ?_
  have hu := rm_of (X := (cxOf L2.CX0 P w K mg base [] "first_scene" (defScope (top 40)) f cdv A outer s H E).nox) hr
  exact (sss_one (ss_ret (se_of (sv_tup (sa_cons sv_int (sa_cons (sv_tup (sa_cons (sv_tup (sa_cons (sv_gstr rfl G.MINE) (sa_cons (sv_gstr rfl G.MINE) (sa_cons sv_int (sa_cons sv_int (sa_cons (sv_gstr rfl G.NONE) sa_nil)))))) sa_nil)) (sa_cons sv_int sa_nil)))))))

theorem ok_oldest {P : Program} {w : World} {K : PySem.W.Frag} {mg : Str → Option Value} {base : Heap} (G : GF P w K mg)  {f : Addr} {fd : FuncData}
    (F : FunD K "oldest" "oldest" (defArgs (top 41)) (defBody (top 41)) (defScope (top 41)) [] [] f fd) (hmg : mg "oldest" = some (.ref f)) : CalD P w K mg base 1 "oldest" 1 f_oldest := by
  have nd : (["rule", "one"] : List Str).Nodup := by decide +kernel
  refine cal_body (N := ["rule", "one"]) (ps := ["rule"]) (k := 0) F hmg (F.bindsN fun _ _ _ _ _ _ us hl => match us, hl with | [_], _ => rfl) ⟨rfl, rfl, rfl, nd, rfl, by decide +kernel, by decide +kernel⟩ rfl rfl (by decide) fun cdv A outer s H E hr => ?_
  have hu := rm_of (X := (cxOf L2.CX0 P w K mg base ["rule", "one"] "oldest" (defScope (top 41)) f cdv A outer s H E).nox) hr
  exact (sss_one (ss_ret (se_of (sv_max rfl rfl G.max (so_ofE (se_cat (so_ofE (se_lst (sa_cons sv_int sa_nil))) (so_ofE (se_lc (own := [("one", 1)]) (is := [1]) rfl nd (sf_tup (sv_tup (sa_cons (sv_ix hu (so_var (i := 0) rfl (.inl rfl)) (so_of (sv_gint rfl G.WAIT))) (sa_cons (sv_ix hu (so_var (i := 0) rfl (.inl rfl)) (so_of (sv_gint rfl G.FORWARD))) sa_nil)))) (blkOk_by (by rfl)) (by decide) (fun _ _ _ _ _ => (sg_name nd rfl (.inl rfl))) (fun _ _ _ _ _ => (sts_one (st_cmp cd_isnot (so_var (i := 1) rfl (.inl rfl)) (so_of sv_non)))) (fun _ _ _ _ _ => (sv_var (i := 1) rfl (.inl rfl)))))))))))

theorem ok_is_fine {P : Program} {w : World} {K : PySem.W.Frag} {mg : Str → Option Value} {base : Heap} (G : GF P w K mg)  {f : Addr} {fd : FuncData}
    (F : FunD K "is_fine" "is_fine" (defArgs (top 42)) (defBody (top 42)) (defScope (top 42)) [] [] f fd) (hmg : mg "is_fine" = some (.ref f)) : CalD P w K mg base 1 "is_fine" 2 f_is_fine := by
  have nd : (["rule", "record"] : List Str).Nodup := by decide +kernel
  refine cal_body (N := ["rule", "record"]) (ps := ["rule", "record"]) (k := 0) F hmg (F.bindsN fun _ _ _ _ _ _ us hl => match us, hl with | [_, _], _ => rfl) ⟨rfl, rfl, rfl, nd, rfl, by decide +kernel, by decide +kernel⟩ rfl rfl (by decide) fun cdv A outer s H E hr => ?_
  have hu := rm_of (X := (cxOf L2.CX0 P w K mg base ["rule", "record"] "is_fine" (defScope (top 42)) f cdv A outer s H E).nox) hr
  exact (sss_one (ss_ret (se_of (sv_and (sv_cmp (cd_ne hu) (so_of (sv_ix hu (so_var (i := 1) rfl (.inl rfl)) (so_of sv_int))) (so_of (sv_gstr rfl G.NONE))) (sv_one (sv_or (sv_cmp cd_is (so_of (sv_ix hu (so_var (i := 0) rfl (.inl rfl)) (so_of (sv_gint rfl G.FORWARD)))) (so_of sv_non)) (sv_one (sv_cmp cd_lt (so_of (sv_ix hu (so_var (i := 1) rfl (.inl rfl)) (so_of sv_int))) (so_of (sv_ix hu (so_var (i := 0) rfl (.inl rfl)) (so_of (sv_gint rfl G.FORWARD))))))))))))

theorem ok_may_come {P : Program} {w : World} {K : PySem.W.Frag} {mg : Str → Option Value} {base : Heap} (G : GF P w K mg) (c_is_fine : CalD P w K mg base 1 "is_fine" 2 f_is_fine) {f : Addr} {fd : FuncData}
    (F : FunD K "may_come" "may_come" (defArgs (top 43)) (defBody (top 43)) (defScope (top 43)) [] [] f fd) (hmg : mg "may_come" = some (.ref f)) : CalD P w K mg base 2 "may_come" 4 f_may_come := by
  have nd : (["rule", "record", "who", "back"] : List Str).Nodup := by decide +kernel
  refine cal_body (N := ["rule", "record", "who", "back"]) (ps := ["rule", "record", "who", "back"]) (k := 1) F hmg (F.bindsN fun _ _ _ _ _ _ us hl => match us, hl with | [_, _, _, _], _ => rfl) ⟨rfl, rfl, rfl, nd, rfl, by decide +kernel, by decide +kernel⟩ rfl rfl (by decide) fun cdv A outer s H E hr => ?_
  have hu := rm_of (X := (cxOf L2.CX0 P w K mg base ["rule", "record", "who", "back"] "may_come" (defScope (top 43)) f cdv A outer s H E).nox) hr
  exact (sss_cons (ss_if (st_val (sv_var (i := 3) rfl (.inl rfl))) (sss_one (ss_ret (se_of (sv_cmp (cd_eq hu) (so_of (sv_ix hu (so_var (i := 1) rfl (.inl rfl)) (so_of sv_int))) (so_var (i := 2) rfl (.inl rfl)))))) sss_nil)
  (sss_cons (ss_if (PW.pt (sw_or (st_chain (cd_eq hu) (cd_eq hu) (so_of (sv_ix hu (so_var (i := 1) rfl (.inl rfl)) (so_of sv_int))) (so_var (i := 2) rfl (.inl rfl)) (so_of (sv_gstr rfl G.MINE))) (sw_or (st_cmp cd_is (so_of (sv_ix hu (so_var (i := 0) rfl (.inl rfl)) (so_of (sv_gint rfl G.WAIT)))) (so_of sv_non)) (sw_or1 (st_cmp cd_lt (so_of (sv_ix hu (so_var (i := 1) rfl (.inl rfl)) (so_of sv_int))) (so_of (sv_ix hu (so_var (i := 0) rfl (.inl rfl)) (so_of (sv_gint rfl G.WAIT))))))))) (sss_one (ss_ret (se_of sv_bl))) sss_nil)
  (sss_one (ss_ret (se_of (sv_or (sv_not (sv_ix hu (so_var (i := 0) rfl (.inl rfl)) (so_of (sv_gint rfl G.BARS)))) (sv_one (sv_not (sv_ofE (se_call c_is_fine hr (by decide) rfl (sa_cons (sv_var (i := 0) rfl (.inl rfl)) (sa_cons (sv_var (i := 1) rfl (.inl rfl)) sa_nil))))))))))))

theorem ok_cut_at {P : Program} {w : World} {K : PySem.W.Frag} {mg : Str → Option Value} {base : Heap} (G : GF P w K mg)  {f : Addr} {fd : FuncData}
    (F : FunD K "cut_at" "cut_at" (defArgs (top 44)) (defBody (top 44)) (defScope (top 44)) [] [] f fd) (hmg : mg "cut_at" = some (.ref f)) : CalD P w K mg base 1 "cut_at" 3 f_cut_at := by
  have nd : (["scene", "place", "record", "age", "rows", "thread"] : List Str).Nodup := by decide +kernel
  refine cal_body (N := ["scene", "place", "record", "age", "rows", "thread"]) (ps := ["scene", "place", "record"]) (k := 0) F hmg (F.bindsN fun _ _ _ _ _ _ us hl => match us, hl with | [_, _, _], _ => rfl) ⟨rfl, rfl, rfl, nd, rfl, by decide +kernel, by decide +kernel⟩ rfl rfl (by decide) fun cdv A outer s H E hr => ?_
  have hu := rm_of (X := (cxOf L2.CX0 P w K mg base ["scene", "place", "record", "age", "rows", "thread"] "cut_at" (defScope (top 44)) f cdv A outer s H E).nox) hr
  exact (sss_cons (ss_asg (is := [3, 4, 5]) (sv_var (i := 0) rfl (.inl rfl)) (sg_tup rfl (sgs_cons nd rfl (.inl rfl) (sgs_cons nd rfl (.inl rfl) (sgs_cons nd rfl (.inl rfl) sgs_nil)))))
  (sss_cons (ss_if (PW.pt (sw_and (st_cmp cd_isnot (so_var (i := 5) rfl (.inl rfl)) (so_of sv_non)) (sw_and (st_cmp (cd_ne hu) (so_var (i := 5) rfl (.inl rfl)) (so_of (sv_gstr rfl G.OUT))) (sw_and1 (st_cmp cd_gt (so_var (i := 5) rfl (.inl rfl)) (so_var (i := 1) rfl (.inl rfl))))))) (sss_one (ss_set (i := 5) nd rfl (.inl rfl) (sv_gstr rfl G.OUT))) sss_nil)
  (sss_one (ss_ret (se_of (sv_tup (sa_cons (sv_var (i := 3) rfl (.inl rfl)) (sa_cons (sv_bin od_add (so_of (sv_sl (so_var (i := 4) rfl (.inl rfl)) si_none (si_some (sv_var (i := 1) rfl (.inl rfl))))) (so_of (sv_tup (sa_cons (sv_var (i := 2) rfl (.inl rfl)) sa_nil)))) (sa_cons (sv_var (i := 5) rfl (.inl rfl)) sa_nil)))))))))

theorem ok_come_at {P : Program} {w : World} {K : PySem.W.Frag} {mg : Str → Option Value} {base : Heap} (G : GF P w K mg) (c_cut_at : CalD P w K mg base 1 "cut_at" 3 f_cut_at) {f : Addr} {fd : FuncData}
    (F : FunD K "come_at" "come_at" (defArgs (top 45)) (defBody (top 45)) (defScope (top 45)) [] [] f fd) (hmg : mg "come_at" = some (.ref f)) : CalD P w K mg base 2 "come_at" 5 f_come_at := by
  have nd : (["rule", "scene", "place", "who", "back", "number"] : List Str).Nodup := by decide +kernel
  refine cal_body (N := ["rule", "scene", "place", "who", "back", "number"]) (ps := ["rule", "scene", "place", "who", "back"]) (k := 1) F hmg (F.bindsN fun _ _ _ _ _ _ us hl => match us, hl with | [_, _, _, _, _], _ => rfl) ⟨rfl, rfl, rfl, nd, rfl, by decide +kernel, by decide +kernel⟩ rfl rfl (by decide) fun cdv A outer s H E hr => ?_
  have hu := rm_of (X := (cxOf L2.CX0 P w K mg base ["rule", "scene", "place", "who", "back", "number"] "come_at" (defScope (top 45)) f cdv A outer s H E).nox) hr
  exact (sss_cons (ss_set (i := 5) nd rfl (.inl rfl) (sv_bin od_mod (so_of (sv_bin od_add (so_of (sv_ix hu (so_of (sv_ix hu (so_of (sv_ix hu (so_var (i := 1) rfl (.inl rfl)) (so_of sv_int))) (so_var (i := 2) rfl (.inl rfl)))) (so_of sv_int))) (so_of (sv_intc rfl G.int (so_of (sv_not (sv_var (i := 4) rfl (.inl rfl)))))))) (so_of (sv_ix hu (so_var (i := 0) rfl (.inl rfl)) (so_of (sv_gint rfl G.MARKS))))))
  (sss_one (ss_ret (se_call c_cut_at hr (by decide) rfl (sa_cons (sv_var (i := 1) rfl (.inl rfl)) (sa_cons (sv_var (i := 2) rfl (.inl rfl)) (sa_cons (sv_tup (sa_cons (sv_var (i := 3) rfl (.inl rfl)) (sa_cons (sv_var (i := 3) rfl (.inl rfl)) (sa_cons (sv_var (i := 5) rfl (.inl rfl)) (sa_cons sv_int (sa_cons (sv_gstr rfl G.NONE) sa_nil)))))) sa_nil)))))))

theorem ok_renamed {P : Program} {w : World} {K : PySem.W.Frag} {mg : Str → Option Value} {base : Heap} (G : GF P w K mg)  {f : Addr} {fd : FuncData}
    (F : FunD K "renamed" "renamed" (defArgs (top 46)) (defBody (top 46)) (defScope (top 46)) [] [] f fd) (hmg : mg "renamed" = some (.ref f)) : CalD P w K mg base 1 "renamed" 2 f_renamed := by
  have nd : (["rule", "scene", "age", "rows", "thread", "who", "last", "number", "old", "forward", "moves"] : List Str).Nodup := by decide +kernel
  refine cal_body (N := ["rule", "scene", "age", "rows", "thread", "who", "last", "number", "old", "forward", "moves"]) (ps := ["rule", "scene"]) (k := 0) F hmg (F.bindsN fun _ _ _ _ _ _ us hl => match us, hl with | [_, _], _ => rfl) ⟨rfl, rfl, rfl, nd, rfl, by decide +kernel, by decide +kernel⟩ rfl rfl (by decide) fun cdv A outer s H E hr => ?_
  have hu := rm_of (X := (cxOf L2.CX0 P w K mg base ["rule", "scene", "age", "rows", "thread", "who", "last", "number", "old", "forward", "moves"] "renamed" (defScope (top 46)) f cdv A outer s H E).nox) hr
  exact (sss_cons (ss_asg (is := [2, 3, 4]) (sv_var (i := 1) rfl (.inl rfl)) (sg_tup rfl (sgs_cons nd rfl (.inl rfl) (sgs_cons nd rfl (.inl rfl) (sgs_cons nd rfl (.inl rfl) sgs_nil)))))
  (sss_cons (ss_asg (is := [5, 6, 7, 8, 9]) (sv_ix hu (so_var (i := 3) rfl (.inl rfl)) (so_of (sv_neg (so_of sv_int)))) (sg_tup rfl (sgs_cons nd rfl (.inl rfl) (sgs_cons nd rfl (.inl rfl) (sgs_cons nd rfl (.inl rfl) (sgs_cons nd rfl (.inl rfl) (sgs_cons nd rfl (.inl rfl) sgs_nil)))))))
  (sss_cons (ss_set (i := 10) nd rfl (.inl rfl) (sv_cmp (cd_eq hu) (so_var (i := 4) rfl (.inl rfl)) (so_of (sv_bin od_sub (so_of (sv_len rfl G.len (so_var (i := 3) rfl (.inl rfl)))) (so_of sv_int)))))
  (sss_cons (ss_if (PW.pt (sw_and (st_cmp (cd_eq hu) (so_var (i := 7) rfl (.inl rfl)) (so_of sv_int)) (sw_and (st_cmp (cd_ne hu) (so_of (sv_ix hu (so_var (i := 0) rfl (.inl rfl)) (so_of (sv_gint rfl G.FORWARD)))) (so_of sv_int)) (sw_and1 (st_cmp cd_le (so_of (sv_len rfl G.len (so_var (i := 3) rfl (.inl rfl)))) (so_of (sv_ix hu (so_var (i := 0) rfl (.inl rfl)) (so_of (sv_gint rfl G.HOPS))))))))) (sss_cons (ss_set (i := 3) nd rfl (.inl rfl) (sv_bin od_add (so_of (sv_sl (so_var (i := 3) rfl (.inl rfl)) si_none (si_some (sv_neg (so_of sv_int))))) (so_of (sv_tup (sa_cons (sv_tup (sa_cons sv_non (sa_cons (sv_var (i := 5) rfl (.inl rfl)) (sa_cons (sv_var (i := 7) rfl (.inl rfl)) (sa_cons sv_int (sa_cons (sv_gstr rfl G.NEXT) sa_nil)))))) (sa_cons (sv_tup (sa_cons (sv_var (i := 5) rfl (.inl rfl)) (sa_cons (sv_var (i := 5) rfl (.inl rfl)) (sa_cons sv_int (sa_cons sv_int (sa_cons (sv_gstr rfl G.NONE) sa_nil)))))) sa_nil))))))
  (sss_one (ss_ret (se_of (sv_tup (sa_cons (sv_var (i := 2) rfl (.inl rfl)) (sa_cons (sv_var (i := 3) rfl (.inl rfl)) (sa_cons (sv_if (st_val (sv_var (i := 10) rfl (.inl rfl))) (sv_bin od_sub (so_of (sv_len rfl G.len (so_var (i := 3) rfl (.inl rfl)))) (so_of sv_int)) (sv_var (i := 4) rfl (.inl rfl))) sa_nil)))))))) sss_nil)
  (sss_one (ss_ret (se_of (sv_tup (sa_cons (sv_var (i := 2) rfl (.inl rfl)) (sa_cons (sv_bin od_add (so_of (sv_sl (so_var (i := 3) rfl (.inl rfl)) si_none (si_some (sv_neg (so_of sv_int))))) (so_of (sv_tup (sa_cons (sv_tup (sa_cons sv_non (sa_cons (sv_var (i := 5) rfl (.inl rfl)) (sa_cons (sv_var (i := 7) rfl (.inl rfl)) (sa_cons sv_int (sa_cons (sv_gstr rfl G.OFF) sa_nil)))))) sa_nil)))) (sa_cons (sv_if (st_val (sv_var (i := 10) rfl (.inl rfl))) (sv_gstr rfl G.OUT) (sv_var (i := 4) rfl (.inl rfl))) sa_nil)))))))))))

theorem ok_aged {P : Program} {w : World} {K : PySem.W.Frag} {mg : Str → Option Value} {base : Heap} (G : GF P w K mg) (c_oldest : CalD P w K mg base 1 "oldest" 1 f_oldest) (c_is_fine : CalD P w K mg base 1 "is_fine" 2 f_is_fine) (c_cut_at : CalD P w K mg base 1 "cut_at" 3 f_cut_at) {f : Addr} {fd : FuncData}
    (F : FunD K "aged" "aged" (defArgs (top 47)) (defBody (top 47)) (defScope (top 47)) [] [] f fd) (hmg : mg "aged" = some (.ref f)) : CalD P w K mg base 2 "aged" 2 f_aged := by
  have nd : (["rule", "scene", "age", "rows", "thread", "later", "who", "last", "number", "old", "forward", "found", "place", "record"] : List Str).Nodup := by decide +kernel
  refine cal_body (N := ["rule", "scene", "age", "rows", "thread", "later", "who", "last", "number", "old", "forward", "found", "place", "record"]) (ps := ["rule", "scene"]) (k := 1) F hmg (F.bindsN fun _ _ _ _ _ _ us hl => match us, hl with | [_, _], _ => rfl) ⟨rfl, rfl, rfl, nd, rfl, by decide +kernel, by decide +kernel⟩ rfl rfl (by decide) fun cdv A outer s H E hr => ?_
  have hu := rm_of (X := (cxOf L2.CX0 P w K mg base ["rule", "scene", "age", "rows", "thread", "later", "who", "last", "number", "old", "forward", "found", "place", "record"] "aged" (defScope (top 47)) f cdv A outer s H E).nox) hr
  exact (sss_cons (ss_asg (is := [2, 3, 4]) (sv_var (i := 1) rfl (.inl rfl)) (sg_tup rfl (sgs_cons nd rfl (.inl rfl) (sgs_cons nd rfl (.inl rfl) (sgs_cons nd rfl (.inl rfl) sgs_nil)))))
  (sss_cons (ss_setO (i := 5) nd rfl (.inl rfl) (se_lst sa_nil))
  (sss_cons (ss_for (is := [6, 7, 8, 9, 10]) PassesOwn.never rfl (sf_tup (sv_var (i := 3) rfl (.inl rfl))) (sg_tup rfl (sgs_cons nd rfl (.inl rfl) (sgs_cons nd rfl (.inl rfl) (sgs_cons nd rfl (.inl rfl) (sgs_cons nd rfl (.inl rfl) (sgs_cons nd rfl (.inl rfl) sgs_nil)))))) (sss_one (ss_app (i := 5) rfl (.inl rfl) (sv_tup (sa_cons (sv_var (i := 6) rfl (.inl rfl)) (sa_cons (sv_var (i := 7) rfl (.inl rfl)) (sa_cons (sv_var (i := 8) rfl (.inl rfl)) (sa_cons (sv_min2 rfl rfl G.min (so_of (sv_bin od_add (so_var (i := 9) rfl (.inl rfl)) (so_of (sv_intc rfl G.int (so_of (sv_cmp cd_is (so_var (i := 6) rfl (.inl rfl)) (so_of sv_non))))))) (so_ofE (se_call c_oldest hr (by decide) rfl (sa_cons (sv_var (i := 0) rfl (.inl rfl)) sa_nil)))) (sa_cons (sv_var (i := 10) rfl (.inl rfl)) sa_nil)))))))))
  (sss_cons (ss_set (i := 11) nd rfl (.inl rfl) (sv_tup (sa_cons (sv_if (st_cmp cd_is (so_of (sv_ix hu (so_var (i := 0) rfl (.inl rfl)) (so_of (sv_gint rfl G.LIFE)))) (so_of sv_non)) sv_int (sv_bin od_add (so_var (i := 2) rfl (.inl rfl)) (so_of sv_int))) (sa_cons (sv_tuple rfl G.tuple (so_var (i := 5) rfl (.inl rfl))) (sa_cons (sv_var (i := 4) rfl (.inl rfl)) sa_nil)))))
  (sss_cons (ss_frz (i := 5) (ss_for (is := [12, 13]) PassesOwn.never rfl (sf_enumL rfl G.enumerate (se_of (sv_var (i := 5) rfl (.inl rfl)))) (sg_tup rfl (sgs_cons nd rfl (.inl rfl) (sgs_cons nd rfl (.inl rfl) sgs_nil))) (sss_one (ss_if (PW.pt (sw_and (st_cmp (cd_eq hu) (so_of (sv_ix hu (so_var (i := 13) rfl (.inl rfl)) (so_of sv_int))) (so_of (sv_gstr rfl G.NEXT))) (sw_and1 (st_not (st_val (sv_ofE (se_call c_is_fine hr (by decide) rfl (sa_cons (sv_var (i := 0) rfl (.inl rfl)) (sa_cons (sv_var (i := 13) rfl (.inl rfl)) sa_nil))))))))) (sss_one (ss_ret (se_call c_cut_at hr (by decide) rfl (sa_cons (sv_var (i := 11) rfl (.inl rfl)) (sa_cons (sv_var (i := 12) rfl (.inl rfl)) (sa_cons (sv_bin od_add (so_of (sv_sl (so_var (i := 13) rfl (.inl rfl)) si_none (si_some sv_int))) (so_of (sv_tup (sa_cons (sv_gstr rfl G.OFF) sa_nil)))) sa_nil)))))) sss_nil))))
  (sss_one (ss_ret (se_of (sv_var (i := 11) rfl (.inl rfl))))))))))

theorem ok_comings {P : Program} {w : World} {K : PySem.W.Frag} {mg : Str → Option Value} {base : Heap} (G : GF P w K mg) (c_may_come : CalD P w K mg base 2 "may_come" 4 f_may_come) (c_come_at : CalD P w K mg base 2 "come_at" 5 f_come_at) {f : Addr} {fd : FuncData}
    (F : FunD K "comings" "comings" (defArgs (top 48)) (defBody (top 48)) (defScope (top 48)) [] [] f fd) (hmg : mg "comings" = some (.ref f)) : CalD P w K mg base 3 "comings" 2 f_comings := by
  have nd : (["rule", "scene", "age", "rows", "thread", "found", "top", "place", "record", "who", "back", "there"] : List Str).Nodup := by decide +kernel
  refine cal_body (N := ["rule", "scene", "age", "rows", "thread", "found", "top", "place", "record", "who", "back", "there"]) (ps := ["rule", "scene"]) (k := 2) F hmg (F.bindsN fun _ _ _ _ _ _ us hl => match us, hl with | [_, _], _ => rfl) ⟨rfl, rfl, rfl, nd, rfl, by decide +kernel, by decide +kernel⟩ rfl rfl (by decide) fun cdv A outer s H E hr => ?_
  have hu := rm_of (X := (cxOf L2.CX0 P w K mg base ["rule", "scene", "age", "rows", "thread", "found", "top", "place", "record", "who", "back", "there"] "comings" (defScope (top 48)) f cdv A outer s H E).nox) hr
  exact (sss_cons (ss_asg (is := [2, 3, 4]) (sv_var (i := 1) rfl (.inl rfl)) (sg_tup rfl (sgs_cons nd rfl (.inl rfl) (sgs_cons nd rfl (.inl rfl) (sgs_cons nd rfl (.inl rfl) sgs_nil)))))
  (sss_cons (ss_par (o := true) (o' := false) (i := 5) (j := 6) rfl nd rfl rfl (by decide) rfl rfl (se_lst sa_nil) (se_of (sv_bin od_sub (so_of (sv_len rfl G.len (so_var (i := 3) rfl (.inl rfl)))) (so_of sv_int))) rfl)
  (sss_cons (ss_for (is := [7, 8]) PassesOwn.never rfl (sf_enumT rfl G.enumerate (sv_var (i := 3) rfl (.inl rfl))) (sg_tup rfl (sgs_cons nd rfl (.inl rfl) (sgs_cons nd rfl (.inl rfl) sgs_nil))) (sss_cons (ss_if (st_cmp cd_isnot (so_of (sv_ix hu (so_var (i := 8) rfl (.inl rfl)) (so_of sv_int))) (so_of sv_non)) (sss_one ss_cont) sss_nil)
  (sss_cons (ss_for (is := [9, 10]) PassesOwn.never rfl (sf_tup (sv_tup (sa_cons (sv_tup (sa_cons (sv_gstr rfl G.MINE) (sa_cons sv_bl sa_nil))) (sa_cons (sv_tup (sa_cons (sv_gstr rfl G.MINE) (sa_cons sv_bl sa_nil))) (sa_cons (sv_tup (sa_cons (sv_gstr rfl G.THEIRS) (sa_cons sv_bl sa_nil))) (sa_cons (sv_tup (sa_cons (sv_gstr rfl G.THEIRS) (sa_cons sv_bl sa_nil))) sa_nil)))))) (sg_tup rfl (sgs_cons nd rfl (.inl rfl) (sgs_cons nd rfl (.inl rfl) sgs_nil))) (sss_one (ss_if (st_val (sv_ofE (se_call c_may_come hr (by decide) rfl (sa_cons (sv_var (i := 0) rfl (.inl rfl)) (sa_cons (sv_var (i := 8) rfl (.inl rfl)) (sa_cons (sv_var (i := 9) rfl (.inl rfl)) (sa_cons (sv_var (i := 10) rfl (.inl rfl)) sa_nil))))))) (sss_one (ss_app (i := 5) rfl (.inl rfl) (sv_tup (sa_cons (sv_tup (sa_cons sv_str (sa_cons (sv_var (i := 9) rfl (.inl rfl)) (sa_cons (sv_var (i := 10) rfl (.inl rfl)) (sa_cons (sv_var (i := 7) rfl (.inl rfl)) sa_nil))))) (sa_cons (sv_ofE (se_call c_come_at hr (by decide) rfl (sa_cons (sv_var (i := 0) rfl (.inl rfl)) (sa_cons (sv_var (i := 1) rfl (.inl rfl)) (sa_cons (sv_var (i := 7) rfl (.inl rfl)) (sa_cons (sv_var (i := 9) rfl (.inl rfl)) (sa_cons (sv_var (i := 10) rfl (.inl rfl)) sa_nil))))))) sa_nil))))) sss_nil)))
  (sss_cons (ss_set (i := 10) nd rfl (.inl rfl) (sv_cmp (cd_eq hu) (so_of (sv_ix hu (so_var (i := 8) rfl (.inl rfl)) (so_of sv_int))) (so_of (sv_gstr rfl G.MINE))))
  (sss_one (ss_if (PW.pt (sw_and (st_val (sv_ofE (se_call c_may_come hr (by decide) rfl (sa_cons (sv_var (i := 0) rfl (.inl rfl)) (sa_cons (sv_var (i := 8) rfl (.inl rfl)) (sa_cons (sv_gstr rfl G.MINE) (sa_cons (sv_var (i := 10) rfl (.inl rfl)) sa_nil))))))) (sw_and1 (PW.pt (sw_or (st_cmp (cd_eq hu) (so_var (i := 4) rfl (.inl rfl)) (so_of (sv_gstr rfl G.OUT))) (sw_or1 (PW.pt (sw_and (st_cmp (cd_eq hu) (so_var (i := 4) rfl (.inl rfl)) (so_var (i := 6) rfl (.inl rfl))) (sw_and1 (st_cmp cd_lt (so_var (i := 7) rfl (.inl rfl)) (so_var (i := 6) rfl (.inl rfl)))))))))))) (sss_cons (ss_set (i := 11) nd rfl (.inl rfl) (sv_ofE (se_call c_come_at hr (by decide) rfl (sa_cons (sv_var (i := 0) rfl (.inl rfl)) (sa_cons (sv_var (i := 1) rfl (.inl rfl)) (sa_cons (sv_var (i := 7) rfl (.inl rfl)) (sa_cons (sv_gstr rfl G.MINE) (sa_cons (sv_var (i := 10) rfl (.inl rfl)) sa_nil))))))))
  (sss_one (ss_app (i := 5) rfl (.inl rfl) (sv_tup (sa_cons (sv_tup (sa_cons sv_str (sa_cons (sv_var (i := 4) rfl (.inl rfl)) (sa_cons (sv_var (i := 7) rfl (.inl rfl)) sa_nil)))) (sa_cons (sv_tup (sa_cons (sv_ix hu (so_var (i := 11) rfl (.inl rfl)) (so_of sv_int)) (sa_cons (sv_ix hu (so_var (i := 11) rfl (.inl rfl)) (so_of sv_int)) (sa_cons (sv_var (i := 7) rfl (.inl rfl)) sa_nil)))) sa_nil)))))) sss_nil))))))
  (sss_one (ss_retO (i := 5) rfl (.inl rfl))))))

theorem ok_leavings {P : Program} {w : World} {K : PySem.W.Frag} {mg : Str → Option Value} {base : Heap} (G : GF P w K mg) (c_renamed : CalD P w K mg base 1 "renamed" 2 f_renamed) {f : Addr} {fd : FuncData}
    (F : FunD K "leavings" "leavings" (defArgs (top 49)) (defBody (top 49)) (defScope (top 49)) [] [] f fd) (hmg : mg "leavings" = some (.ref f)) : CalD P w K mg base 2 "leavings" 2 f_leavings := by
  have nd : (["rule", "scene", "age", "rows", "thread", "top", "who", "last", "number", "old", "forward", "rest", "found", "more", "other"] : List Str).Nodup := by decide +kernel
  refine cal_body (N := ["rule", "scene", "age", "rows", "thread", "top", "who", "last", "number", "old", "forward", "rest", "found", "more", "other"]) (ps := ["rule", "scene"]) (k := 1) F hmg (F.bindsN fun _ _ _ _ _ _ us hl => match us, hl with | [_, _], _ => rfl) ⟨rfl, rfl, rfl, nd, rfl, by decide +kernel, by decide +kernel⟩ rfl rfl (by decide) fun cdv A outer s H E hr => ?_
  have hu := rm_of (X := (cxOf L2.CX0 P w K mg base ["rule", "scene", "age", "rows", "thread", "top", "who", "last", "number", "old", "forward", "rest", "found", "more", "other"] "leavings" (defScope (top 49)) f cdv A outer s H E).nox) hr
  exact (sss_cons (ss_asg (is := [2, 3, 4]) (sv_var (i := 1) rfl (.inl rfl)) (sg_tup rfl (sgs_cons nd rfl (.inl rfl) (sgs_cons nd rfl (.inl rfl) (sgs_cons nd rfl (.inl rfl) sgs_nil)))))
  (sss_cons (ss_set (i := 5) nd rfl (.inl rfl) (sv_bin od_sub (so_of (sv_len rfl G.len (so_var (i := 3) rfl (.inl rfl)))) (so_of sv_int)))
  (sss_cons (ss_asg (is := [6, 7, 8, 9, 10]) (sv_ix hu (so_var (i := 3) rfl (.inl rfl)) (so_var (i := 5) rfl (.inl rfl))) (sg_tup rfl (sgs_cons nd rfl (.inl rfl) (sgs_cons nd rfl (.inl rfl) (sgs_cons nd rfl (.inl rfl) (sgs_cons nd rfl (.inl rfl) (sgs_cons nd rfl (.inl rfl) sgs_nil)))))))
  (sss_cons (ss_if (st_cmp cd_is (so_var (i := 6) rfl (.inl rfl)) (so_of sv_non)) (sss_one (ss_ret (se_lst sa_nil))) sss_nil)
  (sss_cons (ss_set (i := 11) nd rfl (.inl rfl) (sv_if (st_cmp (cd_eq hu) (so_var (i := 4) rfl (.inl rfl)) (so_var (i := 5) rfl (.inl rfl))) sv_non (sv_var (i := 4) rfl (.inl rfl))))
  (sss_cons (ss_setO (i := 12) nd rfl (.inl rfl) (se_lst (sa_cons (sv_tup (sa_cons (sv_tup (sa_cons sv_str (sa_cons (sv_var (i := 5) rfl (.inl rfl)) sa_nil))) (sa_cons (sv_tup (sa_cons (sv_var (i := 2) rfl (.inl rfl)) (sa_cons (sv_bin od_add (so_of (sv_sl (so_var (i := 3) rfl (.inl rfl)) si_none (si_some (sv_var (i := 5) rfl (.inl rfl))))) (so_of (sv_tup (sa_cons (sv_tup (sa_cons sv_non (sa_cons (sv_var (i := 6) rfl (.inl rfl)) (sa_cons (sv_var (i := 8) rfl (.inl rfl)) (sa_cons sv_int (sa_cons (sv_gstr rfl G.NONE) sa_nil)))))) sa_nil)))) (sa_cons (sv_var (i := 11) rfl (.inl rfl)) sa_nil)))) sa_nil))) sa_nil)))
  (sss_cons (ss_app (i := 12) rfl (.inl rfl) (sv_tup (sa_cons (sv_tup (sa_cons sv_str (sa_cons (sv_var (i := 5) rfl (.inl rfl)) (sa_cons (sv_gstr rfl G.NEW) sa_nil)))) (sa_cons (sv_ofE (se_call c_renamed hr (by decide) rfl (sa_cons (sv_var (i := 0) rfl (.inl rfl)) (sa_cons (sv_var (i := 1) rfl (.inl rfl)) sa_nil)))) sa_nil))))
  (sss_cons (ss_if (st_cmp (cd_ne hu) (so_of (sv_ix hu (so_var (i := 0) rfl (.inl rfl)) (so_of (sv_gint rfl G.PASSING)))) (so_of (sv_gstr rfl G.NO))) (sss_cons (ss_set (i := 13) nd rfl (.inl rfl) (sv_bin od_mod (so_of (sv_bin od_add (so_var (i := 8) rfl (.inl rfl)) (so_of (sv_intc rfl G.int (so_of (sv_cmp (cd_eq hu) (so_of (sv_ix hu (so_var (i := 0) rfl (.inl rfl)) (so_of (sv_gint rfl G.PASSING)))) (so_of (sv_gstr rfl G.COUNTED)))))))) (so_of (sv_ix hu (so_var (i := 0) rfl (.inl rfl)) (so_of (sv_gint rfl G.MARKS))))))
  (sss_one (ss_for (is := [14]) PassesOwn.never rfl (sf_tup (sv_tup (sa_cons (sv_gstr rfl G.MINE) (sa_cons (sv_gstr rfl G.THEIRS) sa_nil)))) (sg_name nd rfl (.inl rfl)) (sss_one (ss_if (st_cmp (cd_ne hu) (so_of (sv_tup (sa_cons (sv_var (i := 6) rfl (.inl rfl)) (sa_cons (sv_var (i := 14) rfl (.inl rfl)) sa_nil)))) (so_of (sv_tup (sa_cons (sv_gstr rfl G.MINE) (sa_cons (sv_gstr rfl G.MINE) sa_nil))))) (sss_one (ss_app (i := 12) rfl (.inl rfl) (sv_tup (sa_cons (sv_tup (sa_cons sv_str (sa_cons (sv_var (i := 5) rfl (.inl rfl)) (sa_cons (sv_var (i := 14) rfl (.inl rfl)) sa_nil)))) (sa_cons (sv_tup (sa_cons (sv_var (i := 2) rfl (.inl rfl)) (sa_cons (sv_bin od_add (so_of (sv_sl (so_var (i := 3) rfl (.inl rfl)) si_none (si_some (sv_var (i := 5) rfl (.inl rfl))))) (so_of (sv_tup (sa_cons (sv_tup (sa_cons (sv_var (i := 14) rfl (.inl rfl)) (sa_cons (sv_var (i := 14) rfl (.inl rfl)) (sa_cons (sv_var (i := 13) rfl (.inl rfl)) (sa_cons sv_int (sa_cons (sv_gstr rfl G.NONE) sa_nil)))))) sa_nil)))) (sa_cons (sv_var (i := 11) rfl (.inl rfl)) sa_nil)))) sa_nil))))) sss_nil))))) sss_nil)
  (sss_one (ss_retO (i := 12) rfl (.inl rfl)))))))))))

theorem ok_copies {P : Program} {w : World} {K : PySem.W.Frag} {mg : Str → Option Value} {base : Heap} (G : GF P w K mg)  {f : Addr} {fd : FuncData}
    (F : FunD K "copies" "copies" (defArgs (top 50)) (defBody (top 50)) (defScope (top 50)) [] [] f fd) (hmg : mg "copies" = some (.ref f)) : CalD P w K mg base 1 "copies" 2 f_copies := by
  have nd : (["rule", "scene", "age", "rows", "thread", "top"] : List Str).Nodup := by decide +kernel
  refine cal_body (N := ["rule", "scene", "age", "rows", "thread", "top"]) (ps := ["rule", "scene"]) (k := 0) F hmg (F.bindsN fun _ _ _ _ _ _ us hl => match us, hl with | [_, _], _ => rfl) ⟨rfl, rfl, rfl, nd, rfl, by decide +kernel, by decide +kernel⟩ rfl rfl (by decide) fun cdv A outer s H E hr => ?_
  have hu := rm_of (X := (cxOf L2.CX0 P w K mg base ["rule", "scene", "age", "rows", "thread", "top"] "copies" (defScope (top 50)) f cdv A outer s H E).nox) hr
  exact (sss_cons (ss_asg (is := [2, 3, 4]) (sv_var (i := 1) rfl (.inl rfl)) (sg_tup rfl (sgs_cons nd rfl (.inl rfl) (sgs_cons nd rfl (.inl rfl) (sgs_cons nd rfl (.inl rfl) sgs_nil)))))
  (sss_cons (ss_set (i := 5) nd rfl (.inl rfl) (sv_bin od_sub (so_of (sv_len rfl G.len (so_var (i := 3) rfl (.inl rfl)))) (so_of sv_int)))
  (sss_cons (ss_if (st_cmp (cd_eq hu) (so_of (sv_ix hu (so_var (i := 0) rfl (.inl rfl)) (so_of (sv_gint rfl G.COPIES)))) (so_of (sv_gstr rfl G.SAME))) (sss_one (ss_ret (se_lst (sa_cons (sv_tup (sa_cons (sv_tup (sa_cons sv_str sa_nil)) (sa_cons (sv_tup (sa_cons sv_int (sa_cons (sv_var (i := 3) rfl (.inl rfl)) (sa_cons (sv_var (i := 4) rfl (.inl rfl)) sa_nil)))) sa_nil))) sa_nil)))) sss_nil)
  (sss_cons (ss_if (PW.pt (sw_and (st_cmp (cd_eq hu) (so_of (sv_ix hu (so_var (i := 0) rfl (.inl rfl)) (so_of (sv_gint rfl G.COPIES)))) (so_of (sv_gstr rfl G.ANEW))) (sw_and (st_cmp cd_isnot (so_of (sv_ix hu (so_of (sv_ix hu (so_var (i := 3) rfl (.inl rfl)) (so_var (i := 5) rfl (.inl rfl)))) (so_of sv_int))) (so_of sv_non)) (sw_and1 (st_cmp (cd_eq hu) (so_of (sv_ix hu (so_of (sv_ix hu (so_var (i := 3) rfl (.inl rfl)) (so_var (i := 5) rfl (.inl rfl)))) (so_of sv_int))) (so_of sv_int)))))) (sss_cons (ss_if (st_cmp cd_isnot (so_var (i := 4) rfl (.inl rfl)) (so_of sv_non)) (sss_one (ss_set (i := 4) nd rfl (.inl rfl) (sv_if (st_cmp (cd_eq hu) (so_var (i := 4) rfl (.inl rfl)) (so_var (i := 5) rfl (.inl rfl))) sv_int (sv_gstr rfl G.OUT)))) sss_nil)
  (sss_one (ss_ret (se_lst (sa_cons (sv_tup (sa_cons (sv_tup (sa_cons sv_str sa_nil)) (sa_cons (sv_tup (sa_cons sv_int (sa_cons (sv_sl (so_var (i := 3) rfl (.inl rfl)) (si_some (sv_var (i := 5) rfl (.inl rfl))) si_none) (sa_cons (sv_var (i := 4) rfl (.inl rfl)) sa_nil)))) sa_nil))) sa_nil))))) sss_nil)
  (sss_one (ss_ret (se_lst sa_nil)))))))

theorem ok_steps_of {P : Program} {w : World} {K : PySem.W.Frag} {mg : Str → Option Value} {base : Heap} (G : GF P w K mg) (c_aged : CalD P w K mg base 2 "aged" 2 f_aged) (c_comings : CalD P w K mg base 3 "comings" 2 f_comings) (c_leavings : CalD P w K mg base 2 "leavings" 2 f_leavings) (c_copies : CalD P w K mg base 1 "copies" 2 f_copies) {f : Addr} {fd : FuncData}
    (F : FunD K "steps_of" "steps_of" (defArgs (top 51)) (defBody (top 51)) (defScope (top 51)) [] [] f fd) (hmg : mg "steps_of" = some (.ref f)) : CalD P w K mg base 4 "steps_of" 2 f_steps_of := by
  have nd : (["rule", "scene", "found", "event", "there"] : List Str).Nodup := by decide +kernel
  refine cal_body (N := ["rule", "scene", "found", "event", "there"]) (ps := ["rule", "scene"]) (k := 3) F hmg (F.bindsN fun _ _ _ _ _ _ us hl => match us, hl with | [_, _], _ => rfl) ⟨rfl, rfl, rfl, nd, rfl, by decide +kernel, by decide +kernel⟩ rfl rfl (by decide) fun cdv A outer s H E hr => ?_
  have hu := rm_of (X := (cxOf L2.CX0 P w K mg base ["rule", "scene", "found", "event", "there"] "steps_of" (defScope (top 51)) f cdv A outer s H E).nox) hr
  exact (sss_cons (ss_set (i := 2) nd rfl (.inl rfl) (sv_ofE (se_cat (so_ofE (se_cat (so_ofE (se_cat (so_ofE (se_lst (sa_cons (sv_tup (sa_cons (sv_tup (sa_cons sv_str sa_nil)) (sa_cons (sv_ofE (se_call c_aged hr (by decide) rfl (sa_cons (sv_var (i := 0) rfl (.inr (.inl rfl))) (sa_cons (sv_var (i := 1) rfl (.inl rfl)) sa_nil)))) sa_nil))) sa_nil))) (so_ofE (se_call c_comings hr (by decide) rfl (sa_cons (sv_var (i := 0) rfl (.inr (.inl rfl))) (sa_cons (sv_var (i := 1) rfl (.inl rfl)) sa_nil)))))) (so_ofE (se_call c_leavings hr (by decide) rfl (sa_cons (sv_var (i := 0) rfl (.inr (.inl rfl))) (sa_cons (sv_var (i := 1) rfl (.inl rfl)) sa_nil)))))) (so_ofE (se_call c_copies hr (by decide) rfl (sa_cons (sv_var (i := 0) rfl (.inr (.inl rfl))) (sa_cons (sv_var (i := 1) rfl (.inl rfl)) sa_nil)))))))
  (sss_one (ss_ret (se_lc (own := [("event", 3), ("there", 4)]) (is := [3, 4]) rfl nd (sf_list (se_of (sv_var (i := 2) rfl (.inl rfl)))) (blkOk_by (by rfl)) (by decide) (fun _ _ _ _ _ => (sg_tup rfl (sgs_cons nd rfl (.inl rfl) (sgs_cons nd rfl (.inl rfl) sgs_nil)))) (fun _ _ _ _ _ => (sts_one (PW.pt (sw_or (st_cmp cd_is (so_of (sv_ix hu (so_var (i := 0) rfl (.inr (.inl rfl))) (so_of (sv_gint rfl G.LIFE)))) (so_of sv_non)) (sw_or1 (st_cmp cd_le (so_of (sv_ix hu (so_var (i := 4) rfl (.inl rfl)) (so_of sv_int))) (so_of (sv_ix hu (so_var (i := 0) rfl (.inr (.inl rfl))) (so_of (sv_gint rfl G.LIFE)))))))))) (fun _ _ _ _ _ => (sv_tup (sa_cons (sv_var (i := 3) rfl (.inl rfl)) (sa_cons (sv_var (i := 4) rfl (.inl rfl)) sa_nil))))))))

theorem ok_end_of {P : Program} {w : World} {K : PySem.W.Frag} {mg : Str → Option Value} {base : Heap} (G : GF P w K mg)  {f : Addr} {fd : FuncData}
    (F : FunD K "end_of" "end_of" (defArgs (top 52)) (defBody (top 52)) (defScope (top 52)) [] [] f fd) (hmg : mg "end_of" = some (.ref f)) : CalD P w K mg base 1 "end_of" 1 f_end_of := by
  have nd : (["scene", "record"] : List Str).Nodup := by decide +kernel
  refine cal_body (N := ["scene", "record"]) (ps := ["scene"]) (k := 0) F hmg (F.bindsN fun _ _ _ _ _ _ us hl => match us, hl with | [_], _ => rfl) ⟨rfl, rfl, rfl, nd, rfl, by decide +kernel, by decide +kernel⟩ rfl rfl (by decide) fun cdv A outer s H E hr => ?_
  have hu := rm_of (X := (cxOf L2.CX0 P w K mg base ["scene", "record"] "end_of" (defScope (top 52)) f cdv A outer s H E).nox) hr
  exact (sss_cons (ss_set (i := 1) nd rfl (.inl rfl) (sv_ix hu (so_of (sv_ix hu (so_var (i := 0) rfl (.inl rfl)) (so_of sv_int))) (so_of (sv_neg (so_of sv_int)))))
  (sss_one (ss_ret (se_of (sv_if (st_cmp (cd_eq hu) (so_of (sv_ix hu (so_var (i := 1) rfl (.inl rfl)) (so_of sv_int))) (so_of sv_int)) (sv_ix hu (so_var (i := 1) rfl (.inl rfl)) (so_of sv_int)) sv_non)))))

theorem ok_first_state {P : Program} {w : World} {K : PySem.W.Frag} {mg : Str → Option Value} {base : Heap} (G : GF P w K mg)  {f : Addr} {fd : FuncData}
    (F : FunD K "first_state" "first_state" (defArgs (top 54)) (defBody (top 54)) (defScope (top 54)) [] [] f fd) (hmg : mg "first_state" = some (.ref f)) : CalD P w K mg base 1 "first_state" 0 f_first_state := by
  have nd : ([] : List Str).Nodup := by decide +kernel
  refine cal_body (N := []) (ps := []) (k := 0) F hmg (F.bindsN fun _ _ _ _ _ _ us hl => match us, hl with | [], _ => rfl) ⟨rfl, rfl, rfl, nd, rfl, by decide +kernel, by decide +kernel⟩ rfl rfl (by decide) fun cdv A outer s H E hr => ?_
  have hu := rm_of (X := (cxOf L2.CX0 P w K mg base [] "first_state" (defScope (top 54)) f cdv A outer s H E).nox) hr
  exact (sss_one (ss_ret (se_of (sv_tup (sa_cons (sv_ofE se_newS) (sa_cons (sv_tup sa_nil) sa_nil))))))

theorem ok_is_good {P : Program} {w : World} {K : PySem.W.Frag} {mg : Str → Option Value} {base : Heap} (G : GF P w K mg)  {f : Addr} {fd : FuncData}
    (F : FunD K "is_good" "is_good" (defArgs (top 55)) (defBody (top 55)) (defScope (top 55)) [] [] f fd) (hmg : mg "is_good" = some (.ref f)) : CalD P w K mg base 1 "is_good" 2 f_is_good := by
  have nd : (["rule", "record", "limit"] : List Str).Nodup := by decide +kernel
  refine cal_body (N := ["rule", "record", "limit"]) (ps := ["rule", "record"]) (k := 0) F hmg (F.bindsN fun _ _ _ _ _ _ us hl => match us, hl with | [_, _], _ => rfl) ⟨rfl, rfl, rfl, nd, rfl, by decide +kernel, by decide +kernel⟩ rfl rfl (by decide) fun cdv A outer s H E hr => ?_
  have hu := rm_of (X := (cxOf L2.CX0 P w K mg base ["rule", "record", "limit"] "is_good" (defScope (top 55)) f cdv A outer s H E).nox) hr
  exact (sss_cons (ss_set (i := 2) nd rfl (.inl rfl) (sv_ix hu (so_var (i := 0) rfl (.inl rfl)) (so_of (sv_gint rfl G.FORWARD))))
  (sss_one (ss_ret (se_of (sv_and (sv_cmp cd_is (so_of (sv_ix hu (so_var (i := 1) rfl (.inl rfl)) (so_of sv_int))) (so_of sv_non)) (sv_and (sv_cmp cd_isnot (so_of (sv_ix hu (so_var (i := 1) rfl (.inl rfl)) (so_of sv_int))) (so_of sv_non)) (sv_one (sv_or (sv_cmp cd_is (so_var (i := 2) rfl (.inl rfl)) (so_of sv_non)) (sv_one (sv_cmp cd_lt (so_of (sv_ix hu (so_var (i := 1) rfl (.inl rfl)) (so_of sv_int))) (so_var (i := 2) rfl (.inl rfl))))))))))))

theorem ok_is_open {P : Program} {w : World} {K : PySem.W.Frag} {mg : Str → Option Value} {base : Heap} (G : GF P w K mg) (c_is_good : CalD P w K mg base 1 "is_good" 2 f_is_good) {f : Addr} {fd : FuncData}
    (F : FunD K "is_open" "is_open" (defArgs (top 56)) (defBody (top 56)) (defScope (top 56)) [] [] f fd) (hmg : mg "is_open" = some (.ref f)) : CalD P w K mg base 2 "is_open" 4 f_is_open := by
  have nd : (["rule", "state", "holder", "name", "names", "links", "record", "wait"] : List Str).Nodup := by decide +kernel
  refine cal_body (N := ["rule", "state", "holder", "name", "names", "links", "record", "wait"]) (ps := ["rule", "state", "holder", "name"]) (k := 1) F hmg (F.bindsN fun _ _ _ _ _ _ us hl => match us, hl with | [_, _, _, _], _ => rfl) ⟨rfl, rfl, rfl, nd, rfl, by decide +kernel, by decide +kernel⟩ rfl rfl (by decide) fun cdv A outer s H E hr => ?_
  have hu := rm_of (X := (cxOf L2.CX0 P w K mg base ["rule", "state", "holder", "name", "names", "links", "record", "wait"] "is_open" (defScope (top 56)) f cdv A outer s H E).nox) hr
  exact (sss_cons (ss_asg (is := [4, 5]) (sv_var (i := 1) rfl (.inl rfl)) (sg_tup rfl (sgs_cons nd rfl (.inl rfl) (sgs_cons nd rfl (.inl rfl) sgs_nil))))
  (sss_cons (ss_if (st_cmp (cd_notIn hu) (so_var (i := 3) rfl (.inl rfl)) (so_var (i := 4) rfl (.inl rfl))) (sss_one (ss_ret (se_of sv_bl))) sss_nil)
  (sss_cons (ss_par (o := false) (o' := false) (i := 6) (j := 7) rfl nd rfl rfl (by decide) rfl rfl (se_of (sv_ix hu (so_var (i := 4) rfl (.inl rfl)) (so_var (i := 3) rfl (.inl rfl)))) (se_of (sv_ix hu (so_var (i := 0) rfl (.inl rfl)) (so_of (sv_gint rfl G.WAIT)))) rfl)
  (sss_cons (ss_if (st_cmp cd_isnot (so_of (sv_ix hu (so_var (i := 6) rfl (.inl rfl)) (so_of sv_int))) (so_of sv_non)) (sss_one (ss_ret (se_of sv_bl))) sss_nil)
  (sss_cons (ss_if (st_cmp (cd_eq hu) (so_of (sv_ix hu (so_var (i := 6) rfl (.inl rfl)) (so_of sv_int))) (so_var (i := 2) rfl (.inl rfl))) (sss_one (ss_ret (se_of sv_bl))) sss_nil)
  (sss_cons (ss_if (PW.pt (sw_or (st_cmp cd_is (so_var (i := 7) rfl (.inl rfl)) (so_of sv_non)) (sw_or1 (st_cmp cd_lt (so_of (sv_ix hu (so_var (i := 6) rfl (.inl rfl)) (so_of sv_int))) (so_var (i := 7) rfl (.inl rfl)))))) (sss_one (ss_ret (se_of sv_bl))) sss_nil)
  (sss_one (ss_ret (se_of (sv_or (sv_not (sv_ix hu (so_var (i := 0) rfl (.inl rfl)) (so_of (sv_gint rfl G.BARS)))) (sv_one (sv_not (sv_ofE (se_call c_is_good hr (by decide) rfl (sa_cons (sv_var (i := 0) rfl (.inl rfl)) (sa_cons (sv_var (i := 6) rfl (.inl rfl)) sa_nil))))))))))))))))

theorem ok_come {P : Program} {w : World} {K : PySem.W.Frag} {mg : Str → Option Value} {base : Heap} (G : GF P w K mg)  {f : Addr} {fd : FuncData}
    (F : FunD K "come" "come" (defArgs (top 57)) (defBody (top 57)) (defScope (top 57)) [] [] f fd) (hmg : mg "come" = some (.ref f)) : CalD P w K mg base 1 "come" 3 f_come := by
  have nd : (["names", "holder", "name", "number"] : List Str).Nodup := by decide +kernel
  refine cal_body (N := ["names", "holder", "name", "number"]) (ps := ["names", "holder", "name"]) (k := 0) F hmg (F.bindsN fun _ _ _ _ _ _ us hl => match us, hl with | [_, _, _], _ => rfl) ⟨rfl, rfl, rfl, nd, rfl, by decide +kernel, by decide +kernel⟩ rfl rfl (by decide) fun cdv A outer s H E hr => ?_
  have hu := rm_of (X := (cxOf L2.CX0 P w K mg base ["names", "holder", "name", "number"] "come" (defScope (top 57)) f cdv A outer s H E).nox) hr
  exact (sss_cons (ss_set (i := 3) nd rfl (.inl rfl) sv_int)
  (sss_cons (ss_if (st_cmp (cd_in hu) (so_var (i := 2) rfl (.inl rfl)) (so_var (i := 0) rfl (.inl rfl))) (sss_one (ss_set (i := 3) nd rfl (.inl rfl) (sv_bin od_add (so_of (sv_ix hu (so_of (sv_ix hu (so_var (i := 0) rfl (.inl rfl)) (so_var (i := 2) rfl (.inl rfl)))) (so_of sv_int))) (so_of (sv_intc rfl G.int (so_of (sv_cmp (cd_ne hu) (so_of (sv_ix hu (so_of (sv_ix hu (so_var (i := 0) rfl (.inl rfl)) (so_var (i := 2) rfl (.inl rfl)))) (so_of sv_int))) (so_var (i := 1) rfl (.inl rfl))))))))) sss_nil)
  (sss_one (ss_ret (se_star (sv_var (i := 0) rfl (.inl rfl)) (sv_var (i := 2) rfl (.inl rfl)) (sv_tup (sa_cons (sv_var (i := 1) rfl (.inl rfl)) (sa_cons (sv_var (i := 1) rfl (.inl rfl)) (sa_cons (sv_var (i := 3) rfl (.inl rfl)) (sa_cons sv_int (sa_cons sv_non sa_nil)))))))))))

theorem ok_unheld {P : Program} {w : World} {K : PySem.W.Frag} {mg : Str → Option Value} {base : Heap} (G : GF P w K mg)  {f : Addr} {fd : FuncData}
    (F : FunD K "unheld" "unheld" (defArgs (top 58)) (defBody (top 58)) (defScope (top 58)) [] [] f fd) (hmg : mg "unheld" = some (.ref f)) : CalD P w K mg base 1 "unheld" 3 f_unheld := by
  have nd : (["names", "name", "forward", "record"] : List Str).Nodup := by decide +kernel
  refine cal_body (N := ["names", "name", "forward", "record"]) (ps := ["names", "name", "forward"]) (k := 0) F hmg (F.bindsN fun _ _ _ _ _ _ us hl => match us, hl with | [_, _, _], _ => rfl) ⟨rfl, rfl, rfl, nd, rfl, by decide +kernel, by decide +kernel⟩ rfl rfl (by decide) fun cdv A outer s H E hr => ?_
  have hu := rm_of (X := (cxOf L2.CX0 P w K mg base ["names", "name", "forward", "record"] "unheld" (defScope (top 58)) f cdv A outer s H E).nox) hr
  exact (sss_cons (ss_set (i := 3) nd rfl (.inl rfl) (sv_ix hu (so_var (i := 0) rfl (.inl rfl)) (so_var (i := 1) rfl (.inl rfl))))
  (sss_one (ss_ret (se_star (sv_var (i := 0) rfl (.inl rfl)) (sv_var (i := 1) rfl (.inl rfl)) (sv_tup (sa_cons sv_non (sa_cons (sv_ix hu (so_var (i := 3) rfl (.inl rfl)) (so_of sv_int)) (sa_cons (sv_ix hu (so_var (i := 3) rfl (.inl rfl)) (so_of sv_int)) (sa_cons sv_int (sa_cons (sv_var (i := 2) rfl (.inl rfl)) sa_nil))))))))))

theorem ok_goes_to {P : Program} {w : World} {K : PySem.W.Frag} {mg : Str → Option Value} {base : Heap} (G : GF P w K mg) (c_is_good : CalD P w K mg base 1 "is_good" 2 f_is_good) {f : Addr} {fd : FuncData}
    (F : FunD K "goes_to" "goes_to" (defArgs (top 59)) (defBody (top 59)) (defScope (top 59)) [] [] f fd) (hmg : mg "goes_to" = some (.ref f)) : CalD P w K mg base 2 "goes_to" 4 f_goes_to := by
  have nd : (["rule", "state", "name", "number", "names", "links", "hop", "record"] : List Str).Nodup := by decide +kernel
  refine cal_body (N := ["rule", "state", "name", "number", "names", "links", "hop", "record"]) (ps := ["rule", "state", "name", "number"]) (k := 1) F hmg (F.bindsN fun _ _ _ _ _ _ us hl => match us, hl with | [_, _, _, _], _ => rfl) ⟨rfl, rfl, rfl, nd, rfl, by decide +kernel, by decide +kernel⟩ rfl rfl (by decide) fun cdv A outer s H E hr => ?_
  have hu := rm_of (X := (cxOf L2.CX0 P w K mg base ["rule", "state", "name", "number", "names", "links", "hop", "record"] "goes_to" (defScope (top 59)) f cdv A outer s H E).nox) hr
  exact (sss_cons (ss_asg (is := [4, 5]) (sv_var (i := 1) rfl (.inl rfl)) (sg_tup rfl (sgs_cons nd rfl (.inl rfl) (sgs_cons nd rfl (.inl rfl) sgs_nil))))
  (sss_cons (ss_for (is := [6]) PassesOwn.never rfl (sf_range rfl G.range (sv_bin od_add (so_of (sv_ix hu (so_var (i := 0) rfl (.inl rfl)) (so_of (sv_gint rfl G.HOPS)))) (so_of sv_int))) (sg_name nd rfl (.inl rfl)) (sss_cons (ss_set (i := 7) nd rfl (.inl rfl) (sv_ix hu (so_var (i := 4) rfl (.inl rfl)) (so_var (i := 2) rfl (.inl rfl))))
  (sss_cons (ss_if (st_cmp (cd_ne hu) (so_of (sv_bin od_mod (so_of (sv_bin od_sub (so_of (sv_ix hu (so_var (i := 7) rfl (.inl rfl)) (so_of sv_int))) (so_var (i := 3) rfl (.inl rfl)))) (so_of (sv_ix hu (so_var (i := 0) rfl (.inl rfl)) (so_of (sv_gint rfl G.MARKS)))))) (so_of sv_int)) (sss_one (ss_ret (se_of (sv_tup (sa_cons sv_non (sa_cons sv_non sa_nil)))))) sss_nil)
  (sss_cons (ss_if (st_cmp cd_isnot (so_of (sv_ix hu (so_var (i := 7) rfl (.inl rfl)) (so_of sv_int))) (so_of sv_non)) (sss_one (ss_ret (se_of (sv_tup (sa_cons (sv_var (i := 2) rfl (.inl rfl)) (sa_cons (sv_ix hu (so_var (i := 7) rfl (.inl rfl)) (so_of sv_int)) sa_nil)))))) sss_nil)
  (sss_cons (ss_if (st_not (st_val (sv_ofE (se_call c_is_good hr (by decide) rfl (sa_cons (sv_var (i := 0) rfl (.inl rfl)) (sa_cons (sv_var (i := 7) rfl (.inl rfl)) sa_nil)))))) (sss_one (ss_ret (se_of (sv_tup (sa_cons sv_non (sa_cons sv_non sa_nil)))))) sss_nil)
  (sss_one (ss_asg (is := [2, 3]) (sv_ix hu (so_var (i := 7) rfl (.inl rfl)) (so_of sv_int)) (sg_tup rfl (sgs_cons nd rfl (.inl rfl) (sgs_cons nd rfl (.inl rfl) sgs_nil))))))))))
  (sss_one (ss_ret (se_of (sv_tup (sa_cons sv_non (sa_cons sv_non sa_nil))))))))

theorem ok_is_dead {P : Program} {w : World} {K : PySem.W.Frag} {mg : Str → Option Value} {base : Heap} (G : GF P w K mg)  {f : Addr} {fd : FuncData}
    (F : FunD K "is_dead" "is_dead" (defArgs (top 60)) (defBody (top 60)) (defScope (top 60)) [] [] f fd) (hmg : mg "is_dead" = some (.ref f)) : CalD P w K mg base 1 "is_dead" 2 f_is_dead := by
  have nd : (["rule", "link", "life"] : List Str).Nodup := by decide +kernel
  refine cal_body (N := ["rule", "link", "life"]) (ps := ["rule", "link"]) (k := 0) F hmg (F.bindsN fun _ _ _ _ _ _ us hl => match us, hl with | [_, _], _ => rfl) ⟨rfl, rfl, rfl, nd, rfl, by decide +kernel, by decide +kernel⟩ rfl rfl (by decide) fun cdv A outer s H E hr => ?_
  have hu := rm_of (X := (cxOf L2.CX0 P w K mg base ["rule", "link", "life"] "is_dead" (defScope (top 60)) f cdv A outer s H E).nox) hr
  exact (sss_cons (ss_set (i := 2) nd rfl (.inl rfl) (sv_ix hu (so_var (i := 0) rfl (.inl rfl)) (so_of (sv_gint rfl G.LIFE))))
  (sss_one (ss_ret (se_of (sv_and (sv_cmp cd_isnot (so_var (i := 2) rfl (.inl rfl)) (so_of sv_non)) (sv_one (sv_cmp cd_gt (so_of (sv_ix hu (so_var (i := 1) rfl (.inl rfl)) (so_of sv_int))) (so_var (i := 2) rfl (.inl rfl)))))))))

theorem ok_led_to {P : Program} {w : World} {K : PySem.W.Frag} {mg : Str → Option Value} {base : Heap} (G : GF P w K mg) (c_is_dead : CalD P w K mg base 1 "is_dead" 2 f_is_dead) (c_goes_to : CalD P w K mg base 2 "goes_to" 4 f_goes_to) {f : Addr} {fd : FuncData}
    (F : FunD K "led_to" "led_to" (defArgs (top 61)) (defBody (top 61)) (defScope (top 61)) [] [] f fd) (hmg : mg "led_to" = some (.ref f)) : CalD P w K mg base 3 "led_to" 3 f_led_to := by
  have nd : (["rule", "state", "link"] : List Str).Nodup := by decide +kernel
  refine cal_body (N := ["rule", "state", "link"]) (ps := ["rule", "state", "link"]) (k := 2) F hmg (F.bindsN fun _ _ _ _ _ _ us hl => match us, hl with | [_, _, _], _ => rfl) ⟨rfl, rfl, rfl, nd, rfl, by decide +kernel, by decide +kernel⟩ rfl rfl (by decide) fun cdv A outer s H E hr => ?_
  have hu := rm_of (X := (cxOf L2.CX0 P w K mg base ["rule", "state", "link"] "led_to" (defScope (top 61)) f cdv A outer s H E).nox) hr
  exact (sss_cons (ss_if (st_val (sv_ofE (se_call c_is_dead hr (by decide) rfl (sa_cons (sv_var (i := 0) rfl (.inl rfl)) (sa_cons (sv_var (i := 2) rfl (.inl rfl)) sa_nil))))) (sss_one (ss_ret (se_of (sv_tup (sa_cons sv_non (sa_cons sv_non sa_nil)))))) sss_nil)
  (sss_one (ss_ret (se_call c_goes_to hr (by decide) rfl (sa_cons (sv_var (i := 0) rfl (.inl rfl)) (sa_cons (sv_var (i := 1) rfl (.inl rfl)) (sa_cons (sv_ix hu (so_var (i := 2) rfl (.inl rfl)) (so_of sv_int)) (sa_cons (sv_ix hu (so_var (i := 2) rfl (.inl rfl)) (so_of sv_int)) sa_nil))))))))

theorem ok_threads {P : Program} {w : World} {K : PySem.W.Frag} {mg : Str → Option Value} {base : Heap} (G : GF P w K mg)  {f : Addr} {fd : FuncData}
    (F : FunD K "threads" "threads" (defArgs (top 62)) (defBody (top 62)) (defScope (top 62)) [] [] f fd) (hmg : mg "threads" = some (.ref f)) : CalD P w K mg base 1 "threads" 3 f_threads := by
  have nd : (["links", "name", "later", "link"] : List Str).Nodup := by decide +kernel
  refine cal_body (N := ["links", "name", "later", "link"]) (ps := ["links", "name", "later"]) (k := 0) F hmg (F.bindsN fun _ _ _ _ _ _ us hl => match us, hl with | [_, _, _], _ => rfl) ⟨rfl, rfl, rfl, nd, rfl, by decide +kernel, by decide +kernel⟩ rfl rfl (by decide) fun cdv A outer s H E hr => ?_
  have hu := rm_of (X := (cxOf L2.CX0 P w K mg base ["links", "name", "later", "link"] "threads" (defScope (top 62)) f cdv A outer s H E).nox) hr
  exact (sss_one (ss_ret (se_of (sv_tuple rfl G.tuple (so_ofE (se_lc (own := [("link", 3)]) (is := [3]) rfl nd (sf_tup (sv_var (i := 0) rfl (.inl rfl))) (blkOk_by (by rfl)) (by decide) (fun _ _ _ _ _ => (sg_name nd rfl (.inl rfl))) (fun _ _ _ _ _ => sts_nil) (fun _ _ _ _ _ => (sv_bin od_add (so_of (sv_sl (so_var (i := 3) rfl (.inl rfl)) si_none (si_some sv_int))) (so_of (sv_tup (sa_cons (sv_if (st_cmp (cd_eq hu) (so_of (sv_ix hu (so_var (i := 3) rfl (.inl rfl)) (so_of sv_int))) (so_var (i := 1) rfl (.inr (.inl rfl)))) (sv_var (i := 2) rfl (.inr (.inl rfl))) (sv_ix hu (so_var (i := 3) rfl (.inl rfl)) (so_of sv_int))) sa_nil)))))))))))

theorem ok_taken {P : Program} {w : World} {K : PySem.W.Frag} {mg : Str → Option Value} {base : Heap} (G : GF P w K mg) (c_is_open : CalD P w K mg base 2 "is_open" 4 f_is_open) (c_come : CalD P w K mg base 1 "come" 3 f_come) {f : Addr} {fd : FuncData}
    (F : FunD K "taken" "taken" (defArgs (top 63)) (defBody (top 63)) (defScope (top 63)) [] [] f fd) (hmg : mg "taken" = some (.ref f)) : CalD P w K mg base 3 "taken" 4 f_taken := by
  have nd : (["rule", "state", "holder", "name"] : List Str).Nodup := by decide +kernel
  refine cal_body (N := ["rule", "state", "holder", "name"]) (ps := ["rule", "state", "holder", "name"]) (k := 2) F hmg (F.bindsN fun _ _ _ _ _ _ us hl => match us, hl with | [_, _, _, _], _ => rfl) ⟨rfl, rfl, rfl, nd, rfl, by decide +kernel, by decide +kernel⟩ rfl rfl (by decide) fun cdv A outer s H E hr => ?_
  have hu := rm_of (X := (cxOf L2.CX0 P w K mg base ["rule", "state", "holder", "name"] "taken" (defScope (top 63)) f cdv A outer s H E).nox) hr
  exact (sss_cons (ss_if (st_not (st_val (sv_ofE (se_call c_is_open hr (by decide) rfl (sa_cons (sv_var (i := 0) rfl (.inl rfl)) (sa_cons (sv_var (i := 1) rfl (.inl rfl)) (sa_cons (sv_var (i := 2) rfl (.inl rfl)) (sa_cons (sv_var (i := 3) rfl (.inl rfl)) sa_nil)))))))) (sss_one (ss_ret (se_of sv_non))) sss_nil)
  (sss_one (ss_ret (se_of (sv_tup (sa_cons (sv_ofE (se_call c_come hr (by decide) rfl (sa_cons (sv_ix hu (so_var (i := 1) rfl (.inl rfl)) (so_of sv_int)) (sa_cons (sv_var (i := 2) rfl (.inl rfl)) (sa_cons (sv_var (i := 3) rfl (.inl rfl)) sa_nil))))) (sa_cons (sv_ix hu (so_var (i := 1) rfl (.inl rfl)) (so_of sv_int)) sa_nil)))))))

theorem ok_held_by {P : Program} {w : World} {K : PySem.W.Frag} {mg : Str → Option Value} {base : Heap} (G : GF P w K mg)  {f : Addr} {fd : FuncData}
    (F : FunD K "held_by" "held_by" (defArgs (top 64)) (defBody (top 64)) (defScope (top 64)) [] [] f fd) (hmg : mg "held_by" = some (.ref f)) : CalD P w K mg base 1 "held_by" 2 f_held_by := by
  have nd : (["state", "name"] : List Str).Nodup := by decide +kernel
  refine cal_body (N := ["state", "name"]) (ps := ["state", "name"]) (k := 0) F hmg (F.bindsN fun _ _ _ _ _ _ us hl => match us, hl with | [_, _], _ => rfl) ⟨rfl, rfl, rfl, nd, rfl, by decide +kernel, by decide +kernel⟩ rfl rfl (by decide) fun cdv A outer s H E hr => ?_
  have hu := rm_of (X := (cxOf L2.CX0 P w K mg base ["state", "name"] "held_by" (defScope (top 64)) f cdv A outer s H E).nox) hr
  exact (sss_one (ss_ret (se_of (sv_if (st_cmp (cd_in hu) (so_var (i := 1) rfl (.inl rfl)) (so_of (sv_ix hu (so_var (i := 0) rfl (.inl rfl)) (so_of sv_int)))) (sv_ix hu (so_of (sv_ix hu (so_of (sv_ix hu (so_var (i := 0) rfl (.inl rfl)) (so_of sv_int))) (so_var (i := 1) rfl (.inl rfl)))) (so_of sv_int)) sv_non))))

theorem ok_given_up {P : Program} {w : World} {K : PySem.W.Frag} {mg : Str → Option Value} {base : Heap} (G : GF P w K mg) (c_held_by : CalD P w K mg base 1 "held_by" 2 f_held_by) (c_threads : CalD P w K mg base 1 "threads" 3 f_threads) (c_unheld : CalD P w K mg base 1 "unheld" 3 f_unheld) {f : Addr} {fd : FuncData}
    (F : FunD K "given_up" "given_up" (defArgs (top 65)) (defBody (top 65)) (defScope (top 65)) [] [] f fd) (hmg : mg "given_up" = some (.ref f)) : CalD P w K mg base 2 "given_up" 3 f_given_up := by
  have nd : (["rule", "state", "name"] : List Str).Nodup := by decide +kernel
  refine cal_body (N := ["rule", "state", "name"]) (ps := ["rule", "state", "name"]) (k := 1) F hmg (F.bindsN fun _ _ _ _ _ _ us hl => match us, hl with | [_, _, _], _ => rfl) ⟨rfl, rfl, rfl, nd, rfl, by decide +kernel, by decide +kernel⟩ rfl rfl (by decide) fun cdv A outer s H E hr => ?_
  have hu := rm_of (X := (cxOf L2.CX0 P w K mg base ["rule", "state", "name"] "given_up" (defScope (top 65)) f cdv A outer s H E).nox) hr
  exact (sss_cons (ss_if (st_cmp cd_is (so_ofE (se_call c_held_by hr (by decide) rfl (sa_cons (sv_var (i := 1) rfl (.inl rfl)) (sa_cons (sv_var (i := 2) rfl (.inl rfl)) sa_nil)))) (so_of sv_non)) (sss_one (ss_ret (se_of sv_non))) sss_nil)
  (sss_one (ss_ret (se_of (sv_tup (sa_cons (sv_ofE (se_call c_unheld hr (by decide) rfl (sa_cons (sv_ix hu (so_var (i := 1) rfl (.inl rfl)) (so_of sv_int)) (sa_cons (sv_var (i := 2) rfl (.inl rfl)) (sa_cons sv_non sa_nil))))) (sa_cons (sv_ofE (se_call c_threads hr (by decide) rfl (sa_cons (sv_ix hu (so_var (i := 1) rfl (.inl rfl)) (so_of sv_int)) (sa_cons (sv_var (i := 2) rfl (.inl rfl)) (sa_cons sv_non sa_nil))))) sa_nil)))))))

theorem ok_changed {P : Program} {w : World} {K : PySem.W.Frag} {mg : Str → Option Value} {base : Heap} (G : GF P w K mg) (c_held_by : CalD P w K mg base 1 "held_by" 2 f_held_by) (c_is_open : CalD P w K mg base 2 "is_open" 4 f_is_open) (c_come : CalD P w K mg base 1 "come" 3 f_come) (c_threads : CalD P w K mg base 1 "threads" 3 f_threads) (c_unheld : CalD P w K mg base 1 "unheld" 3 f_unheld) {f : Addr} {fd : FuncData}
    (F : FunD K "changed" "changed" (defArgs (top 66)) (defBody (top 66)) (defScope (top 66)) [] [] f fd) (hmg : mg "changed" = some (.ref f)) : CalD P w K mg base 3 "changed" 4 f_changed := by
  have nd : (["rule", "state", "name", "new", "holder", "names"] : List Str).Nodup := by decide +kernel
  refine cal_body (N := ["rule", "state", "name", "new", "holder", "names"]) (ps := ["rule", "state", "name", "new"]) (k := 2) F hmg (F.bindsN fun _ _ _ _ _ _ us hl => match us, hl with | [_, _, _, _], _ => rfl) ⟨rfl, rfl, rfl, nd, rfl, by decide +kernel, by decide +kernel⟩ rfl rfl (by decide) fun cdv A outer s H E hr => ?_
  have hu := rm_of (X := (cxOf L2.CX0 P w K mg base ["rule", "state", "name", "new", "holder", "names"] "changed" (defScope (top 66)) f cdv A outer s H E).nox) hr
  exact (sss_cons (ss_set (i := 4) nd rfl (.inl rfl) (sv_ofE (se_call c_held_by hr (by decide) rfl (sa_cons (sv_var (i := 1) rfl (.inl rfl)) (sa_cons (sv_var (i := 2) rfl (.inl rfl)) sa_nil)))))
  (sss_cons (ss_if (PW.pt (sw_or (st_cmp cd_is (so_var (i := 4) rfl (.inl rfl)) (so_of sv_non)) (sw_or (st_cmp (cd_eq hu) (so_var (i := 2) rfl (.inl rfl)) (so_var (i := 3) rfl (.inl rfl))) (sw_or1 (st_not (st_val (sv_ofE (se_call c_is_open hr (by decide) rfl (sa_cons (sv_var (i := 0) rfl (.inl rfl)) (sa_cons (sv_var (i := 1) rfl (.inl rfl)) (sa_cons (sv_var (i := 4) rfl (.inl rfl)) (sa_cons (sv_var (i := 3) rfl (.inl rfl)) sa_nil)))))))))))) (sss_one (ss_ret (se_of sv_non))) sss_nil)
  (sss_cons (ss_set (i := 5) nd rfl (.inl rfl) (sv_ofE (se_call c_come hr (by decide) rfl (sa_cons (sv_ix hu (so_var (i := 1) rfl (.inl rfl)) (so_of sv_int)) (sa_cons (sv_var (i := 4) rfl (.inl rfl)) (sa_cons (sv_var (i := 3) rfl (.inl rfl)) sa_nil))))))
  (sss_one (ss_ret (se_of (sv_tup (sa_cons (sv_ofE (se_call c_unheld hr (by decide) rfl (sa_cons (sv_var (i := 5) rfl (.inl rfl)) (sa_cons (sv_var (i := 2) rfl (.inl rfl)) (sa_cons (sv_tup (sa_cons (sv_var (i := 3) rfl (.inl rfl)) (sa_cons (sv_ix hu (so_of (sv_ix hu (so_var (i := 5) rfl (.inl rfl)) (so_var (i := 3) rfl (.inl rfl)))) (so_of sv_int)) sa_nil))) sa_nil))))) (sa_cons (sv_ofE (se_call c_threads hr (by decide) rfl (sa_cons (sv_ix hu (so_var (i := 1) rfl (.inl rfl)) (so_of sv_int)) (sa_cons (sv_var (i := 2) rfl (.inl rfl)) (sa_cons (sv_var (i := 3) rfl (.inl rfl)) sa_nil))))) sa_nil)))))))))

theorem ok_passed {P : Program} {w : World} {K : PySem.W.Frag} {mg : Str → Option Value} {base : Heap} (G : GF P w K mg) (c_held_by : CalD P w K mg base 1 "held_by" 2 f_held_by) (c_threads : CalD P w K mg base 1 "threads" 3 f_threads) {f : Addr} {fd : FuncData}
    (F : FunD K "passed" "passed" (defArgs (top 67)) (defBody (top 67)) (defScope (top 67)) [] [] f fd) (hmg : mg "passed" = some (.ref f)) : CalD P w K mg base 2 "passed" 4 f_passed := by
  have nd : (["rule", "state", "name", "holder", "here", "number"] : List Str).Nodup := by decide +kernel
  refine cal_body (N := ["rule", "state", "name", "holder", "here", "number"]) (ps := ["rule", "state", "name", "holder"]) (k := 1) F hmg (F.bindsN fun _ _ _ _ _ _ us hl => match us, hl with | [_, _, _, _], _ => rfl) ⟨rfl, rfl, rfl, nd, rfl, by decide +kernel, by decide +kernel⟩ rfl rfl (by decide) fun cdv A outer s H E hr => ?_
  have hu := rm_of (X := (cxOf L2.CX0 P w K mg base ["rule", "state", "name", "holder", "here", "number"] "passed" (defScope (top 67)) f cdv A outer s H E).nox) hr
  exact (sss_cons (ss_set (i := 4) nd rfl (.inl rfl) (sv_ofE (se_call c_held_by hr (by decide) rfl (sa_cons (sv_var (i := 1) rfl (.inl rfl)) (sa_cons (sv_var (i := 2) rfl (.inl rfl)) sa_nil)))))
  (sss_cons (ss_if (PW.pt (sw_or (st_cmp (cd_eq hu) (so_of (sv_ix hu (so_var (i := 0) rfl (.inl rfl)) (so_of (sv_gint rfl G.PASSING)))) (so_of (sv_gstr rfl G.NO))) (sw_or (st_cmp cd_is (so_var (i := 4) rfl (.inl rfl)) (so_of sv_non)) (sw_or1 (st_cmp (cd_eq hu) (so_var (i := 4) rfl (.inl rfl)) (so_var (i := 3) rfl (.inl rfl))))))) (sss_one (ss_ret (se_of sv_non))) sss_nil)
  (sss_cons (ss_set (i := 5) nd rfl (.inl rfl) (sv_bin od_add (so_of (sv_ix hu (so_of (sv_ix hu (so_of (sv_ix hu (so_var (i := 1) rfl (.inl rfl)) (so_of sv_int))) (so_var (i := 2) rfl (.inl rfl)))) (so_of sv_int))) (so_of (sv_intc rfl G.int (so_of (sv_cmp (cd_eq hu) (so_of (sv_ix hu (so_var (i := 0) rfl (.inl rfl)) (so_of (sv_gint rfl G.PASSING)))) (so_of (sv_gstr rfl G.COUNTED))))))))
  (sss_one (ss_ret (se_of (sv_tup (sa_cons (sv_ofE (se_star (sv_ix hu (so_var (i := 1) rfl (.inl rfl)) (so_of sv_int)) (sv_var (i := 2) rfl (.inl rfl)) (sv_tup (sa_cons (sv_var (i := 3) rfl (.inl rfl)) (sa_cons (sv_var (i := 3) rfl (.inl rfl)) (sa_cons (sv_var (i := 5) rfl (.inl rfl)) (sa_cons sv_int (sa_cons sv_non sa_nil)))))))) (sa_cons (sv_ofE (se_call c_threads hr (by decide) rfl (sa_cons (sv_ix hu (so_var (i := 1) rfl (.inl rfl)) (so_of sv_int)) (sa_cons (sv_var (i := 2) rfl (.inl rfl)) (sa_cons sv_non sa_nil))))) sa_nil)))))))))

theorem ok_written {P : Program} {w : World} {K : PySem.W.Frag} {mg : Str → Option Value} {base : Heap} (G : GF P w K mg) (c_held_by : CalD P w K mg base 1 "held_by" 2 f_held_by) {f : Addr} {fd : FuncData}
    (F : FunD K "written" "written" (defArgs (top 68)) (defBody (top 68)) (defScope (top 68)) [] [] f fd) (hmg : mg "written" = some (.ref f)) : CalD P w K mg base 2 "written" 3 f_written := by
  have nd : (["rule", "state", "name", "holder"] : List Str).Nodup := by decide +kernel
  refine cal_body (N := ["rule", "state", "name", "holder"]) (ps := ["rule", "state", "name"]) (k := 1) F hmg (F.bindsN fun _ _ _ _ _ _ us hl => match us, hl with | [_, _, _], _ => rfl) ⟨rfl, rfl, rfl, nd, rfl, by decide +kernel, by decide +kernel⟩ rfl rfl (by decide) fun cdv A outer s H E hr => ?_
  have hu := rm_of (X := (cxOf L2.CX0 P w K mg base ["rule", "state", "name", "holder"] "written" (defScope (top 68)) f cdv A outer s H E).nox) hr
  exact (sss_cons (ss_set (i := 3) nd rfl (.inl rfl) (sv_ofE (se_call c_held_by hr (by decide) rfl (sa_cons (sv_var (i := 1) rfl (.inl rfl)) (sa_cons (sv_var (i := 2) rfl (.inl rfl)) sa_nil)))))
  (sss_cons (ss_if (st_cmp cd_is (so_var (i := 3) rfl (.inl rfl)) (so_of sv_non)) (sss_one (ss_ret (se_of sv_non))) sss_nil)
  (sss_one (ss_ret (se_of (sv_tup (sa_cons (sv_ix hu (so_var (i := 1) rfl (.inl rfl)) (so_of sv_int)) (sa_cons (sv_bin od_add (so_of (sv_ix hu (so_var (i := 1) rfl (.inl rfl)) (so_of sv_int))) (so_of (sv_tup (sa_cons (sv_tup (sa_cons (sv_var (i := 2) rfl (.inl rfl)) (sa_cons (sv_ix hu (so_of (sv_ix hu (so_of (sv_ix hu (so_var (i := 1) rfl (.inl rfl)) (so_of sv_int))) (so_var (i := 2) rfl (.inl rfl)))) (so_of sv_int)) (sa_cons (sv_var (i := 3) rfl (.inl rfl)) (sa_cons sv_int (sa_cons (sv_var (i := 2) rfl (.inl rfl)) sa_nil)))))) sa_nil)))) sa_nil))))))))

theorem ok_copied {P : Program} {w : World} {K : PySem.W.Frag} {mg : Str → Option Value} {base : Heap} (G : GF P w K mg) (c_is_dead : CalD P w K mg base 1 "is_dead" 2 f_is_dead) (c_led_to : CalD P w K mg base 3 "led_to" 3 f_led_to) {f : Addr} {fd : FuncData}
    (F : FunD K "copied" "copied" (defArgs (top 69)) (defBody (top 69)) (defScope (top 69)) [] [] f fd) (hmg : mg "copied" = some (.ref f)) : CalD P w K mg base 4 "copied" 3 f_copied := by
  have nd : (["rule", "state", "place", "name", "number", "meant", "age", "thread", "holder"] : List Str).Nodup := by decide +kernel
  refine cal_body (N := ["rule", "state", "place", "name", "number", "meant", "age", "thread", "holder"]) (ps := ["rule", "state", "place"]) (k := 3) F hmg (F.bindsN fun _ _ _ _ _ _ us hl => match us, hl with | [_, _, _], _ => rfl) ⟨rfl, rfl, rfl, nd, rfl, by decide +kernel, by decide +kernel⟩ rfl rfl (by decide) fun cdv A outer s H E hr => ?_
  have hu := rm_of (X := (cxOf L2.CX0 P w K mg base ["rule", "state", "place", "name", "number", "meant", "age", "thread", "holder"] "copied" (defScope (top 69)) f cdv A outer s H E).nox) hr
  exact (sss_cons (ss_if (PW.pt (sw_or (st_cmp (cd_eq hu) (so_of (sv_ix hu (so_var (i := 0) rfl (.inl rfl)) (so_of (sv_gint rfl G.COPIES)))) (so_of (sv_gstr rfl G.NO))) (sw_or (st_cmp cd_ge (so_var (i := 2) rfl (.inl rfl)) (so_of (sv_len rfl G.len (so_of (sv_ix hu (so_var (i := 1) rfl (.inl rfl)) (so_of sv_int)))))) (sw_or1 (st_val (sv_ofE (se_call c_is_dead hr (by decide) rfl (sa_cons (sv_var (i := 0) rfl (.inl rfl)) (sa_cons (sv_ix hu (so_of (sv_ix hu (so_var (i := 1) rfl (.inl rfl)) (so_of sv_int))) (so_var (i := 2) rfl (.inl rfl))) sa_nil))))))))) (sss_one (ss_ret (se_of sv_non))) sss_nil)
  (sss_cons (ss_asg (is := [3, 4, 5, 6, 7]) (sv_ix hu (so_of (sv_ix hu (so_var (i := 1) rfl (.inl rfl)) (so_of sv_int))) (so_var (i := 2) rfl (.inl rfl))) (sg_tup rfl (sgs_cons nd rfl (.inl rfl) (sgs_cons nd rfl (.inl rfl) (sgs_cons nd rfl (.inl rfl) (sgs_cons nd rfl (.inl rfl) (sgs_cons nd rfl (.inl rfl) sgs_nil)))))))
  (sss_cons (ss_if (st_cmp (cd_eq hu) (so_of (sv_ix hu (so_var (i := 0) rfl (.inl rfl)) (so_of (sv_gint rfl G.COPIES)))) (so_of (sv_gstr rfl G.ANEW))) (sss_cons (ss_asg (is := [3, 8]) (sv_ofE (se_call c_led_to hr (by decide) rfl (sa_cons (sv_var (i := 0) rfl (.inl rfl)) (sa_cons (sv_var (i := 1) rfl (.inl rfl)) (sa_cons (sv_ix hu (so_of (sv_ix hu (so_var (i := 1) rfl (.inl rfl)) (so_of sv_int))) (so_var (i := 2) rfl (.inl rfl))) sa_nil))))) (sg_tup rfl (sgs_cons nd rfl (.inl rfl) (sgs_cons nd rfl (.inl rfl) sgs_nil))))
  (sss_cons (ss_if (st_cmp cd_is (so_var (i := 8) rfl (.inl rfl)) (so_of sv_non)) (sss_one (ss_ret (se_of sv_non))) sss_nil)
  (sss_one (ss_set (i := 4) nd rfl (.inl rfl) (sv_ix hu (so_of (sv_ix hu (so_of (sv_ix hu (so_var (i := 1) rfl (.inl rfl)) (so_of sv_int))) (so_var (i := 3) rfl (.inl rfl)))) (so_of sv_int)))))) sss_nil)
  (sss_one (ss_ret (se_of (sv_tup (sa_cons (sv_ix hu (so_var (i := 1) rfl (.inl rfl)) (so_of sv_int)) (sa_cons (sv_bin od_add (so_of (sv_ix hu (so_var (i := 1) rfl (.inl rfl)) (so_of sv_int))) (so_of (sv_tup (sa_cons (sv_tup (sa_cons (sv_var (i := 3) rfl (.inl rfl)) (sa_cons (sv_var (i := 4) rfl (.inl rfl)) (sa_cons (sv_var (i := 5) rfl (.inl rfl)) (sa_cons sv_int (sa_cons (sv_var (i := 7) rfl (.inl rfl)) sa_nil)))))) sa_nil)))) sa_nil)))))))))

theorem ok_ticked {P : Program} {w : World} {K : PySem.W.Frag} {mg : Str → Option Value} {base : Heap} (G : GF P w K mg)  {f : Addr} {fd : FuncData}
    (F : FunD K "ticked" "ticked" (defArgs (top 70)) (defBody (top 70)) (defScope (top 70)) [] [] f fd) (hmg : mg "ticked" = some (.ref f)) : CalD P w K mg base 1 "ticked" 1 f_ticked := by
  have nd : (["state", "names", "name", "record", "link"] : List Str).Nodup := by decide +kernel
  refine cal_body (N := ["state", "names", "name", "record", "link"]) (ps := ["state"]) (k := 0) F hmg (F.bindsN fun _ _ _ _ _ _ us hl => match us, hl with | [_], _ => rfl) ⟨rfl, rfl, rfl, nd, rfl, by decide +kernel, by decide +kernel⟩ rfl rfl (by decide) fun cdv A outer s H E hr => ?_
  have hu := rm_of (X := (cxOf L2.CX0 P w K mg base ["state", "names", "name", "record", "link"] "ticked" (defScope (top 70)) f cdv A outer s H E).nox) hr
  exact (sss_cons (ss_setO (i := 1) nd rfl (.inl rfl) se_newS)
  (sss_cons (ss_items (is := [2, 3]) PassesOwn.never rfl (sv_ix hu (so_var (i := 0) rfl (.inl rfl)) (so_of sv_int)) (sg_tup rfl (sgs_cons nd rfl (.inl rfl) (sgs_cons nd rfl (.inl rfl) sgs_nil))) (sss_one (ss_put (i := 1) hu rfl (.inl rfl) (sv_var (i := 2) rfl (.inl rfl)) (sv_bin od_add (so_of (sv_bin od_add (so_of (sv_sl (so_var (i := 3) rfl (.inl rfl)) si_none (si_some sv_int))) (so_of (sv_tup (sa_cons (sv_bin od_add (so_of (sv_ix hu (so_var (i := 3) rfl (.inl rfl)) (so_of sv_int))) (so_of (sv_intc rfl G.int (so_of (sv_cmp cd_is (so_of (sv_ix hu (so_var (i := 3) rfl (.inl rfl)) (so_of sv_int))) (so_of sv_non)))))) sa_nil))))) (so_of (sv_sl (so_var (i := 3) rfl (.inl rfl)) (si_some sv_int) si_none))))))
  (sss_one (ss_frz (i := 1) (ss_ret (se_of (sv_tup (sa_cons (sv_var (i := 1) rfl (.inl rfl)) (sa_cons (sv_tuple rfl G.tuple (so_ofE (se_lc (own := [("link", 4)]) (is := [4]) rfl nd (sf_tup (sv_ix hu (so_var (i := 0) rfl (.inl rfl)) (so_of sv_int))) (blkOk_by (by rfl)) (by decide) (fun _ _ _ _ _ => (sg_name nd rfl (.inl rfl))) (fun _ _ _ _ _ => sts_nil) (fun _ _ _ _ _ => (sv_bin od_add (so_of (sv_bin od_add (so_of (sv_sl (so_var (i := 4) rfl (.inl rfl)) si_none (si_some sv_int))) (so_of (sv_tup (sa_cons (sv_bin od_add (so_of (sv_ix hu (so_var (i := 4) rfl (.inl rfl)) (so_of sv_int))) (so_of sv_int)) sa_nil))))) (so_of (sv_sl (so_var (i := 4) rfl (.inl rfl)) (si_some sv_int) si_none))))))) sa_nil)))))))))

theorem ok_stepped {P : Program} {w : World} {K : PySem.W.Frag} {mg : Str → Option Value} {base : Heap} (G : GF P w K mg) (c_ticked : CalD P w K mg base 1 "ticked" 1 f_ticked) (c_copied : CalD P w K mg base 4 "copied" 3 f_copied) (c_given_up : CalD P w K mg base 2 "given_up" 3 f_given_up) (c_written : CalD P w K mg base 2 "written" 3 f_written) (c_taken : CalD P w K mg base 3 "taken" 4 f_taken) (c_changed : CalD P w K mg base 3 "changed" 4 f_changed) (c_passed : CalD P w K mg base 2 "passed" 4 f_passed) {f : Addr} {fd : FuncData}
    (F : FunD K "stepped" "stepped" (defArgs (top 71)) (defBody (top 71)) (defScope (top 71)) [] [] f fd) (hmg : mg "stepped" = some (.ref f)) : CalD P w K mg base 5 "stepped" 3 f_stepped := by
  have nd : (["rule", "state", "event", "word"] : List Str).Nodup := by decide +kernel
  refine cal_body (N := ["rule", "state", "event", "word"]) (ps := ["rule", "state", "event"]) (k := 4) F hmg (F.bindsN fun _ _ _ _ _ _ us hl => match us, hl with | [_, _, _], _ => rfl) ⟨rfl, rfl, rfl, nd, rfl, by decide +kernel, by decide +kernel⟩ rfl rfl (by decide) fun cdv A outer s H E hr => ?_
  have hu := rm_of (X := (cxOf L2.CX0 P w K mg base ["rule", "state", "event", "word"] "stepped" (defScope (top 71)) f cdv A outer s H E).nox) hr
  exact (sss_cons (ss_set (i := 3) nd rfl (.inl rfl) (sv_ix hu (so_var (i := 2) rfl (.inl rfl)) (so_of sv_int)))
  (sss_cons (ss_if (st_cmp (cd_eq hu) (so_var (i := 3) rfl (.inl rfl)) (so_of sv_str)) (sss_one (ss_ret (se_call c_ticked hr (by decide) rfl (sa_cons (sv_var (i := 1) rfl (.inl rfl)) sa_nil)))) sss_nil)
  (sss_cons (ss_if (st_cmp (cd_eq hu) (so_var (i := 3) rfl (.inl rfl)) (so_of sv_str)) (sss_one (ss_ret (se_call c_copied hr (by decide) rfl (sa_cons (sv_var (i := 0) rfl (.inl rfl)) (sa_cons (sv_var (i := 1) rfl (.inl rfl)) (sa_cons (sv_ix hu (so_var (i := 2) rfl (.inl rfl)) (so_of sv_int)) sa_nil)))))) sss_nil)
  (sss_cons (ss_if (st_cmp (cd_eq hu) (so_var (i := 3) rfl (.inl rfl)) (so_of sv_str)) (sss_one (ss_ret (se_call c_given_up hr (by decide) rfl (sa_cons (sv_var (i := 0) rfl (.inl rfl)) (sa_cons (sv_var (i := 1) rfl (.inl rfl)) (sa_cons (sv_ix hu (so_var (i := 2) rfl (.inl rfl)) (so_of sv_int)) sa_nil)))))) sss_nil)
  (sss_cons (ss_if (st_cmp (cd_eq hu) (so_var (i := 3) rfl (.inl rfl)) (so_of sv_str)) (sss_one (ss_ret (se_call c_written hr (by decide) rfl (sa_cons (sv_var (i := 0) rfl (.inl rfl)) (sa_cons (sv_var (i := 1) rfl (.inl rfl)) (sa_cons (sv_ix hu (so_var (i := 2) rfl (.inl rfl)) (so_of sv_int)) sa_nil)))))) sss_nil)
  (sss_cons (ss_if (st_cmp (cd_eq hu) (so_var (i := 3) rfl (.inl rfl)) (so_of sv_str)) (sss_one (ss_ret (se_call c_taken hr (by decide) rfl (sa_cons (sv_var (i := 0) rfl (.inl rfl)) (sa_cons (sv_var (i := 1) rfl (.inl rfl)) (sa_cons (sv_ix hu (so_var (i := 2) rfl (.inl rfl)) (so_of sv_int)) (sa_cons (sv_ix hu (so_var (i := 2) rfl (.inl rfl)) (so_of sv_int)) sa_nil))))))) sss_nil)
  (sss_cons (ss_if (st_cmp (cd_eq hu) (so_var (i := 3) rfl (.inl rfl)) (so_of sv_str)) (sss_one (ss_ret (se_call c_changed hr (by decide) rfl (sa_cons (sv_var (i := 0) rfl (.inl rfl)) (sa_cons (sv_var (i := 1) rfl (.inl rfl)) (sa_cons (sv_ix hu (so_var (i := 2) rfl (.inl rfl)) (so_of sv_int)) (sa_cons (sv_ix hu (so_var (i := 2) rfl (.inl rfl)) (so_of sv_int)) sa_nil))))))) sss_nil)
  (sss_one (ss_ret (se_call c_passed hr (by decide) rfl (sa_cons (sv_var (i := 0) rfl (.inl rfl)) (sa_cons (sv_var (i := 1) rfl (.inl rfl)) (sa_cons (sv_ix hu (so_var (i := 2) rfl (.inl rfl)) (so_of sv_int)) (sa_cons (sv_ix hu (so_var (i := 2) rfl (.inl rfl)) (so_of sv_int)) sa_nil))))))))))))))

theorem ok_behind {P : Program} {w : World} {K : PySem.W.Frag} {mg : Str → Option Value} {base : Heap} (G : GF P w K mg) (c_stepped : CalD P w K mg base 5 "stepped" 3 f_stepped) {f : Addr} {fd : FuncData}
    (F : FunD K "behind" "behind" (defArgs (top 72)) (defBody (top 72)) (defScope (top 72)) [] [] f fd) (hmg : mg "behind" = some (.ref f)) : CalD P w K mg base 6 "behind" 3 f_behind := by
  have nd : (["rule", "state", "events", "event"] : List Str).Nodup := by decide +kernel
  refine cal_body (N := ["rule", "state", "events", "event"]) (ps := ["rule", "state", "events"]) (k := 5) F hmg (F.bindsN fun _ _ _ _ _ _ us hl => match us, hl with | [_, _, _], _ => rfl) ⟨rfl, rfl, rfl, nd, rfl, by decide +kernel, by decide +kernel⟩ rfl rfl (by decide) fun cdv A outer s H E hr => ?_
  have hu := rm_of (X := (cxOf L2.CX0 P w K mg base ["rule", "state", "events", "event"] "behind" (defScope (top 72)) f cdv A outer s H E).nox) hr
  exact (sss_cons (ss_for (is := [3]) PassesOwn.never rfl (sf_tup (sv_var (i := 2) rfl (.inl rfl))) (sg_name nd rfl (.inl rfl)) (sss_one (ss_set (i := 1) nd rfl (.inl rfl) (sv_ofE (se_if (st_cmp cd_isnot (so_var (i := 1) rfl (.inl rfl)) (so_of sv_non)) (se_call c_stepped hr (by decide) rfl (sa_cons (sv_var (i := 0) rfl (.inl rfl)) (sa_cons (sv_var (i := 1) rfl (.inl rfl)) (sa_cons (sv_var (i := 3) rfl (.inl rfl)) sa_nil)))) (se_of sv_non))))))
  (sss_one (ss_ret (se_of (sv_var (i := 1) rfl (.inl rfl))))))

theorem ok_status {P : Program} {w : World} {K : PySem.W.Frag} {mg : Str → Option Value} {base : Heap} (G : GF P w K mg) (c_end_of : CalD P w K mg base 1 "end_of" 1 f_end_of) {f : Addr} {fd : FuncData}
    (F : FunD K "status" "status" (defArgs (top 74)) (defBody (top 74)) (defScope (top 74)) [] [] f fd) (hmg : mg "status" = some (.ref f)) : CalD P w K mg base 2 "status" 1 f_status := by
  have nd : (["scene", "end"] : List Str).Nodup := by decide +kernel
  refine cal_body (N := ["scene", "end"]) (ps := ["scene"]) (k := 1) F hmg (F.bindsN fun _ _ _ _ _ _ us hl => match us, hl with | [_], _ => rfl) ⟨rfl, rfl, rfl, nd, rfl, by decide +kernel, by decide +kernel⟩ rfl rfl (by decide) fun cdv A outer s H E hr => ?_
  have hu := rm_of (X := (cxOf L2.CX0 P w K mg base ["scene", "end"] "status" (defScope (top 74)) f cdv A outer s H E).nox) hr
  exact (sss_cons (ss_set (i := 1) nd rfl (.inl rfl) (sv_ofE (se_call c_end_of hr (by decide) rfl (sa_cons (sv_var (i := 0) rfl (.inl rfl)) sa_nil))))
  (sss_cons (ss_if (st_cmp (cd_eq hu) (so_var (i := 1) rfl (.inl rfl)) (so_of (sv_gstr rfl G.THEIRS))) (sss_one (ss_ret (se_of (sv_gstr rfl G.ASTRAY)))) sss_nil)
  (sss_one (ss_ret (se_of (sv_if (PW.pt (sw_and (st_cmp cd_is (so_var (i := 1) rfl (.inl rfl)) (so_of sv_non)) (sw_and1 (st_cmp cd_isnot (so_of (sv_ix hu (so_var (i := 0) rfl (.inl rfl)) (so_of sv_int))) (so_of sv_non))))) (sv_gstr rfl G.LOST) sv_non))))))

theorem ok_doer_of {P : Program} {w : World} {K : PySem.W.Frag} {mg : Str → Option Value} {base : Heap} (G : GF P w K mg)  {f : Addr} {fd : FuncData}
    (F : FunD K "doer_of" "doer_of" (defArgs (top 75)) (defBody (top 75)) (defScope (top 75)) [] [] f fd) (hmg : mg "doer_of" = some (.ref f)) : CalD P w K mg base 1 "doer_of" 2 f_doer_of := by
  have nd : (["scene", "event", "who"] : List Str).Nodup := by decide +kernel
  refine cal_body (N := ["scene", "event", "who"]) (ps := ["scene", "event"]) (k := 0) F hmg (F.bindsN fun _ _ _ _ _ _ us hl => match us, hl with | [_, _], _ => rfl) ⟨rfl, rfl, rfl, nd, rfl, by decide +kernel, by decide +kernel⟩ rfl rfl (by decide) fun cdv A outer s H E hr => ?_
  have hu := rm_of (X := (cxOf L2.CX0 P w K mg base ["scene", "event", "who"] "doer_of" (defScope (top 75)) f cdv A outer s H E).nox) hr
  exact (sss_cons (ss_if (st_cmp (cd_eq hu) (so_of (sv_ix hu (so_var (i := 1) rfl (.inl rfl)) (so_of sv_int))) (so_of sv_str)) (sss_one (ss_ret (se_of (sv_gstr rfl G.TIME)))) sss_nil)
  (sss_cons (ss_if (st_cmp (cd_eq hu) (so_of (sv_ix hu (so_var (i := 1) rfl (.inl rfl)) (so_of sv_int))) (so_of sv_str)) (sss_one (ss_ret (se_of (sv_gstr rfl G.OTHER)))) sss_nil)
  (sss_cons (ss_set (i := 2) nd rfl (.inl rfl) (sv_if (st_cmp (cd_eq hu) (so_of (sv_ix hu (so_var (i := 1) rfl (.inl rfl)) (so_of sv_int))) (so_of sv_str)) (sv_ix hu (so_var (i := 1) rfl (.inl rfl)) (so_of sv_int)) (sv_gstr rfl G.MINE)))
  (sss_cons (ss_if (PW.pt (sw_and (st_cmp (cd_ne hu) (so_of (sv_ix hu (so_var (i := 1) rfl (.inl rfl)) (so_of sv_int))) (so_of sv_str)) (sw_and1 (st_cmp (cd_ne hu) (so_of (sv_ix hu (so_var (i := 1) rfl (.inl rfl)) (so_of sv_int))) (so_of (sv_gstr rfl G.OUT)))))) (sss_one (ss_set (i := 2) nd rfl (.inl rfl) (sv_ix hu (so_of (sv_ix hu (so_of (sv_ix hu (so_var (i := 0) rfl (.inl rfl)) (so_of sv_int))) (so_of (sv_ix hu (so_var (i := 1) rfl (.inl rfl)) (so_of sv_int))))) (so_of sv_int)))) sss_nil)
  (sss_one (ss_ret (se_of (sv_if (st_cmp (cd_eq hu) (so_var (i := 2) rfl (.inl rfl)) (so_of (sv_gstr rfl G.MINE))) (sv_gstr rfl G.MEANT) (sv_gstr rfl G.OTHER)))))))))

theorem ok_all_scenes {P : Program} {w : World} {K : PySem.W.Frag} {mg : Str → Option Value} {base : Heap} (G : GF P w K mg) (c_first_scene : CalD P w K mg base 1 "first_scene" 0 f_first_scene) (c_steps_of : CalD P w K mg base 4 "steps_of" 2 f_steps_of) {f : Addr} {fd : FuncData}
    (F : FunD K "all_scenes" "all_scenes" (defArgs (top 76)) (defBody (top 76)) (defScope (top 76)) [] [] f fd) (hmg : mg "all_scenes" = some (.ref f)) : CalD P w K mg base 5 "all_scenes" 1 f_all_scenes := by
  have nd : (["rule", "first", "found", "line", "later", "scene", "event", "there"] : List Str).Nodup := by decide +kernel
  refine cal_body (N := ["rule", "first", "found", "line", "later", "scene", "event", "there"]) (ps := ["rule"]) (k := 4) F hmg (F.bindsN fun _ _ _ _ _ _ us hl => match us, hl with | [_], _ => rfl) ⟨rfl, rfl, rfl, nd, rfl, by decide +kernel, by decide +kernel⟩ rfl rfl (by decide) fun cdv A outer s H E hr => ?_
  have hu := rm_of (X := (cxOf L2.CX0 P w K mg base ["rule", "first", "found", "line", "later", "scene", "event", "there"] "all_scenes" (defScope (top 76)) f cdv A outer s H E).nox) hr
  exact (sss_cons (ss_set (i := 1) nd rfl (.inl rfl) (sv_ofE (se_call0 c_first_scene hr (by decide) rfl)))
  (sss_cons (ss_par (o := true) (o' := false) (i := 2) (j := 3) rfl nd rfl rfl (by decide) rfl rfl (se_oneT (by omega) (sv_var (i := 1) rfl (.inl rfl)) sv_non) (se_lst (sa_cons (sv_var (i := 1) rfl (.inl rfl)) sa_nil)) rfl)
  (sss_cons (ss_while fuel PassesOwn.never (st_cmp (cd_ne hu) (so_var (i := 3) rfl (.inl rfl)) (so_ofE (se_lst sa_nil))) (sss_cons (ss_setO (i := 4) nd rfl (.inl rfl) (se_lst sa_nil))
  (sss_cons (ss_for (is := [5]) PassesOwn.never rfl (sf_list (se_of (sv_var (i := 3) rfl (.inl rfl)))) (sg_name nd rfl (.inl rfl)) (sss_one (ss_for (is := [6, 7]) PassesOwn.never rfl (sf_list (se_call c_steps_of hr (by decide) rfl (sa_cons (sv_var (i := 0) rfl (.inl rfl)) (sa_cons (sv_var (i := 5) rfl (.inl rfl)) sa_nil)))) (sg_tup rfl (sgs_cons nd rfl (.inl rfl) (sgs_cons nd rfl (.inl rfl) sgs_nil))) (sss_one (ss_if (st_cmp (cd_notIn hu) (so_var (i := 7) rfl (.inl rfl)) (so_var (i := 2) rfl (.inl rfl))) (sss_cons (ss_put (i := 2) hu rfl (.inl rfl) (sv_var (i := 7) rfl (.inl rfl)) (sv_tup (sa_cons (sv_var (i := 5) rfl (.inl rfl)) (sa_cons (sv_var (i := 6) rfl (.inl rfl)) sa_nil))))
  (sss_one (ss_app (i := 4) rfl (.inl rfl) (sv_var (i := 7) rfl (.inl rfl))))) sss_nil)))))
  (sss_one (ss_frz (i := 4) (ss_set (i := 3) nd rfl (.inl rfl) (sv_var (i := 4) rfl (.inl rfl))))))))
  (sss_one (ss_retO (i := 2) rfl (.inl rfl))))))

theorem ok_way_to {P : Program} {w : World} {K : PySem.W.Frag} {mg : Str → Option Value} {base : Heap} (G : GF P w K mg)  {f : Addr} {fd : FuncData}
    (F : FunD K "way_to" "way_to" (defArgs (top 77)) (defBody (top 77)) (defScope (top 77)) [] [] f fd) (hmg : mg "way_to" = some (.ref f)) : CalD P w K mg base 1 "way_to" 2 f_way_to := by
  have nd : (["found", "scene", "rows", "ahead", "event"] : List Str).Nodup := by decide +kernel
  refine cal_body (N := ["found", "scene", "rows", "ahead", "event"]) (ps := ["found", "scene"]) (k := 0) F hmg (F.bindsN fun _ _ _ _ _ _ us hl => match us, hl with | [_, _], _ => rfl) ⟨rfl, rfl, rfl, nd, rfl, by decide +kernel, by decide +kernel⟩ rfl rfl (by decide) fun cdv A outer s H E hr => ?_
  have hu := rm_of (X := (cxOf L2.CX0 P w K mg base ["found", "scene", "rows", "ahead", "event"] "way_to" (defScope (top 77)) f cdv A outer s H E).nox) hr
  exact (sss_cons (ss_set (i := 2) nd rfl (.inl rfl) (sv_ofE (se_lst sa_nil)))
  (sss_cons (ss_while fuel PassesOwn.never (st_cmp cd_isnot (so_of (sv_ix hu (so_var (i := 0) rfl (.inl rfl)) (so_var (i := 1) rfl (.inl rfl)))) (so_of sv_non)) (sss_cons (ss_asg (is := [3, 4]) (sv_ix hu (so_var (i := 0) rfl (.inl rfl)) (so_var (i := 1) rfl (.inl rfl))) (sg_tup rfl (sgs_cons nd rfl (.inl rfl) (sgs_cons nd rfl (.inl rfl) sgs_nil))))
  (sss_cons (ss_set (i := 2) nd rfl (.inl rfl) (sv_ofE (se_cat (so_ofE (se_lst (sa_cons (sv_tup (sa_cons (sv_var (i := 4) rfl (.inl rfl)) (sa_cons (sv_var (i := 1) rfl (.inl rfl)) sa_nil))) sa_nil))) (so_var (i := 2) rfl (.inl rfl)))))
  (sss_one (ss_set (i := 1) nd rfl (.inl rfl) (sv_var (i := 3) rfl (.inl rfl)))))))
  (sss_one (ss_ret (se_of (sv_var (i := 2) rfl (.inl rfl)))))))

theorem ok_letters_of {P : Program} {w : World} {K : PySem.W.Frag} {mg : Str → Option Value} {base : Heap} (G : GF P w K mg)  {f : Addr} {fd : FuncData}
    (F : FunD K "letters_of" "letters_of" (defArgs (top 78)) (defBody (top 78)) (defScope (top 78)) [] [] f fd) (hmg : mg "letters_of" = some (.ref f)) : CalD P w K mg base 1 "letters_of" 1 f_letters_of := by
  have nd : (["number", "found"] : List Str).Nodup := by decide +kernel
  refine cal_body (N := ["number", "found"]) (ps := ["number"]) (k := 0) F hmg (F.bindsN fun _ _ _ _ _ _ us hl => match us, hl with | [_], _ => rfl) ⟨rfl, rfl, rfl, nd, rfl, by decide +kernel, by decide +kernel⟩ rfl rfl (by decide) fun cdv A outer s H E hr => ?_
  have hu := rm_of (X := (cxOf L2.CX0 P w K mg base ["number", "found"] "letters_of" (defScope (top 78)) f cdv A outer s H E).nox) hr
  exact (sss_cons (ss_set (i := 1) nd rfl (.inl rfl) (sv_ix hu (so_of (sv_gstr rfl G.LETTERS)) (so_of (sv_bin od_mod (so_var (i := 0) rfl (.inl rfl)) (so_of sv_int)))))
  (sss_cons (ss_while fuel PassesOwn.never (st_cmp cd_ge (so_var (i := 0) rfl (.inl rfl)) (so_of sv_int)) (sss_cons (ss_set (i := 0) nd rfl (.inl rfl) (sv_bin od_sub (so_of (sv_bin od_div (so_var (i := 0) rfl (.inl rfl)) (so_of sv_int))) (so_of sv_int)))
  (sss_one (ss_set (i := 1) nd rfl (.inl rfl) (sv_bin od_add (so_of (sv_ix hu (so_of (sv_gstr rfl G.LETTERS)) (so_of (sv_bin od_mod (so_var (i := 0) rfl (.inl rfl)) (so_of sv_int))))) (so_var (i := 1) rfl (.inl rfl)))))))
  (sss_one (ss_ret (se_of (sv_var (i := 1) rfl (.inl rfl)))))))

theorem ok_told_event {P : Program} {w : World} {K : PySem.W.Frag} {mg : Str → Option Value} {base : Heap} (G : GF P w K mg) (c_letters_of : CalD P w K mg base 1 "letters_of" 1 f_letters_of) {f : Addr} {fd : FuncData}
    (F : FunD K "told_event" "told_event" (defArgs (top 79)) (defBody (top 79)) (defScope (top 79)) [] [] f fd) (hmg : mg "told_event" = some (.ref f)) : CalD P w K mg base 2 "told_event" 4 f_told_event := by
  have nd : (["state", "names", "event", "used", "word", "fresh", "name"] : List Str).Nodup := by decide +kernel
  refine cal_body (N := ["state", "names", "event", "used", "word", "fresh", "name"]) (ps := ["state", "names", "event", "used"]) (k := 1) F hmg (F.bindsN fun _ _ _ _ _ _ us hl => match us, hl with | [_, _, _, _], _ => rfl) ⟨rfl, rfl, rfl, nd, rfl, by decide +kernel, by decide +kernel⟩ rfl rfl (by decide) fun cdv A outer s H E hr => ?_
  have hu := rm_of (X := (cxOf L2.CX0 P w K mg base ["state", "names", "event", "used", "word", "fresh", "name"] "told_event" (defScope (top 79)) f cdv A outer s H E).nox) hr
  exact (sss_cons (ss_par (o := false) (o' := false) (i := 4) (j := 5) rfl nd rfl rfl (by decide) rfl rfl (se_of (sv_ix hu (so_var (i := 2) rfl (.inl rfl)) (so_of sv_int))) (se_call c_letters_of hr (by decide) rfl (sa_cons (sv_var (i := 3) rfl (.inl rfl)) sa_nil)) rfl)
  (sss_cons (ss_if (st_cmp (cd_eq hu) (so_var (i := 4) rfl (.inl rfl)) (so_of sv_str)) (sss_one (ss_ret (se_of (sv_tup (sa_cons sv_str sa_nil))))) sss_nil)
  (sss_cons (ss_if (st_cmp (cd_eq hu) (so_var (i := 4) rfl (.inl rfl)) (so_of sv_str)) (sss_one (ss_ret (se_of (sv_tup (sa_cons sv_str (sa_cons (sv_bin od_sub (so_of (sv_len rfl G.len (so_of (sv_ix hu (so_var (i := 0) rfl (.inl rfl)) (so_of sv_int))))) (so_of sv_int)) sa_nil)))))) sss_nil)
  (sss_cons (ss_if (st_cmp (cd_eq hu) (so_var (i := 4) rfl (.inl rfl)) (so_of sv_str)) (sss_cons (ss_set (i := 6) nd rfl (.inl rfl) (sv_ix hu (so_var (i := 1) rfl (.inl rfl)) (so_of (sv_ix hu (so_var (i := 2) rfl (.inl rfl)) (so_of sv_int)))))
  (sss_cons (ss_if (st_cmp (cd_eq hu) (so_of (sv_ix hu (so_var (i := 2) rfl (.inl rfl)) (so_of sv_int))) (so_of (sv_gstr rfl G.MINE))) (sss_one (ss_ret (se_of (sv_tup (sa_cons sv_str (sa_cons sv_str (sa_cons (sv_var (i := 6) rfl (.inl rfl)) sa_nil))))))) sss_nil)
  (sss_one (ss_ret (se_of (sv_tup (sa_cons sv_str (sa_cons (sv_if (st_val (sv_ix hu (so_var (i := 2) rfl (.inl rfl)) (so_of sv_int))) (sv_ix hu (so_of (sv_ix hu (so_of (sv_ix hu (so_var (i := 0) rfl (.inl rfl)) (so_of sv_int))) (so_var (i := 6) rfl (.inl rfl)))) (so_of sv_int)) (sv_bin od_add (so_of sv_str) (so_var (i := 5) rfl (.inl rfl)))) (sa_cons (sv_var (i := 6) rfl (.inl rfl)) sa_nil))))))))) sss_nil)
  (sss_cons (ss_set (i := 6) nd rfl (.inl rfl) (sv_if (st_cmp (cd_eq hu) (so_of (sv_ix hu (so_var (i := 2) rfl (.inl rfl)) (so_of sv_int))) (so_of (sv_gstr rfl G.OUT))) (sv_ix hu (so_of (sv_ix hu (so_of (sv_ix hu (so_var (i := 0) rfl (.inl rfl)) (so_of sv_int))) (so_of (sv_neg (so_of sv_int))))) (so_of sv_int)) (sv_ix hu (so_var (i := 1) rfl (.inl rfl)) (so_of (sv_ix hu (so_var (i := 2) rfl (.inl rfl)) (so_of sv_int))))))
  (sss_cons (ss_if (st_cmp (cd_eq hu) (so_var (i := 4) rfl (.inl rfl)) (so_of sv_str)) (sss_one (ss_ret (se_of (sv_tup (sa_cons sv_str (sa_cons (sv_var (i := 6) rfl (.inl rfl)) (sa_cons (sv_if (st_cmp (cd_eq hu) (so_of (sv_ix hu (so_var (i := 2) rfl (.inl rfl)) (so_of sv_int))) (so_of (sv_gstr rfl G.MINE))) sv_str (sv_bin od_add (so_of sv_str) (so_var (i := 5) rfl (.inl rfl)))) sa_nil))))))) sss_nil)
  (sss_cons (ss_if (st_cmp (cd_eq hu) (so_var (i := 4) rfl (.inl rfl)) (so_of sv_str)) (sss_one (ss_ret (se_of (sv_tup (sa_cons sv_str (sa_cons (sv_var (i := 6) rfl (.inl rfl)) (sa_cons (sv_if (st_cmp (cd_eq hu) (so_of (sv_ix hu (so_var (i := 2) rfl (.inl rfl)) (so_of sv_int))) (so_of (sv_gstr rfl G.NEW))) (sv_bin od_add (so_of sv_str) (so_var (i := 5) rfl (.inl rfl))) (sv_ix hu (so_var (i := 1) rfl (.inl rfl)) (so_of (sv_ix hu (so_var (i := 2) rfl (.inl rfl)) (so_of sv_int))))) sa_nil))))))) sss_nil)
  (sss_one (ss_ret (se_of (sv_tup (sa_cons (sv_var (i := 4) rfl (.inl rfl)) (sa_cons (sv_var (i := 6) rfl (.inl rfl)) sa_nil)))))))))))))

theorem ok_names_then {P : Program} {w : World} {K : PySem.W.Frag} {mg : Str → Option Value} {base : Heap} (G : GF P w K mg)  {f : Addr} {fd : FuncData}
    (F : FunD K "names_then" "names_then" (defArgs (top 80)) (defBody (top 80)) (defScope (top 80)) [] [] f fd) (hmg : mg "names_then" = some (.ref f)) : CalD P w K mg base 1 "names_then" 4 f_names_then := by
  have nd : (["names", "event", "told", "many"] : List Str).Nodup := by decide +kernel
  refine cal_body (N := ["names", "event", "told", "many"]) (ps := ["names", "event", "told", "many"]) (k := 0) F hmg (F.bindsN fun _ _ _ _ _ _ us hl => match us, hl with | [_, _, _, _], _ => rfl) ⟨rfl, rfl, rfl, nd, rfl, by decide +kernel, by decide +kernel⟩ rfl rfl (by decide) fun cdv A outer s H E hr => ?_
  have hu := rm_of (X := (cxOf L2.CX0 P w K mg base ["names", "event", "told", "many"] "names_then" (defScope (top 80)) f cdv A outer s H E).nox) hr
  exact (sss_cons (ss_if (st_cmp (cd_eq hu) (so_of (sv_ix hu (so_var (i := 1) rfl (.inl rfl)) (so_of sv_int))) (so_of sv_str)) (sss_one (ss_ret (se_sl (so_var (i := 0) rfl (.inl rfl)) (si_some (sv_bin od_sub (so_of (sv_len rfl G.len (so_var (i := 0) rfl (.inl rfl)))) (so_var (i := 3) rfl (.inl rfl)))) si_none))) sss_nil)
  (sss_cons (ss_if (PW.pt (sw_and (st_cmp (cd_eq hu) (so_of (sv_ix hu (so_var (i := 1) rfl (.inl rfl)) (so_of sv_int))) (so_of sv_str)) (sw_and1 (st_cmp (cd_eq hu) (so_of (sv_ix hu (so_var (i := 1) rfl (.inl rfl)) (so_of sv_int))) (so_of (sv_gstr rfl G.NEW)))))) (sss_one (ss_set (i := 0) nd rfl (.inl rfl) (sv_ofE (se_cat (so_var (i := 0) rfl (.inl rfl)) (so_ofE (se_lst (sa_cons (sv_ix hu (so_var (i := 2) rfl (.inl rfl)) (so_of sv_int)) sa_nil))))))) sss_nil)
  (sss_one (ss_ret (se_sl (so_var (i := 0) rfl (.inl rfl)) si_none (si_some (sv_var (i := 3) rfl (.inl rfl))))))))

theorem ok_history_of {P : Program} {w : World} {K : PySem.W.Frag} {mg : Str → Option Value} {base : Heap} (G : GF P w K mg) (c_behind : CalD P w K mg base 6 "behind" 3 f_behind) (c_first_state : CalD P w K mg base 1 "first_state" 0 f_first_state) (c_told_event : CalD P w K mg base 2 "told_event" 4 f_told_event) (c_stepped : CalD P w K mg base 5 "stepped" 3 f_stepped) (c_names_then : CalD P w K mg base 1 "names_then" 4 f_names_then) {f : Addr} {fd : FuncData}
    (F : FunD K "history_of" "history_of" (defArgs (top 81)) (defBody (top 81)) (defScope (top 81)) [] [] f fd) (hmg : mg "history_of" = some (.ref f)) : CalD P w K mg base 7 "history_of" 2 f_history_of := by
  have nd : (["rule", "rows", "events", "names", "state", "event", "scene", "told"] : List Str).Nodup := by decide +kernel
  refine cal_body (N := ["rule", "rows", "events", "names", "state", "event", "scene", "told"]) (ps := ["rule", "rows"]) (k := 6) F hmg (F.bindsN fun _ _ _ _ _ _ us hl => match us, hl with | [_, _], _ => rfl) ⟨rfl, rfl, rfl, nd, rfl, by decide +kernel, by decide +kernel⟩ rfl rfl (by decide) fun cdv A outer s H E hr => ?_
  have hu := rm_of (X := (cxOf L2.CX0 P w K mg base ["rule", "rows", "events", "names", "state", "event", "scene", "told"] "history_of" (defScope (top 81)) f cdv A outer s H E).nox) hr
  exact (sss_cons (ss_par (o := false) (o' := false) (i := 2) (j := 3) rfl nd rfl rfl (by decide) rfl rfl (se_of (sv_tup (sa_cons (sv_tup (sa_cons sv_str (sa_cons sv_str (sa_cons sv_str sa_nil)))) (sa_cons (sv_tup (sa_cons sv_str (sa_cons sv_str sa_nil))) sa_nil)))) (se_lst (sa_cons sv_str sa_nil)) rfl)
  (sss_cons (ss_set (i := 4) nd rfl (.inl rfl) (sv_ofE (se_call c_behind hr (by decide) rfl (sa_cons (sv_var (i := 0) rfl (.inl rfl)) (sa_cons (sv_ofE (se_call0 c_first_state hr (by decide) rfl)) (sa_cons (sv_var (i := 2) rfl (.inl rfl)) sa_nil))))))
  (sss_cons (ss_for (is := [5, 6]) PassesOwn.never rfl (sf_list (se_of (sv_var (i := 1) rfl (.inl rfl)))) (sg_tup rfl (sgs_cons nd rfl (.inl rfl) (sgs_cons nd rfl (.inl rfl) sgs_nil))) (sss_cons (ss_set (i := 7) nd rfl (.inl rfl) (sv_ofE (se_call c_told_event hr (by decide) rfl (sa_cons (sv_var (i := 4) rfl (.inl rfl)) (sa_cons (sv_var (i := 3) rfl (.inl rfl)) (sa_cons (sv_var (i := 5) rfl (.inl rfl)) (sa_cons (sv_len rfl G.len (so_var (i := 2) rfl (.inl rfl))) sa_nil)))))))
  (sss_cons (ss_set (i := 4) nd rfl (.inl rfl) (sv_ofE (se_call c_stepped hr (by decide) rfl (sa_cons (sv_var (i := 0) rfl (.inl rfl)) (sa_cons (sv_var (i := 4) rfl (.inl rfl)) (sa_cons (sv_var (i := 7) rfl (.inl rfl)) sa_nil))))))
  (sss_cons (ss_set (i := 2) nd rfl (.inl rfl) (sv_bin od_add (so_var (i := 2) rfl (.inl rfl)) (so_of (sv_tup (sa_cons (sv_var (i := 7) rfl (.inl rfl)) sa_nil)))))
  (sss_one (ss_set (i := 3) nd rfl (.inl rfl) (sv_ofE (se_call c_names_then hr (by decide) rfl (sa_cons (sv_var (i := 3) rfl (.inl rfl)) (sa_cons (sv_var (i := 5) rfl (.inl rfl)) (sa_cons (sv_var (i := 7) rfl (.inl rfl)) (sa_cons (sv_len rfl G.len (so_of (sv_ix hu (so_var (i := 6) rfl (.inl rfl)) (so_of sv_int)))) sa_nil))))))))))))
  (sss_one (ss_ret (se_of (sv_var (i := 2) rfl (.inl rfl))))))))

theorem ok_found_harms {P : Program} {w : World} {K : PySem.W.Frag} {mg : Str → Option Value} {base : Heap} (G : GF P w K mg) (c_all_scenes : CalD P w K mg base 5 "all_scenes" 1 f_all_scenes) (c_steps_of : CalD P w K mg base 4 "steps_of" 2 f_steps_of) (c_status : CalD P w K mg base 2 "status" 1 f_status) (c_doer_of : CalD P w K mg base 1 "doer_of" 2 f_doer_of) (c_way_to : CalD P w K mg base 1 "way_to" 2 f_way_to) {f : Addr} {fd : FuncData}
    (F : FunD K "found_harms" "found_harms" (defArgs (top 82)) (defBody (top 82)) (defScope (top 82)) [] [] f fd) (hmg : mg "found_harms" = some (.ref f)) : CalD P w K mg base 6 "found_harms" 1 f_found_harms := by
  have nd : (["rule", "known", "found", "scene", "event", "there", "harm"] : List Str).Nodup := by decide +kernel
  refine cal_body (N := ["rule", "known", "found", "scene", "event", "there", "harm"]) (ps := ["rule"]) (k := 5) F hmg (F.bindsN fun _ _ _ _ _ _ us hl => match us, hl with | [_], _ => rfl) ⟨rfl, rfl, rfl, nd, rfl, by decide +kernel, by decide +kernel⟩ rfl rfl (by decide) fun cdv A outer s H E hr => ?_
  have hu := rm_of (X := (cxOf L2.CX0 P w K mg base ["rule", "known", "found", "scene", "event", "there", "harm"] "found_harms" (defScope (top 82)) f cdv A outer s H E).nox) hr
  exact (sss_cons (ss_par (o := true) (o' := false) (i := 1) (j := 2) rfl nd rfl rfl (by decide) rfl rfl se_newT (se_call c_all_scenes hr (by decide) rfl (sa_cons (sv_var (i := 0) rfl (.inl rfl)) sa_nil)) rfl)
  (sss_cons (ss_for (is := [3]) PassesOwn.never rfl (sf_keysT (sv_var (i := 2) rfl (.inl rfl))) (sg_name nd rfl (.inl rfl)) (sss_one (ss_for (is := [4, 5]) PassesOwn.never rfl (sf_list (se_call c_steps_of hr (by decide) rfl (sa_cons (sv_var (i := 0) rfl (.inl rfl)) (sa_cons (sv_var (i := 3) rfl (.inl rfl)) sa_nil)))) (sg_tup rfl (sgs_cons nd rfl (.inl rfl) (sgs_cons nd rfl (.inl rfl) sgs_nil))) (sss_cons (ss_set (i := 6) nd rfl (.inl rfl) (sv_ofE (se_call c_status hr (by decide) rfl (sa_cons (sv_var (i := 5) rfl (.inl rfl)) sa_nil))))
  (sss_one (ss_if (PW.pt (sw_and (st_cmp cd_isnot (so_var (i := 6) rfl (.inl rfl)) (so_of sv_non)) (sw_and (st_cmp (cd_ne hu) (so_var (i := 6) rfl (.inl rfl)) (so_ofE (se_call c_status hr (by decide) rfl (sa_cons (sv_var (i := 3) rfl (.inl rfl)) sa_nil)))) (sw_and1 (st_cmp (cd_notIn hu) (so_of (sv_tup (sa_cons (sv_var (i := 6) rfl (.inl rfl)) (sa_cons (sv_ofE (se_call c_doer_of hr (by decide) rfl (sa_cons (sv_var (i := 3) rfl (.inl rfl)) (sa_cons (sv_var (i := 4) rfl (.inl rfl)) sa_nil)))) sa_nil)))) (so_var (i := 1) rfl (.inl rfl))))))) (sss_one (ss_put (i := 1) hu rfl (.inl rfl) (sv_tup (sa_cons (sv_var (i := 6) rfl (.inl rfl)) (sa_cons (sv_ofE (se_call c_doer_of hr (by decide) rfl (sa_cons (sv_var (i := 3) rfl (.inl rfl)) (sa_cons (sv_var (i := 4) rfl (.inl rfl)) sa_nil)))) sa_nil))) (sv_ofE (se_cat (so_ofE (se_call c_way_to hr (by decide) rfl (sa_cons (sv_var (i := 2) rfl (.inl rfl)) (sa_cons (sv_var (i := 3) rfl (.inl rfl)) sa_nil)))) (so_ofE (se_lst (sa_cons (sv_tup (sa_cons (sv_var (i := 4) rfl (.inl rfl)) (sa_cons (sv_var (i := 5) rfl (.inl rfl)) sa_nil))) sa_nil))))))) sss_nil))))))
  (sss_one (ss_retO (i := 1) rfl (.inl rfl)))))

theorem ok_shortest {P : Program} {w : World} {K : PySem.W.Frag} {mg : Str → Option Value} {base : Heap} (G : GF P w K mg) (c_need_rule : CalD P w K mg base 4 "need_rule" 1 f_need_rule) (c_need_threat : CalD P w K mg base 1 "need_threat" 2 f_need_threat) (c_found_harms : CalD P w K mg base 6 "found_harms" 1 f_found_harms) (c_history_of : CalD P w K mg base 7 "history_of" 2 f_history_of) {f : Addr} {fd : FuncData}
    (F : FunD K "shortest" "shortest" (defArgs (top 83)) (defBody (top 83)) (defScope (top 83)) [] [] f fd) (hmg : mg "shortest" = some (.ref f)) : CalD P w K mg base 8 "shortest" 3 f_shortest := by
  have nd : (["rule", "harm", "doer", "known"] : List Str).Nodup := by decide +kernel
  refine cal_body (N := ["rule", "harm", "doer", "known"]) (ps := ["rule", "harm", "doer"]) (k := 7) F hmg (F.bindsN fun _ _ _ _ _ _ us hl => match us, hl with | [_, _, _], _ => rfl) ⟨rfl, rfl, rfl, nd, rfl, by decide +kernel, by decide +kernel⟩ rfl rfl (by decide) fun cdv A outer s H E hr => ?_
  have hu := rm_of (X := (cxOf L2.CX0 P w K mg base ["rule", "harm", "doer", "known"] "shortest" (defScope (top 83)) f cdv A outer s H E).nox) hr
  exact (sss_cons (ss_expr (se_call c_need_rule hr (by decide) rfl (sa_cons (sv_var (i := 0) rfl (.inl rfl)) sa_nil)))
  (sss_cons (ss_expr (se_call c_need_threat hr (by decide) rfl (sa_cons (sv_var (i := 1) rfl (.inl rfl)) (sa_cons (sv_var (i := 2) rfl (.inl rfl)) sa_nil))))
  (sss_cons (ss_set (i := 3) nd rfl (.inl rfl) (sv_ofE (se_call c_found_harms hr (by decide) rfl (sa_cons (sv_var (i := 0) rfl (.inl rfl)) sa_nil))))
  (sss_one (ss_ret (se_if (st_cmp (cd_in hu) (so_of (sv_tup (sa_cons (sv_var (i := 1) rfl (.inl rfl)) (sa_cons (sv_var (i := 2) rfl (.inl rfl)) sa_nil)))) (so_var (i := 3) rfl (.inl rfl))) (se_call c_history_of hr (by decide) rfl (sa_cons (sv_var (i := 0) rfl (.inl rfl)) (sa_cons (sv_ix hu (so_var (i := 3) rfl (.inl rfl)) (so_of (sv_tup (sa_cons (sv_var (i := 1) rfl (.inl rfl)) (sa_cons (sv_var (i := 2) rfl (.inl rfl)) sa_nil))))) sa_nil))) (se_of sv_non)))))))

theorem ok_law_good {P : Program} {w : World} {K : PySem.W.Frag} {mg : Str → Option Value} {base : Heap} (G : GF P w K mg)  {f : Addr} {fd : FuncData}
    (F : FunD K "_law_good" "_law_good" (defArgs (top 89)) (defBody (top 89)) (defScope (top 89)) [] [] f fd) (hmg : mg "_law_good" = some (.ref f)) : CalD P w K mg base 1 "_law_good" 2 f_law_good := by
  have nd : (["_law_rule_here", "_law_record"] : List Str).Nodup := by decide +kernel
  refine cal_body (N := ["_law_rule_here", "_law_record"]) (ps := ["_law_rule_here", "_law_record"]) (k := 0) F hmg (F.bindsN fun _ _ _ _ _ _ us hl => match us, hl with | [_, _], _ => rfl) ⟨rfl, rfl, rfl, nd, rfl, by decide +kernel, by decide +kernel⟩ rfl rfl (by decide) fun cdv A outer s H E hr => ?_
  have hu := rm_of (X := (cxOf L2.CX0 P w K mg base ["_law_rule_here", "_law_record"] "_law_good" (defScope (top 89)) f cdv A outer s H E).nox) hr
  exact (sss_one (ss_ret (se_of (sv_and (sv_cmp cd_is (so_of (sv_ix hu (so_var (i := 1) rfl (.inl rfl)) (so_of sv_int))) (so_of sv_non)) (sv_and (sv_cmp cd_isnot (so_of (sv_ix hu (so_var (i := 1) rfl (.inl rfl)) (so_of sv_int))) (so_of sv_non)) (sv_one (sv_or (sv_cmp cd_is (so_of (sv_ix hu (so_var (i := 0) rfl (.inl rfl)) (so_of sv_int))) (so_of sv_non)) (sv_one (sv_cmp cd_lt (so_of (sv_ix hu (so_var (i := 1) rfl (.inl rfl)) (so_of sv_int))) (so_of (sv_ix hu (so_var (i := 0) rfl (.inl rfl)) (so_of sv_int))))))))))))

theorem ok_law_open {P : Program} {w : World} {K : PySem.W.Frag} {mg : Str → Option Value} {base : Heap} (G : GF P w K mg) (c_law_good : CalD P w K mg base 1 "_law_good" 2 f_law_good) {f : Addr} {fd : FuncData}
    (F : FunD K "_law_open" "_law_open" (defArgs (top 90)) (defBody (top 90)) (defScope (top 90)) [] [] f fd) (hmg : mg "_law_open" = some (.ref f)) : CalD P w K mg base 2 "_law_open" 4 f_law_open := by
  have nd : (["_law_rule_here", "_law_state", "_law_who", "_law_name", "_law_record"] : List Str).Nodup := by decide +kernel
  refine cal_body (N := ["_law_rule_here", "_law_state", "_law_who", "_law_name", "_law_record"]) (ps := ["_law_rule_here", "_law_state", "_law_who", "_law_name"]) (k := 1) F hmg (F.bindsN fun _ _ _ _ _ _ us hl => match us, hl with | [_, _, _, _], _ => rfl) ⟨rfl, rfl, rfl, nd, rfl, by decide +kernel, by decide +kernel⟩ rfl rfl (by decide) fun cdv A outer s H E hr => ?_
  have hu := rm_of (X := (cxOf L2.CX0 P w K mg base ["_law_rule_here", "_law_state", "_law_who", "_law_name", "_law_record"] "_law_open" (defScope (top 90)) f cdv A outer s H E).nox) hr
  exact (sss_cons (ss_set (i := 4) nd rfl (.inl rfl) (sv_get1 hu (so_of (sv_ix hu (so_var (i := 1) rfl (.inl rfl)) (so_of sv_int))) (so_var (i := 3) rfl (.inl rfl)) ⟨rfl, rfl, rfl, rfl⟩))
  (sss_cons (ss_if (st_cmp cd_is (so_var (i := 4) rfl (.inl rfl)) (so_of sv_non)) (sss_one (ss_ret (se_of sv_bl))) sss_nil)
  (sss_cons (ss_if (PW.pt (sw_or (st_cmp cd_isnot (so_of (sv_ix hu (so_var (i := 4) rfl (.inl rfl)) (so_of sv_int))) (so_of sv_non)) (sw_or1 (st_cmp (cd_eq hu) (so_of (sv_ix hu (so_var (i := 4) rfl (.inl rfl)) (so_of sv_int))) (so_var (i := 2) rfl (.inl rfl)))))) (sss_one (ss_ret (se_of (sv_cmp cd_is (so_of (sv_ix hu (so_var (i := 4) rfl (.inl rfl)) (so_of sv_int))) (so_of sv_non))))) sss_nil)
  (sss_one (ss_ret (se_of (sv_and (sv_cmp cd_isnot (so_of (sv_ix hu (so_var (i := 0) rfl (.inl rfl)) (so_of sv_int))) (so_of sv_non)) (sv_and (sv_cmp cd_ge (so_of (sv_ix hu (so_var (i := 4) rfl (.inl rfl)) (so_of sv_int))) (so_of (sv_ix hu (so_var (i := 0) rfl (.inl rfl)) (so_of sv_int)))) (sv_one (sv_not (sv_and (sv_ix hu (so_var (i := 0) rfl (.inl rfl)) (so_of sv_int)) (sv_one (sv_ofE (se_call c_law_good hr (by decide) rfl (sa_cons (sv_var (i := 0) rfl (.inl rfl)) (sa_cons (sv_var (i := 4) rfl (.inl rfl)) sa_nil))))))))))))))))

theorem ok_law_come {P : Program} {w : World} {K : PySem.W.Frag} {mg : Str → Option Value} {base : Heap} (G : GF P w K mg)  {f : Addr} {fd : FuncData}
    (F : FunD K "_law_come" "_law_come" (defArgs (top 91)) (defBody (top 91)) (defScope (top 91)) [] [] f fd) (hmg : mg "_law_come" = some (.ref f)) : CalD P w K mg base 1 "_law_come" 3 f_law_come := by
  have nd : (["_law_names", "_law_who", "_law_name", "_law_found", "_law_old"] : List Str).Nodup := by decide +kernel
  refine cal_body (N := ["_law_names", "_law_who", "_law_name", "_law_found", "_law_old"]) (ps := ["_law_names", "_law_who", "_law_name"]) (k := 0) F hmg (F.bindsN fun _ _ _ _ _ _ us hl => match us, hl with | [_, _, _], _ => rfl) ⟨rfl, rfl, rfl, nd, rfl, by decide +kernel, by decide +kernel⟩ rfl rfl (by decide) fun cdv A outer s H E hr => ?_
  have hu := rm_of (X := (cxOf L2.CX0 P w K mg base ["_law_names", "_law_who", "_law_name", "_law_found", "_law_old"] "_law_come" (defScope (top 91)) f cdv A outer s H E).nox) hr
  exact (sss_cons (ss_setO (i := 3) nd rfl (.inl rfl) (se_dict rfl G.dict (so_var (i := 0) rfl (.inl rfl))))
  (sss_cons (ss_set (i := 4) nd rfl (.inl rfl) (sv_get2 hu (so_var (i := 3) rfl (.inl rfl)) (sv_var (i := 2) rfl (.inl rfl)) (sv_tup (sa_cons sv_non (sa_cons (sv_var (i := 1) rfl (.inl rfl)) (sa_cons sv_int (sa_cons sv_int (sa_cons sv_non sa_nil)))))) ⟨rfl, rfl, rfl, rfl⟩))
  (sss_cons (ss_put (i := 3) hu rfl (.inl rfl) (sv_var (i := 2) rfl (.inl rfl)) (sv_tup (sa_cons (sv_var (i := 1) rfl (.inl rfl)) (sa_cons (sv_var (i := 1) rfl (.inl rfl)) (sa_cons (sv_bin od_add (so_of (sv_ix hu (so_var (i := 4) rfl (.inl rfl)) (so_of sv_int))) (so_of (sv_intc rfl G.int (so_of (sv_cmp (cd_ne hu) (so_of (sv_ix hu (so_var (i := 4) rfl (.inl rfl)) (so_of sv_int))) (so_var (i := 1) rfl (.inl rfl))))))) (sa_cons sv_int (sa_cons sv_non sa_nil)))))))
  (sss_one (ss_retO (i := 3) rfl (.inl rfl))))))

theorem ok_law_end {P : Program} {w : World} {K : PySem.W.Frag} {mg : Str → Option Value} {base : Heap} (G : GF P w K mg) (c_law_good : CalD P w K mg base 1 "_law_good" 2 f_law_good) {f : Addr} {fd : FuncData}
    (F : FunD K "_law_end" "_law_end" (defArgs (top 92)) (defBody (top 92)) (defScope (top 92)) [] [] f fd) (hmg : mg "_law_end" = some (.ref f)) : CalD P w K mg base 2 "_law_end" 4 f_law_end := by
  have nd : (["_law_rule_here", "_law_state", "_law_name", "_law_number", "_law_names", "_law_left"] : List Str).Nodup := by decide +kernel
  refine cal_body (N := ["_law_rule_here", "_law_state", "_law_name", "_law_number", "_law_names", "_law_left"]) (ps := ["_law_rule_here", "_law_state", "_law_name", "_law_number"]) (k := 1) F hmg (F.bindsN fun _ _ _ _ _ _ us hl => match us, hl with | [_, _, _, _], _ => rfl) ⟨rfl, rfl, rfl, nd, rfl, by decide +kernel, by decide +kernel⟩ rfl rfl (by decide) fun cdv A outer s H E hr => ?_
  have hu := rm_of (X := (cxOf L2.CX0 P w K mg base ["_law_rule_here", "_law_state", "_law_name", "_law_number", "_law_names", "_law_left"] "_law_end" (defScope (top 92)) f cdv A outer s H E).nox) hr
  exact (sss_cons (ss_par (o := false) (o' := false) (i := 4) (j := 5) rfl nd rfl rfl (by decide) rfl rfl (se_of (sv_ix hu (so_var (i := 1) rfl (.inl rfl)) (so_of sv_int))) (se_of (sv_ix hu (so_var (i := 0) rfl (.inl rfl)) (so_of sv_int))) rfl)
  (sss_cons (ss_while fuel PassesOwn.never (st_cmp (cd_eq hu) (so_of (sv_bin od_mod (so_of (sv_intc rfl G.int (so_of (sv_bin od_sub (so_of (sv_ix hu (so_of (sv_ix hu (so_var (i := 4) rfl (.inl rfl)) (so_var (i := 2) rfl (.inl rfl)))) (so_of sv_int))) (so_var (i := 3) rfl (.inl rfl)))))) (so_of (sv_ix hu (so_var (i := 0) rfl (.inl rfl)) (so_of sv_int))))) (so_of sv_int)) (sss_cons (ss_if (st_cmp cd_isnot (so_of (sv_ix hu (so_of (sv_ix hu (so_var (i := 4) rfl (.inl rfl)) (so_var (i := 2) rfl (.inl rfl)))) (so_of sv_int))) (so_of sv_non)) (sss_one (ss_ret (se_of (sv_tup (sa_cons (sv_var (i := 2) rfl (.inl rfl)) (sa_cons (sv_ix hu (so_of (sv_ix hu (so_var (i := 4) rfl (.inl rfl)) (so_var (i := 2) rfl (.inl rfl)))) (so_of sv_int)) sa_nil)))))) sss_nil)
  (sss_cons (ss_if (PW.pt (sw_or (st_cmp (cd_eq hu) (so_var (i := 5) rfl (.inl rfl)) (so_of sv_int)) (sw_or1 (st_not (st_val (sv_ofE (se_call c_law_good hr (by decide) rfl (sa_cons (sv_var (i := 0) rfl (.inl rfl)) (sa_cons (sv_ix hu (so_var (i := 4) rfl (.inl rfl)) (so_var (i := 2) rfl (.inl rfl))) sa_nil))))))))) (sss_one (ss_ret (se_of (sv_tup (sa_cons sv_non (sa_cons sv_non sa_nil)))))) sss_nil)
  (sss_cons (ss_set (i := 5) nd rfl (.inl rfl) (sv_bin od_sub (so_var (i := 5) rfl (.inl rfl)) (so_of sv_int)))
  (sss_one (ss_asg (is := [2, 3]) (sv_ix hu (so_of (sv_ix hu (so_var (i := 4) rfl (.inl rfl)) (so_var (i := 2) rfl (.inl rfl)))) (so_of sv_int)) (sg_tup rfl (sgs_cons nd rfl (.inl rfl) (sgs_cons nd rfl (.inl rfl) sgs_nil)))))))))
  (sss_one (ss_ret (se_of (sv_tup (sa_cons sv_non (sa_cons sv_non sa_nil))))))))

theorem ok_law_dead {P : Program} {w : World} {K : PySem.W.Frag} {mg : Str → Option Value} {base : Heap} (G : GF P w K mg)  {f : Addr} {fd : FuncData}
    (F : FunD K "_law_dead" "_law_dead" (defArgs (top 93)) (defBody (top 93)) (defScope (top 93)) [] [] f fd) (hmg : mg "_law_dead" = some (.ref f)) : CalD P w K mg base 1 "_law_dead" 2 f_law_dead := by
  have nd : (["_law_rule_here", "_law_link"] : List Str).Nodup := by decide +kernel
  refine cal_body (N := ["_law_rule_here", "_law_link"]) (ps := ["_law_rule_here", "_law_link"]) (k := 0) F hmg (F.bindsN fun _ _ _ _ _ _ us hl => match us, hl with | [_, _], _ => rfl) ⟨rfl, rfl, rfl, nd, rfl, by decide +kernel, by decide +kernel⟩ rfl rfl (by decide) fun cdv A outer s H E hr => ?_
  have hu := rm_of (X := (cxOf L2.CX0 P w K mg base ["_law_rule_here", "_law_link"] "_law_dead" (defScope (top 93)) f cdv A outer s H E).nox) hr
  exact (sss_one (ss_ret (se_of (sv_and (sv_cmp cd_isnot (so_of (sv_ix hu (so_var (i := 0) rfl (.inl rfl)) (so_of sv_int))) (so_of sv_non)) (sv_one (sv_cmp cd_gt (so_of (sv_ix hu (so_var (i := 1) rfl (.inl rfl)) (so_of sv_int))) (so_of (sv_ix hu (so_var (i := 0) rfl (.inl rfl)) (so_of sv_int)))))))))

theorem ok_law_to {P : Program} {w : World} {K : PySem.W.Frag} {mg : Str → Option Value} {base : Heap} (G : GF P w K mg) (c_law_dead : CalD P w K mg base 1 "_law_dead" 2 f_law_dead) (c_law_end : CalD P w K mg base 2 "_law_end" 4 f_law_end) {f : Addr} {fd : FuncData}
    (F : FunD K "_law_to" "_law_to" (defArgs (top 94)) (defBody (top 94)) (defScope (top 94)) [] [] f fd) (hmg : mg "_law_to" = some (.ref f)) : CalD P w K mg base 3 "_law_to" 3 f_law_to := by
  have nd : (["_law_rule_here", "_law_state", "_law_link"] : List Str).Nodup := by decide +kernel
  refine cal_body (N := ["_law_rule_here", "_law_state", "_law_link"]) (ps := ["_law_rule_here", "_law_state", "_law_link"]) (k := 2) F hmg (F.bindsN fun _ _ _ _ _ _ us hl => match us, hl with | [_, _, _], _ => rfl) ⟨rfl, rfl, rfl, nd, rfl, by decide +kernel, by decide +kernel⟩ rfl rfl (by decide) fun cdv A outer s H E hr => ?_
  have hu := rm_of (X := (cxOf L2.CX0 P w K mg base ["_law_rule_here", "_law_state", "_law_link"] "_law_to" (defScope (top 94)) f cdv A outer s H E).nox) hr
  exact (sss_cons (ss_if (st_val (sv_ofE (se_call c_law_dead hr (by decide) rfl (sa_cons (sv_var (i := 0) rfl (.inl rfl)) (sa_cons (sv_var (i := 2) rfl (.inl rfl)) sa_nil))))) (sss_one (ss_ret (se_of (sv_tup (sa_cons sv_non (sa_cons sv_non sa_nil)))))) sss_nil)
  (sss_one (ss_ret (se_call c_law_end hr (by decide) rfl (sa_cons (sv_var (i := 0) rfl (.inl rfl)) (sa_cons (sv_var (i := 1) rfl (.inl rfl)) (sa_cons (sv_ix hu (so_var (i := 2) rfl (.inl rfl)) (so_of sv_int)) (sa_cons (sv_ix hu (so_var (i := 2) rfl (.inl rfl)) (so_of sv_int)) sa_nil))))))))

theorem ok_law_rethread {P : Program} {w : World} {K : PySem.W.Frag} {mg : Str → Option Value} {base : Heap} (G : GF P w K mg)  {f : Addr} {fd : FuncData}
    (F : FunD K "_law_rethread" "_law_rethread" (defArgs (top 95)) (defBody (top 95)) (defScope (top 95)) [] [] f fd) (hmg : mg "_law_rethread" = some (.ref f)) : CalD P w K mg base 1 "_law_rethread" 3 f_law_rethread := by
  have nd : (["_law_links", "_law_name", "_law_later", "_law_found", "_law_link"] : List Str).Nodup := by decide +kernel
  refine cal_body (N := ["_law_links", "_law_name", "_law_later", "_law_found", "_law_link"]) (ps := ["_law_links", "_law_name", "_law_later"]) (k := 0) F hmg (F.bindsN fun _ _ _ _ _ _ us hl => match us, hl with | [_, _, _], _ => rfl) ⟨rfl, rfl, rfl, nd, rfl, by decide +kernel, by decide +kernel⟩ rfl rfl (by decide) fun cdv A outer s H E hr => ?_
  have hu := rm_of (X := (cxOf L2.CX0 P w K mg base ["_law_links", "_law_name", "_law_later", "_law_found", "_law_link"] "_law_rethread" (defScope (top 95)) f cdv A outer s H E).nox) hr
  exact (sss_cons (ss_setO (i := 3) nd rfl (.inl rfl) (se_lst sa_nil))
  (sss_cons (ss_for (is := [4]) PassesOwn.never rfl (sf_list (se_of (sv_var (i := 0) rfl (.inl rfl)))) (sg_name nd rfl (.inl rfl)) (sss_one (ss_app (i := 3) rfl (.inl rfl) (sv_bin od_add (so_of (sv_sl (so_var (i := 4) rfl (.inl rfl)) si_none (si_some sv_int))) (so_of (sv_tup (sa_cons (sv_if (st_cmp (cd_eq hu) (so_of (sv_ix hu (so_var (i := 4) rfl (.inl rfl)) (so_of sv_int))) (so_var (i := 1) rfl (.inl rfl))) (sv_var (i := 2) rfl (.inl rfl)) (sv_ix hu (so_var (i := 4) rfl (.inl rfl)) (so_of sv_int))) sa_nil)))))))
  (sss_one (ss_retO (i := 3) rfl (.inl rfl)))))

theorem ok_law_held {P : Program} {w : World} {K : PySem.W.Frag} {mg : Str → Option Value} {base : Heap} (G : GF P w K mg)  {f : Addr} {fd : FuncData}
    (F : FunD K "_law_held" "_law_held" (defArgs (top 96)) (defBody (top 96)) (defScope (top 96)) [] [] f fd) (hmg : mg "_law_held" = some (.ref f)) : CalD P w K mg base 1 "_law_held" 2 f_law_held := by
  have nd : (["_law_state", "_law_name"] : List Str).Nodup := by decide +kernel
  refine cal_body (N := ["_law_state", "_law_name"]) (ps := ["_law_state", "_law_name"]) (k := 0) F hmg (F.bindsN fun _ _ _ _ _ _ us hl => match us, hl with | [_, _], _ => rfl) ⟨rfl, rfl, rfl, nd, rfl, by decide +kernel, by decide +kernel⟩ rfl rfl (by decide) fun cdv A outer s H E hr => ?_
  have hu := rm_of (X := (cxOf L2.CX0 P w K mg base ["_law_state", "_law_name"] "_law_held" (defScope (top 96)) f cdv A outer s H E).nox) hr
  exact (sss_one (ss_ret (se_of (sv_if (st_cmp (cd_in hu) (so_var (i := 1) rfl (.inl rfl)) (so_of (sv_ix hu (so_var (i := 0) rfl (.inl rfl)) (so_of sv_int)))) (sv_ix hu (so_of (sv_ix hu (so_of (sv_ix hu (so_var (i := 0) rfl (.inl rfl)) (so_of sv_int))) (so_var (i := 1) rfl (.inl rfl)))) (so_of sv_int)) sv_non))))

theorem ok_law_named {P : Program} {w : World} {K : PySem.W.Frag} {mg : Str → Option Value} {base : Heap} (G : GF P w K mg) (c_law_held : CalD P w K mg base 1 "_law_held" 2 f_law_held) (c_law_open : CalD P w K mg base 2 "_law_open" 4 f_law_open) (c_law_come : CalD P w K mg base 1 "_law_come" 3 f_law_come) (c_law_rethread : CalD P w K mg base 1 "_law_rethread" 3 f_law_rethread) {f : Addr} {fd : FuncData}
    (F : FunD K "_law_named" "_law_named" (defArgs (top 97)) (defBody (top 97)) (defScope (top 97)) [] [] f fd) (hmg : mg "_law_named" = some (.ref f)) : CalD P w K mg base 3 "_law_named" 3 f_law_named := by
  have nd : (["_law_rule_here", "_law_state", "_law_event", "_law_names", "_law_links", "_law_word_here", "_law_name", "_law_who", "_law_found", "_law_old", "_law_more"] : List Str).Nodup := by decide +kernel
  refine cal_body (N := ["_law_rule_here", "_law_state", "_law_event", "_law_names", "_law_links", "_law_word_here", "_law_name", "_law_who", "_law_found", "_law_old", "_law_more"]) (ps := ["_law_rule_here", "_law_state", "_law_event"]) (k := 2) F hmg (F.bindsN fun _ _ _ _ _ _ us hl => match us, hl with | [_, _, _], _ => rfl) ⟨rfl, rfl, rfl, nd, rfl, by decide +kernel, by decide +kernel⟩ rfl rfl (by decide) fun cdv A outer s H E hr => ?_
  have hu := rm_of (X := (cxOf L2.CX0 P w K mg base ["_law_rule_here", "_law_state", "_law_event", "_law_names", "_law_links", "_law_word_here", "_law_name", "_law_who", "_law_found", "_law_old", "_law_more"] "_law_named" (defScope (top 97)) f cdv A outer s H E).nox) hr
  exact (sss_cons (ss_asg (is := [3, 4]) (sv_var (i := 1) rfl (.inl rfl)) (sg_tup rfl (sgs_cons nd rfl (.inl rfl) (sgs_cons nd rfl (.inl rfl) sgs_nil))))
  (sss_cons (ss_par (o := false) (o' := false) (i := 5) (j := 6) rfl nd rfl rfl (by decide) rfl rfl (se_of (sv_ix hu (so_var (i := 2) rfl (.inl rfl)) (so_of sv_int))) (se_of (sv_ix hu (so_var (i := 2) rfl (.inl rfl)) (so_of sv_int))) rfl)
  (sss_cons (ss_set (i := 7) nd rfl (.inl rfl) (sv_ofE (se_call c_law_held hr (by decide) rfl (sa_cons (sv_var (i := 1) rfl (.inl rfl)) (sa_cons (sv_var (i := 6) rfl (.inl rfl)) sa_nil)))))
  (sss_cons (ss_if (st_cmp (cd_eq hu) (so_var (i := 5) rfl (.inl rfl)) (so_of sv_str)) (sss_cons (ss_if (st_not (st_val (sv_ofE (se_call c_law_open hr (by decide) rfl (sa_cons (sv_var (i := 0) rfl (.inl rfl)) (sa_cons (sv_var (i := 1) rfl (.inl rfl)) (sa_cons (sv_var (i := 6) rfl (.inl rfl)) (sa_cons (sv_ix hu (so_var (i := 2) rfl (.inl rfl)) (so_of sv_int)) sa_nil)))))))) (sss_one (ss_ret (se_of sv_non))) sss_nil)
  (sss_one (ss_ret (se_of (sv_tup (sa_cons (sv_ofE (se_call c_law_come hr (by decide) rfl (sa_cons (sv_var (i := 3) rfl (.inl rfl)) (sa_cons (sv_var (i := 6) rfl (.inl rfl)) (sa_cons (sv_ix hu (so_var (i := 2) rfl (.inl rfl)) (so_of sv_int)) sa_nil))))) (sa_cons (sv_var (i := 4) rfl (.inl rfl)) sa_nil))))))) sss_nil)
  (sss_cons (ss_if (st_cmp cd_is (so_var (i := 7) rfl (.inl rfl)) (so_of sv_non)) (sss_one (ss_ret (se_of sv_non))) sss_nil)
  (sss_cons (ss_par (o := true) (o' := false) (i := 8) (j := 9) rfl nd rfl rfl (by decide) rfl rfl (se_dict rfl G.dict (so_var (i := 3) rfl (.inl rfl))) (se_of (sv_ix hu (so_var (i := 3) rfl (.inl rfl)) (so_var (i := 6) rfl (.inl rfl)))) rfl)
  (sss_cons (ss_if (st_cmp (cd_eq hu) (so_var (i := 5) rfl (.inl rfl)) (so_of sv_str)) (sss_one (ss_frz (i := 8) (ss_ret (se_of (sv_tup (sa_cons (sv_var (i := 8) rfl (.inl rfl)) (sa_cons (sv_ofE (se_cat (so_var (i := 4) rfl (.inl rfl)) (so_ofE (se_lst (sa_cons (sv_tup (sa_cons (sv_var (i := 6) rfl (.inl rfl)) (sa_cons (sv_ix hu (so_var (i := 9) rfl (.inl rfl)) (so_of sv_int)) (sa_cons (sv_var (i := 7) rfl (.inl rfl)) (sa_cons sv_int (sa_cons (sv_var (i := 6) rfl (.inl rfl)) sa_nil)))))) sa_nil))))) sa_nil))))))) sss_nil)
  (sss_cons (ss_if (st_cmp (cd_eq hu) (so_var (i := 5) rfl (.inl rfl)) (so_of sv_str)) (sss_cons (ss_put (i := 8) hu rfl (.inl rfl) (sv_var (i := 6) rfl (.inl rfl)) (sv_tup (sa_cons sv_non (sa_cons (sv_var (i := 7) rfl (.inl rfl)) (sa_cons (sv_ix hu (so_var (i := 9) rfl (.inl rfl)) (so_of sv_int)) (sa_cons sv_int (sa_cons sv_non sa_nil)))))))
  (sss_one (ss_frz (i := 8) (ss_ret (se_of (sv_tup (sa_cons (sv_var (i := 8) rfl (.inl rfl)) (sa_cons (sv_ofE (se_call c_law_rethread hr (by decide) rfl (sa_cons (sv_var (i := 4) rfl (.inl rfl)) (sa_cons (sv_var (i := 6) rfl (.inl rfl)) (sa_cons sv_non sa_nil))))) sa_nil)))))))) sss_nil)
  (sss_cons (ss_if (st_cmp (cd_eq hu) (so_var (i := 5) rfl (.inl rfl)) (so_of sv_str)) (sss_cons (ss_if (PW.pt (sw_or (st_cmp (cd_eq hu) (so_of (sv_ix hu (so_var (i := 0) rfl (.inl rfl)) (so_of sv_int))) (so_of sv_str)) (sw_or1 (st_cmp (cd_eq hu) (so_var (i := 7) rfl (.inl rfl)) (so_of (sv_ix hu (so_var (i := 2) rfl (.inl rfl)) (so_of sv_int))))))) (sss_one (ss_ret (se_of sv_non))) sss_nil)
  (sss_cons (ss_set (i := 10) nd rfl (.inl rfl) (sv_bin od_add (so_of (sv_ix hu (so_var (i := 9) rfl (.inl rfl)) (so_of sv_int))) (so_of (sv_intc rfl G.int (so_of (sv_cmp (cd_eq hu) (so_of (sv_ix hu (so_var (i := 0) rfl (.inl rfl)) (so_of sv_int))) (so_of sv_str)))))))
  (sss_cons (ss_put (i := 8) hu rfl (.inl rfl) (sv_var (i := 6) rfl (.inl rfl)) (sv_tup (sa_cons (sv_ix hu (so_var (i := 2) rfl (.inl rfl)) (so_of sv_int)) (sa_cons (sv_ix hu (so_var (i := 2) rfl (.inl rfl)) (so_of sv_int)) (sa_cons (sv_var (i := 10) rfl (.inl rfl)) (sa_cons sv_int (sa_cons sv_non sa_nil)))))))
  (sss_one (ss_frz (i := 8) (ss_ret (se_of (sv_tup (sa_cons (sv_var (i := 8) rfl (.inl rfl)) (sa_cons (sv_ofE (se_call c_law_rethread hr (by decide) rfl (sa_cons (sv_var (i := 4) rfl (.inl rfl)) (sa_cons (sv_var (i := 6) rfl (.inl rfl)) (sa_cons sv_non sa_nil))))) sa_nil)))))))))) sss_nil)
  (sss_cons (ss_if (PW.pt (sw_or (st_cmp (cd_eq hu) (so_var (i := 6) rfl (.inl rfl)) (so_of (sv_ix hu (so_var (i := 2) rfl (.inl rfl)) (so_of sv_int)))) (sw_or1 (st_not (st_val (sv_ofE (se_call c_law_open hr (by decide) rfl (sa_cons (sv_var (i := 0) rfl (.inl rfl)) (sa_cons (sv_var (i := 1) rfl (.inl rfl)) (sa_cons (sv_var (i := 7) rfl (.inl rfl)) (sa_cons (sv_ix hu (so_var (i := 2) rfl (.inl rfl)) (so_of sv_int)) sa_nil))))))))))) (sss_one (ss_ret (se_of sv_non))) sss_nil)
  (sss_cons (ss_setO (i := 8) nd rfl (.inl rfl) (se_call c_law_come hr (by decide) rfl (sa_cons (sv_var (i := 3) rfl (.inl rfl)) (sa_cons (sv_var (i := 7) rfl (.inl rfl)) (sa_cons (sv_ix hu (so_var (i := 2) rfl (.inl rfl)) (so_of sv_int)) sa_nil)))))
  (sss_cons (ss_put (i := 8) hu rfl (.inl rfl) (sv_var (i := 6) rfl (.inl rfl)) (sv_tup (sa_cons sv_non (sa_cons (sv_var (i := 7) rfl (.inl rfl)) (sa_cons (sv_ix hu (so_var (i := 9) rfl (.inl rfl)) (so_of sv_int)) (sa_cons sv_int (sa_cons (sv_tup (sa_cons (sv_ix hu (so_var (i := 2) rfl (.inl rfl)) (so_of sv_int)) (sa_cons (sv_ix hu (so_of (sv_ix hu (so_var (i := 8) rfl (.inl rfl)) (so_of (sv_ix hu (so_var (i := 2) rfl (.inl rfl)) (so_of sv_int))))) (so_of sv_int)) sa_nil))) sa_nil)))))))
  (sss_one (ss_frz (i := 8) (ss_ret (se_of (sv_tup (sa_cons (sv_var (i := 8) rfl (.inl rfl)) (sa_cons (sv_ofE (se_call c_law_rethread hr (by decide) rfl (sa_cons (sv_var (i := 4) rfl (.inl rfl)) (sa_cons (sv_var (i := 6) rfl (.inl rfl)) (sa_cons (sv_ix hu (so_var (i := 2) rfl (.inl rfl)) (so_of sv_int)) sa_nil))))) sa_nil)))))))))))))))))))

theorem ok_law_next {P : Program} {w : World} {K : PySem.W.Frag} {mg : Str → Option Value} {base : Heap} (G : GF P w K mg) (c_law_named : CalD P w K mg base 3 "_law_named" 3 f_law_named) (c_law_dead : CalD P w K mg base 1 "_law_dead" 2 f_law_dead) (c_law_to : CalD P w K mg base 3 "_law_to" 3 f_law_to) {f : Addr} {fd : FuncData}
    (F : FunD K "_law_next" "_law_next" (defArgs (top 98)) (defBody (top 98)) (defScope (top 98)) [] [] f fd) (hmg : mg "_law_next" = some (.ref f)) : CalD P w K mg base 4 "_law_next" 3 f_law_next := by
  have nd : (["_law_rule_here", "_law_state", "_law_event", "_law_names", "_law_links", "_law_old", "_law_new", "_law_found", "_law_name", "_law_who", "_law_link"] : List Str).Nodup := by decide +kernel
  refine cal_body (N := ["_law_rule_here", "_law_state", "_law_event", "_law_names", "_law_links", "_law_old", "_law_new", "_law_found", "_law_name", "_law_who", "_law_link"]) (ps := ["_law_rule_here", "_law_state", "_law_event"]) (k := 3) F hmg (F.bindsN fun _ _ _ _ _ _ us hl => match us, hl with | [_, _, _], _ => rfl) ⟨rfl, rfl, rfl, nd, rfl, by decide +kernel, by decide +kernel⟩ rfl rfl (by decide) fun cdv A outer s H E hr => ?_
  have hu := rm_of (X := (cxOf L2.CX0 P w K mg base ["_law_rule_here", "_law_state", "_law_event", "_law_names", "_law_links", "_law_old", "_law_new", "_law_found", "_law_name", "_law_who", "_law_link"] "_law_next" (defScope (top 98)) f cdv A outer s H E).nox) hr
  exact (sss_cons (ss_asg (is := [3, 4]) (sv_var (i := 1) rfl (.inl rfl)) (sg_tup rfl (sgs_cons nd rfl (.inl rfl) (sgs_cons nd rfl (.inl rfl) sgs_nil))))
  (sss_cons (ss_if (st_cmp (cd_eq hu) (so_of (sv_ix hu (so_var (i := 2) rfl (.inl rfl)) (so_of sv_int))) (so_of sv_str)) (sss_cons (ss_setO (i := 7) nd rfl (.inl rfl) se_newS)
  (sss_cons (ss_keysS (is := [8]) PassesOwn.never rfl (sv_var (i := 3) rfl (.inl rfl)) (sg_name nd rfl (.inl rfl)) (sss_cons (ss_set (i := 5) nd rfl (.inl rfl) (sv_ix hu (so_var (i := 3) rfl (.inl rfl)) (so_var (i := 8) rfl (.inl rfl))))
  (sss_one (ss_put (i := 7) hu rfl (.inl rfl) (sv_var (i := 8) rfl (.inl rfl)) (sv_bin od_add (so_of (sv_sl (so_var (i := 5) rfl (.inl rfl)) si_none (si_some sv_int))) (so_of (sv_tup (sa_cons (sv_bin od_add (so_of (sv_ix hu (so_var (i := 5) rfl (.inl rfl)) (so_of sv_int))) (so_of (sv_intc rfl G.int (so_of (sv_cmp cd_is (so_of (sv_ix hu (so_var (i := 5) rfl (.inl rfl)) (so_of sv_int))) (so_of sv_non)))))) (sa_cons (sv_ix hu (so_var (i := 5) rfl (.inl rfl)) (so_of sv_int)) sa_nil)))))))))
  (sss_one (ss_frz (i := 7) (ss_ret (se_of (sv_tup (sa_cons (sv_var (i := 7) rfl (.inl rfl)) (sa_cons (sv_ofE (se_lc (own := [("_law_link", 10)]) (is := [10]) rfl nd (sf_list (se_of (sv_var (i := 4) rfl (.inl rfl)))) (blkOk_by (by rfl)) (by decide) (fun _ _ _ _ _ => (sg_name nd rfl (.inl rfl))) (fun _ _ _ _ _ => sts_nil) (fun _ _ _ _ _ => (sv_bin od_add (so_of (sv_sl (so_var (i := 10) rfl (.inl rfl)) si_none (si_some sv_int))) (so_of (sv_tup (sa_cons (sv_bin od_add (so_of (sv_ix hu (so_var (i := 10) rfl (.inl rfl)) (so_of sv_int))) (so_of sv_int)) (sa_cons (sv_ix hu (so_var (i := 10) rfl (.inl rfl)) (so_of sv_int)) sa_nil)))))))) sa_nil))))))))) sss_nil)
  (sss_cons (ss_if (st_cmp (cd_ne hu) (so_of (sv_ix hu (so_var (i := 2) rfl (.inl rfl)) (so_of sv_int))) (so_of sv_str)) (sss_one (ss_ret (se_call c_law_named hr (by decide) rfl (sa_cons (sv_var (i := 0) rfl (.inl rfl)) (sa_cons (sv_var (i := 1) rfl (.inl rfl)) (sa_cons (sv_var (i := 2) rfl (.inl rfl)) sa_nil)))))) sss_nil)
  (sss_cons (ss_if (PW.pt (sw_or (st_cmp (cd_eq hu) (so_of (sv_ix hu (so_var (i := 0) rfl (.inl rfl)) (so_of sv_int))) (so_of sv_str)) (sw_or (st_cmp cd_ge (so_of (sv_ix hu (so_var (i := 2) rfl (.inl rfl)) (so_of sv_int))) (so_of (sv_len rfl G.len (so_var (i := 4) rfl (.inl rfl))))) (sw_or1 (st_val (sv_ofE (se_call c_law_dead hr (by decide) rfl (sa_cons (sv_var (i := 0) rfl (.inl rfl)) (sa_cons (sv_ix hu (so_var (i := 4) rfl (.inl rfl)) (so_of (sv_ix hu (so_var (i := 2) rfl (.inl rfl)) (so_of sv_int)))) sa_nil))))))))) (sss_one (ss_ret (se_of sv_non))) sss_nil)
  (sss_cons (ss_set (i := 5) nd rfl (.inl rfl) (sv_ix hu (so_var (i := 4) rfl (.inl rfl)) (so_of (sv_ix hu (so_var (i := 2) rfl (.inl rfl)) (so_of sv_int)))))
  (sss_cons (ss_set (i := 6) nd rfl (.inl rfl) (sv_tup (sa_cons (sv_ix hu (so_var (i := 5) rfl (.inl rfl)) (so_of sv_int)) (sa_cons (sv_ix hu (so_var (i := 5) rfl (.inl rfl)) (so_of sv_int)) (sa_cons (sv_ix hu (so_var (i := 5) rfl (.inl rfl)) (so_of sv_int)) (sa_cons sv_int (sa_cons (sv_ix hu (so_var (i := 5) rfl (.inl rfl)) (so_of sv_int)) sa_nil)))))))
  (sss_cons (ss_if (st_cmp (cd_eq hu) (so_of (sv_ix hu (so_var (i := 0) rfl (.inl rfl)) (so_of sv_int))) (so_of sv_str)) (sss_cons (ss_asg (is := [8, 9]) (sv_ofE (se_call c_law_to hr (by decide) rfl (sa_cons (sv_var (i := 0) rfl (.inl rfl)) (sa_cons (sv_var (i := 1) rfl (.inl rfl)) (sa_cons (sv_var (i := 5) rfl (.inl rfl)) sa_nil))))) (sg_tup rfl (sgs_cons nd rfl (.inl rfl) (sgs_cons nd rfl (.inl rfl) sgs_nil))))
  (sss_cons (ss_if (st_cmp cd_is (so_var (i := 9) rfl (.inl rfl)) (so_of sv_non)) (sss_one (ss_ret (se_of sv_non))) sss_nil)
  (sss_one (ss_set (i := 6) nd rfl (.inl rfl) (sv_tup (sa_cons (sv_var (i := 8) rfl (.inl rfl)) (sa_cons (sv_ix hu (so_of (sv_ix hu (so_var (i := 3) rfl (.inl rfl)) (so_var (i := 8) rfl (.inl rfl)))) (so_of sv_int)) (sa_cons (sv_ix hu (so_var (i := 5) rfl (.inl rfl)) (so_of sv_int)) (sa_cons sv_int (sa_cons (sv_ix hu (so_var (i := 5) rfl (.inl rfl)) (so_of sv_int)) sa_nil)))))))))) sss_nil)
  (sss_one (ss_ret (se_of (sv_tup (sa_cons (sv_var (i := 3) rfl (.inl rfl)) (sa_cons (sv_ofE (se_cat (so_var (i := 4) rfl (.inl rfl)) (so_ofE (se_lst (sa_cons (sv_var (i := 6) rfl (.inl rfl)) sa_nil))))) sa_nil)))))))))))))

theorem ok_law_begin {P : Program} {w : World} {K : PySem.W.Frag} {mg : Str → Option Value} {base : Heap} (G : GF P w K mg)  {f : Addr} {fd : FuncData}
    (F : FunD K "_law_begin" "_law_begin" (defArgs (top 99)) (defBody (top 99)) (defScope (top 99)) [] [] f fd) (hmg : mg "_law_begin" = some (.ref f)) : CalD P w K mg base 1 "_law_begin" 0 f_law_begin := by
  have nd : ([] : List Str).Nodup := by decide +kernel
  refine cal_body (N := []) (ps := []) (k := 0) F hmg (F.bindsN fun _ _ _ _ _ _ us hl => match us, hl with | [], _ => rfl) ⟨rfl, rfl, rfl, nd, rfl, by decide +kernel, by decide +kernel⟩ rfl rfl (by decide) fun cdv A outer s H E hr => ?_
  have hu := rm_of (X := (cxOf L2.CX0 P w K mg base [] "_law_begin" (defScope (top 99)) f cdv A outer s H E).nox) hr
  exact (sss_one (ss_ret (se_of (sv_tup (sa_cons (sv_ofE se_newS) (sa_cons (sv_ofE (se_lst sa_nil)) sa_nil))))))

theorem ok_law_word {P : Program} {w : World} {K : PySem.W.Frag} {mg : Str → Option Value} {base : Heap} (G : GF P w K mg) (c_law_to : CalD P w K mg base 3 "_law_to" 3 f_law_to) (c_law_dead : CalD P w K mg base 1 "_law_dead" 2 f_law_dead) {f : Addr} {fd : FuncData}
    (F : FunD K "_law_word" "_law_word" (defArgs (top 100)) (defBody (top 100)) (defScope (top 100)) [] [] f fd) (hmg : mg "_law_word" = some (.ref f)) : CalD P w K mg base 4 "_law_word" 3 f_law_word := by
  have nd : (["_law_rule_here", "_law_state", "_law_link", "_law_name", "_law_who"] : List Str).Nodup := by decide +kernel
  refine cal_body (N := ["_law_rule_here", "_law_state", "_law_link", "_law_name", "_law_who"]) (ps := ["_law_rule_here", "_law_state", "_law_link"]) (k := 3) F hmg (F.bindsN fun _ _ _ _ _ _ us hl => match us, hl with | [_, _, _], _ => rfl) ⟨rfl, rfl, rfl, nd, rfl, by decide +kernel, by decide +kernel⟩ rfl rfl (by decide) fun cdv A outer s H E hr => ?_
  have hu := rm_of (X := (cxOf L2.CX0 P w K mg base ["_law_rule_here", "_law_state", "_law_link", "_law_name", "_law_who"] "_law_word" (defScope (top 100)) f cdv A outer s H E).nox) hr
  exact (sss_cons (ss_asg (is := [3, 4]) (sv_ofE (se_call c_law_to hr (by decide) rfl (sa_cons (sv_var (i := 0) rfl (.inl rfl)) (sa_cons (sv_var (i := 1) rfl (.inl rfl)) (sa_cons (sv_var (i := 2) rfl (.inl rfl)) sa_nil))))) (sg_tup rfl (sgs_cons nd rfl (.inl rfl) (sgs_cons nd rfl (.inl rfl) sgs_nil))))
  (sss_cons (ss_if (st_val (sv_ofE (se_call c_law_dead hr (by decide) rfl (sa_cons (sv_var (i := 0) rfl (.inl rfl)) (sa_cons (sv_var (i := 2) rfl (.inl rfl)) sa_nil))))) (sss_one (ss_ret (se_of sv_str))) sss_nil)
  (sss_cons (ss_if (st_cmp cd_isnot (so_var (i := 4) rfl (.inl rfl)) (so_of sv_non)) (sss_one (ss_ret (se_of (sv_if (st_cmp (cd_eq hu) (so_var (i := 4) rfl (.inl rfl)) (so_of (sv_ix hu (so_var (i := 2) rfl (.inl rfl)) (so_of sv_int)))) sv_str sv_str)))) sss_nil)
  (sss_one (ss_ret (se_of (sv_if (st_cmp cd_isnot (so_of (sv_ix hu (so_var (i := 2) rfl (.inl rfl)) (so_of sv_int))) (so_of sv_non)) sv_str sv_str)))))))

theorem ok_law_harms {P : Program} {w : World} {K : PySem.W.Frag} {mg : Str → Option Value} {base : Heap} (G : GF P w K mg) (c_law_held : CalD P w K mg base 1 "_law_held" 2 f_law_held) (c_law_word : CalD P w K mg base 4 "_law_word" 3 f_law_word) {f : Addr} {fd : FuncData}
    (F : FunD K "_law_harms" "_law_harms" (defArgs (top 101)) (defBody (top 101)) (defScope (top 101)) [] [] f fd) (hmg : mg "_law_harms" = some (.ref f)) : CalD P w K mg base 5 "_law_harms" 4 f_law_harms := by
  have nd : (["_law_rule_here", "_law_state", "_law_later", "_law_event", "_law_found", "_law_who", "_law_at", "_law_source", "_law_old", "_law_word_here", "_law_doer"] : List Str).Nodup := by decide +kernel
  refine cal_body (N := ["_law_rule_here", "_law_state", "_law_later", "_law_event", "_law_found", "_law_who", "_law_at", "_law_source", "_law_old", "_law_word_here", "_law_doer"]) (ps := ["_law_rule_here", "_law_state", "_law_later", "_law_event"]) (k := 4) F hmg (F.bindsN fun _ _ _ _ _ _ us hl => match us, hl with | [_, _, _, _], _ => rfl) ⟨rfl, rfl, rfl, nd, rfl, by decide +kernel, by decide +kernel⟩ rfl rfl (by decide) fun cdv A outer s H E hr => ?_
  have hu := rm_of (X := (cxOf L2.CX0 P w K mg base ["_law_rule_here", "_law_state", "_law_later", "_law_event", "_law_found", "_law_who", "_law_at", "_law_source", "_law_old", "_law_word_here", "_law_doer"] "_law_harms" (defScope (top 101)) f cdv A outer s H E).nox) hr
  exact (sss_cons (ss_par (o := true) (o' := false) (i := 4) (j := 5) rfl nd rfl rfl (by decide) rfl rfl (se_lst sa_nil) (se_of sv_non) rfl)
  (sss_cons (ss_if (st_cmp (cd_in hu) (so_of (sv_ix hu (so_var (i := 3) rfl (.inl rfl)) (so_of sv_int))) (so_ofE (se_lst (sa_cons sv_str (sa_cons sv_str (sa_cons sv_str (sa_cons sv_str sa_nil))))))) (sss_one (ss_set (i := 5) nd rfl (.inl rfl) (sv_ofE (se_if (st_cmp (cd_eq hu) (so_of (sv_ix hu (so_var (i := 3) rfl (.inl rfl)) (so_of sv_int))) (so_of sv_str)) (se_of (sv_ix hu (so_var (i := 3) rfl (.inl rfl)) (so_of sv_int))) (se_call c_law_held hr (by decide) rfl (sa_cons (sv_var (i := 1) rfl (.inl rfl)) (sa_cons (sv_ix hu (so_var (i := 3) rfl (.inl rfl)) (so_of sv_int)) sa_nil))))))) sss_nil)
  (sss_cons (ss_for (is := [6]) PassesOwn.never rfl (sf_range rfl G.range (sv_len rfl G.len (so_of (sv_ix hu (so_var (i := 2) rfl (.inl rfl)) (so_of sv_int))))) (sg_name nd rfl (.inl rfl)) (sss_cons (ss_set (i := 7) nd rfl (.inl rfl) (sv_if (PW.pt (sw_and (st_cmp (cd_eq hu) (so_of (sv_ix hu (so_var (i := 3) rfl (.inl rfl)) (so_of sv_int))) (so_of sv_str)) (sw_and1 (st_cmp (cd_eq hu) (so_var (i := 6) rfl (.inl rfl)) (so_of (sv_bin od_sub (so_of (sv_len rfl G.len (so_of (sv_ix hu (so_var (i := 2) rfl (.inl rfl)) (so_of sv_int))))) (so_of sv_int))))))) (sv_ix hu (so_var (i := 3) rfl (.inl rfl)) (so_of sv_int)) (sv_var (i := 6) rfl (.inl rfl))))
  (sss_cons (ss_set (i := 8) nd rfl (.inl rfl) (sv_ofE (se_if (st_cmp cd_lt (so_var (i := 7) rfl (.inl rfl)) (so_of (sv_len rfl G.len (so_of (sv_ix hu (so_var (i := 1) rfl (.inl rfl)) (so_of sv_int)))))) (se_call c_law_word hr (by decide) rfl (sa_cons (sv_var (i := 0) rfl (.inl rfl)) (sa_cons (sv_var (i := 1) rfl (.inl rfl)) (sa_cons (sv_ix hu (so_of (sv_ix hu (so_var (i := 1) rfl (.inl rfl)) (so_of sv_int))) (so_var (i := 7) rfl (.inl rfl))) sa_nil)))) (se_of sv_str))))
  (sss_cons (ss_set (i := 9) nd rfl (.inl rfl) (sv_ofE (se_call c_law_word hr (by decide) rfl (sa_cons (sv_var (i := 0) rfl (.inl rfl)) (sa_cons (sv_var (i := 2) rfl (.inl rfl)) (sa_cons (sv_ix hu (so_of (sv_ix hu (so_var (i := 2) rfl (.inl rfl)) (so_of sv_int))) (so_var (i := 6) rfl (.inl rfl))) sa_nil))))))
  (sss_one (ss_if (PW.pt (sw_and (st_cmp (cd_in hu) (so_var (i := 9) rfl (.inl rfl)) (so_ofE (se_lst (sa_cons sv_str (sa_cons sv_str sa_nil))))) (sw_and1 (st_cmp (cd_ne hu) (so_var (i := 9) rfl (.inl rfl)) (so_var (i := 8) rfl (.inl rfl)))))) (sss_cons (ss_set (i := 10) nd rfl (.inl rfl) (sv_if (st_cmp (cd_eq hu) (so_var (i := 5) rfl (.inl rfl)) (so_of (sv_ix hu (so_of (sv_ix hu (so_of (sv_ix hu (so_var (i := 2) rfl (.inl rfl)) (so_of sv_int))) (so_var (i := 6) rfl (.inl rfl)))) (so_of sv_int)))) sv_str sv_str))
  (sss_one (ss_app (i := 4) rfl (.inl rfl) (sv_tup (sa_cons (sv_var (i := 9) rfl (.inl rfl)) (sa_cons (sv_if (st_cmp (cd_eq hu) (so_of (sv_ix hu (so_var (i := 3) rfl (.inl rfl)) (so_of sv_int))) (so_of sv_str)) sv_str (sv_var (i := 10) rfl (.inl rfl))) sa_nil)))))) sss_nil))))))
  (sss_one (ss_frz (i := 4) (ss_ret (se_sortSet rfl hu rfl G.sorted rfl G.set (sv_var (i := 4) rfl (.inl rfl)))))))))

theorem ok_law_top {P : Program} {w : World} {K : PySem.W.Frag} {mg : Str → Option Value} {base : Heap} (G : GF P w K mg)  {f : Addr} {fd : FuncData}
    (F : FunD K "_law_top" "_law_top" (defArgs (top 102)) (defBody (top 102)) (defScope (top 102)) [] [] f fd) (hmg : mg "_law_top" = some (.ref f)) : CalD P w K mg base 1 "_law_top" 1 f_law_top := by
  have nd : (["_law_rule_here", "_law_one"] : List Str).Nodup := by decide +kernel
  refine cal_body (N := ["_law_rule_here", "_law_one"]) (ps := ["_law_rule_here"]) (k := 0) F hmg (F.bindsN fun _ _ _ _ _ _ us hl => match us, hl with | [_], _ => rfl) ⟨rfl, rfl, rfl, nd, rfl, by decide +kernel, by decide +kernel⟩ rfl rfl (by decide) fun cdv A outer s H E hr => ?_
  have hu := rm_of (X := (cxOf L2.CX0 P w K mg base ["_law_rule_here", "_law_one"] "_law_top" (defScope (top 102)) f cdv A outer s H E).nox) hr
  exact (sss_one (ss_ret (se_of (sv_max rfl rfl G.max (so_ofE (se_cat (so_ofE (se_lst (sa_cons sv_int sa_nil))) (so_ofE (se_lc (own := [("_law_one", 1)]) (is := [1]) rfl nd (sf_tup (sv_sl (so_var (i := 0) rfl (.inl rfl)) si_none (si_some sv_int))) (blkOk_by (by rfl)) (by decide) (fun _ _ _ _ _ => (sg_name nd rfl (.inl rfl))) (fun _ _ _ _ _ => (sts_one (st_cmp cd_isnot (so_var (i := 1) rfl (.inl rfl)) (so_of sv_non)))) (fun _ _ _ _ _ => (sv_intc rfl G.int (so_var (i := 1) rfl (.inl rfl))))))))))))

theorem ok_law_fine {P : Program} {w : World} {K : PySem.W.Frag} {mg : Str → Option Value} {base : Heap} (G : GF P w K mg)  {f : Addr} {fd : FuncData}
    (F : FunD K "_law_fine" "_law_fine" (defArgs (top 103)) (defBody (top 103)) (defScope (top 103)) [] [] f fd) (hmg : mg "_law_fine" = some (.ref f)) : CalD P w K mg base 1 "_law_fine" 2 f_law_fine := by
  have nd : (["_law_rule_here", "_law_record"] : List Str).Nodup := by decide +kernel
  refine cal_body (N := ["_law_rule_here", "_law_record"]) (ps := ["_law_rule_here", "_law_record"]) (k := 0) F hmg (F.bindsN fun _ _ _ _ _ _ us hl => match us, hl with | [_, _], _ => rfl) ⟨rfl, rfl, rfl, nd, rfl, by decide +kernel, by decide +kernel⟩ rfl rfl (by decide) fun cdv A outer s H E hr => ?_
  have hu := rm_of (X := (cxOf L2.CX0 P w K mg base ["_law_rule_here", "_law_record"] "_law_fine" (defScope (top 103)) f cdv A outer s H E).nox) hr
  exact (sss_one (ss_ret (se_of (sv_and (sv_cmp (cd_ne hu) (so_of (sv_ix hu (so_var (i := 1) rfl (.inl rfl)) (so_of sv_int))) (so_of sv_str)) (sv_one (sv_or (sv_cmp cd_is (so_of (sv_ix hu (so_var (i := 0) rfl (.inl rfl)) (so_of sv_int))) (so_of sv_non)) (sv_one (sv_cmp cd_lt (so_of (sv_ix hu (so_var (i := 1) rfl (.inl rfl)) (so_of sv_int))) (so_of (sv_ix hu (so_var (i := 0) rfl (.inl rfl)) (so_of sv_int)))))))))))

theorem ok_law_may {P : Program} {w : World} {K : PySem.W.Frag} {mg : Str → Option Value} {base : Heap} (G : GF P w K mg) (c_law_fine : CalD P w K mg base 1 "_law_fine" 2 f_law_fine) {f : Addr} {fd : FuncData}
    (F : FunD K "_law_may" "_law_may" (defArgs (top 104)) (defBody (top 104)) (defScope (top 104)) [] [] f fd) (hmg : mg "_law_may" = some (.ref f)) : CalD P w K mg base 2 "_law_may" 4 f_law_may := by
  have nd : (["_law_rule_here", "_law_record", "_law_who", "_law_back"] : List Str).Nodup := by decide +kernel
  refine cal_body (N := ["_law_rule_here", "_law_record", "_law_who", "_law_back"]) (ps := ["_law_rule_here", "_law_record", "_law_who", "_law_back"]) (k := 1) F hmg (F.bindsN fun _ _ _ _ _ _ us hl => match us, hl with | [_, _, _, _], _ => rfl) ⟨rfl, rfl, rfl, nd, rfl, by decide +kernel, by decide +kernel⟩ rfl rfl (by decide) fun cdv A outer s H E hr => ?_
  have hu := rm_of (X := (cxOf L2.CX0 P w K mg base ["_law_rule_here", "_law_record", "_law_who", "_law_back"] "_law_may" (defScope (top 104)) f cdv A outer s H E).nox) hr
  exact (sss_cons (ss_if (st_val (sv_var (i := 3) rfl (.inl rfl))) (sss_one (ss_ret (se_of (sv_cmp (cd_eq hu) (so_of (sv_ix hu (so_var (i := 1) rfl (.inl rfl)) (so_of sv_int))) (so_var (i := 2) rfl (.inl rfl)))))) sss_nil)
  (sss_cons (ss_if (PW.pt (sw_or (st_chain (cd_eq hu) (cd_eq hu) (so_of (sv_ix hu (so_var (i := 1) rfl (.inl rfl)) (so_of sv_int))) (so_var (i := 2) rfl (.inl rfl)) (so_of sv_str)) (sw_or (st_cmp cd_is (so_of (sv_ix hu (so_var (i := 0) rfl (.inl rfl)) (so_of sv_int))) (so_of sv_non)) (sw_or1 (st_cmp cd_lt (so_of (sv_ix hu (so_var (i := 1) rfl (.inl rfl)) (so_of sv_int))) (so_of (sv_ix hu (so_var (i := 0) rfl (.inl rfl)) (so_of sv_int)))))))) (sss_one (ss_ret (se_of sv_bl))) sss_nil)
  (sss_one (ss_ret (se_of (sv_not (sv_and (sv_ix hu (so_var (i := 0) rfl (.inl rfl)) (so_of sv_int)) (sv_one (sv_ofE (se_call c_law_fine hr (by decide) rfl (sa_cons (sv_var (i := 0) rfl (.inl rfl)) (sa_cons (sv_var (i := 1) rfl (.inl rfl)) sa_nil))))))))))))

theorem ok_law_cut {P : Program} {w : World} {K : PySem.W.Frag} {mg : Str → Option Value} {base : Heap} (G : GF P w K mg)  {f : Addr} {fd : FuncData}
    (F : FunD K "_law_cut" "_law_cut" (defArgs (top 105)) (defBody (top 105)) (defScope (top 105)) [] [] f fd) (hmg : mg "_law_cut" = some (.ref f)) : CalD P w K mg base 1 "_law_cut" 3 f_law_cut := by
  have nd : (["_law_scene", "_law_at", "_law_record", "_law_age", "_law_rows_here", "_law_thread"] : List Str).Nodup := by decide +kernel
  refine cal_body (N := ["_law_scene", "_law_at", "_law_record", "_law_age", "_law_rows_here", "_law_thread"]) (ps := ["_law_scene", "_law_at", "_law_record"]) (k := 0) F hmg (F.bindsN fun _ _ _ _ _ _ us hl => match us, hl with | [_, _, _], _ => rfl) ⟨rfl, rfl, rfl, nd, rfl, by decide +kernel, by decide +kernel⟩ rfl rfl (by decide) fun cdv A outer s H E hr => ?_
  have hu := rm_of (X := (cxOf L2.CX0 P w K mg base ["_law_scene", "_law_at", "_law_record", "_law_age", "_law_rows_here", "_law_thread"] "_law_cut" (defScope (top 105)) f cdv A outer s H E).nox) hr
  exact (sss_cons (ss_asg (is := [3, 4, 5]) (sv_var (i := 0) rfl (.inl rfl)) (sg_tup rfl (sgs_cons nd rfl (.inl rfl) (sgs_cons nd rfl (.inl rfl) (sgs_cons nd rfl (.inl rfl) sgs_nil)))))
  (sss_cons (ss_if (PW.pt (sw_and (st_cmp cd_isnot (so_var (i := 5) rfl (.inl rfl)) (so_of sv_non)) (sw_and (st_cmp (cd_ne hu) (so_var (i := 5) rfl (.inl rfl)) (so_of sv_str)) (sw_and1 (st_cmp cd_gt (so_var (i := 5) rfl (.inl rfl)) (so_var (i := 1) rfl (.inl rfl))))))) (sss_one (ss_set (i := 5) nd rfl (.inl rfl) sv_str)) sss_nil)
  (sss_one (ss_ret (se_of (sv_tup (sa_cons (sv_var (i := 3) rfl (.inl rfl)) (sa_cons (sv_bin od_add (so_of (sv_sl (so_var (i := 4) rfl (.inl rfl)) si_none (si_some (sv_var (i := 1) rfl (.inl rfl))))) (so_of (sv_tup (sa_cons (sv_var (i := 2) rfl (.inl rfl)) sa_nil)))) (sa_cons (sv_var (i := 5) rfl (.inl rfl)) sa_nil)))))))))

theorem ok_law_come_in {P : Program} {w : World} {K : PySem.W.Frag} {mg : Str → Option Value} {base : Heap} (G : GF P w K mg) (c_law_cut : CalD P w K mg base 1 "_law_cut" 3 f_law_cut) {f : Addr} {fd : FuncData}
    (F : FunD K "_law_come_in" "_law_come_in" (defArgs (top 106)) (defBody (top 106)) (defScope (top 106)) [] [] f fd) (hmg : mg "_law_come_in" = some (.ref f)) : CalD P w K mg base 2 "_law_come_in" 5 f_law_come_in := by
  have nd : (["_law_rule_here", "_law_scene", "_law_at", "_law_who", "_law_back", "_law_record", "_law_number"] : List Str).Nodup := by decide +kernel
  refine cal_body (N := ["_law_rule_here", "_law_scene", "_law_at", "_law_who", "_law_back", "_law_record", "_law_number"]) (ps := ["_law_rule_here", "_law_scene", "_law_at", "_law_who", "_law_back"]) (k := 1) F hmg (F.bindsN fun _ _ _ _ _ _ us hl => match us, hl with | [_, _, _, _, _], _ => rfl) ⟨rfl, rfl, rfl, nd, rfl, by decide +kernel, by decide +kernel⟩ rfl rfl (by decide) fun cdv A outer s H E hr => ?_
  have hu := rm_of (X := (cxOf L2.CX0 P w K mg base ["_law_rule_here", "_law_scene", "_law_at", "_law_who", "_law_back", "_law_record", "_law_number"] "_law_come_in" (defScope (top 106)) f cdv A outer s H E).nox) hr
  exact (sss_cons (ss_set (i := 5) nd rfl (.inl rfl) (sv_ix hu (so_of (sv_ix hu (so_var (i := 1) rfl (.inl rfl)) (so_of sv_int))) (so_var (i := 2) rfl (.inl rfl))))
  (sss_cons (ss_set (i := 6) nd rfl (.inl rfl) (sv_bin od_mod (so_of (sv_intc rfl G.int (so_of (sv_bin od_add (so_of (sv_ix hu (so_var (i := 5) rfl (.inl rfl)) (so_of sv_int))) (so_of (sv_intc rfl G.int (so_of (sv_not (sv_var (i := 4) rfl (.inl rfl)))))))))) (so_of (sv_ix hu (so_var (i := 0) rfl (.inl rfl)) (so_of sv_int)))))
  (sss_one (ss_ret (se_call c_law_cut hr (by decide) rfl (sa_cons (sv_var (i := 1) rfl (.inl rfl)) (sa_cons (sv_var (i := 2) rfl (.inl rfl)) (sa_cons (sv_tup (sa_cons (sv_var (i := 3) rfl (.inl rfl)) (sa_cons (sv_var (i := 3) rfl (.inl rfl)) (sa_cons (sv_var (i := 6) rfl (.inl rfl)) (sa_cons sv_int (sa_cons sv_str sa_nil)))))) sa_nil))))))))

theorem ok_law_new_name {P : Program} {w : World} {K : PySem.W.Frag} {mg : Str → Option Value} {base : Heap} (G : GF P w K mg)  {f : Addr} {fd : FuncData}
    (F : FunD K "_law_new_name" "_law_new_name" (defArgs (top 107)) (defBody (top 107)) (defScope (top 107)) [] [] f fd) (hmg : mg "_law_new_name" = some (.ref f)) : CalD P w K mg base 1 "_law_new_name" 2 f_law_new_name := by
  have nd : (["_law_rule_here", "_law_scene", "_law_age", "_law_rows_here", "_law_thread", "_law_who", "_law_last", "_law_number", "_law_old", "_law_onward", "_law_mine"] : List Str).Nodup := by decide +kernel
  refine cal_body (N := ["_law_rule_here", "_law_scene", "_law_age", "_law_rows_here", "_law_thread", "_law_who", "_law_last", "_law_number", "_law_old", "_law_onward", "_law_mine"]) (ps := ["_law_rule_here", "_law_scene"]) (k := 0) F hmg (F.bindsN fun _ _ _ _ _ _ us hl => match us, hl with | [_, _], _ => rfl) ⟨rfl, rfl, rfl, nd, rfl, by decide +kernel, by decide +kernel⟩ rfl rfl (by decide) fun cdv A outer s H E hr => ?_
  have hu := rm_of (X := (cxOf L2.CX0 P w K mg base ["_law_rule_here", "_law_scene", "_law_age", "_law_rows_here", "_law_thread", "_law_who", "_law_last", "_law_number", "_law_old", "_law_onward", "_law_mine"] "_law_new_name" (defScope (top 107)) f cdv A outer s H E).nox) hr
  exact (sss_cons (ss_asg (is := [2, 3, 4]) (sv_var (i := 1) rfl (.inl rfl)) (sg_tup rfl (sgs_cons nd rfl (.inl rfl) (sgs_cons nd rfl (.inl rfl) (sgs_cons nd rfl (.inl rfl) sgs_nil)))))
  (sss_cons (ss_asg (is := [5, 6, 7, 8, 9]) (sv_ix hu (so_var (i := 3) rfl (.inl rfl)) (so_of (sv_neg (so_of sv_int)))) (sg_tup rfl (sgs_cons nd rfl (.inl rfl) (sgs_cons nd rfl (.inl rfl) (sgs_cons nd rfl (.inl rfl) (sgs_cons nd rfl (.inl rfl) (sgs_cons nd rfl (.inl rfl) sgs_nil)))))))
  (sss_cons (ss_set (i := 10) nd rfl (.inl rfl) (sv_cmp (cd_eq hu) (so_var (i := 4) rfl (.inl rfl)) (so_of (sv_bin od_sub (so_of (sv_len rfl G.len (so_var (i := 3) rfl (.inl rfl)))) (so_of sv_int)))))
  (sss_cons (ss_if (PW.pt (sw_or (st_cmp (cd_ne hu) (so_var (i := 7) rfl (.inl rfl)) (so_of sv_int)) (sw_or (st_cmp (cd_eq hu) (so_of (sv_ix hu (so_var (i := 0) rfl (.inl rfl)) (so_of sv_int))) (so_of sv_int)) (sw_or1 (st_cmp cd_gt (so_of (sv_len rfl G.len (so_var (i := 3) rfl (.inl rfl)))) (so_of (sv_ix hu (so_var (i := 0) rfl (.inl rfl)) (so_of sv_int)))))))) (sss_one (ss_ret (se_of (sv_tup (sa_cons (sv_var (i := 2) rfl (.inl rfl)) (sa_cons (sv_bin od_add (so_of (sv_sl (so_var (i := 3) rfl (.inl rfl)) si_none (si_some (sv_neg (so_of sv_int))))) (so_of (sv_tup (sa_cons (sv_tup (sa_cons sv_non (sa_cons (sv_var (i := 5) rfl (.inl rfl)) (sa_cons (sv_var (i := 7) rfl (.inl rfl)) (sa_cons sv_int (sa_cons sv_str sa_nil)))))) sa_nil)))) (sa_cons (sv_if (st_val (sv_var (i := 10) rfl (.inl rfl))) sv_str (sv_var (i := 4) rfl (.inl rfl))) sa_nil))))))) sss_nil)
  (sss_cons (ss_set (i := 3) nd rfl (.inl rfl) (sv_bin od_add (so_of (sv_sl (so_var (i := 3) rfl (.inl rfl)) si_none (si_some (sv_neg (so_of sv_int))))) (so_of (sv_tup (sa_cons (sv_tup (sa_cons sv_non (sa_cons (sv_var (i := 5) rfl (.inl rfl)) (sa_cons (sv_var (i := 7) rfl (.inl rfl)) (sa_cons sv_int (sa_cons sv_str sa_nil)))))) (sa_cons (sv_tup (sa_cons (sv_var (i := 5) rfl (.inl rfl)) (sa_cons (sv_var (i := 5) rfl (.inl rfl)) (sa_cons sv_int (sa_cons sv_int (sa_cons sv_str sa_nil)))))) sa_nil))))))
  (sss_one (ss_ret (se_of (sv_tup (sa_cons (sv_var (i := 2) rfl (.inl rfl)) (sa_cons (sv_var (i := 3) rfl (.inl rfl)) (sa_cons (sv_if (st_val (sv_var (i := 10) rfl (.inl rfl))) (sv_bin od_sub (so_of (sv_len rfl G.len (so_var (i := 3) rfl (.inl rfl)))) (so_of sv_int)) (sv_var (i := 4) rfl (.inl rfl))) sa_nil))))))))))))

theorem ok_law_older {P : Program} {w : World} {K : PySem.W.Frag} {mg : Str → Option Value} {base : Heap} (G : GF P w K mg) (c_law_top : CalD P w K mg base 1 "_law_top" 1 f_law_top) (c_law_fine : CalD P w K mg base 1 "_law_fine" 2 f_law_fine) (c_law_cut : CalD P w K mg base 1 "_law_cut" 3 f_law_cut) {f : Addr} {fd : FuncData}
    (F : FunD K "_law_older" "_law_older" (defArgs (top 108)) (defBody (top 108)) (defScope (top 108)) [] [] f fd) (hmg : mg "_law_older" = some (.ref f)) : CalD P w K mg base 2 "_law_older" 2 f_law_older := by
  have nd : (["_law_rule_here", "_law_scene", "_law_age", "_law_rows_here", "_law_thread", "_law_later", "_law_who", "_law_last", "_law_number", "_law_old", "_law_onward", "_law_found", "_law_at"] : List Str).Nodup := by decide +kernel
  refine cal_body (N := ["_law_rule_here", "_law_scene", "_law_age", "_law_rows_here", "_law_thread", "_law_later", "_law_who", "_law_last", "_law_number", "_law_old", "_law_onward", "_law_found", "_law_at"]) (ps := ["_law_rule_here", "_law_scene"]) (k := 1) F hmg (F.bindsN fun _ _ _ _ _ _ us hl => match us, hl with | [_, _], _ => rfl) ⟨rfl, rfl, rfl, nd, rfl, by decide +kernel, by decide +kernel⟩ rfl rfl (by decide) fun cdv A outer s H E hr => ?_
  have hu := rm_of (X := (cxOf L2.CX0 P w K mg base ["_law_rule_here", "_law_scene", "_law_age", "_law_rows_here", "_law_thread", "_law_later", "_law_who", "_law_last", "_law_number", "_law_old", "_law_onward", "_law_found", "_law_at"] "_law_older" (defScope (top 108)) f cdv A outer s H E).nox) hr
  exact (sss_cons (ss_asg (is := [2, 3, 4]) (sv_var (i := 1) rfl (.inl rfl)) (sg_tup rfl (sgs_cons nd rfl (.inl rfl) (sgs_cons nd rfl (.inl rfl) (sgs_cons nd rfl (.inl rfl) sgs_nil)))))
  (sss_cons (ss_setO (i := 5) nd rfl (.inl rfl) (se_lst sa_nil))
  (sss_cons (ss_for (is := [6, 7, 8, 9, 10]) PassesOwn.never rfl (sf_tup (sv_var (i := 3) rfl (.inl rfl))) (sg_tup rfl (sgs_cons nd rfl (.inl rfl) (sgs_cons nd rfl (.inl rfl) (sgs_cons nd rfl (.inl rfl) (sgs_cons nd rfl (.inl rfl) (sgs_cons nd rfl (.inl rfl) sgs_nil)))))) (sss_cons (ss_set (i := 9) nd rfl (.inl rfl) (sv_min2 rfl rfl G.min (so_of (sv_bin od_add (so_of (sv_intc rfl G.int (so_var (i := 9) rfl (.inl rfl)))) (so_of (sv_intc rfl G.int (so_of (sv_cmp cd_is (so_var (i := 6) rfl (.inl rfl)) (so_of sv_non))))))) (so_ofE (se_call c_law_top hr (by decide) rfl (sa_cons (sv_var (i := 0) rfl (.inl rfl)) sa_nil)))))
  (sss_one (ss_app (i := 5) rfl (.inl rfl) (sv_tup (sa_cons (sv_var (i := 6) rfl (.inl rfl)) (sa_cons (sv_var (i := 7) rfl (.inl rfl)) (sa_cons (sv_var (i := 8) rfl (.inl rfl)) (sa_cons (sv_var (i := 9) rfl (.inl rfl)) (sa_cons (sv_var (i := 10) rfl (.inl rfl)) sa_nil))))))))))
  (sss_cons (ss_set (i := 11) nd rfl (.inl rfl) (sv_tup (sa_cons (sv_if (st_cmp cd_is (so_of (sv_ix hu (so_var (i := 0) rfl (.inl rfl)) (so_of sv_int))) (so_of sv_non)) sv_int (sv_bin od_add (so_of (sv_intc rfl G.int (so_var (i := 2) rfl (.inl rfl)))) (so_of sv_int))) (sa_cons (sv_tuple rfl G.tuple (so_var (i := 5) rfl (.inl rfl))) (sa_cons (sv_var (i := 4) rfl (.inl rfl)) sa_nil)))))
  (sss_cons (ss_for (is := [12]) PassesOwn.never rfl (sf_range rfl G.range (sv_len rfl G.len (so_var (i := 5) rfl (.inl rfl)))) (sg_name nd rfl (.inl rfl)) (sss_one (ss_if (PW.pt (sw_and (st_cmp (cd_eq hu) (so_of (sv_ix hu (so_of (sv_ix hu (so_var (i := 5) rfl (.inl rfl)) (so_var (i := 12) rfl (.inl rfl)))) (so_of sv_int))) (so_of sv_str)) (sw_and1 (st_not (st_val (sv_ofE (se_call c_law_fine hr (by decide) rfl (sa_cons (sv_var (i := 0) rfl (.inl rfl)) (sa_cons (sv_ix hu (so_var (i := 5) rfl (.inl rfl)) (so_var (i := 12) rfl (.inl rfl))) sa_nil))))))))) (sss_one (ss_ret (se_call c_law_cut hr (by decide) rfl (sa_cons (sv_var (i := 11) rfl (.inl rfl)) (sa_cons (sv_var (i := 12) rfl (.inl rfl)) (sa_cons (sv_bin od_add (so_of (sv_sl (so_of (sv_ix hu (so_var (i := 5) rfl (.inl rfl)) (so_var (i := 12) rfl (.inl rfl)))) si_none (si_some sv_int))) (so_of (sv_tup (sa_cons sv_str sa_nil)))) sa_nil)))))) sss_nil)))
  (sss_one (ss_ret (se_of (sv_var (i := 11) rfl (.inl rfl))))))))))

theorem ok_law_moves {P : Program} {w : World} {K : PySem.W.Frag} {mg : Str → Option Value} {base : Heap} (G : GF P w K mg) (c_law_older : CalD P w K mg base 2 "_law_older" 2 f_law_older) (c_law_may : CalD P w K mg base 2 "_law_may" 4 f_law_may) (c_law_come_in : CalD P w K mg base 2 "_law_come_in" 5 f_law_come_in) (c_law_new_name : CalD P w K mg base 1 "_law_new_name" 2 f_law_new_name) {f : Addr} {fd : FuncData}
    (F : FunD K "_law_moves" "_law_moves" (defArgs (top 109)) (defBody (top 109)) (defScope (top 109)) [] [] f fd) (hmg : mg "_law_moves" = some (.ref f)) : CalD P w K mg base 3 "_law_moves" 2 f_law_moves := by
  have nd : (["_law_rule_here", "_law_scene", "_law_age", "_law_rows_here", "_law_thread", "_law_found", "_law_top_here", "_law_who", "_law_last", "_law_number", "_law_old", "_law_onward", "_law_at", "_law_less", "_law_other", "_law_one", "_law_back", "_law_later", "_law_more"] : List Str).Nodup := by decide +kernel
  refine cal_body (N := ["_law_rule_here", "_law_scene", "_law_age", "_law_rows_here", "_law_thread", "_law_found", "_law_top_here", "_law_who", "_law_last", "_law_number", "_law_old", "_law_onward", "_law_at", "_law_less", "_law_other", "_law_one", "_law_back", "_law_later", "_law_more"]) (ps := ["_law_rule_here", "_law_scene"]) (k := 2) F hmg (F.bindsN fun _ _ _ _ _ _ us hl => match us, hl with | [_, _], _ => rfl) ⟨rfl, rfl, rfl, nd, rfl, by decide +kernel, by decide +kernel⟩ rfl rfl (by decide) fun cdv A outer s H E hr => ?_
  have hu := rm_of (X := (cxOf L2.CX0 P w K mg base ["_law_rule_here", "_law_scene", "_law_age", "_law_rows_here", "_law_thread", "_law_found", "_law_top_here", "_law_who", "_law_last", "_law_number", "_law_old", "_law_onward", "_law_at", "_law_less", "_law_other", "_law_one", "_law_back", "_law_later", "_law_more"] "_law_moves" (defScope (top 109)) f cdv A outer s H E).nox) hr
  exact (sss_cons (ss_asg (is := [2, 3, 4]) (sv_var (i := 1) rfl (.inl rfl)) (sg_tup rfl (sgs_cons nd rfl (.inl rfl) (sgs_cons nd rfl (.inl rfl) (sgs_cons nd rfl (.inl rfl) sgs_nil)))))
  (sss_cons (ss_par (o := true) (o' := false) (i := 5) (j := 6) rfl nd rfl rfl (by decide) rfl rfl (se_lst (sa_cons (sv_tup (sa_cons sv_str (sa_cons sv_str (sa_cons (sv_ofE (se_call c_law_older hr (by decide) rfl (sa_cons (sv_var (i := 0) rfl (.inl rfl)) (sa_cons (sv_var (i := 1) rfl (.inl rfl)) sa_nil)))) sa_nil)))) sa_nil)) (se_of (sv_bin od_sub (so_of (sv_len rfl G.len (so_var (i := 3) rfl (.inl rfl)))) (so_of sv_int))) rfl)
  (sss_cons (ss_asg (is := [7, 8, 9, 10, 11]) (sv_ix hu (so_var (i := 3) rfl (.inl rfl)) (so_var (i := 6) rfl (.inl rfl))) (sg_tup rfl (sgs_cons nd rfl (.inl rfl) (sgs_cons nd rfl (.inl rfl) (sgs_cons nd rfl (.inl rfl) (sgs_cons nd rfl (.inl rfl) (sgs_cons nd rfl (.inl rfl) sgs_nil)))))))
  (sss_cons (ss_for (is := [12]) PassesOwn.never rfl (sf_range rfl G.range (sv_len rfl G.len (so_var (i := 3) rfl (.inl rfl)))) (sg_name nd rfl (.inl rfl)) (sss_one (ss_if (st_cmp cd_is (so_of (sv_ix hu (so_of (sv_ix hu (so_var (i := 3) rfl (.inl rfl)) (so_var (i := 12) rfl (.inl rfl)))) (so_of sv_int))) (so_of sv_non)) (sss_cons (ss_for (is := [15, 16]) PassesOwn.never rfl (sf_list (se_lst (sa_cons (sv_tup (sa_cons sv_str (sa_cons sv_bl sa_nil))) (sa_cons (sv_tup (sa_cons sv_str (sa_cons sv_bl sa_nil))) (sa_cons (sv_tup (sa_cons sv_str (sa_cons sv_bl sa_nil))) (sa_cons (sv_tup (sa_cons sv_str (sa_cons sv_bl sa_nil))) sa_nil)))))) (sg_tup rfl (sgs_cons nd rfl (.inl rfl) (sgs_cons nd rfl (.inl rfl) sgs_nil))) (sss_one (ss_if (st_val (sv_ofE (se_call c_law_may hr (by decide) rfl (sa_cons (sv_var (i := 0) rfl (.inl rfl)) (sa_cons (sv_ix hu (so_var (i := 3) rfl (.inl rfl)) (so_var (i := 12) rfl (.inl rfl))) (sa_cons (sv_var (i := 15) rfl (.inl rfl)) (sa_cons (sv_var (i := 16) rfl (.inl rfl)) sa_nil))))))) (sss_one (ss_app (i := 5) rfl (.inl rfl) (sv_tup (sa_cons sv_str (sa_cons (sv_var (i := 15) rfl (.inl rfl)) (sa_cons (sv_ofE (se_call c_law_come_in hr (by decide) rfl (sa_cons (sv_var (i := 0) rfl (.inl rfl)) (sa_cons (sv_var (i := 1) rfl (.inl rfl)) (sa_cons (sv_var (i := 12) rfl (.inl rfl)) (sa_cons (sv_var (i := 15) rfl (.inl rfl)) (sa_cons (sv_var (i := 16) rfl (.inl rfl)) sa_nil))))))) sa_nil)))))) sss_nil)))
  (sss_cons (ss_set (i := 16) nd rfl (.inl rfl) (sv_cmp (cd_eq hu) (so_of (sv_ix hu (so_of (sv_ix hu (so_var (i := 3) rfl (.inl rfl)) (so_var (i := 12) rfl (.inl rfl)))) (so_of sv_int))) (so_of sv_str)))
  (sss_one (ss_if (PW.pt (sw_and (PW.pt (sw_or (st_cmp (cd_eq hu) (so_var (i := 4) rfl (.inl rfl)) (so_of sv_str)) (sw_or1 (PW.pt (sw_and (st_cmp (cd_eq hu) (so_var (i := 4) rfl (.inl rfl)) (so_var (i := 6) rfl (.inl rfl))) (sw_and1 (st_cmp cd_lt (so_var (i := 12) rfl (.inl rfl)) (so_var (i := 6) rfl (.inl rfl))))))))) (sw_and1 (st_val (sv_ofE (se_call c_law_may hr (by decide) rfl (sa_cons (sv_var (i := 0) rfl (.inl rfl)) (sa_cons (sv_ix hu (so_var (i := 3) rfl (.inl rfl)) (so_var (i := 12) rfl (.inl rfl))) (sa_cons sv_str (sa_cons (sv_var (i := 16) rfl (.inl rfl)) sa_nil)))))))))) (sss_cons (ss_set (i := 17) nd rfl (.inl rfl) (sv_ofE (se_call c_law_come_in hr (by decide) rfl (sa_cons (sv_var (i := 0) rfl (.inl rfl)) (sa_cons (sv_var (i := 1) rfl (.inl rfl)) (sa_cons (sv_var (i := 12) rfl (.inl rfl)) (sa_cons sv_str (sa_cons (sv_var (i := 16) rfl (.inl rfl)) sa_nil))))))))
  (sss_one (ss_app (i := 5) rfl (.inl rfl) (sv_tup (sa_cons sv_str (sa_cons sv_str (sa_cons (sv_tup (sa_cons (sv_ix hu (so_var (i := 17) rfl (.inl rfl)) (so_of sv_int)) (sa_cons (sv_ix hu (so_var (i := 17) rfl (.inl rfl)) (so_of sv_int)) (sa_cons (sv_var (i := 12) rfl (.inl rfl)) sa_nil)))) sa_nil))))))) sss_nil)))) sss_nil)))
  (sss_cons (ss_if (st_cmp cd_isnot (so_var (i := 7) rfl (.inl rfl)) (so_of sv_non)) (sss_cons (ss_set (i := 13) nd rfl (.inl rfl) (sv_if (st_cmp (cd_eq hu) (so_var (i := 4) rfl (.inl rfl)) (so_var (i := 6) rfl (.inl rfl))) sv_non (sv_var (i := 4) rfl (.inl rfl))))
  (sss_cons (ss_app (i := 5) rfl (.inl rfl) (sv_tup (sa_cons sv_str (sa_cons (sv_var (i := 7) rfl (.inl rfl)) (sa_cons (sv_tup (sa_cons (sv_var (i := 2) rfl (.inl rfl)) (sa_cons (sv_bin od_add (so_of (sv_sl (so_var (i := 3) rfl (.inl rfl)) si_none (si_some (sv_var (i := 6) rfl (.inl rfl))))) (so_of (sv_tup (sa_cons (sv_tup (sa_cons sv_non (sa_cons (sv_var (i := 7) rfl (.inl rfl)) (sa_cons (sv_var (i := 9) rfl (.inl rfl)) (sa_cons sv_int (sa_cons sv_str sa_nil)))))) sa_nil)))) (sa_cons (sv_var (i := 13) rfl (.inl rfl)) sa_nil)))) sa_nil)))))
  (sss_cons (ss_app (i := 5) rfl (.inl rfl) (sv_tup (sa_cons sv_str (sa_cons (sv_var (i := 7) rfl (.inl rfl)) (sa_cons (sv_ofE (se_call c_law_new_name hr (by decide) rfl (sa_cons (sv_var (i := 0) rfl (.inl rfl)) (sa_cons (sv_var (i := 1) rfl (.inl rfl)) sa_nil)))) sa_nil)))))
  (sss_one (ss_for (is := [14]) PassesOwn.never rfl (sf_list (se_if (st_cmp (cd_ne hu) (so_of (sv_ix hu (so_var (i := 0) rfl (.inl rfl)) (so_of sv_int))) (so_of sv_str)) (se_lst (sa_cons sv_str (sa_cons sv_str sa_nil))) (se_lst sa_nil))) (sg_name nd rfl (.inl rfl)) (sss_one (ss_if (st_cmp (cd_ne hu) (so_of (sv_tup (sa_cons (sv_var (i := 7) rfl (.inl rfl)) (sa_cons (sv_var (i := 14) rfl (.inl rfl)) sa_nil)))) (so_of (sv_tup (sa_cons sv_str (sa_cons sv_str sa_nil))))) (sss_cons (ss_set (i := 18) nd rfl (.inl rfl) (sv_bin od_mod (so_of (sv_intc rfl G.int (so_of (sv_bin od_add (so_var (i := 9) rfl (.inl rfl)) (so_of (sv_intc rfl G.int (so_of (sv_cmp (cd_eq hu) (so_of (sv_ix hu (so_var (i := 0) rfl (.inl rfl)) (so_of sv_int))) (so_of sv_str))))))))) (so_of (sv_ix hu (so_var (i := 0) rfl (.inl rfl)) (so_of sv_int)))))
  (sss_one (ss_app (i := 5) rfl (.inl rfl) (sv_tup (sa_cons sv_str (sa_cons (sv_var (i := 7) rfl (.inl rfl)) (sa_cons (sv_tup (sa_cons (sv_var (i := 2) rfl (.inl rfl)) (sa_cons (sv_bin od_add (so_of (sv_sl (so_var (i := 3) rfl (.inl rfl)) si_none (si_some (sv_var (i := 6) rfl (.inl rfl))))) (so_of (sv_tup (sa_cons (sv_tup (sa_cons (sv_var (i := 14) rfl (.inl rfl)) (sa_cons (sv_var (i := 14) rfl (.inl rfl)) (sa_cons (sv_var (i := 18) rfl (.inl rfl)) (sa_cons sv_int (sa_cons sv_str sa_nil)))))) sa_nil)))) (sa_cons (sv_var (i := 13) rfl (.inl rfl)) sa_nil)))) sa_nil))))))) sss_nil))))))) sss_nil)
  (sss_cons (ss_if (st_cmp (cd_eq hu) (so_of (sv_ix hu (so_var (i := 0) rfl (.inl rfl)) (so_of sv_int))) (so_of sv_str)) (sss_one (ss_app (i := 5) rfl (.inl rfl) (sv_tup (sa_cons sv_str (sa_cons sv_str (sa_cons (sv_tup (sa_cons sv_int (sa_cons (sv_var (i := 3) rfl (.inl rfl)) (sa_cons (sv_var (i := 4) rfl (.inl rfl)) sa_nil)))) sa_nil)))))) sss_nil)
  (sss_cons (ss_if (PW.pt (sw_and (st_cmp (cd_eq hu) (so_of (sv_ix hu (so_var (i := 0) rfl (.inl rfl)) (so_of sv_int))) (so_of sv_str)) (sw_and (st_cmp cd_isnot (so_var (i := 7) rfl (.inl rfl)) (so_of sv_non)) (sw_and1 (st_cmp (cd_eq hu) (so_var (i := 9) rfl (.inl rfl)) (so_of sv_int)))))) (sss_one (ss_app (i := 5) rfl (.inl rfl) (sv_tup (sa_cons sv_str (sa_cons sv_str (sa_cons (sv_tup (sa_cons sv_int (sa_cons (sv_sl (so_var (i := 3) rfl (.inl rfl)) (si_some (sv_var (i := 6) rfl (.inl rfl))) si_none) (sa_cons (sv_if (st_cmp (cd_eq hu) (so_var (i := 4) rfl (.inl rfl)) (so_var (i := 6) rfl (.inl rfl))) sv_int (sv_if (st_cmp cd_is (so_var (i := 4) rfl (.inl rfl)) (so_of sv_non)) sv_non sv_str)) sa_nil)))) sa_nil)))))) sss_nil)
  (sss_one (ss_retO (i := 5) rfl (.inl rfl))))))))))

theorem ok_law_stands_so {P : Program} {w : World} {K : PySem.W.Frag} {mg : Str → Option Value} {base : Heap} (G : GF P w K mg)  {f : Addr} {fd : FuncData}
    (F : FunD K "_law_stands_so" "_law_stands_so" (defArgs (top 110)) (defBody (top 110)) (defScope (top 110)) [] [] f fd) (hmg : mg "_law_stands_so" = some (.ref f)) : CalD P w K mg base 1 "_law_stands_so" 1 f_law_stands_so := by
  have nd : (["_law_scene", "_law_age", "_law_rows_here", "_law_thread"] : List Str).Nodup := by decide +kernel
  refine cal_body (N := ["_law_scene", "_law_age", "_law_rows_here", "_law_thread"]) (ps := ["_law_scene"]) (k := 0) F hmg (F.bindsN fun _ _ _ _ _ _ us hl => match us, hl with | [_], _ => rfl) ⟨rfl, rfl, rfl, nd, rfl, by decide +kernel, by decide +kernel⟩ rfl rfl (by decide) fun cdv A outer s H E hr => ?_
  have hu := rm_of (X := (cxOf L2.CX0 P w K mg base ["_law_scene", "_law_age", "_law_rows_here", "_law_thread"] "_law_stands_so" (defScope (top 110)) f cdv A outer s H E).nox) hr
  exact (sss_cons (ss_asg (is := [1, 2, 3]) (sv_var (i := 0) rfl (.inl rfl)) (sg_tup rfl (sgs_cons nd rfl (.inl rfl) (sgs_cons nd rfl (.inl rfl) (sgs_cons nd rfl (.inl rfl) sgs_nil)))))
  (sss_cons (ss_if (PW.pt (sw_and (st_cmp cd_isnot (so_of (sv_ix hu (so_of (sv_ix hu (so_var (i := 2) rfl (.inl rfl)) (so_of (sv_neg (so_of sv_int))))) (so_of sv_int))) (so_of sv_non)) (sw_and1 (st_cmp (cd_eq hu) (so_of (sv_ix hu (so_of (sv_ix hu (so_var (i := 2) rfl (.inl rfl)) (so_of (sv_neg (so_of sv_int))))) (so_of sv_int))) (so_of sv_int))))) (sss_one (ss_ret (se_of (sv_if (st_cmp (cd_eq hu) (so_of (sv_ix hu (so_of (sv_ix hu (so_var (i := 2) rfl (.inl rfl)) (so_of (sv_neg (so_of sv_int))))) (so_of sv_int))) (so_of sv_str)) sv_str sv_str)))) sss_nil)
  (sss_one (ss_ret (se_of (sv_if (st_cmp cd_is (so_var (i := 3) rfl (.inl rfl)) (so_of sv_non)) sv_str sv_str))))))

theorem ok_law_threats {P : Program} {w : World} {K : PySem.W.Frag} {mg : Str → Option Value} {base : Heap} (G : GF P w K mg) (c_law_moves : CalD P w K mg base 3 "_law_moves" 2 f_law_moves) (c_law_stands_so : CalD P w K mg base 1 "_law_stands_so" 1 f_law_stands_so) {f : Addr} {fd : FuncData}
    (F : FunD K "_law_threats" "_law_threats" (defArgs (top 111)) (defBody (top 111)) (defScope (top 111)) [] [] f fd) (hmg : mg "_law_threats" = some (.ref f)) : CalD P w K mg base 4 "_law_threats" 1 f_law_threats := by
  have nd : (["_law_rule_here", "_law_begin_here", "_law_found", "_law_count", "_law_known", "_law_line", "_law_later", "_law_scene", "_law_word_here", "_law_who", "_law_there", "_law_harm", "_law_doer"] : List Str).Nodup := by decide +kernel
  refine cal_body (N := ["_law_rule_here", "_law_begin_here", "_law_found", "_law_count", "_law_known", "_law_line", "_law_later", "_law_scene", "_law_word_here", "_law_who", "_law_there", "_law_harm", "_law_doer"]) (ps := ["_law_rule_here"]) (k := 3) F hmg (F.bindsN fun _ _ _ _ _ _ us hl => match us, hl with | [_], _ => rfl) ⟨rfl, rfl, rfl, nd, rfl, by decide +kernel, by decide +kernel⟩ rfl rfl (by decide) fun cdv A outer s H E hr => ?_
  have hu := rm_of (X := (cxOf L2.CX0 P w K mg base ["_law_rule_here", "_law_begin_here", "_law_found", "_law_count", "_law_known", "_law_line", "_law_later", "_law_scene", "_law_word_here", "_law_who", "_law_there", "_law_harm", "_law_doer"] "_law_threats" (defScope (top 111)) f cdv A outer s H E).nox) hr
  exact (sss_cons (ss_par3 (o := false) (o' := true) (o'' := false) (i := 1) (j := 2) (l := 3) rfl nd rfl rfl rfl (by decide) (by decide) (by decide) rfl rfl rfl (se_of (sv_tup (sa_cons sv_int (sa_cons (sv_tup (sa_cons (sv_tup (sa_cons sv_str (sa_cons sv_str (sa_cons sv_int (sa_cons sv_int (sa_cons sv_str sa_nil)))))) sa_nil)) (sa_cons sv_int sa_nil))))) se_newT (se_of sv_int) rfl)
  (sss_cons (ss_par (o := true) (o' := false) (i := 4) (j := 5) rfl nd rfl rfl (by decide) rfl rfl (se_oneT (by omega) (sv_var (i := 1) rfl (.inl rfl)) sv_bl) (se_lst (sa_cons (sv_var (i := 1) rfl (.inl rfl)) sa_nil)) rfl)
  (sss_cons (ss_while fuel PassesOwn.never (st_cmp (cd_ne hu) (so_var (i := 5) rfl (.inl rfl)) (so_ofE (se_lst sa_nil))) (sss_cons (ss_par (o := true) (o' := false) (i := 6) (j := 3) rfl nd rfl rfl (by decide) rfl rfl (se_lst sa_nil) (se_of (sv_bin od_add (so_var (i := 3) rfl (.inl rfl)) (so_of sv_int))) rfl)
  (sss_cons (ss_for (is := [7]) PassesOwn.never rfl (sf_list (se_of (sv_var (i := 5) rfl (.inl rfl)))) (sg_name nd rfl (.inl rfl)) (sss_one (ss_for (is := [8, 9, 10]) PassesOwn.never rfl (sf_list (se_call c_law_moves hr (by decide) rfl (sa_cons (sv_var (i := 0) rfl (.inl rfl)) (sa_cons (sv_var (i := 7) rfl (.inl rfl)) sa_nil)))) (sg_tup rfl (sgs_cons nd rfl (.inl rfl) (sgs_cons nd rfl (.inl rfl) (sgs_cons nd rfl (.inl rfl) sgs_nil)))) (sss_one (ss_if (PW.pt (sw_or (st_cmp cd_is (so_of (sv_ix hu (so_var (i := 0) rfl (.inl rfl)) (so_of sv_int))) (so_of sv_non)) (sw_or1 (st_cmp cd_le (so_of (sv_ix hu (so_var (i := 10) rfl (.inl rfl)) (so_of sv_int))) (so_of (sv_ix hu (so_var (i := 0) rfl (.inl rfl)) (so_of sv_int))))))) (sss_cons (ss_set (i := 11) nd rfl (.inl rfl) (sv_ofE (se_call c_law_stands_so hr (by decide) rfl (sa_cons (sv_var (i := 10) rfl (.inl rfl)) sa_nil))))
  (sss_cons (ss_if (PW.pt (sw_and (st_cmp (cd_in hu) (so_var (i := 11) rfl (.inl rfl)) (so_ofE (se_lst (sa_cons sv_str (sa_cons sv_str sa_nil))))) (sw_and1 (st_cmp (cd_ne hu) (so_var (i := 11) rfl (.inl rfl)) (so_ofE (se_call c_law_stands_so hr (by decide) rfl (sa_cons (sv_var (i := 7) rfl (.inl rfl)) sa_nil))))))) (sss_cons (ss_set (i := 12) nd rfl (.inl rfl) (sv_get2 hu (so_ofE (se_litS [("time", .str "time", .str "time"), ("x", .str "meant", .str "meant")] (pps_cons pe_str pe_str (pps_cons pe_str pe_str pps_nil)) (by intro m hm; revert m; simp [scV]) rfl rfl (by simp) (by simp) (by simp))) (sv_var (i := 9) rfl (.inl rfl)) sv_str ⟨rfl, rfl, rfl, rfl⟩))
  (sss_one (ss_put (i := 2) hu rfl (.inl rfl) (sv_tup (sa_cons (sv_var (i := 11) rfl (.inl rfl)) (sa_cons (sv_var (i := 12) rfl (.inl rfl)) sa_nil))) (sv_intc rfl G.int (so_of (sv_get2 hu (so_var (i := 2) rfl (.inl rfl)) (sv_tup (sa_cons (sv_var (i := 11) rfl (.inl rfl)) (sa_cons (sv_var (i := 12) rfl (.inl rfl)) sa_nil))) (sv_var (i := 3) rfl (.inl rfl)) ⟨rfl, rfl, rfl, rfl⟩)))))) sss_nil)
  (sss_one (ss_if (st_cmp (cd_notIn hu) (so_var (i := 10) rfl (.inl rfl)) (so_var (i := 4) rfl (.inl rfl))) (sss_cons (ss_put (i := 4) hu rfl (.inl rfl) (sv_var (i := 10) rfl (.inl rfl)) sv_bl)
  (sss_one (ss_app (i := 6) rfl (.inl rfl) (sv_var (i := 10) rfl (.inl rfl))))) sss_nil)))) sss_nil)))))
  (sss_one (ss_frz (i := 6) (ss_set (i := 5) nd rfl (.inl rfl) (sv_var (i := 6) rfl (.inl rfl))))))))
  (sss_one (ss_retO (i := 2) rfl (.inl rfl))))))

theorem ok_law_is_event {P : Program} {w : World} {K : PySem.W.Frag} {mg : Str → Option Value} {base : Heap} (G : GF P w K mg)  {f : Addr} {fd : FuncData}
    (F : FunD K "_law_is_event" "_law_is_event" (defArgs (top 113)) (defBody (top 113)) (defScope (top 113)) [] [] f fd) (hmg : mg "_law_is_event" = some (.ref f)) : CalD P w K mg base 1 "_law_is_event" 1 f_law_is_event := by
  have nd : (["_law_value", "_law_many", "_law_name", "_law_sign"] : List Str).Nodup := by decide +kernel
  refine cal_body (N := ["_law_value", "_law_many", "_law_name", "_law_sign"]) (ps := ["_law_value"]) (k := 0) F hmg (F.bindsN fun _ _ _ _ _ _ us hl => match us, hl with | [_], _ => rfl) ⟨rfl, rfl, rfl, nd, rfl, by decide +kernel, by decide +kernel⟩ rfl rfl (by decide) fun cdv A outer s H E hr => ?_
  have hu := rm_of (X := (cxOf L2.CX0 P w K mg base ["_law_value", "_law_many", "_law_name", "_law_sign"] "_law_is_event" (defScope (top 113)) f cdv A outer s H E).nox) hr
  exact (sss_cons (ss_if (PW.pt (sw_or (st_not (st_val (sv_isi (t := "tuple") G.k_tuple rfl G.isinstance rfl G.tuple rfl (so_var (i := 0) rfl (.inl rfl))))) (sw_or (st_cmp (cd_eq hu) (so_var (i := 0) rfl (.inl rfl)) (so_of (sv_tup sa_nil))) (sw_or1 (st_not (st_val (sv_isi (t := "str") G.k_str rfl G.isinstance rfl G.str rfl (so_of (sv_ix hu (so_var (i := 0) rfl (.inl rfl)) (so_of sv_int)))))))))) (sss_one (ss_ret (se_of sv_bl))) sss_nil)
  (sss_cons (ss_if (st_cmp (cd_eq hu) (so_of (sv_ix hu (so_var (i := 0) rfl (.inl rfl)) (so_of sv_int))) (so_of sv_str)) (sss_one (ss_ret (se_of (sv_and (sv_cmp (cd_eq hu) (so_of (sv_len rfl G.len (so_var (i := 0) rfl (.inl rfl)))) (so_of sv_int)) (sv_and (sv_isi (t := "int") G.k_int rfl G.isinstance rfl G.int rfl (so_of (sv_ix hu (so_var (i := 0) rfl (.inl rfl)) (so_of sv_int)))) (sv_and (sv_not (sv_isi (t := "bool") G.k_bool rfl G.isinstance rfl G.bool rfl (so_of (sv_ix hu (so_var (i := 0) rfl (.inl rfl)) (so_of sv_int))))) (sv_one (sv_cmp cd_ge (so_of (sv_ix hu (so_var (i := 0) rfl (.inl rfl)) (so_of sv_int))) (so_of sv_int))))))))) sss_nil)
  (sss_cons (ss_set (i := 1) nd rfl (.inl rfl) (sv_get2 hu (so_ofE (se_litS [("tick", .int 1, .int 1), ("give", .int 2, .int 2), ("write", .int 2, .int 2), ("take", .int 3, .int 3), ("change", .int 3, .int 3), ("pass", .int 3, .int 3)] (pps_cons pe_str pe_int (pps_cons pe_str pe_int (pps_cons pe_str pe_int (pps_cons pe_str pe_int (pps_cons pe_str pe_int (pps_cons pe_str pe_int pps_nil)))))) (by intro m hm; revert m; simp [scV]) rfl rfl (by simp) (by simp) (by simp))) (sv_ix hu (so_var (i := 0) rfl (.inl rfl)) (so_of sv_int)) sv_int ⟨rfl, rfl, rfl, rfl⟩))
  (sss_cons (ss_if (st_cmp (cd_ne hu) (so_of (sv_len rfl G.len (so_var (i := 0) rfl (.inl rfl)))) (so_var (i := 1) rfl (.inl rfl))) (sss_one (ss_ret (se_of sv_bl))) sss_nil)
  (sss_cons (ss_for (is := [2]) PassesOwn.never rfl (sf_tup (sv_sl (so_var (i := 0) rfl (.inl rfl)) (si_some sv_int) si_none)) (sg_name nd rfl (.inl rfl)) (sss_cons (ss_if (PW.pt (sw_or (st_not (st_val (sv_isi (t := "str") G.k_str rfl G.isinstance rfl G.str rfl (so_var (i := 2) rfl (.inl rfl))))) (sw_or1 (st_not (st_chain cd_le cd_le (so_of sv_int) (so_of (sv_len rfl G.len (so_var (i := 2) rfl (.inl rfl)))) (so_of sv_int)))))) (sss_one (ss_ret (se_of sv_bl))) sss_nil)
  (sss_one (ss_if (st_cmp (cd_ne hu) (so_ofE (se_lc (own := [("_law_sign", 3)]) (is := [3]) rfl nd (sf_str (sv_var (i := 2) rfl (.inl rfl))) (blkOk_by (by rfl)) (by decide) (fun _ _ _ _ _ => (sg_name nd rfl (.inl rfl))) (fun _ _ _ _ _ => (sts_one (st_cmp (cd_notIn hu) (so_var (i := 3) rfl (.inl rfl)) (so_of sv_str)))) (fun _ _ _ _ _ => (sv_var (i := 3) rfl (.inl rfl))))) (so_ofE (se_lst sa_nil))) (sss_one (ss_ret (se_of sv_bl))) sss_nil))))
  (sss_one (ss_ret (se_of sv_bl))))))))

theorem ok_law_rows {P : Program} {w : World} {K : PySem.W.Frag} {mg : Str → Option Value} {base : Heap} (G : GF P w K mg) (c_law_begin : CalD P w K mg base 1 "_law_begin" 0 f_law_begin) (c_law_is_event : CalD P w K mg base 1 "_law_is_event" 1 f_law_is_event) (c_law_next : CalD P w K mg base 4 "_law_next" 3 f_law_next) (c_law_harms : CalD P w K mg base 5 "_law_harms" 4 f_law_harms) {f : Addr} {fd : FuncData}
    (F : FunD K "_law_rows" "_law_rows" (defArgs (top 112)) (defBody (top 112)) (defScope (top 112)) [] [] f fd) (hmg : mg "_law_rows" = some (.ref f)) : CalD P w K mg base 6 "_law_rows" 2 f_law_rows := by
  have nd : (["_law_rule_here", "_law_history", "_law_state", "_law_found", "_law_event", "_law_later"] : List Str).Nodup := by decide +kernel
  refine cal_body (N := ["_law_rule_here", "_law_history", "_law_state", "_law_found", "_law_event", "_law_later"]) (ps := ["_law_rule_here", "_law_history"]) (k := 5) F hmg (F.bindsN fun _ _ _ _ _ _ us hl => match us, hl with | [_, _], _ => rfl) ⟨rfl, rfl, rfl, nd, rfl, by decide +kernel, by decide +kernel⟩ rfl rfl (by decide) fun cdv A outer s H E hr => ?_
  have hu := rm_of (X := (cxOf L2.CX0 P w K mg base ["_law_rule_here", "_law_history", "_law_state", "_law_found", "_law_event", "_law_later"] "_law_rows" (defScope (top 112)) f cdv A outer s H E).nox) hr
  exact (sss_cons (ss_par (o := false) (o' := true) (i := 2) (j := 3) rfl nd rfl rfl (by decide) rfl rfl (se_call0 c_law_begin hr (by decide) rfl) (se_lst sa_nil) rfl)
  (sss_cons (ss_for (is := [4]) PassesOwn.never rfl (sf_tup (sv_var (i := 1) rfl (.inl rfl))) (sg_name nd rfl (.inl rfl)) (sss_cons (ss_set (i := 5) nd rfl (.inl rfl) (sv_ofE (se_if (st_val (sv_ofE (se_call c_law_is_event hr (by decide) rfl (sa_cons (sv_var (i := 4) rfl (.inl rfl)) sa_nil)))) (se_call c_law_next hr (by decide) rfl (sa_cons (sv_var (i := 0) rfl (.inl rfl)) (sa_cons (sv_var (i := 2) rfl (.inl rfl)) (sa_cons (sv_var (i := 4) rfl (.inl rfl)) sa_nil)))) (se_of sv_non))))
  (sss_cons (ss_if (st_cmp cd_is (so_var (i := 5) rfl (.inl rfl)) (so_of sv_non)) (sss_one (ss_ret (se_of sv_non))) sss_nil)
  (sss_cons (ss_app (i := 3) rfl (.inl rfl) (sv_ofE (se_call c_law_harms hr (by decide) rfl (sa_cons (sv_var (i := 0) rfl (.inl rfl)) (sa_cons (sv_var (i := 2) rfl (.inl rfl)) (sa_cons (sv_var (i := 5) rfl (.inl rfl)) (sa_cons (sv_var (i := 4) rfl (.inl rfl)) sa_nil)))))))
  (sss_one (ss_set (i := 2) nd rfl (.inl rfl) (sv_var (i := 5) rfl (.inl rfl))))))))
  (sss_one (ss_retO (i := 3) rfl (.inl rfl)))))

end NW

/-! The facts behind the top; the law keeps its promise. -/
namespace NW
open PySem PySem.Spec PyProof.Rows L2
theorem kit_of {K : PySem.W.Frag} {t : String} (h : (["NoneType", "bool", "int", "str", "tuple"].all fun ty => decide (kitB ty t = some (ty == t || (ty == "bool" && t == "int")))) = true) : Kit K t := fun ty hty => kit_ty (of_decide_eq_true (List.all_eq_true.mp h ty hty))
theorem relV_dv {K : PySem.W.Frag} : ∀ {vs : List He.Dv} {us : List Value}, He.relAll (vs.map (He.Dv.v K)) us = true → Vals (vs.map (He.Dv.v K)) us := fun h => He.relAll_ok h
/-- the scalars of a table as data -/
def dvD : He.Dv → D
  | .non => .non
  | .int i => .int i
  | .str x => .str x
  | _ => .non
def dvOk : He.Dv → Bool
  | .non => true
  | .int _ => true
  | .str _ => true
  | _ => false
theorem rep_dv {T : Wd} {F : Hp} {v : He.Dv} (h : dvOk v = true) : Rep T F (v.v T.K) (dvD v) := by
  cases v <;> first | exact .non | exact .int _ | exact .str _ | cases h
theorem rep_dvs {T : Wd} {F : Hp} : ∀ {vs : List He.Dv}, vs.all dvOk = true → RepL T F (vs.map (He.Dv.v T.K)) (vs.map dvD)
  | [], _ => .nil
  | v :: vs, h => by
    obtain ⟨h1, h2⟩ := Bool.and_eq_true_iff.mp (show (dvOk v && vs.all dvOk) = true from h)
    exact .cons (rep_dv h1) (rep_dvs h2)
theorem tupAt_ok {K : PySem.W.Frag} {t : Addr} {vs : List He.Dv} (h : tupAt K t vs = true) (F : Hp) : SqT K F t (vs.map (He.Dv.v K)) := by
  unfold tupAt at h
  cases q : K.lookup t with
  | none => rw [q] at h; cases h
  | some o =>
    obtain ⟨oc, od, dt, osl⟩ := o
    rw [q] at h
    cases oc with
    | type c =>
      cases dt with
      | seq its n =>
        have h0 : (decide (c = "tuple") && (decide (its.size ≤ sizeLine) && He.relAll (vs.map (He.Dv.v K)) its.toList)) = true := h
        obtain ⟨h1, h2⟩ := He.ba h0
        obtain ⟨h3, h4⟩ := He.ba h2
        exact .inr ⟨_, its, n, q, congrArg Value.type (of_decide_eq_true h1), rfl, of_decide_eq_true h3, He.relAll_ok h4⟩
      | _ => cases h
    | _ => cases dt <;> cases h
theorem ch_eq : choicesV.map (fun q => (q.1, D.tup (q.2.map dvD))) = choicesD := rfl
theorem look_map {k : Str} {d : D} (h : lookS (choicesV.map (fun q => (q.1, D.tup (q.2.map dvD)))) k = some d) : ∃ q ∈ choicesV, q.1 = k ∧ d = D.tup (q.2.map dvD) := by
  unfold lookS at h
  obtain ⟨p, hp, rfl⟩ := Option.map_eq_some_iff.mp h
  have h1 := List.find?_some hp
  obtain ⟨q, hq, rfl⟩ := List.mem_map.mp (List.mem_of_find?_eq_some hp)
  exact ⟨q, hq, of_decide_eq_true h1, rfl⟩
theorem all_ok : (choicesV.all fun q => q.2.all dvOk) = true := rfl
theorem gf {P : Program} {w : World} {K : PySem.W.Frag} {h : Heap} {mg : Str → Option Value} (X : K.In h) (G : h.Ns mainGlobals mg) (c : SaysN w K) : GF P w K mg := by
  have cT : He.SaysT fa fn tabs w K := congrArg (fun z : AlN => z.1) c
  have cE : extra K = true := congrArg (fun z : AlN => z.2) c
  have cd := cT.d
  obtain ⟨e1, e2⟩ := Bool.and_eq_true_iff.mp cE
  obtain ⟨es, n, hk⟩ := cT.tab 0 (t := (fun K => He.ga K "CHOICES", ["wait", "forward", "hops", "marks", "life", "copies", "passing"])) rfl
  refine {
    WAIT := He.int_ok X G (cd.fact 77 (f := .int "WAIT" 0) rfl)
    FORWARD := He.int_ok X G (cd.fact 78 (f := .int "FORWARD" 1) rfl)
    BARS := He.int_ok X G (cd.fact 79 (f := .int "BARS" 2) rfl)
    HOPS := He.int_ok X G (cd.fact 80 (f := .int "HOPS" 3) rfl)
    MARKS := He.int_ok X G (cd.fact 81 (f := .int "MARKS" 4) rfl)
    LIFE := He.int_ok X G (cd.fact 82 (f := .int "LIFE" 5) rfl)
    COPIES := He.int_ok X G (cd.fact 83 (f := .int "COPIES" 6) rfl)
    PASSING := He.int_ok X G (cd.fact 84 (f := .int "PASSING" 7) rfl)
    LETTERS := He.str_ok X G (cd.fact 85 (f := .str "LETTERS" "abcdefghijklmnopqrstuvwxyz") rfl)
    NO := He.str_ok X G (cd.fact 86 (f := .str "NO" "no") rfl)
    SAME := He.str_ok X G (cd.fact 87 (f := .str "SAME" "same") rfl)
    ANEW := He.str_ok X G (cd.fact 88 (f := .str "ANEW" "anew") rfl)
    KEPT := He.str_ok X G (cd.fact 89 (f := .str "KEPT" "kept") rfl)
    COUNTED := He.str_ok X G (cd.fact 90 (f := .str "COUNTED" "counted") rfl)
    ASTRAY := He.str_ok X G (cd.fact 91 (f := .str "ASTRAY" "astray") rfl)
    LOST := He.str_ok X G (cd.fact 92 (f := .str "LOST" "lost") rfl)
    MEANT := He.str_ok X G (cd.fact 93 (f := .str "MEANT" "meant") rfl)
    OTHER := He.str_ok X G (cd.fact 94 (f := .str "OTHER" "other") rfl)
    TIME := He.str_ok X G (cd.fact 95 (f := .str "TIME" "time") rfl)
    MINE := He.str_ok X G (cd.fact 96 (f := .str "MINE" "mine") rfl)
    THEIRS := He.str_ok X G (cd.fact 97 (f := .str "THEIRS" "theirs") rfl)
    OUT := He.str_ok X G (cd.fact 98 (f := .str "OUT" "out") rfl)
    NEW := He.str_ok X G (cd.fact 99 (f := .str "NEW" "new") rfl)
    NONE := He.str_ok X G (cd.fact 100 (f := .str "NONE" "none") rfl)
    NEXT := He.str_ok X G (cd.fact 101 (f := .str "NEXT" "next") rfl)
    OFF := He.str_ok X G (cd.fact 102 (f := .str "OFF" "off") rfl)
    int := He.free_ok X G (cd.fact 103 (f := .free "int") rfl)
    len := He.free_ok X G (cd.fact 104 (f := .free "len") rfl)
    isinstance := He.free_ok X G (cd.fact 105 (f := .free "isinstance") rfl)
    bool := He.free_ok X G (cd.fact 106 (f := .free "bool") rfl)
    str := He.free_ok X G (cd.fact 107 (f := .free "str") rfl)
    tuple := He.free_ok X G (cd.fact 108 (f := .free "tuple") rfl)
    max := He.free_ok X G (cd.fact 109 (f := .free "max") rfl)
    min := He.free_ok X G (cd.fact 110 (f := .free "min") rfl)
    abs := He.free_ok X G (cd.fact 111 (f := .free "abs") rfl)
    range := He.free_ok X G (cd.fact 112 (f := .free "range") rfl)
    enumerate := He.free_ok X G (cd.fact 113 (f := .free "enumerate") rfl)
    zip := He.free_ok X G (cd.fact 114 (f := .free "zip") rfl)
    all := He.free_ok X G (cd.fact 115 (f := .free "all") rfl)
    sorted := He.free_ok X G (cd.fact 116 (f := .free "sorted") rfl)
    set := He.free_ok X G (cd.fact 117 (f := .free "set") rfl)
    dict := He.free_ok X G (cd.fact 118 (f := .free "dict") rfl)
    k_int := kit_of (by decide +kernel)
    k_bool := kit_of (by decide +kernel)
    k_str := kit_of (by decide +kernel)
    k_tuple := kit_of (by decide +kernel)
    parts := ⟨He.ga K "RULE_PARTS", He.glo_ok X G (cd.fact 119 (f := .glo "RULE_PARTS") rfl), fun F => .tup (He.tupB_ok e1 F) (rep_dvs (T := ⟨P, w, K⟩) (vs := partsV) rfl)⟩
    choices := ⟨He.ga K "CHOICES", He.glo_ok X G (cd.fact 120 (f := .glo "CHOICES") rfl), fun k d hl => ?_⟩ }
  rw [← ch_eq] at hl
  obtain ⟨q, hq, rfl, rfl⟩ := look_map hl
  have hc := List.all_eq_true.mp e2 q hq
  unfold chAt at hc
  split at hc
  · rename_i t ht
    refine ⟨.ref t, ?_, fun F => .tup (tupAt_ok hc F) (rep_dvs (T := ⟨P, w, K⟩) (List.all_eq_true.mp all_ok q hq))⟩
    exact ⟨es, n, .ref t, hk.at_, hk.lit, ht, rfl⟩
  · cases hc
theorem facts {P : Program} {w : World} {K : PySem.W.Frag} {h : Heap} {mg : Str → Option Value} {f : Addr} (X : K.In h) (G : h.Ns mainGlobals mg) (hfa : mg ("law" : Str) = some (.ref f)) (c : SaysN w K) :
    ∃ fd : FuncData, (∀ (s : Shared) (v : Value), BindsTo s fd ⟨[v], []⟩ [("_law_script", v)]) ∧ ∀ base : Heap, K.In base → base.Ns mainGlobals mg → FnOk P w K mg base L2.CX0 9 f fd ["_law_script"] (spLaw K) := by
  have gg := gf (P := P) X G c
  have cd : He.SaysD fa fn K := (show He.SaysT fa fn tabs w K from congrArg (fun z : AlN => z.1) c).d
  obtain ⟨fd, F⟩ := cd.def_ 76 (d := dd "law" 114) rfl
  have e := hfa.symm.trans (He.glo_ok X G (cd.fact 76 (f := .glo "law") rfl))
  cases e
  have b := FunD.bindsA (ps := ["_law_script"]) F fun _ _ _ _ _ _ us hl => match us, hl with | [_], _ => rfl
  refine ⟨fd, fun s v => b s [v] rfl, fun base _ _ => ?_⟩
  obtain ⟨fd_is_integer, F_is_integer⟩ := cd.def_ 0 (d := dd "is_integer" 27) rfl
  have c_is_integer : CalD P w K mg base 1 "is_integer" 3 f_is_integer := ok_is_integer gg F_is_integer (He.glo_ok X G (cd.fact 0 (f := .glo "is_integer") rfl))
  obtain ⟨fd_fits, F_fits⟩ := cd.def_ 1 (d := dd "fits" 28) rfl
  have c_fits : CalD P w K mg base 2 "fits" 2 f_fits := ok_fits gg c_is_integer F_fits (He.glo_ok X G (cd.fact 1 (f := .glo "fits") rfl))
  obtain ⟨fd_is_rule, F_is_rule⟩ := cd.def_ 2 (d := dd "is_rule" 29) rfl
  have c_is_rule : CalD P w K mg base 3 "is_rule" 1 f_is_rule := ok_is_rule gg c_fits F_is_rule (He.glo_ok X G (cd.fact 2 (f := .glo "is_rule") rfl))
  obtain ⟨fd_need_rule, F_need_rule⟩ := cd.def_ 3 (d := dd "need_rule" 30) rfl
  have c_need_rule : CalD P w K mg base 4 "need_rule" 1 f_need_rule := ok_need_rule gg c_is_rule F_need_rule (He.glo_ok X G (cd.fact 3 (f := .glo "need_rule") rfl))
  obtain ⟨fd_need_threat, F_need_threat⟩ := cd.def_ 4 (d := dd "need_threat" 31) rfl
  have c_need_threat : CalD P w K mg base 1 "need_threat" 2 f_need_threat := ok_need_threat gg F_need_threat (He.glo_ok X G (cd.fact 4 (f := .glo "need_threat") rfl))
  obtain ⟨fd_first_scene, F_first_scene⟩ := cd.def_ 5 (d := dd "first_scene" 40) rfl
  have c_first_scene : CalD P w K mg base 1 "first_scene" 0 f_first_scene := ok_first_scene gg F_first_scene (He.glo_ok X G (cd.fact 5 (f := .glo "first_scene") rfl))
  obtain ⟨fd_oldest, F_oldest⟩ := cd.def_ 6 (d := dd "oldest" 41) rfl
  have c_oldest : CalD P w K mg base 1 "oldest" 1 f_oldest := ok_oldest gg F_oldest (He.glo_ok X G (cd.fact 6 (f := .glo "oldest") rfl))
  obtain ⟨fd_is_fine, F_is_fine⟩ := cd.def_ 7 (d := dd "is_fine" 42) rfl
  have c_is_fine : CalD P w K mg base 1 "is_fine" 2 f_is_fine := ok_is_fine gg F_is_fine (He.glo_ok X G (cd.fact 7 (f := .glo "is_fine") rfl))
  obtain ⟨fd_may_come, F_may_come⟩ := cd.def_ 8 (d := dd "may_come" 43) rfl
  have c_may_come : CalD P w K mg base 2 "may_come" 4 f_may_come := ok_may_come gg c_is_fine F_may_come (He.glo_ok X G (cd.fact 8 (f := .glo "may_come") rfl))
  obtain ⟨fd_cut_at, F_cut_at⟩ := cd.def_ 9 (d := dd "cut_at" 44) rfl
  have c_cut_at : CalD P w K mg base 1 "cut_at" 3 f_cut_at := ok_cut_at gg F_cut_at (He.glo_ok X G (cd.fact 9 (f := .glo "cut_at") rfl))
  obtain ⟨fd_come_at, F_come_at⟩ := cd.def_ 10 (d := dd "come_at" 45) rfl
  have c_come_at : CalD P w K mg base 2 "come_at" 5 f_come_at := ok_come_at gg c_cut_at F_come_at (He.glo_ok X G (cd.fact 10 (f := .glo "come_at") rfl))
  obtain ⟨fd_renamed, F_renamed⟩ := cd.def_ 11 (d := dd "renamed" 46) rfl
  have c_renamed : CalD P w K mg base 1 "renamed" 2 f_renamed := ok_renamed gg F_renamed (He.glo_ok X G (cd.fact 11 (f := .glo "renamed") rfl))
  obtain ⟨fd_aged, F_aged⟩ := cd.def_ 12 (d := dd "aged" 47) rfl
  have c_aged : CalD P w K mg base 2 "aged" 2 f_aged := ok_aged gg c_oldest c_is_fine c_cut_at F_aged (He.glo_ok X G (cd.fact 12 (f := .glo "aged") rfl))
  obtain ⟨fd_comings, F_comings⟩ := cd.def_ 13 (d := dd "comings" 48) rfl
  have c_comings : CalD P w K mg base 3 "comings" 2 f_comings := ok_comings gg c_may_come c_come_at F_comings (He.glo_ok X G (cd.fact 13 (f := .glo "comings") rfl))
  obtain ⟨fd_leavings, F_leavings⟩ := cd.def_ 14 (d := dd "leavings" 49) rfl
  have c_leavings : CalD P w K mg base 2 "leavings" 2 f_leavings := ok_leavings gg c_renamed F_leavings (He.glo_ok X G (cd.fact 14 (f := .glo "leavings") rfl))
  obtain ⟨fd_copies, F_copies⟩ := cd.def_ 15 (d := dd "copies" 50) rfl
  have c_copies : CalD P w K mg base 1 "copies" 2 f_copies := ok_copies gg F_copies (He.glo_ok X G (cd.fact 15 (f := .glo "copies") rfl))
  obtain ⟨fd_steps_of, F_steps_of⟩ := cd.def_ 16 (d := dd "steps_of" 51) rfl
  have c_steps_of : CalD P w K mg base 4 "steps_of" 2 f_steps_of := ok_steps_of gg c_aged c_comings c_leavings c_copies F_steps_of (He.glo_ok X G (cd.fact 16 (f := .glo "steps_of") rfl))
  obtain ⟨fd_end_of, F_end_of⟩ := cd.def_ 17 (d := dd "end_of" 52) rfl
  have c_end_of : CalD P w K mg base 1 "end_of" 1 f_end_of := ok_end_of gg F_end_of (He.glo_ok X G (cd.fact 17 (f := .glo "end_of") rfl))
  obtain ⟨fd_first_state, F_first_state⟩ := cd.def_ 18 (d := dd "first_state" 54) rfl
  have c_first_state : CalD P w K mg base 1 "first_state" 0 f_first_state := ok_first_state gg F_first_state (He.glo_ok X G (cd.fact 18 (f := .glo "first_state") rfl))
  obtain ⟨fd_is_good, F_is_good⟩ := cd.def_ 19 (d := dd "is_good" 55) rfl
  have c_is_good : CalD P w K mg base 1 "is_good" 2 f_is_good := ok_is_good gg F_is_good (He.glo_ok X G (cd.fact 19 (f := .glo "is_good") rfl))
  obtain ⟨fd_is_open, F_is_open⟩ := cd.def_ 20 (d := dd "is_open" 56) rfl
  have c_is_open : CalD P w K mg base 2 "is_open" 4 f_is_open := ok_is_open gg c_is_good F_is_open (He.glo_ok X G (cd.fact 20 (f := .glo "is_open") rfl))
  obtain ⟨fd_come, F_come⟩ := cd.def_ 21 (d := dd "come" 57) rfl
  have c_come : CalD P w K mg base 1 "come" 3 f_come := ok_come gg F_come (He.glo_ok X G (cd.fact 21 (f := .glo "come") rfl))
  obtain ⟨fd_unheld, F_unheld⟩ := cd.def_ 22 (d := dd "unheld" 58) rfl
  have c_unheld : CalD P w K mg base 1 "unheld" 3 f_unheld := ok_unheld gg F_unheld (He.glo_ok X G (cd.fact 22 (f := .glo "unheld") rfl))
  obtain ⟨fd_goes_to, F_goes_to⟩ := cd.def_ 23 (d := dd "goes_to" 59) rfl
  have c_goes_to : CalD P w K mg base 2 "goes_to" 4 f_goes_to := ok_goes_to gg c_is_good F_goes_to (He.glo_ok X G (cd.fact 23 (f := .glo "goes_to") rfl))
  obtain ⟨fd_is_dead, F_is_dead⟩ := cd.def_ 24 (d := dd "is_dead" 60) rfl
  have c_is_dead : CalD P w K mg base 1 "is_dead" 2 f_is_dead := ok_is_dead gg F_is_dead (He.glo_ok X G (cd.fact 24 (f := .glo "is_dead") rfl))
  obtain ⟨fd_led_to, F_led_to⟩ := cd.def_ 25 (d := dd "led_to" 61) rfl
  have c_led_to : CalD P w K mg base 3 "led_to" 3 f_led_to := ok_led_to gg c_is_dead c_goes_to F_led_to (He.glo_ok X G (cd.fact 25 (f := .glo "led_to") rfl))
  obtain ⟨fd_threads, F_threads⟩ := cd.def_ 26 (d := dd "threads" 62) rfl
  have c_threads : CalD P w K mg base 1 "threads" 3 f_threads := ok_threads gg F_threads (He.glo_ok X G (cd.fact 26 (f := .glo "threads") rfl))
  obtain ⟨fd_taken, F_taken⟩ := cd.def_ 27 (d := dd "taken" 63) rfl
  have c_taken : CalD P w K mg base 3 "taken" 4 f_taken := ok_taken gg c_is_open c_come F_taken (He.glo_ok X G (cd.fact 27 (f := .glo "taken") rfl))
  obtain ⟨fd_held_by, F_held_by⟩ := cd.def_ 28 (d := dd "held_by" 64) rfl
  have c_held_by : CalD P w K mg base 1 "held_by" 2 f_held_by := ok_held_by gg F_held_by (He.glo_ok X G (cd.fact 28 (f := .glo "held_by") rfl))
  obtain ⟨fd_given_up, F_given_up⟩ := cd.def_ 29 (d := dd "given_up" 65) rfl
  have c_given_up : CalD P w K mg base 2 "given_up" 3 f_given_up := ok_given_up gg c_held_by c_threads c_unheld F_given_up (He.glo_ok X G (cd.fact 29 (f := .glo "given_up") rfl))
  obtain ⟨fd_changed, F_changed⟩ := cd.def_ 30 (d := dd "changed" 66) rfl
  have c_changed : CalD P w K mg base 3 "changed" 4 f_changed := ok_changed gg c_held_by c_is_open c_come c_threads c_unheld F_changed (He.glo_ok X G (cd.fact 30 (f := .glo "changed") rfl))
  obtain ⟨fd_passed, F_passed⟩ := cd.def_ 31 (d := dd "passed" 67) rfl
  have c_passed : CalD P w K mg base 2 "passed" 4 f_passed := ok_passed gg c_held_by c_threads F_passed (He.glo_ok X G (cd.fact 31 (f := .glo "passed") rfl))
  obtain ⟨fd_written, F_written⟩ := cd.def_ 32 (d := dd "written" 68) rfl
  have c_written : CalD P w K mg base 2 "written" 3 f_written := ok_written gg c_held_by F_written (He.glo_ok X G (cd.fact 32 (f := .glo "written") rfl))
  obtain ⟨fd_copied, F_copied⟩ := cd.def_ 33 (d := dd "copied" 69) rfl
  have c_copied : CalD P w K mg base 4 "copied" 3 f_copied := ok_copied gg c_is_dead c_led_to F_copied (He.glo_ok X G (cd.fact 33 (f := .glo "copied") rfl))
  obtain ⟨fd_ticked, F_ticked⟩ := cd.def_ 34 (d := dd "ticked" 70) rfl
  have c_ticked : CalD P w K mg base 1 "ticked" 1 f_ticked := ok_ticked gg F_ticked (He.glo_ok X G (cd.fact 34 (f := .glo "ticked") rfl))
  obtain ⟨fd_stepped, F_stepped⟩ := cd.def_ 35 (d := dd "stepped" 71) rfl
  have c_stepped : CalD P w K mg base 5 "stepped" 3 f_stepped := ok_stepped gg c_ticked c_copied c_given_up c_written c_taken c_changed c_passed F_stepped (He.glo_ok X G (cd.fact 35 (f := .glo "stepped") rfl))
  obtain ⟨fd_behind, F_behind⟩ := cd.def_ 36 (d := dd "behind" 72) rfl
  have c_behind : CalD P w K mg base 6 "behind" 3 f_behind := ok_behind gg c_stepped F_behind (He.glo_ok X G (cd.fact 36 (f := .glo "behind") rfl))
  obtain ⟨fd_status, F_status⟩ := cd.def_ 37 (d := dd "status" 74) rfl
  have c_status : CalD P w K mg base 2 "status" 1 f_status := ok_status gg c_end_of F_status (He.glo_ok X G (cd.fact 37 (f := .glo "status") rfl))
  obtain ⟨fd_doer_of, F_doer_of⟩ := cd.def_ 38 (d := dd "doer_of" 75) rfl
  have c_doer_of : CalD P w K mg base 1 "doer_of" 2 f_doer_of := ok_doer_of gg F_doer_of (He.glo_ok X G (cd.fact 38 (f := .glo "doer_of") rfl))
  obtain ⟨fd_all_scenes, F_all_scenes⟩ := cd.def_ 39 (d := dd "all_scenes" 76) rfl
  have c_all_scenes : CalD P w K mg base 5 "all_scenes" 1 f_all_scenes := ok_all_scenes gg c_first_scene c_steps_of F_all_scenes (He.glo_ok X G (cd.fact 39 (f := .glo "all_scenes") rfl))
  obtain ⟨fd_way_to, F_way_to⟩ := cd.def_ 40 (d := dd "way_to" 77) rfl
  have c_way_to : CalD P w K mg base 1 "way_to" 2 f_way_to := ok_way_to gg F_way_to (He.glo_ok X G (cd.fact 40 (f := .glo "way_to") rfl))
  obtain ⟨fd_letters_of, F_letters_of⟩ := cd.def_ 41 (d := dd "letters_of" 78) rfl
  have c_letters_of : CalD P w K mg base 1 "letters_of" 1 f_letters_of := ok_letters_of gg F_letters_of (He.glo_ok X G (cd.fact 41 (f := .glo "letters_of") rfl))
  obtain ⟨fd_told_event, F_told_event⟩ := cd.def_ 42 (d := dd "told_event" 79) rfl
  have c_told_event : CalD P w K mg base 2 "told_event" 4 f_told_event := ok_told_event gg c_letters_of F_told_event (He.glo_ok X G (cd.fact 42 (f := .glo "told_event") rfl))
  obtain ⟨fd_names_then, F_names_then⟩ := cd.def_ 43 (d := dd "names_then" 80) rfl
  have c_names_then : CalD P w K mg base 1 "names_then" 4 f_names_then := ok_names_then gg F_names_then (He.glo_ok X G (cd.fact 43 (f := .glo "names_then") rfl))
  obtain ⟨fd_history_of, F_history_of⟩ := cd.def_ 44 (d := dd "history_of" 81) rfl
  have c_history_of : CalD P w K mg base 7 "history_of" 2 f_history_of := ok_history_of gg c_behind c_first_state c_told_event c_stepped c_names_then F_history_of (He.glo_ok X G (cd.fact 44 (f := .glo "history_of") rfl))
  obtain ⟨fd_found_harms, F_found_harms⟩ := cd.def_ 45 (d := dd "found_harms" 82) rfl
  have c_found_harms : CalD P w K mg base 6 "found_harms" 1 f_found_harms := ok_found_harms gg c_all_scenes c_steps_of c_status c_doer_of c_way_to F_found_harms (He.glo_ok X G (cd.fact 45 (f := .glo "found_harms") rfl))
  obtain ⟨fd_shortest, F_shortest⟩ := cd.def_ 46 (d := dd "shortest" 83) rfl
  have c_shortest : CalD P w K mg base 8 "shortest" 3 f_shortest := ok_shortest gg c_need_rule c_need_threat c_found_harms c_history_of F_shortest (He.glo_ok X G (cd.fact 46 (f := .glo "shortest") rfl))
  obtain ⟨fd_law_bag, F_law_bag⟩ := cd.def_ 47 (d := dd "_law_bag" 85) rfl
  have c_law_bag : CalR P w K mg base 1 "_law_bag" (spBag K) := ok_law_bag gg F_law_bag (He.glo_ok X G (cd.fact 47 (f := .glo "_law_bag") rfl))
  obtain ⟨fd_law_take, F_law_take⟩ := cd.def_ 48 (d := dd "_law_take" 86) rfl
  have c_law_take : CalR P w K mg base 1 "_law_take" spTake := ok_law_take gg F_law_take (He.glo_ok X G (cd.fact 48 (f := .glo "_law_take") rfl))
  obtain ⟨fd_law_of, F_law_of⟩ := cd.def_ 49 (d := dd "_law_of" 87) rfl
  have c_law_of : CalR P w K mg base 2 "_law_of" spOf := ok_law_of gg c_law_take F_law_of (He.glo_ok X G (cd.fact 49 (f := .glo "_law_of") rfl))
  obtain ⟨fd_law_rule, F_law_rule⟩ := cd.def_ 50 (d := dd "_law_rule" 88) rfl
  have c_law_rule : CalR P w K mg base 3 "_law_rule" spRule := ok_law_rule gg c_law_take c_law_of F_law_rule (He.glo_ok X G (cd.fact 50 (f := .glo "_law_rule") rfl))
  obtain ⟨fd_law_good, F_law_good⟩ := cd.def_ 51 (d := dd "_law_good" 89) rfl
  have c_law_good : CalD P w K mg base 1 "_law_good" 2 f_law_good := ok_law_good gg F_law_good (He.glo_ok X G (cd.fact 51 (f := .glo "_law_good") rfl))
  obtain ⟨fd_law_open, F_law_open⟩ := cd.def_ 52 (d := dd "_law_open" 90) rfl
  have c_law_open : CalD P w K mg base 2 "_law_open" 4 f_law_open := ok_law_open gg c_law_good F_law_open (He.glo_ok X G (cd.fact 52 (f := .glo "_law_open") rfl))
  obtain ⟨fd_law_come, F_law_come⟩ := cd.def_ 53 (d := dd "_law_come" 91) rfl
  have c_law_come : CalD P w K mg base 1 "_law_come" 3 f_law_come := ok_law_come gg F_law_come (He.glo_ok X G (cd.fact 53 (f := .glo "_law_come") rfl))
  obtain ⟨fd_law_end, F_law_end⟩ := cd.def_ 54 (d := dd "_law_end" 92) rfl
  have c_law_end : CalD P w K mg base 2 "_law_end" 4 f_law_end := ok_law_end gg c_law_good F_law_end (He.glo_ok X G (cd.fact 54 (f := .glo "_law_end") rfl))
  obtain ⟨fd_law_dead, F_law_dead⟩ := cd.def_ 55 (d := dd "_law_dead" 93) rfl
  have c_law_dead : CalD P w K mg base 1 "_law_dead" 2 f_law_dead := ok_law_dead gg F_law_dead (He.glo_ok X G (cd.fact 55 (f := .glo "_law_dead") rfl))
  obtain ⟨fd_law_to, F_law_to⟩ := cd.def_ 56 (d := dd "_law_to" 94) rfl
  have c_law_to : CalD P w K mg base 3 "_law_to" 3 f_law_to := ok_law_to gg c_law_dead c_law_end F_law_to (He.glo_ok X G (cd.fact 56 (f := .glo "_law_to") rfl))
  obtain ⟨fd_law_rethread, F_law_rethread⟩ := cd.def_ 57 (d := dd "_law_rethread" 95) rfl
  have c_law_rethread : CalD P w K mg base 1 "_law_rethread" 3 f_law_rethread := ok_law_rethread gg F_law_rethread (He.glo_ok X G (cd.fact 57 (f := .glo "_law_rethread") rfl))
  obtain ⟨fd_law_held, F_law_held⟩ := cd.def_ 58 (d := dd "_law_held" 96) rfl
  have c_law_held : CalD P w K mg base 1 "_law_held" 2 f_law_held := ok_law_held gg F_law_held (He.glo_ok X G (cd.fact 58 (f := .glo "_law_held") rfl))
  obtain ⟨fd_law_named, F_law_named⟩ := cd.def_ 59 (d := dd "_law_named" 97) rfl
  have c_law_named : CalD P w K mg base 3 "_law_named" 3 f_law_named := ok_law_named gg c_law_held c_law_open c_law_come c_law_rethread F_law_named (He.glo_ok X G (cd.fact 59 (f := .glo "_law_named") rfl))
  obtain ⟨fd_law_next, F_law_next⟩ := cd.def_ 60 (d := dd "_law_next" 98) rfl
  have c_law_next : CalD P w K mg base 4 "_law_next" 3 f_law_next := ok_law_next gg c_law_named c_law_dead c_law_to F_law_next (He.glo_ok X G (cd.fact 60 (f := .glo "_law_next") rfl))
  obtain ⟨fd_law_begin, F_law_begin⟩ := cd.def_ 61 (d := dd "_law_begin" 99) rfl
  have c_law_begin : CalD P w K mg base 1 "_law_begin" 0 f_law_begin := ok_law_begin gg F_law_begin (He.glo_ok X G (cd.fact 61 (f := .glo "_law_begin") rfl))
  obtain ⟨fd_law_word, F_law_word⟩ := cd.def_ 62 (d := dd "_law_word" 100) rfl
  have c_law_word : CalD P w K mg base 4 "_law_word" 3 f_law_word := ok_law_word gg c_law_to c_law_dead F_law_word (He.glo_ok X G (cd.fact 62 (f := .glo "_law_word") rfl))
  obtain ⟨fd_law_harms, F_law_harms⟩ := cd.def_ 63 (d := dd "_law_harms" 101) rfl
  have c_law_harms : CalD P w K mg base 5 "_law_harms" 4 f_law_harms := ok_law_harms gg c_law_held c_law_word F_law_harms (He.glo_ok X G (cd.fact 63 (f := .glo "_law_harms") rfl))
  obtain ⟨fd_law_top, F_law_top⟩ := cd.def_ 64 (d := dd "_law_top" 102) rfl
  have c_law_top : CalD P w K mg base 1 "_law_top" 1 f_law_top := ok_law_top gg F_law_top (He.glo_ok X G (cd.fact 64 (f := .glo "_law_top") rfl))
  obtain ⟨fd_law_fine, F_law_fine⟩ := cd.def_ 65 (d := dd "_law_fine" 103) rfl
  have c_law_fine : CalD P w K mg base 1 "_law_fine" 2 f_law_fine := ok_law_fine gg F_law_fine (He.glo_ok X G (cd.fact 65 (f := .glo "_law_fine") rfl))
  obtain ⟨fd_law_may, F_law_may⟩ := cd.def_ 66 (d := dd "_law_may" 104) rfl
  have c_law_may : CalD P w K mg base 2 "_law_may" 4 f_law_may := ok_law_may gg c_law_fine F_law_may (He.glo_ok X G (cd.fact 66 (f := .glo "_law_may") rfl))
  obtain ⟨fd_law_cut, F_law_cut⟩ := cd.def_ 67 (d := dd "_law_cut" 105) rfl
  have c_law_cut : CalD P w K mg base 1 "_law_cut" 3 f_law_cut := ok_law_cut gg F_law_cut (He.glo_ok X G (cd.fact 67 (f := .glo "_law_cut") rfl))
  obtain ⟨fd_law_come_in, F_law_come_in⟩ := cd.def_ 68 (d := dd "_law_come_in" 106) rfl
  have c_law_come_in : CalD P w K mg base 2 "_law_come_in" 5 f_law_come_in := ok_law_come_in gg c_law_cut F_law_come_in (He.glo_ok X G (cd.fact 68 (f := .glo "_law_come_in") rfl))
  obtain ⟨fd_law_new_name, F_law_new_name⟩ := cd.def_ 69 (d := dd "_law_new_name" 107) rfl
  have c_law_new_name : CalD P w K mg base 1 "_law_new_name" 2 f_law_new_name := ok_law_new_name gg F_law_new_name (He.glo_ok X G (cd.fact 69 (f := .glo "_law_new_name") rfl))
  obtain ⟨fd_law_older, F_law_older⟩ := cd.def_ 70 (d := dd "_law_older" 108) rfl
  have c_law_older : CalD P w K mg base 2 "_law_older" 2 f_law_older := ok_law_older gg c_law_top c_law_fine c_law_cut F_law_older (He.glo_ok X G (cd.fact 70 (f := .glo "_law_older") rfl))
  obtain ⟨fd_law_moves, F_law_moves⟩ := cd.def_ 71 (d := dd "_law_moves" 109) rfl
  have c_law_moves : CalD P w K mg base 3 "_law_moves" 2 f_law_moves := ok_law_moves gg c_law_older c_law_may c_law_come_in c_law_new_name F_law_moves (He.glo_ok X G (cd.fact 71 (f := .glo "_law_moves") rfl))
  obtain ⟨fd_law_stands_so, F_law_stands_so⟩ := cd.def_ 72 (d := dd "_law_stands_so" 110) rfl
  have c_law_stands_so : CalD P w K mg base 1 "_law_stands_so" 1 f_law_stands_so := ok_law_stands_so gg F_law_stands_so (He.glo_ok X G (cd.fact 72 (f := .glo "_law_stands_so") rfl))
  obtain ⟨fd_law_threats, F_law_threats⟩ := cd.def_ 73 (d := dd "_law_threats" 111) rfl
  have c_law_threats : CalD P w K mg base 4 "_law_threats" 1 f_law_threats := ok_law_threats gg c_law_moves c_law_stands_so F_law_threats (He.glo_ok X G (cd.fact 73 (f := .glo "_law_threats") rfl))
  obtain ⟨fd_law_is_event, F_law_is_event⟩ := cd.def_ 75 (d := dd "_law_is_event" 113) rfl
  have c_law_is_event : CalD P w K mg base 1 "_law_is_event" 1 f_law_is_event := ok_law_is_event gg F_law_is_event (He.glo_ok X G (cd.fact 75 (f := .glo "_law_is_event") rfl))
  obtain ⟨fd_law_rows, F_law_rows⟩ := cd.def_ 74 (d := dd "_law_rows" 112) rfl
  have c_law_rows : CalD P w K mg base 6 "_law_rows" 2 f_law_rows := ok_law_rows gg c_law_begin c_law_is_event c_law_next c_law_harms F_law_rows (He.glo_ok X G (cd.fact 74 (f := .glo "_law_rows") rfl))
  exact ok_law gg c_law_bag c_law_rule c_law_threats c_shortest c_law_rows F
end NW

open PySem PySem.W PySem.Calls PyProof.Rows
theorem PySem.Challenge.cw_nameswait_k06_whole_shortest_histories_holds : PySem.Challenge.rw_nameswait_k06_whole_shortest_histories.Holds := by
  w_on; o_law
  refine HandSHeadRun.head_any (r := OpenLaw.row PySem.Challenge.rw_nameswait_k06_whole_shortest_histories) (q := view (OpenLaw.row PySem.Challenge.rw_nameswait_k06_whole_shortest_histories).prog [114]) (H := NW.hk) (ob := NW.ob) (M := 6000) (loose := NW.nm) (d := HandSHeadRun.topDef (OpenLaw.row PySem.Challenge.rw_nameswait_k06_whole_shortest_histories).prog 114) (kwd := []) NW.ob_eq
    (by kernel_rfl) (fun s => by kernel_rfl) NW.run (by kernel_rfl) (by kernel_rfl) (by kernel_rfl) (by rfl) (by first | assumption | decide +kernel) (by decide +kernel) ⟨rfl, rfl, rfl, rfl, rfl, by decide +kernel⟩ ?hw ?hc
  case hw => w_witness2
  case hc =>
    refine L2.walk_ofE (l := PySem.Challenge.rw_nameswait_k06_whole_shortest_histories) (n := 63) (k := 9) (x := "_law_script") (CX := L2.CX0) rfl (by decide) (by kernel_rfl) ⟨rfl, by decide, by decide⟩ ?F (fun _ _ _ _ z => z)
    intro w mg fa h Y G hmg0
    obtain ⟨K, KX, c⟩ := Y
    have hmg : mg ("law" : PySem.Str) = some (.ref fa) := by
      have e : (HandSHeadRun.topDef (OpenLaw.row PySem.Challenge.rw_nameswait_k06_whole_shortest_histories).prog 114).name = ("law" : PySem.Str) := by kernel_rfl
      rw [← e]
      exact hmg0
    obtain ⟨fd, hb, hF⟩ := NW.facts (P := (PySem.Challenge.rw_nameswait_k06_whole_shortest_histories).prog) (w := w) KX G hmg c
    exact ⟨K, fd, NW.spLaw K, KX, hb, fun H a ns hl _ hS => ⟨a, ns, rfl, hS, fun _ => rfl⟩, hF⟩

