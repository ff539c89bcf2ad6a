import PyProof.Rows.All
import Wide.All
import OpenK.AllK
import Wide.FinOn
import KE.KStateDown
import HandS.ForMost
import HandS.ForExc
import HandS.Wide
import HandS.Style
import HandS.Deep
import HandS.Conv
import HandS.IsInst
import HandS.Star
import HandS.Defaults
import HandS.Zip
import HandS.TryOnly
import HandS.Flow
import KE.GoesMore
import HandS.TupSets
import KE.SortData
import PySem.Challenge.RW_chordsuntold_k04_main_whole_all_small_ta
import Lean
import HandS.Head0
import HandS.Head1
import HandS.Head2
import HandS.HeadEnd
import HandS.HeadHook1
import HandS.HeadHook2
set_option Elab.async false
set_option linter.all false
set_option maxRecDepth 100000
set_option maxHeartbeats 0
/-! Rf1: data, their standing in the abstract heap, states, what a mirror says -/
namespace Rf
open PySem PySem.Spec PyProof.Rows L2

abbrev D := PyData
abbrev OS := Addr → Prop
abbrev Frg := PySem.W.Frag

/-! ### lists and tuples that stand -/
def KL (K : Frg) (a : Addr) (xs : List V) : Prop := ∃ (o : Obj) (its : Array Value) (n : Nat), K.lookup a = some o ∧ o.cls = .type "list" ∧ o.dict = none ∧ o.data = .seq its n ∧ its.size ≤ sizeLine ∧ Vals xs its.toList
def KT (K : Frg) (a : Addr) (xs : List V) : Prop := ∃ (o : Obj) (its : Array Value) (n : Nat), K.lookup a = some o ∧ o.cls = .type "tuple" ∧ o.data = .seq its n ∧ its.size ≤ sizeLine ∧ Vals xs its.toList
def ReL (K : Frg) (O : OS) (H : Hp) (a : Addr) (xs : List V) : Prop := H a = some (.lst xs) ∧ ¬ O a
def ReT (K : Frg) (O : OS) (H : Hp) (a : Addr) (xs : List V) : Prop := (H a = some (.tup xs) ∧ ¬ O a) ∨ KT K a xs
theorem ReL.seq {K : Frg} {O : OS} {H : Hp} {a : Addr} {xs : List V} (h : ReL K O H a xs) : SqL K H a xs := .of h.1
theorem ReT.seq {K : Frg} {O : OS} {H : Hp} {a : Addr} {xs : List V} (h : ReT K O H a xs) : SqT K H a xs := h.elim (fun x => .of x.1) .inr

mutual
inductive Rep (K : Frg) (O : OS) (H : Hp) : V → D → Prop
  | non : Rep K O H .non .none
  | bl (b : Bool) : Rep K O H (.bl b) (.bool b)
  | int (i : Int) : Rep K O H (.int i) (.int i)
  | str (x : Str) : PyData.strOk x = true → Rep K O H (.str x) (.str x)
  | lst {a : Addr} {xs : List V} {ds : List D} : ReL K O H a xs → ds.length ≤ sizeLine → RepAll K O H xs ds → Rep K O H (.ref a) (.list ds)
  | tup {a : Addr} {xs : List V} {ds : List D} : ReT K O H a xs → ds.length ≤ sizeLine → RepAll K O H xs ds → Rep K O H (.ref a) (.tuple ds)
inductive RepAll (K : Frg) (O : OS) (H : Hp) : List V → List D → Prop
  | nil : RepAll K O H [] []
  | cons {v : V} {vs : List V} {d : D} {ds : List D} : Rep K O H v d → RepAll K O H vs ds → RepAll K O H (v :: vs) (d :: ds)
end

section
variable {K : Frg} {O O2 : OS} {H H2 : Hp}
theorem RepAll.len : ∀ {vs : List V} {ds : List D}, RepAll K O H vs ds → vs.length = ds.length
  | _, [], h => by cases h; rfl
  | _, _ :: _, h => by
    cases h with
    | cons _ h2 => rw [List.length_cons, List.length_cons, RepAll.len h2]
theorem RepAll.get : ∀ {vs : List V} {ds : List D} {i : Nat} {d : D}, RepAll K O H vs ds → ds[i]? = some d → ∃ v, vs[i]? = some v ∧ Rep K O H v d
  | _, [], _, _, _, e => by simp at e
  | _, _ :: _, 0, _, h, e => by
    cases h with
    | cons h1 _ => simp at e; subst e; exact ⟨_, rfl, h1⟩
  | _, _ :: _, i + 1, _, h, e => by
    cases h with
    | cons _ h2 =>
      obtain ⟨v, q1, q2⟩ := RepAll.get (i := i) h2 (by simpa using e)
      exact ⟨v, by simpa using q1, q2⟩
theorem RepAll.getV : ∀ {vs : List V} {ds : List D} {i : Nat} {v : V}, RepAll K O H vs ds → vs[i]? = some v → ∃ d, ds[i]? = some d ∧ Rep K O H v d
  | _, [], i, _, h, e => by cases h; simp at e
  | _, _ :: _, 0, _, h, e => by
    cases h with
    | cons h1 _ => simp at e; subst e; exact ⟨_, rfl, h1⟩
  | _, _ :: _, i + 1, _, h, e => by
    cases h with
    | cons _ h2 =>
      obtain ⟨v, q1, q2⟩ := RepAll.getV (i := i) h2 (by simpa using e)
      exact ⟨v, by simpa using q1, q2⟩
theorem RepAll.append : ∀ {vs ws : List V} {ds es : List D}, RepAll K O H vs ds → RepAll K O H ws es → RepAll K O H (vs ++ ws) (ds ++ es)
  | _, _, [], _, h, g => by cases h; exact g
  | _, _, _ :: _, _, h, g => by
    cases h with
    | cons h1 h2 => exact .cons h1 (RepAll.append h2 g)
theorem RepAll.one {v : V} {d : D} (h : Rep K O H v d) : RepAll K O H [v] [d] := .cons h .nil
theorem RepAll.take : ∀ {vs : List V} {ds : List D} (n : Nat), RepAll K O H vs ds → RepAll K O H (vs.take n) (ds.take n)
  | _, _, 0, _ => .nil
  | _, [], _ + 1, h => by cases h; exact .nil
  | _, _ :: _, n + 1, h => by
    cases h with
    | cons h1 h2 => exact .cons h1 (RepAll.take n h2)
theorem RepAll.drop : ∀ {vs : List V} {ds : List D} (n : Nat), RepAll K O H vs ds → RepAll K O H (vs.drop n) (ds.drop n)
  | _, _, 0, h => h
  | _, [], _ + 1, h => by cases h; exact .nil
  | _, _ :: _, n + 1, h => by
    cases h with
    | cons _ h2 => exact RepAll.drop n h2

/-! ### the heap grows -/
structure Grow (O : OS) (H : Hp) (O2 : OS) (H2 : Hp) : Prop where
  keep : ∀ b o, H b = some o → ¬ O b → H2 b = some o
  own : ∀ b, O2 b → O b ∨ H b = none
theorem Grow.refl : Grow O H O H := ⟨fun _ _ e _ => e, fun _ h => .inl h⟩
theorem Grow.of_same (h : Same H H2) : Grow O H O H2 := ⟨fun b o e _ => h b o e, fun _ h => .inl h⟩
theorem Grow.trans {O3 : OS} {H3 : Hp} (g : Grow O H O2 H2) (k : Grow O2 H2 O3 H3) : Grow O H O3 H3 := by
  have no : ∀ b o, H b = some o → ¬ O b → ¬ O2 b := fun b o e n z => by
    rcases g.own b z with q | q
    · exact n q
    · rw [e] at q; cases q
  refine ⟨fun b o e n => k.keep b o (g.keep b o e n) (no b o e n), fun b h => ?_⟩
  rcases k.own b h with q | q
  · exact g.own b q
  · by_cases z : O b
    · exact .inl z
    · refine .inr ?_
      cases e : H b with
      | none => rfl
      | some o => rw [g.keep b o e z] at q; cases q
theorem ReL.grow {a : Addr} {xs : List V} (g : Grow O H O2 H2) (h : ReL K O H a xs) : ReL K O2 H2 a xs := by
  obtain ⟨h, n⟩ := h
  refine ⟨g.keep _ _ h n, fun z => ?_⟩
  rcases g.own a z with q | q
  · exact n q
  · rw [h] at q; cases q
theorem ReT.grow {a : Addr} {xs : List V} (g : Grow O H O2 H2) (h : ReT K O H a xs) : ReT K O2 H2 a xs := by
  rcases h with ⟨h, n⟩ | h
  · refine .inl ⟨g.keep _ _ h n, fun z => ?_⟩
    rcases g.own a z with q | q
    · exact n q
    · rw [h] at q; cases q
  · exact .inr h
mutual
theorem Rep.grow (g : Grow O H O2 H2) : ∀ (d : D) {v : V}, Rep K O H v d → Rep K O2 H2 v d
  | .none, _, h => by cases h; exact .non
  | .bool b, _, h => by cases h; exact .bl b
  | .int i, _, h => by cases h; exact .int i
  | .str x, _, h => by cases h with | str _ q => exact .str x q
  | .list ds, _, h => by cases h with | lst a l b => exact .lst (a.grow g) l (RepAll.grow g ds b)
  | .tuple ds, _, h => by cases h with | tup a l b => exact .tup (a.grow g) l (RepAll.grow g ds b)
  | .dict _, _, h => by cases h
theorem RepAll.grow (g : Grow O H O2 H2) : ∀ (ds : List D) {vs : List V}, RepAll K O H vs ds → RepAll K O2 H2 vs ds
  | [], _, h => by cases h; exact .nil
  | d :: ds, _, h => by cases h with | cons a b => exact .cons (Rep.grow g d a) (RepAll.grow g ds b)
end
theorem Rep.same {d : D} {v : V} (h : Rep K O H v d) (g : Same H H2) : Rep K O H2 v d := Rep.grow (.of_same g) d h
theorem RepAll.same {ds : List D} {vs : List V} (h : RepAll K O H vs ds) (g : Same H H2) : RepAll K O H2 vs ds := RepAll.grow (.of_same g) ds h
/-- fewer owned -/
theorem Rep.less {d : D} {v : V} (h : Rep K O H v d) (g : ∀ b, O2 b → O b) : Rep K O2 H v d := Rep.grow ⟨fun _ _ e _ => e, fun b z => .inl (g b z)⟩ d h
theorem RepAll.less {ds : List D} {vs : List V} (h : RepAll K O H vs ds) (g : ∀ b, O2 b → O b) : RepAll K O2 H vs ds := RepAll.grow ⟨fun _ _ e _ => e, fun b z => .inl (g b z)⟩ ds h
mutual
theorem Rep.dp : ∀ (d : D) {v : V}, Rep K O H v d → Dp K H v d
  | .none, _, h => by cases h; exact .non
  | .bool b, _, h => by cases h; exact .bl b
  | .int i, _, h => by cases h; exact .int i
  | .str x, _, h => by cases h with | str _ q => exact .str x
  | .list ds, _, h => by cases h with | lst a l b => exact .lst a.seq (RepAll.dp ds b)
  | .tuple ds, _, h => by cases h with | tup a l b => exact .tup a.seq (RepAll.dp ds b)
  | .dict _, _, h => by cases h
theorem RepAll.dp : ∀ (ds : List D) {vs : List V}, RepAll K O H vs ds → DpAll K H vs ds
  | [], _, h => by cases h; exact .nil
  | d :: ds, _, h => by cases h with | cons a b => exact .cons (Rep.dp d a) (RepAll.dp ds b)
end
mutual
theorem Rep.canLay : ∀ (d : D) {v : V}, Rep K O H v d → d.canLay0 = true
  | .none, _, h => rfl
  | .bool b, _, h => rfl
  | .int i, _, h => rfl
  | .str x, _, h => by cases h with | str _ q => exact q
  | .list ds, _, h => by cases h with | lst a l b => exact RepAll.canLay ds b
  | .tuple ds, _, h => by cases h with | tup a l b => exact RepAll.canLay ds b
  | .dict _, _, h => by cases h
theorem RepAll.canLay : ∀ (ds : List D) {vs : List V}, RepAll K O H vs ds → PyData.canLayAll0 ds = true
  | [], _, h => rfl
  | d :: ds, _, h => by
    cases h with
    | cons a b => exact Bool.and_eq_true_iff.mpr ⟨Rep.canLay d a, RepAll.canLay ds b⟩
end
/-- new objects -/
theorem same_upd {H : Hp} {p : Addr} (o : HO) (h : H p = none) : Same H (upd H p o) := fun b u q => by rw [upd_ne (ne_of_none q h)]; exact q
theorem Rep.newT {p : Addr} {xs : List V} {ds : List D} (hp : H p = none) (dom : ∀ a, O a → H a ≠ none) (l : ds.length ≤ sizeLine) (h : RepAll K O H xs ds) : Rep K O (upd H p (.tup xs)) (.ref p) (.tuple ds) :=
  .tup (.inl ⟨upd_same, fun z => dom p z hp⟩) l (h.same (same_upd _ hp))
theorem Rep.newL {p : Addr} {xs : List V} {ds : List D} (hp : H p = none) (dom : ∀ a, O a → H a ≠ none) (l : ds.length ≤ sizeLine) (h : RepAll K O H xs ds) : Rep K O (upd H p (.lst xs)) (.ref p) (.list ds) :=
  .lst ⟨upd_same, fun z => dom p z hp⟩ l (h.same (same_upd _ hp))
end

/-! ### states -/
inductive MV where
  | val (d : D)
  | row (ds : List D)
inductive Slot where
  | emp
  | val (d : D)
  | own (es : List MV)
abbrev Env := List Slot

inductive MReps (K : Frg) (O : OS) (H : Hp) : List V → List MV → List Addr → Prop
  | nil : MReps K O H [] [] []
  | val {v : V} {vs : List V} {d : D} {es : List MV} {fp : List Addr} : Rep K O H v d → MReps K O H vs es fp → MReps K O H (v :: vs) (.val d :: es) fp
  | row {b : Addr} {ys : List V} {vs : List V} {ds : List D} {es : List MV} {fp : List Addr} : H b = some (.lst ys) → ds.length ≤ sizeLine → RepAll K O H ys ds → MReps K O H vs es fp → MReps K O H (.ref b :: vs) (.row ds :: es) (b :: fp)
inductive SlotRep (K : Frg) (O : OS) (H : Hp) : Option V → Slot → List Addr → Prop
  | emp {o : Option V} : SlotRep K O H o .emp []
  | val {x : V} {d : D} : Rep K O H x d → SlotRep K O H (some x) (.val d) []
  | own {a : Addr} {xs : List V} {es : List MV} {fp : List Addr} : H a = some (.lst xs) → es.length ≤ sizeLine → MReps K O H xs es fp → SlotRep K O H (some (.ref a)) (.own es) (a :: fp)
inductive EnvRep (K : Frg) (O : OS) (H : Hp) : L2.St → Env → List Addr → Prop
  | nil : EnvRep K O H [] [] []
  | cons {o : Option V} {s : Slot} {fp : List Addr} {σ : L2.St} {env : Env} {fps : List Addr} : SlotRep K O H o s fp → EnvRep K O H σ env fps → EnvRep K O H (o :: σ) (s :: env) (fp ++ fps)

section
variable {K : Frg} {O O2 : OS} {H H2 : Hp}
theorem MReps.grow (g : Grow O H O2 H2) {vs : List V} {es : List MV} {fp : List Addr} (h : MReps K O H vs es fp) (k : ∀ a ∈ fp, H2 a = H a) : MReps K O2 H2 vs es fp := by
  induction h with
  | nil => exact .nil
  | val h1 _ ih => exact .val (Rep.grow g _ h1) (ih k)
  | row h1 l h2 _ ih => exact .row ((k _ List.mem_cons_self).trans h1) l (RepAll.grow g _ h2) (ih fun a ha => k a (List.mem_cons_of_mem _ ha))
theorem SlotRep.grow (g : Grow O H O2 H2) {o : Option V} {s : Slot} {fp : List Addr} (h : SlotRep K O H o s fp) (k : ∀ a ∈ fp, H2 a = H a) : SlotRep K O2 H2 o s fp := by
  cases h with
  | emp => exact .emp
  | val h1 => exact .val (Rep.grow g _ h1)
  | own h1 l h2 => exact .own ((k _ List.mem_cons_self).trans h1) l (h2.grow g fun a ha => k a (List.mem_cons_of_mem _ ha))
theorem EnvRep.grow (g : Grow O H O2 H2) {σ : L2.St} {env : Env} {fp : List Addr} (h : EnvRep K O H σ env fp) (k : ∀ a ∈ fp, H2 a = H a) : EnvRep K O2 H2 σ env fp := by
  induction h with
  | nil => exact .nil
  | cons h1 _ ih => exact .cons (h1.grow g fun a ha => k a (List.mem_append_left _ ha)) (ih fun a ha => k a (List.mem_append_right _ ha))
theorem EnvRep.len {σ : L2.St} {env : Env} {fp : List Addr} (h : EnvRep K O H σ env fp) : σ.length = env.length := by
  induction h with
  | nil => rfl
  | cons _ _ ih => rw [List.length_cons, List.length_cons, ih]
theorem MReps.there {vs : List V} {es : List MV} {fp : List Addr} (h : MReps K O H vs es fp) : ∀ a ∈ fp, ∃ xs, H a = some (.lst xs) := by
  induction h with
  | nil => intro a ha; cases ha
  | val _ _ ih => exact ih
  | row h1 _ _ _ ih =>
    intro a ha
    rcases List.mem_cons.mp ha with rfl | ha
    · exact ⟨_, h1⟩
    · exact ih a ha
theorem SlotRep.there {o : Option V} {s : Slot} {fp : List Addr} (h : SlotRep K O H o s fp) : ∀ a ∈ fp, ∃ xs, H a = some (.lst xs) := by
  cases h with
  | emp => intro a ha; cases ha
  | val _ => intro a ha; cases ha
  | own h1 _ h2 =>
    intro a ha
    rcases List.mem_cons.mp ha with rfl | ha
    · exact ⟨_, h1⟩
    · exact h2.there a ha
theorem EnvRep.there {σ : L2.St} {env : Env} {fp : List Addr} (h : EnvRep K O H σ env fp) : ∀ a ∈ fp, ∃ xs, H a = some (.lst xs) := by
  induction h with
  | nil => intro a ha; cases ha
  | cons h1 _ ih =>
    intro a ha
    rcases List.mem_append.mp ha with ha | ha
    · exact h1.there a ha
    · exact ih a ha
theorem MReps.len {vs : List V} {es : List MV} {fp : List Addr} (h : MReps K O H vs es fp) : vs.length = es.length := by
  induction h with
  | nil => rfl
  | val _ _ ih => rw [List.length_cons, List.length_cons, ih]
  | row _ _ _ _ ih => rw [List.length_cons, List.length_cons, ih]
end

def eget : Env → Nat → Slot
  | [], _ => .emp
  | s :: _, 0 => s
  | _ :: r, n + 1 => eget r n
def eput : Env → Nat → Slot → Env
  | [], _, _ => []
  | _ :: r, 0, s => s :: r
  | t :: r, n + 1, s => t :: eput r n s

/-- split of a state at a slot -/
theorem EnvRep.at_ {K : Frg} {O : OS} {H : Hp} : ∀ {σ : L2.St} {env : Env} {fp : List Addr} (i : Nat), EnvRep K O H σ env fp → (eget env i = .emp ∧ (∀ s, eput env i s = env) ∧ ∀ o, σ.set i o = σ) ∨
    ∃ (o : Option V) (f1 f2 f3 : List Addr), σ[i]? = some o ∧ fp = f1 ++ (f2 ++ f3) ∧ SlotRep K O H o (eget env i) f2 ∧
      ∀ (O2 : OS) (H2 : Hp) (o' : Option V) (s' : Slot) (f2' : List Addr), Grow O H O2 H2 → (∀ a ∈ f1, H2 a = H a) → (∀ a ∈ f3, H2 a = H a) → SlotRep K O2 H2 o' s' f2' → EnvRep K O2 H2 (σ.set i o') (eput env i s') (f1 ++ (f2' ++ f3))
  | _, _, _, i, .nil => .inl ⟨rfl, fun _ => rfl, fun _ => rfl⟩
  | _, _, _, 0, .cons (o := o) (s := s) (fp := fp) (fps := fps) h1 h2 => by
    refine .inr ⟨o, [], fp, fps, rfl, rfl, h1, fun O2 H2 o' s' f2' g _ k3 h => ?_⟩
    have z : EnvRep K O2 H2 (o' :: _) (s' :: _) (f2' ++ fps) := .cons h (h2.grow g k3)
    exact z
  | _, _, _, i + 1, .cons (o := o) (s := s) (fp := fp) (fps := fps) h1 h2 => by
    rcases EnvRep.at_ i h2 with ⟨e, e1, e2⟩ | ⟨o', f1, f2, f3, e1, e2, h3, k⟩
    · exact .inl ⟨e, fun s => congrArg (List.cons _) (e1 s), fun o => congrArg (List.cons _) (e2 o)⟩
    · refine .inr ⟨o', fp ++ f1, f2, f3, by simpa using e1, by rw [e2, List.append_assoc], h3, fun O2 H2 o'' s' f2' g k1 k3 h => ?_⟩
      have q := k O2 H2 o'' s' f2' g (fun a ha => k1 a (List.mem_append_right _ ha)) k3 h
      have z : EnvRep K O2 H2 (o :: (_ : L2.St).set i o'') (s :: eput _ i s') (fp ++ (f1 ++ (f2' ++ f3))) := .cons (h1.grow g fun a ha => k1 a (List.mem_append_left _ ha)) q
      rw [← List.append_assoc] at z
      exact z

/-! ### what is fixed through a def's run -/
structure Pm where
  E : XK
  O0 : OS
  H0 : Hp
  xc : Nat → Addr

structure Good (K : Frg) (P : Pm) (O : OS) (env : Env) (σ : L2.St) (H : Hp) : Prop where
  ex : ∃ fp, EnvRep K O H σ env fp ∧ fp.Nodup ∧ ∀ a ∈ fp, O a ∧ P.H0 a = none
  sub : ∀ a, P.O0 a → O a
  lst : ∀ a, O a → ∃ xs, H a = some (.lst xs)
  same : Same P.H0 H
  dom0 : ∀ a, P.O0 a → P.H0 a ≠ none
theorem Good.dom {K : Frg} {P : Pm} {O : OS} {env : Env} {σ : L2.St} {H : Hp} (g : Good K P O env σ H) : ∀ a, O a → H a ≠ none := fun a z e => by
  obtain ⟨xs, q⟩ := g.lst a z
  rw [q] at e; cases e
theorem Good.grow {K : Frg} {P : Pm} {O : OS} {env : Env} {σ : L2.St} {H H2 : Hp} (g : Good K P O env σ H) (s : Same H H2) : Good K P O env σ H2 := by
  obtain ⟨fp, h1, h2, h3⟩ := g.ex
  refine ⟨⟨fp, h1.grow (.of_same s) (fun a ha => ?_), h2, h3⟩, g.sub, fun a ha => ?_, g.same.trans s, g.dom0⟩
  · obtain ⟨xs, e⟩ := h1.there a ha
    rw [s a _ e, e]
  · obtain ⟨xs, e⟩ := g.lst a ha
    exact ⟨xs, s a _ e⟩

/-! ### answers -/
inductive Res (α : Type) where
  | ok (a : α)
  | exc (c : Nat)
  | fail
def Res.bind {α β : Type} (r : Res α) (f : α → Res β) : Res β := match r with
  | .ok a => f a
  | .exc c => .exc c
  | .fail => .fail
abbrev EM := Env → Res D
abbrev AM := Env → Res (List D)
abbrev BM := Env → Res Bool

def pXc (P : Pm) (c : Nat) (H : Hp) : Prop := ∀ H', Same P.H0 H' → P.E (.ref (P.xc c)) none H'
def pD (K : Frg) (P : Pm) (O : OS) (H : Hp) (Q : VK) : Res D → Prop
  | .ok v => ∀ x H', Same H H' → Rep K O H' x v → Q x H'
  | .exc c => pXc P c H
  | .fail => False
def pA (K : Frg) (P : Pm) (O : OS) (H : Hp) (Q : List V → Hp → Prop) : Res (List D) → Prop
  | .ok v => ∀ x H', Same H H' → RepAll K O H' x v → Q x H'
  | .exc c => pXc P c H
  | .fail => False
def pB (P : Pm) (H : Hp) (Q : Bool → Hp → Prop) : Res Bool → Prop
  | .ok b => ∀ H', Same H H' → Q b H'
  | .exc c => pXc P c H
  | .fail => False
def tM (K : Frg) (P : Pm) (m : EM) : TE := fun σ H Q => ∃ env O, Good K P O env σ H ∧ pD K P O H Q (m env)
def tMA (K : Frg) (P : Pm) (m : AM) : TA := fun σ H Q => ∃ env O, Good K P O env σ H ∧ pA K P O H Q (m env)
def tMB (K : Frg) (P : Pm) (m : BM) : TT := fun σ H Q => ∃ env O, Good K P O env σ H ∧ pB P H Q (m env)
abbrev RE (X : Cx) (P : Pm) (e : Expr) (m : EM) : Prop := PE X e (tM X.K P m)
abbrev RA (X : Cx) (P : Pm) (es : List Expr) (m : AM) : Prop := PA X es (tMA X.K P m)
abbrev RT (X : Cx) (P : Pm) (e : Expr) (m : BM) : Prop := PT X e (tMB X.K P m)

section
variable {X : Cx} {P : Pm}
theorem pe_imp {e : Expr} {t t' : TE} (h : PE X e t) (k : ∀ σ H Q, t' σ H Q → t σ H Q) : PE X e t' := ⟨fun pins s σ H Q I q => h.run pins s σ H Q I (k σ H Q q)⟩
theorem pt_imp {e : Expr} {t t' : TT} (h : PT X e t) (k : ∀ σ H Q, t' σ H Q → t σ H Q) : PT X e t' := ⟨fun pins s σ H Q I q => h.run pins s σ H Q I (k σ H Q q)⟩
theorem pa_imp {es : List Expr} {t t' : TA} (h : PA X es t) (k : ∀ σ H Q, t' σ H Q → t σ H Q) : PA X es t' := ⟨fun pos pins s σ H Q I q => h.run pos pins s σ H Q I (k σ H Q q)⟩
theorem ps_imp {st : Stmt} {t t' : TS} (h : PS X st t) (k : ∀ D σ H, t' D σ H → t D σ H) : PS X st t' := ⟨fun pins s σ H D I q => h.run pins s σ H D I (k D σ H q)⟩
theorem pss_imp {st : List Stmt} {t t' : TS} (h : PSs X st t) (k : ∀ D σ H, t' D σ H → t D σ H) : PSs X st t' := ⟨fun pins s σ H D I q => h.run pins s σ H D I (k D σ H q)⟩
theorem pXc.same {c : Nat} {H H2 : Hp} (h : pXc P c H) : pXc P c H2 := h
end
end Rf

/-! Rf2: expressions, tests, arguments -/
namespace Rf
open PySem PySem.Spec PyProof.Rows L2

section
variable {X : Cx} {P : Pm} {K : Frg} {O : OS} {env : Env} {σ : L2.St} {H H2 : Hp}
theorem Good.val (g : Good K P O env σ H) {i : Nat} {d : D} (e : eget env i = .val d) : ∃ x, σ[i]? = some (some x) ∧ Rep K O H x d := by
  obtain ⟨fp, h, _, _⟩ := g.ex
  rcases h.at_ i with ⟨q, _⟩ | ⟨o, _, f2, _, e1, _, h3, _⟩
  · rw [e] at q; cases q
  · rw [e] at h3
    cases h3 with
    | val r => exact ⟨_, e1, r⟩
theorem pD.up {Q : VK} {r : Res D} (h : pD K P O H Q r) (s : Same H H2) : pD K P O H2 Q r := by
  cases r with
  | ok v => exact fun x H' s' => h x H' (s.trans s')
  | exc c => exact h
  | fail => exact h
theorem pA.up {Q : List V → Hp → Prop} {r : Res (List D)} (h : pA K P O H Q r) (s : Same H H2) : pA K P O H2 Q r := by
  cases r with
  | ok v => exact fun x H' s' => h x H' (s.trans s')
  | exc c => exact h
  | fail => exact h
theorem pB.up {Q : Bool → Hp → Prop} {r : Res Bool} (h : pB P H Q r) (s : Same H H2) : pB P H2 Q r := by
  cases r with
  | ok v => exact fun H' s' => h H' (s.trans s')
  | exc c => exact h
  | fail => exact h
/-- what follows a part of an expression -/
theorem pD.bindD {m : Res D} {k : D → Res D} {Q R : VK} (h : pD K P O H Q (m.bind k)) (f : ∀ x H' a, m = .ok a → Same H H' → Rep K O H' x a → pD K P O H' Q (k a) → R x H') : pD K P O H R m := by
  cases m with
  | ok a => exact fun x H' s r => f x H' a rfl s r (pD.up h s)
  | exc c => exact h
  | fail => exact h
theorem pD.bindA {m : Res (List D)} {k : List D → Res D} {Q : VK} {R : List V → Hp → Prop} (h : pD K P O H Q (m.bind k)) (f : ∀ x H' a, m = .ok a → Same H H' → RepAll K O H' x a → pD K P O H' Q (k a) → R x H') : pA K P O H R m := by
  cases m with
  | ok a => exact fun x H' s r => f x H' a rfl s r (pD.up h s)
  | exc c => exact h
  | fail => exact h
theorem pD.bindB {m : Res Bool} {k : Bool → Res D} {Q : VK} {R : Bool → Hp → Prop} (h : pD K P O H Q (m.bind k)) (f : ∀ H' a, m = .ok a → Same H H' → pD K P O H' Q (k a) → R a H') : pB P H R m := by
  cases m with
  | ok a => exact fun H' s => f H' a rfl s (pD.up h s)
  | exc c => exact h
  | fail => exact h
theorem pB.bindD {m : Res D} {k : D → Res Bool} {Q : Bool → Hp → Prop} {R : VK} (h : pB P H Q (m.bind k)) (f : ∀ x H' a, m = .ok a → Same H H' → Rep K O H' x a → pB P H' Q (k a) → R x H') : pD K P O H R m := by
  cases m with
  | ok a => exact fun x H' s r => f x H' a rfl s r (pB.up h s)
  | exc c => exact h
  | fail => exact h
theorem pB.bindB {m : Res Bool} {k : Bool → Res Bool} {Q R : Bool → Hp → Prop} (h : pB P H Q (m.bind k)) (f : ∀ H' a, m = .ok a → Same H H' → pB P H' Q (k a) → R a H') : pB P H R m := by
  cases m with
  | ok a => exact fun H' s => f H' a rfl s (pB.up h s)
  | exc c => exact h
  | fail => exact h
theorem pA.bindD {m : Res D} {k : D → Res (List D)} {Q : List V → Hp → Prop} {R : VK} (h : pA K P O H Q (m.bind k)) (f : ∀ x H' a, m = .ok a → Same H H' → Rep K O H' x a → pA K P O H' Q (k a) → R x H') : pD K P O H R m := by
  cases m with
  | ok a => exact fun x H' s r => f x H' a rfl s r (pA.up h s)
  | exc c => exact h
  | fail => exact h
theorem pA.bindA {m : Res (List D)} {k : List D → Res (List D)} {Q R : List V → Hp → Prop} (h : pA K P O H Q (m.bind k)) (f : ∀ x H' a, m = .ok a → Same H H' → RepAll K O H' x a → pA K P O H' Q (k a) → R x H') : pA K P O H R m := by
  cases m with
  | ok a => exact fun x H' s r => f x H' a rfl s r (pA.up h s)
  | exc c => exact h
  | fail => exact h
theorem pD.okD {v : D} {Q : VK} {x : V} (h : pD K P O H Q (.ok v)) (s : Same H H2) (r : Rep K O H2 x v) : Q x H2 := h x H2 s r
end

/-! ### names, constants -/
def mVar (i : Nat) : EM := fun env => match eget env i with
  | .val d => .ok d
  | _ => .fail
def mK (d : D) : EM := fun _ => .ok d
section
variable {X : Cx} {P : Pm} {e a b : Expr} {ma mb : EM} {pos : Pos} {es : List Expr}
theorem re_var {i : Nat} (h : PE X e (tVar i)) : RE X P e (mVar i) := pe_imp h fun σ H Q ⟨env, O, g, q⟩ => by
  unfold mVar at q
  cases z : eget env i with
  | val d =>
    rw [z] at q
    obtain ⟨x, e1, r⟩ := g.val z
    exact ⟨x, e1, q x H (Same.refl _) r⟩
  | emp => rw [z] at q; exact q.elim
  | own _ => rw [z] at q; exact q.elim
theorem re_const {v : V} {d : D} (h : PE X e (tC v)) (r : ∀ O H, Rep X.K O H v d) : RE X P e (mK d) := pe_imp h fun σ H Q ⟨env, O, g, q⟩ => q v H (Same.refl _) (r O H)
theorem re_int {i : Int} {j} : RE X P (.Constant (.int i) j pos) (mK (.int i)) := re_const pe_int fun _ _ => .int i
theorem re_bl {b : Bool} {j} : RE X P (.Constant (.bool b) j pos) (mK (.bool b)) := re_const pe_bl fun _ _ => .bl b
theorem re_non {j} : RE X P (.Constant .none j pos) (mK .none) := re_const pe_non fun _ _ => .non
theorem re_str {x : Str} {j} (h : PyData.strOk x = true) : RE X P (.Constant (.str x) j pos) (mK (.str x)) := re_const pe_str fun _ _ => .str x h

/-! ### operators by a rule over values -/
def ROp (K : Frg) (P : Pm) (r : R2) (f : D → D → Res D) : Prop := ∀ (O : OS) (H : Hp) (x y : V) (a b : D) (Q : VK), (∀ c, O c → H c ≠ none) → Rep K O H x a → Rep K O H y b → pD K P O H Q (f a b) → r x y H Q
def mOp (f : D → D → Res D) (ma mb : EM) : EM := fun env => (ma env).bind fun a => (mb env).bind fun b => f a b
theorem op_run {r : R2} {f : D → D → Res D} (hr : ROp X.K P r f) {σ : L2.St} {H : Hp} {Q : VK} (h : tM X.K P (mOp f ma mb) σ H Q) : tOp r (tM X.K P ma) (tM X.K P mb) σ H Q := by
  obtain ⟨env, O, g, q⟩ := h
  refine ⟨env, O, g, pD.bindD q fun x H1 a _ s1 r1 q1 => ⟨env, O, g.grow s1, pD.bindD q1 fun y H2 b _ s2 r2 q2 => ?_⟩⟩
  exact hr O H2 x y a b Q ((g.grow s1).grow s2).dom (r1.same s2) r2 q2
theorem re_op {op : Operator} {r : R2} {f : D → D → Res D} (ho : OpR X (binaryOp op) r) (hr : ROp X.K P r f) (ha : RE X P a ma) (hb : RE X P b mb) : RE X P (.BinOp a op b pos) (mOp f ma mb) :=
  pe_imp (pe_op ho ha hb) fun _ _ _ => op_run hr
theorem re_cmp {op : CmpOp} {r : R2} {f : D → D → Res D} (ho : OpR X (compareOp op) r) (hr : ROp X.K P r f) (hm : behindInMarks op b = false) (ha : RE X P a ma) (hb : RE X P b mb) : RE X P (.Compare a [op] [b] pos) (mOp f ma mb) :=
  pe_imp (pe_cmpR ho ha hb hm) fun _ _ _ => op_run hr
def asB : D → Res Bool
  | .bool b => .ok b
  | _ => .fail
def bOf (m : EM) : BM := fun env => (m env).bind asB
theorem test_run {t : TE} {m : EM} {σ : L2.St} {H : Hp} {Q : Bool → Hp → Prop} (h : tMB X.K P (bOf m) σ H Q) : tTest (tM X.K P m) σ H Q := by
  obtain ⟨env, O, g, q⟩ := h
  refine ⟨env, O, g, pB.bindD q fun x H1 a _ s1 r1 q1 => ?_⟩
  cases r1 with
  | bl b => exact ⟨b, rfl, q1 H1 (Same.refl _)⟩
  | _ => exact q1.elim
theorem rt_cmp {op : CmpOp} {r : R2} {f : D → D → Res D} (ho : OpR X (compareOp op) r) (hr : ROp X.K P r f) (hm : behindInMarks op b = false) (ha : RE X P a ma) (hb : RE X P b mb) : RT X P (.Compare a [op] [b] pos) (bOf (mOp f ma mb)) :=
  pt_imp (pt_cmpR ho ha hb hm) fun σ H Q h => by
    obtain ⟨env, O, g, q⟩ := test_run (t := tM X.K P ma) h
    exact op_run hr ⟨env, O, g, q⟩
theorem rt_val {m : EM} (h : RE X P e m) (he : ∀ whole, isTrue e X.env whole = (do let v ← whole; standAt e.pos; holding [v] (truthy v)) := by intro _; rfl) : RT X P e (bOf m) :=
  pt_imp (pt_val h he) fun σ H Q q => test_run (t := tM X.K P m) q
/-! ### and, or, not -/
def bAnd (p q : BM) : BM := fun env => (p env).bind fun b => match b with
  | true => q env
  | false => .ok false
def bOr (p q : BM) : BM := fun env => (p env).bind fun b => match b with
  | true => .ok true
  | false => q env
def bNot (p : BM) : BM := fun env => (p env).bind fun b => .ok (!b)
variable {p q : BM} {rest : List Expr}
abbrev RW (X : Cx) (P : Pm) (e : Expr) (m : BM) : Prop := PW X e (tMB X.K P m)
theorem pw_imp {e : Expr} {t t' : TT} (h : PW X e t) (k : ∀ σ H Q, t' σ H Q → t σ H Q) : PW X e t' := ⟨fun w pins s σ H Q I q => h.run w pins s σ H Q I (k σ H Q q)⟩
theorem rw_and1 (ha : RT X P a p) : RW X P (.BoolOp .And [a] pos) p := pw_and1 ha
theorem rw_or1 (ha : RT X P a p) : RW X P (.BoolOp .Or [a] pos) p := pw_or1 ha
theorem rw_and (ha : RT X P a p) (hb : RW X P (.BoolOp .And (b :: rest) pos) q) : RW X P (.BoolOp .And (a :: b :: rest) pos) (bAnd p q) := pw_imp (pw_and ha hb) fun σ H Q ⟨env, O, g, h⟩ => by
  refine ⟨env, O, g, pB.bindB h fun H1 c _ s1 q1 => ?_⟩
  cases c with
  | true => exact iteT ⟨env, O, g.grow s1, q1⟩
  | false => exact iteF (q1 H1 (Same.refl _))
theorem rw_or (ha : RT X P a p) (hb : RW X P (.BoolOp .Or (b :: rest) pos) q) : RW X P (.BoolOp .Or (a :: b :: rest) pos) (bOr p q) := pw_imp (pw_or ha hb) fun σ H Q ⟨env, O, g, h⟩ => by
  refine ⟨env, O, g, pB.bindB h fun H1 c _ s1 q1 => ?_⟩
  cases c with
  | true => exact iteT (q1 H1 (Same.refl _))
  | false => exact iteF ⟨env, O, g.grow s1, q1⟩
theorem rt_not (ha : RT X P a p) : RT X P (.UnaryOp .Not a pos) (bNot p) := pt_imp (pt_not ha) fun σ H Q ⟨env, O, g, h⟩ => ⟨env, O, g, pB.bindB h fun H1 c _ s1 q1 => q1 H1 (Same.refl _)⟩
theorem rt_bop (h : RW X P e p) : RT X P e p := h.pt
/-- as values -/
def mAnd (ma mb : EM) : EM := fun env => (ma env).bind fun a => match a with
  | .bool true => mb env
  | .bool false => .ok (.bool false)
  | _ => .fail
def mOr (ma mb : EM) : EM := fun env => (ma env).bind fun a => match a with
  | .bool true => .ok (.bool true)
  | .bool false => mb env
  | _ => .fail
def mNot (ma : EM) : EM := fun env => (ma env).bind fun a => match a with
  | .bool b => .ok (.bool (!b))
  | _ => .fail
theorem re_one {op} (h : RE X P a ma) : RE X P (.BoolOp op [a] pos) ma := pe_one h
theorem re_and (ha : RE X P a ma) (hb : RE X P (.BoolOp .And (b :: rest) pos) mb) : RE X P (.BoolOp .And (a :: b :: rest) pos) (mAnd ma mb) := pe_imp (pe_and ha hb) fun σ H Q ⟨env, O, g, h⟩ => by
  refine ⟨env, O, g, pD.bindD h fun x H1 c _ s1 r1 q1 => ?_⟩
  cases r1 with
  | bl k =>
    refine ⟨k, rfl, ?_⟩
    cases k with
    | true => exact iteT ⟨env, O, g.grow s1, q1⟩
    | false => exact iteF (q1 _ H1 (Same.refl _) (.bl false))
  | _ => exact q1.elim
theorem re_or (ha : RE X P a ma) (hb : RE X P (.BoolOp .Or (b :: rest) pos) mb) : RE X P (.BoolOp .Or (a :: b :: rest) pos) (mOr ma mb) := pe_imp (pe_or ha hb) fun σ H Q ⟨env, O, g, h⟩ => by
  refine ⟨env, O, g, pD.bindD h fun x H1 c _ s1 r1 q1 => ?_⟩
  cases r1 with
  | bl k =>
    refine ⟨k, rfl, ?_⟩
    cases k with
    | true => exact iteT (q1 _ H1 (Same.refl _) (.bl true))
    | false => exact iteF ⟨env, O, g.grow s1, q1⟩
  | _ => exact q1.elim
theorem re_not (ha : RE X P a ma) : RE X P (.UnaryOp .Not a pos) (mNot ma) := pe_imp (pe_not ha) fun σ H Q ⟨env, O, g, h⟩ => by
  refine ⟨env, O, g, pD.bindD h fun x H1 c _ s1 r1 q1 => ?_⟩
  cases r1 with
  | bl k => exact ⟨k, rfl, q1 _ H1 (Same.refl _) (.bl _)⟩
  | _ => exact q1.elim
def mIf (c : BM) (ma mb : EM) : EM := fun env => (c env).bind fun k => match k with
  | true => ma env
  | false => mb env
theorem re_if {c : Expr} (hc : RT X P c p) (ha : RE X P a ma) (hb : RE X P b mb) : RE X P (.IfExp c a b pos) (mIf p ma mb) := pe_imp (pe_ifExp hc ha hb) fun σ H Q ⟨env, O, g, h⟩ => by
  refine ⟨env, O, g, pD.bindB h fun H1 k _ s1 q1 => ?_⟩
  cases k with
  | true => exact iteT ⟨env, O, g.grow s1, q1⟩
  | false => exact iteF ⟨env, O, g.grow s1, q1⟩
/-! ### unary -/
def mUn (f : D → Res D) (ma : EM) : EM := fun env => (ma env).bind f
def RUn (K : Frg) (P : Pm) (r : V → Hp → VK → Prop) (f : D → Res D) : Prop := ∀ (O : OS) (H : Hp) (x : V) (a : D) (Q : VK), (∀ c, O c → H c ≠ none) → Rep K O H x a → pD K P O H Q (f a) → r x H Q
theorem re_un {op : UnaryOp} {r : V → Hp → VK → Prop} {f : D → Res D} (ho : UnR X (unaryOp op) r) (hr : RUn X.K P r f) (ha : RE X P a ma) : RE X P (.UnaryOp op a pos) (mUn f ma) := pe_imp (pe_un ho ha) fun σ H Q ⟨env, O, g, q⟩ =>
  ⟨env, O, g, pD.bindD q fun x H1 a _ s1 r1 q1 => hr O H1 x a Q (g.grow s1).dom r1 q1⟩
/-! ### arguments, displays -/
def aNil : AM := fun _ => .ok []
def aCons (ma : EM) (mr : AM) : AM := fun env => (ma env).bind fun a => (mr env).bind fun r => .ok (a :: r)
variable {mr : AM}
theorem ra_nil : RA X P [] aNil := pa_imp pa_nil fun σ H Q ⟨env, O, g, q⟩ => q [] H (Same.refl _) .nil
theorem ra_cons (ha : RE X P e ma) (hr : RA X P es mr) (hs : starEach (e :: es) X.env = (false, eval e X.env) :: starEach es X.env := by rfl) : RA X P (e :: es) (aCons ma mr) :=
  pa_imp (pa_cons ha hr hs) fun σ H Q ⟨env, O, g, q⟩ => ⟨env, O, g, pA.bindD q fun x H1 a _ s1 r1 q1 => ⟨env, O, g.grow s1, pA.bindA q1 fun xs H2 as _ s2 r2 q2 => q2 (x :: xs) H2 (Same.refl _) (.cons (r1.same s2) r2)⟩⟩
def okTup (ds : List D) : Res D := match Nat.ble ds.length 16777216 with
  | true => .ok (.tuple ds)
  | false => .fail
def okLst (ds : List D) : Res D := match Nat.ble ds.length 16777216 with
  | true => .ok (.list ds)
  | false => .fail
theorem okTup_of {K : Frg} {O : OS} {H : Hp} {Q : VK} {ds : List D} (h : pD K P O H Q (okTup ds)) : ds.length ≤ sizeLine ∧ pD K P O H Q (.ok (.tuple ds)) := by
  unfold okTup at h
  cases e : Nat.ble ds.length 16777216 with
  | true => rw [e] at h; exact ⟨by rw [sizeLine_eq]; exact Nat.le_of_ble_eq_true e, h⟩
  | false => rw [e] at h; exact h.elim
theorem okLst_of {K : Frg} {O : OS} {H : Hp} {Q : VK} {ds : List D} (h : pD K P O H Q (okLst ds)) : ds.length ≤ sizeLine ∧ pD K P O H Q (.ok (.list ds)) := by
  unfold okLst at h
  cases e : Nat.ble ds.length 16777216 with
  | true => rw [e] at h; exact ⟨by rw [sizeLine_eq]; exact Nat.le_of_ble_eq_true e, h⟩
  | false => rw [e] at h; exact h.elim
/-- a new tuple, a new list -/
theorem fin_tup {K : Frg} {O : OS} {H : Hp} {Q : VK} {xs : List V} {ds : List D} (h : pD K P O H Q (okTup ds)) (dom : ∀ c, O c → H c ≠ none) (r : RepAll K O H xs ds) : xs.length ≤ sizeLine ∧ ∀ p, H p = none → Q (.ref p) (upd H p (.tup xs)) := by
  obtain ⟨l, q⟩ := okTup_of h
  exact ⟨by rw [r.len]; exact l, fun p hp => q _ _ (same_upd _ hp) (Rep.newT hp dom l r)⟩
theorem fin_lst {K : Frg} {O : OS} {H : Hp} {Q : VK} {xs : List V} {ds : List D} (h : pD K P O H Q (okLst ds)) (dom : ∀ c, O c → H c ≠ none) (r : RepAll K O H xs ds) : xs.length ≤ sizeLine ∧ ∀ p, H p = none → Q (.ref p) (upd H p (.lst xs)) := by
  obtain ⟨l, q⟩ := okLst_of h
  exact ⟨by rw [r.len]; exact l, fun p hp => q _ _ (same_upd _ hp) (Rep.newL hp dom l r)⟩
def mTup (m : AM) : EM := fun env => (m env).bind okTup
def mLst (m : AM) : EM := fun env => (m env).bind okLst
theorem re_tup {m : AM} {x1} (h : RA X P es m) : RE X P (.Tuple es x1 pos) (mTup m) := pe_imp (pe_tup h) fun σ H Q ⟨env, O, g, q⟩ =>
  ⟨env, O, g, pD.bindA q fun xs H1 ds _ s1 r1 q1 => fin_tup q1 (g.grow s1).dom r1⟩
theorem re_lst {m : AM} (h : RA X P es m) : RE X P (.List es pos) (mLst m) := pe_imp (pe_lst h) fun σ H Q ⟨env, O, g, q⟩ =>
  ⟨env, O, g, pD.bindA q fun xs H1 ds _ s1 r1 q1 => fin_lst q1 (g.grow s1).dom r1⟩
/-! ### built-ins by a rule over values -/
def RCall (K : Frg) (P : Pm) (r : List V → Hp → VK → Prop) (f : List D → Res D) : Prop := ∀ (O : OS) (H : Hp) (xs : List V) (as : List D) (Q : VK), (∀ c, O c → H c ≠ none) → RepAll K O H xs as → pD K P O H Q (f as) → r xs H Q
def mCall (f : List D → Res D) (m : AM) : EM := fun env => (m env).bind f
theorem call_run {r : List V → Hp → VK → Prop} {f : List D → Res D} {m : AM} (hr : RCall X.K P r f) {σ : L2.St} {H : Hp} {Q : VK} (h : tM X.K P (mCall f m) σ H Q) : tCB r (tMA X.K P m) σ H Q := by
  obtain ⟨env, O, g, q⟩ := h
  exact ⟨env, O, g, pD.bindA q fun xs H1 ds _ s1 r1 q1 => hr O H1 xs ds Q (g.grow s1).dom r1 q1⟩
theorem re_callB {x : Str} {p : Pos} {id : String} {r : List V → Hp → VK → Prop} {f : List D → Res D} {m : AM} (hc : CallR X (.builtin id) r) (hr : RCall X.K P r f) (hg : Gl X x) (hm : X.mg x = none) (hv : bootBuiltins x = some (.builtin id)) (ha : RA X P (e :: es) m)
    (hn : x ≠ "__name__" := by decide) (hdb : (x == ("__debug__" : Str)) = false := by decide) (he : starEach (e :: es) X.env = (false, eval e X.env) :: starEach es X.env := by rfl) (hpl : (backTo pos (starEach es X.env)).any (·.1) = false := by rfl) :
    RE X P (.Call (.Name x p) (e :: es) [] pos) (mCall f m) := pe_imp (pe_callB hc hg hm hv ha hn hdb he hpl) fun _ _ _ => call_run hr
theorem re_callTy {x : Str} {p : Pos} {id : String} {r : List V → Hp → VK → Prop} {f : List D → Res D} {m : AM} (hc : CallR X (.type id) r) (hr : RCall X.K P r f) (hg : Gl X x) (hm : X.mg x = none) (hv : bootBuiltins x = some (.type id)) (ha : RA X P (e :: es) m)
    (hn : x ≠ "__name__" := by decide) (hdb : (x == ("__debug__" : Str)) = false := by decide) (he : starEach (e :: es) X.env = (false, eval e X.env) :: starEach es X.env := by rfl) (hpl : (backTo pos (starEach es X.env)).any (·.1) = false := by rfl) :
    RE X P (.Call (.Name x p) (e :: es) [] pos) (mCall f m) := pe_imp (pe_callTy hc hg hm hv ha hn hdb he hpl) fun _ _ _ => call_run hr
end

/-! ### defs -/
def spM (K : Frg) (xc : Nat → Addr) (n : Nat) (m : List D → Res D) : Sp := fun vs H Q E => ∃ (O : OS) (ds : List D), (∀ a, O a → ∃ xs, H a = some (.lst xs)) ∧ RepAll K O H vs ds ∧ vs.length = n ∧ pD K ⟨E, O, H, xc⟩ O H Q (m ds)
abbrev FnM (P : Program) (w : World) (K : Frg) (mg : Str → Option Value) (base : Heap) (xc : Nat → Addr) (k : Nat) (f : Addr) (fd : FuncData) (ps : List Str) (m : List D → Res D) : Prop := FnOk P w K mg base (L2.CX P w) k f fd ps (spM K xc ps.length m)
section
variable {X : Cx} {P : Pm} {e : Expr} {es : List Expr} {m : AM} {pos p : Pos}
theorem fn_run {xc : Nat → Addr} {n : Nat} {f : List D → Res D} (hx : P.xc = xc) {σ : L2.St} {H : Hp} {Q : VK} (h : tM X.K P (mCall f m) σ H Q) (hl : ∀ env ds, m env = .ok ds → ds.length = n) : tCall (spM X.K xc n f) [] P.E (tMA X.K P m) σ H Q := by
  obtain ⟨env, O, g, q⟩ := h
  refine ⟨env, O, g, pD.bindA q fun xs H1 ds e1 s1 r1 q1 => ?_⟩
  have g1 := g.grow s1
  rw [List.append_nil]
  refine ⟨O, ds, g1.lst, r1, by rw [r1.len]; exact hl env ds e1, ?_⟩
  subst hx
  cases z : f ds with
  | ok v => rw [z] at q1; exact q1
  | exc c => rw [z] at q1; exact fun H' s => q1 H' (g1.same.trans s)
  | fail => rw [z] at q1; exact q1
theorem re_call {CXt : CXT} {k : Nat} {f : Addr} {fd : FuncData} {ps : List Str} {x : Str} {xc : Nat → Addr} {fm : List D → Res D} (F : FnOk X.prog X.w X.K X.mg X.base CXt k f fd ps (spM X.K xc ps.length fm)) (hx : P.xc = xc) (hr : Room k X.A) (hg : Gl X x) (hm : X.mg x = some (.ref f)) (hk : PySem.W.keepIn X.K (.ref f) = true) (hb : Binds X.K fd ps [])
    (hp : Passes CXt X P.E) (ha : RA X P (e :: es) m) (hl : ∀ env ds, m env = .ok ds → ds.length = ps.length) (hdb : (x == ("__debug__" : Str)) = false := by decide) (he : starEach (e :: es) X.env = (false, eval e X.env) :: starEach es X.env := by rfl) (hpl : (backTo pos (starEach es X.env)).any (·.1) = false := by rfl) :
    RE X P (.Call (.Name x p) (e :: es) [] pos) (mCall fm m) := pe_imp (pe_call F hr hg hm hk hb .nil hp ha hdb he hpl) fun _ _ _ h => fn_run hx h hl
theorem aNil_len : ∀ env ds, aNil env = .ok ds → ds.length = 0 := fun _ _ e => by cases e; rfl
theorem aCons_len {ma : EM} {mr : AM} {n : Nat} (h : ∀ env ds, mr env = .ok ds → ds.length = n) : ∀ env ds, aCons ma mr env = .ok ds → ds.length = n + 1 := fun env ds e => by
  unfold aCons at e
  cases e1 : ma env with
  | ok a =>
    rw [e1] at e
    cases e2 : mr env with
    | ok r =>
      have e' : ((mr env).bind fun r => Res.ok (a :: r)) = .ok ds := e
      rw [e2] at e'
      cases e'
      rw [List.length_cons, h env r e2]
    | exc c =>
      have e' : ((mr env).bind fun r => Res.ok (a :: r)) = .ok ds := e
      rw [e2] at e'; cases e'
    | fail =>
      have e' : ((mr env).bind fun r => Res.ok (a :: r)) = .ok ds := e
      rw [e2] at e'; cases e'
  | exc c => rw [e1] at e; cases e
  | fail => rw [e1] at e; cases e
end
end Rf

/-! Rf3: the operators and built-ins by values -/
namespace Rf
open PySem PySem.Spec PyProof.Rows L2

/-! ### ints -/
/-- an int, its digits reckoned -/
def okI (i : Int) : Res D := match i with
  | .ofNat n => (match n + 1 with
    | 0 => .fail
    | m + 1 => .ok (.int (.ofNat m)))
  | .negSucc n => (match n + 1 with
    | 0 => .fail
    | m + 1 => .ok (.int (.negSucc m)))
theorem okI_eq (i : Int) : okI i = .ok (.int i) := by cases i <;> rfl
def fI (f : Int → Int → Res D) : D → D → Res D
  | .int i, .int j => f i j
  | _, _ => .fail
def fAddI : D → D → Res D := fI fun i j => okI (i + j)
def fSub : D → D → Res D := fI fun i j => okI (i - j)
def fMulI : D → D → Res D := fI fun i j => match Nat.blt i.natAbs 18446744073709551616 with
  | true => okI (i * j)
  | false => match Nat.blt j.natAbs 18446744073709551616 with
    | true => okI (i * j)
    | false => .fail
def fDiv : D → D → Res D := fI fun i j => match j with
  | .ofNat (n + 1) => (match Nat.blt (n + 1) (2 ^ 8999) with
    | true => okI (i / j)
    | false => .fail)
  | _ => .fail
def fMod : D → D → Res D := fI fun i j => match j with
  | .ofNat (n + 1) => okI (i % j)
  | _ => .fail
def okB (b : Bool) : Res D := .ok (.bool b)
def fLt : D → D → Res D := fI fun i j => okB (decide (i < j))
def fLe : D → D → Res D := fI fun i j => okB (decide (i ≤ j))
def fGt : D → D → Res D := fI fun i j => okB (decide (j < i))
def fGe : D → D → Res D := fI fun i j => okB (decide (j ≤ i))

section
variable {X : Cx} {P : Pm} {K : Frg}
theorem blt64 {i : Int} (h : Nat.blt i.natAbs 18446744073709551616 = true) : -(2 ^ 64) < i ∧ i < 2 ^ 64 := by
  have h' : i.natAbs < 18446744073709551616 := Nat.le_of_ble_eq_true h
  omega
theorem r_i0 {g : Int → Int → V} {f : Int → Int → Res D} (hf : ∀ (O : OS) (H : Hp) (Q : VK) (i j : Int), pD K P O H Q (f i j) → Q (g i j) H) : ROp K P (rI0 g) (fI f) := fun O H x y a b Q _ rx ry q => by
  cases rx with
  | int i =>
    cases ry with
    | int j => exact ⟨i, j, rfl, rfl, hf O H Q i j q⟩
    | _ => exact q.elim
  | _ => cases ry <;> exact q.elim
theorem r_iC {C : Int → Int → Prop} {g : Int → Int → V} {f : Int → Int → Res D} (hf : ∀ (O : OS) (H : Hp) (Q : VK) (i j : Int), pD K P O H Q (f i j) → C i j ∧ Q (g i j) H) : ROp K P (rI C g) (fI f) := fun O H x y a b Q _ rx ry q => by
  cases rx with
  | int i =>
    cases ry with
    | int j => exact ⟨i, j, rfl, rfl, (hf O H Q i j q).1, (hf O H Q i j q).2⟩
    | _ => exact q.elim
  | _ => cases ry <;> exact q.elim
theorem fin_i {O : OS} {H : Hp} {Q : VK} {i : Int} (q : pD K P O H Q (okI i)) : Q (.int i) H := by
  rw [okI_eq] at q
  exact q _ H (Same.refl _) (.int i)
theorem fin_b {O : OS} {H : Hp} {Q : VK} {b : Bool} (q : pD K P O H Q (okB b)) : Q (.bl b) H := q _ H (Same.refl _) (.bl b)
theorem r_add : ROp K P (rI0 fun i j => .int (i + j)) fAddI := r_i0 fun _ _ _ _ _ q => fin_i q
theorem r_sub : ROp K P (rI0 fun i j => .int (i - j)) fSub := r_i0 fun _ _ _ _ _ q => fin_i q
theorem r_mul : ROp K P (rI CMul fun i j => .int (i * j)) fMulI := r_iC fun O H Q i j q => by
  cases e : Nat.blt i.natAbs 18446744073709551616 with
  | true =>
    simp only [e] at q
    exact ⟨.inl (blt64 e), fin_i q⟩
  | false =>
    simp only [e] at q
    cases e2 : Nat.blt j.natAbs 18446744073709551616 with
    | true =>
      simp only [e2] at q
      exact ⟨.inr (blt64 e2), fin_i q⟩
    | false =>
      simp only [e2] at q
      exact q.elim
theorem r_div : ROp K P (rI CDivW fun i j => .int (i / j)) fDiv := r_iC fun O H Q i j q => by
  cases j with
  | ofNat n =>
    cases n with
    | zero => exact q.elim
    | succ n =>
      cases e : Nat.blt (n + 1) (2 ^ 8999) with
      | true =>
        simp only [e] at q
        refine ⟨⟨by show (0 : Int) < ((n + 1 : Nat) : Int); omega, ?_⟩, fin_i q⟩
        have h1 : n + 1 < 2 ^ 8999 := Nat.le_of_ble_eq_true e
        have h2 : (n + 1).log2 < 8999 := (Nat.log2_lt (by omega)).mpr h1
        show (n + 1).log2 < 9000
        omega
      | false =>
        simp only [e] at q
        exact q.elim
  | negSucc n => exact q.elim
theorem r_mod : ROp K P (rI (fun _ j => 0 < j) fun i j => .int (i % j)) fMod := r_iC fun O H Q i j q => by
  cases j with
  | ofNat n =>
    cases n with
    | zero => exact q.elim
    | succ n => exact ⟨by show (0 : Int) < ((n + 1 : Nat) : Int); omega, fin_i q⟩
  | negSucc n => exact q.elim
theorem r_lt : ROp K P (rI0 fun i j => .bl (decide (i < j))) fLt := r_i0 fun _ _ _ _ _ q => fin_b q
theorem r_le : ROp K P (rI0 fun i j => .bl (decide (i ≤ j))) fLe := r_i0 fun _ _ _ _ _ q => fin_b q
theorem r_gt : ROp K P (rI0 fun i j => .bl (decide (j < i))) fGt := r_i0 fun _ _ _ _ _ q => fin_b q
theorem r_ge : ROp K P (rI0 fun i j => .bl (decide (j ≤ i))) fGe := r_i0 fun _ _ _ _ _ q => fin_b q
def fNeg : D → Res D
  | .int i => okI (-i)
  | _ => .fail
theorem r_neg : RUn K P (rU fun i => .int (-i)) fNeg := fun O H x a Q _ rx q => by
  cases rx with
  | int i => exact ⟨i, rfl, fin_i q⟩
  | _ => exact q.elim
end

/-! ### None -/
def isNon : D → Bool
  | .none => true
  | _ => false
def fIs : D → D → Res D
  | a, .none => okB (isNon a)
  | _, _ => .fail
def fIsNot : D → D → Res D
  | a, .none => okB (!isNon a)
  | _, _ => .fail
theorem Rep.non_iff {K : Frg} {O : OS} {H : Hp} {x : V} {a : D} (r : Rep K O H x a) : decide (x = .non) = isNon a := by
  cases r <;> rfl
section
variable {X : Cx} {P : Pm} {K : Frg}
theorem r_is : ROp K P (fun x y H Q => y = .non ∧ Q (.bl (decide (x = .non))) H) fIs := fun O H x y a b Q _ rx ry q => by
  cases ry with
  | non =>
    refine ⟨rfl, ?_⟩
    rw [rx.non_iff]
    exact fin_b (K := K) (P := P) (O := O) q
  | _ => cases a <;> exact q.elim
theorem r_isNot : ROp K P (fun x y H Q => y = .non ∧ Q (.bl (!decide (x = .non))) H) fIsNot := fun O H x y a b Q _ rx ry q => by
  cases ry with
  | non =>
    refine ⟨rfl, ?_⟩
    rw [rx.non_iff]
    exact fin_b (K := K) (P := P) (O := O) q
  | _ => cases a <;> exact q.elim
end

/-! ### equality, in -/
/-- at most so deep -/
def dle : Nat → D → Bool
  | _, .none => true
  | _, .bool _ => true
  | _, .int _ => true
  | _, .str _ => true
  | 0, .list _ => false
  | 0, .tuple _ => false
  | n + 1, .list xs => xs.all (dle n)
  | n + 1, .tuple xs => xs.all (dle n)
  | _, .dict _ => false
theorem depthAll_le {n : Nat} : ∀ {xs : List D}, (∀ x ∈ xs, x.depth ≤ n) → PyData.depthAll xs ≤ n
  | [], _ => Nat.zero_le _
  | x :: xs, h => Nat.max_le.mpr ⟨h x List.mem_cons_self, depthAll_le fun y hy => h y (List.mem_cons_of_mem _ hy)⟩
theorem dle_depth : ∀ (n : Nat) (d : D), dle n d = true → d.depth ≤ n
  | _, .none, _ => Nat.zero_le _
  | _, .bool _, _ => Nat.zero_le _
  | _, .int _, _ => Nat.zero_le _
  | _, .str _, _ => Nat.zero_le _
  | 0, .list _, h => by unfold dle at h; cases h
  | 0, .tuple _, h => by unfold dle at h; cases h
  | n + 1, .list xs, h => by
    unfold dle at h
    exact Nat.succ_le_succ (depthAll_le fun x hx => dle_depth n x (List.all_eq_true.mp h x hx))
  | n + 1, .tuple xs, h => by
    unfold dle at h
    exact Nat.succ_le_succ (depthAll_le fun x hx => dle_depth n x (List.all_eq_true.mp h x hx))
  | 0, .dict _, h => by unfold dle at h; cases h
  | n + 1, .dict _, h => by unfold dle at h; cases h
def dmin (a b : D) : Bool := match dle 16 b with
  | true => true
  | false => dle 16 a
theorem dmin_le {a b : D} (h : dmin a b = true) : min a.depth b.depth ≤ 16 := by
  unfold dmin at h
  cases e : dle 16 b with
  | true => exact Nat.le_trans (Nat.min_le_right _ _) (dle_depth _ _ e)
  | false =>
    rw [e] at h
    exact Nat.le_trans (Nat.min_le_left _ _) (dle_depth _ _ h)
def fEq (a b : D) : Res D := match dmin a b with
  | true => okB (PyData.eqv a b)
  | false => .fail
def fNe (a b : D) : Res D := match dmin a b with
  | true => okB (!PyData.eqv a b)
  | false => .fail
def rEqC (K : Frg) : R2 := fun x y H Q => ∃ d e, Dp K H x d ∧ Dp K H y e ∧ d.canLay0 = true ∧ e.canLay0 = true ∧ min d.depth e.depth ≤ 16 ∧ Q (.bl (PyData.eqv d e)) H
def rNeC (K : Frg) : R2 := fun x y H Q => ∃ d e, Dp K H x d ∧ Dp K H y e ∧ d.canLay0 = true ∧ e.canLay0 = true ∧ min d.depth e.depth ≤ 16 ∧ Q (.bl (!PyData.eqv d e)) H
def memD (x : D) (ys : List D) : Bool := ys.any fun z => PyData.eqv z x
def fIn (neg : Bool) (a : D) : D → Res D
  | .list ys => (match dle 16 a with
    | true => okB (if neg then !memD a ys else memD a ys)
    | false => .fail)
  | .tuple ys => (match dle 16 a with
    | true => okB (if neg then !memD a ys else memD a ys)
    | false => .fail)
  | _ => .fail
def rInC (K : Frg) (neg : Bool) : R2 := fun x y H Q => ∃ d ds, Dp K H x d ∧ (Dp K H y (.list ds) ∨ Dp K H y (.tuple ds)) ∧ d.canLay0 = true ∧ PyData.canLayAll0 ds = true ∧ d.depth ≤ 16 ∧ Q (.bl (if neg then !memD d ds else memD d ds)) H
section
variable {X : Cx} {P : Pm} {K : Frg}
theorem op_eqC (hu : X.A.units + 64 < cLine) : OpR X (compareOp .Eq) (rEqC X.K) := by
  intro pins s σ H x y v u Q I rx ry h
  obtain ⟨d, e, hd, he, sd, se, m, q⟩ := h
  obtain ⟨as, r1⟩ := Dp.reads I d x v hd rx
  obtain ⟨bs, r2⟩ := Dp.reads I e y u he ry
  exact SeqAt.compareEq_reads r1 r2 sd se (by omega) ⟨.bl _, H, I, rfl, q⟩
theorem op_neC (hu : X.A.units + 64 < cLine) : OpR X (compareOp .NotEq) (rNeC X.K) := by
  intro pins s σ H x y v u Q I rx ry h
  obtain ⟨d, e, hd, he, sd, se, m, q⟩ := h
  obtain ⟨as, r1⟩ := Dp.reads I d x v hd rx
  obtain ⟨bs, r2⟩ := Dp.reads I e y u he ry
  exact SeqAt.compareNe_reads r1 r2 sd se (by omega) ⟨.bl _, H, I, rfl, q⟩
theorem r_eq : ROp K P (rEqC K) fEq := fun O H x y a b Q _ rx ry q => by
  unfold fEq at q
  cases e : dmin a b with
  | true =>
    rw [e] at q
    exact ⟨a, b, rx.dp, ry.dp, rx.canLay, ry.canLay, dmin_le e, fin_b (K := K) (P := P) (O := O) q⟩
  | false => rw [e] at q; exact q.elim
theorem r_ne : ROp K P (rNeC K) fNe := fun O H x y a b Q _ rx ry q => by
  unfold fNe at q
  cases e : dmin a b with
  | true =>
    rw [e] at q
    exact ⟨a, b, rx.dp, ry.dp, rx.canLay, ry.canLay, dmin_le e, fin_b (K := K) (P := P) (O := O) q⟩
  | false => rw [e] at q; exact q.elim
theorem op_inC (hu : X.A.units + 64 < cLine) : OpR X (compareOp .In) (rInC X.K false) := by
  intro pins s σ H x y v u Q I rx ry h
  obtain ⟨d, ds, hd, he, sd, se, m, q⟩ := h
  obtain ⟨as, r1⟩ := Dp.reads I d x v hd rx
  have hm : min (PyData.depthAll ds) d.depth ≤ 16 := Nat.le_trans (Nat.min_le_right _ _) m
  rcases he with he | he
  · obtain ⟨bs, r2⟩ := Dp.reads I _ y u he ry
    exact SeqAt.in_list_reads r2 r1 se sd (by omega) ⟨.bl _, H, I, rfl, q⟩
  · obtain ⟨bs, r2⟩ := Dp.reads I _ y u he ry
    exact SeqAt.in_tuple_reads r2 r1 se sd (by omega) ⟨.bl _, H, I, rfl, q⟩
theorem op_notInC (hu : X.A.units + 64 < cLine) : OpR X (compareOp .NotIn) (rInC X.K true) := by
  intro pins s σ H x y v u Q I rx ry h
  obtain ⟨d, ds, hd, he, sd, se, m, q⟩ := h
  obtain ⟨as, r1⟩ := Dp.reads I d x v hd rx
  have hm : min (PyData.depthAll ds) d.depth ≤ 16 := Nat.le_trans (Nat.min_le_right _ _) m
  rcases he with he | he
  · obtain ⟨bs, r2⟩ := Dp.reads I _ y u he ry
    exact SeqAt.notIn_list_reads r2 r1 se sd (by omega) ⟨.bl _, H, I, rfl, q⟩
  · obtain ⟨bs, r2⟩ := Dp.reads I _ y u he ry
    exact SeqAt.notIn_tuple_reads r2 r1 se sd (by omega) ⟨.bl _, H, I, rfl, q⟩
theorem r_in (neg : Bool) : ROp K P (rInC K neg) (fIn neg) := fun O H x y a b Q _ rx ry q => by
  cases ry with
  | lst h1 l h2 =>
    unfold fIn at q
    cases e : dle 16 a with
    | true =>
      rw [e] at q
      exact ⟨a, _, rx.dp, .inl (.lst h1.seq h2.dp), rx.canLay, h2.canLay, dle_depth _ _ e, fin_b (K := K) (P := P) (O := O) q⟩
    | false => rw [e] at q; exact q.elim
  | tup h1 l h2 =>
    unfold fIn at q
    cases e : dle 16 a with
    | true =>
      rw [e] at q
      exact ⟨a, _, rx.dp, .inr (.tup h1.seq h2.dp), rx.canLay, h2.canLay, dle_depth _ _ e, fin_b (K := K) (P := P) (O := O) q⟩
    | false => rw [e] at q; exact q.elim
  | _ => exact q.elim
end

/-! ### subscripts -/
def getI (ds : List D) : Int → Option D
  | .ofNat n => ds[n]?
  | .negSucc n => match Nat.blt n ds.length with
    | true => ds[ds.length - (n + 1)]?
    | false => none
def optD : Option D → Res D
  | some d => .ok d
  | none => .fail
def fIx : D → D → Res D
  | .list ds, .int i => optD (getI ds i)
  | .tuple ds, .int i => optD (getI ds i)
  | _, _ => .fail
theorem getI_at {K : Frg} {O : OS} {H : Hp} {xs : List V} {ds : List D} {i : Int} {d : D} (r : RepAll K O H xs ds) (h : getI ds i = some d) : ∃ v, atI xs i = some v ∧ Rep K O H v d := by
  cases i with
  | ofNat n =>
    obtain ⟨v, e, q⟩ := r.get (i := n) h
    exact ⟨v, atI_nat e, q⟩
  | negSucc n =>
    have h' : (match Nat.blt n ds.length with | true => ds[ds.length - (n + 1)]? | false => none) = some d := h
    cases e : Nat.blt n ds.length with
    | true =>
      rw [e] at h'
      have hn : n < ds.length := Nat.le_of_ble_eq_true e
      obtain ⟨v, e1, q⟩ := r.get (i := ds.length - (n + 1)) h'
      refine ⟨v, ?_, q⟩
      unfold atI ixN
      have hl := r.len
      rw [if_neg (by omega), if_pos (by omega)]
      have e2 : (Int.negSucc n + (xs.length : Int)).toNat = ds.length - (n + 1) := by omega
      show xs[(Int.negSucc n + (xs.length : Int)).toNat]? = some v
      rw [e2]
      exact e1
    | false => rw [e] at h'; cases h'
section
variable {X : Cx} {P : Pm} {K : Frg}
theorem r_ix : ROp K P (rIx K) fIx := fun O H x y a b Q _ rx ry q => by
  cases rx with
  | @lst _ xs ds h1 l h2 =>
    cases ry with
    | int i =>
      have q2 : pD K P O H Q (optD (getI ds i)) := q
      cases e : getI ds i with
      | some d =>
        rw [e] at q2
        obtain ⟨v, e1, r1⟩ := getI_at h2 e
        exact .inl ⟨_, _, i, v, rfl, rfl, h1.seq, e1, q2 v H (Same.refl _) r1⟩
      | none => rw [e] at q2; exact q2.elim
    | _ => exact q.elim
  | @tup _ xs ds h1 l h2 =>
    cases ry with
    | int i =>
      have q2 : pD K P O H Q (optD (getI ds i)) := q
      cases e : getI ds i with
      | some d =>
        rw [e] at q2
        obtain ⟨v, e1, r1⟩ := getI_at h2 e
        exact .inr (.inl ⟨_, _, i, v, rfl, rfl, h1.seq, e1, q2 v H (Same.refl _) r1⟩)
      | none => rw [e] at q2; exact q2.elim
    | _ => exact q.elim
  | _ => cases ry <;> exact q.elim
theorem re_ix {a b : Expr} {ma mb : EM} {pos : Pos} (ha : RE X P a ma) (hb : RE X P b mb) (hs : PlainIx b) : RE X P (.Subscript a b pos) (mOp fIx ma mb) := pe_imp (pe_ix ix_seq ha hb hs) fun _ _ _ => op_run r_ix
end

/-! ### slices -/
def clipI (n : Nat) (d : Nat) : Option Int → Nat
  | none => d
  | some (.ofNat k) => Nat.min k n
  | some (.negSucc k) => n - (k + 1)
theorem clipI_eq (n d : Nat) (o : Option Int) : clipI n d o = HT.sIx n d o := by
  cases o with
  | none => rfl
  | some v =>
    cases v with
    | ofNat k =>
      show min k n = HT.sIx n d (some (k : Int))
      rw [HT.sIx_nat]
    | negSucc k =>
      show n - (k + 1) = (if Int.negSucc k < 0 then (Int.negSucc k + (n : Int)).toNat else _)
      rw [if_pos (by omega)]
      omega
def cutD (ds : List D) (lo hi : Option Int) : List D := (ds.drop (clipI ds.length 0 lo)).take (clipI ds.length ds.length hi - clipI ds.length 0 lo)
theorem cut_rep {K : Frg} {O : OS} {H : Hp} {xs : List V} {ds : List D} {lo hi : Option Int} (r : RepAll K O H xs ds) : RepAll K O H (cutV xs lo hi) (cutD ds lo hi) := by
  unfold cutV cutD
  rw [clipI_eq, clipI_eq, r.len]
  exact (r.drop _).take _
theorem cutD_len (ds : List D) (lo hi : Option Int) : (cutD ds lo hi).length ≤ ds.length := by
  unfold cutD
  rw [List.length_take, List.length_drop]
  omega
abbrev OM := Env → Res (Option Int)
def oNone : OM := fun _ => .ok none
def oSome (m : EM) : OM := fun env => (m env).bind fun d => match d with
  | .int i => .ok (some i)
  | _ => .fail
/-- x[lo:hi]; of a tuple not the whole -/
def fCut (lo hi : Option Int) : D → Res D
  | .list ds => .ok (.list (cutD ds lo hi))
  | .tuple ds => (match Nat.beq (clipI ds.length 0 lo) 0 && Nat.beq (clipI ds.length ds.length hi) ds.length with
    | true => .fail
    | false => .ok (.tuple (cutD ds lo hi)))
  | _ => .fail
def mCut (lo hi : OM) (m : EM) : EM := fun env => (m env).bind fun a => (lo env).bind fun l => (hi env).bind fun h => fCut l h a
def pO (P : Pm) (H : Hp) (Q : Option Int → Hp → Prop) : Res (Option Int) → Prop
  | .ok b => ∀ H', Same H H' → Q b H'
  | .exc c => pXc P c H
  | .fail => False
def tMO (K : Frg) (P : Pm) (m : OM) : TO := fun σ H Q => ∃ env O, Good K P O env σ H ∧ pO P H Q (m env)
section
variable {X : Cx} {P : Pm} {K : Frg}
abbrev RO (X : Cx) (P : Pm) (e : Option Expr) (m : OM) : Prop := PO X e (tMO X.K P m)
theorem po_imp {e : Option Expr} {t t' : TO} (h : PO X e t) (k : ∀ σ H Q, t' σ H Q → t σ H Q) : PO X e t' := ⟨fun pins s σ H Q I q => h.run pins s σ H Q I (k σ H Q q)⟩
theorem ro_none : RO X P none oNone := po_imp po_none fun σ H Q ⟨env, O, g, q⟩ => q H (Same.refl _)
theorem pO.up {H H2 : Hp} {Q : Option Int → Hp → Prop} {r : Res (Option Int)} (h : pO P H Q r) (s : Same H H2) : pO P H2 Q r := by
  cases r with
  | ok v => exact fun H' s' => h H' (s.trans s')
  | exc c => exact h
  | fail => exact h
theorem ro_some {e : Expr} {m : EM} (h : RE X P e m) : RO X P (some e) (oSome m) := po_imp (po_some h) fun σ H Q ⟨env, O, g, q⟩ => by
  refine ⟨env, O, g, ?_⟩
  unfold oSome at q
  cases e : m env with
  | ok a =>
    rw [e] at q
    intro x H' s r
    cases r with
    | int i => exact ⟨i, rfl, q H' s⟩
    | _ => exact q.elim
  | exc c => rw [e] at q; exact q
  | fail => rw [e] at q; exact q.elim
theorem pD.bindO {O : OS} {H : Hp} {m : Res (Option Int)} {k : Option Int → Res D} {Q : VK} {R : Option Int → Hp → Prop} (h : pD K P O H Q (m.bind k)) (f : ∀ H' a, m = .ok a → Same H H' → pD K P O H' Q (k a) → R a H') : pO P H R m := by
  cases m with
  | ok a => exact fun H' s => f H' a rfl s (pD.up h s)
  | exc c => exact h
  | fail => exact h
theorem sl_any : SlR X (fun x lo hi H Q => rSlL X.K x lo hi H Q ∨ rSlT X.K x lo hi H Q) := sl_list.or sl_tup
theorem re_slice {e : Expr} {lo hi : Option Expr} {m : EM} {ml mh : OM} {pos p2 : Pos} (he : RE X P e m) (hl : RO X P lo ml) (hh : RO X P hi mh) : RE X P (.Subscript e (.Slice lo hi none p2) pos) (mCut ml mh m) :=
  pe_imp (pe_slice sl_any he hl hh) fun σ H Q ⟨env, O, g, q⟩ => by
    refine ⟨env, O, g, pD.bindD q fun x H1 a _ s1 r1 q1 => ⟨env, O, g.grow s1, pD.bindO q1 fun H2 l _ s2 q2 => ⟨env, O, (g.grow s1).grow s2, pD.bindO q2 fun H3 h _ s3 q3 => ?_⟩⟩⟩
    have g3 := ((g.grow s1).grow s2).grow s3
    have r3 := (r1.same s2).same s3
    cases r3 with
    | lst h1 ll h2 =>
      have c := cut_rep (lo := l) (hi := h) h2
      exact .inl ⟨_, _, rfl, h1.seq, fun p hp => q3 _ _ (same_upd _ hp) (Rep.newL hp g3.dom (Nat.le_trans (cutD_len _ _ _) ll) c)⟩
    | @tup _ xs ds h1 ll h2 =>
      have c := cut_rep (lo := l) (hi := h) h2
      have q4 : pD X.K P O H3 Q (match Nat.beq (clipI ds.length 0 l) 0 && Nat.beq (clipI ds.length ds.length h) ds.length with | true => .fail | false => .ok (.tuple (cutD ds l h))) := q3
      cases ee : Nat.beq (clipI ds.length 0 l) 0 && Nat.beq (clipI ds.length ds.length h) ds.length with
      | true => rw [ee] at q4; exact q4.elim
      | false =>
        rw [ee] at q4
        refine .inr ⟨_, _, rfl, h1.seq, fun z => ?_, fun p hp => q4 _ _ (same_upd _ hp) (Rep.newT hp g3.dom (Nat.le_trans (cutD_len _ _ _) ll) c)⟩
        rw [clipI_eq, clipI_eq, ← h2.len] at ee
        rw [z.1, z.2, Nat.beq_refl, Nat.beq_refl] at ee
        cases ee
    | _ => exact q3.elim
end

/-! ### joining -/
def fAdd : D → D → Res D
  | .int i, .int j => okI (i + j)
  | .list a, .list b => okLst (a ++ b)
  | .tuple (a :: as), .tuple b => okTup (a :: as ++ b)
  | _, _ => .fail
section
variable {X : Cx} {P : Pm} {K : Frg}
theorem op_addC : OpR X (binaryOp .Add) (fun x y H Q => rI0 (fun i j => .int (i + j)) x y H Q ∨ (rCat x y H Q ∨ rCatT X.K x y H Q)) := op_add.or (op_cat.or op_catT)
theorem r_addC : ROp K P (fun x y H Q => rI0 (fun i j => .int (i + j)) x y H Q ∨ (rCat x y H Q ∨ rCatT K x y H Q)) fAdd := fun O H x y a b Q dom rx ry q => by
  cases rx with
  | int i =>
    cases ry with
    | int j => exact .inl ⟨i, j, rfl, rfl, fin_i (K := K) (P := P) (O := O) q⟩
    | _ => exact q.elim
  | lst h1 l1 h2 =>
    cases ry with
    | lst k1 l2 k2 =>
      obtain ⟨z, f⟩ := fin_lst q dom (h2.append k2)
      exact .inr (.inl ⟨_, _, _, _, rfl, rfl, h1.1, k1.1, by rw [← List.length_append]; exact z, f⟩)
    | _ => exact q.elim
  | @tup t xs ds h1 l1 h2 =>
    cases ds with
    | nil => cases ry <;> exact q.elim
    | cons d ds =>
      cases ry with
      | @tup u ys es k1 l2 k2 =>
        obtain ⟨z, f⟩ := fin_tup q dom (h2.append k2)
        refine .inr (.inr ⟨_, _, xs, ys, rfl, rfl, h1.seq, k1.seq, ?_, by rw [← List.length_append]; exact z, fun e => ?_, fun _ => f⟩)
        · intro e
          have hl := h2.len
          rw [e] at hl
          cases hl
        · subst e
          have e2 : es = [] := by
            have hl := k2.len
            cases es with
            | nil => rfl
            | cons _ _ => cases hl
          subst e2
          obtain ⟨_, q1⟩ := okTup_of q
          refine q1 _ H (Same.refl _) ?_
          rw [List.append_nil]
          exact .tup h1 l1 h2
      | _ => exact q.elim
  | _ => cases ry <;> exact q.elim
/-- [..] * k -/
def repD (ds : List D) : Nat → List D
  | 0 => []
  | n + 1 => ds ++ repD ds n
theorem rep_rep {O : OS} {H : Hp} {xs : List V} {ds : List D} (r : RepAll K O H xs ds) : ∀ n : Nat, RepAll K O H (List.replicate n xs).flatten (repD ds n)
  | 0 => .nil
  | n + 1 => by
    rw [List.replicate_succ, List.flatten_cons]
    exact r.append (rep_rep r n)
def fMul : D → D → Res D
  | .int i, .int j => fMulI (.int i) (.int j)
  | .list a, .int (.ofNat n) => (match Nat.ble n 16777216 with
    | true => okLst (repD a n)
    | false => .fail)
  | _, _ => .fail
theorem op_mulC : OpR X (binaryOp .Mult) (fun x y H Q => rI CMul (fun i j => .int (i * j)) x y H Q ∨ rRep x y H Q) := op_mul.or op_rep
theorem r_mulC : ROp K P (fun x y H Q => rI CMul (fun i j => .int (i * j)) x y H Q ∨ rRep x y H Q) fMul := fun O H x y a b Q dom rx ry q => by
  cases rx with
  | int i =>
    cases ry with
    | int j => exact .inl (r_mul (K := K) (P := P) O H _ _ _ _ Q dom (.int i) (.int j) q)
    | _ => exact q.elim
  | @lst t xs ds h1 l1 h2 =>
    cases ry with
    | int j =>
      cases j with
      | ofNat n =>
        have q2 : pD K P O H Q (match Nat.ble n 16777216 with | true => okLst (repD ds n) | false => .fail) := q
        cases e : Nat.ble n 16777216 with
        | true =>
          rw [e] at q2
          have hn : n ≤ 16777216 := Nat.le_of_ble_eq_true e
          have rr := rep_rep h2 n
          obtain ⟨z, f⟩ := fin_lst q2 dom rr
          have hz : xs.length * n ≤ sizeLine := by
            have e3 : (List.replicate n xs).flatten.length = n * xs.length := by simp
            rw [e3] at z
            rw [Nat.mul_comm]
            exact z
          refine .inr ⟨_, (n : Int), xs, rfl, rfl, h1.1, by omega, by omega, hz, fun p hp => ?_⟩
          exact f p hp
        | false => rw [e] at q2; exact q2.elim
      | negSucc n => exact q.elim
    | _ => exact q.elim
  | _ => cases ry <;> exact q.elim
end

/-! ### built-ins -/
def bLen : List D → Res D
  | [.list ds] => .ok (.int ds.length)
  | [.tuple ds] => .ok (.int ds.length)
  | _ => .fail
def bAbs : List D → Res D
  | [.int i] => okI i.natAbs
  | _ => .fail
def bInt : List D → Res D
  | [.int i] => .ok (.int i)
  | _ => .fail
def bMax2 : List D → Res D
  | [.int i, .int j] => okI (if i < j then j else i)
  | _ => .fail
def bMin2 : List D → Res D
  | [.int i, .int j] => okI (if j < i then j else i)
  | _ => .fail
def bTuple : List D → Res D
  | [.list ds] => .ok (.tuple ds)
  | [.tuple ds] => .ok (.tuple ds)
  | _ => .fail
def bList : List D → Res D
  | [.list ds] => .ok (.list ds)
  | [.tuple ds] => .ok (.list ds)
  | _ => .fail
def bools : List D → Option (List Bool)
  | [] => some []
  | .bool b :: r => (match bools r with
    | some bs => some (b :: bs)
    | none => none)
  | _ :: _ => none
def bAll : List D → Res D
  | [.list ds] => (match bools ds with
    | some bs => okB (bs.all id)
    | none => .fail)
  | _ => .fail
def bAny : List D → Res D
  | [.list ds] => (match bools ds with
    | some bs => okB (bs.any id)
    | none => .fail)
  | _ => .fail
section
variable {X : Cx} {P : Pm} {K : Frg}
theorem rep1 {O : OS} {H : Hp} {xs : List V} {a : D} (r : RepAll K O H xs [a]) : ∃ x, xs = [x] ∧ Rep K O H x a := by
  cases r with
  | cons h1 h2 => cases h2; exact ⟨_, rfl, h1⟩
theorem rep2 {O : OS} {H : Hp} {xs : List V} {a b : D} (r : RepAll K O H xs [a, b]) : ∃ x y, xs = [x, y] ∧ Rep K O H x a ∧ Rep K O H y b := by
  cases r with
  | cons h1 h2 =>
    cases h2 with
    | cons h3 h4 => cases h4; exact ⟨_, _, rfl, h1, h3⟩
theorem rc_len : RCall K P (fun xs H Q => ∃ x n, xs = [x] ∧ LenV K x H n ∧ Q (.int n) H) bLen := fun O H xs as Q dom r q => by
  match as, r, q with
  | [.list ds], r, q =>
    obtain ⟨x, rfl, h⟩ := rep1 r
    cases h with
    | lst h1 l h2 => exact ⟨_, _, rfl, .inl ⟨_, h1.seq, rfl⟩, by rw [h2.len]; exact q _ H (Same.refl _) (.int _)⟩
  | [.tuple ds], r, q =>
    obtain ⟨x, rfl, h⟩ := rep1 r
    cases h with
    | tup h1 l h2 => exact ⟨_, _, rfl, .inr ⟨_, h1.seq, rfl⟩, by rw [h2.len]; exact q _ H (Same.refl _) (.int _)⟩
  | [], _, q => exact q.elim
  | [.none], _, q => exact q.elim
  | [.bool _], _, q => exact q.elim
  | [.int _], _, q => exact q.elim
  | [.str _], _, q => exact q.elim
  | [.dict _], _, q => exact q.elim
  | a :: _ :: _, _, q => cases a <;> exact q.elim
theorem rc_abs : RCall K P (fun xs H Q => ∃ i, xs = [.int i] ∧ Q (.int (if i < 0 then -i else i)) H) bAbs := fun O H xs as Q dom r q => by
  match as, r, q with
  | [.int i], r, q =>
    obtain ⟨x, rfl, h⟩ := rep1 r
    cases h with
    | int _ =>
      refine ⟨i, rfl, ?_⟩
      have e : (if i < 0 then -i else i) = (i.natAbs : Int) := by split <;> omega
      rw [e]
      exact fin_i q
  | [], _, q => exact q.elim
  | [.none], _, q => exact q.elim
  | [.bool _], _, q => exact q.elim
  | [.str _], _, q => exact q.elim
  | [.list _], _, q => exact q.elim
  | [.tuple _], _, q => exact q.elim
  | [.dict _], _, q => exact q.elim
  | a :: _ :: _, _, q => cases a <;> exact q.elim
theorem rc_int : RCall K P (fun xs H Q => (∃ i, xs = [.int i] ∧ Q (.int i) H) ∨ ∃ k, xs = [.bl k] ∧ Q (.int (if k then 1 else 0)) H) bInt := fun O H xs as Q dom r q => by
  match as, r, q with
  | [.int i], r, q =>
    obtain ⟨x, rfl, h⟩ := rep1 r
    cases h with
    | int _ => exact .inl ⟨i, rfl, q _ H (Same.refl _) (.int i)⟩
  | [], _, q => exact q.elim
  | [.none], _, q => exact q.elim
  | [.bool _], _, q => exact q.elim
  | [.str _], _, q => exact q.elim
  | [.list _], _, q => exact q.elim
  | [.tuple _], _, q => exact q.elim
  | [.dict _], _, q => exact q.elim
  | a :: _ :: _, _, q => cases a <;> exact q.elim
theorem ints2 {f : Int → Int → Int} {g : List D → Res D} (hg : ∀ as, (∃ i j, as = [.int i, .int j]) ∨ g as = .fail) (hv : ∀ i j, g [.int i, .int j] = okI (f i j)) : RCall K P (fun xs H Q => ∃ i j, xs = [.int i, .int j] ∧ Q (.int (f i j)) H) g := fun O H xs as Q dom r q => by
  rcases hg as with ⟨i, j, rfl⟩ | e
  · obtain ⟨x, y, rfl, h1, h2⟩ := rep2 r
    cases h1
    cases h2
    rw [hv] at q
    exact ⟨i, j, rfl, fin_i q⟩
  · rw [e] at q; exact q.elim
theorem rc_max2 : RCall K P (fun xs H Q => ∃ i j, xs = [.int i, .int j] ∧ Q (.int (if j > i then j else i)) H) bMax2 := ints2 (f := fun i j => if j > i then j else i) (fun as => by
  unfold bMax2
  split
  · exact .inl ⟨_, _, rfl⟩
  · exact .inr rfl) fun i j => rfl
theorem rc_min2 : RCall K P (fun xs H Q => ∃ i j, xs = [.int i, .int j] ∧ Q (.int (if j < i then j else i)) H) bMin2 := ints2 (f := fun i j => if j < i then j else i) (fun as => by
  unfold bMin2
  split
  · exact .inl ⟨_, _, rfl⟩
  · exact .inr rfl) fun i j => rfl
theorem rc_tuple : RCall K P (fun xs H Q => ∃ p ys, xs = [.ref p] ∧ ((SqL K H p ys ∧ ∀ l, H l = none → Q (.ref l) (upd H l (.tup ys))) ∨ (SqT K H p ys ∧ Q (.ref p) H))) bTuple := fun O H xs as Q dom r q => by
  match as, r, q with
  | [.list ds], r, q =>
    obtain ⟨x, rfl, h⟩ := rep1 r
    cases h with
    | lst h1 l h2 => exact ⟨_, _, rfl, .inl ⟨h1.seq, fun p hp => q _ _ (same_upd _ hp) (Rep.newT hp dom l h2)⟩⟩
  | [.tuple ds], r, q =>
    obtain ⟨x, rfl, h⟩ := rep1 r
    cases h with
    | tup h1 l h2 => exact ⟨_, _, rfl, .inr ⟨h1.seq, q _ H (Same.refl _) (.tup h1 l h2)⟩⟩
  | [], _, q => exact q.elim
  | [.none], _, q => exact q.elim
  | [.bool _], _, q => exact q.elim
  | [.int _], _, q => exact q.elim
  | [.str _], _, q => exact q.elim
  | [.dict _], _, q => exact q.elim
  | a :: _ :: _, _, q => cases a <;> exact q.elim
theorem rc_list : RCall K P (fun xs H Q => ∃ p ys, xs = [.ref p] ∧ (SqL K H p ys ∨ SqT K H p ys) ∧ ∀ l, H l = none → Q (.ref l) (upd H l (.lst ys))) bList := fun O H xs as Q dom r q => by
  match as, r, q with
  | [.list ds], r, q =>
    obtain ⟨x, rfl, h⟩ := rep1 r
    cases h with
    | lst h1 l h2 => exact ⟨_, _, rfl, .inl h1.seq, fun p hp => q _ _ (same_upd _ hp) (Rep.newL hp dom l h2)⟩
  | [.tuple ds], r, q =>
    obtain ⟨x, rfl, h⟩ := rep1 r
    cases h with
    | tup h1 l h2 => exact ⟨_, _, rfl, .inr h1.seq, fun p hp => q _ _ (same_upd _ hp) (Rep.newL hp dom l h2)⟩
  | [], _, q => exact q.elim
  | [.none], _, q => exact q.elim
  | [.bool _], _, q => exact q.elim
  | [.int _], _, q => exact q.elim
  | [.str _], _, q => exact q.elim
  | [.dict _], _, q => exact q.elim
  | a :: _ :: _, _, q => cases a <;> exact q.elim
theorem bools_rep {O : OS} {H : Hp} : ∀ {ds : List D} {xs : List V} {bs : List Bool}, RepAll K O H xs ds → bools ds = some bs → xs = bs.map V.bl
  | [], _, _, r, e => by cases r; cases e; rfl
  | .bool b :: ds, _, _, r, e => by
    cases r with
    | cons h1 h2 =>
      cases h1
      have e' : (match bools ds with | some bs => some (b :: bs) | none => none) = some _ := e
      cases z : bools ds with
      | some bs =>
        rw [z] at e'
        cases e'
        rw [bools_rep h2 z]
        rfl
      | none => rw [z] at e'; cases e'
  | .none :: _, _, _, _, e => by cases e
  | .int _ :: _, _, _, _, e => by cases e
  | .str _ :: _, _, _, _, e => by cases e
  | .list _ :: _, _, _, _, e => by cases e
  | .tuple _ :: _, _, _, _, e => by cases e
  | .dict _ :: _, _, _, _, e => by cases e
theorem bl_call {g : List Bool → Bool} {f : List D → Res D} (h0 : ∀ as, (∃ ds, as = [.list ds]) ∨ f as = .fail) (h1 : ∀ ds, f [.list ds] = (match bools ds with | some bs => okB (g bs) | none => .fail)) :
    RCall K P (fun vs H Q => ∃ (a : Addr) (bs : List Bool), vs = [V.ref a] ∧ SqL K H a (bs.map V.bl) ∧ Q (.bl (g bs)) H) f := fun O H xs as Q dom r q => by
  rcases h0 as with ⟨ds, rfl⟩ | e
  · obtain ⟨x, rfl, h⟩ := rep1 r
    rw [h1] at q
    cases h with
    | lst k1 l k2 =>
      cases z : bools ds with
      | some bs =>
        rw [z] at q
        have e := bools_rep k2 z
        subst e
        exact ⟨_, bs, rfl, k1.seq, fin_b (K := K) (P := P) (O := O) q⟩
      | none => rw [z] at q; exact q.elim
  · rw [e] at q; exact q.elim
theorem rc_all : RCall K P (rAll K) bAll := bl_call (fun as => by
  unfold bAll
  split
  · exact .inl ⟨_, rfl⟩
  · exact .inr rfl) fun ds => rfl
theorem rc_any : RCall K P (rAny K) bAny := bl_call (fun as => by
  unfold bAny
  split
  · exact .inl ⟨_, rfl⟩
  · exact .inr rfl) fun ds => rfl
end

/-! ### isinstance -/
def tyName : D → String
  | .none => "NoneType"
  | .bool _ => "bool"
  | .int _ => "int"
  | .str _ => "str"
  | .list _ => "list"
  | .tuple _ => "tuple"
  | .dict _ => "dict"
theorem Rep.tyx {K : Frg} {O : OS} {H : Hp} {x : V} {d : D} (r : Rep K O H x d) : TyX K H x (.type (tyName d)) := by
  cases r with
  | non => exact .base .non
  | bl b => exact .base (.bl b)
  | int i => exact .base (.int i)
  | str x _ => exact .base (.str x)
  | lst h1 _ _ => exact .base (.lst h1.1)
  | tup h1 _ _ =>
    rcases h1 with h | ⟨o, its, n, h, c, _⟩
    · exact .base (.tup h.1)
    · exact .kTuple h c
structure IsT (n : String) (f : D → Bool) : Prop where
  ok : ∀ d, (∀ kvs, d ≠ .dict kvs) → kitB (tyName d) n = some (f d)
def tInt : D → Bool
  | .int _ => true
  | .bool _ => true
  | _ => false
def tBool : D → Bool
  | .bool _ => true
  | _ => false
def tTuple : D → Bool
  | .tuple _ => true
  | _ => false
def tList : D → Bool
  | .list _ => true
  | _ => false
def tStr : D → Bool
  | .str _ => true
  | _ => false
def tSeq : D → Bool
  | .list _ => true
  | .tuple _ => true
  | _ => false
def tBoolStr : D → Bool
  | .bool _ => true
  | .str _ => true
  | _ => false
theorem isT_int : IsT "int" tInt := ⟨fun d h => by
  cases d with
  | none  => exact (by decide +kernel : kitB "NoneType" "int" = some false)
  | bool b => exact (by decide +kernel : kitB "bool" "int" = some true)
  | int i => exact (by decide +kernel : kitB "int" "int" = some true)
  | str x => exact (by decide +kernel : kitB "str" "int" = some false)
  | list xs => exact (by decide +kernel : kitB "list" "int" = some false)
  | tuple xs => exact (by decide +kernel : kitB "tuple" "int" = some false)
  | dict k => exact absurd rfl (h k)⟩
theorem isT_bool : IsT "bool" tBool := ⟨fun d h => by
  cases d with
  | none  => exact (by decide +kernel : kitB "NoneType" "bool" = some false)
  | bool b => exact (by decide +kernel : kitB "bool" "bool" = some true)
  | int i => exact (by decide +kernel : kitB "int" "bool" = some false)
  | str x => exact (by decide +kernel : kitB "str" "bool" = some false)
  | list xs => exact (by decide +kernel : kitB "list" "bool" = some false)
  | tuple xs => exact (by decide +kernel : kitB "tuple" "bool" = some false)
  | dict k => exact absurd rfl (h k)⟩
theorem isT_tuple : IsT "tuple" tTuple := ⟨fun d h => by
  cases d with
  | none  => exact (by decide +kernel : kitB "NoneType" "tuple" = some false)
  | bool b => exact (by decide +kernel : kitB "bool" "tuple" = some false)
  | int i => exact (by decide +kernel : kitB "int" "tuple" = some false)
  | str x => exact (by decide +kernel : kitB "str" "tuple" = some false)
  | list xs => exact (by decide +kernel : kitB "list" "tuple" = some false)
  | tuple xs => exact (by decide +kernel : kitB "tuple" "tuple" = some true)
  | dict k => exact absurd rfl (h k)⟩
theorem isT_list : IsT "list" tList := ⟨fun d h => by
  cases d with
  | none  => exact (by decide +kernel : kitB "NoneType" "list" = some false)
  | bool b => exact (by decide +kernel : kitB "bool" "list" = some false)
  | int i => exact (by decide +kernel : kitB "int" "list" = some false)
  | str x => exact (by decide +kernel : kitB "str" "list" = some false)
  | list xs => exact (by decide +kernel : kitB "list" "list" = some true)
  | tuple xs => exact (by decide +kernel : kitB "tuple" "list" = some false)
  | dict k => exact absurd rfl (h k)⟩
theorem isT_str : IsT "str" tStr := ⟨fun d h => by
  cases d with
  | none  => exact (by decide +kernel : kitB "NoneType" "str" = some false)
  | bool b => exact (by decide +kernel : kitB "bool" "str" = some false)
  | int i => exact (by decide +kernel : kitB "int" "str" = some false)
  | str x => exact (by decide +kernel : kitB "str" "str" = some true)
  | list xs => exact (by decide +kernel : kitB "list" "str" = some false)
  | tuple xs => exact (by decide +kernel : kitB "tuple" "str" = some false)
  | dict k => exact absurd rfl (h k)⟩
def mIsi (f : D → Bool) (m : EM) : EM := fun env => (m env).bind fun d => okB (f d)
theorem Rep.nodict {K : Frg} {O : OS} {H : Hp} {x : V} {d : D} (r : Rep K O H x d) : ∀ kvs, d ≠ .dict kvs := by
  intro kvs e
  subst e
  cases r
section
variable {X : Cx} {P : Pm} {e : Expr} {m : EM} {p pos p2 : Pos}
theorem re_isi {n : String} {f : D → Bool} {x : Str} (T : IsT n f) (hm : X.mg "isinstance" = none) (hg : Gl X "isinstance") (he : RE X P e m) (ht : PE X (.Name x p2) (tC (.ty n)))
    (hs1 : starEach [e, .Name x p2] X.env = (false, eval e X.env) :: starEach [.Name x p2] X.env := by rfl) (hs2 : starEach [.Name x p2] X.env = (false, eval (.Name x p2) X.env) :: starEach [] X.env := by rfl) (hpl : (backTo pos (starEach [.Name x p2] X.env)).any (·.1) = false := by rfl) :
    RE X P (.Call (.Name "isinstance" p) [e, .Name x p2] [] pos) (mIsi f m) :=
  pe_imp (pe_callB call_isi hg hm PyProof.Rows.boot_isinstance (pa_cons he (pa_cons ht pa_nil hs2) hs1) (by decide) (by decide) hs1 hpl) fun σ H Q ⟨env, O, g, q⟩ => by
    refine ⟨env, O, g, pD.bindD q fun x1 H1 d _ s1 r1 q1 => ?_⟩
    exact ⟨x1, _, _, _, _, rfl, .ty n, r1.tyx, kit_ty (T.ok d r1.nodict), fin_b (K := X.K) (P := P) (O := O) q1⟩
theorem re_isi2 {n1 n2 : String} {f1 f2 f : D → Bool} {x y : Str} {p3 p4 : Pos} {kk : Nat} (T1 : IsT n1 f1) (T2 : IsT n2 f2) (hf : ∀ d, f d = (f1 d || f2 d)) (hm : X.mg "isinstance" = none) (hg : Gl X "isinstance") (he : RE X P e m)
    (ht : PE X (.Tuple [.Name x p2, .Name y p3] kk p4) (tTup (tCons (tC (.ty n1)) (tCons (tC (.ty n2)) tNil))))
    (hs1 : starEach [e, .Tuple [.Name x p2, .Name y p3] kk p4] X.env = (false, eval e X.env) :: starEach [.Tuple [.Name x p2, .Name y p3] kk p4] X.env := by rfl) (hs2 : starEach [.Tuple [.Name x p2, .Name y p3] kk p4] X.env = (false, eval (.Tuple [.Name x p2, .Name y p3] kk p4) X.env) :: starEach [] X.env := by rfl)
    (hpl : (backTo pos (starEach [.Tuple [.Name x p2, .Name y p3] kk p4] X.env)).any (·.1) = false := by rfl) :
    RE X P (.Call (.Name "isinstance" p) [e, .Tuple [.Name x p2, .Name y p3] kk p4] [] pos) (mIsi f m) :=
  pe_imp (pe_callB call_isiT hg hm PyProof.Rows.boot_isinstance (pa_cons he (pa_cons ht pa_nil hs2) hs1) (by decide) (by decide) hs1 hpl) fun σ H Q ⟨env, O, g, q⟩ => by
    refine ⟨env, O, g, pD.bindD q fun x1 H1 d _ s1 r1 q1 => ⟨by show 2 ≤ sizeLine; rw [sizeLine_eq]; decide, fun t ht => ?_⟩⟩
    have r2 := r1.same (same_upd (.tup [.ty n1, .ty n2]) ht)
    have k1 := kit_ty (K := X.K) (T1.ok d r1.nodict)
    have k2 := kit_ty (K := X.K) (T2.ok d r1.nodict)
    have q2 := q1 (.bl (f d)) (upd H1 t (.tup [.ty n1, .ty n2])) (same_upd _ ht) (.bl _)
    refine ⟨x1, t, _, _, [.type n1, .type n2], f d, rfl, upd_same, .cons (.ty n1) (.cons (.ty n2) .nil), r2.tyx, ?_, q2⟩
    refine kitAny_cons k1 (fun e1 => ?_) (fun e1 => ?_)
    · refine kitAny_cons k2 (fun e2 => ?_) (fun e2 => ?_)
      · rw [hf, e1, e2]; rfl
      · rw [hf, e1, e2]; rfl
    · rw [hf, e1]; rfl
end
end Rf

/-! Rf4: states changed, what is walked, comprehensions -/
namespace Rf
open PySem PySem.Spec PyProof.Rows L2

section
variable {K : Frg} {P : Pm} {O O2 : OS} {env : Env} {σ : L2.St} {H H2 : Hp}
theorem nodup_mid {α : Type} {a b c : List α} (h : (a ++ (b ++ c)).Nodup) : (a ++ ([] ++ c)).Nodup := by
  refine h.sublist ?_
  exact List.Sublist.append (List.Sublist.refl _) (List.sublist_append_right _ _)
/-- a slot is put, what it owned let go -/
theorem Good.putX (g : Good K P O env σ H) (i : Nat) {o : Option V} {s : Slot} (h : SlotRep K O H o s []) : Good K P O (eput env i s) (σ.set i o) H := by
  obtain ⟨fp, e, n, w⟩ := g.ex
  rcases e.at_ i with ⟨_, q1, q2⟩ | ⟨o1, f1, f2, f3, e1, e2, h3, k⟩
  · rw [q1, q2]; exact g
  · subst e2
    refine ⟨⟨f1 ++ ([] ++ f3), k O H o s [] .refl (fun _ _ => rfl) (fun _ _ => rfl) h, nodup_mid n, fun a ha => w a ?_⟩, g.sub, g.lst, g.same, g.dom0⟩
    rcases List.mem_append.mp ha with ha | ha
    · exact List.mem_append_left _ ha
    · exact List.mem_append_right _ (List.mem_append_right _ ha)
theorem Good.put (g : Good K P O env σ H) (i : Nat) {v : V} {d : D} (h : Rep K O H v d) : Good K P O (eput env i (.val d)) (σ.set i (some v)) H := g.putX i (.val h)
def ewipe (env : Env) : List Nat → Env
  | [] => env
  | v :: vs => eput (ewipe env vs) v .emp
theorem Good.wipe (g : Good K P O env σ H) : ∀ vs : List Nat, Good K P O (ewipe env vs) (L2.wipe σ vs) H
  | [] => g
  | v :: vs => (Good.wipe g vs).putX v .emp
/-- the wish about exceptions does not matter -/
theorem Good.wishE (g : Good K P O env σ H) (E : XK) : Good K { P with E := E } O env σ H := ⟨g.ex, g.sub, g.lst, g.same, g.dom0⟩
theorem Good.unwishE {E : XK} (g : Good K { P with E := E } O env σ H) : Good K P O env σ H := ⟨g.ex, g.sub, g.lst, g.same, g.dom0⟩
/-- one more owned (a new list that no slot holds) -/
theorem Good.more (g : Good K P O env σ H) {p : Addr} (hp : H p = none) (s : Same H H2) (h2 : ∃ xs, H2 p = some (.lst xs)) : Good K P (fun a => O a ∨ a = p) env σ H2 := by
  obtain ⟨fp, e, n, w⟩ := g.ex
  have gr : Grow O H (fun a => O a ∨ a = p) H2 := ⟨fun b o q _ => s b o q, fun b z => z.elim .inl fun z => .inr (by rw [z]; exact hp)⟩
  refine ⟨⟨fp, e.grow gr fun a ha => ?_, n, fun a ha => ⟨.inl (w a ha).1, (w a ha).2⟩⟩, fun a z => .inl (g.sub a z), fun a z => ?_, g.same.trans s, g.dom0⟩
  · obtain ⟨xs, q⟩ := e.there a ha
    rw [s a _ q, q]
  · rcases z with z | rfl
    · obtain ⟨xs, q⟩ := g.lst a z
      exact ⟨xs, s a _ q⟩
    · exact h2
end

/-! ### targets -/
abbrev BdM := D → Env → Option Env
def agree (σ σ' : L2.St) (is : List Nat) : Prop := σ'.length = σ.length ∧ ∀ j, j ∉ is → σ'[j]? = σ[j]?
theorem agree.refl {σ : L2.St} {is : List Nat} : agree σ σ is := ⟨rfl, fun _ _ => rfl⟩
theorem agree.set {σ σ' : L2.St} {is : List Nat} {i : Nat} {o : Option V} (h : agree σ σ' is) (hi : i ∈ is) : agree σ (σ'.set i o) is := by
  refine ⟨by rw [List.length_set]; exact h.1, fun j hj => ?_⟩
  rw [List.getElem?_set_ne (fun e => hj (by rw [← e]; exact hi))]
  exact h.2 j hj
theorem wipe_at (σ : L2.St) (i : Nat) : ∀ {vs : List Nat}, i ∈ vs → (L2.wipe σ vs)[i]? = if i < σ.length then some none else none
  | [], h => by cases h
  | v :: vs, h => by
    unfold L2.wipe
    by_cases e : v = i
    · subst e
      by_cases hv : v < σ.length
      · rw [if_pos hv, List.getElem?_set_self (by rw [wipe_length]; exact hv)]
      · rw [if_neg hv, List.getElem?_eq_none (by rw [List.length_set, wipe_length]; omega)]
    · rw [List.getElem?_set_ne e]
      rcases List.mem_cons.mp h with h | h
      · exact absurd h.symm e
      · exact wipe_at σ i h
theorem wipe_agree {σ σ' : L2.St} {is vs : List Nat} (h : agree (L2.wipe σ vs) σ' is) (hs : ∀ i ∈ is, i ∈ vs) : L2.wipe σ' vs = L2.wipe σ vs := by
  apply List.ext_getElem?
  intro j
  by_cases hj : j ∈ vs
  · rw [wipe_at _ _ hj, wipe_at _ _ hj, h.1, wipe_length]
  · rw [wipe_out hj, h.2 j fun z => hj (hs j z)]
/-- a target, its mirror, the slots it stores -/
structure BG (K : Frg) (P : Pm) (g : TG) (bd : BdM) (is : List Nat) : Prop where
  run : ∀ (O : OS) (H : Hp) (σ : L2.St) (env env' : Env) (v : V) (d : D) (Q : L2.St → Hp → Prop), Good K P O env σ H → Rep K O H v d → bd d env = some env' →
    (∀ σ', Good K P O env' σ' H → agree σ σ' is → Q σ' H) → g v σ H Q
structure BGs (K : Frg) (P : Pm) (g : TGs) (bd : List D → Env → Option Env) (is : List Nat) : Prop where
  run : ∀ (O : OS) (H : Hp) (σ : L2.St) (env env' : Env) (vs : List V) (ds : List D) (Q : L2.St → Hp → Prop), Good K P O env σ H → RepAll K O H vs ds → bd ds env = some env' →
    (∀ σ', Good K P O env' σ' H → agree σ σ' is → Q σ' H) → g vs σ H Q
def bName (i : Nat) : BdM := fun d env => some (eput env i (.val d))
def bNil : List D → Env → Option Env
  | [], env => some env
  | _, _ => none
def bCons (b : BdM) (r : List D → Env → Option Env) : List D → Env → Option Env
  | d :: ds, env => (match b d env with
    | some e => r ds e
    | none => none)
  | _, _ => none
def bTup (n : Nat) (r : List D → Env → Option Env) : BdM := fun d env => match d with
  | .tuple ds => (match Nat.beq ds.length n with
    | true => r ds env
    | false => none)
  | _ => none
theorem agree.trans {σ σ1 σ2 : L2.St} {is js : List Nat} (a : agree σ σ1 is) (b : agree σ1 σ2 js) : agree σ σ2 (is ++ js) :=
  ⟨b.1.trans a.1, fun j hj => (b.2 j fun z => hj (List.mem_append_right _ z)).trans (a.2 j fun z => hj (List.mem_append_left _ z))⟩
section
variable {K : Frg} {P : Pm}
theorem bg_name (i : Nat) : BG K P (gName i) (bName i) [i] := ⟨fun O H σ env env' v d Q g r e k => by
  cases e
  exact k _ (g.put i r) (agree.refl.set List.mem_cons_self)⟩
theorem bgs_nil : BGs K P gNil bNil [] := ⟨fun O H σ env env' vs ds Q g r e k => by
  cases ds with
  | nil =>
    cases r
    cases e
    exact ⟨rfl, k σ g agree.refl⟩
  | cons _ _ => cases e⟩
theorem bgs_cons {t : TG} {u : TGs} {b : BdM} {r : List D → Env → Option Env} {is js : List Nat} (h1 : BG K P t b is) (h2 : BGs K P u r js) : BGs K P (gCons t u) (bCons b r) (is ++ js) := ⟨fun O H σ env env' vs ds Q g rr e k => by
  cases ds with
  | nil => cases e
  | cons d ds =>
    cases rr with
    | cons r1 r2 =>
      have e' : (match b d env with | some e => r ds e | none => none) = some env' := e
      cases z : b d env with
      | none => rw [z] at e'; cases e'
      | some e1 =>
        rw [z] at e'
        refine ⟨_, _, rfl, h1.run O H σ env e1 _ d _ g r1 z fun σ1 g1 a1 => ?_⟩
        exact h2.run O H σ1 e1 env' _ ds _ g1 r2 e' fun σ2 g2 a2 => k σ2 g2 (a1.trans a2)⟩
theorem bg_tup {n : Nat} {u : TGs} {r : List D → Env → Option Env} {is : List Nat} (h : BGs K P u r is) : BG K P (gTup K n u) (bTup n r) is := ⟨fun O H σ env env' v d Q g rr e k => by
  cases rr with
  | @tup a xs ds h1 l h2 =>
    have e' : (match Nat.beq ds.length n with | true => r ds env | false => none) = some env' := e
    cases z : Nat.beq ds.length n with
    | false => rw [z] at e'; cases e'
    | true =>
      rw [z] at e'
      exact ⟨_, _, rfl, h1.seq, by rw [h2.len]; exact Nat.eq_of_beq_eq_true z, h.run O H σ env env' _ ds Q g h2 e' k⟩
  | _ => cases e⟩
end

/-! ### what is walked -/
structure Yl (K : Frg) (J : It) (ds : List D) (G : OS → Hp → Prop) : Prop where
  go : ∀ O2 H2, G O2 H2 → (∀ a, O2 a → H2 a ≠ none) → ∀ i d, ds[i]? = some d → J.go i H2 ∧ ∀ x H3, J.yld i H2 x H3 → Same H2 H3 ∧ Rep K O2 H3 x d
  stop : ∀ O2 H2, G O2 H2 → J.stop ds.length H2
def GS (O : OS) (H : Hp) : OS → Hp → Prop := fun O2 H2 => Grow O H O2 H2
def GC (O : OS) (H : Hp) : OS → Hp → Prop := fun O2 H2 => Same H H2 ∧ ∀ b, O2 b → O b ∨ H b = none
theorem GC.gs {O O2 : OS} {H H2 : Hp} (h : GC O H O2 H2) : GS O H O2 H2 := ⟨fun b o e _ => h.1 b o e, h.2⟩
theorem Yl.imp {K : Frg} {J : It} {ds : List D} {G G' : OS → Hp → Prop} (h : Yl K J ds G) (k : ∀ O H, G' O H → G O H) : Yl K J ds G' := ⟨fun O2 H2 g => h.go O2 H2 (k _ _ g), fun O2 H2 g => h.stop O2 H2 (k _ _ g)⟩
def pI (K : Frg) (P : Pm) (O : OS) (H : Hp) (G : OS → Hp → OS → Hp → Prop) (R : It → Hp → Prop) : Res (List D) → Prop
  | .ok ds => ∀ J H', Same H H' → Yl K J ds (G O H') → ds.length ≤ sizeLine → R J H'
  | .exc c => pXc P c H
  | .fail => False
def tI (K : Frg) (P : Pm) (G : OS → Hp → OS → Hp → Prop) (m : AM) : TI := fun σ H R => ∃ env O, Good K P O env σ H ∧ pI K P O H G R (m env)
abbrev RIS (X : Cx) (P : Pm) (tg e : Expr) (m : AM) : Prop := PI X tg e (tI X.K P GS m)
abbrev RIC (X : Cx) (P : Pm) (tg e : Expr) (m : AM) : Prop := PI X tg e (tI X.K P GC m)
section
variable {X : Cx} {P : Pm} {tg e : Expr}
theorem pi_imp {t t' : TI} (h : PI X tg e t) (k : ∀ σ H R, t' σ H R → t σ H R) : PI X tg e t' := ⟨fun pins s σ H R I q => h.run pins s σ H R I (k σ H R q)⟩
theorem pi_or {t t' : TI} (h : PI X tg e t) (h' : PI X tg e t') : PI X tg e (fun σ H R => t σ H R ∨ t' σ H R) := ⟨fun pins s σ H R I q => q.elim (h.run pins s σ H R I) (h'.run pins s σ H R I)⟩
theorem ric_of {m : AM} (h : RIS X P tg e m) : RIC X P tg e m := pi_imp h fun σ H R ⟨env, O, g, q⟩ => by
  refine ⟨env, O, g, ?_⟩
  cases z : m env with
  | ok ds => rw [z] at q; exact fun J H' s y l => q J H' s (y.imp fun _ _ k => GC.gs k) l
  | exc c => rw [z] at q; exact q
  | fail => rw [z] at q; exact q
def asSeq : D → Res (List D)
  | .list ds => .ok ds
  | .tuple ds => .ok ds
  | _ => .fail
theorem pI.bindD {K : Frg} {O : OS} {H : Hp} {G : OS → Hp → OS → Hp → Prop} {m : Res D} {k : D → Res (List D)} {R : It → Hp → Prop} {R' : VK} (h : pI K P O H G R (m.bind k)) (f : ∀ x H' a, m = .ok a → Same H H' → Rep K O H' x a → pI K P O H' G R (k a) → R' x H') : pD K P O H R' m := by
  cases m with
  | ok a =>
    refine fun x H' s r => f x H' a rfl s r ?_
    have h' : pI K P O H G R (k a) := h
    cases z : k a with
    | ok ds => rw [z] at h'; exact fun J H2 s2 => h' J H2 (s.trans s2)
    | exc c => rw [z] at h'; exact h'
    | fail => rw [z] at h'; exact h'
  | exc c => exact h
  | fail => exact h
theorem pI.bindA {K : Frg} {O : OS} {H : Hp} {G : OS → Hp → OS → Hp → Prop} {m : Res (List D)} {k : List D → Res (List D)} {R : It → Hp → Prop} {R' : List V → Hp → Prop} (h : pI K P O H G R (m.bind k)) (f : ∀ x H' a, m = .ok a → Same H H' → RepAll K O H' x a → pI K P O H' G R (k a) → R' x H') : pA K P O H R' m := by
  cases m with
  | ok a =>
    refine fun x H' s r => f x H' a rfl s r ?_
    have h' : pI K P O H G R (k a) := h
    cases z : k a with
    | ok ds => rw [z] at h'; exact fun J H2 s2 => h' J H2 (s.trans s2)
    | exc c => rw [z] at h'; exact h'
    | fail => rw [z] at h'; exact h'
  | exc c => exact h
  | fail => exact h
/-- a list that stands -/
theorem yl_list {K : Frg} {O : OS} {H : Hp} {a : Addr} {xs : List V} {ds : List D} (h1 : ReL K O H a xs) (h2 : RepAll K O H xs ds) : Yl K (Itl K a) ds (GS O H) := by
  refine ⟨fun O2 H2 g dom i d e => ?_, fun O2 H2 g => ⟨xs, (h1.grow g).seq, by rw [h2.len]; exact Nat.le_refl _⟩⟩
  have k1 := h1.grow g
  obtain ⟨v, ev, r⟩ := (RepAll.grow g _ h2).get e
  refine ⟨⟨xs, v, k1.seq, ev⟩, fun x H3 y => ?_⟩
  obtain ⟨rfl, y⟩ := y
  have q := y xs k1.seq
  rw [ev] at q
  cases q
  exact ⟨Same.refl _, r⟩
theorem yl_tup {K : Frg} {O : OS} {H : Hp} {a : Addr} {xs : List V} {ds : List D} (h1 : ReT K O H a xs) (h2 : RepAll K O H xs ds) : Yl K (Itt K a) ds (GS O H) := by
  refine ⟨fun O2 H2 g dom i d e => ?_, fun O2 H2 g => ⟨xs, (h1.grow g).seq, by rw [h2.len]; exact Nat.le_refl _⟩⟩
  have k1 := h1.grow g
  obtain ⟨v, ev, r⟩ := (RepAll.grow g _ h2).get e
  refine ⟨⟨xs, v, k1.seq, ev⟩, fun x H3 y => ?_⟩
  obtain ⟨rfl, y⟩ := y
  have q := y xs k1.seq
  rw [ev] at q
  cases q
  exact ⟨Same.refl _, r⟩
def iSeq (m : EM) : AM := fun env => (m env).bind asSeq
theorem ri_seq {m : EM} (h : RE X P e m) : RIS X P tg e (iSeq m) := pi_imp (pi_or (pi_list h) (pi_tup h)) fun σ H R ⟨env, O, g, q⟩ => by
  cases z : m env with
  | ok d =>
    have q1 : pI X.K P O H GS R (asSeq d) := by
      have := q
      unfold iSeq at this
      rw [z] at this
      exact this
    cases d with
    | list ds =>
      refine .inl ⟨env, O, g, ?_⟩
      rw [z]
      intro x H' s r
      cases r with
      | lst h1 l h2 => exact ⟨_, rfl, ⟨_, h1.seq⟩, q1 _ H' s (yl_list h1 h2) l⟩
    | tuple ds =>
      refine .inr ⟨env, O, g, ?_⟩
      rw [z]
      intro x H' s r
      cases r with
      | tup h1 l h2 => exact ⟨_, rfl, ⟨_, h1.seq⟩, q1 _ H' s (yl_tup h1 h2) l⟩
    | _ => exact q1.elim
  | exc c =>
    unfold iSeq at q
    rw [z] at q
    refine .inl ⟨env, O, g, ?_⟩
    rw [z]
    exact q
  | fail =>
    unfold iSeq at q
    rw [z] at q
    exact q.elim
/-- ranges -/
def rangeD : Nat → Int → List D
  | 0, _ => []
  | n + 1, i => .int i :: rangeD n (i + 1)
theorem rangeD_len : ∀ (n : Nat) (i : Int), (rangeD n i).length = n
  | 0, _ => rfl
  | n + 1, i => congrArg Nat.succ (rangeD_len n (i + 1))
theorem rangeD_get : ∀ (n : Nat) (i : Int) (k : Nat) (d : D), (rangeD n i)[k]? = some d → k < n ∧ d = .int (i + k)
  | 0, _, k, d, h => by simp [rangeD] at h
  | n + 1, i, 0, d, h => by
    simp [rangeD] at h
    exact ⟨Nat.succ_pos n, by rw [← h]; simp⟩
  | n + 1, i, k + 1, d, h => by
    have h' : (rangeD n (i + 1))[k]? = some d := by simpa [rangeD] using h
    obtain ⟨h1, h2⟩ := rangeD_get n (i + 1) k d h'
    refine ⟨Nat.succ_lt_succ h1, ?_⟩
    rw [h2]
    congr 1
    omega
theorem yl_range {K : Frg} {O : OS} {H : Hp} {lo : Int} {n : Nat} : Yl K (Itr lo n) (rangeD n lo) (GS O H) := by
  refine ⟨fun O2 H2 g dom i d e => ?_, fun O2 H2 g => ?_⟩
  · obtain ⟨h1, rfl⟩ := rangeD_get n lo i d e
    refine ⟨h1, fun x H3 y => ?_⟩
    obtain ⟨rfl, rfl⟩ := y
    exact ⟨Same.refl _, .int _⟩
  · show n ≤ (rangeD n lo).length
    rw [rangeD_len]
    exact Nat.le_refl _
/-- forced from the left, so that each int is a literal -/
def rangeF : Nat → Nat → List D
  | 0, _ => []
  | n + 1, i => match i + 1 with
    | 0 => []
    | j + 1 => .int (.ofNat j) :: rangeF n (j + 1)
theorem rangeF_eq : ∀ (n i : Nat), rangeF n i = rangeD n (i : Int)
  | 0, _ => rfl
  | n + 1, i => by
    show (.int (.ofNat i) :: rangeF n (i + 1)) = (.int (i : Int) :: rangeD n ((i : Int) + 1))
    rw [rangeF_eq n (i + 1)]
    rfl
def rng : List D → Res (List D)
  | [.int (.ofNat n)] => (match Nat.ble n 16777216 with
    | true => .ok (rangeF n 0)
    | false => .fail)
  | [.int (.ofNat i), .int (.ofNat j)] => (match Nat.ble j 16777216 && Nat.ble i 16777216 with
    | true => .ok (rangeF (j - i) i)
    | false => .fail)
  | _ => .fail
def iRng (m : AM) : AM := fun env => (m env).bind rng
theorem ri_range1 {a : Expr} {m : AM} {p pos : Pos} (hg : Gl X "range") (hm : X.mg "range" = none) (ha : RA X P [a] m) (hn : ∀ env ds, m env = .ok ds → ds.length = 1) (hs : starEach [a] X.env = [(false, eval a X.env)] := by rfl) : RIS X P tg (.Call (.Name "range" p) [a] [] pos) (iRng m) :=
  pi_imp (pi_range1 hg hm ha hs) fun σ H R ⟨env, O, g, q⟩ => by
    refine ⟨env, O, g, pI.bindA q fun xs H1 ds ez s1 r1 q1 => ?_⟩
    have hl := hn env ds ez
    match ds, hl with
    | [d], _ =>
      obtain ⟨x, rfl, r⟩ := rep1 r1
      cases r with
      | int i =>
        cases i with
        | ofNat n =>
          have q2 : pI X.K P O H1 GS R (match Nat.ble n 16777216 with | true => .ok (rangeF n 0) | false => .fail) := q1
          cases z : Nat.ble n 16777216 with
          | false => rw [z] at q2; exact q2.elim
          | true =>
            rw [z, rangeF_eq] at q2
            have hn := Nat.le_of_ble_eq_true z
            refine ⟨(n : Int), rfl, by omega, by omega, ?_⟩
            have e : ((n : Int)).toNat = n := by omega
            rw [e]
            exact q2 _ H1 (Same.refl _) yl_range (by rw [rangeD_len, sizeLine_eq]; exact hn)
        | negSucc n => exact q1.elim
      | _ => exact q1.elim
theorem ri_range2 {a b : Expr} {m : AM} {p pos : Pos} (hg : Gl X "range") (hm : X.mg "range" = none) (ha : RA X P [a, b] m) (hn : ∀ env ds, m env = .ok ds → ds.length = 2) (hs : starEach [a, b] X.env = [(false, eval a X.env), (false, eval b X.env)] := by rfl) (hs2 : starEach [b] X.env = [(false, eval b X.env)] := by rfl) :
    RIS X P tg (.Call (.Name "range" p) [a, b] [] pos) (iRng m) :=
  pi_imp (pi_range2 hg hm ha hs hs2) fun σ H R ⟨env, O, g, q⟩ => by
    refine ⟨env, O, g, pI.bindA q fun xs H1 ds ez s1 r1 q1 => ?_⟩
    have hl := hn env ds ez
    match ds, hl with
    | [d, d2], _ =>
      obtain ⟨x, y, rfl, r, r2⟩ := rep2 r1
      cases r with
      | int i =>
        cases r2 with
        | int j =>
          cases i with
          | ofNat n =>
            cases j with
            | ofNat k =>
              have q2 : pI X.K P O H1 GS R (match Nat.ble k 16777216 && Nat.ble n 16777216 with | true => .ok (rangeF (k - n) n) | false => .fail) := q1
              cases z : Nat.ble k 16777216 && Nat.ble n 16777216 with
              | false => rw [z] at q2; exact q2.elim
              | true =>
                rw [z, rangeF_eq] at q2
                obtain ⟨z1, z2⟩ := Bool.and_eq_true_iff.mp z
                have h1 := Nat.le_of_ble_eq_true z1
                have h2 := Nat.le_of_ble_eq_true z2
                refine ⟨(n : Int), (k : Int), rfl, ⟨by omega, by omega, by omega, by omega⟩, ?_⟩
                have e : ((k : Int) - (n : Int)).toNat = k - n := by omega
                rw [e]
                exact q2 _ H1 (Same.refl _) yl_range (by rw [rangeD_len, sizeLine_eq]; omega)
            | negSucc k => exact q1.elim
          | negSucc n => exact q1.elim
        | _ => cases i <;> exact q1.elim
      | _ => cases d2 <;> exact q1.elim
end
end Rf

/-! Rf5: enumerate, zip, own lists walked, comprehensions -/
namespace Rf
open PySem PySem.Spec PyProof.Rows L2

/-! ### enumerate, zip -/
def enumF : List D → Nat → List D
  | [], _ => []
  | d :: r, i => match i + 1 with
    | 0 => []
    | j + 1 => .tuple [.int (.ofNat j), d] :: enumF r (j + 1)
theorem enumF_cons (d : D) (r : List D) (i : Nat) : enumF (d :: r) i = .tuple [.int (i : Int), d] :: enumF r (i + 1) := rfl
theorem enumF_len : ∀ (ds : List D) (i : Nat), (enumF ds i).length = ds.length
  | [], _ => rfl
  | d :: r, i => by rw [enumF_cons, List.length_cons, List.length_cons, enumF_len r (i + 1)]
theorem enumF_get : ∀ (ds : List D) (i k : Nat) (d : D), (enumF ds i)[k]? = some d → ∃ e, ds[k]? = some e ∧ d = .tuple [.int ((i + k : Nat) : Int), e]
  | [], _, k, d, h => by simp [enumF] at h
  | e :: r, i, 0, d, h => by
    rw [enumF_cons] at h
    simp at h
    exact ⟨e, rfl, h.symm⟩
  | e :: r, i, k + 1, d, h => by
    rw [enumF_cons] at h
    obtain ⟨e', h1, h2⟩ := enumF_get r (i + 1) k d (by simpa using h)
    refine ⟨e', by simpa using h1, ?_⟩
    rw [h2]
    congr 3
    omega
def zipD : List D → List D → List D
  | a :: as, b :: bs => .tuple [a, b] :: zipD as bs
  | _, _ => []
theorem zipD_len : ∀ (as bs : List D), (zipD as bs).length = min as.length bs.length
  | [], bs => by simp [zipD]
  | _ :: _, [] => by simp [zipD]
  | a :: as, b :: bs => by
    show (zipD as bs).length + 1 = min (as.length + 1) (bs.length + 1)
    rw [zipD_len as bs]
    omega
theorem zipD_get : ∀ (as bs : List D) (k : Nat) (d : D), (zipD as bs)[k]? = some d → ∃ a b, as[k]? = some a ∧ bs[k]? = some b ∧ d = .tuple [a, b]
  | [], bs, k, d, h => by simp [zipD] at h
  | _ :: _, [], k, d, h => by simp [zipD] at h
  | a :: as, b :: bs, 0, d, h => by
    simp [zipD] at h
    exact ⟨a, b, rfl, rfl, h.symm⟩
  | a :: as, b :: bs, k + 1, d, h => by
    obtain ⟨x, y, h1, h2, h3⟩ := zipD_get as bs k d (by simpa [zipD] using h)
    exact ⟨x, y, by simpa using h1, by simpa using h2, h3⟩
section
variable {K : Frg} {O : OS} {H : Hp}
theorem pair_new {O2 : OS} {H2 : Hp} {T : Addr} {x y : V} {a b : D} (hT : H2 T = none) (dom : ∀ a, O2 a → H2 a ≠ none) (r1 : Rep K O2 H2 x a) (r2 : Rep K O2 H2 y b) : Same H2 (upd H2 T (.tup [x, y])) ∧ Rep K O2 (upd H2 T (.tup [x, y])) (.ref T) (.tuple [a, b]) :=
  ⟨same_upd _ hT, Rep.newT hT dom (by show 2 ≤ sizeLine; rw [sizeLine_eq]; decide) (.cons r1 (.cons r2 .nil))⟩
/-- a list that stays, by what its items are at each later heap -/
theorem yl_enumG {G : OS → Hp → Prop} {a : Addr} {xs : List V} {ds : List D} (hl : xs.length = ds.length) (h : ∀ O2 H2, G O2 H2 → SqL K H2 a xs ∧ RepAll K O2 H2 xs ds) : Yl K (Ite K a) (enumF ds 0) G := by
  refine ⟨fun O2 H2 g dom i d e => ?_, fun O2 H2 g => ⟨xs, (h O2 H2 g).1, by rw [enumF_len, hl]; exact Nat.le_refl _⟩⟩
  obtain ⟨h1, h2⟩ := h O2 H2 g
  obtain ⟨e1, q1, rfl⟩ := enumF_get ds 0 i d e
  obtain ⟨v, ev, r⟩ := h2.get q1
  refine ⟨⟨xs, v, h1, ev⟩, fun x H3 y => ?_⟩
  obtain ⟨T, z, rfl, hT, rfl, y⟩ := y
  have q := y xs h1
  rw [ev] at q
  cases q
  have e0 : (0 + i : Nat) = i := Nat.zero_add i
  rw [e0]
  exact pair_new hT dom (.int _) r
theorem yl_zipL {a b : Addr} {xs ys : List V} {ds es : List D} (h1 : ReL K O H a xs) (h2 : RepAll K O H xs ds) (k1 : ReL K O H b ys) (k2 : RepAll K O H ys es) : Yl K (Itz K a b) (zipD ds es) (GS O H) := by
  refine ⟨fun O2 H2 g dom i d e => ?_, fun O2 H2 g => ⟨xs, ys, (h1.grow g).seq, (k1.grow g).seq, by rw [zipD_len, h2.len, k2.len]; omega⟩⟩
  have l1 := (h1.grow g).seq
  have l2 := (k1.grow g).seq
  obtain ⟨p, q, q1, q2, rfl⟩ := zipD_get ds es i d e
  obtain ⟨v, ev, r⟩ := (RepAll.grow g _ h2).get q1
  obtain ⟨w, ew, r'⟩ := (RepAll.grow g _ k2).get q2
  refine ⟨⟨xs, ys, v, w, l1, l2, ev, ew⟩, fun x H3 y => ?_⟩
  obtain ⟨T, z, z', rfl, hT, rfl, y1, y2⟩ := y
  have f1 := y1 xs l1
  have f2 := y2 ys l2
  rw [ev] at f1
  rw [ew] at f2
  cases f1
  cases f2
  exact pair_new hT dom r r'
theorem yl_zipT {a b : Addr} {xs ys : List V} {ds es : List D} (h1 : ReT K O H a xs) (h2 : RepAll K O H xs ds) (k1 : ReT K O H b ys) (k2 : RepAll K O H ys es) : Yl K (RZ.ItzT K a b) (zipD ds es) (GS O H) := by
  refine ⟨fun O2 H2 g dom i d e => ?_, fun O2 H2 g => ⟨xs, ys, (h1.grow g).seq, (k1.grow g).seq, by rw [zipD_len, h2.len, k2.len]; omega⟩⟩
  have l1 := (h1.grow g).seq
  have l2 := (k1.grow g).seq
  obtain ⟨p, q, q1, q2, rfl⟩ := zipD_get ds es i d e
  obtain ⟨v, ev, r⟩ := (RepAll.grow g _ h2).get q1
  obtain ⟨w, ew, r'⟩ := (RepAll.grow g _ k2).get q2
  refine ⟨⟨xs, ys, v, w, l1, l2, ev, ew⟩, fun x H3 y => ?_⟩
  obtain ⟨T, z, z', rfl, hT, rfl, y1, y2⟩ := y
  have f1 := y1 xs l1
  have f2 := y2 ys l2
  rw [ev] at f1
  rw [ew] at f2
  cases f1
  cases f2
  exact pair_new hT dom r r'
end
def enm : List D → Res (List D)
  | [.list ds] => .ok (enumF ds 0)
  | _ => .fail
def zp : List D → Res (List D)
  | [.list a, .list b] => .ok (zipD a b)
  | [.tuple a, .tuple b] => .ok (zipD a b)
  | _ => .fail
def iEnm (m : AM) : AM := fun env => (m env).bind enm
def iZp (m : AM) : AM := fun env => (m env).bind zp
section
variable {X : Cx} {P : Pm}
theorem ri_enum {e : Expr} {m : AM} {p pos tpos : Pos} {elts : List Expr} {kk : Nat} (hg : Gl X "enumerate") (hm : X.mg "enumerate" = none) (ha : RA X P [e] m) (hs : starEach [e] X.env = [(false, eval e X.env)] := by rfl) : RIS X P (.Tuple elts kk tpos) (.Call (.Name "enumerate" p) [e] [] pos) (iEnm m) :=
  pi_imp (pi_enum hg hm ha hs) fun σ H R ⟨env, O, g, q⟩ => by
    refine ⟨env, O, g, pI.bindA q fun xs H1 ds ez s1 r1 q1 => ?_⟩
    match ds, r1, q1 with
    | [.list ds], r1, q1 =>
      obtain ⟨x, rfl, r⟩ := rep1 r1
      cases r with
      | lst h1 l h2 => exact ⟨_, _, rfl, h1.seq, q1 _ H1 (Same.refl _) (yl_enumG h2.len fun O2 H2 gg => ⟨(h1.grow gg).seq, RepAll.grow gg _ h2⟩) (by rw [enumF_len]; exact l)⟩
    | [], _, q1 => exact q1.elim
    | [.none], _, q1 => exact q1.elim
    | [.bool _], _, q1 => exact q1.elim
    | [.int _], _, q1 => exact q1.elim
    | [.str _], _, q1 => exact q1.elim
    | [.tuple _], _, q1 => exact q1.elim
    | [.dict _], _, q1 => exact q1.elim
    | a :: _ :: _, _, q1 => cases a <;> exact q1.elim
theorem zp_cases (ds : List D) : (∃ a b, ds = [.list a, .list b]) ∨ (∃ a b, ds = [.tuple a, .tuple b]) ∨ zp ds = .fail := by
  unfold zp
  split
  · exact .inl ⟨_, _, rfl⟩
  · exact .inr (.inl ⟨_, _, rfl⟩)
  · exact .inr (.inr rfl)
theorem ri_zip {e e2 : Expr} {m : AM} {p pos tpos : Pos} {elts : List Expr} {kk : Nat} (hg : Gl X "zip") (hm : X.mg "zip" = none) (ha : RA X P [e, e2] m)
    (hs : starEach [e, e2] X.env = (false, eval e X.env) :: starEach [e2] X.env := by rfl) (hpl : (backTo pos (starEach [e2] X.env)).any (·.1) = false := by rfl) : RIS X P (.Tuple elts kk tpos) (.Call (.Name "zip" p) [e, e2] [] pos) (iZp m) :=
  pi_imp (RZ.pi_zipA hg hm ha hs hpl) fun σ H R ⟨env, O, g, q⟩ => by
    refine ⟨env, O, g, pI.bindA q fun xs H1 ds ez s1 r1 q1 => ?_⟩
    rcases zp_cases ds with ⟨a, b, rfl⟩ | ⟨a, b, rfl⟩ | z
    · obtain ⟨x, y, rfl, r, r'⟩ := rep2 r1
      cases r with
      | lst h1 l h2 =>
        cases r' with
        | lst k1 l' k2 => exact ⟨_, _, _, _, rfl, .inl ⟨h1.seq, k1.seq, q1 _ H1 (Same.refl _) (yl_zipL h1 h2 k1 k2) (by rw [zipD_len]; omega)⟩⟩
    · obtain ⟨x, y, rfl, r, r'⟩ := rep2 r1
      cases r with
      | tup h1 l h2 =>
        cases r' with
        | tup k1 l' k2 => exact ⟨_, _, _, _, rfl, .inr ⟨h1.seq, k1.seq, q1 _ H1 (Same.refl _) (yl_zipT h1 h2 k1 k2) (by rw [zipD_len]; omega)⟩⟩
    · rw [z] at q1; exact q1.elim
end

/-! ### a list that a slot owns, read -/
def vals : List MV → Option (List D)
  | [] => some []
  | .val d :: r => (match vals r with
    | some ds => some (d :: ds)
    | none => none)
  | .row _ :: _ => none
theorem vals_rep {K : Frg} {O : OS} {H : Hp} : ∀ {es : List MV} {xs : List V} {fp : List Addr} {ds : List D}, MReps K O H xs es fp → vals es = some ds → RepAll K O H xs ds
  | [], _, _, _, h, e => by cases h; cases e; exact .nil
  | .val d :: es, _, _, _, h, e => by
    cases h with
    | val h1 h2 =>
      have e' : (match vals es with | some ds => some (d :: ds) | none => none) = some _ := e
      cases z : vals es with
      | some ds =>
        rw [z] at e'
        cases e'
        exact .cons h1 (vals_rep h2 z)
      | none => rw [z] at e'; cases e'
  | .row _ :: _, _, _, _, _, e => by cases e
theorem Good.own {K : Frg} {P : Pm} {O : OS} {env : Env} {σ : L2.St} {H : Hp} (g : Good K P O env σ H) {i : Nat} {es : List MV} (e : eget env i = .own es) :
    ∃ a xs fp, σ[i]? = some (some (.ref a)) ∧ H a = some (.lst xs) ∧ MReps K O H xs es fp ∧ es.length ≤ sizeLine ∧ O a := by
  obtain ⟨fp, h, _, w⟩ := g.ex
  rcases h.at_ i with ⟨q, _⟩ | ⟨o, f1, f2, f3, e1, e2, h3, _⟩
  · rw [e] at q; cases q
  · rw [e] at h3
    cases h3 with
    | own h4 l h5 => exact ⟨_, _, _, e1, h4, h5, l, (w _ (by rw [e2]; exact List.mem_append_right _ (List.mem_append_left _ List.mem_cons_self))).1⟩
def ownVals (i : Nat) : AM := fun env => match eget env i with
  | .own es => (match vals es with
    | some ds => .ok ds
    | none => .fail)
  | _ => .fail
theorem ownVals_ok {env : Env} {i : Nat} {r : Res (List D)} (h : ownVals i env = r) : (∃ es ds, eget env i = .own es ∧ vals es = some ds ∧ r = .ok ds) ∨ r = .fail := by
  unfold ownVals at h
  cases e : eget env i with
  | own es =>
    rw [e] at h
    cases z : vals es with
    | some ds => simp only [z] at h; exact .inl ⟨es, ds, rfl, z, h.symm⟩
    | none => simp only [z] at h; exact .inr h.symm
  | emp => rw [e] at h; exact .inr h.symm
  | val _ => rw [e] at h; exact .inr h.symm
section
variable {X : Cx} {P : Pm} {tg e : Expr}
theorem ric_own {i : Nat} (h : PE X e (tVar i)) : RIC X P tg e (ownVals i) := pi_imp (pi_list h) fun σ H R ⟨env, O, g, q⟩ => by
  rcases ownVals_ok (rfl : ownVals i env = _) with ⟨es, ds, e1, e2, e3⟩ | z
  · rw [e3] at q
    obtain ⟨a, xs, fp, q1, q2, q3, q4, q5⟩ := g.own e1
    have r := vals_rep q3 e2
    refine ⟨_, q1, a, rfl, ⟨xs, .of q2⟩, q _ H (Same.refl _) ⟨fun O2 H2 gg dom k d ek => ?_, fun O2 H2 gg => ⟨xs, .of (gg.1 _ _ q2), by rw [r.len]; exact Nat.le_refl _⟩⟩ (by rw [← r.len, q3.len]; exact q4)⟩
    have r2 := RepAll.grow gg.gs _ r
    obtain ⟨v, ev, rv⟩ := r2.get ek
    refine ⟨⟨xs, v, .of (gg.1 _ _ q2), ev⟩, fun x H3 y => ?_⟩
    obtain ⟨rfl, y⟩ := y
    have f := y xs (.of (gg.1 _ _ q2))
    rw [ev] at f
    cases f
    exact ⟨Same.refl _, rv⟩
  · rw [z] at q; exact q.elim
def iEnmO (i : Nat) : AM := fun env => (ownVals i env).bind fun ds => .ok (enumF ds 0)
theorem ric_enumO {i : Nat} {p pos tpos : Pos} {elts : List Expr} {kk : Nat} (hg : Gl X "enumerate") (hm : X.mg "enumerate" = none) (h : PE X e (tVar i)) (hs0 : starEach [e] X.env = (false, eval e X.env) :: starEach [] X.env := by rfl) (hs : starEach [e] X.env = [(false, eval e X.env)] := by rfl) :
    RIC X P (.Tuple elts kk tpos) (.Call (.Name "enumerate" p) [e] [] pos) (iEnmO i) := pi_imp (pi_enum hg hm (pa_cons h pa_nil hs0) hs) fun σ H R ⟨env, O, g, q⟩ => by
  unfold iEnmO at q
  rcases ownVals_ok (rfl : ownVals i env = _) with ⟨es, ds, e1, e2, e3⟩ | z
  · rw [e3] at q
    obtain ⟨a, xs, fp, q1, q2, q3, q4, q5⟩ := g.own e1
    have r := vals_rep q3 e2
    refine ⟨_, q1, a, xs, rfl, .of q2, q _ H (Same.refl _) (yl_enumG r.len fun O2 H2 gg => ⟨.of (gg.1 _ _ q2), RepAll.grow gg.gs _ r⟩) (by rw [enumF_len, ← r.len, q3.len]; exact q4)⟩
  · rw [z] at q; exact q.elim
end

/-! ### comprehensions -/
def lcGo (bd : BdM) (mt : BM) (me : EM) (env : Env) : List D → Res (List D)
  | [] => .ok []
  | d :: r => match bd d env with
    | none => .fail
    | some e1 => (mt e1).bind fun b => match b with
      | true => (me e1).bind fun v => (lcGo bd mt me env r).bind fun out => .ok (v :: out)
      | false => lcGo bd mt me env r
def lcOut (bd : BdM) (mt : BM) (me : EM) (vs : List Nat) (mi : AM) : AM := fun env => (mi env).bind fun ds => match lcGo bd mt me (ewipe env vs) ds with
  | .ok out => .ok out
  | _ => .fail
/-- a new list -/
def pF (K : Frg) (P : Pm) (O : OS) (H : Hp) (Q : VK) : Res (List D) → Prop
  | .ok ds => ∀ p xs H', H p = none → Same H H' → H' p = some (.lst xs) → RepAll K (fun a => O a ∨ a = p) H' xs ds → ds.length ≤ sizeLine → Q (.ref p) H'
  | .exc c => pXc P c H
  | .fail => False
def tMF (K : Frg) (P : Pm) (m : AM) : TE := fun σ H Q => ∃ env O, Good K P O env σ H ∧ pF K P O H Q (m env)
abbrev REF (X : Cx) (P : Pm) (e : Expr) (m : AM) : Prop := PE X e (tMF X.K P m)
def asList (m : AM) : EM := fun env => (m env).bind fun ds => .ok (.list ds)
abbrev Pm.nox (P : Pm) : Pm := { P with E := E0 }
def bTrue : BM := fun _ => .ok true
section
variable {X : Cx} {P : Pm}
theorem re_of_new {e : Expr} {m : AM} (h : REF X P e m) : RE X P e (asList m) := pe_imp h fun σ H Q ⟨env, O, g, q⟩ => by
  refine ⟨env, O, g, ?_⟩
  unfold asList at q
  cases z : m env with
  | ok ds =>
    rw [z] at q
    exact fun p xs H' hp s hx r l => q _ H' s (.lst ⟨hx, fun zz => g.dom p zz hp⟩ l (r.less fun _ zz => .inl zz))
  | exc c => rw [z] at q; exact q
  | fail => rw [z] at q; exact q
abbrev RTs (X : Cx) (P : Pm) (ifs : List Expr) (m : BM) : Prop := PTs X ifs (tMB X.K P m)
theorem pts_imp {ifs : List Expr} {t t' : TT} (h : PTs X ifs t) (k : ∀ σ H Q, t' σ H Q → t σ H Q) : PTs X ifs t' := ⟨fun pins s σ H Q I q => h.run pins s σ H Q I (k σ H Q q)⟩
theorem rts_nil : RTs X P [] bTrue := pts_imp pts_nil fun σ H Q ⟨env, O, g, q⟩ => q H (Same.refl _)
theorem rts_one {c : Expr} {m : BM} (h : RT X P c m) : RTs X P [c] m := pts_one h
theorem lc_sound {g : TG} {mi : AM} {bd : BdM} {mt : BM} {me : EM} {is vs : List Nat} (hB : BG X.K P.nox g bd is) (hsub : ∀ i ∈ is, i ∈ vs) {σ : L2.St} {H : Hp} {Q : VK} (h : tMF X.K P (lcOut bd mt me vs mi) σ H Q) :
    tLc (tI X.K P GC mi) g (tMB X.K P.nox mt) (tM X.K P.nox me) vs σ H Q := by
  obtain ⟨env, O, gd, q⟩ := h
  refine ⟨env, O, gd, ?_⟩
  unfold lcOut at q
  cases z : mi env with
  | exc c => rw [z] at q; exact q
  | fail => rw [z] at q; exact q
  | ok ds =>
    rw [z] at q
    have q' : pF X.K P O H Q (match lcGo bd mt me (ewipe env vs) ds with | .ok out => .ok out | _ => .fail) := q
    cases z2 : lcGo bd mt me (ewipe env vs) ds with
    | exc c => rw [z2] at q'; exact q'.elim
    | fail => rw [z2] at q'; exact q'.elim
    | ok out =>
      rw [z2] at q'
      intro J H1 s1 Y lz Dn hD
      -- the invariant
      refine ⟨fun i m H2 => m = ds.length - i ∧ i ≤ ds.length ∧ ∃ acc outs rest, H2 Dn = some (.lst acc) ∧ Same H1 H2 ∧ RepAll X.K (fun a => O a ∨ a = Dn) H2 acc outs ∧ outs.length ≤ i ∧ lcGo bd mt me (ewipe env vs) (ds.drop i) = .ok rest ∧ outs ++ rest = out,
        ⟨ds.length, by simp, Nat.zero_le _, [], [], out, upd_same, same_upd _ hD, .nil, Nat.zero_le _, z2, rfl⟩, ?_⟩
      rintro i m H2 ⟨rfl, hi2, acc, outs, rest, hacc, sm, rr, lo, hgo, hout⟩
      have gc : GC O H1 (fun a => O a ∨ a = Dn) H2 := ⟨sm, fun b zb => zb.elim .inl fun zb => .inr (by rw [zb]; exact hD)⟩
      have gW : Good X.K P.nox (fun a => O a ∨ a = Dn) (ewipe env vs) (L2.wipe σ vs) H2 := (((gd.grow s1).wishE E0).wipe _).more hD sm ⟨_, hacc⟩
      by_cases hlt : i < ds.length
      · have ed : ds.drop i = ds[i] :: ds.drop (i + 1) := List.drop_eq_getElem_cons hlt
        rw [ed] at hgo
        obtain ⟨y1, y2⟩ := Y.go _ H2 gc gW.dom i ds[i] (List.getElem?_eq_getElem hlt)
        refine .inr ⟨y1, fun H' => ∃ acc outs rest, H' Dn = some (.lst acc) ∧ Same H1 H' ∧ RepAll X.K (fun a => O a ∨ a = Dn) H' acc outs ∧ outs.length ≤ i + 1 ∧ lcGo bd mt me (ewipe env vs) (ds.drop (i + 1)) = .ok rest ∧ outs ++ rest = out,
          fun H' hN => ⟨ds.length - (i + 1), by omega, rfl, hlt, hN⟩, fun x H3 yy => ?_⟩
        obtain ⟨s3, rx⟩ := y2 x H3 yy
        have hgo' : (match bd ds[i] (ewipe env vs) with
          | none => .fail
          | some e1 => (mt e1).bind fun b => match b with
            | true => (me e1).bind fun v => (lcGo bd mt me (ewipe env vs) (ds.drop (i + 1))).bind fun out => .ok (v :: out)
            | false => lcGo bd mt me (ewipe env vs) (ds.drop (i + 1))) = Res.ok rest := hgo
        cases zb : bd ds[i] (ewipe env vs) with
        | none => rw [zb] at hgo'; cases hgo'
        | some e1 =>
          rw [zb] at hgo'
          refine hB.run _ H3 _ _ e1 x ds[i] _ (gW.grow s3) rx zb fun σ2 g2 ag => ⟨wipe_agree ag hsub, ?_⟩
          refine ⟨e1, _, g2, ?_⟩
          cases zt : mt e1 with
          | exc c => simp only [zt] at hgo'; cases hgo'
          | fail => simp only [zt] at hgo'; cases hgo'
          | ok b =>
            simp only [zt] at hgo'
            intro H4 s4
            cases b with
            | false =>
              refine iteF ⟨acc, outs, rest, (s3.trans s4) _ _ hacc, sm.trans (s3.trans s4), rr.same (s3.trans s4), Nat.le_succ_of_le lo, hgo', hout⟩
            | true =>
              refine iteT ⟨e1, _, g2.grow s4, ?_⟩
              have hgo2 : ((me e1).bind fun v => (lcGo bd mt me (ewipe env vs) (ds.drop (i + 1))).bind fun out => .ok (v :: out)) = Res.ok rest := hgo'
              cases ze : me e1 with
              | exc c => rw [ze] at hgo2; cases hgo2
              | fail => rw [ze] at hgo2; cases hgo2
              | ok v =>
                rw [ze] at hgo2
                have hgo3 : ((lcGo bd mt me (ewipe env vs) (ds.drop (i + 1))).bind fun out => .ok (v :: out)) = Res.ok rest := hgo2
                cases zr : lcGo bd mt me (ewipe env vs) (ds.drop (i + 1)) with
                | exc c => rw [zr] at hgo3; cases hgo3
                | fail => rw [zr] at hgo3; cases hgo3
                | ok rest' =>
                  rw [zr] at hgo3
                  cases hgo3
                  intro y H5 s5 ry
                  have sAll := s3.trans (s4.trans s5)
                  have h5 : H5 Dn = some (.lst acc) := sAll _ _ hacc
                  have lacc : acc.length = outs.length := rr.len
                  refine ⟨acc, h5, by omega, acc ++ [y], outs ++ [v], rest', upd_same, fun b o qb => ?_, ?_, by rw [List.length_append]; show outs.length + 1 ≤ i + 1; omega, rfl, by rw [← hout, List.append_assoc]; rfl⟩
                  · rw [upd_ne (ne_of_none qb hD)]
                    exact sAll _ _ (sm _ _ qb)
                  · have gr : Grow (fun a => O a ∨ a = Dn) H5 (fun a => O a ∨ a = Dn) (upd H5 Dn (.lst (acc ++ [y]))) := ⟨fun b o qb nb => by rw [upd_ne fun e => nb (.inr e)]; exact qb, fun b zb => .inl zb⟩
                    exact RepAll.grow gr _ ((rr.same sAll).append (.one ry))
      · have e : i = ds.length := by omega
        subst e
        rw [List.drop_length] at hgo
        cases hgo
        rw [List.append_nil] at hout
        subst hout
        refine .inl ⟨Y.stop _ H2 gc, ?_⟩
        refine q' Dn acc H2 ?_ (s1.trans sm) hacc rr (Nat.le_trans lo lz)
        cases zz : H Dn with
        | none => rfl
        | some o => rw [s1 _ _ zz] at hD; cases hD
theorem reF_lc {elt tg iter : Expr} {ifs : List Expr} {scope : Scope} {own : List (Str × Nat)} {pos : Pos} {g : TG} {mi : AM} {bd : BdM} {mt : BM} {me : EM} {is : List Nat} (hc : X.calm = true) (hN : X.N.Nodup) (hi : RIC X P tg iter mi) (ok : BlkOk X.N X.env.scope scope own)
    (hB : BG X.K P.nox g bd is) (hsub : ∀ i ∈ is, i ∈ own.map (·.2))
    (hg : ∀ (s : Shared) (H : Hp) (C : Addr) (cl : List (Str × Addr)) (fp : List Addr), PG (X.blk s H scope (compEnvC scope cl C X.env) fp) tg g) (ht : ∀ (s : Shared) (H : Hp) (C : Addr) (cl : List (Str × Addr)) (fp : List Addr), RTs (X.blk s H scope (compEnvC scope cl C X.env) fp) P.nox ifs mt)
    (he : ∀ (s : Shared) (H : Hp) (C : Addr) (cl : List (Str × Addr)) (fp : List Addr), RE (X.blk s H scope (compEnvC scope cl C X.env) fp) P.nox elt me) (hs : ∀ x, foldedSetIterable iter X.env x = pure x := by intro _; rfl) :
    REF X P (.ListComp elt [⟨tg, iter, ifs, 0⟩] scope pos) (lcOut bd mt me (own.map (·.2)) mi) := pe_imp (pe_lc (te := tM X.K P.nox me) (tt := tMB X.K P.nox mt) hc hN hi ok hg ht he hs) fun σ H Q h => lc_sound hB hsub h
end
end Rf

/-! Rf6: statements, lists that slots own -/
namespace Rf
open PySem PySem.Spec PyProof.Rows L2

inductive SRes where
  | next (e : Env)
  | ret (d : D)
  | brk (e : Env)
  | cnt (e : Env)
  | exc (c : Nat)
  | fail
abbrev SM := Env → SRes
def pN (K : Frg) (P : Pm) (O : OS) (H : Hp) (e : Env) (N : L2.St → Hp → Prop) : Prop := ∀ (σ' : L2.St) (O' : OS) (H' : Hp), Good K P O' e σ' H' → Grow O H O' H' → N σ' H'
def pS (K : Frg) (P : Pm) (O : OS) (H : Hp) (Dd : Ends) : SRes → Prop
  | .next e => pN K P O H e Dd.nx
  | .brk e => pN K P O H e Dd.bk
  | .cnt e => pN K P O H e Dd.ct
  | .ret v => ∀ x H', Same P.H0 H' → Rep K P.O0 H' x v → Dd.rt x H'
  | .exc c => pXc P c H
  | .fail => False
def tS (K : Frg) (P : Pm) (m : SM) : TS := fun Dd σ H => ∃ env O, Good K P O env σ H ∧ pS K P O H Dd (m env)
abbrev RS (X : Cx) (P : Pm) (st : Stmt) (m : SM) : Prop := PS X st (tS X.K P m)
abbrev RSs (X : Cx) (P : Pm) (st : List Stmt) (m : SM) : Prop := PSs X st (tS X.K P m)
section
variable {K : Frg} {P : Pm} {O O2 : OS} {H H2 : Hp} {Dd : Ends} {r : SRes}
theorem pN.up {e : Env} {N : L2.St → Hp → Prop} (h : pN K P O H e N) (g : Grow O H O2 H2) : pN K P O2 H2 e N := fun σ' O' H' gd gr => h σ' O' H' gd (g.trans gr)
theorem pS.up (h : pS K P O H Dd r) (g : Grow O H O2 H2) : pS K P O2 H2 Dd r := by
  cases r with
  | next e => exact pN.up h g
  | brk e => exact pN.up h g
  | cnt e => exact pN.up h g
  | ret v => exact h
  | exc c => exact h
  | fail => exact h
/-- what follows a value -/
def sBind {α : Type} (m : Res α) (k : α → SRes) : SRes := match m with
  | .ok a => k a
  | .exc c => .exc c
  | .fail => .fail
theorem pS.bindD {m : Res D} {k : D → SRes} {R : VK} (h : pS K P O H Dd (sBind m k)) (f : ∀ x H' a, m = .ok a → Same H H' → Rep K O H' x a → pS K P O H' Dd (k a) → R x H') : pD K P O H R m := by
  cases m with
  | ok a => exact fun x H' s r => f x H' a rfl s r (pS.up h (.of_same s))
  | exc c => exact h
  | fail => exact h
theorem pS.bindB {m : Res Bool} {k : Bool → SRes} {R : Bool → Hp → Prop} (h : pS K P O H Dd (sBind m k)) (f : ∀ H' a, m = .ok a → Same H H' → pS K P O H' Dd (k a) → R a H') : pB P H R m := by
  cases m with
  | ok a => exact fun H' s => f H' a rfl s (pS.up h (.of_same s))
  | exc c => exact h
  | fail => exact h
end

def mSeq (a b : SM) : SM := fun env => match a env with
  | .next e => b e
  | .ret d => .ret d
  | .brk e => .brk e
  | .cnt e => .cnt e
  | .exc c => .exc c
  | .fail => .fail
def sNext : SM := fun env => .next env
def sIf (c : BM) (a b : SM) : SM := fun env => sBind (c env) fun k => match k with
  | true => a env
  | false => b env
def sRet (m : EM) : SM := fun env => sBind (m env) .ret
def sSet (i : Nat) (m : EM) : SM := fun env => sBind (m env) fun d => .next (eput env i (.val d))
def sCont : SM := fun env => .cnt env
def sBrk : SM := fun env => .brk env
def sExc (c : Nat) : SM := fun _ => .exc c
section
variable {X : Cx} {P : Pm} {st : Stmt} {sts : List Stmt} {a b m : SM} {e : Expr} {pos : Pos}
theorem rss_nil : RSs X P [] sNext := pss_imp pss_nil fun Dd σ H ⟨env, O, g, q⟩ => q σ O H g .refl
theorem rss_cons (h1 : RS X P st a) (h2 : RSs X P sts b) : RSs X P (st :: sts) (mSeq a b) := pss_imp (pss_cons h1 h2) fun Dd σ H ⟨env, O, g, q⟩ => by
  refine ⟨env, O, g, ?_⟩
  unfold mSeq at q
  cases z : a env with
  | next e1 =>
    rw [z] at q
    exact fun σ' O' H' g' gr => ⟨e1, O', g', pS.up q gr⟩
  | ret d => rw [z] at q; exact q
  | brk e1 => rw [z] at q; exact q
  | cnt e1 => rw [z] at q; exact q
  | exc c => rw [z] at q; exact q
  | fail => rw [z] at q; exact q
theorem rss_one (h1 : RS X P st a) : RSs X P [st] a := pss_one h1
theorem rs_if {c : Expr} {p q : List Stmt} {mc : BM} (hc : RT X P c mc) (ha : RSs X P p a) (hb : RSs X P q b) : RS X P (.If c p q pos) (sIf mc a b) := ps_imp (ps_if hc ha hb) fun Dd σ H ⟨env, O, g, q⟩ => by
  refine ⟨env, O, g, pS.bindB q fun H1 k _ s1 q1 => ?_⟩
  cases k with
  | true => exact iteT ⟨env, O, g.grow s1, q1⟩
  | false => exact iteF ⟨env, O, g.grow s1, q1⟩
theorem rs_ret {m : EM} (he : RE X P e m) : RS X P (.Return (some e) pos) (sRet m) := ps_imp (ps_ret he) fun Dd σ H ⟨env, O, g, q⟩ =>
  ⟨env, O, g, pS.bindD q fun x H1 d _ s1 r1 q1 => q1 x H1 (g.grow s1).same (r1.less g.sub)⟩
theorem rs_set {i : Nat} {x : Str} {m : EM} {pos' : Pos} (hN : X.N.Nodup) (hi : X.N[i]? = some x) (hx : Loc X.env.scope x) (he : RE X P e m) (hs : swapsWith e (some (.Name x pos')) pos.line X.env = pure false := by rfl) (hf : X.fn x = true ∨ X.env.scope.names.lookup x = some .local := by first | exact .inl rfl | exact .inr rfl | assumption) :
    RS X P (.Assign [.Name x pos'] e pos) (sSet i m) := ps_imp (ps_set hN hi hx he hs hf) fun Dd σ H ⟨env, O, g, q⟩ =>
  ⟨env, O, g, pS.bindD q fun v H1 d _ s1 r1 q1 => q1 _ O H1 ((g.grow s1).put i r1) .refl⟩
theorem rs_pass : RS X P (.Pass pos) sNext := ps_imp ps_pass fun Dd σ H ⟨env, O, g, q⟩ => q σ O H g .refl
theorem rs_cont : RS X P (.Continue pos) sCont := ps_imp ps_continue fun Dd σ H ⟨env, O, g, q⟩ => q σ O H g .refl
theorem rs_brk : RS X P (.Break pos) sBrk := ps_imp ps_break fun Dd σ H ⟨env, O, g, q⟩ => q σ O H g .refl
/-- a value unpacked -/
def sUnp (bd : BdM) (m : EM) : SM := fun env => sBind (m env) fun d => match bd d env with
  | some e => .next e
  | none => .fail
theorem rs_unp {tg : Expr} {g : TG} {bd : BdM} {is : List Nat} {m : EM} (he : RE X P e m) (hg : PG X tg g) (hB : BG X.K P g bd is) (hs : swapsWithSole [tg] e pos.line X.env = pure false := by rfl) (hw : swappedStores [tg] e X.env = pure none := by rfl)
    (h1 : (assignEach [tg] X.env).map (·.2) = [assign tg X.env] := by rfl) : RS X P (.Assign [tg] e pos) (sUnp bd m) := ps_imp (ps_asg he hg hs hw h1) fun Dd σ H ⟨env, O, gd, q⟩ =>
  ⟨env, O, gd, pS.bindD q fun v H1 d _ s1 r1 q1 => by
    cases z : bd d env with
    | none => simp only [z] at q1; exact q1.elim
    | some e1 =>
      simp only [z] at q1
      exact hB.run O H1 σ env e1 v d _ (gd.grow s1) r1 z fun σ' g' _ => q1 σ' O H1 g' .refl⟩
/-- raise -/
theorem rs_raise {t : L2.St → Hp → XK → Prop} {c : Nat} (hc : X.calm = true) (tk : Takes X (fun cls d _ H => P.E cls d H)) (he : PMk X e t) (ht : ∀ σ H Q, Q (.ref (P.xc c)) none H → t σ H Q) : RS X P (.Raise (some e) none pos) (sExc c) :=
  ps_imp (ps_raise hc tk he) fun Dd σ H ⟨env, O, g, q⟩ => ht σ H _ (q H g.same)
/-- X() of an own class without an __init__ -/
theorem pmk_own0 {C : Addr} {bmB : List Value} {B newId initId : String} {x : Str} {p : Pos} (F : ExcBaseFacts B newId initId bmB) (q : PySem.W.excIn X.K C bmB newId = true) (gC : X.mg x = some (.ref C)) (kC : PySem.W.keepIn X.K (.ref C) = true) (r : Raises X (.ref C)) (hg : Gl X x)
    (hdb : (x == ("__debug__" : Str)) = false := by decide) : PMk X (.Call (.Name x p) [] [] pos) (fun _ H Q => Q (.ref C) none H) := by
  intro pins s σ H Q I h
  refine wpAny_Call_Name_kw (ld_glob I hg gC ?_ hdb)
  refine PySem.W.callWith_K0 I.kIn kC ?_
  obtain ⟨bm, N, nm, qn, bs, hdct, sn, sub, ab, col, dd, k0, k1, k2, k3, k5, mN, hC, hN, hni, T⟩ := exc_obj I.kIn q
  refine wpAny_call_exc_subT F T hC hN hni (fun h' e hm => ?_) (by show 0 ≤ sizeLine; rw [sizeLine_eq]; omega)
  exact mk_of I hm r h (I.hok.gone hm.new)
end

/-! ### for, while -/
def forGo (bd : BdM) (mb : SM) : List D → Env → SRes
  | [], env => .next env
  | d :: r, env => match bd d env with
    | none => .fail
    | some e1 => match mb e1 with
      | .next e2 => forGo bd mb r e2
      | .cnt e2 => forGo bd mb r e2
      | .brk e2 => .next e2
      | .ret v => .ret v
      | .exc c => .exc c
      | .fail => .fail
def sFor (mi : AM) (bd : BdM) (mb : SM) : SM := fun env => sBind (mi env) fun ds => forGo bd mb ds env
def whileGo (mc : BM) (mb : SM) : Nat → Env → SRes
  | 0, _ => .fail
  | n + 1, env => sBind (mc env) fun k => match k with
    | false => .next env
    | true => match mb env with
      | .next e => whileGo mc mb n e
      | .cnt e => whileGo mc mb n e
      | .brk e => .next e
      | .ret v => .ret v
      | .exc c => .exc c
      | .fail => .fail
def sWhile (fuel : Nat) (mc : BM) (mb : SM) : SM := fun env => whileGo mc mb fuel env
section
variable {X : Cx} {P : Pm} {pos : Pos}
theorem rs_for {tg iter : Expr} {body : List Stmt} {g : TG} {mi : AM} {bd : BdM} {mb : SM} {is : List Nat} (hp : PassesOwn (model X.prog X.w) X.A X.env X.xe) (hc : X.calm = true) (hi : RIS X P tg iter mi) (hg : PG X tg g) (hB : BG X.K P g bd is) (hb : RSs X P body mb)
    (hs : ∀ x, foldedSetIterable iter X.env x = pure x := by intro _; rfl) : RS X P (.For tg iter body [] pos) (sFor mi bd mb) := ps_imp (ps_for hp hc hi hg hb hs) fun Dd σ H ⟨env, O, gd, q⟩ => by
  refine ⟨env, O, gd, ?_⟩
  unfold sFor at q
  cases z : mi env with
  | exc c => rw [z] at q; exact q
  | fail => rw [z] at q; exact q
  | ok ds =>
    rw [z] at q
    have q0 : pS X.K P O H Dd (forGo bd mb ds env) := q
    intro J H1 s1 Y lz
    refine ⟨fun i m σ2 H2 => m = ds.length - i ∧ i ≤ ds.length ∧ ∃ e2 O2, Good X.K P O2 e2 σ2 H2 ∧ Grow O H1 O2 H2 ∧ pS X.K P O2 H2 Dd (forGo bd mb (ds.drop i) e2), ⟨ds.length, by simp, Nat.zero_le _, env, O, gd.grow s1, .refl, pS.up q0 (.of_same s1)⟩, ?_⟩
    rintro i m σ2 H2 ⟨rfl, hi2, e2, O2, g2, gr, q2⟩
    by_cases hlt : i < ds.length
    · have ed : ds.drop i = ds[i] :: ds.drop (i + 1) := List.drop_eq_getElem_cons hlt
      rw [ed] at q2
      obtain ⟨y1, y2⟩ := Y.go O2 H2 gr g2.dom i ds[i] (List.getElem?_eq_getElem hlt)
      refine .inr ⟨y1, fun σ3 H3 => ∃ e3 O3, Good X.K P O3 e3 σ3 H3 ∧ Grow O H1 O3 H3 ∧ pS X.K P O3 H3 Dd (forGo bd mb (ds.drop (i + 1)) e3), fun σ3 H3 hN => ⟨ds.length - (i + 1), by omega, rfl, hlt, hN⟩, fun x H3 yy => ?_⟩
      obtain ⟨s3, rx⟩ := y2 x H3 yy
      have q3 : pS X.K P O2 H2 Dd (match bd ds[i] e2 with
        | none => .fail
        | some e1 => match mb e1 with
          | .next e2 => forGo bd mb (ds.drop (i + 1)) e2
          | .cnt e2 => forGo bd mb (ds.drop (i + 1)) e2
          | .brk e2 => .next e2
          | .ret v => .ret v
          | .exc c => .exc c
          | .fail => .fail) := q2
      cases zb : bd ds[i] e2 with
      | none => rw [zb] at q3; exact q3.elim
      | some e1 =>
        simp only [zb] at q3
        refine hB.run O2 H3 σ2 e2 e1 x ds[i] _ (g2.grow s3) rx zb fun σ4 g4 _ => ⟨e1, O2, g4, ?_⟩
        have gr3 : Grow O H1 O2 H3 := gr.trans (.of_same s3)
        have up : ∀ {r : SRes}, pS X.K P O2 H2 Dd r → pS X.K P O2 H3 Dd r := fun h => pS.up h (.of_same s3)
        cases zm : mb e1 with
        | next e5 =>
          simp only [zm] at q3
          exact fun σ' O' H' g' gr' => ⟨e5, O', g', gr3.trans gr', pS.up (up q3) gr'⟩
        | cnt e5 =>
          simp only [zm] at q3
          exact fun σ' O' H' g' gr' => ⟨e5, O', g', gr3.trans gr', pS.up (up q3) gr'⟩
        | brk e5 => simp only [zm] at q3; exact up q3
        | ret v => simp only [zm] at q3; exact q3
        | exc c => simp only [zm] at q3; exact q3
        | fail => simp only [zm] at q3; exact q3
    · have e : i = ds.length := by omega
      subst e
      rw [List.drop_length] at q2
      exact .inl ⟨Y.stop O2 H2 gr, q2 σ2 O2 H2 g2 .refl⟩
theorem rs_while {c : Expr} {body : List Stmt} {mc : BM} {mb : SM} (fuel : Nat) (hp : PassesOwn (model X.prog X.w) X.A X.env X.xe) (hc : RT X P c mc) (hb : RSs X P body mb) : RS X P (.While c body [] pos) (sWhile fuel mc mb) :=
  ps_imp (ps_while hp hc hb) fun Dd σ H ⟨env, O, gd, q⟩ => by
    refine ⟨fun m σ2 H2 => ∃ e2 O2, Good X.K P O2 e2 σ2 H2 ∧ pS X.K P O2 H2 Dd (whileGo mc mb m e2), ⟨fuel, env, O, gd, q⟩, ?_⟩
    rintro m σ2 H2 ⟨e2, O2, g2, q2⟩
    refine ⟨e2, O2, g2, ?_⟩
    cases m with
    | zero => exact q2.elim
    | succ m =>
      have q3 : pS X.K P O2 H2 Dd (sBind (mc e2) fun k => match k with
        | false => .next e2
        | true => match mb e2 with
          | .next e => whileGo mc mb m e
          | .cnt e => whileGo mc mb m e
          | .brk e => .next e
          | .ret v => .ret v
          | .exc c => .exc c
          | .fail => .fail) := q2
      refine pS.bindB q3 fun H3 k _ s3 q4 => ?_
      cases k with
      | false => exact iteF (q4 σ2 O2 H3 (g2.grow s3) .refl)
      | true =>
        refine iteT ⟨fun σ4 H4 => ∃ e4 O4, Good X.K P O4 e4 σ4 H4 ∧ pS X.K P O4 H4 Dd (whileGo mc mb m e4), fun σ4 H4 hN => ⟨m, Nat.lt_succ_self m, hN⟩, e2, O2, g2.grow s3, ?_⟩
        have q5 : pS X.K P O2 H3 Dd (match mb e2 with
          | .next e => whileGo mc mb m e
          | .cnt e => whileGo mc mb m e
          | .brk e => .next e
          | .ret v => .ret v
          | .exc c => .exc c
          | .fail => .fail) := q4
        cases zm : mb e2 with
        | next e5 => simp only [zm] at q5; exact fun σ' O' H' g' gr' => ⟨e5, O', g', pS.up q5 gr'⟩
        | cnt e5 => simp only [zm] at q5; exact fun σ' O' H' g' gr' => ⟨e5, O', g', pS.up q5 gr'⟩
        | brk e5 => simp only [zm] at q5; exact q5
        | ret v => simp only [zm] at q5; exact q5
        | exc c => simp only [zm] at q5; exact q5
        | fail => simp only [zm] at q5; exact q5
end

/-! ### a def's body -/
/-- the answer: what is returned, None at the end -/
def outOf : SRes → Res D
  | .ret d => .ok d
  | .next _ => .ok .none
  | .exc c => .exc c
  | _ => .fail
def padE : Nat → List D → Env
  | n, [] => List.replicate n .emp
  | 0, _ => []
  | n + 1, d :: r => .val d :: padE n r
/-- the mirror of a def of so many names -/
def fnM (n : Nat) (m : SM) : List D → Res D := fun ds => outOf (m (padE n ds))
theorem envRep_pad {K : Frg} {O : OS} {H : Hp} : ∀ (n : Nat) {vs : List V} {ds : List D}, vs.length ≤ n → RepAll K O H vs ds → EnvRep K O H (vs.map some ++ List.replicate (n - vs.length) none) (padE n ds) []
  | 0, vs, ds, hl, r => by
    have e : vs = [] := List.eq_nil_of_length_eq_zero (by omega)
    subst e
    cases r
    exact .nil
  | n + 1, [], _, hl, r => by
    cases r
    have h : ∀ k : Nat, EnvRep K O H (List.replicate k none) (List.replicate k Slot.emp) [] := by
      intro k
      induction k with
      | zero => exact .nil
      | succ k ih => exact .cons .emp ih
    exact h (n + 1)
  | n + 1, v :: vs, _, hl, r => by
    cases r with
    | cons h1 h2 =>
      have q := envRep_pad n (by simpa using hl) h2
      have z : EnvRep K O H (some v :: (vs.map some ++ List.replicate (n - vs.length) none)) (.val _ :: padE n _) ([] ++ []) := .cons (.val h1) q
      have e : n + 1 - (v :: vs).length = n - vs.length := by simp
      rw [e]
      exact z
theorem start_good {K : Frg} {P : Pm} {vs : List V} {ds : List D} {H : Hp} {O : OS} (hO : P.O0 = O) (hH : P.H0 = H) (dom : ∀ a, O a → ∃ xs, H a = some (.lst xs)) (r : RepAll K O H vs ds) {N : List Str} (hl : vs.length ≤ N.length) : Good K P O (padE N.length ds) (L2.start N vs) H := by
  subst hO hH
  refine ⟨⟨[], envRep_pad N.length hl r, List.Pairwise.nil, fun a ha => by cases ha⟩, fun a z => z, dom, Same.refl _, fun a z e => ?_⟩
  obtain ⟨xs, q⟩ := dom a z
  rw [q] at e; cases e
/-- THE RULE for a def -/
theorem fn_ok {Pr : Program} {w : World} {K : Frg} {mg : Str → Option Value} {base : Heap} {x qual : Str} {params : Arguments} {body : List Stmt} {scope : Scope} {f : Addr} {fd : FuncData} {N ps : List Str} {k : Nat} {xc : Nat → Addr} {m : SM}
    (F : FunD K x qual params body scope [] [] f fd) (S : FnScope N ps scope) (hn : ps.length ≤ N.length)
    (hb : ∀ (cdv : Value) (A : Around) (outer : List PySem.Env) (s : Shared) (H : Hp) (E : XK) (O : OS), Room k (A.deeper (envOfC qual scope s.heap.objs.size f cdv)) → RSs (cxOf (L2.CX Pr w) Pr w K mg base N qual scope f cdv A outer s H E) ⟨E, O, H, xc⟩ body m) :
    FnOk Pr w K mg base (L2.CX Pr w) (k + 1) f fd ps (spM K xc ps.length (fnM N.length m)) := by
  refine F.ok S (fun vs H Q E h => ?_) (fun cdv A outer s H vs Q E hr h => ?_)
  · obtain ⟨_, _, _, _, l, _⟩ := h
    exact l
  · obtain ⟨O, ds, dom, r, l, q⟩ := h
    refine ⟨_, hb cdv A outer s H E O hr, padE N.length ds, O, start_good rfl rfl dom r (by omega), ?_⟩
    unfold fnM at q
    cases z : m (padE N.length ds) with
    | ret d => rw [z] at q; exact fun x H' s r => q x H' s r
    | next e => rw [z] at q; exact fun σ' O' H' g' _ => q .non H' g'.same .non
    | exc c => rw [z] at q; exact q
    | brk e => rw [z] at q; exact q.elim
    | cnt e => rw [z] at q; exact q.elim
    | fail => rw [z] at q; exact q.elim
end Rf

/-! Rf7: lists that slots own -/
namespace Rf
open PySem PySem.Spec PyProof.Rows L2

theorem set_same {σ : L2.St} {i : Nat} {o : Option V} (h : σ[i]? = some o) : σ.set i o = σ := by
  apply List.ext_getElem?
  intro j
  by_cases e : i = j
  · subst e
    obtain ⟨hi, _⟩ := List.getElem?_eq_some_iff.mp h
    rw [List.getElem?_set_self hi, h]
  · rw [List.getElem?_set_ne e]
theorem nodup_swap {α : Type} {f1 f2 f2' f3 : List α} (h : (f1 ++ (f2 ++ f3)).Nodup) (s : f2'.Sublist f2) : (f1 ++ (f2' ++ f3)).Nodup :=
  h.sublist (List.Sublist.append (List.Sublist.refl _) (List.Sublist.append s (List.Sublist.refl _)))
theorem nodup_parts {α : Type} {f1 f2 f3 : List α} (h : (f1 ++ (f2 ++ f3)).Nodup) : f2.Nodup ∧ (∀ a ∈ f1, a ∉ f2) ∧ ∀ a ∈ f3, a ∉ f2 := by
  obtain ⟨_, h2, h3⟩ := List.nodup_append.mp h
  obtain ⟨h4, _, h5⟩ := List.nodup_append.mp h2
  exact ⟨h4, fun a ha hb => h3 a ha a (List.mem_append_left _ hb) rfl, fun a ha hb => h5 a hb a ha rfl⟩
section
variable {K : Frg} {P : Pm} {O : OS} {env : Env} {σ : L2.St} {H : Hp}
/-- a slot's own list: what it is, and what may be written into it -/
theorem Good.wr (g : Good K P O env σ H) {i : Nat} {es : List MV} (e : eget env i = .own es) :
    ∃ a xs fp, σ[i]? = some (some (.ref a)) ∧ H a = some (.lst xs) ∧ MReps K O H xs es fp ∧ es.length ≤ sizeLine ∧ (a :: fp).Nodup ∧ (∀ c ∈ a :: fp, O c) ∧
      ∀ (H2 : Hp) (es' : List MV) (fp' : List Addr), (∀ c, c ∉ a :: fp → H2 c = H c) → (∀ c ∈ a :: fp, ∃ xs, H2 c = some (.lst xs)) → fp'.Sublist fp → SlotRep K O H2 (some (.ref a)) (.own es') (a :: fp') →
        Good K P O (eput env i (.own es')) σ H2 ∧ Grow O H O H2 := by
  obtain ⟨fpA, h, n, w⟩ := g.ex
  rcases h.at_ i with ⟨q, _⟩ | ⟨o, f1, f2, f3, e1, e2, h3, k⟩
  · rw [e] at q; cases q
  · rw [e] at h3
    cases h3 with
    | own h4 l h5 =>
      rename_i a xs fp
      subst e2
      obtain ⟨n1, n2, n3⟩ := nodup_parts n
      refine ⟨a, xs, fp, e1, h4, h5, l, n1, fun c hc => (w c (List.mem_append_right _ (List.mem_append_left _ hc))).1, fun H2 es' fp' k1 k2 sb sr => ?_⟩
      have gr : Grow O H O H2 := ⟨fun b o q nb => by
        rw [k1 b fun hb => nb (w b (List.mem_append_right _ (List.mem_append_left _ hb))).1]
        exact q, fun b z => .inl z⟩
      have q := k O H2 (some (.ref a)) (.own es') (a :: fp') gr (fun c hc => k1 c (n2 c hc)) (fun c hc => k1 c (n3 c hc)) sr
      rw [set_same e1] at q
      refine ⟨⟨⟨_, q, nodup_swap n (List.Sublist.cons₂ a sb), fun c hc => w c ?_⟩, g.sub, fun c hc => ?_, fun b o qb => ?_, g.dom0⟩, gr⟩
      · rcases List.mem_append.mp hc with hc | hc
        · exact List.mem_append_left _ hc
        · rcases List.mem_append.mp hc with hc | hc
          · exact List.mem_append_right _ (List.mem_append_left _ ((List.Sublist.cons₂ a sb).subset hc))
          · exact List.mem_append_right _ (List.mem_append_right _ hc)
      · by_cases hm : c ∈ a :: fp
        · exact k2 c hm
        · rw [k1 c hm]; exact g.lst c hc
      · have hm : b ∉ a :: fp := fun hm => by
          have z := (w b (List.mem_append_right _ (List.mem_append_left _ hm))).2
          rw [z] at qb; cases qb
        rw [k1 b hm]
        exact g.same b o qb
/-- a new list comes to a slot -/
theorem Good.newOwn (g : Good K P O env σ H) (i : Nat) {H2 : Hp} {p : Addr} {xs : List V} {es : List MV} {fp : List Addr} (fr : ∀ c ∈ p :: fp, H c = none) (nd : (p :: fp).Nodup) (s : Same H H2) (hp : H2 p = some (.lst xs)) (l : es.length ≤ sizeLine)
    (r : MReps K (fun a => O a ∨ a ∈ p :: fp) H2 xs es fp) : Good K P (fun a => O a ∨ a ∈ p :: fp) (eput env i (.own es)) (σ.set i (some (.ref p))) H2 ∧ Grow O H (fun a => O a ∨ a ∈ p :: fp) H2 := by
  obtain ⟨fpA, h, n, w⟩ := g.ex
  have gr : Grow O H (fun a => O a ∨ a ∈ p :: fp) H2 := ⟨fun b o q _ => s b o q, fun b z => z.elim .inl fun z => .inr (fr b z)⟩
  have nH0 : ∀ c ∈ p :: fp, P.H0 c = none := fun c hc => by
    cases z : P.H0 c with
    | none => rfl
    | some o => have q := g.same c o z; rw [fr c hc] at q; cases q
  have inH : ∀ c ∈ fpA, H2 c = H c := fun c hc => by
    obtain ⟨ys, q⟩ := h.there c hc
    rw [s c _ q, q]
  have apart : ∀ c ∈ fpA, c ∉ p :: fp := fun c hc hm => by
    obtain ⟨ys, q⟩ := h.there c hc
    rw [fr c hm] at q; cases q
  have ls : ∀ c, (O c ∨ c ∈ p :: fp) → ∃ ys, H2 c = some (.lst ys) := fun c hc => by
    rcases hc with hc | hc
    · obtain ⟨ys, q⟩ := g.lst c hc
      exact ⟨ys, s c _ q⟩
    · rcases List.mem_cons.mp hc with rfl | hc
      · exact ⟨_, hp⟩
      · exact r.there c hc
  rcases h.at_ i with ⟨_, q1, q2⟩ | ⟨o, f1, f2, f3, e1, e2, h3, k⟩
  · rw [q1, q2]
    exact ⟨⟨⟨fpA, h.grow gr inH, n, fun c hc => ⟨.inl (w c hc).1, (w c hc).2⟩⟩, fun a z => .inl (g.sub a z), ls, g.same.trans s, g.dom0⟩, gr⟩
  · subst e2
    have q := k _ H2 (some (.ref p)) (.own es) (p :: fp) gr (fun c hc => inH c (List.mem_append_left _ hc)) (fun c hc => inH c (List.mem_append_right _ (List.mem_append_right _ hc))) (.own hp l r)
    refine ⟨⟨⟨_, q, ?_, fun c hc => ?_⟩, fun a z => .inl (g.sub a z), ls, g.same.trans s, g.dom0⟩, gr⟩
    · obtain ⟨m1, m2, m3⟩ := List.nodup_append.mp n
      obtain ⟨_, m5, m6⟩ := List.nodup_append.mp m2
      refine List.nodup_append.mpr ⟨m1, List.nodup_append.mpr ⟨nd, m5, fun a ha b hb eab => ?_⟩, fun a ha b hb eab => ?_⟩
      · subst eab
        exact apart a (List.mem_append_right _ (List.mem_append_right _ hb)) ha
      · subst eab
        rcases List.mem_append.mp hb with hb | hb
        · exact apart a (List.mem_append_left _ ha) hb
        · exact m3 a ha a (List.mem_append_right _ hb) rfl
    · rcases List.mem_append.mp hc with hc | hc
      · exact ⟨.inl (w c (List.mem_append_left _ hc)).1, (w c (List.mem_append_left _ hc)).2⟩
      · rcases List.mem_append.mp hc with hc | hc
        · exact ⟨.inr hc, nH0 c hc⟩
        · exact ⟨.inl (w c (List.mem_append_right _ (List.mem_append_right _ hc))).1, (w c (List.mem_append_right _ (List.mem_append_right _ hc))).2⟩
end

/-! ### new lists -/
def mvs : List D → List MV
  | [] => []
  | d :: r => .val d :: mvs r
theorem mvs_len : ∀ ds : List D, (mvs ds).length = ds.length
  | [] => rfl
  | _ :: r => congrArg Nat.succ (mvs_len r)
theorem mvs_rep {K : Frg} {O : OS} {H : Hp} : ∀ {ds : List D} {xs : List V}, RepAll K O H xs ds → MReps K O H xs (mvs ds) []
  | [], _, h => by cases h; exact .nil
  | _ :: _, _, h => by cases h with | cons h1 h2 => exact .val h1 (mvs_rep h2)
abbrev NM := Env → Res (List MV)
def pN2 (K : Frg) (P : Pm) (O : OS) (H : Hp) (Q : VK) : Res (List MV) → Prop
  | .ok es => ∀ p xs fp H', (∀ c ∈ p :: fp, H c = none) → (p :: fp).Nodup → Same H H' → H' p = some (.lst xs) → MReps K (fun a => O a ∨ a ∈ p :: fp) H' xs es fp → es.length ≤ sizeLine → Q (.ref p) H'
  | .exc c => pXc P c H
  | .fail => False
def tMN (K : Frg) (P : Pm) (m : NM) : TE := fun σ H Q => ∃ env O, Good K P O env σ H ∧ pN2 K P O H Q (m env)
abbrev REN (X : Cx) (P : Pm) (e : Expr) (m : NM) : Prop := PE X e (tMN X.K P m)
def nOf (m : AM) : NM := fun env => (m env).bind fun ds => .ok (mvs ds)
section
variable {X : Cx} {P : Pm} {e : Expr} {es : List Expr} {pos : Pos}
theorem n_sound {m : AM} {σ : L2.St} {H : Hp} {Q : VK} (h : tMN X.K P (nOf m) σ H Q) : tMF X.K P m σ H Q := by
  obtain ⟨env, O, g, q⟩ := h
  refine ⟨env, O, g, ?_⟩
  unfold nOf at q
  cases z : m env with
  | ok ds =>
    rw [z] at q
    exact fun p xs H' hp s hx r l => q p xs [] H' (fun c hc => by rw [List.mem_singleton.mp hc]; exact hp) (List.nodup_cons.mpr ⟨by simp, List.nodup_nil⟩) s hx (mvs_rep (r.less fun b zb => zb.elim .inl fun zb => .inr (List.mem_singleton.mp zb))) (by rw [mvs_len]; exact l)
  | exc c => rw [z] at q; exact q
  | fail => rw [z] at q; exact q
theorem ren_of {m : AM} (h : REF X P e m) : REN X P e (nOf m) := pe_imp h fun _ _ _ => n_sound
/-- [a, b, ..] -/
def okL (ds : List D) : Res (List D) := match Nat.ble ds.length 16777216 with | true => .ok ds | false => .fail
def nLst (m : AM) : AM := fun env => (m env).bind okL
theorem reF_lst {m : AM} (h : RA X P es m) : REF X P (.List es pos) (nLst m) := pe_imp (pe_lst h) fun σ H Q ⟨env, O, g, q⟩ => by
  refine ⟨env, O, g, ?_⟩
  unfold nLst at q
  cases z : m env with
  | exc c => rw [z] at q; exact q
  | fail => rw [z] at q; exact q
  | ok ds =>
    rw [z] at q
    have q1 : pF X.K P O H Q (match Nat.ble ds.length 16777216 with | true => .ok ds | false => .fail) := q
    cases zb : Nat.ble ds.length 16777216 with
    | false => rw [zb] at q1; exact q1.elim
    | true =>
      rw [zb] at q1
      have hl : ds.length ≤ sizeLine := by rw [sizeLine_eq]; exact Nat.le_of_ble_eq_true zb
      intro xs H1 s1 r1
      refine ⟨by rw [r1.len]; exact hl, fun p hp => q1 p xs _ ?_ (s1.trans (same_upd _ hp)) upd_same ?_ hl⟩
      · cases zz : H p with
        | none => rfl
        | some o => rw [s1 _ _ zz] at hp; cases hp
      · exact RepAll.grow ⟨fun b o qb _ => same_upd _ hp b o qb, fun b zb => zb.elim .inl fun zb => .inr (by rw [zb]; exact hp)⟩ _ r1
def fList : List D → Res (List D)
  | [.list ds] => .ok ds
  | [.tuple ds] => .ok ds
  | _ => .fail
/-- list(x) -/
def nList (m : AM) : AM := fun env => (m env).bind fList
theorem reF_list {p : Pos} {m : AM} (hg : Gl X "list") (hm : X.mg "list" = none) (ha : RA X P (e :: es) m) (he : starEach (e :: es) X.env = (false, eval e X.env) :: starEach es X.env := by rfl) (hpl : (backTo pos (starEach es X.env)).any (·.1) = false := by rfl) :
    REF X P (.Call (.Name "list" p) (e :: es) [] pos) (nList m) := pe_imp (pe_callTy call_list_of hg hm (by decide +kernel) ha (by decide) (by decide) he hpl) fun σ H Q ⟨env, O, g, q⟩ => by
  refine ⟨env, O, g, ?_⟩
  unfold nList at q
  cases z : m env with
  | exc c => rw [z] at q; exact q
  | fail => rw [z] at q; exact q
  | ok as =>
    rw [z] at q
    intro xs H1 s1 r1
    have fin : ∀ {a : Addr} {ys : List V} {ds : List D}, pF X.K P O H Q (.ok ds) → ds.length ≤ sizeLine → RepAll X.K O H1 ys ds → ∀ l, H1 l = none → Q (.ref l) (upd H1 l (.lst ys)) := fun {a ys ds} q1 hl rr l hl0 => by
      refine q1 l ys _ ?_ (s1.trans (same_upd _ hl0)) upd_same ?_ hl
      · cases zz : H l with
        | none => rfl
        | some o => rw [s1 _ _ zz] at hl0; cases hl0
      · exact RepAll.grow ⟨fun b o qb _ => same_upd _ hl0 b o qb, fun b zb => zb.elim .inl fun zb => .inr (by rw [zb]; exact hl0)⟩ _ rr
    match as, r1, q with
    | [.list ds], r1, q =>
      obtain ⟨x, rfl, h⟩ := rep1 r1
      cases h with
      | lst h1 l h2 => exact ⟨_, _, rfl, .inl h1.seq, fin (a := 0) q l h2⟩
    | [.tuple ds], r1, q =>
      obtain ⟨x, rfl, h⟩ := rep1 r1
      cases h with
      | tup h1 l h2 => exact ⟨_, _, rfl, .inr h1.seq, fin (a := 0) q l h2⟩
    | [], _, q => exact q.elim
    | [.none], _, q => exact q.elim
    | [.bool _], _, q => exact q.elim
    | [.int _], _, q => exact q.elim
    | [.str _], _, q => exact q.elim
    | [.dict _], _, q => exact q.elim
    | a :: _ :: _, _, q => cases a <;> exact q.elim
/-- [..] * k -/
def fRep : D → D → Res (List D)
  | .list a, .int (.ofNat n) => (match Nat.ble n 16777216 && Nat.ble (repD a n).length 16777216 with
    | true => .ok (repD a n)
    | false => .fail)
  | _, _ => .fail
def nRep (ma mb : EM) : AM := fun env => (ma env).bind fun x => (mb env).bind fun y => fRep x y
theorem reF_rep {a b : Expr} {ma mb : EM} (ha : RE X P a ma) (hb : RE X P b mb) : REF X P (.BinOp a .Mult b pos) (nRep ma mb) := pe_imp (pe_op op_rep ha hb) fun σ H Q ⟨env, O, g, q⟩ => by
  refine ⟨env, O, g, ?_⟩
  unfold nRep at q
  cases z : ma env with
  | exc c => rw [z] at q; exact q
  | fail => rw [z] at q; exact q
  | ok x =>
    rw [z] at q
    have q1 : pF X.K P O H Q ((mb env).bind fun y => fRep x y) := q
    intro v H1 s1 r1
    refine ⟨env, O, g.grow s1, ?_⟩
    cases z2 : mb env with
    | exc c => rw [z2] at q1; exact q1
    | fail => rw [z2] at q1; exact q1
    | ok y =>
      rw [z2] at q1
      have q2 : pF X.K P O H Q (fRep x y) := q1
      intro w H2 s2 r2
      cases r1 with
      | @lst t xs ds h1 l1 h2 =>
        cases r2 with
        | int j =>
          cases j with
          | ofNat n =>
            have q3 : pF X.K P O H Q (match Nat.ble n 16777216 && Nat.ble (repD ds n).length 16777216 with | true => .ok (repD ds n) | false => .fail) := q2
            cases zb : Nat.ble n 16777216 && Nat.ble (repD ds n).length 16777216 with
            | false => rw [zb] at q3; exact q3.elim
            | true =>
              rw [zb] at q3
              obtain ⟨z1, z3⟩ := Bool.and_eq_true_iff.mp zb
              have b1 := Nat.le_of_ble_eq_true z1
              have b2 := Nat.le_of_ble_eq_true z3
              have rr := rep_rep (h2.same s2) n
              have e3 : (List.replicate n xs).flatten.length = n * xs.length := by simp
              have hz : xs.length * n ≤ sizeLine := by
                rw [Nat.mul_comm, ← e3, rr.len, sizeLine_eq]
                exact b2
              refine ⟨_, (n : Int), xs, rfl, rfl, s2 _ _ h1.1, by omega, by omega, hz, fun p hp => ?_⟩
              refine q3 p _ _ ?_ ((s1.trans s2).trans (same_upd _ hp)) upd_same ?_ (by rw [sizeLine_eq]; exact b2)
              · cases zz : H p with
                | none => rfl
                | some o => rw [(s1.trans s2) _ _ zz] at hp; cases hp
              · exact RepAll.grow ⟨fun b o qb _ => same_upd _ hp b o qb, fun b zb => zb.elim .inl fun zb => .inr (by rw [zb]; exact hp)⟩ _ rr
          | negSucc n => exact q2.elim
        | _ => exact q2.elim
      | _ => cases r2 <;> exact q2.elim
end

/-! ### storing a new list -/
def sOwn (i : Nat) (m : NM) : SM := fun env => sBind (m env) fun es => .next (eput env i (.own es))
section
variable {X : Cx} {P : Pm} {pos : Pos} {e : Expr}
theorem own_run {i : Nat} {m : NM} {Dd : Ends} {σ : L2.St} {H : Hp} (h : tS X.K P (sOwn i m) Dd σ H) : tMN X.K P m σ H (fun x H1 => gName i x σ H1 Dd.nx) := by
  obtain ⟨env, O, g, q⟩ := h
  refine ⟨env, O, g, ?_⟩
  unfold sOwn at q
  cases z : m env with
  | exc c => rw [z] at q; exact q
  | fail => rw [z] at q; exact q
  | ok es =>
    rw [z] at q
    intro p xs fp H' fr nd s hp r l
    obtain ⟨g2, gr⟩ := g.newOwn i fr nd s hp l r
    exact q _ _ H' g2 gr
theorem rs_own {i : Nat} {x : Str} {m : NM} {pos' : Pos} (hN : X.N.Nodup) (hi : X.N[i]? = some x) (hx : Loc X.env.scope x) (he : REN X P e m) (hs : swapsWith e (some (.Name x pos')) pos.line X.env = pure false := by rfl) (hf : X.fn x = true ∨ X.env.scope.names.lookup x = some .local := by first | exact .inl rfl | exact .inr rfl | assumption) :
    RS X P (.Assign [.Name x pos'] e pos) (sOwn i m) := ps_imp (ps_set hN hi hx he hs hf) fun Dd σ H h => own_run h
end

end Rf

/-! Rf8: several new things at once, own lists seen as values -/
namespace Rf
open PySem PySem.Spec PyProof.Rows L2

structure GoodE (K : Frg) (P : Pm) (O : OS) (env : Env) (σ : L2.St) (H : Hp) (ex : List Addr) : Prop where
  ex : ∃ fp, EnvRep K O H σ env fp ∧ (fp ++ ex).Nodup ∧ ∀ a ∈ fp ++ ex, O a ∧ P.H0 a = none
  sub : ∀ a, P.O0 a → O a
  lst : ∀ a, O a → ∃ xs, H a = some (.lst xs)
  same : Same P.H0 H
  dom0 : ∀ a, P.O0 a → P.H0 a ≠ none
section
variable {K : Frg} {P : Pm} {O O2 : OS} {env : Env} {σ : L2.St} {H H2 : Hp} {ex f : List Addr}
theorem GoodE.good (g : GoodE K P O env σ H ex) : Good K P O env σ H := by
  obtain ⟨fp, h, n, w⟩ := g.ex
  exact ⟨⟨fp, h, (List.nodup_append.mp n).1, fun a ha => w a (List.mem_append_left _ ha)⟩, g.sub, g.lst, g.same, g.dom0⟩
theorem nodup_adopt {f1 f2 f3 f ex : List Nat} (h : ((f1 ++ (f2 ++ f3)) ++ (f ++ ex)).Nodup) : ((f1 ++ (f ++ f3)) ++ ex).Nodup := by
  have p : List.Perm ((f1 ++ (f2 ++ f3)) ++ (f ++ ex)) (((f1 ++ (f ++ f3)) ++ ex) ++ f2) := by
    rw [List.perm_iff_count]
    intro a
    simp only [List.count_append]
    omega
  exact (List.nodup_append.mp ((List.Perm.nodup_iff p).mp h)).1
theorem GoodE.adopt (g : GoodE K P O env σ H (f ++ ex)) (i : Nat) {o : Option V} {s : Slot} (h : SlotRep K O H o s f) : GoodE K P O (eput env i s) (σ.set i o) H ex := by
  obtain ⟨fp, e, n, w⟩ := g.ex
  rcases e.at_ i with ⟨_, q1, q2⟩ | ⟨o1, f1, f2, f3, e1, e2, h3, k⟩
  · rw [q1, q2]
    refine ⟨⟨fp, e, n.sublist (List.Sublist.append (List.Sublist.refl _) (List.sublist_append_right _ _)), fun a ha => w a ?_⟩, g.sub, g.lst, g.same, g.dom0⟩
    rcases List.mem_append.mp ha with ha | ha
    · exact List.mem_append_left _ ha
    · exact List.mem_append_right _ (List.mem_append_right _ ha)
  · subst e2
    refine ⟨⟨_, k O H o s f .refl (fun _ _ => rfl) (fun _ _ => rfl) h, nodup_adopt n, fun a ha => w a ?_⟩, g.sub, g.lst, g.same, g.dom0⟩
    simp only [List.mem_append] at ha ⊢
    rcases ha with (ha | ha | ha) | ha
    · exact .inl (.inl ha)
    · exact .inr (.inl ha)
    · exact .inl (.inr (.inr ha))
    · exact .inr (.inr ha)
theorem grow_more {new : List Addr} (s : Same H H2) (fr : ∀ c ∈ new, H c = none) : Grow O H (fun a => O a ∨ a ∈ new) H2 := ⟨fun b o q _ => s b o q, fun b z => z.elim .inl fun z => .inr (fr b z)⟩
theorem Good.moreL (g : Good K P O env σ H) {new : List Addr} (s : Same H H2) (fr : ∀ c ∈ new, H c = none) (nd : new.Nodup) (ls : ∀ c ∈ new, ∃ xs, H2 c = some (.lst xs)) : GoodE K P (fun a => O a ∨ a ∈ new) env σ H2 new := by
  obtain ⟨fp, e, n, w⟩ := g.ex
  have nH0 : ∀ c ∈ new, P.H0 c = none := fun c hc => by
    cases z : P.H0 c with
    | none => rfl
    | some o => have q := g.same c o z; rw [fr c hc] at q; cases q
  refine ⟨⟨fp, e.grow (grow_more s fr) fun a ha => ?_, List.nodup_append.mpr ⟨n, nd, fun a ha b hb eab => ?_⟩, fun a ha => ?_⟩, fun a z => .inl (g.sub a z), fun a z => ?_, g.same.trans s, g.dom0⟩
  · obtain ⟨xs, q⟩ := e.there a ha
    rw [s a _ q, q]
  · subst eab
    obtain ⟨xs, q⟩ := e.there a ha
    rw [fr a hb] at q; cases q
  · rcases List.mem_append.mp ha with ha | ha
    · exact ⟨.inl (w a ha).1, (w a ha).2⟩
    · exact ⟨.inr ha, nH0 a ha⟩
  · rcases z with z | z
    · obtain ⟨xs, q⟩ := g.lst a z
      exact ⟨xs, s a _ q⟩
    · exact ls a z
end
inductive SlotsRep (K : Frg) (O : OS) (H : Hp) : List V → List Slot → List Addr → Prop
  | nil : SlotsRep K O H [] [] []
  | cons {v : V} {s : Slot} {f : List Addr} {vs : List V} {ss : List Slot} {fs : List Addr} : SlotRep K O H (some v) s f → SlotsRep K O H vs ss fs → SlotsRep K O H (v :: vs) (s :: ss) (f ++ fs)
section
variable {K : Frg} {P : Pm} {O O2 : OS} {env : Env} {σ : L2.St} {H H2 : Hp} {ex f : List Addr}
theorem SlotsRep.grow (g : Grow O H O2 H2) {vs : List V} {ss : List Slot} {fs : List Addr} (h : SlotsRep K O H vs ss fs) (k : ∀ a ∈ fs, H2 a = H a) : SlotsRep K O2 H2 vs ss fs := by
  induction h with
  | nil => exact .nil
  | cons h1 _ ih => exact .cons (h1.grow g fun a ha => k a (List.mem_append_left _ ha)) (ih fun a ha => k a (List.mem_append_right _ ha))
theorem SlotsRep.there {vs : List V} {ss : List Slot} {fs : List Addr} (h : SlotsRep K O H vs ss fs) : ∀ a ∈ fs, ∃ xs, H a = some (.lst xs) := by
  induction h with
  | nil => intro a ha; cases ha
  | cons h1 _ ih =>
    intro a ha
    rcases List.mem_append.mp ha with ha | ha
    · exact h1.there a ha
    · exact ih a ha
theorem SlotsRep.len {vs : List V} {ss : List Slot} {fs : List Addr} (h : SlotsRep K O H vs ss fs) : vs.length = ss.length := by
  induction h with
  | nil => rfl
  | cons _ _ ih => rw [List.length_cons, List.length_cons, ih]
end
def eputs : Env → List Nat → List Slot → Env
  | env, i :: is, s :: ss => eputs (eput env i s) is ss
  | env, _, _ => env
def sputs : L2.St → List Nat → List V → L2.St
  | σ, i :: is, v :: vs => sputs (σ.set i (some v)) is vs
  | σ, _, _ => σ
theorem GoodE.stores {K : Frg} {P : Pm} {O : OS} {H : Hp} : ∀ {vs : List V} {ss : List Slot} {fs : List Addr} (is : List Nat) {env : Env} {σ : L2.St}, SlotsRep K O H vs ss fs → GoodE K P O env σ H fs → Good K P O (eputs env is ss) (sputs σ is vs) H
  | _, _, _, [], env, σ, h, g => by
    have e1 : ∀ ss, eputs env [] ss = env := fun ss => by cases ss <;> rfl
    have e2 : ∀ ss, sputs σ [] ss = σ := fun ss => by cases ss <;> rfl
    rw [e1, e2]; exact g.good
  | _, _, _, i :: is, env, σ, .nil, g => g.good
  | _, _, _, i :: is, env, σ, .cons (f := f) (fs := fs) h1 h2, g => GoodE.stores is h2 (g.adopt i h1)

abbrev XM := Env → Res (List Slot)
def pX (K : Frg) (P : Pm) (O : OS) (H : Hp) (Q : List V → Hp → Prop) : Res (List Slot) → Prop
  | .ok ss => ∀ xs fs H', (∀ c ∈ fs, H c = none) → fs.Nodup → Same H H' → SlotsRep K (fun a => O a ∨ a ∈ fs) H' xs ss fs → Q xs H'
  | .exc c => pXc P c H
  | .fail => False
def tMX (K : Frg) (P : Pm) (m : XM) : TA := fun σ H Q => ∃ env O, Good K P O env σ H ∧ pX K P O H Q (m env)
abbrev RX (X : Cx) (P : Pm) (es : List Expr) (m : XM) : Prop := PA X es (tMX X.K P m)
def xNil : XM := fun _ => .ok []
def xVal (ma : EM) (mr : XM) : XM := fun env => (ma env).bind fun a => (mr env).bind fun r => .ok (.val a :: r)
def xOwn (ma : NM) (mr : XM) : XM := fun env => (ma env).bind fun a => (mr env).bind fun r => .ok (.own a :: r)
section
variable {X : Cx} {P : Pm} {e : Expr} {es : List Expr} {mr : XM}
theorem rx_nil : RX X P [] xNil := pa_imp pa_nil fun σ H Q ⟨env, O, g, q⟩ => q [] [] H (fun c hc => by cases hc) List.nodup_nil (Same.refl _) .nil
theorem fresh_back {H H1 : Hp} {c : Addr} (s : Same H H1) (h : H1 c = none) : H c = none := by
  cases z : H c with
  | none => rfl
  | some o => rw [s _ _ z] at h; cases h
theorem rx_val {ma : EM} (ha : RE X P e ma) (hr : RX X P es mr) (hs : starEach (e :: es) X.env = (false, eval e X.env) :: starEach es X.env := by rfl) : RX X P (e :: es) (xVal ma mr) :=
  pa_imp (pa_cons ha hr hs) fun σ H Q ⟨env, O, g, q⟩ => by
    refine ⟨env, O, g, ?_⟩
    unfold xVal at q
    cases z : ma env with
    | exc c => rw [z] at q; exact q
    | fail => rw [z] at q; exact q
    | ok a =>
      rw [z] at q
      have q0 : pX X.K P O H Q ((mr env).bind fun r => .ok (.val a :: r)) := q
      intro x H1 s1 r1
      refine ⟨env, O, g.grow s1, ?_⟩
      cases z2 : mr env with
      | exc c => rw [z2] at q0; exact q0
      | fail => rw [z2] at q0; exact q0
      | ok r =>
        rw [z2] at q0
        intro xs fs H' fr nd s r2
        refine q0 (x :: xs) fs H' (fun c hc => fresh_back s1 (fr c hc)) nd (s1.trans s) ?_
        exact .cons (f := []) (.val (Rep.grow (grow_more s fr) _ r1)) r2
theorem rx_own {ma : NM} (ha : REN X P e ma) (hr : RX X P es mr) (hs : starEach (e :: es) X.env = (false, eval e X.env) :: starEach es X.env := by rfl) : RX X P (e :: es) (xOwn ma mr) :=
  pa_imp (pa_cons ha hr hs) fun σ H Q ⟨env, O, g, q⟩ => by
    refine ⟨env, O, g, ?_⟩
    unfold xOwn at q
    cases z : ma env with
    | exc c => rw [z] at q; exact q
    | fail => rw [z] at q; exact q
    | ok a =>
      rw [z] at q
      have q0 : pX X.K P O H Q ((mr env).bind fun r => .ok (.own a :: r)) := q
      intro p xs fp H1 fr1 nd1 s1 hp r1 l1
      have g1 : GoodE X.K P (fun b => O b ∨ b ∈ p :: fp) env σ H1 (p :: fp) := g.moreL s1 fr1 nd1 fun c hc => by
        rcases List.mem_cons.mp hc with rfl | hc
        · exact ⟨_, hp⟩
        · exact r1.there c hc
      refine ⟨env, _, g1.good, ?_⟩
      cases z2 : mr env with
      | exc c => rw [z2] at q0; exact q0
      | fail => rw [z2] at q0; exact q0
      | ok r =>
        rw [z2] at q0
        intro ys fs H' fr nd s r2
        have sl : SlotRep X.K (fun b => O b ∨ b ∈ p :: fp) H1 (some (.ref p)) (.own a) (p :: fp) := .own hp l1 r1
        have sl2 := sl.grow (grow_more (new := fs) s fr) fun c hc => by
          obtain ⟨ys, qy⟩ := sl.there c hc
          rw [s c _ qy, qy]
        refine q0 (.ref p :: ys) ((p :: fp) ++ fs) H' (fun c hc => ?_) ?_ (s1.trans s) (SlotsRep.grow (O := fun b => (O b ∨ b ∈ p :: fp) ∨ b ∈ fs) ⟨fun b o q _ => q, fun b zb => .inl ?_⟩ (.cons sl2 r2) fun _ _ => rfl)
        · rcases List.mem_append.mp hc with hc | hc
          · exact fr1 c hc
          · exact fresh_back s1 (fr c hc)
        · refine List.nodup_append.mpr ⟨nd1, nd, fun b hb c hc ebc => ?_⟩
          subst ebc
          obtain ⟨ys, qy⟩ := sl.there b hb
          rw [fr b hc] at qy; cases qy
        · rcases zb with zb | zb
          · exact .inl (.inl zb)
          · rcases List.mem_append.mp zb with zb | zb
            · exact .inl (.inr zb)
            · exact .inr zb
end
/-- several names stored -/
def sPar (is : List Nat) (m : XM) : SM := fun env => sBind (m env) fun ss => match Nat.beq ss.length is.length with
  | true => .next (eputs env is ss)
  | false => .fail
section
variable {X : Cx} {P : Pm} {es : List Expr} {m : XM} {pos : Pos}
theorem par_run {is : List Nat} {Dd : Ends} {σ : L2.St} {H : Hp} {R : List V → Hp → Prop} (h : tS X.K P (sPar is m) Dd σ H) (k : ∀ xs H', xs.length = is.length → Dd.nx (sputs σ is xs) H' → R xs H') : tMX X.K P m σ H R := by
  obtain ⟨env, O, g, q⟩ := h
  refine ⟨env, O, g, ?_⟩
  unfold sPar at q
  cases z : m env with
  | exc c => rw [z] at q; exact q
  | fail => rw [z] at q; exact q
  | ok ss =>
    rw [z] at q
    have q0 : pS X.K P O H Dd (match Nat.beq ss.length is.length with | true => .next (eputs env is ss) | false => .fail) := q
    cases zl : Nat.beq ss.length is.length with
    | false => rw [zl] at q0; exact q0.elim
    | true =>
      rw [zl] at q0
      intro xs fs H' fr nd s r
      have gE := g.moreL s fr nd r.there
      exact k xs H' (r.len.trans (Nat.eq_of_beq_eq_true zl)) (q0 _ _ H' (gE.stores is r) (grow_more s fr))
theorem rs_par {i j : Nat} {x y : Str} {a b : Expr} {px py pt : Pos} {kt k2 pt2} (hc : X.calm = true) (hN : X.N.Nodup) (hi : X.N[i]? = some x) (hj : X.N[j]? = some y) (hij : i ≠ j)
    (hx : X.env.scope.names.lookup x = some .local) (hy : X.env.scope.names.lookup y = some .local) (ha : RX X P [a, b] m)
    (hw : swappedStores [.Tuple [.Name x px, .Name y py] kt pt] (.Tuple [a, b] k2 pt2) X.env = pure (some [x, y]))
    (hs : swapsWithSole [.Tuple [.Name x px, .Name y py] kt pt] (.Tuple [a, b] k2 pt2) pos.line X.env = pure false := by rfl) :
    RS X P (.Assign [.Tuple [.Name x px, .Name y py] kt pt] (.Tuple [a, b] k2 pt2) pos) (sPar [i, j] m) := ps_imp (ps_par hc hN hi hj hij hx hy ha hw hs) fun Dd σ H h => by
  refine par_run h fun xs H' l q => ?_
  match xs, l with
  | [v, w], _ => exact ⟨v, w, rfl, q⟩
theorem rs_par3 {i j l : Nat} {x y z : Str} {a b c : Expr} {px py pz pt pos : Pos} {kt k2 pt2} (hc : X.calm = true) (hN : X.N.Nodup) (hi : X.N[i]? = some x) (hj : X.N[j]? = some y) (hl : X.N[l]? = some z) (hij : i ≠ j) (hil : i ≠ l) (hjl : j ≠ l)
    (hx : X.env.scope.names.lookup x = some .local) (hy : X.env.scope.names.lookup y = some .local) (hz : X.env.scope.names.lookup z = some .local) (ha : RX X P [a, b, c] m)
    (hw : swappedStores [.Tuple [.Name x px, .Name y py, .Name z pz] kt pt] (.Tuple [a, b, c] k2 pt2) X.env = pure (some [x, y, z]))
    (hs : swapsWithSole [.Tuple [.Name x px, .Name y py, .Name z pz] kt pt] (.Tuple [a, b, c] k2 pt2) pos.line X.env = pure false := by rfl) :
    RS X P (.Assign [.Tuple [.Name x px, .Name y py, .Name z pz] kt pt] (.Tuple [a, b, c] k2 pt2) pos) (sPar [i, j, l] m) := ps_imp (ps_par3 hc hN hi hj hl hij hil hjl hx hy hz ha hw hs) fun Dd σ H h => by
  refine par_run h fun xs H' l q => ?_
  match xs, l with
  | [u, v, w], _ => exact ⟨u, v, w, rfl, q⟩
/-- by way of a tuple -/
theorem rs_parT {tg : Expr} {k2 : Nat} {pt2 : Pos} {g : TGs} {is : List Nat} (ha : RX X P es m) (hg : PG X tg (gTup X.K is.length g)) (hh : ∀ (xs : List V) (σ : L2.St) (H : Hp) (Q : L2.St → Hp → Prop), xs.length = is.length → Q (sputs σ is xs) H → g xs σ H Q) (hz : is.length ≤ sizeLine)
    (hs : swapsWithSole [tg] (.Tuple es k2 pt2) pos.line X.env = pure false := by rfl) (hw : swappedStores [tg] (.Tuple es k2 pt2) X.env = pure none := by rfl)
    (h1 : (assignEach [tg] X.env).map (·.2) = [assign tg X.env] := by rfl) : RS X P (.Assign [tg] (.Tuple es k2 pt2) pos) (sPar is m) := ps_imp (ps_asg (pe_tup ha) hg hs hw h1) fun Dd σ H h => by
  obtain ⟨env, O, g0, q⟩ := h
  refine ⟨env, O, g0, ?_⟩
  unfold sPar at q
  cases z : m env with
  | exc c => rw [z] at q; exact q
  | fail => rw [z] at q; exact q
  | ok ss =>
    rw [z] at q
    have q0 : pS X.K P O H Dd (match Nat.beq ss.length is.length with | true => .next (eputs env is ss) | false => .fail) := q
    cases zl : Nat.beq ss.length is.length with
    | false => rw [zl] at q0; exact q0.elim
    | true =>
      rw [zl] at q0
      intro xs fs H' fr nd s r
      have gE := g0.moreL s fr nd r.there
      have el : xs.length = is.length := r.len.trans (Nat.eq_of_beq_eq_true zl)
      refine ⟨by rw [el]; exact hz, fun p hp => ⟨p, xs, rfl, .of upd_same, el, hh xs σ _ _ el ?_⟩⟩
      have gE2 : Good X.K P (fun b => O b ∨ b ∈ fs) (eputs env is ss) (sputs σ is xs) (upd H' p (.tup xs)) := (gE.stores is r).grow (same_upd _ hp)
      exact q0 _ _ _ gE2 ((grow_more s fr).trans (.of_same (same_upd _ hp)))
theorem puts_nil {xs : List V} {σ : L2.St} {H : Hp} {Q : L2.St → Hp → Prop} (l : xs.length = 0) (h : Q (sputs σ [] xs) H) : gNil xs σ H Q := by
  cases xs with
  | nil => exact ⟨rfl, h⟩
  | cons _ _ => cases l
end
/-- a row of names as targets -/
structure PTn (X : Cx) (es : List Expr) (g : TGs) (is : List Nat) : Prop where
  pg : PGs X es g
  puts : ∀ (xs : List V) (σ : L2.St) (H : Hp) (Q : L2.St → Hp → Prop), xs.length = is.length → Q (sputs σ is xs) H → g xs σ H Q
theorem ptn_nil {X : Cx} : PTn X [] gNil [] := ⟨pgs_nil, fun xs σ H Q l h => puts_nil l h⟩
theorem ptn_cons {X : Cx} {e : Expr} {es : List Expr} {i : Nat} {is : List Nat} {g : TGs} (h1 : PG X e (gName i)) (h2 : PTn X es g is) (hs : (assignEach (e :: es) X.env).map (·.2) = assign e X.env :: (assignEach es X.env).map (·.2) := by rfl) : PTn X (e :: es) (gCons (gName i) g) (i :: is) :=
  ⟨pgs_cons h1 h2.pg hs, fun xs σ H Q l h => by
    cases xs with
    | nil => cases l
    | cons x xs => exact ⟨x, xs, rfl, h2.puts xs _ H Q (by simpa using l) h⟩⟩

/-! ### own lists seen as values -/
def flat : List MV → List D
  | [] => []
  | .val d :: r => d :: flat r
  | .row ds :: r => .list ds :: flat r
def frzS : Slot → Slot
  | .emp => .emp
  | .val d => .val d
  | .own es => .val (.list (flat es))
def frzE : Env → Env
  | [] => []
  | s :: r => frzS s :: frzE r
def frzI (env : Env) (i : Nat) : Env := eput env i (frzS (eget env i))
def frzs (env : Env) : List Nat → Env
  | [] => env
  | i :: is => frzs (frzI env i) is
theorem flat_len : ∀ es : List MV, (flat es).length = es.length
  | [] => rfl
  | .val _ :: r => congrArg Nat.succ (flat_len r)
  | .row _ :: r => congrArg Nat.succ (flat_len r)
section
variable {K : Frg} {P : Pm} {O O2 : OS} {env : Env} {σ : L2.St} {H H2 : Hp} {f : List Addr}
theorem MReps.frz (le : ∀ b, O2 b → O b) {xs : List V} {es : List MV} (h : MReps K O H xs es f) (no : ∀ a ∈ f, ¬ O2 a) : RepAll K O2 H xs (flat es) := by
  induction h with
  | nil => exact .nil
  | val h1 _ ih => exact .cons (h1.less le) (ih no)
  | row h0 l h1 _ ih => exact .cons (.lst ⟨h0, no _ List.mem_cons_self⟩ l (h1.less le)) (ih fun a ha => no a (List.mem_cons_of_mem _ ha))
theorem SlotRep.frz (le : ∀ b, O2 b → O b) {o : Option V} {s : Slot} (h : SlotRep K O H o s f) (no : ∀ a ∈ f, ¬ O2 a) : SlotRep K O2 H o (frzS s) [] := by
  cases h with
  | emp => exact .emp
  | val h1 => exact .val (h1.less le)
  | own h1 l h2 => exact .val (.lst ⟨h1, no _ List.mem_cons_self⟩ (by rw [flat_len]; exact l) (h2.frz le fun a ha => no a (List.mem_cons_of_mem _ ha)))
theorem EnvRep.frz (le : ∀ b, O2 b → O b) (h : EnvRep K O H σ env f) (no : ∀ a ∈ f, ¬ O2 a) : EnvRep K O2 H σ (frzE env) [] := by
  induction h with
  | nil => exact .nil
  | cons h1 _ ih => exact .cons (fp := []) (h1.frz le fun a ha => no a (List.mem_append_left _ ha)) (ih fun a ha => no a (List.mem_append_right _ ha))
theorem grow_less (le : ∀ b, O2 b → O b) : Grow O H O2 H := ⟨fun _ _ e _ => e, fun b z => .inl (le b z)⟩
theorem Good.frz (g : Good K P O env σ H) : Good K P P.O0 (frzE env) σ H := by
  obtain ⟨fp, h, n, w⟩ := g.ex
  refine ⟨⟨[], h.frz g.sub fun a ha z => g.dom0 a z (w a ha).2, List.nodup_nil, fun a ha => by cases ha⟩, fun a z => z, fun a z => g.lst a (g.sub a z), g.same, g.dom0⟩
theorem Good.frzI (g : Good K P O env σ H) (i : Nat) : ∃ O2 : OS, (∀ b, O2 b → O b) ∧ Good K P O2 (frzI env i) σ H := by
  obtain ⟨fp, h, n, w⟩ := g.ex
  rcases h.at_ i with ⟨_, q1, _⟩ | ⟨o, f1, f2, f3, e1, e2, h3, k⟩
  · refine ⟨O, fun _ z => z, ?_⟩
    unfold Rf.frzI
    rw [q1]; exact g
  · subst e2
    obtain ⟨n1, n2, n3⟩ := nodup_parts n
    have le : ∀ b, (O b ∧ b ∉ f2) → O b := fun b z => z.1
    have q := k (fun b => O b ∧ b ∉ f2) H o (frzS (eget env i)) [] (grow_less le) (fun _ _ => rfl) (fun _ _ => rfl) (h3.frz le fun a ha z => z.2 ha)
    rw [set_same e1] at q
    refine ⟨_, le, ⟨_, q, nodup_mid n, fun a ha => ?_⟩, fun a z => ⟨g.sub a z, fun hm => g.dom0 a z (w a (List.mem_append_right _ (List.mem_append_left _ hm))).2⟩, fun a z => g.lst a z.1, g.same, g.dom0⟩
    rcases List.mem_append.mp ha with ha | ha
    · exact ⟨⟨(w a (List.mem_append_left _ ha)).1, n2 a ha⟩, (w a (List.mem_append_left _ ha)).2⟩
    · have ha' : a ∈ f3 := ha
      have z := w a (List.mem_append_right _ (List.mem_append_right _ ha'))
      exact ⟨⟨z.1, n3 a ha'⟩, z.2⟩
theorem Good.frzs : ∀ (is : List Nat) {env : Env} {O : OS}, Good K P O env σ H → ∃ O2 : OS, (∀ b, O2 b → O b) ∧ Good K P O2 (frzs env is) σ H
  | [], env, O, g => ⟨O, fun _ z => z, g⟩
  | i :: is, env, O, g => by
    obtain ⟨O1, l1, g1⟩ := g.frzI i
    obtain ⟨O2, l2, g2⟩ := Good.frzs is g1
    exact ⟨O2, fun b z => l1 b (l2 b z), g2⟩
end
/-- no list within -/
def nl : Nat → D → Bool
  | _, .list _ => false
  | 0, .tuple _ => false
  | n + 1, .tuple ds => ds.all (nl n)
  | _, _ => true
section
variable {K : Frg} {O O2 : OS} {H : Hp}
theorem all_of {p : D → Bool} (h : ∀ d v, p d = true → Rep K O H v d → Rep K O2 H v d) : ∀ {ds : List D} {vs : List V}, ds.all p = true → RepAll K O H vs ds → RepAll K O2 H vs ds
  | [], _, _, r => by cases r; exact .nil
  | d :: ds, _, e, r => by
    cases r with
    | cons a b =>
      rw [List.all_cons] at e
      have z := Bool.and_eq_true_iff.mp e
      exact .cons (h d _ z.1 a) (all_of h z.2 b)
theorem nl_rep (ls : ∀ a, O2 a → ∃ xs, H a = some (.lst xs)) : ∀ (n : Nat) (d : D) (v : V), nl n d = true → Rep K O H v d → Rep K O2 H v d := by
  have base : ∀ (n : Nat) (d : D) (v : V), nl n d = true → (∀ ds, d ≠ .tuple ds) → Rep K O H v d → Rep K O2 H v d := fun n d v e ne r => by
    cases r with
    | non => exact .non
    | bl b => exact .bl b
    | int i => exact .int i
    | str x q => exact .str x q
    | lst _ _ _ => cases n <;> simp [nl] at e
    | tup _ _ _ => exact absurd rfl (ne _)
  intro n
  induction n with
  | zero => exact fun d v e r => base 0 d v e (fun ds z => by subst z; simp [nl] at e) r
  | succ n ih =>
    intro d v e r
    cases r with
    | @tup a xs ds h1 l h2 =>
      have e' : ds.all (nl n) = true := e
      refine .tup ?_ l (all_of ih e' h2)
      rcases h1 with ⟨h1, _⟩ | h1
      · exact .inl ⟨h1, fun z => by
          obtain ⟨xs, q⟩ := ls _ z
          rw [h1] at q; cases q⟩
      · exact .inr h1
    | non => exact .non
    | bl b => exact .bl b
    | int i => exact .int i
    | str x q => exact .str x q
    | lst _ _ _ => simp [nl] at e
theorem nl_all (ls : ∀ a, O2 a → ∃ xs, H a = some (.lst xs)) (n : Nat) {ds : List D} {vs : List V} (e : ds.all (nl n) = true) (r : RepAll K O H vs ds) : RepAll K O2 H vs ds := all_of (nl_rep ls n) e r
end
def okNl (d : D) : Res D := match nl 16 d with
  | true => .ok d
  | false => .fail
def okNls (ds : List D) : Res (List D) := match ds.all (nl 16) with
  | true => .ok ds
  | false => .fail
def mBor (m : EM) : EM := fun env => (m (frzE env)).bind okNl
def bBor (m : BM) : BM := fun env => m (frzE env)
def nBor (m : AM) : AM := fun env => (m (frzE env)).bind okNls
def aBor (m : AM) : AM := fun env => (m (frzE env)).bind okNls
section
variable {X : Cx} {P : Pm} {e : Expr} {es : List Expr}
theorem bor_run {m : EM} {σ : L2.St} {H : Hp} {Q : VK} (h : tM X.K P (mBor m) σ H Q) : tM X.K P m σ H Q := by
  obtain ⟨env, O, g, q⟩ := h
  refine ⟨frzE env, P.O0, g.frz, ?_⟩
  unfold mBor at q
  cases z : m (frzE env) with
  | exc c => rw [z] at q; exact q
  | fail => rw [z] at q; exact q
  | ok d =>
    rw [z] at q
    have q0 : pD X.K P O H Q (match nl 16 d with | true => .ok d | false => .fail) := q
    cases zl : nl 16 d with
    | false => rw [zl] at q0; exact q0.elim
    | true =>
      rw [zl] at q0
      exact fun x H' s r => q0 x H' s (nl_rep (g.grow s).lst 16 d x zl r)
theorem re_bor {m : EM} (h : RE X P e m) : RE X P e (mBor m) := pe_imp h fun _ _ _ => bor_run
theorem rt_bor {m : BM} (h : RT X P e m) : RT X P e (bBor m) := pt_imp h fun σ H Q ⟨env, O, g, q⟩ => ⟨frzE env, P.O0, g.frz, q⟩
theorem ra_bor {m : AM} (h : RA X P es m) : RA X P es (aBor m) := pa_imp h fun σ H Q ⟨env, O, g, q⟩ => by
  refine ⟨frzE env, P.O0, g.frz, ?_⟩
  unfold aBor at q
  cases z : m (frzE env) with
  | exc c => rw [z] at q; exact q
  | fail => rw [z] at q; exact q
  | ok d =>
    rw [z] at q
    have q0 : pA X.K P O H Q (match d.all (nl 16) with | true => .ok d | false => .fail) := q
    cases zl : d.all (nl 16) with
    | false => rw [zl] at q0; exact q0.elim
    | true =>
      rw [zl] at q0
      exact fun x H' s r => q0 x H' s (nl_all (g.grow s).lst 16 zl r)
theorem borF_run {m : AM} {σ : L2.St} {H : Hp} {Q : VK} (h : tMF X.K P (nBor m) σ H Q) : tMF X.K P m σ H Q := by
  obtain ⟨env, O, g, q⟩ := h
  refine ⟨frzE env, P.O0, g.frz, ?_⟩
  unfold nBor at q
  cases z : m (frzE env) with
  | exc c => rw [z] at q; exact q
  | fail => rw [z] at q; exact q
  | ok d =>
    rw [z] at q
    have q0 : pF X.K P O H Q (match d.all (nl 16) with | true => .ok d | false => .fail) := q
    cases zl : d.all (nl 16) with
    | false => rw [zl] at q0; exact q0.elim
    | true =>
      rw [zl] at q0
      refine fun p xs H' hp s hx r l => q0 p xs H' hp s hx (nl_all (fun a za => ?_) 16 zl r) l
      rcases za with za | rfl
      · exact (g.grow s).lst a za
      · exact ⟨_, hx⟩
theorem reF_bor {m : AM} (h : REF X P e m) : REF X P e (nBor m) := pe_imp h fun _ _ _ => borF_run
/-- what a statement sees as values from here on -/
def sFrz (is : List Nat) (m : SM) : SM := fun env => m (frzs env is)
def sFrzA (m : SM) : SM := fun env => m (frzE env)
theorem frzs_run {is : List Nat} {m : SM} {Dd : Ends} {σ : L2.St} {H : Hp} (h : tS X.K P (sFrz is m) Dd σ H) : tS X.K P m Dd σ H := by
  obtain ⟨env, O, g, q⟩ := h
  obtain ⟨O2, le, g2⟩ := g.frzs is
  exact ⟨_, O2, g2, pS.up q (grow_less le)⟩
theorem rs_frz {st : Stmt} {m : SM} (is : List Nat) (h : RS X P st m) : RS X P st (sFrz is m) := ps_imp h fun _ _ _ => frzs_run
theorem frzA_run {m : SM} {Dd : Ends} {σ : L2.St} {H : Hp} (h : tS X.K P (sFrzA m) Dd σ H) : tS X.K P m Dd σ H := by
  obtain ⟨env, O, g, q⟩ := h
  exact ⟨_, _, g.frz, pS.up q (grow_less g.sub)⟩
theorem rs_frzA {st : Stmt} {m : SM} (h : RS X P st m) : RS X P st (sFrzA m) := ps_imp h fun _ _ _ => frzA_run
end
end Rf

/-! Rf9: own lists written -/
namespace Rf
open PySem PySem.Spec PyProof.Rows L2

/-! ### writing -/
def noRow : List MV → Bool
  | [] => true
  | .val _ :: r => noRow r
  | .row _ :: _ => false
def setMV : List MV → Nat → MV → Option (List MV)
  | .val _ :: r, 0, m => some (m :: r)
  | .row _ :: _, 0, _ => none
  | x :: r, n + 1, m => (match setMV r n m with
    | some q => some (x :: q)
    | none => none)
  | [], _, _ => none
theorem setMV_rep {K : Frg} {O : OS} {H H2 : Hp} (g : Grow O H O H2) {y : V} {d : D} (hy : Rep K O H2 y d) : ∀ {es es' : List MV} {xs : List V} {fp : List Addr} {k : Nat}, MReps K O H xs es fp → (∀ c ∈ fp, H2 c = H c) → setMV es k (.val d) = some es' →
    k < xs.length ∧ MReps K O H2 (xs.set k y) es' fp ∧ es'.length = es.length
  | [], _, _, _, _, _, _, e => by simp [setMV] at e
  | .val d0 :: es, _, _, _, 0, h, k, e => by
    cases h with
    | val h1 h2 =>
      simp [setMV] at e
      subst e
      exact ⟨by simp, .val hy (h2.grow g k), rfl⟩
  | .row _ :: es, _, _, _, 0, _, _, e => by simp [setMV] at e
  | .val d0 :: es, _, _, _, n + 1, h, k, e => by
    cases h with
    | val h1 h2 =>
      have e' : (match setMV es n (.val d) with | some q => some (.val d0 :: q) | none => none) = some _ := e
      cases z : setMV es n (.val d) with
      | none => rw [z] at e'; cases e'
      | some q =>
        rw [z] at e'
        cases e'
        obtain ⟨a1, a2, a3⟩ := setMV_rep g hy h2 k z
        exact ⟨by simpa using a1, .val (Rep.grow g _ h1) a2, by simp [a3]⟩
  | .row ds :: es, _, _, _, n + 1, h, k, e => by
    cases h with
    | row h0 hl h1 h2 =>
      have e' : (match setMV es n (.val d) with | some q => some (.row ds :: q) | none => none) = some _ := e
      cases z : setMV es n (.val d) with
      | none => rw [z] at e'; cases e'
      | some q =>
        rw [z] at e'
        cases e'
        obtain ⟨a1, a2, a3⟩ := setMV_rep g hy h2 (fun c hc => k c (List.mem_cons_of_mem _ hc)) z
        exact ⟨by simpa using a1, .row ((k _ List.mem_cons_self).trans h0) hl (RepAll.grow g _ h1) a2, by simp [a3]⟩
theorem MReps.append {K : Frg} {O : OS} {H : Hp} {xs ys : List V} {es fs : List MV} {f1 f2 : List Addr} (h : MReps K O H xs es f1) (h' : MReps K O H ys fs f2) : MReps K O H (xs ++ ys) (es ++ fs) (f1 ++ f2) := by
  induction h with
  | nil => exact h'
  | val h1 _ ih => exact .val h1 ih
  | row h0 l h1 _ ih => exact .row h0 l h1 ih
def appMV : List MV → MV → List MV
  | [], m => [m]
  | x :: r, m => x :: appMV r m
theorem appMV_eq : ∀ (es : List MV) (m : MV), appMV es m = es ++ [m]
  | [], _ => rfl
  | x :: r, m => congrArg (List.cons x) (appMV_eq r m)
def okLen (es : List MV) (k : List MV → SRes) : SRes := match Nat.ble es.length 16777216 with
  | true => k es
  | false => .fail
theorem grow_upd {O : OS} {H : Hp} {a : Addr} {o : HO} (h : O a) : Grow O H O (upd H a o) := ⟨fun b u q nb => by rw [upd_ne fun e => nb (by rw [e]; exact h)]; exact q, fun b z => .inl z⟩
section
variable {X : Cx} {P : Pm} {pos : Pos} {e : Expr}
/-- own list's own object rewritten, its rows as they are -/
theorem Good.wr1 {K : Frg} {O : OS} {env : Env} {σ : L2.St} {H : Hp} (g : Good K P O env σ H) {i : Nat} {es : List MV} (e : eget env i = .own es) :
    ∃ a xs fp, σ[i]? = some (some (.ref a)) ∧ H a = some (.lst xs) ∧ MReps K O H xs es fp ∧ es.length ≤ sizeLine ∧ O a ∧ (∀ c ∈ fp, ∀ o, upd H a o c = H c) ∧
      ∀ (ys : List V) (es' : List MV), es'.length ≤ sizeLine → MReps K O (upd H a (.lst ys)) ys es' fp → Good K P O (eput env i (.own es')) σ (upd H a (.lst ys)) ∧ Grow O H O (upd H a (.lst ys)) := by
  obtain ⟨a, xs, fp, q1, q2, q3, q4, q5, q6, k⟩ := g.wr e
  have na : ∀ c ∈ fp, c ≠ a := fun c hc z => (List.nodup_cons.mp q5).1 (by rw [← z]; exact hc)
  refine ⟨a, xs, fp, q1, q2, q3, q4, q6 a List.mem_cons_self, fun c hc o => upd_ne (na c hc), fun ys es' l r => k _ es' fp (fun c hc => upd_ne fun z => hc (by rw [z]; exact List.mem_cons_self)) (fun c hc => ?_) (List.Sublist.refl _) (.own upd_same l r)⟩
  rcases List.mem_cons.mp hc with rfl | hc
  · exact ⟨_, upd_same⟩
  · rw [upd_ne (na c hc)]
    exact q3.there c hc
theorem Good.wrE {K : Frg} {P : Pm} {O : OS} {env : Env} {σ : L2.St} {H H1 : Hp} (g : Good K P O env σ H) (s : Same H H1) {i : Nat} {es : List MV} {a : Addr} (e : eget env i = .own es) (ha : σ[i]? = some (some (.ref a))) :
    ∃ xs fp, H1 a = some (.lst xs) ∧ MReps K O H1 xs es fp ∧ es.length ≤ sizeLine ∧ O a ∧ (∀ c ∈ fp, ∀ o, upd H1 a o c = H1 c) ∧
      ∀ (ys : List V) (es' : List MV), es'.length ≤ sizeLine → MReps K O (upd H1 a (.lst ys)) ys es' fp → Good K P O (eput env i (.own es')) σ (upd H1 a (.lst ys)) ∧ Grow O H1 O (upd H1 a (.lst ys)) := by
  obtain ⟨a', xs', fp', e1, e2, e3, e4, e5, e6, k'⟩ := (g.grow s).wr1 e
  have ea : a' = a := by rw [ha] at e1; injection e1 with e1; injection e1 with e1; injection e1 with e1; exact e1.symm
  subst ea
  exact ⟨xs', fp', e2, e3, e4, e5, e6, k'⟩
/-! ### an own list's places read -/
def getMV (es : List MV) : D → Res D
  | .int (.ofNat n) => (match es[n]? with
    | some (.val d) => .ok d
    | _ => .fail)
  | _ => .fail
theorem MReps.getV {K : Frg} {O : OS} {H : Hp} : ∀ {es : List MV} {xs : List V} {fp : List Addr} {k : Nat} {d : D}, MReps K O H xs es fp → es[k]? = some (.val d) → ∃ v, xs[k]? = some v ∧ Rep K O H v d
  | [], _, _, _, _, _, e => by simp at e
  | .val d0 :: es, _, _, 0, d, h, e => by
    cases h with
    | val h1 _ => simp at e; subst e; exact ⟨_, rfl, h1⟩
  | .row _ :: es, _, _, 0, d, h, e => by simp at e
  | .val d0 :: es, _, _, k + 1, d, h, e => by
    cases h with
    | val _ h2 =>
      obtain ⟨v, q1, q2⟩ := MReps.getV (k := k) h2 (by simpa using e)
      exact ⟨v, by simpa using q1, q2⟩
  | .row _ :: es, _, _, k + 1, d, h, e => by
    cases h with
    | row _ _ _ h2 =>
      obtain ⟨v, q1, q2⟩ := MReps.getV (k := k) h2 (by simpa using e)
      exact ⟨v, by simpa using q1, q2⟩
def mIxO (i : Nat) (m : EM) : EM := fun env => match eget env i with
  | .val d => (m env).bind (fIx d)
  | .own es => (m env).bind (getMV es)
  | .emp => .fail
/-- x[e], x an own list or a value -/
theorem re_ixO {i : Nat} {a b : Expr} {mb : EM} (ha : PE X a (tVar i)) (hb : RE X P b mb) (hs : PlainIx b) : RE X P (.Subscript a b pos) (mIxO i mb) := pe_imp (pe_ix ix_seq ha hb hs) fun σ H Q ⟨env, O, g, q⟩ => by
  unfold mIxO at q
  cases z : eget env i with
  | emp => rw [z] at q; exact q.elim
  | val d =>
    rw [z] at q
    obtain ⟨x, e1, r⟩ := g.val z
    refine ⟨x, e1, env, O, g, pD.bindD q fun y H2 b _ s2 r2 q2 => ?_⟩
    exact r_ix (P := P) O H2 x y d b Q (g.grow s2).dom (r.same s2) r2 q2
  | own es =>
    rw [z] at q
    obtain ⟨a, xs, fp, q1, q2, q3, q4, q5⟩ := g.own z
    refine ⟨_, q1, env, O, g, pD.bindD q fun y H2 b _ s2 r2 q6 => ?_⟩
    obtain ⟨xs2, fp2, w1, w2, w3, w4, _, _⟩ := g.wrE s2 z q1
    cases r2 with
    | int j =>
      cases j with
      | ofNat n =>
        have q7 : pD X.K P O H2 Q (match es[n]? with | some (.val d) => .ok d | _ => .fail) := q6
        cases zn : es[n]? with
        | none => rw [zn] at q7; exact q7.elim
        | some mv =>
          cases mv with
          | row _ => rw [zn] at q7; exact q7.elim
          | val d =>
            rw [zn] at q7
            obtain ⟨v, ev, rv⟩ := w2.getV zn
            exact .inl ⟨a, xs2, n, v, rfl, rfl, .of w1, atI_nat ev, q7 v H2 (Same.refl _) rv⟩
      | negSucc n => exact q6.elim
    | _ => exact q6.elim
/-! ### append, extend -/
def sApp (i : Nat) (m : EM) : SM := fun env => match eget env i with
  | .own es => sBind (m env) fun d => okLen (appMV es (.val d)) fun es' => .next (eput env i (.own es'))
  | _ => .fail
def asLst : D → Res (List D)
  | .list ds => .ok ds
  | _ => .fail
def sExt (i : Nat) (m : EM) : SM := fun env => match eget env i with
  | .own es => sBind (m env) fun d => match d with
    | .list ds => okLen (es ++ mvs ds) fun es' => .next (eput env i (.own es'))
    | _ => .fail
  | _ => .fail
theorem mt_ae (h1 : MtM X "list.append" rAppend) : True := trivial
theorem rs_app {i : Nat} {x : Str} {m : EM} {p apos cpos : Pos} (hv : PE X (.Name x p) (tVar i)) (he : RE X P e m)
    (hbase : attributeBase (.Name x p) "append" X.env (eval (.Name x p) X.env) = eval (.Name x p) X.env := by rfl)
    (hfew : ((backTo cpos (starEach [e] X.env)).all (fun x => !x.1) && (backToKw cpos (keywordEach [] X.env)).all (fun x => x.1.isSome)
      && decide (([e] : List Expr).length + ([] : List Keyword).length + (if ([] : List Keyword).isEmpty then 0 else 1) < 30)) = true := by rfl)
    (hline : (apos.endLine == cpos.line) = true := by rfl) (hs : starEach [e] X.env = (false, eval e X.env) :: starEach [] X.env := by rfl) (hplain : (backTo cpos (starEach [] X.env)).any (·.1) = false := by rfl)
    (hsw : swapsWith (.Call (.Attribute (.Name x p) "append" apos) [e] [] cpos) none pos.line X.env = pure false := by rfl) :
    RS X P (.Expr (.Call (.Attribute (.Name x p) "append" apos) [e] [] cpos) pos) (sApp i m) :=
  ps_imp (ps_expr (pe_bm PySem.F.plainAttrs_list PySem.F.slot_list_append PySem.F.type_list_append mt_append hv (pa_cons he pa_nil hs) hbase hfew hline hs hplain) hsw) fun Dd σ H ⟨env, O, g, q⟩ => by
    unfold sApp at q
    cases zo : eget env i with
    | own es =>
      rw [zo] at q
      obtain ⟨a, xs, fp, q1, q2, q3, q4, q5⟩ := g.own zo
      refine ⟨_, q1, .inl ⟨rfl, xs, .of q2⟩, env, O, g, pS.bindD q fun y H1 d _ s1 r1 q7 => ?_⟩
      obtain ⟨xs', fp', e2, e3, e4, e5, e6, k'⟩ := g.wrE s1 zo q1
      unfold okLen at q7
      cases zl : Nat.ble (appMV es (.val d)).length 16777216 with
      | false => rw [zl] at q7; exact q7.elim
      | true =>
        rw [zl] at q7
        have hl := Nat.le_of_ble_eq_true zl
        rw [appMV_eq] at hl q7
        have hl2 : es.length + 1 ≤ 16777216 := by simpa using hl
        have gr := grow_upd (H := H1) (o := .lst (xs' ++ [y])) e5
        obtain ⟨g2, gr2⟩ := k' (xs' ++ [y]) (es ++ [.val d]) (by rw [sizeLine_eq]; simpa using hl2) (by
          have z1 := e3.grow gr (fun c hc => e6 c hc _)
          have z2 := z1.append (.val (Rep.grow gr _ r1) .nil)
          rw [List.append_nil] at z2
          exact z2)
        exact ⟨a, xs', y, rfl, rfl, e2, by rw [e3.len, sizeLine_eq]; omega, q7 σ O _ g2 gr2⟩
    | emp => rw [zo] at q; exact q.elim
    | val d => rw [zo] at q; exact q.elim
theorem rs_ext {i : Nat} {x : Str} {m : EM} {p apos cpos : Pos} (hv : PE X (.Name x p) (tVar i)) (he : RE X P e m)
    (hbase : attributeBase (.Name x p) "extend" X.env (eval (.Name x p) X.env) = eval (.Name x p) X.env := by rfl)
    (hfew : ((backTo cpos (starEach [e] X.env)).all (fun x => !x.1) && (backToKw cpos (keywordEach [] X.env)).all (fun x => x.1.isSome)
      && decide (([e] : List Expr).length + ([] : List Keyword).length + (if ([] : List Keyword).isEmpty then 0 else 1) < 30)) = true := by rfl)
    (hline : (apos.endLine == cpos.line) = true := by rfl) (hs : starEach [e] X.env = (false, eval e X.env) :: starEach [] X.env := by rfl) (hplain : (backTo cpos (starEach [] X.env)).any (·.1) = false := by rfl)
    (hsw : swapsWith (.Call (.Attribute (.Name x p) "extend" apos) [e] [] cpos) none pos.line X.env = pure false := by rfl) :
    RS X P (.Expr (.Call (.Attribute (.Name x p) "extend" apos) [e] [] cpos) pos) (sExt i m) :=
  ps_imp (ps_expr (pe_bm PySem.F.plainAttrs_list PySem.F.slot_list_extend PySem.F.type_list_extend mt_extend hv (pa_cons he pa_nil hs) hbase hfew hline hs hplain) hsw) fun Dd σ H ⟨env, O, g, q⟩ => by
    unfold sExt at q
    cases zo : eget env i with
    | own es =>
      rw [zo] at q
      obtain ⟨a, xs, fp, q1, q2, q3, q4, q5⟩ := g.own zo
      refine ⟨_, q1, .inl ⟨rfl, xs, .of q2⟩, env, O, g, pS.bindD q fun y H1 d _ s1 r1 q7 => ?_⟩
      obtain ⟨xs', fp', e2, e3, e4, e5, e6, k'⟩ := g.wrE s1 zo q1
      cases r1 with
      | @lst b zs ds h1 l1 h2 =>
        have q8 : pS X.K P O H1 Dd (okLen (es ++ mvs ds) fun es' => .next (eput env i (.own es'))) := q7
        unfold okLen at q8
        cases zl : Nat.ble (es ++ mvs ds).length 16777216 with
        | false => rw [zl] at q8; exact q8.elim
        | true =>
          rw [zl] at q8
          have hl := Nat.le_of_ble_eq_true zl
          have hl2 : es.length + ds.length ≤ 16777216 := by
            rw [List.length_append, mvs_len] at hl; exact hl
          have gr := grow_upd (H := H1) (o := .lst (xs' ++ zs)) e5
          obtain ⟨g2, gr2⟩ := k' (xs' ++ zs) (es ++ mvs ds) (by rw [sizeLine_eq]; exact hl) (by
            have z1 := e3.grow gr (fun c hc => e6 c hc _)
            have z2 := z1.append (mvs_rep (RepAll.grow gr _ h2))
            rw [List.append_nil] at z2
            exact z2)
          exact ⟨a, b, xs', zs, rfl, rfl, e2, h1.1, by rw [e3.len, h2.len, sizeLine_eq]; exact hl2, q8 σ O _ g2 gr2⟩
      | _ => exact q7.elim
    | emp => rw [zo] at q; exact q.elim
    | val d => rw [zo] at q; exact q.elim
end

/-! ### rows -/
theorem MReps.rowAt {K : Frg} {O : OS} {H : Hp} : ∀ {es : List MV} {xs : List V} {fp : List Addr} {k : Nat} {ds : List D}, fp.Nodup → (∀ c ∈ fp, O c) → MReps K O H xs es fp → es[k]? = some (.row ds) →
    ∃ b ys, xs[k]? = some (.ref b) ∧ H b = some (.lst ys) ∧ ds.length ≤ sizeLine ∧ RepAll K O H ys ds ∧ b ∈ fp ∧
      ∀ ys' ds', ds'.length ≤ sizeLine → RepAll K O (upd H b (.lst ys')) ys' ds' → MReps K O (upd H b (.lst ys')) xs (es.set k (.row ds')) fp
  | [], _, _, _, _, _, _, _, e => by simp at e
  | .val d0 :: es, _, _, 0, ds, _, _, h, e => by simp at e
  | .row d0 :: es, _, _, 0, ds, nd, hO, h, e => by
    cases h with
    | @row b ys vs _ _ fp h0 l h1 h2 =>
      simp at e
      subst e
      obtain ⟨n1, n2⟩ := List.nodup_cons.mp nd
      refine ⟨b, ys, rfl, h0, l, h1, List.mem_cons_self, fun ys' ds' l' r' => ?_⟩
      exact .row upd_same l' r' (h2.grow (grow_upd (hO b List.mem_cons_self)) fun c hc => upd_ne fun z => n1 (by rw [← z]; exact hc))
  | .val d0 :: es, _, _, k + 1, ds, nd, hO, h, e => by
    cases h with
    | val h1 h2 =>
      obtain ⟨b, ys, a1, a2, a3, a4, a5, a6⟩ := MReps.rowAt (k := k) nd hO h2 (by simpa using e)
      exact ⟨b, ys, by simpa using a1, a2, a3, a4, a5, fun ys' ds' l' r' => .val (Rep.grow (grow_upd (hO b a5)) _ h1) (a6 ys' ds' l' r')⟩
  | .row d0 :: es, _, _, k + 1, ds, nd, hO, h, e => by
    cases h with
    | @row b0 ys0 vs _ _ fp h0 l h1 h2 =>
      obtain ⟨n1, n2⟩ := List.nodup_cons.mp nd
      obtain ⟨b, ys, a1, a2, a3, a4, a5, a6⟩ := MReps.rowAt (k := k) n2 (fun c hc => hO c (List.mem_cons_of_mem _ hc)) h2 (by simpa using e)
      have ne : b0 ≠ b := fun z => n1 (by rw [z]; exact a5)
      have ob : O b := hO b (List.mem_cons_of_mem _ a5)
      exact ⟨b, ys, by simpa using a1, a2, a3, a4, List.mem_cons_of_mem _ a5, fun ys' ds' l' r' => .row (by rw [upd_ne ne]; exact h0) l (RepAll.grow (grow_upd ob) _ h1) (a6 ys' ds' l' r')⟩
/-- own list, one row of it -/
theorem Good.rowE {K : Frg} {P : Pm} {O : OS} {env : Env} {σ : L2.St} {H H1 : Hp} (g : Good K P O env σ H) (s : Same H H1) {i : Nat} {es : List MV} {a : Addr} {k : Nat} {ds : List D} (e : eget env i = .own es) (ha : σ[i]? = some (some (.ref a))) (hk : es[k]? = some (.row ds)) :
    ∃ xs b ys, H1 a = some (.lst xs) ∧ xs[k]? = some (.ref b) ∧ H1 b = some (.lst ys) ∧ ds.length ≤ sizeLine ∧ RepAll K O H1 ys ds ∧ O b ∧
      ∀ ys' ds', ds'.length ≤ sizeLine → RepAll K O (upd H1 b (.lst ys')) ys' ds' → Good K P O (eput env i (.own (es.set k (.row ds')))) σ (upd H1 b (.lst ys')) ∧ Grow O H1 O (upd H1 b (.lst ys')) := by
  obtain ⟨a', xs, fp, e1, e2, e3, e4, e5, e6, k'⟩ := (g.grow s).wr e
  have ea : a' = a := by rw [ha] at e1; injection e1 with e1; injection e1 with e1; injection e1 with e1; exact e1.symm
  subst ea
  obtain ⟨n1, n2⟩ := List.nodup_cons.mp e5
  obtain ⟨b, ys, a1, a2, a3, a4, a5, a6⟩ := e3.rowAt n2 (fun c hc => e6 c (List.mem_cons_of_mem _ hc)) hk
  have ne : a' ≠ b := fun z => n1 (by rw [z]; exact a5)
  refine ⟨xs, b, ys, e2, a1, a2, a3, a4, e6 b (List.mem_cons_of_mem _ a5), fun ys' ds' l' r' => ?_⟩
  have z := a6 ys' ds' l' r'
  refine k' _ _ fp (fun c hc => upd_ne fun q => hc (by rw [q]; exact List.mem_cons_of_mem _ a5)) (fun c hc => ?_) (List.Sublist.refl _) (.own (by rw [upd_ne ne]; exact e2) (by rw [List.length_set]; exact e4) z)
  rcases List.mem_cons.mp hc with rfl | hc
  · exact ⟨_, by rw [upd_ne ne]; exact e2⟩
  · exact z.there c hc

/-! ### targets that write -/
abbrev WM := D → Env → Res Env
def pE (K : Frg) (P : Pm) (O : OS) (H : Hp) (N : L2.St → Hp → Prop) : Res Env → Prop
  | .ok e => pN K P O H e N
  | .exc c => pXc P c H
  | .fail => False
theorem pE.up {K : Frg} {P : Pm} {O O2 : OS} {H H2 : Hp} {N : L2.St → Hp → Prop} {r : Res Env} (h : pE K P O H N r) (g : Grow O H O2 H2) : pE K P O2 H2 N r := by
  cases r with
  | ok e => exact pN.up h g
  | exc c => exact h
  | fail => exact h
theorem pE.bindD {K : Frg} {P : Pm} {O : OS} {H : Hp} {N : L2.St → Hp → Prop} {m : Res D} {k : D → Res Env} {R : VK} (h : pE K P O H N (m.bind k)) (f : ∀ x H' a, m = .ok a → Same H H' → Rep K O H' x a → pE K P O H' N (k a) → R x H') : pD K P O H R m := by
  cases m with
  | ok a => exact fun x H' s r => f x H' a rfl s r (pE.up h (.of_same s))
  | exc c => exact h
  | fail => exact h
structure BW (K : Frg) (P : Pm) (g : TG) (w : WM) : Prop where
  run : ∀ (O : OS) (H : Hp) (σ : L2.St) (env : Env) (v : V) (d : D) (Q : L2.St → Hp → Prop), Good K P O env σ H → Rep K O H v d → pE K P O H Q (w d env) → g v σ H Q
structure BWs (K : Frg) (P : Pm) (g : TGs) (w : List D → Env → Res Env) : Prop where
  run : ∀ (O : OS) (H : Hp) (σ : L2.St) (env : Env) (vs : List V) (ds : List D) (Q : L2.St → Hp → Prop), Good K P O env σ H → RepAll K O H vs ds → pE K P O H Q (w ds env) → g vs σ H Q
def wName (i : Nat) : WM := fun d env => .ok (eput env i (.val d))
def wNil : List D → Env → Res Env
  | [], env => .ok env
  | _, _ => .fail
def wCons (w : WM) (r : List D → Env → Res Env) : List D → Env → Res Env
  | d :: ds, env => (w d env).bind fun e => r ds e
  | _, _ => .fail
def wTup (n : Nat) (r : List D → Env → Res Env) : WM := fun d env => match d with
  | .tuple ds => (match Nat.beq ds.length n with
    | true => r ds env
    | false => .fail)
  | _ => .fail
def okSet (o : Option (List MV)) (k : List MV → Res Env) : Res Env := match o with
  | some es => k es
  | none => .fail
/-- x[k] = d -/
def stoK (i : Nat) (es : List MV) (d : D) (env : Env) : D → Res Env
  | .int (.ofNat n) => okSet (setMV es n (.val d)) fun es' => .ok (eput env i (.own es'))
  | _ => .fail
def wSto (i : Nat) (mk : EM) : WM := fun d env => match eget env i with
  | .own es => (mk env).bind fun k => stoK i es d env k
  | _ => .fail
/-- x[a][b] = d -/
def rowK (i : Nat) (es : List MV) (ds : List D) (d : D) (env : Env) (n : Nat) : D → Res Env
  | .int (.ofNat m) => (match Nat.blt m ds.length with
    | true => .ok (eput env i (.own (es.set n (.row (ds.set m d)))))
    | false => .fail)
  | _ => .fail
def rowOf {α : Type} (es : List MV) (n : Nat) (k : List D → Res α) : Res α := match es[n]? with
  | some (.row ds) => k ds
  | _ => .fail
def ofN (d : D) (k : Nat → Res Env) : Res Env := match d with
  | .int (.ofNat n) => k n
  | _ => .fail
def wRow (i : Nat) (ma mb : EM) : WM := fun d env => match eget env i with
  | .own es => (ma env).bind fun a => ofN a fun n => rowOf es n fun ds => (mb env).bind fun b => rowK i es ds d env n b
  | _ => .fail
theorem rowOf_ok {α : Type} (es : List MV) (n : Nat) (k : List D → Res α) : (∃ ds, es[n]? = some (.row ds) ∧ rowOf es n k = k ds) ∨ rowOf es n k = .fail := by
  unfold rowOf
  split
  · rename_i ds e
    exact .inl ⟨ds, e, rfl⟩
  · exact .inr rfl
theorem RepAll.setAt {K : Frg} {O : OS} {H : Hp} : ∀ {vs : List V} {ds : List D} {i : Nat} {v : V} {d : D}, RepAll K O H vs ds → Rep K O H v d → RepAll K O H (vs.set i v) (ds.set i d)
  | _, [], _, _, _, h, _ => by cases h; exact .nil
  | _, _ :: _, 0, _, _, h, r => by cases h with | cons _ h2 => exact .cons r h2
  | _, _ :: _, i + 1, _, _, h, r => by cases h with | cons h1 h2 => exact .cons h1 (RepAll.setAt h2 r)
section
variable {K : Frg} {P : Pm}
theorem bw_name (i : Nat) : BW K P (gName i) (wName i) := ⟨fun O H σ env v d Q g r q => q _ O H (g.put i r) .refl⟩
theorem bws_nil : BWs K P gNil wNil := ⟨fun O H σ env vs ds Q g r q => by
  cases ds with
  | nil => cases r; exact ⟨rfl, q σ O H g .refl⟩
  | cons _ _ => exact q.elim⟩
theorem bws_cons {t : TG} {u : TGs} {b : WM} {r : List D → Env → Res Env} (h1 : BW K P t b) (h2 : BWs K P u r) : BWs K P (gCons t u) (wCons b r) := ⟨fun O H σ env vs ds Q g rr q => by
  cases ds with
  | nil => exact q.elim
  | cons d ds =>
    cases rr with
    | cons r1 r2 =>
      refine ⟨_, _, rfl, h1.run O H σ env _ d _ g r1 ?_⟩
      have q0 : pE K P O H Q ((b d env).bind fun e => r ds e) := q
      cases z : b d env with
      | exc c => rw [z] at q0; exact q0
      | fail => rw [z] at q0; exact q0
      | ok e =>
        rw [z] at q0
        exact fun σ' O' H' g' gr => h2.run O' H' σ' e _ ds Q g' (RepAll.grow gr _ r2) (pE.up q0 gr)⟩
theorem bw_tup {n : Nat} {u : TGs} {r : List D → Env → Res Env} (h : BWs K P u r) : BW K P (gTup K n u) (wTup n r) := ⟨fun O H σ env v d Q g rr q => by
  cases rr with
  | @tup a xs ds h1 l h2 =>
    have q0 : pE K P O H Q (match Nat.beq ds.length n with | true => r ds env | false => .fail) := q
    cases z : Nat.beq ds.length n with
    | false => rw [z] at q0; exact q0.elim
    | true =>
      rw [z] at q0
      exact ⟨_, _, rfl, h1.seq, by rw [h2.len]; exact Nat.eq_of_beq_eq_true z, h.run O H σ env _ ds Q g h2 q0⟩
  | _ => exact q.elim⟩
theorem ixN_nat {n k : Nat} (h : k < n) : ixN n (k : Int) = some k := by
  unfold ixN
  rw [if_pos (by omega), if_pos (by omega)]
  rfl
theorem bw_sto (i : Nat) {mk : EM} : BW K P (gSub (tVar i) (tM K P mk) rSetL) (wSto i mk) := ⟨fun O H σ env v d Q g r q => by
  unfold wSto at q
  cases zo : eget env i with
  | emp => rw [zo] at q; exact q.elim
  | val d => rw [zo] at q; exact q.elim
  | own es =>
    rw [zo] at q
    obtain ⟨a, xs, fp, q1, q2, q3, q4, q5⟩ := g.own zo
    refine ⟨_, q1, env, O, g, pE.bindD q fun y H1 k _ s1 r1 q7 => ?_⟩
    obtain ⟨xs', fp', e2, e3, e4, e5, e6, k'⟩ := g.wrE s1 zo q1
    cases r1 with
    | int j =>
      cases j with
      | ofNat n =>
        have q8 : pE K P O H1 Q (okSet (setMV es n (.val d)) fun es' => .ok (eput env i (.own es'))) := q7
        cases zs : setMV es n (.val d) with
        | none => rw [zs] at q8; exact q8.elim
        | some es' =>
          rw [zs] at q8
          have gr := grow_upd (H := H1) (o := .lst (xs'.set n v)) e5
          obtain ⟨p1, p2, p3⟩ := setMV_rep gr (Rep.grow gr _ (r.same s1)) e3 (fun c hc => e6 c hc _) zs
          obtain ⟨g2, gr2⟩ := k' (xs'.set n v) es' (by rw [p3]; exact e4) p2
          exact ⟨a, xs', n, n, rfl, rfl, e2, ixN_nat p1, q8 σ O _ g2 gr2⟩
      | negSucc n => exact q7.elim
    | _ => exact q7.elim⟩
theorem bw_row (i : Nat) {ma mb : EM} : BW K P (gSub (tOp (rIx K) (tVar i) (tM K P ma)) (tM K P mb) rSetL) (wRow i ma mb) := ⟨fun O H σ env v d Q g r q => by
  unfold wRow at q
  cases zo : eget env i with
  | emp => rw [zo] at q; exact q.elim
  | val d => rw [zo] at q; exact q.elim
  | own es =>
    rw [zo] at q
    obtain ⟨a, xs, fp, q1, q2, q3, q4, q5⟩ := g.own zo
    refine ⟨_, q1, env, O, g, pE.bindD q fun y H1 k _ s1 r1 q7 => ?_⟩
    cases r1 with
    | int j =>
      cases j with
      | ofNat n =>
        have q8 : pE K P O H1 Q (rowOf es n fun ds => (mb env).bind fun b => rowK i es ds d env n b) := q7
        rcases rowOf_ok es n (fun ds => (mb env).bind fun b => rowK i es ds d env n b) with ⟨ds, eds, ek⟩ | ek
        · rw [ek] at q8
          obtain ⟨xs1, b1, ys1, w1, w2, w3, w4, w5, w6, _⟩ := g.rowE s1 zo q1 eds
          refine .inl ⟨a, xs1, n, .ref b1, rfl, rfl, .of w1, atI_nat w2, env, O, g.grow s1, pE.bindD q8 fun y2 H2 k2 _ s2 r2 q9 => ?_⟩
          obtain ⟨xs2, b2, ys2, v1, v2, v3, v4, v5, v6, v7⟩ := g.rowE (s1.trans s2) zo q1 eds
          have eb : b1 = b2 := by
            have z := s2 _ _ w1
            rw [v1] at z
            injection z with z; injection z with z
            subst z
            rw [w2] at v2
            injection v2 with v2; injection v2 with v2
          subst eb
          cases r2 with
          | int j2 =>
            cases j2 with
            | ofNat m =>
              have q11 : pE K P O H2 Q (match Nat.blt m ds.length with
                  | true => .ok (eput env i (.own (es.set n (.row (ds.set m d)))))
                  | false => .fail) := q9
              cases zm : Nat.blt m ds.length with
              | false => rw [zm] at q11; exact q11.elim
              | true =>
                rw [zm] at q11
                have hm : m < ds.length := Nat.le_of_ble_eq_true zm
                have gr := grow_upd (H := H2) (o := .lst (ys2.set m v)) v6
                obtain ⟨g2, gr2⟩ := v7 (ys2.set m v) (ds.set m d) (by rw [List.length_set]; exact v4) (RepAll.setAt (RepAll.grow gr _ v5) (Rep.grow gr _ (r.same (s1.trans s2))))
                exact ⟨b1, ys2, m, m, rfl, rfl, v3, ixN_nat (by rw [v5.len]; exact hm), q11 σ O _ g2 gr2⟩
            | negSucc m => exact q9.elim
          | _ => exact q9.elim
        · rw [ek] at q8; exact q8.elim
      | negSucc n => exact q7.elim
    | _ => exact q7.elim⟩
end
end Rf

/-! Rf10: statements that write, comprehensions into names -/
namespace Rf
open PySem PySem.Spec PyProof.Rows L2

def sAsg (w : WM) (m : EM) : SM := fun env => sBind (m env) fun d => sBind (w d env) .next
def sAsg2 (w1 w2 : WM) (m : EM) : SM := fun env => sBind (m env) fun d => sBind (w1 d env) fun e => sBind (w2 d e) .next
section
variable {X : Cx} {P : Pm} {e : Expr} {pos : Pos} {m : EM}
theorem pE_of {O : OS} {H : Hp} {Dd : Ends} {r : Res Env} (h : pS X.K P O H Dd (sBind r .next)) : pE X.K P O H Dd.nx r := by
  cases r with
  | ok e => exact h
  | exc c => exact h
  | fail => exact h
theorem rs_asgW {tg : Expr} {g : TG} {w : WM} (he : RE X P e m) (hg : PG X tg g) (hB : BW X.K P g w) (hs : swapsWithSole [tg] e pos.line X.env = pure false := by rfl) (hw : swappedStores [tg] e X.env = pure none := by rfl)
    (h1 : (assignEach [tg] X.env).map (·.2) = [assign tg X.env] := by rfl) : RS X P (.Assign [tg] e pos) (sAsg w m) := ps_imp (ps_asg he hg hs hw h1) fun Dd σ H ⟨env, O, gd, q⟩ =>
  ⟨env, O, gd, pS.bindD q fun v H1 d _ s1 r1 q1 => hB.run O H1 σ env v d _ (gd.grow s1) r1 (pE_of q1)⟩
theorem rs_asgW2 {t1 t2 : Expr} {g1 g2 : TG} {w1 w2 : WM} (he : RE X P e m) (h1 : PG X t1 g1) (h2 : PG X t2 g2) (hB1 : BW X.K P g1 w1) (hB2 : BW X.K P g2 w2) (ha : (assignEach [t1, t2] X.env).map (·.2) = [assign t1 X.env, assign t2 X.env] := by rfl) (hw : swappedStores [t1, t2] e X.env = pure none := by rfl) :
    RS X P (.Assign [t1, t2] e pos) (sAsg2 w1 w2 m) := ps_imp (ps_asg2 he h1 h2 ha hw) fun Dd σ H ⟨env, O, gd, q⟩ => by
  refine ⟨env, O, gd, pS.bindD q fun v H1 d _ s1 r1 q1 => hB1.run O H1 σ env v d _ (gd.grow s1) r1 ?_⟩
  have q2 : pS X.K P O H1 Dd (sBind (w1 d env) fun e => sBind (w2 d e) .next) := q1
  cases z : w1 d env with
  | exc c => rw [z] at q2; exact q2
  | fail => rw [z] at q2; exact q2.elim
  | ok e1 =>
    rw [z] at q2
    exact fun σ' O' H' g' gr => hB2.run O' H' σ' e1 v d _ g' (Rep.grow gr _ r1) (pE_of (pS.up q2 gr))
end

/-! ### append to a row -/
def rowApp (i : Nat) (es : List MV) (n : Nat) (ds : List D) (env : Env) (d : D) : SRes := match Nat.blt ds.length 16777216 with
  | true => .next (eput env i (.own (es.set n (.row (ds ++ [d])))))
  | false => .fail
def rowS (es : List MV) (n : Nat) (k : List D → SRes) : SRes := match es[n]? with
  | some (.row ds) => k ds
  | _ => .fail
def natS (d : D) (k : Nat → SRes) : SRes := match d with
  | .int (.ofNat n) => k n
  | _ => .fail
def sRowApp (i : Nat) (mk m : EM) : SM := fun env => match eget env i with
  | .own es => sBind (mk env) fun k => natS k fun n => rowS es n fun ds => sBind (m env) (rowApp i es n ds env)
  | _ => .fail
theorem rowS_ok (es : List MV) (n : Nat) (k : List D → SRes) : (∃ ds, es[n]? = some (.row ds) ∧ rowS es n k = k ds) ∨ rowS es n k = .fail := by
  unfold rowS
  split
  · rename_i ds e
    exact .inl ⟨ds, e, rfl⟩
  · exact .inr rfl
section
variable {X : Cx} {P : Pm} {pos : Pos} {e : Expr}
theorem rs_rowApp {i : Nat} {x k : Expr} {m mk : EM} {ps apos cpos : Pos} (hv : PE X x (tVar i)) (hk : RE X P k mk) (hx : PlainIx k) (he : RE X P e m)
    (hbase : attributeBase (.Subscript x k ps) "append" X.env (eval (.Subscript x k ps) X.env) = eval (.Subscript x k ps) X.env := by rfl)
    (hfew : ((backTo cpos (starEach [e] X.env)).all (fun x => !x.1) && (backToKw cpos (keywordEach [] X.env)).all (fun x => x.1.isSome)
      && decide (([e] : List Expr).length + ([] : List Keyword).length + (if ([] : List Keyword).isEmpty then 0 else 1) < 30)) = true := by rfl)
    (hline : (apos.endLine == cpos.line) = true := by rfl) (hs : starEach [e] X.env = (false, eval e X.env) :: starEach [] X.env := by rfl) (hplain : (backTo cpos (starEach [] X.env)).any (·.1) = false := by rfl)
    (hsw : swapsWith (.Call (.Attribute (.Subscript x k ps) "append" apos) [e] [] cpos) none pos.line X.env = pure false := by rfl) :
    RS X P (.Expr (.Call (.Attribute (.Subscript x k ps) "append" apos) [e] [] cpos) pos) (sRowApp i mk m) :=
  ps_imp (ps_expr (pe_bm PySem.F.plainAttrs_list PySem.F.slot_list_append PySem.F.type_list_append mt_append (pe_ix ix_seq hv hk hx) (pa_cons he pa_nil hs) hbase hfew hline hs hplain) hsw) fun Dd σ H ⟨env, O, g, q⟩ => by
    unfold sRowApp at q
    cases zo : eget env i with
    | emp => rw [zo] at q; exact q.elim
    | val d => rw [zo] at q; exact q.elim
    | own es =>
      rw [zo] at q
      obtain ⟨a, xs, fp, q1, q2, q3, q4, q5⟩ := g.own zo
      refine ⟨_, q1, env, O, g, pS.bindD q fun y H1 k _ s1 r1 q7 => ?_⟩
      cases r1 with
      | int j =>
        cases j with
        | ofNat n =>
          have q8 : pS X.K P O H1 Dd (rowS es n fun ds => sBind (m env) (rowApp i es n ds env)) := q7
          rcases rowS_ok es n (fun ds => sBind (m env) (rowApp i es n ds env)) with ⟨ds, eds, ek⟩ | ek
          · rw [ek] at q8
            obtain ⟨xs1, b1, ys1, w1, w2, w3, w4, w5, w6, _⟩ := g.rowE s1 zo q1 eds
            refine .inl ⟨a, xs1, n, .ref b1, rfl, rfl, .of w1, atI_nat w2, .inl ⟨rfl, _, .of w3⟩, env, O, g.grow s1, pS.bindD q8 fun y2 H2 d2 _ s2 r2 q9 => ?_⟩
            obtain ⟨xs2, b2, ys2, v1, v2, v3, v4, v5, v6, v7⟩ := g.rowE (s1.trans s2) zo q1 eds
            have eb : b1 = b2 := by
              have z := s2 _ _ w1
              rw [v1] at z
              injection z with z; injection z with z
              subst z
              rw [w2] at v2
              injection v2 with v2; injection v2 with v2
            subst eb
            unfold rowApp at q9
            cases zm : Nat.blt ds.length 16777216 with
            | false => rw [zm] at q9; exact q9.elim
            | true =>
              rw [zm] at q9
              have hm : ds.length < 16777216 := Nat.le_of_ble_eq_true zm
              have gr := grow_upd (H := H2) (o := .lst (ys2 ++ [y2])) v6
              obtain ⟨g2, gr2⟩ := v7 (ys2 ++ [y2]) (ds ++ [d2]) (by rw [sizeLine_eq, List.length_append]; exact hm) ((RepAll.grow gr _ v5).append (.one (Rep.grow gr _ r2)))
              exact ⟨b1, ys2, y2, rfl, rfl, v3, by rw [v5.len, sizeLine_eq]; exact hm, q9 σ O _ g2 gr2⟩
          · rw [ek] at q8; exact q8.elim
        | negSucc n => exact q7.elim
      | _ => exact q7.elim
end

/-! ### comprehensions into names -/
def LcS (X : Cx) (P : Pm) (t : TE) (m : AM) : Prop := ∀ σ H Q, tMF X.K P m σ H Q → t σ H Q
def LcN (X : Cx) (P : Pm) (t : TE) (m : NM) : Prop := ∀ σ H Q, tMN X.K P m σ H Q → t σ H Q
section
variable {X : Cx} {P : Pm} {t : TE} {m : AM}
theorem lcs_bor (h : LcS X P t m) : LcS X P t (nBor m) := fun σ H Q q => h σ H Q (borF_run q)
theorem lcn_of (h : LcS X P t m) : LcN X P t (nOf m) := fun σ H Q q => h σ H Q (n_sound q)
theorem new_run {σ : L2.St} {H : Hp} {Q : VK} (h : tM X.K P (asList m) σ H Q) : tMF X.K P m σ H Q := by
  obtain ⟨env, O, g, q⟩ := h
  refine ⟨env, O, g, ?_⟩
  unfold asList at q
  cases z : m env with
  | ok ds =>
    rw [z] at q
    exact fun p xs H' hp s hx r l => q _ H' s (.lst ⟨hx, fun zz => g.dom p zz hp⟩ l (r.less fun _ zz => .inl zz))
  | exc c => rw [z] at q; exact q
  | fail => rw [z] at q; exact q
theorem setV_run {i : Nat} {me : EM} {Dd : Ends} {σ : L2.St} {H : Hp} (h : tS X.K P (sSet i me) Dd σ H) : tM X.K P me σ H (fun x H1 => gName i x σ H1 Dd.nx) := by
  obtain ⟨env, O, g, q⟩ := h
  exact ⟨env, O, g, pS.bindD q fun v H1 d _ s1 r1 q1 => q1 _ O H1 ((g.grow s1).put i r1) .refl⟩
/-- what a statement 'name = comprehension' is, on one line -/
structure LcSt (X : Cx) (st : Stmt) (t : TE) (i : Nat) : Prop where
  ps : PS X st (tAsg t (gName i))
theorem rs_lcV {st : Stmt} {i : Nat} (h : LcSt X st t i) (k : LcS X P t m) : RS X P st (sSet i (asList m)) := ps_imp h.ps fun Dd σ H q => k σ H _ (new_run (setV_run q))
theorem rs_lcO {st : Stmt} {i : Nat} {mn : NM} (h : LcSt X st t i) (k : LcN X P t mn) : RS X P st (sOwn i mn) := ps_imp h.ps fun Dd σ H q => k σ H _ (own_run q)
theorem lcst {i : Nat} {y : Str} {py : Pos} {elt tg iter : Expr} {ifs : List Expr} {scope : Scope} {own : List (Str × Nat)} {pos spos : Pos} {wi : TI} {g : TG} {tt : TT} {te : TE} (hc : X.calm = true) (hN : X.N.Nodup) (hy : X.N[i]? = some y) (hyl : X.env.scope.names.lookup y = some .local)
    (hk : X.env.scope.kind = .function) (hl : (py.line == pos.line) = true) (ha : (scope.names.any fun (n, k) => n == y && (k == .local || k == .cell)) = false) (hi : PI X tg iter wi) (ok : BlkOk X.N X.env.scope scope own)
    (hg : ∀ (s : Shared) (H : Hp) (C : Addr) (cl : List (Str × Addr)) (fp : List Addr), PG (X.blk s H scope (compEnvC scope cl C X.env) fp) tg g) (ht : ∀ (s : Shared) (H : Hp) (C : Addr) (cl : List (Str × Addr)) (fp : List Addr), PTs (X.blk s H scope (compEnvC scope cl C X.env) fp) ifs tt)
    (he : ∀ (s : Shared) (H : Hp) (C : Addr) (cl : List (Str × Addr)) (fp : List Addr), PE (X.blk s H scope (compEnvC scope cl C X.env) fp) elt te) (hs : ∀ x, foldedSetIterable iter X.env x = pure x := by intro _; rfl) :
    LcSt X (.Assign [.Name y py] (.ListComp elt [⟨tg, iter, ifs, 0⟩] scope pos) spos) (tLc wi g tt te (own.map (·.2))) i := ⟨ps_setLc hc hN hy hyl (sw_true hk hyl hl ha) hi ok hg ht he hs⟩
end

/-! ### comprehensions of new lists -/
def lcGoR (bd : BdM) (mt : BM) (me : AM) (env : Env) : List D → Res (List MV)
  | [] => .ok []
  | d :: r => match bd d env with
    | none => .fail
    | some e1 => (mt e1).bind fun b => match b with
      | true => (me e1).bind fun v => (lcGoR bd mt me env r).bind fun out => .ok (.row v :: out)
      | false => lcGoR bd mt me env r
def lcOutR (bd : BdM) (mt : BM) (me : AM) (vs : List Nat) (mi : AM) : NM := fun env => (mi env).bind fun ds => match lcGoR bd mt me (ewipe env vs) ds with
  | .ok out => .ok out
  | _ => .fail
section
variable {X : Cx} {P : Pm}
theorem lcR_sound {g : TG} {mi : AM} {bd : BdM} {mt : BM} {me : AM} {is vs : List Nat} (hB : BG X.K P.nox g bd is) (hsub : ∀ i ∈ is, i ∈ vs) :
    LcN X P (tLc (tI X.K P GC mi) g (tMB X.K P.nox mt) (tMF X.K P.nox me) vs) (lcOutR bd mt me vs mi) := by
  intro σ H Q h
  obtain ⟨env, O, gd, q⟩ := h
  refine ⟨env, O, gd, ?_⟩
  unfold lcOutR at q
  cases z : mi env with
  | exc c => rw [z] at q; exact q
  | fail => rw [z] at q; exact q
  | ok ds =>
    rw [z] at q
    have q' : pN2 X.K P O H Q (match lcGoR bd mt me (ewipe env vs) ds with | .ok out => .ok out | _ => .fail) := q
    cases z2 : lcGoR bd mt me (ewipe env vs) ds with
    | exc c => rw [z2] at q'; exact q'.elim
    | fail => rw [z2] at q'; exact q'.elim
    | ok out =>
      rw [z2] at q'
      intro J H1 s1 Y lz Dn hD
      refine ⟨fun i m H2 => m = ds.length - i ∧ i ≤ ds.length ∧ ∃ acc outs rest fp, H2 Dn = some (.lst acc) ∧ Same H1 H2 ∧ (∀ c ∈ Dn :: fp, H1 c = none) ∧ (Dn :: fp).Nodup ∧ MReps X.K (fun a => O a ∨ a ∈ Dn :: fp) H2 acc outs fp ∧ outs.length ≤ i ∧ lcGoR bd mt me (ewipe env vs) (ds.drop i) = .ok rest ∧ outs ++ rest = out,
        ⟨ds.length, by simp, Nat.zero_le _, [], [], out, [], upd_same, same_upd _ hD, fun c hc => by rw [List.mem_singleton.mp hc]; exact hD, List.nodup_cons.mpr ⟨by simp, List.nodup_nil⟩, .nil, Nat.zero_le _, z2, rfl⟩, ?_⟩
      rintro i m H2 ⟨rfl, hi2, acc, outs, rest, fp, hacc, sm, hfr, hnd, rr, lo, hgo, hout⟩
      have gc : GC O H1 (fun a => O a ∨ a ∈ Dn :: fp) H2 := ⟨sm, fun b zb => zb.elim .inl fun zb => .inr (hfr b zb)⟩
      have gW : Good X.K P.nox (fun a => O a ∨ a ∈ Dn :: fp) (ewipe env vs) (L2.wipe σ vs) H2 := ((((gd.grow s1).wishE E0).wipe _).moreL sm hfr hnd fun c hc => by
        rcases List.mem_cons.mp hc with rfl | hc
        · exact ⟨_, hacc⟩
        · exact rr.there c hc).good
      by_cases hlt : i < ds.length
      · have ed : ds.drop i = ds[i] :: ds.drop (i + 1) := List.drop_eq_getElem_cons hlt
        rw [ed] at hgo
        obtain ⟨y1, y2⟩ := Y.go _ H2 gc gW.dom i ds[i] (List.getElem?_eq_getElem hlt)
        refine .inr ⟨y1, fun H' => ∃ acc outs rest fp, H' Dn = some (.lst acc) ∧ Same H1 H' ∧ (∀ c ∈ Dn :: fp, H1 c = none) ∧ (Dn :: fp).Nodup ∧ MReps X.K (fun a => O a ∨ a ∈ Dn :: fp) H' acc outs fp ∧ outs.length ≤ i + 1 ∧ lcGoR bd mt me (ewipe env vs) (ds.drop (i + 1)) = .ok rest ∧ outs ++ rest = out,
          fun H' hN => ⟨ds.length - (i + 1), by omega, rfl, hlt, hN⟩, fun x H3 yy => ?_⟩
        obtain ⟨s3, rx⟩ := y2 x H3 yy
        have hgo' : (match bd ds[i] (ewipe env vs) with
          | none => .fail
          | some e1 => (mt e1).bind fun b => match b with
            | true => (me e1).bind fun v => (lcGoR bd mt me (ewipe env vs) (ds.drop (i + 1))).bind fun out => .ok (.row v :: out)
            | false => lcGoR bd mt me (ewipe env vs) (ds.drop (i + 1))) = Res.ok rest := hgo
        cases zb : bd ds[i] (ewipe env vs) with
        | none => rw [zb] at hgo'; cases hgo'
        | some e1 =>
          rw [zb] at hgo'
          refine hB.run _ H3 _ _ e1 x ds[i] _ (gW.grow s3) rx zb fun σ2 g2 ag => ⟨wipe_agree ag hsub, ?_⟩
          refine ⟨e1, _, g2, ?_⟩
          have keepR : ∀ {H' : Hp}, Same H2 H' → MReps X.K (fun a => O a ∨ a ∈ Dn :: fp) H' acc outs fp := fun {H'} s => rr.grow (.of_same s) fun c hc => by
            obtain ⟨ys, qy⟩ := rr.there c hc
            rw [s c _ qy, qy]
          cases zt : mt e1 with
          | exc c => simp only [zt] at hgo'; cases hgo'
          | fail => simp only [zt] at hgo'; cases hgo'
          | ok b =>
            simp only [zt] at hgo'
            intro H4 s4
            cases b with
            | false =>
              refine iteF ⟨acc, outs, rest, fp, (s3.trans s4) _ _ hacc, sm.trans (s3.trans s4), hfr, hnd, keepR (s3.trans s4), Nat.le_succ_of_le lo, hgo', hout⟩
            | true =>
              refine iteT ⟨e1, _, g2.grow s4, ?_⟩
              have hgo2 : ((me e1).bind fun v => (lcGoR bd mt me (ewipe env vs) (ds.drop (i + 1))).bind fun out => .ok (.row v :: out)) = Res.ok rest := hgo'
              cases ze : me e1 with
              | exc c => rw [ze] at hgo2; cases hgo2
              | fail => rw [ze] at hgo2; cases hgo2
              | ok v =>
                rw [ze] at hgo2
                have hgo3 : ((lcGoR bd mt me (ewipe env vs) (ds.drop (i + 1))).bind fun out => .ok (.row v :: out)) = Res.ok rest := hgo2
                cases zr : lcGoR bd mt me (ewipe env vs) (ds.drop (i + 1)) with
                | exc c => rw [zr] at hgo3; cases hgo3
                | fail => rw [zr] at hgo3; cases hgo3
                | ok rest' =>
                  rw [zr] at hgo3
                  cases hgo3
                  intro y ys H5 hy0 s5 hy5 ry ly
                  have sAll := s3.trans (s4.trans s5)
                  have h5 : H5 Dn = some (.lst acc) := sAll _ _ hacc
                  have lacc : acc.length = outs.length := rr.len
                  have y1 : H1 y = none := fresh_back (sm.trans (s3.trans s4)) hy0
                  have yout : y ∉ Dn :: fp := fun hm => by
                    rcases List.mem_cons.mp hm with e | hm
                    · rw [e, (s3.trans s4) _ _ hacc] at hy0; cases hy0
                    · obtain ⟨zs, qz⟩ := rr.there y hm
                      rw [(s3.trans s4) _ _ qz] at hy0; cases hy0
                  have nD : y ≠ Dn := fun e => yout (by rw [e]; exact List.mem_cons_self)
                  have hfr' : ∀ c ∈ Dn :: (fp ++ [y]), H1 c = none := fun c hc => by
                    rcases List.mem_cons.mp hc with e | hc
                    · exact hfr c (by rw [e]; exact List.mem_cons_self)
                    · rcases List.mem_append.mp hc with hc | hc
                      · exact hfr c (List.mem_cons_of_mem _ hc)
                      · rw [List.mem_singleton.mp hc]; exact y1
                  have hnd' : (Dn :: (fp ++ [y])).Nodup := by
                    obtain ⟨n1, n2⟩ := List.nodup_cons.mp hnd
                    refine List.nodup_cons.mpr ⟨fun hm => ?_, List.nodup_append.mpr ⟨n2, List.nodup_cons.mpr ⟨by simp, List.nodup_nil⟩, fun a ha b hb eab => ?_⟩⟩
                    · rcases List.mem_append.mp hm with hm | hm
                      · exact n1 hm
                      · exact nD (List.mem_singleton.mp hm).symm
                    · rw [List.mem_singleton.mp hb] at eab
                      exact yout (by rw [← eab]; exact List.mem_cons_of_mem _ ha)
                  have ofO : ∀ b, (O b ∨ b ∈ Dn :: (fp ++ [y])) → (O b ∨ b ∈ Dn :: fp) ∨ b = y := fun b zb => by
                    rcases zb with zb | zb
                    · exact .inl (.inl zb)
                    · rcases List.mem_cons.mp zb with e | zb
                      · exact .inl (.inr (by rw [e]; exact List.mem_cons_self))
                      · rcases List.mem_append.mp zb with zb | zb
                        · exact .inl (.inr (List.mem_cons_of_mem _ zb))
                        · exact .inr (List.mem_singleton.mp zb)
                  -- from H5 to the heap after the append
                  have gr : Grow (fun a => (O a ∨ a ∈ Dn :: fp) ∨ a = y) H5 (fun a => O a ∨ a ∈ Dn :: (fp ++ [y])) (upd H5 Dn (.lst (acc ++ [.ref y]))) :=
                    ⟨fun b o qb nb => by rw [upd_ne fun e => nb (.inl (.inr (by rw [e]; exact List.mem_cons_self)))]; exact qb, fun b zb => .inl (ofO b zb)⟩
                  have gr0 : Grow (fun a => O a ∨ a ∈ Dn :: fp) H2 (fun a => (O a ∨ a ∈ Dn :: fp) ∨ a = y) H5 := ⟨fun b o qb _ => sAll b o qb, fun b zb => zb.elim .inl fun zb => .inr (by rw [zb]; exact fresh_back (s3.trans s4) hy0)⟩
                  have r1 := rr.grow (gr0.trans gr) fun c hc => by
                    obtain ⟨zs, qz⟩ := rr.there c hc
                    rw [upd_ne fun e => (List.nodup_cons.mp hnd).1 (by rw [← e]; exact hc), sAll c _ qz, qz]
                  have r2 : MReps X.K (fun a => O a ∨ a ∈ Dn :: (fp ++ [y])) (upd H5 Dn (.lst (acc ++ [.ref y]))) [.ref y] [.row v] [y] :=
                    .row (by rw [upd_ne nD]; exact hy5) ly (RepAll.grow gr _ ry) .nil
                  refine ⟨acc, h5, by omega, acc ++ [.ref y], outs ++ [.row v], rest', fp ++ [y], upd_same, fun b o qb => ?_, hfr', hnd', r1.append r2, by rw [List.length_append]; show outs.length + 1 ≤ i + 1; omega, rfl, by rw [← hout, List.append_assoc]; rfl⟩
                  rw [upd_ne (ne_of_none qb hD)]
                  exact sAll _ _ (sm _ _ qb)
      · have e : i = ds.length := by omega
        subst e
        rw [List.drop_length] at hgo
        cases hgo
        rw [List.append_nil] at hout
        subst hout
        refine .inl ⟨Y.stop _ H2 gc, ?_⟩
        exact q' Dn acc fp H2 (fun c hc => fresh_back s1 (hfr c hc)) hnd (s1.trans sm) hacc rr (Nat.le_trans lo lz)
theorem reN_lc {elt tg iter : Expr} {ifs : List Expr} {scope : Scope} {own : List (Str × Nat)} {pos : Pos} {g : TG} {mi : AM} {bd : BdM} {mt : BM} {me : AM} {is : List Nat} (hc : X.calm = true) (hN : X.N.Nodup) (hi : RIC X P tg iter mi) (ok : BlkOk X.N X.env.scope scope own)
    (hB : BG X.K P.nox g bd is) (hsub : ∀ i ∈ is, i ∈ own.map (·.2))
    (hg : ∀ (s : Shared) (H : Hp) (C : Addr) (cl : List (Str × Addr)) (fp : List Addr), PG (X.blk s H scope (compEnvC scope cl C X.env) fp) tg g) (ht : ∀ (s : Shared) (H : Hp) (C : Addr) (cl : List (Str × Addr)) (fp : List Addr), RTs (X.blk s H scope (compEnvC scope cl C X.env) fp) P.nox ifs mt)
    (he : ∀ (s : Shared) (H : Hp) (C : Addr) (cl : List (Str × Addr)) (fp : List Addr), REF (X.blk s H scope (compEnvC scope cl C X.env) fp) P.nox elt me) (hs : ∀ x, foldedSetIterable iter X.env x = pure x := by intro _; rfl) :
    REN X P (.ListComp elt [⟨tg, iter, ifs, 0⟩] scope pos) (lcOutR bd mt me (own.map (·.2)) mi) := pe_imp (pe_lc (te := tMF X.K P.nox me) (tt := tMB X.K P.nox mt) hc hN hi ok hg ht he hs) fun σ H Q h => lcR_sound hB hsub σ H Q h
theorem lcs_sound {g : TG} {mi : AM} {bd : BdM} {mt : BM} {me : EM} {is vs : List Nat} (hB : BG X.K P.nox g bd is) (hsub : ∀ i ∈ is, i ∈ vs) : LcS X P (tLc (tI X.K P GC mi) g (tMB X.K P.nox mt) (tM X.K P.nox me) vs) (lcOut bd mt me vs mi) :=
  fun σ H Q h => lc_sound hB hsub h
end
end Rf

/-! Rf11: t[::-1], enumerate(tuple), (*t, x), sorted -/
namespace HT
open PySem PySem.Spec PyProof.Rows
section
variable {prog : Program} {w : World} {A : Around} {E : Value → Shared → Prop} {s : Shared}
theorem adjust_rev (n : Nat) : Builtin.Slice.sliceAdjust none none (-1) (n : Int) = ((n : Int) - 1, -1) := by
  unfold Builtin.Slice.sliceAdjust
  have h1 : ((-1 : Int) < 0) := by decide
  simp only [h1, if_true]
theorem places_rev (n : Nat) : Builtin.Slice.slicePlaces ((n : Int) - 1) (-1) (-1) = n := by
  unfold Builtin.Slice.slicePlaces
  have h1 : ¬ ((-1 : Int) > 0) := by decide
  simp only [h1, if_false]
  by_cases h : (n : Int) - 1 > -1
  · have e : ((n : Int) - 1 - -1 - 1) / (- -1) + 1 = (n : Int) := by
      rw [show (- -1 : Int) = 1 by decide, Int.ediv_one]
      omega
    simp only [h, if_true, e, Int.toNat_natCast]
  · have e : n = 0 := by omega
    subst e
    rfl
theorem fm_congr {α β : Type} {f g : α → Option β} : ∀ {l : List α}, (∀ k ∈ l, f k = g k) → l.filterMap f = l.filterMap g
  | [], _ => rfl
  | a :: l, h => by
    rw [List.filterMap_cons, List.filterMap_cons, h a List.mem_cons_self, fm_congr fun k hk => h k (List.mem_cons_of_mem _ hk)]
theorem pick_rev (xs : Array Value) : ((List.range xs.size).filterMap fun (k : Nat) => xs[((xs.size : Int) - 1 + (k : Int) * (-1)).toNat]?).toArray = xs.toList.reverse.toArray := by
  congr 1
  apply List.ext_getElem?
  intro i
  have key : ∀ k ∈ List.range xs.size, (fun (k : Nat) => xs[((xs.size : Int) - 1 + (k : Int) * (-1)).toNat]?) k = some (xs.getD (xs.size - 1 - k) default) := fun k hk => by
    have h := List.mem_range.mp hk
    have e : ((xs.size : Int) - 1 + (k : Int) * (-1)).toNat = xs.size - 1 - k := by omega
    show xs[((xs.size : Int) - 1 + (k : Int) * (-1)).toNat]? = _
    rw [e]
    have hlt : xs.size - 1 - k < xs.size := by omega
    simp [hlt]
  have e1 : (List.range xs.size).filterMap (fun (k : Nat) => xs[((xs.size : Int) - 1 + (k : Int) * (-1)).toNat]?) = (List.range xs.size).map fun k => xs.getD (xs.size - 1 - k) default := by
    rw [← List.filterMap_eq_map]
    exact fm_congr fun k hk => key k hk
  rw [e1]
  by_cases hi : i < xs.size
  · have hlt : xs.size - 1 - i < xs.size := by omega
    simp [hi, hlt, List.getElem?_reverse]
  · simp [hi]
theorem getItem_tuple_rev {t sl : Addr} {items : Array Value} {vs : Value} {Q : Value → Shared → Prop} (ht : IsTup s.heap t items) (hs : s.heap.IsSliceOf sl .none .none vs) (ps : IsPart vs (some (-1)))
    (h : Q (.ref s.heap.objs.size) { s with heap := s.heap.push { cls := .type "tuple", data := .seq items.toList.reverse.toArray } })
    (hsz : items.size ≤ sizeLine) : wpAny (model prog w) A (getItem (.ref t) (.ref sl)) Q E s := by
  have htake : sizeOk (.seq items.toList.reverse.toArray) := by
    show items.toList.reverse.toArray.size ≤ sizeLine
    rw [List.size_toArray, List.length_reverse, Array.length_toList]
    omega
  obtain ⟨os, hos, hcs, hds⟩ := id hs
  have hTs : s.TypeIs (.ref sl) "slice" := ⟨os, hos, hcs⟩
  unfold getItem
  try with_reducible refine wpAny_holding ?_
  first | refine wpAny_bind (wpAny_pure ?_) | skip
  refine wpAny_bind (wpAny_sequenceKey ht.typeIs (by decide) ?_)
  refine wpAny_bind (wpAny_callSpecial?_slot (name := Str.ofString "__getitem__") ht.typeIs PyProof.Rows.slot_tuple_getitem
    (wpAny_call_entry PyProof.Rows.slot_tuple_getitem ht.typeIs entry_tuple_getitem ?_ (args_tuple_getitem _ _)))
  show wpAny _ _ (Builtin.Tuple.tupleItemsOf (.ref t) >>= _) _ _ s
  refine wpAny_bind (tupleItemsOf_ ht ?_)
  refine wpAny_bind (wpAny_typeOf hTs ?_)
  rw [if_pos (by decide)]
  unfold Builtin.Slice.sliceApplied Builtin.Slice.sliceFields
  refine wpAny_bind (wpAny_bind (wpAny_bind (wpAny_field hos hds (x := .none) rfl (wpAny_bind (wpAny_field hos hds (x := .none) rfl (wpAny_bind (wpAny_field hos hds (x := vs) rfl (wpAny_pure ?_))))))))
  refine wpAny_bind (slicePart_ ps ?_)
  show wpAny _ _ (if ((-1 : Int) == 0) = true then _ else _) _ _ s
  rw [if_neg (by decide)]
  refine wpAny_bind (slicePart_none (wpAny_bind (slicePart_none (wpAny_bind (wpAny_pure ?_)))))
  show wpAny _ _ (match Builtin.Slice.sliceAdjust none none (-1) (items.size : Int) with | (lo, hi) => pure (lo, (-1 : Int), Builtin.Slice.slicePlaces lo hi (-1))) _ _ s
  rw [adjust_rev]
  show wpAny _ _ (pure ((items.size : Int) - 1, (-1 : Int), Builtin.Slice.slicePlaces ((items.size : Int) - 1) (-1) (-1))) _ _ s
  rw [places_rev]
  refine wpAny_pure ?_
  have hno : ¬ ((((items.size : Int) - 1) == 0 && (-1 : Int) == 1 && items.size == items.size) = true) := by
    intro q
    rw [Bool.and_eq_true, Bool.and_eq_true] at q
    exact absurd q.1.2 (by decide)
  show wpAny _ _ (if (((items.size : Int) - 1) == 0 && (-1 : Int) == 1 && items.size == items.size) = true then _ else _) _ _ s
  rw [if_neg hno, pick_rev]
  first
    | exact wpAny_bind (m := Builtin.Tuple.tupleExact _) (wpAny_newObj_type (wpAny_pure ⟨_, rfl, wpAny_pure h⟩) htake)
    | exact wpAny_bind (m := Builtin.Tuple.tupleExact _) (wpAny_newObj_type (wpAny_bind (wpAny_pure (wpAny_pure ⟨_, rfl, wpAny_pure h⟩))) htake)
    | exact wpAny_bind (wpAny_bind (m := Builtin.Tuple.tupleExact _) (wpAny_newObj_type (wpAny_pure (wpAny_pure ⟨_, rfl, wpAny_pure h⟩)) htake))
    | exact wpAny_bind (wpAny_bind (m := Builtin.Tuple.tupleExact _) (wpAny_newObj_type (wpAny_pure ⟨_, rfl, wpAny_pure h⟩) htake))
end
end HT
namespace L2
open PySem PySem.Spec PyProof.Rows
section
variable {X : Cx}
def tRevT (K : PySem.W.Frag) (te : TE) : TE := fun σ H Q => te σ H fun x H1 => ∃ a xs, x = .ref a ∧ SqT K H1 a xs ∧ ∀ p, H1 p = none → Q (.ref p) (upd H1 p (.tup xs.reverse))
theorem pe_revT {e : Expr} {te : TE} {k : Nat} {p1 p2 p3 pos : Pos} (he : PE X e te) : PE X (.Subscript e (.Slice none none (some (.UnaryOp .USub (.Constant (.int 1) k p1) p2)) p3) pos) (tRevT X.K te) := by
  refine ⟨fun pins s σ H Q I h => ?_⟩
  refine Subscript_ (thn (he.run pins s σ H _ I h) fun v s1 ⟨x, H1, I1, r1, q1⟩ => ?_)
  obtain ⟨a, xs, ex, hx, q⟩ := q1
  subst ex
  cases r1
  have hst : PO X (some (.UnaryOp .USub (.Constant (.int 1) k p1) p2)) (tPart (tUn (rU fun i => .int (-i)) (tC (.int 1)))) := po_some (pe_un un_neg pe_int)
  refine wpAny_Slice (thn (po_none.run pins s1 σ H1 (fun o H2 => o = none ∧ H2 = H1) I1 ⟨rfl, rfl⟩) fun vl s2 ⟨l, H2, I2, pl, el, e2⟩ => ?_)
  subst el e2
  refine thn (po_none.run pins s2 σ H2 (fun o H3 => o = none ∧ H3 = H2) I2 ⟨rfl, rfl⟩) fun vu s3 ⟨u, H3, I3, pu, eu, e3⟩ => ?_
  subst eu e3
  refine thn (hst.run pins s3 σ H3 (fun o H4 => o = some (-1) ∧ H4 = H3) I3 ⟨1, rfl, -1, rfl, rfl, rfl⟩) fun vs s4 ⟨o, H4, I4, ps, eo, e4⟩ => ?_
  subst eo e4
  have I5 : Inv X pins σ H4 { s4 with heap := s4.heap.push { cls := .type "slice", data := .fields #[vl, vu, vs] } } := I4.kept (t' := s4.toks) fun b ob q => Heap.get?_push_of_some _ q
  obtain ⟨its, r, ht, hz⟩ := I5.tuple hx
  have hlen := r.length
  cases pl
  cases pu
  show wpAny (model X.prog X.w) X.A (subscriptTail e (.Slice none none (some (.UnaryOp .USub (.Constant (.int 1) k p1) p2)) p3) (.ref a) (.ref s4.heap.objs.size)) (EP X pins σ Q) X.xe { s4 with heap := s4.heap.push { cls := .type "slice", data := .fields #[.none, .none, vs] } }
  refine tail_any (ops := [.ref a, .ref s4.heap.objs.size]) ht.typeIs (PyProof.Rows.slot_tuple_getitem.lookup) ?_ (by with_unfolding_all rfl)
  refine HT.getItem_tuple_rev ht (Heap.IsSliceOf.new _ .none .none vs) ps ?_ (by rw [List.size_toArray]; omega)
  refine ⟨.ref _, _, I5.laid (t' := s4.toks) (o := .tup xs.reverse) (fun b ob q => Heap.get?_push_of_some _ q) (Nat.le_refl _) ?_, rfl, q _ (I5.hok.fresh (Nat.le_refl _))⟩
  exact ⟨by rw [List.length_reverse]; exact hz, _, r.reverse, IsTup.new _ _⟩
end
end L2

namespace PySem
open Sem (wp)
open AutoSeq1 (wpAny_loadPart')
theorem meets_enumerate_newT (l : Addr) (items : Array Value) (n : Nat) (dct : Option Addr) (sl : Array (Option Value)) :
    Meets (Builtin.«enumerate.__new__» ⟨[.type "enumerate", .ref l], []⟩) (fun _ R s => s.heap.get? l = some { cls := .type "tuple", dict := dct, data := .seq items n, slots := sl } ∧
      R (.ok (.ret (.ref (s.heap.push { cls := .type "tuple_iterator", data := .fields #[.ref l, .int 0 0] }).objs.size)))
        { s with heap := (s.heap.push { cls := .type "tuple_iterator", data := .fields #[.ref l, .int 0 0] }).push { cls := .type "enumerate", data := .fields #[.none, .bool false, .ref s.heap.objs.size, rawInt 0, .none, .none] } }) :=
  .of_wp fun prog w A R s h => by
    obtain ⟨hp, g, d, tk, os⟩ := s; obtain ⟨hl, h⟩ := h
    have hsub := sub_enumerate
    have hL : Heap.IsTuple (Shared.heap ⟨hp, g, d, tk, os⟩) l items := ⟨_, hl, rfl, n, rfl⟩
    wp_walk using wpAny_loadPart' hl
    refine wpAny_stack_any fun st => wpAny_pure ?_
    split
    · rename_i c _ _ _ _ _
      cases (c == Value.type "enumerate")
      · wp_walk using wpAny_loadPart' hl, wpAny_pyIter_tuple hL
        exact ⟨_, rfl, h⟩
      · wp_walk using wpAny_loadPart' hl, wpAny_pyIter_tuple hL
        exact ⟨_, rfl, h⟩
    · wp_walk using wpAny_loadPart' hl, wpAny_pyIter_tuple hL
      exact ⟨_, rfl, h⟩
section
variable {prog : Program} {w : World} {A : Around} {E : Value → Shared → Prop} {s : Shared}
theorem call_enumerate_tupleR {l : Addr} {items : Array Value} {Q : Value → Shared → Prop} (hL : s.heap.IsTuple l items)
    (h : ∀ h', IsEnum h' (s.heap.objs.size + 1) s.heap.objs.size 0 .none → h'.IsTupleIter s.heap.objs.size l 0 → h'.objs.size = s.heap.objs.size + 2 →
      (∀ b o, s.heap.get? b = some o → h'.get? b = some o) → Q (.ref (s.heap.objs.size + 1)) { s with heap := h' }) :
    wpAny (model prog w) A (call (.type "enumerate") [.ref l]) Q E s := by
  obtain ⟨⟨c, dct, dt, sl⟩, hl, hc, n, hd⟩ := hL
  replace hc : c = .type "tuple" := hc
  replace hd : dt = .seq items n := hd
  subst hc hd
  refine callType_new F.called_enumerate (by decide) (F.typeCall_enumerate_1 _) (F.newCall_enumerate_1 _) (fun obj => F.args_object_init_2 obj _) F.entry_enumerate_new
    (meets_enumerate_newT l items n dct sl) ⟨hl, ?_⟩
  have hz : (s.heap.push { cls := .type "tuple_iterator", data := .fields #[.ref l, .int 0 0] }).objs.size = s.heap.objs.size + 1 := Heap.size_push ..
  show _ ∧ _
  rw [hz]
  have he : IsEnum ((s.heap.push { cls := .type "tuple_iterator", data := .fields #[.ref l, .int 0 0] }).push
      { cls := .type "enumerate", data := .fields #[.none, .bool false, .ref s.heap.objs.size, rawInt 0, .none, .none] }) (s.heap.objs.size + 1) s.heap.objs.size 0 .none := by
    have := Heap.get?_push_size (s.heap.push { cls := .type "tuple_iterator", data := .fields #[.ref l, .int 0 0] })
      (o := { cls := .type "enumerate", data := .fields #[.none, .bool false, .ref s.heap.objs.size, rawInt 0, .none, .none] }) rfl
    rw [hz] at this; exact this
  refine ⟨⟨_, he, rfl⟩, h _ he ⟨_, Heap.get?_push_of_some _ (Heap.get?_push_size _ rfl), rfl, rfl⟩ (by rw [Heap.size_push, hz]) fun b o x => Heap.get?_push_of_some _ (Heap.get?_push_of_some _ x)⟩
end
end PySem
namespace PySem
section
variable {prog : Program} {w : World} {A : Around} {E : Value → Shared → Prop} {s : Shared}
theorem wpAny_pyNext_enum_endT {e it l : Addr} {i : Nat} {items : Array Value} {old : Value} {Q : Option Value → Shared → Prop} (hh : A.handled = none)
    (he : IsEnum s.heap e it i old) (hit : s.heap.IsTupleIter it l i) (hl : s.heap.IsTuple l items) (hx : items[i]? = none)
    (hQ : ∀ h', Heap.ExtBut it s.heap h' → Q none { s with heap := h' }) : wpAny (model prog w) A (pyNext (.ref e)) Q E s := by
  have hT : s.TypeIs (.ref e) "enumerate" := ⟨_, he, rfl⟩
  unfold pyNext
  refine wpAny_bind (wpAny_attempt (wpAny_callSpecial?_slot (name := Str.ofString "__next__") hT F.slot_enumerate_next
    (wpAny_call_entry F.slot_enumerate_next hT F.entry_enumerate_next ?_ (F.args_enumerate_next_1 _))))
  show wpAny _ _ (field (.ref e) 2 >>= _) _ _ _
  refine wpAny_bind (wpAny_field he rfl (x := .ref it) rfl ?_)
  refine wpAny_bind (wpAny_nextOf_tuple_end hh hit hl hx fun h' x he' hx' => ?_)
  obtain ⟨o, ho, hc⟩ := hx'
  refine wpAny_bind (wpAny_isInstance (T := "StopIteration") (b := true) ⟨o, ho, hc⟩ isSubtype_stop ?_)
  exact wpAny_pure (hQ _ he')
end
end PySem
namespace L2
open PySem PySem.Spec PyProof.Rows
/-- enumerate of a tuple -/
def IteT (K : PySem.W.Frag) (a : Addr) : It :=
  ⟨fun i H => ∃ (xs : List V) (x : V), SqT K H a xs ∧ xs[i]? = some x, fun i H v H' => ∃ T x, v = .ref T ∧ H T = none ∧ H' = upd H T (.tup [.int (i : Nat), x]) ∧ ∀ xs, SqT K H a xs → xs[i]? = some x, fun i H => ∃ xs : List V, SqT K H a xs ∧ xs.length ≤ i⟩
theorem turn_enumT {P : Program} {w : World} {K : PySem.W.Frag} {elts : List Expr} {kk : Nat} {tpos : Pos} (a e it : Addr) :
    Turn P w K (.Tuple elts kk tpos) (IteT K a) [e, it] e (fun i h => (∃ old, IsEnum h e it ((i : Nat) : Int) old) ∧ h.IsTupleIter it a i ∧ e ≠ it ∧ e ≠ a ∧ a ≠ it) where
  mem := by simp
  obj := fun i h st b hb => by
    obtain ⟨⟨old, he⟩, ⟨o, ho, hc, hd⟩, _⟩ := st
    have e' : b = e ∨ b = it := by simpa using hb
    rcases e' with z | z
    · rw [z]; exact ⟨_, he, fun v q => nomatch q⟩
    · rw [z]; exact ⟨o, ho, fun v q => by rw [hd] at q; cases q⟩
  keep := fun i h h' st k => let ⟨⟨old, he⟩, hi, hne⟩ := st; ⟨⟨old, k e (by simp) _ he⟩, hi.at fun o q => k it (by simp) o q, hne⟩
  item := by
    intro X hP hw hK hc i pins s σ H E I hf st hg
    subst hP hw hK
    obtain ⟨⟨old, he⟩, hit, hne, hea, hia⟩ := st
    obtain ⟨xs, x, hq, hx⟩ := hg
    obtain ⟨its, rv, p, hz⟩ := I.tuple hq
    have p' : s.heap.IsTuple a its.toArray := p
    obtain ⟨u, hu, ru⟩ := rv.get hx
    have hel : e < s.heap.objs.size := Heap.lt_size he
    have hil : it < s.heap.objs.size := by obtain ⟨_, q, _⟩ := hit; exact Heap.lt_size q
    have hil2 : i < its.toArray.size := by
      rw [List.size_toArray]
      exact (List.getElem?_eq_some_iff.mp hu).1
    refine wpAny_pyNext_enum_itemD (D := Draws.tuple (prog := X.prog) (w := X.w) (A := X.A.in1) (I.ok.hd hc) it a hia its.toArray) (old := old) he ⟨hit, p'⟩ hil2 hne (by simp [hne, hea]) fun y h' tk hy ho hst' hT hsz hk => ?_
    have ey : y = u := by
      have q : its.toArray[i]? = some u := by simpa using hu
      rw [q] at hy
      exact (Option.some.inj hy).symm
    subst ey
    refine ⟨_, rfl, wpAny_letOwnedTupleGo_enum (s := { s with heap := h', toks := tk + 1 }) ho fun h'' he' sb => ?_⟩
    have hT2 : h''.get? s.heap.objs.size = some { cls := .type "tuple", data := .seq #[.int i tk, y] } := (sb.2 _ (Nat.ne_of_gt hel)).trans hT
    have new : ObjOk X.prog X.w (upd H s.heap.objs.size (.tup [.int (i : Nat), x])) h'' s.heap.objs.size (.tup [.int (i : Nat), x]) :=
      ⟨by show 2 ≤ sizeLine; decide, [.int i tk, y], .cons ⟨_, rfl⟩ (.cons ru .nil), ⟨_, hT2, rfl, _, rfl⟩⟩
    have I1 : Inv X pins σ (upd H s.heap.objs.size (.tup [.int (i : Nat), x])) { s with heap := h'', toks := tk + 1 } :=
      I.turnedNew (ch := [e, it]) (fun b ob hb q => (sb.2 b (fun z => hb (by simp [z]))).trans (hk b ob (fun z => hb (by simp [z])) (fun z => hb (by simp [z])) q)) hf (Nat.le_refl _) new
    refine ⟨.ref s.heap.objs.size, _, I1, rfl, ⟨_, x, rfl, I.hok.fresh (Nat.le_refl _), rfl, fun ys hy => by rw [I.tuple_inj hy hq]; exact hx⟩, ⟨⟨y, ?_⟩, hst'.1.at fun o q => (sb.2 it (Ne.symm hne)).trans q, hne, hea, hia⟩, fun b hb => ?_⟩
    · have e1 : ((i + 1 : Nat) : Int) = (i : Int) + 1 := by omega
      rw [e1]; exact he'
    · have hb' : b < s.heap.objs.size := by
        have e' : b = e ∨ b = it := by simpa using hb
        rcases e' with z | z
        · rw [z]; exact hel
        · rw [z]; exact hil
      rw [upd_ne (Nat.ne_of_lt hb')]
      exact (hf b hb).1
  done := by
    intro X hP hw hK hc i pins s σ H E I hf st hg
    subst hP hw hK
    obtain ⟨⟨old, he⟩, hit, hne, hea, hia⟩ := st
    obtain ⟨xs, hq, hx⟩ := hg
    obtain ⟨its, rv, p, hz⟩ := I.tuple hq
    have p' : s.heap.IsTuple a its.toArray := p
    obtain ⟨f0, f1, f2, f3, f4, f5⟩ := hf it (by simp)
    have hl := rv.length
    exact wpAny_pyNext_enum_endT (I.ok.hd hc) he hit p' (by simp; omega) fun h' eb => ⟨rfl, I.turned (t' := s.toks) (fun b o hb q => eb b o hb q) f0 f1 f3 f4 f5⟩
  self := fun A i s Q E st h => let ⟨⟨_, he⟩, _⟩ := st; wpAny_pyIter_enum he h
def iEnumT (K : PySem.W.Frag) (ta : TA) : TI := fun σ H R => ta σ H fun vs H1 => ∃ a xs, vs = [.ref a] ∧ SqT K H1 a xs ∧ R (IteT K a) H1
theorem pi_enumT {X : Cx} {e : Expr} {ta : TA} {p pos tpos : Pos} {elts : List Expr} {kk : Nat} (hg : Gl X "enumerate") (hm : X.mg "enumerate" = none) (ha : PA X [e] ta) (hs : starEach [e] X.env = [(false, eval e X.env)] := by rfl) :
    PI X (.Tuple elts kk tpos) (.Call (.Name "enumerate" p) [e] [] pos) (iEnumT X.K ta) := by
  refine ⟨fun pins s σ H R I h => ?_⟩
  refine Call_ (ld_blt I hg hm boot_enumerate (PyProof.Rows.callWith_type1 (thn (ha.run pos pins s σ H _ I h) fun us s1 ⟨vs, H1, I1, r1, q1⟩ => ?_) hs rfl))
  obtain ⟨a, xs, ex, hq, q⟩ := q1
  subst ex
  cases r1 with
  | cons r rr =>
    cases rr
    cases r
    obtain ⟨its, rv, p', hz⟩ := I1.tuple hq
    have p2 : s1.heap.IsTuple a its.toArray := p'
    have hal : a < s1.heap.objs.size := by obtain ⟨_, q, _⟩ := p2; exact Heap.lt_size q
    refine call_enumerate_tupleR p2 fun h' he hit hsz hk => wpAny_pyIter_enum he ?_
    have I2 : Inv X pins σ H1 { s1 with heap := h' } := I1.kept (t' := s1.toks) hk
    refine ⟨s1.heap.objs.size + 1, [s1.heap.objs.size + 1, s1.heap.objs.size], _, _, H1, rfl, I2, turn_enumT a (s1.heap.objs.size + 1) s1.heap.objs.size, ⟨⟨.none, he⟩, hit, Nat.succ_ne_self _, Nat.ne_of_gt (Nat.lt_succ_of_lt hal), Nat.ne_of_lt hal⟩, fun b hb => ?_, q⟩
    have e' : b = s1.heap.objs.size + 1 ∨ b = s1.heap.objs.size := by simpa using hb
    have hle : s1.heap.objs.size ≤ b := by
      rcases e' with z | z
      · rw [z]; exact Nat.le_add_right _ _
      · rw [z]; exact Nat.le_refl _
    exact I1.fpOk hle (I1.hok.fresh hle)
end L2
namespace Rf
open PySem PySem.Spec PyProof.Rows L2
section
variable {X : Cx} {P : Pm} {e : Expr} {es : List Expr} {pos : Pos}
/-! ### (*t, x) -/
def aStar (m : EM) (mr : AM) : AM := fun env => (m env).bind fun d => (asSeq d).bind fun ds => (mr env).bind fun r => .ok (ds ++ r)
theorem ra_star {m : EM} {mr : AM} {p : Pos} (he : RE X P e m) (hr : RA X P es mr) (hs : starEach (.Starred e p :: es) X.env = (true, eval e X.env) :: starEach es X.env := by rfl) : RA X P (.Starred e p :: es) (aStar m mr) :=
  pa_imp (StX.pa_star he hr hs) fun σ H Q ⟨env, O, g, q⟩ => by
    refine ⟨env, O, g, pA.bindD q fun x H1 d _ s1 r1 q1 => ?_⟩
    have fin : ∀ {xs : List V} {ds : List D}, pA X.K P O H1 Q ((mr env).bind fun r => .ok (ds ++ r)) → RepAll X.K O H1 xs ds → tMA X.K P mr σ H1 (fun ys H2 => Q (xs ++ ys) H2) := fun {xs ds} q2 rr =>
      ⟨env, O, g.grow s1, pA.bindA q2 fun ys H2 es _ s2 r2 q3 => q3 _ H2 (Same.refl _) ((rr.same s2).append r2)⟩
    cases r1 with
    | lst h1 l h2 => exact ⟨_, _, rfl, .inr h1.seq, fin q1 h2⟩
    | tup h1 l h2 => exact ⟨_, _, rfl, .inl h1.seq, fin q1 h2⟩
    | _ => exact q1.elim
/-! ### t[::-1] -/
def fRev : D → Res D
  | .list ds => .ok (.list ds.reverse)
  | .tuple ds => .ok (.tuple ds.reverse)
  | _ => .fail
def mRev (m : EM) : EM := fun env => (m env).bind fRev
theorem RepAll.rev {K : Frg} {O : OS} {H : Hp} : ∀ {ds : List D} {xs : List V}, RepAll K O H xs ds → RepAll K O H xs.reverse ds.reverse
  | [], _, h => by cases h; exact .nil
  | d :: ds, _, h => by
    cases h with
    | cons a b =>
      rw [List.reverse_cons, List.reverse_cons]
      exact (RepAll.rev b).append (.one a)
theorem pe_or {t t' : TE} (h : PE X e t) (h' : PE X e t') : PE X e (fun σ H Q => t σ H Q ∨ t' σ H Q) := ⟨fun pins s σ H Q I q => q.elim (h.run pins s σ H Q I) (h'.run pins s σ H Q I)⟩
theorem re_rev {m : EM} {k : Nat} {p1 p2 p3 pos : Pos} (he : RE X P e m) : RE X P (.Subscript e (.Slice none none (some (.UnaryOp .USub (.Constant (.int 1) k p1) p2)) p3) pos) (mRev m) :=
  pe_imp (pe_or (pe_revL he) (pe_revT he)) fun σ H Q ⟨env, O, g, q⟩ => by
    unfold mRev at q
    cases z : m env with
    | exc c => rw [z] at q; exact .inl ⟨env, O, g, by rw [z]; exact q⟩
    | fail => rw [z] at q; exact q.elim
    | ok d =>
      rw [z] at q
      have q1 : pD X.K P O H Q (fRev d) := q
      cases d with
      | list ds =>
        refine .inl ⟨env, O, g, ?_⟩
        rw [z]
        intro x H' s r
        cases r with
        | lst h1 l h2 => exact ⟨_, _, rfl, h1.seq, fun p hp => q1 _ _ (s.trans (same_upd _ hp)) (Rep.newL hp (g.grow s).dom (by rw [List.length_reverse]; exact l) h2.rev)⟩
      | tuple ds =>
        refine .inr ⟨env, O, g, ?_⟩
        rw [z]
        intro x H' s r
        cases r with
        | tup h1 l h2 => exact ⟨_, _, rfl, h1.seq, fun p hp => q1 _ _ (s.trans (same_upd _ hp)) (Rep.newT hp (g.grow s).dom (by rw [List.length_reverse]; exact l) h2.rev)⟩
      | _ => exact q1.elim
/-! ### enumerate(t), t a tuple -/
theorem yl_enumT {K : Frg} {G : OS → Hp → Prop} {a : Addr} {xs : List V} {ds : List D} (hl : xs.length = ds.length) (h : ∀ O2 H2, G O2 H2 → SqT K H2 a xs ∧ RepAll K O2 H2 xs ds) : Yl K (IteT K a) (enumF ds 0) G := by
  refine ⟨fun O2 H2 g dom i d e => ?_, fun O2 H2 g => ⟨xs, (h O2 H2 g).1, by rw [enumF_len, hl]; exact Nat.le_refl _⟩⟩
  obtain ⟨h1, h2⟩ := h O2 H2 g
  obtain ⟨e1, q1, rfl⟩ := enumF_get ds 0 i d e
  obtain ⟨v, ev, r⟩ := h2.get q1
  refine ⟨⟨xs, v, h1, ev⟩, fun x H3 y => ?_⟩
  obtain ⟨T, z, rfl, hT, rfl, y⟩ := y
  have q := y xs h1
  rw [ev] at q
  cases q
  have e0 : (0 + i : Nat) = i := Nat.zero_add i
  rw [e0]
  exact pair_new hT dom (.int _) r
def enmA : List D → Res (List D)
  | [.list ds] => .ok (enumF ds 0)
  | [.tuple ds] => .ok (enumF ds 0)
  | _ => .fail
def iEnmA (m : AM) : AM := fun env => (m env).bind enmA
theorem enmA_cases (ds : List D) : (∃ a, ds = [.list a]) ∨ (∃ a, ds = [.tuple a]) ∨ enmA ds = .fail := by
  unfold enmA
  split
  · exact .inl ⟨_, rfl⟩
  · exact .inr (.inl ⟨_, rfl⟩)
  · exact .inr (.inr rfl)
theorem ri_enumA {m : AM} {p pos tpos : Pos} {elts : List Expr} {kk : Nat} (hg : Gl X "enumerate") (hm : X.mg "enumerate" = none) (ha : RA X P [e] m) (hs : starEach [e] X.env = [(false, eval e X.env)] := by rfl) : RIS X P (.Tuple elts kk tpos) (.Call (.Name "enumerate" p) [e] [] pos) (iEnmA m) :=
  pi_imp (pi_or (pi_enum hg hm ha hs) (pi_enumT hg hm ha hs)) fun σ H R ⟨env, O, g, q⟩ => by
    unfold iEnmA at q
    cases z : m env with
    | exc c => rw [z] at q; exact .inl ⟨env, O, g, by rw [z]; exact q⟩
    | fail => rw [z] at q; exact q.elim
    | ok ds =>
      rw [z] at q
      have q1 : pI X.K P O H GS R (enmA ds) := q
      rcases enmA_cases ds with ⟨a, rfl⟩ | ⟨a, rfl⟩ | zf
      · refine .inl ⟨env, O, g, ?_⟩
        rw [z]
        intro xs H1 s1 r1
        obtain ⟨x, rfl, r⟩ := rep1 r1
        cases r with
        | lst h1 l h2 => exact ⟨_, _, rfl, h1.seq, q1 _ H1 s1 (yl_enumG h2.len fun O2 H2 gg => ⟨(h1.grow gg).seq, RepAll.grow gg _ h2⟩) (by rw [enumF_len]; exact l)⟩
      · refine .inr ⟨env, O, g, ?_⟩
        rw [z]
        intro xs H1 s1 r1
        obtain ⟨x, rfl, r⟩ := rep1 r1
        cases r with
        | tup h1 l h2 => exact ⟨_, _, rfl, h1.seq, q1 _ H1 s1 (yl_enumT h2.len fun O2 H2 gg => ⟨(h1.grow gg).seq, RepAll.grow gg _ h2⟩) (by rw [enumF_len]; exact l)⟩
      · rw [zf] at q1; exact q1.elim
end
end Rf

/-! Rf12: sorted, set -/
namespace L2
open PySem PySem.Spec PyProof.Rows
section
variable {P : Program} {w : World} {A : Around} {E : Value → Shared → Prop} {s : Shared}
set_option maxRecDepth 100000 in
set_option maxHeartbeats 3200000 in
/-- set(xs) -/
theorem call_set_tupsT {l : Addr} {items : Array Value} (ks : List (Addr × List Int)) {Q : Value → Shared → Prop} (hh : A.handled = none) (hl : s.heap.IsTuple l items) (hit : items.toList = ks.map fun p => Value.ref p.1)
    (hk : ∀ p ∈ ks, IsT P w s.heap p.2 p.1) (hfew : ks.length < 64) (hu : A.units + 3 < cLine)
    (h : ∀ (h' : Heap) (tk : Nat) L es ep t, SetTR P w h' s.heap.objs.size L es ep t → Got ks ks.length L → (∀ b o, s.heap.get? b = some o → h'.get? b = some o) → Q (.ref s.heap.objs.size) { s with heap := h', toks := tk }) :
    wpAny (model P w) A (call (.type "set") [.ref l]) Q E s := by
  have hisz : items.size = ks.length := by
    have q := congrArg List.length hit
    rw [Array.length_toList, List.length_map] at q
    exact q
  obtain ⟨c, tl, hmro⟩ := F.called_set.mro
  have hmade := F.called_set.made
  have hsub := F.called_set.sub
  refine wpAny_call (codeAny_of_tree ?_)
  show wpAny _ _ (callAny (.type "set") _) _ _ _
  refine wpAny_pure ⟨Code.quiet_builtin _ (by decide +kernel), codeAny_builtin F.entry_type_call ?_⟩
  rw [Around.under_plain (weight_type_call_type "set" [.ref l] []) rfl]
  have h1 := F.called_set.notType
  have h2 := F.called_set.canCreate
  have hct := F.typeCall_set_1 (.ref l)
  repeat (any_goals (first | assumption | wp_step))

  refine codeAny_mono (code_set_led1 (.ref l) (E := E) (Q₁ := fun obj s₁ => obj = .ref s.heap.objs.size ∧ s₁ = { s with heap := s.heap.push { cls := .type "set", dict := none, data := .set #[] 0 (.fresh 0 0 (!w.params.followText "set-order")) } }) ⟨rfl, rfl⟩) fun r s₁ hr => ?_
  cases r with
  | error e => exact hr
  | ok fl =>
    cases fl with
    | ret obj =>
      obtain ⟨rfl, rfl⟩ := hr
      have hS : (s.heap.push { cls := .type "set", dict := none, data := .set #[] 0 (.fresh 0 0 (!w.params.followText "set-order")) }).get? s.heap.objs.size = some { cls := .type "set", dict := none, data := .set #[] 0 (.fresh 0 0 (!w.params.followText "set-order")) } := Heap.get?_push_size _ rfl
      have hT : Shared.TypeIs { s with heap := s.heap.push { cls := .type "set", dict := none, data := .set #[] 0 (.fresh 0 0 (!w.params.followText "set-order")) } } (.ref s.heap.objs.size) "set" := ⟨_, hS, rfl⟩
      have hli := F.called_set.init.lookup
      have hbi := F.called_set.init.bind (.ref s.heap.objs.size)
      repeat (any_goals (first | assumption | wp_step))

      refine codeAny_mono (codeAny_call_builtin (R := wants (fun r s₂ => r = .none ∧ ∃ h' tk L es ep t, s₂ = { s with heap := h', toks := tk } ∧ SetTR P w h' s.heap.objs.size L es ep t ∧ Got ks ks.length L ∧
          (∀ b o, s.heap.get? b = some o → h'.get? b = some o)) E) F.called_set.init.plain F.entry_set_init (check_set_init_1 hT ?_)) fun r₂ s₂ hr₂ => ?_
      · obtain ⟨ol, hol, hcl, nl, hdl⟩ := hl
        obtain ⟨ocls, odict, odata, oslots⟩ := ol
        simp only at hcl hdl
        subst hcl; subst hdl
        have hol' : (s.heap.push { cls := .type "set", dict := none, data := .set #[] 0 (.fresh 0 0 (!w.params.followText "set-order")) }).get? l = some { cls := .type "tuple", dict := odict, data := .seq items nl, slots := oslots } := Heap.get?_push_of_some _ hol
        have hsls := F.sub_tuple_set
        have hslf := F.sub_tuple_frozenset
        have hne : (Value.type "tuple" == Value.type "dict") = false := by decide
        have hl1 : (s.heap.push { cls := .type "set", dict := none, data := .set #[] 0 (.fresh 0 0 (!w.params.followText "set-order")) }).IsTuple l items := ⟨_, hol', rfl, nl, rfl⟩
        unfold Builtin.«set.__init__» noKeywords Builtin.Frozenset.updateFrom
        generalize hPI : pyIter = PI
        wp_walk
        subst hPI

        refine wpAny_pyIter_tuple hl1 ?_
        refine wpAny_bind (wpAny_runValue ?_)
        have hlS : l < s.heap.objs.size := Heap.lt_size hol
        have hh3 : A.in1.in1.in1.handled = none := by simp [hh]
        have hz1 : (s.heap.push { cls := .type "set", dict := none, data := .set #[] 0 (.fresh 0 0 (!w.params.followText "set-order")) }).objs.size = s.heap.objs.size + 1 := Heap.size_push ..
        have hneI : l ≠ (s.heap.push { cls := .type "set", dict := none, data := .set #[] 0 (.fresh 0 0 (!w.params.followText "set-order")) }).objs.size := by
          rw [Heap.size_push]; exact Nat.ne_of_lt (Nat.lt_succ_of_lt hlS)
        have hSf : s.heap.objs.size ∉ [(s.heap.push { cls := .type "set", dict := none, data := .set #[] 0 (.fresh 0 0 (!w.params.followText "set-order")) }).objs.size, l] := by
          rw [Heap.size_push]; simp only [List.mem_cons, List.mem_singleton, List.not_mem_nil, or_false, not_or]
          exact ⟨Nat.ne_of_lt (Nat.lt_succ_self _), Nat.ne_of_gt hlS⟩
        have hval : ∀ (i : Nat) (v : Value), items[i]? = some v → ∃ p, ks[i]? = some p ∧ v = .ref p.1 := fun i v hv => by
          have q : items.toList[i]? = some v := by rw [Array.getElem?_toList]; exact hv
          rw [hit, List.getElem?_map] at q
          cases hq : ks[i]? with
          | none => rw [hq] at q; cases q
          | some p =>
            rw [hq] at q
            exact ⟨p, rfl, (Option.some.inj q).symm⟩
        have none_of : ∀ b, s.heap.objs.size ≤ b → s.heap.get? b = none := fun b hb => by
          cases q : s.heap.get? b with
          | none => rfl
          | some o => exact absurd (Nat.lt_of_lt_of_le (Heap.lt_size q) hb) (Nat.lt_irrefl _)
        refine set_update_tups ((Walks.tuple hh3 _ l hneI items).toS) s.heap.objs.size
          hSf ks hisz hfew hval s.heap hk (none_of _ (Nat.le_refl _)) (fun b hb => none_of b (by
            rw [List.mem_singleton.mp hb, Heap.size_push]
            exact Nat.le_succ _)) hu (items.size - 0) 0 _ (by omega) (Nat.zero_le _)
          ⟨⟨_, Heap.get?_push_size _ rfl, rfl, rfl⟩, (hl1.push _)⟩ (fun b o e => Heap.get?_push_of_some _ (Heap.get?_push_of_some _ e)) ?hS0 ?hR
        case hS0 =>
          have hget : ((s.heap.push { cls := .type "set", dict := none, data := .set #[] 0 (.fresh 0 0 (!w.params.followText "set-order")) }).push { cls := .type "tuple_iterator", data := .fields #[.ref l, .int 0 0] }).get? s.heap.objs.size
              = some { cls := .type "set", dict := none, data := .set #[] 0 (.fresh 0 0 (!w.params.followText "set-order")) } := Heap.get?_push_of_some _ hS
          exact ⟨[], #[], 0, _, setTR_fresh hget, Got.zero ks⟩
        case hR =>
          intro s' L es ep t hm hS' g' hkp
          obtain ⟨h', g2, d', tk', os'⟩ := s'
          have eg : g2 = s.gens := hm.gens
          have ed : d' = s.drawn := hm.drawn
          have eo : os' = s.os := hm.os
          subst eg; subst ed; subst eo
          show wpAny _ _ _ _ _ _
          refine wpAny_pure ?_
          show wpAny _ _ (ret Value.none) _ _ _
          rw [hisz] at g'
          exact wpAny_pure ⟨rfl, h', tk', L, es, ep, t, rfl, hS', g', hkp⟩

      · cases r₂ with
        | error e => exact hr₂
        | ok fl₂ =>
          cases fl₂ with
          | ret r =>
            obtain ⟨rfl, h', tk, L, es, ep, t, rfl, hS', g', hk'⟩ := hr₂
            repeat (any_goals (first | assumption | wp_step))
            exact h _ _ _ _ _ _ hS' g' hk'
          | _ => exact hr₂.elim
    | _ => exact hr.elim

/-! order of data -/
abbrev tD (k : List Int) : PyData := .tuple (k.map .int)
theorem alike_ints2 : ∀ a b : List Int, PySem.W.alikeAll (a.map .int) (b.map .int) = true := PySem.W.alike_ints
theorem alike_tD (a b : List Int) : PySem.W.alike (tD a) (tD b) = true := by
  show PySem.W.alike (.tuple _) (.tuple _) = true
  rw [PySem.W.alike]
  exact alike_ints2 a b
theorem depth_tD (a : List Int) : (tD a).depth = 1 := by
  show PyData.depth (.tuple _) = 1
  rw [PyData.depth, PySem.W.depth_ints]
theorem readsInts {h : Heap} : ∀ {k : List Int} {vs : List Value}, ItemsAre (intKind P w) k vs → ReadsAll h vs (k.map .int) []
  | [], _, .nil => .nil
  | x :: k, _, .cons h1 t => by
    obtain ⟨tk, rfl⟩ := Value.isInt_shape h1
    exact .cons (as := []) (.int x tk) (readsInts t)
theorem readsT {h : Heap} {k : List Int} {b : Addr} (x : IsT P w h k b) : Reads h (.ref b) (tD k) [] := by
  obtain ⟨o, items, n, ho, hc, hd, hi⟩ := x
  exact .tuple ho hc hd (readsInts hi)
theorem le_ord {β : Type} (k : β → PyData) : PySem.W.TotalLe (PySem.W.dataLe false k) := by
  unfold PySem.W.dataLe
  exact PySem.W.sortLe_total _ _ _
theorem le_total {β : Type} (k : β → PyData) (a b : β) : (PySem.W.dataLe false k a b || PySem.W.dataLe false k b a) = true := Bool.or_eq_true_iff.mpr ((le_ord k).total a b)
theorem le_trans {β : Type} (k : β → PyData) (a b c : β) (h1 : PySem.W.dataLe false k a b = true) (h2 : PySem.W.dataLe false k b c = true) : PySem.W.dataLe false k a c = true := (le_ord k).trans a b c h1 h2
theorem dataLe_sorted {β : Type} (k : β → PyData) (l : List β) : (l.mergeSort (PySem.W.dataLe false k)).Pairwise fun a b => PySem.W.dataLe false k a b = true :=
  List.pairwise_mergeSort (le := PySem.W.dataLe false k) (le_trans k) (fun a b => le_total k a b) l
theorem sorted_setD {a : Addr} {L : List (Addr × List Int)} {es : Array (Int × Value)} {ep : Nat} {t : SetTable} {Q : Value → Shared → Prop} (R : SetTR P w s.heap a L es ep t) (hh : A.handled = none)
    (hne : ∀ p ∈ L, p.2 ≠ []) (hu : A.units + 64 < cLine)
    (hQ : ∀ s' p (out : Array Value) (c : Nat) (L' : List (Addr × List Int)), (∀ b o, s.heap.get? b = some o → s'.heap.get? b = some o) → s'.gens = s.gens → s'.os = s.os → s.heap.objs.size ≤ p →
      s'.heap.get? p = some (seqObj "list" out c) → out.toList = L'.map (fun q => Value.ref q.1) → L'.Perm L → L'.Pairwise (fun q r => PySem.W.dataLt (tD r.2) (tD q.2) = false) → Q (.ref p) s') :
    wpAny (model P w) A (call (.builtin "sorted") [.ref a]) Q E s := by
  obtain ⟨o, ho, hex, hd⟩ := R.ob
  have hsz := R.size
  have hfew := R.few
  refine Calls.call_function_entry kind_sorted plain_sorted entry_sorted (args_sorted1 _) ?_
  unfold Builtin.«sorted»
  refine wpAny_bind (m := checkCount "sorted" 1 1 _) (wpAny_pure ?_)
  refine wpAny_bind (collect_set (A := A.in1) hh ⟨o, ho, hex.1, hd⟩ R.fits (by unfold scanBound; omega) R.tab.ris R.led fun s1 vs k1 hz g1 o1 pm => ?_)
  have hes : es.toList.map (·.2) = L.map fun q => Value.ref q.1 := by
    rw [R.rows]
    unfold rowsOf
    rw [List.map_map] <;> rfl
  rw [hes] at pm
  -- the values are the addresses of the rows, in some order
  have ord : ∀ vs : List Value, (∀ v ∈ vs, ∃ q ∈ L, v = Value.ref q.1) → ∃ L1 : List (Addr × List Int), vs = L1.map (fun q => Value.ref q.1) ∧ ∀ q ∈ L1, q ∈ L := by
    intro vs
    induction vs with
    | nil => intro _; exact ⟨[], rfl, fun q hq => (by cases hq)⟩
    | cons v vs ih =>
      intro hv
      obtain ⟨q, hq, e⟩ := hv v List.mem_cons_self
      obtain ⟨L1, e1, hs⟩ := ih fun u hu => hv u (List.mem_cons_of_mem _ hu)
      refine ⟨q :: L1, by rw [List.map_cons, e, e1], fun r hr => ?_⟩
      rcases List.mem_cons.mp hr with z | z
      · rw [z]; exact hq
      · exact hs r z
  -- an address has one key
  have one : ∀ q ∈ L, ∀ r ∈ L, q.1 = r.1 → q = r := fun q hq r hr e => by
    have a1 := R.tup q hq
    have a2 := R.tup r hr
    rw [e] at a1
    have e2 : q.2 = r.2 := a1.inj a2
    exact Prod.ext e e2
  have perm_of : ∀ L1 : List (Addr × List Int), (∀ q ∈ L1, q ∈ L) → (L1.map (fun q => Value.ref q.1)).Perm (L.map fun q => Value.ref q.1) → L1.Perm L := by
    intro L1 hs pm1
    have nL : L.Nodup := nodup_of_map R.nd
    have nref : (L.map fun q => Value.ref q.1).Nodup := by
      refine List.pairwise_map.mpr (List.Pairwise.imp_of_mem (fun {q r} hq hr hne e => ?_) nL)
      injection e with e
      exact hne (one q hq r hr e)
    have n1 : L1.Nodup := nodup_of_map (pm1.nodup_iff.mpr nref)
    refine (List.perm_ext_iff_of_nodup n1 nL).mpr fun q => ⟨hs q, fun hq => ?_⟩
    have hm : Value.ref q.1 ∈ L1.map (fun q => Value.ref q.1) := pm1.mem_iff.mpr (List.mem_map.mpr ⟨q, hq, rfl⟩)
    obtain ⟨r, hr, e⟩ := List.mem_map.mp hm
    injection e with e
    rw [← one r (hs r hr) q hq e]
    exact hr
  have hvl : vs.length < 64 := by rw [pm.length_eq, List.length_map]; exact hfew
  refine wpAny_bind (wpAny_newList ?_ (by rw [sizeLine_eq]; omega))
  have hoL : (s1.heap.push (seqObj "list" vs.toArray 0)).get? s1.heap.objs.size = some (seqObj "list" vs.toArray 0) := Heap.get?_push_size _ rfl
  obtain ⟨L1, eL1, hs1⟩ := ord vs fun v hv => by
    obtain ⟨q, hq, e⟩ := List.mem_map.mp (pm.mem_iff.mp hv)
    exact ⟨q, hq, e.symm⟩
  have pL1 : L1.Perm L := perm_of L1 hs1 (by rw [← eL1]; exact pm)
  have each : ∀ M : List (Addr × List Int), (∀ q ∈ M, q ∈ L) → PySem.W.EachIs (fun v q => v = Value.ref q.1 ∧ q ∈ L) (M.map fun q => Value.ref q.1) M := by
    intro M
    induction M with
    | nil => intro _; exact .nil
    | cons q M ih => intro hM; exact .cons ⟨rfl, hM q List.mem_cons_self⟩ (ih fun r hr => hM r (List.mem_cons_of_mem _ hr))
  have er : PySem.W.EachIs (fun v q => ∃ as, Reads (s1.heap.push (seqObj "list" vs.toArray 0)) v (tD q.2) as ∧ s1.heap.objs.size ∉ as) vs L1 := by
    rw [eL1]
    refine (each L1 hs1).mono fun v q hvq => ?_
    obtain ⟨rfl, hq⟩ := hvq
    exact ⟨[], readsT (P := P) (w := w) (isT_keep (R.tup q hq) fun b u e => Heap.get?_push_of_some _ (k1 b u e)), by simp⟩
  have hal : PySem.W.AllAlike (L1.map fun q => tD q.2) := PySem.W.AllAlike.of fun b b' => alike_tD _ _
  have hk : PySem.W.Sortable (L1.map fun q => tD q.2) := .inl fun d hd => by
    obtain ⟨q, hq, rfl⟩ := List.mem_map.mp hd
    have n := hne q (hs1 q hq)
    cases e : q.2 with
    | nil => exact absurd e n
    | cons x r => exact ⟨.int x, r.map .int, rfl⟩
  have hL1 : L1.length ≤ sizeLine := by rw [pL1.length_eq, sizeLine_eq]; omega
  refine wpAny_bind (wpAny_holding (PySem.W.list_sort_data (s := { s1 with heap := s1.heap.push (seqObj "list" vs.toArray 0) }) (enc := fun q : Addr × List Int => tD q.2) (R := fun v q => v = Value.ref q.1 ∧ q ∈ L) hoL (by rw [eL1]; exact each L1 hs1) er hal hk hL1 (fun b _ => by rw [depth_tD]; simp only [Around.in1_units] <;> omega) fun out hlen hout => ?_))
  obtain ⟨c, hc⟩ := sortedHeap_at (vs := vs) (out := out.toArray) hoL
  have eout : ∀ {o : List Value} {M : List (Addr × List Int)}, PySem.W.EachIs (fun v q => v = Value.ref q.1 ∧ q ∈ L) o M → o = M.map fun q => Value.ref q.1 := by
    intro o M h
    induction h with
    | nil => rfl
    | cons h1 _ ih => rw [List.map_cons, h1.1, ih]
  have e' : out.toArray.toList = (L1.mergeSort (PySem.W.dataLe false fun q => tD q.2)).map fun q => Value.ref q.1 := by
    rw [List.toList_toArray]
    exact eout hout
  have pL : (L1.mergeSort (PySem.W.dataLe false fun q => tD q.2)).Perm L := (List.mergeSort_perm _ _).trans pL1
  have pw : (L1.mergeSort (PySem.W.dataLe false fun q => tD q.2)).Pairwise (fun q r => PySem.W.dataLt (tD r.2) (tD q.2) = false) := by
    refine (dataLe_sorted (fun q : Addr × List Int => tD q.2) L1).imp fun {q r} h => ?_
    simpa [PySem.W.dataLe_eq] using h
  refine wpAny_pure ⟨_, rfl, hQ _ s1.heap.objs.size out.toArray c _ (fun b u e => ?_) g1 o1 hz hc e' pL pw⟩
  have q := k1 b u e
  have hlt := Heap.lt_size q
  show (sortedHeap (s1.heap.push (seqObj "list" vs.toArray 0)) s1.heap.objs.size vs out.toArray).get? b = some u
  rw [sortedHeap_old (Nat.ne_of_lt hlt) (by rw [size_push']; exact Nat.lt_succ_of_lt hlt)]
  exact Heap.get?_push_of_some _ q
end
end L2

/-! Rf13: sorted, set as rules -/
namespace Rf
open PySem PySem.Spec PyProof.Rows L2
open PySem.W (dataLt dataLe alike EachIs)

/-! ### a sort that runs -/
def insD (a : D) : List D → List D
  | [] => [a]
  | b :: l => match dataLt b a with
    | true => b :: insD a l
    | false => a :: b :: l
def srtD : List D → List D
  | [] => []
  | a :: l => insD a (srtD l)
theorem le_iff (a b : D) : dataLe false (fun d : D => d) a b = !dataLt b a := by
  rw [PySem.W.dataLe_eq]; rfl
theorem insD_app (a : D) : ∀ {l1 l2 : List D}, (∀ b ∈ l1, dataLt b a = true) → (∀ b ∈ l2, dataLt b a = false) → insD a (l1 ++ l2) = l1 ++ a :: l2
  | [], [], _, _ => rfl
  | [], b :: l2, _, h2 => by
    show (match dataLt b a with | true => b :: insD a l2 | false => a :: b :: l2) = a :: b :: l2
    rw [h2 b List.mem_cons_self]
  | b :: l1, l2, h1, h2 => by
    show (match dataLt b a with | true => b :: insD a (l1 ++ l2) | false => a :: b :: (l1 ++ l2)) = b :: (l1 ++ a :: l2)
    rw [h1 b List.mem_cons_self]
    exact congrArg (List.cons b) (insD_app a (fun c hc => h1 c (List.mem_cons_of_mem _ hc)) h2)
theorem srtD_eq : ∀ l : List D, l.mergeSort (dataLe false fun d : D => d) = srtD l
  | [] => by simp [srtD]
  | a :: l => by
    obtain ⟨l1, l2, e1, e2, h⟩ := List.mergeSort_cons (le := dataLe false fun d : D => d) (le_trans _) (fun a b => le_total _ a b) a l
    have sorted := dataLe_sorted (fun d : D => d) (a :: l)
    rw [e1] at sorted ⊢
    show _ = insD a (srtD l)
    rw [← srtD_eq l, e2]
    obtain ⟨_, s2, _⟩ := List.pairwise_append.mp sorted
    have s3 := (List.pairwise_cons.mp s2).1
    refine (insD_app a (fun b hb => ?_) fun b hb => ?_).symm
    · have q := h b hb
      rw [le_iff] at q
      simpa using q
    · have q := s3 b hb
      rw [le_iff] at q
      simpa using q
theorem insD_mem {a x : D} : ∀ {l : List D}, x ∈ insD a l ↔ x = a ∨ x ∈ l
  | [] => by simp [insD]
  | b :: l => by
    have e : insD a (b :: l) = (match dataLt b a with | true => b :: insD a l | false => a :: b :: l) := rfl
    rw [e]
    cases dataLt b a with
    | true =>
      show x ∈ b :: insD a l ↔ _
      rw [List.mem_cons, insD_mem (l := l), List.mem_cons]
      constructor
      · rintro (h | h | h)
        · exact .inr (.inl h)
        · exact .inl h
        · exact .inr (.inr h)
      · rintro (h | h | h)
        · exact .inr (.inl h)
        · exact .inl h
        · exact .inr (.inr h)
    | false =>
      show x ∈ a :: b :: l ↔ _
      rw [List.mem_cons]
theorem srtD_len : ∀ l : List D, (srtD l).length = l.length := fun l => by rw [← srtD_eq, List.length_mergeSort]

/-! ### sorted(list of data) -/
def isI : D → Bool
  | .int _ => true
  | _ => false
def isIT : D → Bool
  | .tuple (d :: ds) => isI d && ds.all isI
  | _ => false
def alAll (ds : List D) : Bool := match ds.all isIT with
  | true => true
  | false => ds.all fun a => ds.all fun b => alike a b
def neTup : D → Bool
  | .tuple (_ :: _) => true
  | _ => false
def noTup : D → Bool
  | .tuple _ => false
  | .none => false
  | _ => true
def srtOk (ds : List D) : Bool := alAll ds && (ds.all neTup || ds.all noTup) && ds.all (dle 16)
def bSorted : List D → Res D
  | [.list ds] => (match srtOk ds with
    | true => .ok (.list (srtD ds))
    | false => .fail)
  | _ => .fail
theorem all_ints : ∀ {l : List D}, l.all isI = true → ∃ k : List Int, l = k.map .int
  | [], _ => ⟨[], rfl⟩
  | d :: l, h => by
    rw [List.all_cons] at h
    obtain ⟨a, b⟩ := Bool.and_eq_true_iff.mp h
    obtain ⟨k, rfl⟩ := all_ints b
    cases d with
    | int i => exact ⟨i :: k, rfl⟩
    | _ => simp [isI] at a
theorem isIT_ints {d : D} (h : isIT d = true) : ∃ k : List Int, k ≠ [] ∧ d = tD k := by
  cases d with
  | tuple ds =>
    cases ds with
    | nil => simp [isIT] at h
    | cons d ds =>
      obtain ⟨k, e⟩ := all_ints (l := d :: ds) (by rw [List.all_cons]; exact h)
      refine ⟨k, fun z => ?_, by rw [e]⟩
      rw [z] at e; cases e
  | _ => simp [isIT] at h
theorem alAll_of {ds : List D} (h : alAll ds = true) : PySem.W.AllAlike ds := by
  unfold alAll at h
  cases e : ds.all isIT with
  | true =>
    intro a ha b hb
    obtain ⟨k, _, rfl⟩ := isIT_ints (List.all_eq_true.mp e a ha)
    obtain ⟨k2, _, rfl⟩ := isIT_ints (List.all_eq_true.mp e b hb)
    exact alike_tD _ _
  | false =>
    rw [e] at h
    exact fun a ha b hb => List.all_eq_true.mp (List.all_eq_true.mp h a ha) b hb
theorem srtOk_of {ds : List D} (h : srtOk ds = true) : PySem.W.AllAlike ds ∧ PySem.W.Sortable ds ∧ ∀ d ∈ ds, d.depth ≤ 16 := by
  unfold srtOk at h
  obtain ⟨h12, h3⟩ := Bool.and_eq_true_iff.mp h
  obtain ⟨h1, h2⟩ := Bool.and_eq_true_iff.mp h12
  refine ⟨alAll_of h1, ?_, fun d hd => dle_depth 16 d (List.all_eq_true.mp h3 d hd)⟩
  rcases Bool.or_eq_true_iff.mp h2 with h2 | h2
  · refine .inl fun d hd => ?_
    have q := List.all_eq_true.mp h2 d hd
    cases d with
    | tuple ds =>
      cases ds with
      | nil => simp [neTup] at q
      | cons x r => exact ⟨x, r, rfl⟩
    | _ => simp [neTup] at q
  · refine .inr fun d hd => ?_
    have q := List.all_eq_true.mp h2 d hd
    refine ⟨fun z => ?_, fun xs z => ?_⟩
    · subst z; simp [noTup] at q
    · subst z; simp [noTup] at q
def rSortedD (K : Frg) : List V → Hp → VK → Prop := fun vs H Q => ∃ (a : Addr) (xs : List V) (ds : List D) (R : V → D → Prop), vs = [.ref a] ∧ SqL K H a xs ∧ EachIs R xs ds ∧ (∀ v d, R v d → Dp K H v d) ∧ PySem.W.AllAlike ds ∧ PySem.W.Sortable ds ∧ (∀ d ∈ ds, d.depth ≤ 16) ∧
  ∀ ys p, EachIs R ys (srtD ds) → H p = none → Q (.ref p) (upd H p (.lst ys))
theorem each_rep {K : Frg} {O : OS} {H : Hp} : ∀ {xs : List V} {ds : List D}, RepAll K O H xs ds → EachIs (Rep K O H) xs ds
  | _, [], h => by cases h; exact .nil
  | _, _ :: _, h => by cases h with | cons a b => exact .cons a (each_rep b)
theorem rep_each {K : Frg} {O : OS} {H : Hp} : ∀ {xs : List V} {ds : List D}, EachIs (Rep K O H) xs ds → RepAll K O H xs ds
  | _, _, .nil => .nil
  | _, _, .cons a b => .cons a (rep_each b)
theorem each_vals {R : V → D → Prop} : ∀ {xs : List V} {us : List Value} {ds : List D}, Vals xs us → EachIs R xs ds → EachIs (fun u d => ∃ x, RelV x u ∧ R x d) us ds
  | _, _, _, .nil, .nil => .nil
  | _, _, _, .cons r t, .cons a b => .cons ⟨_, r, a⟩ (each_vals t b)
theorem vals_each {R : V → D → Prop} : ∀ {us : List Value} {ds : List D}, EachIs (fun u d => ∃ x, RelV x u ∧ R x d) us ds → ∃ xs, Vals xs us ∧ EachIs R xs ds
  | _, _, .nil => ⟨[], .nil, .nil⟩
  | _, _, .cons ⟨x, r, a⟩ t => by
    obtain ⟨xs, h1, h2⟩ := vals_each t
    exact ⟨x :: xs, .cons r h1, .cons a h2⟩
section
variable {X : Cx} {P : Pm} {K : Frg}
theorem cr_sortedD (hu : X.A.units + 64 < cLine) : CallR X (.builtin "sorted") (rSortedD X.K) := by
  intro pins s σ H vs us Q I r h
  obtain ⟨a, xs, ds, R, rfl, hs, he, hdp, hal, hk, hdep, q⟩ := h
  rw [Vals.ref1 r]
  obtain ⟨its, rv, hl, hz⟩ := I.list hs
  have e := each_vals rv he
  have er : EachIs (fun v b => ∃ as, Reads s.heap v b as) its ds := e.mono fun u d ⟨x, r1, r2⟩ => Dp.reads I d x u (hdp x d r2) r1
  have elen : xs.length = ds.length := he.length
  have hid : ds.map (fun d : D => d) = ds := List.map_id' ds
  refine PySem.W.sorted_data (enc := fun d : D => d) (bs := ds) hl.isList e er (by rw [hid]; exact hal) (by rw [hid]; exact hk) (by rw [← elen]; exact hz) (fun b hb => ?_) fun out hlen hout => ?_
  · have z := hdep b hb
    show X.A.units + 2 + b.depth < cLine
    omega
  · rw [srtD_eq] at hout
    obtain ⟨ys, h1, h2⟩ := vals_each hout
    obtain ⟨c, hc⟩ := sortedAll_at s.heap its out.toArray
    refine ⟨.ref (s.heap.objs.size + 1), upd H (s.heap.objs.size + 1) (.lst ys), I.laid (t' := s.toks) (fun b o e => sortedAll_old e) (Nat.le_succ _) ⟨?_, out, c, h1, hc⟩, rfl, q ys _ h2 (I.hok.fresh (Nat.le_succ _))⟩
    rw [h2.length, srtD_len, ← elen]
    exact hz
theorem rc_sorted : RCall K P (rSortedD K) bSorted := fun O H xs as Q dom r q => by
  have cs : (∃ ds, as = [.list ds]) ∨ bSorted as = .fail := by
    unfold bSorted
    split
    · exact .inl ⟨_, rfl⟩
    · exact .inr rfl
  rcases cs with ⟨ds, rfl⟩ | z
  · obtain ⟨x, rfl, h⟩ := rep1 r
    cases h with
    | @lst a ys _ h1 l h2 =>
      have q1 : pD K P O H Q (match srtOk ds with | true => .ok (.list (srtD ds)) | false => .fail) := q
      cases e : srtOk ds with
      | false => rw [e] at q1; exact q1.elim
      | true =>
        rw [e] at q1
        obtain ⟨k1, k2, k3⟩ := srtOk_of e
        exact ⟨a, ys, ds, Rep K O H, rfl, h1.seq, each_rep h2, fun v d rr => rr.dp, k1, k2, k3, fun zs p hz hp => q1 _ _ (same_upd _ hp) (Rep.newL hp dom (by rw [srtD_len]; exact l) (rep_each hz))⟩
  · rw [z] at q; exact q.elim
end

/-! ### sorted(set(tuples of ints)) -/
def insU (a : D) : List D → List D
  | [] => [a]
  | b :: l => match dataLt b a with
    | true => b :: insU a l
    | false => match dataLt a b with
      | true => a :: b :: l
      | false => b :: l
def srtU : List D → List D
  | [] => []
  | a :: l => insU a (srtU l)
def fSortSet (d : D) : Res D := (asSeq d).bind fun ds => match ds.all isIT && Nat.blt ds.length 64 with
  | true => .ok (.list (srtU ds))
  | false => .fail
def mSortSet (m : EM) : EM := fun env => (m env).bind fSortSet
theorem toks_ints : ∀ {a b : List Int}, PySem.W.keyToksAll (a.map .int) = PySem.W.keyToksAll (b.map .int) → a = b
  | [], [], _ => rfl
  | [], y :: b, h => by
    rw [List.map_cons, PySem.W.toks_all_cons] at h
    simp [PySem.W.keyToksAll] at h
  | x :: a, [], h => by
    rw [List.map_cons, PySem.W.toks_all_cons] at h
    simp [PySem.W.keyToksAll] at h
  | x :: a, y :: b, h => by
    rw [List.map_cons, List.map_cons, PySem.W.toks_all_cons, PySem.W.toks_all_cons] at h
    simp only [PySem.W.keyToks, List.cons_append, List.nil_append, List.cons.injEq, Sum.inl.injEq, true_and] at h
    rw [h.1, toks_ints h.2]
theorem tD_inj {a b : List Int} (h : tD a = tD b) : a = b := by
  have e : PySem.W.keyToks (tD a) = PySem.W.keyToks (tD b) := by rw [h]
  simp only [tD, PySem.W.keyToks] at e
  exact toks_ints e
theorem tD_anti {a b : List Int} (h1 : dataLt (tD a) (tD b) = false) (h2 : dataLt (tD b) (tD a) = false) : a = b := by
  have h := lex_total (O := itemOrd) _ _ h1 h2
  simp only [tD, PySem.W.keyToks] at h
  exact toks_ints h
theorem lt_irr (a : D) : dataLt a a = false := lex_irrefl (O := itemOrd) _
theorem lt_tr {a b c : D} (h1 : dataLt a b = true) (h2 : dataLt b c = true) : dataLt a c = true := lex_trans (O := itemOrd) _ _ _ h1 h2
theorem lt_asym {a b : D} (h1 : dataLt a b = true) : dataLt b a = false := by
  cases e : dataLt b a with
  | false => rfl
  | true => have z := lt_tr h1 e; rw [lt_irr] at z; cases z
def Strict (l : List D) : Prop := l.Pairwise fun a b => dataLt a b = true
theorem strict_uniq : ∀ {l m : List D}, Strict l → Strict m → (∀ x, x ∈ l ↔ x ∈ m) → l = m
  | [], [], _, _, _ => rfl
  | [], b :: m, _, _, h => absurd ((h b).mpr List.mem_cons_self) (by simp)
  | a :: l, [], _, _, h => absurd ((h a).mp List.mem_cons_self) (by simp)
  | a :: l, b :: m, hl, hm, h => by
    obtain ⟨l1, l2⟩ := List.pairwise_cons.mp hl
    obtain ⟨m1, m2⟩ := List.pairwise_cons.mp hm
    have e : a = b := by
      rcases List.mem_cons.mp ((h a).mp List.mem_cons_self) with z | z
      · exact z
      · rcases List.mem_cons.mp ((h b).mpr List.mem_cons_self) with y | y
        · exact y.symm
        · have q := lt_asym (m1 a z)
          rw [l1 b y] at q; cases q
    subst e
    have nl : a ∉ l := fun z => by have q := l1 a z; rw [lt_irr] at q; cases q
    have nm : a ∉ m := fun z => by have q := m1 a z; rw [lt_irr] at q; cases q
    rw [strict_uniq l2 m2 fun x => ?_]
    constructor
    · intro hx
      rcases List.mem_cons.mp ((h x).mp (List.mem_cons_of_mem _ hx)) with z | z
      · subst z; exact absurd hx nl
      · exact z
    · intro hx
      rcases List.mem_cons.mp ((h x).mpr (List.mem_cons_of_mem _ hx)) with z | z
      · subst z; exact absurd hx nm
      · exact z
theorem insU_mem {ks : List (List Int)} {a : List Int} : ∀ {l : List (List Int)} (x : D), x ∈ insU (tD a) (l.map tD) ↔ x = tD a ∨ x ∈ l.map tD
  | [], x => by simp [insU]
  | b :: l, x => by
    have e : insU (tD a) ((b :: l).map tD) = (match dataLt (tD b) (tD a) with
      | true => tD b :: insU (tD a) (l.map tD)
      | false => match dataLt (tD a) (tD b) with
        | true => tD a :: tD b :: l.map tD
        | false => tD b :: l.map tD) := rfl
    rw [e, List.map_cons, List.mem_cons]
    cases h1 : dataLt (tD b) (tD a) with
    | true =>
      show x ∈ tD b :: insU (tD a) (l.map tD) ↔ _
      rw [List.mem_cons, insU_mem (ks := ks) x]
      constructor
      · rintro (h | h | h)
        · exact .inr (.inl h)
        · exact .inl h
        · exact .inr (.inr h)
      · rintro (h | h | h)
        · exact .inr (.inl h)
        · exact .inl h
        · exact .inr (.inr h)
    | false =>
      cases h2 : dataLt (tD a) (tD b) with
      | true => show x ∈ tD a :: tD b :: l.map tD ↔ _; rw [List.mem_cons, List.mem_cons]
      | false =>
        show x ∈ tD b :: l.map tD ↔ _
        rw [List.mem_cons, tD_anti h2 h1]
        constructor
        · exact .inr
        · rintro (h | h)
          · exact .inl h
          · exact h
theorem insU_map {a : List Int} : ∀ l : List (List Int), ∃ m : List (List Int), insU (tD a) (l.map tD) = m.map tD
  | [] => ⟨[a], rfl⟩
  | b :: l => by
    have e : insU (tD a) ((b :: l).map tD) = (match dataLt (tD b) (tD a) with
      | true => tD b :: insU (tD a) (l.map tD)
      | false => match dataLt (tD a) (tD b) with
        | true => tD a :: tD b :: l.map tD
        | false => tD b :: l.map tD) := rfl
    rw [e]
    cases h1 : dataLt (tD b) (tD a) with
    | true =>
      obtain ⟨m, em⟩ := insU_map l
      exact ⟨b :: m, congrArg (List.cons _) em⟩
    | false =>
      cases h2 : dataLt (tD a) (tD b) with
      | true => exact ⟨a :: b :: l, rfl⟩
      | false => exact ⟨b :: l, rfl⟩
theorem insU_strict {a : List Int} : ∀ {l : List (List Int)}, Strict (l.map tD) → Strict (insU (tD a) (l.map tD))
  | [], _ => List.pairwise_singleton _ _
  | b :: l, h => by
    have e : insU (tD a) ((b :: l).map tD) = (match dataLt (tD b) (tD a) with
      | true => tD b :: insU (tD a) (l.map tD)
      | false => match dataLt (tD a) (tD b) with
        | true => tD a :: tD b :: l.map tD
        | false => tD b :: l.map tD) := rfl
    rw [e]
    obtain ⟨k1, k2⟩ := List.pairwise_cons.mp h
    cases h1 : dataLt (tD b) (tD a) with
    | true =>
      refine List.pairwise_cons.mpr ⟨fun x hx => ?_, insU_strict k2⟩
      rcases (insU_mem (ks := []) x).mp hx with z | z
      · rw [z]; exact h1
      · exact k1 x z
    | false =>
      cases h2 : dataLt (tD a) (tD b) with
      | true =>
        refine List.pairwise_cons.mpr ⟨fun x hx => ?_, h⟩
        rcases List.mem_cons.mp hx with z | z
        · rw [z]; exact h2
        · exact lt_tr h2 (k1 x z)
      | false => exact h
theorem srtU_ok : ∀ l : List (List Int), Strict (srtU (l.map tD)) ∧ (∀ x, x ∈ srtU (l.map tD) ↔ x ∈ l.map tD) ∧ ∃ m : List (List Int), srtU (l.map tD) = m.map tD
  | [] => ⟨List.Pairwise.nil, fun x => Iff.rfl, [], rfl⟩
  | a :: l => by
    obtain ⟨h1, h2, m, em⟩ := srtU_ok l
    have e : srtU ((a :: l).map tD) = insU (tD a) (srtU (l.map tD)) := rfl
    rw [e, em]
    rw [em] at h1 h2
    refine ⟨insU_strict h1, fun x => ?_, insU_map m⟩
    rw [insU_mem (ks := []) x, h2 x, List.map_cons, List.mem_cons]
/-- what sorted(set) gives, is what the mirror says -/
theorem set_eq {L : List (List Int)} {ks : List (List Int)} (hn : L.Nodup) (hs : L.Pairwise fun q r => dataLt (tD r) (tD q) = false) (hm : ∀ k, k ∈ L ↔ k ∈ ks) : L.map tD = srtU (ks.map tD) := by
  obtain ⟨h1, h2, m, em⟩ := srtU_ok ks
  refine strict_uniq ?_ h1 fun x => ?_
  · refine List.pairwise_map.mpr ?_
    refine List.Pairwise.imp_of_mem (R := fun q r => q ≠ r ∧ dataLt (tD r) (tD q) = false) (fun {q r} hq hr h => ?_) (List.Pairwise.and hn hs)
    cases e : dataLt (tD q) (tD r) with
    | true => rfl
    | false => exact absurd (tD_anti e h.2) h.1
  · rw [h2 x]
    simp only [List.mem_map]
    constructor
    · rintro ⟨k, hk, rfl⟩
      exact ⟨k, (hm k).mp hk, rfl⟩
    · rintro ⟨k, hk, rfl⟩
      exact ⟨k, (hm k).mpr hk, rfl⟩
end Rf
namespace L2
open PySem PySem.Spec PyProof.Rows
def rSetOfTT (K : PySem.W.Frag) (P : Program) (w : World) : List V → Hp → VK → Prop := fun xs H Q => ∃ (l : Addr) (ks : List (Addr × List Int)), xs = [V.ref l] ∧ SqT K H l (ks.map fun p => V.ref p.1) ∧ (∀ p ∈ ks, SqT K H p.1 (p.2.map V.int)) ∧ ks.length < 64 ∧
  ∀ a L, H a = none → (∀ p ∈ L, p ∈ ks) → (∀ p ∈ ks, p.2 ∈ L.map (·.2)) → Q (.ref a) (upd H a (SetTO P w a L))
section
variable {X : Cx}
theorem cr_setOfTT (hc : X.calm = true) (hu : X.A.units + 64 < cLine) : CallR X (.type "set") (rSetOfTT X.K X.prog X.w) := by
  intro pins s σ H xs us Q I r h
  obtain ⟨l, ks, rfl, hl, hk, hf, q⟩ := h
  rw [Vals.ref1 r]
  obtain ⟨its, rv, pl, hz⟩ := I.tuple hl
  have hn : H s.heap.objs.size = none := I.hok.fresh (Nat.le_refl _)
  refine call_set_tupsT (P := X.prog) (w := X.w) ks (I.ok.hd hc) (show s.heap.IsTuple l its.toArray from pl) (by simpa using refs_of_vals rv) (fun p hp => I.isT (hk p hp)) hf (by omega) fun h' tk L es ep t R g k => ?_
  refine ⟨.ref s.heap.objs.size, upd H s.heap.objs.size (SetTO X.prog X.w s.heap.objs.size L), I.laid (t' := tk) k (Nat.le_refl _) (setTO_new R.t0), rfl, q _ L hn (fun p hp => ?_) fun p hp => ?_⟩
  · exact List.mem_of_mem_take (g.sub p hp)
  · exact g.all p (by rw [List.take_length]; exact hp)
theorem callR_or {f : Value} {r r' : List V → Hp → VK → Prop} (h : CallR X f r) (h' : CallR X f r') : CallR X f (fun xs H Q => r xs H Q ∨ r' xs H Q) := by
  intro pins s σ H xs us Q I rv q
  rcases q with q | q
  · exact h pins s σ H xs us Q I rv q
  · exact h' pins s σ H xs us Q I rv q
def rSortedTD (K : PySem.W.Frag) (P : Program) (w : World) : List V → Hp → VK → Prop := fun vs H Q => ∃ (a : Addr) (L : List (Addr × List Int)), vs = [V.ref a] ∧ H a = some (SetTO P w a L) ∧ (∀ p ∈ L, SqT K H p.1 (p.2.map V.int)) ∧ (∀ p ∈ L, p.2 ≠ []) ∧
  ∀ (L' : List (Addr × List Int)) (p : Addr), L'.Perm L → (L'.map (·.2)).Nodup → L'.length < 64 → L'.Pairwise (fun q r => PySem.W.dataLt (tD r.2) (tD q.2) = false) → H p = none → Q (.ref p) (upd H p (.lst (L'.map fun q => V.ref q.1)))
theorem cr_sortedTD (hc : X.calm = true) (hu : X.A.units + 64 < cLine) : CallR X (.builtin "sorted") (rSortedTD X.K X.prog X.w) := by
  intro pins s σ H vs us Q I r h
  obtain ⟨a, L, rfl, ha, hk, hne, q⟩ := h
  have R0 : SetT0 X.prog X.w s.heap a L := (I.hok a _ ha).1
  obtain ⟨es, ep, t, R⟩ := R0.full fun p hp => I.isT (hk p hp)
  rw [Vals.ref1 r]
  refine sorted_setD R (I.ok.hd hc) hne hu fun s' p out c L' k g o hp hg hout pm pw => ?_
  have hfew : L'.length < 64 := by rw [pm.length_eq]; exact R.few
  have hlen : (L'.map fun q => V.ref q.1).length ≤ sizeLine := by rw [List.length_map, sizeLine_eq]; omega
  have hn : H p = none := I.hok.fresh hp
  have hv : Vals (L'.map fun q => V.ref q.1) out.toList := by rw [hout]; exact vals_of_refs L'
  have J : Inv X pins σ (upd H p (.lst (L'.map fun q => V.ref q.1))) { s with heap := s'.heap, gens := s'.gens, drawn := s'.drawn, toks := s'.toks } :=
    I.call (ch := []) (Un.laid k hp hn) (I.hok.laid k hp ⟨hlen, out.toList, c, hv, hg⟩) (by rw [g]; exact I.bare) (fun _ z => nomatch z)
  have e : s' = { s with heap := s'.heap, gens := s'.gens, drawn := s'.drawn, toks := s'.toks } := by
    cases s'
    cases s
    cases o
    rfl
  rw [e]
  exact ⟨.ref p, _, J, rfl, q L' p pm ((pm.map (·.2)).nodup_iff.mpr R.nd) hfew pw hn⟩
end
end L2
namespace Rf
open PySem PySem.Spec PyProof.Rows L2
open PySem.W (dataLt dataLe alike EachIs)
section
variable {X : Cx} {P : Pm} {K : Frg} {e : Expr}
theorem ks_of {O : OS} {H : Hp} : ∀ {ds : List D} {xs : List V}, ds.all isIT = true → RepAll K O H xs ds → ∃ ks : List (Addr × List Int), xs = ks.map (fun p => V.ref p.1) ∧ ds = ks.map (fun p => tD p.2) ∧ (∀ p ∈ ks, SqT K H p.1 (p.2.map V.int)) ∧ (∀ p ∈ ks, p.2 ≠ []) ∧ (∀ p ∈ ks, Rep K O H (.ref p.1) (tD p.2))
  | [], _, _, h => by cases h; exact ⟨[], rfl, rfl, by simp, by simp, by simp⟩
  | d :: ds, _, e, h => by
    rw [List.all_cons] at e
    obtain ⟨e1, e2⟩ := Bool.and_eq_true_iff.mp e
    cases h with
    | cons a b =>
      obtain ⟨ks, rfl, rfl, h1, h2, h3⟩ := ks_of e2 b
      obtain ⟨k, hk, rfl⟩ := isIT_ints e1
      cases a with
      | @tup t xs _ r1 l r2 =>
        have hInts : ∀ {k : List Int} {xs : List V}, RepAll K O H xs (k.map .int) → xs = k.map V.int := fun {k} => by
          induction k with
          | nil => intro xs h; cases h; rfl
          | cons i k ih =>
            intro xs h
            cases h with
            | cons a b => cases a; rw [ih b]; rfl
        have ex := hInts r2
        subst ex
        refine ⟨(t, k) :: ks, rfl, rfl, fun p hp => ?_, fun p hp => ?_, fun p hp => ?_⟩
        · rcases List.mem_cons.mp hp with rfl | hp
          · exact r1.seq
          · exact h1 p hp
        · rcases List.mem_cons.mp hp with rfl | hp
          · exact hk
          · exact h2 p hp
        · rcases List.mem_cons.mp hp with rfl | hp
          · exact .tup r1 l r2
          · exact h3 p hp
/-- sorted(set(e)) -/
theorem re_sortSet {m : EM} {p q p1 p2 : Pos} (hc : X.calm = true) (hu : X.A.units + 64 < cLine) (hg : Gl X "sorted") (hm : X.mg "sorted" = none) (hg2 : Gl X "set") (hm2 : X.mg "set" = none) (he : RE X P e m)
    (hs1 : starEach [e] X.env = (false, eval e X.env) :: starEach [] X.env := by rfl) (hpl1 : (backTo q (starEach [] X.env)).any (·.1) = false := by rfl)
    (hs2 : starEach [.Call (.Name "set" p2) [e] [] q] X.env = (false, eval (.Call (.Name "set" p2) [e] [] q) X.env) :: starEach [] X.env := by rfl) (hpl2 : (backTo p (starEach [] X.env)).any (·.1) = false := by rfl) :
    RE X P (.Call (.Name "sorted" p1) [.Call (.Name "set" p2) [e] [] q] [] p) (mSortSet m) :=
  pe_imp (pe_callB (cr_sortedTD hc hu) hg hm (by decide +kernel) (pa_cons (pe_callTy (callR_or (cr_setOfT hc hu) (cr_setOfTT hc hu)) hg2 hm2 (by decide +kernel) (pa_cons he pa_nil hs1) (by decide) (by decide) hs1 hpl1) pa_nil hs2) (by decide) (by decide) hs2 hpl2) fun σ H Q ⟨env, O, g, q⟩ => by
    refine ⟨env, O, g, pD.bindD q fun x H1 d _ s1 r1 q1 => ?_⟩
    have fin : ∀ {xs : List V} {ds : List D}, RepAll X.K O H1 xs ds → pD X.K P O H1 Q (match ds.all isIT && Nat.blt ds.length 64 with | true => .ok (.list (srtU ds)) | false => .fail) →
        ∃ ks : List (Addr × List Int), xs = ks.map (fun p => V.ref p.1) ∧ (∀ p ∈ ks, SqT X.K H1 p.1 (p.2.map V.int)) ∧ ks.length < 64 ∧
          ∀ a L, H1 a = none → (∀ p ∈ L, p ∈ ks) → (∀ p ∈ ks, p.2 ∈ L.map (·.2)) → rSortedTD X.K X.prog X.w [.ref a] (upd H1 a (SetTO X.prog X.w a L)) Q := fun {xs ds} rr q2 => by
      cases e1 : ds.all isIT && Nat.blt ds.length 64 with
      | false => rw [e1] at q2; exact q2.elim
      | true =>
        rw [e1] at q2
        obtain ⟨e2, e3⟩ := Bool.and_eq_true_iff.mp e1
        obtain ⟨ks, rfl, rfl, h1, h2, h3⟩ := ks_of e2 rr
        have hl : ks.length < 64 := by
          have z := Nat.le_of_ble_eq_true e3
          rw [List.length_map] at z
          exact z
        refine ⟨ks, rfl, h1, hl, fun a L ha sub cov => ?_⟩
        have sm := same_upd (SetTO X.prog X.w a L) ha
        refine ⟨a, L, rfl, upd_same, fun p hp => (h1 p (sub p hp)).elim (fun z => .inl (z.elim (fun z => .inl (sm _ _ z)) fun ⟨o, z⟩ => .inr ⟨o, sm _ _ z⟩)) .inr, fun p hp => h2 p (sub p hp), fun L' p pm nd l64 pw hp => ?_⟩
        have hnp : H1 p = none := by
          by_cases z : p = a
          · rw [z]; exact ha
          · rw [upd_ne z] at hp; exact hp
        have eD : (L'.map (·.2)).map tD = srtU ((ks.map (·.2)).map tD) := by
          refine set_eq nd (List.pairwise_map.mpr pw) fun k => ?_
          constructor
          · intro hk
            obtain ⟨q, hq, rfl⟩ := List.mem_map.mp hk
            exact List.mem_map.mpr ⟨q, sub q (pm.mem_iff.mp hq), rfl⟩
          · intro hk
            obtain ⟨q, hq, rfl⟩ := List.mem_map.mp hk
            obtain ⟨q', hq', e'⟩ := List.mem_map.mp (cov q hq)
            exact List.mem_map.mpr ⟨q', pm.mem_iff.mpr hq', e'⟩
        have e4 : ks.map (fun p => tD p.2) = (ks.map (·.2)).map tD := by rw [List.map_map]; rfl
        rw [e4, ← eD] at q2
        have sm2 := sm.trans (same_upd (.lst (L'.map fun q => V.ref q.1)) hp)
        refine q2 _ _ sm2 (.lst ⟨upd_same, fun z => (g.grow s1).dom p z hnp⟩ (by rw [List.length_map, List.length_map, sizeLine_eq]; omega) ?_)
        have all : ∀ M : List (Addr × List Int), (∀ q ∈ M, q ∈ ks) → RepAll X.K O (upd (upd H1 a (SetTO X.prog X.w a L)) p (.lst (L'.map fun q => V.ref q.1))) (M.map fun q => V.ref q.1) ((M.map (·.2)).map tD) := by
          intro M
          induction M with
          | nil => intro _; exact .nil
          | cons q M ih => intro hM; exact .cons ((h3 q (hM q List.mem_cons_self)).same sm2) (ih fun r hr => hM r (List.mem_cons_of_mem _ hr))
        exact all L' fun q hq => sub q (pm.mem_iff.mp hq)
    have q2 : pD X.K P O H1 Q ((asSeq d).bind fun ds => match ds.all isIT && Nat.blt ds.length 64 with | true => .ok (.list (srtU ds)) | false => .fail) := q1
    cases r1 with
    | @lst t xs ds r1 l r2 =>
      obtain ⟨ks, rfl, h1, h2, h3⟩ := fin r2 q2
      exact .inl ⟨t, ks, rfl, r1.seq, h1, h2, h3⟩
    | @tup t xs ds r1 l r2 =>
      obtain ⟨ks, rfl, h1, h2, h3⟩ := fin r2 q2
      exact .inr ⟨t, ks, rfl, r1.seq, h1, h2, h3⟩
    | _ => exact q2.elim
end
end Rf

/-! Rf14: constants of the module, try, values that are not bools -/
namespace Rf
open PySem PySem.Spec PyProof.Rows L2

/-! ### constants -/
theorem rep_kt {K : Frg} {O : OS} {H : Hp} {a : Addr} {xs : List V} {ds : List D} (h : KT K a xs) (l : ds.length ≤ sizeLine) (r : RepAll K O H xs ds) : Rep K O H (.ref a) (.tuple ds) := .tup (.inr h) l r
theorem re_globT {X : Cx} {P : Pm} {x : Str} {a : Addr} {p q : Int} {pos : Pos} (hg : Gl X x) (hm : X.mg x = some (.ref a)) (h : KT X.K a [.int p, .int q]) (hd : (x == ("__debug__" : Str)) = false := by decide) : RE X P (.Name x pos) (mK (.tuple [.int p, .int q])) :=
  re_const (pe_glob hg hm (v := .ref a) rfl hd) fun O H => rep_kt h (by show 2 ≤ sizeLine; decide) (.cons (.int p) (.cons (.int q) .nil))
theorem re_globI {X : Cx} {P : Pm} {x : Str} {i : Int} {t : Tok} {pos : Pos} (hg : Gl X x) (hm : X.mg x = some (.int i t)) (hd : (x == ("__debug__" : Str)) = false := by decide) : RE X P (.Name x pos) (mK (.int i)) :=
  re_const (pe_glob hg hm (v := .int i) ⟨t, rfl⟩ hd) fun O H => .int i

/-! ### try .. except x, then a return -/
def emps : Env → Env
  | [] => []
  | _ :: r => .emp :: emps r
def retOnly : SRes → SRes
  | .ret v => .ret v
  | _ => .fail
def sTryR (cc : Nat) (mb ms mr : SM) : SM := fun env => match mb env with
  | .next e => mr e
  | .exc k => (match Nat.beq k cc with
    | true => (match ms (emps env) with
      | .next e => retOnly (mr e)
      | _ => .fail)
    | false => .exc k)
  | .ret d => .ret d
  | .brk e => .brk e
  | .cnt e => .cnt e
  | .fail => .fail
theorem emps_rep {K : Frg} {O : OS} {H : Hp} : ∀ (env : Env) (σ : L2.St), σ.length = env.length → EnvRep K O H σ (emps env) []
  | [], [], _ => .nil
  | [], _ :: _, h => by cases h
  | _ :: _, [], h => by cases h
  | s :: env, o :: σ, h => .cons (fp := []) .emp (emps_rep env σ (by simpa using h))
abbrev Pm.tr (P : Pm) (W : WX) : Pm := { P with E := fun cls d H => ∀ σ, W cls d σ H }
theorem Good.tr {K : Frg} {P : Pm} {O : OS} {env : Env} {σ : L2.St} {H : Hp} (g : Good K P O env σ H) (E : XK) : Good K { P with E := E } O env σ H := g.wishE E
section
variable {X : Cx} {P : Pm} {x : Str} {c : Value} {body suite rest : List Stmt} {b₀ : Stmt} {np pos pos' : Pos} {mb ms mr : SM} {cc : Nat}
theorem rss_try (hs : X.stack = X.env :: X.outer) (hf : X.env.frame = some X.env.locals) (hc : Names X x c) (tk : Takes X (fun cls d _ H => P.E cls d H))
    (hx : ∀ k, PySem.W.exmOne X.K (.ref (P.xc k)) c = some (Nat.beq k cc))
    (hb : ∀ (W : WX) (pn : List (Addr × Obj)) (xe : Value → Shared → Prop), Takes (X.tr pn xe) W → PassesOwn (model X.prog X.w) X.A X.env xe → RSs (X.tr pn xe) (P.tr W) body mb)
    (hsu : ∀ (a : Addr) (pn : List (Addr × Obj)), RSs (X.suite a pn) P (b₀ :: suite) ms) (hr : RSs X P rest mr) :
    RSs X P (.Try body [.ExceptHandler (some (.Name x np)) none (b₀ :: suite) pos'] [] [] pos :: rest) (sTryR cc mb ms mr) := by
  have base := pss_cons (ps_try_only (pos := pos) (pos' := pos') (np := np) (tb := fun W => tS X.K (P.tr W) mb) (ts := fun a cls d D σ H => σ.length = X.N.length → tS X.K P ms D σ H) hs hf hc tk hb (fun a oe cls d pn _ _ => ⟨fun pins s σ H D I q => (hsu a ((a, oe) :: pn)).run pins s σ H D I (q I.len)⟩)) hr
  refine ⟨fun pins s σ H D I q => base.run pins s σ H D I ?_⟩
  obtain ⟨env, O, g, q⟩ := q
  have hlen : env.length = X.N.length := by
    obtain ⟨fp, e, _⟩ := g.ex
    rw [← e.len]; exact I.len
  refine ⟨env, O, g.tr _, ?_⟩
  unfold sTryR at q
  cases z : mb env with
  | next e =>
    rw [z] at q
    exact fun σ' O' H' g' gr => ⟨e, O', ⟨g'.ex, g'.sub, g'.lst, g'.same, g'.dom0⟩, pS.up q gr⟩
  | ret d => rw [z] at q; exact q
  | brk e => rw [z] at q; exact fun σ' O' H' g' gr => q σ' O' H' ⟨g'.ex, g'.sub, g'.lst, g'.same, g'.dom0⟩ gr
  | cnt e => rw [z] at q; exact fun σ' O' H' g' gr => q σ' O' H' ⟨g'.ex, g'.sub, g'.lst, g'.same, g'.dom0⟩ gr
  | fail => rw [z] at q; exact q.elim
  | exc k =>
    rw [z] at q
    have q1 : pS X.K P O H D (match Nat.beq k cc with
      | true => (match ms (emps env) with
        | .next e => retOnly (mr e)
        | _ => .fail)
      | false => .exc k) := q
    intro H' s0 σ'
    cases zk : Nat.beq k cc with
    | false =>
      rw [zk] at q1
      have q2 : pXc P k H := q1
      exact ⟨false, by rw [hx k, zk], fun h => (by cases h), fun _ => q2 H' s0⟩
    | true =>
      rw [zk] at q1
      refine ⟨true, by rw [hx k, zk], fun _ a ha hl => ?_, fun h => (by cases h)⟩
      have q2 : pS X.K P O H D (match ms (emps env) with | .next e => retOnly (mr e) | _ => .fail) := q1
      refine ⟨emps env, P.O0, ⟨⟨[], emps_rep env σ' (by rw [hl, hlen]), List.nodup_nil, fun a ha => by cases ha⟩, fun a z => z, fun a z => ?_, s0, g.dom0⟩, ?_⟩
      · obtain ⟨xs, e1⟩ := g.lst a (g.sub a z)
        cases e2 : P.H0 a with
        | none => exact absurd e2 (g.dom0 a z)
        | some o =>
          have e3 := g.same a o e2
          rw [e1] at e3
          cases e3
          exact ⟨xs, s0 a _ e2⟩
      · cases zm : ms (emps env) with
        | next e =>
          rw [zm] at q2
          intro σ2 O2 H2 g2 gr2
          refine ⟨e, O2, g2, ?_⟩
          have q3 : pS X.K P O H D (retOnly (mr e)) := q2
          cases zr : mr e with
          | ret v => rw [zr] at q3; exact q3
          | next _ => rw [zr] at q3; exact q3.elim
          | brk _ => rw [zr] at q3; exact q3.elim
          | cnt _ => rw [zr] at q3; exact q3.elim
          | exc _ => rw [zr] at q3; exact q3.elim
          | fail => rw [zr] at q3; exact q3.elim
        | ret v => rw [zm] at q2; exact q2.elim
        | brk _ => rw [zm] at q2; exact q2.elim
        | cnt _ => rw [zm] at q2; exact q2.elim
        | exc _ => rw [zm] at q2; exact q2.elim
        | fail => rw [zm] at q2; exact q2.elim
end
end Rf

/-! Rf15: bundles for the printed walks -/
namespace Rf
open PySem PySem.Spec PyProof.Rows L2

theorem room_u {k : Nat} {A : Around} (h : Room k A) : A.units + 64 < cLine := by have := h.un; omega
/-! ### list(range), tuple(range) -/
def nLR1 (ma : EM) : AM := fun env => (ma env).bind fun x => rng [x]
def nLR2 (ma mb : EM) : AM := fun env => (ma env).bind fun x => (mb env).bind fun y => rng [x, y]
theorem rep_rg {K : Frg} {O : OS} {H : Hp} : ∀ (n : Nat) (a : Int), RepAll K O H ((List.range n).map fun i => V.int (a + (i : Nat))) (rangeD n a)
  | 0, _ => .nil
  | n + 1, a => by
    rw [List.range_succ_eq_map, List.map_cons, List.map_map]
    have e : (a + ((0 : Nat) : Int)) = a := by omega
    rw [e]
    refine .cons (.int a) ?_
    have q := rep_rg (K := K) (O := O) (H := H) n (a + 1)
    have e2 : ((fun i => V.int (a + ((i : Nat) : Int))) ∘ Nat.succ) = fun i => V.int (a + 1 + ((i : Nat) : Int)) := by
      funext i
      show V.int (a + ((i + 1 : Nat) : Int)) = V.int (a + 1 + (i : Int))
      congr 1
      omega
    rw [e2]
    exact q
section
variable {X : Cx} {P : Pm} {a b : Expr} {ma mb : EM} {pos p p2 q : Pos}
theorem fin_newL {K : Frg} {O : OS} {H H1 : Hp} {Q : VK} {ds : List D} {xs : List V} (q1 : pF K P O H Q (.ok ds)) (s1 : Same H H1) (r : RepAll K O H1 xs ds) (l : ds.length ≤ sizeLine) : ∀ z, H1 z = none → Q (.ref z) (upd H1 z (.lst xs)) := fun z hz =>
  q1 z xs _ (fresh_back s1 hz) (s1.trans (same_upd _ hz)) upd_same (RepAll.grow ⟨fun b o qb _ => same_upd _ hz b o qb, fun b zb => zb.elim .inl fun zb => .inr (by rw [zb]; exact hz)⟩ _ r) l
theorem rng1 {d : D} {ds : List D} (h : rng [d] = .ok ds) : ∃ n : Nat, d = .int n ∧ n ≤ 16777216 ∧ ds = rangeD n 0 := by
  cases d with
  | int i =>
    cases i with
    | ofNat n =>
      have h' : (match Nat.ble n 16777216 with | true => Res.ok (rangeF n 0) | false => .fail) = .ok ds := h
      cases e : Nat.ble n 16777216 with
      | true => rw [e] at h'; cases h'; exact ⟨n, rfl, Nat.le_of_ble_eq_true e, by rw [rangeF_eq]; rfl⟩
      | false => rw [e] at h'; cases h'
    | negSucc n => cases h
  | _ => cases h
theorem rng1_noexc {d : D} : ∀ c, rng [d] ≠ .exc c := fun c h => by
  cases d with
  | int i =>
    cases i with
    | ofNat n =>
      have h' : (match Nat.ble n 16777216 with | true => Res.ok (rangeF n 0) | false => .fail) = .exc c := h
      cases e : Nat.ble n 16777216 <;> rw [e] at h' <;> cases h'
    | negSucc n => cases h
  | _ => cases h
theorem reF_lr1 (hc : X.calm = true) (hg : Gl X "list") (hm : X.mg "list" = none) (hg2 : Gl X "range") (hm2 : X.mg "range" = none) (ha : RE X P a ma)
    (na : starEach [a] X.env = (false, eval a X.env) :: starEach [] X.env := by rfl) (nr : starEach [.Call (.Name "range" p2) [a] [] q] X.env = (false, eval (.Call (.Name "range" p2) [a] [] q) X.env) :: starEach [] X.env := by rfl) :
    REF X P (.Call (.Name "list" p) [.Call (.Name "range" p2) [a] [] q] [] pos) (nLR1 ma) := pe_imp (pe_listRg hc hg hm (prg_1 hg2 hm2 ha na) nr) fun σ H Q ⟨env, O, g, h⟩ => by
  refine ⟨env, O, g, ?_⟩
  unfold nLR1 at h
  cases z : ma env with
  | exc c => rw [z] at h; exact h
  | fail => rw [z] at h; exact h
  | ok d =>
    rw [z] at h
    intro x H1 s1 r1
    have q1 : pF X.K P O H Q (rng [d]) := h
    cases zr : rng [d] with
    | exc c => exact absurd zr (rng1_noexc c)
    | fail => rw [zr] at q1; exact q1.elim
    | ok ds =>
      rw [zr] at q1
      obtain ⟨n, rfl, hn, rfl⟩ := rng1 zr
      cases r1
      have e : ((n : Int) - 0).toNat = n := by omega
      refine ⟨n, rfl, RgOk.of_le (by omega) (by omega) (by omega) (by omega), fin_newL q1 s1 ?_ (by rw [rangeD_len, sizeLine_eq]; exact hn)⟩
      unfold rgV
      rw [e]
      exact rep_rg n 0
theorem rng2 {d d2 : D} {ds : List D} (h : rng [d, d2] = .ok ds) : ∃ i j : Nat, d = .int i ∧ d2 = .int j ∧ i ≤ 16777216 ∧ j ≤ 16777216 ∧ ds = rangeD (j - i) i := by
  cases d with
  | int i =>
    cases d2 with
    | int j =>
      cases i with
      | ofNat n =>
        cases j with
        | ofNat k =>
          have h' : (match Nat.ble k 16777216 && Nat.ble n 16777216 with | true => Res.ok (rangeF (k - n) n) | false => .fail) = .ok ds := h
          cases e : Nat.ble k 16777216 && Nat.ble n 16777216 with
          | true =>
            rw [e] at h'
            cases h'
            obtain ⟨z1, z2⟩ := Bool.and_eq_true_iff.mp e
            exact ⟨n, k, rfl, rfl, Nat.le_of_ble_eq_true z2, Nat.le_of_ble_eq_true z1, rangeF_eq _ _⟩
          | false => rw [e] at h'; cases h'
        | negSucc k => cases h
      | negSucc n => cases h
    | _ => cases i <;> cases h
  | _ => cases h
theorem rng2_noexc {d d2 : D} : ∀ c, rng [d, d2] ≠ .exc c := fun c h => by
  unfold rng at h
  split at h
  · split at h <;> cases h
  · split at h <;> cases h
  · cases h
theorem reF_lr2 (hc : X.calm = true) (hg : Gl X "list") (hm : X.mg "list" = none) (hg2 : Gl X "range") (hm2 : X.mg "range" = none) (ha : RE X P a ma) (hb : RE X P b mb)
    (na : starEach [a, b] X.env = (false, eval a X.env) :: starEach [b] X.env := by rfl) (nb : starEach [b] X.env = (false, eval b X.env) :: starEach [] X.env := by rfl) (hp : (backTo q (starEach [b] X.env)).any (·.1) = false := by rfl)
    (nr : starEach [.Call (.Name "range" p2) [a, b] [] q] X.env = (false, eval (.Call (.Name "range" p2) [a, b] [] q) X.env) :: starEach [] X.env := by rfl) :
    REF X P (.Call (.Name "list" p) [.Call (.Name "range" p2) [a, b] [] q] [] pos) (nLR2 ma mb) := pe_imp (pe_listRg hc hg hm (prg_2 hg2 hm2 ha hb na nb hp) nr) fun σ H Q ⟨env, O, g, h⟩ => by
  refine ⟨env, O, g, ?_⟩
  unfold nLR2 at h
  cases z : ma env with
  | exc c => rw [z] at h; exact h
  | fail => rw [z] at h; exact h
  | ok d =>
    rw [z] at h
    intro x H1 s1 r1
    refine ⟨env, O, g.grow s1, ?_⟩
    have h1 : pF X.K P O H Q ((mb env).bind fun y => rng [d, y]) := h
    cases z2 : mb env with
    | exc c => rw [z2] at h1; exact h1
    | fail => rw [z2] at h1; exact h1
    | ok d2 =>
      rw [z2] at h1
      intro y H2 s2 r2
      have q1 : pF X.K P O H Q (rng [d, d2]) := h1
      cases zr : rng [d, d2] with
      | exc c => exact absurd zr (rng2_noexc c)
      | fail => rw [zr] at q1; exact q1.elim
      | ok ds =>
        rw [zr] at q1
        obtain ⟨n, k, rfl, rfl, hn, hk, rfl⟩ := rng2 zr
        cases r1
        cases r2
        have e : ((k : Int) - (n : Int)).toNat = k - n := by omega
        refine ⟨n, k, rfl, rfl, RgOk.of_le (by omega) (by omega) (by omega) (by omega), fin_newL q1 (s1.trans s2) ?_ (by rw [rangeD_len, sizeLine_eq]; omega)⟩
        unfold rgV
        rw [e]
        exact rep_rg (k - n) n
end

/-! ### what stands where -/
/-- built-ins that the module does not store -/
structure Bl (mg : Str → Option Value) : Prop where
  len : mg "len" = none
  abs : mg "abs" = none
  int : mg "int" = none
  bool : mg "bool" = none
  str : mg "str" = none
  list : mg "list" = none
  tuple : mg "tuple" = none
  set : mg "set" = none
  all : mg "all" = none
  any : mg "any" = none
  max : mg "max" = none
  min : mg "min" = none
  sorted : mg "sorted" = none
  range : mg "range" = none
  enumerate : mg "enumerate" = none
  zip : mg "zip" = none
  isinstance : mg "isinstance" = none
/-- a pair of ints that the module stores -/
def Pr2 (K : Frg) (mg : Str → Option Value) (x : Str) (p q : Int) : Prop := ∃ a, mg x = some (.ref a) ∧ KT K a [.int p, .int q]
theorem re_pr2 {X : Cx} {P : Pm} {x : Str} {p q : Int} {pos : Pos} (hg : Gl X x) (h : Pr2 X.K X.mg x p q) (hd : (x == ("__debug__" : Str)) = false := by decide) : RE X P (.Name x pos) (mK (.tuple [.int p, .int q])) := by
  obtain ⟨a, e, k⟩ := h
  exact re_globT hg e k hd
/-- an own class of exceptions without an __init__ -/
structure Exo (K : Frg) (mg : Str → Option Value) (x : Str) (C : Addr) : Prop where
  ex : ∃ (bmB : List Value) (B newId initId : String), ExcBaseFacts B newId initId bmB ∧ PySem.W.excIn K C bmB newId = true
  glob : mg x = some (.ref C)
  kp : PySem.W.keepIn K (.ref C) = true
  sub : PySem.W.subIn K (.ref C) (.type "BaseException") = some true
  ty : PySem.W.typeIn K (.ref C) = some (.type "type")
theorem rs_raiseO {X : Cx} {P : Pm} {x : Str} {c : Nat} {p q pos : Pos} (h : Exo X.K X.mg x (P.xc c)) (hg : Gl X x) (hc : X.calm = true) (tk : Takes X (fun cls d _ H => P.E cls d H)) (hd : (x == ("__debug__" : Str)) = false := by decide) : RS X P (.Raise (some (.Call (.Name x p) [] [] q)) none pos) (sExc c) := by
  obtain ⟨bmB, B, n, i, F, e⟩ := h.ex
  exact rs_raise hc tk (pmk_own0 F e h.glob h.kp (raises_own h.sub h.ty) hg hd) fun σ H Q z => z
/-- a raise that the mirror never meets -/
def sFail : SM := fun _ => .fail
theorem rs_never {X : Cx} {P : Pm} {st : Stmt} : RS X P st sFail := ps_imp ps_never fun Dd σ H ⟨env, O, g, q⟩ => q
/-- a def that stands -/
def DefIs (K : Frg) (mg : Str → Option Value) (x : Str) (st : Stmt) : Prop := ∃ f fd, FunD K x x (defArgs st) (defBody st) (defScope st) [] [] f fd ∧ mg x = some (.ref f)
/-- a def that does what the mirror says -/
def DefOk (Pr : Program) (w : World) (K : Frg) (mg : Str → Option Value) (base : Heap) (xc : Nat → Addr) (x : Str) (k : Nat) (ps : List Str) (m : List D → Res D) : Prop :=
  ∃ f fd, FnM Pr w K mg base xc k f fd ps m ∧ mg x = some (.ref f) ∧ PySem.W.keepIn K (.ref f) = true ∧ Binds K fd ps []
theorem DefOk.imp {Pr : Program} {w : World} {K : Frg} {mg : Str → Option Value} {base : Heap} {xc : Nat → Addr} {x : Str} {k : Nat} {ps : List Str} {m m' : List D → Res D} (h : DefOk Pr w K mg base xc x k ps m) (e : ∀ ds, ds.length = ps.length → m' ds = .fail ∨ m' ds = m ds) : DefOk Pr w K mg base xc x k ps m' := by
  obtain ⟨f, fd, F, r⟩ := h
  refine ⟨f, fd, F.imp fun vs H Q E q => ?_, r⟩
  obtain ⟨O, ds, dom, rr, l, q⟩ := q
  refine ⟨O, ds, dom, rr, l, ?_⟩
  rcases e ds (by rw [← rr.len]; exact l) with z | z
  · rw [z] at q; exact q.elim
  · rw [z] at q; exact q
theorem re_callF {X : Cx} {P : Pm} {e : Expr} {es : List Expr} {m : AM} {pos p : Pos} {x : Str} {k kX : Nat} {ps : List Str} {fm : List D → Res D} (h : DefOk X.prog X.w X.K X.mg X.base P.xc x k ps fm) (hr : Room kX X.A) (hk : k ≤ kX) (hg : Gl X x) (tk : Takes X (fun cls d _ H => P.E cls d H))
    (ha : RA X P (e :: es) m) (hl : ∀ env ds, m env = .ok ds → ds.length = ps.length) (hdb : (x == ("__debug__" : Str)) = false := by decide) (he : starEach (e :: es) X.env = (false, eval e X.env) :: starEach es X.env := by rfl) (hpl : (backTo pos (starEach es X.env)).any (·.1) = false := by rfl) :
    RE X P (.Call (.Name x p) (e :: es) [] pos) (mCall fm m) := by
  obtain ⟨f, fd, F, hm, kp, b⟩ := h
  exact re_call F rfl (hr.mono hk) hg hm kp b (passes_call tk fun _ _ _ _ z => z) ha hl hdb he hpl
theorem aStar_len {m : EM} {mr : AM} {n : Nat} : True := trivial
abbrev XC (Pr : Program) (w : World) (K : Frg) (mg : Str → Option Value) (base : Heap) (N : List Str) (x : Str) (st : Stmt) (f : Addr) (cdv : Value) (A : Around) (outer : List PySem.Env) (s : Shared) (H : Hp) (E : XK) : Cx :=
  cxOf (L2.CX Pr w) Pr w K mg base N x (defScope st) f cdv A outer s H E
/-- THE RULE for a def of the module's top -/
theorem def_ok {Pr : Program} {w : World} {K : Frg} {mg : Str → Option Value} {base : Heap} {xc : Nat → Addr} {x : Str} {st : Stmt} {N ps : List Str} {k : Nat} {m : SM} (D : DefIs K mg x st) (S : FnScope N ps (defScope st)) (hn : ps.length ≤ N.length)
    (hbind : ∀ (kV doc pm : Value) (an : Option Addr) (cdv ct : Value) (us : List Value), us.length = ps.length → bindArgs (PySem.W.fnOf x x (defArgs st) (defBody st) (defScope st) .none kV doc pm an cdv ct) ⟨us, []⟩ = pure (ps.zip us))
    (hb : ∀ (f : Addr) (cdv : Value) (A : Around) (outer : List PySem.Env) (s : Shared) (H : Hp) (E : XK) (O : OS), Room k (A.deeper (envOfC x (defScope st) s.heap.objs.size f cdv)) → Takes (XC Pr w K mg base N x st f cdv A outer s H E) (fun cls d _ H => E cls d H) →
      PassesOwn (model Pr w) (A.deeper (envOfC x (defScope st) s.heap.objs.size f cdv)) (envOfC x (defScope st) s.heap.objs.size f cdv) (XC Pr w K mg base N x st f cdv A outer s H E).xe → RSs (XC Pr w K mg base N x st f cdv A outer s H E) ⟨E, O, H, xc⟩ (defBody st) m) :
    DefOk Pr w K mg base xc x (k + 1) ps (fnM N.length m) := by
  obtain ⟨f, fd, F, g⟩ := D
  refine ⟨f, fd, fn_ok F S hn fun cdv A outer s H E O hr => ?_, g, F.kp, F.bindsN hbind⟩
  exact hb f cdv A outer s H E O hr (takes_of rfl rfl rfl rfl) (passes_of (X := XC Pr w K mg base N x st f cdv A outer s H E) rfl)
end Rf
namespace Rf
open PySem PySem.Spec PyProof.Rows L2
def tOr (f g : D → Bool) : D → Bool := fun d => f d || g d
theorem DefOk.mono {Pr : Program} {w : World} {K : Frg} {mg : Str → Option Value} {base : Heap} {xc : Nat → Addr} {x : Str} {j k : Nat} {ps : List Str} {m : List D → Res D} (h : DefOk Pr w K mg base xc x j ps m) (e : j ≤ k) : DefOk Pr w K mg base xc x k ps m := by
  obtain ⟨f, fd, F, r⟩ := h
  exact ⟨f, fd, F.mono e, r⟩
theorem def_base {Pr : Program} {w : World} {K : Frg} {mg : Str → Option Value} {base : Heap} {xc : Nat → Addr} {x : Str} {st : Stmt} {ps : List Str} (D : DefIs K mg x st)
    (hbind : ∀ (kV doc pm : Value) (an : Option Addr) (cdv ct : Value) (us : List Value), us.length = ps.length → bindArgs (PySem.W.fnOf x x (defArgs st) (defBody st) (defScope st) .none kV doc pm an cdv ct) ⟨us, []⟩ = pure (ps.zip us)) :
    DefOk Pr w K mg base xc x 0 ps (fun _ => .fail) := by
  obtain ⟨f, fd, F, g⟩ := D
  refine ⟨f, fd, ⟨fun vs H Q E h => ?_, fun A outer s H args us vs Q E hr he hb hv hs => ?_⟩, g, F.kp, F.bindsN hbind⟩
  · obtain ⟨_, _, _, _, l, _⟩ := h
    exact l
  · obtain ⟨_, _, _, _, _, q⟩ := hs
    exact q.elim
def kB (a b : NameKind) : Bool := decide (a = b)
def blkB (N : List Str) (sc scope : Scope) (own : List (Str × Nat)) : Bool :=
  decide (scope.kind = .function) && scope.names.all (fun y => decide (scope.names.lookup y.1 = some y.2)) && own.all (fun p => decide (N[p.2]? = some p.1)) &&
    scope.names.all (fun y => !decide (y.2 = .free) || decide (sc.names.lookup y.1 = some .cell) || decide (sc.names.lookup y.1 = some .free)) &&
    scope.names.all (fun y => !(decide (y.2 = .local) || decide (y.2 = .cell)) || decide (y.1 ∈ own.map (·.1)) || decide (y.1 ∉ N))
theorem blk_of {N : List Str} {sc scope : Scope} {own : List (Str × Nat)} (h : blkB N sc scope own = true) : BlkOk N sc scope own := by
  unfold blkB at h
  simp only [Bool.and_eq_true, List.all_eq_true, decide_eq_true_eq, Bool.or_eq_true, Bool.not_eq_true', decide_eq_false_iff_not] at h
  obtain ⟨⟨⟨⟨h1, h2⟩, h3⟩, h4⟩, h5⟩ := h
  refine ⟨h1, h2, h3, fun y hy hf => ?_, fun y hy hf => ?_⟩
  · rcases h4 y hy with (h | h) | h
    · exact absurd hf h
    · exact .inl h
    · exact .inr h
  · rcases h5 y hy with (h | h) | h
    · rcases hf with hf | hf
      · rw [hf] at h; simp at h
      · rw [hf] at h; simp at h
    · exact .inl h
    · exact .inr h
end Rf

namespace Rf
open PySem PySem.Spec PyProof.Rows L2
section
variable {X : Cx} {P : Pm}
theorem rs_parP {tes es : List Expr} {kt k2 n : Nat} {pt pt2 pos : Pos} {g : TGs} {is : List Nat} {m : XM} (hc : X.calm = true) (ha : RX X P es m) (T : PTn X tes g is) (hl : is.length = n) (hz : is.length ≤ sizeLine) (hn : (assignEach tes X.env).length = n := by rfl) (hst : (assignEach tes X.env).findIdx? (·.1) = none := by rfl)
    (hs : swapsWithSole [.Tuple tes kt pt] (.Tuple es k2 pt2) pos.line X.env = pure false := by rfl) (hw : swappedStores [.Tuple tes kt pt] (.Tuple es k2 pt2) X.env = pure none := by rfl)
    (h1 : (assignEach [.Tuple tes kt pt] X.env).map (·.2) = [assign (.Tuple tes kt pt) X.env] := by rfl) : RS X P (.Assign [.Tuple tes kt pt] (.Tuple es k2 pt2) pos) (sPar is m) := by
  subst hl
  exact rs_parT ha (pg_tup hc T.pg hn hst) T.puts hz hs hw h1
end
theorem rs_lc_V {i : Nat} {y : Str} {py : Pos} {elt tg iter : Expr} {ifs : List Expr} {scope : Scope} {own : List (Str × Nat)} {pos spos : Pos} {X : Cx} {P : Pm} {g : TG} {mi : AM} {bd : BdM} {mt : BM} {me : EM} {is : List Nat} (hc : X.calm = true) (hN : X.N.Nodup) (hy : X.N[i]? = some y) (hyl : X.env.scope.names.lookup y = some .local)
    (hk : X.env.scope.kind = .function) (hl : (py.line == pos.line) = true) (ha : (scope.names.any fun (n, k) => n == y && (k == .local || k == .cell)) = false) (hi : RIC X P tg iter mi) (ok : BlkOk X.N X.env.scope scope own) (hB : BG X.K P.nox g bd is) (hsub : ∀ i ∈ is, i ∈ own.map (·.2))
    (hg : ∀ (s : Shared) (H : Hp) (C : Addr) (cl : List (Str × Addr)) (fp : List Addr), PG (X.blk s H scope (compEnvC scope cl C X.env) fp) tg g) (ht : ∀ (s : Shared) (H : Hp) (C : Addr) (cl : List (Str × Addr)) (fp : List Addr), RTs (X.blk s H scope (compEnvC scope cl C X.env) fp) P.nox ifs mt)
    (he : ∀ (s : Shared) (H : Hp) (C : Addr) (cl : List (Str × Addr)) (fp : List Addr), RE (X.blk s H scope (compEnvC scope cl C X.env) fp) P.nox elt me) (hs : ∀ x, foldedSetIterable iter X.env x = pure x := by intro _; rfl) :
    RS X P (.Assign [.Name y py] (.ListComp elt [⟨tg, iter, ifs, 0⟩] scope pos) spos) (sSet i (asList (lcOut bd mt me (own.map (·.2)) mi))) := by
  have L := lcst (elt := elt) (ifs := ifs) (te := tM X.K P.nox me) (tt := tMB X.K P.nox mt) (spos := spos) (pos := pos) (py := py) hc hN hy hyl hk hl ha hi ok hg ht he hs
  exact rs_lcV L (lcs_sound hB hsub)
theorem rs_lc_VB {i : Nat} {y : Str} {py : Pos} {elt tg iter : Expr} {ifs : List Expr} {scope : Scope} {own : List (Str × Nat)} {pos spos : Pos} {X : Cx} {P : Pm} {g : TG} {mi : AM} {bd : BdM} {mt : BM} {me : EM} {is : List Nat} (hc : X.calm = true) (hN : X.N.Nodup) (hy : X.N[i]? = some y) (hyl : X.env.scope.names.lookup y = some .local)
    (hk : X.env.scope.kind = .function) (hl : (py.line == pos.line) = true) (ha : (scope.names.any fun (n, k) => n == y && (k == .local || k == .cell)) = false) (hi : RIC X P tg iter mi) (ok : BlkOk X.N X.env.scope scope own) (hB : BG X.K P.nox g bd is) (hsub : ∀ i ∈ is, i ∈ own.map (·.2))
    (hg : ∀ (s : Shared) (H : Hp) (C : Addr) (cl : List (Str × Addr)) (fp : List Addr), PG (X.blk s H scope (compEnvC scope cl C X.env) fp) tg g) (ht : ∀ (s : Shared) (H : Hp) (C : Addr) (cl : List (Str × Addr)) (fp : List Addr), RTs (X.blk s H scope (compEnvC scope cl C X.env) fp) P.nox ifs mt)
    (he : ∀ (s : Shared) (H : Hp) (C : Addr) (cl : List (Str × Addr)) (fp : List Addr), RE (X.blk s H scope (compEnvC scope cl C X.env) fp) P.nox elt me) (hs : ∀ x, foldedSetIterable iter X.env x = pure x := by intro _; rfl) :
    RS X P (.Assign [.Name y py] (.ListComp elt [⟨tg, iter, ifs, 0⟩] scope pos) spos) (sSet i (asList (nBor (lcOut bd mt me (own.map (·.2)) mi)))) := by
  have L := lcst (elt := elt) (ifs := ifs) (te := tM X.K P.nox me) (tt := tMB X.K P.nox mt) (spos := spos) (pos := pos) (py := py) hc hN hy hyl hk hl ha hi ok hg ht he hs
  exact rs_lcV L (lcs_bor (lcs_sound hB hsub))
theorem rs_lc_O {i : Nat} {y : Str} {py : Pos} {elt tg iter : Expr} {ifs : List Expr} {scope : Scope} {own : List (Str × Nat)} {pos spos : Pos} {X : Cx} {P : Pm} {g : TG} {mi : AM} {bd : BdM} {mt : BM} {me : EM} {is : List Nat} (hc : X.calm = true) (hN : X.N.Nodup) (hy : X.N[i]? = some y) (hyl : X.env.scope.names.lookup y = some .local)
    (hk : X.env.scope.kind = .function) (hl : (py.line == pos.line) = true) (ha : (scope.names.any fun (n, k) => n == y && (k == .local || k == .cell)) = false) (hi : RIC X P tg iter mi) (ok : BlkOk X.N X.env.scope scope own) (hB : BG X.K P.nox g bd is) (hsub : ∀ i ∈ is, i ∈ own.map (·.2))
    (hg : ∀ (s : Shared) (H : Hp) (C : Addr) (cl : List (Str × Addr)) (fp : List Addr), PG (X.blk s H scope (compEnvC scope cl C X.env) fp) tg g) (ht : ∀ (s : Shared) (H : Hp) (C : Addr) (cl : List (Str × Addr)) (fp : List Addr), RTs (X.blk s H scope (compEnvC scope cl C X.env) fp) P.nox ifs mt)
    (he : ∀ (s : Shared) (H : Hp) (C : Addr) (cl : List (Str × Addr)) (fp : List Addr), RE (X.blk s H scope (compEnvC scope cl C X.env) fp) P.nox elt me) (hs : ∀ x, foldedSetIterable iter X.env x = pure x := by intro _; rfl) :
    RS X P (.Assign [.Name y py] (.ListComp elt [⟨tg, iter, ifs, 0⟩] scope pos) spos) (sOwn i (nOf (lcOut bd mt me (own.map (·.2)) mi))) := by
  have L := lcst (elt := elt) (ifs := ifs) (te := tM X.K P.nox me) (tt := tMB X.K P.nox mt) (spos := spos) (pos := pos) (py := py) hc hN hy hyl hk hl ha hi ok hg ht he hs
  exact rs_lcO L (lcn_of (lcs_sound hB hsub))
theorem rs_lc_OB {i : Nat} {y : Str} {py : Pos} {elt tg iter : Expr} {ifs : List Expr} {scope : Scope} {own : List (Str × Nat)} {pos spos : Pos} {X : Cx} {P : Pm} {g : TG} {mi : AM} {bd : BdM} {mt : BM} {me : EM} {is : List Nat} (hc : X.calm = true) (hN : X.N.Nodup) (hy : X.N[i]? = some y) (hyl : X.env.scope.names.lookup y = some .local)
    (hk : X.env.scope.kind = .function) (hl : (py.line == pos.line) = true) (ha : (scope.names.any fun (n, k) => n == y && (k == .local || k == .cell)) = false) (hi : RIC X P tg iter mi) (ok : BlkOk X.N X.env.scope scope own) (hB : BG X.K P.nox g bd is) (hsub : ∀ i ∈ is, i ∈ own.map (·.2))
    (hg : ∀ (s : Shared) (H : Hp) (C : Addr) (cl : List (Str × Addr)) (fp : List Addr), PG (X.blk s H scope (compEnvC scope cl C X.env) fp) tg g) (ht : ∀ (s : Shared) (H : Hp) (C : Addr) (cl : List (Str × Addr)) (fp : List Addr), RTs (X.blk s H scope (compEnvC scope cl C X.env) fp) P.nox ifs mt)
    (he : ∀ (s : Shared) (H : Hp) (C : Addr) (cl : List (Str × Addr)) (fp : List Addr), RE (X.blk s H scope (compEnvC scope cl C X.env) fp) P.nox elt me) (hs : ∀ x, foldedSetIterable iter X.env x = pure x := by intro _; rfl) :
    RS X P (.Assign [.Name y py] (.ListComp elt [⟨tg, iter, ifs, 0⟩] scope pos) spos) (sOwn i (nOf (nBor (lcOut bd mt me (own.map (·.2)) mi)))) := by
  have L := lcst (elt := elt) (ifs := ifs) (te := tM X.K P.nox me) (tt := tMB X.K P.nox mt) (spos := spos) (pos := pos) (py := py) hc hN hy hyl hk hl ha hi ok hg ht he hs
  exact rs_lcO L (lcn_of (lcs_bor (lcs_sound hB hsub)))
theorem rs_lc_R {i : Nat} {y : Str} {py : Pos} {elt tg iter : Expr} {ifs : List Expr} {scope : Scope} {own : List (Str × Nat)} {pos spos : Pos} {X : Cx} {P : Pm} {g : TG} {mi : AM} {bd : BdM} {mt : BM} {me : AM} {is : List Nat} (hc : X.calm = true) (hN : X.N.Nodup) (hy : X.N[i]? = some y) (hyl : X.env.scope.names.lookup y = some .local)
    (hk : X.env.scope.kind = .function) (hl : (py.line == pos.line) = true) (ha : (scope.names.any fun (n, k) => n == y && (k == .local || k == .cell)) = false) (hi : RIC X P tg iter mi) (ok : BlkOk X.N X.env.scope scope own) (hB : BG X.K P.nox g bd is) (hsub : ∀ i ∈ is, i ∈ own.map (·.2))
    (hg : ∀ (s : Shared) (H : Hp) (C : Addr) (cl : List (Str × Addr)) (fp : List Addr), PG (X.blk s H scope (compEnvC scope cl C X.env) fp) tg g) (ht : ∀ (s : Shared) (H : Hp) (C : Addr) (cl : List (Str × Addr)) (fp : List Addr), RTs (X.blk s H scope (compEnvC scope cl C X.env) fp) P.nox ifs mt)
    (he : ∀ (s : Shared) (H : Hp) (C : Addr) (cl : List (Str × Addr)) (fp : List Addr), REF (X.blk s H scope (compEnvC scope cl C X.env) fp) P.nox elt me) (hs : ∀ x, foldedSetIterable iter X.env x = pure x := by intro _; rfl) :
    RS X P (.Assign [.Name y py] (.ListComp elt [⟨tg, iter, ifs, 0⟩] scope pos) spos) (sOwn i (lcOutR bd mt me (own.map (·.2)) mi)) := by
  have L := lcst (elt := elt) (ifs := ifs) (te := tMF X.K P.nox me) (tt := tMB X.K P.nox mt) (spos := spos) (pos := pos) (py := py) hc hN hy hyl hk hl ha hi ok hg ht he hs
  exact rs_lcO L (lcR_sound hB hsub)
end Rf
namespace HT
open PySem PySem.Spec PyProof.Rows
section
variable {prog : Program} {w : World} {A : Around} {E : Value → Shared → Prop} {s : Shared}
theorem cat_tup0 {t b : Addr} {ws : List Value} {Q : Value → Shared → Prop} (ht : IsTup s.heap t ([] : List Value).toArray) (hb : IsTup s.heap b ws.toArray) (h : Q (.ref b) s) : wpAny (model prog w) A (binaryOp .Add (.ref t) (.ref b)) Q E s := by
  obtain ⟨⟨cls, dd, data, sl⟩, ho, hc, n, hd⟩ := id ht
  obtain ⟨⟨cls2, dd2, data2, sl2⟩, ho2, hc2, n2, hd2⟩ := id hb
  simp only at hc hd hc2 hd2
  subst hc hd hc2 hd2
  exact concat_meets ⟨_, ho, rfl⟩ ⟨_, ho2, rfl⟩ noFill_tuple_add seq_tuple_add PySem.F.slot_tuple_add PySem.F.entry_tuple_add (PySem.F.args_tuple_add_2 _ _)
      (tuple_addW0 t b ([] : List Value).toArray ws.toArray n n2 dd dd2 sl sl2 rfl) ⟨ho, ho2, h⟩
end
end HT
namespace Rf
open PySem PySem.Spec PyProof.Rows L2
def rCat0 (K : Frg) : R2 := fun x y H Q => ∃ a b ys, x = .ref a ∧ y = .ref b ∧ SqT K H a [] ∧ SqT K H b ys ∧ Q (.ref b) H
theorem op_cat0 {X : Cx} : OpR X (binaryOp .Add) (rCat0 X.K) := by
  intro pins s σ H x y v u Q I rx ry h
  obtain ⟨a, b, ys, rfl, rfl, ha, hb, q⟩ := h
  cases rx
  cases ry
  obtain ⟨its, r1, p1, _⟩ := I.tuple ha
  obtain ⟨its2, r2, p2, _⟩ := I.tuple hb
  cases r1
  exact HT.cat_tup0 p1 p2 ⟨.ref b, H, I, rfl, q⟩
def fAddX (a b : D) : Res D := match a with
  | .tuple [] => (match b with
    | .tuple ds => .ok (.tuple ds)
    | _ => .fail)
  | a => fAdd a b
theorem op_addX {X : Cx} : OpR X (binaryOp .Add) (fun x y H Q => rCat0 X.K x y H Q ∨ (rI0 (fun i j => .int (i + j)) x y H Q ∨ (rCat x y H Q ∨ rCatT X.K x y H Q))) := op_cat0.or op_addC
theorem fAddX_ne {a b : D} (h : a ≠ .tuple []) : fAddX a b = fAdd a b := by
  unfold fAddX
  split
  · exact absurd rfl h
  · rfl
theorem r_addX {K : Frg} {P : Pm} : ROp K P (fun x y H Q => rCat0 K x y H Q ∨ (rI0 (fun i j => .int (i + j)) x y H Q ∨ (rCat x y H Q ∨ rCatT K x y H Q))) fAddX := fun O H x y a b Q dom rx ry q => by
  by_cases z : a = .tuple []
  · subst z
    cases rx with
    | tup h1 l1 h2 =>
      cases h2
      cases ry with
      | tup k1 l2 k2 => exact .inl ⟨_, _, _, rfl, rfl, h1.seq, k1.seq, q _ H (Same.refl _) (.tup k1 l2 k2)⟩
      | _ => exact q.elim
  · rw [fAddX_ne z] at q
    exact .inr (r_addC (P := P) O H x y a b Q dom rx ry q)
def fDivI (i j : Int) : Res D := match j with
  | .ofNat 0 => .fail
  | .ofNat (n + 1) => (match Nat.blt (n + 1) 1073741824 with
    | true => okI (i / ((n + 1 : Nat) : Int))
    | false => .fail)
  | .negSucc n => (match Nat.blt (n + 1) 1073741824 with
    | true => okI (i.fdiv (Int.negSucc n))
    | false => .fail)
def fDivX : D → D → Res D := fI fDivI
theorem r_divX {K : Frg} {P : Pm} : ROp K P (rI CDivN fun i j => .int (i.fdiv j)) fDivX := r_iC fun O H Q i j q => by
  cases j with
  | ofNat n =>
    cases n with
    | zero => exact q.elim
    | succ n =>
      have q1 : pD K P O H Q (match Nat.blt (n + 1) 1073741824 with | true => okI (i / ((n + 1 : Nat) : Int)) | false => .fail) := q
      cases e : Nat.blt (n + 1) 1073741824 with
      | false => rw [e] at q1; exact q1.elim
      | true =>
        rw [e] at q1
        have h1 : n + 1 < 1073741824 := Nat.le_of_ble_eq_true e
        refine ⟨⟨by show ((n + 1 : Nat) : Int) ≠ 0; omega, h1⟩, ?_⟩
        have e2 : i.fdiv (Int.ofNat (n + 1)) = i / ((n + 1 : Nat) : Int) := Int.fdiv_eq_ediv_of_nonneg i (by show (0 : Int) ≤ ((n + 1 : Nat) : Int); omega)
        rw [e2]
        exact fin_i q1
  | negSucc n =>
    have q1 : pD K P O H Q (match Nat.blt (n + 1) 1073741824 with | true => okI (i.fdiv (Int.negSucc n)) | false => .fail) := q
    cases e : Nat.blt (n + 1) 1073741824 with
    | false => rw [e] at q1; exact q1.elim
    | true =>
      rw [e] at q1
      have h1 : n + 1 < 1073741824 := Nat.le_of_ble_eq_true e
      exact ⟨⟨by omega, h1⟩, fin_i q1⟩
end Rf
namespace Rf
open PySem PySem.Spec PyProof.Rows L2
def fModI (i j : Int) : Res D := match j with
  | .ofNat 0 => .fail
  | .ofNat (n + 1) => okI (i % ((n + 1 : Nat) : Int))
  | .negSucc n => okI (i.fmod (Int.negSucc n))
def fModX : D → D → Res D := fI fModI
theorem r_modX {K : Frg} {P : Pm} : ROp K P (rI (fun _ j => j ≠ 0) fun i j => .int (i.fmod j)) fModX := r_iC fun O H Q i j q => by
  cases j with
  | ofNat n =>
    cases n with
    | zero => exact q.elim
    | succ n =>
      refine ⟨by show ((n + 1 : Nat) : Int) ≠ 0; omega, ?_⟩
      have e2 : i.fmod (Int.ofNat (n + 1)) = i % ((n + 1 : Nat) : Int) := Int.fmod_eq_emod_of_nonneg i (by show (0 : Int) ≤ ((n + 1 : Nat) : Int); omega)
      rw [e2]
      exact fin_i q
  | negSucc n => exact ⟨by omega, fin_i q⟩
end Rf

namespace K4
open PySem PySem.Spec PyProof.Rows L2 Rf
def top (i : Nat) : Stmt := PySem.Challenge.pw_chordsuntold_k04_main_whole_all_small_ta.main.body.getD i (.Pass ⟨0, 0, 0, 0⟩)
section
variable {Pr : Program} {w : World} {K : Frg} {mg : Str → Option Value} {base : Heap} {xc : Nat → Addr}
def m_tupled (f : List D → Res D) : SM :=
  (sRet (mIf (bOf (mIsi (tOr tList tTuple) (mVar 0))) (mCall bTuple (aCons (asList (lcOut (bName 1) bTrue (mCall f (aCons (mVar 1) aNil)) [1] (iSeq (mVar 0)))) aNil)) (mVar 0)))
def g_tupled : Nat → List D → Res D
  | 0 => fun _ => .fail
  | n + 1 => fnM 2 (m_tupled (g_tupled n))
def f_tupled : List D → Res D := g_tupled 6
theorem sc_tupled : FnScope (["thing", "part"] : List Str) (["thing"] : List Str) (defScope (top 5)) := ⟨rfl, rfl, rfl, by decide +kernel, rfl, by decide +kernel, by decide +kernel⟩
theorem st_tupled {k : Nat} {f : List D → Res D} (D : DefIs K mg "tupled" (top 5)) (hk : 0 ≤ k) (R : DefOk Pr w K mg base xc "tupled" k ["thing"] f) (B : Bl mg) : DefOk Pr w K mg base xc "tupled" (k + 1) ["thing"] (fnM 2 (m_tupled f)) := by
  have nd : (["thing", "part"] : List Str).Nodup := sc_tupled.nd
  exact def_ok D sc_tupled (by decide) (fun _ _ _ _ _ _ us hl => match us, hl with | [_], _ => rfl) fun fa cdv A outer s H E O hr tk po => by
    have hu := room_u hr
    exact (rss_one (rs_ret (re_if (rt_val (re_isi2 isT_list isT_tuple (f := tOr tList tTuple) (fun _ => rfl) B.isinstance rfl (re_var (pv 0)) (pe_tup (pa_cons (pe_bltn rfl B.list (by decide +kernel) rfl) (pa_cons (pe_bltn rfl B.tuple (by decide +kernel) rfl) pa_nil))))) (re_callTy call_tuple_of rc_tuple rfl B.tuple (by decide +kernel) (ra_cons (re_of_new (reF_lc (own := [("part", 1)]) rfl nd (ric_of (ri_seq (re_var (pv 0)))) (blk_of (by kernel_rfl)) (bg_name 1) (by decide) (fun s H C cl fp => (pg_name (i := 1) nd rfl (Or.inl rfl))) (fun s H C cl fp => rts_nil) (fun s H C cl fp => (re_callF R hr (Nat.le_refl _) rfl takes0 (ra_cons (re_var (pv 1)) ra_nil) (aCons_len aNil_len))))) ra_nil)) (re_var (pv 0)))))
theorem gk_tupled (D : DefIs K mg "tupled" (top 5)) (B : Bl mg) : ∀ n, DefOk Pr w K mg base xc "tupled" (0 + n) ["thing"] (g_tupled n)
  | 0 => (def_base D (fun _ _ _ _ _ _ us hl => match us, hl with | [_], _ => rfl)).mono (Nat.zero_le _)
  | n + 1 => st_tupled D (Nat.le_add_right _ _) (gk_tupled D B n) B
theorem ok_tupled (D : DefIs K mg "tupled" (top 5)) (B : Bl mg) : DefOk Pr w K mg base xc "tupled" 6 ["thing"] f_tupled := gk_tupled D B 6
def m_is_number : SM :=
  (sRet (mAnd (mIsi tInt (mVar 0)) (mNot (mIsi tBool (mVar 0)))))
def f_is_number : List D → Res D := fnM 1 m_is_number
theorem sc_is_number : FnScope (["thing"] : List Str) (["thing"] : List Str) (defScope (top 6)) := ⟨rfl, rfl, rfl, by decide +kernel, rfl, by decide +kernel, by decide +kernel⟩
theorem ok_is_number (D : DefIs K mg "is_number" (top 6)) (B : Bl mg) : DefOk Pr w K mg base xc "is_number" 1 ["thing"] f_is_number := by
  have nd : (["thing"] : List Str).Nodup := sc_is_number.nd
  exact def_ok (k := 0) D sc_is_number (by decide) (fun _ _ _ _ _ _ us hl => match us, hl with | [_], _ => rfl) fun fa cdv A outer s H E O hr tk po => by
    have hu := room_u hr
    exact (rss_one (rs_ret (re_and (re_isi isT_int B.isinstance rfl (re_var (pv 0)) (pe_bltn rfl B.int (by decide +kernel) rfl)) (re_one (re_not (re_isi isT_bool B.isinstance rfl (re_var (pv 0)) (pe_bltn rfl B.bool (by decide +kernel) rfl)))))))
def m_is_count : SM :=
  (sRet (mAnd (mCall f_is_number (aCons (mVar 0) aNil)) (mOp fGe (mVar 0) (mK (.int 0)))))
def f_is_count : List D → Res D := fnM 1 m_is_count
theorem sc_is_count : FnScope (["thing"] : List Str) (["thing"] : List Str) (defScope (top 7)) := ⟨rfl, rfl, rfl, by decide +kernel, rfl, by decide +kernel, by decide +kernel⟩
theorem ok_is_count (D : DefIs K mg "is_count" (top 7)) (B : Bl mg) (D_is_number : DefOk Pr w K mg base xc "is_number" 1 ["thing"] f_is_number) : DefOk Pr w K mg base xc "is_count" 2 ["thing"] f_is_count := by
  have nd : (["thing"] : List Str).Nodup := sc_is_count.nd
  exact def_ok (k := 1) D sc_is_count (by decide) (fun _ _ _ _ _ _ us hl => match us, hl with | [_], _ => rfl) fun fa cdv A outer s H E O hr tk po => by
    have hu := room_u hr
    exact (rss_one (rs_ret (re_and (re_callF D_is_number hr (by decide) rfl tk (ra_cons (re_var (pv 0)) ra_nil) (aCons_len aNil_len)) (re_one (re_cmp op_ge r_ge rfl (re_var (pv 0)) re_int)))))
def m_is_below : SM :=
  (sRet (mAnd (mCall f_is_count (aCons (mVar 0) aNil)) (mOp fLt (mVar 0) (mVar 1))))
def f_is_below : List D → Res D := fnM 2 m_is_below
theorem sc_is_below : FnScope (["thing", "bound"] : List Str) (["thing", "bound"] : List Str) (defScope (top 8)) := ⟨rfl, rfl, rfl, by decide +kernel, rfl, by decide +kernel, by decide +kernel⟩
theorem ok_is_below (D : DefIs K mg "is_below" (top 8)) (B : Bl mg) (D_is_count : DefOk Pr w K mg base xc "is_count" 2 ["thing"] f_is_count) : DefOk Pr w K mg base xc "is_below" 3 ["thing", "bound"] f_is_below := by
  have nd : (["thing", "bound"] : List Str).Nodup := sc_is_below.nd
  exact def_ok (k := 2) D sc_is_below (by decide) (fun _ _ _ _ _ _ us hl => match us, hl with | [_, _], _ => rfl) fun fa cdv A outer s H E O hr tk po => by
    have hu := room_u hr
    exact (rss_one (rs_ret (re_and (re_callF D_is_count hr (by decide) rfl tk (ra_cons (re_var (pv 0)) ra_nil) (aCons_len aNil_len)) (re_one (re_cmp op_lt r_lt rfl (re_var (pv 0)) (re_var (pv 1)))))))
def m_is_tuple_of : SM :=
  (sRet (mAnd (mIsi tTuple (mVar 0)) (mOp fEq (mCall bLen (aCons (mVar 0) aNil)) (mVar 1))))
def f_is_tuple_of : List D → Res D := fnM 2 m_is_tuple_of
theorem sc_is_tuple_of : FnScope (["thing", "size"] : List Str) (["thing", "size"] : List Str) (defScope (top 9)) := ⟨rfl, rfl, rfl, by decide +kernel, rfl, by decide +kernel, by decide +kernel⟩
theorem ok_is_tuple_of (D : DefIs K mg "is_tuple_of" (top 9)) (B : Bl mg) : DefOk Pr w K mg base xc "is_tuple_of" 1 ["thing", "size"] f_is_tuple_of := by
  have nd : (["thing", "size"] : List Str).Nodup := sc_is_tuple_of.nd
  exact def_ok (k := 0) D sc_is_tuple_of (by decide) (fun _ _ _ _ _ _ us hl => match us, hl with | [_, _], _ => rfl) fun fa cdv A outer s H E O hr tk po => by
    have hu := room_u hr
    exact (rss_one (rs_ret (re_and (re_isi isT_tuple B.isinstance rfl (re_var (pv 0)) (pe_bltn rfl B.tuple (by decide +kernel) rfl)) (re_one (re_cmp (op_eqC hu) r_eq rfl (re_callB call_len rc_len rfl B.len (by decide +kernel) (ra_cons (re_var (pv 0)) ra_nil)) (re_var (pv 1)))))))
def m_are_numbers : SM :=
  (sRet (mAnd (mCall f_is_tuple_of (aCons (mVar 0) (aCons (mVar 1) aNil))) (mCall bAll (aCons (asList (lcOut (bName 2) bTrue (mCall f_is_number (aCons (mVar 2) aNil)) [2] (iSeq (mVar 0)))) aNil))))
def f_are_numbers : List D → Res D := fnM 3 m_are_numbers
theorem sc_are_numbers : FnScope (["thing", "size", "part"] : List Str) (["thing", "size"] : List Str) (defScope (top 10)) := ⟨rfl, rfl, rfl, by decide +kernel, rfl, by decide +kernel, by decide +kernel⟩
theorem ok_are_numbers (D : DefIs K mg "are_numbers" (top 10)) (B : Bl mg) (D_is_tuple_of : DefOk Pr w K mg base xc "is_tuple_of" 1 ["thing", "size"] f_is_tuple_of) (D_is_number : DefOk Pr w K mg base xc "is_number" 1 ["thing"] f_is_number) : DefOk Pr w K mg base xc "are_numbers" 2 ["thing", "size"] f_are_numbers := by
  have nd : (["thing", "size", "part"] : List Str).Nodup := sc_are_numbers.nd
  exact def_ok (k := 1) D sc_are_numbers (by decide) (fun _ _ _ _ _ _ us hl => match us, hl with | [_, _], _ => rfl) fun fa cdv A outer s H E O hr tk po => by
    have hu := room_u hr
    exact (rss_one (rs_ret (re_and (re_callF D_is_tuple_of hr (by decide) rfl tk (ra_cons (re_var (pv 0)) (ra_cons (re_var (pv 1)) ra_nil)) (aCons_len (aCons_len aNil_len))) (re_one (re_callB (cr_all rfl) rc_all rfl B.all (by decide +kernel) (ra_cons (re_of_new (reF_lc (own := [("part", 2)]) rfl nd (ric_of (ri_seq (re_var (pv 0)))) (blk_of (by kernel_rfl)) (bg_name 2) (by decide) (fun s H C cl fp => (pg_name (i := 2) nd rfl (Or.inl rfl))) (fun s H C cl fp => rts_nil) (fun s H C cl fp => (re_callF D_is_number hr (by decide) rfl takes0 (ra_cons (re_var (pv 2)) ra_nil) (aCons_len aNil_len))))) ra_nil))))))
def m_set_of : SM :=
  (sRet (mCall bTuple (aCons (mSortSet (mVar 0)) aNil)))
def f_set_of : List D → Res D := fnM 1 m_set_of
theorem sc_set_of : FnScope (["things"] : List Str) (["things"] : List Str) (defScope (top 11)) := ⟨rfl, rfl, rfl, by decide +kernel, rfl, by decide +kernel, by decide +kernel⟩
theorem ok_set_of (D : DefIs K mg "set_of" (top 11)) (B : Bl mg) : DefOk Pr w K mg base xc "set_of" 1 ["things"] f_set_of := by
  have nd : (["things"] : List Str).Nodup := sc_set_of.nd
  exact def_ok (k := 0) D sc_set_of (by decide) (fun _ _ _ _ _ _ us hl => match us, hl with | [_], _ => rfl) fun fa cdv A outer s H E O hr tk po => by
    have hu := room_u hr
    exact (rss_one (rs_ret (re_callTy call_tuple_of rc_tuple rfl B.tuple (by decide +kernel) (ra_cons (re_sortSet rfl hu rfl B.sorted rfl B.set (re_var (pv 0))) ra_nil))))
def m_pairs_below : SM :=
  (mSeq (sOwn 1 (nOf (nLst aNil)))
  (mSeq (sFor (iRng (aCons (mVar 0) aNil)) (bName 2) (sExt 1 (asList (lcOut (bName 3) bTrue (mTup (aCons (mVar 2) (aCons (mVar 3) aNil))) [3] (iRng (aCons (mOp fAddX (mVar 2) (mK (.int 1))) (aCons (mVar 0) aNil)))))))
  (sFrzA (sRet (mVar 1)))))
def f_pairs_below : List D → Res D := fnM 4 m_pairs_below
theorem sc_pairs_below : FnScope (["size", "found", "one", "other"] : List Str) (["size"] : List Str) (defScope (top 12)) := ⟨rfl, rfl, rfl, by decide +kernel, rfl, by decide +kernel, by decide +kernel⟩
theorem ok_pairs_below (D : DefIs K mg "pairs_below" (top 12)) (B : Bl mg) : DefOk Pr w K mg base xc "pairs_below" 1 ["size"] f_pairs_below := by
  have nd : (["size", "found", "one", "other"] : List Str).Nodup := sc_pairs_below.nd
  exact def_ok (k := 0) D sc_pairs_below (by decide) (fun _ _ _ _ _ _ us hl => match us, hl with | [_], _ => rfl) fun fa cdv A outer s H E O hr tk po => by
    have hu := room_u hr
    exact (rss_cons (rs_own (i := 1) nd rfl (Or.inl rfl) (ren_of (reF_lst ra_nil)))
  (rss_cons (rs_for po rfl (ri_range1 rfl B.range (ra_cons (re_var (pv 0)) ra_nil) (aCons_len aNil_len)) (pg_name (i := 2) nd rfl (Or.inr rfl)) (bg_name 2) (rss_one (rs_ext (pv 1) (re_of_new (reF_lc (own := [("other", 3)]) rfl nd (ric_of (ri_range2 rfl B.range (ra_cons (re_op op_addX r_addX (re_var (pv 2)) re_int) (ra_cons (re_var (pv 0)) ra_nil)) (aCons_len (aCons_len aNil_len)))) (blk_of (by kernel_rfl)) (bg_name 3) (by decide) (fun s H C cl fp => (pg_name (i := 3) nd rfl (Or.inl rfl))) (fun s H C cl fp => rts_nil) (fun s H C cl fp => (re_tup (ra_cons (re_var (pv 2)) (ra_cons (re_var (pv 3)) ra_nil)))))))))
  (rss_one (rs_frzA (rs_ret (re_var (pv 1)))))))
def m_sure_number : SM :=
  (mSeq (sIf (bNot (bOf (mCall f_is_number (aCons (mVar 0) aNil)))) (sExc 1) sNext)
  (sRet (mVar 0)))
def f_sure_number : List D → Res D := fnM 1 m_sure_number
theorem sc_sure_number : FnScope (["number"] : List Str) (["number"] : List Str) (defScope (top 13)) := ⟨rfl, rfl, rfl, by decide +kernel, rfl, by decide +kernel, by decide +kernel⟩
theorem ok_sure_number (D : DefIs K mg "sure_number" (top 13)) (B : Bl mg) (X_Unfit : Exo K mg "Unfit" (xc 1)) (D_is_number : DefOk Pr w K mg base xc "is_number" 1 ["thing"] f_is_number) : DefOk Pr w K mg base xc "sure_number" 2 ["number"] f_sure_number := by
  have nd : (["number"] : List Str).Nodup := sc_sure_number.nd
  exact def_ok (k := 1) D sc_sure_number (by decide) (fun _ _ _ _ _ _ us hl => match us, hl with | [_], _ => rfl) fun fa cdv A outer s H E O hr tk po => by
    have hu := room_u hr
    exact (rss_cons (rs_if (rt_not (rt_val (re_callF D_is_number hr (by decide) rfl tk (ra_cons (re_var (pv 0)) ra_nil) (aCons_len aNil_len)))) (rss_one (rs_raiseO (c := 1) X_Unfit rfl rfl tk)) rss_nil)
  (rss_one (rs_ret (re_var (pv 0)))))
def m_shared : SM :=
  (mSeq (sPar [2, 3] (xVal (mCall bAbs (aCons (mVar 0) aNil)) (xVal (mCall bAbs (aCons (mVar 1) aNil)) xNil)))
  (mSeq (sWhile 100 (bOf (mOp fGt (mVar 3) (mK (.int 0)))) (sPar [2, 3] (xVal (mVar 3) (xVal (mOp fModX (mVar 2) (mVar 3)) xNil))))
  (sRet (mVar 2))))
def f_shared : List D → Res D := fnM 4 m_shared
theorem sc_shared : FnScope (["one", "other", "near", "far"] : List Str) (["one", "other"] : List Str) (defScope (top 18)) := ⟨rfl, rfl, rfl, by decide +kernel, rfl, by decide +kernel, by decide +kernel⟩
theorem ok_shared (D : DefIs K mg "shared" (top 18)) (B : Bl mg) : DefOk Pr w K mg base xc "shared" 1 ["one", "other"] f_shared := by
  have nd : (["one", "other", "near", "far"] : List Str).Nodup := sc_shared.nd
  exact def_ok (k := 0) D sc_shared (by decide) (fun _ _ _ _ _ _ us hl => match us, hl with | [_, _], _ => rfl) fun fa cdv A outer s H E O hr tk po => by
    have hu := room_u hr
    exact (rss_cons (rs_par rfl nd rfl rfl (by decide) rfl rfl (rx_val (re_callB call_abs rc_abs rfl B.abs (by decide +kernel) (ra_cons (re_var (pv 0)) ra_nil)) (rx_val (re_callB call_abs rc_abs rfl B.abs (by decide +kernel) (ra_cons (re_var (pv 1)) ra_nil)) rx_nil)) rfl)
  (rss_cons (rs_while 100 po (rt_cmp op_gt r_gt rfl (re_var (pv 3)) re_int) (rss_one (rs_par rfl nd rfl rfl (by decide) rfl rfl (rx_val (re_var (pv 3)) (rx_val (re_op op_modN r_modX (re_var (pv 2)) (re_var (pv 3))) rx_nil)) rfl)))
  (rss_one (rs_ret (re_var (pv 2))))))
def m_made : SM :=
  (mSeq (sSet 2 (mCall f_shared (aCons (mVar 0) (aCons (mVar 1) aNil))))
  (mSeq (sSet 3 (mIf (bOf (mOp fGt (mVar 1) (mK (.int 0)))) (mK (.int 1)) (mUn fNeg (mK (.int 1)))))
  (sRet (mTup (aCons (mOp fDivX (mOp fMul (mVar 3) (mVar 0)) (mVar 2)) (aCons (mOp fDivX (mOp fMul (mVar 3) (mVar 1)) (mVar 2)) aNil))))))
def f_made : List D → Res D := fnM 4 m_made
theorem sc_made : FnScope (["top", "bottom", "much", "sign"] : List Str) (["top", "bottom"] : List Str) (defScope (top 19)) := ⟨rfl, rfl, rfl, by decide +kernel, rfl, by decide +kernel, by decide +kernel⟩
theorem ok_made (D : DefIs K mg "made" (top 19)) (B : Bl mg) (D_shared : DefOk Pr w K mg base xc "shared" 1 ["one", "other"] f_shared) : DefOk Pr w K mg base xc "made" 2 ["top", "bottom"] f_made := by
  have nd : (["top", "bottom", "much", "sign"] : List Str).Nodup := sc_made.nd
  exact def_ok (k := 1) D sc_made (by decide) (fun _ _ _ _ _ _ us hl => match us, hl with | [_, _], _ => rfl) fun fa cdv A outer s H E O hr tk po => by
    have hu := room_u hr
    exact (rss_cons (rs_set (i := 2) nd rfl (Or.inl rfl) (re_callF D_shared hr (by decide) rfl tk (ra_cons (re_var (pv 0)) (ra_cons (re_var (pv 1)) ra_nil)) (aCons_len (aCons_len aNil_len))))
  (rss_cons (rs_set (i := 3) nd rfl (Or.inl rfl) (re_if (rt_cmp op_gt r_gt rfl (re_var (pv 1)) re_int) re_int (re_un un_neg r_neg re_int)))
  (rss_one (rs_ret (re_tup (ra_cons (re_op op_fdivN r_divX (re_op op_mulC r_mulC (re_var (pv 3)) (re_var (pv 0))) (re_var (pv 2))) (ra_cons (re_op op_fdivN r_divX (re_op op_mulC r_mulC (re_var (pv 3)) (re_var (pv 1))) (re_var (pv 2))) ra_nil)))))))
def m_is_fraction : SM :=
  (sRet (mAnd (mCall f_are_numbers (aCons (mVar 0) (aCons (mK (.int 2)) aNil))) (mAnd (mOp fGt (mOp fIx (mVar 0) (mK (.int 1))) (mK (.int 0))) (mOp fEq (mCall f_shared (aCons (mOp fIx (mVar 0) (mK (.int 0))) (aCons (mOp fIx (mVar 0) (mK (.int 1))) aNil))) (mK (.int 1))))))
def f_is_fraction : List D → Res D := fnM 1 m_is_fraction
theorem sc_is_fraction : FnScope (["thing"] : List Str) (["thing"] : List Str) (defScope (top 20)) := ⟨rfl, rfl, rfl, by decide +kernel, rfl, by decide +kernel, by decide +kernel⟩
theorem ok_is_fraction (D : DefIs K mg "is_fraction" (top 20)) (B : Bl mg) {t_PAIR : Tok} (h_PAIR : mg "PAIR" = some (.int 2 t_PAIR)) (D_are_numbers : DefOk Pr w K mg base xc "are_numbers" 2 ["thing", "size"] f_are_numbers) (D_shared : DefOk Pr w K mg base xc "shared" 1 ["one", "other"] f_shared) : DefOk Pr w K mg base xc "is_fraction" 3 ["thing"] f_is_fraction := by
  have nd : (["thing"] : List Str).Nodup := sc_is_fraction.nd
  exact def_ok (k := 2) D sc_is_fraction (by decide) (fun _ _ _ _ _ _ us hl => match us, hl with | [_], _ => rfl) fun fa cdv A outer s H E O hr tk po => by
    have hu := room_u hr
    exact (rss_one (rs_ret (re_and (re_callF D_are_numbers hr (by decide) rfl tk (ra_cons (re_var (pv 0)) (ra_cons (re_globI rfl h_PAIR) ra_nil)) (aCons_len (aCons_len aNil_len))) (re_and (re_cmp op_gt r_gt rfl (re_ix (re_var (pv 0)) re_int (fun _ _ => rfl)) re_int) (re_one (re_cmp (op_eqC hu) r_eq rfl (re_callF D_shared hr (by decide) rfl tk (ra_cons (re_ix (re_var (pv 0)) re_int (fun _ _ => rfl)) (ra_cons (re_ix (re_var (pv 0)) re_int (fun _ _ => rfl)) ra_nil)) (aCons_len (aCons_len aNil_len))) re_int))))))
def m_add : SM :=
  (sRet (mCall f_made (aCons (mOp fAddX (mOp fMul (mOp fIx (mVar 0) (mK (.int 0))) (mOp fIx (mVar 1) (mK (.int 1)))) (mOp fMul (mOp fIx (mVar 1) (mK (.int 0))) (mOp fIx (mVar 0) (mK (.int 1))))) (aCons (mOp fMul (mOp fIx (mVar 0) (mK (.int 1))) (mOp fIx (mVar 1) (mK (.int 1)))) aNil))))
def f_add : List D → Res D := fnM 2 m_add
theorem sc_add : FnScope (["one", "other"] : List Str) (["one", "other"] : List Str) (defScope (top 21)) := ⟨rfl, rfl, rfl, by decide +kernel, rfl, by decide +kernel, by decide +kernel⟩
theorem ok_add (D : DefIs K mg "add" (top 21)) (B : Bl mg) (D_made : DefOk Pr w K mg base xc "made" 2 ["top", "bottom"] f_made) : DefOk Pr w K mg base xc "add" 3 ["one", "other"] f_add := by
  have nd : (["one", "other"] : List Str).Nodup := sc_add.nd
  exact def_ok (k := 2) D sc_add (by decide) (fun _ _ _ _ _ _ us hl => match us, hl with | [_, _], _ => rfl) fun fa cdv A outer s H E O hr tk po => by
    have hu := room_u hr
    exact (rss_one (rs_ret (re_callF D_made hr (by decide) rfl tk (ra_cons (re_op op_addX r_addX (re_op op_mulC r_mulC (re_ix (re_var (pv 0)) re_int (fun _ _ => rfl)) (re_ix (re_var (pv 1)) re_int (fun _ _ => rfl))) (re_op op_mulC r_mulC (re_ix (re_var (pv 1)) re_int (fun _ _ => rfl)) (re_ix (re_var (pv 0)) re_int (fun _ _ => rfl)))) (ra_cons (re_op op_mulC r_mulC (re_ix (re_var (pv 0)) re_int (fun _ _ => rfl)) (re_ix (re_var (pv 1)) re_int (fun _ _ => rfl))) ra_nil)) (aCons_len (aCons_len aNil_len)))))
def m_take : SM :=
  (sRet (mCall f_made (aCons (mOp fSub (mOp fMul (mOp fIx (mVar 0) (mK (.int 0))) (mOp fIx (mVar 1) (mK (.int 1)))) (mOp fMul (mOp fIx (mVar 1) (mK (.int 0))) (mOp fIx (mVar 0) (mK (.int 1))))) (aCons (mOp fMul (mOp fIx (mVar 0) (mK (.int 1))) (mOp fIx (mVar 1) (mK (.int 1)))) aNil))))
def f_take : List D → Res D := fnM 2 m_take
theorem sc_take : FnScope (["one", "other"] : List Str) (["one", "other"] : List Str) (defScope (top 22)) := ⟨rfl, rfl, rfl, by decide +kernel, rfl, by decide +kernel, by decide +kernel⟩
theorem ok_take (D : DefIs K mg "take" (top 22)) (B : Bl mg) (D_made : DefOk Pr w K mg base xc "made" 2 ["top", "bottom"] f_made) : DefOk Pr w K mg base xc "take" 3 ["one", "other"] f_take := by
  have nd : (["one", "other"] : List Str).Nodup := sc_take.nd
  exact def_ok (k := 2) D sc_take (by decide) (fun _ _ _ _ _ _ us hl => match us, hl with | [_, _], _ => rfl) fun fa cdv A outer s H E O hr tk po => by
    have hu := room_u hr
    exact (rss_one (rs_ret (re_callF D_made hr (by decide) rfl tk (ra_cons (re_op op_sub r_sub (re_op op_mulC r_mulC (re_ix (re_var (pv 0)) re_int (fun _ _ => rfl)) (re_ix (re_var (pv 1)) re_int (fun _ _ => rfl))) (re_op op_mulC r_mulC (re_ix (re_var (pv 1)) re_int (fun _ _ => rfl)) (re_ix (re_var (pv 0)) re_int (fun _ _ => rfl)))) (ra_cons (re_op op_mulC r_mulC (re_ix (re_var (pv 0)) re_int (fun _ _ => rfl)) (re_ix (re_var (pv 1)) re_int (fun _ _ => rfl))) ra_nil)) (aCons_len (aCons_len aNil_len)))))
def m_multiply : SM :=
  (sRet (mCall f_made (aCons (mOp fMul (mOp fIx (mVar 0) (mK (.int 0))) (mOp fIx (mVar 1) (mK (.int 0)))) (aCons (mOp fMul (mOp fIx (mVar 0) (mK (.int 1))) (mOp fIx (mVar 1) (mK (.int 1)))) aNil))))
def f_multiply : List D → Res D := fnM 2 m_multiply
theorem sc_multiply : FnScope (["one", "other"] : List Str) (["one", "other"] : List Str) (defScope (top 23)) := ⟨rfl, rfl, rfl, by decide +kernel, rfl, by decide +kernel, by decide +kernel⟩
theorem ok_multiply (D : DefIs K mg "multiply" (top 23)) (B : Bl mg) (D_made : DefOk Pr w K mg base xc "made" 2 ["top", "bottom"] f_made) : DefOk Pr w K mg base xc "multiply" 3 ["one", "other"] f_multiply := by
  have nd : (["one", "other"] : List Str).Nodup := sc_multiply.nd
  exact def_ok (k := 2) D sc_multiply (by decide) (fun _ _ _ _ _ _ us hl => match us, hl with | [_, _], _ => rfl) fun fa cdv A outer s H E O hr tk po => by
    have hu := room_u hr
    exact (rss_one (rs_ret (re_callF D_made hr (by decide) rfl tk (ra_cons (re_op op_mulC r_mulC (re_ix (re_var (pv 0)) re_int (fun _ _ => rfl)) (re_ix (re_var (pv 1)) re_int (fun _ _ => rfl))) (ra_cons (re_op op_mulC r_mulC (re_ix (re_var (pv 0)) re_int (fun _ _ => rfl)) (re_ix (re_var (pv 1)) re_int (fun _ _ => rfl))) ra_nil)) (aCons_len (aCons_len aNil_len)))))
def m_divide : SM :=
  (sRet (mCall f_made (aCons (mOp fMul (mOp fIx (mVar 0) (mK (.int 0))) (mOp fIx (mVar 1) (mK (.int 1)))) (aCons (mOp fMul (mOp fIx (mVar 0) (mK (.int 1))) (mOp fIx (mVar 1) (mK (.int 0)))) aNil))))
def f_divide : List D → Res D := fnM 2 m_divide
theorem sc_divide : FnScope (["one", "other"] : List Str) (["one", "other"] : List Str) (defScope (top 24)) := ⟨rfl, rfl, rfl, by decide +kernel, rfl, by decide +kernel, by decide +kernel⟩
theorem ok_divide (D : DefIs K mg "divide" (top 24)) (B : Bl mg) (D_made : DefOk Pr w K mg base xc "made" 2 ["top", "bottom"] f_made) : DefOk Pr w K mg base xc "divide" 3 ["one", "other"] f_divide := by
  have nd : (["one", "other"] : List Str).Nodup := sc_divide.nd
  exact def_ok (k := 2) D sc_divide (by decide) (fun _ _ _ _ _ _ us hl => match us, hl with | [_, _], _ => rfl) fun fa cdv A outer s H E O hr tk po => by
    have hu := room_u hr
    exact (rss_one (rs_ret (re_callF D_made hr (by decide) rfl tk (ra_cons (re_op op_mulC r_mulC (re_ix (re_var (pv 0)) re_int (fun _ _ => rfl)) (re_ix (re_var (pv 1)) re_int (fun _ _ => rfl))) (ra_cons (re_op op_mulC r_mulC (re_ix (re_var (pv 0)) re_int (fun _ _ => rfl)) (re_ix (re_var (pv 1)) re_int (fun _ _ => rfl))) ra_nil)) (aCons_len (aCons_len aNil_len)))))
def m_opposite : SM :=
  (sRet (mTup (aCons (mUn fNeg (mOp fIx (mVar 0) (mK (.int 0)))) (aCons (mOp fIx (mVar 0) (mK (.int 1))) aNil))))
def f_opposite : List D → Res D := fnM 1 m_opposite
theorem sc_opposite : FnScope (["number"] : List Str) (["number"] : List Str) (defScope (top 25)) := ⟨rfl, rfl, rfl, by decide +kernel, rfl, by decide +kernel, by decide +kernel⟩
theorem ok_opposite (D : DefIs K mg "opposite" (top 25)) (B : Bl mg) : DefOk Pr w K mg base xc "opposite" 1 ["number"] f_opposite := by
  have nd : (["number"] : List Str).Nodup := sc_opposite.nd
  exact def_ok (k := 0) D sc_opposite (by decide) (fun _ _ _ _ _ _ us hl => match us, hl with | [_], _ => rfl) fun fa cdv A outer s H E O hr tk po => by
    have hu := room_u hr
    exact (rss_one (rs_ret (re_tup (ra_cons (re_un un_neg r_neg (re_ix (re_var (pv 0)) re_int (fun _ _ => rfl))) (ra_cons (re_ix (re_var (pv 0)) re_int (fun _ _ => rfl)) ra_nil)))))
def m_no_more : SM :=
  (sRet (mOp fLe (mOp fMul (mOp fIx (mVar 0) (mK (.int 0))) (mOp fIx (mVar 1) (mK (.int 1)))) (mOp fMul (mOp fIx (mVar 1) (mK (.int 0))) (mOp fIx (mVar 0) (mK (.int 1))))))
def f_no_more : List D → Res D := fnM 2 m_no_more
theorem sc_no_more : FnScope (["one", "other"] : List Str) (["one", "other"] : List Str) (defScope (top 26)) := ⟨rfl, rfl, rfl, by decide +kernel, rfl, by decide +kernel, by decide +kernel⟩
theorem ok_no_more (D : DefIs K mg "no_more" (top 26)) (B : Bl mg) : DefOk Pr w K mg base xc "no_more" 1 ["one", "other"] f_no_more := by
  have nd : (["one", "other"] : List Str).Nodup := sc_no_more.nd
  exact def_ok (k := 0) D sc_no_more (by decide) (fun _ _ _ _ _ _ us hl => match us, hl with | [_, _], _ => rfl) fun fa cdv A outer s H E O hr tk po => by
    have hu := room_u hr
    exact (rss_one (rs_ret (re_cmp op_le r_le rfl (re_op op_mulC r_mulC (re_ix (re_var (pv 0)) re_int (fun _ _ => rfl)) (re_ix (re_var (pv 1)) re_int (fun _ _ => rfl))) (re_op op_mulC r_mulC (re_ix (re_var (pv 1)) re_int (fun _ _ => rfl)) (re_ix (re_var (pv 0)) re_int (fun _ _ => rfl))))))
def m_total : SM :=
  (mSeq (sSet 1 (mK (.tuple [.int 0, .int 1])))
  (mSeq (sFor (iSeq (mVar 0)) (bName 2) (sSet 1 (mCall f_add (aCons (mVar 1) (aCons (mVar 2) aNil)))))
  (sRet (mVar 1))))
def f_total : List D → Res D := fnM 3 m_total
theorem sc_total : FnScope (["fractions", "found", "number"] : List Str) (["fractions"] : List Str) (defScope (top 27)) := ⟨rfl, rfl, rfl, by decide +kernel, rfl, by decide +kernel, by decide +kernel⟩
theorem ok_total (D : DefIs K mg "total" (top 27)) (B : Bl mg) (h_NIL : Pr2 K mg "NIL" 0 1) (D_add : DefOk Pr w K mg base xc "add" 3 ["one", "other"] f_add) : DefOk Pr w K mg base xc "total" 4 ["fractions"] f_total := by
  have nd : (["fractions", "found", "number"] : List Str).Nodup := sc_total.nd
  exact def_ok (k := 3) D sc_total (by decide) (fun _ _ _ _ _ _ us hl => match us, hl with | [_], _ => rfl) fun fa cdv A outer s H E O hr tk po => by
    have hu := room_u hr
    exact (rss_cons (rs_set (i := 1) nd rfl (Or.inl rfl) (re_pr2 rfl h_NIL))
  (rss_cons (rs_for po rfl (ri_seq (re_var (pv 0))) (pg_name (i := 2) nd rfl (Or.inl rfl)) (bg_name 2) (rss_one (rs_set (i := 1) nd rfl (Or.inl rfl) (re_callF D_add hr (by decide) rfl tk (ra_cons (re_var (pv 1)) (ra_cons (re_var (pv 2)) ra_nil)) (aCons_len (aCons_len aNil_len))))))
  (rss_one (rs_ret (re_var (pv 1))))))
def m_both : SM :=
  (sRet (mCall f_total (aCons (asList (lcOut (bTup 2 (bCons (bName 2) (bCons (bName 3) bNil))) bTrue (mCall f_multiply (aCons (mVar 2) (aCons (mVar 3) aNil))) [2, 3] (iZp (aCons (mVar 0) (aCons (mVar 1) aNil))))) aNil)))
def f_both : List D → Res D := fnM 4 m_both
theorem sc_both : FnScope (["one", "other", "near", "far"] : List Str) (["one", "other"] : List Str) (defScope (top 28)) := ⟨rfl, rfl, rfl, by decide +kernel, rfl, by decide +kernel, by decide +kernel⟩
theorem ok_both (D : DefIs K mg "both" (top 28)) (B : Bl mg) (D_total : DefOk Pr w K mg base xc "total" 4 ["fractions"] f_total) (D_multiply : DefOk Pr w K mg base xc "multiply" 3 ["one", "other"] f_multiply) : DefOk Pr w K mg base xc "both" 5 ["one", "other"] f_both := by
  have nd : (["one", "other", "near", "far"] : List Str).Nodup := sc_both.nd
  exact def_ok (k := 4) D sc_both (by decide) (fun _ _ _ _ _ _ us hl => match us, hl with | [_, _], _ => rfl) fun fa cdv A outer s H E O hr tk po => by
    have hu := room_u hr
    exact (rss_one (rs_ret (re_callF D_total hr (by decide) rfl tk (ra_cons (re_of_new (reF_lc (own := [("near", 2), ("far", 3)]) rfl nd (ric_of (ri_zip rfl B.zip (ra_cons (re_var (pv 0)) (ra_cons (re_var (pv 1)) ra_nil)))) (blk_of (by kernel_rfl)) (bg_tup (n := 2) (bgs_cons (bg_name 2) (bgs_cons (bg_name 3) bgs_nil))) (by decide) (fun s H C cl fp => (pg_tup (n := 2) rfl (pgs_cons (pg_name (i := 2) nd rfl (Or.inl rfl)) (pgs_cons (pg_name (i := 3) nd rfl (Or.inl rfl)) pgs_nil)))) (fun s H C cl fp => rts_nil) (fun s H C cl fp => (re_callF D_multiply hr (by decide) rfl takes0 (ra_cons (re_var (pv 2)) (ra_cons (re_var (pv 3)) ra_nil)) (aCons_len (aCons_len aNil_len)))))) ra_nil) (aCons_len aNil_len))))
def m_whole_of : SM :=
  (mSeq (sSet 1 (mK (.int 1)))
  (mSeq (sFor (iSeq (mVar 0)) (bName 2) (sSet 1 (mOp fDivX (mOp fMul (mVar 1) (mOp fIx (mVar 2) (mK (.int 1)))) (mCall f_shared (aCons (mVar 1) (aCons (mOp fIx (mVar 2) (mK (.int 1))) aNil))))))
  (mSeq (sSet 3 (asList (lcOut (bName 2) bTrue (mOp fMul (mOp fIx (mVar 2) (mK (.int 0))) (mOp fDivX (mVar 1) (mOp fIx (mVar 2) (mK (.int 1))))) [2] (iSeq (mVar 0)))))
  (mSeq (sSet 4 (mK (.int 0)))
  (mSeq (sFor (iSeq (mVar 3)) (bName 2) (sSet 4 (mCall f_shared (aCons (mVar 4) (aCons (mVar 2) aNil)))))
  (sRet (mCall bTuple (aCons (asList (lcOut (bName 2) bTrue (mIf (bOf (mOp fGt (mVar 4) (mK (.int 0)))) (mOp fDivX (mVar 2) (mVar 4)) (mK (.int 0))) [2] (iSeq (mVar 3)))) aNil))))))))
def f_whole_of : List D → Res D := fnM 5 m_whole_of
theorem sc_whole_of : FnScope (["row", "bottom", "number", "numbers", "much"] : List Str) (["row"] : List Str) (defScope (top 29)) := ⟨rfl, rfl, rfl, by decide +kernel, rfl, by decide +kernel, by decide +kernel⟩
theorem ok_whole_of (D : DefIs K mg "whole_of" (top 29)) (B : Bl mg) (D_shared : DefOk Pr w K mg base xc "shared" 1 ["one", "other"] f_shared) : DefOk Pr w K mg base xc "whole_of" 2 ["row"] f_whole_of := by
  have nd : (["row", "bottom", "number", "numbers", "much"] : List Str).Nodup := sc_whole_of.nd
  exact def_ok (k := 1) D sc_whole_of (by decide) (fun _ _ _ _ _ _ us hl => match us, hl with | [_], _ => rfl) fun fa cdv A outer s H E O hr tk po => by
    have hu := room_u hr
    exact (rss_cons (rs_set (i := 1) nd rfl (Or.inr rfl) re_int)
  (rss_cons (rs_for po rfl (ri_seq (re_var (pv 0))) (pg_name (i := 2) nd rfl (Or.inl rfl)) (bg_name 2) (rss_one (rs_set (i := 1) nd rfl (Or.inr rfl) (re_op op_fdivN r_divX (re_op op_mulC r_mulC (re_var (pv 1)) (re_ix (re_var (pv 2)) re_int (fun _ _ => rfl))) (re_callF D_shared hr (by decide) rfl tk (ra_cons (re_var (pv 1)) (ra_cons (re_ix (re_var (pv 2)) re_int (fun _ _ => rfl)) ra_nil)) (aCons_len (aCons_len aNil_len)))))))
  (rss_cons (rs_lc_V (own := [("number", 2)]) rfl nd rfl rfl rfl rfl rfl (ric_of (ri_seq (re_var (pv 0)))) (blk_of (by kernel_rfl)) (bg_name 2) (by decide) (fun s H C cl fp => (pg_name (i := 2) nd rfl (Or.inl rfl))) (fun s H C cl fp => rts_nil) (fun s H C cl fp => (re_op op_mulC r_mulC (re_ix (re_var (pv 2)) re_int (fun _ _ => rfl)) (re_op op_fdivN r_divX (re_var (pv 1)) (re_ix (re_var (pv 2)) re_int (fun _ _ => rfl))))))
  (rss_cons (rs_set (i := 4) nd rfl (Or.inr rfl) re_int)
  (rss_cons (rs_for po rfl (ri_seq (re_var (pv 3))) (pg_name (i := 2) nd rfl (Or.inl rfl)) (bg_name 2) (rss_one (rs_set (i := 4) nd rfl (Or.inr rfl) (re_callF D_shared hr (by decide) rfl tk (ra_cons (re_var (pv 4)) (ra_cons (re_var (pv 2)) ra_nil)) (aCons_len (aCons_len aNil_len))))))
  (rss_one (rs_ret (re_callTy call_tuple_of rc_tuple rfl B.tuple (by decide +kernel) (ra_cons (re_of_new (reF_lc (own := [("number", 2)]) rfl nd (ric_of (ri_seq (re_var (pv 3)))) (blk_of (by kernel_rfl)) (bg_name 2) (by decide) (fun s H C cl fp => (pg_name (i := 2) nd rfl (Or.inl rfl))) (fun s H C cl fp => rts_nil) (fun s H C cl fp => (re_if (rt_cmp op_gt r_gt rfl (re_var (pv 4)) re_int) (re_op op_fdivN r_divX (re_var (pv 2)) (re_var (pv 4))) re_int)))) ra_nil)))))))))
def m_is_told_part : SM :=
  (sRet (mOr (mAnd (mOp fIs (mVar 0) (mK .none)) (mOp fIs (mVar 1) (mK .none))) (mAnd (mCall f_is_fraction (aCons (mVar 0) aNil)) (mCall f_is_fraction (aCons (mVar 1) aNil)))))
def f_is_told_part : List D → Res D := fnM 2 m_is_told_part
theorem sc_is_told_part : FnScope (["one", "other"] : List Str) (["one", "other"] : List Str) (defScope (top 32)) := ⟨rfl, rfl, rfl, by decide +kernel, rfl, by decide +kernel, by decide +kernel⟩
theorem ok_is_told_part (D : DefIs K mg "is_told_part" (top 32)) (B : Bl mg) (D_is_fraction : DefOk Pr w K mg base xc "is_fraction" 3 ["thing"] f_is_fraction) : DefOk Pr w K mg base xc "is_told_part" 4 ["one", "other"] f_is_told_part := by
  have nd : (["one", "other"] : List Str).Nodup := sc_is_told_part.nd
  exact def_ok (k := 3) D sc_is_told_part (by decide) (fun _ _ _ _ _ _ us hl => match us, hl with | [_, _], _ => rfl) fun fa cdv A outer s H E O hr tk po => by
    have hu := room_u hr
    exact (rss_one (rs_ret (re_or (re_and (re_cmp op_isN r_is rfl (re_var (pv 0)) re_non) (re_one (re_cmp op_isN r_is rfl (re_var (pv 1)) re_non))) (re_one (re_and (re_callF D_is_fraction hr (by decide) rfl tk (ra_cons (re_var (pv 0)) ra_nil) (aCons_len aNil_len)) (re_one (re_callF D_is_fraction hr (by decide) rfl tk (ra_cons (re_var (pv 1)) ra_nil) (aCons_len aNil_len))))))))
def m_is_told : SM :=
  (mSeq (sIf (bOr (bNot (bOf (mIsi tTuple (mVar 0)))) (bOr (bOf (mOp fEq (mVar 0) (mTup aNil))) (bNot (bOf (mCall bAll (aCons (asList (lcOut (bName 2) bTrue (mCall f_is_tuple_of (aCons (mVar 2) (aCons (mCall bLen (aCons (mVar 0) aNil)) aNil))) [2] (iSeq (mVar 0)))) aNil)))))) (sRet (mK (.bool false))) sNext)
  (mSeq (sIf (bNot (bOf (mCall bAll (aCons (asList (lcOut (bName 3) bTrue (mCall f_is_fraction (aCons (mOp fIx (mOp fIx (mVar 0) (mVar 3)) (mVar 3)) aNil)) [3] (iRng (aCons (mCall bLen (aCons (mVar 0) aNil)) aNil)))) aNil)))) (sRet (mK (.bool false))) sNext)
  (mSeq (sSet 1 (mCall f_pairs_below (aCons (mCall bLen (aCons (mVar 0) aNil)) aNil)))
  (sRet (mCall bAll (aCons (asList (lcOut (bTup 2 (bCons (bName 3) (bCons (bName 4) bNil))) bTrue (mAnd (mOp fEq (mOp fIx (mOp fIx (mVar 0) (mVar 3)) (mVar 4)) (mOp fIx (mOp fIx (mVar 0) (mVar 4)) (mVar 3))) (mCall f_is_told_part (aCons (mOp fIx (mOp fIx (mVar 0) (mVar 3)) (mVar 4)) (aCons (mOp fIx (mOp fIx (mVar 0) (mVar 4)) (mVar 3)) aNil)))) [3, 4] (iSeq (mVar 1)))) aNil))))))
def f_is_told : List D → Res D := fnM 5 m_is_told
theorem sc_is_told : FnScope (["thing", "spots", "row", "k", "j"] : List Str) (["thing"] : List Str) (defScope (top 31)) := ⟨rfl, rfl, rfl, by decide +kernel, rfl, by decide +kernel, by decide +kernel⟩
theorem ok_is_told (D : DefIs K mg "is_told" (top 31)) (B : Bl mg) (D_is_tuple_of : DefOk Pr w K mg base xc "is_tuple_of" 1 ["thing", "size"] f_is_tuple_of) (D_is_fraction : DefOk Pr w K mg base xc "is_fraction" 3 ["thing"] f_is_fraction) (D_pairs_below : DefOk Pr w K mg base xc "pairs_below" 1 ["size"] f_pairs_below) (D_is_told_part : DefOk Pr w K mg base xc "is_told_part" 4 ["one", "other"] f_is_told_part) : DefOk Pr w K mg base xc "is_told" 5 ["thing"] f_is_told := by
  have nd : (["thing", "spots", "row", "k", "j"] : List Str).Nodup := sc_is_told.nd
  exact def_ok (k := 4) D sc_is_told (by decide) (fun _ _ _ _ _ _ us hl => match us, hl with | [_], _ => rfl) fun fa cdv A outer s H E O hr tk po => by
    have hu := room_u hr
    exact (rss_cons (rs_if (rt_bop (rw_or (rt_not (rt_val (re_isi isT_tuple B.isinstance rfl (re_var (pv 0)) (pe_bltn rfl B.tuple (by decide +kernel) rfl)))) (rw_or (rt_cmp (op_eqC hu) r_eq rfl (re_var (pv 0)) (re_tup ra_nil)) (rw_or1 (rt_not (rt_val (re_callB (cr_all rfl) rc_all rfl B.all (by decide +kernel) (ra_cons (re_of_new (reF_lc (own := [("row", 2)]) rfl nd (ric_of (ri_seq (re_var (pv 0)))) (blk_of (by kernel_rfl)) (bg_name 2) (by decide) (fun s H C cl fp => (pg_name (i := 2) nd rfl (Or.inl rfl))) (fun s H C cl fp => rts_nil) (fun s H C cl fp => (re_callF D_is_tuple_of hr (by decide) rfl takes0 (ra_cons (re_var (pv 2)) (ra_cons (re_callB call_len rc_len rfl B.len (by decide +kernel) (ra_cons (re_var (pv 0)) ra_nil)) ra_nil)) (aCons_len (aCons_len aNil_len)))))) ra_nil)))))))) (rss_one (rs_ret re_bl)) rss_nil)
  (rss_cons (rs_if (rt_not (rt_val (re_callB (cr_all rfl) rc_all rfl B.all (by decide +kernel) (ra_cons (re_of_new (reF_lc (own := [("k", 3)]) rfl nd (ric_of (ri_range1 rfl B.range (ra_cons (re_callB call_len rc_len rfl B.len (by decide +kernel) (ra_cons (re_var (pv 0)) ra_nil)) ra_nil) (aCons_len aNil_len))) (blk_of (by kernel_rfl)) (bg_name 3) (by decide) (fun s H C cl fp => (pg_name (i := 3) nd rfl (Or.inl rfl))) (fun s H C cl fp => rts_nil) (fun s H C cl fp => (re_callF D_is_fraction hr (by decide) rfl takes0 (ra_cons (re_ix (re_ix (re_var (pv 0)) (re_var (pv 3)) (fun _ _ => rfl)) (re_var (pv 3)) (fun _ _ => rfl)) ra_nil) (aCons_len aNil_len))))) ra_nil)))) (rss_one (rs_ret re_bl)) rss_nil)
  (rss_cons (rs_set (i := 1) nd rfl (Or.inl rfl) (re_callF D_pairs_below hr (by decide) rfl tk (ra_cons (re_callB call_len rc_len rfl B.len (by decide +kernel) (ra_cons (re_var (pv 0)) ra_nil)) ra_nil) (aCons_len aNil_len)))
  (rss_one (rs_ret (re_callB (cr_all rfl) rc_all rfl B.all (by decide +kernel) (ra_cons (re_of_new (reF_lc (own := [("k", 3), ("j", 4)]) rfl nd (ric_of (ri_seq (re_var (pv 1)))) (blk_of (by kernel_rfl)) (bg_tup (n := 2) (bgs_cons (bg_name 3) (bgs_cons (bg_name 4) bgs_nil))) (by decide) (fun s H C cl fp => (pg_tup (n := 2) rfl (pgs_cons (pg_name (i := 3) nd rfl (Or.inl rfl)) (pgs_cons (pg_name (i := 4) nd rfl (Or.inl rfl)) pgs_nil)))) (fun s H C cl fp => rts_nil) (fun s H C cl fp => (re_and (re_cmp (op_eqC hu) r_eq rfl (re_ix (re_ix (re_var (pv 0)) (re_var (pv 3)) (fun _ _ => rfl)) (re_var (pv 4)) (fun _ _ => rfl)) (re_ix (re_ix (re_var (pv 0)) (re_var (pv 4)) (fun _ _ => rfl)) (re_var (pv 3)) (fun _ _ => rfl))) (re_one (re_callF D_is_told_part hr (by decide) rfl takes0 (ra_cons (re_ix (re_ix (re_var (pv 0)) (re_var (pv 3)) (fun _ _ => rfl)) (re_var (pv 4)) (fun _ _ => rfl)) (ra_cons (re_ix (re_ix (re_var (pv 0)) (re_var (pv 4)) (fun _ _ => rfl)) (re_var (pv 3)) (fun _ _ => rfl)) ra_nil)) (aCons_len (aCons_len aNil_len)))))))) ra_nil)))))))
def m_is_table : SM :=
  (sRet (mAnd (mCall f_is_told (aCons (mVar 0) aNil)) (mCall bAll (aCons (asList (lcOut (bName 1) bTrue (mOp (fIn true) (mK .none) (mVar 1)) [1] (iSeq (mVar 0)))) aNil))))
def f_is_table : List D → Res D := fnM 2 m_is_table
theorem sc_is_table : FnScope (["thing", "row"] : List Str) (["thing"] : List Str) (defScope (top 33)) := ⟨rfl, rfl, rfl, by decide +kernel, rfl, by decide +kernel, by decide +kernel⟩
theorem ok_is_table (D : DefIs K mg "is_table" (top 33)) (B : Bl mg) (D_is_told : DefOk Pr w K mg base xc "is_told" 5 ["thing"] f_is_told) : DefOk Pr w K mg base xc "is_table" 6 ["thing"] f_is_table := by
  have nd : (["thing", "row"] : List Str).Nodup := sc_is_table.nd
  exact def_ok (k := 5) D sc_is_table (by decide) (fun _ _ _ _ _ _ us hl => match us, hl with | [_], _ => rfl) fun fa cdv A outer s H E O hr tk po => by
    have hu := room_u hr
    exact (rss_one (rs_ret (re_and (re_callF D_is_told hr (by decide) rfl tk (ra_cons (re_var (pv 0)) ra_nil) (aCons_len aNil_len)) (re_one (re_callB (cr_all rfl) rc_all rfl B.all (by decide +kernel) (ra_cons (re_of_new (reF_lc (own := [("row", 1)]) rfl nd (ric_of (ri_seq (re_var (pv 0)))) (blk_of (by kernel_rfl)) (bg_name 1) (by decide) (fun s H C cl fp => (pg_name (i := 1) nd rfl (Or.inl rfl))) (fun s H C cl fp => rts_nil) (fun s H C cl fp => (re_cmp (op_notInC hu) (r_in true) rfl re_non (re_var (pv 1)))))) ra_nil))))))
def m_sure_told : SM :=
  (mSeq (sSet 1 (mCall f_tupled (aCons (mVar 0) aNil)))
  (mSeq (sIf (bNot (bOf (mCall f_is_told (aCons (mVar 1) aNil)))) (sExc 1) sNext)
  (sRet (mVar 1))))
def f_sure_told : List D → Res D := fnM 2 m_sure_told
theorem sc_sure_told : FnScope (["told", "own"] : List Str) (["told"] : List Str) (defScope (top 34)) := ⟨rfl, rfl, rfl, by decide +kernel, rfl, by decide +kernel, by decide +kernel⟩
theorem ok_sure_told (D : DefIs K mg "sure_told" (top 34)) (B : Bl mg) (X_Unfit : Exo K mg "Unfit" (xc 1)) (D_tupled : DefOk Pr w K mg base xc "tupled" 6 ["thing"] f_tupled) (D_is_told : DefOk Pr w K mg base xc "is_told" 5 ["thing"] f_is_told) : DefOk Pr w K mg base xc "sure_told" 7 ["told"] f_sure_told := by
  have nd : (["told", "own"] : List Str).Nodup := sc_sure_told.nd
  exact def_ok (k := 6) D sc_sure_told (by decide) (fun _ _ _ _ _ _ us hl => match us, hl with | [_], _ => rfl) fun fa cdv A outer s H E O hr tk po => by
    have hu := room_u hr
    exact (rss_cons (rs_set (i := 1) nd rfl (Or.inl rfl) (re_callF D_tupled hr (by decide) rfl tk (ra_cons (re_var (pv 0)) ra_nil) (aCons_len aNil_len)))
  (rss_cons (rs_if (rt_not (rt_val (re_callF D_is_told hr (by decide) rfl tk (ra_cons (re_var (pv 1)) ra_nil) (aCons_len aNil_len)))) (rss_one (rs_raiseO (c := 1) X_Unfit rfl rfl tk)) rss_nil)
  (rss_one (rs_ret (re_var (pv 1))))))
def m_sure_table : SM :=
  (mSeq (sSet 1 (mCall f_tupled (aCons (mVar 0) aNil)))
  (mSeq (sIf (bNot (bOf (mCall f_is_table (aCons (mVar 1) aNil)))) (sExc 1) sNext)
  (sRet (mVar 1))))
def f_sure_table : List D → Res D := fnM 2 m_sure_table
theorem sc_sure_table : FnScope (["table", "own"] : List Str) (["table"] : List Str) (defScope (top 35)) := ⟨rfl, rfl, rfl, by decide +kernel, rfl, by decide +kernel, by decide +kernel⟩
theorem ok_sure_table (D : DefIs K mg "sure_table" (top 35)) (B : Bl mg) (X_Unfit : Exo K mg "Unfit" (xc 1)) (D_tupled : DefOk Pr w K mg base xc "tupled" 6 ["thing"] f_tupled) (D_is_table : DefOk Pr w K mg base xc "is_table" 6 ["thing"] f_is_table) : DefOk Pr w K mg base xc "sure_table" 7 ["table"] f_sure_table := by
  have nd : (["table", "own"] : List Str).Nodup := sc_sure_table.nd
  exact def_ok (k := 6) D sc_sure_table (by decide) (fun _ _ _ _ _ _ us hl => match us, hl with | [_], _ => rfl) fun fa cdv A outer s H E O hr tk po => by
    have hu := room_u hr
    exact (rss_cons (rs_set (i := 1) nd rfl (Or.inl rfl) (re_callF D_tupled hr (by decide) rfl tk (ra_cons (re_var (pv 0)) ra_nil) (aCons_len aNil_len)))
  (rss_cons (rs_if (rt_not (rt_val (re_callF D_is_table hr (by decide) rfl tk (ra_cons (re_var (pv 1)) ra_nil) (aCons_len aNil_len)))) (rss_one (rs_raiseO (c := 1) X_Unfit rfl rfl tk)) rss_nil)
  (rss_one (rs_ret (re_var (pv 1))))))
def m_sure_arrow : SM :=
  (mSeq (sSet 2 (mCall f_sure_number (aCons (mVar 0) aNil)))
  (mSeq (sIf (bNot (bOf (mCall f_is_below (aCons (mVar 2) (aCons (mVar 1) aNil))))) sFail sNext)
  (sRet (mVar 2))))
def f_sure_arrow : List D → Res D := fnM 3 m_sure_arrow
theorem sc_sure_arrow : FnScope (["number", "bound", "own"] : List Str) (["number", "bound"] : List Str) (defScope (top 36)) := ⟨rfl, rfl, rfl, by decide +kernel, rfl, by decide +kernel, by decide +kernel⟩
theorem ok_sure_arrow (D : DefIs K mg "sure_arrow" (top 36)) (B : Bl mg) (D_sure_number : DefOk Pr w K mg base xc "sure_number" 2 ["number"] f_sure_number) (D_is_below : DefOk Pr w K mg base xc "is_below" 3 ["thing", "bound"] f_is_below) : DefOk Pr w K mg base xc "sure_arrow" 4 ["number", "bound"] f_sure_arrow := by
  have nd : (["number", "bound", "own"] : List Str).Nodup := sc_sure_arrow.nd
  exact def_ok (k := 3) D sc_sure_arrow (by decide) (fun _ _ _ _ _ _ us hl => match us, hl with | [_, _], _ => rfl) fun fa cdv A outer s H E O hr tk po => by
    have hu := room_u hr
    exact (rss_cons (rs_set (i := 2) nd rfl (Or.inl rfl) (re_callF D_sure_number hr (by decide) rfl tk (ra_cons (re_var (pv 0)) ra_nil) (aCons_len aNil_len)))
  (rss_cons (rs_if (rt_not (rt_val (re_callF D_is_below hr (by decide) rfl tk (ra_cons (re_var (pv 2)) (ra_cons (re_var (pv 1)) ra_nil)) (aCons_len (aCons_len aNil_len))))) (rss_one rs_never) rss_nil)
  (rss_one (rs_ret (re_var (pv 2))))))
def m_sure_arrows : SM :=
  (mSeq (sPar [3, 4] (xVal (mCall f_sure_number (aCons (mVar 0) aNil)) (xVal (mCall f_sure_number (aCons (mVar 1) aNil)) xNil)))
  (sRet (mTup (aCons (mCall f_sure_arrow (aCons (mVar 3) (aCons (mVar 2) aNil))) (aCons (mCall f_sure_arrow (aCons (mVar 4) (aCons (mVar 2) aNil))) aNil)))))
def f_sure_arrows : List D → Res D := fnM 5 m_sure_arrows
theorem sc_sure_arrows : FnScope (["one", "other", "bound", "near", "far"] : List Str) (["one", "other", "bound"] : List Str) (defScope (top 37)) := ⟨rfl, rfl, rfl, by decide +kernel, rfl, by decide +kernel, by decide +kernel⟩
theorem ok_sure_arrows (D : DefIs K mg "sure_arrows" (top 37)) (B : Bl mg) (D_sure_number : DefOk Pr w K mg base xc "sure_number" 2 ["number"] f_sure_number) (D_sure_arrow : DefOk Pr w K mg base xc "sure_arrow" 4 ["number", "bound"] f_sure_arrow) : DefOk Pr w K mg base xc "sure_arrows" 5 ["one", "other", "bound"] f_sure_arrows := by
  have nd : (["one", "other", "bound", "near", "far"] : List Str).Nodup := sc_sure_arrows.nd
  exact def_ok (k := 4) D sc_sure_arrows (by decide) (fun _ _ _ _ _ _ us hl => match us, hl with | [_, _, _], _ => rfl) fun fa cdv A outer s H E O hr tk po => by
    have hu := room_u hr
    exact (rss_cons (rs_par rfl nd rfl rfl (by decide) rfl rfl (rx_val (re_callF D_sure_number hr (by decide) rfl tk (ra_cons (re_var (pv 0)) ra_nil) (aCons_len aNil_len)) (rx_val (re_callF D_sure_number hr (by decide) rfl tk (ra_cons (re_var (pv 1)) ra_nil) (aCons_len aNil_len)) rx_nil)) rfl)
  (rss_one (rs_ret (re_tup (ra_cons (re_callF D_sure_arrow hr (by decide) rfl tk (ra_cons (re_var (pv 3)) (ra_cons (re_var (pv 2)) ra_nil)) (aCons_len (aCons_len aNil_len))) (ra_cons (re_callF D_sure_arrow hr (by decide) rfl tk (ra_cons (re_var (pv 4)) (ra_cons (re_var (pv 2)) ra_nil)) (aCons_len (aCons_len aNil_len))) ra_nil))))))
def m_part_at : SM :=
  (sRet (mCall bTuple (aCons (asList (lcOut (bName 2) bTrue (mCall bTuple (aCons (asList (lcOut (bName 3) bTrue (mOp fIx (mOp fIx (mVar 0) (mVar 2)) (mVar 3)) [3] (iSeq (mVar 1)))) aNil)) [2] (iSeq (mVar 1)))) aNil)))
def f_part_at : List D → Res D := fnM 4 m_part_at
theorem sc_part_at : FnScope (["told", "lot", "k", "j"] : List Str) (["told", "lot"] : List Str) (defScope (top 38)) := ⟨rfl, rfl, rfl, by decide +kernel, rfl, by decide +kernel, by decide +kernel⟩
theorem ok_part_at (D : DefIs K mg "part_at" (top 38)) (B : Bl mg) : DefOk Pr w K mg base xc "part_at" 1 ["told", "lot"] f_part_at := by
  have nd : (["told", "lot", "k", "j"] : List Str).Nodup := sc_part_at.nd
  exact def_ok (k := 0) D sc_part_at (by decide) (fun _ _ _ _ _ _ us hl => match us, hl with | [_, _], _ => rfl) fun fa cdv A outer s H E O hr tk po => by
    have hu := room_u hr
    exact (rss_one (rs_ret (re_callTy call_tuple_of rc_tuple rfl B.tuple (by decide +kernel) (ra_cons (re_of_new (reF_lc (own := [("k", 2)]) rfl nd (ric_of (ri_seq (re_var (pv 1)))) (blk_of (by kernel_rfl)) (bg_name 2) (by decide) (fun s H C cl fp => (pg_name (i := 2) nd rfl (Or.inr rfl))) (fun s H C cl fp => rts_nil) (fun s H C cl fp => (re_callTy call_tuple_of rc_tuple rfl B.tuple (by decide +kernel) (ra_cons (re_of_new (reF_lc (own := [("j", 3)]) rfl nd (ric_of (ri_seq (re_var (pv 1)))) (blk_of (by kernel_rfl)) (bg_name 3) (by decide) (fun s H C cl fp => (pg_name (i := 3) nd rfl (Or.inl rfl))) (fun s H C cl fp => rts_nil) (fun s H C cl fp => (re_ix (re_ix (re_var (pv 0)) (re_var (pv 2)) (fun _ _ => rfl)) (re_var (pv 3)) (fun _ _ => rfl))))) ra_nil))))) ra_nil))))
def m_times_numbers : SM :=
  (sRet (mCall bTuple (aCons (asList (lcOut (bName 2) bTrue (mCall f_both (aCons (mVar 2) (aCons (mVar 1) aNil))) [2] (iSeq (mVar 0)))) aNil)))
def f_times_numbers : List D → Res D := fnM 3 m_times_numbers
theorem sc_times_numbers : FnScope (["table", "row", "own"] : List Str) (["table", "row"] : List Str) (defScope (top 39)) := ⟨rfl, rfl, rfl, by decide +kernel, rfl, by decide +kernel, by decide +kernel⟩
theorem ok_times_numbers (D : DefIs K mg "times_numbers" (top 39)) (B : Bl mg) (D_both : DefOk Pr w K mg base xc "both" 5 ["one", "other"] f_both) : DefOk Pr w K mg base xc "times_numbers" 6 ["table", "row"] f_times_numbers := by
  have nd : (["table", "row", "own"] : List Str).Nodup := sc_times_numbers.nd
  exact def_ok (k := 5) D sc_times_numbers (by decide) (fun _ _ _ _ _ _ us hl => match us, hl with | [_, _], _ => rfl) fun fa cdv A outer s H E O hr tk po => by
    have hu := room_u hr
    exact (rss_one (rs_ret (re_callTy call_tuple_of rc_tuple rfl B.tuple (by decide +kernel) (ra_cons (re_of_new (reF_lc (own := [("own", 2)]) rfl nd (ric_of (ri_seq (re_var (pv 0)))) (blk_of (by kernel_rfl)) (bg_name 2) (by decide) (fun s H C cl fp => (pg_name (i := 2) nd rfl (Or.inl rfl))) (fun s H C cl fp => rts_nil) (fun s H C cl fp => (re_callF D_both hr (by decide) rfl takes0 (ra_cons (re_var (pv 2)) (ra_cons (re_var (pv 1)) ra_nil)) (aCons_len (aCons_len aNil_len)))))) ra_nil))))
def m_less_head : SM :=
  (mSeq (sSet 3 (mOp fIx (mVar 0) (mVar 2)))
  (sRet (mIf (bOf (mOp fNe (mVar 3) (mK (.tuple [.int 0, .int 1])))) (asList (lcOut (bTup 2 (bCons (bName 4) (bCons (bName 5) bNil))) bTrue (mCall f_take (aCons (mVar 4) (aCons (mCall f_multiply (aCons (mVar 3) (aCons (mVar 5) aNil))) aNil))) [4, 5] (iZp (aCons (mVar 0) (aCons (mVar 1) aNil))))) (mVar 0))))
def f_less_head : List D → Res D := fnM 6 m_less_head
theorem sc_less_head : FnScope (["row", "head", "place", "much", "part", "own"] : List Str) (["row", "head", "place"] : List Str) (defScope (top 40)) := ⟨rfl, rfl, rfl, by decide +kernel, rfl, by decide +kernel, by decide +kernel⟩
theorem ok_less_head (D : DefIs K mg "less_head" (top 40)) (B : Bl mg) (h_NIL : Pr2 K mg "NIL" 0 1) (D_take : DefOk Pr w K mg base xc "take" 3 ["one", "other"] f_take) (D_multiply : DefOk Pr w K mg base xc "multiply" 3 ["one", "other"] f_multiply) : DefOk Pr w K mg base xc "less_head" 4 ["row", "head", "place"] f_less_head := by
  have nd : (["row", "head", "place", "much", "part", "own"] : List Str).Nodup := sc_less_head.nd
  exact def_ok (k := 3) D sc_less_head (by decide) (fun _ _ _ _ _ _ us hl => match us, hl with | [_, _, _], _ => rfl) fun fa cdv A outer s H E O hr tk po => by
    have hu := room_u hr
    exact (rss_cons (rs_set (i := 3) nd rfl (Or.inr rfl) (re_ix (re_var (pv 0)) (re_var (pv 2)) (fun _ _ => rfl)))
  (rss_one (rs_ret (re_if (rt_cmp (op_neC hu) r_ne rfl (re_var (pv 3)) (re_pr2 rfl h_NIL)) (re_of_new (reF_lc (own := [("part", 4), ("own", 5)]) rfl nd (ric_of (ri_zip rfl B.zip (ra_cons (re_var (pv 0)) (ra_cons (re_var (pv 1)) ra_nil)))) (blk_of (by kernel_rfl)) (bg_tup (n := 2) (bgs_cons (bg_name 4) (bgs_cons (bg_name 5) bgs_nil))) (by decide) (fun s H C cl fp => (pg_tup (n := 2) rfl (pgs_cons (pg_name (i := 4) nd rfl (Or.inl rfl)) (pgs_cons (pg_name (i := 5) nd rfl (Or.inl rfl)) pgs_nil)))) (fun s H C cl fp => rts_nil) (fun s H C cl fp => (re_callF D_take hr (by decide) rfl takes0 (ra_cons (re_var (pv 4)) (ra_cons (re_callF D_multiply hr (by decide) rfl takes0 (ra_cons (re_var (pv 3)) (ra_cons (re_var (pv 5)) ra_nil)) (aCons_len (aCons_len aNil_len))) ra_nil)) (aCons_len (aCons_len aNil_len)))))) (re_var (pv 0))))))
def m_reduced : SM :=
  (mSeq (sPar [2, 3, 4] (xOwn (nOf (lcOut (bName 10) bTrue (mCall bList (aCons (mVar 10) aNil)) [10] (iSeq (mVar 0)))) (xOwn (nOf (nLst aNil)) (xVal (mK (.tuple [.int 1, .int 1])) xNil))))
  (mSeq (sFor (iRng (aCons (mVar 1) aNil)) (bName 5) (mSeq (sSet 7 (asList (nBor (lcOut (bName 6) (bOf (mOp fNe (mOp fIx (mIxO 2 (mVar 6)) (mVar 5)) (mK (.tuple [.int 0, .int 1])))) (mVar 6) [6] (iRng (aCons (mCall bLen (aCons (mVar 3) aNil)) (aCons (mCall bLen (aCons (mVar 2) aNil)) aNil)))))))
  (mSeq (sIf (bOf (mOp fEq (mVar 7) (mLst aNil))) sCont sNext)
  (mSeq (sPar [6, 8] (xVal (mOp fIx (mVar 7) (mK (.int 0))) (xVal (mBor (mCall bLen (aCons (mVar 3) aNil))) xNil)))
  (mSeq (sSet 4 (mCall f_multiply (aCons (mVar 4) (aCons (mIf (bOf (mOp fEq (mVar 6) (mVar 8))) (mOp fIx (mIxO 2 (mVar 6)) (mVar 5)) (mCall f_opposite (aCons (mOp fIx (mIxO 2 (mVar 6)) (mVar 5)) aNil))) aNil))))
  (mSeq (sAsg (wTup 2 (wCons (wSto 2 (mVar 8)) (wCons (wSto 2 (mVar 6)) wNil))) (mTup (aCons (mIxO 2 (mVar 6)) (aCons (mIxO 2 (mVar 8)) aNil))))
  (mSeq (sSet 9 (asList (lcOut (bName 11) bTrue (mCall f_divide (aCons (mVar 11) (aCons (mOp fIx (mIxO 2 (mVar 8)) (mVar 5)) aNil))) [11] (iSeq (mIxO 2 (mVar 8))))))
  (mSeq (sFrz [2] (sOwn 2 (nOf (lcOut (bTup 2 (bCons (bName 12) (bCons (bName 10) bNil))) bTrue (mIf (bOf (mOp fEq (mVar 12) (mVar 8))) (mVar 9) (mCall f_less_head (aCons (mVar 10) (aCons (mVar 9) (aCons (mVar 5) aNil))))) [12, 10] (iEnmA (aCons (mVar 2) aNil))))))
  (sApp 3 (mVar 5))))))))))
  (sFrzA (sRet (mTup (aCons (mVar 2) (aCons (mVar 3) (aCons (mVar 4) aNil))))))))
def f_reduced : List D → Res D := fnM 13 m_reduced
theorem sc_reduced : FnScope (["rows", "size", "found", "places", "product", "place", "k", "goods", "here", "head", "row", "part", "j"] : List Str) (["rows", "size"] : List Str) (defScope (top 41)) := ⟨rfl, rfl, rfl, by decide +kernel, rfl, by decide +kernel, by decide +kernel⟩
theorem ok_reduced (D : DefIs K mg "reduced" (top 41)) (B : Bl mg) (h_ONE : Pr2 K mg "ONE" 1 1) (h_NIL : Pr2 K mg "NIL" 0 1) (D_multiply : DefOk Pr w K mg base xc "multiply" 3 ["one", "other"] f_multiply) (D_opposite : DefOk Pr w K mg base xc "opposite" 1 ["number"] f_opposite) (D_divide : DefOk Pr w K mg base xc "divide" 3 ["one", "other"] f_divide) (D_less_head : DefOk Pr w K mg base xc "less_head" 4 ["row", "head", "place"] f_less_head) : DefOk Pr w K mg base xc "reduced" 5 ["rows", "size"] f_reduced := by
  have nd : (["rows", "size", "found", "places", "product", "place", "k", "goods", "here", "head", "row", "part", "j"] : List Str).Nodup := sc_reduced.nd
  exact def_ok (k := 4) D sc_reduced (by decide) (fun _ _ _ _ _ _ us hl => match us, hl with | [_, _], _ => rfl) fun fa cdv A outer s H E O hr tk po => by
    have hu := room_u hr
    exact (rss_cons (rs_parP (n := 3) rfl (rx_own (ren_of (reF_lc (own := [("row", 10)]) rfl nd (ric_of (ri_seq (re_var (pv 0)))) (blk_of (by kernel_rfl)) (bg_name 10) (by decide) (fun s H C cl fp => (pg_name (i := 10) nd rfl (Or.inl rfl))) (fun s H C cl fp => rts_nil) (fun s H C cl fp => (re_callTy call_list_of rc_list rfl B.list (by decide +kernel) (ra_cons (re_var (pv 10)) ra_nil))))) (rx_own (ren_of (reF_lst ra_nil)) (rx_val (re_pr2 rfl h_ONE) rx_nil))) (ptn_cons (pg_name (i := 2) nd rfl (Or.inr rfl)) (ptn_cons (pg_name (i := 3) nd rfl (Or.inl rfl)) (ptn_cons (pg_name (i := 4) nd rfl (Or.inl rfl)) ptn_nil))) rfl (by decide +kernel))
  (rss_cons (rs_for po rfl (ri_range1 rfl B.range (ra_cons (re_var (pv 1)) ra_nil) (aCons_len aNil_len)) (pg_name (i := 5) nd rfl (Or.inr rfl)) (bg_name 5) (rss_cons (rs_lc_VB (own := [("k", 6)]) rfl nd rfl rfl rfl rfl rfl (ric_of (ri_range2 rfl B.range (ra_cons (re_callB call_len rc_len rfl B.len (by decide +kernel) (ra_cons (re_var (pv 3)) ra_nil)) (ra_cons (re_callB call_len rc_len rfl B.len (by decide +kernel) (ra_cons (re_var (pv 2)) ra_nil)) ra_nil)) (aCons_len (aCons_len aNil_len)))) (blk_of (by kernel_rfl)) (bg_name 6) (by decide) (fun s H C cl fp => (pg_name (i := 6) nd rfl (Or.inl rfl))) (fun s H C cl fp => (rts_one (rt_cmp (op_neC hu) r_ne rfl (re_ix (re_ixO (pv 2) (re_var (pv 6)) (fun _ _ => rfl)) (re_var (pv 5)) (fun _ _ => rfl)) (re_pr2 rfl h_NIL)))) (fun s H C cl fp => (re_var (pv 6))))
  (rss_cons (rs_if (rt_cmp (op_eqC hu) r_eq rfl (re_var (pv 7)) (re_lst ra_nil)) (rss_one rs_cont) rss_nil)
  (rss_cons (rs_parP (n := 2) rfl (rx_val (re_ix (re_var (pv 7)) re_int (fun _ _ => rfl)) (rx_val (re_bor (re_callB call_len rc_len rfl B.len (by decide +kernel) (ra_cons (re_var (pv 3)) ra_nil))) rx_nil)) (ptn_cons (pg_name (i := 6) nd rfl (Or.inl rfl)) (ptn_cons (pg_name (i := 8) nd rfl (Or.inr rfl)) ptn_nil)) rfl (by decide +kernel))
  (rss_cons (rs_set (i := 4) nd rfl (Or.inl rfl) (re_callF D_multiply hr (by decide) rfl tk (ra_cons (re_var (pv 4)) (ra_cons (re_if (rt_cmp (op_eqC hu) r_eq rfl (re_var (pv 6)) (re_var (pv 8))) (re_ix (re_ixO (pv 2) (re_var (pv 6)) (fun _ _ => rfl)) (re_var (pv 5)) (fun _ _ => rfl)) (re_callF D_opposite hr (by decide) rfl tk (ra_cons (re_ix (re_ixO (pv 2) (re_var (pv 6)) (fun _ _ => rfl)) (re_var (pv 5)) (fun _ _ => rfl)) ra_nil) (aCons_len aNil_len))) ra_nil)) (aCons_len (aCons_len aNil_len))))
  (rss_cons (rs_asgW (re_tup (ra_cons (re_ixO (pv 2) (re_var (pv 6)) (fun _ _ => rfl)) (ra_cons (re_ixO (pv 2) (re_var (pv 8)) (fun _ _ => rfl)) ra_nil))) (pg_tup (n := 2) rfl (pgs_cons (pg_sub (pv 2) (re_var (pv 8)) set_list) (pgs_cons (pg_sub (pv 2) (re_var (pv 6)) set_list) pgs_nil))) (bw_tup (n := 2) (bws_cons (bw_sto 2) (bws_cons (bw_sto 2) bws_nil))))
  (rss_cons (rs_set (i := 9) nd rfl (Or.inr rfl) (re_of_new (reF_lc (own := [("part", 11)]) rfl nd (ric_of (ri_seq (re_ixO (pv 2) (re_var (pv 8)) (fun _ _ => rfl)))) (blk_of (by kernel_rfl)) (bg_name 11) (by decide) (fun s H C cl fp => (pg_name (i := 11) nd rfl (Or.inl rfl))) (fun s H C cl fp => rts_nil) (fun s H C cl fp => (re_callF D_divide hr (by decide) rfl takes0 (ra_cons (re_var (pv 11)) (ra_cons (re_ix (re_ixO (pv 2) (re_var (pv 8)) (fun _ _ => rfl)) (re_var (pv 5)) (fun _ _ => rfl)) ra_nil)) (aCons_len (aCons_len aNil_len)))))))
  (rss_cons (rs_frz [2] (rs_own (i := 2) nd rfl (Or.inr rfl) (ren_of (reF_lc (own := [("j", 12), ("row", 10)]) rfl nd (ric_of (ri_enumA rfl B.enumerate (ra_cons (re_var (pv 2)) ra_nil))) (blk_of (by kernel_rfl)) (bg_tup (n := 2) (bgs_cons (bg_name 12) (bgs_cons (bg_name 10) bgs_nil))) (by decide) (fun s H C cl fp => (pg_tup (n := 2) rfl (pgs_cons (pg_name (i := 12) nd rfl (Or.inl rfl)) (pgs_cons (pg_name (i := 10) nd rfl (Or.inl rfl)) pgs_nil)))) (fun s H C cl fp => rts_nil) (fun s H C cl fp => (re_if (rt_cmp (op_eqC hu) r_eq rfl (re_var (pv 12)) (re_var (pv 8))) (re_var (pv 9)) (re_callF D_less_head hr (by decide) rfl takes0 (ra_cons (re_var (pv 10)) (ra_cons (re_var (pv 9)) (ra_cons (re_var (pv 5)) ra_nil))) (aCons_len (aCons_len (aCons_len aNil_len))))))))))
  (rss_one (rs_app (pv 3) (re_var (pv 5))))))))))))
  (rss_one (rs_frzA (rs_ret (re_tup (ra_cons (re_var (pv 2)) (ra_cons (re_var (pv 3)) (ra_cons (re_var (pv 4)) ra_nil)))))))))
def m_determinant_in : SM :=
  (mSeq (sUnp (bTup 3 (bCons (bName 1) (bCons (bName 2) (bCons (bName 3) bNil)))) (mCall f_reduced (aCons (mVar 0) (aCons (mCall bLen (aCons (mVar 0) aNil)) aNil))))
  (sRet (mIf (bOf (mOp fEq (mCall bLen (aCons (mVar 2) aNil)) (mCall bLen (aCons (mVar 0) aNil)))) (mVar 3) (mK (.tuple [.int 0, .int 1])))))
def f_determinant_in : List D → Res D := fnM 4 m_determinant_in
theorem sc_determinant_in : FnScope (["table", "_", "places", "product"] : List Str) (["table"] : List Str) (defScope (top 42)) := ⟨rfl, rfl, rfl, by decide +kernel, rfl, by decide +kernel, by decide +kernel⟩
theorem ok_determinant_in (D : DefIs K mg "determinant_in" (top 42)) (B : Bl mg) (h_NIL : Pr2 K mg "NIL" 0 1) (D_reduced : DefOk Pr w K mg base xc "reduced" 5 ["rows", "size"] f_reduced) : DefOk Pr w K mg base xc "determinant_in" 6 ["table"] f_determinant_in := by
  have nd : (["table", "_", "places", "product"] : List Str).Nodup := sc_determinant_in.nd
  exact def_ok (k := 5) D sc_determinant_in (by decide) (fun _ _ _ _ _ _ us hl => match us, hl with | [_], _ => rfl) fun fa cdv A outer s H E O hr tk po => by
    have hu := room_u hr
    exact (rss_cons (rs_unp (re_callF D_reduced hr (by decide) rfl tk (ra_cons (re_var (pv 0)) (ra_cons (re_callB call_len rc_len rfl B.len (by decide +kernel) (ra_cons (re_var (pv 0)) ra_nil)) ra_nil)) (aCons_len (aCons_len aNil_len))) (pg_tup (n := 3) rfl (pgs_cons (pg_name (i := 1) nd rfl (Or.inl rfl)) (pgs_cons (pg_name (i := 2) nd rfl (Or.inl rfl)) (pgs_cons (pg_name (i := 3) nd rfl (Or.inl rfl)) pgs_nil)))) (bg_tup (n := 3) (bgs_cons (bg_name 1) (bgs_cons (bg_name 2) (bgs_cons (bg_name 3) bgs_nil)))))
  (rss_one (rs_ret (re_if (rt_cmp (op_eqC hu) r_eq rfl (re_callB call_len rc_len rfl B.len (by decide +kernel) (ra_cons (re_var (pv 2)) ra_nil)) (re_callB call_len rc_len rfl B.len (by decide +kernel) (ra_cons (re_var (pv 0)) ra_nil))) (re_var (pv 3)) (re_pr2 rfl h_NIL)))))
def m_determinant : SM :=
  (sRet (mCall f_determinant_in (aCons (mCall f_sure_table (aCons (mVar 0) aNil)) aNil)))
def f_determinant : List D → Res D := fnM 1 m_determinant
theorem sc_determinant : FnScope (["table"] : List Str) (["table"] : List Str) (defScope (top 43)) := ⟨rfl, rfl, rfl, by decide +kernel, rfl, by decide +kernel, by decide +kernel⟩
theorem ok_determinant (D : DefIs K mg "determinant" (top 43)) (B : Bl mg) (D_determinant_in : DefOk Pr w K mg base xc "determinant_in" 6 ["table"] f_determinant_in) (D_sure_table : DefOk Pr w K mg base xc "sure_table" 7 ["table"] f_sure_table) : DefOk Pr w K mg base xc "determinant" 8 ["table"] f_determinant := by
  have nd : (["table"] : List Str).Nodup := sc_determinant.nd
  exact def_ok (k := 7) D sc_determinant (by decide) (fun _ _ _ _ _ _ us hl => match us, hl with | [_], _ => rfl) fun fa cdv A outer s H E O hr tk po => by
    have hu := room_u hr
    exact (rss_one (rs_ret (re_callF D_determinant_in hr (by decide) rfl tk (ra_cons (re_callF D_sure_table hr (by decide) rfl tk (ra_cons (re_var (pv 0)) ra_nil) (aCons_len aNil_len)) ra_nil) (aCons_len aNil_len))))
def m_less_row : SM :=
  (sRet (asList (lcOut (bTup 2 (bCons (bName 3) (bCons (bName 4) bNil))) bTrue (mCall f_take (aCons (mVar 3) (aCons (mCall f_multiply (aCons (mVar 2) (aCons (mVar 4) aNil))) aNil))) [3, 4] (iZp (aCons (mVar 0) (aCons (mVar 1) aNil))))))
def f_less_row : List D → Res D := fnM 5 m_less_row
theorem sc_less_row : FnScope (["row", "other", "much", "part", "own"] : List Str) (["row", "other", "much"] : List Str) (defScope (top 46)) := ⟨rfl, rfl, rfl, by decide +kernel, rfl, by decide +kernel, by decide +kernel⟩
theorem ok_less_row (D : DefIs K mg "less_row" (top 46)) (B : Bl mg) (D_take : DefOk Pr w K mg base xc "take" 3 ["one", "other"] f_take) (D_multiply : DefOk Pr w K mg base xc "multiply" 3 ["one", "other"] f_multiply) : DefOk Pr w K mg base xc "less_row" 4 ["row", "other", "much"] f_less_row := by
  have nd : (["row", "other", "much", "part", "own"] : List Str).Nodup := sc_less_row.nd
  exact def_ok (k := 3) D sc_less_row (by decide) (fun _ _ _ _ _ _ us hl => match us, hl with | [_, _, _], _ => rfl) fun fa cdv A outer s H E O hr tk po => by
    have hu := room_u hr
    exact (rss_one (rs_ret (re_of_new (reF_lc (own := [("part", 3), ("own", 4)]) rfl nd (ric_of (ri_zip rfl B.zip (ra_cons (re_var (pv 0)) (ra_cons (re_var (pv 1)) ra_nil)))) (blk_of (by kernel_rfl)) (bg_tup (n := 2) (bgs_cons (bg_name 3) (bgs_cons (bg_name 4) bgs_nil))) (by decide) (fun s H C cl fp => (pg_tup (n := 2) rfl (pgs_cons (pg_name (i := 3) nd rfl (Or.inl rfl)) (pgs_cons (pg_name (i := 4) nd rfl (Or.inl rfl)) pgs_nil)))) (fun s H C cl fp => rts_nil) (fun s H C cl fp => (re_callF D_take hr (by decide) rfl takes0 (ra_cons (re_var (pv 3)) (ra_cons (re_callF D_multiply hr (by decide) rfl takes0 (ra_cons (re_var (pv 2)) (ra_cons (re_var (pv 4)) ra_nil)) (aCons_len (aCons_len aNil_len))) ra_nil)) (aCons_len (aCons_len aNil_len))))))))
def m_numbers_of : SM :=
  (mSeq (sSet 4 (mTup (aCons (mOp fAddX (mOp fIx (mOp fIx (mOp fIx (mVar 0) (mVar 3)) (mVar 3)) (mK (.int 0))) (mOp fIx (mOp fIx (mOp fIx (mVar 0) (mVar 3)) (mVar 3)) (mK (.int 1)))) (aCons (mOp fIx (mOp fIx (mOp fIx (mVar 0) (mVar 3)) (mVar 3)) (mK (.int 1))) aNil))))
  (mSeq (sSet 5 (mCall f_opposite (aCons (mCall f_divide (aCons (mCall f_multiply (aCons (mVar 4) (aCons (mK (.tuple [.int 1, .int 2])) aNil))) (aCons (mOp fIx (mOp fIx (mVar 0) (mVar 2)) (mVar 3)) aNil))) aNil)))
  (sRet (mCall f_whole_of (aCons (mCall bTuple (aCons (mCall f_less_row (aCons (mOp fIx (mVar 1) (mVar 3)) (aCons (mOp fIx (mVar 1) (mVar 2)) (aCons (mCall f_opposite (aCons (mVar 5) aNil)) aNil)))) aNil)) aNil)))))
def f_numbers_of : List D → Res D := fnM 6 m_numbers_of
theorem sc_numbers_of : FnScope (["left", "made_of", "here", "there", "more", "much"] : List Str) (["left", "made_of", "here", "there"] : List Str) (defScope (top 48)) := ⟨rfl, rfl, rfl, by decide +kernel, rfl, by decide +kernel, by decide +kernel⟩
theorem ok_numbers_of (D : DefIs K mg "numbers_of" (top 48)) (B : Bl mg) (h_HALF_axes : Pr2 K mg "HALF_axes" 1 2) (D_opposite : DefOk Pr w K mg base xc "opposite" 1 ["number"] f_opposite) (D_divide : DefOk Pr w K mg base xc "divide" 3 ["one", "other"] f_divide) (D_multiply : DefOk Pr w K mg base xc "multiply" 3 ["one", "other"] f_multiply) (D_whole_of : DefOk Pr w K mg base xc "whole_of" 2 ["row"] f_whole_of) (D_less_row : DefOk Pr w K mg base xc "less_row" 4 ["row", "other", "much"] f_less_row) : DefOk Pr w K mg base xc "numbers_of" 5 ["left", "made_of", "here", "there"] f_numbers_of := by
  have nd : (["left", "made_of", "here", "there", "more", "much"] : List Str).Nodup := sc_numbers_of.nd
  exact def_ok (k := 4) D sc_numbers_of (by decide) (fun _ _ _ _ _ _ us hl => match us, hl with | [_, _, _, _], _ => rfl) fun fa cdv A outer s H E O hr tk po => by
    have hu := room_u hr
    exact (rss_cons (rs_set (i := 4) nd rfl (Or.inl rfl) (re_tup (ra_cons (re_op op_addX r_addX (re_ix (re_ix (re_ix (re_var (pv 0)) (re_var (pv 3)) (fun _ _ => rfl)) (re_var (pv 3)) (fun _ _ => rfl)) re_int (fun _ _ => rfl)) (re_ix (re_ix (re_ix (re_var (pv 0)) (re_var (pv 3)) (fun _ _ => rfl)) (re_var (pv 3)) (fun _ _ => rfl)) re_int (fun _ _ => rfl))) (ra_cons (re_ix (re_ix (re_ix (re_var (pv 0)) (re_var (pv 3)) (fun _ _ => rfl)) (re_var (pv 3)) (fun _ _ => rfl)) re_int (fun _ _ => rfl)) ra_nil))))
  (rss_cons (rs_set (i := 5) nd rfl (Or.inl rfl) (re_callF D_opposite hr (by decide) rfl tk (ra_cons (re_callF D_divide hr (by decide) rfl tk (ra_cons (re_callF D_multiply hr (by decide) rfl tk (ra_cons (re_var (pv 4)) (ra_cons (re_pr2 rfl h_HALF_axes) ra_nil)) (aCons_len (aCons_len aNil_len))) (ra_cons (re_ix (re_ix (re_var (pv 0)) (re_var (pv 2)) (fun _ _ => rfl)) (re_var (pv 3)) (fun _ _ => rfl)) ra_nil)) (aCons_len (aCons_len aNil_len))) ra_nil) (aCons_len aNil_len)))
  (rss_one (rs_ret (re_callF D_whole_of hr (by decide) rfl tk (ra_cons (re_callTy call_tuple_of rc_tuple rfl B.tuple (by decide +kernel) (ra_cons (re_callF D_less_row hr (by decide) rfl tk (ra_cons (re_ix (re_var (pv 1)) (re_var (pv 3)) (fun _ _ => rfl)) (ra_cons (re_ix (re_var (pv 1)) (re_var (pv 2)) (fun _ _ => rfl)) (ra_cons (re_callF D_opposite hr (by decide) rfl tk (ra_cons (re_var (pv 5)) ra_nil) (aCons_len aNil_len)) ra_nil))) (aCons_len (aCons_len (aCons_len aNil_len)))) ra_nil)) ra_nil) (aCons_len aNil_len))))))
def m_gone_through : SM :=
  (mSeq (sSet 1 (mCall bLen (aCons (mVar 0) aNil)))
  (mSeq (sOwn 2 (nOf (lcOut (bName 12) bTrue (mCall bList (aCons (mVar 12) aNil)) [12] (iSeq (mVar 0)))))
  (mSeq (sOwn 4 (nOf (lcOut (bName 3) bTrue (asList (lcOut (bName 13) bTrue (mIf (bOf (mOp fEq (mVar 3) (mVar 13))) (mK (.tuple [.int 1, .int 1])) (mK (.tuple [.int 0, .int 1]))) [13] (iRng (aCons (mVar 1) aNil)))) [3] (iRng (aCons (mVar 1) aNil)))))
  (mSeq (sPar [5, 6] (xOwn (nOf (nLst aNil)) (xOwn (nOf (nLst aNil)) xNil)))
  (mSeq (sFor (iRng (aCons (mVar 1) aNil)) (bName 7) (mSeq (sSet 8 (mOp fIx (mIxO 2 (mVar 7)) (mVar 7)))
  (mSeq (sIf (bOf (mOp fLt (mOp fIx (mVar 8) (mK (.int 0))) (mK (.int 0)))) (sFrzA (sRet (mTup (aCons (mK .none) (aCons (mCall f_whole_of (aCons (mCall bTuple (aCons (mIxO 4 (mVar 7)) aNil)) aNil)) aNil))))) sNext)
  (mSeq (sIf (bOf (mOp fEq (mOp fIx (mVar 8) (mK (.int 0))) (mK (.int 0)))) (mSeq (sSet 9 (asList (lcOut (bName 3) (bOf (mOp fNe (mOp fIx (mIxO 2 (mVar 7)) (mVar 3)) (mK (.tuple [.int 0, .int 1])))) (mVar 3) [3] (iRng (aCons (mOp fAddX (mVar 7) (mK (.int 1))) (aCons (mVar 1) aNil))))))
  (mSeq (sIf (bOf (mOp fNe (mVar 9) (mLst aNil))) (sFrzA (sRet (mTup (aCons (mK .none) (aCons (mCall f_numbers_of (aCons (mVar 2) (aCons (mVar 4) (aCons (mVar 7) (aCons (mOp fIx (mVar 9) (mK (.int 0))) aNil))))) aNil))))) sNext)
  sCont)) sNext)
  (mSeq (sApp 5 (mVar 8))
  (mSeq (sSet 10 (asList (lcOut (bName 3) bTrue (mIf (bOf (mOp fGe (mVar 3) (mVar 7))) (mCall f_divide (aCons (mOp fIx (mIxO 2 (mVar 3)) (mVar 7)) (aCons (mVar 8) aNil))) (mK (.tuple [.int 0, .int 1]))) [3] (iRng (aCons (mVar 1) aNil)))))
  (mSeq (sApp 6 (mVar 10))
  (mSeq (sFor (iRng (aCons (mOp fAddX (mVar 7) (mK (.int 1))) (aCons (mVar 1) aNil))) (bName 3) (sAsg (wSto 4 (mVar 3)) (mCall f_less_row (aCons (mIxO 4 (mVar 3)) (aCons (mIxO 4 (mVar 7)) (aCons (mOp fIx (mVar 10) (mVar 3)) aNil))))))
  (mSeq (sSet 11 (mCall bList (aCons (mIxO 2 (mVar 7)) aNil)))
  (sFor (iRng (aCons (mOp fAddX (mVar 7) (mK (.int 1))) (aCons (mVar 1) aNil))) (bName 3) (sAsg (wSto 2 (mVar 3)) (mCall f_less_row (aCons (mIxO 2 (mVar 3)) (aCons (mVar 11) (aCons (mOp fIx (mVar 10) (mVar 3)) aNil)))))))))))))))
  (sFrzA (sRet (mTup (aCons (mTup (aCons (mCall bTuple (aCons (mVar 5) aNil)) (aCons (mCall bTuple (aCons (asList (lcOut (bName 3) bTrue (mCall bTuple (aCons (asList (lcOut (bName 10) bTrue (mOp fIx (mVar 10) (mVar 3)) [10] (iSeq (mVar 6)))) aNil)) [3] (iRng (aCons (mVar 1) aNil)))) aNil)) aNil))) (aCons (mK .none) aNil))))))))))
def f_gone_through : List D → Res D := fnM 14 m_gone_through
theorem sc_gone_through : FnScope (["table", "size", "left", "k", "made_of", "weights", "columns", "here", "own", "tied", "column", "top", "row", "j"] : List Str) (["table"] : List Str) (defScope (top 47)) := ⟨rfl, rfl, rfl, by decide +kernel, rfl, by decide +kernel, by decide +kernel⟩
theorem ok_gone_through (D : DefIs K mg "gone_through" (top 47)) (B : Bl mg) (h_ONE : Pr2 K mg "ONE" 1 1) (h_NIL : Pr2 K mg "NIL" 0 1) (D_whole_of : DefOk Pr w K mg base xc "whole_of" 2 ["row"] f_whole_of) (D_numbers_of : DefOk Pr w K mg base xc "numbers_of" 5 ["left", "made_of", "here", "there"] f_numbers_of) (D_divide : DefOk Pr w K mg base xc "divide" 3 ["one", "other"] f_divide) (D_less_row : DefOk Pr w K mg base xc "less_row" 4 ["row", "other", "much"] f_less_row) : DefOk Pr w K mg base xc "gone_through" 6 ["table"] f_gone_through := by
  have nd : (["table", "size", "left", "k", "made_of", "weights", "columns", "here", "own", "tied", "column", "top", "row", "j"] : List Str).Nodup := sc_gone_through.nd
  exact def_ok (k := 5) D sc_gone_through (by decide) (fun _ _ _ _ _ _ us hl => match us, hl with | [_], _ => rfl) fun fa cdv A outer s H E O hr tk po => by
    have hu := room_u hr
    exact (rss_cons (rs_set (i := 1) nd rfl (Or.inr rfl) (re_callB call_len rc_len rfl B.len (by decide +kernel) (ra_cons (re_var (pv 0)) ra_nil)))
  (rss_cons (rs_own (i := 2) nd rfl (Or.inr rfl) (ren_of (reF_lc (own := [("row", 12)]) rfl nd (ric_of (ri_seq (re_var (pv 0)))) (blk_of (by kernel_rfl)) (bg_name 12) (by decide) (fun s H C cl fp => (pg_name (i := 12) nd rfl (Or.inl rfl))) (fun s H C cl fp => rts_nil) (fun s H C cl fp => (re_callTy call_list_of rc_list rfl B.list (by decide +kernel) (ra_cons (re_var (pv 12)) ra_nil))))))
  (rss_cons (rs_lc_O (own := [("k", 3)]) rfl nd rfl rfl rfl rfl rfl (ric_of (ri_range1 rfl B.range (ra_cons (re_var (pv 1)) ra_nil) (aCons_len aNil_len))) (blk_of (by kernel_rfl)) (bg_name 3) (by decide) (fun s H C cl fp => (pg_name (i := 3) nd rfl (Or.inr rfl))) (fun s H C cl fp => rts_nil) (fun s H C cl fp => (re_of_new (reF_lc (own := [("j", 13)]) rfl nd (ric_of (ri_range1 rfl B.range (ra_cons (re_var (pv 1)) ra_nil) (aCons_len aNil_len))) (blk_of (by kernel_rfl)) (bg_name 13) (by decide) (fun s H C cl fp => (pg_name (i := 13) nd rfl (Or.inl rfl))) (fun s H C cl fp => rts_nil) (fun s H C cl fp => (re_if (rt_cmp (op_eqC hu) r_eq rfl (re_var (pv 3)) (re_var (pv 13))) (re_pr2 rfl h_ONE) (re_pr2 rfl h_NIL)))))))
  (rss_cons (rs_parP (n := 2) rfl (rx_own (ren_of (reF_lst ra_nil)) (rx_own (ren_of (reF_lst ra_nil)) rx_nil)) (ptn_cons (pg_name (i := 5) nd rfl (Or.inl rfl)) (ptn_cons (pg_name (i := 6) nd rfl (Or.inr rfl)) ptn_nil)) rfl (by decide +kernel))
  (rss_cons (rs_for po rfl (ri_range1 rfl B.range (ra_cons (re_var (pv 1)) ra_nil) (aCons_len aNil_len)) (pg_name (i := 7) nd rfl (Or.inr rfl)) (bg_name 7) (rss_cons (rs_set (i := 8) nd rfl (Or.inr rfl) (re_ix (re_ixO (pv 2) (re_var (pv 7)) (fun _ _ => rfl)) (re_var (pv 7)) (fun _ _ => rfl)))
  (rss_cons (rs_if (rt_cmp op_lt r_lt rfl (re_ix (re_var (pv 8)) re_int (fun _ _ => rfl)) re_int) (rss_one (rs_frzA (rs_ret (re_tup (ra_cons re_non (ra_cons (re_callF D_whole_of hr (by decide) rfl tk (ra_cons (re_callTy call_tuple_of rc_tuple rfl B.tuple (by decide +kernel) (ra_cons (re_ixO (pv 4) (re_var (pv 7)) (fun _ _ => rfl)) ra_nil)) ra_nil) (aCons_len aNil_len)) ra_nil)))))) rss_nil)
  (rss_cons (rs_if (rt_cmp (op_eqC hu) r_eq rfl (re_ix (re_var (pv 8)) re_int (fun _ _ => rfl)) re_int) (rss_cons (rs_lc_V (own := [("k", 3)]) rfl nd rfl rfl rfl rfl rfl (ric_of (ri_range2 rfl B.range (ra_cons (re_op op_addX r_addX (re_var (pv 7)) re_int) (ra_cons (re_var (pv 1)) ra_nil)) (aCons_len (aCons_len aNil_len)))) (blk_of (by kernel_rfl)) (bg_name 3) (by decide) (fun s H C cl fp => (pg_name (i := 3) nd rfl (Or.inl rfl))) (fun s H C cl fp => (rts_one (rt_cmp (op_neC hu) r_ne rfl (re_ix (re_ixO (pv 2) (re_var (pv 7)) (fun _ _ => rfl)) (re_var (pv 3)) (fun _ _ => rfl)) (re_pr2 rfl h_NIL)))) (fun s H C cl fp => (re_var (pv 3))))
  (rss_cons (rs_if (rt_cmp (op_neC hu) r_ne rfl (re_var (pv 9)) (re_lst ra_nil)) (rss_one (rs_frzA (rs_ret (re_tup (ra_cons re_non (ra_cons (re_callF D_numbers_of hr (by decide) rfl tk (ra_cons (re_var (pv 2)) (ra_cons (re_var (pv 4)) (ra_cons (re_var (pv 7)) (ra_cons (re_ix (re_var (pv 9)) re_int (fun _ _ => rfl)) ra_nil)))) (aCons_len (aCons_len (aCons_len (aCons_len aNil_len))))) ra_nil)))))) rss_nil)
  (rss_one rs_cont))) rss_nil)
  (rss_cons (rs_app (pv 5) (re_var (pv 8)))
  (rss_cons (rs_lc_V (own := [("k", 3)]) rfl nd rfl rfl rfl rfl rfl (ric_of (ri_range1 rfl B.range (ra_cons (re_var (pv 1)) ra_nil) (aCons_len aNil_len))) (blk_of (by kernel_rfl)) (bg_name 3) (by decide) (fun s H C cl fp => (pg_name (i := 3) nd rfl (Or.inl rfl))) (fun s H C cl fp => rts_nil) (fun s H C cl fp => (re_if (rt_cmp op_ge r_ge rfl (re_var (pv 3)) (re_var (pv 7))) (re_callF D_divide hr (by decide) rfl takes0 (ra_cons (re_ix (re_ixO (pv 2) (re_var (pv 3)) (fun _ _ => rfl)) (re_var (pv 7)) (fun _ _ => rfl)) (ra_cons (re_var (pv 8)) ra_nil)) (aCons_len (aCons_len aNil_len))) (re_pr2 rfl h_NIL))))
  (rss_cons (rs_app (pv 6) (re_var (pv 10)))
  (rss_cons (rs_for po rfl (ri_range2 rfl B.range (ra_cons (re_op op_addX r_addX (re_var (pv 7)) re_int) (ra_cons (re_var (pv 1)) ra_nil)) (aCons_len (aCons_len aNil_len))) (pg_name (i := 3) nd rfl (Or.inl rfl)) (bg_name 3) (rss_one (rs_asgW (re_callF D_less_row hr (by decide) rfl tk (ra_cons (re_ixO (pv 4) (re_var (pv 3)) (fun _ _ => rfl)) (ra_cons (re_ixO (pv 4) (re_var (pv 7)) (fun _ _ => rfl)) (ra_cons (re_ix (re_var (pv 10)) (re_var (pv 3)) (fun _ _ => rfl)) ra_nil))) (aCons_len (aCons_len (aCons_len aNil_len)))) (pg_sub (pv 4) (re_var (pv 3)) set_list) (bw_sto 4))))
  (rss_cons (rs_set (i := 11) nd rfl (Or.inl rfl) (re_callTy call_list_of rc_list rfl B.list (by decide +kernel) (ra_cons (re_ixO (pv 2) (re_var (pv 7)) (fun _ _ => rfl)) ra_nil)))
  (rss_one (rs_for po rfl (ri_range2 rfl B.range (ra_cons (re_op op_addX r_addX (re_var (pv 7)) re_int) (ra_cons (re_var (pv 1)) ra_nil)) (aCons_len (aCons_len aNil_len))) (pg_name (i := 3) nd rfl (Or.inl rfl)) (bg_name 3) (rss_one (rs_asgW (re_callF D_less_row hr (by decide) rfl tk (ra_cons (re_ixO (pv 2) (re_var (pv 3)) (fun _ _ => rfl)) (ra_cons (re_var (pv 11)) (ra_cons (re_ix (re_var (pv 10)) (re_var (pv 3)) (fun _ _ => rfl)) ra_nil))) (aCons_len (aCons_len (aCons_len aNil_len)))) (pg_sub (pv 2) (re_var (pv 3)) set_list) (bw_sto 2))))))))))))))
  (rss_one (rs_frzA (rs_ret (re_tup (ra_cons (re_tup (ra_cons (re_callTy call_tuple_of rc_tuple rfl B.tuple (by decide +kernel) (ra_cons (re_var (pv 5)) ra_nil)) (ra_cons (re_callTy call_tuple_of rc_tuple rfl B.tuple (by decide +kernel) (ra_cons (re_of_new (reF_lc (own := [("k", 3)]) rfl nd (ric_of (ri_range1 rfl B.range (ra_cons (re_var (pv 1)) ra_nil) (aCons_len aNil_len))) (blk_of (by kernel_rfl)) (bg_name 3) (by decide) (fun s H C cl fp => (pg_name (i := 3) nd rfl (Or.inr rfl))) (fun s H C cl fp => rts_nil) (fun s H C cl fp => (re_callTy call_tuple_of rc_tuple rfl B.tuple (by decide +kernel) (ra_cons (re_of_new (reF_lc (own := [("column", 10)]) rfl nd (ric_of (ri_seq (re_var (pv 6)))) (blk_of (by kernel_rfl)) (bg_name 10) (by decide) (fun s H C cl fp => (pg_name (i := 10) nd rfl (Or.inl rfl))) (fun s H C cl fp => rts_nil) (fun s H C cl fp => (re_ix (re_var (pv 10)) (re_var (pv 3)) (fun _ _ => rfl))))) ra_nil))))) ra_nil)) ra_nil))) (ra_cons re_non ra_nil)))))))))))
def m_never_below : SM :=
  (sRet (mOp fIs (mOp fIx (mCall f_gone_through (aCons (mVar 0) aNil)) (mK (.int 1))) (mK .none)))
def f_never_below : List D → Res D := fnM 1 m_never_below
theorem sc_never_below : FnScope (["table"] : List Str) (["table"] : List Str) (defScope (top 49)) := ⟨rfl, rfl, rfl, by decide +kernel, rfl, by decide +kernel, by decide +kernel⟩
theorem ok_never_below (D : DefIs K mg "never_below" (top 49)) (B : Bl mg) (D_gone_through : DefOk Pr w K mg base xc "gone_through" 6 ["table"] f_gone_through) : DefOk Pr w K mg base xc "never_below" 7 ["table"] f_never_below := by
  have nd : (["table"] : List Str).Nodup := sc_never_below.nd
  exact def_ok (k := 6) D sc_never_below (by decide) (fun _ _ _ _ _ _ us hl => match us, hl with | [_], _ => rfl) fun fa cdv A outer s H E O hr tk po => by
    have hu := room_u hr
    exact (rss_one (rs_ret (re_cmp op_isN r_is rfl (re_ix (re_callF D_gone_through hr (by decide) rfl tk (ra_cons (re_var (pv 0)) ra_nil) (aCons_len aNil_len)) re_int (fun _ _ => rfl)) re_non)))
def m_is_never_below : SM :=
  (sRet (mCall f_never_below (aCons (mCall f_sure_table (aCons (mVar 0) aNil)) aNil)))
def f_is_never_below : List D → Res D := fnM 1 m_is_never_below
theorem sc_is_never_below : FnScope (["table"] : List Str) (["table"] : List Str) (defScope (top 50)) := ⟨rfl, rfl, rfl, by decide +kernel, rfl, by decide +kernel, by decide +kernel⟩
theorem ok_is_never_below (D : DefIs K mg "is_never_below" (top 50)) (B : Bl mg) (D_never_below : DefOk Pr w K mg base xc "never_below" 7 ["table"] f_never_below) (D_sure_table : DefOk Pr w K mg base xc "sure_table" 7 ["table"] f_sure_table) : DefOk Pr w K mg base xc "is_never_below" 8 ["table"] f_is_never_below := by
  have nd : (["table"] : List Str).Nodup := sc_is_never_below.nd
  exact def_ok (k := 7) D sc_is_never_below (by decide) (fun _ _ _ _ _ _ us hl => match us, hl with | [_], _ => rfl) fun fa cdv A outer s H E O hr tk po => by
    have hu := room_u hr
    exact (rss_one (rs_ret (re_callF D_never_below hr (by decide) rfl tk (ra_cons (re_callF D_sure_table hr (by decide) rfl tk (ra_cons (re_var (pv 0)) ra_nil) (aCons_len aNil_len)) ra_nil) (aCons_len aNil_len))))
def m_sure_never_below : SM :=
  (mSeq (sSet 1 (mCall f_sure_table (aCons (mVar 0) aNil)))
  (mSeq (sIf (bNot (bOf (mCall f_never_below (aCons (mVar 1) aNil)))) (sExc 1) sNext)
  (sRet (mVar 1))))
def f_sure_never_below : List D → Res D := fnM 2 m_sure_never_below
theorem sc_sure_never_below : FnScope (["table", "own"] : List Str) (["table"] : List Str) (defScope (top 52)) := ⟨rfl, rfl, rfl, by decide +kernel, rfl, by decide +kernel, by decide +kernel⟩
theorem ok_sure_never_below (D : DefIs K mg "sure_never_below" (top 52)) (B : Bl mg) (X_Unfit : Exo K mg "Unfit" (xc 1)) (D_sure_table : DefOk Pr w K mg base xc "sure_table" 7 ["table"] f_sure_table) (D_never_below : DefOk Pr w K mg base xc "never_below" 7 ["table"] f_never_below) : DefOk Pr w K mg base xc "sure_never_below" 8 ["table"] f_sure_never_below := by
  have nd : (["table", "own"] : List Str).Nodup := sc_sure_never_below.nd
  exact def_ok (k := 7) D sc_sure_never_below (by decide) (fun _ _ _ _ _ _ us hl => match us, hl with | [_], _ => rfl) fun fa cdv A outer s H E O hr tk po => by
    have hu := room_u hr
    exact (rss_cons (rs_set (i := 1) nd rfl (Or.inl rfl) (re_callF D_sure_table hr (by decide) rfl tk (ra_cons (re_var (pv 0)) ra_nil) (aCons_len aNil_len)))
  (rss_cons (rs_if (rt_not (rt_val (re_callF D_never_below hr (by decide) rfl tk (ra_cons (re_var (pv 1)) ra_nil) (aCons_len aNil_len)))) (rss_one (rs_raiseO (c := 1) X_Unfit rfl rfl tk)) rss_nil)
  (rss_one (rs_ret (re_var (pv 1))))))
def m_rank_in : SM :=
  (sRet (mCall bLen (aCons (mOp fIx (mCall f_reduced (aCons (mVar 0) (aCons (mCall bLen (aCons (mVar 0) aNil)) aNil))) (mK (.int 1))) aNil)))
def f_rank_in : List D → Res D := fnM 1 m_rank_in
theorem sc_rank_in : FnScope (["table"] : List Str) (["table"] : List Str) (defScope (top 53)) := ⟨rfl, rfl, rfl, by decide +kernel, rfl, by decide +kernel, by decide +kernel⟩
theorem ok_rank_in (D : DefIs K mg "rank_in" (top 53)) (B : Bl mg) (D_reduced : DefOk Pr w K mg base xc "reduced" 5 ["rows", "size"] f_reduced) : DefOk Pr w K mg base xc "rank_in" 6 ["table"] f_rank_in := by
  have nd : (["table"] : List Str).Nodup := sc_rank_in.nd
  exact def_ok (k := 5) D sc_rank_in (by decide) (fun _ _ _ _ _ _ us hl => match us, hl with | [_], _ => rfl) fun fa cdv A outer s H E O hr tk po => by
    have hu := room_u hr
    exact (rss_one (rs_ret (re_callB call_len rc_len rfl B.len (by decide +kernel) (ra_cons (re_ix (re_callF D_reduced hr (by decide) rfl tk (ra_cons (re_var (pv 0)) (ra_cons (re_callB call_len rc_len rfl B.len (by decide +kernel) (ra_cons (re_var (pv 0)) ra_nil)) ra_nil)) (aCons_len (aCons_len aNil_len))) re_int (fun _ _ => rfl)) ra_nil))))
def m_rank_of : SM :=
  (sRet (mCall f_rank_in (aCons (mCall f_sure_table (aCons (mVar 0) aNil)) aNil)))
def f_rank_of : List D → Res D := fnM 1 m_rank_of
theorem sc_rank_of : FnScope (["table"] : List Str) (["table"] : List Str) (defScope (top 54)) := ⟨rfl, rfl, rfl, by decide +kernel, rfl, by decide +kernel, by decide +kernel⟩
theorem ok_rank_of (D : DefIs K mg "rank_of" (top 54)) (B : Bl mg) (D_rank_in : DefOk Pr w K mg base xc "rank_in" 6 ["table"] f_rank_in) (D_sure_table : DefOk Pr w K mg base xc "sure_table" 7 ["table"] f_sure_table) : DefOk Pr w K mg base xc "rank_of" 8 ["table"] f_rank_of := by
  have nd : (["table"] : List Str).Nodup := sc_rank_of.nd
  exact def_ok (k := 7) D sc_rank_of (by decide) (fun _ _ _ _ _ _ us hl => match us, hl with | [_], _ => rfl) fun fa cdv A outer s H E O hr tk po => by
    have hu := room_u hr
    exact (rss_one (rs_ret (re_callF D_rank_in hr (by decide) rfl tk (ra_cons (re_callF D_sure_table hr (by decide) rfl tk (ra_cons (re_var (pv 0)) ra_nil) (aCons_len aNil_len)) ra_nil) (aCons_len aNil_len))))
def m_ties_in : SM :=
  (mSeq (sSet 1 (mCall bLen (aCons (mVar 0) aNil)))
  (mSeq (sUnp (bTup 3 (bCons (bName 2) (bCons (bName 3) (bCons (bName 4) bNil)))) (mCall f_reduced (aCons (mVar 0) (aCons (mVar 1) aNil))))
  (mSeq (sOwn 5 (nOf (nLst aNil)))
  (mSeq (sFor (iSeq (asList (lcOut (bName 6) (bOf (mOp (fIn true) (mVar 6) (mVar 3))) (mVar 6) [6] (iRng (aCons (mVar 1) aNil))))) (bName 7) (mSeq (sOwn 8 (nOf (lcOut (bName 6) bTrue (mIf (bOf (mOp fEq (mVar 6) (mVar 7))) (mK (.tuple [.int 1, .int 1])) (mK (.tuple [.int 0, .int 1]))) [6] (iRng (aCons (mVar 1) aNil)))))
  (mSeq (sFor (iZp (aCons (mVar 3) (aCons (mVar 2) aNil))) (bTup 2 (bCons (bName 6) (bCons (bName 9) bNil))) (sAsg (wSto 8 (mVar 6)) (mCall f_opposite (aCons (mOp fIx (mVar 9) (mVar 7)) aNil))))
  (sFrz [8] (sApp 5 (mVar 8))))))
  (mSeq (sFrz [5] (sUnp (bTup 3 (bCons (bName 10) (bCons (bName 11) (bCons (bName 4) bNil)))) (mCall f_reduced (aCons (mVar 5) (aCons (mVar 1) aNil)))))
  (sFrzA (sRet (mCall bTuple (aCons (asList (lcOut (bName 8) bTrue (mCall bTuple (aCons (mVar 8) aNil)) [8] (iSeq (mCut oNone (oSome (mCall bLen (aCons (mVar 11) aNil))) (mVar 10))))) aNil)))))))))
def f_ties_in : List D → Res D := fnM 12 m_ties_in
theorem sc_ties_in : FnScope (["table", "size", "found", "places", "_", "rows", "place", "free", "row", "own", "low", "spots"] : List Str) (["table"] : List Str) (defScope (top 55)) := ⟨rfl, rfl, rfl, by decide +kernel, rfl, by decide +kernel, by decide +kernel⟩
theorem ok_ties_in (D : DefIs K mg "ties_in" (top 55)) (B : Bl mg) (h_ONE : Pr2 K mg "ONE" 1 1) (h_NIL : Pr2 K mg "NIL" 0 1) (D_reduced : DefOk Pr w K mg base xc "reduced" 5 ["rows", "size"] f_reduced) (D_opposite : DefOk Pr w K mg base xc "opposite" 1 ["number"] f_opposite) : DefOk Pr w K mg base xc "ties_in" 6 ["table"] f_ties_in := by
  have nd : (["table", "size", "found", "places", "_", "rows", "place", "free", "row", "own", "low", "spots"] : List Str).Nodup := sc_ties_in.nd
  exact def_ok (k := 5) D sc_ties_in (by decide) (fun _ _ _ _ _ _ us hl => match us, hl with | [_], _ => rfl) fun fa cdv A outer s H E O hr tk po => by
    have hu := room_u hr
    exact (rss_cons (rs_set (i := 1) nd rfl (Or.inl rfl) (re_callB call_len rc_len rfl B.len (by decide +kernel) (ra_cons (re_var (pv 0)) ra_nil)))
  (rss_cons (rs_unp (re_callF D_reduced hr (by decide) rfl tk (ra_cons (re_var (pv 0)) (ra_cons (re_var (pv 1)) ra_nil)) (aCons_len (aCons_len aNil_len))) (pg_tup (n := 3) rfl (pgs_cons (pg_name (i := 2) nd rfl (Or.inl rfl)) (pgs_cons (pg_name (i := 3) nd rfl (Or.inr rfl)) (pgs_cons (pg_name (i := 4) nd rfl (Or.inl rfl)) pgs_nil)))) (bg_tup (n := 3) (bgs_cons (bg_name 2) (bgs_cons (bg_name 3) (bgs_cons (bg_name 4) bgs_nil)))))
  (rss_cons (rs_own (i := 5) nd rfl (Or.inl rfl) (ren_of (reF_lst ra_nil)))
  (rss_cons (rs_for po rfl (ri_seq (re_of_new (reF_lc (own := [("place", 6)]) rfl nd (ric_of (ri_range1 rfl B.range (ra_cons (re_var (pv 1)) ra_nil) (aCons_len aNil_len))) (blk_of (by kernel_rfl)) (bg_name 6) (by decide) (fun s H C cl fp => (pg_name (i := 6) nd rfl (Or.inl rfl))) (fun s H C cl fp => (rts_one (rt_cmp (op_notInC hu) (r_in true) rfl (re_var (pv 6)) (re_var (pv 3))))) (fun s H C cl fp => (re_var (pv 6)))))) (pg_name (i := 7) nd rfl (Or.inr rfl)) (bg_name 7) (rss_cons (rs_lc_O (own := [("place", 6)]) rfl nd rfl rfl rfl rfl rfl (ric_of (ri_range1 rfl B.range (ra_cons (re_var (pv 1)) ra_nil) (aCons_len aNil_len))) (blk_of (by kernel_rfl)) (bg_name 6) (by decide) (fun s H C cl fp => (pg_name (i := 6) nd rfl (Or.inl rfl))) (fun s H C cl fp => rts_nil) (fun s H C cl fp => (re_if (rt_cmp (op_eqC hu) r_eq rfl (re_var (pv 6)) (re_var (pv 7))) (re_pr2 rfl h_ONE) (re_pr2 rfl h_NIL))))
  (rss_cons (rs_for po rfl (ri_zip rfl B.zip (ra_cons (re_var (pv 3)) (ra_cons (re_var (pv 2)) ra_nil))) (pg_tup (n := 2) rfl (pgs_cons (pg_name (i := 6) nd rfl (Or.inl rfl)) (pgs_cons (pg_name (i := 9) nd rfl (Or.inl rfl)) pgs_nil))) (bg_tup (n := 2) (bgs_cons (bg_name 6) (bgs_cons (bg_name 9) bgs_nil))) (rss_one (rs_asgW (re_callF D_opposite hr (by decide) rfl tk (ra_cons (re_ix (re_var (pv 9)) (re_var (pv 7)) (fun _ _ => rfl)) ra_nil) (aCons_len aNil_len)) (pg_sub (pv 8) (re_var (pv 6)) set_list) (bw_sto 8))))
  (rss_one (rs_frz [8] (rs_app (pv 5) (re_var (pv 8))))))))
  (rss_cons (rs_frz [5] (rs_unp (re_callF D_reduced hr (by decide) rfl tk (ra_cons (re_var (pv 5)) (ra_cons (re_var (pv 1)) ra_nil)) (aCons_len (aCons_len aNil_len))) (pg_tup (n := 3) rfl (pgs_cons (pg_name (i := 10) nd rfl (Or.inl rfl)) (pgs_cons (pg_name (i := 11) nd rfl (Or.inl rfl)) (pgs_cons (pg_name (i := 4) nd rfl (Or.inl rfl)) pgs_nil)))) (bg_tup (n := 3) (bgs_cons (bg_name 10) (bgs_cons (bg_name 11) (bgs_cons (bg_name 4) bgs_nil))))))
  (rss_one (rs_frzA (rs_ret (re_callTy call_tuple_of rc_tuple rfl B.tuple (by decide +kernel) (ra_cons (re_of_new (reF_lc (own := [("row", 8)]) rfl nd (ric_of (ri_seq (re_slice (re_var (pv 10)) ro_none (ro_some (re_callB call_len rc_len rfl B.len (by decide +kernel) (ra_cons (re_var (pv 11)) ra_nil)))))) (blk_of (by kernel_rfl)) (bg_name 8) (by decide) (fun s H C cl fp => (pg_name (i := 8) nd rfl (Or.inl rfl))) (fun s H C cl fp => rts_nil) (fun s H C cl fp => (re_callTy call_tuple_of rc_tuple rfl B.tuple (by decide +kernel) (ra_cons (re_var (pv 8)) ra_nil))))) ra_nil))))))))))
def m_ties_of : SM :=
  (sRet (mCall f_ties_in (aCons (mCall f_sure_never_below (aCons (mVar 0) aNil)) aNil)))
def f_ties_of : List D → Res D := fnM 1 m_ties_of
theorem sc_ties_of : FnScope (["table"] : List Str) (["table"] : List Str) (defScope (top 56)) := ⟨rfl, rfl, rfl, by decide +kernel, rfl, by decide +kernel, by decide +kernel⟩
theorem ok_ties_of (D : DefIs K mg "ties_of" (top 56)) (B : Bl mg) (D_ties_in : DefOk Pr w K mg base xc "ties_in" 6 ["table"] f_ties_in) (D_sure_never_below : DefOk Pr w K mg base xc "sure_never_below" 8 ["table"] f_sure_never_below) : DefOk Pr w K mg base xc "ties_of" 9 ["table"] f_ties_of := by
  have nd : (["table"] : List Str).Nodup := sc_ties_of.nd
  exact def_ok (k := 8) D sc_ties_of (by decide) (fun _ _ _ _ _ _ us hl => match us, hl with | [_], _ => rfl) fun fa cdv A outer s H E O hr tk po => by
    have hu := room_u hr
    exact (rss_one (rs_ret (re_callF D_ties_in hr (by decide) rfl tk (ra_cons (re_callF D_sure_never_below hr (by decide) rfl tk (ra_cons (re_var (pv 0)) ra_nil) (aCons_len aNil_len)) ra_nil) (aCons_len aNil_len))))
def m_solve : SM :=
  (mSeq (sSet 2 (mCall bLen (aCons (mVar 0) aNil)))
  (mSeq (sUnp (bTup 3 (bCons (bName 4) (bCons (bName 5) (bCons (bName 6) bNil)))) (mCall f_reduced (aCons (asList (lcOut (bTup 2 (bCons (bName 3) (bCons (bName 9) bNil))) bTrue (mOp fAddX (mVar 3) (mTup (aCons (mVar 9) aNil))) [3, 9] (iZp (aCons (mVar 0) (aCons (mVar 1) aNil))))) (aCons (mVar 2) aNil))))
  (mSeq (sIf (bOf (mOp fNe (asList (lcOut (bName 3) (bOf (mOp fNe (mOp fIx (mVar 3) (mVar 2)) (mK (.tuple [.int 0, .int 1])))) (mVar 3) [3] (iSeq (mCut (oSome (mCall bLen (aCons (mVar 5) aNil))) oNone (mVar 4))))) (mLst aNil))) (sFrzA (sRet (mK .none))) sNext)
  (mSeq (sOwn 7 (nOf (nRep (mLst (aCons (mK (.tuple [.int 0, .int 1])) aNil)) (mVar 2))))
  (mSeq (sFor (iZp (aCons (mVar 5) (aCons (mVar 4) aNil))) (bTup 2 (bCons (bName 8) (bCons (bName 3) bNil))) (sAsg (wSto 7 (mVar 8)) (mOp fIx (mVar 3) (mVar 2))))
  (sFrzA (sRet (mCall bTuple (aCons (mVar 7) aNil)))))))))
def f_solve : List D → Res D := fnM 10 m_solve
theorem sc_solve : FnScope (["rows", "row", "size", "own", "found", "places", "_", "answer", "place", "part"] : List Str) (["rows", "row"] : List Str) (defScope (top 57)) := ⟨rfl, rfl, rfl, by decide +kernel, rfl, by decide +kernel, by decide +kernel⟩
theorem ok_solve (D : DefIs K mg "solve" (top 57)) (B : Bl mg) (h_NIL : Pr2 K mg "NIL" 0 1) (D_reduced : DefOk Pr w K mg base xc "reduced" 5 ["rows", "size"] f_reduced) : DefOk Pr w K mg base xc "solve" 6 ["rows", "row"] f_solve := by
  have nd : (["rows", "row", "size", "own", "found", "places", "_", "answer", "place", "part"] : List Str).Nodup := sc_solve.nd
  exact def_ok (k := 5) D sc_solve (by decide) (fun _ _ _ _ _ _ us hl => match us, hl with | [_, _], _ => rfl) fun fa cdv A outer s H E O hr tk po => by
    have hu := room_u hr
    exact (rss_cons (rs_set (i := 2) nd rfl (Or.inr rfl) (re_callB call_len rc_len rfl B.len (by decide +kernel) (ra_cons (re_var (pv 0)) ra_nil)))
  (rss_cons (rs_unp (re_callF D_reduced hr (by decide) rfl tk (ra_cons (re_of_new (reF_lc (own := [("own", 3), ("part", 9)]) rfl nd (ric_of (ri_zip rfl B.zip (ra_cons (re_var (pv 0)) (ra_cons (re_var (pv 1)) ra_nil)))) (blk_of (by kernel_rfl)) (bg_tup (n := 2) (bgs_cons (bg_name 3) (bgs_cons (bg_name 9) bgs_nil))) (by decide) (fun s H C cl fp => (pg_tup (n := 2) rfl (pgs_cons (pg_name (i := 3) nd rfl (Or.inl rfl)) (pgs_cons (pg_name (i := 9) nd rfl (Or.inl rfl)) pgs_nil)))) (fun s H C cl fp => rts_nil) (fun s H C cl fp => (re_op op_addX r_addX (re_var (pv 3)) (re_tup (ra_cons (re_var (pv 9)) ra_nil)))))) (ra_cons (re_var (pv 2)) ra_nil)) (aCons_len (aCons_len aNil_len))) (pg_tup (n := 3) rfl (pgs_cons (pg_name (i := 4) nd rfl (Or.inl rfl)) (pgs_cons (pg_name (i := 5) nd rfl (Or.inl rfl)) (pgs_cons (pg_name (i := 6) nd rfl (Or.inl rfl)) pgs_nil)))) (bg_tup (n := 3) (bgs_cons (bg_name 4) (bgs_cons (bg_name 5) (bgs_cons (bg_name 6) bgs_nil)))))
  (rss_cons (rs_if (rt_cmp (op_neC hu) r_ne rfl (re_of_new (reF_lc (own := [("own", 3)]) rfl nd (ric_of (ri_seq (re_slice (re_var (pv 4)) (ro_some (re_callB call_len rc_len rfl B.len (by decide +kernel) (ra_cons (re_var (pv 5)) ra_nil))) ro_none))) (blk_of (by kernel_rfl)) (bg_name 3) (by decide) (fun s H C cl fp => (pg_name (i := 3) nd rfl (Or.inl rfl))) (fun s H C cl fp => (rts_one (rt_cmp (op_neC hu) r_ne rfl (re_ix (re_var (pv 3)) (re_var (pv 2)) (fun _ _ => rfl)) (re_pr2 rfl h_NIL)))) (fun s H C cl fp => (re_var (pv 3))))) (re_lst ra_nil)) (rss_one (rs_frzA (rs_ret re_non))) rss_nil)
  (rss_cons (rs_own (i := 7) nd rfl (Or.inl rfl) (ren_of (reF_rep (re_lst (ra_cons (re_pr2 rfl h_NIL) ra_nil)) (re_var (pv 2)))))
  (rss_cons (rs_for po rfl (ri_zip rfl B.zip (ra_cons (re_var (pv 5)) (ra_cons (re_var (pv 4)) ra_nil))) (pg_tup (n := 2) rfl (pgs_cons (pg_name (i := 8) nd rfl (Or.inl rfl)) (pgs_cons (pg_name (i := 3) nd rfl (Or.inl rfl)) pgs_nil))) (bg_tup (n := 2) (bgs_cons (bg_name 8) (bgs_cons (bg_name 3) bgs_nil))) (rss_one (rs_asgW (re_ix (re_var (pv 3)) (re_var (pv 2)) (fun _ _ => rfl)) (pg_sub (pv 7) (re_var (pv 8)) set_list) (bw_sto 7))))
  (rss_one (rs_frzA (rs_ret (re_callTy call_tuple_of rc_tuple rfl B.tuple (by decide +kernel) (ra_cons (re_var (pv 7)) ra_nil))))))))))
def m_web_in : SM :=
  (mSeq (sSet 1 (mCall bLen (aCons (mVar 0) aNil)))
  (sRet (mTup (aCons (mVar 1) (aCons (mCall bTuple (aCons (asList (lcOut (bTup 2 (bCons (bName 2) (bCons (bName 3) bNil))) (bOf (mOp fIsNot (mOp fIx (mOp fIx (mVar 0) (mVar 2)) (mVar 3)) (mK .none))) (mTup (aCons (mVar 2) (aCons (mVar 3) aNil))) [2, 3] (iSeq (mCall f_pairs_below (aCons (mVar 1) aNil))))) aNil)) aNil)))))
def f_web_in : List D → Res D := fnM 4 m_web_in
theorem sc_web_in : FnScope (["told", "size", "k", "j"] : List Str) (["told"] : List Str) (defScope (top 59)) := ⟨rfl, rfl, rfl, by decide +kernel, rfl, by decide +kernel, by decide +kernel⟩
theorem ok_web_in (D : DefIs K mg "web_in" (top 59)) (B : Bl mg) (D_pairs_below : DefOk Pr w K mg base xc "pairs_below" 1 ["size"] f_pairs_below) : DefOk Pr w K mg base xc "web_in" 2 ["told"] f_web_in := by
  have nd : (["told", "size", "k", "j"] : List Str).Nodup := sc_web_in.nd
  exact def_ok (k := 1) D sc_web_in (by decide) (fun _ _ _ _ _ _ us hl => match us, hl with | [_], _ => rfl) fun fa cdv A outer s H E O hr tk po => by
    have hu := room_u hr
    exact (rss_cons (rs_set (i := 1) nd rfl (Or.inl rfl) (re_callB call_len rc_len rfl B.len (by decide +kernel) (ra_cons (re_var (pv 0)) ra_nil)))
  (rss_one (rs_ret (re_tup (ra_cons (re_var (pv 1)) (ra_cons (re_callTy call_tuple_of rc_tuple rfl B.tuple (by decide +kernel) (ra_cons (re_of_new (reF_lc (own := [("k", 2), ("j", 3)]) rfl nd (ric_of (ri_seq (re_callF D_pairs_below hr (by decide) rfl tk (ra_cons (re_var (pv 1)) ra_nil) (aCons_len aNil_len)))) (blk_of (by kernel_rfl)) (bg_tup (n := 2) (bgs_cons (bg_name 2) (bgs_cons (bg_name 3) bgs_nil))) (by decide) (fun s H C cl fp => (pg_tup (n := 2) rfl (pgs_cons (pg_name (i := 2) nd rfl (Or.inl rfl)) (pgs_cons (pg_name (i := 3) nd rfl (Or.inl rfl)) pgs_nil)))) (fun s H C cl fp => (rts_one (rt_cmp op_notN r_isNot rfl (re_ix (re_ix (re_var (pv 0)) (re_var (pv 2)) (fun _ _ => rfl)) (re_var (pv 3)) (fun _ _ => rfl)) re_non))) (fun s H C cl fp => (re_tup (ra_cons (re_var (pv 2)) (ra_cons (re_var (pv 3)) ra_nil)))))) ra_nil)) ra_nil))))))
def m_tied_lots : SM :=
  (mSeq (sUnp (bTup 2 (bCons (bName 1) (bCons (bName 2) bNil))) (mVar 0))
  (mSeq (sOwn 3 (lcOutR (bName 6) bTrue (nLst aNil) [6] (iRng (aCons (mVar 1) aNil))))
  (mSeq (sFor (iSeq (mVar 2)) (bTup 2 (bCons (bName 4) (bCons (bName 5) bNil))) (mSeq (sRowApp 3 (mVar 4) (mVar 5))
  (sRowApp 3 (mVar 5) (mVar 4))))
  (sFrzA (sRet (asList (lcOut (bName 7) bTrue (mCall bSorted (aCons (mVar 7) aNil)) [7] (iSeq (mVar 3)))))))))
def f_tied_lots : List D → Res D := fnM 8 m_tied_lots
theorem sc_tied_lots : FnScope (["web", "size", "pairs", "found", "one", "other", "_", "row"] : List Str) (["web"] : List Str) (defScope (top 60)) := ⟨rfl, rfl, rfl, by decide +kernel, rfl, by decide +kernel, by decide +kernel⟩
theorem ok_tied_lots (D : DefIs K mg "tied_lots" (top 60)) (B : Bl mg) : DefOk Pr w K mg base xc "tied_lots" 1 ["web"] f_tied_lots := by
  have nd : (["web", "size", "pairs", "found", "one", "other", "_", "row"] : List Str).Nodup := sc_tied_lots.nd
  exact def_ok (k := 0) D sc_tied_lots (by decide) (fun _ _ _ _ _ _ us hl => match us, hl with | [_], _ => rfl) fun fa cdv A outer s H E O hr tk po => by
    have hu := room_u hr
    exact (rss_cons (rs_unp (re_var (pv 0)) (pg_tup (n := 2) rfl (pgs_cons (pg_name (i := 1) nd rfl (Or.inl rfl)) (pgs_cons (pg_name (i := 2) nd rfl (Or.inl rfl)) pgs_nil))) (bg_tup (n := 2) (bgs_cons (bg_name 1) (bgs_cons (bg_name 2) bgs_nil))))
  (rss_cons (rs_lc_R (own := [("_", 6)]) rfl nd rfl rfl rfl rfl rfl (ric_of (ri_range1 rfl B.range (ra_cons (re_var (pv 1)) ra_nil) (aCons_len aNil_len))) (blk_of (by kernel_rfl)) (bg_name 6) (by decide) (fun s H C cl fp => (pg_name (i := 6) nd rfl (Or.inl rfl))) (fun s H C cl fp => rts_nil) (fun s H C cl fp => (reF_lst ra_nil)))
  (rss_cons (rs_for po rfl (ri_seq (re_var (pv 2))) (pg_tup (n := 2) rfl (pgs_cons (pg_name (i := 4) nd rfl (Or.inl rfl)) (pgs_cons (pg_name (i := 5) nd rfl (Or.inl rfl)) pgs_nil))) (bg_tup (n := 2) (bgs_cons (bg_name 4) (bgs_cons (bg_name 5) bgs_nil))) (rss_cons (rs_rowApp (pv 3) (re_var (pv 4)) (fun _ _ => rfl) (re_var (pv 5)))
  (rss_one (rs_rowApp (pv 3) (re_var (pv 5)) (fun _ _ => rfl) (re_var (pv 4))))))
  (rss_one (rs_frzA (rs_ret (re_of_new (reF_lc (own := [("row", 7)]) rfl nd (ric_of (ri_seq (re_var (pv 3)))) (blk_of (by kernel_rfl)) (bg_name 7) (by decide) (fun s H C cl fp => (pg_name (i := 7) nd rfl (Or.inl rfl))) (fun s H C cl fp => rts_nil) (fun s H C cl fp => (re_callB (cr_sortedD hu) rc_sorted rfl B.sorted (by decide +kernel) (ra_cons (re_var (pv 7)) ra_nil)))))))))))
def m_is_full_in : SM :=
  (mSeq (sFor (iSeq (mVar 1)) (bName 2) (sIf (bNot (bOf (mCall bAll (aCons (asList (lcOut (bName 3) (bOf (mOp fNe (mVar 2) (mVar 3))) (mOp (fIn false) (mVar 3) (mOp fIx (mVar 0) (mVar 2))) [3] (iSeq (mVar 1)))) aNil)))) (sRet (mK (.bool false))) sNext))
  (sRet (mK (.bool true))))
def f_is_full_in : List D → Res D := fnM 4 m_is_full_in
theorem sc_is_full_in : FnScope (["ties", "lot", "one", "other"] : List Str) (["ties", "lot"] : List Str) (defScope (top 61)) := ⟨rfl, rfl, rfl, by decide +kernel, rfl, by decide +kernel, by decide +kernel⟩
theorem ok_is_full_in (D : DefIs K mg "is_full_in" (top 61)) (B : Bl mg) : DefOk Pr w K mg base xc "is_full_in" 1 ["ties", "lot"] f_is_full_in := by
  have nd : (["ties", "lot", "one", "other"] : List Str).Nodup := sc_is_full_in.nd
  exact def_ok (k := 0) D sc_is_full_in (by decide) (fun _ _ _ _ _ _ us hl => match us, hl with | [_, _], _ => rfl) fun fa cdv A outer s H E O hr tk po => by
    have hu := room_u hr
    exact (rss_cons (rs_for po rfl (ri_seq (re_var (pv 1))) (pg_name (i := 2) nd rfl (Or.inr rfl)) (bg_name 2) (rss_one (rs_if (rt_not (rt_val (re_callB (cr_all rfl) rc_all rfl B.all (by decide +kernel) (ra_cons (re_of_new (reF_lc (own := [("other", 3)]) rfl nd (ric_of (ri_seq (re_var (pv 1)))) (blk_of (by kernel_rfl)) (bg_name 3) (by decide) (fun s H C cl fp => (pg_name (i := 3) nd rfl (Or.inl rfl))) (fun s H C cl fp => (rts_one (rt_cmp (op_neC hu) r_ne rfl (re_var (pv 2)) (re_var (pv 3))))) (fun s H C cl fp => (re_cmp (op_inC hu) (r_in false) rfl (re_var (pv 3)) (re_ix (re_var (pv 0)) (re_var (pv 2)) (fun _ _ => rfl)))))) ra_nil)))) (rss_one (rs_ret re_bl)) rss_nil)))
  (rss_one (rs_ret re_bl)))
def m_leavers_in : SM :=
  (sRet (asList (lcOut (bName 2) (bOf (mCall f_is_full_in (aCons (mVar 0) (aCons (asList (lcOut (bName 3) (bOf (mOp (fIn false) (mVar 3) (mVar 1))) (mVar 3) [3] (iSeq (mOp fIx (mVar 0) (mVar 2))))) aNil)))) (mVar 2) [2] (iSeq (mVar 1)))))
def f_leavers_in : List D → Res D := fnM 4 m_leavers_in
theorem sc_leavers_in : FnScope (["ties", "there", "one", "other"] : List Str) (["ties", "there"] : List Str) (defScope (top 62)) := ⟨rfl, rfl, rfl, by decide +kernel, rfl, by decide +kernel, by decide +kernel⟩
theorem ok_leavers_in (D : DefIs K mg "leavers_in" (top 62)) (B : Bl mg) (D_is_full_in : DefOk Pr w K mg base xc "is_full_in" 1 ["ties", "lot"] f_is_full_in) : DefOk Pr w K mg base xc "leavers_in" 2 ["ties", "there"] f_leavers_in := by
  have nd : (["ties", "there", "one", "other"] : List Str).Nodup := sc_leavers_in.nd
  exact def_ok (k := 1) D sc_leavers_in (by decide) (fun _ _ _ _ _ _ us hl => match us, hl with | [_, _], _ => rfl) fun fa cdv A outer s H E O hr tk po => by
    have hu := room_u hr
    exact (rss_one (rs_ret (re_of_new (reF_lc (own := [("one", 2)]) rfl nd (ric_of (ri_seq (re_var (pv 1)))) (blk_of (by kernel_rfl)) (bg_name 2) (by decide) (fun s H C cl fp => (pg_name (i := 2) nd rfl (Or.inl rfl))) (fun s H C cl fp => (rts_one (rt_val (re_callF D_is_full_in hr (by decide) rfl takes0 (ra_cons (re_var (pv 0)) (ra_cons (re_of_new (reF_lc (own := [("other", 3)]) rfl nd (ric_of (ri_seq (re_ix (re_var (pv 0)) (re_var (pv 2)) (fun _ _ => rfl)))) (blk_of (by kernel_rfl)) (bg_name 3) (by decide) (fun s H C cl fp => (pg_name (i := 3) nd rfl (Or.inl rfl))) (fun s H C cl fp => (rts_one (rt_cmp (op_inC hu) (r_in false) rfl (re_var (pv 3)) (re_var (pv 1))))) (fun s H C cl fp => (re_var (pv 3))))) ra_nil)) (aCons_len (aCons_len aNil_len)))))) (fun s H C cl fp => (re_var (pv 2)))))))
def m_order_in : SM :=
  (mSeq (sPar [1, 2, 3] (xVal (mCall f_tied_lots (aCons (mVar 0) aNil)) (xVal (asList (nLR1 (mOp fIx (mVar 0) (mK (.int 0))))) (xOwn (nOf (nLst aNil)) xNil))))
  (mSeq (sWhile 100 (bOf (mOp fNe (mVar 2) (mLst aNil))) (mSeq (sSet 4 (mCall f_leavers_in (aCons (mVar 1) (aCons (mVar 2) aNil))))
  (mSeq (sIf (bOf (mOp fEq (mVar 4) (mLst aNil))) (sFrzA (sRet (mK .none))) sNext)
  (mSeq (sApp 3 (mOp fIx (mVar 4) (mK (.int 0))))
  (sSet 2 (asList (lcOut (bName 5) (bOf (mOp fNe (mVar 5) (mOp fIx (mVar 4) (mK (.int 0))))) (mVar 5) [5] (iSeq (mVar 2)))))))))
  (sFrzA (sRet (mCall bTuple (aCons (mVar 3) aNil))))))
def f_order_in : List D → Res D := fnM 6 m_order_in
theorem sc_order_in : FnScope (["web", "ties", "there", "found", "goods", "one"] : List Str) (["web"] : List Str) (defScope (top 63)) := ⟨rfl, rfl, rfl, by decide +kernel, rfl, by decide +kernel, by decide +kernel⟩
theorem ok_order_in (D : DefIs K mg "order_in" (top 63)) (B : Bl mg) (D_tied_lots : DefOk Pr w K mg base xc "tied_lots" 1 ["web"] f_tied_lots) (D_leavers_in : DefOk Pr w K mg base xc "leavers_in" 2 ["ties", "there"] f_leavers_in) : DefOk Pr w K mg base xc "order_in" 3 ["web"] f_order_in := by
  have nd : (["web", "ties", "there", "found", "goods", "one"] : List Str).Nodup := sc_order_in.nd
  exact def_ok (k := 2) D sc_order_in (by decide) (fun _ _ _ _ _ _ us hl => match us, hl with | [_], _ => rfl) fun fa cdv A outer s H E O hr tk po => by
    have hu := room_u hr
    exact (rss_cons (rs_par3 rfl nd rfl rfl rfl (by decide) (by decide) (by decide) rfl rfl rfl (rx_val (re_callF D_tied_lots hr (by decide) rfl tk (ra_cons (re_var (pv 0)) ra_nil) (aCons_len aNil_len)) (rx_val (re_of_new (reF_lr1 rfl rfl B.list rfl B.range (re_ix (re_var (pv 0)) re_int (fun _ _ => rfl)))) (rx_own (ren_of (reF_lst ra_nil)) rx_nil))) rfl)
  (rss_cons (rs_while 100 po (rt_cmp (op_neC hu) r_ne rfl (re_var (pv 2)) (re_lst ra_nil)) (rss_cons (rs_set (i := 4) nd rfl (Or.inr rfl) (re_callF D_leavers_in hr (by decide) rfl tk (ra_cons (re_var (pv 1)) (ra_cons (re_var (pv 2)) ra_nil)) (aCons_len (aCons_len aNil_len))))
  (rss_cons (rs_if (rt_cmp (op_eqC hu) r_eq rfl (re_var (pv 4)) (re_lst ra_nil)) (rss_one (rs_frzA (rs_ret re_non))) rss_nil)
  (rss_cons (rs_app (pv 3) (re_ix (re_var (pv 4)) re_int (fun _ _ => rfl)))
  (rss_one (rs_lc_V (own := [("one", 5)]) rfl nd rfl rfl rfl rfl rfl (ric_of (ri_seq (re_var (pv 2)))) (blk_of (by kernel_rfl)) (bg_name 5) (by decide) (fun s H C cl fp => (pg_name (i := 5) nd rfl (Or.inl rfl))) (fun s H C cl fp => (rts_one (rt_cmp (op_neC hu) r_ne rfl (re_var (pv 5)) (re_ix (re_var (pv 4)) re_int (fun _ _ => rfl))))) (fun s H C cl fp => (re_var (pv 5)))))))))
  (rss_one (rs_frzA (rs_ret (re_callTy call_tuple_of rc_tuple rfl B.tuple (by decide +kernel) (ra_cons (re_var (pv 3)) ra_nil)))))))
def m_sure_chorded : SM :=
  (mSeq (sSet 1 (mCall f_sure_told (aCons (mVar 0) aNil)))
  (mSeq (sIf (bOf (mOp fIs (mCall f_order_in (aCons (mCall f_web_in (aCons (mVar 1) aNil)) aNil)) (mK .none))) (sExc 1) sNext)
  (sRet (mVar 1))))
def f_sure_chorded : List D → Res D := fnM 2 m_sure_chorded
theorem sc_sure_chorded : FnScope (["told", "own"] : List Str) (["told"] : List Str) (defScope (top 64)) := ⟨rfl, rfl, rfl, by decide +kernel, rfl, by decide +kernel, by decide +kernel⟩
theorem ok_sure_chorded (D : DefIs K mg "sure_chorded" (top 64)) (B : Bl mg) (X_Unfit : Exo K mg "Unfit" (xc 1)) (D_sure_told : DefOk Pr w K mg base xc "sure_told" 7 ["told"] f_sure_told) (D_order_in : DefOk Pr w K mg base xc "order_in" 3 ["web"] f_order_in) (D_web_in : DefOk Pr w K mg base xc "web_in" 2 ["told"] f_web_in) : DefOk Pr w K mg base xc "sure_chorded" 8 ["told"] f_sure_chorded := by
  have nd : (["told", "own"] : List Str).Nodup := sc_sure_chorded.nd
  exact def_ok (k := 7) D sc_sure_chorded (by decide) (fun _ _ _ _ _ _ us hl => match us, hl with | [_], _ => rfl) fun fa cdv A outer s H E O hr tk po => by
    have hu := room_u hr
    exact (rss_cons (rs_set (i := 1) nd rfl (Or.inl rfl) (re_callF D_sure_told hr (by decide) rfl tk (ra_cons (re_var (pv 0)) ra_nil) (aCons_len aNil_len)))
  (rss_cons (rs_if (rt_cmp op_isN r_is rfl (re_callF D_order_in hr (by decide) rfl tk (ra_cons (re_callF D_web_in hr (by decide) rfl tk (ra_cons (re_var (pv 1)) ra_nil) (aCons_len aNil_len)) ra_nil) (aCons_len aNil_len)) re_non) (rss_one (rs_raiseO (c := 1) X_Unfit rfl rfl tk)) rss_nil)
  (rss_one (rs_ret (re_var (pv 1))))))
def m_come_back : SM :=
  (mSeq (sPar [2, 3, 4] (xVal (mCall f_tied_lots (aCons (mCall f_web_in (aCons (mVar 0) aNil)) aNil)) (xOwn (lcOutR (bName 11) bTrue (nList (aCons (mVar 11) aNil)) [11] (iSeq (mVar 0))) (xOwn (nOf (nLst aNil)) xNil))))
  (mSeq (sFor (iSeq (mRev (mVar 1))) (bName 5) (mSeq (sSet 7 (asList (nBor (lcOut (bName 6) (bOf (mOp (fIn false) (mVar 6) (mVar 4))) (mVar 6) [6] (iSeq (mOp fIx (mVar 2) (mVar 5)))))))
  (mSeq (sSet 8 (mBor (mCall f_part_at (aCons (mVar 3) (aCons (mTup (aStar (mVar 7) (aCons (mVar 5) aNil))) aNil)))))
  (mSeq (sIf (bNot (bOf (mCall f_never_below (aCons (mVar 8) aNil)))) (sFrzA (sRet (mK .none))) sNext)
  (mSeq (sSet 9 (mBor (mIf (bOf (mOp fNe (mVar 7) (mLst aNil))) (mCall f_solve (aCons (mCall f_part_at (aCons (mVar 3) (aCons (mVar 7) aNil))) (aCons (mCall bTuple (aCons (asList (lcOut (bName 6) bTrue (mOp fIx (mOp fIx (mVar 0) (mVar 5)) (mVar 6)) [6] (iSeq (mVar 7)))) aNil)) aNil))) (mTup aNil))))
  (mSeq (sFor (iSeq (asList (nBor (lcOut (bName 12) (bOf (mOp (fIn true) (mVar 12) (mVar 7))) (mVar 12) [12] (iSeq (mVar 4)))))) (bName 6) (mSeq (sSet 10 (mBor (mCall f_both (aCons (mCall bTuple (aCons (asList (lcOut (bName 12) bTrue (mOp fIx (mIxO 3 (mVar 6)) (mVar 12)) [12] (iSeq (mVar 7)))) aNil)) (aCons (mVar 9) aNil)))))
  (sAsg2 (wRow 3 (mVar 6) (mVar 5)) (wRow 3 (mVar 5) (mVar 6)) (mVar 10))))
  (sApp 4 (mVar 5))))))))
  (sFrzA (sRet (mCall bTuple (aCons (asList (lcOut (bName 11) bTrue (mCall bTuple (aCons (mVar 11) aNil)) [11] (iSeq (mVar 3)))) aNil))))))
def f_come_back : List D → Res D := fnM 13 m_come_back
theorem sc_come_back : FnScope (["told", "order", "ties", "found", "there", "arrow", "other", "lot", "part", "share", "much", "row", "one"] : List Str) (["told", "order"] : List Str) (defScope (top 66)) := ⟨rfl, rfl, rfl, by decide +kernel, rfl, by decide +kernel, by decide +kernel⟩
theorem ok_come_back (D : DefIs K mg "come_back" (top 66)) (B : Bl mg) (D_tied_lots : DefOk Pr w K mg base xc "tied_lots" 1 ["web"] f_tied_lots) (D_web_in : DefOk Pr w K mg base xc "web_in" 2 ["told"] f_web_in) (D_part_at : DefOk Pr w K mg base xc "part_at" 1 ["told", "lot"] f_part_at) (D_never_below : DefOk Pr w K mg base xc "never_below" 7 ["table"] f_never_below) (D_solve : DefOk Pr w K mg base xc "solve" 6 ["rows", "row"] f_solve) (D_both : DefOk Pr w K mg base xc "both" 5 ["one", "other"] f_both) : DefOk Pr w K mg base xc "come_back" 8 ["told", "order"] f_come_back := by
  have nd : (["told", "order", "ties", "found", "there", "arrow", "other", "lot", "part", "share", "much", "row", "one"] : List Str).Nodup := sc_come_back.nd
  exact def_ok (k := 7) D sc_come_back (by decide) (fun _ _ _ _ _ _ us hl => match us, hl with | [_, _], _ => rfl) fun fa cdv A outer s H E O hr tk po => by
    have hu := room_u hr
    exact (rss_cons (rs_parP (n := 3) rfl (rx_val (re_callF D_tied_lots hr (by decide) rfl tk (ra_cons (re_callF D_web_in hr (by decide) rfl tk (ra_cons (re_var (pv 0)) ra_nil) (aCons_len aNil_len)) ra_nil) (aCons_len aNil_len)) (rx_own (reN_lc (own := [("row", 11)]) rfl nd (ric_of (ri_seq (re_var (pv 0)))) (blk_of (by kernel_rfl)) (bg_name 11) (by decide) (fun s H C cl fp => (pg_name (i := 11) nd rfl (Or.inl rfl))) (fun s H C cl fp => rts_nil) (fun s H C cl fp => (reF_list rfl B.list (ra_cons (re_var (pv 11)) ra_nil)))) (rx_own (ren_of (reF_lst ra_nil)) rx_nil))) (ptn_cons (pg_name (i := 2) nd rfl (Or.inl rfl)) (ptn_cons (pg_name (i := 3) nd rfl (Or.inr rfl)) (ptn_cons (pg_name (i := 4) nd rfl (Or.inr rfl)) ptn_nil))) rfl (by decide +kernel))
  (rss_cons (rs_for po rfl (ri_seq (re_rev (re_var (pv 1)))) (pg_name (i := 5) nd rfl (Or.inr rfl)) (bg_name 5) (rss_cons (rs_set (i := 7) nd rfl (Or.inr rfl) (re_of_new (reF_bor (reF_lc (own := [("other", 6)]) rfl nd (ric_of (ri_seq (re_ix (re_var (pv 2)) (re_var (pv 5)) (fun _ _ => rfl)))) (blk_of (by kernel_rfl)) (bg_name 6) (by decide) (fun s H C cl fp => (pg_name (i := 6) nd rfl (Or.inl rfl))) (fun s H C cl fp => (rts_one (rt_cmp (op_inC hu) (r_in false) rfl (re_var (pv 6)) (re_var (pv 4))))) (fun s H C cl fp => (re_var (pv 6)))))))
  (rss_cons (rs_set (i := 8) nd rfl (Or.inl rfl) (re_bor (re_callF D_part_at hr (by decide) rfl tk (ra_cons (re_var (pv 3)) (ra_cons (re_tup (ra_star (re_var (pv 7)) (ra_cons (re_var (pv 5)) ra_nil))) ra_nil)) (aCons_len (aCons_len aNil_len)))))
  (rss_cons (rs_if (rt_not (rt_val (re_callF D_never_below hr (by decide) rfl tk (ra_cons (re_var (pv 8)) ra_nil) (aCons_len aNil_len)))) (rss_one (rs_frzA (rs_ret re_non))) rss_nil)
  (rss_cons (rs_set (i := 9) nd rfl (Or.inl rfl) (re_bor (re_if (rt_cmp (op_neC hu) r_ne rfl (re_var (pv 7)) (re_lst ra_nil)) (re_callF D_solve hr (by decide) rfl tk (ra_cons (re_callF D_part_at hr (by decide) rfl tk (ra_cons (re_var (pv 3)) (ra_cons (re_var (pv 7)) ra_nil)) (aCons_len (aCons_len aNil_len))) (ra_cons (re_callTy call_tuple_of rc_tuple rfl B.tuple (by decide +kernel) (ra_cons (re_of_new (reF_lc (own := [("other", 6)]) rfl nd (ric_of (ri_seq (re_var (pv 7)))) (blk_of (by kernel_rfl)) (bg_name 6) (by decide) (fun s H C cl fp => (pg_name (i := 6) nd rfl (Or.inl rfl))) (fun s H C cl fp => rts_nil) (fun s H C cl fp => (re_ix (re_ix (re_var (pv 0)) (re_var (pv 5)) (fun _ _ => rfl)) (re_var (pv 6)) (fun _ _ => rfl))))) ra_nil)) ra_nil)) (aCons_len (aCons_len aNil_len))) (re_tup ra_nil))))
  (rss_cons (rs_for po rfl (ri_seq (re_of_new (reF_bor (reF_lc (own := [("one", 12)]) rfl nd (ric_of (ri_seq (re_var (pv 4)))) (blk_of (by kernel_rfl)) (bg_name 12) (by decide) (fun s H C cl fp => (pg_name (i := 12) nd rfl (Or.inl rfl))) (fun s H C cl fp => (rts_one (rt_cmp (op_notInC hu) (r_in true) rfl (re_var (pv 12)) (re_var (pv 7))))) (fun s H C cl fp => (re_var (pv 12))))))) (pg_name (i := 6) nd rfl (Or.inr rfl)) (bg_name 6) (rss_cons (rs_set (i := 10) nd rfl (Or.inl rfl) (re_bor (re_callF D_both hr (by decide) rfl tk (ra_cons (re_callTy call_tuple_of rc_tuple rfl B.tuple (by decide +kernel) (ra_cons (re_of_new (reF_lc (own := [("one", 12)]) rfl nd (ric_of (ri_seq (re_var (pv 7)))) (blk_of (by kernel_rfl)) (bg_name 12) (by decide) (fun s H C cl fp => (pg_name (i := 12) nd rfl (Or.inl rfl))) (fun s H C cl fp => rts_nil) (fun s H C cl fp => (re_ix (re_ixO (pv 3) (re_var (pv 6)) (fun _ _ => rfl)) (re_var (pv 12)) (fun _ _ => rfl))))) ra_nil)) (ra_cons (re_var (pv 9)) ra_nil)) (aCons_len (aCons_len aNil_len)))))
  (rss_one (rs_asgW2 (re_var (pv 10)) (pg_sub (pe_ix ix_seq (pv 3) (re_var (pv 6)) (fun _ _ => rfl)) (re_var (pv 5)) set_list) (pg_sub (pe_ix ix_seq (pv 3) (re_var (pv 5)) (fun _ _ => rfl)) (re_var (pv 6)) set_list) (bw_row 3) (bw_row 3)))))
  (rss_one (rs_app (pv 4) (re_var (pv 5))))))))))
  (rss_one (rs_frzA (rs_ret (re_callTy call_tuple_of rc_tuple rfl B.tuple (by decide +kernel) (ra_cons (re_of_new (reF_lc (own := [("row", 11)]) rfl nd (ric_of (ri_seq (re_var (pv 3)))) (blk_of (by kernel_rfl)) (bg_name 11) (by decide) (fun s H C cl fp => (pg_name (i := 11) nd rfl (Or.inl rfl))) (fun s H C cl fp => rts_nil) (fun s H C cl fp => (re_callTy call_tuple_of rc_tuple rfl B.tuple (by decide +kernel) (ra_cons (re_var (pv 11)) ra_nil))))) ra_nil)))))))
def m_filling_in : SM :=
  (sRet (mCall f_come_back (aCons (mVar 0) (aCons (mCall f_order_in (aCons (mCall f_web_in (aCons (mVar 0) aNil)) aNil)) aNil))))
def f_filling_in : List D → Res D := fnM 1 m_filling_in
theorem sc_filling_in : FnScope (["told"] : List Str) (["told"] : List Str) (defScope (top 67)) := ⟨rfl, rfl, rfl, by decide +kernel, rfl, by decide +kernel, by decide +kernel⟩
theorem ok_filling_in (D : DefIs K mg "filling_in" (top 67)) (B : Bl mg) (D_come_back : DefOk Pr w K mg base xc "come_back" 8 ["told", "order"] f_come_back) (D_order_in : DefOk Pr w K mg base xc "order_in" 3 ["web"] f_order_in) (D_web_in : DefOk Pr w K mg base xc "web_in" 2 ["told"] f_web_in) : DefOk Pr w K mg base xc "filling_in" 9 ["told"] f_filling_in := by
  have nd : (["told"] : List Str).Nodup := sc_filling_in.nd
  exact def_ok (k := 8) D sc_filling_in (by decide) (fun _ _ _ _ _ _ us hl => match us, hl with | [_], _ => rfl) fun fa cdv A outer s H E O hr tk po => by
    have hu := room_u hr
    exact (rss_one (rs_ret (re_callF D_come_back hr (by decide) rfl tk (ra_cons (re_var (pv 0)) (ra_cons (re_callF D_order_in hr (by decide) rfl tk (ra_cons (re_callF D_web_in hr (by decide) rfl tk (ra_cons (re_var (pv 0)) ra_nil) (aCons_len aNil_len)) ra_nil) (aCons_len aNil_len)) ra_nil)) (aCons_len (aCons_len aNil_len)))))
def m_filled : SM :=
  (mSeq (sSet 1 (mCall f_filling_in (aCons (mCall f_sure_chorded (aCons (mVar 0) aNil)) aNil)))
  (mSeq (sIf (bOf (mOp fIs (mVar 1) (mK .none))) (sExc 0) sNext)
  (sRet (mVar 1))))
def f_filled : List D → Res D := fnM 2 m_filled
theorem sc_filled : FnScope (["told", "found"] : List Str) (["told"] : List Str) (defScope (top 68)) := ⟨rfl, rfl, rfl, by decide +kernel, rfl, by decide +kernel, by decide +kernel⟩
theorem ok_filled (D : DefIs K mg "filled" (top 68)) (B : Bl mg) (X_NoPaper : Exo K mg "NoPaper" (xc 0)) (D_filling_in : DefOk Pr w K mg base xc "filling_in" 9 ["told"] f_filling_in) (D_sure_chorded : DefOk Pr w K mg base xc "sure_chorded" 8 ["told"] f_sure_chorded) : DefOk Pr w K mg base xc "filled" 10 ["told"] f_filled := by
  have nd : (["told", "found"] : List Str).Nodup := sc_filled.nd
  exact def_ok (k := 9) D sc_filled (by decide) (fun _ _ _ _ _ _ us hl => match us, hl with | [_], _ => rfl) fun fa cdv A outer s H E O hr tk po => by
    have hu := room_u hr
    exact (rss_cons (rs_set (i := 1) nd rfl (Or.inl rfl) (re_callF D_filling_in hr (by decide) rfl tk (ra_cons (re_callF D_sure_chorded hr (by decide) rfl tk (ra_cons (re_var (pv 0)) ra_nil) (aCons_len aNil_len)) ra_nil) (aCons_len aNil_len)))
  (rss_cons (rs_if (rt_cmp op_isN r_is rfl (re_var (pv 1)) re_non) (rss_one (rs_raiseO (c := 0) X_NoPaper rfl rfl tk)) rss_nil)
  (rss_one (rs_ret (re_var (pv 1))))))
def m_asked_web : SM :=
  (mSeq (sUnp (bTup 2 (bCons (bName 3) (bCons (bName 4) bNil))) (mCall f_web_in (aCons (mVar 0) aNil)))
  (sRet (mTup (aCons (mVar 3) (aCons (mCall f_set_of (aCons (mTup (aStar (mVar 4) (aCons (mTup (aCons (mCall bMin2 (aCons (mVar 1) (aCons (mVar 2) aNil))) (aCons (mCall bMax2 (aCons (mVar 1) (aCons (mVar 2) aNil))) aNil))) aNil))) aNil)) aNil)))))
def f_asked_web : List D → Res D := fnM 5 m_asked_web
theorem sc_asked_web : FnScope (["told", "one", "other", "size", "pairs"] : List Str) (["told", "one", "other"] : List Str) (defScope (top 70)) := ⟨rfl, rfl, rfl, by decide +kernel, rfl, by decide +kernel, by decide +kernel⟩
theorem ok_asked_web (D : DefIs K mg "asked_web" (top 70)) (B : Bl mg) (D_web_in : DefOk Pr w K mg base xc "web_in" 2 ["told"] f_web_in) (D_set_of : DefOk Pr w K mg base xc "set_of" 1 ["things"] f_set_of) : DefOk Pr w K mg base xc "asked_web" 3 ["told", "one", "other"] f_asked_web := by
  have nd : (["told", "one", "other", "size", "pairs"] : List Str).Nodup := sc_asked_web.nd
  exact def_ok (k := 2) D sc_asked_web (by decide) (fun _ _ _ _ _ _ us hl => match us, hl with | [_, _, _], _ => rfl) fun fa cdv A outer s H E O hr tk po => by
    have hu := room_u hr
    exact (rss_cons (rs_unp (re_callF D_web_in hr (by decide) rfl tk (ra_cons (re_var (pv 0)) ra_nil) (aCons_len aNil_len)) (pg_tup (n := 2) rfl (pgs_cons (pg_name (i := 3) nd rfl (Or.inl rfl)) (pgs_cons (pg_name (i := 4) nd rfl (Or.inl rfl)) pgs_nil))) (bg_tup (n := 2) (bgs_cons (bg_name 3) (bgs_cons (bg_name 4) bgs_nil))))
  (rss_one (rs_ret (re_tup (ra_cons (re_var (pv 3)) (ra_cons (re_callF D_set_of hr (by decide) rfl tk (ra_cons (re_tup (ra_star (re_var (pv 4)) (ra_cons (re_tup (ra_cons (re_callB (call_min2 rfl) rc_min2 rfl B.min (by decide +kernel) (ra_cons (re_var (pv 1)) (ra_cons (re_var (pv 2)) ra_nil))) (ra_cons (re_callB (call_max2 rfl) rc_max2 rfl B.max (by decide +kernel) (ra_cons (re_var (pv 1)) (ra_cons (re_var (pv 2)) ra_nil))) ra_nil))) ra_nil))) ra_nil) (aCons_len aNil_len)) ra_nil))))))
def m_is_asked_in : SM :=
  (sRet (mAnd (mOp fNe (mVar 1) (mVar 2)) (mAnd (mOp fIs (mOp fIx (mOp fIx (mVar 0) (mVar 1)) (mVar 2)) (mK .none)) (mOp fIsNot (mCall f_order_in (aCons (mCall f_asked_web (aCons (mVar 0) (aCons (mVar 1) (aCons (mVar 2) aNil)))) aNil)) (mK .none)))))
def f_is_asked_in : List D → Res D := fnM 3 m_is_asked_in
theorem sc_is_asked_in : FnScope (["told", "one", "other"] : List Str) (["told", "one", "other"] : List Str) (defScope (top 71)) := ⟨rfl, rfl, rfl, by decide +kernel, rfl, by decide +kernel, by decide +kernel⟩
theorem ok_is_asked_in (D : DefIs K mg "is_asked_in" (top 71)) (B : Bl mg) (D_order_in : DefOk Pr w K mg base xc "order_in" 3 ["web"] f_order_in) (D_asked_web : DefOk Pr w K mg base xc "asked_web" 3 ["told", "one", "other"] f_asked_web) : DefOk Pr w K mg base xc "is_asked_in" 4 ["told", "one", "other"] f_is_asked_in := by
  have nd : (["told", "one", "other"] : List Str).Nodup := sc_is_asked_in.nd
  exact def_ok (k := 3) D sc_is_asked_in (by decide) (fun _ _ _ _ _ _ us hl => match us, hl with | [_, _, _], _ => rfl) fun fa cdv A outer s H E O hr tk po => by
    have hu := room_u hr
    exact (rss_one (rs_ret (re_and (re_cmp (op_neC hu) r_ne rfl (re_var (pv 1)) (re_var (pv 2))) (re_and (re_cmp op_isN r_is rfl (re_ix (re_ix (re_var (pv 0)) (re_var (pv 1)) (fun _ _ => rfl)) (re_var (pv 2)) (fun _ _ => rfl)) re_non) (re_one (re_cmp op_notN r_isNot rfl (re_callF D_order_in hr (by decide) rfl tk (ra_cons (re_callF D_asked_web hr (by decide) rfl tk (ra_cons (re_var (pv 0)) (ra_cons (re_var (pv 1)) (ra_cons (re_var (pv 2)) ra_nil))) (aCons_len (aCons_len (aCons_len aNil_len)))) ra_nil) (aCons_len aNil_len)) re_non))))))
def m_sure_asked : SM :=
  (mSeq (sSet 3 (mCall f_sure_chorded (aCons (mVar 0) aNil)))
  (mSeq (sUnp (bTup 2 (bCons (bName 4) (bCons (bName 5) bNil))) (mCall f_sure_arrows (aCons (mVar 1) (aCons (mVar 2) (aCons (mCall bLen (aCons (mVar 3) aNil)) aNil)))))
  (mSeq (sIf (bNot (bOf (mCall f_is_asked_in (aCons (mVar 3) (aCons (mVar 4) (aCons (mVar 5) aNil)))))) (sExc 1) sNext)
  (sRet (mTup (aCons (mVar 3) (aCons (mVar 4) (aCons (mVar 5) aNil))))))))
def f_sure_asked : List D → Res D := fnM 6 m_sure_asked
theorem sc_sure_asked : FnScope (["told", "one", "other", "own", "near", "far"] : List Str) (["told", "one", "other"] : List Str) (defScope (top 72)) := ⟨rfl, rfl, rfl, by decide +kernel, rfl, by decide +kernel, by decide +kernel⟩
theorem ok_sure_asked (D : DefIs K mg "sure_asked" (top 72)) (B : Bl mg) (X_Unfit : Exo K mg "Unfit" (xc 1)) (D_sure_chorded : DefOk Pr w K mg base xc "sure_chorded" 8 ["told"] f_sure_chorded) (D_sure_arrows : DefOk Pr w K mg base xc "sure_arrows" 5 ["one", "other", "bound"] f_sure_arrows) (D_is_asked_in : DefOk Pr w K mg base xc "is_asked_in" 4 ["told", "one", "other"] f_is_asked_in) : DefOk Pr w K mg base xc "sure_asked" 9 ["told", "one", "other"] f_sure_asked := by
  have nd : (["told", "one", "other", "own", "near", "far"] : List Str).Nodup := sc_sure_asked.nd
  exact def_ok (k := 8) D sc_sure_asked (by decide) (fun _ _ _ _ _ _ us hl => match us, hl with | [_, _, _], _ => rfl) fun fa cdv A outer s H E O hr tk po => by
    have hu := room_u hr
    exact (rss_cons (rs_set (i := 3) nd rfl (Or.inl rfl) (re_callF D_sure_chorded hr (by decide) rfl tk (ra_cons (re_var (pv 0)) ra_nil) (aCons_len aNil_len)))
  (rss_cons (rs_unp (re_callF D_sure_arrows hr (by decide) rfl tk (ra_cons (re_var (pv 1)) (ra_cons (re_var (pv 2)) (ra_cons (re_callB call_len rc_len rfl B.len (by decide +kernel) (ra_cons (re_var (pv 3)) ra_nil)) ra_nil))) (aCons_len (aCons_len (aCons_len aNil_len)))) (pg_tup (n := 2) rfl (pgs_cons (pg_name (i := 4) nd rfl (Or.inl rfl)) (pgs_cons (pg_name (i := 5) nd rfl (Or.inl rfl)) pgs_nil))) (bg_tup (n := 2) (bgs_cons (bg_name 4) (bgs_cons (bg_name 5) bgs_nil))))
  (rss_cons (rs_if (rt_not (rt_val (re_callF D_is_asked_in hr (by decide) rfl tk (ra_cons (re_var (pv 3)) (ra_cons (re_var (pv 4)) (ra_cons (re_var (pv 5)) ra_nil))) (aCons_len (aCons_len (aCons_len aNil_len)))))) (rss_one (rs_raiseO (c := 1) X_Unfit rfl rfl tk)) rss_nil)
  (rss_one (rs_ret (re_tup (ra_cons (re_var (pv 3)) (ra_cons (re_var (pv 4)) (ra_cons (re_var (pv 5)) ra_nil)))))))))
def m_between_lot : SM :=
  (mSeq (sSet 3 (mCall f_tied_lots (aCons (mCall f_web_in (aCons (mVar 0) aNil)) aNil)))
  (sRet (asList (lcOut (bName 4) (bOf (mOp (fIn false) (mVar 4) (mOp fIx (mVar 3) (mVar 2)))) (mVar 4) [4] (iSeq (mOp fIx (mVar 3) (mVar 1)))))))
def f_between_lot : List D → Res D := fnM 5 m_between_lot
theorem sc_between_lot : FnScope (["told", "one", "other", "ties", "arrow"] : List Str) (["told", "one", "other"] : List Str) (defScope (top 73)) := ⟨rfl, rfl, rfl, by decide +kernel, rfl, by decide +kernel, by decide +kernel⟩
theorem ok_between_lot (D : DefIs K mg "between_lot" (top 73)) (B : Bl mg) (D_tied_lots : DefOk Pr w K mg base xc "tied_lots" 1 ["web"] f_tied_lots) (D_web_in : DefOk Pr w K mg base xc "web_in" 2 ["told"] f_web_in) : DefOk Pr w K mg base xc "between_lot" 3 ["told", "one", "other"] f_between_lot := by
  have nd : (["told", "one", "other", "ties", "arrow"] : List Str).Nodup := sc_between_lot.nd
  exact def_ok (k := 2) D sc_between_lot (by decide) (fun _ _ _ _ _ _ us hl => match us, hl with | [_, _, _], _ => rfl) fun fa cdv A outer s H E O hr tk po => by
    have hu := room_u hr
    exact (rss_cons (rs_set (i := 3) nd rfl (Or.inr rfl) (re_callF D_tied_lots hr (by decide) rfl tk (ra_cons (re_callF D_web_in hr (by decide) rfl tk (ra_cons (re_var (pv 0)) ra_nil) (aCons_len aNil_len)) ra_nil) (aCons_len aNil_len)))
  (rss_one (rs_ret (re_of_new (reF_lc (own := [("arrow", 4)]) rfl nd (ric_of (ri_seq (re_ix (re_var (pv 3)) (re_var (pv 1)) (fun _ _ => rfl)))) (blk_of (by kernel_rfl)) (bg_name 4) (by decide) (fun s H C cl fp => (pg_name (i := 4) nd rfl (Or.inl rfl))) (fun s H C cl fp => (rts_one (rt_cmp (op_inC hu) (r_in false) rfl (re_var (pv 4)) (re_ix (re_var (pv 3)) (re_var (pv 2)) (fun _ _ => rfl))))) (fun s H C cl fp => (re_var (pv 4))))))))
def m_left_of : SM :=
  (sRet (mCall f_take (aCons (mOp fIx (mOp fIx (mVar 0) (mVar 1)) (mVar 1)) (aCons (mCall f_both (aCons (mCall bTuple (aCons (asList (lcOut (bName 4) bTrue (mOp fIx (mOp fIx (mVar 0) (mVar 1)) (mVar 4)) [4] (iSeq (mVar 2)))) aNil)) (aCons (mVar 3) aNil))) aNil))))
def f_left_of : List D → Res D := fnM 5 m_left_of
theorem sc_left_of : FnScope (["told", "arrow", "lot", "share", "own"] : List Str) (["told", "arrow", "lot", "share"] : List Str) (defScope (top 74)) := ⟨rfl, rfl, rfl, by decide +kernel, rfl, by decide +kernel, by decide +kernel⟩
theorem ok_left_of (D : DefIs K mg "left_of" (top 74)) (B : Bl mg) (D_take : DefOk Pr w K mg base xc "take" 3 ["one", "other"] f_take) (D_both : DefOk Pr w K mg base xc "both" 5 ["one", "other"] f_both) : DefOk Pr w K mg base xc "left_of" 6 ["told", "arrow", "lot", "share"] f_left_of := by
  have nd : (["told", "arrow", "lot", "share", "own"] : List Str).Nodup := sc_left_of.nd
  exact def_ok (k := 5) D sc_left_of (by decide) (fun _ _ _ _ _ _ us hl => match us, hl with | [_, _, _, _], _ => rfl) fun fa cdv A outer s H E O hr tk po => by
    have hu := room_u hr
    exact (rss_one (rs_ret (re_callF D_take hr (by decide) rfl tk (ra_cons (re_ix (re_ix (re_var (pv 0)) (re_var (pv 1)) (fun _ _ => rfl)) (re_var (pv 1)) (fun _ _ => rfl)) (ra_cons (re_callF D_both hr (by decide) rfl tk (ra_cons (re_callTy call_tuple_of rc_tuple rfl B.tuple (by decide +kernel) (ra_cons (re_of_new (reF_lc (own := [("own", 4)]) rfl nd (ric_of (ri_seq (re_var (pv 2)))) (blk_of (by kernel_rfl)) (bg_name 4) (by decide) (fun s H C cl fp => (pg_name (i := 4) nd rfl (Or.inl rfl))) (fun s H C cl fp => rts_nil) (fun s H C cl fp => (re_ix (re_ix (re_var (pv 0)) (re_var (pv 1)) (fun _ _ => rfl)) (re_var (pv 4)) (fun _ _ => rfl))))) ra_nil)) (ra_cons (re_var (pv 3)) ra_nil)) (aCons_len (aCons_len aNil_len))) ra_nil)) (aCons_len (aCons_len aNil_len)))))
def m_stretch_in : SM :=
  (mSeq (sIf (bOf (mOp fIs (mCall f_filling_in (aCons (mVar 0) aNil)) (mK .none))) (sExc 0) sNext)
  (mSeq (sSet 3 (mCall f_between_lot (aCons (mVar 0) (aCons (mVar 1) (aCons (mVar 2) aNil)))))
  (mSeq (sIf (bOf (mOp fEq (mVar 3) (mLst aNil))) (sRet (mTup (aCons (mK (.tuple [.int 0, .int 1])) (aCons (mCall f_multiply (aCons (mOp fIx (mOp fIx (mVar 0) (mVar 1)) (mVar 1)) (aCons (mOp fIx (mOp fIx (mVar 0) (mVar 2)) (mVar 2)) aNil))) aNil)))) sNext)
  (mSeq (sPar [4, 5] (xVal (mCall f_part_at (aCons (mVar 0) (aCons (mVar 3) aNil))) (xVal (asList (lcOut (bName 8) bTrue (mCall bTuple (aCons (asList (lcOut (bName 9) bTrue (mOp fIx (mOp fIx (mVar 0) (mVar 8)) (mVar 9)) [9] (iSeq (mVar 3)))) aNil)) [8] (iSeq (mTup (aCons (mVar 1) (aCons (mVar 2) aNil)))))) xNil)))
  (mSeq (sPar [6, 7] (xVal (mCall f_solve (aCons (mVar 4) (aCons (mOp fIx (mVar 5) (mK (.int 0))) aNil))) (xVal (mCall f_solve (aCons (mVar 4) (aCons (mOp fIx (mVar 5) (mK (.int 1))) aNil))) xNil)))
  (sRet (mTup (aCons (mCall f_both (aCons (mOp fIx (mVar 5) (mK (.int 0))) (aCons (mVar 7) aNil))) (aCons (mCall f_multiply (aCons (mCall f_left_of (aCons (mVar 0) (aCons (mVar 1) (aCons (mVar 3) (aCons (mVar 6) aNil))))) (aCons (mCall f_left_of (aCons (mVar 0) (aCons (mVar 2) (aCons (mVar 3) (aCons (mVar 7) aNil))))) aNil))) aNil)))))))))
def f_stretch_in : List D → Res D := fnM 10 m_stretch_in
theorem sc_stretch_in : FnScope (["told", "one", "other", "lot", "part", "rows", "near", "far", "arrow", "own"] : List Str) (["told", "one", "other"] : List Str) (defScope (top 75)) := ⟨rfl, rfl, rfl, by decide +kernel, rfl, by decide +kernel, by decide +kernel⟩
theorem ok_stretch_in (D : DefIs K mg "stretch_in" (top 75)) (B : Bl mg) (h_NIL : Pr2 K mg "NIL" 0 1) (X_NoPaper : Exo K mg "NoPaper" (xc 0)) (D_filling_in : DefOk Pr w K mg base xc "filling_in" 9 ["told"] f_filling_in) (D_between_lot : DefOk Pr w K mg base xc "between_lot" 3 ["told", "one", "other"] f_between_lot) (D_multiply : DefOk Pr w K mg base xc "multiply" 3 ["one", "other"] f_multiply) (D_part_at : DefOk Pr w K mg base xc "part_at" 1 ["told", "lot"] f_part_at) (D_solve : DefOk Pr w K mg base xc "solve" 6 ["rows", "row"] f_solve) (D_both : DefOk Pr w K mg base xc "both" 5 ["one", "other"] f_both) (D_left_of : DefOk Pr w K mg base xc "left_of" 6 ["told", "arrow", "lot", "share"] f_left_of) : DefOk Pr w K mg base xc "stretch_in" 10 ["told", "one", "other"] f_stretch_in := by
  have nd : (["told", "one", "other", "lot", "part", "rows", "near", "far", "arrow", "own"] : List Str).Nodup := sc_stretch_in.nd
  exact def_ok (k := 9) D sc_stretch_in (by decide) (fun _ _ _ _ _ _ us hl => match us, hl with | [_, _, _], _ => rfl) fun fa cdv A outer s H E O hr tk po => by
    have hu := room_u hr
    exact (rss_cons (rs_if (rt_cmp op_isN r_is rfl (re_callF D_filling_in hr (by decide) rfl tk (ra_cons (re_var (pv 0)) ra_nil) (aCons_len aNil_len)) re_non) (rss_one (rs_raiseO (c := 0) X_NoPaper rfl rfl tk)) rss_nil)
  (rss_cons (rs_set (i := 3) nd rfl (Or.inr rfl) (re_callF D_between_lot hr (by decide) rfl tk (ra_cons (re_var (pv 0)) (ra_cons (re_var (pv 1)) (ra_cons (re_var (pv 2)) ra_nil))) (aCons_len (aCons_len (aCons_len aNil_len)))))
  (rss_cons (rs_if (rt_cmp (op_eqC hu) r_eq rfl (re_var (pv 3)) (re_lst ra_nil)) (rss_one (rs_ret (re_tup (ra_cons (re_pr2 rfl h_NIL) (ra_cons (re_callF D_multiply hr (by decide) rfl tk (ra_cons (re_ix (re_ix (re_var (pv 0)) (re_var (pv 1)) (fun _ _ => rfl)) (re_var (pv 1)) (fun _ _ => rfl)) (ra_cons (re_ix (re_ix (re_var (pv 0)) (re_var (pv 2)) (fun _ _ => rfl)) (re_var (pv 2)) (fun _ _ => rfl)) ra_nil)) (aCons_len (aCons_len aNil_len))) ra_nil))))) rss_nil)
  (rss_cons (rs_par rfl nd rfl rfl (by decide) rfl rfl (rx_val (re_callF D_part_at hr (by decide) rfl tk (ra_cons (re_var (pv 0)) (ra_cons (re_var (pv 3)) ra_nil)) (aCons_len (aCons_len aNil_len))) (rx_val (re_of_new (reF_lc (own := [("arrow", 8)]) rfl nd (ric_of (ri_seq (re_tup (ra_cons (re_var (pv 1)) (ra_cons (re_var (pv 2)) ra_nil))))) (blk_of (by kernel_rfl)) (bg_name 8) (by decide) (fun s H C cl fp => (pg_name (i := 8) nd rfl (Or.inr rfl))) (fun s H C cl fp => rts_nil) (fun s H C cl fp => (re_callTy call_tuple_of rc_tuple rfl B.tuple (by decide +kernel) (ra_cons (re_of_new (reF_lc (own := [("own", 9)]) rfl nd (ric_of (ri_seq (re_var (pv 3)))) (blk_of (by kernel_rfl)) (bg_name 9) (by decide) (fun s H C cl fp => (pg_name (i := 9) nd rfl (Or.inl rfl))) (fun s H C cl fp => rts_nil) (fun s H C cl fp => (re_ix (re_ix (re_var (pv 0)) (re_var (pv 8)) (fun _ _ => rfl)) (re_var (pv 9)) (fun _ _ => rfl))))) ra_nil))))) rx_nil)) rfl)
  (rss_cons (rs_par rfl nd rfl rfl (by decide) rfl rfl (rx_val (re_callF D_solve hr (by decide) rfl tk (ra_cons (re_var (pv 4)) (ra_cons (re_ix (re_var (pv 5)) re_int (fun _ _ => rfl)) ra_nil)) (aCons_len (aCons_len aNil_len))) (rx_val (re_callF D_solve hr (by decide) rfl tk (ra_cons (re_var (pv 4)) (ra_cons (re_ix (re_var (pv 5)) re_int (fun _ _ => rfl)) ra_nil)) (aCons_len (aCons_len aNil_len))) rx_nil)) rfl)
  (rss_one (rs_ret (re_tup (ra_cons (re_callF D_both hr (by decide) rfl tk (ra_cons (re_ix (re_var (pv 5)) re_int (fun _ _ => rfl)) (ra_cons (re_var (pv 7)) ra_nil)) (aCons_len (aCons_len aNil_len))) (ra_cons (re_callF D_multiply hr (by decide) rfl tk (ra_cons (re_callF D_left_of hr (by decide) rfl tk (ra_cons (re_var (pv 0)) (ra_cons (re_var (pv 1)) (ra_cons (re_var (pv 3)) (ra_cons (re_var (pv 6)) ra_nil)))) (aCons_len (aCons_len (aCons_len (aCons_len aNil_len))))) (ra_cons (re_callF D_left_of hr (by decide) rfl tk (ra_cons (re_var (pv 0)) (ra_cons (re_var (pv 2)) (ra_cons (re_var (pv 3)) (ra_cons (re_var (pv 7)) ra_nil)))) (aCons_len (aCons_len (aCons_len (aCons_len aNil_len))))) ra_nil)) (aCons_len (aCons_len aNil_len))) ra_nil))))))))))
def m_stretch : SM :=
  (mSeq (sUnp (bTup 3 (bCons (bName 3) (bCons (bName 4) (bCons (bName 5) bNil)))) (mCall f_sure_asked (aCons (mVar 0) (aCons (mVar 1) (aCons (mVar 2) aNil)))))
  (sRet (mCall f_stretch_in (aCons (mVar 3) (aCons (mVar 4) (aCons (mVar 5) aNil))))))
def f_stretch : List D → Res D := fnM 6 m_stretch
theorem sc_stretch : FnScope (["told", "one", "other", "own", "near", "far"] : List Str) (["told", "one", "other"] : List Str) (defScope (top 76)) := ⟨rfl, rfl, rfl, by decide +kernel, rfl, by decide +kernel, by decide +kernel⟩
theorem ok_stretch (D : DefIs K mg "stretch" (top 76)) (B : Bl mg) (D_sure_asked : DefOk Pr w K mg base xc "sure_asked" 9 ["told", "one", "other"] f_sure_asked) (D_stretch_in : DefOk Pr w K mg base xc "stretch_in" 10 ["told", "one", "other"] f_stretch_in) : DefOk Pr w K mg base xc "stretch" 11 ["told", "one", "other"] f_stretch := by
  have nd : (["told", "one", "other", "own", "near", "far"] : List Str).Nodup := sc_stretch.nd
  exact def_ok (k := 10) D sc_stretch (by decide) (fun _ _ _ _ _ _ us hl => match us, hl with | [_, _, _], _ => rfl) fun fa cdv A outer s H E O hr tk po => by
    have hu := room_u hr
    exact (rss_cons (rs_unp (re_callF D_sure_asked hr (by decide) rfl tk (ra_cons (re_var (pv 0)) (ra_cons (re_var (pv 1)) (ra_cons (re_var (pv 2)) ra_nil))) (aCons_len (aCons_len (aCons_len aNil_len)))) (pg_tup (n := 3) rfl (pgs_cons (pg_name (i := 3) nd rfl (Or.inl rfl)) (pgs_cons (pg_name (i := 4) nd rfl (Or.inl rfl)) (pgs_cons (pg_name (i := 5) nd rfl (Or.inl rfl)) pgs_nil)))) (bg_tup (n := 3) (bgs_cons (bg_name 3) (bgs_cons (bg_name 4) (bgs_cons (bg_name 5) bgs_nil)))))
  (rss_one (rs_ret (re_callF D_stretch_in hr (by decide) rfl tk (ra_cons (re_var (pv 3)) (ra_cons (re_var (pv 4)) (ra_cons (re_var (pv 5)) ra_nil))) (aCons_len (aCons_len (aCons_len aNil_len)))))))
def m_sure_product : SM :=
  (mSeq (sUnp (bTup 2 (bCons (bName 3) (bCons (bName 4) bNil))) (mCall f_stretch (aCons (mVar 0) (aCons (mVar 1) (aCons (mVar 2) aNil)))))
  (sRet (mIf (bOf (mOp fEq (mVar 4) (mK (.tuple [.int 0, .int 1])))) (mVar 3) (mK .none))))
def f_sure_product : List D → Res D := fnM 5 m_sure_product
theorem sc_sure_product : FnScope (["told", "one", "other", "middle", "square"] : List Str) (["told", "one", "other"] : List Str) (defScope (top 77)) := ⟨rfl, rfl, rfl, by decide +kernel, rfl, by decide +kernel, by decide +kernel⟩
theorem ok_sure_product (D : DefIs K mg "sure_product" (top 77)) (B : Bl mg) (h_NIL : Pr2 K mg "NIL" 0 1) (D_stretch : DefOk Pr w K mg base xc "stretch" 11 ["told", "one", "other"] f_stretch) : DefOk Pr w K mg base xc "sure_product" 12 ["told", "one", "other"] f_sure_product := by
  have nd : (["told", "one", "other", "middle", "square"] : List Str).Nodup := sc_sure_product.nd
  exact def_ok (k := 11) D sc_sure_product (by decide) (fun _ _ _ _ _ _ us hl => match us, hl with | [_, _, _], _ => rfl) fun fa cdv A outer s H E O hr tk po => by
    have hu := room_u hr
    exact (rss_cons (rs_unp (re_callF D_stretch hr (by decide) rfl tk (ra_cons (re_var (pv 0)) (ra_cons (re_var (pv 1)) (ra_cons (re_var (pv 2)) ra_nil))) (aCons_len (aCons_len (aCons_len aNil_len)))) (pg_tup (n := 2) rfl (pgs_cons (pg_name (i := 3) nd rfl (Or.inl rfl)) (pgs_cons (pg_name (i := 4) nd rfl (Or.inl rfl)) pgs_nil))) (bg_tup (n := 2) (bgs_cons (bg_name 3) (bgs_cons (bg_name 4) bgs_nil))))
  (rss_one (rs_ret (re_if (rt_cmp (op_eqC hu) r_eq rfl (re_var (pv 4)) (re_pr2 rfl h_NIL)) (re_var (pv 3)) re_non))))
def m_is_far : SM :=
  (sRet (mAnd (mCall f_is_table (aCons (mVar 0) aNil)) (mCall bAll (aCons (asList (lcOut (bTup 2 (bCons (bName 1) (bCons (bName 2) bNil))) bTrue (mOp fEq (mOp fIx (mVar 2) (mVar 1)) (mK (.tuple [.int 0, .int 1]))) [1, 2] (iEnmA (aCons (mVar 0) aNil)))) aNil))))
def f_is_far : List D → Res D := fnM 3 m_is_far
theorem sc_is_far : FnScope (["thing", "place", "row"] : List Str) (["thing"] : List Str) (defScope (top 80)) := ⟨rfl, rfl, rfl, by decide +kernel, rfl, by decide +kernel, by decide +kernel⟩
theorem ok_is_far (D : DefIs K mg "is_far" (top 80)) (B : Bl mg) (h_NIL : Pr2 K mg "NIL" 0 1) (D_is_table : DefOk Pr w K mg base xc "is_table" 6 ["thing"] f_is_table) : DefOk Pr w K mg base xc "is_far" 7 ["thing"] f_is_far := by
  have nd : (["thing", "place", "row"] : List Str).Nodup := sc_is_far.nd
  exact def_ok (k := 6) D sc_is_far (by decide) (fun _ _ _ _ _ _ us hl => match us, hl with | [_], _ => rfl) fun fa cdv A outer s H E O hr tk po => by
    have hu := room_u hr
    exact (rss_one (rs_ret (re_and (re_callF D_is_table hr (by decide) rfl tk (ra_cons (re_var (pv 0)) ra_nil) (aCons_len aNil_len)) (re_one (re_callB (cr_all rfl) rc_all rfl B.all (by decide +kernel) (ra_cons (re_of_new (reF_lc (own := [("place", 1), ("row", 2)]) rfl nd (ric_of (ri_enumA rfl B.enumerate (ra_cons (re_var (pv 0)) ra_nil))) (blk_of (by kernel_rfl)) (bg_tup (n := 2) (bgs_cons (bg_name 1) (bgs_cons (bg_name 2) bgs_nil))) (by decide) (fun s H C cl fp => (pg_tup (n := 2) rfl (pgs_cons (pg_name (i := 1) nd rfl (Or.inl rfl)) (pgs_cons (pg_name (i := 2) nd rfl (Or.inl rfl)) pgs_nil)))) (fun s H C cl fp => rts_nil) (fun s H C cl fp => (re_cmp (op_eqC hu) r_eq rfl (re_ix (re_var (pv 2)) (re_var (pv 1)) (fun _ _ => rfl)) (re_pr2 rfl h_NIL))))) ra_nil))))))
def m_sure_far : SM :=
  (mSeq (sSet 1 (mCall f_sure_table (aCons (mVar 0) aNil)))
  (mSeq (sIf (bNot (bOf (mCall f_is_far (aCons (mVar 1) aNil)))) (sExc 1) sNext)
  (sRet (mVar 1))))
def f_sure_far : List D → Res D := fnM 2 m_sure_far
theorem sc_sure_far : FnScope (["far", "own"] : List Str) (["far"] : List Str) (defScope (top 81)) := ⟨rfl, rfl, rfl, by decide +kernel, rfl, by decide +kernel, by decide +kernel⟩
theorem ok_sure_far (D : DefIs K mg "sure_far" (top 81)) (B : Bl mg) (X_Unfit : Exo K mg "Unfit" (xc 1)) (D_sure_table : DefOk Pr w K mg base xc "sure_table" 7 ["table"] f_sure_table) (D_is_far : DefOk Pr w K mg base xc "is_far" 7 ["thing"] f_is_far) : DefOk Pr w K mg base xc "sure_far" 8 ["far"] f_sure_far := by
  have nd : (["far", "own"] : List Str).Nodup := sc_sure_far.nd
  exact def_ok (k := 7) D sc_sure_far (by decide) (fun _ _ _ _ _ _ us hl => match us, hl with | [_], _ => rfl) fun fa cdv A outer s H E O hr tk po => by
    have hu := room_u hr
    exact (rss_cons (rs_set (i := 1) nd rfl (Or.inl rfl) (re_callF D_sure_table hr (by decide) rfl tk (ra_cons (re_var (pv 0)) ra_nil) (aCons_len aNil_len)))
  (rss_cons (rs_if (rt_not (rt_val (re_callF D_is_far hr (by decide) rfl tk (ra_cons (re_var (pv 1)) ra_nil) (aCons_len aNil_len)))) (rss_one (rs_raiseO (c := 1) X_Unfit rfl rfl tk)) rss_nil)
  (rss_one (rs_ret (re_var (pv 1))))))
def m_half_of : SM :=
  (sRet (mCall f_multiply (aCons (mK (.tuple [.int 1, .int 2])) (aCons (mCall f_take (aCons (mCall f_add (aCons (mVar 0) (aCons (mVar 1) aNil))) (aCons (mVar 2) aNil))) aNil))))
def f_half_of : List D → Res D := fnM 3 m_half_of
theorem sc_half_of : FnScope (["one", "other", "both_so"] : List Str) (["one", "other", "both_so"] : List Str) (defScope (top 82)) := ⟨rfl, rfl, rfl, by decide +kernel, rfl, by decide +kernel, by decide +kernel⟩
theorem ok_half_of (D : DefIs K mg "half_of" (top 82)) (B : Bl mg) (h_HALF_distances : Pr2 K mg "HALF_distances" 1 2) (D_multiply : DefOk Pr w K mg base xc "multiply" 3 ["one", "other"] f_multiply) (D_take : DefOk Pr w K mg base xc "take" 3 ["one", "other"] f_take) (D_add : DefOk Pr w K mg base xc "add" 3 ["one", "other"] f_add) : DefOk Pr w K mg base xc "half_of" 4 ["one", "other", "both_so"] f_half_of := by
  have nd : (["one", "other", "both_so"] : List Str).Nodup := sc_half_of.nd
  exact def_ok (k := 3) D sc_half_of (by decide) (fun _ _ _ _ _ _ us hl => match us, hl with | [_, _, _], _ => rfl) fun fa cdv A outer s H E O hr tk po => by
    have hu := room_u hr
    exact (rss_one (rs_ret (re_callF D_multiply hr (by decide) rfl tk (ra_cons (re_pr2 rfl h_HALF_distances) (ra_cons (re_callF D_take hr (by decide) rfl tk (ra_cons (re_callF D_add hr (by decide) rfl tk (ra_cons (re_var (pv 0)) (ra_cons (re_var (pv 1)) ra_nil)) (aCons_len (aCons_len aNil_len))) (ra_cons (re_var (pv 2)) ra_nil)) (aCons_len (aCons_len aNil_len))) ra_nil)) (aCons_len (aCons_len aNil_len)))))
def m_products_at : SM :=
  (mSeq (sSet 2 (mOp fIx (mVar 0) (mVar 1)))
  (sRet (mCall bTuple (aCons (asList (lcOut (bName 3) bTrue (mCall bTuple (aCons (asList (lcOut (bName 4) bTrue (mCall f_half_of (aCons (mOp fIx (mVar 2) (mVar 3)) (aCons (mOp fIx (mVar 2) (mVar 4)) (aCons (mOp fIx (mOp fIx (mVar 0) (mVar 3)) (mVar 4)) aNil)))) [4] (iRng (aCons (mCall bLen (aCons (mVar 0) aNil)) aNil)))) aNil)) [3] (iRng (aCons (mCall bLen (aCons (mVar 0) aNil)) aNil)))) aNil))))
def f_products_at : List D → Res D := fnM 5 m_products_at
theorem sc_products_at : FnScope (["far", "point", "row", "k", "j"] : List Str) (["far", "point"] : List Str) (defScope (top 83)) := ⟨rfl, rfl, rfl, by decide +kernel, rfl, by decide +kernel, by decide +kernel⟩
theorem ok_products_at (D : DefIs K mg "products_at" (top 83)) (B : Bl mg) (D_half_of : DefOk Pr w K mg base xc "half_of" 4 ["one", "other", "both_so"] f_half_of) : DefOk Pr w K mg base xc "products_at" 5 ["far", "point"] f_products_at := by
  have nd : (["far", "point", "row", "k", "j"] : List Str).Nodup := sc_products_at.nd
  exact def_ok (k := 4) D sc_products_at (by decide) (fun _ _ _ _ _ _ us hl => match us, hl with | [_, _], _ => rfl) fun fa cdv A outer s H E O hr tk po => by
    have hu := room_u hr
    exact (rss_cons (rs_set (i := 2) nd rfl (Or.inr rfl) (re_ix (re_var (pv 0)) (re_var (pv 1)) (fun _ _ => rfl)))
  (rss_one (rs_ret (re_callTy call_tuple_of rc_tuple rfl B.tuple (by decide +kernel) (ra_cons (re_of_new (reF_lc (own := [("k", 3)]) rfl nd (ric_of (ri_range1 rfl B.range (ra_cons (re_callB call_len rc_len rfl B.len (by decide +kernel) (ra_cons (re_var (pv 0)) ra_nil)) ra_nil) (aCons_len aNil_len))) (blk_of (by kernel_rfl)) (bg_name 3) (by decide) (fun s H C cl fp => (pg_name (i := 3) nd rfl (Or.inr rfl))) (fun s H C cl fp => rts_nil) (fun s H C cl fp => (re_callTy call_tuple_of rc_tuple rfl B.tuple (by decide +kernel) (ra_cons (re_of_new (reF_lc (own := [("j", 4)]) rfl nd (ric_of (ri_range1 rfl B.range (ra_cons (re_callB call_len rc_len rfl B.len (by decide +kernel) (ra_cons (re_var (pv 0)) ra_nil)) ra_nil) (aCons_len aNil_len))) (blk_of (by kernel_rfl)) (bg_name 4) (by decide) (fun s H C cl fp => (pg_name (i := 4) nd rfl (Or.inl rfl))) (fun s H C cl fp => rts_nil) (fun s H C cl fp => (re_callF D_half_of hr (by decide) rfl takes0 (ra_cons (re_ix (re_var (pv 2)) (re_var (pv 3)) (fun _ _ => rfl)) (ra_cons (re_ix (re_var (pv 2)) (re_var (pv 4)) (fun _ _ => rfl)) (ra_cons (re_ix (re_ix (re_var (pv 0)) (re_var (pv 3)) (fun _ _ => rfl)) (re_var (pv 4)) (fun _ _ => rfl)) ra_nil))) (aCons_len (aCons_len (aCons_len aNil_len))))))) ra_nil))))) ra_nil)))))
def m_points_stand : SM :=
  (sRet (mOp fIs (mOp fIx (mCall f_gone_through (aCons (mCall f_products_at (aCons (mCall f_sure_far (aCons (mVar 0) aNil)) (aCons (mK (.int 0)) aNil))) aNil)) (mK (.int 1))) (mK .none)))
def f_points_stand : List D → Res D := fnM 1 m_points_stand
theorem sc_points_stand : FnScope (["far"] : List Str) (["far"] : List Str) (defScope (top 84)) := ⟨rfl, rfl, rfl, by decide +kernel, rfl, by decide +kernel, by decide +kernel⟩
theorem ok_points_stand (D : DefIs K mg "points_stand" (top 84)) (B : Bl mg) (D_gone_through : DefOk Pr w K mg base xc "gone_through" 6 ["table"] f_gone_through) (D_products_at : DefOk Pr w K mg base xc "products_at" 5 ["far", "point"] f_products_at) (D_sure_far : DefOk Pr w K mg base xc "sure_far" 8 ["far"] f_sure_far) : DefOk Pr w K mg base xc "points_stand" 9 ["far"] f_points_stand := by
  have nd : (["far"] : List Str).Nodup := sc_points_stand.nd
  exact def_ok (k := 8) D sc_points_stand (by decide) (fun _ _ _ _ _ _ us hl => match us, hl with | [_], _ => rfl) fun fa cdv A outer s H E O hr tk po => by
    have hu := room_u hr
    exact (rss_one (rs_ret (re_cmp op_isN r_is rfl (re_ix (re_callF D_gone_through hr (by decide) rfl tk (ra_cons (re_callF D_products_at hr (by decide) rfl tk (ra_cons (re_callF D_sure_far hr (by decide) rfl tk (ra_cons (re_var (pv 0)) ra_nil) (aCons_len aNil_len)) (ra_cons re_int ra_nil)) (aCons_len (aCons_len aNil_len))) ra_nil) (aCons_len aNil_len)) re_int (fun _ _ => rfl)) re_non)))
def m_far_rank : SM :=
  (sRet (mCall f_rank_in (aCons (mCall f_products_at (aCons (mCall f_sure_far (aCons (mVar 0) aNil)) (aCons (mK (.int 0)) aNil))) aNil)))
def f_far_rank : List D → Res D := fnM 1 m_far_rank
theorem sc_far_rank : FnScope (["far"] : List Str) (["far"] : List Str) (defScope (top 85)) := ⟨rfl, rfl, rfl, by decide +kernel, rfl, by decide +kernel, by decide +kernel⟩
theorem ok_far_rank (D : DefIs K mg "far_rank" (top 85)) (B : Bl mg) (D_rank_in : DefOk Pr w K mg base xc "rank_in" 6 ["table"] f_rank_in) (D_products_at : DefOk Pr w K mg base xc "products_at" 5 ["far", "point"] f_products_at) (D_sure_far : DefOk Pr w K mg base xc "sure_far" 8 ["far"] f_sure_far) : DefOk Pr w K mg base xc "far_rank" 9 ["far"] f_far_rank := by
  have nd : (["far"] : List Str).Nodup := sc_far_rank.nd
  exact def_ok (k := 8) D sc_far_rank (by decide) (fun _ _ _ _ _ _ us hl => match us, hl with | [_], _ => rfl) fun fa cdv A outer s H E O hr tk po => by
    have hu := room_u hr
    exact (rss_one (rs_ret (re_callF D_rank_in hr (by decide) rfl tk (ra_cons (re_callF D_products_at hr (by decide) rfl tk (ra_cons (re_callF D_sure_far hr (by decide) rfl tk (ra_cons (re_var (pv 0)) ra_nil) (aCons_len aNil_len)) (ra_cons re_int ra_nil)) (aCons_len (aCons_len aNil_len))) ra_nil) (aCons_len aNil_len))))
def m_volume_of_far : SM :=
  (mSeq (sSet 1 (mCall f_sure_far (aCons (mVar 0) aNil)))
  (mSeq (sIf (bOf (mOp fEq (mCall bLen (aCons (mVar 1) aNil)) (mK (.int 1)))) (sRet (mK (.tuple [.int 1, .int 1]))) sNext)
  (sRet (mCall f_determinant_in (aCons (mCall f_part_at (aCons (mCall f_products_at (aCons (mVar 1) (aCons (mK (.int 0)) aNil))) (aCons (asList (nLR2 (mK (.int 1)) (mCall bLen (aCons (mVar 1) aNil)))) aNil))) aNil)))))
def f_volume_of_far : List D → Res D := fnM 2 m_volume_of_far
theorem sc_volume_of_far : FnScope (["far", "own"] : List Str) (["far"] : List Str) (defScope (top 86)) := ⟨rfl, rfl, rfl, by decide +kernel, rfl, by decide +kernel, by decide +kernel⟩
theorem ok_volume_of_far (D : DefIs K mg "volume_of_far" (top 86)) (B : Bl mg) (h_ONE : Pr2 K mg "ONE" 1 1) (D_sure_far : DefOk Pr w K mg base xc "sure_far" 8 ["far"] f_sure_far) (D_determinant_in : DefOk Pr w K mg base xc "determinant_in" 6 ["table"] f_determinant_in) (D_part_at : DefOk Pr w K mg base xc "part_at" 1 ["told", "lot"] f_part_at) (D_products_at : DefOk Pr w K mg base xc "products_at" 5 ["far", "point"] f_products_at) : DefOk Pr w K mg base xc "volume_of_far" 9 ["far"] f_volume_of_far := by
  have nd : (["far", "own"] : List Str).Nodup := sc_volume_of_far.nd
  exact def_ok (k := 8) D sc_volume_of_far (by decide) (fun _ _ _ _ _ _ us hl => match us, hl with | [_], _ => rfl) fun fa cdv A outer s H E O hr tk po => by
    have hu := room_u hr
    exact (rss_cons (rs_set (i := 1) nd rfl (Or.inl rfl) (re_callF D_sure_far hr (by decide) rfl tk (ra_cons (re_var (pv 0)) ra_nil) (aCons_len aNil_len)))
  (rss_cons (rs_if (rt_cmp (op_eqC hu) r_eq rfl (re_callB call_len rc_len rfl B.len (by decide +kernel) (ra_cons (re_var (pv 1)) ra_nil)) re_int) (rss_one (rs_ret (re_pr2 rfl h_ONE))) rss_nil)
  (rss_one (rs_ret (re_callF D_determinant_in hr (by decide) rfl tk (ra_cons (re_callF D_part_at hr (by decide) rfl tk (ra_cons (re_callF D_products_at hr (by decide) rfl tk (ra_cons (re_var (pv 1)) (ra_cons re_int ra_nil)) (aCons_len (aCons_len aNil_len))) (ra_cons (re_of_new (reF_lr2 rfl rfl B.list rfl B.range re_int (re_callB call_len rc_len rfl B.len (by decide +kernel) (ra_cons (re_var (pv 1)) ra_nil)))) ra_nil)) (aCons_len (aCons_len aNil_len))) ra_nil) (aCons_len aNil_len))))))
def m_freest_in : SM :=
  (mSeq (sSet 1 (mCall f_filling_in (aCons (mVar 0) aNil)))
  (sRet (mIf (bAnd (bOf (mOp fIsNot (mVar 1) (mK .none))) (bOf (mOp fEq (mCall f_rank_in (aCons (mVar 1) aNil)) (mCall bLen (aCons (mVar 1) aNil))))) (mVar 1) (mK .none))))
def f_freest_in : List D → Res D := fnM 2 m_freest_in
theorem sc_freest_in : FnScope (["told", "found"] : List Str) (["told"] : List Str) (defScope (top 88)) := ⟨rfl, rfl, rfl, by decide +kernel, rfl, by decide +kernel, by decide +kernel⟩
theorem ok_freest_in (D : DefIs K mg "freest_in" (top 88)) (B : Bl mg) (D_filling_in : DefOk Pr w K mg base xc "filling_in" 9 ["told"] f_filling_in) (D_rank_in : DefOk Pr w K mg base xc "rank_in" 6 ["table"] f_rank_in) : DefOk Pr w K mg base xc "freest_in" 10 ["told"] f_freest_in := by
  have nd : (["told", "found"] : List Str).Nodup := sc_freest_in.nd
  exact def_ok (k := 9) D sc_freest_in (by decide) (fun _ _ _ _ _ _ us hl => match us, hl with | [_], _ => rfl) fun fa cdv A outer s H E O hr tk po => by
    have hu := room_u hr
    exact (rss_cons (rs_set (i := 1) nd rfl (Or.inl rfl) (re_callF D_filling_in hr (by decide) rfl tk (ra_cons (re_var (pv 0)) ra_nil) (aCons_len aNil_len)))
  (rss_one (rs_ret (re_if (rt_bop (rw_and (rt_cmp op_notN r_isNot rfl (re_var (pv 1)) re_non) (rw_and1 (rt_cmp (op_eqC hu) r_eq rfl (re_callF D_rank_in hr (by decide) rfl tk (ra_cons (re_var (pv 1)) ra_nil) (aCons_len aNil_len)) (re_callB call_len rc_len rfl B.len (by decide +kernel) (ra_cons (re_var (pv 1)) ra_nil)))))) (re_var (pv 1)) re_non))))
def m_has_freest : SM :=
  (sRet (mOp fIsNot (mCall f_freest_in (aCons (mCall f_sure_chorded (aCons (mVar 0) aNil)) aNil)) (mK .none)))
def f_has_freest : List D → Res D := fnM 1 m_has_freest
theorem sc_has_freest : FnScope (["told"] : List Str) (["told"] : List Str) (defScope (top 89)) := ⟨rfl, rfl, rfl, by decide +kernel, rfl, by decide +kernel, by decide +kernel⟩
theorem ok_has_freest (D : DefIs K mg "has_freest" (top 89)) (B : Bl mg) (D_freest_in : DefOk Pr w K mg base xc "freest_in" 10 ["told"] f_freest_in) (D_sure_chorded : DefOk Pr w K mg base xc "sure_chorded" 8 ["told"] f_sure_chorded) : DefOk Pr w K mg base xc "has_freest" 11 ["told"] f_has_freest := by
  have nd : (["told"] : List Str).Nodup := sc_has_freest.nd
  exact def_ok (k := 10) D sc_has_freest (by decide) (fun _ _ _ _ _ _ us hl => match us, hl with | [_], _ => rfl) fun fa cdv A outer s H E O hr tk po => by
    have hu := room_u hr
    exact (rss_one (rs_ret (re_cmp op_notN r_isNot rfl (re_callF D_freest_in hr (by decide) rfl tk (ra_cons (re_callF D_sure_chorded hr (by decide) rfl tk (ra_cons (re_var (pv 0)) ra_nil) (aCons_len aNil_len)) ra_nil) (aCons_len aNil_len)) re_non)))
def m_freest : SM :=
  (mSeq (sSet 1 (mCall f_freest_in (aCons (mCall f_sure_chorded (aCons (mVar 0) aNil)) aNil)))
  (mSeq (sIf (bOf (mOp fIs (mVar 1) (mK .none))) (sExc 0) sNext)
  (sRet (mVar 1))))
def f_freest : List D → Res D := fnM 2 m_freest
theorem sc_freest : FnScope (["told", "found"] : List Str) (["told"] : List Str) (defScope (top 90)) := ⟨rfl, rfl, rfl, by decide +kernel, rfl, by decide +kernel, by decide +kernel⟩
theorem ok_freest (D : DefIs K mg "freest" (top 90)) (B : Bl mg) (X_NoPaper : Exo K mg "NoPaper" (xc 0)) (D_freest_in : DefOk Pr w K mg base xc "freest_in" 10 ["told"] f_freest_in) (D_sure_chorded : DefOk Pr w K mg base xc "sure_chorded" 8 ["told"] f_sure_chorded) : DefOk Pr w K mg base xc "freest" 11 ["told"] f_freest := by
  have nd : (["told", "found"] : List Str).Nodup := sc_freest.nd
  exact def_ok (k := 10) D sc_freest (by decide) (fun _ _ _ _ _ _ us hl => match us, hl with | [_], _ => rfl) fun fa cdv A outer s H E O hr tk po => by
    have hu := room_u hr
    exact (rss_cons (rs_set (i := 1) nd rfl (Or.inl rfl) (re_callF D_freest_in hr (by decide) rfl tk (ra_cons (re_callF D_sure_chorded hr (by decide) rfl tk (ra_cons (re_var (pv 0)) ra_nil) (aCons_len aNil_len)) ra_nil) (aCons_len aNil_len)))
  (rss_cons (rs_if (rt_cmp op_isN r_is rfl (re_var (pv 1)) re_non) (rss_one (rs_raiseO (c := 0) X_NoPaper rfl rfl tk)) rss_nil)
  (rss_one (rs_ret (re_var (pv 1))))))
def m_greatest_determinant : SM :=
  (sRet (mCall f_determinant_in (aCons (mCall f_freest (aCons (mVar 0) aNil)) aNil)))
def f_greatest_determinant : List D → Res D := fnM 1 m_greatest_determinant
theorem sc_greatest_determinant : FnScope (["told"] : List Str) (["told"] : List Str) (defScope (top 91)) := ⟨rfl, rfl, rfl, by decide +kernel, rfl, by decide +kernel, by decide +kernel⟩
theorem ok_greatest_determinant (D : DefIs K mg "greatest_determinant" (top 91)) (B : Bl mg) (D_determinant_in : DefOk Pr w K mg base xc "determinant_in" 6 ["table"] f_determinant_in) (D_freest : DefOk Pr w K mg base xc "freest" 11 ["told"] f_freest) : DefOk Pr w K mg base xc "greatest_determinant" 12 ["told"] f_greatest_determinant := by
  have nd : (["told"] : List Str).Nodup := sc_greatest_determinant.nd
  exact def_ok (k := 11) D sc_greatest_determinant (by decide) (fun _ _ _ _ _ _ us hl => match us, hl with | [_], _ => rfl) fun fa cdv A outer s H E O hr tk po => by
    have hu := room_u hr
    exact (rss_one (rs_ret (re_callF D_determinant_in hr (by decide) rfl tk (ra_cons (re_callF D_freest hr (by decide) rfl tk (ra_cons (re_var (pv 0)) ra_nil) (aCons_len aNil_len)) ra_nil) (aCons_len aNil_len))))
def m_make_in : SM :=
  (sRet (mCall f_both (aCons (mVar 1) (aCons (mCall f_times_numbers (aCons (mVar 0) (aCons (mVar 2) aNil))) aNil))))
def f_make_in : List D → Res D := fnM 3 m_make_in
theorem sc_make_in : FnScope (["table", "one", "other"] : List Str) (["table", "one", "other"] : List Str) (defScope (top 93)) := ⟨rfl, rfl, rfl, by decide +kernel, rfl, by decide +kernel, by decide +kernel⟩
theorem ok_make_in (D : DefIs K mg "make_in" (top 93)) (B : Bl mg) (D_both : DefOk Pr w K mg base xc "both" 5 ["one", "other"] f_both) (D_times_numbers : DefOk Pr w K mg base xc "times_numbers" 6 ["table", "row"] f_times_numbers) : DefOk Pr w K mg base xc "make_in" 7 ["table", "one", "other"] f_make_in := by
  have nd : (["table", "one", "other"] : List Str).Nodup := sc_make_in.nd
  exact def_ok (k := 6) D sc_make_in (by decide) (fun _ _ _ _ _ _ us hl => match us, hl with | [_, _, _], _ => rfl) fun fa cdv A outer s H E O hr tk po => by
    have hu := room_u hr
    exact (rss_one (rs_ret (re_callF D_both hr (by decide) rfl tk (ra_cons (re_var (pv 1)) (ra_cons (re_callF D_times_numbers hr (by decide) rfl tk (ra_cons (re_var (pv 0)) (ra_cons (re_var (pv 2)) ra_nil)) (aCons_len (aCons_len aNil_len))) ra_nil)) (aCons_len (aCons_len aNil_len)))))
def m_stepped_row : SM :=
  (sRet (mCall bTuple (aCons (asList (lcOut (bTup 2 (bCons (bName 3) (bCons (bName 4) bNil))) bTrue (mCall f_take (aCons (mVar 3) (aCons (mCall f_multiply (aCons (mVar 2) (aCons (mVar 4) aNil))) aNil))) [3, 4] (iZp (aCons (mVar 0) (aCons (mVar 1) aNil))))) aNil)))
def f_stepped_row : List D → Res D := fnM 5 m_stepped_row
theorem sc_stepped_row : FnScope (["row", "other", "much", "near", "far"] : List Str) (["row", "other", "much"] : List Str) (defScope (top 94)) := ⟨rfl, rfl, rfl, by decide +kernel, rfl, by decide +kernel, by decide +kernel⟩
theorem ok_stepped_row (D : DefIs K mg "stepped_row" (top 94)) (B : Bl mg) (D_take : DefOk Pr w K mg base xc "take" 3 ["one", "other"] f_take) (D_multiply : DefOk Pr w K mg base xc "multiply" 3 ["one", "other"] f_multiply) : DefOk Pr w K mg base xc "stepped_row" 4 ["row", "other", "much"] f_stepped_row := by
  have nd : (["row", "other", "much", "near", "far"] : List Str).Nodup := sc_stepped_row.nd
  exact def_ok (k := 3) D sc_stepped_row (by decide) (fun _ _ _ _ _ _ us hl => match us, hl with | [_, _, _], _ => rfl) fun fa cdv A outer s H E O hr tk po => by
    have hu := room_u hr
    exact (rss_one (rs_ret (re_callTy call_tuple_of rc_tuple rfl B.tuple (by decide +kernel) (ra_cons (re_of_new (reF_lc (own := [("near", 3), ("far", 4)]) rfl nd (ric_of (ri_zip rfl B.zip (ra_cons (re_var (pv 0)) (ra_cons (re_var (pv 1)) ra_nil)))) (blk_of (by kernel_rfl)) (bg_tup (n := 2) (bgs_cons (bg_name 3) (bgs_cons (bg_name 4) bgs_nil))) (by decide) (fun s H C cl fp => (pg_tup (n := 2) rfl (pgs_cons (pg_name (i := 3) nd rfl (Or.inl rfl)) (pgs_cons (pg_name (i := 4) nd rfl (Or.inl rfl)) pgs_nil)))) (fun s H C cl fp => rts_nil) (fun s H C cl fp => (re_callF D_take hr (by decide) rfl takes0 (ra_cons (re_var (pv 3)) (ra_cons (re_callF D_multiply hr (by decide) rfl takes0 (ra_cons (re_var (pv 2)) (ra_cons (re_var (pv 4)) ra_nil)) (aCons_len (aCons_len aNil_len))) ra_nil)) (aCons_len (aCons_len aNil_len)))))) ra_nil))))
def m_picked_row : SM :=
  (mSeq (sFor (iEnmA (aCons (mVar 1) aNil)) (bTup 2 (bCons (bName 2) (bCons (bName 3) bNil))) (sIf (bOf (mOp fNe (mCall f_make_in (aCons (mVar 0) (aCons (mVar 3) (aCons (mVar 3) aNil)))) (mK (.tuple [.int 0, .int 1])))) (sRet (mTup (aCons (mVar 2) (aCons (mVar 3) aNil)))) sNext))
  (mSeq (sFor (iEnmA (aCons (mVar 1) aNil)) (bTup 2 (bCons (bName 2) (bCons (bName 3) bNil))) (sFor (iSeq (mCut (oSome (mOp fAddX (mVar 2) (mK (.int 1)))) oNone (mVar 1))) (bName 4) (sIf (bOf (mOp fNe (mCall f_make_in (aCons (mVar 0) (aCons (mVar 3) (aCons (mVar 4) aNil)))) (mK (.tuple [.int 0, .int 1])))) (sRet (mTup (aCons (mVar 2) (aCons (mCall bTuple (aCons (asList (lcOut (bTup 2 (bCons (bName 5) (bCons (bName 6) bNil))) bTrue (mCall f_add (aCons (mVar 5) (aCons (mVar 6) aNil))) [5, 6] (iZp (aCons (mVar 3) (aCons (mVar 4) aNil))))) aNil)) aNil)))) sNext)))
  (sRet (mK .none))))
def f_picked_row : List D → Res D := fnM 7 m_picked_row
theorem sc_picked_row : FnScope (["table", "rows", "place", "row", "other", "near", "far"] : List Str) (["table", "rows"] : List Str) (defScope (top 95)) := ⟨rfl, rfl, rfl, by decide +kernel, rfl, by decide +kernel, by decide +kernel⟩
theorem ok_picked_row (D : DefIs K mg "picked_row" (top 95)) (B : Bl mg) (h_NIL : Pr2 K mg "NIL" 0 1) (D_make_in : DefOk Pr w K mg base xc "make_in" 7 ["table", "one", "other"] f_make_in) (D_add : DefOk Pr w K mg base xc "add" 3 ["one", "other"] f_add) : DefOk Pr w K mg base xc "picked_row" 8 ["table", "rows"] f_picked_row := by
  have nd : (["table", "rows", "place", "row", "other", "near", "far"] : List Str).Nodup := sc_picked_row.nd
  exact def_ok (k := 7) D sc_picked_row (by decide) (fun _ _ _ _ _ _ us hl => match us, hl with | [_, _], _ => rfl) fun fa cdv A outer s H E O hr tk po => by
    have hu := room_u hr
    exact (rss_cons (rs_for po rfl (ri_enumA rfl B.enumerate (ra_cons (re_var (pv 1)) ra_nil)) (pg_tup (n := 2) rfl (pgs_cons (pg_name (i := 2) nd rfl (Or.inl rfl)) (pgs_cons (pg_name (i := 3) nd rfl (Or.inl rfl)) pgs_nil))) (bg_tup (n := 2) (bgs_cons (bg_name 2) (bgs_cons (bg_name 3) bgs_nil))) (rss_one (rs_if (rt_cmp (op_neC hu) r_ne rfl (re_callF D_make_in hr (by decide) rfl tk (ra_cons (re_var (pv 0)) (ra_cons (re_var (pv 3)) (ra_cons (re_var (pv 3)) ra_nil))) (aCons_len (aCons_len (aCons_len aNil_len)))) (re_pr2 rfl h_NIL)) (rss_one (rs_ret (re_tup (ra_cons (re_var (pv 2)) (ra_cons (re_var (pv 3)) ra_nil))))) rss_nil)))
  (rss_cons (rs_for po rfl (ri_enumA rfl B.enumerate (ra_cons (re_var (pv 1)) ra_nil)) (pg_tup (n := 2) rfl (pgs_cons (pg_name (i := 2) nd rfl (Or.inl rfl)) (pgs_cons (pg_name (i := 3) nd rfl (Or.inl rfl)) pgs_nil))) (bg_tup (n := 2) (bgs_cons (bg_name 2) (bgs_cons (bg_name 3) bgs_nil))) (rss_one (rs_for po rfl (ri_seq (re_slice (re_var (pv 1)) (ro_some (re_op op_addX r_addX (re_var (pv 2)) re_int)) ro_none)) (pg_name (i := 4) nd rfl (Or.inl rfl)) (bg_name 4) (rss_one (rs_if (rt_cmp (op_neC hu) r_ne rfl (re_callF D_make_in hr (by decide) rfl tk (ra_cons (re_var (pv 0)) (ra_cons (re_var (pv 3)) (ra_cons (re_var (pv 4)) ra_nil))) (aCons_len (aCons_len (aCons_len aNil_len)))) (re_pr2 rfl h_NIL)) (rss_one (rs_ret (re_tup (ra_cons (re_var (pv 2)) (ra_cons (re_callTy call_tuple_of rc_tuple rfl B.tuple (by decide +kernel) (ra_cons (re_of_new (reF_lc (own := [("near", 5), ("far", 6)]) rfl nd (ric_of (ri_zip rfl B.zip (ra_cons (re_var (pv 3)) (ra_cons (re_var (pv 4)) ra_nil)))) (blk_of (by kernel_rfl)) (bg_tup (n := 2) (bgs_cons (bg_name 5) (bgs_cons (bg_name 6) bgs_nil))) (by decide) (fun s H C cl fp => (pg_tup (n := 2) rfl (pgs_cons (pg_name (i := 5) nd rfl (Or.inl rfl)) (pgs_cons (pg_name (i := 6) nd rfl (Or.inl rfl)) pgs_nil)))) (fun s H C cl fp => rts_nil) (fun s H C cl fp => (re_callF D_add hr (by decide) rfl takes0 (ra_cons (re_var (pv 5)) (ra_cons (re_var (pv 6)) ra_nil)) (aCons_len (aCons_len aNil_len)))))) ra_nil)) ra_nil))))) rss_nil)))))
  (rss_one (rs_ret re_non))))
def m_made_plain : SM :=
  (mSeq (sSet 1 (mCall bLen (aCons (mVar 0) aNil)))
  (mSeq (sSet 3 (asList (lcOut (bName 2) bTrue (mCall bTuple (aCons (asList (lcOut (bName 10) bTrue (mIf (bOf (mOp fEq (mVar 2) (mVar 10))) (mK (.tuple [.int 1, .int 1])) (mK (.tuple [.int 0, .int 1]))) [10] (iRng (aCons (mVar 1) aNil)))) aNil)) [2] (iRng (aCons (mVar 1) aNil)))))
  (mSeq (sPar [4, 5, 6] (xOwn (nOf (nLst aNil)) (xOwn (nOf (nLst aNil)) (xVal (mCall f_picked_row (aCons (mVar 0) (aCons (mVar 3) aNil))) xNil))))
  (mSeq (sWhile 100 (bOf (mOp fIsNot (mVar 6) (mK .none))) (mSeq (sUnp (bTup 2 (bCons (bName 2) (bCons (bName 7) bNil))) (mVar 6))
  (mSeq (sSet 8 (mCall f_make_in (aCons (mVar 0) (aCons (mVar 7) (aCons (mVar 7) aNil)))))
  (mSeq (sSet 9 (mOp fAddX (mCut oNone (oSome (mVar 2)) (mVar 3)) (mCut (oSome (mOp fAddX (mVar 2) (mK (.int 1)))) oNone (mVar 3))))
  (mSeq (sSet 3 (asList (lcOut (bName 11) bTrue (mCall f_stepped_row (aCons (mVar 11) (aCons (mVar 7) (aCons (mCall f_divide (aCons (mCall f_make_in (aCons (mVar 0) (aCons (mVar 11) (aCons (mVar 7) aNil)))) (aCons (mVar 8) aNil))) aNil)))) [11] (iSeq (mVar 9)))))
  (mSeq (sApp 4 (mVar 8))
  (mSeq (sApp 5 (mVar 7))
  (sSet 6 (mCall f_picked_row (aCons (mVar 0) (aCons (mVar 3) aNil)))))))))))
  (sFrzA (sRet (mTup (aCons (mCall bTuple (aCons (mOp fAddX (mVar 4) (mOp fMul (mLst (aCons (mK (.tuple [.int 0, .int 1])) aNil)) (mCall bLen (aCons (mVar 3) aNil)))) aNil)) (aCons (mCall bTuple (aCons (mOp fAddX (mVar 5) (mVar 3)) aNil)) aNil)))))))))
def f_made_plain : List D → Res D := fnM 12 m_made_plain
theorem sc_made_plain : FnScope (["table", "size", "place", "left", "weights", "rows", "found", "row", "weight", "others", "other", "own"] : List Str) (["table"] : List Str) (defScope (top 96)) := ⟨rfl, rfl, rfl, by decide +kernel, rfl, by decide +kernel, by decide +kernel⟩
theorem ok_made_plain (D : DefIs K mg "made_plain" (top 96)) (B : Bl mg) (h_ONE : Pr2 K mg "ONE" 1 1) (h_NIL : Pr2 K mg "NIL" 0 1) (D_picked_row : DefOk Pr w K mg base xc "picked_row" 8 ["table", "rows"] f_picked_row) (D_make_in : DefOk Pr w K mg base xc "make_in" 7 ["table", "one", "other"] f_make_in) (D_stepped_row : DefOk Pr w K mg base xc "stepped_row" 4 ["row", "other", "much"] f_stepped_row) (D_divide : DefOk Pr w K mg base xc "divide" 3 ["one", "other"] f_divide) : DefOk Pr w K mg base xc "made_plain" 9 ["table"] f_made_plain := by
  have nd : (["table", "size", "place", "left", "weights", "rows", "found", "row", "weight", "others", "other", "own"] : List Str).Nodup := sc_made_plain.nd
  exact def_ok (k := 8) D sc_made_plain (by decide) (fun _ _ _ _ _ _ us hl => match us, hl with | [_], _ => rfl) fun fa cdv A outer s H E O hr tk po => by
    have hu := room_u hr
    exact (rss_cons (rs_set (i := 1) nd rfl (Or.inr rfl) (re_callB call_len rc_len rfl B.len (by decide +kernel) (ra_cons (re_var (pv 0)) ra_nil)))
  (rss_cons (rs_lc_V (own := [("place", 2)]) rfl nd rfl rfl rfl rfl rfl (ric_of (ri_range1 rfl B.range (ra_cons (re_var (pv 1)) ra_nil) (aCons_len aNil_len))) (blk_of (by kernel_rfl)) (bg_name 2) (by decide) (fun s H C cl fp => (pg_name (i := 2) nd rfl (Or.inr rfl))) (fun s H C cl fp => rts_nil) (fun s H C cl fp => (re_callTy call_tuple_of rc_tuple rfl B.tuple (by decide +kernel) (ra_cons (re_of_new (reF_lc (own := [("other", 10)]) rfl nd (ric_of (ri_range1 rfl B.range (ra_cons (re_var (pv 1)) ra_nil) (aCons_len aNil_len))) (blk_of (by kernel_rfl)) (bg_name 10) (by decide) (fun s H C cl fp => (pg_name (i := 10) nd rfl (Or.inl rfl))) (fun s H C cl fp => rts_nil) (fun s H C cl fp => (re_if (rt_cmp (op_eqC hu) r_eq rfl (re_var (pv 2)) (re_var (pv 10))) (re_pr2 rfl h_ONE) (re_pr2 rfl h_NIL))))) ra_nil))))
  (rss_cons (rs_par3 rfl nd rfl rfl rfl (by decide) (by decide) (by decide) rfl rfl rfl (rx_own (ren_of (reF_lst ra_nil)) (rx_own (ren_of (reF_lst ra_nil)) (rx_val (re_callF D_picked_row hr (by decide) rfl tk (ra_cons (re_var (pv 0)) (ra_cons (re_var (pv 3)) ra_nil)) (aCons_len (aCons_len aNil_len))) rx_nil))) rfl)
  (rss_cons (rs_while 100 po (rt_cmp op_notN r_isNot rfl (re_var (pv 6)) re_non) (rss_cons (rs_unp (re_var (pv 6)) (pg_tup (n := 2) rfl (pgs_cons (pg_name (i := 2) nd rfl (Or.inl rfl)) (pgs_cons (pg_name (i := 7) nd rfl (Or.inr rfl)) pgs_nil))) (bg_tup (n := 2) (bgs_cons (bg_name 2) (bgs_cons (bg_name 7) bgs_nil))))
  (rss_cons (rs_set (i := 8) nd rfl (Or.inr rfl) (re_callF D_make_in hr (by decide) rfl tk (ra_cons (re_var (pv 0)) (ra_cons (re_var (pv 7)) (ra_cons (re_var (pv 7)) ra_nil))) (aCons_len (aCons_len (aCons_len aNil_len)))))
  (rss_cons (rs_set (i := 9) nd rfl (Or.inl rfl) (re_op op_addX r_addX (re_slice (re_var (pv 3)) ro_none (ro_some (re_var (pv 2)))) (re_slice (re_var (pv 3)) (ro_some (re_op op_addX r_addX (re_var (pv 2)) re_int)) ro_none)))
  (rss_cons (rs_lc_V (own := [("own", 11)]) rfl nd rfl rfl rfl rfl rfl (ric_of (ri_seq (re_var (pv 9)))) (blk_of (by kernel_rfl)) (bg_name 11) (by decide) (fun s H C cl fp => (pg_name (i := 11) nd rfl (Or.inl rfl))) (fun s H C cl fp => rts_nil) (fun s H C cl fp => (re_callF D_stepped_row hr (by decide) rfl takes0 (ra_cons (re_var (pv 11)) (ra_cons (re_var (pv 7)) (ra_cons (re_callF D_divide hr (by decide) rfl takes0 (ra_cons (re_callF D_make_in hr (by decide) rfl takes0 (ra_cons (re_var (pv 0)) (ra_cons (re_var (pv 11)) (ra_cons (re_var (pv 7)) ra_nil))) (aCons_len (aCons_len (aCons_len aNil_len)))) (ra_cons (re_var (pv 8)) ra_nil)) (aCons_len (aCons_len aNil_len))) ra_nil))) (aCons_len (aCons_len (aCons_len aNil_len))))))
  (rss_cons (rs_app (pv 4) (re_var (pv 8)))
  (rss_cons (rs_app (pv 5) (re_var (pv 7)))
  (rss_one (rs_set (i := 6) nd rfl (Or.inl rfl) (re_callF D_picked_row hr (by decide) rfl tk (ra_cons (re_var (pv 0)) (ra_cons (re_var (pv 3)) ra_nil)) (aCons_len (aCons_len aNil_len))))))))))))
  (rss_one (rs_frzA (rs_ret (re_tup (ra_cons (re_callTy call_tuple_of rc_tuple rfl B.tuple (by decide +kernel) (ra_cons (re_op op_addX r_addX (re_var (pv 4)) (re_op op_mulC r_mulC (re_lst (ra_cons (re_pr2 rfl h_NIL) ra_nil)) (re_callB call_len rc_len rfl B.len (by decide +kernel) (ra_cons (re_var (pv 3)) ra_nil)))) ra_nil)) (ra_cons (re_callTy call_tuple_of rc_tuple rfl B.tuple (by decide +kernel) (ra_cons (re_op op_addX r_addX (re_var (pv 5)) (re_var (pv 3))) ra_nil)) ra_nil))))))))))
def m_shape_in : SM :=
  (mSeq (sSet 1 (mOp fIx (mCall f_made_plain (aCons (mVar 0) aNil)) (mK (.int 0))))
  (mSeq (sSet 2 (mCall bLen (aCons (asList (lcOut (bName 4) (bOf (mOp fGt (mOp fIx (mVar 4) (mK (.int 0))) (mK (.int 0)))) (mVar 4) [4] (iSeq (mVar 1)))) aNil)))
  (mSeq (sSet 3 (mCall bLen (aCons (asList (lcOut (bName 4) (bOf (mOp fEq (mVar 4) (mK (.tuple [.int 0, .int 1])))) (mVar 4) [4] (iSeq (mVar 1)))) aNil)))
  (sRet (mTup (aCons (mVar 2) (aCons (mOp fSub (mOp fSub (mCall bLen (aCons (mVar 1) aNil)) (mVar 2)) (mVar 3)) (aCons (mVar 3) aNil))))))))
def f_shape_in : List D → Res D := fnM 5 m_shape_in
theorem sc_shape_in : FnScope (["table", "weights", "above", "nought", "weight"] : List Str) (["table"] : List Str) (defScope (top 97)) := ⟨rfl, rfl, rfl, by decide +kernel, rfl, by decide +kernel, by decide +kernel⟩
theorem ok_shape_in (D : DefIs K mg "shape_in" (top 97)) (B : Bl mg) (h_NIL : Pr2 K mg "NIL" 0 1) (D_made_plain : DefOk Pr w K mg base xc "made_plain" 9 ["table"] f_made_plain) : DefOk Pr w K mg base xc "shape_in" 10 ["table"] f_shape_in := by
  have nd : (["table", "weights", "above", "nought", "weight"] : List Str).Nodup := sc_shape_in.nd
  exact def_ok (k := 9) D sc_shape_in (by decide) (fun _ _ _ _ _ _ us hl => match us, hl with | [_], _ => rfl) fun fa cdv A outer s H E O hr tk po => by
    have hu := room_u hr
    exact (rss_cons (rs_set (i := 1) nd rfl (Or.inl rfl) (re_ix (re_callF D_made_plain hr (by decide) rfl tk (ra_cons (re_var (pv 0)) ra_nil) (aCons_len aNil_len)) re_int (fun _ _ => rfl)))
  (rss_cons (rs_set (i := 2) nd rfl (Or.inl rfl) (re_callB call_len rc_len rfl B.len (by decide +kernel) (ra_cons (re_of_new (reF_lc (own := [("weight", 4)]) rfl nd (ric_of (ri_seq (re_var (pv 1)))) (blk_of (by kernel_rfl)) (bg_name 4) (by decide) (fun s H C cl fp => (pg_name (i := 4) nd rfl (Or.inl rfl))) (fun s H C cl fp => (rts_one (rt_cmp op_gt r_gt rfl (re_ix (re_var (pv 4)) re_int (fun _ _ => rfl)) re_int))) (fun s H C cl fp => (re_var (pv 4))))) ra_nil)))
  (rss_cons (rs_set (i := 3) nd rfl (Or.inl rfl) (re_callB call_len rc_len rfl B.len (by decide +kernel) (ra_cons (re_of_new (reF_lc (own := [("weight", 4)]) rfl nd (ric_of (ri_seq (re_var (pv 1)))) (blk_of (by kernel_rfl)) (bg_name 4) (by decide) (fun s H C cl fp => (pg_name (i := 4) nd rfl (Or.inl rfl))) (fun s H C cl fp => (rts_one (rt_cmp (op_eqC hu) r_eq rfl (re_var (pv 4)) (re_pr2 rfl h_NIL)))) (fun s H C cl fp => (re_var (pv 4))))) ra_nil)))
  (rss_one (rs_ret (re_tup (ra_cons (re_var (pv 2)) (ra_cons (re_op op_sub r_sub (re_op op_sub r_sub (re_callB call_len rc_len rfl B.len (by decide +kernel) (ra_cons (re_var (pv 1)) ra_nil)) (re_var (pv 2))) (re_var (pv 3))) (ra_cons (re_var (pv 3)) ra_nil)))))))))
def m_shape_of : SM :=
  (sRet (mCall f_shape_in (aCons (mCall f_sure_table (aCons (mVar 0) aNil)) aNil)))
def f_shape_of : List D → Res D := fnM 1 m_shape_of
theorem sc_shape_of : FnScope (["table"] : List Str) (["table"] : List Str) (defScope (top 98)) := ⟨rfl, rfl, rfl, by decide +kernel, rfl, by decide +kernel, by decide +kernel⟩
theorem ok_shape_of (D : DefIs K mg "shape_of" (top 98)) (B : Bl mg) (D_shape_in : DefOk Pr w K mg base xc "shape_in" 10 ["table"] f_shape_in) (D_sure_table : DefOk Pr w K mg base xc "sure_table" 7 ["table"] f_sure_table) : DefOk Pr w K mg base xc "shape_of" 11 ["table"] f_shape_of := by
  have nd : (["table"] : List Str).Nodup := sc_shape_of.nd
  exact def_ok (k := 10) D sc_shape_of (by decide) (fun _ _ _ _ _ _ us hl => match us, hl with | [_], _ => rfl) fun fa cdv A outer s H E O hr tk po => by
    have hu := room_u hr
    exact (rss_one (rs_ret (re_callF D_shape_in hr (by decide) rfl tk (ra_cons (re_callF D_sure_table hr (by decide) rfl tk (ra_cons (re_var (pv 0)) ra_nil) (aCons_len aNil_len)) ra_nil) (aCons_len aNil_len))))
def m_all_lots : SM :=
  (mSeq (sSet 1 (mLst (aCons (mTup aNil) aNil)))
  (mSeq (sFor (iRng (aCons (mVar 0) aNil)) (bName 2) (sSet 1 (mOp fAddX (mVar 1) (asList (lcOut (bName 3) bTrue (mTup (aStar (mVar 3) (aCons (mVar 2) aNil))) [3] (iSeq (mVar 1)))))))
  (sRet (asList (lcOut (bTup 2 (bCons (bName 4) (bCons (bName 3) bNil))) bTrue (mVar 3) [4, 3] (iSeq (mCall bSorted (aCons (asList (lcOut (bName 3) bTrue (mTup (aCons (mCall bLen (aCons (mVar 3) aNil)) (aCons (mVar 3) aNil))) [3] (iSeq (mVar 1)))) aNil))))))))
def f_all_lots : List D → Res D := fnM 5 m_all_lots
theorem sc_all_lots : FnScope (["size", "found", "arrow", "lot", "_"] : List Str) (["size"] : List Str) (defScope (top 100)) := ⟨rfl, rfl, rfl, by decide +kernel, rfl, by decide +kernel, by decide +kernel⟩
theorem ok_all_lots (D : DefIs K mg "all_lots" (top 100)) (B : Bl mg) : DefOk Pr w K mg base xc "all_lots" 1 ["size"] f_all_lots := by
  have nd : (["size", "found", "arrow", "lot", "_"] : List Str).Nodup := sc_all_lots.nd
  exact def_ok (k := 0) D sc_all_lots (by decide) (fun _ _ _ _ _ _ us hl => match us, hl with | [_], _ => rfl) fun fa cdv A outer s H E O hr tk po => by
    have hu := room_u hr
    exact (rss_cons (rs_set (i := 1) nd rfl (Or.inl rfl) (re_lst (ra_cons (re_tup ra_nil) ra_nil)))
  (rss_cons (rs_for po rfl (ri_range1 rfl B.range (ra_cons (re_var (pv 0)) ra_nil) (aCons_len aNil_len)) (pg_name (i := 2) nd rfl (Or.inr rfl)) (bg_name 2) (rss_one (rs_set (i := 1) nd rfl (Or.inl rfl) (re_op op_addX r_addX (re_var (pv 1)) (re_of_new (reF_lc (own := [("lot", 3)]) rfl nd (ric_of (ri_seq (re_var (pv 1)))) (blk_of (by kernel_rfl)) (bg_name 3) (by decide) (fun s H C cl fp => (pg_name (i := 3) nd rfl (Or.inl rfl))) (fun s H C cl fp => rts_nil) (fun s H C cl fp => (re_tup (ra_star (re_var (pv 3)) (ra_cons (re_var (pv 2)) ra_nil))))))))))
  (rss_one (rs_ret (re_of_new (reF_lc (own := [("_", 4), ("lot", 3)]) rfl nd (ric_of (ri_seq (re_callB (cr_sortedD hu) rc_sorted rfl B.sorted (by decide +kernel) (ra_cons (re_of_new (reF_lc (own := [("lot", 3)]) rfl nd (ric_of (ri_seq (re_var (pv 1)))) (blk_of (by kernel_rfl)) (bg_name 3) (by decide) (fun s H C cl fp => (pg_name (i := 3) nd rfl (Or.inl rfl))) (fun s H C cl fp => rts_nil) (fun s H C cl fp => (re_tup (ra_cons (re_callB call_len rc_len rfl B.len (by decide +kernel) (ra_cons (re_var (pv 3)) ra_nil)) (ra_cons (re_var (pv 3)) ra_nil)))))) ra_nil)))) (blk_of (by kernel_rfl)) (bg_tup (n := 2) (bgs_cons (bg_name 4) (bgs_cons (bg_name 3) bgs_nil))) (by decide) (fun s H C cl fp => (pg_tup (n := 2) rfl (pgs_cons (pg_name (i := 4) nd rfl (Or.inl rfl)) (pgs_cons (pg_name (i := 3) nd rfl (Or.inl rfl)) pgs_nil)))) (fun s H C cl fp => rts_nil) (fun s H C cl fp => (re_var (pv 3)))))))))
def m_lies_in : SM :=
  (sRet (mCall bAll (aCons (asList (lcOut (bName 2) bTrue (mOp (fIn false) (mVar 2) (mVar 1)) [2] (iSeq (mVar 0)))) aNil)))
def f_lies_in : List D → Res D := fnM 3 m_lies_in
theorem sc_lies_in : FnScope (["lot", "other", "arrow"] : List Str) (["lot", "other"] : List Str) (defScope (top 101)) := ⟨rfl, rfl, rfl, by decide +kernel, rfl, by decide +kernel, by decide +kernel⟩
theorem ok_lies_in (D : DefIs K mg "lies_in" (top 101)) (B : Bl mg) : DefOk Pr w K mg base xc "lies_in" 1 ["lot", "other"] f_lies_in := by
  have nd : (["lot", "other", "arrow"] : List Str).Nodup := sc_lies_in.nd
  exact def_ok (k := 0) D sc_lies_in (by decide) (fun _ _ _ _ _ _ us hl => match us, hl with | [_, _], _ => rfl) fun fa cdv A outer s H E O hr tk po => by
    have hu := room_u hr
    exact (rss_one (rs_ret (re_callB (cr_all rfl) rc_all rfl B.all (by decide +kernel) (ra_cons (re_of_new (reF_lc (own := [("arrow", 2)]) rfl nd (ric_of (ri_seq (re_var (pv 0)))) (blk_of (by kernel_rfl)) (bg_name 2) (by decide) (fun s H C cl fp => (pg_name (i := 2) nd rfl (Or.inl rfl))) (fun s H C cl fp => rts_nil) (fun s H C cl fp => (re_cmp (op_inC hu) (r_in false) rfl (re_var (pv 2)) (re_var (pv 1)))))) ra_nil))))
def m_greatest_in : SM :=
  (mSeq (sSet 1 (mCall f_tied_lots (aCons (mVar 0) aNil)))
  (mSeq (sSet 2 (asList (lcOut (bName 3) (bAnd (bOf (mOp fNe (mVar 3) (mTup aNil))) (bOf (mCall f_is_full_in (aCons (mVar 1) (aCons (mVar 3) aNil))))) (mVar 3) [3] (iSeq (mCall f_all_lots (aCons (mOp fIx (mVar 0) (mK (.int 0))) aNil))))))
  (sRet (mCall f_set_of (aCons (asList (lcOut (bName 3) (bNot (bOf (mCall bAny (aCons (asList (lcOut (bName 4) bTrue (mAnd (mCall f_lies_in (aCons (mVar 3) (aCons (mVar 4) aNil))) (mOp fNe (mVar 3) (mVar 4))) [4] (iSeq (mVar 2)))) aNil)))) (mVar 3) [3] (iSeq (mVar 2)))) aNil)))))
def f_greatest_in : List D → Res D := fnM 5 m_greatest_in
theorem sc_greatest_in : FnScope (["web", "ties", "lots", "lot", "other"] : List Str) (["web"] : List Str) (defScope (top 102)) := ⟨rfl, rfl, rfl, by decide +kernel, rfl, by decide +kernel, by decide +kernel⟩
theorem ok_greatest_in (D : DefIs K mg "greatest_in" (top 102)) (B : Bl mg) (D_tied_lots : DefOk Pr w K mg base xc "tied_lots" 1 ["web"] f_tied_lots) (D_all_lots : DefOk Pr w K mg base xc "all_lots" 1 ["size"] f_all_lots) (D_is_full_in : DefOk Pr w K mg base xc "is_full_in" 1 ["ties", "lot"] f_is_full_in) (D_set_of : DefOk Pr w K mg base xc "set_of" 1 ["things"] f_set_of) (D_lies_in : DefOk Pr w K mg base xc "lies_in" 1 ["lot", "other"] f_lies_in) : DefOk Pr w K mg base xc "greatest_in" 2 ["web"] f_greatest_in := by
  have nd : (["web", "ties", "lots", "lot", "other"] : List Str).Nodup := sc_greatest_in.nd
  exact def_ok (k := 1) D sc_greatest_in (by decide) (fun _ _ _ _ _ _ us hl => match us, hl with | [_], _ => rfl) fun fa cdv A outer s H E O hr tk po => by
    have hu := room_u hr
    exact (rss_cons (rs_set (i := 1) nd rfl (Or.inr rfl) (re_callF D_tied_lots hr (by decide) rfl tk (ra_cons (re_var (pv 0)) ra_nil) (aCons_len aNil_len)))
  (rss_cons (rs_set (i := 2) nd rfl (Or.inr rfl) (re_of_new (reF_lc (own := [("lot", 3)]) rfl nd (ric_of (ri_seq (re_callF D_all_lots hr (by decide) rfl tk (ra_cons (re_ix (re_var (pv 0)) re_int (fun _ _ => rfl)) ra_nil) (aCons_len aNil_len)))) (blk_of (by kernel_rfl)) (bg_name 3) (by decide) (fun s H C cl fp => (pg_name (i := 3) nd rfl (Or.inl rfl))) (fun s H C cl fp => (rts_one (rt_bop (rw_and (rt_cmp (op_neC hu) r_ne rfl (re_var (pv 3)) (re_tup ra_nil)) (rw_and1 (rt_val (re_callF D_is_full_in hr (by decide) rfl takes0 (ra_cons (re_var (pv 1)) (ra_cons (re_var (pv 3)) ra_nil)) (aCons_len (aCons_len aNil_len))))))))) (fun s H C cl fp => (re_var (pv 3))))))
  (rss_one (rs_ret (re_callF D_set_of hr (by decide) rfl tk (ra_cons (re_of_new (reF_lc (own := [("lot", 3)]) rfl nd (ric_of (ri_seq (re_var (pv 2)))) (blk_of (by kernel_rfl)) (bg_name 3) (by decide) (fun s H C cl fp => (pg_name (i := 3) nd rfl (Or.inr rfl))) (fun s H C cl fp => (rts_one (rt_not (rt_val (re_callB (cr_any rfl) rc_any rfl B.any (by decide +kernel) (ra_cons (re_of_new (reF_lc (own := [("other", 4)]) rfl nd (ric_of (ri_seq (re_var (pv 2)))) (blk_of (by kernel_rfl)) (bg_name 4) (by decide) (fun s H C cl fp => (pg_name (i := 4) nd rfl (Or.inl rfl))) (fun s H C cl fp => rts_nil) (fun s H C cl fp => (re_and (re_callF D_lies_in hr (by decide) rfl takes0 (ra_cons (re_var (pv 3)) (ra_cons (re_var (pv 4)) ra_nil)) (aCons_len (aCons_len aNil_len))) (re_one (re_cmp (op_neC hu) r_ne rfl (re_var (pv 3)) (re_var (pv 4)))))))) ra_nil)))))) (fun s H C cl fp => (re_var (pv 3))))) ra_nil) (aCons_len aNil_len))))))
def m_lots_fine : SM :=
  (sRet (mCall bAll (aCons (asList (lcOut (bName 1) bTrue (mCall f_never_below (aCons (mCall f_part_at (aCons (mVar 0) (aCons (mVar 1) aNil))) aNil)) [1] (iSeq (mCall f_greatest_in (aCons (mCall f_web_in (aCons (mVar 0) aNil)) aNil))))) aNil)))
def f_lots_fine : List D → Res D := fnM 2 m_lots_fine
theorem sc_lots_fine : FnScope (["told", "lot"] : List Str) (["told"] : List Str) (defScope (top 104)) := ⟨rfl, rfl, rfl, by decide +kernel, rfl, by decide +kernel, by decide +kernel⟩
theorem ok_lots_fine (D : DefIs K mg "lots_fine" (top 104)) (B : Bl mg) (D_never_below : DefOk Pr w K mg base xc "never_below" 7 ["table"] f_never_below) (D_part_at : DefOk Pr w K mg base xc "part_at" 1 ["told", "lot"] f_part_at) (D_greatest_in : DefOk Pr w K mg base xc "greatest_in" 2 ["web"] f_greatest_in) (D_web_in : DefOk Pr w K mg base xc "web_in" 2 ["told"] f_web_in) : DefOk Pr w K mg base xc "lots_fine" 8 ["told"] f_lots_fine := by
  have nd : (["told", "lot"] : List Str).Nodup := sc_lots_fine.nd
  exact def_ok (k := 7) D sc_lots_fine (by decide) (fun _ _ _ _ _ _ us hl => match us, hl with | [_], _ => rfl) fun fa cdv A outer s H E O hr tk po => by
    have hu := room_u hr
    exact (rss_one (rs_ret (re_callB (cr_all rfl) rc_all rfl B.all (by decide +kernel) (ra_cons (re_of_new (reF_lc (own := [("lot", 1)]) rfl nd (ric_of (ri_seq (re_callF D_greatest_in hr (by decide) rfl tk (ra_cons (re_callF D_web_in hr (by decide) rfl tk (ra_cons (re_var (pv 0)) ra_nil) (aCons_len aNil_len)) ra_nil) (aCons_len aNil_len)))) (blk_of (by kernel_rfl)) (bg_name 1) (by decide) (fun s H C cl fp => (pg_name (i := 1) nd rfl (Or.inl rfl))) (fun s H C cl fp => rts_nil) (fun s H C cl fp => (re_callF D_never_below hr (by decide) rfl takes0 (ra_cons (re_callF D_part_at hr (by decide) rfl takes0 (ra_cons (re_var (pv 0)) (ra_cons (re_var (pv 1)) ra_nil)) (aCons_len (aCons_len aNil_len))) ra_nil) (aCons_len aNil_len))))) ra_nil))))
def m_stands : SM :=
  (sRet (mCall f_lots_fine (aCons (mCall f_sure_chorded (aCons (mVar 0) aNil)) aNil)))
def f_stands : List D → Res D := fnM 1 m_stands
theorem sc_stands : FnScope (["told"] : List Str) (["told"] : List Str) (defScope (top 105)) := ⟨rfl, rfl, rfl, by decide +kernel, rfl, by decide +kernel, by decide +kernel⟩
theorem ok_stands (D : DefIs K mg "stands" (top 105)) (B : Bl mg) (D_lots_fine : DefOk Pr w K mg base xc "lots_fine" 8 ["told"] f_lots_fine) (D_sure_chorded : DefOk Pr w K mg base xc "sure_chorded" 8 ["told"] f_sure_chorded) : DefOk Pr w K mg base xc "stands" 9 ["told"] f_stands := by
  have nd : (["told"] : List Str).Nodup := sc_stands.nd
  exact def_ok (k := 8) D sc_stands (by decide) (fun _ _ _ _ _ _ us hl => match us, hl with | [_], _ => rfl) fun fa cdv A outer s H E O hr tk po => by
    have hu := room_u hr
    exact (rss_one (rs_ret (re_callF D_lots_fine hr (by decide) rfl tk (ra_cons (re_callF D_sure_chorded hr (by decide) rfl tk (ra_cons (re_var (pv 0)) ra_nil) (aCons_len aNil_len)) ra_nil) (aCons_len aNil_len))))
def m_without_arrow : SM :=
  (sRet (mCall bTuple (aCons (asList (lcOut (bName 2) (bOf (mOp fNe (mVar 2) (mVar 1))) (mVar 2) [2] (iRng (aCons (mCall bLen (aCons (mVar 0) aNil)) aNil)))) aNil)))
def f_without_arrow : List D → Res D := fnM 3 m_without_arrow
theorem sc_without_arrow : FnScope (["told", "arrow", "other"] : List Str) (["told", "arrow"] : List Str) (defScope (top 106)) := ⟨rfl, rfl, rfl, by decide +kernel, rfl, by decide +kernel, by decide +kernel⟩
theorem ok_without_arrow (D : DefIs K mg "without_arrow" (top 106)) (B : Bl mg) : DefOk Pr w K mg base xc "without_arrow" 1 ["told", "arrow"] f_without_arrow := by
  have nd : (["told", "arrow", "other"] : List Str).Nodup := sc_without_arrow.nd
  exact def_ok (k := 0) D sc_without_arrow (by decide) (fun _ _ _ _ _ _ us hl => match us, hl with | [_, _], _ => rfl) fun fa cdv A outer s H E O hr tk po => by
    have hu := room_u hr
    exact (rss_one (rs_ret (re_callTy call_tuple_of rc_tuple rfl B.tuple (by decide +kernel) (ra_cons (re_of_new (reF_lc (own := [("other", 2)]) rfl nd (ric_of (ri_range1 rfl B.range (ra_cons (re_callB call_len rc_len rfl B.len (by decide +kernel) (ra_cons (re_var (pv 0)) ra_nil)) ra_nil) (aCons_len aNil_len))) (blk_of (by kernel_rfl)) (bg_name 2) (by decide) (fun s H C cl fp => (pg_name (i := 2) nd rfl (Or.inl rfl))) (fun s H C cl fp => (rts_one (rt_cmp (op_neC hu) r_ne rfl (re_var (pv 2)) (re_var (pv 1))))) (fun s H C cl fp => (re_var (pv 2))))) ra_nil))))
def m_own_by_lot : SM :=
  (mSeq (sSet 3 (mCall bTuple (aCons (asList (lcOut (bName 5) bTrue (mOp fIx (mOp fIx (mVar 0) (mVar 2)) (mVar 5)) [5] (iSeq (mVar 1)))) aNil)))
  (mSeq (sIf (bOf (mOp fEq (mVar 3) (mTup aNil))) (sRet (mK (.tuple [.int 0, .int 1]))) sNext)
  (mSeq (sSet 4 (mCall f_solve (aCons (mCall f_part_at (aCons (mVar 0) (aCons (mVar 1) aNil))) (aCons (mVar 3) aNil))))
  (sRet (mIf (bOf (mOp fIsNot (mVar 4) (mK .none))) (mCall f_both (aCons (mVar 3) (aCons (mVar 4) aNil))) (mK .none))))))
def f_own_by_lot : List D → Res D := fnM 6 m_own_by_lot
theorem sc_own_by_lot : FnScope (["told", "lot", "arrow", "row", "share", "other"] : List Str) (["told", "lot", "arrow"] : List Str) (defScope (top 107)) := ⟨rfl, rfl, rfl, by decide +kernel, rfl, by decide +kernel, by decide +kernel⟩
theorem ok_own_by_lot (D : DefIs K mg "own_by_lot" (top 107)) (B : Bl mg) (h_NIL : Pr2 K mg "NIL" 0 1) (D_solve : DefOk Pr w K mg base xc "solve" 6 ["rows", "row"] f_solve) (D_part_at : DefOk Pr w K mg base xc "part_at" 1 ["told", "lot"] f_part_at) (D_both : DefOk Pr w K mg base xc "both" 5 ["one", "other"] f_both) : DefOk Pr w K mg base xc "own_by_lot" 7 ["told", "lot", "arrow"] f_own_by_lot := by
  have nd : (["told", "lot", "arrow", "row", "share", "other"] : List Str).Nodup := sc_own_by_lot.nd
  exact def_ok (k := 6) D sc_own_by_lot (by decide) (fun _ _ _ _ _ _ us hl => match us, hl with | [_, _, _], _ => rfl) fun fa cdv A outer s H E O hr tk po => by
    have hu := room_u hr
    exact (rss_cons (rs_set (i := 3) nd rfl (Or.inl rfl) (re_callTy call_tuple_of rc_tuple rfl B.tuple (by decide +kernel) (ra_cons (re_of_new (reF_lc (own := [("other", 5)]) rfl nd (ric_of (ri_seq (re_var (pv 1)))) (blk_of (by kernel_rfl)) (bg_name 5) (by decide) (fun s H C cl fp => (pg_name (i := 5) nd rfl (Or.inl rfl))) (fun s H C cl fp => rts_nil) (fun s H C cl fp => (re_ix (re_ix (re_var (pv 0)) (re_var (pv 2)) (fun _ _ => rfl)) (re_var (pv 5)) (fun _ _ => rfl))))) ra_nil)))
  (rss_cons (rs_if (rt_cmp (op_eqC hu) r_eq rfl (re_var (pv 3)) (re_tup ra_nil)) (rss_one (rs_ret (re_pr2 rfl h_NIL))) rss_nil)
  (rss_cons (rs_set (i := 4) nd rfl (Or.inl rfl) (re_callF D_solve hr (by decide) rfl tk (ra_cons (re_callF D_part_at hr (by decide) rfl tk (ra_cons (re_var (pv 0)) (ra_cons (re_var (pv 1)) ra_nil)) (aCons_len (aCons_len aNil_len))) (ra_cons (re_var (pv 3)) ra_nil)) (aCons_len (aCons_len aNil_len))))
  (rss_one (rs_ret (re_if (rt_cmp op_notN r_isNot rfl (re_var (pv 4)) re_non) (re_callF D_both hr (by decide) rfl tk (ra_cons (re_var (pv 3)) (ra_cons (re_var (pv 4)) ra_nil)) (aCons_len (aCons_len aNil_len))) re_non))))))
def m_own_in : SM :=
  (mSeq (sSet 2 (mCall f_without_arrow (aCons (mVar 0) (aCons (mVar 1) aNil))))
  (mSeq (sIf (bAnd (bOf (mOp fNe (mVar 2) (mTup aNil))) (bNot (bOf (mCall f_lots_fine (aCons (mCall f_part_at (aCons (mVar 0) (aCons (mVar 2) aNil))) aNil))))) (sRet (mK .none)) sNext)
  (mSeq (sSet 3 (mK (.tuple [.int 0, .int 1])))
  (mSeq (sFor (iSeq (mCall f_greatest_in (aCons (mCall f_web_in (aCons (mVar 0) aNil)) aNil))) (bName 4) (sIf (bOf (mOp (fIn false) (mVar 1) (mVar 4))) (mSeq (sSet 5 (mCall f_own_by_lot (aCons (mVar 0) (aCons (mCall bTuple (aCons (asList (lcOut (bName 6) (bOf (mOp fNe (mVar 6) (mVar 1))) (mVar 6) [6] (iSeq (mVar 4)))) aNil)) (aCons (mVar 1) aNil)))))
  (mSeq (sIf (bOf (mOp fIs (mVar 5) (mK .none))) (sRet (mK .none)) sNext)
  (sSet 3 (mIf (bOf (mCall f_no_more (aCons (mVar 3) (aCons (mVar 5) aNil)))) (mVar 5) (mVar 3))))) sNext))
  (sRet (mVar 3))))))
def f_own_in : List D → Res D := fnM 7 m_own_in
theorem sc_own_in : FnScope (["told", "arrow", "rest", "found", "lot", "much", "other"] : List Str) (["told", "arrow"] : List Str) (defScope (top 108)) := ⟨rfl, rfl, rfl, by decide +kernel, rfl, by decide +kernel, by decide +kernel⟩
theorem ok_own_in (D : DefIs K mg "own_in" (top 108)) (B : Bl mg) (h_NIL : Pr2 K mg "NIL" 0 1) (D_without_arrow : DefOk Pr w K mg base xc "without_arrow" 1 ["told", "arrow"] f_without_arrow) (D_lots_fine : DefOk Pr w K mg base xc "lots_fine" 8 ["told"] f_lots_fine) (D_part_at : DefOk Pr w K mg base xc "part_at" 1 ["told", "lot"] f_part_at) (D_greatest_in : DefOk Pr w K mg base xc "greatest_in" 2 ["web"] f_greatest_in) (D_web_in : DefOk Pr w K mg base xc "web_in" 2 ["told"] f_web_in) (D_own_by_lot : DefOk Pr w K mg base xc "own_by_lot" 7 ["told", "lot", "arrow"] f_own_by_lot) (D_no_more : DefOk Pr w K mg base xc "no_more" 1 ["one", "other"] f_no_more) : DefOk Pr w K mg base xc "own_in" 9 ["told", "arrow"] f_own_in := by
  have nd : (["told", "arrow", "rest", "found", "lot", "much", "other"] : List Str).Nodup := sc_own_in.nd
  exact def_ok (k := 8) D sc_own_in (by decide) (fun _ _ _ _ _ _ us hl => match us, hl with | [_, _], _ => rfl) fun fa cdv A outer s H E O hr tk po => by
    have hu := room_u hr
    exact (rss_cons (rs_set (i := 2) nd rfl (Or.inl rfl) (re_callF D_without_arrow hr (by decide) rfl tk (ra_cons (re_var (pv 0)) (ra_cons (re_var (pv 1)) ra_nil)) (aCons_len (aCons_len aNil_len))))
  (rss_cons (rs_if (rt_bop (rw_and (rt_cmp (op_neC hu) r_ne rfl (re_var (pv 2)) (re_tup ra_nil)) (rw_and1 (rt_not (rt_val (re_callF D_lots_fine hr (by decide) rfl tk (ra_cons (re_callF D_part_at hr (by decide) rfl tk (ra_cons (re_var (pv 0)) (ra_cons (re_var (pv 2)) ra_nil)) (aCons_len (aCons_len aNil_len))) ra_nil) (aCons_len aNil_len))))))) (rss_one (rs_ret re_non)) rss_nil)
  (rss_cons (rs_set (i := 3) nd rfl (Or.inl rfl) (re_pr2 rfl h_NIL))
  (rss_cons (rs_for po rfl (ri_seq (re_callF D_greatest_in hr (by decide) rfl tk (ra_cons (re_callF D_web_in hr (by decide) rfl tk (ra_cons (re_var (pv 0)) ra_nil) (aCons_len aNil_len)) ra_nil) (aCons_len aNil_len))) (pg_name (i := 4) nd rfl (Or.inl rfl)) (bg_name 4) (rss_one (rs_if (rt_cmp (op_inC hu) (r_in false) rfl (re_var (pv 1)) (re_var (pv 4))) (rss_cons (rs_set (i := 5) nd rfl (Or.inl rfl) (re_callF D_own_by_lot hr (by decide) rfl tk (ra_cons (re_var (pv 0)) (ra_cons (re_callTy call_tuple_of rc_tuple rfl B.tuple (by decide +kernel) (ra_cons (re_of_new (reF_lc (own := [("other", 6)]) rfl nd (ric_of (ri_seq (re_var (pv 4)))) (blk_of (by kernel_rfl)) (bg_name 6) (by decide) (fun s H C cl fp => (pg_name (i := 6) nd rfl (Or.inl rfl))) (fun s H C cl fp => (rts_one (rt_cmp (op_neC hu) r_ne rfl (re_var (pv 6)) (re_var (pv 1))))) (fun s H C cl fp => (re_var (pv 6))))) ra_nil)) (ra_cons (re_var (pv 1)) ra_nil))) (aCons_len (aCons_len (aCons_len aNil_len)))))
  (rss_cons (rs_if (rt_cmp op_isN r_is rfl (re_var (pv 5)) re_non) (rss_one (rs_ret re_non)) rss_nil)
  (rss_one (rs_set (i := 3) nd rfl (Or.inl rfl) (re_if (rt_val (re_callF D_no_more hr (by decide) rfl tk (ra_cons (re_var (pv 3)) (ra_cons (re_var (pv 5)) ra_nil)) (aCons_len (aCons_len aNil_len)))) (re_var (pv 5)) (re_var (pv 3))))))) rss_nil)))
  (rss_one (rs_ret (re_var (pv 3))))))))
def m_own_needed : SM :=
  (mSeq (sSet 2 (mCall f_sure_chorded (aCons (mVar 0) aNil)))
  (mSeq (sSet 3 (mCall f_own_in (aCons (mVar 2) (aCons (mCall f_sure_arrow (aCons (mVar 1) (aCons (mCall bLen (aCons (mVar 2) aNil)) aNil))) aNil))))
  (mSeq (sIf (bOf (mOp fIs (mVar 3) (mK .none))) (sExc 0) sNext)
  (sRet (mVar 3)))))
def f_own_needed : List D → Res D := fnM 4 m_own_needed
theorem sc_own_needed : FnScope (["told", "arrow", "own", "found"] : List Str) (["told", "arrow"] : List Str) (defScope (top 109)) := ⟨rfl, rfl, rfl, by decide +kernel, rfl, by decide +kernel, by decide +kernel⟩
theorem ok_own_needed (D : DefIs K mg "own_needed" (top 109)) (B : Bl mg) (X_NoPaper : Exo K mg "NoPaper" (xc 0)) (D_sure_chorded : DefOk Pr w K mg base xc "sure_chorded" 8 ["told"] f_sure_chorded) (D_own_in : DefOk Pr w K mg base xc "own_in" 9 ["told", "arrow"] f_own_in) (D_sure_arrow : DefOk Pr w K mg base xc "sure_arrow" 4 ["number", "bound"] f_sure_arrow) : DefOk Pr w K mg base xc "own_needed" 10 ["told", "arrow"] f_own_needed := by
  have nd : (["told", "arrow", "own", "found"] : List Str).Nodup := sc_own_needed.nd
  exact def_ok (k := 9) D sc_own_needed (by decide) (fun _ _ _ _ _ _ us hl => match us, hl with | [_, _], _ => rfl) fun fa cdv A outer s H E O hr tk po => by
    have hu := room_u hr
    exact (rss_cons (rs_set (i := 2) nd rfl (Or.inl rfl) (re_callF D_sure_chorded hr (by decide) rfl tk (ra_cons (re_var (pv 0)) ra_nil) (aCons_len aNil_len)))
  (rss_cons (rs_set (i := 3) nd rfl (Or.inl rfl) (re_callF D_own_in hr (by decide) rfl tk (ra_cons (re_var (pv 2)) (ra_cons (re_callF D_sure_arrow hr (by decide) rfl tk (ra_cons (re_var (pv 1)) (ra_cons (re_callB call_len rc_len rfl B.len (by decide +kernel) (ra_cons (re_var (pv 2)) ra_nil)) ra_nil)) (aCons_len (aCons_len aNil_len))) ra_nil)) (aCons_len (aCons_len aNil_len))))
  (rss_cons (rs_if (rt_cmp op_isN r_is rfl (re_var (pv 3)) re_non) (rss_one (rs_raiseO (c := 0) X_NoPaper rfl rfl tk)) rss_nil)
  (rss_one (rs_ret (re_var (pv 3)))))))
def m__law_same (f : List D → Res D) : SM :=
  (mSeq (sIf (bOf (mIsi (tOr tList tTuple) (mVar 1))) (mSeq (sIf (bOr (bOf (mOp fNe (mIsi tList (mVar 0)) (mIsi tList (mVar 1)))) (bOf (mOp fNe (mIsi tTuple (mVar 0)) (mIsi tTuple (mVar 1))))) (sRet (mK (.bool false))) sNext)
  (sRet (mAnd (mOp fEq (mCall bLen (aCons (mVar 0) aNil)) (mCall bLen (aCons (mVar 1) aNil))) (mCall bAll (aCons (asList (lcOut (bTup 2 (bCons (bName 2) (bCons (bName 3) bNil))) bTrue (mCall f (aCons (mVar 2) (aCons (mVar 3) aNil))) [2, 3] (iZp (aCons (mVar 0) (aCons (mVar 1) aNil))))) aNil))))) sNext)
  (mSeq (sIf (bOr (bOf (mOp fIs (mVar 1) (mK .none))) (bOf (mIsi (tOr tBool tStr) (mVar 1)))) (mSeq (sIf (bOf (mOp fNe (mIsi tStr (mVar 0)) (mIsi tStr (mVar 1)))) (sRet (mK (.bool false))) sNext)
  (sRet (mAnd (mOp fEq (mVar 0) (mVar 1)) (mAnd (mOp fEq (mIsi tBool (mVar 0)) (mIsi tBool (mVar 1))) (mOp fEq (mOp fIs (mVar 0) (mK .none)) (mOp fIs (mVar 1) (mK .none))))))) sNext)
  (sRet (mAnd (mIsi tInt (mVar 0)) (mAnd (mNot (mIsi tBool (mVar 0))) (mOp fEq (mVar 0) (mVar 1)))))))
def g__law_same : Nat → List D → Res D
  | 0 => fun _ => .fail
  | n + 1 => fnM 4 (m__law_same (g__law_same n))
def f__law_same : List D → Res D := g__law_same 8
theorem sc__law_same : FnScope (["got", "due", "mine", "its"] : List Str) (["got", "due"] : List Str) (defScope (top 111)) := ⟨rfl, rfl, rfl, by decide +kernel, rfl, by decide +kernel, by decide +kernel⟩
theorem st__law_same {k : Nat} {f : List D → Res D} (D : DefIs K mg "_law_same" (top 111)) (hk : 0 ≤ k) (R : DefOk Pr w K mg base xc "_law_same" k ["got", "due"] f) (B : Bl mg) : DefOk Pr w K mg base xc "_law_same" (k + 1) ["got", "due"] (fnM 4 (m__law_same f)) := by
  have nd : (["got", "due", "mine", "its"] : List Str).Nodup := sc__law_same.nd
  exact def_ok D sc__law_same (by decide) (fun _ _ _ _ _ _ us hl => match us, hl with | [_, _], _ => rfl) fun fa cdv A outer s H E O hr tk po => by
    have hu := room_u hr
    exact (rss_cons (rs_if (rt_val (re_isi2 isT_list isT_tuple (f := tOr tList tTuple) (fun _ => rfl) B.isinstance rfl (re_var (pv 1)) (pe_tup (pa_cons (pe_bltn rfl B.list (by decide +kernel) rfl) (pa_cons (pe_bltn rfl B.tuple (by decide +kernel) rfl) pa_nil))))) (rss_cons (rs_if (rt_bop (rw_or (rt_cmp (op_neC hu) r_ne rfl (re_isi isT_list B.isinstance rfl (re_var (pv 0)) (pe_bltn rfl B.list (by decide +kernel) rfl)) (re_isi isT_list B.isinstance rfl (re_var (pv 1)) (pe_bltn rfl B.list (by decide +kernel) rfl))) (rw_or1 (rt_cmp (op_neC hu) r_ne rfl (re_isi isT_tuple B.isinstance rfl (re_var (pv 0)) (pe_bltn rfl B.tuple (by decide +kernel) rfl)) (re_isi isT_tuple B.isinstance rfl (re_var (pv 1)) (pe_bltn rfl B.tuple (by decide +kernel) rfl)))))) (rss_one (rs_ret re_bl)) rss_nil)
  (rss_one (rs_ret (re_and (re_cmp (op_eqC hu) r_eq rfl (re_callB call_len rc_len rfl B.len (by decide +kernel) (ra_cons (re_var (pv 0)) ra_nil)) (re_callB call_len rc_len rfl B.len (by decide +kernel) (ra_cons (re_var (pv 1)) ra_nil))) (re_one (re_callB (cr_all rfl) rc_all rfl B.all (by decide +kernel) (ra_cons (re_of_new (reF_lc (own := [("mine", 2), ("its", 3)]) rfl nd (ric_of (ri_zip rfl B.zip (ra_cons (re_var (pv 0)) (ra_cons (re_var (pv 1)) ra_nil)))) (blk_of (by kernel_rfl)) (bg_tup (n := 2) (bgs_cons (bg_name 2) (bgs_cons (bg_name 3) bgs_nil))) (by decide) (fun s H C cl fp => (pg_tup (n := 2) rfl (pgs_cons (pg_name (i := 2) nd rfl (Or.inl rfl)) (pgs_cons (pg_name (i := 3) nd rfl (Or.inl rfl)) pgs_nil)))) (fun s H C cl fp => rts_nil) (fun s H C cl fp => (re_callF R hr (Nat.le_refl _) rfl takes0 (ra_cons (re_var (pv 2)) (ra_cons (re_var (pv 3)) ra_nil)) (aCons_len (aCons_len aNil_len)))))) ra_nil))))))) rss_nil)
  (rss_cons (rs_if (rt_bop (rw_or (rt_cmp op_isN r_is rfl (re_var (pv 1)) re_non) (rw_or1 (rt_val (re_isi2 isT_bool isT_str (f := tOr tBool tStr) (fun _ => rfl) B.isinstance rfl (re_var (pv 1)) (pe_tup (pa_cons (pe_bltn rfl B.bool (by decide +kernel) rfl) (pa_cons (pe_bltn rfl B.str (by decide +kernel) rfl) pa_nil)))))))) (rss_cons (rs_if (rt_cmp (op_neC hu) r_ne rfl (re_isi isT_str B.isinstance rfl (re_var (pv 0)) (pe_bltn rfl B.str (by decide +kernel) rfl)) (re_isi isT_str B.isinstance rfl (re_var (pv 1)) (pe_bltn rfl B.str (by decide +kernel) rfl))) (rss_one (rs_ret re_bl)) rss_nil)
  (rss_one (rs_ret (re_and (re_cmp (op_eqC hu) r_eq rfl (re_var (pv 0)) (re_var (pv 1))) (re_and (re_cmp (op_eqC hu) r_eq rfl (re_isi isT_bool B.isinstance rfl (re_var (pv 0)) (pe_bltn rfl B.bool (by decide +kernel) rfl)) (re_isi isT_bool B.isinstance rfl (re_var (pv 1)) (pe_bltn rfl B.bool (by decide +kernel) rfl))) (re_one (re_cmp (op_eqC hu) r_eq rfl (re_cmp op_isN r_is rfl (re_var (pv 0)) re_non) (re_cmp op_isN r_is rfl (re_var (pv 1)) re_non)))))))) rss_nil)
  (rss_one (rs_ret (re_and (re_isi isT_int B.isinstance rfl (re_var (pv 0)) (pe_bltn rfl B.int (by decide +kernel) rfl)) (re_and (re_not (re_isi isT_bool B.isinstance rfl (re_var (pv 0)) (pe_bltn rfl B.bool (by decide +kernel) rfl))) (re_one (re_cmp (op_eqC hu) r_eq rfl (re_var (pv 0)) (re_var (pv 1))))))))))
theorem gk__law_same (D : DefIs K mg "_law_same" (top 111)) (B : Bl mg) : ∀ n, DefOk Pr w K mg base xc "_law_same" (0 + n) ["got", "due"] (g__law_same n)
  | 0 => (def_base D (fun _ _ _ _ _ _ us hl => match us, hl with | [_, _], _ => rfl)).mono (Nat.zero_le _)
  | n + 1 => st__law_same D (Nat.le_add_right _ _) (gk__law_same D B n) B
theorem ok__law_same (D : DefIs K mg "_law_same" (top 111)) (B : Bl mg) : DefOk Pr w K mg base xc "_law_same" 8 ["got", "due"] f__law_same := gk__law_same D B 8
def m__law_gcd : SM :=
  (mSeq (sWhile 100 (bOf (mOp fNe (mVar 1) (mK (.int 0)))) (sPar [0, 1] (xVal (mVar 1) (xVal (mOp fModX (mCall bInt (aCons (mVar 0) aNil)) (mVar 1)) xNil))))
  (sRet (mCall bAbs (aCons (mVar 0) aNil))))
def f__law_gcd : List D → Res D := fnM 2 m__law_gcd
theorem sc__law_gcd : FnScope (["one", "other"] : List Str) (["one", "other"] : List Str) (defScope (top 116)) := ⟨rfl, rfl, rfl, by decide +kernel, rfl, by decide +kernel, by decide +kernel⟩
theorem ok__law_gcd (D : DefIs K mg "_law_gcd" (top 116)) (B : Bl mg) : DefOk Pr w K mg base xc "_law_gcd" 1 ["one", "other"] f__law_gcd := by
  have nd : (["one", "other"] : List Str).Nodup := sc__law_gcd.nd
  exact def_ok (k := 0) D sc__law_gcd (by decide) (fun _ _ _ _ _ _ us hl => match us, hl with | [_, _], _ => rfl) fun fa cdv A outer s H E O hr tk po => by
    have hu := room_u hr
    exact (rss_cons (rs_while 100 po (rt_cmp (op_neC hu) r_ne rfl (re_var (pv 1)) re_int) (rss_one (rs_par rfl nd rfl rfl (by decide) rfl rfl (rx_val (re_var (pv 1)) (rx_val (re_op op_modN r_modX (re_callTy call_int1 rc_int rfl B.int (by decide +kernel) (ra_cons (re_var (pv 0)) ra_nil)) (re_var (pv 1))) rx_nil)) rfl)))
  (rss_one (rs_ret (re_callB call_abs rc_abs rfl B.abs (by decide +kernel) (ra_cons (re_var (pv 0)) ra_nil)))))
def m__law_fr : SM :=
  (mSeq (sSet 2 (mCall f__law_gcd (aCons (mVar 0) (aCons (mVar 1) aNil))))
  (mSeq (sSet 2 (mIf (bOf (mOp fLt (mVar 1) (mK (.int 0)))) (mUn fNeg (mVar 2)) (mVar 2)))
  (sRet (mTup (aCons (mOp fDivX (mVar 0) (mVar 2)) (aCons (mOp fDivX (mVar 1) (mVar 2)) aNil))))))
def f__law_fr : List D → Res D := fnM 3 m__law_fr
theorem sc__law_fr : FnScope (["top", "bottom", "common"] : List Str) (["top", "bottom"] : List Str) (defScope (top 117)) := ⟨rfl, rfl, rfl, by decide +kernel, rfl, by decide +kernel, by decide +kernel⟩
theorem ok__law_fr (D : DefIs K mg "_law_fr" (top 117)) (B : Bl mg) (D__law_gcd : DefOk Pr w K mg base xc "_law_gcd" 1 ["one", "other"] f__law_gcd) : DefOk Pr w K mg base xc "_law_fr" 2 ["top", "bottom"] f__law_fr := by
  have nd : (["top", "bottom", "common"] : List Str).Nodup := sc__law_fr.nd
  exact def_ok (k := 1) D sc__law_fr (by decide) (fun _ _ _ _ _ _ us hl => match us, hl with | [_, _], _ => rfl) fun fa cdv A outer s H E O hr tk po => by
    have hu := room_u hr
    exact (rss_cons (rs_set (i := 2) nd rfl (Or.inl rfl) (re_callF D__law_gcd hr (by decide) rfl tk (ra_cons (re_var (pv 0)) (ra_cons (re_var (pv 1)) ra_nil)) (aCons_len (aCons_len aNil_len))))
  (rss_cons (rs_set (i := 2) nd rfl (Or.inl rfl) (re_if (rt_cmp op_lt r_lt rfl (re_var (pv 1)) re_int) (re_un un_neg r_neg (re_var (pv 2))) (re_var (pv 2))))
  (rss_one (rs_ret (re_tup (ra_cons (re_op op_fdivN r_divX (re_var (pv 0)) (re_var (pv 2))) (ra_cons (re_op op_fdivN r_divX (re_var (pv 1)) (re_var (pv 2))) ra_nil)))))))
def m__law_add : SM :=
  (sRet (mCall f__law_fr (aCons (mOp fAddX (mOp fMul (mOp fIx (mVar 0) (mK (.int 0))) (mOp fIx (mVar 1) (mK (.int 1)))) (mOp fMul (mOp fIx (mVar 1) (mK (.int 0))) (mOp fIx (mVar 0) (mK (.int 1))))) (aCons (mOp fMul (mOp fIx (mVar 0) (mK (.int 1))) (mOp fIx (mVar 1) (mK (.int 1)))) aNil))))
def f__law_add : List D → Res D := fnM 2 m__law_add
theorem sc__law_add : FnScope (["one", "other"] : List Str) (["one", "other"] : List Str) (defScope (top 118)) := ⟨rfl, rfl, rfl, by decide +kernel, rfl, by decide +kernel, by decide +kernel⟩
theorem ok__law_add (D : DefIs K mg "_law_add" (top 118)) (B : Bl mg) (D__law_fr : DefOk Pr w K mg base xc "_law_fr" 2 ["top", "bottom"] f__law_fr) : DefOk Pr w K mg base xc "_law_add" 3 ["one", "other"] f__law_add := by
  have nd : (["one", "other"] : List Str).Nodup := sc__law_add.nd
  exact def_ok (k := 2) D sc__law_add (by decide) (fun _ _ _ _ _ _ us hl => match us, hl with | [_, _], _ => rfl) fun fa cdv A outer s H E O hr tk po => by
    have hu := room_u hr
    exact (rss_one (rs_ret (re_callF D__law_fr hr (by decide) rfl tk (ra_cons (re_op op_addX r_addX (re_op op_mulC r_mulC (re_ix (re_var (pv 0)) re_int (fun _ _ => rfl)) (re_ix (re_var (pv 1)) re_int (fun _ _ => rfl))) (re_op op_mulC r_mulC (re_ix (re_var (pv 1)) re_int (fun _ _ => rfl)) (re_ix (re_var (pv 0)) re_int (fun _ _ => rfl)))) (ra_cons (re_op op_mulC r_mulC (re_ix (re_var (pv 0)) re_int (fun _ _ => rfl)) (re_ix (re_var (pv 1)) re_int (fun _ _ => rfl))) ra_nil)) (aCons_len (aCons_len aNil_len)))))
def m__law_neg : SM :=
  (sRet (mTup (aCons (mUn fNeg (mOp fIx (mVar 0) (mK (.int 0)))) (aCons (mOp fIx (mVar 0) (mK (.int 1))) aNil))))
def f__law_neg : List D → Res D := fnM 1 m__law_neg
theorem sc__law_neg : FnScope (["one"] : List Str) (["one"] : List Str) (defScope (top 119)) := ⟨rfl, rfl, rfl, by decide +kernel, rfl, by decide +kernel, by decide +kernel⟩
theorem ok__law_neg (D : DefIs K mg "_law_neg" (top 119)) (B : Bl mg) : DefOk Pr w K mg base xc "_law_neg" 1 ["one"] f__law_neg := by
  have nd : (["one"] : List Str).Nodup := sc__law_neg.nd
  exact def_ok (k := 0) D sc__law_neg (by decide) (fun _ _ _ _ _ _ us hl => match us, hl with | [_], _ => rfl) fun fa cdv A outer s H E O hr tk po => by
    have hu := room_u hr
    exact (rss_one (rs_ret (re_tup (ra_cons (re_un un_neg r_neg (re_ix (re_var (pv 0)) re_int (fun _ _ => rfl))) (ra_cons (re_ix (re_var (pv 0)) re_int (fun _ _ => rfl)) ra_nil)))))
def m__law_sub : SM :=
  (sRet (mCall f__law_add (aCons (mVar 0) (aCons (mCall f__law_neg (aCons (mVar 1) aNil)) aNil))))
def f__law_sub : List D → Res D := fnM 2 m__law_sub
theorem sc__law_sub : FnScope (["one", "other"] : List Str) (["one", "other"] : List Str) (defScope (top 120)) := ⟨rfl, rfl, rfl, by decide +kernel, rfl, by decide +kernel, by decide +kernel⟩
theorem ok__law_sub (D : DefIs K mg "_law_sub" (top 120)) (B : Bl mg) (D__law_add : DefOk Pr w K mg base xc "_law_add" 3 ["one", "other"] f__law_add) (D__law_neg : DefOk Pr w K mg base xc "_law_neg" 1 ["one"] f__law_neg) : DefOk Pr w K mg base xc "_law_sub" 4 ["one", "other"] f__law_sub := by
  have nd : (["one", "other"] : List Str).Nodup := sc__law_sub.nd
  exact def_ok (k := 3) D sc__law_sub (by decide) (fun _ _ _ _ _ _ us hl => match us, hl with | [_, _], _ => rfl) fun fa cdv A outer s H E O hr tk po => by
    have hu := room_u hr
    exact (rss_one (rs_ret (re_callF D__law_add hr (by decide) rfl tk (ra_cons (re_var (pv 0)) (ra_cons (re_callF D__law_neg hr (by decide) rfl tk (ra_cons (re_var (pv 1)) ra_nil) (aCons_len aNil_len)) ra_nil)) (aCons_len (aCons_len aNil_len)))))
def m__law_mul : SM :=
  (sRet (mCall f__law_fr (aCons (mOp fMul (mOp fIx (mVar 0) (mK (.int 0))) (mOp fIx (mVar 1) (mK (.int 0)))) (aCons (mOp fMul (mOp fIx (mVar 0) (mK (.int 1))) (mOp fIx (mVar 1) (mK (.int 1)))) aNil))))
def f__law_mul : List D → Res D := fnM 2 m__law_mul
theorem sc__law_mul : FnScope (["one", "other"] : List Str) (["one", "other"] : List Str) (defScope (top 121)) := ⟨rfl, rfl, rfl, by decide +kernel, rfl, by decide +kernel, by decide +kernel⟩
theorem ok__law_mul (D : DefIs K mg "_law_mul" (top 121)) (B : Bl mg) (D__law_fr : DefOk Pr w K mg base xc "_law_fr" 2 ["top", "bottom"] f__law_fr) : DefOk Pr w K mg base xc "_law_mul" 3 ["one", "other"] f__law_mul := by
  have nd : (["one", "other"] : List Str).Nodup := sc__law_mul.nd
  exact def_ok (k := 2) D sc__law_mul (by decide) (fun _ _ _ _ _ _ us hl => match us, hl with | [_, _], _ => rfl) fun fa cdv A outer s H E O hr tk po => by
    have hu := room_u hr
    exact (rss_one (rs_ret (re_callF D__law_fr hr (by decide) rfl tk (ra_cons (re_op op_mulC r_mulC (re_ix (re_var (pv 0)) re_int (fun _ _ => rfl)) (re_ix (re_var (pv 1)) re_int (fun _ _ => rfl))) (ra_cons (re_op op_mulC r_mulC (re_ix (re_var (pv 0)) re_int (fun _ _ => rfl)) (re_ix (re_var (pv 1)) re_int (fun _ _ => rfl))) ra_nil)) (aCons_len (aCons_len aNil_len)))))
def m__law_div : SM :=
  (sRet (mCall f__law_fr (aCons (mOp fMul (mOp fIx (mVar 0) (mK (.int 0))) (mOp fIx (mVar 1) (mK (.int 1)))) (aCons (mOp fMul (mOp fIx (mVar 0) (mK (.int 1))) (mOp fIx (mVar 1) (mK (.int 0)))) aNil))))
def f__law_div : List D → Res D := fnM 2 m__law_div
theorem sc__law_div : FnScope (["one", "other"] : List Str) (["one", "other"] : List Str) (defScope (top 122)) := ⟨rfl, rfl, rfl, by decide +kernel, rfl, by decide +kernel, by decide +kernel⟩
theorem ok__law_div (D : DefIs K mg "_law_div" (top 122)) (B : Bl mg) (D__law_fr : DefOk Pr w K mg base xc "_law_fr" 2 ["top", "bottom"] f__law_fr) : DefOk Pr w K mg base xc "_law_div" 3 ["one", "other"] f__law_div := by
  have nd : (["one", "other"] : List Str).Nodup := sc__law_div.nd
  exact def_ok (k := 2) D sc__law_div (by decide) (fun _ _ _ _ _ _ us hl => match us, hl with | [_, _], _ => rfl) fun fa cdv A outer s H E O hr tk po => by
    have hu := room_u hr
    exact (rss_one (rs_ret (re_callF D__law_fr hr (by decide) rfl tk (ra_cons (re_op op_mulC r_mulC (re_ix (re_var (pv 0)) re_int (fun _ _ => rfl)) (re_ix (re_var (pv 1)) re_int (fun _ _ => rfl))) (ra_cons (re_op op_mulC r_mulC (re_ix (re_var (pv 0)) re_int (fun _ _ => rfl)) (re_ix (re_var (pv 1)) re_int (fun _ _ => rfl))) ra_nil)) (aCons_len (aCons_len aNil_len)))))
def m__law_less : SM :=
  (sRet (mOp fLt (mOp fMul (mOp fIx (mVar 0) (mK (.int 0))) (mOp fIx (mVar 1) (mK (.int 1)))) (mOp fMul (mOp fIx (mVar 1) (mK (.int 0))) (mOp fIx (mVar 0) (mK (.int 1))))))
def f__law_less : List D → Res D := fnM 2 m__law_less
theorem sc__law_less : FnScope (["one", "other"] : List Str) (["one", "other"] : List Str) (defScope (top 123)) := ⟨rfl, rfl, rfl, by decide +kernel, rfl, by decide +kernel, by decide +kernel⟩
theorem ok__law_less (D : DefIs K mg "_law_less" (top 123)) (B : Bl mg) : DefOk Pr w K mg base xc "_law_less" 1 ["one", "other"] f__law_less := by
  have nd : (["one", "other"] : List Str).Nodup := sc__law_less.nd
  exact def_ok (k := 0) D sc__law_less (by decide) (fun _ _ _ _ _ _ us hl => match us, hl with | [_, _], _ => rfl) fun fa cdv A outer s H E O hr tk po => by
    have hu := room_u hr
    exact (rss_one (rs_ret (re_cmp op_lt r_lt rfl (re_op op_mulC r_mulC (re_ix (re_var (pv 0)) re_int (fun _ _ => rfl)) (re_ix (re_var (pv 1)) re_int (fun _ _ => rfl))) (re_op op_mulC r_mulC (re_ix (re_var (pv 1)) re_int (fun _ _ => rfl)) (re_ix (re_var (pv 0)) re_int (fun _ _ => rfl))))))
def m__law_most : SM :=
  (mSeq (sSet 1 (mOp fIx (mVar 0) (mK (.int 0))))
  (mSeq (sFor (iSeq (mVar 0)) (bName 2) (sSet 1 (mIf (bOf (mCall f__law_less (aCons (mVar 1) (aCons (mVar 2) aNil)))) (mVar 2) (mVar 1))))
  (sRet (mVar 1))))
def f__law_most : List D → Res D := fnM 3 m__law_most
theorem sc__law_most : FnScope (["parts", "found", "part"] : List Str) (["parts"] : List Str) (defScope (top 124)) := ⟨rfl, rfl, rfl, by decide +kernel, rfl, by decide +kernel, by decide +kernel⟩
theorem ok__law_most (D : DefIs K mg "_law_most" (top 124)) (B : Bl mg) (D__law_less : DefOk Pr w K mg base xc "_law_less" 1 ["one", "other"] f__law_less) : DefOk Pr w K mg base xc "_law_most" 2 ["parts"] f__law_most := by
  have nd : (["parts", "found", "part"] : List Str).Nodup := sc__law_most.nd
  exact def_ok (k := 1) D sc__law_most (by decide) (fun _ _ _ _ _ _ us hl => match us, hl with | [_], _ => rfl) fun fa cdv A outer s H E O hr tk po => by
    have hu := room_u hr
    exact (rss_cons (rs_set (i := 1) nd rfl (Or.inl rfl) (re_ix (re_var (pv 0)) re_int (fun _ _ => rfl)))
  (rss_cons (rs_for po rfl (ri_seq (re_var (pv 0))) (pg_name (i := 2) nd rfl (Or.inl rfl)) (bg_name 2) (rss_one (rs_set (i := 1) nd rfl (Or.inl rfl) (re_if (rt_val (re_callF D__law_less hr (by decide) rfl tk (ra_cons (re_var (pv 1)) (ra_cons (re_var (pv 2)) ra_nil)) (aCons_len (aCons_len aNil_len)))) (re_var (pv 2)) (re_var (pv 1))))))
  (rss_one (rs_ret (re_var (pv 1))))))
def m__law_heard : SM :=
  (mSeq (sSet 2 (mK (.str "none")))
  (sTryR 0 (sIf (bOf (mOp fLt (mVar 0) (mK (.int 3)))) (sSet 2 (mIf (bOf (mOp fEq (mVar 0) (mK (.int 0)))) (mCall f_filled (aCons (mVar 1) aNil)) (mIf (bOf (mOp fEq (mVar 0) (mK (.int 1)))) (mCall f_greatest_determinant (aCons (mVar 1) aNil)) (mCall f_own_needed (aCons (mVar 1) (aCons (mK (.int 1)) aNil)))))) (sSet 2 (mIf (bOf (mOp fEq (mVar 0) (mK (.int 3)))) (mCall f_stretch (aCons (mVar 1) (aCons (mK (.int 0)) (aCons (mK (.int 2)) aNil)))) (mCall f_sure_product (aCons (mVar 1) (aCons (mK (.int 0)) (aCons (mK (.int 2)) aNil))))))) (sSet 2 (mK (.str "paper"))) (sRet (mVar 2))))
def f__law_heard : List D → Res D := fnM 3 m__law_heard
theorem sc__law_heard : FnScope (["door", "told", "found"] : List Str) (["door", "told"] : List Str) (defScope (top 125)) := ⟨rfl, rfl, rfl, by decide +kernel, rfl, by decide +kernel, by decide +kernel⟩
theorem ok__law_heard (D : DefIs K mg "_law_heard" (top 125)) (B : Bl mg) (X_NoPaper : Exo K mg "NoPaper" (xc 0)) (hx_NoPaper : ∀ k, PySem.W.exmOne K (.ref (xc k)) (.ref (xc 0)) = some (Nat.beq k 0)) (D_filled : DefOk Pr w K mg base xc "filled" 10 ["told"] f_filled) (D_greatest_determinant : DefOk Pr w K mg base xc "greatest_determinant" 12 ["told"] f_greatest_determinant) (D_own_needed : DefOk Pr w K mg base xc "own_needed" 10 ["told", "arrow"] f_own_needed) (D_stretch : DefOk Pr w K mg base xc "stretch" 11 ["told", "one", "other"] f_stretch) (D_sure_product : DefOk Pr w K mg base xc "sure_product" 12 ["told", "one", "other"] f_sure_product) : DefOk Pr w K mg base xc "_law_heard" 13 ["door", "told"] f__law_heard := by
  have nd : (["door", "told", "found"] : List Str).Nodup := sc__law_heard.nd
  exact def_ok (k := 12) D sc__law_heard (by decide) (fun _ _ _ _ _ _ us hl => match us, hl with | [_, _], _ => rfl) fun fa cdv A outer s H E O hr tk po => by
    have hu := room_u hr
    exact (rss_cons (rs_set (i := 2) nd rfl (Or.inl rfl) (re_str (by decide +kernel)))
  (rss_try (cc := 0) rfl rfl ⟨rfl, by decide, Or.inl X_NoPaper.glob⟩ tk hx_NoPaper (fun W pn xe tk _ => (rss_one (rs_if (rt_cmp op_lt r_lt rfl (re_var (pv 0)) re_int) (rss_one (rs_set (i := 2) nd rfl (Or.inl rfl) (re_if (rt_cmp (op_eqC hu) r_eq rfl (re_var (pv 0)) re_int) (re_callF D_filled hr (by decide) rfl (Takes.imp tk fun _ _ _ _ z => z _) (ra_cons (re_var (pv 1)) ra_nil) (aCons_len aNil_len)) (re_if (rt_cmp (op_eqC hu) r_eq rfl (re_var (pv 0)) re_int) (re_callF D_greatest_determinant hr (by decide) rfl (Takes.imp tk fun _ _ _ _ z => z _) (ra_cons (re_var (pv 1)) ra_nil) (aCons_len aNil_len)) (re_callF D_own_needed hr (by decide) rfl (Takes.imp tk fun _ _ _ _ z => z _) (ra_cons (re_var (pv 1)) (ra_cons re_int ra_nil)) (aCons_len (aCons_len aNil_len))))))) (rss_one (rs_set (i := 2) nd rfl (Or.inl rfl) (re_if (rt_cmp (op_eqC hu) r_eq rfl (re_var (pv 0)) re_int) (re_callF D_stretch hr (by decide) rfl (Takes.imp tk fun _ _ _ _ z => z _) (ra_cons (re_var (pv 1)) (ra_cons re_int (ra_cons re_int ra_nil))) (aCons_len (aCons_len (aCons_len aNil_len)))) (re_callF D_sure_product hr (by decide) rfl (Takes.imp tk fun _ _ _ _ z => z _) (ra_cons (re_var (pv 1)) (ra_cons re_int (ra_cons re_int ra_nil))) (aCons_len (aCons_len (aCons_len aNil_len)))))))))) (fun a pn => (rss_one (rs_set (i := 2) nd rfl (Or.inl rfl) (re_str (by decide +kernel))))) (rss_one (rs_ret (re_var (pv 2))))))
def m__law_all_rows_of : SM :=
  (mSeq (sSet 2 (mLst (aCons (mTup aNil) aNil)))
  (mSeq (sFor (iRng (aCons (mVar 1) aNil)) (bName 3) (mSeq (sOwn 4 (nOf (nLst aNil)))
  (mSeq (sFor (iSeq (mVar 2)) (bName 5) (sExt 4 (asList (lcOut (bName 6) bTrue (mOp fAddX (mVar 5) (mTup (aCons (mVar 6) aNil))) [6] (iSeq (mVar 0))))))
  (sFrz [4] (sSet 2 (mVar 4))))))
  (sFrzA (sRet (mVar 2)))))
def f__law_all_rows_of : List D → Res D := fnM 7 m__law_all_rows_of
theorem sc__law_all_rows_of : FnScope (["goods", "many", "found", "lap", "later", "own", "thing"] : List Str) (["goods", "many"] : List Str) (defScope (top 126)) := ⟨rfl, rfl, rfl, by decide +kernel, rfl, by decide +kernel, by decide +kernel⟩
theorem ok__law_all_rows_of (D : DefIs K mg "_law_all_rows_of" (top 126)) (B : Bl mg) : DefOk Pr w K mg base xc "_law_all_rows_of" 1 ["goods", "many"] f__law_all_rows_of := by
  have nd : (["goods", "many", "found", "lap", "later", "own", "thing"] : List Str).Nodup := sc__law_all_rows_of.nd
  exact def_ok (k := 0) D sc__law_all_rows_of (by decide) (fun _ _ _ _ _ _ us hl => match us, hl with | [_, _], _ => rfl) fun fa cdv A outer s H E O hr tk po => by
    have hu := room_u hr
    exact (rss_cons (rs_set (i := 2) nd rfl (Or.inl rfl) (re_lst (ra_cons (re_tup ra_nil) ra_nil)))
  (rss_cons (rs_for po rfl (ri_range1 rfl B.range (ra_cons (re_var (pv 1)) ra_nil) (aCons_len aNil_len)) (pg_name (i := 3) nd rfl (Or.inl rfl)) (bg_name 3) (rss_cons (rs_own (i := 4) nd rfl (Or.inl rfl) (ren_of (reF_lst ra_nil)))
  (rss_cons (rs_for po rfl (ri_seq (re_var (pv 2))) (pg_name (i := 5) nd rfl (Or.inr rfl)) (bg_name 5) (rss_one (rs_ext (pv 4) (re_of_new (reF_lc (own := [("thing", 6)]) rfl nd (ric_of (ri_seq (re_var (pv 0)))) (blk_of (by kernel_rfl)) (bg_name 6) (by decide) (fun s H C cl fp => (pg_name (i := 6) nd rfl (Or.inl rfl))) (fun s H C cl fp => rts_nil) (fun s H C cl fp => (re_op op_addX r_addX (re_var (pv 5)) (re_tup (ra_cons (re_var (pv 6)) ra_nil)))))))))
  (rss_one (rs_frz [4] (rs_set (i := 2) nd rfl (Or.inl rfl) (re_var (pv 4))))))))
  (rss_one (rs_frzA (rs_ret (re_var (pv 2)))))))
def m__law_duos_right : SM :=
  (mSeq (sFor (iSeq (mCall f__law_all_rows_of (aCons (mLst (aCons (mUn fNeg (mK (.int 2))) (aCons (mUn fNeg (mK (.int 1))) (aCons (mK (.int 0)) (aCons (mK (.int 1)) (aCons (mK (.int 2)) aNil)))))) (aCons (mK (.int 3)) aNil)))) (bTup 3 (bCons (bName 0) (bCons (bName 1) (bCons (bName 2) bNil)))) (mSeq (sPar [3, 4] (xVal (mTup (aCons (mTup (aCons (mTup (aCons (mVar 0) (aCons (mK (.int 1)) aNil))) (aCons (mTup (aCons (mVar 1) (aCons (mK (.int 1)) aNil))) aNil))) (aCons (mTup (aCons (mTup (aCons (mVar 1) (aCons (mK (.int 1)) aNil))) (aCons (mTup (aCons (mVar 2) (aCons (mK (.int 1)) aNil))) aNil))) aNil))) (xVal (mOp fSub (mOp fMul (mVar 0) (mVar 2)) (mOp fMul (mVar 1) (mVar 1))) xNil)))
  (mSeq (sSet 5 (mAnd (mOp fGe (mVar 0) (mK (.int 0))) (mAnd (mOp fGe (mVar 2) (mK (.int 0))) (mOp fGe (mVar 4) (mK (.int 0))))))
  (mSeq (sSet 6 (mOp fEq (mTup (aCons (mVar 0) (aCons (mVar 1) (aCons (mVar 2) aNil)))) (mTup (aCons (mK (.int 0)) (aCons (mK (.int 0)) (aCons (mK (.int 0)) aNil))))))
  (mSeq (sIf (bOf (mOp fNe (mVar 4) (mK (.int 0)))) (sSet 7 (mIf (bOf (mOp fLt (mVar 4) (mK (.int 0)))) (mTup (aCons (mK (.int 1)) (aCons (mK (.int 1)) (aCons (mK (.int 0)) aNil)))) (mIf (bOf (mOp fGt (mVar 0) (mK (.int 0)))) (mTup (aCons (mK (.int 2)) (aCons (mK (.int 0)) (aCons (mK (.int 0)) aNil)))) (mTup (aCons (mK (.int 0)) (aCons (mK (.int 2)) (aCons (mK (.int 0)) aNil))))))) (sSet 7 (mIf (bOf (mVar 6)) (mTup (aCons (mK (.int 0)) (aCons (mK (.int 0)) (aCons (mK (.int 2)) aNil)))) (mIf (bOf (mOp fGt (mOp fAddX (mVar 0) (mVar 2)) (mK (.int 0)))) (mTup (aCons (mK (.int 1)) (aCons (mK (.int 0)) (aCons (mK (.int 1)) aNil)))) (mTup (aCons (mK (.int 0)) (aCons (mK (.int 1)) (aCons (mK (.int 1)) aNil))))))))
  (mSeq (sSet 8 (mTup aNil))
  (mSeq (sIf (bOf (mOp fEq (mVar 4) (mK (.int 0)))) (sSet 8 (mIf (bOf (mVar 6)) (mTup (aCons (mTup (aCons (mTup (aCons (mK (.int 1)) (aCons (mK (.int 1)) aNil))) (aCons (mTup (aCons (mK (.int 0)) (aCons (mK (.int 1)) aNil))) aNil))) (aCons (mTup (aCons (mTup (aCons (mK (.int 0)) (aCons (mK (.int 1)) aNil))) (aCons (mTup (aCons (mK (.int 1)) (aCons (mK (.int 1)) aNil))) aNil))) aNil))) (mIf (bOf (mOp fNe (mVar 1) (mK (.int 0)))) (mTup (aCons (mTup (aCons (mTup (aCons (mK (.int 1)) (aCons (mK (.int 1)) aNil))) (aCons (mCall f__law_fr (aCons (mUn fNeg (mVar 0)) (aCons (mVar 1) aNil))) aNil))) aNil)) (mIf (bOf (mOp fNe (mVar 0) (mK (.int 0)))) (mTup (aCons (mTup (aCons (mTup (aCons (mK (.int 0)) (aCons (mK (.int 1)) aNil))) (aCons (mTup (aCons (mK (.int 1)) (aCons (mK (.int 1)) aNil))) aNil))) aNil)) (mTup (aCons (mTup (aCons (mTup (aCons (mK (.int 1)) (aCons (mK (.int 1)) aNil))) (aCons (mTup (aCons (mK (.int 0)) (aCons (mK (.int 1)) aNil))) aNil))) aNil)))))) sNext)
  (mSeq (sSet 9 (mLst (aCons (mCall f_determinant (aCons (mVar 3) aNil)) (aCons (mCall f_shape_of (aCons (mVar 3) aNil)) (aCons (mCall f_is_never_below (aCons (mVar 3) aNil)) (aCons (mCall f_rank_of (aCons (mVar 3) aNil)) aNil))))))
  (sIf (bOr (bNot (bOf (mCall f__law_same (aCons (mVar 9) (aCons (mLst (aCons (mTup (aCons (mVar 4) (aCons (mK (.int 1)) aNil))) (aCons (mVar 7) (aCons (mVar 5) (aCons (mOp fSub (mK (.int 2)) (mCall bLen (aCons (mVar 8) aNil))) aNil))))) aNil))))) (bAnd (bOf (mVar 5)) (bNot (bOf (mCall f__law_same (aCons (mCall f_ties_of (aCons (mVar 3) aNil)) (aCons (mVar 8) aNil))))))) (sRet (mK (.bool false))) sNext)))))))))
  (sRet (mK (.bool true))))
def f__law_duos_right : List D → Res D := fnM 10 m__law_duos_right
theorem sc__law_duos_right : FnScope (["a", "b", "c", "table", "det", "fine", "flat", "shape", "ties", "got"] : List Str) ([] : List Str) (defScope (top 127)) := ⟨rfl, rfl, rfl, by decide +kernel, rfl, by decide +kernel, by decide +kernel⟩
theorem ok__law_duos_right (D : DefIs K mg "_law_duos_right" (top 127)) (B : Bl mg) (D__law_all_rows_of : DefOk Pr w K mg base xc "_law_all_rows_of" 1 ["goods", "many"] f__law_all_rows_of) (D__law_fr : DefOk Pr w K mg base xc "_law_fr" 2 ["top", "bottom"] f__law_fr) (D_determinant : DefOk Pr w K mg base xc "determinant" 8 ["table"] f_determinant) (D_shape_of : DefOk Pr w K mg base xc "shape_of" 11 ["table"] f_shape_of) (D_is_never_below : DefOk Pr w K mg base xc "is_never_below" 8 ["table"] f_is_never_below) (D_rank_of : DefOk Pr w K mg base xc "rank_of" 8 ["table"] f_rank_of) (D__law_same : DefOk Pr w K mg base xc "_law_same" 8 ["got", "due"] f__law_same) (D_ties_of : DefOk Pr w K mg base xc "ties_of" 9 ["table"] f_ties_of) : DefOk Pr w K mg base xc "_law_duos_right" 12 [] f__law_duos_right := by
  have nd : (["a", "b", "c", "table", "det", "fine", "flat", "shape", "ties", "got"] : List Str).Nodup := sc__law_duos_right.nd
  exact def_ok (k := 11) D sc__law_duos_right (by decide) (fun _ _ _ _ _ _ us hl => match us, hl with | [], _ => rfl) fun fa cdv A outer s H E O hr tk po => by
    have hu := room_u hr
    exact (rss_cons (rs_for po rfl (ri_seq (re_callF D__law_all_rows_of hr (by decide) rfl tk (ra_cons (re_lst (ra_cons (re_un un_neg r_neg re_int) (ra_cons (re_un un_neg r_neg re_int) (ra_cons re_int (ra_cons re_int (ra_cons re_int ra_nil)))))) (ra_cons re_int ra_nil)) (aCons_len (aCons_len aNil_len)))) (pg_tup (n := 3) rfl (pgs_cons (pg_name (i := 0) nd rfl (Or.inl rfl)) (pgs_cons (pg_name (i := 1) nd rfl (Or.inl rfl)) (pgs_cons (pg_name (i := 2) nd rfl (Or.inl rfl)) pgs_nil)))) (bg_tup (n := 3) (bgs_cons (bg_name 0) (bgs_cons (bg_name 1) (bgs_cons (bg_name 2) bgs_nil)))) (rss_cons (rs_par rfl nd rfl rfl (by decide) rfl rfl (rx_val (re_tup (ra_cons (re_tup (ra_cons (re_tup (ra_cons (re_var (pv 0)) (ra_cons re_int ra_nil))) (ra_cons (re_tup (ra_cons (re_var (pv 1)) (ra_cons re_int ra_nil))) ra_nil))) (ra_cons (re_tup (ra_cons (re_tup (ra_cons (re_var (pv 1)) (ra_cons re_int ra_nil))) (ra_cons (re_tup (ra_cons (re_var (pv 2)) (ra_cons re_int ra_nil))) ra_nil))) ra_nil))) (rx_val (re_op op_sub r_sub (re_op op_mulC r_mulC (re_var (pv 0)) (re_var (pv 2))) (re_op op_mulC r_mulC (re_var (pv 1)) (re_var (pv 1)))) rx_nil)) rfl)
  (rss_cons (rs_set (i := 5) nd rfl (Or.inl rfl) (re_and (re_cmp op_ge r_ge rfl (re_var (pv 0)) re_int) (re_and (re_cmp op_ge r_ge rfl (re_var (pv 2)) re_int) (re_one (re_cmp op_ge r_ge rfl (re_var (pv 4)) re_int)))))
  (rss_cons (rs_set (i := 6) nd rfl (Or.inl rfl) (re_cmp (op_eqC hu) r_eq rfl (re_tup (ra_cons (re_var (pv 0)) (ra_cons (re_var (pv 1)) (ra_cons (re_var (pv 2)) ra_nil)))) (re_tup (ra_cons re_int (ra_cons re_int (ra_cons re_int ra_nil))))))
  (rss_cons (rs_if (rt_cmp (op_neC hu) r_ne rfl (re_var (pv 4)) re_int) (rss_one (rs_set (i := 7) nd rfl (Or.inl rfl) (re_if (rt_cmp op_lt r_lt rfl (re_var (pv 4)) re_int) (re_tup (ra_cons re_int (ra_cons re_int (ra_cons re_int ra_nil)))) (re_if (rt_cmp op_gt r_gt rfl (re_var (pv 0)) re_int) (re_tup (ra_cons re_int (ra_cons re_int (ra_cons re_int ra_nil)))) (re_tup (ra_cons re_int (ra_cons re_int (ra_cons re_int ra_nil)))))))) (rss_one (rs_set (i := 7) nd rfl (Or.inl rfl) (re_if (rt_val (re_var (pv 6))) (re_tup (ra_cons re_int (ra_cons re_int (ra_cons re_int ra_nil)))) (re_if (rt_cmp op_gt r_gt rfl (re_op op_addX r_addX (re_var (pv 0)) (re_var (pv 2))) re_int) (re_tup (ra_cons re_int (ra_cons re_int (ra_cons re_int ra_nil)))) (re_tup (ra_cons re_int (ra_cons re_int (ra_cons re_int ra_nil)))))))))
  (rss_cons (rs_set (i := 8) nd rfl (Or.inl rfl) (re_tup ra_nil))
  (rss_cons (rs_if (rt_cmp (op_eqC hu) r_eq rfl (re_var (pv 4)) re_int) (rss_one (rs_set (i := 8) nd rfl (Or.inl rfl) (re_if (rt_val (re_var (pv 6))) (re_tup (ra_cons (re_tup (ra_cons (re_tup (ra_cons re_int (ra_cons re_int ra_nil))) (ra_cons (re_tup (ra_cons re_int (ra_cons re_int ra_nil))) ra_nil))) (ra_cons (re_tup (ra_cons (re_tup (ra_cons re_int (ra_cons re_int ra_nil))) (ra_cons (re_tup (ra_cons re_int (ra_cons re_int ra_nil))) ra_nil))) ra_nil))) (re_if (rt_cmp (op_neC hu) r_ne rfl (re_var (pv 1)) re_int) (re_tup (ra_cons (re_tup (ra_cons (re_tup (ra_cons re_int (ra_cons re_int ra_nil))) (ra_cons (re_callF D__law_fr hr (by decide) rfl tk (ra_cons (re_un un_neg r_neg (re_var (pv 0))) (ra_cons (re_var (pv 1)) ra_nil)) (aCons_len (aCons_len aNil_len))) ra_nil))) ra_nil)) (re_if (rt_cmp (op_neC hu) r_ne rfl (re_var (pv 0)) re_int) (re_tup (ra_cons (re_tup (ra_cons (re_tup (ra_cons re_int (ra_cons re_int ra_nil))) (ra_cons (re_tup (ra_cons re_int (ra_cons re_int ra_nil))) ra_nil))) ra_nil)) (re_tup (ra_cons (re_tup (ra_cons (re_tup (ra_cons re_int (ra_cons re_int ra_nil))) (ra_cons (re_tup (ra_cons re_int (ra_cons re_int ra_nil))) ra_nil))) ra_nil))))))) rss_nil)
  (rss_cons (rs_set (i := 9) nd rfl (Or.inl rfl) (re_lst (ra_cons (re_callF D_determinant hr (by decide) rfl tk (ra_cons (re_var (pv 3)) ra_nil) (aCons_len aNil_len)) (ra_cons (re_callF D_shape_of hr (by decide) rfl tk (ra_cons (re_var (pv 3)) ra_nil) (aCons_len aNil_len)) (ra_cons (re_callF D_is_never_below hr (by decide) rfl tk (ra_cons (re_var (pv 3)) ra_nil) (aCons_len aNil_len)) (ra_cons (re_callF D_rank_of hr (by decide) rfl tk (ra_cons (re_var (pv 3)) ra_nil) (aCons_len aNil_len)) ra_nil))))))
  (rss_one (rs_if (rt_bop (rw_or (rt_not (rt_val (re_callF D__law_same hr (by decide) rfl tk (ra_cons (re_var (pv 9)) (ra_cons (re_lst (ra_cons (re_tup (ra_cons (re_var (pv 4)) (ra_cons re_int ra_nil))) (ra_cons (re_var (pv 7)) (ra_cons (re_var (pv 5)) (ra_cons (re_op op_sub r_sub re_int (re_callB call_len rc_len rfl B.len (by decide +kernel) (ra_cons (re_var (pv 8)) ra_nil))) ra_nil))))) ra_nil)) (aCons_len (aCons_len aNil_len))))) (rw_or1 (rt_bop (rw_and (rt_val (re_var (pv 5))) (rw_and1 (rt_not (rt_val (re_callF D__law_same hr (by decide) rfl tk (ra_cons (re_callF D_ties_of hr (by decide) rfl tk (ra_cons (re_var (pv 3)) ra_nil) (aCons_len aNil_len)) (ra_cons (re_var (pv 8)) ra_nil)) (aCons_len (aCons_len aNil_len))))))))))) (rss_one (rs_ret re_bl)) rss_nil))))))))))
  (rss_one (rs_ret re_bl)))
def m__law_trios_right : SM :=
  (mSeq (sSet 0 (mLst (aCons (mTup (aCons (mK (.int 0)) (aCons (mK (.int 1)) aNil))) (aCons (mTup (aCons (mK (.int 1)) (aCons (mK (.int 1)) aNil))) (aCons (mTup (aCons (mUn fNeg (mK (.int 1))) (aCons (mK (.int 2)) aNil))) (aCons (mTup (aCons (mK (.int 3)) (aCons (mK (.int 2)) aNil))) aNil))))))
  (mSeq (sFor (iSeq (mCall f__law_all_rows_of (aCons (mLst (aCons (mTup (aCons (mK (.int 1)) (aCons (mK (.int 1)) aNil))) (aCons (mTup (aCons (mK (.int 2)) (aCons (mK (.int 1)) aNil))) aNil))) (aCons (mK (.int 3)) aNil)))) (bTup 3 (bCons (bName 1) (bCons (bName 2) (bCons (bName 3) bNil)))) (sFor (iSeq (mVar 0)) (bName 4) (sFor (iSeq (mVar 0)) (bName 5) (mSeq (sSet 6 (mTup (aCons (mTup (aCons (mVar 1) (aCons (mVar 4) (aCons (mK .none) aNil)))) (aCons (mTup (aCons (mVar 4) (aCons (mVar 2) (aCons (mVar 5) aNil)))) (aCons (mTup (aCons (mK .none) (aCons (mVar 5) (aCons (mVar 3) aNil)))) aNil)))))
  (mSeq (sPar [7, 8] (xVal (mCall f__law_sub (aCons (mCall f__law_mul (aCons (mVar 1) (aCons (mVar 2) aNil))) (aCons (mCall f__law_mul (aCons (mVar 4) (aCons (mVar 4) aNil))) aNil))) (xVal (mCall f__law_sub (aCons (mCall f__law_mul (aCons (mVar 2) (aCons (mVar 3) aNil))) (aCons (mCall f__law_mul (aCons (mVar 5) (aCons (mVar 5) aNil))) aNil))) xNil)))
  (mSeq (sSet 9 (mAnd (mOp fGe (mOp fIx (mVar 7) (mK (.int 0))) (mK (.int 0))) (mOp fGe (mOp fIx (mVar 8) (mK (.int 0))) (mK (.int 0)))))
  (mSeq (sSet 10 (mCall f__law_div (aCons (mCall f__law_mul (aCons (mVar 4) (aCons (mVar 5) aNil))) (aCons (mVar 2) aNil))))
  (mSeq (sSet 11 (mCall f__law_div (aCons (mCall f__law_mul (aCons (mVar 7) (aCons (mVar 8) aNil))) (aCons (mCall f__law_mul (aCons (mVar 2) (aCons (mVar 2) aNil))) aNil))))
  (mSeq (sSet 12 (mTup (aCons (mTup (aCons (mVar 1) (aCons (mVar 4) (aCons (mVar 10) aNil)))) (aCons (mTup (aCons (mVar 4) (aCons (mVar 2) (aCons (mVar 5) aNil)))) (aCons (mTup (aCons (mVar 10) (aCons (mVar 5) (aCons (mVar 3) aNil)))) aNil)))))
  (mSeq (sSet 13 (mAnd (mOp fGt (mOp fIx (mVar 7) (mK (.int 0))) (mK (.int 0))) (mOp fGt (mOp fIx (mVar 8) (mK (.int 0))) (mK (.int 0)))))
  (mSeq (sSet 14 (mCall f__law_most (aCons (mLst (aCons (mCall f__law_div (aCons (mCall f__law_mul (aCons (mVar 4) (aCons (mVar 4) aNil))) (aCons (mVar 1) aNil))) (aCons (mCall f__law_div (aCons (mCall f__law_mul (aCons (mVar 5) (aCons (mVar 5) aNil))) (aCons (mVar 3) aNil))) aNil))) aNil)))
  (mSeq (sSet 15 (mLst (aCons (mCall f_stands (aCons (mVar 6) aNil)) (aCons (mCall f__law_heard (aCons (mK (.int 0)) (aCons (mVar 6) aNil))) (aCons (mCall f_has_freest (aCons (mVar 6) aNil)) (aCons (mCall f__law_heard (aCons (mK (.int 1)) (aCons (mVar 6) aNil))) (aCons (mCall f__law_heard (aCons (mK (.int 3)) (aCons (mVar 6) aNil))) (aCons (mCall f__law_heard (aCons (mK (.int 4)) (aCons (mVar 6) aNil))) (aCons (mCall f__law_heard (aCons (mK (.int 2)) (aCons (mVar 6) aNil))) aNil)))))))))
  (mSeq (sSet 16 (mLst (aCons (mVar 9) (aCons (mIf (bOf (mVar 9)) (mVar 12) (mK (.str "paper"))) (aCons (mVar 13) (aCons (mIf (bOf (mVar 13)) (mCall f__law_div (aCons (mCall f__law_mul (aCons (mVar 7) (aCons (mVar 8) aNil))) (aCons (mVar 2) aNil))) (mK (.str "paper"))) (aCons (mIf (bOf (mVar 9)) (mTup (aCons (mVar 10) (aCons (mVar 11) aNil))) (mK (.str "paper"))) (aCons (mIf (bNot (bOf (mVar 9))) (mK (.str "paper")) (mIf (bOf (mOp fEq (mOp fIx (mVar 11) (mK (.int 0))) (mK (.int 0)))) (mVar 10) (mK .none))) (aCons (mVar 14) aNil)))))))))
  (sIf (bNot (bOf (mCall f__law_same (aCons (mVar 15) (aCons (mVar 16) aNil))))) (sRet (mK (.bool false))) sNext))))))))))))))
  (sRet (mK (.bool true)))))
def f__law_trios_right : List D → Res D := fnM 17 m__law_trios_right
theorem sc__law_trios_right : FnScope (["goods", "a", "b", "c", "s", "t", "told", "one", "other", "fine", "middle", "square", "whole", "firm", "need", "got", "due"] : List Str) ([] : List Str) (defScope (top 128)) := ⟨rfl, rfl, rfl, by decide +kernel, rfl, by decide +kernel, by decide +kernel⟩
theorem ok__law_trios_right (D : DefIs K mg "_law_trios_right" (top 128)) (B : Bl mg) (D__law_all_rows_of : DefOk Pr w K mg base xc "_law_all_rows_of" 1 ["goods", "many"] f__law_all_rows_of) (D__law_sub : DefOk Pr w K mg base xc "_law_sub" 4 ["one", "other"] f__law_sub) (D__law_mul : DefOk Pr w K mg base xc "_law_mul" 3 ["one", "other"] f__law_mul) (D__law_div : DefOk Pr w K mg base xc "_law_div" 3 ["one", "other"] f__law_div) (D__law_most : DefOk Pr w K mg base xc "_law_most" 2 ["parts"] f__law_most) (D_stands : DefOk Pr w K mg base xc "stands" 9 ["told"] f_stands) (D__law_heard : DefOk Pr w K mg base xc "_law_heard" 13 ["door", "told"] f__law_heard) (D_has_freest : DefOk Pr w K mg base xc "has_freest" 11 ["told"] f_has_freest) (D__law_same : DefOk Pr w K mg base xc "_law_same" 8 ["got", "due"] f__law_same) : DefOk Pr w K mg base xc "_law_trios_right" 14 [] f__law_trios_right := by
  have nd : (["goods", "a", "b", "c", "s", "t", "told", "one", "other", "fine", "middle", "square", "whole", "firm", "need", "got", "due"] : List Str).Nodup := sc__law_trios_right.nd
  exact def_ok (k := 13) D sc__law_trios_right (by decide) (fun _ _ _ _ _ _ us hl => match us, hl with | [], _ => rfl) fun fa cdv A outer s H E O hr tk po => by
    have hu := room_u hr
    exact (rss_cons (rs_set (i := 0) nd rfl (Or.inl rfl) (re_lst (ra_cons (re_tup (ra_cons re_int (ra_cons re_int ra_nil))) (ra_cons (re_tup (ra_cons re_int (ra_cons re_int ra_nil))) (ra_cons (re_tup (ra_cons (re_un un_neg r_neg re_int) (ra_cons re_int ra_nil))) (ra_cons (re_tup (ra_cons re_int (ra_cons re_int ra_nil))) ra_nil))))))
  (rss_cons (rs_for po rfl (ri_seq (re_callF D__law_all_rows_of hr (by decide) rfl tk (ra_cons (re_lst (ra_cons (re_tup (ra_cons re_int (ra_cons re_int ra_nil))) (ra_cons (re_tup (ra_cons re_int (ra_cons re_int ra_nil))) ra_nil))) (ra_cons re_int ra_nil)) (aCons_len (aCons_len aNil_len)))) (pg_tup (n := 3) rfl (pgs_cons (pg_name (i := 1) nd rfl (Or.inl rfl)) (pgs_cons (pg_name (i := 2) nd rfl (Or.inl rfl)) (pgs_cons (pg_name (i := 3) nd rfl (Or.inl rfl)) pgs_nil)))) (bg_tup (n := 3) (bgs_cons (bg_name 1) (bgs_cons (bg_name 2) (bgs_cons (bg_name 3) bgs_nil)))) (rss_one (rs_for po rfl (ri_seq (re_var (pv 0))) (pg_name (i := 4) nd rfl (Or.inl rfl)) (bg_name 4) (rss_one (rs_for po rfl (ri_seq (re_var (pv 0))) (pg_name (i := 5) nd rfl (Or.inl rfl)) (bg_name 5) (rss_cons (rs_set (i := 6) nd rfl (Or.inl rfl) (re_tup (ra_cons (re_tup (ra_cons (re_var (pv 1)) (ra_cons (re_var (pv 4)) (ra_cons re_non ra_nil)))) (ra_cons (re_tup (ra_cons (re_var (pv 4)) (ra_cons (re_var (pv 2)) (ra_cons (re_var (pv 5)) ra_nil)))) (ra_cons (re_tup (ra_cons re_non (ra_cons (re_var (pv 5)) (ra_cons (re_var (pv 3)) ra_nil)))) ra_nil)))))
  (rss_cons (rs_par rfl nd rfl rfl (by decide) rfl rfl (rx_val (re_callF D__law_sub hr (by decide) rfl tk (ra_cons (re_callF D__law_mul hr (by decide) rfl tk (ra_cons (re_var (pv 1)) (ra_cons (re_var (pv 2)) ra_nil)) (aCons_len (aCons_len aNil_len))) (ra_cons (re_callF D__law_mul hr (by decide) rfl tk (ra_cons (re_var (pv 4)) (ra_cons (re_var (pv 4)) ra_nil)) (aCons_len (aCons_len aNil_len))) ra_nil)) (aCons_len (aCons_len aNil_len))) (rx_val (re_callF D__law_sub hr (by decide) rfl tk (ra_cons (re_callF D__law_mul hr (by decide) rfl tk (ra_cons (re_var (pv 2)) (ra_cons (re_var (pv 3)) ra_nil)) (aCons_len (aCons_len aNil_len))) (ra_cons (re_callF D__law_mul hr (by decide) rfl tk (ra_cons (re_var (pv 5)) (ra_cons (re_var (pv 5)) ra_nil)) (aCons_len (aCons_len aNil_len))) ra_nil)) (aCons_len (aCons_len aNil_len))) rx_nil)) rfl)
  (rss_cons (rs_set (i := 9) nd rfl (Or.inl rfl) (re_and (re_cmp op_ge r_ge rfl (re_ix (re_var (pv 7)) re_int (fun _ _ => rfl)) re_int) (re_one (re_cmp op_ge r_ge rfl (re_ix (re_var (pv 8)) re_int (fun _ _ => rfl)) re_int))))
  (rss_cons (rs_set (i := 10) nd rfl (Or.inl rfl) (re_callF D__law_div hr (by decide) rfl tk (ra_cons (re_callF D__law_mul hr (by decide) rfl tk (ra_cons (re_var (pv 4)) (ra_cons (re_var (pv 5)) ra_nil)) (aCons_len (aCons_len aNil_len))) (ra_cons (re_var (pv 2)) ra_nil)) (aCons_len (aCons_len aNil_len))))
  (rss_cons (rs_set (i := 11) nd rfl (Or.inl rfl) (re_callF D__law_div hr (by decide) rfl tk (ra_cons (re_callF D__law_mul hr (by decide) rfl tk (ra_cons (re_var (pv 7)) (ra_cons (re_var (pv 8)) ra_nil)) (aCons_len (aCons_len aNil_len))) (ra_cons (re_callF D__law_mul hr (by decide) rfl tk (ra_cons (re_var (pv 2)) (ra_cons (re_var (pv 2)) ra_nil)) (aCons_len (aCons_len aNil_len))) ra_nil)) (aCons_len (aCons_len aNil_len))))
  (rss_cons (rs_set (i := 12) nd rfl (Or.inl rfl) (re_tup (ra_cons (re_tup (ra_cons (re_var (pv 1)) (ra_cons (re_var (pv 4)) (ra_cons (re_var (pv 10)) ra_nil)))) (ra_cons (re_tup (ra_cons (re_var (pv 4)) (ra_cons (re_var (pv 2)) (ra_cons (re_var (pv 5)) ra_nil)))) (ra_cons (re_tup (ra_cons (re_var (pv 10)) (ra_cons (re_var (pv 5)) (ra_cons (re_var (pv 3)) ra_nil)))) ra_nil)))))
  (rss_cons (rs_set (i := 13) nd rfl (Or.inl rfl) (re_and (re_cmp op_gt r_gt rfl (re_ix (re_var (pv 7)) re_int (fun _ _ => rfl)) re_int) (re_one (re_cmp op_gt r_gt rfl (re_ix (re_var (pv 8)) re_int (fun _ _ => rfl)) re_int))))
  (rss_cons (rs_set (i := 14) nd rfl (Or.inl rfl) (re_callF D__law_most hr (by decide) rfl tk (ra_cons (re_lst (ra_cons (re_callF D__law_div hr (by decide) rfl tk (ra_cons (re_callF D__law_mul hr (by decide) rfl tk (ra_cons (re_var (pv 4)) (ra_cons (re_var (pv 4)) ra_nil)) (aCons_len (aCons_len aNil_len))) (ra_cons (re_var (pv 1)) ra_nil)) (aCons_len (aCons_len aNil_len))) (ra_cons (re_callF D__law_div hr (by decide) rfl tk (ra_cons (re_callF D__law_mul hr (by decide) rfl tk (ra_cons (re_var (pv 5)) (ra_cons (re_var (pv 5)) ra_nil)) (aCons_len (aCons_len aNil_len))) (ra_cons (re_var (pv 3)) ra_nil)) (aCons_len (aCons_len aNil_len))) ra_nil))) ra_nil) (aCons_len aNil_len)))
  (rss_cons (rs_set (i := 15) nd rfl (Or.inl rfl) (re_lst (ra_cons (re_callF D_stands hr (by decide) rfl tk (ra_cons (re_var (pv 6)) ra_nil) (aCons_len aNil_len)) (ra_cons (re_callF D__law_heard hr (by decide) rfl tk (ra_cons re_int (ra_cons (re_var (pv 6)) ra_nil)) (aCons_len (aCons_len aNil_len))) (ra_cons (re_callF D_has_freest hr (by decide) rfl tk (ra_cons (re_var (pv 6)) ra_nil) (aCons_len aNil_len)) (ra_cons (re_callF D__law_heard hr (by decide) rfl tk (ra_cons re_int (ra_cons (re_var (pv 6)) ra_nil)) (aCons_len (aCons_len aNil_len))) (ra_cons (re_callF D__law_heard hr (by decide) rfl tk (ra_cons re_int (ra_cons (re_var (pv 6)) ra_nil)) (aCons_len (aCons_len aNil_len))) (ra_cons (re_callF D__law_heard hr (by decide) rfl tk (ra_cons re_int (ra_cons (re_var (pv 6)) ra_nil)) (aCons_len (aCons_len aNil_len))) (ra_cons (re_callF D__law_heard hr (by decide) rfl tk (ra_cons re_int (ra_cons (re_var (pv 6)) ra_nil)) (aCons_len (aCons_len aNil_len))) ra_nil)))))))))
  (rss_cons (rs_set (i := 16) nd rfl (Or.inl rfl) (re_lst (ra_cons (re_var (pv 9)) (ra_cons (re_if (rt_val (re_var (pv 9))) (re_var (pv 12)) (re_str (by decide +kernel))) (ra_cons (re_var (pv 13)) (ra_cons (re_if (rt_val (re_var (pv 13))) (re_callF D__law_div hr (by decide) rfl tk (ra_cons (re_callF D__law_mul hr (by decide) rfl tk (ra_cons (re_var (pv 7)) (ra_cons (re_var (pv 8)) ra_nil)) (aCons_len (aCons_len aNil_len))) (ra_cons (re_var (pv 2)) ra_nil)) (aCons_len (aCons_len aNil_len))) (re_str (by decide +kernel))) (ra_cons (re_if (rt_val (re_var (pv 9))) (re_tup (ra_cons (re_var (pv 10)) (ra_cons (re_var (pv 11)) ra_nil))) (re_str (by decide +kernel))) (ra_cons (re_if (rt_not (rt_val (re_var (pv 9)))) (re_str (by decide +kernel)) (re_if (rt_cmp (op_eqC hu) r_eq rfl (re_ix (re_var (pv 11)) re_int (fun _ _ => rfl)) re_int) (re_var (pv 10)) re_non)) (ra_cons (re_var (pv 14)) ra_nil)))))))))
  (rss_one (rs_if (rt_not (rt_val (re_callF D__law_same hr (by decide) rfl tk (ra_cons (re_var (pv 15)) (ra_cons (re_var (pv 16)) ra_nil)) (aCons_len (aCons_len aNil_len))))) (rss_one (rs_ret re_bl)) rss_nil)))))))))))))))))
  (rss_one (rs_ret re_bl))))
def m__law_fars_right : SM :=
  (mSeq (sFor (iSeq (mCall f__law_all_rows_of (aCons (mLst (aCons (mK (.int 0)) (aCons (mK (.int 1)) (aCons (mK (.int 2)) (aCons (mK (.int 3)) (aCons (mK (.int 4)) (aCons (mK (.int 5)) aNil))))))) (aCons (mK (.int 3)) aNil)))) (bTup 3 (bCons (bName 0) (bCons (bName 1) (bCons (bName 2) bNil)))) (mSeq (sSet 3 (mTup (aCons (mTup (aCons (mTup (aCons (mK (.int 0)) (aCons (mK (.int 1)) aNil))) (aCons (mTup (aCons (mVar 0) (aCons (mK (.int 1)) aNil))) (aCons (mTup (aCons (mVar 1) (aCons (mK (.int 1)) aNil))) aNil)))) (aCons (mTup (aCons (mTup (aCons (mVar 0) (aCons (mK (.int 1)) aNil))) (aCons (mTup (aCons (mK (.int 0)) (aCons (mK (.int 1)) aNil))) (aCons (mTup (aCons (mVar 2) (aCons (mK (.int 1)) aNil))) aNil)))) (aCons (mTup (aCons (mTup (aCons (mVar 1) (aCons (mK (.int 1)) aNil))) (aCons (mTup (aCons (mVar 2) (aCons (mK (.int 1)) aNil))) (aCons (mTup (aCons (mK (.int 0)) (aCons (mK (.int 1)) aNil))) aNil)))) aNil)))))
  (mSeq (sSet 4 (mOp fSub (mOp fMul (mOp fMul (mK (.int 4)) (mVar 0)) (mVar 1)) (mOp fMul (mOp fSub (mOp fAddX (mVar 0) (mVar 1)) (mVar 2)) (mOp fSub (mOp fAddX (mVar 0) (mVar 1)) (mVar 2)))))
  (mSeq (sSet 5 (mIf (bOf (mOp fNe (mVar 4) (mK (.int 0)))) (mK (.int 2)) (mIf (bOr (bOf (mOp fGt (mCall bMax2 (aCons (mVar 0) (aCons (mVar 1) aNil))) (mK (.int 0)))) (bOf (mOp fGt (mVar 2) (mK (.int 0))))) (mK (.int 1)) (mK (.int 0)))))
  (sIf (bNot (bOf (mCall f__law_same (aCons (mLst (aCons (mCall f_points_stand (aCons (mVar 3) aNil)) (aCons (mCall f_volume_of_far (aCons (mVar 3) aNil)) (aCons (mCall f_far_rank (aCons (mVar 3) aNil)) aNil)))) (aCons (mLst (aCons (mOp fGe (mVar 4) (mK (.int 0))) (aCons (mCall f__law_fr (aCons (mVar 4) (aCons (mK (.int 4)) aNil))) (aCons (mVar 5) aNil)))) aNil))))) (sRet (mK (.bool false))) sNext)))))
  (sRet (mK (.bool true))))
def f__law_fars_right : List D → Res D := fnM 6 m__law_fars_right
theorem sc__law_fars_right : FnScope (["x", "y", "z", "far", "four", "rank"] : List Str) ([] : List Str) (defScope (top 129)) := ⟨rfl, rfl, rfl, by decide +kernel, rfl, by decide +kernel, by decide +kernel⟩
theorem ok__law_fars_right (D : DefIs K mg "_law_fars_right" (top 129)) (B : Bl mg) (D__law_all_rows_of : DefOk Pr w K mg base xc "_law_all_rows_of" 1 ["goods", "many"] f__law_all_rows_of) (D__law_same : DefOk Pr w K mg base xc "_law_same" 8 ["got", "due"] f__law_same) (D_points_stand : DefOk Pr w K mg base xc "points_stand" 9 ["far"] f_points_stand) (D_volume_of_far : DefOk Pr w K mg base xc "volume_of_far" 9 ["far"] f_volume_of_far) (D_far_rank : DefOk Pr w K mg base xc "far_rank" 9 ["far"] f_far_rank) (D__law_fr : DefOk Pr w K mg base xc "_law_fr" 2 ["top", "bottom"] f__law_fr) : DefOk Pr w K mg base xc "_law_fars_right" 10 [] f__law_fars_right := by
  have nd : (["x", "y", "z", "far", "four", "rank"] : List Str).Nodup := sc__law_fars_right.nd
  exact def_ok (k := 9) D sc__law_fars_right (by decide) (fun _ _ _ _ _ _ us hl => match us, hl with | [], _ => rfl) fun fa cdv A outer s H E O hr tk po => by
    have hu := room_u hr
    exact (rss_cons (rs_for po rfl (ri_seq (re_callF D__law_all_rows_of hr (by decide) rfl tk (ra_cons (re_lst (ra_cons re_int (ra_cons re_int (ra_cons re_int (ra_cons re_int (ra_cons re_int (ra_cons re_int ra_nil))))))) (ra_cons re_int ra_nil)) (aCons_len (aCons_len aNil_len)))) (pg_tup (n := 3) rfl (pgs_cons (pg_name (i := 0) nd rfl (Or.inl rfl)) (pgs_cons (pg_name (i := 1) nd rfl (Or.inl rfl)) (pgs_cons (pg_name (i := 2) nd rfl (Or.inl rfl)) pgs_nil)))) (bg_tup (n := 3) (bgs_cons (bg_name 0) (bgs_cons (bg_name 1) (bgs_cons (bg_name 2) bgs_nil)))) (rss_cons (rs_set (i := 3) nd rfl (Or.inl rfl) (re_tup (ra_cons (re_tup (ra_cons (re_tup (ra_cons re_int (ra_cons re_int ra_nil))) (ra_cons (re_tup (ra_cons (re_var (pv 0)) (ra_cons re_int ra_nil))) (ra_cons (re_tup (ra_cons (re_var (pv 1)) (ra_cons re_int ra_nil))) ra_nil)))) (ra_cons (re_tup (ra_cons (re_tup (ra_cons (re_var (pv 0)) (ra_cons re_int ra_nil))) (ra_cons (re_tup (ra_cons re_int (ra_cons re_int ra_nil))) (ra_cons (re_tup (ra_cons (re_var (pv 2)) (ra_cons re_int ra_nil))) ra_nil)))) (ra_cons (re_tup (ra_cons (re_tup (ra_cons (re_var (pv 1)) (ra_cons re_int ra_nil))) (ra_cons (re_tup (ra_cons (re_var (pv 2)) (ra_cons re_int ra_nil))) (ra_cons (re_tup (ra_cons re_int (ra_cons re_int ra_nil))) ra_nil)))) ra_nil)))))
  (rss_cons (rs_set (i := 4) nd rfl (Or.inl rfl) (re_op op_sub r_sub (re_op op_mulC r_mulC (re_op op_mulC r_mulC re_int (re_var (pv 0))) (re_var (pv 1))) (re_op op_mulC r_mulC (re_op op_sub r_sub (re_op op_addX r_addX (re_var (pv 0)) (re_var (pv 1))) (re_var (pv 2))) (re_op op_sub r_sub (re_op op_addX r_addX (re_var (pv 0)) (re_var (pv 1))) (re_var (pv 2))))))
  (rss_cons (rs_set (i := 5) nd rfl (Or.inl rfl) (re_if (rt_cmp (op_neC hu) r_ne rfl (re_var (pv 4)) re_int) re_int (re_if (rt_bop (rw_or (rt_cmp op_gt r_gt rfl (re_callB (call_max2 rfl) rc_max2 rfl B.max (by decide +kernel) (ra_cons (re_var (pv 0)) (ra_cons (re_var (pv 1)) ra_nil))) re_int) (rw_or1 (rt_cmp op_gt r_gt rfl (re_var (pv 2)) re_int)))) re_int re_int)))
  (rss_one (rs_if (rt_not (rt_val (re_callF D__law_same hr (by decide) rfl tk (ra_cons (re_lst (ra_cons (re_callF D_points_stand hr (by decide) rfl tk (ra_cons (re_var (pv 3)) ra_nil) (aCons_len aNil_len)) (ra_cons (re_callF D_volume_of_far hr (by decide) rfl tk (ra_cons (re_var (pv 3)) ra_nil) (aCons_len aNil_len)) (ra_cons (re_callF D_far_rank hr (by decide) rfl tk (ra_cons (re_var (pv 3)) ra_nil) (aCons_len aNil_len)) ra_nil)))) (ra_cons (re_lst (ra_cons (re_cmp op_ge r_ge rfl (re_var (pv 4)) re_int) (ra_cons (re_callF D__law_fr hr (by decide) rfl tk (ra_cons (re_var (pv 4)) (ra_cons re_int ra_nil)) (aCons_len (aCons_len aNil_len))) (ra_cons (re_var (pv 5)) ra_nil)))) ra_nil)) (aCons_len (aCons_len aNil_len))))) (rss_one (rs_ret re_bl)) rss_nil))))))
  (rss_one (rs_ret re_bl)))
end
end K4

/-! the draws, by hand -/
namespace K4
open PySem PySem.Spec PyProof.Rows L2 Rf
def EvI (t : TE) (σ : L2.St) (H : Hp) (i : Int) : Prop := ∀ Q : VK, Q (.int i) H → t σ H Q
section
variable {σ : L2.St} {H : Hp} {a b : TE} {i j : Int} {K : Frg} {D : Ends}
theorem ev_var {k : Nat} (h : σ[k]? = some (some (.int i))) : EvI (tVar k) σ H i := fun Q q => ⟨_, h, q⟩
theorem ev_c : EvI (tC (.int i)) σ H i := fun Q q => q
theorem ev_ix {s k : Nat} {t : Addr} {xs : List V} (h : σ[s]? = some (some (.ref t))) (hH : H t = some (.lst xs)) (hk : xs[k]? = some (.int i)) : EvI (tOp (rIx K) (tVar s) (tC (.int (k : Int)))) σ H i :=
  fun Q q => ⟨_, h, .inl ⟨t, xs, k, _, rfl, rfl, .of hH, atI_nat hk, q⟩⟩
theorem ev_add (ha : EvI a σ H i) (hb : EvI b σ H j) : EvI (tOp (rI0 fun i j => .int (i + j)) a b) σ H (i + j) := fun Q q => ha _ (hb _ ⟨_, _, rfl, rfl, q⟩)
theorem ev_mul (hc : CMul i j) (ha : EvI a σ H i) (hb : EvI b σ H j) : EvI (tOp (rI CMul fun i j => .int (i * j)) a b) σ H (i * j) := fun Q q => ha _ (hb _ ⟨_, _, rfl, rfl, hc, q⟩)
theorem ev_mod (hc : 0 < j) (ha : EvI a σ H i) (hb : EvI b σ H j) : EvI (tOp (rI (fun _ j => j ≠ 0) fun i j => .int (i.fmod j)) a b) σ H (i % j) := fun Q q => ha _ (hb _ ⟨_, _, rfl, rfl, by show j ≠ 0; omega, by
  show Q (.int (i.fmod j)) H
  rw [Int.fmod_eq_emod_of_nonneg i (by omega)]; exact q⟩)
theorem ev_div (hc : 0 < j) (h2 : j < 1073741824) (ha : EvI a σ H i) (hb : EvI b σ H j) : EvI (tOp (rI CDivN fun i j => .int (i.fdiv j)) a b) σ H (i / j) := fun Q q => ha _ (hb _ ⟨_, _, rfl, rfl, ⟨by omega, by omega⟩, by
  show Q (.int (i.fdiv j)) H
  rw [Int.fdiv_eq_ediv_of_nonneg i (by omega)]; exact q⟩)
theorem ev_int (ha : EvI a σ H i) : EvI (tCB (fun xs H Q => (∃ i, xs = [V.int i] ∧ Q (V.int i) H) ∨ ∃ k, xs = [V.bl k] ∧ Q (V.int (if k = true then 1 else 0)) H) (tCons a tNil)) σ H i := fun Q q => ha _ (.inl ⟨i, rfl, q⟩)
theorem ev_abs (ha : EvI a σ H i) : EvI (tCB (fun xs H Q => ∃ i, xs = [V.int i] ∧ Q (V.int (if i < 0 then -i else i)) H) (tCons a tNil)) σ H (if i < 0 then -i else i) := fun Q q => ha _ ⟨i, rfl, q⟩
theorem run_set {k : Nat} (ha : EvI a σ H i) (h : D.nx (σ.set k (some (.int i))) H) : tAsg a (gName k) D σ H := ha _ h
theorem run_ret (ha : EvI a σ H i) (h : D.rt (.int i) H) : tRet a D σ H := ha _ h
theorem run_sto {s k : Nat} {t : Addr} {xs : List V} (ha : EvI a σ H i) (h : σ[s]? = some (some (.ref t))) (hH : H t = some (.lst xs)) (hk : k < xs.length) (q : D.nx σ (upd H t (.lst (xs.set k (.int i))))) : tAsg a (gSub (tVar s) (tC (.int (k : Int))) rSetL) D σ H :=
  ha _ ⟨_, h, t, xs, k, k, rfl, rfl, hH, ixN_nat hk, q⟩
theorem run_gt (ha : EvI a σ H i) (hb : EvI b σ H j) {Q : Bool → Hp → Prop} (q : Q (decide (j < i)) H) : tTest (tOp (rI0 fun i j => .bl (decide (j < i))) a b) σ H Q := ha _ (hb _ ⟨_, _, rfl, rfl, _, rfl, q⟩)
end
def spTake : Sp := fun vs H Q _ => ∃ (t : Addr) (a b c m : Int), vs = [.ref t, .int m] ∧ H t = some (.lst [.int a, .int b, .int c]) ∧ 0 ≤ a ∧ 0 ≤ b ∧ b < 2 ^ 62 ∧ 0 ≤ c ∧ c < 1000 ∧ 1 ≤ m ∧ m < 100 ∧
  ∀ r a' c' : Int, 0 ≤ r → r < m → 0 ≤ a' → 0 ≤ c' → c' ≤ c + 1 → Q (.int r) (upd H t (.lst [.int a', .int b, .int c']))
section
variable {Pr : Program} {w : World} {K : Frg} {mg : Str → Option Value} {base : Heap} {xc : Nat → Addr}
theorem sL_take : FnScope (["tin", "below_so", "drawn", "once_so", "wide_so", "twice_so"] : List Str) (["tin", "below_so"] : List Str) (defScope (top 112)) := ⟨rfl, rfl, rfl, by decide +kernel, rfl, by decide +kernel, by decide +kernel⟩
theorem okL_take {f : Addr} {fd : FuncData} (F : FunD K "_law_take" "_law_take" (defArgs (top 112)) (defBody (top 112)) (defScope (top 112)) [] [] f fd) (B : Bl mg) : FnOk Pr w K mg base (L2.CX Pr w) 1 f fd ["tin", "below_so"] spTake := by
  have nd := sL_take.nd
  refine F.ok sL_take (fun vs H Q E h => ?_) (fun cdv A outer s H vs Q E hr h => ?_)
  · obtain ⟨t, a, b, c, m, rfl, _⟩ := h
    rfl
  · refine ⟨_, pss_cons (ps_if (pt_cmpR op_gt (pe_ix ix_seq (pv 0) pe_int (fun _ _ => rfl)) pe_int rfl)
      (pss_cons (ps_set (i := 2) nd rfl (Or.inl rfl) (pe_op op_modN (pe_callTy call_int1 rfl B.int (by decide +kernel) (pa_cons (pe_ix ix_seq (pv 0) pe_int (fun _ _ => rfl)) pa_nil)) (pv 1)))
      (pss_cons (ps_asg (pe_op op_fdivN (pe_ix ix_seq (pv 0) pe_int (fun _ _ => rfl)) (pv 1)) (pg_sub (pv 0) pe_int set_list))
      (pss_one (ps_ret (pv 2))))) pss_nil)
      (pss_cons (ps_asg (pe_op op_add (pe_ix ix_seq (pv 0) pe_int (fun _ _ => rfl)) pe_int) (pg_sub (pv 0) pe_int set_list))
      (pss_cons (ps_set (i := 3) nd rfl (Or.inl rfl) (pe_op op_modN (pe_callTy call_int1 rfl B.int (by decide +kernel) (pa_cons (pe_op op_mul (pe_op op_add (pe_ix ix_seq (pv 0) pe_int (fun _ _ => rfl)) (pe_op op_mul pe_int (pe_ix ix_seq (pv 0) pe_int (fun _ _ => rfl)))) (pe_op op_add pe_int (pe_ix ix_seq (pv 0) pe_int (fun _ _ => rfl)))) pa_nil)) pe_int))
      (pss_cons (ps_set (i := 4) nd rfl (Or.inl rfl) (pe_op op_add (pe_op op_modN (pe_callTy call_int1 rfl B.int (by decide +kernel) (pa_cons (pv 3) pa_nil)) pe_int) pe_int))
      (pss_cons (ps_set (i := 5) nd rfl (Or.inl rfl) (pe_op op_modN (pe_callTy call_int1 rfl B.int (by decide +kernel) (pa_cons (pe_op op_mul (pe_op op_add (pe_op op_add (pv 3) (pe_ix ix_seq (pv 0) pe_int (fun _ _ => rfl))) (pe_op op_fdivN (pe_ix ix_seq (pv 0) pe_int (fun _ _ => rfl)) pe_int)) (pv 4)) pa_nil)) pe_int))
      (pss_one (ps_ret (pe_op op_modN (pe_callTy call_int1 rfl B.int (by decide +kernel) (pa_cons (pe_op op_fdivN (pe_op op_modN (pe_callTy call_int1 rfl B.int (by decide +kernel) (pa_cons (pe_op op_add (pe_op op_mul (pv 5) pe_int) (pv 3)) pa_nil)) pe_int) pe_int) pa_nil)) (pv 1)))))))), ?_⟩
    obtain ⟨t, a, b, c, m, rfl, hH, ha, hb, hb2, hc, hc2, hm, hm2, hQ⟩ := h
    refine run_gt (ev_ix (k := 0) rfl hH rfl) ev_c ?_
    by_cases h0 : 0 < a
    · show if _ then _ else _
      rw [if_pos (decide_eq_true h0)]
      refine run_set (ev_mod (by omega) (ev_int (ev_ix (k := 0) rfl hH rfl)) (ev_var rfl)) ?_
      refine run_sto (k := 0) (ev_div (by omega) (by omega) (ev_ix (k := 0) rfl hH rfl) (ev_var rfl)) rfl hH (by first | (show 0 < 3; decide) | (show 2 < 3; decide)) ?_
      refine run_ret (ev_var rfl) ?_
      exact hQ _ _ c (Int.emod_nonneg _ (by omega)) (Int.emod_lt_of_pos _ (by omega)) (Int.ediv_nonneg ha (by omega)) hc (by omega)
    · show if _ then _ else _
      rw [if_neg (by simpa using h0)]
      refine run_sto (k := 2) (ev_add (ev_ix (k := 2) rfl hH rfl) ev_c) rfl hH (by first | (show 0 < 3; decide) | (show 2 < 3; decide)) ?_
      have hH2 : upd H t (.lst [.int a, .int b, .int (c + 1)]) t = some (.lst [.int a, .int b, .int (c + 1)]) := upd_same
      refine run_set (i := ((b + 48271 * (c + 1)) * (39373 + (c + 1))) % 2147483647) (ev_mod (by decide) (ev_int (ev_mul (.inr (by omega)) (ev_add (ev_ix (k := 1) rfl hH2 rfl) (ev_mul (.inl (by omega)) ev_c (ev_ix (k := 2) rfl hH2 rfl))) (ev_add ev_c (ev_ix (k := 2) rfl hH2 rfl)))) ev_c) ?_
      generalize ho : ((b + 48271 * (c + 1)) * (39373 + (c + 1))) % 2147483647 = o
      have o1 : 0 ≤ o := by rw [← ho]; exact Int.emod_nonneg _ (by decide)
      have o2 : o < 2147483647 := by rw [← ho]; exact Int.emod_lt_of_pos _ (by decide)
      refine run_set (ev_add (ev_mod (by decide) (ev_int (ev_var rfl)) ev_c) ev_c) ?_
      have w1 : 0 ≤ o % 40009 := Int.emod_nonneg _ (by decide)
      have w2 : o % 40009 < 40009 := Int.emod_lt_of_pos _ (by decide)
      refine run_set (ev_mod (by decide) (ev_int (ev_mul (.inr (by omega)) (ev_add (ev_add (ev_var rfl) (ev_ix (k := 2) rfl hH2 rfl)) (ev_div (by decide) (by decide) (ev_ix (k := 1) rfl hH2 rfl) ev_c)) (ev_var rfl))) ev_c) ?_
      refine run_ret (ev_mod (by omega) (ev_int (ev_div (by decide) (by decide) (ev_mod (by decide) (ev_int (ev_add (ev_mul (.inr (by omega)) (ev_var rfl) ev_c) (ev_var rfl))) ev_c) ev_c)) (ev_var rfl)) ?_
      exact hQ _ a (c + 1) (Int.emod_nonneg _ (by omega)) (Int.emod_lt_of_pos _ (by omega)) ha (by omega) (by omega)
end
end K4

namespace K4
open PySem PySem.Spec PyProof.Rows L2 Rf
def Ints (xs : List V) : Prop := ∀ x ∈ xs, ∃ i : Int, x = .int i
theorem Ints.map (ns : List Int) : Ints (ns.map V.int) := fun x hx => by
  obtain ⟨i, _, rfl⟩ := List.mem_map.mp hx
  exact ⟨i, rfl⟩
theorem Ints.cut {xs : List V} (h : Ints xs) (lo hi : Option Int) : Ints (cutV xs lo hi) := fun x hx => h x (List.mem_of_mem_drop (List.mem_of_mem_take hx))
theorem ev_ib {σ : L2.St} {H : Hp} {a b : TE} {i j : Int} (ha : EvI a σ H i) (hb : EvI b σ H j) : EvI (tCB (fun xs H Q => (∃ i, xs = [V.int i] ∧ Q (V.int i) H) ∨ ∃ k, xs = [V.bl k] ∧ Q (V.int (if k = true then 1 else 0)) H) (tCons (tOp (rI0 fun i j => .bl (decide (j ≤ i))) a b) tNil)) σ H (if decide (j ≤ i) = true then 1 else 0) :=
  fun Q q => ha _ (hb _ ⟨_, _, rfl, rfl, .inr ⟨_, rfl, q⟩⟩)
theorem ev_pow {σ : L2.St} {H : Hp} {a b : TE} {i j : Int} (hc : CPow i j) (ha : EvI a σ H i) (hb : EvI b σ H j) : EvI (tOp (rI CPow fun i j => .int (i ^ j.toNat)) a b) σ H (i ^ j.toNat) := fun Q q => ha _ (hb _ ⟨_, _, rfl, rfl, hc, q⟩)
theorem run_ret3 {σ : L2.St} {H : Hp} {D : Ends} {a b c : TE} {i j k : Int} (ha : EvI a σ H i) (hb : EvI b σ H j) (hc : EvI c σ H k) (h : ∀ p, H p = none → D.rt (.ref p) (upd H p (.lst [.int i, .int j, .int k]))) : tRet (tLst (tCons a (tCons b (tCons c tNil)))) D σ H :=
  ha _ (hb _ (hc _ ⟨by show 3 ≤ sizeLine; rw [sizeLine_eq]; decide, h⟩))
theorem ib01 (c : Bool) : (0 : Int) ≤ (if c = true then 1 else 0) ∧ (if c = true then 1 else 0 : Int) ≤ 1 := by cases c <;> decide
theorem cut1 {xs : List V} (h : Ints xs) : cutV xs none (some 1) = [] ∨ ∃ i : Int, cutV xs none (some 1) = [.int i] := by
  have hi := h.cut none (some 1)
  have hl : (cutV xs none (some 1)).length ≤ 1 := by
    unfold cutV
    have e : HT.sIx xs.length xs.length (some 1) = min 1 xs.length := HT.sIx_nat _ _ 1
    rw [HT.sIx_none, e, List.length_take]
    omega
  match hc : cutV xs none (some 1), hl with
  | [], _ => exact .inl rfl
  | [x], _ =>
    obtain ⟨i, rfl⟩ := hi x (by rw [hc]; exact List.mem_cons_self)
    exact .inr ⟨i, rfl⟩
  | _ :: _ :: _, hl => exact absurd hl (by simp)
theorem sqL_same {K : Frg} {H H2 : Hp} {a : Addr} {xs : List V} (h : SqL K H a xs) (sm : Same H H2) : SqL K H2 a xs := h.elim (fun z => .inl (z.elim (fun z => .inl (sm _ _ z)) fun ⟨o, z⟩ => .inr ⟨o, sm _ _ z⟩)) .inr
theorem sqL_inj {K : Frg} {H : Hp} {a : Addr} {xs ys : List V} (h : H a = some (.lst xs)) (hk : K.lookup a = none) (h2 : SqL K H a ys) : ys = xs := by
  rcases h2 with (z | ⟨o, z⟩) | ⟨o, its, n, e, _⟩
  · rw [h] at z; cases z; rfl
  · rw [h] at z; cases z
  · rw [hk] at e; cases e
def spBox : Sp := fun vs H Q _ => ∃ (l : Addr) (s : Int), vs = [.ref l, .int 0] ∧ H l = some (.lst [.int s]) ∧
  ∀ (p : Addr) (a b : Int), H p = none → 0 ≤ a → 0 ≤ b → b < 2 ^ 62 → Q (.ref p) (upd H p (.lst [.int a, .int b, .int 0]))
def spCells (K : Frg) : Sp := fun vs H Q _ => ∃ (l : Addr) (xs : List V), vs = [.ref l, .int 1] ∧ SqL K H l xs ∧ Ints xs ∧ xs.length ≤ 63 ∧
  ∀ (p : Addr) (s : Int) (H' : Hp), H p = none → Same H H' → H' p = some (.lst [.int s]) → Q (.ref p) H'
section
variable {Pr : Program} {w : World} {K : Frg} {mg : Str → Option Value} {base : Heap} {xc : Nat → Addr}
theorem sL_box : FnScope (["script", "k", "cell"] : List Str) (["script", "k"] : List Str) (defScope (top 114)) := ⟨rfl, rfl, rfl, by decide +kernel, rfl, by decide +kernel, by decide +kernel⟩
theorem okL_box {f : Addr} {fd : FuncData} (F : FunD K "_law_box" "_law_box" (defArgs (top 114)) (defBody (top 114)) (defScope (top 114)) [] [] f fd) (B : Bl mg) : FnOk Pr w K mg base (L2.CX Pr w) 1 f fd ["script", "k"] spBox := by
  have nd := sL_box.nd
  refine F.ok sL_box (fun vs H Q E h => ?_) (fun cdv A outer s H vs Q E hr h => ?_)
  · obtain ⟨l, s, rfl, _⟩ := h
    rfl
  · refine ⟨_, pss_cons (ps_set (i := 2) nd rfl (Or.inl rfl) (pe_ifExp (pt_cmpR op_lt (pv 1) (pe_callB call_len rfl B.len (by decide +kernel) (pa_cons (pv 0) pa_nil)) rfl) (pe_ix ix_seq (pv 0) (pv 1) (fun _ _ => rfl)) pe_int))
      (pss_one (ps_ret (pe_lst (pa_cons (pe_op op_mul (pe_callB call_abs rfl B.abs (by decide +kernel) (pa_cons (pv 2) pa_nil)) (pe_callTy call_int1 rfl B.int (by decide +kernel) (pa_cons (pe_cmpR op_ge (pe_callB call_abs rfl B.abs (by decide +kernel) (pa_cons (pv 2) pa_nil)) (pe_op op_pow pe_int pe_int) rfl) pa_nil)))
        (pa_cons (pe_op op_add (pe_op op_add (pe_op op_modN (pe_callTy call_int1 rfl B.int (by decide +kernel) (pa_cons (pv 2) pa_nil)) pe_int) (pe_op op_mul pe_int (pv 1))) pe_int) (pa_cons pe_int pa_nil)))))), ?_⟩
    obtain ⟨l, s, rfl, hl, hQ⟩ := h
    refine ⟨_, rfl, _, rfl, V.ref l, 1, rfl, .inl ⟨_, .of hl, rfl⟩, _, _, rfl, rfl, true, rfl, ?_⟩
    show if _ then _ else _
    rw [if_pos rfl]
    refine ⟨_, rfl, _, rfl, .inl ⟨l, _, 0, .int s, rfl, rfl, .of hl, rfl, ?_⟩⟩
    -- the three numbers
    have hc : EvI (tVar 2) (List.set (L2.start ["script", "k", "cell"] [V.ref l, V.int 0]) 2 (some (V.int s))) H s := ev_var rfl
    refine run_ret3 (ev_mul (.inr ?_) (ev_abs hc) (ev_ib (ev_abs hc) (ev_pow ⟨by decide, by decide, by decide⟩ ev_c ev_c)))
      (ev_add (ev_add (ev_mod (by decide) (ev_int hc) ev_c) (ev_mul (.inl (by decide)) ev_c (ev_var (k := 1) rfl))) ev_c) ev_c (fun p hp => hQ p _ _ hp ?_ ?_ ?_)
    · exact ⟨Int.lt_of_lt_of_le (by decide) (ib01 _).1, Int.lt_of_le_of_lt (ib01 _).2 (by decide)⟩
    · refine Int.mul_nonneg ?_ ?_
      · split <;> omega
      · exact (ib01 _).1
    · have := Int.emod_nonneg s (show (2305843009213693951 : Int) ≠ 0 by decide); omega
    · have := Int.emod_lt_of_pos s (show (0 : Int) < 2305843009213693951 by decide); omega
theorem sL_cells : FnScope (["script", "most_so", "cells_so", "k", "cell_so", "at_so"] : List Str) (["script", "most_so"] : List Str) (defScope (top 113)) := ⟨rfl, rfl, rfl, by decide +kernel, rfl, by decide +kernel, by decide +kernel⟩
theorem okL_cells {f : Addr} {fd : FuncData} (F : FunD K "_law_cells" "_law_cells" (defArgs (top 113)) (defBody (top 113)) (defScope (top 113)) [] [] f fd) (B : Bl mg) : FnOk Pr w K mg base (L2.CX Pr w) 1 f fd ["script", "most_so"] (spCells K) := by
  have nd := sL_cells.nd
  refine F.ok sL_cells (fun vs H Q E h => ?_) (fun cdv A outer s H vs Q E hr h => ?_)
  · obtain ⟨l, xs, rfl, _⟩ := h
    rfl
  · refine ⟨_, pss_cons (ps_set (i := 2) nd rfl (Or.inl rfl) (pe_orT (pe_callTy call_list_of rfl B.list (by decide +kernel) (pa_cons (pe_slice sl_list (pv 0) po_none (po_some (pv 1))) pa_nil)) (pe_one (pe_lst (pa_cons pe_int pa_nil)))))
      (pss_cons (ps_for (passes_of (X := XC Pr w K mg base _ _ (top 113) f cdv A outer s H E) rfl) rfl (pi_enum rfl B.enumerate (pa_cons (pe_slice sl_list (pv 0) (po_some (pv 1)) (po_some pe_int)) pa_nil)) (pg_tup (n := 2) rfl (pgs_cons (pg_name (i := 3) nd rfl (Or.inl rfl)) (pgs_cons (pg_name (i := 4) nd rfl (Or.inl rfl)) pgs_nil)))
        (pss_cons (ps_set (i := 5) nd rfl (Or.inl rfl) (pe_op op_modN (pe_callTy call_int1 rfl B.int (by decide +kernel) (pa_cons (pv 3) pa_nil)) (pv 1)))
        (pss_one (ps_asg (pe_op op_add (pe_ix ix_seq (pv 2) (pv 5) (fun _ _ => rfl)) (pe_op op_mul (pv 4) (pe_op op_add (pv 3) pe_int))) (pg_sub (pv 2) (pv 5) set_list)))))
      (pss_one (ps_ret (pv 2)))), ?_⟩
    obtain ⟨l, xs, rfl, hl, hi, hn, hQ⟩ := h
    refine ⟨_, rfl, _, rfl, 1, rfl, l, xs, rfl, hl, fun p0 hp0 => ?_⟩
    have s0 : Same H (upd H p0 (.lst (cutV xs none (some 1)))) := same_upd _ hp0
    refine ⟨p0, _, rfl, .inl (.of upd_same), fun p1 hp1 => ?_⟩
    have s1 := s0.trans (same_upd (.lst (cutV xs none (some 1))) hp1)
    rcases cut1 hi with ec | ⟨i, ec⟩
    · refine ⟨false, .inl ⟨_, .of upd_same, by rw [ec]; rfl⟩, ?_⟩
      show if _ then _ else _
      rw [if_neg (by decide)]
      refine ⟨by show 1 ≤ sizeLine; rw [sizeLine_eq]; decide, fun p2 hp2 => ?_⟩
      have hq := fresh_back s1 hp2
      have sm := s1.trans (same_upd (.lst [.int 0]) hp2)
      have h2 : upd (upd (upd H p0 (.lst (cutV xs none (some 1)))) p1 (.lst (cutV xs none (some 1)))) p2 (.lst [.int 0]) p2 = some (.lst [.int 0]) := upd_same
      revert sm h2
      generalize upd (upd (upd H p0 (.lst (cutV xs none (some 1)))) p1 (.lst (cutV xs none (some 1)))) p2 (.lst [.int 0]) = H2
      intro sm h2
      obtain ⟨z, h2⟩ : ∃ z : Int, H2 p2 = some (.lst [.int z]) := ⟨0, h2⟩
      generalize p2 = q at hq h2 ⊢
      have hl2 : SqL K H2 l xs := sqL_same hl sm
      refine ⟨_, rfl, _, rfl, 1, rfl, 63, rfl, l, xs, rfl, hl2, fun p3 hp3 => ⟨p3, _, rfl, .of upd_same, ?_⟩⟩
      have i2 := hi.cut (some 1) (some 63)
      have n2 := Nat.le_trans (cutV_length xs (some 1) (some 63)) hn
      revert i2 n2
      generalize cutV xs (some 1) (some 63) = ys
      intro i2 n2
      have q3 : q ≠ p3 := fun e => by rw [← e, h2] at hp3; cases hp3
      refine ⟨fun i m σ' H' => m = ys.length - i ∧ i ≤ ys.length ∧ σ'.length = 6 ∧ σ'[2]? = some (some (.ref q)) ∧ σ'[1]? = some (some (.int 1)) ∧ Same H H' ∧ H' p3 = some (.lst ys) ∧ ∃ z : Int, H' q = some (.lst [.int z]),
        ⟨ys.length, by omega, Nat.zero_le _, rfl, rfl, rfl, sm.trans (same_upd _ hp3), upd_same, z, by rw [upd_ne q3]; exact h2⟩, ?_⟩
      rintro i m σ' H' ⟨rfl, hi2, hlen, e2, e1, sm', hy, z', hz⟩
      by_cases hlt : i < ys.length
      · obtain ⟨c, hc⟩ := i2 ys[i] (List.getElem_mem hlt)
        have hget : ys[i]? = some (.int c) := by rw [List.getElem?_eq_getElem hlt, hc]
        refine .inr ⟨⟨ys, _, .of hy, hget⟩, fun σ' H' => i + 1 ≤ ys.length ∧ σ'.length = 6 ∧ σ'[2]? = some (some (.ref q)) ∧ σ'[1]? = some (some (.int 1)) ∧ Same H H' ∧ H' p3 = some (.lst ys) ∧ ∃ z : Int, H' q = some (.lst [.int z]), fun σ' H' hN => ⟨ys.length - (i + 1), by omega, rfl, hN⟩, ?_⟩
        rintro x H3 ⟨T, x1, rfl, hT, rfl, hx1⟩
        have ex := hx1 ys (.of hy)
        rw [hget] at ex
        cases ex
        have sT : Same H' (upd H' T (.tup [.int (i : Nat), .int c])) := same_upd _ hT
        match σ', hlen, e2, e1 with
        | [b0, b1, b2, b3, b4, b5], _, e2, e1 =>
          have e2' : b2 = some (.ref q) := by simpa using e2
          have e1' : b1 = some (.int 1) := by simpa using e1
          subst e2' e1'
          refine ⟨T, _, rfl, .of upd_same, rfl, _, _, rfl, _, _, rfl, rfl, ?_⟩
          refine run_set (ev_mod (by decide) (ev_int (ev_var (k := 3) rfl)) (ev_var (k := 1) rfl)) ?_
          have hz3 : upd H' T (.tup [.int (i : Nat), .int c]) q = some (.lst [.int z']) := sT _ _ hz
          have e0 : ((i : Nat) : Int) % 1 = ((0 : Nat) : Int) := Int.emod_one _
          rw [e0]
          have i63 : (i : Int) < 63 := by omega
          refine ⟨_, rfl, _, rfl, .inl ⟨q, _, _, _, rfl, rfl, .of hz3, atI_nat (j := 0) rfl, ?_⟩⟩
          refine ev_mul (σ := _) (i := c) (j := ((i : Nat) : Int) + 2) (.inr ⟨by omega, by omega⟩) (ev_var (k := 4) rfl) (ev_add (ev_var (k := 3) rfl) ev_c) _ ⟨_, _, rfl, rfl, ?_⟩
          refine ⟨_, rfl, _, rfl, q, _, _, 0, rfl, rfl, hz3, ixN_nat (k := 0) (by show 0 < 1; decide), ?_⟩
          have sq : Same H (upd (upd H' T (.tup [.int (i : Nat), .int c])) q (.lst [.int (z' + c * ((i : Nat) + 2))])) := fun b o eb => by
            rw [upd_ne fun e => by rw [e, hq] at eb; cases eb]
            exact sT _ _ (sm' _ _ eb)
          refine ⟨hlt, rfl, rfl, rfl, sq, ?_, _, upd_same⟩
          rw [upd_ne (Ne.symm q3)]
          exact sT _ _ hy
      · have e : i = ys.length := by omega
        refine .inl ⟨⟨ys, .of hy, by omega⟩, ?_⟩
        exact ⟨_, e2, hQ q z' H' hq sm' hz⟩
    · refine ⟨true, .inl ⟨_, .of upd_same, by rw [ec]; rfl⟩, ?_⟩
      show if _ then _ else _
      rw [if_pos rfl]
      have hq := fresh_back s0 hp1
      have sm := s1
      have h2 : upd (upd H p0 (.lst (cutV xs none (some 1)))) p1 (.lst (cutV xs none (some 1))) p1 = some (.lst [.int i]) := by rw [upd_same, ec]
      revert sm h2
      generalize upd (upd H p0 (.lst (cutV xs none (some 1)))) p1 (.lst (cutV xs none (some 1))) = H2
      intro sm h2
      obtain ⟨z, h2⟩ : ∃ z : Int, H2 p1 = some (.lst [.int z]) := ⟨i, h2⟩
      clear s1
      generalize p1 = q at hq h2 ⊢
      have hl2 : SqL K H2 l xs := sqL_same hl sm
      refine ⟨_, rfl, _, rfl, 1, rfl, 63, rfl, l, xs, rfl, hl2, fun p3 hp3 => ⟨p3, _, rfl, .of upd_same, ?_⟩⟩
      have i2 := hi.cut (some 1) (some 63)
      have n2 := Nat.le_trans (cutV_length xs (some 1) (some 63)) hn
      revert i2 n2
      generalize cutV xs (some 1) (some 63) = ys
      intro i2 n2
      have q3 : q ≠ p3 := fun e => by rw [← e, h2] at hp3; cases hp3
      refine ⟨fun i m σ' H' => m = ys.length - i ∧ i ≤ ys.length ∧ σ'.length = 6 ∧ σ'[2]? = some (some (.ref q)) ∧ σ'[1]? = some (some (.int 1)) ∧ Same H H' ∧ H' p3 = some (.lst ys) ∧ ∃ z : Int, H' q = some (.lst [.int z]),
        ⟨ys.length, by omega, Nat.zero_le _, rfl, rfl, rfl, sm.trans (same_upd _ hp3), upd_same, z, by rw [upd_ne q3]; exact h2⟩, ?_⟩
      rintro i m σ' H' ⟨rfl, hi2, hlen, e2, e1, sm', hy, z', hz⟩
      by_cases hlt : i < ys.length
      · obtain ⟨c, hc⟩ := i2 ys[i] (List.getElem_mem hlt)
        have hget : ys[i]? = some (.int c) := by rw [List.getElem?_eq_getElem hlt, hc]
        refine .inr ⟨⟨ys, _, .of hy, hget⟩, fun σ' H' => i + 1 ≤ ys.length ∧ σ'.length = 6 ∧ σ'[2]? = some (some (.ref q)) ∧ σ'[1]? = some (some (.int 1)) ∧ Same H H' ∧ H' p3 = some (.lst ys) ∧ ∃ z : Int, H' q = some (.lst [.int z]), fun σ' H' hN => ⟨ys.length - (i + 1), by omega, rfl, hN⟩, ?_⟩
        rintro x H3 ⟨T, x1, rfl, hT, rfl, hx1⟩
        have ex := hx1 ys (.of hy)
        rw [hget] at ex
        cases ex
        have sT : Same H' (upd H' T (.tup [.int (i : Nat), .int c])) := same_upd _ hT
        match σ', hlen, e2, e1 with
        | [b0, b1, b2, b3, b4, b5], _, e2, e1 =>
          have e2' : b2 = some (.ref q) := by simpa using e2
          have e1' : b1 = some (.int 1) := by simpa using e1
          subst e2' e1'
          refine ⟨T, _, rfl, .of upd_same, rfl, _, _, rfl, _, _, rfl, rfl, ?_⟩
          refine run_set (ev_mod (by decide) (ev_int (ev_var (k := 3) rfl)) (ev_var (k := 1) rfl)) ?_
          have hz3 : upd H' T (.tup [.int (i : Nat), .int c]) q = some (.lst [.int z']) := sT _ _ hz
          have e0 : ((i : Nat) : Int) % 1 = ((0 : Nat) : Int) := Int.emod_one _
          rw [e0]
          have i63 : (i : Int) < 63 := by omega
          refine ⟨_, rfl, _, rfl, .inl ⟨q, _, _, _, rfl, rfl, .of hz3, atI_nat (j := 0) rfl, ?_⟩⟩
          refine ev_mul (σ := _) (i := c) (j := ((i : Nat) : Int) + 2) (.inr ⟨by omega, by omega⟩) (ev_var (k := 4) rfl) (ev_add (ev_var (k := 3) rfl) ev_c) _ ⟨_, _, rfl, rfl, ?_⟩
          refine ⟨_, rfl, _, rfl, q, _, _, 0, rfl, rfl, hz3, ixN_nat (k := 0) (by show 0 < 1; decide), ?_⟩
          have sq : Same H (upd (upd H' T (.tup [.int (i : Nat), .int c])) q (.lst [.int (z' + c * ((i : Nat) + 2))])) := fun b o eb => by
            rw [upd_ne fun e => by rw [e, hq] at eb; cases eb]
            exact sT _ _ (sm' _ _ eb)
          refine ⟨hlt, rfl, rfl, rfl, sq, ?_, _, upd_same⟩
          rw [upd_ne (Ne.symm q3)]
          exact sT _ _ hy
      · have e : i = ys.length := by omega
        refine .inl ⟨⟨ys, .of hy, by omega⟩, ?_⟩
        exact ⟨_, e2, hQ q z' H' hq sm' hz⟩
end
end K4

namespace K4
open PySem PySem.Spec PyProof.Rows L2 Rf
def spPick (K : Frg) : Sp := fun vs H Q _ => ∃ (t g : Addr) (a b c : Int) (gs : List V), vs = [.ref t, .ref g, .int 3] ∧ H t = some (.lst [.int a, .int b, .int c]) ∧ 0 ≤ a ∧ 0 ≤ b ∧ b < 2 ^ 62 ∧ 0 ≤ c ∧ c < 900 ∧ H g = some (.lst gs) ∧ Ints gs ∧ gs.length = 3 ∧
  ∀ (p : Addr) (ys : List V) (H' : Hp), Ints ys → H' p = some (.lst ys) → Q (.ref p) H'
theorem Ints.erase {xs : List V} (h : Ints xs) (k : Nat) : Ints (xs.eraseIdx k) := fun x hx => h x (List.mem_of_mem_eraseIdx hx)
theorem Ints.snoc {xs : List V} (h : Ints xs) (i : Int) : Ints (xs ++ [.int i]) := fun x hx => by
  rcases List.mem_append.mp hx with hx | hx
  · exact h x hx
  · exact ⟨i, List.mem_singleton.mp hx⟩
theorem seqIx {r : Int} {n : Nat} (h0 : 0 ≤ r) (h1 : r < n) : seqIndex? r n = some r.toNat := by
  unfold seqIndex?
  have e : (if r < 0 then r + (n : Int) else r) = r := if_neg (by omega)
  rw [e]
  have e2 : (decide (0 ≤ r) && decide (r < (n : Int))) = true := by simp [h0, h1]
  simp only [e2, if_true]
section
variable {Pr : Program} {w : World} {K : Frg} {mg : Str → Option Value} {base : Heap} {xc : Nat → Addr}
theorem sL_pick : FnScope (["tin", "goods_so", "count_so", "pool_so", "found", "lap"] : List Str) (["tin", "goods_so", "count_so"] : List Str) (defScope (top 115)) := ⟨rfl, rfl, rfl, by decide +kernel, rfl, by decide +kernel, by decide +kernel⟩
theorem okL_pick {f fT : Addr} {fd fdT : FuncData} (F : FunD K "_law_pick" "_law_pick" (defArgs (top 115)) (defBody (top 115)) (defScope (top 115)) [] [] f fd) (FT : FunD K "_law_take" "_law_take" (defArgs (top 112)) (defBody (top 112)) (defScope (top 112)) [] [] fT fdT) (gT : mg "_law_take" = some (.ref fT)) (B : Bl mg) :
    FnOk Pr w K mg base (L2.CX Pr w) 2 f fd ["tin", "goods_so", "count_so"] (spPick K) := by
  have GT : FnOk Pr w K mg base (L2.CX Pr w) 1 fT fdT ["tin", "below_so"] spTake := okL_take FT B
  have bT : Binds K fdT ["tin", "below_so"] [] := FT.bindsN fun _ _ _ _ _ _ us hl => match us, hl with | [_, _], _ => rfl
  have nd := sL_pick.nd
  refine F.ok sL_pick (fun vs H Q E h => ?_) (fun cdv A outer s H vs Q E hr h => ?_)
  · obtain ⟨_, _, _, _, _, _, rfl, _⟩ := h
    rfl
  · refine ⟨_, pss_cons (ps_par (i := 3) (j := 4) rfl nd rfl rfl (by decide) rfl rfl (pa_cons (pe_callTy call_list_of rfl B.list (by decide +kernel) (pa_cons (pv 1) pa_nil)) (pa_cons (pe_lst pa_nil) pa_nil)) rfl)
      (pss_cons (ps_for (passes_of (X := XC Pr w K mg base _ _ (top 115) f cdv A outer s H E) rfl) rfl (pi_range1 rfl B.range (pa_cons (pe_callB (call_min2 rfl) rfl B.min (by decide +kernel) (pa_cons (pe_callTy call_int1 rfl B.int (by decide +kernel) (pa_cons (pv 2) pa_nil)) (pa_cons (pe_callB call_len rfl B.len (by decide +kernel) (pa_cons (pv 3) pa_nil)) pa_nil))) pa_nil)) (pg_name (i := 5) nd rfl (Or.inl rfl))
        (pss_one (ps_expr (pe_bm PySem.F.plainAttrs_list PySem.F.slot_list_append PySem.F.type_list_append mt_append (pv 4) (pa_cons (pe_bm PySem.F.plainAttrs_list PySem.F.slot_list_pop PySem.F.type_list_pop mt_popAt (pv 3)
          (pa_cons (pe_call (E := E0) GT hr rfl gT FT.kp bT .nil (passes_call takes0 fun _ _ _ _ z => z) (pa_cons (pv 0) (pa_cons (pe_callB call_len rfl B.len (by decide +kernel) (pa_cons (pv 3) pa_nil)) pa_nil))) pa_nil)) pa_nil)))))
      (pss_one (ps_ret (pv 4)))), ?_⟩
    obtain ⟨t, g, a, b, c, gs, rfl, hH, ha, hb, hb2, hc, hc2, hg, hgi, hgl, hQ⟩ := h
    refine ⟨_, rfl, g, gs, rfl, .inl (.of hg), fun p0 hp0 => ⟨by show 0 ≤ sizeLine; rw [sizeLine_eq]; decide, fun p1 hp1 => ⟨_, _, rfl, ?_⟩⟩⟩
    have tp0 : t ≠ p0 := fun e => by rw [← e, hH] at hp0; cases hp0
    have p01 : p0 ≠ p1 := fun e => by rw [← e, upd_same] at hp1; cases hp1
    have tp1 : t ≠ p1 := fun e => by rw [← e, upd_ne tp0, hH] at hp1; cases hp1
    have k0 : upd (upd H p0 (.lst gs)) p1 (.lst []) p0 = some (.lst gs) := by rw [upd_ne p01, upd_same]
    refine ⟨_, rfl, .inl ⟨3, rfl, ⟨_, rfl, V.ref p0, 3, rfl, .inl ⟨gs, .of k0, by rw [hgl]⟩, 3, ((3 : Nat) : Int), rfl, 3, rfl, by decide, by decide, ?_⟩⟩⟩
    refine ⟨fun i m σ' H' => m = 3 - i ∧ i ≤ 3 ∧ ∃ (b5 : Option V) (a' c' : Int) (ps fs : List V), σ' = [some (.ref t), some (.ref g), some (.int 3), some (.ref p0), some (.ref p1), b5] ∧ H' t = some (.lst [.int a', .int b, .int c']) ∧ 0 ≤ a' ∧ 0 ≤ c' ∧ c' ≤ c + i ∧ H' p0 = some (.lst ps) ∧ Ints ps ∧ ps.length = 3 - i ∧ H' p1 = some (.lst fs) ∧ Ints fs ∧ fs.length = i,
      ⟨3, rfl, by decide, _, a, c, gs, [], rfl, by rw [upd_ne tp1, upd_ne tp0]; exact hH, ha, hc, by omega, k0, hgi, hgl, upd_same, (fun x hx => by cases hx), rfl⟩, ?_⟩
    rintro i m σ' H' ⟨rfl, hi3, b5, a', c', ps, fs, rfl, kt, ha', hc', hcc, kp, hpi, hpl, kf, hfi, hfl⟩
    by_cases hlt : i < 3
    · refine .inr ⟨hlt, fun σ' H' => i + 1 ≤ 3 ∧ ∃ (b5 : Option V) (a' c' : Int) (ps fs : List V), σ' = [some (.ref t), some (.ref g), some (.int 3), some (.ref p0), some (.ref p1), b5] ∧ H' t = some (.lst [.int a', .int b, .int c']) ∧ 0 ≤ a' ∧ 0 ≤ c' ∧ c' ≤ c + ((i + 1 : Nat) : Int) ∧ H' p0 = some (.lst ps) ∧ Ints ps ∧ ps.length = 3 - (i + 1) ∧ H' p1 = some (.lst fs) ∧ Ints fs ∧ fs.length = i + 1,
        fun σ' H' hN => ⟨3 - (i + 1), by omega, rfl, hN⟩, ?_⟩
      rintro x H3 ⟨rfl, rfl⟩
      refine ⟨_, rfl, .inl ⟨rfl, _, .of kf⟩, _, rfl, .inl ⟨rfl, _, .of kp⟩, _, rfl, _, rfl, V.ref p0, ps.length, rfl, .inl ⟨ps, .of kp, rfl⟩, t, a', b, c', (ps.length : Int), rfl, kt, ha', hb, hb2, hc', by omega, by omega, by omega, ?_⟩
      intro r a2 c2 r0 r1 ha2 hc2 hc3
      have ht : upd H3 t (.lst [.int a2, .int b, .int c2]) p0 = some (.lst ps) := by rw [upd_ne (Ne.symm tp0)]; exact kp
      have hlt2 : r.toNat < ps.length := by omega
      obtain ⟨z, hz⟩ := hpi ps[r.toNat] (List.getElem_mem hlt2)
      refine ⟨p0, ps, r, r.toNat, .int z, rfl, rfl, ht, by omega, by omega, seqIx r0 r1, by rw [List.getElem?_eq_getElem hlt2, hz], ?_⟩
      have hf1 : upd (upd H3 t (.lst [.int a2, .int b, .int c2])) p0 (.lst (ps.eraseIdx r.toNat)) p1 = some (.lst fs) := by rw [upd_ne (Ne.symm p01), upd_ne (Ne.symm tp1)]; exact kf
      refine ⟨p1, fs, .int z, rfl, rfl, hf1, by rw [hfl, sizeLine_eq]; omega, ?_⟩
      refine ⟨by omega, _, a2, c2, ps.eraseIdx r.toNat, fs ++ [.int z], rfl, ?_, ha2, hc2, by omega, ?_, hpi.erase _, ?_, upd_same, hfi.snoc z, by rw [List.length_append, hfl]; rfl⟩
      · rw [upd_ne tp1, upd_ne tp0, upd_same]
      · rw [upd_ne p01, upd_same]
      · rw [List.length_eraseIdx_of_lt hlt2]; omega
    · have e : i = 3 := by omega
      subst e
      exact .inl ⟨Nat.le_refl _, _, rfl, hQ p1 fs H' hfi kf⟩
end
end K4

namespace K4
open PySem PySem.Spec PyProof.Rows L2 Rf
def isT : Res D → Bool
  | .ok (.bool true) => true
  | _ => false
theorem isT_ok {r : Res D} (h : isT r = true) : r = .ok (.bool true) := by
  unfold isT at h
  split at h
  · rfl
  · cases h
theorem pt_ifT {X : Cx} {c a b : Expr} {pos : Pos} {tc ta tb : TT} (hc : PT X c tc) (ha : PT X a ta) (hb : PT X b tb) : PT X (.IfExp c a b pos) (fun σ H Q => tc σ H fun k H1 => if k = true then ta σ H1 Q else tb σ H1 Q) := by
  refine ⟨fun pins s σ H Q I h => PyProof.Rows.isTrue_IfExp ?_⟩
  refine thn (hc.run pins s σ H _ I h) fun k s1 ⟨H1, I1, q1⟩ => ?_
  cases k with
  | true => exact ha.run pins s1 σ H1 Q I1 q1
  | false => exact hb.run pins s1 σ H1 Q I1 q1
def spLaw (K : Frg) : Sp := fun vs H Q _ => ∃ (a : Addr) (xs : List V), vs = [.ref a] ∧ SqL K H a xs ∧ Ints xs ∧ xs.length ≤ 63 ∧ ∀ H', Q (.bl true) H'
section
variable {Pr : Program} {w : World} {K : Frg} {mg : Str → Option Value} {base : Heap} {xc : Nat → Addr}
theorem call0_true {X : Cx} {x : Str} {k kX : Nat} {fm : List D → Res D} {pos p : Pos} (h : DefOk X.prog X.w X.K X.mg X.base xc x k [] fm) (e : isT (fm []) = true) (hr : Room kX X.A) (hk : k ≤ kX) (hg : Gl X x) (hdb : (x == ("__debug__" : Str)) = false := by decide) :
    PE X (.Call (.Name x p) [] [] pos) (fun _ H Q => ∀ H', Same H H' → Q (.bl true) H') := by
  obtain ⟨f, fd, F, hm, kp, b⟩ := h
  refine Rf.pe_imp (pe_call0 (E := E0) F (hr.mono hk) hg hm kp b .nil (passes_call takes0 fun _ _ _ _ z => z) hdb) fun σ H Q q => ?_
  refine ⟨fun _ => False, [], fun a z => z.elim, .nil, rfl, ?_⟩
  rw [isT_ok e]
  intro x H' s r
  cases r
  exact q H' s
theorem sL_law : FnScope (["script", "tin", "turn"] : List Str) (["script"] : List Str) (defScope (top 130)) := ⟨rfl, rfl, rfl, by decide +kernel, rfl, by decide +kernel, by decide +kernel⟩
theorem okL_law {k kd kt kf : Nat} {f fB fC fP fT : Addr} {fd fdB fdC fdP fdT : FuncData} (F : FunD K "law" "law" (defArgs (top 130)) (defBody (top 130)) (defScope (top 130)) [] [] f fd)
    (FB : FunD K "_law_box" "_law_box" (defArgs (top 114)) (defBody (top 114)) (defScope (top 114)) [] [] fB fdB) (gB : mg "_law_box" = some (.ref fB))
    (FC : FunD K "_law_cells" "_law_cells" (defArgs (top 113)) (defBody (top 113)) (defScope (top 113)) [] [] fC fdC) (gC : mg "_law_cells" = some (.ref fC))
    (FP : FunD K "_law_pick" "_law_pick" (defArgs (top 115)) (defBody (top 115)) (defScope (top 115)) [] [] fP fdP) (gP : mg "_law_pick" = some (.ref fP))
    (FT : FunD K "_law_take" "_law_take" (defArgs (top 112)) (defBody (top 112)) (defScope (top 112)) [] [] fT fdT) (gT : mg "_law_take" = some (.ref fT)) (B : Bl mg)
    (Dd : DefOk Pr w K mg base xc "_law_duos_right" kd [] f__law_duos_right) (ed : isT (f__law_duos_right []) = true) (hd : kd ≤ k)
    (Dt : DefOk Pr w K mg base xc "_law_trios_right" kt [] f__law_trios_right) (et : isT (f__law_trios_right []) = true) (ht : kt ≤ k)
    (Df : DefOk Pr w K mg base xc "_law_fars_right" kf [] f__law_fars_right) (ef : isT (f__law_fars_right []) = true) (hf : kf ≤ k) (h2 : 2 ≤ k) :
    FnOk Pr w K mg base CX0 (k + 1) f fd ["script"] (spLaw K) := by
  have GB : FnOk Pr w K mg base (L2.CX Pr w) 1 fB fdB ["script", "k"] spBox := okL_box FB B
  have bB : Binds K fdB ["script", "k"] [] := FB.bindsN fun _ _ _ _ _ _ us hl => match us, hl with | [_, _], _ => rfl
  have GC : FnOk Pr w K mg base (L2.CX Pr w) 1 fC fdC ["script", "most_so"] (spCells K) := okL_cells FC B
  have bC : Binds K fdC ["script", "most_so"] [] := FC.bindsN fun _ _ _ _ _ _ us hl => match us, hl with | [_, _], _ => rfl
  have GP : FnOk Pr w K mg base (L2.CX Pr w) 2 fP fdP ["tin", "goods_so", "count_so"] (spPick K) := okL_pick FP FT gT B
  have bP : Binds K fdP ["tin", "goods_so", "count_so"] [] := FP.bindsN fun _ _ _ _ _ _ us hl => match us, hl with | [_, _, _], _ => rfl
  have nd := sL_law.nd
  refine F.ok sL_law (fun vs H Q E h => ?_) (fun cdv A outer s H vs Q E hr h => ?_)
  · obtain ⟨_, _, rfl, _⟩ := h
    rfl
  · have hr1 := hr.mono (show 1 ≤ k by omega)
    have hr2 := hr.mono h2
    refine ⟨_, pss_cons (ps_set (i := 1) nd rfl (Or.inl rfl) (pe_call (E := E0) GB hr1 rfl gB FB.kp bB .nil (passes_call takes0 fun _ _ _ _ z => z) (pa_cons (pe_call (E := E0) GC hr1 rfl gC FC.kp bC .nil (passes_call takes0 fun _ _ _ _ z => z) (pa_cons (pv 0) (pa_cons pe_int pa_nil))) (pa_cons pe_int pa_nil))))
      (pss_cons (ps_for (passes_of (X := cxOf CX0 Pr w K mg base _ _ (defScope (top 130)) f cdv A outer s H E) rfl) rfl (pi_list (pe_call (E := E0) GP hr2 rfl gP FP.kp bP .nil (passes_call takes0 fun _ _ _ _ z => z) (pa_cons (pv 1) (pa_cons (pe_lst (pa_cons pe_int (pa_cons pe_int (pa_cons pe_int pa_nil)))) (pa_cons pe_int pa_nil))))) (pg_name (i := 2) nd rfl (Or.inl rfl))
        (pss_one (ps_if (pt_not (pt_ifT (pt_cmpR op_eq (pv 2) pe_int rfl) (pt_val (call0_true Dd ed hr hd rfl)) (pt_ifT (pt_cmpR op_eq (pv 2) pe_int rfl) (pt_val (call0_true Dt et hr ht rfl)) (pt_val (call0_true Df ef hr hf rfl))))) (pss_one (ps_ret pe_bl)) pss_nil)))
      (pss_one (ps_ret pe_bl))), ?_⟩
    obtain ⟨a, xs, rfl, hS, hI, hn, hQ⟩ := h
    refine ⟨_, rfl, a, xs, rfl, hS, hI, hn, fun p z H1 hp1 s1 e1 => ⟨p, z, rfl, e1, fun p2 a2 b2 hp2 ha hb hb2 => ?_⟩⟩
    refine ⟨_, rfl, by show 3 ≤ sizeLine; rw [sizeLine_eq]; decide, fun p3 hp3 => ⟨p2, p3, a2, b2, 0, [.int 0, .int 1, .int 2], rfl, ?_, ha, hb, hb2, by decide, by decide, upd_same, ?_, rfl, fun p4 ys H4 hy e4 => ⟨p4, rfl, ⟨ys, .of e4⟩, ?_⟩⟩⟩
    · rw [upd_ne fun e => by rw [← e, upd_same] at hp3; cases hp3]; exact upd_same
    · intro x hx
      rcases List.mem_cons.mp hx with rfl | hx
      · exact ⟨0, rfl⟩
      rcases List.mem_cons.mp hx with rfl | hx
      · exact ⟨1, rfl⟩
      rcases List.mem_cons.mp hx with rfl | hx
      · exact ⟨2, rfl⟩
      cases hx
    refine ⟨fun i m σ' H' => m = ys.length - i ∧ i ≤ ys.length ∧ σ'.length = 3 ∧ H' p4 = some (.lst ys), ⟨ys.length, by omega, Nat.zero_le _, rfl, e4⟩, ?_⟩
    rintro i m σ' H' ⟨rfl, hi2, hlen, e5⟩
    by_cases hlt : i < ys.length
    · refine .inr ⟨⟨ys, _, .of e5, List.getElem?_eq_getElem hlt⟩, fun σ' H' => i + 1 ≤ ys.length ∧ σ'.length = 3 ∧ H' p4 = some (.lst ys), fun σ' H' hN => ⟨ys.length - (i + 1), by omega, rfl, hN⟩, ?_⟩
      rintro x H3 ⟨rfl, hx⟩
      have ex := hx ys (.of e5)
      rw [List.getElem?_eq_getElem hlt] at ex
      obtain ⟨c, hc⟩ := hy ys[i] (List.getElem_mem hlt)
      rw [hc] at ex
      cases ex
      match σ', hlen with
      | [b0, b1, b2], _ =>
        have fin : ∀ H5, Same H3 H5 → i + 1 ≤ ys.length ∧ [b0, b1, some (V.int c)].length = 3 ∧ H5 p4 = some (.lst ys) := fun H5 s5 => ⟨hlt, rfl, s5 _ _ e5⟩
        refine ⟨_, rfl, rfl, _, rfl, ?_⟩
        show if _ then _ else _
        split
        · exact fun H5 s5 => ⟨true, rfl, fin H5 s5⟩
        · refine ⟨_, rfl, rfl, _, rfl, ?_⟩
          show if _ then _ else _
          split
          · exact fun H5 s5 => ⟨true, rfl, fin H5 s5⟩
          · exact fun H5 s5 => ⟨true, rfl, fin H5 s5⟩
    · have e : i = ys.length := by omega
      exact .inl ⟨⟨ys, .of e5, by omega⟩, hQ _⟩
end
end K4

namespace K4
open PySem PySem.Spec PyProof.Rows L2 Rf
/-! ### the head: what stands where -/
def d_tupled : He.DefD := ⟨("tupled", none), "tupled", "tupled", defArgs (top 5), defBody (top 5), defScope (top 5), [], []⟩
def d_is_number : He.DefD := ⟨("is_number", none), "is_number", "is_number", defArgs (top 6), defBody (top 6), defScope (top 6), [], []⟩
def d_is_count : He.DefD := ⟨("is_count", none), "is_count", "is_count", defArgs (top 7), defBody (top 7), defScope (top 7), [], []⟩
def d_is_below : He.DefD := ⟨("is_below", none), "is_below", "is_below", defArgs (top 8), defBody (top 8), defScope (top 8), [], []⟩
def d_is_tuple_of : He.DefD := ⟨("is_tuple_of", none), "is_tuple_of", "is_tuple_of", defArgs (top 9), defBody (top 9), defScope (top 9), [], []⟩
def d_are_numbers : He.DefD := ⟨("are_numbers", none), "are_numbers", "are_numbers", defArgs (top 10), defBody (top 10), defScope (top 10), [], []⟩
def d_set_of : He.DefD := ⟨("set_of", none), "set_of", "set_of", defArgs (top 11), defBody (top 11), defScope (top 11), [], []⟩
def d_pairs_below : He.DefD := ⟨("pairs_below", none), "pairs_below", "pairs_below", defArgs (top 12), defBody (top 12), defScope (top 12), [], []⟩
def d_sure_number : He.DefD := ⟨("sure_number", none), "sure_number", "sure_number", defArgs (top 13), defBody (top 13), defScope (top 13), [], []⟩
def d_shared : He.DefD := ⟨("shared", none), "shared", "shared", defArgs (top 18), defBody (top 18), defScope (top 18), [], []⟩
def d_made : He.DefD := ⟨("made", none), "made", "made", defArgs (top 19), defBody (top 19), defScope (top 19), [], []⟩
def d_is_fraction : He.DefD := ⟨("is_fraction", none), "is_fraction", "is_fraction", defArgs (top 20), defBody (top 20), defScope (top 20), [], []⟩
def d_add : He.DefD := ⟨("add", none), "add", "add", defArgs (top 21), defBody (top 21), defScope (top 21), [], []⟩
def d_take : He.DefD := ⟨("take", none), "take", "take", defArgs (top 22), defBody (top 22), defScope (top 22), [], []⟩
def d_multiply : He.DefD := ⟨("multiply", none), "multiply", "multiply", defArgs (top 23), defBody (top 23), defScope (top 23), [], []⟩
def d_divide : He.DefD := ⟨("divide", none), "divide", "divide", defArgs (top 24), defBody (top 24), defScope (top 24), [], []⟩
def d_opposite : He.DefD := ⟨("opposite", none), "opposite", "opposite", defArgs (top 25), defBody (top 25), defScope (top 25), [], []⟩
def d_no_more : He.DefD := ⟨("no_more", none), "no_more", "no_more", defArgs (top 26), defBody (top 26), defScope (top 26), [], []⟩
def d_total : He.DefD := ⟨("total", none), "total", "total", defArgs (top 27), defBody (top 27), defScope (top 27), [], []⟩
def d_both : He.DefD := ⟨("both", none), "both", "both", defArgs (top 28), defBody (top 28), defScope (top 28), [], []⟩
def d_whole_of : He.DefD := ⟨("whole_of", none), "whole_of", "whole_of", defArgs (top 29), defBody (top 29), defScope (top 29), [], []⟩
def d_is_told : He.DefD := ⟨("is_told", none), "is_told", "is_told", defArgs (top 31), defBody (top 31), defScope (top 31), [], []⟩
def d_is_told_part : He.DefD := ⟨("is_told_part", none), "is_told_part", "is_told_part", defArgs (top 32), defBody (top 32), defScope (top 32), [], []⟩
def d_is_table : He.DefD := ⟨("is_table", none), "is_table", "is_table", defArgs (top 33), defBody (top 33), defScope (top 33), [], []⟩
def d_sure_told : He.DefD := ⟨("sure_told", none), "sure_told", "sure_told", defArgs (top 34), defBody (top 34), defScope (top 34), [], []⟩
def d_sure_table : He.DefD := ⟨("sure_table", none), "sure_table", "sure_table", defArgs (top 35), defBody (top 35), defScope (top 35), [], []⟩
def d_sure_arrow : He.DefD := ⟨("sure_arrow", none), "sure_arrow", "sure_arrow", defArgs (top 36), defBody (top 36), defScope (top 36), [], []⟩
def d_sure_arrows : He.DefD := ⟨("sure_arrows", none), "sure_arrows", "sure_arrows", defArgs (top 37), defBody (top 37), defScope (top 37), [], []⟩
def d_part_at : He.DefD := ⟨("part_at", none), "part_at", "part_at", defArgs (top 38), defBody (top 38), defScope (top 38), [], []⟩
def d_times_numbers : He.DefD := ⟨("times_numbers", none), "times_numbers", "times_numbers", defArgs (top 39), defBody (top 39), defScope (top 39), [], []⟩
def d_less_head : He.DefD := ⟨("less_head", none), "less_head", "less_head", defArgs (top 40), defBody (top 40), defScope (top 40), [], []⟩
def d_reduced : He.DefD := ⟨("reduced", none), "reduced", "reduced", defArgs (top 41), defBody (top 41), defScope (top 41), [], []⟩
def d_determinant_in : He.DefD := ⟨("determinant_in", none), "determinant_in", "determinant_in", defArgs (top 42), defBody (top 42), defScope (top 42), [], []⟩
def d_determinant : He.DefD := ⟨("determinant", none), "determinant", "determinant", defArgs (top 43), defBody (top 43), defScope (top 43), [], []⟩
def d_less_row : He.DefD := ⟨("less_row", none), "less_row", "less_row", defArgs (top 46), defBody (top 46), defScope (top 46), [], []⟩
def d_gone_through : He.DefD := ⟨("gone_through", none), "gone_through", "gone_through", defArgs (top 47), defBody (top 47), defScope (top 47), [], []⟩
def d_numbers_of : He.DefD := ⟨("numbers_of", none), "numbers_of", "numbers_of", defArgs (top 48), defBody (top 48), defScope (top 48), [], []⟩
def d_never_below : He.DefD := ⟨("never_below", none), "never_below", "never_below", defArgs (top 49), defBody (top 49), defScope (top 49), [], []⟩
def d_is_never_below : He.DefD := ⟨("is_never_below", none), "is_never_below", "is_never_below", defArgs (top 50), defBody (top 50), defScope (top 50), [], []⟩
def d_sure_never_below : He.DefD := ⟨("sure_never_below", none), "sure_never_below", "sure_never_below", defArgs (top 52), defBody (top 52), defScope (top 52), [], []⟩
def d_rank_in : He.DefD := ⟨("rank_in", none), "rank_in", "rank_in", defArgs (top 53), defBody (top 53), defScope (top 53), [], []⟩
def d_rank_of : He.DefD := ⟨("rank_of", none), "rank_of", "rank_of", defArgs (top 54), defBody (top 54), defScope (top 54), [], []⟩
def d_ties_in : He.DefD := ⟨("ties_in", none), "ties_in", "ties_in", defArgs (top 55), defBody (top 55), defScope (top 55), [], []⟩
def d_ties_of : He.DefD := ⟨("ties_of", none), "ties_of", "ties_of", defArgs (top 56), defBody (top 56), defScope (top 56), [], []⟩
def d_solve : He.DefD := ⟨("solve", none), "solve", "solve", defArgs (top 57), defBody (top 57), defScope (top 57), [], []⟩
def d_web_in : He.DefD := ⟨("web_in", none), "web_in", "web_in", defArgs (top 59), defBody (top 59), defScope (top 59), [], []⟩
def d_tied_lots : He.DefD := ⟨("tied_lots", none), "tied_lots", "tied_lots", defArgs (top 60), defBody (top 60), defScope (top 60), [], []⟩
def d_is_full_in : He.DefD := ⟨("is_full_in", none), "is_full_in", "is_full_in", defArgs (top 61), defBody (top 61), defScope (top 61), [], []⟩
def d_leavers_in : He.DefD := ⟨("leavers_in", none), "leavers_in", "leavers_in", defArgs (top 62), defBody (top 62), defScope (top 62), [], []⟩
def d_order_in : He.DefD := ⟨("order_in", none), "order_in", "order_in", defArgs (top 63), defBody (top 63), defScope (top 63), [], []⟩
def d_sure_chorded : He.DefD := ⟨("sure_chorded", none), "sure_chorded", "sure_chorded", defArgs (top 64), defBody (top 64), defScope (top 64), [], []⟩
def d_come_back : He.DefD := ⟨("come_back", none), "come_back", "come_back", defArgs (top 66), defBody (top 66), defScope (top 66), [], []⟩
def d_filling_in : He.DefD := ⟨("filling_in", none), "filling_in", "filling_in", defArgs (top 67), defBody (top 67), defScope (top 67), [], []⟩
def d_filled : He.DefD := ⟨("filled", none), "filled", "filled", defArgs (top 68), defBody (top 68), defScope (top 68), [], []⟩
def d_asked_web : He.DefD := ⟨("asked_web", none), "asked_web", "asked_web", defArgs (top 70), defBody (top 70), defScope (top 70), [], []⟩
def d_is_asked_in : He.DefD := ⟨("is_asked_in", none), "is_asked_in", "is_asked_in", defArgs (top 71), defBody (top 71), defScope (top 71), [], []⟩
def d_sure_asked : He.DefD := ⟨("sure_asked", none), "sure_asked", "sure_asked", defArgs (top 72), defBody (top 72), defScope (top 72), [], []⟩
def d_between_lot : He.DefD := ⟨("between_lot", none), "between_lot", "between_lot", defArgs (top 73), defBody (top 73), defScope (top 73), [], []⟩
def d_left_of : He.DefD := ⟨("left_of", none), "left_of", "left_of", defArgs (top 74), defBody (top 74), defScope (top 74), [], []⟩
def d_stretch_in : He.DefD := ⟨("stretch_in", none), "stretch_in", "stretch_in", defArgs (top 75), defBody (top 75), defScope (top 75), [], []⟩
def d_stretch : He.DefD := ⟨("stretch", none), "stretch", "stretch", defArgs (top 76), defBody (top 76), defScope (top 76), [], []⟩
def d_sure_product : He.DefD := ⟨("sure_product", none), "sure_product", "sure_product", defArgs (top 77), defBody (top 77), defScope (top 77), [], []⟩
def d_is_far : He.DefD := ⟨("is_far", none), "is_far", "is_far", defArgs (top 80), defBody (top 80), defScope (top 80), [], []⟩
def d_sure_far : He.DefD := ⟨("sure_far", none), "sure_far", "sure_far", defArgs (top 81), defBody (top 81), defScope (top 81), [], []⟩
def d_half_of : He.DefD := ⟨("half_of", none), "half_of", "half_of", defArgs (top 82), defBody (top 82), defScope (top 82), [], []⟩
def d_products_at : He.DefD := ⟨("products_at", none), "products_at", "products_at", defArgs (top 83), defBody (top 83), defScope (top 83), [], []⟩
def d_points_stand : He.DefD := ⟨("points_stand", none), "points_stand", "points_stand", defArgs (top 84), defBody (top 84), defScope (top 84), [], []⟩
def d_far_rank : He.DefD := ⟨("far_rank", none), "far_rank", "far_rank", defArgs (top 85), defBody (top 85), defScope (top 85), [], []⟩
def d_volume_of_far : He.DefD := ⟨("volume_of_far", none), "volume_of_far", "volume_of_far", defArgs (top 86), defBody (top 86), defScope (top 86), [], []⟩
def d_freest_in : He.DefD := ⟨("freest_in", none), "freest_in", "freest_in", defArgs (top 88), defBody (top 88), defScope (top 88), [], []⟩
def d_has_freest : He.DefD := ⟨("has_freest", none), "has_freest", "has_freest", defArgs (top 89), defBody (top 89), defScope (top 89), [], []⟩
def d_freest : He.DefD := ⟨("freest", none), "freest", "freest", defArgs (top 90), defBody (top 90), defScope (top 90), [], []⟩
def d_greatest_determinant : He.DefD := ⟨("greatest_determinant", none), "greatest_determinant", "greatest_determinant", defArgs (top 91), defBody (top 91), defScope (top 91), [], []⟩
def d_make_in : He.DefD := ⟨("make_in", none), "make_in", "make_in", defArgs (top 93), defBody (top 93), defScope (top 93), [], []⟩
def d_stepped_row : He.DefD := ⟨("stepped_row", none), "stepped_row", "stepped_row", defArgs (top 94), defBody (top 94), defScope (top 94), [], []⟩
def d_picked_row : He.DefD := ⟨("picked_row", none), "picked_row", "picked_row", defArgs (top 95), defBody (top 95), defScope (top 95), [], []⟩
def d_made_plain : He.DefD := ⟨("made_plain", none), "made_plain", "made_plain", defArgs (top 96), defBody (top 96), defScope (top 96), [], []⟩
def d_shape_in : He.DefD := ⟨("shape_in", none), "shape_in", "shape_in", defArgs (top 97), defBody (top 97), defScope (top 97), [], []⟩
def d_shape_of : He.DefD := ⟨("shape_of", none), "shape_of", "shape_of", defArgs (top 98), defBody (top 98), defScope (top 98), [], []⟩
def d_all_lots : He.DefD := ⟨("all_lots", none), "all_lots", "all_lots", defArgs (top 100), defBody (top 100), defScope (top 100), [], []⟩
def d_lies_in : He.DefD := ⟨("lies_in", none), "lies_in", "lies_in", defArgs (top 101), defBody (top 101), defScope (top 101), [], []⟩
def d_greatest_in : He.DefD := ⟨("greatest_in", none), "greatest_in", "greatest_in", defArgs (top 102), defBody (top 102), defScope (top 102), [], []⟩
def d_lots_fine : He.DefD := ⟨("lots_fine", none), "lots_fine", "lots_fine", defArgs (top 104), defBody (top 104), defScope (top 104), [], []⟩
def d_stands : He.DefD := ⟨("stands", none), "stands", "stands", defArgs (top 105), defBody (top 105), defScope (top 105), [], []⟩
def d_without_arrow : He.DefD := ⟨("without_arrow", none), "without_arrow", "without_arrow", defArgs (top 106), defBody (top 106), defScope (top 106), [], []⟩
def d_own_by_lot : He.DefD := ⟨("own_by_lot", none), "own_by_lot", "own_by_lot", defArgs (top 107), defBody (top 107), defScope (top 107), [], []⟩
def d_own_in : He.DefD := ⟨("own_in", none), "own_in", "own_in", defArgs (top 108), defBody (top 108), defScope (top 108), [], []⟩
def d_own_needed : He.DefD := ⟨("own_needed", none), "own_needed", "own_needed", defArgs (top 109), defBody (top 109), defScope (top 109), [], []⟩
def d__law_same : He.DefD := ⟨("_law_same", none), "_law_same", "_law_same", defArgs (top 111), defBody (top 111), defScope (top 111), [], []⟩
def d__law_take : He.DefD := ⟨("_law_take", none), "_law_take", "_law_take", defArgs (top 112), defBody (top 112), defScope (top 112), [], []⟩
def d__law_cells : He.DefD := ⟨("_law_cells", none), "_law_cells", "_law_cells", defArgs (top 113), defBody (top 113), defScope (top 113), [], []⟩
def d__law_box : He.DefD := ⟨("_law_box", none), "_law_box", "_law_box", defArgs (top 114), defBody (top 114), defScope (top 114), [], []⟩
def d__law_pick : He.DefD := ⟨("_law_pick", none), "_law_pick", "_law_pick", defArgs (top 115), defBody (top 115), defScope (top 115), [], []⟩
def d__law_gcd : He.DefD := ⟨("_law_gcd", none), "_law_gcd", "_law_gcd", defArgs (top 116), defBody (top 116), defScope (top 116), [], []⟩
def d__law_fr : He.DefD := ⟨("_law_fr", none), "_law_fr", "_law_fr", defArgs (top 117), defBody (top 117), defScope (top 117), [], []⟩
def d__law_add : He.DefD := ⟨("_law_add", none), "_law_add", "_law_add", defArgs (top 118), defBody (top 118), defScope (top 118), [], []⟩
def d__law_neg : He.DefD := ⟨("_law_neg", none), "_law_neg", "_law_neg", defArgs (top 119), defBody (top 119), defScope (top 119), [], []⟩
def d__law_sub : He.DefD := ⟨("_law_sub", none), "_law_sub", "_law_sub", defArgs (top 120), defBody (top 120), defScope (top 120), [], []⟩
def d__law_mul : He.DefD := ⟨("_law_mul", none), "_law_mul", "_law_mul", defArgs (top 121), defBody (top 121), defScope (top 121), [], []⟩
def d__law_div : He.DefD := ⟨("_law_div", none), "_law_div", "_law_div", defArgs (top 122), defBody (top 122), defScope (top 122), [], []⟩
def d__law_less : He.DefD := ⟨("_law_less", none), "_law_less", "_law_less", defArgs (top 123), defBody (top 123), defScope (top 123), [], []⟩
def d__law_most : He.DefD := ⟨("_law_most", none), "_law_most", "_law_most", defArgs (top 124), defBody (top 124), defScope (top 124), [], []⟩
def d__law_heard : He.DefD := ⟨("_law_heard", none), "_law_heard", "_law_heard", defArgs (top 125), defBody (top 125), defScope (top 125), [], []⟩
def d__law_all_rows_of : He.DefD := ⟨("_law_all_rows_of", none), "_law_all_rows_of", "_law_all_rows_of", defArgs (top 126), defBody (top 126), defScope (top 126), [], []⟩
def d__law_duos_right : He.DefD := ⟨("_law_duos_right", none), "_law_duos_right", "_law_duos_right", defArgs (top 127), defBody (top 127), defScope (top 127), [], []⟩
def d__law_trios_right : He.DefD := ⟨("_law_trios_right", none), "_law_trios_right", "_law_trios_right", defArgs (top 128), defBody (top 128), defScope (top 128), [], []⟩
def d__law_fars_right : He.DefD := ⟨("_law_fars_right", none), "_law_fars_right", "_law_fars_right", defArgs (top 129), defBody (top 129), defScope (top 129), [], []⟩
def d_law : He.DefD := ⟨("law", none), "law", "law", defArgs (top 130), defBody (top 130), defScope (top 130), [], []⟩
def fn : List He.DefD := [d_tupled, d_is_number, d_is_count, d_is_below, d_is_tuple_of, d_are_numbers, d_set_of, d_pairs_below, d_sure_number, d_shared, d_made, d_is_fraction, d_add, d_take, d_multiply, d_divide, d_opposite, d_no_more, d_total, d_both, d_whole_of, d_is_told, d_is_told_part, d_is_table, d_sure_told, d_sure_table, d_sure_arrow, d_sure_arrows, d_part_at, d_times_numbers, d_less_head, d_reduced, d_determinant_in, d_determinant, d_less_row, d_gone_through, d_numbers_of, d_never_below, d_is_never_below, d_sure_never_below, d_rank_in, d_rank_of, d_ties_in, d_ties_of, d_solve, d_web_in, d_tied_lots, d_is_full_in, d_leavers_in, d_order_in, d_sure_chorded, d_come_back, d_filling_in, d_filled, d_asked_web, d_is_asked_in, d_sure_asked, d_between_lot, d_left_of, d_stretch_in, d_stretch, d_sure_product, d_is_far, d_sure_far, d_half_of, d_products_at, d_points_stand, d_far_rank, d_volume_of_far, d_freest_in, d_has_freest, d_freest, d_greatest_determinant, d_make_in, d_stepped_row, d_picked_row, d_made_plain, d_shape_in, d_shape_of, d_all_lots, d_lies_in, d_greatest_in, d_lots_fine, d_stands, d_without_arrow, d_own_by_lot, d_own_in, d_own_needed, d__law_same, d__law_take, d__law_cells, d__law_box, d__law_pick, d__law_gcd, d__law_fr, d__law_add, d__law_neg, d__law_sub, d__law_mul, d__law_div, d__law_less, d__law_most, d__law_heard, d__law_all_rows_of, d__law_duos_right, d__law_trios_right, d__law_fars_right, d_law]
def fa : List He.Fa := [.glo "tupled", .glo "is_number", .glo "is_count", .glo "is_below", .glo "is_tuple_of", .glo "are_numbers", .glo "set_of", .glo "pairs_below", .glo "sure_number", .glo "shared", .glo "made", .glo "is_fraction", .glo "add", .glo "take", .glo "multiply", .glo "divide", .glo "opposite", .glo "no_more", .glo "total", .glo "both", .glo "whole_of", .glo "is_told", .glo "is_told_part", .glo "is_table", .glo "sure_told", .glo "sure_table", .glo "sure_arrow", .glo "sure_arrows", .glo "part_at", .glo "times_numbers", .glo "less_head", .glo "reduced", .glo "determinant_in", .glo "determinant", .glo "less_row", .glo "gone_through", .glo "numbers_of", .glo "never_below", .glo "is_never_below", .glo "sure_never_below", .glo "rank_in", .glo "rank_of", .glo "ties_in", .glo "ties_of", .glo "solve", .glo "web_in", .glo "tied_lots", .glo "is_full_in", .glo "leavers_in", .glo "order_in", .glo "sure_chorded", .glo "come_back", .glo "filling_in", .glo "filled", .glo "asked_web", .glo "is_asked_in", .glo "sure_asked", .glo "between_lot", .glo "left_of", .glo "stretch_in", .glo "stretch", .glo "sure_product", .glo "is_far", .glo "sure_far", .glo "half_of", .glo "products_at", .glo "points_stand", .glo "far_rank", .glo "volume_of_far", .glo "freest_in", .glo "has_freest", .glo "freest", .glo "greatest_determinant", .glo "make_in", .glo "stepped_row", .glo "picked_row", .glo "made_plain", .glo "shape_in", .glo "shape_of", .glo "all_lots", .glo "lies_in", .glo "greatest_in", .glo "lots_fine", .glo "stands", .glo "without_arrow", .glo "own_by_lot", .glo "own_in", .glo "own_needed", .glo "_law_same", .glo "_law_take", .glo "_law_cells", .glo "_law_box", .glo "_law_pick", .glo "_law_gcd", .glo "_law_fr", .glo "_law_add", .glo "_law_neg", .glo "_law_sub", .glo "_law_mul", .glo "_law_div", .glo "_law_less", .glo "_law_most", .glo "_law_heard", .glo "_law_all_rows_of", .glo "_law_duos_right", .glo "_law_trios_right", .glo "_law_fars_right", .glo "law", .free "LookupError", .free "ValueError", .free "abs", .free "all", .free "any", .free "bool", .free "enumerate", .free "int", .free "isinstance", .free "len", .free "list", .free "max", .free "min", .free "range", .free "set", .free "sorted", .free "str", .free "tuple", .free "zip", .int "PAIR" 2, .exc "NoPaper", .exc "Unfit", .exm "NoPaper" "NoPaper" true, .exm "Unfit" "NoPaper" false, .glo "NoPaper", .glo "Unfit"]
def loose0 : List PySem.Str := ["NoArrow", "Unfit", "NoPaper", "tupled", "is_number", "is_count", "is_below", "is_tuple_of", "are_numbers", "set_of", "pairs_below", "sure_number", "NIL", "ONE", "PAIR"]
def loose1 : List PySem.Str := ["shared", "made", "is_fraction", "add", "take", "multiply", "divide", "opposite", "no_more", "total", "both", "whole_of", "is_told", "is_told_part", "is_table"]
def loose2 : List PySem.Str := ["sure_told", "sure_table", "sure_arrow", "sure_arrows", "part_at", "times_numbers", "less_head", "reduced", "determinant_in", "determinant", "HALF_axes", "less_row", "gone_through", "numbers_of", "never_below"]
def loose3 : List PySem.Str := ["is_never_below", "sure_never_below", "rank_in", "rank_of", "ties_in", "ties_of", "solve", "web_in", "tied_lots", "is_full_in", "leavers_in", "order_in", "sure_chorded", "come_back", "filling_in"]
def loose4 : List PySem.Str := ["filled", "asked_web", "is_asked_in", "sure_asked", "between_lot", "left_of", "stretch_in", "stretch", "sure_product", "HALF_distances", "is_far", "sure_far", "half_of", "products_at", "points_stand"]
def loose5 : List PySem.Str := ["far_rank", "volume_of_far", "freest_in", "has_freest", "freest", "greatest_determinant", "make_in", "stepped_row", "picked_row", "made_plain", "shape_in", "shape_of", "all_lots", "lies_in", "greatest_in"]
def loose6 : List PySem.Str := ["lots_fine", "stands", "without_arrow", "own_by_lot", "own_in", "own_needed", "_law_same", "_law_take", "_law_cells", "_law_box", "_law_pick", "_law_gcd", "_law_fr", "_law_add", "_law_neg"]
def loose7 : List PySem.Str := ["_law_sub", "_law_mul", "_law_div", "_law_less", "_law_most", "_law_heard", "_law_all_rows_of", "_law_duos_right", "_law_trios_right", "_law_fars_right"]
def loose : List PySem.Str := loose0 ++ loose1 ++ loose2 ++ loose3 ++ loose4 ++ loose5 ++ loose6 ++ loose7
abbrev R : PySem.W.OpenRow := PySem.W.OpenLaw.row PySem.Challenge.rw_chordsuntold_k04_main_whole_all_small_ta
def as0 : List Addr := [mainGlobals, 33, 32, 46, 45, 59, 58, 67, 66, 74, 73, 81, 80, 88, 87]
def as1 : List Addr := [95, 94, 100, 99, 107, 106, 112, 111, 119, 118, 120, 121, 128, 127, 135]
def as2 : List Addr := [134, 142, 141, 149, 148, 156, 155, 163, 162, 170, 169, 177, 176, 184, 183]
def as3 : List Addr := [191, 190, 196, 195, 201, 200, 206, 205, 213, 212, 218, 217, 225, 224, 232]
def as4 : List Addr := [231, 239, 238, 246, 245, 251, 250, 256, 255, 261, 260, 266, 265, 273, 272]
def as5 : List Addr := [280, 279, 281, 286, 285, 291, 290, 298, 297, 305, 304, 312, 311, 319, 318]
def as6 : List Addr := [326, 325, 333, 332, 338, 337, 345, 344, 350, 349, 355, 354, 360, 359, 365]
def as7 : List Addr := [364, 370, 369, 375, 374, 382, 381, 387, 386, 394, 393, 401, 400, 408, 407]
def as8 : List Addr := [415, 414, 422, 421, 427, 426, 432, 431, 437, 436, 444, 443, 451, 450, 452]
def as9 : List Addr := [457, 456, 464, 463, 471, 470, 476, 475, 483, 482, 490, 489, 497, 496, 504]
def as10 : List Addr := [503, 511, 510, 518, 517, 525, 524, 532, 531, 537, 536, 542, 541, 547, 546]
def as11 : List Addr := [552, 551, 559, 558, 564, 563, 569, 568, 574, 573, 579, 578, 586, 585, 591]
def as12 : List Addr := [590, 596, 595, 601, 600, 608, 607, 613, 612, 620, 619, 627, 626, 634, 633]
def as13 : List Addr := [641, 640, 648, 647, 655, 654, 662, 661, 669, 668, 676, 675, 683, 682, 690]
def as14 : List Addr := [689, 697, 696, 704, 703, 711, 710, 716, 715, 723, 722, 730, 729, 737, 736]
def as15 : List Addr := [744, 743]
def as : List Addr := as0 ++ as1 ++ as2 ++ as3 ++ as4 ++ as5 ++ as6 ++ as7 ++ as8 ++ as9 ++ as10 ++ as11 ++ as12 ++ as13 ++ as14 ++ as15
/-- pairs of ints that the module stores -/
def prB (K : PySem.W.Frag) (x : Str) (p q : Int) : Bool := match PySem.W.nsIn K mainGlobals x with
  | some (some (.ref a)) => (match K.lookup a with
    | some ⟨c, _, .seq its _, _⟩ => decide (c = .type "tuple") && relP its.toList p q
    | _ => false)
  | _ => false
where relP (l : List Value) (p q : Int) : Bool := match l with
  | [.int i _, .int j _] => decide (i = p) && decide (j = q)
  | _ => false
def prs (K : PySem.W.Frag) : Bool := prB K "NIL" 0 1 && (prB K "ONE" 1 1 && (prB K "HALF_axes" 1 2 && prB K "HALF_distances" 1 2))
theorem relP_ok {l : List Value} {p q : Int} (h : prB.relP l p q = true) : ∃ t u, l = [.int p t, .int q u] := by
  unfold prB.relP at h
  split at h
  · obtain ⟨h1, h2⟩ := Bool.and_eq_true_iff.mp h
    have e1 := of_decide_eq_true h1
    have e2 := of_decide_eq_true h2
    subst e1 e2
    exact ⟨_, _, rfl⟩
  · cases h
theorem pr_ok {K : PySem.W.Frag} {h : Heap} {mg : Str → Option Value} (X : K.In h) (G : h.Ns mainGlobals mg) {x : Str} {p q : Int} (c : prB K x p q = true) : Pr2 K mg x p q := by
  unfold prB at c
  split at c
  · rename_i a e
    refine ⟨a, PySem.W.mg_of X G e, ?_⟩
    split at c
    · rename_i c2 d its n sl e2
      obtain ⟨h1, h2⟩ := Bool.and_eq_true_iff.mp c
      obtain ⟨t, u, e3⟩ := relP_ok h2
      have hs : its.size ≤ sizeLine := by
        have z : its.toList.length = 2 := by rw [e3]; rfl
        rw [Array.length_toList] at z
        rw [z, sizeLine_eq]; decide
      exact ⟨_, its, n, e2, of_decide_eq_true h1, rfl, hs, by rw [e3]; exact .cons ⟨t, rfl⟩ (.cons ⟨u, rfl⟩ .nil)⟩
    · cases c
  · cases c
def obsX (as : List Addr) (fa : List He.Fa) (fn : List He.DefD) (g : Addr → Option Obj) : He.AlD × Bool := (He.obsD fa fn (He.frG g as), prs (He.frG g as))
def hookX (as : List Addr) (fa : List He.Fa) (fn : List He.DefD) : PySem.W.Hook where
  α := He.AlD × Bool
  obs := fun s => obsX as fa fn s.heap.get?
  val := fun _ => (He.valD fn, true)
  says := fun _ h => ∃ K : PySem.W.Frag, K.In h ∧ He.SaysD fa fn K ∧ prs K = true
  of := fun _ _ e => ⟨_, He.frG_in, congrArg Prod.fst e, congrArg Prod.snd e⟩
  keeps := fun _ _ _ ⟨K, hK, c⟩ k => ⟨K, PySem.W.Frag.In.keeps hK k, c⟩
abbrev hk : PySem.W.Hook := hookX as fa fn
def ob (s : PySem.W.SharedT) : He.AlD × Bool := obsX as fa fn (HandSHeadRun.getT s)
theorem ob_eq (s : PySem.W.SharedT) : ob s = hk.obs s.abs := by
  have e : (HandSHeadRun.getT s) = s.abs.heap.get? := funext (HandSHeadRun.getT_eq s)
  show obsX as fa fn _ = obsX as fa fn _
  rw [e]
def xcK (K : PySem.W.Frag) : Nat → Addr
  | 0 => He.ga K "NoPaper"
  | _ + 1 => He.ga K "Unfit"
theorem bl_of {K : PySem.W.Frag} {h : Heap} {mg : Str → Option Value} (X : K.In h) (G : h.Ns mainGlobals mg) (c : He.SaysD fa fn K) : Bl mg := by
  refine ⟨?_, ?_, ?_, ?_, ?_, ?_, ?_, ?_, ?_, ?_, ?_, ?_, ?_, ?_, ?_, ?_, ?_⟩
  · exact He.free_ok X G (c.fact 117 (f := .free "len") rfl)
  · exact He.free_ok X G (c.fact 110 (f := .free "abs") rfl)
  · exact He.free_ok X G (c.fact 115 (f := .free "int") rfl)
  · exact He.free_ok X G (c.fact 113 (f := .free "bool") rfl)
  · exact He.free_ok X G (c.fact 124 (f := .free "str") rfl)
  · exact He.free_ok X G (c.fact 118 (f := .free "list") rfl)
  · exact He.free_ok X G (c.fact 125 (f := .free "tuple") rfl)
  · exact He.free_ok X G (c.fact 122 (f := .free "set") rfl)
  · exact He.free_ok X G (c.fact 111 (f := .free "all") rfl)
  · exact He.free_ok X G (c.fact 112 (f := .free "any") rfl)
  · exact He.free_ok X G (c.fact 119 (f := .free "max") rfl)
  · exact He.free_ok X G (c.fact 120 (f := .free "min") rfl)
  · exact He.free_ok X G (c.fact 123 (f := .free "sorted") rfl)
  · exact He.free_ok X G (c.fact 121 (f := .free "range") rfl)
  · exact He.free_ok X G (c.fact 114 (f := .free "enumerate") rfl)
  · exact He.free_ok X G (c.fact 126 (f := .free "zip") rfl)
  · exact He.free_ok X G (c.fact 116 (f := .free "isinstance") rfl)
theorem exm_all {K : PySem.W.Frag} (h0 : PySem.W.exmOne K (.ref (He.ga K "NoPaper")) (.ref (He.ga K "NoPaper")) = some true) (h1 : PySem.W.exmOne K (.ref (He.ga K "Unfit")) (.ref (He.ga K "NoPaper")) = some false) :
    ∀ k, PySem.W.exmOne K (.ref (xcK K k)) (.ref (xcK K 0)) = some (Nat.beq k 0)
  | 0 => h0
  | k + 1 => h1
section
variable {Pr : Program} {w : World} {K : PySem.W.Frag} {mg : Str → Option Value} {base h : Heap}
theorem exo_of (X : K.In h) (G : h.Ns mainGlobals mg) {x : Str} (c1 : (He.Fa.exc x).ok K = true) (c2 : (He.Fa.glo x).ok K = true) : Exo K mg x (He.ga K x) := by
  obtain ⟨e1, e2, e3, e4⟩ := He.exc_ok c1
  exact ⟨⟨_, _, _, _, PySem.F.excBase_ValueError, e1⟩, He.glo_ok X G c2, e2, e3, e4⟩
theorem all_ok (X : K.In h) (G : h.Ns mainGlobals mg) (c : He.SaysD fa fn K) (pr : prs K = true) :
    DefOk Pr w K mg base (xcK K) "_law_duos_right" 12 [] f__law_duos_right ∧ DefOk Pr w K mg base (xcK K) "_law_trios_right" 14 [] f__law_trios_right ∧ DefOk Pr w K mg base (xcK K) "_law_fars_right" 10 [] f__law_fars_right := by
  obtain ⟨p1, pr⟩ := Bool.and_eq_true_iff.mp pr
  obtain ⟨p2, pr⟩ := Bool.and_eq_true_iff.mp pr
  obtain ⟨p3, p4⟩ := Bool.and_eq_true_iff.mp pr
  have h_NIL : Pr2 K mg "NIL" 0 1 := pr_ok X G p1
  have h_ONE : Pr2 K mg "ONE" 1 1 := pr_ok X G p2
  have h_HALF_axes : Pr2 K mg "HALF_axes" 1 2 := pr_ok X G p3
  have h_HALF_distances : Pr2 K mg "HALF_distances" 1 2 := pr_ok X G p4
  obtain ⟨t_PAIR, h_PAIR⟩ := He.int_ok X G (c.fact 127 (f := .int "PAIR" 2) rfl)
  have X_NoPaper : Exo K mg "NoPaper" (xcK K 0) := exo_of X G (c.fact 128 (f := .exc "NoPaper") rfl) (c.fact 132 (f := .glo "NoPaper") rfl)
  have X_Unfit : Exo K mg "Unfit" (xcK K 1) := exo_of X G (c.fact 129 (f := .exc "Unfit") rfl) (c.fact 133 (f := .glo "Unfit") rfl)
  have hx_NoPaper := exm_all (He.exm_ok (c.fact 130 (f := .exm "NoPaper" "NoPaper" true) rfl)) (He.exm_ok (c.fact 131 (f := .exm "Unfit" "NoPaper" false) rfl))
  have B : Bl mg := bl_of X G c
  have I_tupled : DefIs K mg "tupled" (top 5) := by
    obtain ⟨fd, F⟩ := c.def_ 0 (d := d_tupled) rfl
    exact ⟨_, fd, F, He.glo_ok X G (c.fact 0 (f := .glo "tupled") rfl)⟩
  have D_tupled := ok_tupled (Pr := Pr) (w := w) (base := base) (xc := xcK K) I_tupled B
  have I_is_number : DefIs K mg "is_number" (top 6) := by
    obtain ⟨fd, F⟩ := c.def_ 1 (d := d_is_number) rfl
    exact ⟨_, fd, F, He.glo_ok X G (c.fact 1 (f := .glo "is_number") rfl)⟩
  have D_is_number := ok_is_number (Pr := Pr) (w := w) (base := base) (xc := xcK K) I_is_number B
  have I_is_count : DefIs K mg "is_count" (top 7) := by
    obtain ⟨fd, F⟩ := c.def_ 2 (d := d_is_count) rfl
    exact ⟨_, fd, F, He.glo_ok X G (c.fact 2 (f := .glo "is_count") rfl)⟩
  have D_is_count := ok_is_count (Pr := Pr) (w := w) (base := base) (xc := xcK K) I_is_count B D_is_number
  have I_is_below : DefIs K mg "is_below" (top 8) := by
    obtain ⟨fd, F⟩ := c.def_ 3 (d := d_is_below) rfl
    exact ⟨_, fd, F, He.glo_ok X G (c.fact 3 (f := .glo "is_below") rfl)⟩
  have D_is_below := ok_is_below (Pr := Pr) (w := w) (base := base) (xc := xcK K) I_is_below B D_is_count
  have I_is_tuple_of : DefIs K mg "is_tuple_of" (top 9) := by
    obtain ⟨fd, F⟩ := c.def_ 4 (d := d_is_tuple_of) rfl
    exact ⟨_, fd, F, He.glo_ok X G (c.fact 4 (f := .glo "is_tuple_of") rfl)⟩
  have D_is_tuple_of := ok_is_tuple_of (Pr := Pr) (w := w) (base := base) (xc := xcK K) I_is_tuple_of B
  have I_are_numbers : DefIs K mg "are_numbers" (top 10) := by
    obtain ⟨fd, F⟩ := c.def_ 5 (d := d_are_numbers) rfl
    exact ⟨_, fd, F, He.glo_ok X G (c.fact 5 (f := .glo "are_numbers") rfl)⟩
  have D_are_numbers := ok_are_numbers (Pr := Pr) (w := w) (base := base) (xc := xcK K) I_are_numbers B D_is_tuple_of D_is_number
  have I_set_of : DefIs K mg "set_of" (top 11) := by
    obtain ⟨fd, F⟩ := c.def_ 6 (d := d_set_of) rfl
    exact ⟨_, fd, F, He.glo_ok X G (c.fact 6 (f := .glo "set_of") rfl)⟩
  have D_set_of := ok_set_of (Pr := Pr) (w := w) (base := base) (xc := xcK K) I_set_of B
  have I_pairs_below : DefIs K mg "pairs_below" (top 12) := by
    obtain ⟨fd, F⟩ := c.def_ 7 (d := d_pairs_below) rfl
    exact ⟨_, fd, F, He.glo_ok X G (c.fact 7 (f := .glo "pairs_below") rfl)⟩
  have D_pairs_below := ok_pairs_below (Pr := Pr) (w := w) (base := base) (xc := xcK K) I_pairs_below B
  have I_sure_number : DefIs K mg "sure_number" (top 13) := by
    obtain ⟨fd, F⟩ := c.def_ 8 (d := d_sure_number) rfl
    exact ⟨_, fd, F, He.glo_ok X G (c.fact 8 (f := .glo "sure_number") rfl)⟩
  have D_sure_number := ok_sure_number (Pr := Pr) (w := w) (base := base) (xc := xcK K) I_sure_number B X_Unfit D_is_number
  have I_shared : DefIs K mg "shared" (top 18) := by
    obtain ⟨fd, F⟩ := c.def_ 9 (d := d_shared) rfl
    exact ⟨_, fd, F, He.glo_ok X G (c.fact 9 (f := .glo "shared") rfl)⟩
  have D_shared := ok_shared (Pr := Pr) (w := w) (base := base) (xc := xcK K) I_shared B
  have I_made : DefIs K mg "made" (top 19) := by
    obtain ⟨fd, F⟩ := c.def_ 10 (d := d_made) rfl
    exact ⟨_, fd, F, He.glo_ok X G (c.fact 10 (f := .glo "made") rfl)⟩
  have D_made := ok_made (Pr := Pr) (w := w) (base := base) (xc := xcK K) I_made B D_shared
  have I_is_fraction : DefIs K mg "is_fraction" (top 20) := by
    obtain ⟨fd, F⟩ := c.def_ 11 (d := d_is_fraction) rfl
    exact ⟨_, fd, F, He.glo_ok X G (c.fact 11 (f := .glo "is_fraction") rfl)⟩
  have D_is_fraction := ok_is_fraction (Pr := Pr) (w := w) (base := base) (xc := xcK K) I_is_fraction B h_PAIR D_are_numbers D_shared
  have I_add : DefIs K mg "add" (top 21) := by
    obtain ⟨fd, F⟩ := c.def_ 12 (d := d_add) rfl
    exact ⟨_, fd, F, He.glo_ok X G (c.fact 12 (f := .glo "add") rfl)⟩
  have D_add := ok_add (Pr := Pr) (w := w) (base := base) (xc := xcK K) I_add B D_made
  have I_take : DefIs K mg "take" (top 22) := by
    obtain ⟨fd, F⟩ := c.def_ 13 (d := d_take) rfl
    exact ⟨_, fd, F, He.glo_ok X G (c.fact 13 (f := .glo "take") rfl)⟩
  have D_take := ok_take (Pr := Pr) (w := w) (base := base) (xc := xcK K) I_take B D_made
  have I_multiply : DefIs K mg "multiply" (top 23) := by
    obtain ⟨fd, F⟩ := c.def_ 14 (d := d_multiply) rfl
    exact ⟨_, fd, F, He.glo_ok X G (c.fact 14 (f := .glo "multiply") rfl)⟩
  have D_multiply := ok_multiply (Pr := Pr) (w := w) (base := base) (xc := xcK K) I_multiply B D_made
  have I_divide : DefIs K mg "divide" (top 24) := by
    obtain ⟨fd, F⟩ := c.def_ 15 (d := d_divide) rfl
    exact ⟨_, fd, F, He.glo_ok X G (c.fact 15 (f := .glo "divide") rfl)⟩
  have D_divide := ok_divide (Pr := Pr) (w := w) (base := base) (xc := xcK K) I_divide B D_made
  have I_opposite : DefIs K mg "opposite" (top 25) := by
    obtain ⟨fd, F⟩ := c.def_ 16 (d := d_opposite) rfl
    exact ⟨_, fd, F, He.glo_ok X G (c.fact 16 (f := .glo "opposite") rfl)⟩
  have D_opposite := ok_opposite (Pr := Pr) (w := w) (base := base) (xc := xcK K) I_opposite B
  have I_no_more : DefIs K mg "no_more" (top 26) := by
    obtain ⟨fd, F⟩ := c.def_ 17 (d := d_no_more) rfl
    exact ⟨_, fd, F, He.glo_ok X G (c.fact 17 (f := .glo "no_more") rfl)⟩
  have D_no_more := ok_no_more (Pr := Pr) (w := w) (base := base) (xc := xcK K) I_no_more B
  have I_total : DefIs K mg "total" (top 27) := by
    obtain ⟨fd, F⟩ := c.def_ 18 (d := d_total) rfl
    exact ⟨_, fd, F, He.glo_ok X G (c.fact 18 (f := .glo "total") rfl)⟩
  have D_total := ok_total (Pr := Pr) (w := w) (base := base) (xc := xcK K) I_total B h_NIL D_add
  have I_both : DefIs K mg "both" (top 28) := by
    obtain ⟨fd, F⟩ := c.def_ 19 (d := d_both) rfl
    exact ⟨_, fd, F, He.glo_ok X G (c.fact 19 (f := .glo "both") rfl)⟩
  have D_both := ok_both (Pr := Pr) (w := w) (base := base) (xc := xcK K) I_both B D_total D_multiply
  have I_whole_of : DefIs K mg "whole_of" (top 29) := by
    obtain ⟨fd, F⟩ := c.def_ 20 (d := d_whole_of) rfl
    exact ⟨_, fd, F, He.glo_ok X G (c.fact 20 (f := .glo "whole_of") rfl)⟩
  have D_whole_of := ok_whole_of (Pr := Pr) (w := w) (base := base) (xc := xcK K) I_whole_of B D_shared
  have I_is_told_part : DefIs K mg "is_told_part" (top 32) := by
    obtain ⟨fd, F⟩ := c.def_ 22 (d := d_is_told_part) rfl
    exact ⟨_, fd, F, He.glo_ok X G (c.fact 22 (f := .glo "is_told_part") rfl)⟩
  have D_is_told_part := ok_is_told_part (Pr := Pr) (w := w) (base := base) (xc := xcK K) I_is_told_part B D_is_fraction
  have I_is_told : DefIs K mg "is_told" (top 31) := by
    obtain ⟨fd, F⟩ := c.def_ 21 (d := d_is_told) rfl
    exact ⟨_, fd, F, He.glo_ok X G (c.fact 21 (f := .glo "is_told") rfl)⟩
  have D_is_told := ok_is_told (Pr := Pr) (w := w) (base := base) (xc := xcK K) I_is_told B D_is_tuple_of D_is_fraction D_pairs_below D_is_told_part
  have I_is_table : DefIs K mg "is_table" (top 33) := by
    obtain ⟨fd, F⟩ := c.def_ 23 (d := d_is_table) rfl
    exact ⟨_, fd, F, He.glo_ok X G (c.fact 23 (f := .glo "is_table") rfl)⟩
  have D_is_table := ok_is_table (Pr := Pr) (w := w) (base := base) (xc := xcK K) I_is_table B D_is_told
  have I_sure_told : DefIs K mg "sure_told" (top 34) := by
    obtain ⟨fd, F⟩ := c.def_ 24 (d := d_sure_told) rfl
    exact ⟨_, fd, F, He.glo_ok X G (c.fact 24 (f := .glo "sure_told") rfl)⟩
  have D_sure_told := ok_sure_told (Pr := Pr) (w := w) (base := base) (xc := xcK K) I_sure_told B X_Unfit D_tupled D_is_told
  have I_sure_table : DefIs K mg "sure_table" (top 35) := by
    obtain ⟨fd, F⟩ := c.def_ 25 (d := d_sure_table) rfl
    exact ⟨_, fd, F, He.glo_ok X G (c.fact 25 (f := .glo "sure_table") rfl)⟩
  have D_sure_table := ok_sure_table (Pr := Pr) (w := w) (base := base) (xc := xcK K) I_sure_table B X_Unfit D_tupled D_is_table
  have I_sure_arrow : DefIs K mg "sure_arrow" (top 36) := by
    obtain ⟨fd, F⟩ := c.def_ 26 (d := d_sure_arrow) rfl
    exact ⟨_, fd, F, He.glo_ok X G (c.fact 26 (f := .glo "sure_arrow") rfl)⟩
  have D_sure_arrow := ok_sure_arrow (Pr := Pr) (w := w) (base := base) (xc := xcK K) I_sure_arrow B D_sure_number D_is_below
  have I_sure_arrows : DefIs K mg "sure_arrows" (top 37) := by
    obtain ⟨fd, F⟩ := c.def_ 27 (d := d_sure_arrows) rfl
    exact ⟨_, fd, F, He.glo_ok X G (c.fact 27 (f := .glo "sure_arrows") rfl)⟩
  have D_sure_arrows := ok_sure_arrows (Pr := Pr) (w := w) (base := base) (xc := xcK K) I_sure_arrows B D_sure_number D_sure_arrow
  have I_part_at : DefIs K mg "part_at" (top 38) := by
    obtain ⟨fd, F⟩ := c.def_ 28 (d := d_part_at) rfl
    exact ⟨_, fd, F, He.glo_ok X G (c.fact 28 (f := .glo "part_at") rfl)⟩
  have D_part_at := ok_part_at (Pr := Pr) (w := w) (base := base) (xc := xcK K) I_part_at B
  have I_times_numbers : DefIs K mg "times_numbers" (top 39) := by
    obtain ⟨fd, F⟩ := c.def_ 29 (d := d_times_numbers) rfl
    exact ⟨_, fd, F, He.glo_ok X G (c.fact 29 (f := .glo "times_numbers") rfl)⟩
  have D_times_numbers := ok_times_numbers (Pr := Pr) (w := w) (base := base) (xc := xcK K) I_times_numbers B D_both
  have I_less_head : DefIs K mg "less_head" (top 40) := by
    obtain ⟨fd, F⟩ := c.def_ 30 (d := d_less_head) rfl
    exact ⟨_, fd, F, He.glo_ok X G (c.fact 30 (f := .glo "less_head") rfl)⟩
  have D_less_head := ok_less_head (Pr := Pr) (w := w) (base := base) (xc := xcK K) I_less_head B h_NIL D_take D_multiply
  have I_reduced : DefIs K mg "reduced" (top 41) := by
    obtain ⟨fd, F⟩ := c.def_ 31 (d := d_reduced) rfl
    exact ⟨_, fd, F, He.glo_ok X G (c.fact 31 (f := .glo "reduced") rfl)⟩
  have D_reduced := ok_reduced (Pr := Pr) (w := w) (base := base) (xc := xcK K) I_reduced B h_ONE h_NIL D_multiply D_opposite D_divide D_less_head
  have I_determinant_in : DefIs K mg "determinant_in" (top 42) := by
    obtain ⟨fd, F⟩ := c.def_ 32 (d := d_determinant_in) rfl
    exact ⟨_, fd, F, He.glo_ok X G (c.fact 32 (f := .glo "determinant_in") rfl)⟩
  have D_determinant_in := ok_determinant_in (Pr := Pr) (w := w) (base := base) (xc := xcK K) I_determinant_in B h_NIL D_reduced
  have I_determinant : DefIs K mg "determinant" (top 43) := by
    obtain ⟨fd, F⟩ := c.def_ 33 (d := d_determinant) rfl
    exact ⟨_, fd, F, He.glo_ok X G (c.fact 33 (f := .glo "determinant") rfl)⟩
  have D_determinant := ok_determinant (Pr := Pr) (w := w) (base := base) (xc := xcK K) I_determinant B D_determinant_in D_sure_table
  have I_less_row : DefIs K mg "less_row" (top 46) := by
    obtain ⟨fd, F⟩ := c.def_ 34 (d := d_less_row) rfl
    exact ⟨_, fd, F, He.glo_ok X G (c.fact 34 (f := .glo "less_row") rfl)⟩
  have D_less_row := ok_less_row (Pr := Pr) (w := w) (base := base) (xc := xcK K) I_less_row B D_take D_multiply
  have I_numbers_of : DefIs K mg "numbers_of" (top 48) := by
    obtain ⟨fd, F⟩ := c.def_ 36 (d := d_numbers_of) rfl
    exact ⟨_, fd, F, He.glo_ok X G (c.fact 36 (f := .glo "numbers_of") rfl)⟩
  have D_numbers_of := ok_numbers_of (Pr := Pr) (w := w) (base := base) (xc := xcK K) I_numbers_of B h_HALF_axes D_opposite D_divide D_multiply D_whole_of D_less_row
  have I_gone_through : DefIs K mg "gone_through" (top 47) := by
    obtain ⟨fd, F⟩ := c.def_ 35 (d := d_gone_through) rfl
    exact ⟨_, fd, F, He.glo_ok X G (c.fact 35 (f := .glo "gone_through") rfl)⟩
  have D_gone_through := ok_gone_through (Pr := Pr) (w := w) (base := base) (xc := xcK K) I_gone_through B h_ONE h_NIL D_whole_of D_numbers_of D_divide D_less_row
  have I_never_below : DefIs K mg "never_below" (top 49) := by
    obtain ⟨fd, F⟩ := c.def_ 37 (d := d_never_below) rfl
    exact ⟨_, fd, F, He.glo_ok X G (c.fact 37 (f := .glo "never_below") rfl)⟩
  have D_never_below := ok_never_below (Pr := Pr) (w := w) (base := base) (xc := xcK K) I_never_below B D_gone_through
  have I_is_never_below : DefIs K mg "is_never_below" (top 50) := by
    obtain ⟨fd, F⟩ := c.def_ 38 (d := d_is_never_below) rfl
    exact ⟨_, fd, F, He.glo_ok X G (c.fact 38 (f := .glo "is_never_below") rfl)⟩
  have D_is_never_below := ok_is_never_below (Pr := Pr) (w := w) (base := base) (xc := xcK K) I_is_never_below B D_never_below D_sure_table
  have I_sure_never_below : DefIs K mg "sure_never_below" (top 52) := by
    obtain ⟨fd, F⟩ := c.def_ 39 (d := d_sure_never_below) rfl
    exact ⟨_, fd, F, He.glo_ok X G (c.fact 39 (f := .glo "sure_never_below") rfl)⟩
  have D_sure_never_below := ok_sure_never_below (Pr := Pr) (w := w) (base := base) (xc := xcK K) I_sure_never_below B X_Unfit D_sure_table D_never_below
  have I_rank_in : DefIs K mg "rank_in" (top 53) := by
    obtain ⟨fd, F⟩ := c.def_ 40 (d := d_rank_in) rfl
    exact ⟨_, fd, F, He.glo_ok X G (c.fact 40 (f := .glo "rank_in") rfl)⟩
  have D_rank_in := ok_rank_in (Pr := Pr) (w := w) (base := base) (xc := xcK K) I_rank_in B D_reduced
  have I_rank_of : DefIs K mg "rank_of" (top 54) := by
    obtain ⟨fd, F⟩ := c.def_ 41 (d := d_rank_of) rfl
    exact ⟨_, fd, F, He.glo_ok X G (c.fact 41 (f := .glo "rank_of") rfl)⟩
  have D_rank_of := ok_rank_of (Pr := Pr) (w := w) (base := base) (xc := xcK K) I_rank_of B D_rank_in D_sure_table
  have I_ties_in : DefIs K mg "ties_in" (top 55) := by
    obtain ⟨fd, F⟩ := c.def_ 42 (d := d_ties_in) rfl
    exact ⟨_, fd, F, He.glo_ok X G (c.fact 42 (f := .glo "ties_in") rfl)⟩
  have D_ties_in := ok_ties_in (Pr := Pr) (w := w) (base := base) (xc := xcK K) I_ties_in B h_ONE h_NIL D_reduced D_opposite
  have I_ties_of : DefIs K mg "ties_of" (top 56) := by
    obtain ⟨fd, F⟩ := c.def_ 43 (d := d_ties_of) rfl
    exact ⟨_, fd, F, He.glo_ok X G (c.fact 43 (f := .glo "ties_of") rfl)⟩
  have D_ties_of := ok_ties_of (Pr := Pr) (w := w) (base := base) (xc := xcK K) I_ties_of B D_ties_in D_sure_never_below
  have I_solve : DefIs K mg "solve" (top 57) := by
    obtain ⟨fd, F⟩ := c.def_ 44 (d := d_solve) rfl
    exact ⟨_, fd, F, He.glo_ok X G (c.fact 44 (f := .glo "solve") rfl)⟩
  have D_solve := ok_solve (Pr := Pr) (w := w) (base := base) (xc := xcK K) I_solve B h_NIL D_reduced
  have I_web_in : DefIs K mg "web_in" (top 59) := by
    obtain ⟨fd, F⟩ := c.def_ 45 (d := d_web_in) rfl
    exact ⟨_, fd, F, He.glo_ok X G (c.fact 45 (f := .glo "web_in") rfl)⟩
  have D_web_in := ok_web_in (Pr := Pr) (w := w) (base := base) (xc := xcK K) I_web_in B D_pairs_below
  have I_tied_lots : DefIs K mg "tied_lots" (top 60) := by
    obtain ⟨fd, F⟩ := c.def_ 46 (d := d_tied_lots) rfl
    exact ⟨_, fd, F, He.glo_ok X G (c.fact 46 (f := .glo "tied_lots") rfl)⟩
  have D_tied_lots := ok_tied_lots (Pr := Pr) (w := w) (base := base) (xc := xcK K) I_tied_lots B
  have I_is_full_in : DefIs K mg "is_full_in" (top 61) := by
    obtain ⟨fd, F⟩ := c.def_ 47 (d := d_is_full_in) rfl
    exact ⟨_, fd, F, He.glo_ok X G (c.fact 47 (f := .glo "is_full_in") rfl)⟩
  have D_is_full_in := ok_is_full_in (Pr := Pr) (w := w) (base := base) (xc := xcK K) I_is_full_in B
  have I_leavers_in : DefIs K mg "leavers_in" (top 62) := by
    obtain ⟨fd, F⟩ := c.def_ 48 (d := d_leavers_in) rfl
    exact ⟨_, fd, F, He.glo_ok X G (c.fact 48 (f := .glo "leavers_in") rfl)⟩
  have D_leavers_in := ok_leavers_in (Pr := Pr) (w := w) (base := base) (xc := xcK K) I_leavers_in B D_is_full_in
  have I_order_in : DefIs K mg "order_in" (top 63) := by
    obtain ⟨fd, F⟩ := c.def_ 49 (d := d_order_in) rfl
    exact ⟨_, fd, F, He.glo_ok X G (c.fact 49 (f := .glo "order_in") rfl)⟩
  have D_order_in := ok_order_in (Pr := Pr) (w := w) (base := base) (xc := xcK K) I_order_in B D_tied_lots D_leavers_in
  have I_sure_chorded : DefIs K mg "sure_chorded" (top 64) := by
    obtain ⟨fd, F⟩ := c.def_ 50 (d := d_sure_chorded) rfl
    exact ⟨_, fd, F, He.glo_ok X G (c.fact 50 (f := .glo "sure_chorded") rfl)⟩
  have D_sure_chorded := ok_sure_chorded (Pr := Pr) (w := w) (base := base) (xc := xcK K) I_sure_chorded B X_Unfit D_sure_told D_order_in D_web_in
  have I_come_back : DefIs K mg "come_back" (top 66) := by
    obtain ⟨fd, F⟩ := c.def_ 51 (d := d_come_back) rfl
    exact ⟨_, fd, F, He.glo_ok X G (c.fact 51 (f := .glo "come_back") rfl)⟩
  have D_come_back := ok_come_back (Pr := Pr) (w := w) (base := base) (xc := xcK K) I_come_back B D_tied_lots D_web_in D_part_at D_never_below D_solve D_both
  have I_filling_in : DefIs K mg "filling_in" (top 67) := by
    obtain ⟨fd, F⟩ := c.def_ 52 (d := d_filling_in) rfl
    exact ⟨_, fd, F, He.glo_ok X G (c.fact 52 (f := .glo "filling_in") rfl)⟩
  have D_filling_in := ok_filling_in (Pr := Pr) (w := w) (base := base) (xc := xcK K) I_filling_in B D_come_back D_order_in D_web_in
  have I_filled : DefIs K mg "filled" (top 68) := by
    obtain ⟨fd, F⟩ := c.def_ 53 (d := d_filled) rfl
    exact ⟨_, fd, F, He.glo_ok X G (c.fact 53 (f := .glo "filled") rfl)⟩
  have D_filled := ok_filled (Pr := Pr) (w := w) (base := base) (xc := xcK K) I_filled B X_NoPaper D_filling_in D_sure_chorded
  have I_asked_web : DefIs K mg "asked_web" (top 70) := by
    obtain ⟨fd, F⟩ := c.def_ 54 (d := d_asked_web) rfl
    exact ⟨_, fd, F, He.glo_ok X G (c.fact 54 (f := .glo "asked_web") rfl)⟩
  have D_asked_web := ok_asked_web (Pr := Pr) (w := w) (base := base) (xc := xcK K) I_asked_web B D_web_in D_set_of
  have I_is_asked_in : DefIs K mg "is_asked_in" (top 71) := by
    obtain ⟨fd, F⟩ := c.def_ 55 (d := d_is_asked_in) rfl
    exact ⟨_, fd, F, He.glo_ok X G (c.fact 55 (f := .glo "is_asked_in") rfl)⟩
  have D_is_asked_in := ok_is_asked_in (Pr := Pr) (w := w) (base := base) (xc := xcK K) I_is_asked_in B D_order_in D_asked_web
  have I_sure_asked : DefIs K mg "sure_asked" (top 72) := by
    obtain ⟨fd, F⟩ := c.def_ 56 (d := d_sure_asked) rfl
    exact ⟨_, fd, F, He.glo_ok X G (c.fact 56 (f := .glo "sure_asked") rfl)⟩
  have D_sure_asked := ok_sure_asked (Pr := Pr) (w := w) (base := base) (xc := xcK K) I_sure_asked B X_Unfit D_sure_chorded D_sure_arrows D_is_asked_in
  have I_between_lot : DefIs K mg "between_lot" (top 73) := by
    obtain ⟨fd, F⟩ := c.def_ 57 (d := d_between_lot) rfl
    exact ⟨_, fd, F, He.glo_ok X G (c.fact 57 (f := .glo "between_lot") rfl)⟩
  have D_between_lot := ok_between_lot (Pr := Pr) (w := w) (base := base) (xc := xcK K) I_between_lot B D_tied_lots D_web_in
  have I_left_of : DefIs K mg "left_of" (top 74) := by
    obtain ⟨fd, F⟩ := c.def_ 58 (d := d_left_of) rfl
    exact ⟨_, fd, F, He.glo_ok X G (c.fact 58 (f := .glo "left_of") rfl)⟩
  have D_left_of := ok_left_of (Pr := Pr) (w := w) (base := base) (xc := xcK K) I_left_of B D_take D_both
  have I_stretch_in : DefIs K mg "stretch_in" (top 75) := by
    obtain ⟨fd, F⟩ := c.def_ 59 (d := d_stretch_in) rfl
    exact ⟨_, fd, F, He.glo_ok X G (c.fact 59 (f := .glo "stretch_in") rfl)⟩
  have D_stretch_in := ok_stretch_in (Pr := Pr) (w := w) (base := base) (xc := xcK K) I_stretch_in B h_NIL X_NoPaper D_filling_in D_between_lot D_multiply D_part_at D_solve D_both D_left_of
  have I_stretch : DefIs K mg "stretch" (top 76) := by
    obtain ⟨fd, F⟩ := c.def_ 60 (d := d_stretch) rfl
    exact ⟨_, fd, F, He.glo_ok X G (c.fact 60 (f := .glo "stretch") rfl)⟩
  have D_stretch := ok_stretch (Pr := Pr) (w := w) (base := base) (xc := xcK K) I_stretch B D_sure_asked D_stretch_in
  have I_sure_product : DefIs K mg "sure_product" (top 77) := by
    obtain ⟨fd, F⟩ := c.def_ 61 (d := d_sure_product) rfl
    exact ⟨_, fd, F, He.glo_ok X G (c.fact 61 (f := .glo "sure_product") rfl)⟩
  have D_sure_product := ok_sure_product (Pr := Pr) (w := w) (base := base) (xc := xcK K) I_sure_product B h_NIL D_stretch
  have I_is_far : DefIs K mg "is_far" (top 80) := by
    obtain ⟨fd, F⟩ := c.def_ 62 (d := d_is_far) rfl
    exact ⟨_, fd, F, He.glo_ok X G (c.fact 62 (f := .glo "is_far") rfl)⟩
  have D_is_far := ok_is_far (Pr := Pr) (w := w) (base := base) (xc := xcK K) I_is_far B h_NIL D_is_table
  have I_sure_far : DefIs K mg "sure_far" (top 81) := by
    obtain ⟨fd, F⟩ := c.def_ 63 (d := d_sure_far) rfl
    exact ⟨_, fd, F, He.glo_ok X G (c.fact 63 (f := .glo "sure_far") rfl)⟩
  have D_sure_far := ok_sure_far (Pr := Pr) (w := w) (base := base) (xc := xcK K) I_sure_far B X_Unfit D_sure_table D_is_far
  have I_half_of : DefIs K mg "half_of" (top 82) := by
    obtain ⟨fd, F⟩ := c.def_ 64 (d := d_half_of) rfl
    exact ⟨_, fd, F, He.glo_ok X G (c.fact 64 (f := .glo "half_of") rfl)⟩
  have D_half_of := ok_half_of (Pr := Pr) (w := w) (base := base) (xc := xcK K) I_half_of B h_HALF_distances D_multiply D_take D_add
  have I_products_at : DefIs K mg "products_at" (top 83) := by
    obtain ⟨fd, F⟩ := c.def_ 65 (d := d_products_at) rfl
    exact ⟨_, fd, F, He.glo_ok X G (c.fact 65 (f := .glo "products_at") rfl)⟩
  have D_products_at := ok_products_at (Pr := Pr) (w := w) (base := base) (xc := xcK K) I_products_at B D_half_of
  have I_points_stand : DefIs K mg "points_stand" (top 84) := by
    obtain ⟨fd, F⟩ := c.def_ 66 (d := d_points_stand) rfl
    exact ⟨_, fd, F, He.glo_ok X G (c.fact 66 (f := .glo "points_stand") rfl)⟩
  have D_points_stand := ok_points_stand (Pr := Pr) (w := w) (base := base) (xc := xcK K) I_points_stand B D_gone_through D_products_at D_sure_far
  have I_far_rank : DefIs K mg "far_rank" (top 85) := by
    obtain ⟨fd, F⟩ := c.def_ 67 (d := d_far_rank) rfl
    exact ⟨_, fd, F, He.glo_ok X G (c.fact 67 (f := .glo "far_rank") rfl)⟩
  have D_far_rank := ok_far_rank (Pr := Pr) (w := w) (base := base) (xc := xcK K) I_far_rank B D_rank_in D_products_at D_sure_far
  have I_volume_of_far : DefIs K mg "volume_of_far" (top 86) := by
    obtain ⟨fd, F⟩ := c.def_ 68 (d := d_volume_of_far) rfl
    exact ⟨_, fd, F, He.glo_ok X G (c.fact 68 (f := .glo "volume_of_far") rfl)⟩
  have D_volume_of_far := ok_volume_of_far (Pr := Pr) (w := w) (base := base) (xc := xcK K) I_volume_of_far B h_ONE D_sure_far D_determinant_in D_part_at D_products_at
  have I_freest_in : DefIs K mg "freest_in" (top 88) := by
    obtain ⟨fd, F⟩ := c.def_ 69 (d := d_freest_in) rfl
    exact ⟨_, fd, F, He.glo_ok X G (c.fact 69 (f := .glo "freest_in") rfl)⟩
  have D_freest_in := ok_freest_in (Pr := Pr) (w := w) (base := base) (xc := xcK K) I_freest_in B D_filling_in D_rank_in
  have I_has_freest : DefIs K mg "has_freest" (top 89) := by
    obtain ⟨fd, F⟩ := c.def_ 70 (d := d_has_freest) rfl
    exact ⟨_, fd, F, He.glo_ok X G (c.fact 70 (f := .glo "has_freest") rfl)⟩
  have D_has_freest := ok_has_freest (Pr := Pr) (w := w) (base := base) (xc := xcK K) I_has_freest B D_freest_in D_sure_chorded
  have I_freest : DefIs K mg "freest" (top 90) := by
    obtain ⟨fd, F⟩ := c.def_ 71 (d := d_freest) rfl
    exact ⟨_, fd, F, He.glo_ok X G (c.fact 71 (f := .glo "freest") rfl)⟩
  have D_freest := ok_freest (Pr := Pr) (w := w) (base := base) (xc := xcK K) I_freest B X_NoPaper D_freest_in D_sure_chorded
  have I_greatest_determinant : DefIs K mg "greatest_determinant" (top 91) := by
    obtain ⟨fd, F⟩ := c.def_ 72 (d := d_greatest_determinant) rfl
    exact ⟨_, fd, F, He.glo_ok X G (c.fact 72 (f := .glo "greatest_determinant") rfl)⟩
  have D_greatest_determinant := ok_greatest_determinant (Pr := Pr) (w := w) (base := base) (xc := xcK K) I_greatest_determinant B D_determinant_in D_freest
  have I_make_in : DefIs K mg "make_in" (top 93) := by
    obtain ⟨fd, F⟩ := c.def_ 73 (d := d_make_in) rfl
    exact ⟨_, fd, F, He.glo_ok X G (c.fact 73 (f := .glo "make_in") rfl)⟩
  have D_make_in := ok_make_in (Pr := Pr) (w := w) (base := base) (xc := xcK K) I_make_in B D_both D_times_numbers
  have I_stepped_row : DefIs K mg "stepped_row" (top 94) := by
    obtain ⟨fd, F⟩ := c.def_ 74 (d := d_stepped_row) rfl
    exact ⟨_, fd, F, He.glo_ok X G (c.fact 74 (f := .glo "stepped_row") rfl)⟩
  have D_stepped_row := ok_stepped_row (Pr := Pr) (w := w) (base := base) (xc := xcK K) I_stepped_row B D_take D_multiply
  have I_picked_row : DefIs K mg "picked_row" (top 95) := by
    obtain ⟨fd, F⟩ := c.def_ 75 (d := d_picked_row) rfl
    exact ⟨_, fd, F, He.glo_ok X G (c.fact 75 (f := .glo "picked_row") rfl)⟩
  have D_picked_row := ok_picked_row (Pr := Pr) (w := w) (base := base) (xc := xcK K) I_picked_row B h_NIL D_make_in D_add
  have I_made_plain : DefIs K mg "made_plain" (top 96) := by
    obtain ⟨fd, F⟩ := c.def_ 76 (d := d_made_plain) rfl
    exact ⟨_, fd, F, He.glo_ok X G (c.fact 76 (f := .glo "made_plain") rfl)⟩
  have D_made_plain := ok_made_plain (Pr := Pr) (w := w) (base := base) (xc := xcK K) I_made_plain B h_ONE h_NIL D_picked_row D_make_in D_stepped_row D_divide
  have I_shape_in : DefIs K mg "shape_in" (top 97) := by
    obtain ⟨fd, F⟩ := c.def_ 77 (d := d_shape_in) rfl
    exact ⟨_, fd, F, He.glo_ok X G (c.fact 77 (f := .glo "shape_in") rfl)⟩
  have D_shape_in := ok_shape_in (Pr := Pr) (w := w) (base := base) (xc := xcK K) I_shape_in B h_NIL D_made_plain
  have I_shape_of : DefIs K mg "shape_of" (top 98) := by
    obtain ⟨fd, F⟩ := c.def_ 78 (d := d_shape_of) rfl
    exact ⟨_, fd, F, He.glo_ok X G (c.fact 78 (f := .glo "shape_of") rfl)⟩
  have D_shape_of := ok_shape_of (Pr := Pr) (w := w) (base := base) (xc := xcK K) I_shape_of B D_shape_in D_sure_table
  have I_all_lots : DefIs K mg "all_lots" (top 100) := by
    obtain ⟨fd, F⟩ := c.def_ 79 (d := d_all_lots) rfl
    exact ⟨_, fd, F, He.glo_ok X G (c.fact 79 (f := .glo "all_lots") rfl)⟩
  have D_all_lots := ok_all_lots (Pr := Pr) (w := w) (base := base) (xc := xcK K) I_all_lots B
  have I_lies_in : DefIs K mg "lies_in" (top 101) := by
    obtain ⟨fd, F⟩ := c.def_ 80 (d := d_lies_in) rfl
    exact ⟨_, fd, F, He.glo_ok X G (c.fact 80 (f := .glo "lies_in") rfl)⟩
  have D_lies_in := ok_lies_in (Pr := Pr) (w := w) (base := base) (xc := xcK K) I_lies_in B
  have I_greatest_in : DefIs K mg "greatest_in" (top 102) := by
    obtain ⟨fd, F⟩ := c.def_ 81 (d := d_greatest_in) rfl
    exact ⟨_, fd, F, He.glo_ok X G (c.fact 81 (f := .glo "greatest_in") rfl)⟩
  have D_greatest_in := ok_greatest_in (Pr := Pr) (w := w) (base := base) (xc := xcK K) I_greatest_in B D_tied_lots D_all_lots D_is_full_in D_set_of D_lies_in
  have I_lots_fine : DefIs K mg "lots_fine" (top 104) := by
    obtain ⟨fd, F⟩ := c.def_ 82 (d := d_lots_fine) rfl
    exact ⟨_, fd, F, He.glo_ok X G (c.fact 82 (f := .glo "lots_fine") rfl)⟩
  have D_lots_fine := ok_lots_fine (Pr := Pr) (w := w) (base := base) (xc := xcK K) I_lots_fine B D_never_below D_part_at D_greatest_in D_web_in
  have I_stands : DefIs K mg "stands" (top 105) := by
    obtain ⟨fd, F⟩ := c.def_ 83 (d := d_stands) rfl
    exact ⟨_, fd, F, He.glo_ok X G (c.fact 83 (f := .glo "stands") rfl)⟩
  have D_stands := ok_stands (Pr := Pr) (w := w) (base := base) (xc := xcK K) I_stands B D_lots_fine D_sure_chorded
  have I_without_arrow : DefIs K mg "without_arrow" (top 106) := by
    obtain ⟨fd, F⟩ := c.def_ 84 (d := d_without_arrow) rfl
    exact ⟨_, fd, F, He.glo_ok X G (c.fact 84 (f := .glo "without_arrow") rfl)⟩
  have D_without_arrow := ok_without_arrow (Pr := Pr) (w := w) (base := base) (xc := xcK K) I_without_arrow B
  have I_own_by_lot : DefIs K mg "own_by_lot" (top 107) := by
    obtain ⟨fd, F⟩ := c.def_ 85 (d := d_own_by_lot) rfl
    exact ⟨_, fd, F, He.glo_ok X G (c.fact 85 (f := .glo "own_by_lot") rfl)⟩
  have D_own_by_lot := ok_own_by_lot (Pr := Pr) (w := w) (base := base) (xc := xcK K) I_own_by_lot B h_NIL D_solve D_part_at D_both
  have I_own_in : DefIs K mg "own_in" (top 108) := by
    obtain ⟨fd, F⟩ := c.def_ 86 (d := d_own_in) rfl
    exact ⟨_, fd, F, He.glo_ok X G (c.fact 86 (f := .glo "own_in") rfl)⟩
  have D_own_in := ok_own_in (Pr := Pr) (w := w) (base := base) (xc := xcK K) I_own_in B h_NIL D_without_arrow D_lots_fine D_part_at D_greatest_in D_web_in D_own_by_lot D_no_more
  have I_own_needed : DefIs K mg "own_needed" (top 109) := by
    obtain ⟨fd, F⟩ := c.def_ 87 (d := d_own_needed) rfl
    exact ⟨_, fd, F, He.glo_ok X G (c.fact 87 (f := .glo "own_needed") rfl)⟩
  have D_own_needed := ok_own_needed (Pr := Pr) (w := w) (base := base) (xc := xcK K) I_own_needed B X_NoPaper D_sure_chorded D_own_in D_sure_arrow
  have I__law_same : DefIs K mg "_law_same" (top 111) := by
    obtain ⟨fd, F⟩ := c.def_ 88 (d := d__law_same) rfl
    exact ⟨_, fd, F, He.glo_ok X G (c.fact 88 (f := .glo "_law_same") rfl)⟩
  have D__law_same := ok__law_same (Pr := Pr) (w := w) (base := base) (xc := xcK K) I__law_same B
  have I__law_gcd : DefIs K mg "_law_gcd" (top 116) := by
    obtain ⟨fd, F⟩ := c.def_ 93 (d := d__law_gcd) rfl
    exact ⟨_, fd, F, He.glo_ok X G (c.fact 93 (f := .glo "_law_gcd") rfl)⟩
  have D__law_gcd := ok__law_gcd (Pr := Pr) (w := w) (base := base) (xc := xcK K) I__law_gcd B
  have I__law_fr : DefIs K mg "_law_fr" (top 117) := by
    obtain ⟨fd, F⟩ := c.def_ 94 (d := d__law_fr) rfl
    exact ⟨_, fd, F, He.glo_ok X G (c.fact 94 (f := .glo "_law_fr") rfl)⟩
  have D__law_fr := ok__law_fr (Pr := Pr) (w := w) (base := base) (xc := xcK K) I__law_fr B D__law_gcd
  have I__law_add : DefIs K mg "_law_add" (top 118) := by
    obtain ⟨fd, F⟩ := c.def_ 95 (d := d__law_add) rfl
    exact ⟨_, fd, F, He.glo_ok X G (c.fact 95 (f := .glo "_law_add") rfl)⟩
  have D__law_add := ok__law_add (Pr := Pr) (w := w) (base := base) (xc := xcK K) I__law_add B D__law_fr
  have I__law_neg : DefIs K mg "_law_neg" (top 119) := by
    obtain ⟨fd, F⟩ := c.def_ 96 (d := d__law_neg) rfl
    exact ⟨_, fd, F, He.glo_ok X G (c.fact 96 (f := .glo "_law_neg") rfl)⟩
  have D__law_neg := ok__law_neg (Pr := Pr) (w := w) (base := base) (xc := xcK K) I__law_neg B
  have I__law_sub : DefIs K mg "_law_sub" (top 120) := by
    obtain ⟨fd, F⟩ := c.def_ 97 (d := d__law_sub) rfl
    exact ⟨_, fd, F, He.glo_ok X G (c.fact 97 (f := .glo "_law_sub") rfl)⟩
  have D__law_sub := ok__law_sub (Pr := Pr) (w := w) (base := base) (xc := xcK K) I__law_sub B D__law_add D__law_neg
  have I__law_mul : DefIs K mg "_law_mul" (top 121) := by
    obtain ⟨fd, F⟩ := c.def_ 98 (d := d__law_mul) rfl
    exact ⟨_, fd, F, He.glo_ok X G (c.fact 98 (f := .glo "_law_mul") rfl)⟩
  have D__law_mul := ok__law_mul (Pr := Pr) (w := w) (base := base) (xc := xcK K) I__law_mul B D__law_fr
  have I__law_div : DefIs K mg "_law_div" (top 122) := by
    obtain ⟨fd, F⟩ := c.def_ 99 (d := d__law_div) rfl
    exact ⟨_, fd, F, He.glo_ok X G (c.fact 99 (f := .glo "_law_div") rfl)⟩
  have D__law_div := ok__law_div (Pr := Pr) (w := w) (base := base) (xc := xcK K) I__law_div B D__law_fr
  have I__law_less : DefIs K mg "_law_less" (top 123) := by
    obtain ⟨fd, F⟩ := c.def_ 100 (d := d__law_less) rfl
    exact ⟨_, fd, F, He.glo_ok X G (c.fact 100 (f := .glo "_law_less") rfl)⟩
  have D__law_less := ok__law_less (Pr := Pr) (w := w) (base := base) (xc := xcK K) I__law_less B
  have I__law_most : DefIs K mg "_law_most" (top 124) := by
    obtain ⟨fd, F⟩ := c.def_ 101 (d := d__law_most) rfl
    exact ⟨_, fd, F, He.glo_ok X G (c.fact 101 (f := .glo "_law_most") rfl)⟩
  have D__law_most := ok__law_most (Pr := Pr) (w := w) (base := base) (xc := xcK K) I__law_most B D__law_less
  have I__law_heard : DefIs K mg "_law_heard" (top 125) := by
    obtain ⟨fd, F⟩ := c.def_ 102 (d := d__law_heard) rfl
    exact ⟨_, fd, F, He.glo_ok X G (c.fact 102 (f := .glo "_law_heard") rfl)⟩
  have D__law_heard := ok__law_heard (Pr := Pr) (w := w) (base := base) (xc := xcK K) I__law_heard B X_NoPaper hx_NoPaper D_filled D_greatest_determinant D_own_needed D_stretch D_sure_product
  have I__law_all_rows_of : DefIs K mg "_law_all_rows_of" (top 126) := by
    obtain ⟨fd, F⟩ := c.def_ 103 (d := d__law_all_rows_of) rfl
    exact ⟨_, fd, F, He.glo_ok X G (c.fact 103 (f := .glo "_law_all_rows_of") rfl)⟩
  have D__law_all_rows_of := ok__law_all_rows_of (Pr := Pr) (w := w) (base := base) (xc := xcK K) I__law_all_rows_of B
  have I__law_duos_right : DefIs K mg "_law_duos_right" (top 127) := by
    obtain ⟨fd, F⟩ := c.def_ 104 (d := d__law_duos_right) rfl
    exact ⟨_, fd, F, He.glo_ok X G (c.fact 104 (f := .glo "_law_duos_right") rfl)⟩
  have D__law_duos_right := ok__law_duos_right (Pr := Pr) (w := w) (base := base) (xc := xcK K) I__law_duos_right B D__law_all_rows_of D__law_fr D_determinant D_shape_of D_is_never_below D_rank_of D__law_same D_ties_of
  have I__law_trios_right : DefIs K mg "_law_trios_right" (top 128) := by
    obtain ⟨fd, F⟩ := c.def_ 105 (d := d__law_trios_right) rfl
    exact ⟨_, fd, F, He.glo_ok X G (c.fact 105 (f := .glo "_law_trios_right") rfl)⟩
  have D__law_trios_right := ok__law_trios_right (Pr := Pr) (w := w) (base := base) (xc := xcK K) I__law_trios_right B D__law_all_rows_of D__law_sub D__law_mul D__law_div D__law_most D_stands D__law_heard D_has_freest D__law_same
  have I__law_fars_right : DefIs K mg "_law_fars_right" (top 129) := by
    obtain ⟨fd, F⟩ := c.def_ 106 (d := d__law_fars_right) rfl
    exact ⟨_, fd, F, He.glo_ok X G (c.fact 106 (f := .glo "_law_fars_right") rfl)⟩
  have D__law_fars_right := ok__law_fars_right (Pr := Pr) (w := w) (base := base) (xc := xcK K) I__law_fars_right B D__law_all_rows_of D__law_same D_points_stand D_volume_of_far D_far_rank D__law_fr
  exact ⟨D__law_duos_right, D__law_trios_right, D__law_fars_right⟩
theorem facts (X : K.In h) (G : h.Ns mainGlobals mg) {f : Addr} (hfa : mg ("law" : Str) = some (.ref f)) (c : He.SaysD fa fn K) (pr : prs K = true) (ed : isT (f__law_duos_right []) = true) (et : isT (f__law_trios_right []) = true) (ef : isT (f__law_fars_right []) = true) :
    ∃ fd : FuncData, (∀ (s : Shared) (v : Value), BindsTo s fd ⟨[v], []⟩ [("script", v)]) ∧ ∀ base : Heap, K.In base → base.Ns mainGlobals mg → FnOk Pr w K mg base CX0 15 f fd ["script"] (spLaw K) := by
  obtain ⟨fdF, F⟩ := c.def_ 107 (d := d_law) rfl
  obtain ⟨fdFB, FB⟩ := c.def_ 91 (d := d__law_box) rfl
  obtain ⟨fdFC, FC⟩ := c.def_ 90 (d := d__law_cells) rfl
  obtain ⟨fdFP, FP⟩ := c.def_ 92 (d := d__law_pick) rfl
  obtain ⟨fdFT, FT⟩ := c.def_ 89 (d := d__law_take) rfl
  have e := hfa.symm.trans (He.glo_ok X G (c.fact 107 (f := .glo "law") rfl))
  cases e
  have b := FunD.bindsA (ps := ["script"]) F fun _ _ _ _ _ _ us hl => match us, hl with | [_], _ => rfl
  refine ⟨fdF, fun s v => b s [v] rfl, fun base _ _ => ?_⟩
  obtain ⟨D1, D2, D3⟩ := all_ok (Pr := Pr) (w := w) (base := base) X G c pr
  exact okL_law (k := 14) F FB (He.glo_ok X G (c.fact 91 (f := .glo "_law_box") rfl)) FC (He.glo_ok X G (c.fact 90 (f := .glo "_law_cells") rfl)) FP (He.glo_ok X G (c.fact 92 (f := .glo "_law_pick") rfl)) FT (He.glo_ok X G (c.fact 89 (f := .glo "_law_take") rfl)) (bl_of X G c) D1 ed (by decide) D2 et (by decide) D3 ef (by decide) (by decide)
end
end K4

namespace K4
open PySem PySem.Spec PyProof.Rows L2 Rf
theorem run (w : World) : HandSHeadRun.RunEq R (PySem.W.view R.prog [130]) hk ob 4000 loose w := by
  intro os
  kernel_rfl
theorem duos : isT (f__law_duos_right []) = true := by decide +kernel
theorem trios : isT (f__law_trios_right []) = true := by decide +kernel
theorem fars : isT (f__law_fars_right []) = true := by decide +kernel
end K4
open PySem PySem.W PySem.Calls PyProof.Rows
theorem PySem.Challenge.cw_chordsuntold_k04_main_whole_all_small_ta_holds : PySem.Challenge.rw_chordsuntold_k04_main_whole_all_small_ta.Holds := by
  w_on; o_law
  refine HandSHeadRun.head_any (r := OpenLaw.row PySem.Challenge.rw_chordsuntold_k04_main_whole_all_small_ta) (q := view (OpenLaw.row PySem.Challenge.rw_chordsuntold_k04_main_whole_all_small_ta).prog [130]) (H := K4.hk) (ob := K4.ob) (M := 4000) (loose := K4.loose) (d := HandSHeadRun.topDef (OpenLaw.row PySem.Challenge.rw_chordsuntold_k04_main_whole_all_small_ta).prog 130) (kwd := []) K4.ob_eq
    (by kernel_rfl) (fun s => by kernel_rfl) K4.run (by kernel_rfl) (by kernel_rfl) (by kernel_rfl) (by rfl) (by first | assumption | decide +kernel) (by decide +kernel) ⟨rfl, rfl, rfl, rfl, rfl, by decide +kernel⟩ ?hw ?hc
  case hw => w_witness2
  case hc =>
    refine L2.walk_ofE (l := PySem.Challenge.rw_chordsuntold_k04_main_whole_all_small_ta) (n := 63) (k := 15) (x := "script") (CX := L2.CX0) rfl (by decide) (by kernel_rfl) ⟨rfl, by decide, by decide⟩ ?F (fun _ _ _ _ z => z)
    intro w mg fa h Y G hmg0
    obtain ⟨K, KX, c, pr⟩ := Y
    have hmg : mg ("law" : PySem.Str) = some (.ref fa) := by
      have e : (HandSHeadRun.topDef (OpenLaw.row PySem.Challenge.rw_chordsuntold_k04_main_whole_all_small_ta).prog 130).name = ("law" : PySem.Str) := by kernel_rfl
      rw [← e]
      exact hmg0
    obtain ⟨fd, hb, hF⟩ := K4.facts (Pr := (PySem.Challenge.rw_chordsuntold_k04_main_whole_all_small_ta).prog) (w := w) KX G hmg c pr K4.duos K4.trios K4.fars
    exact ⟨K, fd, K4.spLaw K, KX, hb, fun H a ns hl _ hS => ⟨a, ns.map L2.V.int, rfl, hS, K4.Ints.map ns, by rw [List.length_map]; exact hl, fun _ => rfl⟩, hF⟩
