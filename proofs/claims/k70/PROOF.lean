import PyProof.Rows.All
import Wide.All
import OpenK.AllK
import Wide.FinOn
import HandS.ForMost
import HandS.Exc
import HandS.Defaults
import HandS.ExcOwn
import HandS.WordsExc
import HandS.TryOnly
import HandS.Walk
import HandS.IsInst
import HandS.TupAny
import HandS.More
import HandS.Conv
import HandS.SortInts
import HandS.SetFor
import HandS.MakeKwOnly
import HandS.Style
import HandS.Words
import HandS.Ends
import HandS.HeadEnd
import KE.KStateDown
import HandS.ForExc
import HandS.Head0
import HandS.Head1
import HandS.Head2
import HandS.HeadHook1
import HandS.HeadHook2
import PySem.Challenge.RW_firstandlast_k70_whole_runs
set_option Elab.async false
set_option linter.all false
set_option maxRecDepth 100000
set_option maxHeartbeats 0
/-! WL1: values without addresses (W), how they lie in the abstract heap (Rep), the store, growth. -/
namespace WL
open PySem PySem.Spec PyProof.Rows L2

/-- a value as the proof sees it: data of any depth; adr: an object of the store; own: a local list that one slot alone knows; scr: a list that is only read -/
inductive W where
  | non | bl (b : Bool) | int (i : Int) | str (x : Str) | tup (xs : List W) | lst (xs : List W) | adr (a : Addr) | own (xs : List W) | scr (xs : List W) | ty (n : String)
  deriving Inhabited

mutual
inductive Rep (K : PySem.W.Frag) (Φ : Hp) : W → V → Prop
  | non : Rep K Φ .non .non
  | bl (b : Bool) : Rep K Φ (.bl b) (.bl b)
  | int (i : Int) : Rep K Φ (.int i) (.int i)
  | str (x : Str) : Rep K Φ (.str x) (.str x)
  | tup {a : Addr} {xs : List V} {ws : List W} : SqT K Φ a xs → RepAll K Φ ws xs → Rep K Φ (.tup ws) (.ref a)
  | lst {a : Addr} {xs : List V} {ws : List W} : Φ a = some (.lst xs) → RepAll K Φ ws xs → Rep K Φ (.lst ws) (.ref a)
  | scr {a : Addr} {xs : List V} {ws : List W} : SqL K Φ a xs → RepAll K Φ ws xs → Rep K Φ (.scr ws) (.ref a)
  | adr (a : Addr) : Rep K Φ (.adr a) (.ref a)
  | ty (n : String) : Rep K Φ (.ty n) (.ty n)
inductive RepAll (K : PySem.W.Frag) (Φ : Hp) : List W → List V → Prop
  | nil : RepAll K Φ [] []
  | cons {w : W} {v : V} {ws : List W} {vs : List V} : Rep K Φ w v → RepAll K Φ ws vs → RepAll K Φ (w :: ws) (v :: vs)
end

/-- no list within: what it leans on never changes -/
def noLst : W → Bool
  | .non => true
  | .bl _ => true
  | .int _ => true
  | .str _ => true
  | .adr _ => true
  | .ty _ => true
  | .tup xs => noLstAll xs
  | .lst _ => false
  | .own _ => false
  | .scr _ => false
where noLstAll : List W → Bool
  | [] => true
  | x :: xs => noLst x && noLstAll xs

theorem Same.sqT {K : PySem.W.Frag} {H H' : Hp} {a : Addr} {xs : List V} (e : Same H H') (h : SqT K H a xs) : SqT K H' a xs := by
  rcases h with (h | ⟨o, h⟩) | h
  · exact .inl (.inl (e _ _ h))
  · exact .inl (.inr ⟨o, e _ _ h⟩)
  · exact .inr h

section
variable {K : PySem.W.Frag} {Φ Φ' : Hp}
mutual
theorem Rep.mono (e : Same Φ Φ') : ∀ {w : W} {v : V}, Rep K Φ w v → Rep K Φ' w v
  | _, _, .non => .non
  | _, _, .bl b => .bl b
  | _, _, .int i => .int i
  | _, _, .str x => .str x
  | _, _, .tup h r => .tup (Same.sqT e h) (RepAll.mono e r)
  | _, _, .lst h r => .lst (e _ _ h) (RepAll.mono e r)
  | _, _, .scr h r => .scr (Same.seq e h) (RepAll.mono e r)
  | _, _, .adr a => .adr a
  | _, _, .ty a => .ty a
theorem RepAll.mono (e : Same Φ Φ') : ∀ {ws : List W} {vs : List V}, RepAll K Φ ws vs → RepAll K Φ' ws vs
  | _, _, .nil => .nil
  | _, _, .cons h r => .cons (Rep.mono e h) (RepAll.mono e r)
end
mutual
theorem Rep.tups (e : ∀ a xs, SqT K Φ a xs → SqT K Φ' a xs) : ∀ {w : W} {v : V}, noLst w = true → Rep K Φ w v → Rep K Φ' w v
  | _, _, _, .non => .non
  | _, _, _, .bl b => .bl b
  | _, _, _, .int i => .int i
  | _, _, _, .str x => .str x
  | _, _, n, .tup h r => .tup (e _ _ h) (RepAll.tups e n r)
  | _, _, n, .lst h r => by simp [noLst] at n
  | _, _, n, .scr h r => by simp [noLst] at n
  | _, _, _, .adr a => .adr a
  | _, _, _, .ty a => .ty a
theorem RepAll.tups (e : ∀ a xs, SqT K Φ a xs → SqT K Φ' a xs) : ∀ {ws : List W} {vs : List V}, noLst.noLstAll ws = true → RepAll K Φ ws vs → RepAll K Φ' ws vs
  | _, _, _, .nil => .nil
  | _, _, n, .cons h r => by
    have n2 := Bool.and_eq_true_iff.mp n
    exact .cons (Rep.tups e n2.1 h) (RepAll.tups e n2.2 r)
end
theorem RepAll.length : ∀ {ws : List W} {vs : List V}, RepAll K Φ ws vs → ws.length = vs.length
  | _, _, .nil => rfl
  | _, _, .cons _ r => congrArg Nat.succ (RepAll.length r)
theorem RepAll.get : ∀ {ws : List W} {vs : List V} {i : Nat} {w : W}, RepAll K Φ ws vs → ws[i]? = some w → ∃ v, vs[i]? = some v ∧ Rep K Φ w v
  | _, _, _, _, .nil, e => by simp at e
  | _, _, 0, _, .cons h _, e => by simp at e; subst e; exact ⟨_, rfl, h⟩
  | _, _, i + 1, _, .cons _ r, e => by
    obtain ⟨v, e1, h⟩ := RepAll.get (i := i) r (by simpa using e)
    exact ⟨v, by simpa using e1, h⟩
theorem RepAll.getV : ∀ {ws : List W} {vs : List V} {i : Nat} {v : V}, RepAll K Φ ws vs → vs[i]? = some v → ∃ w, ws[i]? = some w ∧ Rep K Φ w v
  | _, _, _, _, .nil, e => by simp at e
  | _, _, 0, _, .cons h _, e => by simp at e; subst e; exact ⟨_, rfl, h⟩
  | _, _, i + 1, _, .cons _ r, e => by
    obtain ⟨v, e1, h⟩ := RepAll.getV (i := i) r (by simpa using e)
    exact ⟨v, by simpa using e1, h⟩
theorem RepAll.append : ∀ {ws ws' : List W} {vs vs' : List V}, RepAll K Φ ws vs → RepAll K Φ ws' vs' → RepAll K Φ (ws ++ ws') (vs ++ vs')
  | _, _, _, _, .nil, s => s
  | _, _, _, _, .cons h r, s => .cons h (RepAll.append r s)
theorem RepAll.take : ∀ {ws : List W} {vs : List V} (n : Nat), RepAll K Φ ws vs → RepAll K Φ (ws.take n) (vs.take n)
  | _, _, 0, _ => .nil
  | _, _, _ + 1, .nil => .nil
  | _, _, n + 1, .cons h r => .cons h (RepAll.take n r)
theorem RepAll.drop : ∀ {ws : List W} {vs : List V} (n : Nat), RepAll K Φ ws vs → RepAll K Φ (ws.drop n) (vs.drop n)
  | _, _, 0, r => r
  | _, _, _ + 1, .nil => .nil
  | _, _, n + 1, .cons _ r => RepAll.drop n r
theorem RepAll.set : ∀ {ws : List W} {vs : List V} {w : W} {v : V} (i : Nat), Rep K Φ w v → RepAll K Φ ws vs → RepAll K Φ (ws.set i w) (vs.set i v)
  | _, _, _, _, _, _, .nil => .nil
  | _, _, _, _, 0, h, .cons _ r => .cons h r
  | _, _, _, _, i + 1, h, .cons q r => .cons q (RepAll.set i h r)
theorem RepAll.eraseIdx : ∀ {ws : List W} {vs : List V} (i : Nat), RepAll K Φ ws vs → RepAll K Φ (ws.eraseIdx i) (vs.eraseIdx i)
  | _, _, _, .nil => .nil
  | _, _, 0, .cons _ r => r
  | _, _, i + 1, .cons h r => .cons h (RepAll.eraseIdx i r)
theorem RepAll.reverse {ws : List W} {vs : List V} (r : RepAll K Φ ws vs) : RepAll K Φ ws.reverse vs.reverse := by
  have go : ∀ {ws : List W} {vs : List V}, RepAll K Φ ws vs → RepAll K Φ ws.reverse vs.reverse := by
    intro ws
    induction ws with
    | nil => intro vs r; cases r; exact .nil
    | cons w ws ih =>
      intro vs r
      cases r with
      | cons h r =>
        rw [List.reverse_cons, List.reverse_cons]
        exact (ih r).append (.cons h .nil)
  exact go r
theorem RepAll.rep {ws : List W} {vs : List V} (r : RepAll K Φ ws vs) : ∀ k : Nat, RepAll K Φ (List.replicate k ws).flatten (List.replicate k vs).flatten
  | 0 => .nil
  | k + 1 => by
    rw [List.replicate_succ, List.replicate_succ, List.flatten_cons, List.flatten_cons]
    exact r.append (RepAll.rep r k)
end

/-! ### the store: objects that more than one may know -/
inductive GO where
  | gl (ws : List W)
  | gi (C dx : Addr) (fs : List (Str × W))
abbrev G := Addr → Option GO
def gup (g : G) (a : Addr) (o : GO) : G := fun b => if b = a then some o else g b
theorem gup_same {g : G} {a : Addr} {o : GO} : gup g a o a = some o := by unfold gup; rw [if_pos rfl]
theorem gup_ne {g : G} {a b : Addr} {o : GO} (h : b ≠ a) : gup g a o b = g b := by unfold gup; rw [if_neg h]

inductive FRep (K : PySem.W.Frag) (Φ : Hp) : List (Str × W) → List (Str × V) → Prop
  | nil : FRep K Φ [] []
  | cons {n : Str} {w : W} {v : V} {fs : List (Str × W)} {vs : List (Str × V)} : Rep K Φ w v → FRep K Φ fs vs → FRep K Φ ((n, w) :: fs) ((n, v) :: vs)
theorem FRep.mono {K : PySem.W.Frag} {Φ Φ' : Hp} (e : Same Φ Φ') : ∀ {fs : List (Str × W)} {vs : List (Str × V)}, FRep K Φ fs vs → FRep K Φ' fs vs
  | _, _, .nil => .nil
  | _, _, .cons h r => .cons (h.mono e) (FRep.mono e r)
theorem FRep.lookup {K : PySem.W.Frag} {Φ : Hp} : ∀ {fs : List (Str × W)} {vs : List (Str × V)} {n : Str} {w : W}, FRep K Φ fs vs → fs.lookup n = some w → ∃ v, vs.lookup n = some v ∧ Rep K Φ w v
  | _, _, _, _, .nil, e => by simp at e
  | _, _, n, w, .cons (n := m) (w := u) h r, e => by
    rw [List.lookup_cons] at e ⊢
    cases q : n == m with
    | true => rw [q] at e; cases e; exact ⟨_, rfl, h⟩
    | false => rw [q] at e; exact FRep.lookup r e
theorem FRep.lookup_none {K : PySem.W.Frag} {Φ : Hp} : ∀ {fs : List (Str × W)} {vs : List (Str × V)} {n : Str}, FRep K Φ fs vs → fs.lookup n = none → vs.lookup n = none
  | _, _, _, .nil, e => by simp
  | _, _, n, .cons (n := m) (w := u) h r, e => by
    rw [List.lookup_cons] at e ⊢
    cases q : n == m with
    | true => rw [q] at e; cases e
    | false => rw [q] at e; exact FRep.lookup_none r e
theorem FRep.length {K : PySem.W.Frag} {Φ : Hp} : ∀ {fs : List (Str × W)} {vs : List (Str × V)}, FRep K Φ fs vs → fs.length = vs.length
  | _, _, .nil => rfl
  | _, _, .cons _ r => congrArg Nat.succ (FRep.length r)
/-- no list within the fields -/
def fsNo : List (Str × W) → Bool
  | [] => true
  | p :: r => noLst p.2 && fsNo r
theorem FRep.tups {K : PySem.W.Frag} {Φ Φ' : Hp} (e : ∀ a xs, SqT K Φ a xs → SqT K Φ' a xs) : ∀ {fs : List (Str × W)} {vs : List (Str × V)}, fsNo fs = true → FRep K Φ fs vs → FRep K Φ' fs vs
  | _, _, _, .nil => .nil
  | _, _, n, .cons h r => by
    have n2 := Bool.and_eq_true_iff.mp n
    exact .cons (h.tups e n2.1) (FRep.tups e n2.2 r)
def putW (f : Str) (v : W) : List (Str × W) → List (Str × W)
  | [] => [(f, v)]
  | (g, x) :: r => if g = f then (g, v) :: r else (g, x) :: putW f v r
theorem FRep.put {K : PySem.W.Frag} {Φ : Hp} {f : Str} {w : W} {v : V} (h : Rep K Φ w v) : ∀ {fs : List (Str × W)} {vs : List (Str × V)}, FRep K Φ fs vs → FRep K Φ (putW f w fs) (putF f v vs)
  | _, _, .nil => .cons h .nil
  | _, _, .cons (n := m) q r => by
    unfold putW putF
    by_cases e : m = f
    · rw [if_pos e, if_pos e]; exact .cons h r
    · rw [if_neg e, if_neg e]; exact .cons q (FRep.put h r)

def GRep (K : PySem.W.Frag) (Φ H : Hp) (a : Addr) : GO → Prop
  | .gl ws => (∃ vs, H a = some (.lst vs) ∧ RepAll K Φ ws vs) ∧ noLst.noLstAll ws = true
  | .gi C dx fs => (∃ vfs, H a = some (.ins C dx vfs) ∧ FRep K Φ fs vfs) ∧ fsNo fs = true
theorem GRep.tracked {K : PySem.W.Frag} {Φ H : Hp} {a : Addr} {o : GO} (h : GRep K Φ H a o) : H a ≠ none := by
  cases o with
  | gl ws => obtain ⟨⟨vs, e, _⟩, _⟩ := h; rw [e]; simp
  | gi C dx fs => obtain ⟨⟨vs, e, _⟩, _⟩ := h; rw [e]; simp
theorem GRep.mono {K : PySem.W.Frag} {Φ Φ' H H' : Hp} {a : Addr} {o : GO} (h : GRep K Φ H a o) (e : Same Φ Φ') (k : H' a = H a) : GRep K Φ' H' a o := by
  cases o with
  | gl ws => obtain ⟨⟨vs, e1, r⟩, n⟩ := h; exact ⟨⟨vs, k.trans e1, r.mono e⟩, n⟩
  | gi C dx fs => obtain ⟨⟨vs, e1, r⟩, n⟩ := h; exact ⟨⟨vs, k.trans e1, r.mono e⟩, n⟩
theorem GRep.tups {K : PySem.W.Frag} {Φ Φ' H : Hp} {a : Addr} {o : GO} (h : GRep K Φ H a o) (e : ∀ a xs, SqT K Φ a xs → SqT K Φ' a xs) : GRep K Φ' H a o := by
  cases o with
  | gl ws => obtain ⟨⟨vs, e1, r⟩, n⟩ := h; exact ⟨⟨vs, e1, r.tups e n⟩, n⟩
  | gi C dx fs => obtain ⟨⟨vs, e1, r⟩, n⟩ := h; exact ⟨⟨vs, e1, r.tups e n⟩, n⟩

/-- Φ: what stands for ever; g: the store; H: the abstract heap -/
structure Sta (K : PySem.W.Frag) (Φ : Hp) (g : G) (H : Hp) : Prop where
  sub : Same Φ H
  sep : ∀ a, g a ≠ none → Φ a = none
  rep : ∀ a o, g a = some o → GRep K Φ H a o
theorem Sta.gH {K : PySem.W.Frag} {Φ H : Hp} {g : G} (s : Sta K Φ g H) {a : Addr} (h : H a = none) : g a = none := by
  cases e : g a with
  | none => rfl
  | some o => exact absurd h (s.rep a o e).tracked
theorem Sta.pH {K : PySem.W.Frag} {Φ H : Hp} {g : G} (s : Sta K Φ g H) {a : Addr} (h : H a = none) : Φ a = none := Same.free s.sub h

/-- from one state to a later one: what stood stands, but the store's own -/
structure Grow (K : PySem.W.Frag) (Φ : Hp) (g : G) (H : Hp) (Φ' : Hp) (g' : G) (H' : Hp) : Prop where
  st : Sta K Φ' g' H'
  phi : Same Φ Φ'
  keep : ∀ a o, H a = some o → g a = none → H' a = some o ∧ g' a = none
  gk : ∀ a, g a ≠ none → g' a ≠ none
  fresh : ∀ a, Φ' a ≠ none → Φ a ≠ none ∨ H a = none
section
variable {K : PySem.W.Frag} {Φ Φ' Φ'' H H' H'' : Hp} {g g' g'' : G}
theorem Grow.refl (s : Sta K Φ g H) : Grow K Φ g H Φ g H := ⟨s, Same.refl _, fun _ _ e n => ⟨e, n⟩, fun _ h => h, fun _ h => .inl h⟩
theorem Grow.none_of (x : Grow K Φ g H Φ' g' H') {a : Addr} (h : H' a = none) : H a = none := by
  cases e : H a with
  | none => rfl
  | some o =>
    cases q : g a with
    | none => rw [(x.keep a o e q).1] at h; cases h
    | some u =>
      have h2 := x.gk a (by rw [q]; simp)
      cases q2 : g' a with
      | none => exact absurd q2 h2
      | some u2 => exact absurd h (x.st.rep a u2 q2).tracked
theorem Grow.trans (x : Grow K Φ g H Φ' g' H') (y : Grow K Φ' g' H' Φ'' g'' H'') : Grow K Φ g H Φ'' g'' H'' := by
  refine ⟨y.st, x.phi.trans y.phi, fun a o e n => ?_, fun a h => y.gk a (x.gk a h), fun a h => ?_⟩
  · obtain ⟨e1, n1⟩ := x.keep a o e n
    exact y.keep a o e1 n1
  · rcases y.fresh a h with h1 | h1
    · exact x.fresh a h1
    · exact .inr (x.none_of h1)
/-- a new object that stands for ever -/
theorem Grow.laid {p : Addr} {o : HO} (s : Sta K Φ g H) (n : H p = none) : Grow K Φ g H (upd Φ p o) g (upd H p o) := by
  have ph : Same Φ (upd Φ p o) := fun b x e => by rw [upd_ne (ne_of_none e (s.pH n))]; exact e
  refine ⟨⟨fun b x e => ?_, fun a h => ?_, fun a u e => ?_⟩, ph, fun a x e n' => ⟨?_, n'⟩, fun _ h => h, fun a h => ?_⟩
  · by_cases hb : b = p
    · subst hb; rw [upd_same] at e ⊢; exact e
    · rw [upd_ne hb] at e ⊢; exact s.sub _ _ e
  · have hne : a ≠ p := fun e => h (by rw [e]; exact s.gH n)
    rw [upd_ne hne]; exact s.sep a h
  · have hne : a ≠ p := fun z => by rw [z, s.gH n] at e; cases e
    exact (s.rep a u e).mono ph (upd_ne hne)
  · rw [upd_ne (ne_of_none e n)]; exact e
  · by_cases hb : a = p
    · exact .inr (by rw [hb]; exact n)
    · rw [upd_ne hb] at h; exact .inl h
/-- a new object that does not stand for ever (a list of one's own) -/
theorem Grow.own {p : Addr} {o : HO} (s : Sta K Φ g H) (n : H p = none) : Grow K Φ g H Φ g (upd H p o) := by
  refine ⟨⟨fun b x e => ?_, s.sep, fun a u e => ?_⟩, Same.refl _, fun a x e n' => ⟨?_, n'⟩, fun _ h => h, fun a h => .inl h⟩
  · rw [upd_ne (ne_of_none (s.sub _ _ e) n)]; exact s.sub _ _ e
  · have hne : a ≠ p := fun z => by rw [z, s.gH n] at e; cases e
    exact (s.rep a u e).mono (Same.refl _) (upd_ne hne)
  · rw [upd_ne (ne_of_none e n)]; exact e
/-- a new object of the store -/
theorem Grow.store {p : Addr} {o : HO} {u : GO} (s : Sta K Φ g H) (n : H p = none) (r : GRep K Φ (upd H p o) p u) : Grow K Φ g H Φ (gup g p u) (upd H p o) := by
  refine ⟨⟨fun b x e => ?_, fun a h => ?_, fun a z e => ?_⟩, Same.refl _, fun a x e n' => ⟨?_, ?_⟩, fun a h => ?_, fun a h => .inl h⟩
  · rw [upd_ne (ne_of_none (s.sub _ _ e) n)]; exact s.sub _ _ e
  · by_cases hb : a = p
    · rw [hb]; exact s.pH n
    · rw [gup_ne hb] at h; exact s.sep a h
  · by_cases hb : a = p
    · subst hb; rw [gup_same] at e; cases e; exact r
    · rw [gup_ne hb] at e; exact (s.rep a z e).mono (Same.refl _) (upd_ne hb)
  · rw [upd_ne (ne_of_none e n)]; exact e
  · rw [gup_ne (ne_of_none e n)]; exact n'
  · by_cases hb : a = p
    · rw [hb, gup_same]; simp
    · rw [gup_ne hb]; exact h
/-- a store's object is written -/
theorem Grow.write {p : Addr} {o : HO} {u : GO} (s : Sta K Φ g H) (n : g p ≠ none) (r : GRep K Φ (upd H p o) p u) : Grow K Φ g H Φ (gup g p u) (upd H p o) := by
  have np : Φ p = none := s.sep p n
  refine ⟨⟨fun b x e => ?_, fun a h => ?_, fun a z e => ?_⟩, Same.refl _, fun a x e n' => ⟨?_, ?_⟩, fun a h => ?_, fun a h => .inl h⟩
  · rw [upd_ne (ne_of_none e np)]; exact s.sub _ _ e
  · by_cases hb : a = p
    · rw [hb]; exact np
    · rw [gup_ne hb] at h; exact s.sep a h
  · by_cases hb : a = p
    · subst hb; rw [gup_same] at e; cases e; exact r
    · rw [gup_ne hb] at e; exact (s.rep a z e).mono (Same.refl _) (upd_ne hb)
  · rw [upd_ne (fun z => n (by rw [← z]; exact n'))]; exact e
  · rw [gup_ne (fun z => n (by rw [← z]; exact n'))]; exact n'
  · by_cases hb : a = p
    · rw [hb, gup_same]; simp
    · rw [gup_ne hb]; exact h
end
end WL
/-! WL2: expressions over W: readings and rules. -/
namespace WL
open PySem PySem.Spec PyProof.Rows L2

abbrev Env := List (Option W)
abbrev KW := W → G → Prop
abbrev XW := Str → List (Str × W) → G → Prop
abbrev TEw := Env → G → KW → XW → Prop
abbrev TTw := Env → G → (Bool → G → Prop) → XW → Prop
abbrev TAw := Env → G → (List W → G → Prop) → XW → Prop
abbrev noX : XW := fun _ _ _ => False

/-- a slot's value as it is read -/
def W.view : W → W
  | .own ws => .lst ws
  | w => w
@[simp] theorem view_own (ws : List W) : W.view (.own ws) = .lst ws := rfl
@[simp] theorem view_non : W.view .non = .non := rfl
@[simp] theorem view_bl (b : Bool) : W.view (.bl b) = .bl b := rfl
@[simp] theorem view_int (b : Int) : W.view (.int b) = .int b := rfl
@[simp] theorem view_str (b : Str) : W.view (.str b) = .str b := rfl
@[simp] theorem view_tup (b : List W) : W.view (.tup b) = .tup b := rfl
@[simp] theorem view_lst (b : List W) : W.view (.lst b) = .lst b := rfl
@[simp] theorem view_scr (b : List W) : W.view (.scr b) = .scr b := rfl
@[simp] theorem view_ty (b : String) : W.view (.ty b) = .ty b := rfl
@[simp] theorem view_adr (b : Addr) : W.view (.adr b) = .adr b := rfl

def ER (K : PySem.W.Frag) (Φ : Hp) (ν : Env) (σ : L2.St) : Prop := (∀ (i : Nat) (w : W), ν[i]? = some (some w) → ∃ v, σ[i]? = some (some v) ∧ Rep K Φ w.view v) ∧ ν.length = σ.length
theorem ER.mono {K : PySem.W.Frag} {Φ Φ' : Hp} {ν : Env} {σ : L2.St} (h : ER K Φ ν σ) (e : Same Φ Φ') : ER K Φ' ν σ := ⟨fun i w q => by
  obtain ⟨v, e1, r⟩ := h.1 i w q
  exact ⟨v, e1, r.mono e⟩, h.2⟩

/-- what is wanted behind -/
def QK (K : PySem.W.Frag) (Φ : Hp) (g : G) (H : Hp) (KK : KW) (Q : VK) : Prop := ∀ w g' Φ' H' v, KK w g' → Grow K Φ g H Φ' g' H' → Rep K Φ' w v → Q v H'
def QT (K : PySem.W.Frag) (Φ : Hp) (g : G) (H : Hp) (KK : Bool → G → Prop) (Q : Bool → Hp → Prop) : Prop := ∀ b g' Φ' H', KK b g' → Grow K Φ g H Φ' g' H' → Q b H'
def QA (K : PySem.W.Frag) (Φ : Hp) (g : G) (H : Hp) (n : Nat) (KK : List W → G → Prop) (Q : List V → Hp → Prop) : Prop := ∀ ws g' Φ' H' vs, KK ws g' → ws.length = n → Grow K Φ g H Φ' g' H' → RepAll K Φ' ws vs → Q vs H'
/-- how an exception lies -/
def QX (K : PySem.W.Frag) (cl : Str → Addr) (Φ : Hp) (g : G) (H : Hp) (KE : XW) (E : XK) : Prop :=
  ∀ n fs g' Φ' H' d fvs, KE n fs g' → Grow K Φ g H Φ' g' H' → H' d = some (.xd fvs) → H d = none → FRep K Φ' fs fvs → E (.ref (cl n)) (some d) H'
section
variable {K : PySem.W.Frag} {cl : Str → Addr} {Φ Φ' H H' : Hp} {g g' : G}
theorem QK.grow {KK : KW} {Q : VK} (q : QK K Φ g H KK Q) (x : Grow K Φ g H Φ' g' H') : QK K Φ' g' H' KK Q := fun w g2 Φ2 H2 v k y r => q w g2 Φ2 H2 v k (x.trans y) r
theorem QT.grow {KK : Bool → G → Prop} {Q : Bool → Hp → Prop} (q : QT K Φ g H KK Q) (x : Grow K Φ g H Φ' g' H') : QT K Φ' g' H' KK Q := fun w g2 Φ2 H2 k y => q w g2 Φ2 H2 k (x.trans y)
theorem QX.grow {KE : XW} {E : XK} (q : QX K cl Φ g H KE E) (x : Grow K Φ g H Φ' g' H') : QX K cl Φ' g' H' KE E :=
  fun n fs g2 Φ2 H2 d fvs k y e1 e2 r => q n fs g2 Φ2 H2 d fvs k (x.trans y) e1 (x.none_of e2) r
theorem QX.no {E : XK} : QX K cl Φ g H noX E := fun _ _ _ _ _ _ _ k => k.elim
end

def liftE (K : PySem.W.Frag) (cl : Str → Addr) (Wx : WX) (t : TEw) : TE := fun σ H Q => ∃ Φ ν g KK KE, Sta K Φ g H ∧ ER K Φ ν σ ∧ t ν g KK KE ∧ QK K Φ g H KK Q ∧ QX K cl Φ g H KE (WE Wx σ)
def liftT (K : PySem.W.Frag) (cl : Str → Addr) (Wx : WX) (t : TTw) : TT := fun σ H Q => ∃ Φ ν g KK KE, Sta K Φ g H ∧ ER K Φ ν σ ∧ t ν g KK KE ∧ QT K Φ g H KK Q ∧ QX K cl Φ g H KE (WE Wx σ)
def liftA (K : PySem.W.Frag) (cl : Str → Addr) (Wx : WX) (n : Nat) (t : TAw) : TA := fun σ H Q => ∃ Φ ν g KK KE, Sta K Φ g H ∧ ER K Φ ν σ ∧ t ν g KK KE ∧ QA K Φ g H n KK Q ∧ QX K cl Φ g H KE (WE Wx σ)
/-- a new list: at p, known to none -/
def QL (K : PySem.W.Frag) (Φ : Hp) (g : G) (H : Hp) (KK : List W → G → Prop) (Q : VK) : Prop := ∀ ws g' Φ' H' p vs, KK ws g' → Grow K Φ g H Φ' g' H' → H p = none → Φ' p = none → g' p = none → H' p = some (.lst vs) → RepAll K Φ' ws vs → Q (.ref p) H'
def liftL (K : PySem.W.Frag) (cl : Str → Addr) (Wx : WX) (t : TAw) : TE := fun σ H Q => ∃ Φ ν g KK KE, Sta K Φ g H ∧ ER K Φ ν σ ∧ t ν g KK KE ∧ QL K Φ g H KK Q ∧ QX K cl Φ g H KE (WE Wx σ)
theorem QL.grow {K : PySem.W.Frag} {Φ Φ' H H' : Hp} {g g' : G} {KK : List W → G → Prop} {Q : VK} (q : QL K Φ g H KK Q) (x : Grow K Φ g H Φ' g' H') : QL K Φ' g' H' KK Q :=
  fun ws g2 Φ2 H2 p vs k y n1 n2 n3 e r => q ws g2 Φ2 H2 p vs k (x.trans y) (x.none_of n1) n2 n3 e r

abbrev WEx (X : Cx) (cl : Str → Addr) (Wx : WX) (e : Expr) (t : TEw) : Prop := PE X e (liftE X.K cl Wx t)
abbrev WLx (X : Cx) (cl : Str → Addr) (Wx : WX) (e : Expr) (t : TAw) : Prop := PE X e (liftL X.K cl Wx t)
abbrev WTx (X : Cx) (cl : Str → Addr) (Wx : WX) (e : Expr) (t : TTw) : Prop := PT X e (liftT X.K cl Wx t)
abbrev WWx (X : Cx) (cl : Str → Addr) (Wx : WX) (e : Expr) (t : TTw) : Prop := PW X e (liftT X.K cl Wx t)
abbrev WAx (X : Cx) (cl : Str → Addr) (Wx : WX) (n : Nat) (es : List Expr) (t : TAw) : Prop := PA X es (liftA X.K cl Wx n t)

theorem pe_imp {X : Cx} {e : Expr} {t t' : TE} (h : PE X e t) (i : ∀ σ H Q, t' σ H Q → t σ H Q) : PE X e t' := ⟨fun pins s σ H Q I q => h.run pins s σ H Q I (i σ H Q q)⟩
theorem pt_imp {X : Cx} {e : Expr} {t t' : TT} (h : PT X e t) (i : ∀ σ H Q, t' σ H Q → t σ H Q) : PT X e t' := ⟨fun pins s σ H Q I q => h.run pins s σ H Q I (i σ H Q q)⟩
theorem pw_imp {X : Cx} {e : Expr} {t t' : TT} (h : PW X e t) (i : ∀ σ H Q, t' σ H Q → t σ H Q) : PW X e t' := ⟨fun wh pins s σ H Q I q => h.run wh pins s σ H Q I (i σ H Q q)⟩
theorem pa_imp {X : Cx} {e : List Expr} {t t' : TA} (h : PA X e t) (i : ∀ σ H Q, t' σ H Q → t σ H Q) : PA X e t' := ⟨fun pos pins s σ H Q I q => h.run pos pins s σ H Q I (i σ H Q q)⟩

/-! ### readings -/
def eVar (i : Nat) : TEw := fun ν g K _ => ∃ w, ν[i]? = some (some w) ∧ K w.view g
def eC (w : W) : TEw := fun _ g K _ => K w g
def eOp (r : W → W → (W → Prop) → Prop) (ta tb : TEw) : TEw := fun ν g K X => ta ν g (fun x g1 => tb ν g1 (fun y g2 => r x y fun u => K u g2) X) X
def eUn (r : W → (W → Prop) → Prop) (ta : TEw) : TEw := fun ν g K X => ta ν g (fun x g1 => r x fun u => K u g1) X
def eIf (t : TTw) (ta tb : TEw) : TEw := fun ν g K X => t ν g (fun c g1 => if c = true then ta ν g1 K X else tb ν g1 K X) X
def aNil : TAw := fun _ g K _ => K [] g
def aCons (te : TEw) (t : TAw) : TAw := fun ν g K X => te ν g (fun w g1 => t ν g1 (fun ws g2 => K (w :: ws) g2) X) X
def eTup (t : TAw) : TEw := fun ν g K X => t ν g (fun ws g1 => K (.tup ws) g1) X
def eCB (r : List W → (W → Prop) → Prop) (t : TAw) : TEw := fun ν g K X => t ν g (fun ws g1 => r ws fun u => K u g1) X
/-- a new list, known as data from now on -/
def eL (t : TAw) : TEw := fun ν g K X => t ν g (fun ws g1 => K (.lst ws) g1) X
/-- a new list, an object of the store from now on -/
def eG (t : TAw) : TEw := fun ν g K X => t ν g (fun ws g1 => noLst.noLstAll ws = true ∧ ∀ p, g1 p = none → K (.adr p) (gup g1 p (.gl ws))) X
def tTst (te : TEw) : TTw := fun ν g K X => te ν g (fun w g1 => ∃ b, w = .bl b ∧ K b g1) X
def tAndW (t u : TTw) : TTw := fun ν g K X => t ν g (fun c g1 => if c = true then u ν g1 K X else K false g1) X
def tOrW (t u : TTw) : TTw := fun ν g K X => t ν g (fun c g1 => if c = true then K true g1 else u ν g1 K X) X
def tNotW (t : TTw) : TTw := fun ν g K X => t ν g (fun c g1 => K (!c) g1) X
def eAnd (ta tb : TEw) : TEw := fun ν g K X => ta ν g (fun x g1 => ∃ c, x = .bl c ∧ if c = true then tb ν g1 K X else K (.bl false) g1) X
def eOr (ta tb : TEw) : TEw := fun ν g K X => ta ν g (fun x g1 => ∃ c, x = .bl c ∧ if c = true then K (.bl true) g1 else tb ν g1 K X) X
def eNot (ta : TEw) : TEw := fun ν g K X => ta ν g (fun x g1 => ∃ c, x = .bl c ∧ K (.bl (!c)) g1) X
/-- a def's worth -/
abbrev TFw := List W → G → KW → XW → Prop
def eCall (sp : TFw) (t : TAw) : TEw := fun ν g K X => t ν g (fun ws g1 => sp ws g1 K X) X
def spF (K : PySem.W.Frag) (cl : Str → Addr) (n : Nat) (sp : TFw) : Sp := fun vs H Q E => ∃ Φ g ws KK KE, ws.length = n ∧ Sta K Φ g H ∧ RepAll K Φ ws vs ∧ sp ws g KK KE ∧ QK K Φ g H KK Q ∧ QX K cl Φ g H KE E
/-- a def that hands back a new list -/
def spL (K : PySem.W.Frag) (cl : Str → Addr) (n : Nat) (sp : List W → G → (List W → G → Prop) → XW → Prop) : Sp := fun vs H Q E => ∃ Φ g ws KK KE, ws.length = n ∧ Sta K Φ g H ∧ RepAll K Φ ws vs ∧ sp ws g KK KE ∧ QL K Φ g H KK Q ∧ QX K cl Φ g H KE E

/-- an operation on values: V's rule rV is answered by W's r -/
def OpS (K : PySem.W.Frag) (rV : R2) (r : W → W → (W → Prop) → Prop) : Prop :=
  ∀ Φ g H w z x y KQ Q, Sta K Φ g H → Rep K Φ w x → Rep K Φ z y → r w z KQ → (∀ u Φ' H' v, KQ u → Grow K Φ g H Φ' g H' → Rep K Φ' u v → Q v H') → rV x y H Q
def UnS (K : PySem.W.Frag) (rV : V → Hp → VK → Prop) (r : W → (W → Prop) → Prop) : Prop :=
  ∀ Φ g H w x KQ Q, Sta K Φ g H → Rep K Φ w x → r w KQ → (∀ u Φ' H' v, KQ u → Grow K Φ g H Φ' g H' → Rep K Φ' u v → Q v H') → rV x H Q
def CallS (K : PySem.W.Frag) (rV : List V → Hp → VK → Prop) (r : List W → (W → Prop) → Prop) : Prop :=
  ∀ Φ g H ws xs KQ Q, Sta K Φ g H → RepAll K Φ ws xs → r ws KQ → (∀ u Φ' H' v, KQ u → Grow K Φ g H Φ' g H' → Rep K Φ' u v → Q v H') → rV xs H Q
/-- .. whose answer is a new list -/
def CallLS (K : PySem.W.Frag) (rV : List V → Hp → VK → Prop) (r : List W → (List W → Prop) → Prop) : Prop :=
  ∀ Φ g H ws xs KQ Q, Sta K Φ g H → RepAll K Φ ws xs → r ws KQ → (∀ us Φ' H' p vs, KQ us → Grow K Φ g H Φ' g H' → H p = none → Φ' p = none → H' p = some (.lst vs) → RepAll K Φ' us vs → Q (.ref p) H') → rV xs H Q
def OpLS (K : PySem.W.Frag) (rV : R2) (r : W → W → (List W → Prop) → Prop) : Prop :=
  ∀ Φ g H w z x y KQ Q, Sta K Φ g H → Rep K Φ w x → Rep K Φ z y → r w z KQ → (∀ us Φ' H' p vs, KQ us → Grow K Φ g H Φ' g H' → H p = none → Φ' p = none → H' p = some (.lst vs) → RepAll K Φ' us vs → Q (.ref p) H') → rV x y H Q

section
variable {X : Cx} {cl : Str → Addr} {Wx : WX} {a b c e o : Expr} {es : List Expr} {ta tb te : TEw} {tc tt : TTw} {t tl : TAw} {pos p apos : Pos} {n : Nat}

theorem we_var {i : Nat} (h : PE X a (tVar i)) : WEx X cl Wx a (eVar i) := pe_imp h fun σ H Q ⟨Φ, ν, g, KK, KE, st, er, ⟨w, e, k⟩, q, _⟩ => by
  obtain ⟨v, e1, r⟩ := er.1 i w e
  exact ⟨v, e1, q _ g Φ H v k (.refl st) r⟩
theorem we_c {w : W} {v : V} (h : PE X a (tC v)) (r : ∀ Φ, Rep X.K Φ w v) : WEx X cl Wx a (eC w) := pe_imp h fun σ H Q ⟨Φ, ν, g, KK, KE, st, er, k, q, _⟩ => q w g Φ H v k (.refl st) (r Φ)
theorem we_int {i : Int} {j} : WEx X cl Wx (.Constant (.int i) j pos) (eC (.int i)) := we_c pe_int fun _ => .int i
theorem we_bl {i : Bool} {j} : WEx X cl Wx (.Constant (.bool i) j pos) (eC (.bl i)) := we_c pe_bl fun _ => .bl i
theorem we_str {i : Str} {j} : WEx X cl Wx (.Constant (.str i) j pos) (eC (.str i)) := we_c pe_str fun _ => .str i
theorem we_non {j} : WEx X cl Wx (.Constant .none j pos) (eC .non) := we_c pe_non fun _ => .non

/-- one expression, then what follows -/
theorem e1 {ν : Env} {σ : L2.St} {Φ H : Hp} {g : G} {KE : XW} {K1 : KW} {Q : VK} (st : Sta X.K Φ g H) (er : ER X.K Φ ν σ) (h : te ν g K1 KE) (qx : QX X.K cl Φ g H KE (WE Wx σ))
    (f : ∀ w g1 Φ1 H1 v, K1 w g1 → Grow X.K Φ g H Φ1 g1 H1 → Rep X.K Φ1 w v → Q v H1) : liftE X.K cl Wx te σ H Q := ⟨Φ, ν, g, K1, KE, st, er, h, f, qx⟩
theorem l1 {ν : Env} {σ : L2.St} {Φ H : Hp} {g : G} {KE : XW} {K1 : List W → G → Prop} {Q : VK} (st : Sta X.K Φ g H) (er : ER X.K Φ ν σ) (h : t ν g K1 KE) (qx : QX X.K cl Φ g H KE (WE Wx σ))
    (f : QL X.K Φ g H K1 Q) : liftL X.K cl Wx t σ H Q := ⟨Φ, ν, g, K1, KE, st, er, h, f, qx⟩
theorem t1 {ν : Env} {σ : L2.St} {Φ H : Hp} {g : G} {KE : XW} {K1 : Bool → G → Prop} {Q : Bool → Hp → Prop} (st : Sta X.K Φ g H) (er : ER X.K Φ ν σ) (h : tt ν g K1 KE) (qx : QX X.K cl Φ g H KE (WE Wx σ))
    (f : ∀ w g1 Φ1 H1, K1 w g1 → Grow X.K Φ g H Φ1 g1 H1 → Q w H1) : liftT X.K cl Wx tt σ H Q := ⟨Φ, ν, g, K1, KE, st, er, h, f, qx⟩
theorem a1 {ν : Env} {σ : L2.St} {Φ H : Hp} {g : G} {KE : XW} {K1 : List W → G → Prop} {Q : List V → Hp → Prop} (st : Sta X.K Φ g H) (er : ER X.K Φ ν σ) (h : t ν g K1 KE) (qx : QX X.K cl Φ g H KE (WE Wx σ))
    (f : QA X.K Φ g H n K1 Q) : liftA X.K cl Wx n t σ H Q := ⟨Φ, ν, g, K1, KE, st, er, h, f, qx⟩

theorem op_run {r : W → W → (W → Prop) → Prop} {rV : R2} (hs : OpS X.K rV r) {σ : L2.St} {H : Hp} {Q : VK} (h : liftE X.K cl Wx (eOp r ta tb) σ H Q) : tOp rV (liftE X.K cl Wx ta) (liftE X.K cl Wx tb) σ H Q := by
  obtain ⟨Φ, ν, g, KK, KE, st, er, k, q, qx⟩ := h
  refine e1 st er k qx fun w g1 Φ1 H1 x k1 x1 r1 => ?_
  refine e1 x1.st (er.mono x1.phi) k1 (qx.grow x1) fun z g2 Φ2 H2 y k2 x2 r2 => ?_
  exact hs Φ2 g2 H2 w z x y _ _ x2.st (r1.mono x2.phi) r2 k2 fun u Φ3 H3 v k3 x3 r3 => q u g2 Φ3 H3 v k3 ((x1.trans x2).trans x3) r3
theorem opL_run {r : W → W → (List W → Prop) → Prop} {rV : R2} (hs : OpLS X.K rV r) {σ : L2.St} {H : Hp} {Q : VK}
    (h : liftL X.K cl Wx (fun ν g K KE => ta ν g (fun x g1 => tb ν g1 (fun y g2 => r x y fun u => K u g2) KE) KE) σ H Q) : tOp rV (liftE X.K cl Wx ta) (liftE X.K cl Wx tb) σ H Q := by
  obtain ⟨Φ, ν, g, KK, KE, st, er, k, q, qx⟩ := h
  refine e1 st er k qx fun w g1 Φ1 H1 x k1 x1 r1 => ?_
  refine e1 x1.st (er.mono x1.phi) k1 (qx.grow x1) fun z g2 Φ2 H2 y k2 x2 r2 => ?_
  exact hs Φ2 g2 H2 w z x y _ _ x2.st (r1.mono x2.phi) r2 k2 fun us Φ3 H3 p vs k3 x3 n1 n2 e3 r3 => q us g2 Φ3 H3 p vs k3 ((x1.trans x2).trans x3) ((x1.trans x2).none_of n1) n2 (x2.st.gH n1) e3 r3
def lOp (r : W → W → (List W → Prop) → Prop) (ta tb : TEw) : TAw := fun ν g K KE => ta ν g (fun x g1 => tb ν g1 (fun y g2 => r x y fun u => K u g2) KE) KE

structure OpW (X : Cx) (f : Value → Value → Sem Value) (r : W → W → (W → Prop) → Prop) : Prop where
  ex : ∃ rV, OpR X f rV ∧ OpS X.K rV r
structure OpLW (X : Cx) (f : Value → Value → Sem Value) (r : W → W → (List W → Prop) → Prop) : Prop where
  ex : ∃ rV, OpR X f rV ∧ OpLS X.K rV r
structure UnW (X : Cx) (f : Value → Sem Value) (r : W → (W → Prop) → Prop) : Prop where
  ex : ∃ rV, UnR X f rV ∧ UnS X.K rV r
structure IxW (X : Cx) (r : W → W → (W → Prop) → Prop) : Prop where
  ex : ∃ rV, IxR X rV ∧ OpS X.K rV r
structure CallW (X : Cx) (f : Value) (r : List W → (W → Prop) → Prop) : Prop where
  ex : ∃ rV, CallR X f rV ∧ CallS X.K rV r
structure CallLW (X : Cx) (f : Value) (r : List W → (List W → Prop) → Prop) : Prop where
  ex : ∃ rV, CallR X f rV ∧ CallLS X.K rV r

theorem we_op {op : Operator} {r} (ho : OpW X (binaryOp op) r) (ha : WEx X cl Wx a ta) (hb : WEx X cl Wx b tb) : WEx X cl Wx (.BinOp a op b pos) (eOp r ta tb) := by
  obtain ⟨rV, h1, h2⟩ := ho.ex
  exact pe_imp (pe_op h1 ha hb) fun σ H Q h => op_run h2 h
theorem wl_op {op : Operator} {r} (ho : OpLW X (binaryOp op) r) (ha : WEx X cl Wx a ta) (hb : WEx X cl Wx b tb) : WLx X cl Wx (.BinOp a op b pos) (lOp r ta tb) := by
  obtain ⟨rV, h1, h2⟩ := ho.ex
  exact pe_imp (pe_op h1 ha hb) fun σ H Q h => opL_run h2 h
theorem we_un {op : UnaryOp} {r} (ho : UnW X (unaryOp op) r) (ha : WEx X cl Wx a ta) : WEx X cl Wx (.UnaryOp op a pos) (eUn r ta) := by
  obtain ⟨rV, h1, h2⟩ := ho.ex
  refine pe_imp (pe_un h1 ha) fun σ H Q h => ?_
  obtain ⟨Φ, ν, g, KK, KE, st, er, k, q, qx⟩ := h
  refine e1 st er k qx fun w g1 Φ1 H1 x k1 x1 r1 => ?_
  exact h2 Φ1 g1 H1 w x _ _ x1.st r1 k1 fun u Φ3 H3 v k3 x3 r3 => q u g1 Φ3 H3 v k3 (x1.trans x3) r3
theorem we_cmp {op : CmpOp} {r} (ho : OpW X (compareOp op) r) (ha : WEx X cl Wx a ta) (hb : WEx X cl Wx b tb) (hm : behindInMarks op b = false) : WEx X cl Wx (.Compare a [op] [b] pos) (eOp r ta tb) := by
  obtain ⟨rV, h1, h2⟩ := ho.ex
  exact pe_imp (pe_cmpR h1 ha hb hm) fun σ H Q h => op_run h2 h
theorem wt_cmp {op : CmpOp} {r} (ho : OpW X (compareOp op) r) (ha : WEx X cl Wx a ta) (hb : WEx X cl Wx b tb) (hm : behindInMarks op b = false) : WTx X cl Wx (.Compare a [op] [b] pos) (tTst (eOp r ta tb)) := by
  obtain ⟨rV, h1, h2⟩ := ho.ex
  refine pt_imp (pt_cmpR h1 ha hb hm) fun σ H Q h => ?_
  obtain ⟨Φ, ν, g, KK, KE, st, er, k, q, qx⟩ := h
  refine op_run (cl := cl) (Wx := Wx) h2 ⟨Φ, ν, g, _, KE, st, er, k, fun w g1 Φ1 H1 v k1 x1 r1 => ?_, qx⟩
  obtain ⟨c, e, k1⟩ := k1
  subst e
  cases r1
  exact ⟨c, rfl, q c g1 Φ1 H1 k1 x1⟩
theorem we_ix {r} (ho : IxW X r) (ha : WEx X cl Wx a ta) (hb : WEx X cl Wx b tb) (hs : PlainIx b) : WEx X cl Wx (.Subscript a b pos) (eOp r ta tb) := by
  obtain ⟨rV, h1, h2⟩ := ho.ex
  exact pe_imp (pe_ix h1 ha hb hs) fun σ H Q h => op_run h2 h
theorem we_if (hc : WTx X cl Wx c tc) (ha : WEx X cl Wx a ta) (hb : WEx X cl Wx b tb) : WEx X cl Wx (.IfExp c a b pos) (eIf tc ta tb) := by
  refine pe_imp (pe_ifExp hc ha hb) fun σ H Q h => ?_
  obtain ⟨Φ, ν, g, KK, KE, st, er, k, q, qx⟩ := h
  refine t1 st er k qx fun b g1 Φ1 H1 k1 x1 => ?_
  cases b with
  | true => exact e1 x1.st (er.mono x1.phi) (by simpa using k1) (qx.grow x1) fun w g2 Φ2 H2 v k2 x2 r2 => q w g2 Φ2 H2 v k2 (x1.trans x2) r2
  | false => exact e1 x1.st (er.mono x1.phi) (by simpa using k1) (qx.grow x1) fun w g2 Φ2 H2 v k2 x2 r2 => q w g2 Φ2 H2 v k2 (x1.trans x2) r2
def lIf (tt : TTw) (ta tb : TAw) : TAw := fun ν g K X => tt ν g (fun c g1 => if c = true then ta ν g1 K X else tb ν g1 K X) X
theorem wl_if {ta tb : TAw} (hc : WTx X cl Wx c tc) (ha : WLx X cl Wx a ta) (hb : WLx X cl Wx b tb) : WLx X cl Wx (.IfExp c a b pos) (lIf tc ta tb) := by
  refine pe_imp (pe_ifExp hc ha hb) fun σ H Q h => ?_
  obtain ⟨Φ, ν, g, KK, KE, st, er, k, q, qx⟩ := h
  refine t1 st er k qx fun b g1 Φ1 H1 k1 x1 => ?_
  cases b with
  | true => exact l1 x1.st (er.mono x1.phi) (by simpa using k1) (qx.grow x1) (q.grow x1)
  | false => exact l1 x1.st (er.mono x1.phi) (by simpa using k1) (qx.grow x1) (q.grow x1)
/-! tests -/
theorem wt_val (h : WEx X cl Wx e te) (he : ∀ whole, isTrue e X.env whole = (do let v ← whole; standAt e.pos; holding [v] (truthy v)) := by intro _; rfl) : WTx X cl Wx e (tTst te) := by
  refine pt_imp (pt_val h he) fun σ H Q h => ?_
  obtain ⟨Φ, ν, g, KK, KE, st, er, k, q, qx⟩ := h
  refine e1 st er k qx fun w g1 Φ1 H1 v k1 x1 r1 => ?_
  obtain ⟨c, e, k1⟩ := k1
  subst e
  cases r1
  exact ⟨c, rfl, q c g1 Φ1 H1 k1 x1⟩
/-- a value's truth -/
def truthW : W → Option Bool
  | .non => some false
  | .bl b => some b
  | .int i => some (i != 0)
  | .tup xs => some !xs.isEmpty
  | .lst xs => some !xs.isEmpty
  | .scr xs => some !xs.isEmpty
  | _ => none
def tTru (te : TEw) : TTw := fun ν g K X => te ν g (fun w g1 => ∃ b, truthW w = some b ∧ K b g1) X
theorem isEmpty_rep {K : PySem.W.Frag} {Φ : Hp} {ws : List W} {vs : List V} (r : RepAll K Φ ws vs) : (!ws.isEmpty) = !vs.isEmpty := by cases r <;> rfl
theorem tru_rep {Φ H : Hp} {w : W} {v : V} {b : Bool} (e : Same Φ H) (r : Rep X.K Φ w v) (h : truthW w = some b) : TruV X.K v H b := by
  cases r with
  | non => cases h; rfl
  | bl _ => cases h; rfl
  | int _ => cases h; rfl
  | str _ => cases h
  | adr _ => cases h
  | ty _ => cases h
  | tup hs r => cases h; exact .inr (.inl ⟨_, Same.sqT e hs, isEmpty_rep r⟩)
  | lst hs r => cases h; exact .inl ⟨_, SqL.of (e _ _ hs), isEmpty_rep r⟩
  | scr hs r => cases h; exact .inl ⟨_, Same.seq e hs, isEmpty_rep r⟩
theorem wt_tru (h : WEx X cl Wx e te) (he : ∀ whole, isTrue e X.env whole = (do let v ← whole; standAt e.pos; holding [v] (truthy v)) := by intro _; rfl) : WTx X cl Wx e (tTru te) := by
  refine pt_imp (pt_truth h he) fun σ H Q h => ?_
  obtain ⟨Φ, ν, g, KK, KE, st, er, k, q, qx⟩ := h
  refine e1 st er k qx fun w g1 Φ1 H1 v k1 x1 r1 => ?_
  obtain ⟨c, e, k1⟩ := k1
  exact ⟨c, tru_rep x1.st.sub r1 e, q c g1 Φ1 H1 k1 x1⟩
theorem wt_pw (h : WWx X cl Wx e tt) : WTx X cl Wx e tt := PW.pt h
theorem ww_and1 (ha : WTx X cl Wx a tt) : WWx X cl Wx (.BoolOp .And [a] pos) tt := pw_and1 ha
theorem ww_or1 (ha : WTx X cl Wx a tt) : WWx X cl Wx (.BoolOp .Or [a] pos) tt := pw_or1 ha
theorem ww_and {tA tB : TTw} {rest : List Expr} (ha : WTx X cl Wx a tA) (hb : WWx X cl Wx (.BoolOp .And (b :: rest) pos) tB) : WWx X cl Wx (.BoolOp .And (a :: b :: rest) pos) (tAndW tA tB) := by
  refine pw_imp (pw_and ha hb) fun σ H Q h => ?_
  obtain ⟨Φ, ν, g, KK, KE, st, er, k, q, qx⟩ := h
  refine t1 st er k qx fun b g1 Φ1 H1 k1 x1 => ?_
  cases b with
  | true => exact t1 x1.st (er.mono x1.phi) (by simpa using k1) (qx.grow x1) fun w g2 Φ2 H2 k2 x2 => q w g2 Φ2 H2 k2 (x1.trans x2)
  | false => exact q false g1 Φ1 H1 (by simpa using k1) x1
theorem ww_or {tA tB : TTw} {rest : List Expr} (ha : WTx X cl Wx a tA) (hb : WWx X cl Wx (.BoolOp .Or (b :: rest) pos) tB) : WWx X cl Wx (.BoolOp .Or (a :: b :: rest) pos) (tOrW tA tB) := by
  refine pw_imp (pw_or ha hb) fun σ H Q h => ?_
  obtain ⟨Φ, ν, g, KK, KE, st, er, k, q, qx⟩ := h
  refine t1 st er k qx fun b g1 Φ1 H1 k1 x1 => ?_
  cases b with
  | true => exact q true g1 Φ1 H1 (by simpa using k1) x1
  | false => exact t1 x1.st (er.mono x1.phi) (by simpa using k1) (qx.grow x1) fun w g2 Φ2 H2 k2 x2 => q w g2 Φ2 H2 k2 (x1.trans x2)
theorem wt_not (ha : WTx X cl Wx a tt) : WTx X cl Wx (.UnaryOp .Not a pos) (tNotW tt) := by
  refine pt_imp (pt_not ha) fun σ H Q h => ?_
  obtain ⟨Φ, ν, g, KK, KE, st, er, k, q, qx⟩ := h
  exact t1 st er k qx fun b g1 Φ1 H1 k1 x1 => q _ g1 Φ1 H1 k1 x1
theorem we_one {op} (h : WEx X cl Wx a te) : WEx X cl Wx (.BoolOp op [a] pos) te := pe_one h
theorem we_and {rest : List Expr} (ha : WEx X cl Wx a ta) (hb : WEx X cl Wx (.BoolOp .And (b :: rest) pos) tb) : WEx X cl Wx (.BoolOp .And (a :: b :: rest) pos) (eAnd ta tb) := by
  refine pe_imp (pe_and ha hb) fun σ H Q h => ?_
  obtain ⟨Φ, ν, g, KK, KE, st, er, k, q, qx⟩ := h
  refine e1 st er k qx fun w g1 Φ1 H1 v k1 x1 r1 => ?_
  obtain ⟨c, e, k1⟩ := k1
  subst e
  cases r1
  refine ⟨c, rfl, ?_⟩
  cases c with
  | true => exact e1 x1.st (er.mono x1.phi) (by simpa using k1) (qx.grow x1) fun w g2 Φ2 H2 v k2 x2 r2 => q w g2 Φ2 H2 v k2 (x1.trans x2) r2
  | false => exact q _ g1 Φ1 H1 _ (by simpa using k1) x1 (.bl _)
theorem we_or {rest : List Expr} (ha : WEx X cl Wx a ta) (hb : WEx X cl Wx (.BoolOp .Or (b :: rest) pos) tb) : WEx X cl Wx (.BoolOp .Or (a :: b :: rest) pos) (eOr ta tb) := by
  refine pe_imp (pe_or ha hb) fun σ H Q h => ?_
  obtain ⟨Φ, ν, g, KK, KE, st, er, k, q, qx⟩ := h
  refine e1 st er k qx fun w g1 Φ1 H1 v k1 x1 r1 => ?_
  obtain ⟨c, e, k1⟩ := k1
  subst e
  cases r1
  refine ⟨c, rfl, ?_⟩
  cases c with
  | true => exact q _ g1 Φ1 H1 _ (by simpa using k1) x1 (.bl _)
  | false => exact e1 x1.st (er.mono x1.phi) (by simpa using k1) (qx.grow x1) fun w g2 Φ2 H2 v k2 x2 r2 => q w g2 Φ2 H2 v k2 (x1.trans x2) r2
theorem we_not (ha : WEx X cl Wx a ta) : WEx X cl Wx (.UnaryOp .Not a pos) (eNot ta) := by
  refine pe_imp (pe_not ha) fun σ H Q h => ?_
  obtain ⟨Φ, ν, g, KK, KE, st, er, k, q, qx⟩ := h
  refine e1 st er k qx fun w g1 Φ1 H1 v k1 x1 r1 => ?_
  obtain ⟨c, e, k1⟩ := k1
  subst e
  cases r1
  exact ⟨c, rfl, q _ g1 Φ1 H1 _ k1 x1 (.bl _)⟩
/-! argument lists, displays -/
theorem wa_nil : WAx X cl Wx 0 [] aNil := pa_imp pa_nil fun σ H Q ⟨Φ, ν, g, KK, KE, st, er, k, q, _⟩ => q [] g Φ H [] k rfl (.refl st) .nil
theorem wa_cons (ha : WEx X cl Wx e te) (hr : WAx X cl Wx n es t) (hs : starEach (e :: es) X.env = (false, eval e X.env) :: starEach es X.env := by rfl) : WAx X cl Wx (n + 1) (e :: es) (aCons te t) := by
  refine pa_imp (pa_cons ha hr hs) fun σ H Q h => ?_
  obtain ⟨Φ, ν, g, KK, KE, st, er, k, q, qx⟩ := h
  refine e1 st er k qx fun w g1 Φ1 H1 v k1 x1 r1 => ?_
  refine a1 x1.st (er.mono x1.phi) k1 (qx.grow x1) fun ws g2 Φ2 H2 vs k2 hl x2 r2 => ?_
  exact q (w :: ws) g2 Φ2 H2 (v :: vs) k2 (by rw [List.length_cons, hl]) (x1.trans x2) (.cons (r1.mono x2.phi) r2)
theorem small_line {n : Nat} (h : n ≤ 1000) : n ≤ sizeLine := Nat.le_trans h (by rw [sizeLine_eq]; decide)
theorem we_tup {x1} (h : WAx X cl Wx n es t) (hn : n ≤ 1000 := by decide) : WEx X cl Wx (.Tuple es x1 pos) (eTup t) := by
  refine pe_imp (pe_tup h) fun σ H Q h => ?_
  obtain ⟨Φ, ν, g, KK, KE, st, er, k, q, qx⟩ := h
  refine a1 st er k qx fun ws g1 Φ1 H1 vs k1 hl x1 r1 => ?_
  refine ⟨by rw [← r1.length, hl]; exact small_line hn, fun p np => ?_⟩
  have y := Grow.laid (o := .tup vs) x1.st np
  exact q (.tup ws) g1 _ _ (.ref p) k1 (x1.trans y) (.tup (SqT.of upd_same) (r1.mono y.phi))
theorem wl_lst (h : WAx X cl Wx n es t) (hn : n ≤ 1000 := by decide) : WLx X cl Wx (.List es pos) t := by
  refine pe_imp (pe_lst h) fun σ H Q h => ?_
  obtain ⟨Φ, ν, g, KK, KE, st, er, k, q, qx⟩ := h
  refine a1 st er k qx fun ws g1 Φ1 H1 vs k1 hl x1 r1 => ?_
  refine ⟨by rw [← r1.length, hl]; exact small_line hn, fun p np => ?_⟩
  have y := Grow.own (o := .lst vs) x1.st np
  exact q ws g1 _ _ p vs k1 (x1.trans y) (x1.none_of np) (x1.st.pH np) (x1.st.gH np) upd_same r1
/-- a new list becomes data, an object of the store -/
theorem freeze {K : PySem.W.Frag} {Φ Φ' H H' : Hp} {g g' : G} {p : Addr} {vs : List V} (x : Grow K Φ g H Φ' g' H') (n1 : H p = none) (n2 : Φ' p = none) (n3 : g' p = none) (e : H' p = some (.lst vs)) :
    Grow K Φ g H (upd Φ' p (.lst vs)) g' H' := by
  have ph : Same Φ' (upd Φ' p (.lst vs)) := fun b o q => by rw [upd_ne (ne_of_none q n2)]; exact q
  refine ⟨⟨fun b o q => ?_, fun a q => ?_, fun a o q => (x.st.rep a o q).mono ph rfl⟩, x.phi.trans ph, x.keep, x.gk, fun a q => ?_⟩
  · by_cases hb : b = p
    · subst hb; rw [upd_same] at q; rw [e]; exact q
    · rw [upd_ne hb] at q; exact x.st.sub _ _ q
  · have hne : a ≠ p := fun z => q (by rw [z]; exact n3)
    rw [upd_ne hne]; exact x.st.sep a q
  · by_cases hb : a = p
    · exact .inr (by rw [hb]; exact n1)
    · rw [upd_ne hb] at q; exact x.fresh a q
theorem we_l (h : WLx X cl Wx e t) : WEx X cl Wx e (eL t) := by
  refine pe_imp h fun σ H Q h => ?_
  obtain ⟨Φ, ν, g, KK, KE, st, er, k, q, qx⟩ := h
  refine l1 st er k qx fun ws g1 Φ1 H1 p vs k1 x1 n1 n2 n3 e1 r1 => ?_
  have y := freeze x1 n1 n2 n3 e1
  exact q (.lst ws) g1 _ _ (.ref p) k1 y (.lst upd_same (r1.mono fun b o z => by rw [upd_ne (ne_of_none z n2)]; exact z))
theorem share {K : PySem.W.Frag} {Φ Φ' H H' : Hp} {g g' : G} {p : Addr} {vs : List V} {ws : List W} (x : Grow K Φ g H Φ' g' H') (n1 : H p = none) (n2 : Φ' p = none) (n3 : g' p = none) (e : H' p = some (.lst vs)) (r : RepAll K Φ' ws vs) (nl : noLst.noLstAll ws = true) :
    Grow K Φ g H Φ' (gup g' p (.gl ws)) H' := by
  refine ⟨⟨x.st.sub, fun a q => ?_, fun a o q => ?_⟩, x.phi, fun a o q1 q2 => ?_, fun a q => ?_, x.fresh⟩
  · by_cases hb : a = p
    · rw [hb]; exact n2
    · rw [gup_ne hb] at q; exact x.st.sep a q
  · by_cases hb : a = p
    · subst hb; rw [gup_same] at q; cases q; exact ⟨⟨vs, e, r⟩, nl⟩
    · rw [gup_ne hb] at q; exact x.st.rep a o q
  · obtain ⟨z1, z2⟩ := x.keep a o q1 q2
    have hne : a ≠ p := fun z => by rw [z, n1] at q1; cases q1
    exact ⟨z1, by rw [gup_ne hne]; exact z2⟩
  · by_cases hb : a = p
    · rw [hb, gup_same]; simp
    · rw [gup_ne hb]; exact x.gk a q
theorem we_g (h : WLx X cl Wx e t) : WEx X cl Wx e (eG t) := by
  refine pe_imp h fun σ H Q h => ?_
  obtain ⟨Φ, ν, g, KK, KE, st, er, k, q, qx⟩ := h
  refine l1 st er k qx fun ws g1 Φ1 H1 p vs k1 x1 n1 n2 n3 e1 r1 => ?_
  exact q (.adr p) _ Φ1 H1 (.ref p) (k1.2 p n3) (share x1 n1 n2 n3 e1 r1 k1.1) (.adr p)

/-! calls -/
theorem we_callB {x id : String} {xs : Str} {r} (hc : CallW X (.builtin id) r) (hg : Gl X xs) (hm : X.mg xs = none) (hv : bootBuiltins xs = some (.builtin id)) (ha : WAx X cl Wx n (e :: es) t) (hn : xs ≠ "__name__" := by decide) (hdb : (xs == ("__debug__" : Str)) = false := by decide)
    (he : starEach (e :: es) X.env = (false, eval e X.env) :: starEach es X.env := by rfl) (hpl : (backTo pos (starEach es X.env)).any (·.1) = false := by rfl) : WEx X cl Wx (.Call (.Name xs p) (e :: es) [] pos) (eCB r t) := by
  obtain ⟨rV, h1, h2⟩ := hc.ex
  refine pe_imp (pe_callB h1 hg hm hv ha hn hdb he hpl) fun σ H Q h => ?_
  obtain ⟨Φ, ν, g, KK, KE, st, er, k, q, qx⟩ := h
  refine a1 st er k qx fun ws g1 Φ1 H1 vs k1 hl x1 r1 => ?_
  exact h2 Φ1 g1 H1 ws vs _ _ x1.st r1 k1 fun u Φ3 H3 v k3 x3 r3 => q u g1 Φ3 H3 v k3 (x1.trans x3) r3
theorem we_callTy {T : String} {xs : Str} {r} (hc : CallW X (.type T) r) (hg : Gl X xs) (hm : X.mg xs = none) (hv : bootBuiltins xs = some (.type T)) (ha : WAx X cl Wx n (e :: es) t) (hn : xs ≠ "__name__" := by decide) (hdb : (xs == ("__debug__" : Str)) = false := by decide)
    (he : starEach (e :: es) X.env = (false, eval e X.env) :: starEach es X.env := by rfl) (hpl : (backTo pos (starEach es X.env)).any (·.1) = false := by rfl) : WEx X cl Wx (.Call (.Name xs p) (e :: es) [] pos) (eCB r t) := by
  obtain ⟨rV, h1, h2⟩ := hc.ex
  refine pe_imp (pe_callTy h1 hg hm hv ha hn hdb he hpl) fun σ H Q h => ?_
  obtain ⟨Φ, ν, g, KK, KE, st, er, k, q, qx⟩ := h
  refine a1 st er k qx fun ws g1 Φ1 H1 vs k1 hl x1 r1 => ?_
  exact h2 Φ1 g1 H1 ws vs _ _ x1.st r1 k1 fun u Φ3 H3 v k3 x3 r3 => q u g1 Φ3 H3 v k3 (x1.trans x3) r3
def lCB (r : List W → (List W → Prop) → Prop) (t : TAw) : TAw := fun ν g K X => t ν g (fun ws g1 => r ws fun us => K us g1) X
theorem callL_run {r : List W → (List W → Prop) → Prop} {rV} (h2 : CallLS X.K rV r) {σ : L2.St} {H : Hp} {Q : VK} (h : liftL X.K cl Wx (lCB r t) σ H Q) : tCB rV (liftA X.K cl Wx n t) σ H Q := by
  obtain ⟨Φ, ν, g, KK, KE, st, er, k, q, qx⟩ := h
  refine a1 st er k qx fun ws g1 Φ1 H1 vs k1 hl x1 r1 => ?_
  exact h2 Φ1 g1 H1 ws vs _ _ x1.st r1 k1 fun us Φ3 H3 p us' k3 x3 n1 n2 e3 r3 => q us g1 Φ3 H3 p us' k3 (x1.trans x3) (x1.none_of n1) n2 (x1.st.gH n1) e3 r3
theorem wl_callB {id : String} {xs : Str} {r} (hc : CallLW X (.builtin id) r) (hg : Gl X xs) (hm : X.mg xs = none) (hv : bootBuiltins xs = some (.builtin id)) (ha : WAx X cl Wx n (e :: es) t) (hn : xs ≠ "__name__" := by decide) (hdb : (xs == ("__debug__" : Str)) = false := by decide)
    (he : starEach (e :: es) X.env = (false, eval e X.env) :: starEach es X.env := by rfl) (hpl : (backTo pos (starEach es X.env)).any (·.1) = false := by rfl) : WLx X cl Wx (.Call (.Name xs p) (e :: es) [] pos) (lCB r t) := by
  obtain ⟨rV, h1, h2⟩ := hc.ex
  exact pe_imp (pe_callB h1 hg hm hv ha hn hdb he hpl) fun σ H Q h => callL_run h2 h
theorem wl_callTy {T : String} {xs : Str} {r} (hc : CallLW X (.type T) r) (hg : Gl X xs) (hm : X.mg xs = none) (hv : bootBuiltins xs = some (.type T)) (ha : WAx X cl Wx n (e :: es) t) (hn : xs ≠ "__name__" := by decide) (hdb : (xs == ("__debug__" : Str)) = false := by decide)
    (he : starEach (e :: es) X.env = (false, eval e X.env) :: starEach es X.env := by rfl) (hpl : (backTo pos (starEach es X.env)).any (·.1) = false := by rfl) : WLx X cl Wx (.Call (.Name xs p) (e :: es) [] pos) (lCB r t) := by
  obtain ⟨rV, h1, h2⟩ := hc.ex
  exact pe_imp (pe_callTy h1 hg hm hv ha hn hdb he hpl) fun σ H Q h => callL_run h2 h
/-- a def of one's own -/
theorem we_call {xs : Str} {f : Addr} {fd : FuncData} {ps : List Str} {k : Nat} {sp : TFw} (F : FnOk X.prog X.w X.K X.mg X.base (L2.CX X.prog X.w) k f fd ps (spF X.K cl n sp)) (hr : Room k X.A) (hg : Gl X xs) (hm : X.mg xs = some (.ref f))
    (hk : PySem.W.keepIn X.K (.ref f) = true) (hb : Binds X.K fd ps []) (tk : Takes X Wx) (ha : WAx X cl Wx n (e :: es) t) (hdb : (xs == ("__debug__" : Str)) = false := by decide)
    (he : starEach (e :: es) X.env = (false, eval e X.env) :: starEach es X.env := by rfl) (hpl : (backTo pos (starEach es X.env)).any (·.1) = false := by rfl) : WEx X cl Wx (.Call (.Name xs p) (e :: es) [] pos) (eCall sp t) := by
  refine pe_imp (pe_callS F hr hg hm hk hb (fun σ => passAt tk σ) ha hdb he hpl) fun σ H Q h => ?_
  obtain ⟨Φ, ν, g, KK, KE, st, er, k, q, qx⟩ := h
  refine a1 st er k qx fun ws g1 Φ1 H1 vs k1 hl x1 r1 => ?_
  exact ⟨Φ1, g1, ws, KK, KE, hl, x1.st, r1, k1, q.grow x1, qx.grow x1⟩
def lCall (sp : List W → G → (List W → G → Prop) → XW → Prop) (t : TAw) : TAw := fun ν g K X => t ν g (fun ws g1 => sp ws g1 K X) X
theorem wl_call {xs : Str} {f : Addr} {fd : FuncData} {ps : List Str} {k : Nat} {sp} (F : FnOk X.prog X.w X.K X.mg X.base (L2.CX X.prog X.w) k f fd ps (spL X.K cl n sp)) (hr : Room k X.A) (hg : Gl X xs) (hm : X.mg xs = some (.ref f))
    (hk : PySem.W.keepIn X.K (.ref f) = true) (hb : Binds X.K fd ps []) (tk : Takes X Wx) (ha : WAx X cl Wx n (e :: es) t) (hdb : (xs == ("__debug__" : Str)) = false := by decide)
    (he : starEach (e :: es) X.env = (false, eval e X.env) :: starEach es X.env := by rfl) (hpl : (backTo pos (starEach es X.env)).any (·.1) = false := by rfl) : WLx X cl Wx (.Call (.Name xs p) (e :: es) [] pos) (lCall sp t) := by
  refine pe_imp (pe_callS F hr hg hm hk hb (fun σ => passAt tk σ) ha hdb he hpl) fun σ H Q h => ?_
  obtain ⟨Φ, ν, g, KK, KE, st, er, k, q, qx⟩ := h
  refine a1 st er k qx fun ws g1 Φ1 H1 vs k1 hl x1 r1 => ?_
  exact ⟨Φ1, g1, ws, KK, KE, hl, x1.st, r1, k1, q.grow x1, qx.grow x1⟩
end
end WL
/-! WL3: statements over W: the frame's state, readings and rules. -/
namespace WL
open PySem PySem.Spec PyProof.Rows L2

/-- the entry: what stood, the store, the heap; Ψ: what has to stand -/
structure Bs where
  Φ : Hp
  g : G
  H : Hp
  Ψ : Hp
def OwnR (K : PySem.W.Frag) (c : Bs) (Φ : Hp) (g : G) (H : Hp) (ws : List W) (v : V) : Prop := ∃ a vs, v = .ref a ∧ H a = some (.lst vs) ∧ Φ a = none ∧ g a = none ∧ c.H a = none ∧ RepAll K Φ ws vs
def SlotR (K : PySem.W.Frag) (c : Bs) (Φ : Hp) (g : G) (H : Hp) (w : W) (v : V) : Prop := (∃ ws, w = .own ws ∧ OwnR K c Φ g H ws v) ∨ Rep K Φ w v
structure SRp (K : PySem.W.Frag) (c : Bs) (Φ : Hp) (ν : Env) (g : G) (σ : L2.St) (H : Hp) : Prop where
  gr : Grow K c.Φ c.g c.H Φ g H
  psi : Same c.Ψ Φ
  slot : ∀ (i : Nat) (w : W), ν[i]? = some (some w) → ∃ v, σ[i]? = some (some v) ∧ SlotR K c Φ g H w v
  uniq : ∀ (i j : Nat) (ws ws' : List W) (a : Addr), ν[i]? = some (some (.own ws)) → ν[j]? = some (some (.own ws')) → σ[i]? = some (some (.ref a)) → σ[j]? = some (some (.ref a)) → i = j
  len : ν.length = σ.length
def SR (K : PySem.W.Frag) (c : Bs) (ν : Env) (g : G) (σ : L2.St) (H : Hp) : Prop := ∃ Φ, SRp K c Φ ν g σ H

def Own (ν : Env) (σ : L2.St) (a : Addr) : Prop := ∃ (i : Nat) (ws : List W), ν[i]? = some (some (.own ws)) ∧ σ[i]? = some (some (.ref a))
open Classical in
noncomputable def fullΦ (ν : Env) (σ : L2.St) (Φ H : Hp) : Hp := fun a => if Own ν σ a then H a else Φ a
open Classical in
noncomputable def cutΦ (ν : Env) (σ : L2.St) (Φ : Hp) : Hp := fun a => if Own ν σ a then none else Φ a
def hideW : Option W → Option W
  | some (.own _) => none
  | x => x
/-- the slots that an expression sees: m: not one's own lists -/
def vw (m : Bool) (ν : Env) : Env := if m = true then ν.map hideW else ν
@[simp] theorem vw_true (ν : Env) : vw true ν = ν.map hideW := rfl
@[simp] theorem vw_false (ν : Env) : vw false ν = ν := rfl
@[simp] theorem hide_none : hideW none = none := rfl
@[simp] theorem hide_own (ws : List W) : hideW (some (.own ws)) = none := rfl
@[simp] theorem hide_non : hideW (some .non) = some .non := rfl
@[simp] theorem hide_bl (b : Bool) : hideW (some (.bl b)) = some (.bl b) := rfl
@[simp] theorem hide_int (b : Int) : hideW (some (.int b)) = some (.int b) := rfl
@[simp] theorem hide_str (b : Str) : hideW (some (.str b)) = some (.str b) := rfl
@[simp] theorem hide_tup (b : List W) : hideW (some (.tup b)) = some (.tup b) := rfl
@[simp] theorem hide_lst (b : List W) : hideW (some (.lst b)) = some (.lst b) := rfl
@[simp] theorem hide_scr (b : List W) : hideW (some (.scr b)) = some (.scr b) := rfl
@[simp] theorem hide_ty (b : String) : hideW (some (.ty b)) = some (.ty b) := rfl
@[simp] theorem hide_adr (b : Addr) : hideW (some (.adr b)) = some (.adr b) := rfl
theorem hide_some {x : Option W} {w : W} (h : hideW x = some w) : x = some w ∧ ∀ ws, w ≠ .own ws := by
  cases x with
  | none => cases h
  | some u => cases u with
    | own ws => cases h
    | _ => cases h; exact ⟨rfl, fun ws z => by cases z⟩

section
variable {K : PySem.W.Frag} {cl : Str → Addr} {c : Bs} {Φ Φ1 H H1 : Hp} {g g1 : G} {ν : Env} {σ : L2.St}
theorem rep_own {ws : List W} {v : V} : ¬ Rep K Φ (.own ws) v := fun h => nomatch h
theorem SRp.ownAt (S : SRp K c Φ ν g σ H) {i : Nat} {ws : List W} (e : ν[i]? = some (some (.own ws))) : ∃ a vs, σ[i]? = some (some (.ref a)) ∧ H a = some (.lst vs) ∧ Φ a = none ∧ g a = none ∧ c.H a = none ∧ RepAll K Φ ws vs := by
  obtain ⟨v, e1, h⟩ := S.slot i _ e
  rcases h with ⟨ws', e2, a, vs, rfl, r⟩ | h
  · cases e2; exact ⟨a, vs, e1, r⟩
  · exact absurd h rep_own
theorem SRp.isOwn (S : SRp K c Φ ν g σ H) {a : Addr} (h : Own ν σ a) : ∃ vs, H a = some (.lst vs) ∧ Φ a = none ∧ g a = none ∧ c.H a = none := by
  obtain ⟨i, ws, e1, e2⟩ := h
  obtain ⟨b, vs, e3, h1, h2, h3, h4, _⟩ := S.ownAt e1
  rw [e3] at e2; cases e2
  exact ⟨vs, h1, h2, h3, h4⟩
theorem SRp.phiFull (S : SRp K c Φ ν g σ H) : Same Φ (fullΦ ν σ Φ H) := fun a o e => by
  unfold fullΦ
  rw [if_neg (fun h => by obtain ⟨_, _, n, _⟩ := S.isOwn h; rw [n] at e; cases e)]
  exact e
theorem SRp.full (S : SRp K c Φ ν g σ H) : Grow K c.Φ c.g c.H (fullΦ ν σ Φ H) g H ∧ ER K (fullΦ ν σ Φ H) ν σ := by
  refine ⟨⟨⟨fun a o e => ?_, fun a n => ?_, fun a o e => (S.gr.st.rep a o e).mono S.phiFull rfl⟩, S.gr.phi.trans S.phiFull, S.gr.keep, S.gr.gk, fun a n => ?_⟩, fun i w e => ?_, S.len⟩
  · unfold fullΦ at e
    split at e
    · exact e
    · exact S.gr.st.sub _ _ e
  · unfold fullΦ
    rw [if_neg (fun h => by obtain ⟨_, _, _, n2, _⟩ := S.isOwn h; exact n n2)]
    exact S.gr.st.sep a n
  · unfold fullΦ at n
    split at n
    · rename_i h
      obtain ⟨_, _, _, _, n4⟩ := S.isOwn h
      exact .inr n4
    · exact S.gr.fresh a n
  · obtain ⟨v, e1, h⟩ := S.slot i w e
    refine ⟨v, e1, ?_⟩
    rcases h with ⟨ws, rfl, a, vs, rfl, h1, h2, h3, h4, r⟩ | h
    · refine .lst (xs := vs) ?_ (r.mono S.phiFull)
      unfold fullΦ
      rw [if_pos ⟨i, ws, e, e1⟩]
      exact h1
    · have e2 : w.view = w := by cases h <;> rfl
      rw [e2]
      exact h.mono S.phiFull
theorem SRp.hid (S : SRp K c Φ ν g σ H) : ER K Φ (ν.map hideW) σ := by
  refine ⟨fun i w e => ?_, by rw [List.length_map]; exact S.len⟩
  rw [List.getElem?_map] at e
  cases q : ν[i]? with
  | none => rw [q] at e; cases e
  | some x =>
    rw [q] at e
    obtain ⟨e2, nw⟩ := hide_some (Option.some.inj e)
    subst e2
    obtain ⟨v, e1, h⟩ := S.slot i w q
    rcases h with ⟨ws, rfl, _⟩ | h
    · exact absurd rfl (nw ws)
    · have e2 : w.view = w := by cases h <;> rfl
      rw [e2]
      exact ⟨v, e1, h⟩
/-- behind an expression that saw one's own lists -/
theorem SRp.back (S : SRp K c Φ ν g σ H) (x : Grow K (fullΦ ν σ Φ H) g H Φ1 g1 H1) : SRp K c (cutΦ ν σ Φ1) ν g1 σ H1 ∧ (∀ a xs, SqT K Φ1 a xs → SqT K (cutΦ ν σ Φ1) a xs) := by
  have own1 : ∀ {a}, Own ν σ a → ∃ vs, Φ1 a = some (.lst vs) ∧ H1 a = some (.lst vs) ∧ g1 a = none := fun {a} h => by
    obtain ⟨vs, h1, h2, h3, h4⟩ := S.isOwn h
    have e1 : fullΦ ν σ Φ H a = some (.lst vs) := by unfold fullΦ; rw [if_pos h]; exact h1
    obtain ⟨k1, k2⟩ := x.keep a _ h1 h3
    exact ⟨vs, x.phi _ _ e1, k1, k2⟩
  have sq : ∀ a xs, SqT K Φ1 a xs → SqT K (cutΦ ν σ Φ1) a xs := fun a xs h => by
    rcases h with h | h
    · refine .inl ?_
      have no : ¬ Own ν σ a := fun z => by
        obtain ⟨vs, e, _⟩ := own1 z
        rcases h with h | ⟨o, h⟩
        · rw [e] at h; cases h
        · rw [e] at h; cases h
      have e : cutΦ ν σ Φ1 a = Φ1 a := by unfold cutΦ; rw [if_neg no]
      unfold Rd
      rw [e]
      exact h
    · exact .inr h
  have ph : Same Φ (cutΦ ν σ Φ1) := fun a o e => by
    unfold cutΦ
    rw [if_neg (fun h => by obtain ⟨_, _, n, _⟩ := S.isOwn h; rw [n] at e; cases e)]
    exact x.phi _ _ (S.phiFull _ _ e)
  have sub : ∀ a, cutΦ ν σ Φ1 a ≠ none → ¬ Own ν σ a ∧ Φ1 a ≠ none := fun a n => by
    unfold cutΦ at n
    split at n
    · exact absurd rfl n
    · rename_i h; exact ⟨h, n⟩
  have cutLe : Same (cutΦ ν σ Φ1) Φ1 := fun a o e => by
    unfold cutΦ at e
    split at e
    · cases e
    · exact e
  refine ⟨⟨⟨⟨cutLe.trans x.st.sub, fun a n => ?_, fun a o e => (x.st.rep a o e).tups sq⟩, S.gr.phi.trans ph, fun a o e n => ?_, fun a n => x.gk a (S.gr.gk a n), fun a n => ?_⟩, S.psi.trans ph, fun i w e => ?_, S.uniq, S.len⟩, sq⟩
  · unfold cutΦ
    split
    · rfl
    · exact x.st.sep a n
  · obtain ⟨e1, n1⟩ := S.gr.keep a o e n
    exact x.keep a o e1 n1
  · obtain ⟨no, n1⟩ := sub a n
    rcases x.fresh a n1 with z | z
    · unfold fullΦ at z
      rw [if_neg no] at z
      exact S.gr.fresh a z
    · exact .inr (S.gr.none_of z)
  · obtain ⟨v, e1, h⟩ := S.slot i w e
    refine ⟨v, e1, ?_⟩
    rcases h with ⟨ws, rfl, a, vs, rfl, h1, h2, h3, h4, r⟩ | h
    · obtain ⟨k1, k2⟩ := x.keep a _ h1 h3
      refine .inl ⟨ws, rfl, a, vs, rfl, k1, ?_, k2, h4, r.mono ph⟩
      unfold cutΦ
      rw [if_pos ⟨i, ws, e, e1⟩]
    · exact .inr (h.mono ph)
/-- behind an expression that saw none of one's own lists -/
theorem SRp.stay (S : SRp K c Φ ν g σ H) (x : Grow K Φ g H Φ1 g1 H1) : SRp K c Φ1 ν g1 σ H1 := by
  refine ⟨S.gr.trans x, S.psi.trans x.phi, fun i w e => ?_, S.uniq, S.len⟩
  obtain ⟨v, e1, h⟩ := S.slot i w e
  refine ⟨v, e1, ?_⟩
  rcases h with ⟨ws, rfl, a, vs, rfl, h1, h2, h3, h4, r⟩ | h
  · obtain ⟨k1, k2⟩ := x.keep a _ h1 h3
    refine .inl ⟨ws, rfl, a, vs, rfl, k1, ?_, k2, h4, r.mono x.phi⟩
    cases q : Φ1 a with
    | none => rfl
    | some o =>
      rcases x.fresh a (by rw [q]; simp) with z | z
      · exact absurd h2 z
      · rw [h1] at z; cases z
  · exact .inr (h.mono x.phi)
/-- an expression, seen by m -/
theorem SRp.run (S : SRp K c Φ ν g σ H) (m : Bool) : ∃ Φv, Grow K c.Φ c.g c.H Φv g H ∧ ER K Φv (vw m ν) σ ∧ ∀ Φ1 g1 H1, Grow K Φv g H Φ1 g1 H1 → ∃ Φ2, SRp K c Φ2 ν g1 σ H1 ∧
    (∀ w v, (m = true ∨ noLst w = true) → Rep K Φ1 w v → Rep K Φ2 w v) ∧ (∀ ws vs, (m = true ∨ noLst.noLstAll ws = true) → RepAll K Φ1 ws vs → RepAll K Φ2 ws vs) ∧ (∀ a, Φ1 a = none → Φ2 a = none) ∧ (∀ fs vs, fsNo fs = true → FRep K Φ1 fs vs → FRep K Φ2 fs vs) := by
  cases m with
  | true =>
    refine ⟨Φ, S.gr, S.hid, fun Φ1 g1 H1 x => ⟨Φ1, S.stay x, fun _ _ _ r => r, fun _ _ _ r => r, fun _ e => e, fun _ _ _ r => r⟩⟩
  | false =>
    refine ⟨_, S.full.1, S.full.2, fun Φ1 g1 H1 x => ?_⟩
    obtain ⟨S2, sq⟩ := S.back x
    refine ⟨_, S2, fun w v n r => r.tups sq (n.resolve_left (by decide)), fun w v n r => r.tups sq (n.resolve_left (by decide)), fun a e => ?_, fun fs vs n r => r.tups sq n⟩
    unfold cutΦ
    split
    · rfl
    · exact e
/-! slots stored -/
theorem SRp.setV (S : SRp K c Φ ν g σ H) {w : W} {v : V} (r : Rep K Φ w v) (i : Nat) : SRp K c Φ (ν.set i (some w)) g (σ.set i (some v)) H := by
  have no : ∀ {j : Nat} {ws : List W}, (ν.set i (some w))[j]? = some (some (.own ws)) → i ≠ j ∧ ν[j]? = some (some (.own ws)) := fun {j ws} e => by
    by_cases h : i = j
    · subst h
      by_cases hl : i < ν.length
      · rw [List.getElem?_set_self hl] at e
        cases e
        exact absurd r rep_own
      · rw [List.getElem?_eq_none (by simpa using hl)] at e; cases e
    · rw [List.getElem?_set_ne h] at e; exact ⟨h, e⟩
  refine ⟨S.gr, S.psi, fun j u e => ?_, fun j k ws ws' a e1 e2 e3 e4 => ?_, by rw [List.length_set, List.length_set]; exact S.len⟩
  · by_cases h : i = j
    · subst h
      by_cases hl : i < ν.length
      · rw [List.getElem?_set_self hl] at e
        cases e
        exact ⟨v, List.getElem?_set_self (by rw [← S.len]; exact hl), .inr r⟩
      · rw [List.getElem?_eq_none (by simpa using hl)] at e; cases e
    · rw [List.getElem?_set_ne h] at e ⊢
      exact S.slot j u e
  · obtain ⟨n1, e1⟩ := no e1
    obtain ⟨n2, e2⟩ := no e2
    rw [List.getElem?_set_ne n1] at e3
    rw [List.getElem?_set_ne n2] at e4
    exact S.uniq j k ws ws' a e1 e2 e3 e4
theorem SRp.setL (S : SRp K c Φ ν g σ H) {ws : List W} {p : Addr} {vs : List V} (e : H p = some (.lst vs)) (n1 : Φ p = none) (n2 : g p = none) (n3 : c.H p = none) (r : RepAll K Φ ws vs) (no : ¬ Own ν σ p) (i : Nat) :
    SRp K c Φ (ν.set i (some (.own ws))) g (σ.set i (some (.ref p))) H := by
  have at_ : ∀ {j : Nat} {us : List W}, (ν.set i (some (.own ws)))[j]? = some (some (.own us)) → (i = j ∧ i < ν.length) ∨ (i ≠ j ∧ ν[j]? = some (some (.own us))) := fun {j us} e => by
    by_cases h : i = j
    · subst h
      by_cases hl : i < ν.length
      · exact .inl ⟨rfl, hl⟩
      · rw [List.getElem?_eq_none (by simpa using hl)] at e; cases e
    · rw [List.getElem?_set_ne h] at e; exact .inr ⟨h, e⟩
  refine ⟨S.gr, S.psi, fun j u e0 => ?_, fun j k us us' a e1 e2 e3 e4 => ?_, by rw [List.length_set, List.length_set]; exact S.len⟩
  · by_cases h : i = j
    · subst h
      by_cases hl : i < ν.length
      · rw [List.getElem?_set_self hl] at e0
        cases e0
        exact ⟨.ref p, List.getElem?_set_self (by rw [← S.len]; exact hl), .inl ⟨ws, rfl, p, vs, rfl, e, n1, n2, n3, r⟩⟩
      · rw [List.getElem?_eq_none (by simpa using hl)] at e0; cases e0
    · rw [List.getElem?_set_ne h] at e0 ⊢
      exact S.slot j u e0
  · rcases at_ e1 with ⟨rfl, hl⟩ | ⟨h1, e1'⟩
    · rcases at_ e2 with ⟨rfl, _⟩ | ⟨h2, e2'⟩
      · rfl
      · rw [List.getElem?_set_self (by rw [← S.len]; exact hl)] at e3
        cases e3
        rw [List.getElem?_set_ne h2] at e4
        exact absurd ⟨k, us', e2', e4⟩ no
    · rcases at_ e2 with ⟨rfl, hl⟩ | ⟨h2, e2'⟩
      · rw [List.getElem?_set_self (by rw [← S.len]; exact hl)] at e4
        cases e4
        rw [List.getElem?_set_ne h1] at e3
        exact absurd ⟨j, us, e1', e3⟩ no
      · rw [List.getElem?_set_ne h1] at e3
        rw [List.getElem?_set_ne h2] at e4
        exact S.uniq j k us us' a e1' e2' e3 e4
theorem SRp.noOwn (S : SRp K c Φ ν g σ H) {p : Addr} (n : H p = none) : ¬ Own ν σ p := fun h => by
  obtain ⟨vs, e, _⟩ := S.isOwn h
  rw [n] at e; cases e
/-- one's own list is changed -/
theorem SRp.mut (S : SRp K c Φ ν g σ H) {i : Nat} {ws ws' : List W} {a : Addr} {vs' : List V} (e : ν[i]? = some (some (.own ws))) (ea : σ[i]? = some (some (.ref a))) (r : RepAll K Φ ws' vs') :
    SRp K c Φ (ν.set i (some (.own ws'))) g σ (upd H a (.lst vs')) := by
  obtain ⟨b, vs, e1, h1, h2, h3, h4, _⟩ := S.ownAt e
  rw [e1] at ea; cases ea
  have hl : i < ν.length := by
    by_cases hl : i < ν.length
    · exact hl
    · rw [List.getElem?_eq_none (by omega)] at e; cases e
  have at_ : ∀ {j : Nat} {us : List W}, (ν.set i (some (.own ws')))[j]? = some (some (.own us)) → ∃ us', ν[j]? = some (some (.own us')) := fun {j us} e0 => by
    by_cases h : i = j
    · subst h; exact ⟨_, e⟩
    · rw [List.getElem?_set_ne h] at e0; exact ⟨_, e0⟩
  refine ⟨⟨⟨fun b o q => ?_, S.gr.st.sep, fun b o q => ?_⟩, S.gr.phi, fun b o q n => ?_, S.gr.gk, S.gr.fresh⟩, S.psi, fun j u e0 => ?_, fun j k us us' a' q1 q2 q3 q4 => ?_, by rw [List.length_set]; exact S.len⟩
  · rw [upd_ne (ne_of_none q h2)]; exact S.gr.st.sub _ _ q
  · have hne : b ≠ a := fun z => by rw [z, h3] at q; cases q
    exact (S.gr.st.rep b o q).mono (Same.refl _) (upd_ne hne)
  · rw [upd_ne (ne_of_none q h4)]; exact S.gr.keep b o q n
  · by_cases h : i = j
    · subst h
      rw [List.getElem?_set_self hl] at e0
      cases e0
      exact ⟨.ref a, e1, .inl ⟨ws', rfl, a, vs', rfl, upd_same, h2, h3, h4, r⟩⟩
    · rw [List.getElem?_set_ne h] at e0
      obtain ⟨v, e2, q⟩ := S.slot j u e0
      refine ⟨v, e2, ?_⟩
      rcases q with ⟨us, rfl, b, xs, rfl, k1, k2, k3, k4, k5⟩ | q
      · have hne : b ≠ a := fun z => by
          subst z
          exact h (S.uniq i j ws us b e e0 e1 e2)
        exact .inl ⟨us, rfl, b, xs, rfl, by rw [upd_ne hne]; exact k1, k2, k3, k4, k5⟩
      · exact .inr q
  · obtain ⟨u1, q1⟩ := at_ q1
    obtain ⟨u2, q2⟩ := at_ q2
    exact S.uniq j k u1 u2 a' q1 q2 q3 q4
/-- one's own list is data from now on -/
theorem SRp.frz (S : SRp K c Φ ν g σ H) {i : Nat} {ws : List W} (e : ν[i]? = some (some (.own ws))) : ∃ Φ', Same Φ Φ' ∧ SRp K c Φ' (ν.set i (some (.lst ws))) g σ H := by
  obtain ⟨a, vs, e1, h1, h2, h3, h4, r⟩ := S.ownAt e
  have ph : Same Φ (upd Φ a (.lst vs)) := fun b o q => by rw [upd_ne (ne_of_none q h2)]; exact q
  have hl : i < ν.length := by
    by_cases hl : i < ν.length
    · exact hl
    · rw [List.getElem?_eq_none (by omega)] at e; cases e
  have at_ : ∀ {j : Nat} {us : List W}, (ν.set i (some (.lst ws)))[j]? = some (some (.own us)) → i ≠ j ∧ ν[j]? = some (some (.own us)) := fun {j us} e0 => by
    by_cases h : i = j
    · subst h; rw [List.getElem?_set_self hl] at e0; cases e0
    · rw [List.getElem?_set_ne h] at e0; exact ⟨h, e0⟩
  refine ⟨upd Φ a (.lst vs), ph, ⟨⟨⟨fun b o q => ?_, fun b n => ?_, fun b o q => (S.gr.st.rep b o q).mono ph rfl⟩, S.gr.phi.trans ph, S.gr.keep, S.gr.gk, fun b n => ?_⟩, S.psi.trans ph, fun j u e0 => ?_, fun j k us us' b q1 q2 q3 q4 => ?_, by rw [List.length_set]; exact S.len⟩⟩
  · by_cases hb : b = a
    · subst hb; rw [upd_same] at q; cases q; exact h1
    · rw [upd_ne hb] at q; exact S.gr.st.sub _ _ q
  · have hne : b ≠ a := fun z => n (by rw [z]; exact h3)
    rw [upd_ne hne]; exact S.gr.st.sep b n
  · by_cases hb : b = a
    · exact .inr (by rw [hb]; exact h4)
    · rw [upd_ne hb] at n; exact S.gr.fresh b n
  · by_cases h : i = j
    · subst h
      rw [List.getElem?_set_self hl] at e0
      cases e0
      exact ⟨.ref a, e1, .inr (.lst upd_same (r.mono ph))⟩
    · rw [List.getElem?_set_ne h] at e0
      obtain ⟨v, e2, q⟩ := S.slot j u e0
      refine ⟨v, e2, ?_⟩
      rcases q with ⟨us, rfl, b, xs, rfl, k1, k2, k3, k4, k5⟩ | q
      · have hne : b ≠ a := fun z => by
          subst z
          exact h (S.uniq i j ws us b e e0 e1 e2)
        exact .inl ⟨us, rfl, b, xs, rfl, k1, by rw [upd_ne hne]; exact k2, k3, k4, k5.mono ph⟩
      · exact .inr (q.mono ph)
  · exact S.uniq j k us us' b (at_ q1).2 (at_ q2).2 q3 q4
end

/-! ### readings of statements -/
abbrev XS := Str → List (Str × W) → Env → G → Prop
structure DW where
  nx : Env → G → Prop
  rt : KW
  bk : Env → G → Prop
  ct : Env → G → Prop
abbrev TSw := DW → XS → Env → G → Prop
def kx (KE : XS) (ν : Env) : XW := fun n fs g => fsNo fs = true ∧ KE n fs ν g
def RTq (K : PySem.W.Frag) (c : Bs) (rl : Bool) (rt : KW) (Q : VK) : Prop := match rl with
  | false => ∀ w g' Φ' H' v, rt w g' → Grow K c.Φ c.g c.H Φ' g' H' → Rep K Φ' w v → Q v H'
  | true => ∀ ws g' Φ' H' p vs, rt (.lst ws) g' → Grow K c.Φ c.g c.H Φ' g' H' → c.H p = none → Φ' p = none → g' p = none → H' p = some (.lst vs) → RepAll K Φ' ws vs → Q (.ref p) H'
def XSq (K : PySem.W.Frag) (cl : Str → Addr) (c : Bs) (KE : XS) (Wx : WX) : Prop :=
  ∀ n fs ν' g' Φ' σ' H' d fvs, KE n fs ν' g' → SRp K c Φ' ν' g' σ' H' → fsNo fs = true → FRep K Φ' fs fvs → H' d = some (.xd fvs) → c.H d = none → Wx (.ref (cl n)) (some d) σ' H'
structure Lf (K : PySem.W.Frag) (cl : Str → Addr) (c : Bs) (rl : Bool) (Wx : WX) (DW : DW) (KE : XS) (D : Ends) : Prop where
  nx : ∀ ν' g' σ' H', DW.nx ν' g' → SR K c ν' g' σ' H' → D.nx σ' H'
  bk : ∀ ν' g' σ' H', DW.bk ν' g' → SR K c ν' g' σ' H' → D.bk σ' H'
  ct : ∀ ν' g' σ' H', DW.ct ν' g' → SR K c ν' g' σ' H' → D.ct σ' H'
  rt : RTq K c rl DW.rt D.rt
  xs : XSq K cl c KE Wx
def liftS (K : PySem.W.Frag) (cl : Str → Addr) (c : Bs) (rl : Bool) (Wx : WX) (t : TSw) : TS := fun D σ H => ∃ ν g DW KE, SR K c ν g σ H ∧ t DW KE ν g ∧ Lf K cl c rl Wx DW KE D
abbrev WSx (X : Cx) (cl : Str → Addr) (c : Bs) (rl : Bool) (Wx : WX) (st : Stmt) (t : TSw) : Prop := PS X st (liftS X.K cl c rl Wx t)
abbrev WBx (X : Cx) (cl : Str → Addr) (c : Bs) (rl : Bool) (Wx : WX) (st : List Stmt) (t : TSw) : Prop := PSs X st (liftS X.K cl c rl Wx t)
theorem ps_imp {X : Cx} {st : Stmt} {t t' : TS} (h : PS X st t) (i : ∀ D σ H, t' D σ H → t D σ H) : PS X st t' := ⟨fun pins s σ H D I q => h.run pins s σ H D I (i D σ H q)⟩
theorem pss_imp {X : Cx} {st : List Stmt} {t t' : TS} (h : PSs X st t) (i : ∀ D σ H, t' D σ H → t D σ H) : PSs X st t' := ⟨fun pins s σ H D I q => h.run pins s σ H D I (i D σ H q)⟩

def sSkip : TSw := fun D _ ν g => D.nx ν g
def sSeq (s t : TSw) : TSw := fun D KE ν g => s { D with nx := fun ν g => t D KE ν g } KE ν g
def sDrop (te : TEw) : TSw := fun D KE ν g => te ν g (fun _ g1 => D.nx ν g1) (kx KE ν)
def sRet (te : TEw) : TSw := fun D KE ν g => te ν g D.rt (kx KE ν)
def sRetN : TSw := fun D _ _ g => D.rt .non g
def sRetL (tl : TAw) : TSw := fun D KE ν g => tl ν g (fun ws g1 => D.rt (.lst ws) g1) (kx KE ν)
def sRetO (i : Nat) : TSw := fun D _ ν g => ∃ ws, ν[i]? = some (some (.own ws)) ∧ D.rt (.lst ws) g
def sAsg (m : Bool) (i : Nat) (te : TEw) : TSw := fun D KE ν g => te (vw m ν) g (fun w g1 => (m = true ∨ noLst w = true) ∧ D.nx (ν.set i (some w)) g1) (kx KE ν)
def sAsgL (m : Bool) (i : Nat) (tl : TAw) : TSw := fun D KE ν g => tl (vw m ν) g (fun ws g1 => (m = true ∨ noLst.noLstAll ws = true) ∧ D.nx (ν.set i (some (.own ws))) g1) (kx KE ν)
def sIf (tt : TTw) (s t : TSw) : TSw := fun D KE ν g => tt ν g (fun b g1 => if b = true then s D KE ν g1 else t D KE ν g1) (kx KE ν)
def sBrk : TSw := fun D _ ν g => D.bk ν g
def sCnt : TSw := fun D _ ν g => D.ct ν g
def sNever : TSw := fun _ _ _ _ => False

section
variable {X : Cx} {cl : Str → Addr} {c : Bs} {rl : Bool} {Wx : WX} {st : Stmt} {rest : List Stmt} {e : Expr} {te : TEw} {tt : TTw} {tl : TAw} {s t : TSw} {pos : Pos}
/-- the exceptions of an expression within a statement -/
theorem qx_of {K : PySem.W.Frag} {KE : XS} {Φ Φv H : Hp} {ν : Env} {g : G} {σ : L2.St} (S : SRp K c Φ ν g σ H)
    (bk : ∀ Φ1 g1 H1, Grow K Φv g H Φ1 g1 H1 → ∃ Φ2, SRp K c Φ2 ν g1 σ H1 ∧ (∀ fs vs, fsNo fs = true → FRep K Φ1 fs vs → FRep K Φ2 fs vs)) (xs : XSq K cl c KE Wx) : QX K cl Φv g H (kx KE ν) (WE Wx σ) :=
  fun n fs g' Φ' H' d fvs k x e1 e2 r => by
    obtain ⟨Φ2, S2, fr⟩ := bk Φ' g' H' x
    exact xs n fs ν g' Φ2 σ H' d fvs k.2 S2 k.1 (fr _ _ k.1 r) e1 (S.gr.none_of e2)
theorem run_e {K : PySem.W.Frag} {KE : XS} {Φ H : Hp} {ν : Env} {g : G} {σ : L2.St} {K1 : KW} {Q : VK} (S : SRp K c Φ ν g σ H) (m : Bool) (h : te (vw m ν) g K1 (kx KE ν)) (xs : XSq K cl c KE Wx)
    (f : ∀ w g1 Φ1 Φ2 H1 v, K1 w g1 → Grow K c.Φ c.g c.H Φ1 g1 H1 → SRp K c Φ2 ν g1 σ H1 → Rep K Φ1 w v → ((m = true ∨ noLst w = true) → Rep K Φ2 w v) → Q v H1) : liftE K cl Wx te σ H Q := by
  obtain ⟨Φv, gr, er, bk⟩ := S.run m
  refine ⟨Φv, vw m ν, g, K1, kx KE ν, gr.st, er, h, fun w g1 Φ1 H1 v k x r => ?_, qx_of S (fun Φ1 g1 H1 x => by obtain ⟨Φ2, S2, _, _, _, f5⟩ := bk Φ1 g1 H1 x; exact ⟨Φ2, S2, f5⟩) xs⟩
  obtain ⟨Φ2, S2, f2, f3, f4, f5⟩ := bk Φ1 g1 H1 x
  exact f w g1 Φ1 Φ2 H1 v k (gr.trans x) S2 r fun n => f2 w v n r
theorem run_t {K : PySem.W.Frag} {KE : XS} {Φ H : Hp} {ν : Env} {g : G} {σ : L2.St} {K1 : Bool → G → Prop} {Q : Bool → Hp → Prop} (S : SRp K c Φ ν g σ H) (h : tt ν g K1 (kx KE ν)) (xs : XSq K cl c KE Wx)
    (f : ∀ b g1 H1, K1 b g1 → SR K c ν g1 σ H1 → Q b H1) : liftT K cl Wx tt σ H Q := by
  obtain ⟨Φv, gr, er, bk⟩ := S.run false
  refine ⟨Φv, ν, g, K1, kx KE ν, gr.st, er, h, fun b g1 Φ1 H1 k x => ?_, qx_of S (fun Φ1 g1 H1 x => by obtain ⟨Φ2, S2, _, _, _, f5⟩ := bk Φ1 g1 H1 x; exact ⟨Φ2, S2, f5⟩) xs⟩
  obtain ⟨Φ2, S2, _⟩ := bk Φ1 g1 H1 x
  exact f b g1 H1 k ⟨Φ2, S2⟩
theorem run_l {K : PySem.W.Frag} {KE : XS} {Φ H : Hp} {ν : Env} {g : G} {σ : L2.St} {K1 : List W → G → Prop} {Q : VK} (S : SRp K c Φ ν g σ H) (m : Bool) (h : tl (vw m ν) g K1 (kx KE ν)) (xs : XSq K cl c KE Wx)
    (f : ∀ ws g1 Φ1 Φ2 H1 p vs, K1 ws g1 → Grow K c.Φ c.g c.H Φ1 g1 H1 → SRp K c Φ2 ν g1 σ H1 → H p = none → Φ1 p = none → Φ2 p = none → g1 p = none → H1 p = some (.lst vs) → RepAll K Φ1 ws vs → ((m = true ∨ noLst.noLstAll ws = true) → RepAll K Φ2 ws vs) → Q (.ref p) H1) : liftL K cl Wx tl σ H Q := by
  obtain ⟨Φv, gr, er, bk⟩ := S.run m
  refine ⟨Φv, vw m ν, g, K1, kx KE ν, gr.st, er, h, fun ws g1 Φ1 H1 p vs k x n1 n2 n3 e1 r => ?_, qx_of S (fun Φ1 g1 H1 x => by obtain ⟨Φ2, S2, _, _, _, f5⟩ := bk Φ1 g1 H1 x; exact ⟨Φ2, S2, f5⟩) xs⟩
  obtain ⟨Φ2, S2, f2, f3, f4, f5⟩ := bk Φ1 g1 H1 x
  exact f ws g1 Φ1 Φ2 H1 p vs k (gr.trans x) S2 n1 n2 (f4 p n2) n3 e1 r fun n => f3 ws vs n r

theorem ws_nil : WBx X cl c rl Wx [] sSkip := pss_imp pss_nil fun D σ H ⟨ν, g, DW, KE, S, h, L⟩ => L.nx ν g σ H h S
theorem ws_cons (h1 : WSx X cl c rl Wx st s) (h2 : WBx X cl c rl Wx rest t) : WBx X cl c rl Wx (st :: rest) (sSeq s t) := by
  refine pss_imp (pss_cons h1 h2) fun D σ H ⟨ν, g, DW, KE, S, h, L⟩ => ?_
  exact ⟨ν, g, _, KE, S, h, ⟨fun ν' g' σ' H' k S' => ⟨ν', g', DW, KE, S', k, L⟩, L.bk, L.ct, L.rt, L.xs⟩⟩
theorem ws_one (h1 : WSx X cl c rl Wx st s) : WBx X cl c rl Wx [st] s := pss_one h1
theorem ws_pass : WSx X cl c rl Wx (.Pass pos) sSkip := ps_imp ps_pass fun D σ H ⟨ν, g, DW, KE, S, h, L⟩ => L.nx ν g σ H h S
theorem ws_break : WSx X cl c rl Wx (.Break pos) sBrk := ps_imp ps_break fun D σ H ⟨ν, g, DW, KE, S, h, L⟩ => L.bk ν g σ H h S
theorem ws_cont : WSx X cl c rl Wx (.Continue pos) sCnt := ps_imp ps_continue fun D σ H ⟨ν, g, DW, KE, S, h, L⟩ => L.ct ν g σ H h S
theorem ws_never : WSx X cl c rl Wx st sNever := ps_imp ps_never fun D σ H ⟨ν, g, DW, KE, S, h, L⟩ => h.elim
theorem wb_never {sts : List Stmt} : WBx X cl c rl Wx sts sNever := pss_imp pss_never fun D σ H ⟨ν, g, DW, KE, S, h, L⟩ => h.elim
theorem ws_drop (he : WEx X cl Wx e te) (hs : swapsWith e none pos.line X.env = pure false := by rfl) : WSx X cl c rl Wx (.Expr e pos) (sDrop te) := by
  refine ps_imp (ps_expr he hs) fun D σ H ⟨ν, g, DW, KE, ⟨Φ, S⟩, h, L⟩ => ?_
  exact run_e S false h L.xs fun w g1 Φ1 Φ2 H1 v k x S2 r _ => L.nx ν g1 σ H1 k ⟨Φ2, S2⟩
theorem ws_ret (he : WEx X cl Wx e te) : WSx X cl c false Wx (.Return (some e) pos) (sRet te) := by
  refine ps_imp (ps_ret he) fun D σ H ⟨ν, g, DW, KE, ⟨Φ, S⟩, h, L⟩ => ?_
  exact run_e S false h L.xs fun w g1 Φ1 Φ2 H1 v k x S2 r _ => L.rt w g1 Φ1 H1 v k x r
theorem ws_retN : WSx X cl c false Wx (.Return none pos) sRetN := ps_imp ps_retN fun D σ H ⟨ν, g, DW, KE, ⟨Φ, S⟩, h, L⟩ => L.rt .non g Φ H .non h S.gr .non
theorem ws_retL (he : WLx X cl Wx e tl) : WSx X cl c true Wx (.Return (some e) pos) (sRetL tl) := by
  refine ps_imp (ps_ret he) fun D σ H ⟨ν, g, DW, KE, ⟨Φ, S⟩, h, L⟩ => ?_
  exact run_l S false h L.xs fun ws g1 Φ1 Φ2 H1 p vs k x S2 n1 n2 _ n3 e1 r _ => L.rt ws g1 Φ1 H1 p vs k x (S.gr.none_of n1) n2 n3 e1 r
theorem ws_retO {i : Nat} (he : PE X e (tVar i)) : WSx X cl c true Wx (.Return (some e) pos) (sRetO i) := by
  refine ps_imp (ps_ret he) fun D σ H ⟨ν, g, DW, KE, ⟨Φ, S⟩, ⟨ws, e, k⟩, L⟩ => ?_
  obtain ⟨a, vs, e1, h1, h2, h3, h4, r⟩ := S.ownAt e
  exact ⟨_, e1, L.rt ws g Φ H a vs k S.gr h4 h2 h3 h1 r⟩
/-- name = value -/
theorem ws_set {i : Nat} {m : Bool} (h : PS X st (tAsg (liftE X.K cl Wx te) (gName i))) : WSx X cl c rl Wx st (sAsg m i te) := by
  refine ps_imp h fun D σ H ⟨ν, g, DW, KE, ⟨Φ, S⟩, h, L⟩ => ?_
  exact run_e S m h L.xs fun w g1 Φ1 Φ2 H1 v k x S2 r f => L.nx _ g1 _ H1 k.2 ⟨Φ2, S2.setV (f k.1) i⟩
theorem ws_setL {i : Nat} {m : Bool} (h : PS X st (tAsg (liftL X.K cl Wx tl) (gName i))) : WSx X cl c rl Wx st (sAsgL m i tl) := by
  refine ps_imp h fun D σ H ⟨ν, g, DW, KE, ⟨Φ, S⟩, h, L⟩ => ?_
  exact run_l S m h L.xs fun ws g1 Φ1 Φ2 H1 p vs k x S2 n1 _ n2 n3 e1 r f => L.nx _ g1 _ H1 k.2 ⟨Φ2, S2.setL e1 n2 n3 (S.gr.none_of n1) (f k.1) (fun o => S.noOwn n1 o) i⟩
theorem ws_if {cnd : Expr} {a b : List Stmt} (hc : WTx X cl Wx cnd tt) (ha : WBx X cl c rl Wx a s) (hb : WBx X cl c rl Wx b t) : WSx X cl c rl Wx (.If cnd a b pos) (sIf tt s t) := by
  refine ps_imp (ps_if hc ha hb) fun D σ H ⟨ν, g, DW, KE, ⟨Φ, S⟩, h, L⟩ => ?_
  refine run_t S h L.xs fun b g1 H1 k S2 => ?_
  cases b with
  | true => exact ⟨ν, g1, DW, KE, S2, by simpa using k, L⟩
  | false => exact ⟨ν, g1, DW, KE, S2, by simpa using k, L⟩

/-! ### while -/
def whileW (tt : TTw) (s : TSw) : Nat → TSw
  | 0 => fun _ _ _ _ => False
  | n + 1 => fun D KE ν g => tt ν g (fun b g1 => if b = true then s { nx := fun ν g => whileW tt s n D KE ν g, rt := D.rt, bk := D.nx, ct := fun ν g => whileW tt s n D KE ν g } KE ν g1 else D.nx ν g1) (kx KE ν)
def sWhile (tt : TTw) (s : TSw) : TSw := fun D KE ν g => ∃ n, whileW tt s n D KE ν g
theorem ws_while {cnd : Expr} {body : List Stmt} (hp : PassesOwn (model X.prog X.w) X.A X.env X.xe) (hc : WTx X cl Wx cnd tt) (hb : WBx X cl c rl Wx body s) : WSx X cl c rl Wx (.While cnd body [] pos) (sWhile tt s) := by
  refine ps_imp (ps_while hp hc hb) fun D σ H ⟨ν, g, DW, KE, S, ⟨n, h⟩, L⟩ => ?_
  refine ⟨fun n σ H => ∃ ν g, SR X.K c ν g σ H ∧ whileW tt s n DW KE ν g, ⟨n, ν, g, S, h⟩, ?_⟩
  rintro n σ H ⟨ν, g, ⟨Φ, S⟩, h⟩
  cases n with
  | zero => exact h.elim
  | succ n =>
    refine run_t (cl := cl) (Wx := Wx) S h L.xs fun b g1 H1 k S2 => ?_
    cases b with
    | true =>
      rw [if_pos rfl] at k ⊢
      refine ⟨fun σ H => ∃ ν g, SR X.K c ν g σ H ∧ whileW tt s n DW KE ν g, fun σ' H' z => ⟨n, Nat.lt_succ_self n, z⟩, ν, g1, _, KE, S2, k, ⟨fun ν' g' σ' H' z S' => ⟨ν', g', S', z⟩, L.nx, fun ν' g' σ' H' z S' => ⟨ν', g', S', z⟩, L.rt, L.xs⟩⟩
    | false =>
      rw [if_neg Bool.false_ne_true] at k ⊢
      exact L.nx ν g1 σ H1 k S2

/-! ### targets -/
inductive Tg where
  | nm (i : Nat)
  | tp (is : List Nat)
def setMany : List Nat → List W → Env → Env
  | i :: is, w :: ws, ν => setMany is ws (ν.set i (some w))
  | _, _, ν => ν
def Tg.put : Tg → W → Env → (Env → Prop) → Prop
  | .nm i, w, ν, K => K (ν.set i (some w))
  | .tp is, w, ν, K => ∃ ws, w = .tup ws ∧ ws.length = is.length ∧ K (setMany is ws ν)
def gNames : List Nat → TGs
  | [] => gNil
  | i :: is => gCons (gName i) (gNames is)
def Tg.tg (K : PySem.W.Frag) : Tg → TG
  | .nm i => gName i
  | .tp is => gTup K is.length (gNames is)
theorem names_run {K : PySem.W.Frag} {Φ H : Hp} {g : G} {KQ : Env → Prop} {Q : L2.St → Hp → Prop} (f : ∀ ν' σ', KQ ν' → SRp K c Φ ν' g σ' H → Q σ' H) :
    ∀ (is : List Nat) (ws : List W) (vs : List V) (ν : Env) (σ : L2.St), SRp K c Φ ν g σ H → RepAll K Φ ws vs → ws.length = is.length → KQ (setMany is ws ν) → gNames is vs σ H Q
  | [], [], _, ν, σ, S, r, _, k => by cases r; exact ⟨rfl, f ν σ k S⟩
  | [], _ :: _, _, _, _, _, _, l, _ => by simp at l
  | _ :: _, [], _, _, _, _, _, l, _ => by simp at l
  | i :: is, w :: ws, _, ν, σ, S, r, l, k => by
    cases r with
    | cons h r => exact ⟨_, _, rfl, names_run f is ws _ _ _ (S.setV h i) r (by simpa using l) k⟩
theorem Tg.run {K : PySem.W.Frag} {Φ H : Hp} {g : G} {ν : Env} {σ : L2.St} {tg : Tg} {w : W} {v : V} {KQ : Env → Prop} {Q : L2.St → Hp → Prop} (S : SRp K c Φ ν g σ H) (r : Rep K Φ w v) (h : tg.put w ν KQ) (f : ∀ ν' σ', KQ ν' → SRp K c Φ ν' g σ' H → Q σ' H) : tg.tg K v σ H Q := by
  cases tg with
  | nm i => exact f _ _ h (S.setV r i)
  | tp is =>
    obtain ⟨ws, rfl, l, k⟩ := h
    cases r with
    | tup hs r => exact ⟨_, _, rfl, Same.sqT S.gr.st.sub hs, by rw [← r.length, l], names_run f is ws _ ν σ S r l k⟩
def sAsgT (m : Bool) (tg : Tg) (te : TEw) : TSw := fun D KE ν g => te (vw m ν) g (fun w g1 => (m = true ∨ noLst w = true) ∧ tg.put w ν (fun ν' => D.nx ν' g1)) (kx KE ν)
theorem ws_setT {m : Bool} {tg : Tg} (h : PS X st (tAsg (liftE X.K cl Wx te) (tg.tg X.K))) : WSx X cl c rl Wx st (sAsgT m tg te) := by
  refine ps_imp h fun D σ H ⟨ν, g, DW, KE, ⟨Φ, S⟩, h, L⟩ => ?_
  exact run_e S m h L.xs fun w g1 Φ1 Φ2 H1 v k x S2 r f => Tg.run S2 (f k.1) k.2 fun ν' σ' k S' => L.nx ν' g1 σ' H1 k ⟨Φ2, S'⟩

/-! ### what is walked -/
/-- J walks the items ws as long as Φ stands -/
def YW (K : PySem.W.Frag) (Φ : Hp) (ws : List W) : Nat → Hp → V → Hp → Prop := fun i H x H' => ∀ g Φ1, Same Φ Φ1 → Sta K Φ1 g H → ∃ w Φ2, ws[i]? = some w ∧ Grow K Φ1 g H Φ2 g H' ∧ Rep K Φ2 w x
abbrev Wk (K : PySem.W.Frag) (J : It) (Φ : Hp) (ws : List W) : Prop := Walk J ws.length (fun H => Same Φ H) (YW K Φ ws)
def liftI (K : PySem.W.Frag) (cl : Str → Addr) (Wx : WX) (t : TAw) : TI := fun σ H R => ∃ Φ ν g KK KE, Sta K Φ g H ∧ ER K Φ ν σ ∧ t ν g KK KE ∧ (∀ ws g' Φ' H' J, KK ws g' → Grow K Φ g H Φ' g' H' → Wk K J Φ' ws → R J H') ∧ QX K cl Φ g H KE (WE Wx σ)
abbrev WIx (X : Cx) (cl : Str → Addr) (Wx : WX) (tg iter : Expr) (t : TAw) : Prop := PI X tg iter (liftI X.K cl Wx t)
theorem pi_imp {X : Cx} {tg iter : Expr} {t t' : TI} (h : PI X tg iter t) (i : ∀ σ H Q, t' σ H Q → t σ H Q) : PI X tg iter t' := ⟨fun pins s σ H Q I q => h.run pins s σ H Q I (i σ H Q q)⟩
/-- a list or a tuple -/
def iSeq (K : PySem.W.Frag) (tl : TE) : TI := fun σ H R => tl σ H fun x H1 => ∃ a, x = .ref a ∧ (((∃ xs, SqL K H1 a xs) ∧ R (Itl K a) H1) ∨ ((∃ xs, SqT K H1 a xs) ∧ R (Itt K a) H1))
theorem pi_seq {tg l : Expr} {tl : TE} (hl : PE X l tl) : PI X tg l (iSeq X.K tl) := by
  refine ⟨fun pins s σ H R I h => ?_⟩
  refine thn (hl.run pins s σ H _ I h) fun v s1 ⟨x, H1, I1, r1, q1⟩ => ?_
  obtain ⟨a, e, q | q⟩ := q1
  · obtain ⟨⟨xs, hq⟩, q⟩ := q
    subst e
    cases r1
    obtain ⟨its, rv, p, hz⟩ := I1.list hq
    refine wpAny_pyIter_list p.isList ?_
    refine ⟨s1.heap.objs.size, [s1.heap.objs.size], _, _, H1, rfl, I1.kept (t' := s1.toks) fun b o e => Heap.get?_push_of_some _ e, turn_list a _, ⟨_, Heap.get?_push_size _ rfl, rfl, rfl⟩, fun b hb => ?_, q⟩
    have e : b = s1.heap.objs.size := by simpa using hb
    subst e
    exact I1.fpOk (Nat.le_refl _) (I1.hok.fresh (Nat.le_refl _))
  · obtain ⟨⟨xs, hq⟩, q⟩ := q
    subst e
    cases r1
    obtain ⟨its, rv, p, hz⟩ := I1.tuple hq
    refine wpAny_pyIter_tuple (show s1.heap.IsTuple a its.toArray from p) ?_
    refine ⟨s1.heap.objs.size, [s1.heap.objs.size], _, _, H1, rfl, I1.kept (t' := s1.toks) fun b o e => Heap.get?_push_of_some _ e, turn_tuple a _, ⟨_, Heap.get?_push_size _ rfl, rfl, rfl⟩, fun b hb => ?_, q⟩
    have e : b = s1.heap.objs.size := by simpa using hb
    subst e
    exact I1.fpOk (Nat.le_refl _) (I1.hok.fresh (Nat.le_refl _))
def seqW : W → Option (List W)
  | .tup ws => some ws
  | .lst ws => some ws
  | .scr ws => some ws
  | _ => none
/-- the items of a list or tuple -/
def iW (te : TEw) : TAw := fun ν g K X => te ν g (fun w g1 => ∃ ws, seqW w = some ws ∧ K ws g1) X
theorem wk_list {K : PySem.W.Frag} {Φ : Hp} {a : Addr} {xs : List V} {ws : List W} (h : SqL K Φ a xs) (r : RepAll K Φ ws xs) (u : ∀ H ys, Same Φ H → SqL K H a ys → ys = xs) : Wk K (Itl K a) Φ ws := by
  refine ⟨fun i H hi s => ?_, fun H s => ⟨xs, Same.seq s h, by rw [r.length]; exact Nat.le_refl _⟩, fun i H x H' hi s y => ?_⟩
  · rw [r.length] at hi
    exact ⟨xs, xs[i], Same.seq s h, by simp [hi]⟩
  · obtain ⟨e, y⟩ := y
    subst e
    intro g Φ1 s1 st
    obtain ⟨w, e1, r1⟩ := r.getV (y xs (Same.seq s h))
    exact ⟨w, Φ1, e1, .refl st, r1.mono s1⟩
theorem wk_list' {K : PySem.W.Frag} {Φ : Hp} {a : Addr} {xs : List V} {ws : List W} (h : SqL K Φ a xs) (r : RepAll K Φ ws xs) : Wk K (Itl K a) Φ ws := by
  refine ⟨fun i H hi s => ?_, fun H s => ⟨xs, Same.seq s h, by rw [r.length]; exact Nat.le_refl _⟩, fun i H x H' hi s y => ?_⟩
  · rw [r.length] at hi
    exact ⟨xs, xs[i], Same.seq s h, by simp [hi]⟩
  · obtain ⟨e, y⟩ := y
    subst e
    intro g Φ1 s1 st
    obtain ⟨w, e1, r1⟩ := r.getV (y xs (Same.seq s h))
    exact ⟨w, Φ1, e1, .refl st, r1.mono s1⟩
theorem wk_tup {K : PySem.W.Frag} {Φ : Hp} {a : Addr} {xs : List V} {ws : List W} (h : SqT K Φ a xs) (r : RepAll K Φ ws xs) : Wk K (Itt K a) Φ ws := by
  refine ⟨fun i H hi s => ?_, fun H s => ⟨xs, Same.sqT s h, by rw [r.length]; exact Nat.le_refl _⟩, fun i H x H' hi s y => ?_⟩
  · rw [r.length] at hi
    exact ⟨xs, xs[i], Same.sqT s h, by simp [hi]⟩
  · obtain ⟨e, y⟩ := y
    subst e
    intro g Φ1 s1 st
    obtain ⟨w, e1, r1⟩ := r.getV (y xs (Same.sqT s h))
    exact ⟨w, Φ1, e1, .refl st, r1.mono s1⟩
theorem wi_seq {tg l : Expr} (hl : WEx X cl Wx l te) : WIx X cl Wx tg l (iW te) := by
  refine pi_imp (pi_seq hl) fun σ H R h => ?_
  obtain ⟨Φ, ν, g, KK, KE, st, er, k, q, qx⟩ := h
  refine e1 st er k qx fun w g1 Φ1 H1 v k1 x1 r1 => ?_
  obtain ⟨ws, e, k1⟩ := k1
  cases r1 with
  | tup hs r => cases e; exact ⟨_, rfl, .inr ⟨⟨_, Same.sqT x1.st.sub hs⟩, q _ g1 Φ1 H1 _ k1 x1 (wk_tup hs r)⟩⟩
  | lst hs r => cases e; exact ⟨_, rfl, .inl ⟨⟨_, Same.seq x1.st.sub (SqL.of hs)⟩, q _ g1 Φ1 H1 _ k1 x1 (wk_list' (SqL.of hs) r)⟩⟩
  | scr hs r => cases e; exact ⟨_, rfl, .inl ⟨⟨_, Same.seq x1.st.sub hs⟩, q _ g1 Φ1 H1 _ k1 x1 (wk_list' hs r)⟩⟩
  | _ => cases e
/-- the ints of a range -/
def rngW (lo hi : Int) : List W := (List.range (hi - lo).toNat).map fun (k : Nat) => W.int (lo + (k : Int))
def iR1 (t : TAw) : TAw := fun ν g K X => t ν g (fun ws g1 => ∃ j : Int, ws = [.int j] ∧ j < 2 ^ 62 ∧ -(2 ^ 62) ≤ j ∧ K (rngW 0 j) g1) X
def iR2 (t : TAw) : TAw := fun ν g K X => t ν g (fun ws g1 => ∃ i j : Int, ws = [.int i, .int j] ∧ (-(2 ^ 62) ≤ i ∧ i < 2 ^ 62 ∧ -(2 ^ 62) ≤ j ∧ j < 2 ^ 62) ∧ K (rngW i j) g1) X
theorem wk_rng {K : PySem.W.Frag} {Φ : Hp} {lo hi : Int} : Wk K (Itr lo (hi - lo).toNat) Φ (rngW lo hi) := by
  have hl : (rngW lo hi).length = (hi - lo).toNat := by unfold rngW; simp
  rw [Wk, hl]
  refine ⟨fun i H hi s => hi, fun H s => Nat.le_refl _, fun i H x H' hi' s y => ?_⟩
  obtain ⟨e, y⟩ := y
  subst e
  subst y
  intro g Φ1 s1 st
  exact ⟨.int (lo + i), Φ1, by unfold rngW; simp [hi'], .refl st, .int _⟩
theorem RepAll.int1 {K : PySem.W.Frag} {Φ : Hp} {i : Int} {vs : List V} (r : RepAll K Φ [.int i] vs) : vs = [.int i] := by
  cases r with | cons h r => cases h; cases r; rfl
theorem RepAll.int2 {K : PySem.W.Frag} {Φ : Hp} {i j : Int} {vs : List V} (r : RepAll K Φ [.int i, .int j] vs) : vs = [.int i, .int j] := by
  cases r with | cons h r => cases h; rw [RepAll.int1 r]
def liftR (K : PySem.W.Frag) (cl : Str → Addr) (Wx : WX) (t : TAw) : TI := fun σ H R => ∃ Φ ν g KK KE, Sta K Φ g H ∧ ER K Φ ν σ ∧ t ν g KK KE ∧ (∀ lo hi g' Φ' H', KK (rngW lo hi) g' → Grow K Φ g H Φ' g' H' → R (Itr lo (hi - lo).toNat) H') ∧ QX K cl Φ g H KE (WE Wx σ)
abbrev WRx (X : Cx) (cl : Str → Addr) (Wx : WX) (tg iter : Expr) (t : TAw) : Prop := PI X tg iter (liftR X.K cl Wx t)
theorem wr_range1 {tg a : Expr} {ta : TAw} {p : Pos} {n : Nat} (hg : Gl X "range") (hm : X.mg "range" = none) (ha : WAx X cl Wx n [a] ta) (hs : starEach [a] X.env = [(false, eval a X.env)] := by rfl) : WRx X cl Wx tg (.Call (.Name "range" p) [a] [] pos) (iR1 ta) := by
  refine pi_imp (pi_range1 hg hm ha hs) fun σ H R h => ?_
  obtain ⟨Φ, ν, g, KK, KE, st, er, k, q, qx⟩ := h
  refine a1 st er k qx fun ws g1 Φ1 H1 vs k1 hl x1 r1 => ?_
  obtain ⟨j, rfl, h1, h2, k1⟩ := k1
  refine ⟨j, r1.int1, h2, h1, ?_⟩
  have := q 0 j g1 Φ1 H1 k1 x1
  rw [Int.sub_zero] at this
  exact this
theorem wr_range2 {tg a b : Expr} {ta : TAw} {p : Pos} {n : Nat} (hg : Gl X "range") (hm : X.mg "range" = none) (ha : WAx X cl Wx n [a, b] ta) (hs : starEach [a, b] X.env = [(false, eval a X.env), (false, eval b X.env)] := by rfl) (hs2 : starEach [b] X.env = [(false, eval b X.env)] := by rfl) : WRx X cl Wx tg (.Call (.Name "range" p) [a, b] [] pos) (iR2 ta) := by
  refine pi_imp (pi_range2 hg hm ha hs hs2) fun σ H R h => ?_
  obtain ⟨Φ, ν, g, KK, KE, st, er, k, q, qx⟩ := h
  refine a1 st er k qx fun ws g1 Φ1 H1 vs k1 hl x1 r1 => ?_
  obtain ⟨i, j, rfl, h1, k1⟩ := k1
  exact ⟨i, j, r1.int2, h1, q i j g1 Φ1 H1 k1 x1⟩
theorem wi_rng {tg iter : Expr} (h : WRx X cl Wx tg iter tl) : WIx X cl Wx tg iter tl := pi_imp h fun σ H R ⟨Φ, ν, g, KK, KE, st, er, k, q, qx⟩ =>
  ⟨Φ, ν, g, KK, KE, st, er, k, fun lo hi g1 Φ1 H1 k1 x1 => q _ g1 Φ1 H1 _ k1 x1 wk_rng, qx⟩

/-! ### for -/
def forW (tg : Tg) (s : TSw) : List W → TSw
  | [] => fun D _ ν g => D.nx ν g
  | w :: r => fun D KE ν g => tg.put w ν fun ν' => s { nx := fun ν g => forW tg s r D KE ν g, rt := D.rt, bk := D.nx, ct := fun ν g => forW tg s r D KE ν g } KE ν' g
def sFor (m : Bool) (tg : Tg) (ti : TAw) (s : TSw) : TSw := fun D KE ν g => ti (vw m ν) g (fun ws g1 => forW tg s ws D KE ν g1) (kx KE ν)
theorem SRp.base {K : PySem.W.Frag} {Φ Ψ H : Hp} {ν : Env} {g : G} {σ : L2.St} (S : SRp K c Φ ν g σ H) (h : Same Ψ Φ) : SRp K { c with Ψ := Ψ } Φ ν g σ H := ⟨S.gr, h, S.slot, S.uniq, S.len⟩
theorem SRp.unbase {K : PySem.W.Frag} {Φ Ψ H : Hp} {ν : Env} {g : G} {σ : L2.St} (S : SRp K { c with Ψ := Ψ } Φ ν g σ H) (h : Same c.Ψ Ψ) : SRp K c Φ ν g σ H := ⟨S.gr, h.trans S.psi, S.slot, S.uniq, S.len⟩
theorem for_run {K : PySem.W.Frag} {tg : Tg} {J : It} {Φ1 H : Hp} {ws : List W} {ν : Env} {g : G} {σ : L2.St} {DW : DW} {KE : XS} {D : Ends} (wk : Wk K J Φ1 ws) (S : SRp K c Φ1 ν g σ H) (h : forW tg s ws DW KE ν g) (L : Lf K cl c rl Wx DW KE D) (hc : Same c.Ψ Φ1) :
    ∃ W : Nat → Nat → L2.St → Hp → Prop, (∃ m, W 0 m σ H) ∧ ∀ i m σ H, W i m σ H →
      (J.stop i H ∧ D.nx σ H) ∨ (J.go i H ∧ ∃ N : L2.St → Hp → Prop, (∀ σ' H', N σ' H' → ∃ m', m' < m ∧ W (i + 1) m' σ' H') ∧ ∀ x H', J.yld i H x H' → tg.tg K x σ H' fun σ2 H2 => liftS K cl { c with Ψ := Φ1 } rl Wx s { D with nx := N, ct := N, bk := D.nx } σ2 H2) := by
  refine for_it wk (fun i σ H => ∃ ν g, SR K { c with Ψ := Φ1 } ν g σ H ∧ forW tg s (ws.drop i) DW KE ν g) ⟨ν, g, ⟨Φ1, S.base (Same.refl _)⟩, by simpa using h⟩ (fun i σ H _ ⟨ν, g, ⟨Φ, S⟩, _⟩ => S.psi.trans S.gr.st.sub) (fun i x σ H H' hi ⟨ν, g, ⟨Φ, S⟩, h⟩ y => ?_) fun σ H ⟨ν, g, ⟨Φ, S⟩, h⟩ => ?_
  · obtain ⟨w, Φ2, e, x1, r⟩ := y g Φ S.psi S.gr.st
    have ed : ws.drop i = w :: ws.drop (i + 1) := by
      rw [List.getElem?_eq_some_iff] at e
      obtain ⟨hl, e⟩ := e
      rw [List.drop_eq_getElem_cons hl, e]
    rw [ed] at h
    refine Tg.run (S.stay x1) r h fun ν' σ' k S' => ?_
    refine ⟨ν', g, _, KE, ⟨Φ2, S'⟩, k, ⟨fun ν' g' σ' H' z S' => ⟨ν', g', S', z⟩, fun ν' g' σ' H' z ⟨Φ3, S3⟩ => L.nx ν' g' σ' H' z ⟨Φ3, S3.unbase hc⟩, fun ν' g' σ' H' z S' => ⟨ν', g', S', z⟩, L.rt, fun n fs ν' g' Φ' σ' H' d fvs z1 z2 z3 z4 z5 z6 => L.xs n fs ν' g' Φ' σ' H' d fvs z1 (z2.unbase hc) z3 z4 z5 z6⟩⟩
  · rw [List.drop_length] at h
    exact L.nx ν g σ H h ⟨Φ, S.unbase hc⟩
/-- iterates over what one's own lists are not in -/
theorem ws_for {tgE iter : Expr} {body : List Stmt} {tg : Tg} (hp : PassesOwn (model X.prog X.w) X.A X.env X.xe) (hc : X.calm = true) (hi : WIx X cl Wx tgE iter tl) (hg : PG X tgE (tg.tg X.K)) (hb : ∀ c, WBx X cl c rl Wx body s)
    (hs : ∀ x, foldedSetIterable iter X.env x = pure x := by intro _; rfl) : WSx X cl c rl Wx (.For tgE iter body [] pos) (sFor true tg tl s) := by
  refine ⟨fun pins st σ H D I h => ?_⟩
  obtain ⟨ν, g, DW, KE, ⟨Φ, S⟩, h, L⟩ := h
  -- the loop's base is known only behind the iterable
  let tb : TS := fun D σ H => ∃ Ψ, liftS X.K cl { c with Ψ := Ψ } rl Wx s D σ H
  have hb' : PSs X body tb := ⟨fun pins st σ H D I ⟨Ψ, q⟩ => (hb { c with Ψ := Ψ }).run pins st σ H D I q⟩
  refine (ps_for hp hc hi hg hb' hs).run pins st σ H D I ?_
  refine ⟨Φ, vw true ν, g, _, kx KE ν, S.gr.st, S.hid, h, fun ws g1 Φ1 H1 J k x wk => ?_, qx_of S (fun Φ1 g1 H1 x => ⟨Φ1, S.stay x, fun _ _ _ r => r⟩) L.xs⟩
  obtain ⟨W, h0, hW⟩ := for_run (s := s) wk (S.stay x) k L (S.psi.trans x.phi)
  refine ⟨W, h0, fun i m σ H w => (hW i m σ H w).imp id fun ⟨go, N, hN, st⟩ => ⟨go, N, hN, fun x H' y => ?_⟩⟩
  have z := st x H' y
  cases tg with
  | nm i => exact ⟨_, z⟩
  | tp is =>
    obtain ⟨a, xs, e1, e2, e3, z⟩ := z
    refine ⟨a, xs, e1, e2, e3, ?_⟩
    have go : ∀ (is : List Nat) (xs : List V) (σ : L2.St), gNames is xs σ H' (fun σ2 H2 => liftS X.K cl { c with Ψ := Φ1 } rl Wx s { D with nx := N, ct := N, bk := D.nx } σ2 H2) → gNames is xs σ H' (fun σ2 H2 => tb { D with nx := N, ct := N, bk := D.nx } σ2 H2) := by
      intro is
      induction is with
      | nil => intro xs σ z; exact ⟨z.1, _, z.2⟩
      | cons i is ih => intro xs σ ⟨v, r, e, z⟩; exact ⟨v, r, e, ih _ _ z⟩
    exact go is xs σ z
/-- over a range, whatever the bounds hang on -/
theorem ws_forR {tgE iter : Expr} {body : List Stmt} {i : Nat} (hp : PassesOwn (model X.prog X.w) X.A X.env X.xe) (hc : X.calm = true) (hi : WRx X cl Wx tgE iter tl) (hg : PG X tgE (gName i)) (hb : ∀ c, WBx X cl c rl Wx body s)
    (hs : ∀ x, foldedSetIterable iter X.env x = pure x := by intro _; rfl) : WSx X cl c rl Wx (.For tgE iter body [] pos) (sFor false (.nm i) tl s) := by
  refine ⟨fun pins st σ H D I h => ?_⟩
  obtain ⟨ν, g, DW, KE, ⟨Φ, S⟩, h, L⟩ := h
  let tb : TS := fun D σ H => ∃ Ψ, liftS X.K cl { c with Ψ := Ψ } rl Wx s D σ H
  have hb' : PSs X body tb := ⟨fun pins st σ H D I ⟨Ψ, q⟩ => (hb { c with Ψ := Ψ }).run pins st σ H D I q⟩
  obtain ⟨Φv, gr, er, bk⟩ := S.run false
  refine (ps_for hp hc hi hg hb' hs).run pins st σ H D I ?_
  refine ⟨Φv, vw false ν, g, _, kx KE ν, gr.st, er, h, fun lo hi g1 Φ1 H1 k x => ?_, qx_of S (fun Φ1 g1 H1 x => by obtain ⟨Φ2, S2, _, _, _, f5⟩ := bk Φ1 g1 H1 x; exact ⟨Φ2, S2, f5⟩) L.xs⟩
  obtain ⟨Φ2, S2, _⟩ := bk Φ1 g1 H1 x
  obtain ⟨W, h0, hW⟩ := for_run (s := s) (wk_rng (Φ := Φ2)) S2 k L S2.psi
  exact ⟨W, h0, fun i m σ H w => (hW i m σ H w).imp id fun ⟨go, N, hN, st⟩ => ⟨go, N, hN, fun x H' y => ⟨_, st x H' y⟩⟩⟩
end
end WL
/-! WL4: comprehensions, one's own lists changed, fields, methods, a def by its body. -/
namespace WL
open PySem PySem.Spec PyProof.Rows L2

/-! ### comprehensions -/
def wipeW (ν : Env) : List Nat → Env
  | [] => ν
  | v :: vs => (wipeW ν vs).set v none
theorem wipeW_some {ν : Env} {i : Nat} {w : W} : ∀ {vs : List Nat}, (wipeW ν vs)[i]? = some (some w) → ν[i]? = some (some w) ∧ i ∉ vs
  | [], h => ⟨h, by simp⟩
  | v :: vs, h => by
    unfold wipeW at h
    by_cases hi : v = i
    · subst hi
      by_cases hl : v < (wipeW ν vs).length
      · rw [List.getElem?_set_self hl] at h; cases h
      · rw [List.getElem?_eq_none (by simpa using hl)] at h; cases h
    · rw [List.getElem?_set_ne hi] at h
      obtain ⟨h1, h2⟩ := wipeW_some h
      exact ⟨h1, by simp only [List.mem_cons, not_or]; exact ⟨fun e => hi e.symm, h2⟩⟩
theorem wipeW_length (ν : Env) : ∀ vs : List Nat, (wipeW ν vs).length = ν.length
  | [] => rfl
  | v :: vs => by unfold wipeW; rw [List.length_set, wipeW_length ν vs]
theorem wipe_get (σ : L2.St) (j : Nat) : ∀ vs : List Nat, (wipe σ vs)[j]? = if j ∈ vs then (if j < σ.length then some none else none) else σ[j]?
  | [] => by simp [wipe]
  | v :: vs => by
    have ih := wipe_get σ j vs
    unfold wipe
    by_cases h : v = j
    · subst h
      rw [if_pos (List.mem_cons_self ..)]
      by_cases hl : v < σ.length
      · rw [if_pos hl, List.getElem?_set_self (by rw [wipe_length]; exact hl)]
      · rw [if_neg hl, List.getElem?_eq_none (by rw [List.length_set, wipe_length]; omega)]
    · rw [List.getElem?_set_ne h, ih]
      have : (j ∈ v :: vs) = (j ∈ vs) := by simp only [List.mem_cons]; simp [Ne.symm h]
      simp only [this]
theorem wipe_wipe (σ : L2.St) (vs : List Nat) : wipe (wipe σ vs) vs = wipe σ vs := by
  apply List.ext_getElem?
  intro j
  rw [wipe_get, wipe_get, wipe_length]
  by_cases h : j ∈ vs
  · rw [if_pos h, if_pos h]
  · rw [if_neg h]
theorem wipe_set (σ : L2.St) (vs : List Nat) {i : Nat} (h : i ∈ vs) (x : Option V) : wipe (σ.set i x) vs = wipe σ vs := by
  apply List.ext_getElem?
  intro j
  rw [wipe_get, wipe_get, List.length_set]
  by_cases hj : j ∈ vs
  · rw [if_pos hj, if_pos hj]
  · rw [if_neg hj, if_neg hj, List.getElem?_set_ne (fun e => hj (by rw [← e]; exact h))]

def Tg.inn (vs : List Nat) : Tg → Bool
  | .nm i => vs.contains i
  | .tp is => is.all fun i => vs.contains i
theorem ER.set {K : PySem.W.Frag} {Φ : Hp} {ν : Env} {σ : L2.St} {w : W} {v : V} (h : ER K Φ ν σ) (r : Rep K Φ w v) (i : Nat) : ER K Φ (ν.set i (some w)) (σ.set i (some v)) := by
  refine ⟨fun j u e => ?_, by rw [List.length_set, List.length_set]; exact h.2⟩
  by_cases hj : i = j
  · subst hj
    by_cases hl : i < ν.length
    · rw [List.getElem?_set_self hl] at e
      cases e
      have e2 : w.view = w := by cases r <;> rfl
      exact ⟨v, List.getElem?_set_self (by rw [← h.2]; exact hl), by rw [e2]; exact r⟩
    · rw [List.getElem?_eq_none (by simpa using hl)] at e; cases e
  · rw [List.getElem?_set_ne hj] at e ⊢
    exact h.1 j u e
theorem ER.wipe {K : PySem.W.Frag} {Φ : Hp} {ν : Env} {σ : L2.St} (h : ER K Φ ν σ) (vs : List Nat) : ER K Φ (wipeW ν vs) (L2.wipe σ vs) := by
  refine ⟨fun j u e => ?_, by rw [wipeW_length, wipe_length]; exact h.2⟩
  obtain ⟨e1, n⟩ := wipeW_some e
  obtain ⟨v, e2, r⟩ := h.1 j u e1
  exact ⟨v, by rw [wipe_get, if_neg n]; exact e2, r⟩
theorem names_runE {K : PySem.W.Frag} {Φ H : Hp} {us : List Nat} {KQ : Env → Prop} {σ0 : L2.St} {Q : L2.St → Hp → Prop} (f : ∀ ν' σ', KQ ν' → ER K Φ ν' σ' → wipe σ' us = wipe σ0 us → Q σ' H) :
    ∀ (is : List Nat) (ws : List W) (vs : List V) (ν : Env) (σ : L2.St), ER K Φ ν σ → wipe σ us = wipe σ0 us → (is.all fun i => us.contains i) = true → RepAll K Φ ws vs → ws.length = is.length → KQ (setMany is ws ν) → gNames is vs σ H Q
  | [], [], _, ν, σ, S, hw, hi, r, _, k => by cases r; exact ⟨rfl, f ν σ k S hw⟩
  | [], _ :: _, _, _, _, _, _, _, _, l, _ => by simp at l
  | _ :: _, [], _, _, _, _, _, _, _, l, _ => by simp at l
  | i :: is, w :: ws, _, ν, σ, S, hw, hi, r, l, k => by
    cases r with
    | cons h r =>
      rw [List.all_cons, Bool.and_eq_true] at hi
      exact ⟨_, _, rfl, names_runE f is ws _ _ _ (S.set h i) (by rw [wipe_set _ _ (by simpa using hi.1)]; exact hw) hi.2 r (by simpa using l) k⟩
theorem Tg.runE {K : PySem.W.Frag} {Φ H : Hp} {g : G} {us : List Nat} {ν : Env} {σ : L2.St} {tg : Tg} {w : W} {v : V} {KQ : Env → Prop} {Q : L2.St → Hp → Prop} (st : Sta K Φ g H) (S : ER K Φ ν σ) (hi : tg.inn us = true) (r : Rep K Φ w v) (h : tg.put w ν KQ)
    (f : ∀ ν' σ', KQ ν' → ER K Φ ν' σ' → wipe σ' us = wipe σ us → Q σ' H) : tg.tg K v σ H Q := by
  cases tg with
  | nm i => exact f _ _ h (S.set r i) (wipe_set _ _ (by simpa [Tg.inn] using hi) _)
  | tp is =>
    obtain ⟨ws, rfl, l, k⟩ := h
    cases r with
    | tup hs r => exact ⟨_, _, rfl, Same.sqT st.sub hs, by rw [← r.length, l], names_runE f is ws _ ν σ S rfl hi r l k⟩

def tYesW : TTw := fun _ g K _ => K true g
def compW (tg : Tg) (us : List Nat) (tt : TTw) (te : TEw) (ν : Env) : List W → List W → (List W → G → Prop) → G → Prop
  | [], acc, K, g => K acc g
  | w :: r, acc, K, g => tg.put w (wipeW ν us) fun ν' => tt ν' g (fun b g1 => if b = true then te ν' g1 (fun u g2 => compW tg us tt te ν r (acc ++ [u]) K g2) noX else compW tg us tt te ν r acc K g1) noX
def lComp (tg : Tg) (us : List Nat) (tl : TAw) (tt : TTw) (te : TEw) : TAw := fun ν g K X => tl ν g (fun ws g1 => ws.length < 16777216 ∧ compW tg us tt te ν ws [] K g1) X
theorem pts_imp {X : Cx} {ifs : List Expr} {t t' : TT} (h : PTs X ifs t) (i : ∀ σ H Q, t' σ H Q → t σ H Q) : PTs X ifs t' := ⟨fun pins s σ H Q I q => h.run pins s σ H Q I (i σ H Q q)⟩
abbrev W0 : WX := fun _ _ _ _ => False
abbrev WPx (X : Cx) (cl : Str → Addr) (ifs : List Expr) (t : TTw) : Prop := PTs X ifs (liftT X.K cl W0 t)
theorem wp_nil {X : Cx} {cl : Str → Addr} : WPx X cl [] tYesW := pts_imp pts_nil fun σ H Q ⟨Φ, ν, g, KK, KE, st, er, k, q, qx⟩ => q true g Φ H k (.refl st)
theorem wp_one {X : Cx} {cl : Str → Addr} {c : Expr} {t : TTw} (h : WTx X cl W0 c t) : WPx X cl [c] t := pts_one h
theorem Grow.poke {K : PySem.W.Frag} {Φ Φ' H H' : Hp} {g g' : G} {D : Addr} {o : HO} (x : Grow K Φ g H Φ' g' H') (n1 : H D = none) (n2 : Φ' D = none) (n3 : g' D = none) : Grow K Φ g H Φ' g' (upd H' D o) := by
  refine ⟨⟨fun b u e => ?_, x.st.sep, fun b u e => ?_⟩, x.phi, fun b u e n => ?_, x.gk, x.fresh⟩
  · rw [upd_ne (ne_of_none e n2)]; exact x.st.sub _ _ e
  · have hne : b ≠ D := fun z => by rw [z, n3] at e; cases e
    exact (x.st.rep b u e).mono (Same.refl _) (upd_ne hne)
  · rw [upd_ne (ne_of_none e n1)]; exact x.keep b u e n
theorem lc_run {K : PySem.W.Frag} {cl : Str → Addr} {tg : Tg} {us : List Nat} {tt : TTw} {te : TEw} {J : It} {Φ1 H1 : Hp} {g1 : G} {ws : List W} {ν : Env} {σ : L2.St} {KK : List W → G → Prop} {D : Addr} {Q : VK} (hi : tg.inn us = true) (hl : ws.length < 16777216)
    (st1 : Sta K Φ1 g1 H1) (er : ER K Φ1 ν σ) (wk : Wk K J Φ1 ws) (hD : H1 D = none) (h : compW tg us tt te ν ws [] KK g1)
    (q : ∀ us g' Φ' H' vs, KK us g' → Grow K Φ1 g1 H1 Φ' g' H' → Φ' D = none → g' D = none → H' D = some (.lst vs) → RepAll K Φ' us vs → Q (.ref D) H') :
    ∃ W : Nat → Nat → Hp → Prop, (∃ m, W 0 m (upd H1 D (.lst []))) ∧ ∀ i m H, W i m H →
      (J.stop i H ∧ Q (.ref D) H) ∨ (J.go i H ∧ ∃ Nx : Hp → Prop, (∀ H', Nx H' → ∃ m', m' < m ∧ W (i + 1) m' H') ∧ ∀ x H', J.yld i H x H' → tg.tg K x (wipe σ us) H' fun σ2 H2 => wipe σ2 us = wipe σ us ∧ liftT K cl W0 tt σ2 H2 fun b H3 =>
        if b = true then liftE K cl W0 te σ2 H3 fun y H4 => ∃ acc, H4 D = some (.lst acc) ∧ acc.length < sizeLine ∧ Nx (upd H4 D (.lst (acc ++ [y]))) else Nx H3) := by
  refine lc_it wk (fun i H => ∃ acc g Φ' vs, Grow K Φ1 g1 H1 Φ' g H ∧ H D = some (.lst vs) ∧ Φ' D = none ∧ g D = none ∧ RepAll K Φ' acc vs ∧ acc.length ≤ i ∧ compW tg us tt te ν (ws.drop i) acc KK g)
    ⟨[], g1, Φ1, [], Grow.own st1 hD, upd_same, st1.pH hD, st1.gH hD, .nil, Nat.le_refl _, by simpa using h⟩ (fun i H _ ⟨acc, g, Φ', vs, x, _⟩ => x.phi.trans x.st.sub) (fun i x H H' hlt ⟨acc, g, Φ', vs, x1, eD, n2, n3, ra, hn, hc⟩ y => ?_) fun H ⟨acc, g, Φ', vs, x1, eD, n2, n3, ra, hn, hc⟩ => ?_
  · obtain ⟨w, Φ2, e, x2, r⟩ := y g Φ' x1.phi x1.st
    have ed : ws.drop i = w :: ws.drop (i + 1) := by
      rw [List.getElem?_eq_some_iff] at e
      obtain ⟨hl, e⟩ := e
      rw [List.drop_eq_getElem_cons hl, e]
    rw [ed] at hc
    obtain ⟨k1, k2⟩ := x2.keep D _ eD n3
    have n4 : Φ2 D = none := by
      cases z : Φ2 D with
      | none => rfl
      | some o =>
        rcases x2.fresh D (by rw [z]; simp) with z' | z'
        · exact absurd n2 z'
        · rw [eD] at z'; cases z'
    have x12 := x1.trans x2
    refine Tg.runE (us := us) x2.st ((er.mono (x12.phi)).wipe us) hi r hc fun ν' σ' k el hw => ⟨hw.trans (wipe_wipe _ _), ?_⟩
    refine ⟨Φ2, ν', g, _, noX, x2.st, el, k, fun b g3 Φ3 H3 k3 x3 => ?_, QX.no⟩
    obtain ⟨k4, k5⟩ := x3.keep D _ k1 k2
    have n5 : Φ3 D = none := by
      cases z : Φ3 D with
      | none => rfl
      | some o =>
        rcases x3.fresh D (by rw [z]; simp) with z' | z'
        · exact absurd n4 z'
        · rw [k1] at z'; cases z'
    have x13 := x12.trans x3
    cases b with
    | false =>
      rw [if_neg Bool.false_ne_true] at k3 ⊢
      exact ⟨acc, g3, Φ3, vs, x13, k4, n5, k5, ra.mono (x2.phi.trans x3.phi), by omega, k3⟩
    | true =>
      rw [if_pos rfl] at k3 ⊢
      refine ⟨Φ3, ν', g3, _, noX, x3.st, el.mono x3.phi, k3, fun u g4 Φ4 H4 v k6 x4 r4 => ?_, QX.no⟩
      obtain ⟨k7, k8⟩ := x4.keep D _ k4 k5
      have n6 : Φ4 D = none := by
        cases z : Φ4 D with
        | none => rfl
        | some o =>
          rcases x4.fresh D (by rw [z]; simp) with z' | z'
          · exact absurd n5 z'
          · rw [k4] at z'; cases z'
      have ra4 := ra.mono ((x2.phi.trans x3.phi).trans x4.phi)
      refine ⟨vs, k7, ?_, acc ++ [u], g4, Φ4, vs ++ [v], (x13.trans x4).poke hD n6 k8, upd_same, n6, k8, ra4.append (.cons r4 .nil), ?_, k6⟩
      · rw [← ra.length, sizeLine_eq]; omega
      · rw [List.length_append, List.length_singleton]; omega
  · rw [List.drop_length] at hc
    exact q acc g Φ' H vs hc x1 n2 n3 eD ra
section
variable {X : Cx} {cl : Str → Addr} {c : Bs} {rl : Bool} {Wx : WX} {st : Stmt} {rest : List Stmt} {e : Expr} {te : TEw} {tt : TTw} {tl : TAw} {s t : TSw} {pos : Pos}
theorem comp_ok {tg : Tg} {us : List Nat} {σ : L2.St} {H : Hp} {Q : VK} (hi : tg.inn us = true) (h : liftL X.K cl Wx (lComp tg us tl tt te) σ H Q) :
    tLc (liftI X.K cl Wx tl) (tg.tg X.K) (liftT X.K cl W0 tt) (liftE X.K cl W0 te) us σ H Q := by
  obtain ⟨Φ, ν, g, KK, KE, st, er, k, q, qx⟩ := h
  refine ⟨Φ, ν, g, _, KE, st, er, k, fun ws g1 Φ1 H1 J k1 x1 wk D hD => ?_, qx⟩
  exact lc_run hi k1.1 x1.st (er.mono x1.phi) wk hD k1.2 fun us g' Φ' H' vs k2 x2 n1 n2 e r => q us g' Φ' H' D vs k2 (x1.trans x2) (x1.none_of hD) n1 n2 e r
/-- [elt for target in iter if ..] -/
theorem wl_lc {elt tgE iter : Expr} {ifs : List Expr} {scope : Scope} {own : List (Str × Nat)} {tg : Tg} (hc : X.calm = true) (hN : X.N.Nodup) (hi : WIx X cl Wx tgE iter tl) (ok : BlkOk X.N X.env.scope scope own)
    (hg : ∀ (s : Shared) (H : Hp) (C : Addr) (cl : List (Str × Addr)) (fp : List Addr), PG (X.blk s H scope (compEnvC scope cl C X.env) fp) tgE (tg.tg X.K)) (ht : ∀ (s : Shared) (H : Hp) (C : Addr) (cl' : List (Str × Addr)) (fp : List Addr), WPx (X.blk s H scope (compEnvC scope cl' C X.env) fp) cl ifs tt)
    (he : ∀ (s : Shared) (H : Hp) (C : Addr) (cl' : List (Str × Addr)) (fp : List Addr), WEx (X.blk s H scope (compEnvC scope cl' C X.env) fp) cl W0 elt te) (hin : tg.inn (own.map (·.2)) = true := by decide) (hs : ∀ x, foldedSetIterable iter X.env x = pure x := by intro _; rfl) :
    WLx X cl Wx (.ListComp elt [⟨tgE, iter, ifs, 0⟩] scope pos) (lComp tg (own.map (·.2)) tl tt te) :=
  pe_imp (pe_lc hc hN hi ok hg ht he hs) fun σ H Q h => comp_ok hin h
/-- name = [..] on one line -/
theorem ws_setLc {i : Nat} {y : Str} {py : Pos} {m : Bool} {elt tgE iter : Expr} {ifs : List Expr} {scope : Scope} {own : List (Str × Nat)} {spos : Pos} {tg : Tg} (hc : X.calm = true) (hN : X.N.Nodup) (hy : X.N[i]? = some y) (hyl : X.env.scope.names.lookup y = some .local)
    (hsw : swapsWith (.ListComp elt [⟨tgE, iter, ifs, 0⟩] scope pos) (some (.Name y py)) spos.line X.env = pure true) (hi : WIx X cl Wx tgE iter tl) (ok : BlkOk X.N X.env.scope scope own)
    (hg : ∀ (s : Shared) (H : Hp) (C : Addr) (cl : List (Str × Addr)) (fp : List Addr), PG (X.blk s H scope (compEnvC scope cl C X.env) fp) tgE (tg.tg X.K)) (ht : ∀ (s : Shared) (H : Hp) (C : Addr) (cl' : List (Str × Addr)) (fp : List Addr), WPx (X.blk s H scope (compEnvC scope cl' C X.env) fp) cl ifs tt)
    (he : ∀ (s : Shared) (H : Hp) (C : Addr) (cl' : List (Str × Addr)) (fp : List Addr), WEx (X.blk s H scope (compEnvC scope cl' C X.env) fp) cl W0 elt te) (hin : tg.inn (own.map (·.2)) = true := by decide) (hs : ∀ x, foldedSetIterable iter X.env x = pure x := by intro _; rfl) :
    WSx X cl c rl Wx (.Assign [.Name y py] (.ListComp elt [⟨tgE, iter, ifs, 0⟩] scope pos) spos) (sAsgL m i (lComp tg (own.map (·.2)) tl tt te)) :=
  ws_setL (ps_imp (L2.ps_setLc hc hN hy hyl hsw hi ok hg ht he hs) fun D σ H h => comp_ok hin h)

/-! ### one's own lists changed -/
theorem tyl {a : Addr} {xs : List V} {H : Hp} (h : H a = some (.lst xs)) : tyV X.K "list" (.ref a) H := Or.inl ⟨rfl, _, SqL.of h⟩
/-- an expression that may change one's own lists -/
abbrev TMw := Env → G → (W → Env → G → Prop) → XS → Prop
def liftM (K : PySem.W.Frag) (cl : Str → Addr) (c : Bs) (Wx : WX) (t : TMw) : TE := fun σ H Q => ∃ ν g KK KE, SR K c ν g σ H ∧ t ν g KK KE ∧ (∀ w ν' g' Φ' H' v, KK w ν' g' → SRp K c Φ' ν' g' σ H' → Rep K Φ' w v → Q v H') ∧ XSq K cl c KE Wx
abbrev WMx (X : Cx) (cl : Str → Addr) (c : Bs) (Wx : WX) (e : Expr) (t : TMw) : Prop := PE X e (liftM X.K cl c Wx t)
def sDropM (tm : TMw) : TSw := fun D KE ν g => tm ν g (fun _ ν' g1 => D.nx ν' g1) KE
def sAsgM (tg : Tg) (tm : TMw) : TSw := fun D KE ν g => tm ν g (fun w ν' g1 => tg.put w ν' fun ν'' => D.nx ν'' g1) KE
theorem ws_dropM {tm : TMw} (he : WMx X cl c Wx e tm) (hs : swapsWith e none pos.line X.env = pure false := by rfl) : WSx X cl c rl Wx (.Expr e pos) (sDropM tm) := by
  refine ps_imp (ps_expr he hs) fun D σ H ⟨ν, g, DW, KE, S, h, L⟩ => ?_
  exact ⟨ν, g, _, KE, S, h, fun w ν' g' Φ' H' v k S' r => L.nx ν' g' σ H' k ⟨Φ', S'⟩, L.xs⟩
theorem ws_setM {tm : TMw} {tg : Tg} (h : PS X st (tAsg (liftM X.K cl c Wx tm) (tg.tg X.K))) : WSx X cl c rl Wx st (sAsgM tg tm) := by
  refine ps_imp h fun D σ H ⟨ν, g, DW, KE, S, h, L⟩ => ?_
  exact ⟨ν, g, _, KE, S, h, fun w ν' g' Φ' H' v k S' r => Tg.run S' r k fun ν'' σ' k S'' => L.nx ν'' g' σ' H' k ⟨Φ', S''⟩, L.xs⟩
/-- a list's method by values: V's rule answered by W's -/
def OwnS (K : PySem.W.Frag) (rV : V → List V → Hp → VK → Prop) (r : List W → List W → (W → List W → Prop) → Prop) : Prop :=
  ∀ Φ H l xs ws as vs KQ Q, Same Φ H → H l = some (.lst xs) → RepAll K Φ ws xs → RepAll K Φ as vs → r ws as KQ → (∀ w ws' v xs', KQ w ws' → RepAll K Φ ws' xs' → Rep K Φ w v → Q v (upd H l (.lst xs'))) → rV (.ref l) vs H Q
def mOwn (m : Bool) (i : Nat) (r : List W → List W → (W → List W → Prop) → Prop) (ta : TAw) : TMw := fun ν g K KE => ∃ ws, ν[i]? = some (some (.own ws)) ∧ ta (vw m ν) g (fun as g1 => (m = true ∨ noLst.noLstAll as = true) ∧ r ws as fun w ws' => K w (ν.set i (some (.own ws'))) g1) (kx KE ν)
theorem own_run {K : PySem.W.Frag} {rV r} {n : Nat} {ta : TAw} {i : Nat} {m : Bool} (hs : OwnS K rV r) {σ : L2.St} {H : Hp} {Q : VK} (h : liftM K cl c Wx (mOwn m i r ta) σ H Q) :
    ∃ a xs, σ[i]? = some (some (.ref a)) ∧ H a = some (.lst xs) ∧ liftA K cl Wx n ta σ H fun vs H1 => rV (.ref a) vs H1 Q := by
  obtain ⟨ν, g, KK, KE, ⟨Φ, S⟩, ⟨ws, ei, k⟩, q, xs⟩ := h
  obtain ⟨a, vs, e1, h1, h2, h3, h4, r0⟩ := S.ownAt ei
  refine ⟨a, vs, e1, h1, ?_⟩
  obtain ⟨Φv, gr, er, bk⟩ := S.run m
  refine ⟨Φv, vw m ν, g, _, kx KE ν, gr.st, er, k, fun as g1 Φ1 H1 us k1 hl x1 r1 => ?_, qx_of S (fun Φ1 g1 H1 x => by obtain ⟨Φ2, S2, _, _, _, f5⟩ := bk Φ1 g1 H1 x; exact ⟨Φ2, S2, f5⟩) xs⟩
  obtain ⟨Φ2, S2, f2, f3, f4, f5⟩ := bk Φ1 g1 H1 x1
  obtain ⟨b, xs1, e2, k1', k2, k3, k4, r2⟩ := S2.ownAt ei
  rw [e1] at e2; cases e2
  refine hs Φ2 H1 a xs1 ws as us _ _ S2.gr.st.sub k1' r2 (f3 as us k1.1 r1) k1.2 fun w ws' v xs' k5 r5 r6 => ?_
  exact q w _ g1 Φ2 _ v k5 (S2.mut ei e1 r5) r6
theorem wm_own {i n : Nat} {m : Bool} {rV r} {ta : TAw} (hs : OwnS X.K rV r) (h : PE X e (tBM X.K "list" rV (tVar i) (liftA X.K cl Wx n ta))) : WMx X cl c Wx e (mOwn m i r ta) := by
  refine pe_imp h fun σ H Q h => ?_
  obtain ⟨a, xs, e1, e2, h⟩ := own_run (n := n) hs h
  exact ⟨_, e1, tyl e2, h⟩
theorem wm_own0 {i : Nat} {m : Bool} {rV r} (hs : OwnS X.K rV r) (h : PE X e (tBM0 X.K "list" rV (tVar i))) : WMx X cl c Wx e (mOwn m i r aNil) := by
  refine pe_imp h fun σ H Q h => ?_
  obtain ⟨ν, g, KK, KE, ⟨Φ, S⟩, ⟨ws, ei, k⟩, q, xs⟩ := h
  obtain ⟨a, vs, e1, h1, h2, h3, h4, r0⟩ := S.ownAt ei
  exact ⟨_, e1, tyl h1, hs Φ H a vs ws [] [] _ _ S.gr.st.sub h1 r0 .nil k.2 fun w ws' v xs' k5 r5 r6 => q w _ g Φ _ v k5 (S.mut ei e1 r5) r6⟩
/-- x.extend(a new list) -/
def mExtL (m : Bool) (i : Nat) (tl : TAw) : TMw := fun ν g K KE => ∃ ws, ν[i]? = some (some (.own ws)) ∧ tl (vw m ν) g (fun us g1 => (m = true ∨ noLst.noLstAll us = true) ∧ ws.length + us.length ≤ 16777216 ∧ K .non (ν.set i (some (.own (ws ++ us)))) g1) (kx KE ν)
theorem wm_extL {i : Nat} {m : Bool} (h : PE X e (tBM X.K "list" rExtend (tVar i) (tCons (liftL X.K cl Wx tl) tNil))) : WMx X cl c Wx e (mExtL m i tl) := by
  refine pe_imp h fun σ H Q h => ?_
  obtain ⟨ν, g, KK, KE, ⟨Φ, S⟩, ⟨ws, ei, k⟩, q, xs⟩ := h
  obtain ⟨a, vs, e1, h1, h2, h3, h4, r0⟩ := S.ownAt ei
  refine ⟨_, e1, tyl h1, ?_⟩
  refine run_l (K := X.K) S m k xs fun us g1 Φ1 Φ2 H1 p ys k1 x1 S2 n1 n2 n2' n3 e3 r3 f => ?_
  obtain ⟨b, xs1, e2, k1', k2, k3, k4, r2⟩ := S2.ownAt ei
  rw [e1] at e2; cases e2
  have r5 := r2.append (f k1.1)
  refine ⟨a, p, xs1, ys, rfl, rfl, k1', e3, ?_, q .non _ g1 Φ2 _ .non k1.2.2 (S2.mut ei e1 r5) .non⟩
  have z1 := r2.length
  have z2 := r3.length
  rw [sizeLine_eq]
  omega
/-- one's own list is data from now on -/
def frzW : List Nat → Env → Env
  | [], ν => ν
  | i :: is, ν => frzW is (match ν[i]? with | some (some (.own ws)) => ν.set i (some (.lst ws)) | _ => ν)
def sFrz (is : List Nat) (s : TSw) : TSw := fun D KE ν g => s D KE (frzW is ν) g
theorem SR.frzs {K : PySem.W.Frag} {g : G} {σ : L2.St} {H : Hp} : ∀ (is : List Nat) (ν : Env), SR K c ν g σ H → SR K c (frzW is ν) g σ H
  | [], _, S => S
  | i :: is, ν, S => by
    unfold frzW
    refine SR.frzs is _ ?_
    split
    · rename_i ws e
      obtain ⟨Φ, S⟩ := S
      obtain ⟨Φ', _, S'⟩ := S.frz e
      exact ⟨Φ', S'⟩
    · exact S
theorem ws_frz (is : List Nat) (h : WSx X cl c rl Wx st s) : WSx X cl c rl Wx st (sFrz is s) := ps_imp h fun D σ H ⟨ν, g, DW, KE, S, h, L⟩ => ⟨_, g, DW, KE, SR.frzs is ν S, h, L⟩

/-! ### targets of any kind -/
abbrev TGw := W → Env → G → (Env → G → Prop) → XS → Prop
def liftG (K : PySem.W.Frag) (cl : Str → Addr) (c : Bs) (Wx : WX) (t : TGw) : TG := fun v σ H Q => ∃ Φ ν g w KK KE, SRp K c Φ ν g σ H ∧ Rep K Φ w v ∧ t w ν g KK KE ∧ (∀ Φ' ν' g' σ' H', KK ν' g' → SRp K c Φ' ν' g' σ' H' → Same Φ Φ' → Q σ' H') ∧ XSq K cl c KE Wx
def liftGs (K : PySem.W.Frag) (cl : Str → Addr) (c : Bs) (Wx : WX) (t : List W → Env → G → (Env → G → Prop) → XS → Prop) : TGs := fun vs σ H Q => ∃ Φ ν g ws KK KE, SRp K c Φ ν g σ H ∧ RepAll K Φ ws vs ∧ t ws ν g KK KE ∧ (∀ Φ' ν' g' σ' H', KK ν' g' → SRp K c Φ' ν' g' σ' H' → Same Φ Φ' → Q σ' H') ∧ XSq K cl c KE Wx
theorem pg_imp {tgE : Expr} {t t' : TG} (h : PG X tgE t) (i : ∀ v σ H Q, t' v σ H Q → t v σ H Q) : PG X tgE t' := ⟨fun pins s σ H v u Q I r q => h.run pins s σ H v u Q I r (i v σ H Q q)⟩
theorem pgs_imp {tgE : List Expr} {t t' : TGs} (h : PGs X tgE t) (i : ∀ v σ H Q, t' v σ H Q → t v σ H Q) : PGs X tgE t' := ⟨fun pins s σ H v u Q I r q => h.run pins s σ H v u Q I r (i v σ H Q q)⟩
def gNm (i : Nat) : TGw := fun w ν g K _ => K (ν.set i (some w)) g
theorem wg_name {i : Nat} {tgE : Expr} (h : PG X tgE (gName i)) : PG X tgE (liftG X.K cl c Wx (gNm i)) := pg_imp h fun v σ H Q ⟨Φ, ν, g, w, KK, KE, S, r, k, q, _⟩ => q Φ _ g _ H k (S.setV r i) (Same.refl _)
def gsNil : List W → Env → G → (Env → G → Prop) → XS → Prop := fun ws ν g K _ => ws = [] ∧ K ν g
def gsCons (t : TGw) (u : List W → Env → G → (Env → G → Prop) → XS → Prop) : List W → Env → G → (Env → G → Prop) → XS → Prop := fun ws ν g K KE => ∃ w r, ws = w :: r ∧ t w ν g (fun ν' g' => u r ν' g' K KE) KE
theorem wgs_nil : PGs X [] (liftGs X.K cl c Wx gsNil) := pgs_imp pgs_nil fun vs σ H Q ⟨Φ, ν, g, ws, KK, KE, S, r, k, q, _⟩ => by
  obtain ⟨rfl, k⟩ := k
  cases r
  exact ⟨rfl, q Φ ν g σ H k S (Same.refl _)⟩
theorem wgs_cons {tgE : Expr} {es : List Expr} {t : TGw} {u} (h1 : PG X tgE (liftG X.K cl c Wx t)) (h2 : PGs X es (liftGs X.K cl c Wx u))
    (hs : (assignEach (tgE :: es) X.env).map (·.2) = assign tgE X.env :: (assignEach es X.env).map (·.2) := by rfl) : PGs X (tgE :: es) (liftGs X.K cl c Wx (gsCons t u)) := by
  refine pgs_imp (pgs_cons h1 h2 hs) fun vs σ H Q ⟨Φ, ν, g, ws, KK, KE, S, r, k, q, xs⟩ => ?_
  obtain ⟨w, wr, rfl, k⟩ := k
  cases r with
  | cons r0 rr =>
    refine ⟨_, _, rfl, Φ, ν, g, w, _, KE, S, r0, k, fun Φ' ν' g' σ' H' k' S' sm => ?_, xs⟩
    exact ⟨Φ', ν', g', wr, KK, KE, S', rr.mono sm, k', fun Φ'' ν'' g'' σ'' H'' k'' S'' sm' => q Φ'' ν'' g'' σ'' H'' k'' S'' (sm.trans sm'), xs⟩
def gTp (u : List W → Env → G → (Env → G → Prop) → XS → Prop) (n : Nat) : TGw := fun w ν g K KE => ∃ ws, w = .tup ws ∧ ws.length = n ∧ u ws ν g K KE
theorem wg_tup {es : List Expr} {k n : Nat} {u} {tpos : Pos} (hc : X.calm = true) (h : PGs X es (liftGs X.K cl c Wx u)) (hn : (assignEach es X.env).length = n := by rfl) (hst : (assignEach es X.env).findIdx? (·.1) = none := by rfl) : PG X (.Tuple es k tpos) (liftG X.K cl c Wx (gTp u n)) := by
  refine pg_imp (pg_tup hc h hn hst) fun v σ H Q ⟨Φ, ν, g, w, KK, KE, S, r, k, q, xs⟩ => ?_
  obtain ⟨ws, rfl, l, k⟩ := k
  cases r with
  | tup hs r => exact ⟨_, _, rfl, Same.sqT S.gr.st.sub hs, by rw [← r.length, l], Φ, ν, g, ws, KK, KE, S, r, k, q, xs⟩
/-- o[k] = .., o a list of the store -/
def gSubG (to ti : TEw) : TGw := fun w ν g K KE => noLst w = true ∧ to ν g (fun o g1 => ti ν g1 (fun k g2 => ∃ a n ws j, o = .adr a ∧ k = .int n ∧ g2 a = some (.gl ws) ∧ ixN ws.length n = some j ∧ noLst.noLstAll ws = true ∧ K ν (gup g2 a (.gl (ws.set j w)))) (kx KE ν)) (kx KE ν)
theorem noLst_set {ws : List W} {w : W} (h : noLst.noLstAll ws = true) (hw : noLst w = true) : ∀ j, noLst.noLstAll (ws.set j w) = true := by
  induction ws with
  | nil => intro j; exact h
  | cons u us ih =>
    intro j
    have h2 := Bool.and_eq_true_iff.mp h
    cases j with
    | zero => exact Bool.and_eq_true_iff.mpr ⟨hw, h2.2⟩
    | succ j => exact Bool.and_eq_true_iff.mpr ⟨h2.1, ih h2.2 j⟩
theorem wg_subG {o i : Expr} {to ti : TEw} {tpos : Pos} (ho : WEx X cl Wx o to) (hi : WEx X cl Wx i ti)
    (ha : ∀ v, assign (.Subscript o i tpos) X.env v = (do
      let ov ← holding [v] (eval o X.env)
      let iv ← holding [v, ov] (eval i X.env)
      standAt tpos
      holding [v, ov, iv] (setItem ov iv v)
      release [v, ov, iv] []) := by intro _; rfl) : PG X (.Subscript o i tpos) (liftG X.K cl c Wx (gSubG to ti)) := by
  refine pg_imp (pg_sub ho hi set_list ha) fun v σ H Q ⟨Φ, ν, g, w, KK, KE, S, r, k, q, xs⟩ => ?_
  obtain ⟨nw, k⟩ := k
  have S0 := S.base (Same.refl Φ)
  have xs0 : XSq X.K cl { c with Ψ := Φ } KE Wx := fun n fs ν' g' Φ' σ' H' d fvs z1 z2 z3 z4 z5 z6 => xs n fs ν' g' Φ' σ' H' d fvs z1 (z2.unbase S.psi) z3 z4 z5 z6
  refine run_e (c := { c with Ψ := Φ }) S0 false k xs0 fun o' g1 Φ1 Φ2 H1 x k1 x1 S2 r1 f1 => ?_
  refine run_e (c := { c with Ψ := Φ }) S2 false k1 xs0 fun k' g2 Φ3 Φ4 H2 y k2 x2 S4 r2 f2 => ?_
  obtain ⟨a, n, ws, j, rfl, rfl, ea, ej, nl, k3⟩ := k2
  cases r1
  cases r2
  obtain ⟨⟨vs, eH, rv⟩, _⟩ := S4.gr.st.rep a _ ea
  have gw : Grow X.K Φ4 g2 H2 Φ4 (gup g2 a (.gl (ws.set j w))) (upd H2 a (.lst (vs.set j v))) := Grow.write S4.gr.st (by rw [ea]; simp) ⟨⟨_, upd_same, rv.set j (r.mono S4.psi)⟩, noLst_set nl nw j⟩
  exact ⟨a, vs, n, j, rfl, rfl, eH, by rw [← rv.length]; exact ej, q Φ4 ν _ σ _ k3 ((S4.stay gw).unbase S.psi) S4.psi⟩
/-- x[k] = .., x one's own list -/
def gSubO (i : Nat) (ti : TEw) : TGw := fun w ν g K KE => ∃ ws, ν[i]? = some (some (.own ws)) ∧ ti ν g (fun k g2 => ∃ n j, k = .int n ∧ ixN ws.length n = some j ∧ K (ν.set i (some (.own (ws.set j w)))) g2) (kx KE ν)
theorem wg_subO {o ie : Expr} {i : Nat} {ti : TEw} {tpos : Pos} (ho : PE X o (tVar i)) (hi : WEx X cl Wx ie ti)
    (ha : ∀ v, assign (.Subscript o ie tpos) X.env v = (do
      let ov ← holding [v] (eval o X.env)
      let iv ← holding [v, ov] (eval ie X.env)
      standAt tpos
      holding [v, ov, iv] (setItem ov iv v)
      release [v, ov, iv] []) := by intro _; rfl) : PG X (.Subscript o ie tpos) (liftG X.K cl c Wx (gSubO i ti)) := by
  refine pg_imp (pg_sub ho hi set_list ha) fun v σ H Q ⟨Φ, ν, g, w, KK, KE, S, r, ⟨ws, ei, k⟩, q, xs⟩ => ?_
  have S0 := S.base (Same.refl Φ)
  have xs0 : XSq X.K cl { c with Ψ := Φ } KE Wx := fun n fs ν' g' Φ' σ' H' d fvs z1 z2 z3 z4 z5 z6 => xs n fs ν' g' Φ' σ' H' d fvs z1 (z2.unbase S.psi) z3 z4 z5 z6
  obtain ⟨a, vs, e1, _⟩ := S.ownAt ei
  refine ⟨_, e1, ?_⟩
  refine run_e (c := { c with Ψ := Φ }) S0 false k xs0 fun k' g2 Φ3 Φ4 H2 y k2 x2 S4 r2 f2 => ?_
  obtain ⟨n, j, rfl, ej, k3⟩ := k2
  cases r2
  obtain ⟨b, xs1, e2, k1', k2, k3', k4, r5⟩ := S4.ownAt ei
  rw [e1] at e2; cases e2
  exact ⟨a, xs1, n, j, rfl, rfl, k1', by rw [← r5.length]; exact ej, q Φ4 _ g2 σ _ k3 ((S4.mut ei e1 (r5.set j (r.mono S4.psi))).unbase S.psi) S4.psi⟩
def sAsgG (m : Bool) (te : TEw) (tg : TGw) : TSw := fun D KE ν g => te (vw m ν) g (fun w g1 => (m = true ∨ noLst w = true) ∧ tg w ν g1 D.nx KE) (kx KE ν)
theorem ws_setG {m : Bool} {tg : TGw} (h : PS X st (tAsg (liftE X.K cl Wx te) (liftG X.K cl c Wx tg))) : WSx X cl c rl Wx st (sAsgG m te tg) := by
  refine ps_imp h fun D σ H ⟨ν, g, DW, KE, ⟨Φ, S⟩, h, L⟩ => ?_
  exact run_e S m h L.xs fun w g1 Φ1 Φ2 H1 v k x S2 r f => ⟨Φ2, ν, g1, w, _, KE, S2, f k.1, k.2, fun Φ' ν' g' σ' H' k' S' _ => L.nx ν' g' σ' H' k' ⟨Φ', S'⟩, L.xs⟩
/-- x op= e -/
def sAug (i : Nat) (r : W → W → (W → Prop) → Prop) (te : TEw) : TSw := fun D KE ν g => ∃ w, ν[i]? = some (some w) ∧ te ν g (fun u g1 => r w.view u fun z => noLst z = true ∧ D.nx (ν.set i (some z)) g1) (kx KE ν)
theorem ws_aug {i : Nat} {rV r} (hs : OpS X.K rV r) (h : PS X st (tAug i (liftE X.K cl Wx te) rV)) : WSx X cl c rl Wx st (sAug i r te) := by
  refine ps_imp h fun D σ H ⟨ν, g, DW, KE, ⟨Φ, S⟩, ⟨w, ei, k⟩, L⟩ => ?_
  obtain ⟨Φv, gr, er, bk⟩ := S.run false
  obtain ⟨v, e1, r0⟩ := er.1 i w ei
  refine ⟨v, e1, Φv, ν, g, _, kx KE ν, gr.st, er, k, fun u g1 Φ1 H1 y k1 x1 r1 => ?_, qx_of S (fun Φ1 g1 H1 x => by obtain ⟨Φ2, S2, _, _, _, f5⟩ := bk Φ1 g1 H1 x; exact ⟨Φ2, S2, f5⟩) L.xs⟩
  refine hs Φ1 g1 H1 _ u v y _ _ x1.st (r0.mono x1.phi) r1 k1 fun z Φ3 H3 v3 k3 x3 r3 => ?_
  obtain ⟨Φ4, S4, f2, _⟩ := bk Φ3 g1 H3 (x1.trans x3)
  exact L.nx _ g1 _ H3 k3.2 ⟨Φ4, S4.setV (f2 z v3 (.inr k3.1) r3) i⟩

/-! ### fields of the store's instances -/
def eFld (C : Addr) (f : Str) (te : TEw) : TEw := fun ν g K X => te ν g (fun w g1 => ∃ a dx fs v, w = .adr a ∧ g1 a = some (.gi C dx fs) ∧ fs.lookup f = some v ∧ K v g1) X
theorem we_fld {C : Addr} {f : Str} {o : Expr} {apos : Pos} (he : WEx X cl Wx o te) (hC : Cls X.K C) (hf : NoAttr X.K C f) (hb : attributeBase o f X.env (eval o X.env) = eval o X.env) : WEx X cl Wx (.Attribute o f apos) (eFld C f te) := by
  refine pe_imp (pe_fld he hb) fun σ H Q h => ?_
  obtain ⟨Φ, ν, g, KK, KE, st, er, k, q, qx⟩ := h
  refine e1 st er k qx fun w g1 Φ1 H1 v k1 x1 r1 => ?_
  obtain ⟨a, dx, fs, u, rfl, ea, el, k1⟩ := k1
  cases r1
  obtain ⟨⟨vfs, eH, fr⟩, _⟩ := x1.st.rep a _ ea
  obtain ⟨y, ey, ry⟩ := fr.lookup el
  exact ⟨a, C, dx, vfs, y, rfl, eH, hC, hf, ey, q u g1 Φ1 H1 y k1 x1 ry⟩
theorem fsNo_put {f : Str} {w : W} (hw : noLst w = true) : ∀ {fs : List (Str × W)}, fsNo fs = true → fsNo (putW f w fs) = true
  | [], _ => by show (noLst w && true) = true; rw [hw]; rfl
  | (g, x) :: r, h => by
    have h2 := Bool.and_eq_true_iff.mp h
    unfold putW
    split
    · exact Bool.and_eq_true_iff.mpr ⟨hw, h2.2⟩
    · exact Bool.and_eq_true_iff.mpr ⟨h2.1, fsNo_put hw h2.2⟩
/-- o.f = e -/
def sFldW (C : Addr) (f : Str) (to te : TEw) : TSw := fun D KE ν g => te ν g (fun w g1 => noLst w = true ∧ to ν g1 (fun o g2 => ∃ a dx fs, o = .adr a ∧ g2 a = some (.gi C dx fs) ∧ fs.length < 1000 ∧ fsNo fs = true ∧ D.nx ν (gup g2 a (.gi C dx (putW f w fs)))) (kx KE ν)) (kx KE ν)
theorem ws_fld {C : Addr} {f : Str} {o ve : Expr} {to : TEw} {p' : Pos} (ho : WEx X cl Wx o to) (hv : WEx X cl Wx ve te) (hC : Cls X.K C) (hf : NoAttr X.K C f) (hs : swapsWith ve (some (.Attribute o f p')) pos.line X.env = pure false) : WSx X cl c rl Wx (.Assign [.Attribute o f p'] ve pos) (sFldW C f to te) := by
  refine ps_imp (ps_fld ho hv hs) fun D σ H ⟨ν, g, DW, KE, ⟨Φ, S⟩, h, L⟩ => ?_
  refine run_e S false h L.xs fun w g1 Φ1 Φ2 H1 v k x S2 r ff => ?_
  have rw2 := ff (.inr k.1)
  have S0 := S2.base (Same.refl Φ2)
  have xs0 : XSq X.K cl { c with Ψ := Φ2 } KE Wx := fun n fs ν' g' Φ' σ' H' d fvs z1 z2 z3 z4 z5 z6 => L.xs n fs ν' g' Φ' σ' H' d fvs z1 (z2.unbase S2.psi) z3 z4 z5 z6
  refine run_e (c := { c with Ψ := Φ2 }) S0 false k.2 xs0 fun o' g2 Φ3 Φ4 H2 y k2 x2 S4 r2 f2 => ?_
  obtain ⟨a, dx, fs, rfl, ea, el, en, k3⟩ := k2
  cases r2
  obtain ⟨⟨vfs, eH, fr⟩, _⟩ := S4.gr.st.rep a _ ea
  have gw : Grow X.K Φ4 g2 H2 Φ4 (gup g2 a (.gi C dx (putW f w fs))) (upd H2 a (.ins C dx (putF f v vfs))) := Grow.write S4.gr.st (by rw [ea]; simp) ⟨⟨_, upd_same, fr.put (rw2.mono S4.psi)⟩, fsNo_put k.1 en⟩
  exact ⟨a, C, dx, vfs, rfl, eH, hC, hf, by rw [← fr.length]; exact el, L.nx ν _ σ _ k3 ⟨Φ4, (S4.stay gw).unbase S2.psi⟩⟩
/-- o.f op= e -/
def sFldAugW (C : Addr) (f : Str) (r : W → W → (W → Prop) → Prop) (to te : TEw) : TSw := fun D KE ν g => to ν g (fun o g1 => ∃ a dx fs x, o = .adr a ∧ g1 a = some (.gi C dx fs) ∧ fs.lookup f = some x ∧ te ν g1 (fun y g2 => r x y fun z => ∃ dx' fs', noLst z = true ∧ g2 a = some (.gi C dx' fs') ∧ fs'.length < 1000 ∧ fsNo fs' = true ∧ D.nx ν (gup g2 a (.gi C dx' (putW f z fs')))) (kx KE ν)) (kx KE ν)
theorem ws_fldaug {C : Addr} {f : Str} {o ve : Expr} {to : TEw} {tpos : Pos} {op : Operator} {rV r} (ho : WEx X cl Wx o to) (hv : WEx X cl Wx ve te) (hC : Cls X.K C) (hf : NoAttr X.K C f) (hop : InOp X op rV) (hs : OpS X.K rV r) : WSx X cl c rl Wx (.AugAssign (.Attribute o f tpos) op ve pos) (sFldAugW C f r to te) := by
  refine ps_imp (ps_fldaug ho hv hop) fun D σ H ⟨ν, g, DW, KE, ⟨Φ, S⟩, h, L⟩ => ?_
  obtain ⟨Φv, gr, er, bk⟩ := S.run false
  have qx := qx_of (cl := cl) (Wx := Wx) (c := c) S (fun Φ1 g1 H1 x => by obtain ⟨Φ2, S2, _, _, _, f5⟩ := bk Φ1 g1 H1 x; exact ⟨Φ2, S2, f5⟩) L.xs
  refine e1 gr.st er h qx fun o' g1 Φ1 H1 v k1 x1 r1 => ?_
  obtain ⟨a, dx, fs, x, rfl, ea, el, k1⟩ := k1
  cases r1
  obtain ⟨⟨vfs, eH, fr⟩, en0⟩ := x1.st.rep a _ ea
  obtain ⟨y0, ey, ry⟩ := fr.lookup el
  refine ⟨a, C, dx, vfs, y0, rfl, eH, hC, hf, ey, ?_⟩
  refine e1 x1.st (er.mono x1.phi) k1 (qx.grow x1) fun y g2 Φ2 H2 v2 k2 x2 r2 => ?_
  refine hs Φ2 g2 H2 x y y0 v2 _ _ x2.st (ry.mono x2.phi) r2 k2 fun z Φ3 H3 v3 k3 x3 r3 => ?_
  obtain ⟨dx', fs', nz, ea', el', en', k3⟩ := k3
  obtain ⟨Φ4, S4, f2, _⟩ := bk Φ3 g2 H3 ((x1.trans x2).trans x3)
  obtain ⟨⟨vfs', eH', fr'⟩, _⟩ := S4.gr.st.rep a _ ea'
  have gw : Grow X.K Φ4 g2 H3 Φ4 (gup g2 a (.gi C dx' (putW f z fs'))) (upd H3 a (.ins C dx' (putF f v3 vfs'))) := Grow.write S4.gr.st (by rw [ea']; simp) ⟨⟨_, upd_same, fr'.put (f2 z v3 (.inr nz) r3)⟩, fsNo_put nz en'⟩
  exact ⟨dx', vfs', eH', by rw [← fr'.length]; exact el', L.nx ν _ σ _ k3 ⟨Φ4, S4.stay gw⟩⟩
/-- a method of a list of the store: x.m(..) -/
def eStM (r : List W → List W → (W → List W → Prop) → Prop) (to : TEw) (ta : TAw) : TEw := fun ν g K X => to ν g (fun o g1 => ∃ a ws0, o = .adr a ∧ g1 a = some (.gl ws0) ∧ ta ν g1 (fun as g2 => ∃ ws, g2 a = some (.gl ws) ∧ r ws as fun w ws' => noLst.noLstAll ws' = true ∧ K w (gup g2 a (.gl ws'))) X) X
theorem we_stM {n : Nat} {rV r} {to : TEw} {ta : TAw} (hs : OwnS X.K rV r) (h : PE X e (tBM X.K "list" rV (liftE X.K cl Wx to) (liftA X.K cl Wx n ta))) : WEx X cl Wx e (eStM r to ta) := by
  refine pe_imp h fun σ H Q h => ?_
  obtain ⟨Φ, ν, g, KK, KE, st, er, k, q, qx⟩ := h
  refine e1 st er k qx fun w g1 Φ1 H1 v k1 x1 r1 => ?_
  obtain ⟨a, ws0, rfl, ea, k1⟩ := k1
  cases r1
  obtain ⟨⟨vs0, eH0, _⟩, _⟩ := x1.st.rep a _ ea
  refine ⟨tyl eH0, ?_⟩
  refine a1 x1.st (er.mono x1.phi) k1 (qx.grow x1) fun as g2 Φ2 H2 us k2 hl x2 r2 => ?_
  obtain ⟨ws, ea2, k2⟩ := k2
  obtain ⟨⟨vs, eH, rv⟩, _⟩ := x2.st.rep a _ ea2
  refine hs Φ2 H2 a vs ws as us _ _ x2.st.sub eH rv r2 k2 fun w ws' v xs' k3 r3 r4 => ?_
  exact q w _ Φ2 _ v k3.2 ((x1.trans x2).trans (Grow.write x2.st (by rw [ea2]; simp) ⟨⟨_, upd_same, r3⟩, k3.1⟩)) r4
theorem we_stM0 {rV r} {to : TEw} (hs : OwnS X.K rV r) (h : PE X e (tBM0 X.K "list" rV (liftE X.K cl Wx to))) : WEx X cl Wx e (eStM r to aNil) := by
  refine pe_imp h fun σ H Q h => ?_
  obtain ⟨Φ, ν, g, KK, KE, st, er, k, q, qx⟩ := h
  refine e1 st er k qx fun w g1 Φ1 H1 v k1 x1 r1 => ?_
  obtain ⟨a, ws0, rfl, ea, ws, ea2, k2⟩ := k1
  cases r1
  obtain ⟨⟨vs, eH, rv⟩, _⟩ := x1.st.rep a _ ea2
  refine ⟨tyl eH, hs Φ1 H1 a vs ws [] [] _ _ x1.st.sub eH rv .nil k2 fun w ws' v xs' k3 r3 r4 => ?_⟩
  exact q w _ Φ1 _ v k3.2 (x1.trans (Grow.write x1.st (by rw [ea2]; simp) ⟨⟨_, upd_same, r3⟩, k3.1⟩)) r4
end

/-! ### calls of methods, new instances -/
/-- o.m(e, ..): what it raises is wished for at the slots as they stand -/
def tMethS (C : Addr) (m : Str) (sp : Sp) (E : L2.St → XK) (ta : TE) (t : TA) : TE := fun σ H Q => ta σ H fun x H1 => ∃ a dx fs, x = .ref a ∧ H1 a = some (.ins C dx fs) ∧ fs.lookup m = none ∧ t σ H1 fun vs H2 => sp (x :: vs) H2 Q (E σ)
section
variable {X : Cx} {CX : CXT} {k : Nat} {f C : Addr} {fd : FuncData} {ps : List Str} {sp : Sp} {E : L2.St → XK} {m : Str} {pos apos : Pos} {e o : Expr} {es : List Expr} {ta : TE} {t : TA} {pl : Sem Bool}
theorem pe_methS (he : PE X o ta) (c : Cls X.K C) (hm : Meth X.K C m f)
    (F : FnOk X.prog X.w X.K X.mg X.base CX k f fd ps sp) (hr : Room k X.A) (hb : Binds X.K fd ps []) (hx : ∀ σ, PassesAt CX X σ (E σ)) (ha : PA X (e :: es) t)
    (hst : starEach (e :: es) X.env = (false, eval e X.env) :: starEach es X.env := by rfl) (hpl : (backTo pos (starEach es X.env)).any (·.1) = false := by rfl)
    (ht : eval (.Call (.Attribute o m apos) (e :: es) [] pos) X.env = (do
      let ov ← eval o X.env
      standAt apos.atName
      let (f, first) ← holding [ov] (getMethod ov m pl)
      callWith pos f first (backTo pos (starEach (e :: es) X.env)) (backToKw pos (keywordEach [] X.env))) := by rfl) :
    PE X (.Call (.Attribute o m apos) (e :: es) [] pos) (tMethS C m sp E ta t) := by
  refine ⟨fun pins s σ H Q I h => ?_⟩
  refine PySem.W.methodCall_KW (pl := pl) (thn (he.run pins s σ H _ I h) fun u s1 ⟨x, H1, I1, rx, a, dx, fs, ex, ea, l, q⟩ => ?_) ht
  subst ex
  obtain rfl : u = Value.ref a := rx
  refine getmeth_ok I1 ea c hm l ?_
  refine PySem.W.callWith_K (first := [.ref a]) (h₀ := X.base) I.ok.mod.kin hm.kp (thn (ha.run pos pins s1 σ H1 _ I1 q) fun us s2 ⟨vs, H2, I2, r, q2⟩ => ⟨I2.kIn, ?_⟩) hst hpl
  exact run_fnS (us := .ref a :: us) (vs := .ref a :: vs) F hr hb (hx σ) I2 (.cons rfl r) q2
theorem pe_methS0 (he : PE X o ta) (c : Cls X.K C) (hm : Meth X.K C m f)
    (F : FnOk X.prog X.w X.K X.mg X.base CX k f fd ps sp) (hr : Room k X.A) (hb : Binds X.K fd ps []) (hx : ∀ σ, PassesAt CX X σ (E σ))
    (ht : eval (.Call (.Attribute o m apos) [] [] pos) X.env = (do
      let ov ← eval o X.env
      standAt apos.atName
      let (f, first) ← holding [ov] (getMethod ov m pl)
      callWith pos f first (backTo pos (starEach [] X.env)) (backToKw pos (keywordEach [] X.env))) := by rfl) :
    PE X (.Call (.Attribute o m apos) [] [] pos) (tMethS C m sp E ta tNil) := by
  refine ⟨fun pins s σ H Q I h => ?_⟩
  refine PySem.W.methodCall_KW (pl := pl) (thn (he.run pins s σ H _ I h) fun u s1 ⟨x, H1, I1, rx, a, dx, fs, ex, ea, l, q⟩ => ?_) ht
  subst ex
  obtain rfl : u = Value.ref a := rx
  refine getmeth_ok I1 ea c hm l ?_
  exact PySem.W.callWith_K0 (first := [.ref a]) I1.kIn hm.kp (run_fnS (us := [.ref a]) (vs := [.ref a]) F hr hb (hx σ) I1 (.cons rfl .nil) q)
end
section
variable {X : Cx} {cl : Str → Addr} {c : Bs} {rl : Bool} {Wx : WX} {e o : Expr} {es : List Expr} {te to : TEw} {ta : TAw} {pos apos p : Pos} {k n : Nat} {f C : Addr} {fd : FuncData} {ps : List Str} {sp : TFw} {m : Str}
/-- o.m(..): the instance's class is C, m no field of it -/
def eMeth (C : Addr) (m : Str) (sp : TFw) (to : TEw) (ta : TAw) : TEw := fun ν g K X => to ν g (fun w g1 => ∃ a dx fs, w = .adr a ∧ g1 a = some (.gi C dx fs) ∧ fs.lookup m = none ∧ ta ν g1 (fun ws g2 => sp (.adr a :: ws) g2 K X) X) X
theorem we_meth (h : PE X e (tMethS C m (spF X.K cl (n + 1) sp) (WE Wx) (liftE X.K cl Wx to) (liftA X.K cl Wx n ta))) : WEx X cl Wx e (eMeth C m sp to ta) := by
  refine pe_imp h fun σ H Q h => ?_
  obtain ⟨Φ, ν, g, KK, KE, st, er, k, q, qx⟩ := h
  refine e1 st er k qx fun w g1 Φ1 H1 v k1 x1 r1 => ?_
  obtain ⟨a, dx, fs, rfl, ea, el, k1⟩ := k1
  cases r1
  obtain ⟨⟨vfs, eH, fr⟩, _⟩ := x1.st.rep a _ ea
  refine ⟨a, dx, vfs, rfl, eH, fr.lookup_none el, ?_⟩
  refine a1 x1.st (er.mono x1.phi) k1 (qx.grow x1) fun ws g2 Φ2 H2 vs k2 hl x2 r2 => ?_
  exact ⟨Φ2, g2, .adr a :: ws, KK, KE, by rw [List.length_cons, hl], x2.st, .cons (.adr a) r2, k2, (q.grow x1).grow x2, (qx.grow x1).grow x2⟩
theorem we_meth0 (h : PE X e (tMethS C m (spF X.K cl 1 sp) (WE Wx) (liftE X.K cl Wx to) tNil)) : WEx X cl Wx e (eMeth C m sp to aNil) := by
  refine pe_imp h fun σ H Q h => ?_
  obtain ⟨Φ, ν, g, KK, KE, st, er, k, q, qx⟩ := h
  refine e1 st er k qx fun w g1 Φ1 H1 v k1 x1 r1 => ?_
  obtain ⟨a, dx, fs, rfl, ea, el, k1⟩ := k1
  cases r1
  obtain ⟨⟨vfs, eH, fr⟩, _⟩ := x1.st.rep a _ ea
  exact ⟨a, dx, vfs, rfl, eH, fr.lookup_none el, Φ1, g1, [.adr a], KK, KE, rfl, x1.st, .cons (.adr a) .nil, k1, q.grow x1, qx.grow x1⟩
/-- C(..): a new instance in the store; its __init__ raises nothing -/
def eMake (C : Addr) (sp : TFw) (ta : TAw) : TEw := fun ν g K X => ta ν g (fun ws g1 => ∀ x dx, g1 x = none → sp (.adr x :: ws) (gup g1 x (.gi C dx [])) (fun w g2 => w = .non ∧ K (.adr x) g2) noX) X
theorem we_make (h : PE X e (tMake C (spF X.K cl (n + 1) sp) [] E0 (liftA X.K cl Wx n ta))) : WEx X cl Wx e (eMake C sp ta) := by
  refine pe_imp h fun σ H Q h => ?_
  obtain ⟨Φ, ν, g, KK, KE, st, er, k, q, qx⟩ := h
  refine a1 st er k qx fun ws g1 Φ1 H1 vs k1 hl x1 r1 x dx nx ndx ne => ?_
  have gx := x1.st.gH nx
  have y1 := Grow.own (o := .own x) x1.st ndx
  have nx1 : (upd H1 dx (.own x)) x = none := by rw [upd_ne ne.symm]; exact nx
  have y2 := Grow.store (p := x) (o := .ins C dx []) (u := .gi C dx []) y1.st nx1 ⟨⟨[], upd_same, .nil⟩, rfl⟩
  have y := y1.trans y2
  refine ⟨Φ1, _, .adr x :: ws, _, noX, by rw [List.length_cons, hl], y.st, ?_, k1 x dx gx, fun w g2 Φ2 H2 v k2 x2 r2 => ?_, QX.no⟩
  · rw [List.append_nil]
    exact .cons (.adr x) r1
  · obtain ⟨rfl, k2⟩ := k2
    cases r2
    exact ⟨rfl, q (.adr x) g2 Φ2 H2 (.ref x) k2 ((x1.trans y).trans x2) (.adr x)⟩
end

/-! ### a def by its body -/
def fnW (n : Nat) (t : TSw) : TFw := fun ws g KK KE => t ⟨fun _ g => KK .non g, KK, fun _ _ => False, fun _ _ => False⟩ (fun n fs _ g => KE n fs g) (ws.map some ++ List.replicate (n - ws.length) none) g
/-- .. that hands back a new list -/
def fnL (n : Nat) (t : TSw) : List W → G → (List W → G → Prop) → XW → Prop := fun ws g KK KE => t ⟨fun _ _ => False, fun w g => ∃ us, w = .lst us ∧ KK us g, fun _ _ => False, fun _ _ => False⟩ (fun n fs _ g => KE n fs g) (ws.map some ++ List.replicate (n - ws.length) none) g
section
variable {P : Program} {w : World} {K : PySem.W.Frag} {mg : Str → Option Value} {base : Heap} {cl : Str → Addr} {x qual : Str} {params : Arguments} {body : List Stmt} {scope : Scope} {f : Addr} {fd : FuncData} {N ps : List Str} {k n : Nat} {t : TSw}
theorem sr_start {Φ H : Hp} {g : G} {ws : List W} {vs : List V} (st : Sta K Φ g H) (r : RepAll K Φ ws vs) (m : Nat) (hm : m = N.length - vs.length) : SRp K ⟨Φ, g, H, Φ⟩ Φ (ws.map some ++ List.replicate m none) g (L2.start N vs) H := by
  have at_ : ∀ {i : Nat} {u : W}, (ws.map some ++ List.replicate m (none : Option W))[i]? = some (some u) → ws[i]? = some u := fun {i u} e => by
    by_cases h : i < ws.length
    · rw [List.getElem?_append_left (by simpa using h), List.getElem?_map] at e
      cases q : ws[i]? with
      | none => rw [q] at e; cases e
      | some z => rw [q] at e; cases e; rfl
    · rw [List.getElem?_append_right (by simpa using h), List.getElem?_replicate] at e
      split at e <;> cases e
  refine ⟨.refl st, Same.refl _, fun i u e => ?_, fun i j us us' a e1 e2 e3 e4 => ?_, ?_⟩
  · obtain ⟨v, e1, rv⟩ := r.get (at_ e)
    refine ⟨v, ?_, .inr rv⟩
    have hl : i < vs.length := (List.getElem?_eq_some_iff.mp e1).1
    unfold L2.start
    rw [List.getElem?_append_left (by simpa using hl), List.getElem?_map, e1]
    rfl
  · obtain ⟨v, _, rv⟩ := r.get (at_ e1)
    exact absurd rv rep_own
  · unfold L2.start
    rw [List.length_append, List.length_append, List.length_map, List.length_map, List.length_replicate, List.length_replicate, r.length, hm]
theorem fn_w (F : FunD K x qual params body scope [] [] f fd) (S : FnScope N ps scope) (hn : ps.length = n)
    (hb : ∀ (cdv : Value) (A : Around) (outer : List PySem.Env) (s : Shared) (H : Hp) (E : XK) (c : Bs), Room k (A.deeper (envOfC qual scope s.heap.objs.size f cdv)) →
      PSs (cxOf (L2.CX P w) P w K mg base N qual scope f cdv A outer s H E) body (liftS K cl c false (fun cls d _ H => E cls d H) t)) : FnOk P w K mg base (L2.CX P w) (k + 1) f fd ps (spF K cl n (fnW N.length t)) := by
  refine F.ok S (fun vs H Q E ⟨Φ, g, ws, KK, KE, hl, st, r, h, q, qx⟩ => by rw [← r.length, hl, hn]) (fun cdv A outer s H vs Q E hr ⟨Φ, g, ws, KK, KE, hl, st, r, h, q, qx⟩ => ⟨_, hb cdv A outer s H E ⟨Φ, g, H, Φ⟩ hr, ?_⟩)
  refine ⟨_, g, _, _, ⟨Φ, sr_start st r _ (by rw [r.length])⟩, h, ⟨fun ν' g' σ' H' z ⟨Φ', S'⟩ => q .non g' Φ' H' .non z S'.gr .non, fun _ _ _ _ z => z.elim, fun _ _ _ _ z => z.elim, fun w g' Φ' H' v z x' r' => q w g' Φ' H' v z x' r', fun m fs ν' g' Φ' σ' H' d fvs z1 z2 z3 z4 z5 z6 => qx m fs g' Φ' H' d fvs z1 z2.gr z5 z6 z4⟩⟩
theorem fn_l (F : FunD K x qual params body scope [] [] f fd) (S : FnScope N ps scope) (hn : ps.length = n)
    (hb : ∀ (cdv : Value) (A : Around) (outer : List PySem.Env) (s : Shared) (H : Hp) (E : XK) (c : Bs), Room k (A.deeper (envOfC qual scope s.heap.objs.size f cdv)) →
      PSs (cxOf (L2.CX P w) P w K mg base N qual scope f cdv A outer s H E) body (liftS K cl c true (fun cls d _ H => E cls d H) t)) : FnOk P w K mg base (L2.CX P w) (k + 1) f fd ps (spL K cl n (fnL N.length t)) := by
  refine F.ok S (fun vs H Q E ⟨Φ, g, ws, KK, KE, hl, st, r, h, q, qx⟩ => by rw [← r.length, hl, hn]) (fun cdv A outer s H vs Q E hr ⟨Φ, g, ws, KK, KE, hl, st, r, h, q, qx⟩ => ⟨_, hb cdv A outer s H E ⟨Φ, g, H, Φ⟩ hr, ?_⟩)
  refine ⟨_, g, _, _, ⟨Φ, sr_start st r _ (by rw [r.length])⟩, h, ⟨fun ν' g' σ' H' z _ => z.elim, fun _ _ _ _ z => z.elim, fun _ _ _ _ z => z.elim, fun us g' Φ' H' p vs z x' n1 n2 n3 e r' => ?_, fun m fs ν' g' Φ' σ' H' d fvs z1 z2 z3 z4 z5 z6 => qx m fs g' Φ' H' d fvs z1 z2.gr z5 z6 z4⟩⟩
  obtain ⟨us', e', z⟩ := z
  cases e'
  exact q us g' Φ' H' p vs z x' n1 n2 n3 e r'
end
end WL
/-! WL5: operations on values. -/
namespace WL
open PySem PySem.Spec PyProof.Rows L2

/-! ### ints -/
def rI2 (C : Int → Int → Prop) (f : Int → Int → W) : W → W → (W → Prop) → Prop := fun w z K => ∃ i j, w = .int i ∧ z = .int j ∧ C i j ∧ K (f i j)
def CT : Int → Int → Prop := fun _ _ => True
theorem opS_I {K : PySem.W.Frag} {C C' : Int → Int → Prop} {f : Int → Int → W} {fv : Int → Int → V} (h : ∀ i j, C' i j → C i j) (hf : ∀ Φ i j, Rep K Φ (f i j) (fv i j)) : OpS K (rI C fv) (rI2 C' f) := by
  rintro Φ g H w z x y KQ Q st rw rz ⟨i, j, rfl, rfl, c, k⟩ q
  cases rw; cases rz
  exact ⟨i, j, rfl, rfl, h i j c, q _ Φ H _ k (.refl st) (hf Φ i j)⟩
theorem opS_I0 {K : PySem.W.Frag} {f : Int → Int → W} {fv : Int → Int → V} (hf : ∀ Φ i j, Rep K Φ (f i j) (fv i j)) : OpS K (rI0 fv) (rI2 CT f) := by
  rintro Φ g H w z x y KQ Q st rw rz ⟨i, j, rfl, rfl, _, k⟩ q
  cases rw; cases rz
  exact ⟨i, j, rfl, rfl, q _ Φ H _ k (.refl st) (hf Φ i j)⟩
section
variable {X : Cx}
abbrev rSubI := rI2 CT fun i j => W.int (i - j)
abbrev rMulI := rI2 CMul fun i j => W.int (i * j)
abbrev rDivI := rI2 CDivN fun i j => W.int (i.fdiv j)
abbrev rModI := rI2 (fun _ j => j ≠ 0) fun i j => W.int (i.fmod j)
abbrev rPowI := rI2 CPow fun i j => W.int (i ^ j.toNat)
abbrev rShlI := rI2 CPow fun i j => W.int (i * 2 ^ j.toNat)
abbrev rLtI := rI2 CT fun i j => W.bl (decide (i < j))
abbrev rLeI := rI2 CT fun i j => W.bl (decide (i ≤ j))
abbrev rGtI := rI2 CT fun i j => W.bl (decide (j < i))
abbrev rGeI := rI2 CT fun i j => W.bl (decide (j ≤ i))
theorem w_sub : OpW X (binaryOp .Sub) rSubI := ⟨_, op_sub, opS_I0 fun _ _ _ => .int _⟩
theorem w_mul : OpW X (binaryOp .Mult) rMulI := ⟨_, op_mul, opS_I (fun _ _ h => h) fun _ _ _ => .int _⟩
theorem w_div : OpW X (binaryOp .FloorDiv) rDivI := ⟨_, op_fdivN, opS_I (fun _ _ h => h) fun _ _ _ => .int _⟩
theorem w_mod : OpW X (binaryOp .Mod) rModI := ⟨_, op_modN, opS_I (fun _ _ h => h) fun _ _ _ => .int _⟩
theorem w_pow : OpW X (binaryOp .Pow) rPowI := ⟨_, op_pow, opS_I (fun _ _ h => h) fun _ _ _ => .int _⟩
theorem w_shl : OpW X (binaryOp .LShift) rShlI := ⟨_, op_shl, opS_I (fun _ _ h => h) fun _ _ _ => .int _⟩
theorem w_lt : OpW X (compareOp .Lt) rLtI := ⟨_, op_lt, opS_I0 fun _ _ _ => .bl _⟩
theorem w_le : OpW X (compareOp .LtE) rLeI := ⟨_, op_le, opS_I0 fun _ _ _ => .bl _⟩
theorem w_gt : OpW X (compareOp .Gt) rGtI := ⟨_, op_gt, opS_I0 fun _ _ _ => .bl _⟩
theorem w_ge : OpW X (compareOp .GtE) rGeI := ⟨_, op_ge, opS_I0 fun _ _ _ => .bl _⟩
def rNeg : W → (W → Prop) → Prop := fun w K => ∃ i, w = .int i ∧ K (.int (-i))
theorem w_neg : UnW X (unaryOp .USub) rNeg := ⟨_, un_neg, by
  rintro Φ g H w x KQ Q st rw ⟨i, rfl, k⟩ q
  cases rw
  exact ⟨i, rfl, q _ Φ H _ k (.refl st) (.int _)⟩⟩
/-! ### + : ints, texts, tuples -/
def rAdd : W → W → (W → Prop) → Prop
  | .int i, .int j, K => K (.int (i + j))
  | .str a, .str b, K => a.length + b.length ≤ 16777216 ∧ K (.str (a ++ b))
  | .tup xs, .tup ys, K => xs.length + ys.length ≤ 16777216 ∧ K (.tup (xs ++ ys))
  | _, _, _ => False
theorem opS_add {K : PySem.W.Frag} : OpS K (fun x y H Q => rI0 (fun i j => .int (i + j)) x y H Q ∨ (fun x y H Q => ∃ i j, x = V.str i ∧ y = V.str j ∧ i.length + j.length ≤ sizeLine ∧ Q (V.str (i ++ j)) H) x y H Q ∨ rCatA K x y H Q) rAdd := by
  intro Φ g H w z x y KQ Q st rw rz h q
  cases rw with
  | int i =>
    cases rz with
    | int j => exact .inl ⟨i, j, rfl, rfl, q _ Φ H _ h (.refl st) (.int _)⟩
    | _ => exact h.elim
  | str i =>
    cases rz with
    | str j => exact .inr (.inl ⟨i, j, rfl, rfl, by rw [sizeLine_eq]; exact h.1, q _ Φ H _ h.2 (.refl st) (.str _)⟩)
    | _ => exact h.elim
  | @tup a xs ws ha ra =>
    cases rz with
    | @tup b ys us hb rb =>
      obtain ⟨hl, h⟩ := h
      refine .inr (.inr ⟨a, b, xs, ys, rfl, rfl, Same.sqT st.sub ha, Same.sqT st.sub hb, ?_, fun e => ?_, fun _ e => ?_, fun _ _ p np => ?_⟩)
      · rw [← ra.length, ← rb.length, sizeLine_eq]; exact hl
      · subst e
        cases ra
        exact q _ Φ H _ h (.refl st) (.tup hb rb)
      · subst e
        cases rb
        rw [List.append_nil] at h
        exact q _ Φ H _ h (.refl st) (.tup ha ra)
      · have y := Grow.laid (o := .tup (xs ++ ys)) st np
        exact q _ _ _ _ h y (.tup (SqT.of upd_same) ((ra.append rb).mono y.phi))
    | _ => exact h.elim
  | _ => cases rz <;> exact h.elim
theorem w_add : OpW X (binaryOp .Add) rAdd := ⟨_, op_add.or (op_add_str.or op_catA), opS_add⟩
/-- lists: a new one -/
def rCatL : W → W → (List W → Prop) → Prop := fun w z K => ∃ xs ys, w = .lst xs ∧ z = .lst ys ∧ xs.length + ys.length ≤ 16777216 ∧ K (xs ++ ys)
theorem w_catL : OpLW X (binaryOp .Add) rCatL := ⟨_, op_cat, by
  rintro Φ g H w z x y KQ Q st rw rz ⟨ws, us, rfl, rfl, hl, k⟩ q
  cases rw with
  | @lst a xs _ ha ra =>
    cases rz with
    | @lst b ys _ hb rb =>
      refine ⟨a, b, xs, ys, rfl, rfl, st.sub _ _ ha, st.sub _ _ hb, by rw [← ra.length, ← rb.length, sizeLine_eq]; exact hl, fun p np => ?_⟩
      exact q _ Φ _ p _ k (Grow.own st np) np (st.pH np) upd_same (ra.append rb)⟩
def rRepL : W → W → (List W → Prop) → Prop := fun w z K => ∃ xs n, w = .lst xs ∧ z = .int n ∧ n < 2 ^ 63 ∧ -(2 ^ 63) ≤ n ∧ xs.length * n.toNat ≤ 16777216 ∧ K (List.replicate n.toNat xs).flatten
theorem w_repL : OpLW X (binaryOp .Mult) rRepL := ⟨_, op_rep, by
  rintro Φ g H w z x y KQ Q st rw rz ⟨ws, n, rfl, rfl, h1, h2, hl, k⟩ q
  cases rw with
  | @lst a xs _ ha ra =>
    cases rz
    refine ⟨a, n, xs, rfl, rfl, st.sub _ _ ha, h2, h1, by rw [← ra.length, sizeLine_eq]; exact hl, fun p np => ?_⟩
    exact q _ Φ _ p _ k (Grow.own st np) np (st.pH np) upd_same (ra.rep _)⟩

/-! ### == of data -/
def toD : W → PyData
  | .non => .none
  | .bl b => .bool b
  | .int i => .int i
  | .str x => .str x
  | .tup xs => .tuple (toDs xs)
  | .lst xs => .list (toDs xs)
  | .scr xs => .list (toDs xs)
  | _ => .none
where toDs : List W → List PyData
  | [] => []
  | x :: xs => toD x :: toDs xs
/-- data of depth at most n, its texts well made -/
def flatOk : Nat → W → Bool
  | _, .non => true
  | _, .bl _ => true
  | _, .int _ => true
  | _, .str x => PyData.strOk x
  | n + 1, .tup xs => xs.all (flatOk n)
  | n + 1, .lst xs => xs.all (flatOk n)
  | n + 1, .scr xs => xs.all (flatOk n)
  | _, _ => false
theorem toDs_map (xs : List W) : toD.toDs xs = xs.map toD := by
  induction xs with
  | nil => rfl
  | cons x xs ih => show toD x :: toD.toDs xs = _; rw [ih]; rfl
mutual
theorem rep_dp {K : PySem.W.Frag} {Φ H : Hp} (s : Same Φ H) : ∀ (n : Nat) (w : W) {v : V}, flatOk n w = true → Rep K Φ w v → Dp K H v (toD w)
  | _, .non, _, _, r => by cases r; exact .non
  | _, .bl b, _, _, r => by cases r; exact .bl b
  | _, .int b, _, _, r => by cases r; exact .int b
  | _, .str b, _, _, r => by cases r; exact .str b
  | 0, .tup xs, _, h, _ => by simp [flatOk] at h
  | n + 1, .tup xs, _, h, r => by cases r with | tup hs r => exact .tup (Same.sqT s hs) (reps_dp s n xs (by simpa [flatOk] using h) r)
  | 0, .lst xs, _, h, _ => by simp [flatOk] at h
  | n + 1, .lst xs, _, h, r => by cases r with | lst hs r => exact .lst (SqL.of (s _ _ hs)) (reps_dp s n xs (by simpa [flatOk] using h) r)
  | 0, .scr xs, _, h, _ => by simp [flatOk] at h
  | n + 1, .scr xs, _, h, r => by cases r with | scr hs r => exact .lst (Same.seq s hs) (reps_dp s n xs (by simpa [flatOk] using h) r)
  | 0, .adr a, _, h, _ => by simp [flatOk] at h
  | n + 1, .adr a, _, h, _ => by simp [flatOk] at h
  | 0, .own a, _, h, _ => by simp [flatOk] at h
  | n + 1, .own a, _, h, _ => by simp [flatOk] at h
  | 0, .ty a, _, h, _ => by simp [flatOk] at h
  | n + 1, .ty a, _, h, _ => by simp [flatOk] at h
theorem reps_dp {K : PySem.W.Frag} {Φ H : Hp} (s : Same Φ H) : ∀ (n : Nat) (ws : List W) {vs : List V}, (∀ w ∈ ws, flatOk n w = true) → RepAll K Φ ws vs → DpAll K H vs (toD.toDs ws)
  | _, [], _, _, r => by cases r; exact .nil
  | n, w :: ws, _, h, r => by cases r with | cons r rs => exact .cons (rep_dp s n w (h _ (List.mem_cons_self ..)) r) (reps_dp s n ws (fun u hu => h u (List.mem_cons_of_mem _ hu)) rs)
end
mutual
theorem canLay_flat : ∀ (n : Nat) (w : W), flatOk n w = true → (toD w).canLay0 = true
  | _, .non, _ => by simp [toD, PyData.canLay0]
  | _, .bl b, _ => by simp [toD, PyData.canLay0]
  | _, .int b, _ => by simp [toD, PyData.canLay0]
  | n, .str x, h => by
    have h' : PyData.strOk x = true := by cases n <;> simpa [flatOk] using h
    simpa [toD, PyData.canLay0] using h'
  | 0, .tup xs, h => by simp [flatOk] at h
  | n + 1, .tup xs, h => by simp only [toD, PyData.canLay0]; exact canLays_flat n xs (by simpa [flatOk] using h)
  | 0, .lst xs, h => by simp [flatOk] at h
  | n + 1, .lst xs, h => by simp only [toD, PyData.canLay0]; exact canLays_flat n xs (by simpa [flatOk] using h)
  | 0, .scr xs, h => by simp [flatOk] at h
  | n + 1, .scr xs, h => by simp only [toD, PyData.canLay0]; exact canLays_flat n xs (by simpa [flatOk] using h)
  | 0, .adr a, h => by simp [flatOk] at h
  | n + 1, .adr a, h => by simp [flatOk] at h
  | 0, .own a, h => by simp [flatOk] at h
  | n + 1, .own a, h => by simp [flatOk] at h
  | 0, .ty a, h => by simp [flatOk] at h
  | n + 1, .ty a, h => by simp [flatOk] at h
theorem canLays_flat : ∀ (n : Nat) (ws : List W), (∀ w ∈ ws, flatOk n w = true) → PyData.canLayAll0 (toD.toDs ws) = true
  | _, [], _ => by simp [toD.toDs, PyData.canLayAll0]
  | n, w :: ws, h => by
    simp only [toD.toDs, PyData.canLayAll0, Bool.and_eq_true]
    exact ⟨canLay_flat n w (h _ (List.mem_cons_self ..)), canLays_flat n ws fun u hu => h u (List.mem_cons_of_mem _ hu)⟩
end
mutual
theorem depth_flat : ∀ (n : Nat) (w : W), flatOk n w = true → (toD w).depth ≤ n
  | _, .non, _ => by simp [toD, PyData.depth]
  | _, .bl b, _ => by simp [toD, PyData.depth]
  | _, .int b, _ => by simp [toD, PyData.depth]
  | _, .str x, _ => by simp [toD, PyData.depth]
  | 0, .tup xs, h => by simp [flatOk] at h
  | n + 1, .tup xs, h => by simp only [toD, PyData.depth]; exact Nat.succ_le_succ (depths_flat n xs (by simpa [flatOk] using h))
  | 0, .lst xs, h => by simp [flatOk] at h
  | n + 1, .lst xs, h => by simp only [toD, PyData.depth]; exact Nat.succ_le_succ (depths_flat n xs (by simpa [flatOk] using h))
  | 0, .scr xs, h => by simp [flatOk] at h
  | n + 1, .scr xs, h => by simp only [toD, PyData.depth]; exact Nat.succ_le_succ (depths_flat n xs (by simpa [flatOk] using h))
  | 0, .adr a, h => by simp [flatOk] at h
  | n + 1, .adr a, h => by simp [flatOk] at h
  | 0, .own a, h => by simp [flatOk] at h
  | n + 1, .own a, h => by simp [flatOk] at h
  | 0, .ty a, h => by simp [flatOk] at h
  | n + 1, .ty a, h => by simp [flatOk] at h
theorem depths_flat : ∀ (n : Nat) (ws : List W), (∀ w ∈ ws, flatOk n w = true) → PyData.depthAll (toD.toDs ws) ≤ n
  | _, [], _ => by simp [toD.toDs, PyData.depthAll]
  | n, w :: ws, h => by
    simp only [toD.toDs, PyData.depthAll]
    exact Nat.max_le.mpr ⟨depth_flat n w (h _ (List.mem_cons_self ..)), depths_flat n ws fun u hu => h u (List.mem_cons_of_mem _ hu)⟩
end
theorem shaped_flat {w : W} (h : flatOk 60 w = true) : SeqAt.shaped (toD w) = true := by
  unfold SeqAt.shaped
  rw [Bool.and_eq_true]
  exact ⟨canLay_flat 60 w h, decide_eq_true (Nat.le_trans (depth_flat 60 w h) (by decide))⟩
def eqW (w z : W) : Bool := PyData.eqv (toD w) (toD z)
def rEqW : W → W → (W → Prop) → Prop := fun w z K => flatOk 60 w = true ∧ flatOk 60 z = true ∧ K (.bl (eqW w z))
def rNeW : W → W → (W → Prop) → Prop := fun w z K => flatOk 60 w = true ∧ flatOk 60 z = true ∧ K (.bl (!eqW w z))
theorem w_eq (hu : X.A.units + 64 < cLine) : OpW X (compareOp .Eq) rEqW := ⟨_, op_eqD hu, by
  rintro Φ g H w z x y KQ Q st rw rz ⟨h1, h2, k⟩ q
  exact ⟨_, _, rep_dp st.sub 60 _ h1 rw, rep_dp st.sub 60 _ h2 rz, shaped_flat h1, shaped_flat h2, q _ Φ H _ k (.refl st) (.bl _)⟩⟩
theorem w_ne (hu : X.A.units + 64 < cLine) : OpW X (compareOp .NotEq) rNeW := ⟨_, op_neD hu, by
  rintro Φ g H w z x y KQ Q st rw rz ⟨h1, h2, k⟩ q
  exact ⟨_, _, rep_dp st.sub 60 _ h1 rw, rep_dp st.sub 60 _ h2 rz, shaped_flat h1, shaped_flat h2, q _ Φ H _ k (.refl st) (.bl _)⟩⟩
/-! ### is None -/
def isNon : W → Bool
  | .non => true
  | _ => false
theorem isNon_rep {K : PySem.W.Frag} {Φ : Hp} {w : W} {v : V} (r : Rep K Φ w v) : decide (v = .non) = isNon w := by
  cases r <;> first | rfl | exact decide_eq_false (fun z => nomatch z)
def rIsN : W → W → (W → Prop) → Prop := fun w z K => z = .non ∧ K (.bl (isNon w))
def rNotN : W → W → (W → Prop) → Prop := fun w z K => z = .non ∧ K (.bl (!isNon w))
theorem w_isN : OpW X (compareOp .Is) rIsN := ⟨_, op_isN, by
  rintro Φ g H w z x y KQ Q st rw rz ⟨rfl, k⟩ q
  cases rz
  exact ⟨rfl, by rw [isNon_rep rw]; exact q _ Φ H _ k (.refl st) (.bl _)⟩⟩
theorem w_notN : OpW X (compareOp .IsNot) rNotN := ⟨_, op_notN, by
  rintro Φ g H w z x y KQ Q st rw rz ⟨rfl, k⟩ q
  cases rz
  exact ⟨rfl, by rw [isNon_rep rw]; exact q _ Φ H _ k (.refl st) (.bl _)⟩⟩
/-! ### items -/
def rIxW : W → W → (W → Prop) → Prop
  | .tup ws, z, K => ∃ n u, z = .int n ∧ atI ws n = some u ∧ K u
  | .lst ws, z, K => ∃ n u, z = .int n ∧ atI ws n = some u ∧ K u
  | .scr ws, z, K => ∃ n u, z = .int n ∧ atI ws n = some u ∧ K u
  | .str x, z, K => ∃ n c, z = .int n ∧ x.length ≤ 16777216 ∧ atI x.cps.toList n = some c ∧ K (.str ⟨#[c]⟩)
  | _, _, _ => False
theorem atI_rep {K : PySem.W.Frag} {Φ : Hp} {ws : List W} {vs : List V} {n : Int} {u : W} (r : RepAll K Φ ws vs) (h : atI ws n = some u) : ∃ v, atI vs n = some v ∧ Rep K Φ u v := by
  unfold atI at h ⊢
  rw [← r.length]
  cases q : ixN ws.length n with
  | none => rw [q] at h; cases h
  | some j => rw [q] at h; exact r.get h
theorem w_ix : IxW X rIxW := ⟨_, ix_seq, by
  intro Φ g H w z x y KQ Q st rw rz h q
  cases rw with
  | tup hs r =>
    obtain ⟨n, u, rfl, e, k⟩ := h
    cases rz
    obtain ⟨v, ev, rv⟩ := atI_rep r e
    exact .inr (.inl ⟨_, _, n, v, rfl, rfl, Same.sqT st.sub hs, ev, q _ Φ H _ k (.refl st) rv⟩)
  | lst hs r =>
    obtain ⟨n, u, rfl, e, k⟩ := h
    cases rz
    obtain ⟨v, ev, rv⟩ := atI_rep r e
    exact .inl ⟨_, _, n, v, rfl, rfl, SqL.of (st.sub _ _ hs), ev, q _ Φ H _ k (.refl st) rv⟩
  | scr hs r =>
    obtain ⟨n, u, rfl, e, k⟩ := h
    cases rz
    obtain ⟨v, ev, rv⟩ := atI_rep r e
    exact .inl ⟨_, _, n, v, rfl, rfl, Same.seq st.sub hs, ev, q _ Φ H _ k (.refl st) rv⟩
  | str x =>
    obtain ⟨n, c, rfl, hl, e, k⟩ := h
    cases rz
    exact .inr (.inr ⟨x, n, c, rfl, rfl, by rw [sizeLine_eq]; exact hl, e, q _ Φ H _ k (.refl st) (.str _)⟩)
  | _ => exact h.elim⟩
/-! ### slices -/
abbrev TOw := Env → G → (Option Int → G → Prop) → XW → Prop
end
end WL
/-! WL6: lists and tuples wherever they stand, slices, built-in calls, lists' methods. -/
namespace WL
open PySem PySem.Spec PyProof.Rows L2

/-! ### a list or a tuple, wherever it stands -/
def seqG (g : G) : W → Option (List W)
  | .tup ws => some ws
  | .lst ws => some ws
  | .scr ws => some ws
  | .adr a => match g a with
    | some (.gl ws) => some ws
    | _ => none
  | _ => none
theorem seqG_rep {K : PySem.W.Frag} {Φ H : Hp} {g : G} {w : W} {v : V} {ws : List W} (st : Sta K Φ g H) (r : Rep K Φ w v) (e : seqG g w = some ws) : ∃ a xs, v = .ref a ∧ (SqL K H a xs ∨ SqT K H a xs) ∧ RepAll K Φ ws xs := by
  cases r with
  | tup hs r => cases e; exact ⟨_, _, rfl, .inr (Same.sqT st.sub hs), r⟩
  | lst hs r => cases e; exact ⟨_, _, rfl, .inl (SqL.of (st.sub _ _ hs)), r⟩
  | scr hs r => cases e; exact ⟨_, _, rfl, .inl (Same.seq st.sub hs), r⟩
  | adr a =>
    simp only [seqG] at e
    cases q : g a with
    | none => rw [q] at e; cases e
    | some o =>
      rw [q] at e
      cases o with
      | gl us =>
        cases e
        obtain ⟨⟨vs, eH, rv⟩, _⟩ := st.rep a _ q
        exact ⟨a, vs, rfl, .inl (SqL.of eH), rv⟩
      | gi C dx fs => cases e
  | _ => cases e
/-- a list -/
def lstG (g : G) : W → Option (List W)
  | .tup _ => none
  | w => seqG g w
theorem lstG_rep {K : PySem.W.Frag} {Φ H : Hp} {g : G} {w : W} {v : V} {ws : List W} (st : Sta K Φ g H) (r : Rep K Φ w v) (e : lstG g w = some ws) : ∃ a xs, v = .ref a ∧ SqL K H a xs ∧ RepAll K Φ ws xs := by
  cases r with
  | tup hs r => cases e
  | lst hs r => cases e; exact ⟨_, _, rfl, SqL.of (st.sub _ _ hs), r⟩
  | scr hs r => cases e; exact ⟨_, _, rfl, Same.seq st.sub hs, r⟩
  | adr a =>
    simp only [lstG, seqG] at e
    cases q : g a with
    | none => rw [q] at e; cases e
    | some o =>
      rw [q] at e
      cases o with
      | gl us =>
        cases e
        obtain ⟨⟨vs, eH, rv⟩, _⟩ := st.rep a _ q
        exact ⟨a, vs, rfl, SqL.of eH, rv⟩
      | gi C dx fs => cases e
  | _ => cases e

def CallGS (K : PySem.W.Frag) (rV : List V → Hp → VK → Prop) (r : G → List W → (W → Prop) → Prop) : Prop :=
  ∀ Φ g H ws xs KQ Q, Sta K Φ g H → RepAll K Φ ws xs → r g ws KQ → (∀ u Φ' H' v, KQ u → Grow K Φ g H Φ' g H' → Rep K Φ' u v → Q v H') → rV xs H Q
def CallLGS (K : PySem.W.Frag) (rV : List V → Hp → VK → Prop) (r : G → List W → (List W → Prop) → Prop) : Prop :=
  ∀ Φ g H ws xs KQ Q, Sta K Φ g H → RepAll K Φ ws xs → r g ws KQ → (∀ us Φ' H' p vs, KQ us → Grow K Φ g H Φ' g H' → H p = none → Φ' p = none → H' p = some (.lst vs) → RepAll K Φ' us vs → Q (.ref p) H') → rV xs H Q
structure CallG (X : Cx) (f : Value) (r : G → List W → (W → Prop) → Prop) : Prop where
  ex : ∃ rV, CallR X f rV ∧ CallGS X.K rV r
structure CallLG (X : Cx) (f : Value) (r : G → List W → (List W → Prop) → Prop) : Prop where
  ex : ∃ rV, CallR X f rV ∧ CallLGS X.K rV r
def eCG (r : G → List W → (W → Prop) → Prop) (t : TAw) : TEw := fun ν g K X => t ν g (fun ws g1 => r g1 ws fun u => K u g1) X
def lCG (r : G → List W → (List W → Prop) → Prop) (t : TAw) : TAw := fun ν g K X => t ν g (fun ws g1 => r g1 ws fun us => K us g1) X
section
variable {X : Cx} {cl : Str → Addr} {Wx : WX} {a b c e o : Expr} {es : List Expr} {ta tb te to : TEw} {tc tt : TTw} {t tl : TAw} {pos p apos : Pos} {n : Nat}
theorem cg_run {K : PySem.W.Frag} {r : G → List W → (W → Prop) → Prop} {rV} (h2 : CallGS K rV r) {σ : L2.St} {H : Hp} {Q : VK} (h : liftE K cl Wx (eCG r t) σ H Q) : tCB rV (liftA K cl Wx n t) σ H Q := by
  obtain ⟨Φ, ν, g, KK, KE, st, er, k, q, qx⟩ := h
  refine ⟨Φ, ν, g, _, KE, st, er, k, fun ws g1 Φ1 H1 vs k1 hl x1 r1 => ?_, qx⟩
  exact h2 Φ1 g1 H1 ws vs _ _ x1.st r1 k1 fun u Φ3 H3 v k3 x3 r3 => q u g1 Φ3 H3 v k3 (x1.trans x3) r3
theorem clg_run {K : PySem.W.Frag} {r : G → List W → (List W → Prop) → Prop} {rV} (h2 : CallLGS K rV r) {σ : L2.St} {H : Hp} {Q : VK} (h : liftL K cl Wx (lCG r t) σ H Q) : tCB rV (liftA K cl Wx n t) σ H Q := by
  obtain ⟨Φ, ν, g, KK, KE, st, er, k, q, qx⟩ := h
  refine ⟨Φ, ν, g, _, KE, st, er, k, fun ws g1 Φ1 H1 vs k1 hl x1 r1 => ?_, qx⟩
  exact h2 Φ1 g1 H1 ws vs _ _ x1.st r1 k1 fun us Φ3 H3 p us' k3 x3 n1 n2 e3 r3 => q us g1 Φ3 H3 p us' k3 (x1.trans x3) (x1.none_of n1) n2 (x1.st.gH n1) e3 r3
theorem we_cgB {id : String} {xs : Str} {r} (hc : CallG X (.builtin id) r) (hg : Gl X xs) (hm : X.mg xs = none) (hv : bootBuiltins xs = some (.builtin id)) (ha : WAx X cl Wx n (e :: es) t) (hn : xs ≠ "__name__" := by decide) (hdb : (xs == ("__debug__" : Str)) = false := by decide)
    (he : starEach (e :: es) X.env = (false, eval e X.env) :: starEach es X.env := by rfl) (hpl : (backTo pos (starEach es X.env)).any (·.1) = false := by rfl) : WEx X cl Wx (.Call (.Name xs p) (e :: es) [] pos) (eCG r t) := by
  obtain ⟨rV, h1, h2⟩ := hc.ex
  exact pe_imp (pe_callB h1 hg hm hv ha hn hdb he hpl) fun σ H Q h => cg_run h2 h
theorem we_cgT {T : String} {xs : Str} {r} (hc : CallG X (.type T) r) (hg : Gl X xs) (hm : X.mg xs = none) (hv : bootBuiltins xs = some (.type T)) (ha : WAx X cl Wx n (e :: es) t) (hn : xs ≠ "__name__" := by decide) (hdb : (xs == ("__debug__" : Str)) = false := by decide)
    (he : starEach (e :: es) X.env = (false, eval e X.env) :: starEach es X.env := by rfl) (hpl : (backTo pos (starEach es X.env)).any (·.1) = false := by rfl) : WEx X cl Wx (.Call (.Name xs p) (e :: es) [] pos) (eCG r t) := by
  obtain ⟨rV, h1, h2⟩ := hc.ex
  exact pe_imp (pe_callTy h1 hg hm hv ha hn hdb he hpl) fun σ H Q h => cg_run h2 h
theorem wl_cgB {id : String} {xs : Str} {r} (hc : CallLG X (.builtin id) r) (hg : Gl X xs) (hm : X.mg xs = none) (hv : bootBuiltins xs = some (.builtin id)) (ha : WAx X cl Wx n (e :: es) t) (hn : xs ≠ "__name__" := by decide) (hdb : (xs == ("__debug__" : Str)) = false := by decide)
    (he : starEach (e :: es) X.env = (false, eval e X.env) :: starEach es X.env := by rfl) (hpl : (backTo pos (starEach es X.env)).any (·.1) = false := by rfl) : WLx X cl Wx (.Call (.Name xs p) (e :: es) [] pos) (lCG r t) := by
  obtain ⟨rV, h1, h2⟩ := hc.ex
  exact pe_imp (pe_callB h1 hg hm hv ha hn hdb he hpl) fun σ H Q h => clg_run h2 h
theorem wl_cgT {T : String} {xs : Str} {r} (hc : CallLG X (.type T) r) (hg : Gl X xs) (hm : X.mg xs = none) (hv : bootBuiltins xs = some (.type T)) (ha : WAx X cl Wx n (e :: es) t) (hn : xs ≠ "__name__" := by decide) (hdb : (xs == ("__debug__" : Str)) = false := by decide)
    (he : starEach (e :: es) X.env = (false, eval e X.env) :: starEach es X.env := by rfl) (hpl : (backTo pos (starEach es X.env)).any (·.1) = false := by rfl) : WLx X cl Wx (.Call (.Name xs p) (e :: es) [] pos) (lCG r t) := by
  obtain ⟨rV, h1, h2⟩ := hc.ex
  exact pe_imp (pe_callTy h1 hg hm hv ha hn hdb he hpl) fun σ H Q h => clg_run h2 h

/-! items, wherever -/
def OpGS (K : PySem.W.Frag) (rV : R2) (r : G → W → W → (W → Prop) → Prop) : Prop :=
  ∀ Φ g H w z x y KQ Q, Sta K Φ g H → Rep K Φ w x → Rep K Φ z y → r g w z KQ → (∀ u Φ' H' v, KQ u → Grow K Φ g H Φ' g H' → Rep K Φ' u v → Q v H') → rV x y H Q
structure IxG (X : Cx) (r : G → W → W → (W → Prop) → Prop) : Prop where
  ex : ∃ rV, IxR X rV ∧ OpGS X.K rV r
def eIx (r : G → W → W → (W → Prop) → Prop) (ta tb : TEw) : TEw := fun ν g K X => ta ν g (fun x g1 => tb ν g1 (fun y g2 => r g2 x y fun u => K u g2) X) X
theorem we_ixg {r} (ho : IxG X r) (ha : WEx X cl Wx a ta) (hb : WEx X cl Wx b tb) (hs : PlainIx b) : WEx X cl Wx (.Subscript a b pos) (eIx r ta tb) := by
  obtain ⟨rV, h1, h2⟩ := ho.ex
  refine pe_imp (pe_ix h1 ha hb hs) fun σ H Q h => ?_
  obtain ⟨Φ, ν, g, KK, KE, st, er, k, q, qx⟩ := h
  refine e1 st er k qx fun w g1 Φ1 H1 x k1 x1 r1 => ?_
  refine e1 x1.st (er.mono x1.phi) k1 (qx.grow x1) fun z g2 Φ2 H2 y k2 x2 r2 => ?_
  exact h2 Φ2 g2 H2 w z x y _ _ x2.st (r1.mono x2.phi) r2 k2 fun u Φ3 H3 v k3 x3 r3 => q u g2 Φ3 H3 v k3 ((x1.trans x2).trans x3) r3
/-- the item at n -/
def itemW (g : G) : W → W → Option W
  | .str x, .int n => if x.length ≤ 16777216 then (atI x.cps.toList n).map fun c => .str ⟨#[c]⟩ else none
  | w, .int n => (seqG g w).bind fun ws => atI ws n
  | _, _ => none
def rItem : G → W → W → (W → Prop) → Prop := fun g w z K => ∃ u, itemW g w z = some u ∧ K u
theorem w_item : IxG X rItem := ⟨_, ix_seq, by
  rintro Φ g H w z x y KQ Q st rw rz ⟨u, h, k⟩ q
  cases z with
  | int n =>
    cases rz
    by_cases hs : ∃ x, w = .str x
    · obtain ⟨x, rfl⟩ := hs
      cases rw
      simp only [itemW] at h
      split at h
      · rename_i hl
        cases e : atI x.cps.toList n with
        | none => rw [e] at h; cases h
        | some c =>
          rw [e] at h
          cases h
          exact .inr (.inr ⟨x, n, c, rfl, rfl, by rw [sizeLine_eq]; exact hl, e, q _ Φ H _ k (.refl st) (.str _)⟩)
      · cases h
    · have h2 : (seqG g w).bind (fun ws => atI ws n) = some u := by
        cases w <;> first | exact h | exact absurd ⟨_, rfl⟩ hs
      cases e : seqG g w with
      | none => rw [e] at h2; cases h2
      | some ws =>
        rw [e] at h2
        obtain ⟨a, xs, rfl, hq, r⟩ := seqG_rep st rw e
        obtain ⟨v, ev, rv⟩ := atI_rep r h2
        rcases hq with hq | hq
        · exact .inl ⟨_, _, n, v, rfl, rfl, hq, ev, q _ Φ H _ k (.refl st) rv⟩
        · exact .inr (.inl ⟨_, _, n, v, rfl, rfl, hq, ev, q _ Φ H _ k (.refl st) rv⟩)
  | _ => cases w <;> simp [itemW] at h⟩

/-! truth, wherever -/
def truthG (g : G) : W → Option Bool
  | .non => some false
  | .bl b => some b
  | .int i => some (i != 0)
  | .str x => if x.length ≤ 16777216 then some ((x.length : Int) != 0) else none
  | w => (seqG g w).map fun ws => !ws.isEmpty
def tTruG (te : TEw) : TTw := fun ν g K X => te ν g (fun w g1 => ∃ b, truthG g1 w = some b ∧ K b g1) X
theorem truG_rep {K : PySem.W.Frag} {Φ H : Hp} {g : G} {w : W} {v : V} {b : Bool} (st : Sta K Φ g H) (r : Rep K Φ w v) (h : truthG g w = some b) : TruV K v H b := by
  have sq : ∀ {w : W} {v : V}, Rep K Φ w v → (seqG g w).map (fun ws => !ws.isEmpty) = some b → TruV K v H b := fun {w v} r h => by
    cases e : seqG g w with
    | none => rw [e] at h; cases h
    | some ws =>
      rw [e] at h
      cases h
      obtain ⟨a, xs, rfl, hq | hq, r⟩ := seqG_rep st r e
      · exact .inl ⟨_, hq, isEmpty_rep r⟩
      · exact .inr (.inl ⟨_, hq, isEmpty_rep r⟩)
  cases r with
  | non => cases h; rfl
  | bl _ => cases h; rfl
  | int _ => cases h; rfl
  | str x =>
    simp only [truthG] at h
    split at h
    · rename_i hl
      cases h
      exact ⟨by rw [sizeLine_eq]; exact hl, rfl⟩
    · cases h
  | adr a => exact sq (.adr a) h
  | ty _ => cases h
  | tup hs r => exact sq (.tup hs r) h
  | lst hs r => exact sq (.lst hs r) h
  | scr hs r => exact sq (.scr hs r) h
theorem wt_truG (h : WEx X cl Wx e te) (he : ∀ whole, isTrue e X.env whole = (do let v ← whole; standAt e.pos; holding [v] (truthy v)) := by intro _; rfl) : WTx X cl Wx e (tTruG te) := by
  refine pt_imp (pt_truth h he) fun σ H Q h => ?_
  obtain ⟨Φ, ν, g, KK, KE, st, er, k, q, qx⟩ := h
  refine e1 st er k qx fun w g1 Φ1 H1 v k1 x1 r1 => ?_
  obtain ⟨c, e, k1⟩ := k1
  exact ⟨c, truG_rep x1.st r1 e, q c g1 Φ1 H1 k1 x1⟩

/-! ### slices -/
def cutW (xs : List W) (lo hi : Option Int) : List W := (xs.drop (HT.sIx xs.length 0 lo)).take (HT.sIx xs.length xs.length hi - HT.sIx xs.length 0 lo)
theorem cut_rep {K : PySem.W.Frag} {Φ : Hp} {ws : List W} {xs : List V} (r : RepAll K Φ ws xs) (lo hi : Option Int) : RepAll K Φ (cutW ws lo hi) (cutV xs lo hi) := by
  unfold cutW cutV
  rw [r.length]
  exact (r.drop _).take _
def liftO (K : PySem.W.Frag) (cl : Str → Addr) (Wx : WX) (t : TOw) : TO := fun σ H R => ∃ Φ ν g KK KE, Sta K Φ g H ∧ ER K Φ ν σ ∧ t ν g KK KE ∧ (∀ o g' Φ' H', KK o g' → Grow K Φ g H Φ' g' H' → R o H') ∧ QX K cl Φ g H KE (WE Wx σ)
abbrev WOx (X : Cx) (cl : Str → Addr) (Wx : WX) (e : Option Expr) (t : TOw) : Prop := PO X e (liftO X.K cl Wx t)
def oNone : TOw := fun _ g K _ => K none g
def oSome (te : TEw) : TOw := fun ν g K X => te ν g (fun w g1 => ∃ i, w = .int i ∧ K (some i) g1) X
theorem po_imp {e : Option Expr} {t t' : TO} (h : PO X e t) (i : ∀ σ H Q, t' σ H Q → t σ H Q) : PO X e t' := ⟨fun pins s σ H Q I q => h.run pins s σ H Q I (i σ H Q q)⟩
theorem wo_none : WOx X cl Wx none oNone := po_imp po_none fun σ H Q ⟨Φ, ν, g, KK, KE, st, er, k, q, _⟩ => q none g Φ H k (.refl st)
theorem wo_some (h : WEx X cl Wx e te) : WOx X cl Wx (some e) (oSome te) := po_imp (po_some h) fun σ H Q ⟨Φ, ν, g, KK, KE, st, er, k, q, qx⟩ =>
  ⟨Φ, ν, g, _, KE, st, er, k, fun w g1 Φ1 H1 v ⟨i, ei, k1⟩ x1 r1 => by subst ei; cases r1; exact ⟨i, rfl, q (some i) g1 Φ1 H1 k1 x1⟩, qx⟩
variable {lo hi : Option Expr} {ol ou : TOw} {p2 : Pos}
/-- t[lo:hi] of a tuple or a text -/
def sliceW : W → Option Int → Option Int → Option W
  | .tup ws, l, u => some (.tup (cutW ws l u))
  | .str x, l, u => if x.length ≤ 16777216 then some (.str (cutS x l u)) else none
  | _, _, _ => none
def eSl (te : TEw) (ol ou : TOw) : TEw := fun ν g K X => te ν g (fun w g1 => ol ν g1 (fun l g2 => ou ν g2 (fun u g3 => ∃ z, sliceW w l u = some z ∧ K z g3) X) X) X
theorem cutW_whole {ws : List W} {l u : Option Int} (h : HT.sIx ws.length 0 l = 0 ∧ HT.sIx ws.length ws.length u = ws.length) : cutW ws l u = ws := by
  unfold cutW
  rw [h.1, h.2]
  simp
theorem o1 {t : TOw} {ν : Env} {σ : L2.St} {Φ H : Hp} {g : G} {KE : XW} {K1 : Option Int → G → Prop} {Q : Option Int → Hp → Prop} (st : Sta X.K Φ g H) (er : ER X.K Φ ν σ) (h : t ν g K1 KE) (qx : QX X.K cl Φ g H KE (WE Wx σ))
    (f : ∀ w g1 Φ1 H1, K1 w g1 → Grow X.K Φ g H Φ1 g1 H1 → Q w H1) : liftO X.K cl Wx t σ H Q := ⟨Φ, ν, g, K1, KE, st, er, h, f, qx⟩
theorem we_sl (he : WEx X cl Wx e te) (hl : WOx X cl Wx lo ol) (hu : WOx X cl Wx hi ou) : WEx X cl Wx (.Subscript e (.Slice lo hi none p2) pos) (eSl te ol ou) := by
  refine pe_imp (pe_slice (sl_tupA.or sl_str) he hl hu) fun σ H Q h => ?_
  obtain ⟨Φ, ν, g, KK, KE, st, er, k, q, qx⟩ := h
  refine e1 st er k qx fun w g1 Φ1 H1 x k1 x1 r1 => ?_
  refine o1 x1.st (er.mono x1.phi) k1 (qx.grow x1) fun l g2 Φ2 H2 k2 x2 => ?_
  have x12 := x1.trans x2
  refine o1 x2.st (er.mono x12.phi) k2 (qx.grow x12) fun u g3 Φ3 H3 k3 x3 => ?_
  have x13 := x12.trans x3
  obtain ⟨z, ez, k3⟩ := k3
  have r3 := (r1.mono x2.phi).mono x3.phi
  cases r3 with
  | @tup a xs ws hs r =>
    cases ez
    refine .inl ⟨a, xs, rfl, Same.sqT x13.st.sub hs, fun h => ?_, fun h p np => ?_⟩
    · rw [← r.length] at h
      rw [cutW_whole h] at k3
      exact q _ g3 Φ3 H3 _ k3 x13 (.tup hs r)
    · have y := Grow.laid (o := .tup (cutV xs l u)) x13.st np
      exact q _ g3 _ _ _ k3 (x13.trans y) (.tup (SqT.of upd_same) ((cut_rep r l u).mono y.phi))
  | str x =>
    simp only [sliceW] at ez
    split at ez
    · rename_i hl
      cases ez
      exact .inr ⟨x, rfl, by rw [sizeLine_eq]; exact hl, q _ g3 Φ3 H3 _ k3 x13 (.str _)⟩
    · cases ez
  | _ => cases ez
/-- of a list: a new one -/
def lSl (te : TEw) (ol ou : TOw) : TAw := fun ν g K X => te ν g (fun w g1 => ol ν g1 (fun l g2 => ou ν g2 (fun u g3 => ∃ ws, lstG g3 w = some ws ∧ K (cutW ws l u) g3) X) X) X
theorem wl_sl (he : WEx X cl Wx e te) (hl : WOx X cl Wx lo ol) (hu : WOx X cl Wx hi ou) : WLx X cl Wx (.Subscript e (.Slice lo hi none p2) pos) (lSl te ol ou) := by
  refine pe_imp (pe_slice sl_list he hl hu) fun σ H Q h => ?_
  obtain ⟨Φ, ν, g, KK, KE, st, er, k, q, qx⟩ := h
  refine e1 st er k qx fun w g1 Φ1 H1 x k1 x1 r1 => ?_
  refine o1 x1.st (er.mono x1.phi) k1 (qx.grow x1) fun l g2 Φ2 H2 k2 x2 => ?_
  have x12 := x1.trans x2
  refine o1 x2.st (er.mono x12.phi) k2 (qx.grow x12) fun u g3 Φ3 H3 k3 x3 => ?_
  have x13 := x12.trans x3
  obtain ⟨ws, ez, k3⟩ := k3
  obtain ⟨a, xs, rfl, hs, r⟩ := lstG_rep x13.st ((r1.mono x2.phi).mono x3.phi) ez
  refine ⟨a, xs, rfl, hs, fun p np => ?_⟩
  exact q _ g3 Φ3 _ p _ k3 (x13.trans (Grow.own x13.st np)) (x13.none_of np) (x13.st.pH np) (x13.st.gH np) upd_same (cut_rep r l u)

/-! ### built-in calls -/
def lenW (g : G) : W → Option Int
  | .str x => if x.length ≤ 16777216 then some x.length else none
  | w => (seqG g w).map fun ws => (ws.length : Int)
def rLen : G → List W → (W → Prop) → Prop := fun g as K => ∃ w n, as = [w] ∧ lenW g w = some n ∧ K (.int n)
theorem RepAll.one {K : PySem.W.Frag} {Φ : Hp} {w : W} {vs : List V} (r : RepAll K Φ [w] vs) : ∃ v, vs = [v] ∧ Rep K Φ w v := by
  cases r with | cons h r => cases r; exact ⟨_, rfl, h⟩
theorem RepAll.two {K : PySem.W.Frag} {Φ : Hp} {w z : W} {vs : List V} (r : RepAll K Φ [w, z] vs) : ∃ v u, vs = [v, u] ∧ Rep K Φ w v ∧ Rep K Φ z u := by
  cases r with | cons h r => cases r with | cons h2 r => cases r; exact ⟨_, _, rfl, h, h2⟩
theorem w_len : CallG X (.builtin "len") rLen := ⟨_, call_len, by
  rintro Φ g H ws xs KQ Q st r ⟨w, n, rfl, h, k⟩ q
  obtain ⟨v, rfl, rv⟩ := r.one
  by_cases hs : ∃ x, w = .str x
  · obtain ⟨x, rfl⟩ := hs
    cases rv
    simp only [lenW] at h
    split at h
    · rename_i hl
      cases h
      exact ⟨_, x.length, rfl, ⟨by rw [sizeLine_eq]; exact hl, rfl⟩, q _ Φ H _ k (.refl st) (.int _)⟩
    · cases h
  · have h2 : (seqG g w).map (fun ws => (ws.length : Int)) = some n := by
      cases w <;> first | exact h | exact absurd ⟨_, rfl⟩ hs
    cases e : seqG g w with
    | none => rw [e] at h2; cases h2
    | some ws =>
      rw [e] at h2
      cases h2
      obtain ⟨a, xs, rfl, hq, r⟩ := seqG_rep st rv e
      have k : KQ (.int (ws.length : Int)) := k
      rw [r.length] at k
      rcases hq with hq | hq
      · exact ⟨_, xs.length, rfl, .inl ⟨_, hq, rfl⟩, q _ Φ H _ k (.refl st) (.int _)⟩
      · exact ⟨_, xs.length, rfl, .inr ⟨_, hq, rfl⟩, q _ Φ H _ k (.refl st) (.int _)⟩⟩
/-- int(i) -/
def toInt : W → Option Int
  | .int i => some i
  | .bl b => some (if b then 1 else 0)
  | _ => none
def rInt : G → List W → (W → Prop) → Prop := fun _ as K => ∃ w n, as = [w] ∧ toInt w = some n ∧ K (.int n)
theorem w_int : CallG X (.type "int") rInt := ⟨_, call_int1, by
  rintro Φ g H ws xs KQ Q st r ⟨w, n, rfl, h, k⟩ q
  obtain ⟨v, rfl, rv⟩ := r.one
  cases rv with
  | int i => cases h; exact .inl ⟨_, rfl, q _ Φ H _ k (.refl st) (.int _)⟩
  | bl i => cases h; exact .inr ⟨i, rfl, q _ Φ H _ k (.refl st) (.int _)⟩
  | _ => cases h⟩
/-- tuple(x), list(x) of a list or tuple -/
def rTupOf : G → List W → (W → Prop) → Prop := fun g as K => ∃ w ws, as = [w] ∧ seqG g w = some ws ∧ K (.tup ws)
theorem w_tupOf : CallG X (.type "tuple") rTupOf := ⟨_, call_tuple_of, by
  rintro Φ g H ws xs KQ Q st r ⟨w, ws', rfl, h, k⟩ q
  obtain ⟨v, rfl, rv⟩ := r.one
  obtain ⟨a, xs, rfl, hq, r⟩ := seqG_rep st rv h
  cases rv with
  | @tup _ xs' _ hs r' => cases h; exact ⟨a, xs', rfl, .inr ⟨Same.sqT st.sub hs, q _ Φ H _ k (.refl st) (.tup hs r')⟩⟩
  | lst hs r' =>
    cases h
    exact ⟨a, _, rfl, .inl ⟨SqL.of (st.sub _ _ hs), fun p np => q _ _ _ _ k (Grow.laid st np) (.tup (SqT.of upd_same) (r'.mono (Grow.laid st np).phi))⟩⟩
  | scr hs r' =>
    cases h
    exact ⟨a, _, rfl, .inl ⟨Same.seq st.sub hs, fun p np => q _ _ _ _ k (Grow.laid st np) (.tup (SqT.of upd_same) (r'.mono (Grow.laid st np).phi))⟩⟩
  | adr _ =>
    obtain ⟨a', xs', e', hq', r'⟩ := lstG_rep (w := .adr a) st (.adr a) h
    cases e'
    exact ⟨a, _, rfl, .inl ⟨hq', fun p np => q _ _ _ _ k (Grow.laid st np) (.tup (SqT.of upd_same) (r'.mono (Grow.laid st np).phi))⟩⟩
  | _ => cases h⟩
def rLstOf : G → List W → (List W → Prop) → Prop := fun g as K => ∃ w ws, as = [w] ∧ seqG g w = some ws ∧ K ws
theorem w_lstOf : CallLG X (.type "list") rLstOf := ⟨_, call_list_of, by
  rintro Φ g H ws xs KQ Q st r ⟨w, ws', rfl, h, k⟩ q
  obtain ⟨v, rfl, rv⟩ := r.one
  obtain ⟨a, xs, rfl, hq, r⟩ := seqG_rep st rv h
  exact ⟨a, xs, rfl, hq, fun l nl => q _ Φ _ l _ k (Grow.own st nl) nl (st.pH nl) upd_same r⟩⟩
/-- isinstance(x, T), T a built-in type -/
def tyW (g : G) : W → Option String
  | .non => some "NoneType"
  | .bl _ => some "bool"
  | .int _ => some "int"
  | .str _ => some "str"
  | .tup _ => some "tuple"
  | .lst _ => some "list"
  | .scr _ => some "list"
  | .adr a => match g a with
    | some (.gl _) => some "list"
    | _ => none
  | _ => none
def isiW (g : G) (w : W) (n : String) : Option Bool := (tyW g w).bind fun t => kitB t n
def rIsiW : G → List W → (W → Prop) → Prop := fun g as K => ∃ w n b, as = [w, .ty n] ∧ isiW g w n = some b ∧ K (.bl b)
theorem sqT_ty {K : PySem.W.Frag} {H : Hp} {a : Addr} {xs : List V} (h : SqT K H a xs) : TyX K H (.ref a) (.type "tuple") := by
  rcases h with (h | ⟨o, h⟩) | ⟨o, its, n, h, e, _⟩
  · exact .base (.tup h)
  · exact .fTuple h
  · exact .kTuple h e
theorem sqL_ty {K : PySem.W.Frag} {H : Hp} {a : Addr} {xs : List V} (h : SqL K H a xs) : TyX K H (.ref a) (.type "list") := by
  rcases h with (h | ⟨o, h⟩) | ⟨o, its, n, h, e, _⟩
  · exact .base (.lst h)
  · exact .base (.frz h)
  · exact .kList h e
theorem tyW_rep {K : PySem.W.Frag} {Φ H : Hp} {g : G} {w : W} {v : V} {t : String} (st : Sta K Φ g H) (r : Rep K Φ w v) (h : tyW g w = some t) : TyX K H v (.type t) := by
  cases r with
  | non => cases h; exact .base .non
  | bl _ => cases h; exact .base (.bl _)
  | int _ => cases h; exact .base (.int _)
  | str _ => cases h; exact .base (.str _)
  | tup hs r => cases h; exact sqT_ty (Same.sqT st.sub hs)
  | lst hs r => cases h; exact sqL_ty (SqL.of (st.sub _ _ hs))
  | scr hs r => cases h; exact sqL_ty (Same.seq st.sub hs)
  | ty _ => cases h
  | adr a =>
    simp only [tyW] at h
    cases q : g a with
    | none => rw [q] at h; cases h
    | some o =>
      rw [q] at h
      cases o with
      | gl us =>
        cases h
        obtain ⟨⟨vs, eH, rv⟩, _⟩ := st.rep a _ q
        exact .base (.lst eH)
      | gi C dx fs => cases h
theorem w_isi : CallG X (.builtin "isinstance") rIsiW := ⟨_, call_isi, by
  rintro Φ g H ws xs KQ Q st r ⟨w, n, b, rfl, h, k⟩ q
  obtain ⟨v, u, rfl, rv, ru⟩ := r.two
  cases ru
  unfold isiW at h
  cases e : tyW g w with
  | none => rw [e] at h; cases h
  | some t =>
    rw [e] at h
    exact ⟨v, .ty n, .type t, .type n, b, rfl, .ty n, tyW_rep st rv e, kit_ty h, q _ Φ H _ k (.refl st) (.bl b)⟩⟩
theorem we_ty {n : String} {xs : Str} (hg : Gl X xs) (hm : X.mg xs = none) (hv : bootBuiltins xs = some (.type n)) (hn : xs ≠ "__name__" := by decide) (hd : (xs == ("__debug__" : Str)) = false := by decide) : WEx X cl Wx (.Name xs pos) (eC (.ty n)) :=
  we_c (pe_bltn (v := .ty n) hg hm hv rfl hn hd) fun _ => .ty n

/-! lists of ints -/
def intsW : List W → Option (List Int)
  | [] => some []
  | .int i :: r => (intsW r).map (i :: ·)
  | _ :: _ => none
theorem intsW_map : ∀ ns : List Int, intsW (ns.map W.int) = some ns
  | [] => rfl
  | n :: ns => by rw [List.map_cons]; simp only [intsW]; rw [intsW_map ns]; rfl
theorem intsW_eq : ∀ {ws : List W} {ns : List Int}, intsW ws = some ns → ws = ns.map W.int
  | [], ns, h => by cases h; rfl
  | w :: r, ns, h => by
    cases w with
    | int i =>
      simp only [intsW] at h
      cases e : intsW r with
      | none => rw [e] at h; cases h
      | some ms =>
        rw [e] at h
        cases h
        rw [intsW_eq e]; rfl
    | _ => cases h
theorem ints_rep {K : PySem.W.Frag} {Φ : Hp} : ∀ {ns : List Int} {vs : List V}, RepAll K Φ (ns.map W.int) vs → vs = ns.map V.int
  | [], _, r => by cases r; rfl
  | n :: ns, _, r => by
    rw [List.map_cons] at r
    cases r with
    | cons h r => cases h; rw [ints_rep r]; rfl
theorem rep_ints {K : PySem.W.Frag} {Φ : Hp} : ∀ (ns : List Int), RepAll K Φ (ns.map W.int) (ns.map V.int)
  | [] => .nil
  | n :: ns => .cons (.int n) (rep_ints ns)
/-- a list of ints, read -/
def intsG (g : G) (w : W) : Option (List Int) := (lstG g w).bind intsW
theorem intsG_rep {K : PySem.W.Frag} {Φ H : Hp} {g : G} {w : W} {v : V} {ns : List Int} (st : Sta K Φ g H) (r : Rep K Φ w v) (e : intsG g w = some ns) : ∃ a, v = .ref a ∧ SqL K H a (ns.map V.int) := by
  unfold intsG at e
  cases q : lstG g w with
  | none => rw [q] at e; cases e
  | some ws =>
    rw [q] at e
    obtain ⟨a, xs, rfl, hs, rr⟩ := lstG_rep st r q
    rw [intsW_eq e] at rr
    rw [ints_rep rr] at hs
    exact ⟨a, rfl, hs⟩
def rMaxW : G → List W → (W → Prop) → Prop := fun g as K => ∃ w ns, as = [w] ∧ intsG g w = some ns ∧ 0 < ns.length ∧ ∀ m, m ∈ ns → (∀ y, y ∈ ns → y ≤ m) → K (.int m)
theorem w_max (hc : X.calm = true) : CallG X (.builtin "max") rMaxW := ⟨_, cr_max hc, by
  rintro Φ g H ws xs KQ Q st r ⟨w, ns, rfl, h, hl, k⟩ q
  obtain ⟨v, rfl, rv⟩ := r.one
  obtain ⟨a, rfl, hs⟩ := intsG_rep st rv h
  exact ⟨a, ns, rfl, hs, hl, fun m h1 h2 => q _ Φ H _ (k m h1 h2) (.refl st) (.int _)⟩⟩
def rMinW : G → List W → (W → Prop) → Prop := fun g as K => ∃ w ns, as = [w] ∧ intsG g w = some ns ∧ 0 < ns.length ∧ ∀ m, m ∈ ns → (∀ y, y ∈ ns → m ≤ y) → K (.int m)
theorem w_min (hc : X.calm = true) : CallG X (.builtin "min") rMinW := ⟨_, cr_min hc, by
  rintro Φ g H ws xs KQ Q st r ⟨w, ns, rfl, h, hl, k⟩ q
  obtain ⟨v, rfl, rv⟩ := r.one
  obtain ⟨a, rfl, hs⟩ := intsG_rep st rv h
  exact ⟨a, ns, rfl, hs, hl, fun m h1 h2 => q _ Φ H _ (k m h1 h2) (.refl st) (.int _)⟩⟩
def rSumW : G → List W → (W → Prop) → Prop := fun g as K => ∃ w ns, as = [w] ∧ intsG g w = some ns ∧ K (.int ns.sum)
theorem w_sum (hc : X.calm = true) : CallG X (.builtin "sum") rSumW := ⟨_, cr_sum hc, by
  rintro Φ g H ws xs KQ Q st r ⟨w, ns, rfl, h, k⟩ q
  obtain ⟨v, rfl, rv⟩ := r.one
  obtain ⟨a, rfl, hs⟩ := intsG_rep st rv h
  exact ⟨a, ns, rfl, hs, q _ Φ H _ k (.refl st) (.int _)⟩⟩
def rMax2W : G → List W → (W → Prop) → Prop := fun _ as K => ∃ i j, as = [.int i, .int j] ∧ K (.int (if j > i then j else i))
theorem w_max2 (hc : X.calm = true) : CallG X (.builtin "max") rMax2W := ⟨_, call_max2 hc, by
  rintro Φ g H ws xs KQ Q st r ⟨i, j, rfl, k⟩ q
  rw [r.int2]
  exact ⟨i, j, rfl, q _ Φ H _ k (.refl st) (.int _)⟩⟩
def rMin2W : G → List W → (W → Prop) → Prop := fun _ as K => ∃ i j, as = [.int i, .int j] ∧ K (.int (if j < i then j else i))
theorem w_min2 (hc : X.calm = true) : CallG X (.builtin "min") rMin2W := ⟨_, call_min2 hc, by
  rintro Φ g H ws xs KQ Q st r ⟨i, j, rfl, k⟩ q
  rw [r.int2]
  exact ⟨i, j, rfl, q _ Φ H _ k (.refl st) (.int _)⟩⟩
def rSortI : G → List W → (List W → Prop) → Prop := fun g as K => ∃ w ns, as = [w] ∧ intsG g w = some ns ∧ ∀ ns' : List Int, ns'.Perm ns → ns'.Pairwise (· ≤ ·) → K (ns'.map W.int)
theorem w_sortI : CallLG X (.builtin "sorted") rSortI := ⟨_, cr_sortedI, by
  rintro Φ g H ws xs KQ Q st r ⟨w, ns, rfl, h, k⟩ q
  obtain ⟨v, rfl, rv⟩ := r.one
  obtain ⟨a, rfl, hs⟩ := intsG_rep st rv h
  exact ⟨a, ns, rfl, hs, fun ns' p h1 h2 np => q _ Φ _ p _ (k ns' h1 h2) (Grow.own st np) np (st.pH np) upd_same (rep_ints ns')⟩⟩

/-! ### list(range(..)), tuple(range(..)) -/
def liftRg (K : PySem.W.Frag) (cl : Str → Addr) (Wx : WX) (t : TAw) : L2.St → Hp → (Int → Int → Hp → Prop) → Prop := fun σ H R => ∃ Φ ν g KK KE, Sta K Φ g H ∧ ER K Φ ν σ ∧ t ν g KK KE ∧
  (∀ lo hi g' Φ' H', (RgOk lo hi → KK (rngW lo hi) g') → Grow K Φ g H Φ' g' H' → R lo hi H') ∧ QX K cl Φ g H KE (WE Wx σ)
def aR1 (te : TEw) : TAw := fun ν g K X => te ν g (fun w g1 => ∃ j, w = .int j ∧ RgOk 0 j ∧ K (rngW 0 j) g1) X
def aR2 (ta tb : TEw) : TAw := fun ν g K X => ta ν g (fun w g1 => tb ν g1 (fun z g2 => ∃ i j, w = .int i ∧ z = .int j ∧ RgOk i j ∧ K (rngW i j) g2) X) X
theorem rng_rep {K : PySem.W.Frag} {Φ : Hp} {i j : Int} : RepAll K Φ (rngW i j) (rgV i j) := by
  unfold rngW rgV
  generalize List.range (j - i).toNat = l
  induction l with
  | nil => exact .nil
  | cons k l ih => exact .cons (.int _) ih
theorem wl_lstR1 {pr : Pos} (hc : X.calm = true) (hg : Gl X "list") (hm : X.mg "list" = none) (hg2 : Gl X "range") (hm2 : X.mg "range" = none) (ha : WEx X cl Wx a ta) (na : starEach [a] X.env = (false, eval a X.env) :: starEach [] X.env := by rfl) {p3 : Pos}
    (nr : starEach [Expr.Call (.Name "range" pr) [a] [] p3] X.env = (false, eval (.Call (.Name "range" pr) [a] [] p3) X.env) :: starEach [] X.env := by rfl) : WLx X cl Wx (.Call (.Name "list" p) [.Call (.Name "range" pr) [a] [] p3] [] pos) (aR1 ta) := by
  refine pe_imp (pe_listRg hc hg hm (prg_1 hg2 hm2 ha na) nr) fun σ H Q h => ?_
  obtain ⟨Φ, ν, g, KK, KE, st, er, k, q, qx⟩ := h
  refine e1 st er k qx fun w g1 Φ1 H1 x k1 x1 r1 => ?_
  obtain ⟨j, rfl, ok, k1⟩ := k1
  cases r1
  exact ⟨j, rfl, ok, fun p np => q _ g1 Φ1 _ p _ k1 (x1.trans (Grow.own x1.st np)) (x1.none_of np) (x1.st.pH np) (x1.st.gH np) upd_same rng_rep⟩
theorem wl_lstR2 {pr : Pos} (hc : X.calm = true) (hg : Gl X "list") (hm : X.mg "list" = none) (hg2 : Gl X "range") (hm2 : X.mg "range" = none) (ha : WEx X cl Wx a ta) (hb : WEx X cl Wx b tb) {p3 : Pos} (na : starEach [a, b] X.env = (false, eval a X.env) :: starEach [b] X.env := by rfl)
    (nb : starEach [b] X.env = (false, eval b X.env) :: starEach [] X.env := by rfl) (hp : (backTo p3 (starEach [b] X.env)).any (·.1) = false := by rfl)
    (nr : starEach [Expr.Call (.Name "range" pr) [a, b] [] p3] X.env = (false, eval (.Call (.Name "range" pr) [a, b] [] p3) X.env) :: starEach [] X.env := by rfl) : WLx X cl Wx (.Call (.Name "list" p) [.Call (.Name "range" pr) [a, b] [] p3] [] pos) (aR2 ta tb) := by
  refine pe_imp (pe_listRg hc hg hm (prg_2 hg2 hm2 ha hb na nb hp) nr) fun σ H Q h => ?_
  obtain ⟨Φ, ν, g, KK, KE, st, er, k, q, qx⟩ := h
  refine e1 st er k qx fun w g1 Φ1 H1 x k1 x1 r1 => ?_
  refine e1 x1.st (er.mono x1.phi) k1 (qx.grow x1) fun z g2 Φ2 H2 y k2 x2 r2 => ?_
  obtain ⟨i, j, rfl, rfl, ok, k2⟩ := k2
  cases r1
  cases r2
  have x12 := x1.trans x2
  exact ⟨i, j, rfl, rfl, ok, fun p np => q _ g2 Φ2 _ p _ k2 (x12.trans (Grow.own x2.st np)) (x12.none_of np) (x2.st.pH np) (x2.st.gH np) upd_same rng_rep⟩
def eT (t : TAw) : TEw := fun ν g K X => t ν g (fun ws g1 => K (.tup ws) g1) X
theorem we_tupR1 {pr : Pos} (hc : X.calm = true) (hg : Gl X "tuple") (hm : X.mg "tuple" = none) (hg2 : Gl X "range") (hm2 : X.mg "range" = none) (ha : WEx X cl Wx a ta) (na : starEach [a] X.env = (false, eval a X.env) :: starEach [] X.env := by rfl) {p3 : Pos}
    (nr : starEach [Expr.Call (.Name "range" pr) [a] [] p3] X.env = (false, eval (.Call (.Name "range" pr) [a] [] p3) X.env) :: starEach [] X.env := by rfl) : WEx X cl Wx (.Call (.Name "tuple" p) [.Call (.Name "range" pr) [a] [] p3] [] pos) (eT (aR1 ta)) := by
  refine pe_imp (pe_tupRg hc hg hm (prg_1 hg2 hm2 ha na) nr) fun σ H Q h => ?_
  obtain ⟨Φ, ν, g, KK, KE, st, er, k, q, qx⟩ := h
  refine e1 st er k qx fun w g1 Φ1 H1 x k1 x1 r1 => ?_
  obtain ⟨j, rfl, ok, k1⟩ := k1
  cases r1
  refine ⟨j, rfl, ok, fun p np => ?_⟩
  have y := Grow.laid (o := .tup (rgV 0 j)) x1.st np
  exact q _ g1 _ _ _ k1 (x1.trans y) (.tup (SqT.of upd_same) rng_rep)
theorem we_tupR2 {pr : Pos} (hc : X.calm = true) (hg : Gl X "tuple") (hm : X.mg "tuple" = none) (hg2 : Gl X "range") (hm2 : X.mg "range" = none) (ha : WEx X cl Wx a ta) (hb : WEx X cl Wx b tb) {p3 : Pos} (na : starEach [a, b] X.env = (false, eval a X.env) :: starEach [b] X.env := by rfl)
    (nb : starEach [b] X.env = (false, eval b X.env) :: starEach [] X.env := by rfl) (hp : (backTo p3 (starEach [b] X.env)).any (·.1) = false := by rfl)
    (nr : starEach [Expr.Call (.Name "range" pr) [a, b] [] p3] X.env = (false, eval (.Call (.Name "range" pr) [a, b] [] p3) X.env) :: starEach [] X.env := by rfl) : WEx X cl Wx (.Call (.Name "tuple" p) [.Call (.Name "range" pr) [a, b] [] p3] [] pos) (eT (aR2 ta tb)) := by
  refine pe_imp (pe_tupRg hc hg hm (prg_2 hg2 hm2 ha hb na nb hp) nr) fun σ H Q h => ?_
  obtain ⟨Φ, ν, g, KK, KE, st, er, k, q, qx⟩ := h
  refine e1 st er k qx fun w g1 Φ1 H1 x k1 x1 r1 => ?_
  refine e1 x1.st (er.mono x1.phi) k1 (qx.grow x1) fun z g2 Φ2 H2 y k2 x2 r2 => ?_
  obtain ⟨i, j, rfl, rfl, ok, k2⟩ := k2
  cases r1
  cases r2
  refine ⟨i, j, rfl, rfl, ok, fun p np => ?_⟩
  have y := Grow.laid (o := .tup (rgV i j)) x2.st np
  exact q _ g2 _ _ _ k2 ((x1.trans x2).trans y) (.tup (SqT.of upd_same) rng_rep)
end

/-! ### a list's own methods -/
def mAppend : List W → List W → (W → List W → Prop) → Prop := fun ws as K => ∃ u, as = [u] ∧ ws.length < 16777216 ∧ K .non (ws ++ [u])
theorem o_append {K : PySem.W.Frag} : OwnS K rAppend mAppend := by
  rintro Φ H l xs ws as vs KQ Q s e r ra ⟨u, rfl, hl, k⟩ q
  obtain ⟨v, rfl, rv⟩ := ra.one
  exact ⟨l, xs, v, rfl, rfl, e, by rw [← r.length, sizeLine_eq]; exact hl, q _ _ _ _ k (r.append (.cons rv .nil)) .non⟩
theorem RepAll.dropLast {K : PySem.W.Frag} {Φ : Hp} {ws : List W} {vs : List V} (r : RepAll K Φ ws vs) : RepAll K Φ ws.dropLast vs.dropLast := by
  rw [List.dropLast_eq_take, List.dropLast_eq_take, r.length]
  exact r.take _
def mPop : List W → List W → (W → List W → Prop) → Prop := fun ws as K => as = [] ∧ ∃ u, ws.getLast? = some u ∧ K u ws.dropLast
theorem o_pop {K : PySem.W.Frag} : OwnS K rPop mPop := by
  rintro Φ H l xs ws as vs KQ Q s e r ra ⟨rfl, u, h, k⟩ q
  cases ra
  rw [List.getLast?_eq_getElem?] at h
  obtain ⟨v, hv, rv⟩ := r.get h
  exact ⟨l, xs, v, rfl, rfl, e, by rw [← r.length]; exact hv, q _ _ _ _ k r.dropLast rv⟩
def mPopAt : List W → List W → (W → List W → Prop) → Prop := fun ws as K => ∃ i k u, as = [.int i] ∧ -(2 ^ 63) ≤ i ∧ i < 2 ^ 63 ∧ seqIndex? i ws.length = some k ∧ ws[k]? = some u ∧ K u (ws.eraseIdx k)
theorem o_popAt {K : PySem.W.Frag} : OwnS K rPopAt mPopAt := by
  rintro Φ H l xs ws as vs KQ Q s e r ra ⟨i, k, u, rfl, h1, h2, h3, h4, kk⟩ q
  obtain ⟨v, rfl, rv⟩ := ra.one
  cases rv
  obtain ⟨v, hv, rv⟩ := r.get h4
  exact ⟨l, xs, i, k, v, rfl, rfl, e, h1, h2, by rw [← r.length]; exact h3, hv, q _ _ _ _ kk (r.eraseIdx k) rv⟩
def mReverse : List W → List W → (W → List W → Prop) → Prop := fun ws as K => as = [] ∧ K .non ws.reverse
theorem o_reverse {K : PySem.W.Frag} : OwnS K rReverse mReverse := by
  rintro Φ H l xs ws as vs KQ Q s e r ra ⟨rfl, k⟩ q
  cases ra
  exact ⟨l, xs, rfl, rfl, e, q _ _ _ _ k r.reverse .non⟩
def mRemI : List W → List W → (W → List W → Prop) → Prop := fun ws as K => ∃ ns k, intsW ws = some ns ∧ as = [.int k] ∧ k ∈ ns ∧ K .non ((ns.erase k).map W.int)
theorem erase_at {ns : List Int} {k : Int} (h : k ∈ ns) : ∃ j, ns[j]? = some k ∧ (∀ m : Nat, m < j → ns[m]? ≠ some k) ∧ ns.eraseIdx j = ns.erase k := by
  induction ns with
  | nil => cases h
  | cons n ns ih =>
    by_cases e : n = k
    · subst e
      exact ⟨0, rfl, fun m hm => absurd hm (Nat.not_lt_zero m), by simp⟩
    · have h2 : k ∈ ns := by
        rcases List.mem_cons.mp h with z | z
        · exact absurd z.symm e
        · exact z
      obtain ⟨j, h3, h4, h5⟩ := ih h2
      refine ⟨j + 1, by simpa using h3, fun m hm => ?_, ?_⟩
      · cases m with
        | zero => simpa using e
        | succ m => simpa using h4 m (by omega)
      · rw [List.eraseIdx_cons_succ, h5, List.erase_cons_tail (by simpa using e)]
theorem o_remI {K : PySem.W.Frag} : OwnS K rRemI mRemI := by
  rintro Φ H l xs ws as vs KQ Q s e r ra ⟨ns, k, hw, rfl, hk, kk⟩ q
  obtain ⟨v, rfl, rv⟩ := ra.one
  cases rv
  rw [intsW_eq hw] at r
  rw [ints_rep r] at e
  obtain ⟨j, h1, h2, h3⟩ := erase_at hk
  exact ⟨l, ns, k, j, rfl, rfl, e, h1, h2, by rw [h3]; exact q _ _ _ _ kk (rep_ints _) .non⟩
def mInsert : List W → List W → (W → List W → Prop) → Prop := fun ws as K => ∃ i u, as = [.int i, u] ∧ ws.length < 16777216 ∧ 0 ≤ i ∧ i < 2 ^ 63 ∧ K .non (ws.take i.toNat ++ [u] ++ ws.drop i.toNat)
theorem o_insert {K : PySem.W.Frag} : OwnS K (fun x vs H Q => ∃ (l : Addr) (xs : List V) (i : Int) (y : V), x = .ref l ∧ vs = [.int i, y] ∧ H l = some (.lst xs) ∧ xs.length < sizeLine ∧ 0 ≤ i ∧ i < 2 ^ 63 ∧
    Q .non (upd H l (.lst (xs.take i.toNat ++ [y] ++ xs.drop i.toNat)))) mInsert := by
  rintro Φ H l xs ws as vs KQ Q s e r ra ⟨i, u, rfl, hl, h0, h1, kk⟩ q
  obtain ⟨v, v2, rfl, rv, rv2⟩ := ra.two
  cases rv
  exact ⟨l, xs, i, v2, rfl, rfl, e, by rw [← r.length, sizeLine_eq]; exact hl, h0, h1, q _ _ _ _ kk (((r.take _).append (.cons rv2 .nil)).append (r.drop _)) .non⟩
end WL
/-! WL7: targets o.f, pairs stored, calls by name, the least of some tuples of ints. -/
namespace WL
open PySem PySem.Spec PyProof.Rows L2

/-! ### o.f as a target -/
def gFldV (K : PySem.W.Frag) (f : Str) (to : TE) : TG := fun v σ H Q => to σ H fun x H1 => ∃ a C dx fs, x = .ref a ∧ H1 a = some (.ins C dx fs) ∧ Cls K C ∧ NoAttr K C f ∧ fs.length < 1000 ∧ Q σ (upd H1 a (.ins C dx (putF f v fs)))
section
variable {X : Cx} {cl : Str → Addr} {c : Bs} {rl : Bool} {Wx : WX} {st : Stmt} {e o : Expr} {te to : TEw} {pos apos : Pos}
theorem pg_fldV {f : Str} {t : TE} (h : PE X o t) : PG X (.Attribute o f apos) (gFldV X.K f t) := by
  refine ⟨fun pins s σ H v u Q I r q => ?_⟩
  rw [assign_Attribute]
  refine wpAny_bind (wpAny_holding (thn (h.run pins s σ H _ I q) fun ov s1 ⟨x, H1, I1, rx, a, C, dx, fs, ex, ea, c, n, l, q1⟩ => ?_))
  subst ex
  obtain rfl : ov = Value.ref a := rx
  refine wpAny_bind (wpAny_standAt (wpAny_bind (wpAny_holding ?_)))
  exact setattr_ok I1 ea c n l r fun s2 I2 => wpAny_release ⟨σ, _, I2, q1⟩
def gFld (C : Addr) (f : Str) (to : TEw) : TGw := fun w ν g K KE => noLst w = true ∧ to ν g (fun o g1 => ∃ a dx fs, o = .adr a ∧ g1 a = some (.gi C dx fs) ∧ fs.length < 1000 ∧ fsNo fs = true ∧ K ν (gup g1 a (.gi C dx (putW f w fs)))) (kx KE ν)
theorem wg_fld {C : Addr} {f : Str} (ho : WEx X cl Wx o to) (hC : Cls X.K C) (hf : NoAttr X.K C f) : PG X (.Attribute o f apos) (liftG X.K cl c Wx (gFld C f to)) := by
  refine pg_imp (pg_fldV ho) fun v σ H Q ⟨Φ, ν, g, w, KK, KE, S, r, k, q, xs⟩ => ?_
  obtain ⟨nw, k⟩ := k
  have S0 := S.base (Same.refl Φ)
  have xs0 : XSq X.K cl { c with Ψ := Φ } KE Wx := fun n fs ν' g' Φ' σ' H' d fvs z1 z2 z3 z4 z5 z6 => xs n fs ν' g' Φ' σ' H' d fvs z1 (z2.unbase S.psi) z3 z4 z5 z6
  refine run_e (c := { c with Ψ := Φ }) S0 false k xs0 fun o' g1 Φ1 Φ2 H1 x k1 x1 S2 r1 f1 => ?_
  obtain ⟨a, dx, fs, rfl, ea, el, en, k3⟩ := k1
  cases r1
  obtain ⟨⟨vfs, eH, fr⟩, _⟩ := S2.gr.st.rep a _ ea
  have gw : Grow X.K Φ2 g1 H1 Φ2 (gup g1 a (.gi C dx (putW f w fs))) (upd H1 a (.ins C dx (putF f v vfs))) := Grow.write S2.gr.st (by rw [ea]; simp) ⟨⟨_, upd_same, fr.put (r.mono S2.psi)⟩, fsNo_put nw en⟩
  exact ⟨a, C, dx, vfs, rfl, eH, hC, hf, by rw [← fr.length]; exact el, q Φ2 ν _ σ _ k3 ((S2.stay gw).unbase S.psi) S2.psi⟩

/-! ### a, b = x, y: names, stored from the right -/
def sPar (m : Bool) (i j : Nat) (ta : TAw) : TSw := fun D KE ν g => ta (vw m ν) g (fun ws g1 => ∃ u v, ws = [u, v] ∧ (m = true ∨ (noLst u = true ∧ noLst v = true)) ∧ D.nx ((ν.set i (some u)).set j (some v)) g1) (kx KE ν)
theorem ws_par {m : Bool} {n i j : Nat} {ta : TAw} (h : PS X st (tPar i j (liftA X.K cl Wx n ta))) : WSx X cl c rl Wx st (sPar m i j ta) := by
  refine ps_imp h fun D σ H ⟨ν, g, DW, KE, ⟨Φ, S⟩, h, L⟩ => ?_
  obtain ⟨Φv, gr, er, bk⟩ := S.run m
  refine ⟨Φv, vw m ν, g, _, kx KE ν, gr.st, er, h, fun ws g1 Φ1 H1 vs k hl x1 r1 => ?_, qx_of S (fun Φ1 g1 H1 x => by obtain ⟨Φ2, S2, _, _, _, f5⟩ := bk Φ1 g1 H1 x; exact ⟨Φ2, S2, f5⟩) L.xs⟩
  obtain ⟨Φ2, S2, f2, _⟩ := bk Φ1 g1 H1 x1
  obtain ⟨u, v, rfl, hn, k⟩ := k
  obtain ⟨y, z, rfl, ry, rz⟩ := r1.two
  refine ⟨y, z, rfl, L.nx _ g1 _ H1 k ⟨Φ2, (S2.setV (f2 u y (hn.imp id (·.1)) ry) i).setV (f2 v z (hn.imp id (·.2)) rz) j⟩⟩
def sPar3 (m : Bool) (i j l : Nat) (ta : TAw) : TSw := fun D KE ν g => ta (vw m ν) g (fun ws g1 => ∃ u v w, ws = [u, v, w] ∧ (m = true ∨ (noLst u = true ∧ noLst v = true ∧ noLst w = true)) ∧ D.nx (((ν.set i (some u)).set j (some v)).set l (some w)) g1) (kx KE ν)
theorem RepAll.three {K : PySem.W.Frag} {Φ : Hp} {w z y : W} {vs : List V} (r : RepAll K Φ [w, z, y] vs) : ∃ v u t, vs = [v, u, t] ∧ Rep K Φ w v ∧ Rep K Φ z u ∧ Rep K Φ y t := by
  cases r with | cons h r => cases r with | cons h2 r => cases r with | cons h3 r => cases r; exact ⟨_, _, _, rfl, h, h2, h3⟩
theorem ws_par3 {m : Bool} {n i j l : Nat} {ta : TAw} (h : PS X st (tPar3 i j l (liftA X.K cl Wx n ta))) : WSx X cl c rl Wx st (sPar3 m i j l ta) := by
  refine ps_imp h fun D σ H ⟨ν, g, DW, KE, ⟨Φ, S⟩, h, L⟩ => ?_
  obtain ⟨Φv, gr, er, bk⟩ := S.run m
  refine ⟨Φv, vw m ν, g, _, kx KE ν, gr.st, er, h, fun ws g1 Φ1 H1 vs k hl x1 r1 => ?_, qx_of S (fun Φ1 g1 H1 x => by obtain ⟨Φ2, S2, _, _, _, f5⟩ := bk Φ1 g1 H1 x; exact ⟨Φ2, S2, f5⟩) L.xs⟩
  obtain ⟨Φ2, S2, f2, _⟩ := bk Φ1 g1 H1 x1
  obtain ⟨u, v, w, rfl, hn, k⟩ := k
  obtain ⟨y, z, t, rfl, ry, rz, rt⟩ := r1.three
  refine ⟨y, z, t, rfl, L.nx _ g1 _ H1 k ⟨Φ2, ((S2.setV (f2 u y (hn.imp id (·.1)) ry) i).setV (f2 v z (hn.imp id (·.2.1)) rz) j).setV (f2 w t (hn.imp id (·.2.2)) rt) l⟩⟩
end

/-! ### calls by name -/
/-- the values in the parameters' order: perm says which -/
def kg {α : Type} (perm : List Nat) (us ws : List α) : List α := perm.filterMap fun i => (us ++ ws)[i]?
theorem vals_at : ∀ {vs : List V} {us : List Value} (_ : Vals vs us) (i : Nat) {v : V} {u : Value}, vs[i]? = some v → us[i]? = some u → RelV v u
  | _, _, .nil, i, _, _, e, _ => by simp at e
  | _, _, .cons h r, 0, _, _, e, e' => by cases e; cases e'; exact h
  | _, _, .cons h r, i + 1, _, _, e, e' => vals_at r i (by simpa using e) (by simpa using e')
theorem kg_vals (perm : List Nat) {vs : List V} {us : List Value} (r : Vals vs us) : Vals (perm.filterMap fun i => vs[i]?) (perm.filterMap fun i => us[i]?) := by
  induction perm with
  | nil => exact .nil
  | cons i perm ih =>
    rw [List.filterMap_cons, List.filterMap_cons]
    have hl := r.length
    cases e : vs[i]? with
    | none =>
      have : us[i]? = none := by
        rw [List.getElem?_eq_none_iff] at e ⊢
        omega
      rw [this]
      exact ih
    | some v =>
      have hlt : i < vs.length := (List.getElem?_eq_some_iff.mp e).1
      obtain ⟨u, eu⟩ : ∃ u, us[i]? = some u := ⟨_, List.getElem?_eq_getElem (by omega)⟩
      rw [eu]
      exact .cons (vals_at r i e eu) ih
theorem kg_rep {K : PySem.W.Frag} {Φ : Hp} (perm : List Nat) {ws : List W} {vs : List V} (r : RepAll K Φ ws vs) : RepAll K Φ (perm.filterMap fun i => ws[i]?) (perm.filterMap fun i => vs[i]?) := by
  induction perm with
  | nil => exact .nil
  | cons i perm ih =>
    rw [List.filterMap_cons, List.filterMap_cons]
    cases e : ws[i]? with
    | none =>
      have : vs[i]? = none := by
        rw [List.getElem?_eq_none_iff] at e ⊢
        rw [← r.length]; exact e
      rw [this]
      exact ih
    | some w =>
      obtain ⟨v, ev, rv⟩ := r.get e
      rw [ev]
      exact .cons rv ih
theorem FunD.kb {K : PySem.W.Frag} {x qual : Str} {params : Arguments} {body : List Stmt} {scope : Scope} {kws : List (Str × V)} {f : Addr} {fd : FuncData} {ps : List Str} (F : FunD K x qual params body scope [] kws f fd) (n : Nat) (ks : List Str) (perm : List Nat)
    (h : ∀ (kV doc pm : Value) (an : Option Addr) (cdv ct : Value) (us ws : List Value), us.length = n → ws.length = ks.length → bindArgs (PySem.W.fnOf x qual params body scope .none kV doc pm an cdv ct) ⟨us, ks.zip ws⟩ = pure (ps.zip (kg perm us ws))) : KBn K fd ps n ks (kg perm) (kg perm) := by
  obtain ⟨oc, od, dV, kV, doc, pm, an, cdv, ct, osl, rfl, lk, hcd, hD, hK⟩ := F.ex
  rcases hD with ⟨_, rfl⟩ | ⟨e, _⟩
  · exact ⟨fun s us ws _ l1 l2 => .of_eq (h kV doc pm an cdv ct us ws l1 l2), fun r1 r2 => kg_vals perm (r1.append r2)⟩
  · exact absurd rfl e
def tCallKS (n m : Nat) (perm : List Nat) (sp : Sp) (E : L2.St → XK) (t tk : TA) : TE := fun σ H Q => t σ H fun vs H1 => tk σ H1 fun zs H2 => vs.length = n ∧ zs.length = m ∧ sp (kg perm vs zs) H2 Q (E σ)
section
variable {X : Cx} {CX : CXT} {k n : Nat} {f : Addr} {fd : FuncData} {ps ks : List Str} {sp : Sp} {E : L2.St → XK} {x : Str} {p pos : Pos} {e : Expr} {es : List Expr} {kws : List Keyword} {t tk : TA} {perm : List Nat}
theorem run_kS {pins : List (Addr × Obj)} {σ : L2.St} {H : Hp} {s : Shared} {Q : VK} {us ws : List Value} {vs zs : List V} (F : FnOk X.prog X.w X.K X.mg X.base CX k f fd ps sp) (hr : Room k X.A) (hb : KBn X.K fd ps n ks (kg perm) (kg perm)) (hx : PassesAt CX X σ (E σ))
    (I : Inv X pins σ H s) (r : Vals vs us) (rz : Vals zs ws) (l1 : vs.length = n) (l2 : zs.length = ks.length) (h : sp (kg perm vs zs) H Q (E σ)) : wpAny (model X.prog X.w) X.A (call (.ref f) us (ks.zip ws)) (EP X pins σ Q) X.xe s := by
  refine wpAny_call (codeAny_mono (F.run X.A X.stack s H ⟨us, ks.zip ws⟩ (kg perm us ws) (kg perm vs zs) Q (E σ) hr I.env0 (hb.to s us ws I.kIn (r.length.symm.trans l1) (rz.length.symm.trans l2)) (hb.rel r rz) h) ?_)
  rintro (e | (u | _ | _ | _)) s' hq
  · exact hx pins H s e s' I hq
  all_goals first | exact hq.elim | exact I.after hq
theorem pe_kS (F : FnOk X.prog X.w X.K X.mg X.base CX k f fd ps sp) (hr : Room k X.A) (hg : Gl X x) (hm : X.mg x = some (.ref f)) (hk : PySem.W.keepIn X.K (.ref f) = true) (hb : KBn X.K fd ps n ks (kg perm) (kg perm)) (hx : ∀ σ, PassesAt CX X σ (E σ))
    (ha : PA X (e :: es) t) (hkw : PK X kws tk) (hall : (backToKw pos (keywordEach kws X.env)).all (·.1.isSome) = true := by rfl) (hks : (backToKw pos (keywordEach kws X.env)).filterMap (·.1) = ks := by rfl)
    (hdb : (x == ("__debug__" : Str)) = false := by decide) (he : starEach (e :: es) X.env = (false, eval e X.env) :: starEach es X.env := by rfl)
    (hpl : ((backTo pos (starEach (e :: es) X.env)).any (·.1) || (backToKw pos (keywordEach kws X.env)).any (·.1.isNone)) = false := by rfl) :
    PE X (.Call (.Name x p) (e :: es) kws pos) (tCallKS n ks.length perm sp E t tk) := by
  refine ⟨fun pins s σ H Q I h => wpAny_Call_Name_kw (ld_glob I hg hm ?_ hdb)⟩
  refine PySem.W.callWith_KW (h₀ := X.base) I.ok.mod.kin hk hall (thn (ha.run pos pins s σ H _ I h) fun us s1 h1 => ?_) hpl he
  obtain ⟨vs, H1, I1, r, q⟩ := h1
  refine thn (hkw.run pos pins s1 σ H1 _ I1 q) fun ws s2 h2 => ?_
  obtain ⟨zs, H2, I2, rz, l1, l2, q2⟩ := h2
  refine ⟨I2.kIn, ?_⟩
  rw [hks]
  exact run_kS F hr hb (hx σ) I2 r rz l1 l2 q2
theorem pe_kS0 (F : FnOk X.prog X.w X.K X.mg X.base CX k f fd ps sp) (hr : Room k X.A) (hg : Gl X x) (hm : X.mg x = some (.ref f)) (hk : PySem.W.keepIn X.K (.ref f) = true) (hb : KBn X.K fd ps 0 ks (kg perm) (kg perm)) (hx : ∀ σ, PassesAt CX X σ (E σ))
    (hkw : PK X kws tk) (hall : (backToKw pos (keywordEach kws X.env)).all (·.1.isSome) = true := by rfl) (hks : (backToKw pos (keywordEach kws X.env)).filterMap (·.1) = ks := by rfl)
    (hdb : (x == ("__debug__" : Str)) = false := by decide)
    (hpl : ((backTo pos (starEach [] X.env)).any (·.1) || (backToKw pos (keywordEach kws X.env)).any (·.1.isNone)) = false := by rfl) :
    PE X (.Call (.Name x p) [] kws pos) (tCallKS 0 ks.length perm sp E tNil tk) := by
  refine ⟨fun pins s σ H Q I h => wpAny_Call_Name_kw (ld_glob I hg hm ?_ hdb)⟩
  refine PySem.W.callWith_KW0 (h₀ := X.base) I.ok.mod.kin hk hall (thn (hkw.run pos pins s σ H _ I h) fun ws s2 h2 => ?_) hpl
  obtain ⟨zs, H2, I2, rz, l1, l2, q2⟩ := h2
  refine ⟨I2.kIn, ?_⟩
  rw [hks]
  exact run_kS (us := []) (vs := []) F hr hb (hx σ) I2 .nil rz l1 l2 q2
end
section
variable {X : Cx} {cl : Str → Addr} {Wx : WX} {e : Expr} {es : List Expr} {kws : List Keyword} {te : TEw} {t tk : TAw} {pos p kpos : Pos} {k n m : Nat} {f : Addr} {fd : FuncData} {ps ks : List Str} {sp : TFw} {perm : List Nat} {nm : Option Str}
abbrev WKx (X : Cx) (cl : Str → Addr) (Wx : WX) (n : Nat) (kws : List Keyword) (t : TAw) : Prop := PK X kws (liftA X.K cl Wx n t)
theorem pk_imp {kws : List Keyword} {t t' : TA} (h : PK X kws t) (i : ∀ σ H Q, t' σ H Q → t σ H Q) : PK X kws t' := ⟨fun pos pins s σ H Q I q => h.run pos pins s σ H Q I (i σ H Q q)⟩
theorem wk_nil : WKx X cl Wx 0 [] aNil := pk_imp pk_nil fun σ H Q ⟨Φ, ν, g, KK, KE, st, er, k, q, _⟩ => q [] g Φ H [] k rfl (.refl st) .nil
theorem wk_cons (ha : WEx X cl Wx e te) (hr : WKx X cl Wx n kws t) : WKx X cl Wx (n + 1) (⟨nm, e, kpos⟩ :: kws) (aCons te t) := by
  refine pk_imp (pk_cons ha hr) fun σ H Q h => ?_
  obtain ⟨Φ, ν, g, KK, KE, st, er, k, q, qx⟩ := h
  refine e1 st er k qx fun w g1 Φ1 H1 v k1 x1 r1 => ?_
  refine a1 x1.st (er.mono x1.phi) k1 (qx.grow x1) fun ws g2 Φ2 H2 vs k2 hl x2 r2 => ?_
  exact q (w :: ws) g2 Φ2 H2 (v :: vs) k2 (by rw [List.length_cons, hl]) (x1.trans x2) (.cons (r1.mono x2.phi) r2)
def eCallK (perm : List Nat) (sp : TFw) (t tk : TAw) : TEw := fun ν g K X => t ν g (fun ws g1 => tk ν g1 (fun zs g2 => (kg perm ws zs).length = perm.length ∧ sp (kg perm ws zs) g2 K X) X) X
theorem callK_run {CX : CXT} {E : XK} (h : liftE X.K cl Wx (eCallK perm sp t tk) σ H Q) : tCallKS n m perm (spF X.K cl perm.length sp) (WE Wx) (liftA X.K cl Wx n t) (liftA X.K cl Wx m tk) σ H Q := by
  obtain ⟨Φ, ν, g, KK, KE, st, er, k, q, qx⟩ := h
  refine a1 st er k qx fun ws g1 Φ1 H1 vs k1 hl x1 r1 => ?_
  refine a1 x1.st (er.mono x1.phi) k1 (qx.grow x1) fun zs g2 Φ2 H2 us k2 hl2 x2 r2 => ?_
  have x12 := x1.trans x2
  exact ⟨by rw [← r1.length, hl], by rw [← r2.length, hl2], Φ2, g2, kg perm ws zs, KK, KE, k2.1, x2.st, kg_rep perm ((r1.mono x2.phi).append r2), k2.2, q.grow x12, qx.grow x12⟩
theorem we_callK {xs : Str} (F : FnOk X.prog X.w X.K X.mg X.base (L2.CX X.prog X.w) k f fd ps (spF X.K cl perm.length sp)) (hr : Room k X.A) (hg : Gl X xs) (hm : X.mg xs = some (.ref f))
    (hk : PySem.W.keepIn X.K (.ref f) = true) (hb : KBn X.K fd ps n ks (kg perm) (kg perm)) (tkk : Takes X Wx) (ha : WAx X cl Wx n (e :: es) t) (hkw : WKx X cl Wx ks.length kws tk) (hall : (backToKw pos (keywordEach kws X.env)).all (·.1.isSome) = true := by rfl) (hks : (backToKw pos (keywordEach kws X.env)).filterMap (·.1) = ks := by rfl)
    (hdb : (xs == ("__debug__" : Str)) = false := by decide) (he : starEach (e :: es) X.env = (false, eval e X.env) :: starEach es X.env := by rfl)
    (hpl : ((backTo pos (starEach (e :: es) X.env)).any (·.1) || (backToKw pos (keywordEach kws X.env)).any (·.1.isNone)) = false := by rfl) : WEx X cl Wx (.Call (.Name xs p) (e :: es) kws pos) (eCallK perm sp t tk) :=
  pe_imp (pe_kS F hr hg hm hk hb (fun σ => passAt tkk σ) ha hkw hall hks hdb he hpl) fun σ H Q h => callK_run (CX := L2.CX X.prog X.w) (E := fun _ _ _ => True) h
theorem we_callK0 {xs : Str} (F : FnOk X.prog X.w X.K X.mg X.base (L2.CX X.prog X.w) k f fd ps (spF X.K cl perm.length sp)) (hr : Room k X.A) (hg : Gl X xs) (hm : X.mg xs = some (.ref f))
    (hk : PySem.W.keepIn X.K (.ref f) = true) (hb : KBn X.K fd ps 0 ks (kg perm) (kg perm)) (tkk : Takes X Wx) (hkw : WKx X cl Wx ks.length kws tk) (hall : (backToKw pos (keywordEach kws X.env)).all (·.1.isSome) = true := by rfl) (hks : (backToKw pos (keywordEach kws X.env)).filterMap (·.1) = ks := by rfl)
    (hdb : (xs == ("__debug__" : Str)) = false := by decide)
    (hpl : ((backTo pos (starEach [] X.env)).any (·.1) || (backToKw pos (keywordEach kws X.env)).any (·.1.isNone)) = false := by rfl) : WEx X cl Wx (.Call (.Name xs p) [] kws pos) (eCallK perm sp aNil tk) := by
  refine pe_imp (pe_kS0 F hr hg hm hk hb (fun σ => passAt tkk σ) hkw hall hks hdb hpl) fun σ H Q h => ?_
  obtain ⟨Φ, ν, g, KK, KE, st, er, k, q, qx⟩ := h
  refine a1 st er k qx fun zs g2 Φ2 H2 us k2 hl2 x2 r2 => ?_
  exact ⟨rfl, by rw [← r2.length, hl2], Φ2, g2, kg perm [] zs, KK, KE, k2.1, x2.st, kg_rep perm r2, k2.2, q.grow x2, qx.grow x2⟩
end

/-! ### the least of some tuples of ints -/
section
variable {prog : Program} {w : World} {A : Around} {E : Value → Shared → Prop} {s : Shared}
/-- a walk on which a comparison needs what stands -/
structure MinW (prog : Program) (w : World) (A : Around) (I : Addr) (fp wr : List Addr) (n : Nat) (P : Nat → Value → Prop) (St : Nat → Heap → Prop) (bt : Nat → Nat → Bool) : Prop where
  wk : Walks prog w A.in1 I fp wr n P St
  cmp : ∀ k i j vi vj (s : Shared) (Q : Value → Shared → Prop) (E : Value → Shared → Prop), St k s.heap → P i vi → P j vj → Q (.bool (bt i j)) s → wpAny (model prog w) A.in1 (richCompare .Lt vi vj) Q E s
variable {R : Result → Shared → Prop} {I : Addr} {fp wr : List Addr} {n : Nat} {P : Nat → Value → Prop} {St : Nat → Heap → Prop} {bt : Nat → Nat → Bool}
theorem min_name : (toString "min" ++ toString ".loop" : String) = "min.loop" := by decide
theorem minW_loop (W : MinW prog w A I fp wr n P St bt) {S : Addr} (hS : S ∉ fp) : ∀ (k j : Nat) (s : Shared) (best : Value) (cp : Nat), n = j + 1 + k → St (j + 1) s.heap → P (argBest bt j) best →
    s.heap.get? S = some ⟨.type "list", none, .seq #[best, best] cp, #[]⟩ →
    (∀ v h tk, P (argBest bt (n - 1)) v → (∀ b o, b ∉ wr → b ≠ S → s.heap.get? b = some o → h.get? b = some o) → R (.ok (.ret v)) { s with heap := h, toks := tk }) →
    codeAny (model prog w) A (.builtin "min.loop" ⟨[.ref I, .none, .ref S], []⟩) R s
  | 0, j, s, best, cp, en, hst, hb, hs, hR => by
    have nS : S ∉ wr := fun z => hS (W.wk.sub _ z)
    refine codeAny_builtin F.entry_min_loop ?_
    rw [Around.under_plainId F.plain_min_loop _]
    show wpAny _ A.in1 (seqItems? (.ref S) >>= _) _ _ s
    refine wpAny_bind (wpAny_seqItems hs rfl ?_)
    show wpAny _ A.in1 (tryCatch (pyNext (.ref I)) _ >>= _) _ _ s
    have hst' : St n s.heap := by rw [en]; exact hst
    refine wpAny_bind (wpAny_tryCatch (W.wk.done s _ _ hst' fun h tk keep => ?_))
    show wpAny _ A.in1 (updateSeq S (fun _ => #[]) >>= _) _ _ _
    refine wpAny_bind (wpAny_updateSeq (keep S _ nS hs) rfl (wpAny_bind (wpAny_letGo (wpAny_pure ?_))))
    have e1 : n - 1 = j := by omega
    exact hR best _ tk (by rw [e1]; exact hb) fun b o n1 n2 z => (Heap.get?_update_other _ _ (Ne.symm n2)).trans (keep b o n1 z)
  | k + 1, j, s, best, cp, en, hst, hb, hs, hR => by
    have nS : S ∉ wr := fun z => hS (W.wk.sub _ z)
    refine codeAny_builtin F.entry_min_loop ?_
    rw [Around.under_plainId F.plain_min_loop _]
    show wpAny _ A.in1 (seqItems? (.ref S) >>= _) _ _ s
    refine wpAny_bind (wpAny_seqItems hs rfl ?_)
    show wpAny _ A.in1 (tryCatch (pyNext (.ref I)) _ >>= _) _ _ s
    refine wpAny_bind (wpAny_tryCatch (W.wk.item (j + 1) s _ _ (by omega) hst fun v h tk hv hst2 keep => ?_))
    have hs2 := keep S _ nS hs
    show wpAny _ A.in1 (tryCatch (holding [v, v] (richCompare .Lt v best >>= _)) _ >>= _) _ _ _
    refine wpAny_bind (wpAny_tryCatch (wpAny_holding (wpAny_bind (W.cmp (j + 1 + 1) (j + 1) (argBest bt j) v best _ _ _ hst2 hv hb ?_))))
    refine wpAny_bind (wpAny_holding (wpAny_truthy_bool (wpAny_bind (wpAny_letGo (wpAny_pure ?_)))))
    have en2 : n = j + 1 + 1 + k := by omega
    by_cases q : bt (j + 1) (argBest bt j) = true
    · rw [if_pos q]
      have hb2 : P (argBest bt (j + 1)) v := by
        show P (if bt (j + 1) (argBest bt j) then j + 1 else argBest bt j) v
        rw [if_pos q]; exact hv
      refine wpAny_bind (wpAny_updateSeq hs2 rfl (wpAny_bind (wpAny_letGo ?_)))
      rw [min_name]
      refine wpAny_pure ⟨plainId_quiet F.plain_min_loop _, minW_loop W hS k (j + 1) _ v _ en2 (W.wk.frame _ _ _ hst2 fun b bf o z => ?_) hb2 (Heap.get?_update_self _ hs2 rfl) fun v' h' tk' hv' keep' => ?_⟩
      · exact (Heap.get?_update_other _ _ (fun y : S = b => hS (by rw [y]; exact bf))).trans z
      · exact hR v' h' tk' hv' fun b o n1 n2 z => keep' b o n1 n2 ((Heap.get?_update_other _ _ (Ne.symm n2)).trans (keep b o n1 z))
    · rw [if_neg q]
      have hb2 : P (argBest bt (j + 1)) best := by
        show P (if bt (j + 1) (argBest bt j) then j + 1 else argBest bt j) best
        rw [if_neg q]; exact hb
      refine wpAny_bind (wpAny_letGo ?_)
      rw [min_name]
      exact wpAny_pure ⟨plainId_quiet F.plain_min_loop _, minW_loop W hS k (j + 1) _ best cp en2 hst2 hb2 hs2 fun v' h' tk' hv' keep' => hR v' h' tk' hv' fun b o n1 n2 z => keep' b o n1 n2 (keep b o n1 z)⟩
theorem minW_call {x : Value} {Q : Value → Shared → Prop}
    (h : wpAny (model prog w) A.in1 (pyIter x) (fun it s₂ => ∃ I fp wr n P St bt, it = .ref I ∧ MinW prog w A I fp wr n P St bt ∧ St 0 s₂.heap ∧ (∀ b ∈ fp, b < s₂.heap.objs.size) ∧ 0 < n ∧
      ∀ v h' tk, P (argBest bt (n - 1)) v → (∀ b o, b ∉ wr → s₂.heap.get? b = some o → h'.get? b = some o) → Q v { s₂ with heap := h', toks := tk }) E s) : wpAny (model prog w) A (call (.builtin "min") [x]) Q E s := by
  refine call_function_tree F.kind_min F.plain_min F.entry_min (F.args_min1 _) ?_
  show wpAny _ A.in1 (Builtin.Builtins.bindParams "min" ["key", "default"] 0 ⟨[], []⟩ >>= _) _ _ s
  refine wpAny_bind (wpAny_of_eq (show Builtin.Builtins.bindParams "min" ["key", "default"] 0 ⟨[], []⟩ = pure [none, none] from rfl) (wpAny_bind (wpAny_pure (wpAny_bind (wpAny_mono h (fun it s₂ h₂ => ?_) fun _ _ z => z)))))
  obtain ⟨I, fp, wr, n, P, St, bt, rfl, W, hst, hfp, hn, hQ⟩ := h₂
  refine wpAny_bind (wpAny_newObj_type ?_)
  have hS : s₂.heap.objs.size ∉ fp := fun z => Nat.lt_irrefl _ (hfp _ z)
  have nS : s₂.heap.objs.size ∉ wr := fun z => hS (W.wk.sub _ z)
  rw [min_name]
  refine wpAny_pure ⟨plainId_quiet F.plain_min_loop _, ?_⟩
  -- the first item
  have hst0 := W.wk.frame 0 _ (s₂.heap.push ⟨.type "list", none, .seq #[] 0, #[]⟩) hst fun b _ o z => Heap.get?_push_of_some _ z
  refine codeAny_builtin F.entry_min_loop ?_
  rw [Around.under_plainId F.plain_min_loop _]
  show wpAny _ A.in1 (seqItems? (.ref s₂.heap.objs.size) >>= _) _ _ _
  refine wpAny_bind (wpAny_seqItems (Heap.get?_push_size _ rfl) rfl ?_)
  show wpAny _ A.in1 (tryCatch (pyNext (.ref I)) _ >>= _) _ _ _
  refine wpAny_bind (wpAny_tryCatch (W.wk.item 0 _ _ _ hn hst0 fun v h' tk hv hst1 keep => ?_))
  have hs1 := keep s₂.heap.objs.size _ nS (Heap.get?_push_size _ rfl)
  show wpAny _ A.in1 (updateSeq s₂.heap.objs.size (fun _ => #[v, v]) >>= _) _ _ _
  refine wpAny_bind (wpAny_updateSeq hs1 rfl ?_)
  rw [min_name]
  refine wpAny_pure ⟨plainId_quiet F.plain_min_loop _, minW_loop W hS (n - 1) 0 _ v _ (by omega) (W.wk.frame _ _ _ hst1 fun b bf o z => ?_) hv (Heap.get?_update_self _ hs1 rfl) fun v' h2 tk' hv' keep' => ?_⟩
  · exact (Heap.get?_update_other _ _ (fun y : s₂.heap.objs.size = b => hS (by rw [y]; exact bf))).trans z
  · refine hQ v' h2 tk' hv' fun b o n1 z => ?_
    have n2 : b ≠ s₂.heap.objs.size := Nat.ne_of_lt (Heap.lt_size z)
    exact keep' b o n1 n2 ((Heap.get?_update_other _ _ (Ne.symm n2)).trans (keep b o n1 (Heap.get?_push_of_some _ z)))
end
end WL
/-! WL8: min of a list of int tuples. -/
namespace WL
open PySem PySem.Spec PyProof.Rows L2

def refsOf (its : List Value) : List Addr := its.filterMap fun v => match v with | .ref t => some t | _ => none
theorem mem_refs {its : List Value} {t : Addr} (h : .ref t ∈ its) : t ∈ refsOf its := List.mem_filterMap.mpr ⟨_, h, rfl⟩
def TupsAt (h : Heap) (its : List Value) (nss : List (List Int)) : Prop := ∀ i v, its[i]? = some v → ∃ t tits, v = .ref t ∧ IsTup h t tits ∧ IntsAre tits.toList (nss.getD i [])
theorem TupsAt.keep {h h' : Heap} {its : List Value} {nss : List (List Int)} (x : TupsAt h its nss) (k : ∀ b ∈ refsOf its, ∀ o, h.get? b = some o → h'.get? b = some o) : TupsAt h' its nss := fun i v e => by
  obtain ⟨t, tits, rfl, ⟨o, h1, h2⟩, h3⟩ := x i v e
  exact ⟨t, tits, rfl, ⟨o, k t (mem_refs (List.mem_of_getElem? e)) o h1, h2⟩, h3⟩
abbrev btOf (nss : List (List Int)) : Nat → Nat → Bool := fun i j => HT.lexLt (nss.getD i []) (nss.getD j [])
theorem minW_list {prog : Program} {w : World} {A : Around} (hh : A.handled = none) (hu : A.in1.units < cLine) {I ax : Addr} (hne : ax ≠ I) {its : List Value} {nss : List (List Int)} (hI : I ∉ refsOf its) :
    MinW prog w A I ([I, ax] ++ refsOf its) [I] its.toArray.size (fun i v => its.toArray[i]? = some v) (fun i h => (h.IsListIter I ax i ∧ h.IsList ax its.toArray) ∧ TupsAt h its nss) (btOf nss) := by
  have W := Walks.list (prog := prog) (w := w) (A := A.in1) hh I ax hne its.toArray
  refine ⟨⟨fun b hb => by simp at hb; simp [hb], fun i h h' st k => ⟨W.frame i h h' st.1 fun b hb => k b (List.mem_append_left _ hb), st.2.keep fun b hb => k b (List.mem_append_right _ hb)⟩, fun i s Q E hi st q => ?_, fun s Q E st q => W.done s Q E st.1 q, fun i s Q E st q => W.self i s Q E st.1 q⟩, fun k i j vi vj s Q E st pi pj q => ?_⟩
  · refine W.item i s Q E hi st.1 fun v h' tk pv st' keep => q v h' tk pv ⟨st', st.2.keep fun b hb o e => keep b o (fun z => ?_) e⟩ keep
    rw [List.mem_singleton] at z
    exact hI (by rw [← z]; exact hb)
  · obtain ⟨t, tits, rfl, ht, hi⟩ := st.2 i vi (by simpa using pi)
    obtain ⟨u, uits, rfl, hu', hj⟩ := st.2 j vj (by simpa using pj)
    exact HT.lt_tupInts ht hu' hi hj hu q
def rMinTV (K : PySem.W.Frag) : List V → Hp → VK → Prop := fun vs H Q => ∃ (a : Addr) (xs : List V) (nss : List (List Int)), vs = [V.ref a] ∧ SqL K H a xs ∧ (∀ i x, xs[i]? = some x → ∃ t, x = V.ref t ∧ SqT K H t ((nss.getD i []).map V.int)) ∧ 0 < xs.length ∧
  ∀ x, xs[argBest (btOf nss) (xs.length - 1)]? = some x → Q x H
theorem vals_getR : ∀ {vs : List V} {us : List Value} (_ : Vals vs us) (i : Nat) {u : Value}, us[i]? = some u → ∃ v, vs[i]? = some v ∧ RelV v u
  | _, _, .nil, i, _, e => by simp at e
  | _, _, .cons h r, 0, _, e => by cases e; exact ⟨_, rfl, h⟩
  | _, _, .cons h r, i + 1, _, e => by
    obtain ⟨v, e1, h1⟩ := vals_getR r i (by simpa using e)
    exact ⟨v, by simpa using e1, h1⟩
section
variable {X : Cx}
theorem cr_minT (hc : X.calm = true) (hu : X.A.units + 64 < cLine) : CallR X (.builtin "min") (rMinTV X.K) := by
  intro pins s σ H vs us Q I r h
  obtain ⟨a, xs, nss, rfl, hs, hx, hl, q⟩ := h
  obtain ⟨its, rv, pl, _⟩ := I.list hs
  rw [Vals.ref1 r]
  have hu1 : X.A.in1.units < cLine := by show X.A.units + 1 < cLine; omega
  have ha : a < s.heap.objs.size := by obtain ⟨o, n, e, _⟩ := pl; exact Heap.lt_size e
  have T : TupsAt s.heap its nss := fun i v e => by
    obtain ⟨x, e1, rx⟩ := vals_getR rv i e
    obtain ⟨t, rfl, ht⟩ := hx i x e1
    obtain ⟨tits, r2, p2, _⟩ := I.tuple ht
    obtain rfl : v = Value.ref t := rx
    exact ⟨t, tits.toArray, rfl, p2, by simpa using r2.ints⟩
  have hlt : ∀ b ∈ refsOf its, b < s.heap.objs.size := fun b hb => by
    obtain ⟨v, hv, e⟩ := List.mem_filterMap.mp hb
    obtain ⟨i, e1⟩ := List.getElem?_of_mem hv
    obtain ⟨t, tits, rfl, ⟨o, e2, _⟩, _⟩ := T i v e1
    cases e
    exact Heap.lt_size e2
  refine minW_call (wpAny_pyIter_list pl.isList ?_)
  have k0 : ∀ b o, s.heap.get? b = some o → (s.heap.push { cls := .type "list_iterator", data := .fields #[.ref a, .int 0 0] }).get? b = some o := fun b o e => Heap.get?_push_of_some _ e
  have hlen : its.length = xs.length := rv.length.symm
  refine ⟨_, _, _, _, _, _, _, rfl, minW_list (I.ok.hd hc) hu1 (Nat.ne_of_lt ha) (nss := nss) (fun z => Nat.lt_irrefl _ (hlt _ z)), ⟨⟨⟨_, Heap.get?_push_size _ rfl, rfl, rfl⟩, ?_⟩, T.keep fun b _ o e => k0 b o e⟩, fun b hb => ?_, by rw [List.size_toArray]; omega, fun v h' tk hv keep => ?_⟩
  · obtain ⟨o, e, c⟩ := pl.isList
    exact ⟨o, k0 _ _ e, c⟩
  · show b < (s.heap.push _).objs.size
    rw [Heap.size_push]
    rcases List.mem_append.mp hb with hb | hb
    · rcases List.mem_cons.mp hb with e | hb
      · rw [e]; exact Nat.lt_succ_self _
      · rw [List.mem_singleton.mp hb]; exact Nat.lt_succ_of_lt ha
    · exact Nat.lt_succ_of_lt (hlt b hb)
  · rw [List.size_toArray, hlen] at hv
    obtain ⟨x, e1, rx⟩ := vals_getR rv _ (by simpa using hv)
    refine ⟨x, H, I.kept (t' := tk) fun b o e => keep b o (fun z => ?_) (k0 b o e), rx, q x e1⟩
    have e2 := Heap.lt_size e
    rw [List.mem_singleton.mp z] at e2
    exact Nat.lt_irrefl _ e2

/-- tuples of ints -/
def tupsW : List W → Option (List (List Int))
  | [] => some []
  | .tup ws :: r => (intsW ws).bind fun ns => (tupsW r).map (ns :: ·)
  | _ :: _ => none
abbrev wT (ns : List Int) : W := .tup (ns.map W.int)
theorem tupsW_map : ∀ nss : List (List Int), tupsW (nss.map wT) = some nss
  | [] => rfl
  | n :: ns => by rw [List.map_cons]; simp only [tupsW, wT]; rw [intsW_map n, tupsW_map ns]; rfl
theorem tupsW_eq : ∀ {ws : List W} {nss : List (List Int)}, tupsW ws = some nss → ws = nss.map wT
  | [], ns, h => by cases h; rfl
  | w :: r, ns, h => by
    cases w with
    | tup us =>
      simp only [tupsW] at h
      cases e : intsW us with
      | none => rw [e] at h; cases h
      | some ms =>
        rw [e] at h
        cases e2 : tupsW r with
        | none => rw [e2] at h; cases h
        | some nss =>
          rw [e2] at h
          cases h
          rw [tupsW_eq e2, intsW_eq e]; rfl
    | _ => cases h
def minL (nss : List (List Int)) : List Int := nss.getD (argBest (btOf nss) (nss.length - 1)) []
def rMinT : G → List W → (W → Prop) → Prop := fun g as K => ∃ w ws nss, as = [w] ∧ lstG g w = some ws ∧ tupsW ws = some nss ∧ 0 < nss.length ∧ K (wT (minL nss))
theorem argBest_le (bt : Nat → Nat → Bool) : ∀ k, argBest bt k ≤ k
  | 0 => Nat.le_refl _
  | k + 1 => by
    unfold argBest
    split
    · exact Nat.le_refl _
    · exact Nat.le_succ_of_le (argBest_le bt k)
theorem w_minT (hc : X.calm = true) (hu : X.A.units + 64 < cLine) : CallG X (.builtin "min") rMinT := ⟨_, cr_minT hc hu, by
  rintro Φ g H ws xs KQ Q st r ⟨w, ws', nss, rfl, h, ht, hl, k⟩ q
  obtain ⟨v, rfl, rv⟩ := r.one
  obtain ⟨a, xs, rfl, hs, rr⟩ := lstG_rep st rv h
  have he := tupsW_eq ht
  have hlen : xs.length = nss.length := by rw [← rr.length, he, List.length_map]
  refine ⟨a, xs, nss, rfl, hs, fun i x e => ?_, by omega, fun x e => ?_⟩
  · obtain ⟨u, e1, r1⟩ := rr.getV e
    rw [he, List.getElem?_map] at e1
    cases q1 : nss[i]? with
    | none => rw [q1] at e1; cases e1
    | some ns =>
      rw [q1] at e1
      cases e1
      cases r1 with
      | tup hq r =>
        rw [ints_rep r] at hq
        exact ⟨_, rfl, by rw [List.getD_eq_getElem?_getD, q1]; exact Same.sqT st.sub hq⟩
  · obtain ⟨u, e1, r1⟩ := rr.getV e
    rw [he, List.getElem?_map, hlen] at e1
    cases q1 : nss[argBest (btOf nss) (nss.length - 1)]? with
    | none => rw [q1] at e1; cases e1
    | some ns =>
      rw [q1] at e1
      cases e1
      have : minL nss = ns := by unfold minL; rw [List.getD_eq_getElem?_getD, q1]; rfl
      rw [this] at k
      exact q _ Φ H _ k (.refl st) r1⟩
end
end WL
/-! WL9: what the printed walks lean on; a law's end. -/
namespace WL
open PySem PySem.Spec PyProof.Rows L2

theorem loc_by {sc : Scope} {x : Str} (h : (match sc.names.lookup x with | some .local => true | some .cell => true | _ => false) = true) : L2.Loc sc x := by
  unfold L2.Loc
  cases e : sc.names.lookup x with
  | none => rw [e] at h; cases h
  | some k => rw [e] at h; cases k <;> first | exact .inl rfl | exact .inr rfl | cases h
theorem takes_blk {X : Cx} {s : Shared} {H : Hp} {scope : Scope} {cenv : PySem.Env} {fp : List Addr} : Takes (X.blk s H scope cenv fp) W0 := fun u s' ⟨a, B, sI, pins, σ, H, cls, d, e, I, nb, up, sky, na, os, ag, h⟩ => h.elim
theorem pass00 {X : Cx} : Passes (L2.CX X.prog X.w) X (fun _ _ _ => False) := fun pins σ H s e s' I ⟨a, B, H', cls, d, e1, e2, e3, e4, e5, e6, e7, h⟩ => h.elim
abbrev rAddI := rI2 CT fun i j => W.int (i + j)
theorem o_addI {K : PySem.W.Frag} : OpS K L2.rAdd rAddI := by
  rintro Φ g H w z x y KQ Q st rw rz ⟨i, j, rfl, rfl, _, k⟩ q
  cases rw; cases rz
  exact ⟨i, j, rfl, rfl, q _ Φ H _ k (.refl st) (.int _)⟩
theorem o_subI {K : PySem.W.Frag} : OpS K L2.rSub rSubI := by
  rintro Φ g H w z x y KQ Q st rw rz ⟨i, j, rfl, rfl, _, k⟩ q
  cases rw; cases rz
  exact ⟨i, j, rfl, rfl, q _ Φ H _ k (.refl st) (.int _)⟩

theorem scr_ints {K : PySem.W.Frag} {H : Hp} {a : Addr} {ns : List Int} (h : SqL K H a (ns.map V.int)) : Rep K H (.scr (ns.map W.int)) (.ref a) := .scr h (rep_ints ns)
/-- a law's end -/
theorem walk_ofW {l : PySem.W.OpenLaw} {n k N : Nat} {q : Program} {loose : List Str} {XP : (Str → Option Value) → Heap → Prop} {YP : World → Heap → Prop} {d : DefRec} {x : Str}
    (hn : l.most = some n) (hn2 : n ≤ sizeLine) (hdf : d.params.defaults = []) (hr : Room k callerA)
    (F : ∀ (w : World) (mg : Str → Option Value) (fa : Addr) (h : Heap), YP w h → h.Ns mainGlobals mg → mg d.name = some (.ref fa) →
      ∃ (K : PySem.W.Frag) (cl : Str → Addr) (fd : FuncData) (t : TSw), K.In h ∧ (∀ (s : Shared) (u : Value), BindsTo s fd ⟨[u], []⟩ [(x, u)]) ∧
        (∀ ns : List Int, ns.length ≤ n → fnW N t [.scr (ns.map W.int)] (fun _ => none) (fun w _ => w = .bl true) noX) ∧
        ∀ base : Heap, K.In base → base.Ns mainGlobals mg → FnOk l.prog w K mg base (L2.CX l.prog w) k fa fd [x] (spF K cl 1 (fnW N t))) :
    PySem.W.WalkO q loose XP YP l.row.toRowW d [] (fun f vs => PySem.call f vs) := by
  refine Att.attach_call hn hdf fun w s₀ s₁ mg mb fa o pm cd doc a vs ns G Y ho hd hcd hmg hobj hints hlen hg => ?_
  obtain ⟨K, cl, fd, t, KX, hb, hsp, hF⟩ := F w mg fa _ Y G.T.g hmg
  refine law_call KX G.T.g G.T.b G.T.builtins G.T.nolimit hg hobj hints (Nat.le_trans hlen hn2) hr hF hb (fun H hO hS => ?_) fun H e s' => fun ⟨a, B, H', cls, d, e1, e2, e3, e4, e5, e6, e7, h⟩ => h
  refine ⟨H, fun _ => none, [.scr (ns.map W.int)], fun w _ => w = .bl true, noX, rfl, ⟨Same.refl _, fun a h => absurd rfl h, fun a o h => by cases h⟩, .cons (scr_ints hS) .nil, hsp ns hlen, fun w g' Φ' H' v e x r => ?_, QX.no⟩
  subst e
  cases r
  rfl
end WL
namespace WL
open PySem L2
theorem plain_ix {b : Expr} (h : ∀ o i, subscripted b false o i = operate [o, i] (getItem o i) := by intro _ _; rfl) : PlainIx b := h
end WL
/-! WP: readings unfolded, loops run: the plain part's kit. -/
namespace WL
open PySem PySem.Spec L2

/-! ### what a value has to be -/
def asB : W → (Bool → Prop) → Prop
  | .bl b, f => f b
  | _, _ => False
def asI : W → (Int → Prop) → Prop
  | .int i, f => f i
  | _, _ => False
def asT : W → (List W → Prop) → Prop
  | .tup ws, f => f ws
  | _, _ => False
def asA : W → (Addr → Prop) → Prop
  | .adr a, f => f a
  | _, _ => False
def asO {α : Type} : Option α → (α → Prop) → Prop
  | some x, f => f x
  | none, _ => False
def asGo : Option GO → (List W → Prop) → Prop
  | some (.gl ws), f => f ws
  | _, _ => False
def asGi (C : Addr) : Option GO → (Addr → List (Str × W) → Prop) → Prop
  | some (.gi D dx fs), f => D = C ∧ f dx fs
  | _, _ => False
def asOwn : Option (Option W) → (List W → Prop) → Prop
  | some (some (.own ws)), f => f ws
  | _, _ => False
section
variable {b : Bool} {i : Int} {ws : List W} {a C dx : Addr} {fs : List (Str × W)}
@[simp] theorem asB_b {f : Bool → Prop} : asB (.bl b) f = f b := propext Iff.rfl
@[simp] theorem asI_i {f : Int → Prop} : asI (.int i) f = f i := propext Iff.rfl
@[simp] theorem asT_t {f : List W → Prop} : asT (.tup ws) f = f ws := propext Iff.rfl
@[simp] theorem asA_a {f : Addr → Prop} : asA (.adr a) f = f a := propext Iff.rfl
@[simp] theorem asO_s {α : Type} {x : α} {f : α → Prop} : asO (some x) f = f x := propext Iff.rfl
@[simp] theorem asO_n {α : Type} {f : α → Prop} : asO none f = False := propext Iff.rfl
@[simp] theorem asGo_s {f : List W → Prop} : asGo (some (.gl ws)) f = f ws := propext Iff.rfl
@[simp] theorem asGi_s {f : Addr → List (Str × W) → Prop} : asGi C (some (.gi C dx fs)) f = f dx fs := by simp [asGi]
@[simp] theorem asOwn_s {f : List W → Prop} : asOwn (some (some (.own ws))) f = f ws := propext Iff.rfl
theorem exB {w : W} {f : Bool → Prop} : (∃ b, w = .bl b ∧ f b) = asB w f := by cases w <;> simp [asB]
theorem exI {w : W} {f : Int → Prop} : (∃ b, w = .int b ∧ f b) = asI w f := by cases w <;> simp [asI]
theorem exT {w : W} {f : List W → Prop} : (∃ b, w = .tup b ∧ f b) = asT w f := by cases w <;> simp [asT]
theorem exA {w : W} {f : Addr → Prop} : (∃ b, w = .adr b ∧ f b) = asA w f := by cases w <;> simp [asA]
theorem exO {α : Type} {w : Option α} {f : α → Prop} : (∃ b, w = some b ∧ f b) = asO w f := by cases w <;> simp [asO]
theorem exGo {w : Option GO} {f : List W → Prop} : (∃ b, w = some (.gl b) ∧ f b) = asGo w f := by
  cases w with
  | none => simp [asGo]
  | some o => cases o <;> simp [asGo]
theorem exGi {w : Option GO} {f : Addr → List (Str × W) → Prop} : (∃ b c, w = some (.gi C b c) ∧ f b c) = asGi C w f := by
  cases w with
  | none => simp [asGi]
  | some o =>
    cases o with
    | gl _ => simp [asGi]
    | gi D dx fs =>
      simp only [asGi, eq_iff_iff]
      constructor
      · rintro ⟨b, c, e, h⟩; cases e; exact ⟨rfl, h⟩
      · rintro ⟨rfl, h⟩; exact ⟨dx, fs, rfl, h⟩
theorem exOwn {w : Option (Option W)} {f : List W → Prop} : (∃ b, w = some (some (.own b)) ∧ f b) = asOwn w f := by
  cases w with
  | none => simp [asOwn]
  | some o =>
    cases o with
    | none => simp [asOwn]
    | some u => cases u <;> simp [asOwn]
end

def as2 : List W → (W → W → Prop) → Prop
  | [u, v], f => f u v
  | _, _ => False
@[simp] theorem as2_r {u v : W} {f : W → W → Prop} : as2 [u, v] f = f u v := propext Iff.rfl
theorem ex2 {ws : List W} {f : W → W → Prop} : (∃ u v, ws = [u, v] ∧ f u v) = as2 ws f := by
  apply propext; constructor
  · rintro ⟨u, v, rfl, h⟩; exact h
  · intro h
    unfold as2 at h
    split at h
    · exact ⟨_, _, rfl, h⟩
    · exact h.elim
def as3 : List W → (W → W → W → Prop) → Prop
  | [u, v, w], f => f u v w
  | _, _ => False
@[simp] theorem as3_r {u v w : W} {f : W → W → W → Prop} : as3 [u, v, w] f = f u v w := propext Iff.rfl
theorem ex3 {ws : List W} {f : W → W → W → Prop} : (∃ u v w, ws = [u, v, w] ∧ f u v w) = as3 ws f := by
  apply propext; constructor
  · rintro ⟨u, v, w, rfl, h⟩; exact h
  · intro h
    unfold as3 at h
    split at h
    · exact ⟨_, _, _, rfl, h⟩
    · exact h.elim
def asC : List W → (W → List W → Prop) → Prop
  | u :: r, f => f u r
  | _, _ => False
@[simp] theorem asC_r {u : W} {r : List W} {f : W → List W → Prop} : asC (u :: r) f = f u r := propext Iff.rfl
theorem exC {ws : List W} {f : W → List W → Prop} : (∃ u r, ws = u :: r ∧ f u r) = asC ws f := by
  apply propext; constructor
  · rintro ⟨u, r, rfl, h⟩; exact h
  · intro h
    cases ws with
    | nil => exact h.elim
    | cons u r => exact ⟨u, r, rfl, h⟩
def asSl : Option (Option W) → (W → Prop) → Prop
  | some (some w), f => f w
  | _, _ => False
@[simp] theorem asSl_r {w : W} {f : W → Prop} : asSl (some (some w)) f = f w := propext Iff.rfl
theorem exSl {o : Option (Option W)} {f : W → Prop} : (∃ w, o = some (some w) ∧ f w) = asSl o f := by
  cases o with
  | none => simp [asSl]
  | some o => cases o <;> simp [asSl]

/-- no field f -/
def noLook (f : Str) (fs : List (Str × W)) : Prop := fs.lookup f = none
section
variable {D : DW} {KE : XS} {ν : Env} {g : G} {K : KW} {KB : Bool → G → Prop} {KL : List W → G → Prop} {X : XW} {te ta tb to : TEw} {tt tu : TTw} {t u tl : TAw} {s s1 s2 : TSw} {i j n : Nat} {m : Bool}
theorem eVar_r : eVar i ν g K X = ∃ w, ν[i]? = some (some w) ∧ K w.view g := rfl
@[simp] theorem eVar_0 {w : W} : eVar 0 (some w :: ν) g K X = K w.view g := by simp [eVar_r]
@[simp] theorem eVar_s {o : Option W} : eVar (i + 1) (o :: ν) g K X = eVar i ν g K X := by simp [eVar_r]
@[simp] theorem eC_r {w : W} : eC w ν g K X = K w g := propext Iff.rfl
@[simp] theorem eOp_r {r} : eOp r ta tb ν g K X = ta ν g (fun x g1 => tb ν g1 (fun y g2 => r x y fun u => K u g2) X) X := propext Iff.rfl
@[simp] theorem eUn_r {r} : eUn r ta ν g K X = ta ν g (fun x g1 => r x fun u => K u g1) X := propext Iff.rfl
@[simp] theorem eIf_r : eIf tt ta tb ν g K X = tt ν g (fun c g1 => if c = true then ta ν g1 K X else tb ν g1 K X) X := propext Iff.rfl
@[simp] theorem lIf_r : lIf tt t u ν g KL X = tt ν g (fun c g1 => if c = true then t ν g1 KL X else u ν g1 KL X) X := propext Iff.rfl
@[simp] theorem aNil_r : aNil ν g KL X = KL [] g := propext Iff.rfl
@[simp] theorem aCons_r : aCons te t ν g KL X = te ν g (fun w g1 => t ν g1 (fun ws g2 => KL (w :: ws) g2) X) X := propext Iff.rfl
@[simp] theorem eTup_r : eTup t ν g K X = t ν g (fun ws g1 => K (.tup ws) g1) X := propext Iff.rfl
@[simp] theorem eL_r : eL t ν g K X = t ν g (fun ws g1 => K (.lst ws) g1) X := propext Iff.rfl
@[simp] theorem eG_r : eG t ν g K X = t ν g (fun ws g1 => noLst.noLstAll ws = true ∧ ∀ p, g1 p = none → K (.adr p) (gup g1 p (.gl ws))) X := propext Iff.rfl
@[simp] theorem tTst_r : tTst te ν g KB X = te ν g (fun w g1 => asB w fun b => KB b g1) X := by simp only [tTst, exB]
@[simp] theorem tTruG_r : tTruG te ν g KB X = te ν g (fun w g1 => asO (truthG g1 w) fun b => KB b g1) X := by simp only [tTruG, exO]
@[simp] theorem tAndW_r : tAndW tt tu ν g KB X = tt ν g (fun c g1 => if c = true then tu ν g1 KB X else KB false g1) X := propext Iff.rfl
@[simp] theorem tOrW_r : tOrW tt tu ν g KB X = tt ν g (fun c g1 => if c = true then KB true g1 else tu ν g1 KB X) X := propext Iff.rfl
@[simp] theorem tNotW_r : tNotW tt ν g KB X = tt ν g (fun c g1 => KB (!c) g1) X := propext Iff.rfl
@[simp] theorem eAnd_r : eAnd ta tb ν g K X = ta ν g (fun x g1 => asB x fun c => if c = true then tb ν g1 K X else K (.bl false) g1) X := by simp only [eAnd, exB]
@[simp] theorem eOr_r : eOr ta tb ν g K X = ta ν g (fun x g1 => asB x fun c => if c = true then K (.bl true) g1 else tb ν g1 K X) X := by simp only [eOr, exB]
@[simp] theorem eNot_r : eNot ta ν g K X = ta ν g (fun x g1 => asB x fun c => K (.bl (!c)) g1) X := by simp only [eNot, exB]
@[simp] theorem eCall_r {sp : TFw} : eCall sp t ν g K X = t ν g (fun ws g1 => sp ws g1 K X) X := propext Iff.rfl
@[simp] theorem lCall_r {sp} : lCall sp t ν g KL X = t ν g (fun ws g1 => sp ws g1 KL X) X := propext Iff.rfl
@[simp] theorem lOp_r {r} : lOp r ta tb ν g KL X = ta ν g (fun x g1 => tb ν g1 (fun y g2 => r x y fun u => KL u g2) X) X := propext Iff.rfl
@[simp] theorem eCG_r {r} : eCG r t ν g K X = t ν g (fun ws g1 => r g1 ws fun u => K u g1) X := propext Iff.rfl
@[simp] theorem lCG_r {r} : lCG r t ν g KL X = t ν g (fun ws g1 => r g1 ws fun us => KL us g1) X := propext Iff.rfl
@[simp] theorem eIx_r {r} : eIx r ta tb ν g K X = ta ν g (fun x g1 => tb ν g1 (fun y g2 => r g2 x y fun u => K u g2) X) X := propext Iff.rfl
@[simp] theorem oNone_r {KO : Option Int → G → Prop} : oNone ν g KO X = KO none g := propext Iff.rfl
@[simp] theorem oSome_r {KO : Option Int → G → Prop} : oSome te ν g KO X = te ν g (fun w g1 => asI w fun i => KO (some i) g1) X := by simp only [oSome, exI]
@[simp] theorem eSl_r {ol ou : TOw} : eSl te ol ou ν g K X = te ν g (fun w g1 => ol ν g1 (fun l g2 => ou ν g2 (fun u g3 => asO (sliceW w l u) fun z => K z g3) X) X) X := by simp only [eSl, exO]
@[simp] theorem lSl_r {ol ou : TOw} : lSl te ol ou ν g KL X = te ν g (fun w g1 => ol ν g1 (fun l g2 => ou ν g2 (fun u g3 => asO (lstG g3 w) fun ws => KL (cutW ws l u) g3) X) X) X := by simp only [lSl, exO]
@[simp] theorem eT_r : eT t ν g K X = t ν g (fun ws g1 => K (.tup ws) g1) X := propext Iff.rfl
@[simp] theorem aR1_r : aR1 te ν g KL X = te ν g (fun w g1 => asI w fun j => RgOk 0 j ∧ KL (rngW 0 j) g1) X := by simp only [aR1, exI]
@[simp] theorem aR2_r : aR2 ta tb ν g KL X = ta ν g (fun w g1 => tb ν g1 (fun z g2 => asI w fun i => asI z fun j => RgOk i j ∧ KL (rngW i j) g2) X) X := by simp only [aR2, exists_and_left, exI]
@[simp] theorem iW_r : iW te ν g KL X = te ν g (fun w g1 => asO (seqW w) fun ws => KL ws g1) X := by simp only [iW, exO]
def rng1 : List W → (Int → Prop) → Prop
  | [.int j], f => j < 2 ^ 62 ∧ -(2 ^ 62) ≤ j ∧ f j
  | _, _ => False
@[simp] theorem rng1_r {j : Int} {f : Int → Prop} : rng1 [.int j] f = (j < 2 ^ 62 ∧ -(2 ^ 62) ≤ j ∧ f j) := propext Iff.rfl
def rng2 : List W → (Int → Int → Prop) → Prop
  | [.int i, .int j], f => (-(2 ^ 62) ≤ i ∧ i < 2 ^ 62 ∧ -(2 ^ 62) ≤ j ∧ j < 2 ^ 62) ∧ f i j
  | _, _ => False
@[simp] theorem rng2_r {i j : Int} {f : Int → Int → Prop} : rng2 [.int i, .int j] f = ((-(2 ^ 62) ≤ i ∧ i < 2 ^ 62 ∧ -(2 ^ 62) ≤ j ∧ j < 2 ^ 62) ∧ f i j) := propext Iff.rfl
theorem exR1 {ws : List W} {f : Int → Prop} : (∃ j : Int, ws = [.int j] ∧ j < 2 ^ 62 ∧ -(2 ^ 62) ≤ j ∧ f j) = rng1 ws f := by
  apply propext
  constructor
  · rintro ⟨j, rfl, h⟩; exact h
  · intro h
    unfold rng1 at h
    split at h
    · exact ⟨_, rfl, h⟩
    · exact h.elim
theorem exR2 {ws : List W} {f : Int → Int → Prop} : (∃ i j : Int, ws = [.int i, .int j] ∧ (-(2 ^ 62) ≤ i ∧ i < 2 ^ 62 ∧ -(2 ^ 62) ≤ j ∧ j < 2 ^ 62) ∧ f i j) = rng2 ws f := by
  apply propext
  constructor
  · rintro ⟨i, j, rfl, h⟩; exact h
  · intro h
    unfold rng2 at h
    split at h
    · exact ⟨_, _, rfl, h⟩
    · exact h.elim
@[simp] theorem iR1_r : iR1 t ν g KL X = t ν g (fun ws g1 => rng1 ws fun j => KL (rngW 0 j) g1) X := by simp only [iR1, exR1]
@[simp] theorem iR2_r : iR2 t ν g KL X = t ν g (fun ws g1 => rng2 ws fun i j => KL (rngW i j) g1) X := by simp only [iR2, exR2]
@[simp] theorem lComp_r {tg : Tg} {us : List Nat} : lComp tg us tl tt te ν g KL X = tl ν g (fun ws g1 => ws.length < 16777216 ∧ compW tg us tt te ν ws [] KL g1) X := propext Iff.rfl
@[simp] theorem tYesW_r : tYesW ν g KB X = KB true g := propext Iff.rfl
@[simp] theorem eFld_r {C : Addr} {f : Str} : eFld C f te ν g K X = te ν g (fun w g1 => asA w fun a => asGi C (g1 a) fun dx fs => asO (fs.lookup f) fun v => K v g1) X := by simp only [eFld, exists_and_left, exO, exGi, exA]
@[simp] theorem eStM_r {r} : eStM r to t ν g K X = to ν g (fun o g1 => asA o fun a => asGo (g1 a) fun _ => t ν g1 (fun as g2 => asGo (g2 a) fun ws => r ws as fun w ws' => noLst.noLstAll ws' = true ∧ K w (gup g2 a (.gl ws'))) X) X := by simp only [eStM, exists_and_left, exGo, exA]
@[simp] theorem eMeth_r {C : Addr} {f : Str} {sp : TFw} : eMeth C f sp to t ν g K X = to ν g (fun w g1 => asA w fun a => asGi C (g1 a) fun dx fs => noLook f fs ∧ t ν g1 (fun ws g2 => sp (.adr a :: ws) g2 K X) X) X := by simp only [eMeth, exists_and_left, exGi, exA, noLook]
@[simp] theorem eMake_r {C : Addr} {sp : TFw} : eMake C sp t ν g K X = t ν g (fun ws g1 => ∀ x dx, g1 x = none → sp (.adr x :: ws) (gup g1 x (.gi C dx [])) (fun w g2 => w = .non ∧ K (.adr x) g2) noX) X := propext Iff.rfl
@[simp] theorem eCallK_r {sp : TFw} {perm : List Nat} : eCallK perm sp t u ν g K X = t ν g (fun ws g1 => u ν g1 (fun zs g2 => (kg perm ws zs).length = perm.length ∧ sp (kg perm ws zs) g2 K X) X) X := propext Iff.rfl
/-! statements -/
@[simp] theorem sSkip_r : sSkip D KE ν g = D.nx ν g := propext Iff.rfl
@[simp] theorem sSeq_r : sSeq s1 s2 D KE ν g = s1 { nx := fun ν g => s2 D KE ν g, rt := D.rt, bk := D.bk, ct := D.ct } KE ν g := propext Iff.rfl
@[simp] theorem sDrop_r : sDrop te D KE ν g = te ν g (fun _ g1 => D.nx ν g1) (kx KE ν) := propext Iff.rfl
@[simp] theorem sRet_r : sRet te D KE ν g = te ν g D.rt (kx KE ν) := propext Iff.rfl
@[simp] theorem sRetN_r : sRetN D KE ν g = D.rt .non g := propext Iff.rfl
@[simp] theorem sRetL_r : sRetL tl D KE ν g = tl ν g (fun ws g1 => D.rt (.lst ws) g1) (kx KE ν) := propext Iff.rfl
@[simp] theorem sRetO_r : sRetO i D KE ν g = asOwn ν[i]? fun ws => D.rt (.lst ws) g := by simp only [sRetO, exOwn]
@[simp] theorem sAsg_r : sAsg m i te D KE ν g = te (vw m ν) g (fun w g1 => (m = true ∨ noLst w = true) ∧ D.nx (ν.set i (some w)) g1) (kx KE ν) := propext Iff.rfl
@[simp] theorem sAsgL_r : sAsgL m i tl D KE ν g = tl (vw m ν) g (fun ws g1 => (m = true ∨ noLst.noLstAll ws = true) ∧ D.nx (ν.set i (some (.own ws))) g1) (kx KE ν) := propext Iff.rfl
@[simp] theorem sIf_r : sIf tt s1 s2 D KE ν g = tt ν g (fun b g1 => if b = true then s1 D KE ν g1 else s2 D KE ν g1) (kx KE ν) := propext Iff.rfl
@[simp] theorem sBrk_r : sBrk D KE ν g = D.bk ν g := propext Iff.rfl
@[simp] theorem sCnt_r : sCnt D KE ν g = D.ct ν g := propext Iff.rfl
@[simp] theorem sNever_r : sNever D KE ν g = False := propext Iff.rfl
@[simp] theorem sAsgT_r {tg : Tg} : sAsgT m tg te D KE ν g = te (vw m ν) g (fun w g1 => (m = true ∨ noLst w = true) ∧ tg.put w ν (fun ν' => D.nx ν' g1)) (kx KE ν) := propext Iff.rfl
@[simp] theorem sFor_r {tg : Tg} : sFor m tg tl s D KE ν g = tl (vw m ν) g (fun ws g1 => forW tg s ws D KE ν g1) (kx KE ν) := propext Iff.rfl
@[simp] theorem sDropM_r {tm : TMw} : sDropM tm D KE ν g = tm ν g (fun _ ν' g1 => D.nx ν' g1) KE := propext Iff.rfl
@[simp] theorem sAsgM_r {tm : TMw} {tg : Tg} : sAsgM tg tm D KE ν g = tm ν g (fun w ν' g1 => tg.put w ν' fun ν'' => D.nx ν'' g1) KE := propext Iff.rfl
@[simp] theorem mOwn_r {r} {KM : W → Env → G → Prop} : mOwn m i r t ν g KM KE = asOwn ν[i]? fun ws => t (vw m ν) g (fun as g1 => (m = true ∨ noLst.noLstAll as = true) ∧ r ws as fun w ws' => KM w (ν.set i (some (.own ws'))) g1) (kx KE ν) := by simp only [mOwn, exOwn]
@[simp] theorem mExtL_r {KM : W → Env → G → Prop} : mExtL m i tl ν g KM KE = asOwn ν[i]? fun ws => tl (vw m ν) g (fun us g1 => (m = true ∨ noLst.noLstAll us = true) ∧ ws.length + us.length ≤ 16777216 ∧ KM .non (ν.set i (some (.own (ws ++ us)))) g1) (kx KE ν) := by simp only [mExtL, exOwn]
@[simp] theorem sFrz_r {is : List Nat} : sFrz is s D KE ν g = s D KE (frzW is ν) g := propext Iff.rfl
@[simp] theorem sAsgG_r {tg : TGw} : sAsgG m te tg D KE ν g = te (vw m ν) g (fun w g1 => (m = true ∨ noLst w = true) ∧ tg w ν g1 D.nx KE) (kx KE ν) := propext Iff.rfl
@[simp] theorem sPar_r : sPar m i j t D KE ν g = t (vw m ν) g (fun ws g1 => as2 ws fun u v => (m = true ∨ (noLst u = true ∧ noLst v = true)) ∧ D.nx ((ν.set i (some u)).set j (some v)) g1) (kx KE ν) := by simp only [sPar, ex2]
@[simp] theorem sPar3_r {l : Nat} : sPar3 m i j l t D KE ν g = t (vw m ν) g (fun ws g1 => as3 ws fun u v w => (m = true ∨ (noLst u = true ∧ noLst v = true ∧ noLst w = true)) ∧ D.nx (((ν.set i (some u)).set j (some v)).set l (some w)) g1) (kx KE ν) := by simp only [sPar3, ex3]
@[simp] theorem gNm_r {w : W} {KN : Env → G → Prop} : gNm i w ν g KN KE = KN (ν.set i (some w)) g := propext Iff.rfl
@[simp] theorem gsNil_r {ws : List W} {KN : Env → G → Prop} : gsNil ws ν g KN KE = (ws = [] ∧ KN ν g) := propext Iff.rfl
@[simp] theorem gsCons_r {tg : TGw} {us} {ws : List W} {KN : Env → G → Prop} : gsCons tg us ws ν g KN KE = asC ws fun w r => tg w ν g (fun ν' g' => us r ν' g' KN KE) KE := by simp only [gsCons, exC]
@[simp] theorem gTp_r {us} {w : W} {KN : Env → G → Prop} : gTp us n w ν g KN KE = asT w fun ws => ws.length = n ∧ us ws ν g KN KE := by simp only [gTp, exT]
@[simp] theorem gSubG_r {w : W} {KN : Env → G → Prop} : gSubG to te w ν g KN KE = (noLst w = true ∧ to ν g (fun o g1 => te ν g1 (fun k g2 => asA o fun a => asI k fun n => asGo (g2 a) fun ws => asO (ixN ws.length n) fun j => noLst.noLstAll ws = true ∧ KN ν (gup g2 a (.gl (ws.set j w)))) (kx KE ν)) (kx KE ν)) := by simp only [gSubG, exists_and_left, exO, exGo, exI, exA]
@[simp] theorem gSubO_r {w : W} {KN : Env → G → Prop} : gSubO i te w ν g KN KE = asOwn ν[i]? fun ws => te ν g (fun k g2 => asI k fun n => asO (ixN ws.length n) fun j => KN (ν.set i (some (.own (ws.set j w)))) g2) (kx KE ν) := by simp only [gSubO, exists_and_left, exO, exI, exOwn]
@[simp] theorem gFld_r {C : Addr} {f : Str} {w : W} {KN : Env → G → Prop} : gFld C f to w ν g KN KE = (noLst w = true ∧ to ν g (fun o g1 => asA o fun a => asGi C (g1 a) fun dx fs => fs.length < 1000 ∧ fsNo fs = true ∧ KN ν (gup g1 a (.gi C dx (putW f w fs)))) (kx KE ν)) := by simp only [gFld, exists_and_left, exGi, exA]
@[simp] theorem sAug_r {r} : sAug i r te D KE ν g = asSl ν[i]? fun w => te ν g (fun u g1 => r w.view u fun z => noLst z = true ∧ D.nx (ν.set i (some z)) g1) (kx KE ν) := by simp only [sAug, exSl]
@[simp] theorem sFldW_r {C : Addr} {f : Str} : sFldW C f to te D KE ν g = te ν g (fun w g1 => noLst w = true ∧ to ν g1 (fun o g2 => asA o fun a => asGi C (g2 a) fun dx fs => fs.length < 1000 ∧ fsNo fs = true ∧ D.nx ν (gup g2 a (.gi C dx (putW f w fs)))) (kx KE ν)) (kx KE ν) := by simp only [sFldW, exists_and_left, exGi, exA]
@[simp] theorem sFldAugW_r {C : Addr} {f : Str} {r} : sFldAugW C f r to te D KE ν g = to ν g (fun o g1 => asA o fun a => asGi C (g1 a) fun dx fs => asO (fs.lookup f) fun x => te ν g1 (fun y g2 => r x y fun z => noLst z = true ∧ asGi C (g2 a) fun dx' fs' => fs'.length < 1000 ∧ fsNo fs' = true ∧ D.nx ν (gup g2 a (.gi C dx' (putW f z fs')))) (kx KE ν)) (kx KE ν) := by simp only [sFldAugW, exists_and_left, exO, exGi, exA]
@[simp] theorem put_nm {w : W} {KN : Env → Prop} : (Tg.nm i).put w ν KN = KN (ν.set i (some w)) := propext Iff.rfl
@[simp] theorem put_tp {is : List Nat} {w : W} {KN : Env → Prop} : (Tg.tp is).put w ν KN = asT w fun ws => ws.length = is.length ∧ KN (setMany is ws ν) := by simp only [Tg.put, exT]
@[simp] theorem setMany_n {ws : List W} : setMany [] ws ν = ν := by cases ws <;> rfl
@[simp] theorem setMany_c {i : Nat} {is : List Nat} {w : W} {ws : List W} : setMany (i :: is) (w :: ws) ν = setMany is ws (ν.set i (some w)) := rfl
@[simp] theorem wipeW_n : wipeW ν [] = ν := rfl
@[simp] theorem wipeW_c {v : Nat} {vs : List Nat} : wipeW ν (v :: vs) = (wipeW ν vs).set v none := rfl
@[simp] theorem frzW_n : frzW [] ν = ν := rfl
@[simp] theorem frzW_c {is : List Nat} : frzW (i :: is) ν = frzW is (match ν[i]? with | some (some (.own ws)) => ν.set i (some (.lst ws)) | _ => ν) := rfl
@[simp] theorem gup_s {a : Addr} {o : GO} : gup g a o a = some o := gup_same
end
/-! rules -/
section
variable {w z : W} {K : W → Prop} {KL : List W → Prop} {g : G} {i j : Int} {a b : Str} {xs ys ws : List W} {x y : Bool} {p : Addr}
@[simp] theorem rI2_r {C : Int → Int → Prop} {f : Int → Int → W} : rI2 C f (.int i) (.int j) K = (C i j ∧ K (f i j)) := by simp [rI2]
@[simp] theorem CT_r : CT i j = True := propext Iff.rfl
@[simp] theorem rAdd_ii : rAdd (.int i) (.int j) K = K (.int (i + j)) := propext Iff.rfl
@[simp] theorem rAdd_ss : rAdd (.str a) (.str b) K = (a.length + b.length ≤ 16777216 ∧ K (.str (a ++ b))) := propext Iff.rfl
@[simp] theorem rAdd_tt : rAdd (.tup xs) (.tup ys) K = (xs.length + ys.length ≤ 16777216 ∧ K (.tup (xs ++ ys))) := propext Iff.rfl
@[simp] theorem rCatL_r : rCatL (.lst xs) (.lst ys) KL = (xs.length + ys.length ≤ 16777216 ∧ KL (xs ++ ys)) := by simp [rCatL]
@[simp] theorem rRepL_r : rRepL (.lst xs) (.int i) KL = (i < 2 ^ 63 ∧ -(2 ^ 63) ≤ i ∧ xs.length * i.toNat ≤ 16777216 ∧ KL (List.replicate i.toNat xs).flatten) := by simp [rRepL]
@[simp] theorem rNeg_r : rNeg (.int i) K = K (.int (-i)) := by simp [rNeg]
@[simp] theorem rEqW_r : rEqW w z K = (flatOk 60 w = true ∧ flatOk 60 z = true ∧ K (.bl (eqW w z))) := propext Iff.rfl
@[simp] theorem rNeW_r : rNeW w z K = (flatOk 60 w = true ∧ flatOk 60 z = true ∧ K (.bl (!eqW w z))) := propext Iff.rfl
@[simp] theorem eqW_ii : eqW (.int i) (.int j) = decide (i = j) := by
  show (i == j) = decide (i = j)
  rfl
@[simp] theorem eqW_ss : eqW (.str a) (.str b) = decide (a = b) := by
  show (a == b) = decide (a = b)
  by_cases h : a = b
  · subst h; simp
  · simp [h]
@[simp] theorem eqW_ni : eqW .non (.int j) = false := rfl
@[simp] theorem eqW_in : eqW (.int j) .non = false := rfl
@[simp] theorem eqW_nn : eqW .non .non = true := rfl
@[simp] theorem eqW_bb : eqW (.bl x) (.bl y) = decide (x = y) := by cases x <;> cases y <;> rfl
@[simp] theorem flat_i {n : Nat} : flatOk n (.int i) = true := by cases n <;> rfl
@[simp] theorem flat_n {n : Nat} : flatOk n .non = true := by cases n <;> rfl
@[simp] theorem flat_b {n : Nat} : flatOk n (.bl x) = true := by cases n <;> rfl
@[simp] theorem flat_s {n : Nat} : flatOk n (.str a) = PyData.strOk a := by cases n <;> rfl
@[simp] theorem rIsN_r : rIsN w .non K = K (.bl (isNon w)) := by simp [rIsN]
@[simp] theorem rNotN_r : rNotN w .non K = K (.bl (!isNon w)) := by simp [rNotN]
@[simp] theorem isNon_n : isNon .non = true := rfl
@[simp] theorem isNon_i : isNon (.int i) = false := rfl
@[simp] theorem isNon_b : isNon (.bl x) = false := rfl
@[simp] theorem isNon_s : isNon (.str a) = false := rfl
@[simp] theorem isNon_t : isNon (.tup xs) = false := rfl
@[simp] theorem isNon_l : isNon (.lst xs) = false := rfl
@[simp] theorem isNon_a : isNon (.adr p) = false := rfl
@[simp] theorem rItem_r : rItem g w z K = asO (itemW g w z) K := by simp only [rItem, exO]
@[simp] theorem seqG_t : seqG g (.tup xs) = some xs := rfl
@[simp] theorem seqG_l : seqG g (.lst xs) = some xs := rfl
@[simp] theorem seqG_c : seqG g (.scr xs) = some xs := rfl
theorem seqG_a (h : g p = some (.gl xs)) : seqG g (.adr p) = some xs := by simp [seqG, h]
@[simp] theorem lstG_l : lstG g (.lst xs) = some xs := rfl
@[simp] theorem lstG_c : lstG g (.scr xs) = some xs := rfl
theorem lstG_a (h : g p = some (.gl xs)) : lstG g (.adr p) = some xs := by simp [lstG, seqG, h]
@[simp] theorem seqW_t : seqW (.tup xs) = some xs := rfl
@[simp] theorem seqW_l : seqW (.lst xs) = some xs := rfl
@[simp] theorem seqW_c : seqW (.scr xs) = some xs := rfl
@[simp] theorem item_t : itemW g (.tup xs) (.int i) = atI xs i := rfl
@[simp] theorem item_l : itemW g (.lst xs) (.int i) = atI xs i := rfl
@[simp] theorem item_c : itemW g (.scr xs) (.int i) = atI xs i := rfl
theorem item_a (h : g p = some (.gl xs)) : itemW g (.adr p) (.int i) = atI xs i := by simp [itemW, seqG, h]
@[simp] theorem truth_n : truthG g .non = some false := rfl
@[simp] theorem truth_b : truthG g (.bl x) = some x := rfl
@[simp] theorem truth_i : truthG g (.int i) = some (i != 0) := rfl
@[simp] theorem truth_t : truthG g (.tup xs) = some !xs.isEmpty := rfl
@[simp] theorem truth_l : truthG g (.lst xs) = some !xs.isEmpty := rfl
theorem truth_a (h : g p = some (.gl xs)) : truthG g (.adr p) = some !xs.isEmpty := by simp [truthG, seqG, h]
@[simp] theorem slice_t {l u : Option Int} : sliceW (.tup xs) l u = some (.tup (cutW xs l u)) := rfl
@[simp] theorem len_t : lenW g (.tup xs) = some (xs.length : Int) := rfl
@[simp] theorem len_l : lenW g (.lst xs) = some (xs.length : Int) := rfl
@[simp] theorem len_c : lenW g (.scr xs) = some (xs.length : Int) := rfl
theorem len_a (h : g p = some (.gl xs)) : lenW g (.adr p) = some (xs.length : Int) := by simp [lenW, seqG, h]
@[simp] theorem rLen_r : rLen g [w] K = asO (lenW g w) fun n => K (.int n) := by simp [rLen, exO]
@[simp] theorem rInt_i : rInt g [.int i] K = K (.int i) := by simp [rInt, toInt]
@[simp] theorem rTupOf_r : rTupOf g [w] K = asO (seqG g w) fun ws => K (.tup ws) := by simp [rTupOf, exO]
@[simp] theorem rLstOf_r : rLstOf g [w] KL = asO (seqG g w) KL := by simp [rLstOf, exO]
@[simp] theorem rIsi_r {n : String} : rIsiW g [w, .ty n] K = asO (isiW g w n) fun b => K (.bl b) := by
  rw [← exO]; apply propext; constructor
  · rintro ⟨w', n', b, e, h⟩; cases e; exact ⟨b, h⟩
  · rintro ⟨b, h⟩; exact ⟨w, n, b, rfl, h⟩
@[simp] theorem rMax2_r : rMax2W g [.int i, .int j] K = K (.int (if j > i then j else i)) := by
  apply propext; constructor
  · rintro ⟨i', j', e, h⟩; cases e; exact h
  · intro h; exact ⟨i, j, rfl, h⟩
@[simp] theorem rMin2_r : rMin2W g [.int i, .int j] K = K (.int (if j < i then j else i)) := by
  apply propext; constructor
  · rintro ⟨i', j', e, h⟩; cases e; exact h
  · intro h; exact ⟨i, j, rfl, h⟩
@[simp] theorem mAppend_r {KM : W → List W → Prop} : mAppend ws [w] KM = (ws.length < 16777216 ∧ KM .non (ws ++ [w])) := by simp [mAppend]
@[simp] theorem mPop_r {KM : W → List W → Prop} : mPop ws [] KM = asO ws.getLast? fun u => KM u ws.dropLast := by simp [mPop, exO]
@[simp] theorem noLst_n : noLst .non = true := rfl
@[simp] theorem noLst_b : noLst (.bl x) = true := rfl
@[simp] theorem noLst_i : noLst (.int i) = true := rfl
@[simp] theorem noLst_s : noLst (.str a) = true := rfl
@[simp] theorem noLst_a : noLst (.adr p) = true := rfl
@[simp] theorem noLst_t : noLst (.tup xs) = noLst.noLstAll xs := rfl
@[simp] theorem noLst_nil : noLst.noLstAll [] = true := rfl
@[simp] theorem noLst_cons : noLst.noLstAll (w :: ws) = (noLst w && noLst.noLstAll ws) := rfl
theorem noLst_all : noLst.noLstAll ws = true ↔ ∀ w ∈ ws, noLst w = true := by
  induction ws with
  | nil => simp
  | cons w ws ih => simp [ih]
@[simp] theorem noLst_app : noLst.noLstAll (xs ++ ys) = (noLst.noLstAll xs && noLst.noLstAll ys) := by
  induction xs with
  | nil => simp
  | cons x xs ih => simp [ih, Bool.and_assoc]
theorem atI_nat (k : Nat) : atI ws (k : Int) = ws[k]? := by
  unfold atI ixN
  rw [if_pos (by omega)]
  by_cases h : (k : Int) < (ws.length : Int)
  · rw [if_pos h]; simp
  · rw [if_neg h, List.getElem?_eq_none (by omega)]; rfl
theorem ixN_nat {n k : Nat} (h : k < n) : ixN n (k : Int) = some k := by
  unfold ixN
  rw [if_pos (by omega), if_pos (by omega)]
  simp
@[simp] theorem isi_ii : kitB "int" "int" = some true := by decide +kernel
@[simp] theorem isi_ib : kitB "int" "bool" = some false := by decide +kernel
@[simp] theorem isi_is : kitB "int" "str" = some false := by decide +kernel
@[simp] theorem isi_il : kitB "int" "list" = some false := by decide +kernel
@[simp] theorem isi_it : kitB "int" "tuple" = some false := by decide +kernel
@[simp] theorem isi_bi : kitB "bool" "int" = some true := by decide +kernel
@[simp] theorem isi_bb : kitB "bool" "bool" = some true := by decide +kernel
@[simp] theorem isi_bs : kitB "bool" "str" = some false := by decide +kernel
@[simp] theorem isi_bl : kitB "bool" "list" = some false := by decide +kernel
@[simp] theorem isi_bt : kitB "bool" "tuple" = some false := by decide +kernel
@[simp] theorem isi_si : kitB "str" "int" = some false := by decide +kernel
@[simp] theorem isi_sb : kitB "str" "bool" = some false := by decide +kernel
@[simp] theorem isi_ss : kitB "str" "str" = some true := by decide +kernel
@[simp] theorem isi_sl : kitB "str" "list" = some false := by decide +kernel
@[simp] theorem isi_st : kitB "str" "tuple" = some false := by decide +kernel
@[simp] theorem isi_ni : kitB "NoneType" "int" = some false := by decide +kernel
@[simp] theorem isi_nb : kitB "NoneType" "bool" = some false := by decide +kernel
@[simp] theorem isi_ns : kitB "NoneType" "str" = some false := by decide +kernel
@[simp] theorem isi_nl : kitB "NoneType" "list" = some false := by decide +kernel
@[simp] theorem isi_nt : kitB "NoneType" "tuple" = some false := by decide +kernel
@[simp] theorem isi_li : kitB "list" "int" = some false := by decide +kernel
@[simp] theorem isi_lb : kitB "list" "bool" = some false := by decide +kernel
@[simp] theorem isi_ls : kitB "list" "str" = some false := by decide +kernel
@[simp] theorem isi_ll : kitB "list" "list" = some true := by decide +kernel
@[simp] theorem isi_lt : kitB "list" "tuple" = some false := by decide +kernel
@[simp] theorem isi_ti : kitB "tuple" "int" = some false := by decide +kernel
@[simp] theorem isi_tb : kitB "tuple" "bool" = some false := by decide +kernel
@[simp] theorem isi_ts : kitB "tuple" "str" = some false := by decide +kernel
@[simp] theorem isi_tl : kitB "tuple" "list" = some false := by decide +kernel
@[simp] theorem isi_tt : kitB "tuple" "tuple" = some true := by decide +kernel
@[simp] theorem isiW_n {n : String} : isiW g .non n = kitB "NoneType" n := rfl
@[simp] theorem isiW_b {n : String} : isiW g (.bl x) n = kitB "bool" n := rfl
@[simp] theorem isiW_i {n : String} : isiW g (.int i) n = kitB "int" n := rfl
@[simp] theorem isiW_s {n : String} : isiW g (.str a) n = kitB "str" n := rfl
@[simp] theorem isiW_t {n : String} : isiW g (.tup xs) n = kitB "tuple" n := rfl
@[simp] theorem isiW_l {n : String} : isiW g (.lst xs) n = kitB "list" n := rfl
end
/-! ### an optional int -/
def oI : Option Int → W
  | none => .non
  | some i => .int i
section
variable {o o' : Option Int} {g : G}
@[simp] theorem oI_none : oI none = .non := rfl
@[simp] theorem oI_some {i : Int} : oI (some i) = .int i := rfl
@[simp] theorem oI_view : (oI o).view = oI o := by cases o <;> rfl
@[simp] theorem oI_isNon : isNon (oI o) = o.isNone := by cases o <;> rfl
@[simp] theorem oI_noLst : noLst (oI o) = true := by cases o <;> rfl
@[simp] theorem oI_flat {n : Nat} : flatOk n (oI o) = true := by cases o <;> simp
@[simp] theorem oI_eq : eqW (oI o) (oI o') = decide (o = o') := by
  cases o <;> cases o' <;> simp
@[simp] theorem oI_hide : hideW (some (oI o)) = some (oI o) := by cases o <;> rfl
end
/-! ### loops -/
section
variable {D : DW} {KE : XS} {ν : Env} {g : G} {tt : TTw} {te : TEw} {s : TSw} {tg : Tg}
theorem for_by {ws : List W} (I : Nat → Env → G → Prop) (h0 : I 0 ν g)
    (step : ∀ (i : Nat) (w : W) (ν : Env) (g : G) (N : Env → G → Prop), ws[i]? = some w → I i ν g → (∀ ν g, I (i + 1) ν g → N ν g) → tg.put w ν fun ν' => s ⟨N, D.rt, D.nx, N⟩ KE ν' g)
    (done : ∀ ν g, I ws.length ν g → D.nx ν g) : forW tg s ws D KE ν g := by
  have go : ∀ (k i : Nat) (ν : Env) (g : G), i + k = ws.length → I i ν g → forW tg s (ws.drop i) D KE ν g := by
    intro k
    induction k with
    | zero =>
      intro i ν g e h
      have : i = ws.length := by omega
      subst this
      rw [List.drop_length]
      exact done ν g h
    | succ k ih =>
      intro i ν g e h
      have hl : i < ws.length := by omega
      rw [List.drop_eq_getElem_cons hl]
      exact step i ws[i] ν g _ (List.getElem?_eq_getElem hl) h fun ν g h => ih (i + 1) ν g (by omega) h
  have := go ws.length 0 ν g (by omega) h0
  rwa [List.drop_zero] at this
theorem for_rng {n j : Nat} (I : Nat → Env → G → Prop) (h0 : I 0 ν g)
    (step : ∀ (i : Nat) (ν : Env) (g : G) (N : Env → G → Prop), i < n → I i ν g → (∀ ν g, I (i + 1) ν g → N ν g) → s ⟨N, D.rt, D.nx, N⟩ KE (ν.set j (some (.int (i : Int)))) g)
    (done : ∀ ν g, I n ν g → D.nx ν g) : forW (.nm j) s (rngW 0 (n : Int)) D KE ν g := by
  have hl : (rngW 0 (n : Int)).length = n := by unfold rngW; simp
  refine for_by I h0 (fun i w ν g N e h hn => ?_) (by rw [hl]; exact done)
  have hi : i < n := by rw [← hl]; exact (List.getElem?_eq_some_iff.mp e).1
  have ew : w = .int (i : Int) := by
    unfold rngW at e
    simp [hi] at e
    exact e.symm
  subst ew
  exact step i ν g N hi h hn
theorem while_by (I : Nat → Env → G → Prop) {m : Nat} (h0 : I m ν g)
    (step : ∀ (m : Nat) (ν : Env) (g : G) (N : Env → G → Prop), I m ν g → (∀ m' ν g, m' < m → I m' ν g → N ν g) → tt ν g (fun b g1 => if b = true then s ⟨N, D.rt, D.nx, N⟩ KE ν g1 else D.nx ν g1) (kx KE ν)) : sWhile tt s D KE ν g := by
  have go : ∀ (n m : Nat) (ν : Env) (g : G), m < n → I m ν g → whileW tt s n D KE ν g := by
    intro n
    induction n with
    | zero => intro m _ _ h; omega
    | succ n ih => intro m ν g h hi; exact step m ν g _ hi fun m' ν g h' hi' => ih m' ν g (by omega) hi'
  exact ⟨m + 1, go (m + 1) m ν g (by omega) h0⟩
theorem comp_by {us : List Nat} {ws : List W} {K : List W → G → Prop} (I : Nat → List W → G → Prop) (h0 : I 0 [] g)
    (step : ∀ (i : Nat) (w : W) (acc : List W) (g : G) (N : List W → G → Prop), ws[i]? = some w → I i acc g → (∀ acc g, I (i + 1) acc g → N acc g) → tg.put w (wipeW ν us) fun ν' => tt ν' g (fun b g1 => if b = true then te ν' g1 (fun u g2 => N (acc ++ [u]) g2) noX else N acc g1) noX)
    (done : ∀ acc g, I ws.length acc g → K acc g) : compW tg us tt te ν ws [] K g := by
  have go : ∀ (k i : Nat) (acc : List W) (g : G), i + k = ws.length → I i acc g → compW tg us tt te ν (ws.drop i) acc K g := by
    intro k
    induction k with
    | zero =>
      intro i acc g e h
      have : i = ws.length := by omega
      subst this
      rw [List.drop_length]
      exact done acc g h
    | succ k ih =>
      intro i acc g e h
      have hl : i < ws.length := by omega
      rw [List.drop_eq_getElem_cons hl]
      exact step i ws[i] acc g _ (List.getElem?_eq_getElem hl) h fun acc g h => ih (i + 1) acc g (by omega) h
  have := go ws.length 0 [] g (by omega) h0
  rwa [List.drop_zero] at this
/-- a comprehension that changes nothing -/
theorem comp_of {α : Type} {us : List Nat} (xs : List α) (e : α → W) (F : α → Option W) {K : List W → G → Prop}
    (h : ∀ x ∈ xs, ∀ (A : W → G → Prop) (B : G → Prop), (match F x with | some u => A u g | none => B g) → tg.put (e x) (wipeW ν us) fun ν' => tt ν' g (fun b g1 => if b = true then te ν' g1 A noX else B g1) noX)
    (k : K (xs.filterMap F) g) : compW tg us tt te ν (xs.map e) [] K g := by
  refine comp_by (fun i acc g' => g' = g ∧ acc = (xs.take i).filterMap F) ⟨rfl, by simp⟩ (fun i w acc g' N ew ⟨eg, ea⟩ hn => ?_) fun acc g' ⟨eg, ea⟩ => ?_
  · subst eg
    rw [List.getElem?_map] at ew
    cases q : xs[i]? with
    | none => rw [q] at ew; cases ew
    | some x =>
      rw [q] at ew
      cases ew
      have hm : x ∈ xs := List.mem_of_getElem? q
      have et : xs.take (i + 1) = xs.take i ++ [x] := by rw [List.take_add_one, q]; rfl
      refine h x hm (fun u g2 => N (acc ++ [u]) g2) (fun g1 => N acc g1) ?_
      cases f : F x with
      | none =>
        refine hn _ _ ⟨rfl, ?_⟩
        rw [et, List.filterMap_append, ea]
        simp [f]
      | some u =>
        refine hn _ _ ⟨rfl, ?_⟩
        rw [et, List.filterMap_append, ea]
        simp [f]
  · subst eg
    rw [ea, List.length_map, List.take_length]
    exact k
theorem rng_map (n : Nat) : rngW 0 (n : Int) = (List.range n).map fun (k : Nat) => W.int (k : Int) := by
  unfold rngW; simp
theorem seqN {s1 s2 : TSw} (h : ∀ N : Env → G → Prop, N = (fun ν g => s2 D KE ν g) → s1 { nx := N, rt := D.rt, bk := D.bk, ct := D.ct } KE ν g) : sSeq s1 s2 D KE ν g := h _ rfl
theorem fnW_r {n : Nat} {t : TSw} {ws : List W} {K : KW} {X : XW} : fnW n t ws g K X = t ⟨fun _ g => K .non g, K, fun _ _ => False, fun _ _ => False⟩ (fun n fs _ g => X n fs g) (ws.map some ++ List.replicate (n - ws.length) none) g := rfl
end
end WL
namespace WL
/-! ### slots: the first are known, k more there are -/
def Sl (pre : Env) (k : Nat) (ν : Env) : Prop := ν.take pre.length = pre ∧ ν.length = pre.length + k
theorem Sl.ex {pre ν : Env} {k : Nat} (h : Sl pre k ν) : ∃ r : Env, r.length = k ∧ ν = pre ++ r := by
  refine ⟨ν.drop pre.length, ?_, ?_⟩
  · rw [List.length_drop, h.2]; omega
  · have := List.take_append_drop pre.length ν
    rw [h.1] at this
    exact this.symm
theorem len0 {α : Type} {l : List α} (h : l.length = 0) : l = [] := List.length_eq_zero_iff.mp h
theorem len1 {α : Type} {l : List α} {n : Nat} (h : l.length = n + 1) : ∃ a r, l = a :: r ∧ r.length = n := by
  cases l with
  | nil => cases h
  | cons a r => exact ⟨a, r, rfl, by simpa using h⟩
section
variable {pre ν : Env}
theorem Sl.r0 (h : Sl pre 0 ν) : ν = pre := by
  obtain ⟨r, hr, e⟩ := h.ex
  rw [e, len0 hr, List.append_nil]
theorem Sl.r1 (h : Sl pre 1 ν) : ∃ x0, ν = pre ++ [x0] := by
  obtain ⟨r0, h0, e⟩ := h.ex
  obtain ⟨x0, r1, e0, h1⟩ := len1 h0
  have ez := len0 h1
  subst ez
  subst e0
  exact ⟨x0, e⟩
theorem Sl.r2 (h : Sl pre 2 ν) : ∃ x0 x1, ν = pre ++ [x0, x1] := by
  obtain ⟨r0, h0, e⟩ := h.ex
  obtain ⟨x0, r1, e0, h1⟩ := len1 h0
  obtain ⟨x1, r2, e1, h2⟩ := len1 h1
  have ez := len0 h2
  subst ez
  subst e1
  subst e0
  exact ⟨x0, x1, e⟩
theorem Sl.r3 (h : Sl pre 3 ν) : ∃ x0 x1 x2, ν = pre ++ [x0, x1, x2] := by
  obtain ⟨r0, h0, e⟩ := h.ex
  obtain ⟨x0, r1, e0, h1⟩ := len1 h0
  obtain ⟨x1, r2, e1, h2⟩ := len1 h1
  obtain ⟨x2, r3, e2, h3⟩ := len1 h2
  have ez := len0 h3
  subst ez
  subst e2
  subst e1
  subst e0
  exact ⟨x0, x1, x2, e⟩
theorem Sl.r4 (h : Sl pre 4 ν) : ∃ x0 x1 x2 x3, ν = pre ++ [x0, x1, x2, x3] := by
  obtain ⟨r0, h0, e⟩ := h.ex
  obtain ⟨x0, r1, e0, h1⟩ := len1 h0
  obtain ⟨x1, r2, e1, h2⟩ := len1 h1
  obtain ⟨x2, r3, e2, h3⟩ := len1 h2
  obtain ⟨x3, r4, e3, h4⟩ := len1 h3
  have ez := len0 h4
  subst ez
  subst e3
  subst e2
  subst e1
  subst e0
  exact ⟨x0, x1, x2, x3, e⟩
theorem Sl.r5 (h : Sl pre 5 ν) : ∃ x0 x1 x2 x3 x4, ν = pre ++ [x0, x1, x2, x3, x4] := by
  obtain ⟨r0, h0, e⟩ := h.ex
  obtain ⟨x0, r1, e0, h1⟩ := len1 h0
  obtain ⟨x1, r2, e1, h2⟩ := len1 h1
  obtain ⟨x2, r3, e2, h3⟩ := len1 h2
  obtain ⟨x3, r4, e3, h4⟩ := len1 h3
  obtain ⟨x4, r5, e4, h5⟩ := len1 h4
  have ez := len0 h5
  subst ez
  subst e4
  subst e3
  subst e2
  subst e1
  subst e0
  exact ⟨x0, x1, x2, x3, x4, e⟩
theorem Sl.r6 (h : Sl pre 6 ν) : ∃ x0 x1 x2 x3 x4 x5, ν = pre ++ [x0, x1, x2, x3, x4, x5] := by
  obtain ⟨r0, h0, e⟩ := h.ex
  obtain ⟨x0, r1, e0, h1⟩ := len1 h0
  obtain ⟨x1, r2, e1, h2⟩ := len1 h1
  obtain ⟨x2, r3, e2, h3⟩ := len1 h2
  obtain ⟨x3, r4, e3, h4⟩ := len1 h3
  obtain ⟨x4, r5, e4, h5⟩ := len1 h4
  obtain ⟨x5, r6, e5, h6⟩ := len1 h5
  have ez := len0 h6
  subst ez
  subst e5
  subst e4
  subst e3
  subst e2
  subst e1
  subst e0
  exact ⟨x0, x1, x2, x3, x4, x5, e⟩
theorem Sl.r7 (h : Sl pre 7 ν) : ∃ x0 x1 x2 x3 x4 x5 x6, ν = pre ++ [x0, x1, x2, x3, x4, x5, x6] := by
  obtain ⟨r0, h0, e⟩ := h.ex
  obtain ⟨x0, r1, e0, h1⟩ := len1 h0
  obtain ⟨x1, r2, e1, h2⟩ := len1 h1
  obtain ⟨x2, r3, e2, h3⟩ := len1 h2
  obtain ⟨x3, r4, e3, h4⟩ := len1 h3
  obtain ⟨x4, r5, e4, h5⟩ := len1 h4
  obtain ⟨x5, r6, e5, h6⟩ := len1 h5
  obtain ⟨x6, r7, e6, h7⟩ := len1 h6
  have ez := len0 h7
  subst ez
  subst e6
  subst e5
  subst e4
  subst e3
  subst e2
  subst e1
  subst e0
  exact ⟨x0, x1, x2, x3, x4, x5, x6, e⟩
theorem Sl.r8 (h : Sl pre 8 ν) : ∃ x0 x1 x2 x3 x4 x5 x6 x7, ν = pre ++ [x0, x1, x2, x3, x4, x5, x6, x7] := by
  obtain ⟨r0, h0, e⟩ := h.ex
  obtain ⟨x0, r1, e0, h1⟩ := len1 h0
  obtain ⟨x1, r2, e1, h2⟩ := len1 h1
  obtain ⟨x2, r3, e2, h3⟩ := len1 h2
  obtain ⟨x3, r4, e3, h4⟩ := len1 h3
  obtain ⟨x4, r5, e4, h5⟩ := len1 h4
  obtain ⟨x5, r6, e5, h6⟩ := len1 h5
  obtain ⟨x6, r7, e6, h7⟩ := len1 h6
  obtain ⟨x7, r8, e7, h8⟩ := len1 h7
  have ez := len0 h8
  subst ez
  subst e7
  subst e6
  subst e5
  subst e4
  subst e3
  subst e2
  subst e1
  subst e0
  exact ⟨x0, x1, x2, x3, x4, x5, x6, x7, e⟩
theorem Sl.r9 (h : Sl pre 9 ν) : ∃ x0 x1 x2 x3 x4 x5 x6 x7 x8, ν = pre ++ [x0, x1, x2, x3, x4, x5, x6, x7, x8] := by
  obtain ⟨r0, h0, e⟩ := h.ex
  obtain ⟨x0, r1, e0, h1⟩ := len1 h0
  obtain ⟨x1, r2, e1, h2⟩ := len1 h1
  obtain ⟨x2, r3, e2, h3⟩ := len1 h2
  obtain ⟨x3, r4, e3, h4⟩ := len1 h3
  obtain ⟨x4, r5, e4, h5⟩ := len1 h4
  obtain ⟨x5, r6, e5, h6⟩ := len1 h5
  obtain ⟨x6, r7, e6, h7⟩ := len1 h6
  obtain ⟨x7, r8, e7, h8⟩ := len1 h7
  obtain ⟨x8, r9, e8, h9⟩ := len1 h8
  have ez := len0 h9
  subst ez
  subst e8
  subst e7
  subst e6
  subst e5
  subst e4
  subst e3
  subst e2
  subst e1
  subst e0
  exact ⟨x0, x1, x2, x3, x4, x5, x6, x7, x8, e⟩
theorem Sl.r10 (h : Sl pre 10 ν) : ∃ x0 x1 x2 x3 x4 x5 x6 x7 x8 x9, ν = pre ++ [x0, x1, x2, x3, x4, x5, x6, x7, x8, x9] := by
  obtain ⟨r0, h0, e⟩ := h.ex
  obtain ⟨x0, r1, e0, h1⟩ := len1 h0
  obtain ⟨x1, r2, e1, h2⟩ := len1 h1
  obtain ⟨x2, r3, e2, h3⟩ := len1 h2
  obtain ⟨x3, r4, e3, h4⟩ := len1 h3
  obtain ⟨x4, r5, e4, h5⟩ := len1 h4
  obtain ⟨x5, r6, e5, h6⟩ := len1 h5
  obtain ⟨x6, r7, e6, h7⟩ := len1 h6
  obtain ⟨x7, r8, e7, h8⟩ := len1 h7
  obtain ⟨x8, r9, e8, h9⟩ := len1 h8
  obtain ⟨x9, r10, e9, h10⟩ := len1 h9
  have ez := len0 h10
  subst ez
  subst e9
  subst e8
  subst e7
  subst e6
  subst e5
  subst e4
  subst e3
  subst e2
  subst e1
  subst e0
  exact ⟨x0, x1, x2, x3, x4, x5, x6, x7, x8, x9, e⟩
theorem Sl.r11 (h : Sl pre 11 ν) : ∃ x0 x1 x2 x3 x4 x5 x6 x7 x8 x9 x10, ν = pre ++ [x0, x1, x2, x3, x4, x5, x6, x7, x8, x9, x10] := by
  obtain ⟨r0, h0, e⟩ := h.ex
  obtain ⟨x0, r1, e0, h1⟩ := len1 h0
  obtain ⟨x1, r2, e1, h2⟩ := len1 h1
  obtain ⟨x2, r3, e2, h3⟩ := len1 h2
  obtain ⟨x3, r4, e3, h4⟩ := len1 h3
  obtain ⟨x4, r5, e4, h5⟩ := len1 h4
  obtain ⟨x5, r6, e5, h6⟩ := len1 h5
  obtain ⟨x6, r7, e6, h7⟩ := len1 h6
  obtain ⟨x7, r8, e7, h8⟩ := len1 h7
  obtain ⟨x8, r9, e8, h9⟩ := len1 h8
  obtain ⟨x9, r10, e9, h10⟩ := len1 h9
  obtain ⟨x10, r11, e10, h11⟩ := len1 h10
  have ez := len0 h11
  subst ez
  subst e10
  subst e9
  subst e8
  subst e7
  subst e6
  subst e5
  subst e4
  subst e3
  subst e2
  subst e1
  subst e0
  exact ⟨x0, x1, x2, x3, x4, x5, x6, x7, x8, x9, x10, e⟩
theorem Sl.r12 (h : Sl pre 12 ν) : ∃ x0 x1 x2 x3 x4 x5 x6 x7 x8 x9 x10 x11, ν = pre ++ [x0, x1, x2, x3, x4, x5, x6, x7, x8, x9, x10, x11] := by
  obtain ⟨r0, h0, e⟩ := h.ex
  obtain ⟨x0, r1, e0, h1⟩ := len1 h0
  obtain ⟨x1, r2, e1, h2⟩ := len1 h1
  obtain ⟨x2, r3, e2, h3⟩ := len1 h2
  obtain ⟨x3, r4, e3, h4⟩ := len1 h3
  obtain ⟨x4, r5, e4, h5⟩ := len1 h4
  obtain ⟨x5, r6, e5, h6⟩ := len1 h5
  obtain ⟨x6, r7, e6, h7⟩ := len1 h6
  obtain ⟨x7, r8, e7, h8⟩ := len1 h7
  obtain ⟨x8, r9, e8, h9⟩ := len1 h8
  obtain ⟨x9, r10, e9, h10⟩ := len1 h9
  obtain ⟨x10, r11, e10, h11⟩ := len1 h10
  obtain ⟨x11, r12, e11, h12⟩ := len1 h11
  have ez := len0 h12
  subst ez
  subst e11
  subst e10
  subst e9
  subst e8
  subst e7
  subst e6
  subst e5
  subst e4
  subst e3
  subst e2
  subst e1
  subst e0
  exact ⟨x0, x1, x2, x3, x4, x5, x6, x7, x8, x9, x10, x11, e⟩
end
end WL
set_option maxHeartbeats 0
namespace HT
open PySem PySem.Spec PyProof.Rows L2
def top (i : Nat) : Stmt := PySem.Challenge.pw_firstandlast_k70_whole_runs.main.body.getD i (.Pass ⟨0, 0, 0, 0⟩)

def d2 : He.DefD := ⟨("is_whole", none), "is_whole", "is_whole", defArgs (top 6), defBody (top 6), defScope (top 6), [], []⟩
def d3 : He.DefD := ⟨("is_number", none), "is_number", "is_number", defArgs (top 7), defBody (top 7), defScope (top 7), [], []⟩
def d4 : He.DefD := ⟨("is_below", none), "is_below", "is_below", defArgs (top 8), defBody (top 8), defScope (top 8), [], []⟩
def d5 : He.DefD := ⟨("look_for_signal", none), "look_for_signal", "look_for_signal", defArgs (top 10), defBody (top 10), defScope (top 10), [], []⟩
def d6 : He.DefD := ⟨("time_by", none), "time_by", "time_by", defArgs (top 12), defBody (top 12), defScope (top 12), [], []⟩
def d7 : He.DefD := ⟨("comes", none), "comes", "comes", defArgs (top 13), defBody (top 13), defScope (top 13), [], []⟩
def d8 : He.DefD := ⟨("Machine", some "__init__"), "__init__", "Machine.__init__", defArgs (inClass (top 15) 0), defBody (inClass (top 15) 0), defScope (inClass (top 15) 0), [], []⟩
def d9 : He.DefD := ⟨("Machine", some "put"), "put", "Machine.put", defArgs (inClass (top 15) 1), defBody (inClass (top 15) 1), defScope (inClass (top 15) 1), [], []⟩
def d10 : He.DefD := ⟨("Machine", some "step"), "step", "Machine.step", defArgs (inClass (top 15) 2), defBody (inClass (top 15) 2), defScope (inClass (top 15) 2), [], []⟩
def d12 : He.DefD := ⟨("Machine", some "time_of"), "time_of", "Machine.time_of", defArgs (inClass (top 15) 4), defBody (inClass (top 15) 4), defScope (inClass (top 15) 4), [], []⟩
def d14 : He.DefD := ⟨("coming_rows", none), "coming_rows", "coming_rows", defArgs (top 17), defBody (top 17), defScope (top 17), [], []⟩
def d15 : He.DefD := ⟨("run_steps", none), "run_steps", "run_steps", defArgs (top 18), defBody (top 18), defScope (top 18), [], []⟩
def d16 : He.DefD := ⟨("quiet_behind", none), "quiet_behind", "quiet_behind", defArgs (top 19), defBody (top 19), defScope (top 19), [], []⟩
def d17 : He.DefD := ⟨("latest_time", none), "latest_time", "latest_time", defArgs (top 21), defBody (top 21), defScope (top 21), [], []⟩
def d18 : He.DefD := ⟨("_law_pen", none), "_law_pen", "_law_pen", defArgs (top 23), defBody (top 23), defScope (top 23), [], []⟩
def d19 : He.DefD := ⟨("_law_pick", none), "_law_pick", "_law_pick", defArgs (top 24), defBody (top 24), defScope (top 24), [], []⟩
def d20 : He.DefD := ⟨("_law_same", none), "_law_same", "_law_same", defArgs (top 25), defBody (top 25), defScope (top 25), [], []⟩
def d21 : He.DefD := ⟨("_law_comes", none), "_law_comes", "_law_comes", defArgs (top 26), defBody (top 26), defScope (top 26), [], []⟩
def d22 : He.DefD := ⟨("_law_gate", none), "_law_gate", "_law_gate", defArgs (top 27), defBody (top 27), defScope (top 27), [], []⟩
def d23 : He.DefD := ⟨("_law_network", none), "_law_network", "_law_network", defArgs (top 28), defBody (top 28), defScope (top 28), [], []⟩
def d24 : He.DefD := ⟨("_law_row", none), "_law_row", "_law_row", defArgs (top 29), defBody (top 29), defScope (top 29), [], []⟩
def d25 : He.DefD := ⟨("_law_quiet", none), "_law_quiet", "_law_quiet", defArgs (top 30), defBody (top 30), defScope (top 30), [], []⟩
def d26 : He.DefD := ⟨("_law_run", none), "_law_run", "_law_run", defArgs (top 31), defBody (top 31), defScope (top 31), [], []⟩
def d27 : He.DefD := ⟨("_law_rows", none), "_law_rows", "_law_rows", defArgs (top 32), defBody (top 32), defScope (top 32), [], []⟩
def d28 : He.DefD := ⟨("_law_asked", none), "_law_asked", "_law_asked", defArgs (top 33), defBody (top 33), defScope (top 33), [], []⟩
def d29 : He.DefD := ⟨("_law_whole", none), "_law_whole", "_law_whole", defArgs (top 34), defBody (top 34), defScope (top 34), [], []⟩
def d30 : He.DefD := ⟨("_law_led", none), "_law_led", "_law_led", defArgs (top 35), defBody (top 35), defScope (top 35), [], []⟩
def d31 : He.DefD := ⟨("_law_runs", none), "_law_runs", "_law_runs", defArgs (top 36), defBody (top 36), defScope (top 36), [], []⟩
def d32 : He.DefD := ⟨("_law_turns", none), "_law_turns", "_law_turns", defArgs (top 37), defBody (top 37), defScope (top 37), [], []⟩
def d33 : He.DefD := ⟨("_law_scene", none), "_law_scene", "_law_scene", defArgs (top 38), defBody (top 38), defScope (top 38), [], []⟩
def d34 : He.DefD := ⟨("_law_wide", none), "_law_wide", "_law_wide", defArgs (top 39), defBody (top 39), defScope (top 39), [], []⟩
def d35 : He.DefD := ⟨("_law_far", none), "_law_far", "_law_far", defArgs (top 40), defBody (top 40), defScope (top 40), [], []⟩
def d36 : He.DefD := ⟨("_law_hand", none), "_law_hand", "_law_hand", defArgs (top 41), defBody (top 41), defScope (top 41), [], []⟩
def d37 : He.DefD := ⟨("law", none), "law", "law", defArgs (top 42), defBody (top 42), defScope (top 42), [], []⟩
def fn : List He.DefD := [d2, d3, d4, d5, d6, d7, d8, d9, d10, d12, d14, d15, d16, d17, d18, d19, d20, d21, d22, d23, d24, d25, d26, d27, d28, d29, d30, d31, d32, d33, d34, d35, d36, d37]
def fa : List He.Fa := [.glo "Machine", .glo "_law_asked", .glo "_law_comes", .glo "_law_far", .glo "_law_gate", .glo "_law_hand", .glo "_law_led", .glo "_law_network", .glo "_law_pen", .glo "_law_pick", .glo "_law_quiet", .glo "_law_row", .glo "_law_rows", .glo "_law_run", .glo "_law_runs", .glo "_law_same", .glo "_law_scene", .glo "_law_turns", .glo "_law_whole", .glo "_law_wide", .glo "comes", .glo "coming_rows", .glo "is_below", .glo "is_number", .glo "is_whole", .glo "latest_time", .glo "law", .glo "look_for_signal", .glo "quiet_behind", .glo "run_steps", .glo "time_by", .cls "Machine", .mkr "Machine", .meth "Machine" "put", .meth "Machine" "step", .meth "Machine" "time_of", .noat "Machine" "done", .noat "Machine" "gates", .noat "Machine" "many", .noat "Machine" "times", .free "bool", .free "int", .free "isinstance", .free "len", .free "list", .free "max", .free "min", .free "range", .free "sorted", .free "str", .free "tuple"]
def loose : List PySem.Str := (["BadStep", "CallError", "LastError", "Machine", "__name__", "_law_asked", "_law_comes", "_law_far", "_law_gate", "_law_hand", "_law_led", "_law_network", "_law_pen", "_law_pick", "_law_quiet", "_law_row"] : List PySem.Str) ++ (["_law_rows", "_law_run", "_law_runs", "_law_same", "_law_scene", "_law_turns", "_law_whole", "_law_wide", "_wall", "comes", "coming_rows", "is_below", "is_number", "is_whole", "latest_time", "look_for_signal"] : List PySem.Str) ++ (["quiet_behind", "run_steps", "time_by"] : List PySem.Str)
abbrev R : PySem.W.OpenRow := PySem.W.OpenLaw.row PySem.Challenge.rw_firstandlast_k70_whole_runs
abbrev hk : PySem.W.Hook := He.hookD 5 fa fn
def ob (s : PySem.W.SharedT) : He.AlD := He.obsDG 5 fa fn (HandSHeadRun.getT s)
theorem ob_eq (s : PySem.W.SharedT) : ob s = hk.obs s.abs := He.obsDG_eq (HandSHeadRun.getT_eq s)
theorem run (w : World) : HandSHeadRun.RunEq R (PySem.W.view R.prog [42]) hk ob 3000 loose w := by
  intro os
  kernel_rfl
end HT
set_option maxHeartbeats 0
namespace K70
open PySem PySem.Spec PyProof.Rows L2 WL HT
structure Fx (K : PySem.W.Frag) (mg : Str → Option Value) (base : Heap) : Prop where
  c : He.SaysD fa fn K
  X : K.In base
  G : base.Ns mainGlobals mg
section
variable {P : Program} {w : World} {K : PySem.W.Frag} {mg : Str → Option Value} {base : Heap}
theorem Fx.g_Machine (Z : Fx K mg base) : mg "Machine" = some (.ref (He.ga K "Machine")) := He.glo_ok Z.X Z.G (Z.c.fact 0 (f := .glo "Machine") rfl)
theorem Fx.g_law_asked (Z : Fx K mg base) : mg "_law_asked" = some (.ref (He.fAd K ("_law_asked", none))) := He.glo_ok Z.X Z.G (Z.c.fact 1 (f := .glo "_law_asked") rfl)
theorem Fx.g_law_comes (Z : Fx K mg base) : mg "_law_comes" = some (.ref (He.fAd K ("_law_comes", none))) := He.glo_ok Z.X Z.G (Z.c.fact 2 (f := .glo "_law_comes") rfl)
theorem Fx.g_law_far (Z : Fx K mg base) : mg "_law_far" = some (.ref (He.fAd K ("_law_far", none))) := He.glo_ok Z.X Z.G (Z.c.fact 3 (f := .glo "_law_far") rfl)
theorem Fx.g_law_gate (Z : Fx K mg base) : mg "_law_gate" = some (.ref (He.fAd K ("_law_gate", none))) := He.glo_ok Z.X Z.G (Z.c.fact 4 (f := .glo "_law_gate") rfl)
theorem Fx.g_law_hand (Z : Fx K mg base) : mg "_law_hand" = some (.ref (He.fAd K ("_law_hand", none))) := He.glo_ok Z.X Z.G (Z.c.fact 5 (f := .glo "_law_hand") rfl)
theorem Fx.g_law_led (Z : Fx K mg base) : mg "_law_led" = some (.ref (He.fAd K ("_law_led", none))) := He.glo_ok Z.X Z.G (Z.c.fact 6 (f := .glo "_law_led") rfl)
theorem Fx.g_law_network (Z : Fx K mg base) : mg "_law_network" = some (.ref (He.fAd K ("_law_network", none))) := He.glo_ok Z.X Z.G (Z.c.fact 7 (f := .glo "_law_network") rfl)
theorem Fx.g_law_pen (Z : Fx K mg base) : mg "_law_pen" = some (.ref (He.fAd K ("_law_pen", none))) := He.glo_ok Z.X Z.G (Z.c.fact 8 (f := .glo "_law_pen") rfl)
theorem Fx.g_law_pick (Z : Fx K mg base) : mg "_law_pick" = some (.ref (He.fAd K ("_law_pick", none))) := He.glo_ok Z.X Z.G (Z.c.fact 9 (f := .glo "_law_pick") rfl)
theorem Fx.g_law_quiet (Z : Fx K mg base) : mg "_law_quiet" = some (.ref (He.fAd K ("_law_quiet", none))) := He.glo_ok Z.X Z.G (Z.c.fact 10 (f := .glo "_law_quiet") rfl)
theorem Fx.g_law_row (Z : Fx K mg base) : mg "_law_row" = some (.ref (He.fAd K ("_law_row", none))) := He.glo_ok Z.X Z.G (Z.c.fact 11 (f := .glo "_law_row") rfl)
theorem Fx.g_law_rows (Z : Fx K mg base) : mg "_law_rows" = some (.ref (He.fAd K ("_law_rows", none))) := He.glo_ok Z.X Z.G (Z.c.fact 12 (f := .glo "_law_rows") rfl)
theorem Fx.g_law_run (Z : Fx K mg base) : mg "_law_run" = some (.ref (He.fAd K ("_law_run", none))) := He.glo_ok Z.X Z.G (Z.c.fact 13 (f := .glo "_law_run") rfl)
theorem Fx.g_law_runs (Z : Fx K mg base) : mg "_law_runs" = some (.ref (He.fAd K ("_law_runs", none))) := He.glo_ok Z.X Z.G (Z.c.fact 14 (f := .glo "_law_runs") rfl)
theorem Fx.g_law_same (Z : Fx K mg base) : mg "_law_same" = some (.ref (He.fAd K ("_law_same", none))) := He.glo_ok Z.X Z.G (Z.c.fact 15 (f := .glo "_law_same") rfl)
theorem Fx.g_law_scene (Z : Fx K mg base) : mg "_law_scene" = some (.ref (He.fAd K ("_law_scene", none))) := He.glo_ok Z.X Z.G (Z.c.fact 16 (f := .glo "_law_scene") rfl)
theorem Fx.g_law_turns (Z : Fx K mg base) : mg "_law_turns" = some (.ref (He.fAd K ("_law_turns", none))) := He.glo_ok Z.X Z.G (Z.c.fact 17 (f := .glo "_law_turns") rfl)
theorem Fx.g_law_whole (Z : Fx K mg base) : mg "_law_whole" = some (.ref (He.fAd K ("_law_whole", none))) := He.glo_ok Z.X Z.G (Z.c.fact 18 (f := .glo "_law_whole") rfl)
theorem Fx.g_law_wide (Z : Fx K mg base) : mg "_law_wide" = some (.ref (He.fAd K ("_law_wide", none))) := He.glo_ok Z.X Z.G (Z.c.fact 19 (f := .glo "_law_wide") rfl)
theorem Fx.g_comes (Z : Fx K mg base) : mg "comes" = some (.ref (He.fAd K ("comes", none))) := He.glo_ok Z.X Z.G (Z.c.fact 20 (f := .glo "comes") rfl)
theorem Fx.g_coming_rows (Z : Fx K mg base) : mg "coming_rows" = some (.ref (He.fAd K ("coming_rows", none))) := He.glo_ok Z.X Z.G (Z.c.fact 21 (f := .glo "coming_rows") rfl)
theorem Fx.g_is_below (Z : Fx K mg base) : mg "is_below" = some (.ref (He.fAd K ("is_below", none))) := He.glo_ok Z.X Z.G (Z.c.fact 22 (f := .glo "is_below") rfl)
theorem Fx.g_is_number (Z : Fx K mg base) : mg "is_number" = some (.ref (He.fAd K ("is_number", none))) := He.glo_ok Z.X Z.G (Z.c.fact 23 (f := .glo "is_number") rfl)
theorem Fx.g_is_whole (Z : Fx K mg base) : mg "is_whole" = some (.ref (He.fAd K ("is_whole", none))) := He.glo_ok Z.X Z.G (Z.c.fact 24 (f := .glo "is_whole") rfl)
theorem Fx.g_latest_time (Z : Fx K mg base) : mg "latest_time" = some (.ref (He.fAd K ("latest_time", none))) := He.glo_ok Z.X Z.G (Z.c.fact 25 (f := .glo "latest_time") rfl)
theorem Fx.g_law (Z : Fx K mg base) : mg "law" = some (.ref (He.fAd K ("law", none))) := He.glo_ok Z.X Z.G (Z.c.fact 26 (f := .glo "law") rfl)
theorem Fx.g_look_for_signal (Z : Fx K mg base) : mg "look_for_signal" = some (.ref (He.fAd K ("look_for_signal", none))) := He.glo_ok Z.X Z.G (Z.c.fact 27 (f := .glo "look_for_signal") rfl)
theorem Fx.g_quiet_behind (Z : Fx K mg base) : mg "quiet_behind" = some (.ref (He.fAd K ("quiet_behind", none))) := He.glo_ok Z.X Z.G (Z.c.fact 28 (f := .glo "quiet_behind") rfl)
theorem Fx.g_run_steps (Z : Fx K mg base) : mg "run_steps" = some (.ref (He.fAd K ("run_steps", none))) := He.glo_ok Z.X Z.G (Z.c.fact 29 (f := .glo "run_steps") rfl)
theorem Fx.g_time_by (Z : Fx K mg base) : mg "time_by" = some (.ref (He.fAd K ("time_by", none))) := He.glo_ok Z.X Z.G (Z.c.fact 30 (f := .glo "time_by") rfl)
theorem Fx.c_Machine (Z : Fx K mg base) : Cls K (He.ga K "Machine") := He.cls_ok (Z.c.fact 31 (f := .cls "Machine") rfl)
theorem Fx.k_Machine (Z : Fx K mg base) : Mk K (He.ga K "Machine") (He.fAd K ("Machine", some "__init__")) := He.mkr_ok (Z.c.fact 32 (f := .mkr "Machine") rfl)
theorem Fx.m_Machine_put (Z : Fx K mg base) : Meth K (He.ga K "Machine") "put" (He.fAd K ("Machine", some "put")) := He.meth_ok (Z.c.fact 33 (f := .meth "Machine" "put") rfl)
theorem Fx.m_Machine_step (Z : Fx K mg base) : Meth K (He.ga K "Machine") "step" (He.fAd K ("Machine", some "step")) := He.meth_ok (Z.c.fact 34 (f := .meth "Machine" "step") rfl)
theorem Fx.m_Machine_time_of (Z : Fx K mg base) : Meth K (He.ga K "Machine") "time_of" (He.fAd K ("Machine", some "time_of")) := He.meth_ok (Z.c.fact 35 (f := .meth "Machine" "time_of") rfl)
theorem Fx.n_Machine_done (Z : Fx K mg base) : NoAttr K (He.ga K "Machine") "done" := He.noat_ok (Z.c.fact 36 (f := .noat "Machine" "done") rfl)
theorem Fx.n_Machine_gates (Z : Fx K mg base) : NoAttr K (He.ga K "Machine") "gates" := He.noat_ok (Z.c.fact 37 (f := .noat "Machine" "gates") rfl)
theorem Fx.n_Machine_many (Z : Fx K mg base) : NoAttr K (He.ga K "Machine") "many" := He.noat_ok (Z.c.fact 38 (f := .noat "Machine" "many") rfl)
theorem Fx.n_Machine_times (Z : Fx K mg base) : NoAttr K (He.ga K "Machine") "times" := He.noat_ok (Z.c.fact 39 (f := .noat "Machine" "times") rfl)
theorem Fx.g_bool (Z : Fx K mg base) : mg "bool" = none := He.free_ok Z.X Z.G (Z.c.fact 40 (f := .free "bool") rfl)
theorem Fx.g_int (Z : Fx K mg base) : mg "int" = none := He.free_ok Z.X Z.G (Z.c.fact 41 (f := .free "int") rfl)
theorem Fx.g_isinstance (Z : Fx K mg base) : mg "isinstance" = none := He.free_ok Z.X Z.G (Z.c.fact 42 (f := .free "isinstance") rfl)
theorem Fx.g_len (Z : Fx K mg base) : mg "len" = none := He.free_ok Z.X Z.G (Z.c.fact 43 (f := .free "len") rfl)
theorem Fx.g_list (Z : Fx K mg base) : mg "list" = none := He.free_ok Z.X Z.G (Z.c.fact 44 (f := .free "list") rfl)
theorem Fx.g_max (Z : Fx K mg base) : mg "max" = none := He.free_ok Z.X Z.G (Z.c.fact 45 (f := .free "max") rfl)
theorem Fx.g_min (Z : Fx K mg base) : mg "min" = none := He.free_ok Z.X Z.G (Z.c.fact 46 (f := .free "min") rfl)
theorem Fx.g_range (Z : Fx K mg base) : mg "range" = none := He.free_ok Z.X Z.G (Z.c.fact 47 (f := .free "range") rfl)
theorem Fx.g_sorted (Z : Fx K mg base) : mg "sorted" = none := He.free_ok Z.X Z.G (Z.c.fact 48 (f := .free "sorted") rfl)
theorem Fx.g_str (Z : Fx K mg base) : mg "str" = none := He.free_ok Z.X Z.G (Z.c.fact 49 (f := .free "str") rfl)
theorem Fx.g_tuple (Z : Fx K mg base) : mg "tuple" = none := He.free_ok Z.X Z.G (Z.c.fact 50 (f := .free "tuple") rfl)
/-! _law_pen -/
def t_law_pen (cl : Str → Addr) : TSw := sSeq (sAsg true 1 (eC (.int 30011))) (sSeq (sFor true (.nm 2) (iW (eL (lSl (eVar 0) (oNone) (oSome (eC (.int 63)))))) (sAsg true 1 (eOp rModI (eCG rInt (aCons (eOp rAdd (eOp rAdd (eOp rMulI (eVar 1) (eC (.int 48611))) (eOp rMulI (eVar 2) (eC (.int 97)))) (eC (.int 13))) (aNil))) (eC (.int 4100000027))))) (sSeq (sAsg true 3 (eG (aNil))) (sSeq (sFor false (.nm 4) (iR1 (aCons (eC (.int 9)) (aNil))) (sSeq (sAsg true 1 (eOp rModI (eCG rInt (aCons (eOp rAdd (eOp rAdd (eOp rMulI (eVar 1) (eC (.int 65003))) (eOp rMulI (eC (.int 31)) (eVar 4))) (eC (.int 7))) (aNil))) (eC (.int 4100000027)))) (sDrop (eStM mAppend (eVar 3) (aCons (eOp rModI (eCG rInt (aCons (eOp rDivI (eVar 1) (eC (.int 1013))) (aNil))) (eC (.int 12))) (aNil)))))) (sRet (eG (aCons (eG (lComp (.nm 2) [2] (iW (eL (lSl (eVar 0) (oNone) (oSome (eC (.int 63)))))) (tTst (eOp rGeI (eVar 2) (eOp rPowI (eC (.int 10)) (eC (.int 18))))) (eCG rInt (aCons (eVar 2) (aNil))))) (aCons (eVar 1) (aCons (eC (.int 0)) (aCons (eC (.int 0)) (aCons (eVar 3) (aCons (eCG rInt (aCons (eOp rDivI (eVar 1) (eC (.int 7))) (aNil))) (aNil))))))))))))
theorem sc_law_pen : FnScope ["script", "seed", "cell", "habits", "at"] ["script"] (defScope (top 23)) := ⟨rfl, rfl, rfl, by decide +kernel, rfl, by decide +kernel, by decide +kernel⟩
theorem ok_law_pen (Z : Fx K mg base) : ∃ fd : FuncData, FunD K "_law_pen" "_law_pen" (defArgs (top 23)) (defBody (top 23)) (defScope (top 23)) [] [] (He.fAd K ("_law_pen", none)) fd ∧ FnOk P w K mg base (L2.CX P w) 1 (He.fAd K ("_law_pen", none)) fd ["script"] (spF K (He.ga K) 1 (fnW 5 (t_law_pen (He.ga K)))) := by
  obtain ⟨fd, F⟩ := Z.c.def_ 14 (d := d18) rfl
  refine ⟨fd, F, fn_w F sc_law_pen rfl fun cdv A outer s H E c hr => ?_⟩
  exact (ws_cons (ws_set (m := true) (i := 1) (ps_asg we_int (pg_name (i := 1) sc_law_pen.nd rfl (loc_by rfl))))
      (ws_cons (ws_for (tg := (.nm 2)) (passes_of rfl) rfl (wi_seq (we_l (wl_sl (we_var (pv 0)) wo_none (wo_some we_int)))) (pg_name (i := 2) sc_law_pen.nd rfl (loc_by rfl)) (fun _ => (ws_one (ws_set (m := true) (i := 1) (ps_asg (we_op w_mod (we_cgT w_int (by rfl) Z.g_int boot_int (wa_cons (we_op w_add (we_op w_add (we_op w_mul (we_var (pv 1)) we_int) (we_op w_mul (we_var (pv 2)) we_int)) we_int) wa_nil)) we_int) (pg_name (i := 1) sc_law_pen.nd rfl (loc_by rfl)))))))
      (ws_cons (ws_set (m := true) (i := 3) (ps_asg (we_g (wl_lst wa_nil)) (pg_name (i := 3) sc_law_pen.nd rfl (loc_by rfl))))
      (ws_cons (ws_forR (passes_of rfl) rfl (wr_range1 (by rfl) Z.g_range (wa_cons we_int wa_nil)) (pg_name (i := 4) sc_law_pen.nd rfl (loc_by rfl)) (fun _ => (ws_cons (ws_set (m := true) (i := 1) (ps_asg (we_op w_mod (we_cgT w_int (by rfl) Z.g_int boot_int (wa_cons (we_op w_add (we_op w_add (we_op w_mul (we_var (pv 1)) we_int) (we_op w_mul we_int (we_var (pv 4)))) we_int) wa_nil)) we_int) (pg_name (i := 1) sc_law_pen.nd rfl (loc_by rfl))))
      (ws_one (ws_drop (we_stM o_append (pe_bm PySem.F.plainAttrs_list PySem.F.slot_list_append PySem.F.type_list_append mt_append (we_var (pv 3)) (wa_cons (we_op w_mod (we_cgT w_int (by rfl) Z.g_int boot_int (wa_cons (we_op w_div (we_var (pv 1)) we_int) wa_nil)) we_int) wa_nil))))))))
      (ws_one (ws_ret (we_g (wl_lst (wa_cons (we_g (wl_lc (tg := (.nm 2)) rfl sc_law_pen.nd (wi_seq (we_l (wl_sl (we_var (pv 0)) wo_none (wo_some we_int)))) (blkOk_by (N := _) (sc := _) (own := [("cell", 2)]) (by first | rfl | decide +kernel)) (fun _ _ _ _ _ => (pg_name (i := 2) sc_law_pen.nd rfl (loc_by rfl))) (fun _ _ _ _ _ => (wp_one (wt_cmp w_ge (we_var (pv 2)) (we_op w_pow we_int we_int) (nomark _)))) (fun _ _ _ _ _ => (we_cgT w_int (by rfl) Z.g_int boot_int (wa_cons (we_var (pv 2)) wa_nil))))) (wa_cons (we_var (pv 1)) (wa_cons we_int (wa_cons we_int (wa_cons (we_var (pv 3)) (wa_cons (we_cgT w_int (by rfl) Z.g_int boot_int (wa_cons (we_op w_div (we_var (pv 1)) we_int) wa_nil)) wa_nil))))))))))))))
/-! Machine.__init__ -/
def t_Machine___init (cl : Str → Addr) : TSw := sSeq (sAsgG true (eVar 1) (gTp (gsCons (gFld (cl "Machine") "many" (eVar 0)) (gsCons (gFld (cl "Machine") "gates" (eVar 0)) (gsNil))) 2)) (sSeq (sFldW (cl "Machine") "times" (eVar 0) (eG (lOp rRepL (eL (aCons (eC .non) (aNil))) (eOp rAdd (eFld (cl "Machine") "many" (eVar 0)) (eCG rLen (aCons (eFld (cl "Machine") "gates" (eVar 0)) (aNil))))))) (sFldW (cl "Machine") "done" (eVar 0) (eC (.int 0))))
theorem sc_Machine___init : FnScope ["self", "network"] ["self", "network"] (defScope (inClass (top 15) 0)) := ⟨rfl, rfl, rfl, by decide +kernel, rfl, by decide +kernel, by decide +kernel⟩
theorem ok_Machine___init (Z : Fx K mg base) : ∃ fd : FuncData, FunD K "__init__" "Machine.__init__" (defArgs (inClass (top 15) 0)) (defBody (inClass (top 15) 0)) (defScope (inClass (top 15) 0)) [] [] (He.fAd K ("Machine", some "__init__")) fd ∧ FnOk P w K mg base (L2.CX P w) 1 (He.fAd K ("Machine", some "__init__")) fd ["self", "network"] (spF K (He.ga K) 2 (fnW 2 (t_Machine___init (He.ga K)))) := by
  obtain ⟨fd, F⟩ := Z.c.def_ 6 (d := d8) rfl
  refine ⟨fd, F, fn_w F sc_Machine___init rfl fun cdv A outer s H E c hr => ?_⟩
  exact (ws_cons (ws_setG (m := true) (ps_asg (we_var (pv 1)) (wg_tup rfl (wgs_cons (wg_fld (we_var (pv 0)) Z.c_Machine Z.n_Machine_many) (wgs_cons (wg_fld (we_var (pv 0)) Z.c_Machine Z.n_Machine_gates) wgs_nil)))))
      (ws_cons (ws_fld (we_var (pv 0)) (we_g (wl_op w_repL (we_l (wl_lst (wa_cons we_non wa_nil))) (we_op w_add (we_fld (we_var (pv 0)) Z.c_Machine Z.n_Machine_many rfl) (we_cgB w_len (by rfl) Z.g_len boot_len (wa_cons (we_fld (we_var (pv 0)) Z.c_Machine Z.n_Machine_gates rfl) wa_nil))))) Z.c_Machine Z.n_Machine_times rfl)
      (ws_one (ws_fld (we_var (pv 0)) we_int Z.c_Machine Z.n_Machine_done rfl))))
/-! is_whole -/
def t_is_whole (cl : Str → Addr) : TSw := sRet (eAnd (eCG rIsiW (aCons (eVar 0) (aCons (eC (.ty "int")) (aNil)))) (eNot (eCG rIsiW (aCons (eVar 0) (aCons (eC (.ty "bool")) (aNil))))))
theorem sc_is_whole : FnScope ["thing"] ["thing"] (defScope (top 6)) := ⟨rfl, rfl, rfl, by decide +kernel, rfl, by decide +kernel, by decide +kernel⟩
theorem ok_is_whole (Z : Fx K mg base) : ∃ fd : FuncData, FunD K "is_whole" "is_whole" (defArgs (top 6)) (defBody (top 6)) (defScope (top 6)) [] [] (He.fAd K ("is_whole", none)) fd ∧ FnOk P w K mg base (L2.CX P w) 1 (He.fAd K ("is_whole", none)) fd ["thing"] (spF K (He.ga K) 1 (fnW 1 (t_is_whole (He.ga K)))) := by
  obtain ⟨fd, F⟩ := Z.c.def_ 0 (d := d2) rfl
  refine ⟨fd, F, fn_w F sc_is_whole rfl fun cdv A outer s H E c hr => ?_⟩
  exact (ws_one (ws_ret (we_and (we_cgB w_isi (by rfl) Z.g_isinstance boot_isinstance (wa_cons (we_var (pv 0)) (wa_cons (we_ty (by rfl) Z.g_int boot_int) wa_nil))) (we_one (we_not (we_cgB w_isi (by rfl) Z.g_isinstance boot_isinstance (wa_cons (we_var (pv 0)) (wa_cons (we_ty (by rfl) Z.g_bool boot_bool) wa_nil))))))))
/-! is_number -/
def t_is_number (cl : Str → Addr) : TSw := sRet (eAnd (eCall (fnW 1 (t_is_whole cl)) (aCons (eVar 0) (aNil))) (eOp rGeI (eVar 0) (eC (.int 0))))
theorem sc_is_number : FnScope ["thing"] ["thing"] (defScope (top 7)) := ⟨rfl, rfl, rfl, by decide +kernel, rfl, by decide +kernel, by decide +kernel⟩
theorem ok_is_number (Z : Fx K mg base) : ∃ fd : FuncData, FunD K "is_number" "is_number" (defArgs (top 7)) (defBody (top 7)) (defScope (top 7)) [] [] (He.fAd K ("is_number", none)) fd ∧ FnOk P w K mg base (L2.CX P w) 2 (He.fAd K ("is_number", none)) fd ["thing"] (spF K (He.ga K) 1 (fnW 1 (t_is_number (He.ga K)))) := by
  obtain ⟨fd, F⟩ := Z.c.def_ 1 (d := d3) rfl
  obtain ⟨fd_is_whole, F_is_whole, O_is_whole⟩ := ok_is_whole (P := P) (w := w) Z
  have b_is_whole : Binds K fd_is_whole ["thing"] [] := F_is_whole.bindsN fun _ _ _ _ _ _ us hl => match us, hl with | [_], _ => rfl
  refine ⟨fd, F, fn_w F sc_is_number rfl fun cdv A outer s H E c hr => ?_⟩
  exact (ws_one (ws_ret (we_and (we_call O_is_whole (hr.mono (by decide)) (by rfl) Z.g_is_whole F_is_whole.kp b_is_whole (takes_of rfl rfl rfl rfl) (wa_cons (we_var (pv 0)) wa_nil)) (we_one (we_cmp w_ge (we_var (pv 0)) we_int (nomark _))))))
/-! is_below -/
def t_is_below (cl : Str → Addr) : TSw := sRet (eAnd (eCall (fnW 1 (t_is_number cl)) (aCons (eVar 0) (aNil))) (eOp rLtI (eVar 0) (eVar 1)))
theorem sc_is_below : FnScope ["thing", "most"] ["thing", "most"] (defScope (top 8)) := ⟨rfl, rfl, rfl, by decide +kernel, rfl, by decide +kernel, by decide +kernel⟩
theorem ok_is_below (Z : Fx K mg base) : ∃ fd : FuncData, FunD K "is_below" "is_below" (defArgs (top 8)) (defBody (top 8)) (defScope (top 8)) [] [] (He.fAd K ("is_below", none)) fd ∧ FnOk P w K mg base (L2.CX P w) 3 (He.fAd K ("is_below", none)) fd ["thing", "most"] (spF K (He.ga K) 2 (fnW 2 (t_is_below (He.ga K)))) := by
  obtain ⟨fd, F⟩ := Z.c.def_ 2 (d := d4) rfl
  obtain ⟨fd_is_number, F_is_number, O_is_number⟩ := ok_is_number (P := P) (w := w) Z
  have b_is_number : Binds K fd_is_number ["thing"] [] := F_is_number.bindsN fun _ _ _ _ _ _ us hl => match us, hl with | [_], _ => rfl
  refine ⟨fd, F, fn_w F sc_is_below rfl fun cdv A outer s H E c hr => ?_⟩
  exact (ws_one (ws_ret (we_and (we_call O_is_number (hr.mono (by decide)) (by rfl) Z.g_is_number F_is_number.kp b_is_number (takes_of rfl rfl rfl rfl) (wa_cons (we_var (pv 0)) wa_nil)) (we_one (we_cmp w_lt (we_var (pv 0)) (we_var (pv 1)) (nomark _))))))
/-! look_for_signal -/
def t_look_for_signal (cl : Str → Addr) : TSw := sIf (tNotW (tTst (eCall (fnW 2 (t_is_below cl)) (aCons (eVar 1) (aCons (eVar 0) (aNil)))))) (sNever) (sSkip)
theorem sc_look_for_signal : FnScope ["many", "signal"] ["many", "signal"] (defScope (top 10)) := ⟨rfl, rfl, rfl, by decide +kernel, rfl, by decide +kernel, by decide +kernel⟩
theorem ok_look_for_signal (Z : Fx K mg base) : ∃ fd : FuncData, FunD K "look_for_signal" "look_for_signal" (defArgs (top 10)) (defBody (top 10)) (defScope (top 10)) [] [] (He.fAd K ("look_for_signal", none)) fd ∧ FnOk P w K mg base (L2.CX P w) 4 (He.fAd K ("look_for_signal", none)) fd ["many", "signal"] (spF K (He.ga K) 2 (fnW 2 (t_look_for_signal (He.ga K)))) := by
  obtain ⟨fd, F⟩ := Z.c.def_ 3 (d := d5) rfl
  obtain ⟨fd_is_below, F_is_below, O_is_below⟩ := ok_is_below (P := P) (w := w) Z
  have b_is_below : Binds K fd_is_below ["thing", "most"] [] := F_is_below.bindsN fun _ _ _ _ _ _ us hl => match us, hl with | [_, _], _ => rfl
  refine ⟨fd, F, fn_w F sc_look_for_signal rfl fun cdv A outer s H E c hr => ?_⟩
  exact (ws_one (ws_if (wt_not (wt_val (we_call O_is_below (hr.mono (by decide)) (by rfl) Z.g_is_below F_is_below.kp b_is_below (takes_of rfl rfl rfl rfl) (wa_cons (we_var (pv 1)) (wa_cons (we_var (pv 0)) wa_nil))))) (ws_one ws_never) ws_nil))
/-! Machine.put -/
def t_Machine_put (cl : Str → Addr) : TSw := sSeq (sDrop (eCall (fnW 2 (t_look_for_signal cl)) (aCons (eFld (cl "Machine") "many" (eVar 0)) (aCons (eVar 1) (aNil))))) (sSeq (sIf (tTst (eOp rNotN (eIx rItem (eFld (cl "Machine") "times" (eVar 0)) (eVar 1)) (eC .non))) (sNever) (sSkip)) (sAsgG true (eFld (cl "Machine") "done" (eVar 0)) (gSubG (eFld (cl "Machine") "times" (eVar 0)) (eVar 1))))
theorem sc_Machine_put : FnScope ["self", "signal"] ["self", "signal"] (defScope (inClass (top 15) 1)) := ⟨rfl, rfl, rfl, by decide +kernel, rfl, by decide +kernel, by decide +kernel⟩
theorem ok_Machine_put (Z : Fx K mg base) : ∃ fd : FuncData, FunD K "put" "Machine.put" (defArgs (inClass (top 15) 1)) (defBody (inClass (top 15) 1)) (defScope (inClass (top 15) 1)) [] [] (He.fAd K ("Machine", some "put")) fd ∧ FnOk P w K mg base (L2.CX P w) 5 (He.fAd K ("Machine", some "put")) fd ["self", "signal"] (spF K (He.ga K) 2 (fnW 2 (t_Machine_put (He.ga K)))) := by
  obtain ⟨fd, F⟩ := Z.c.def_ 7 (d := d9) rfl
  obtain ⟨fd_look_for_signal, F_look_for_signal, O_look_for_signal⟩ := ok_look_for_signal (P := P) (w := w) Z
  have b_look_for_signal : Binds K fd_look_for_signal ["many", "signal"] [] := F_look_for_signal.bindsN fun _ _ _ _ _ _ us hl => match us, hl with | [_, _], _ => rfl
  refine ⟨fd, F, fn_w F sc_Machine_put rfl fun cdv A outer s H E c hr => ?_⟩
  exact (ws_cons (ws_drop (we_call O_look_for_signal (hr.mono (by decide)) (by rfl) Z.g_look_for_signal F_look_for_signal.kp b_look_for_signal (takes_of rfl rfl rfl rfl) (wa_cons (we_fld (we_var (pv 0)) Z.c_Machine Z.n_Machine_many rfl) (wa_cons (we_var (pv 1)) wa_nil))))
      (ws_cons (ws_if (wt_cmp w_notN (we_ixg w_item (we_fld (we_var (pv 0)) Z.c_Machine Z.n_Machine_times rfl) (we_var (pv 1)) plain_ix) we_non (nomark _)) (ws_one ws_never) ws_nil)
      (ws_one (ws_setG (m := true) (ps_asg (we_fld (we_var (pv 0)) Z.c_Machine Z.n_Machine_done rfl) (wg_subG (we_fld (we_var (pv 0)) Z.c_Machine Z.n_Machine_times rfl) (we_var (pv 1))))))))
/-! time_by -/
def t_time_by (cl : Str → Addr) : TSw := sSeq (sAsgT true (.tp [2, 3, 4]) (eVar 0)) (sSeq (sAsgL true 6 (lComp (.nm 5) [5] (iW (eVar 3)) (tTst (eOp rNotN (eIx rItem (eVar 1) (eVar 5)) (eC .non))) (eIx rItem (eVar 1) (eVar 5)))) (sSeq (sIf (tOrW (tTst (eOp rEqW (eCG rLen (aCons (eVar 6) (aNil))) (eC (.int 0)))) (tAndW (tTst (eOp rEqW (eVar 2) (eC (.str "last")))) (tTst (eOp rLtI (eCG rLen (aCons (eVar 6) (aNil))) (eCG rLen (aCons (eVar 3) (aNil))))))) (sRet (eC .non)) (sSkip)) (sRet (eOp rAdd (eVar 4) (eIf (tTst (eOp rEqW (eVar 2) (eC (.str "first")))) (eCG rMinW (aCons (eVar 6) (aNil))) (eCG rMaxW (aCons (eVar 6) (aNil))))))))
theorem sc_time_by : FnScope ["gate", "came", "word", "operands", "delay", "number", "times"] ["gate", "came"] (defScope (top 12)) := ⟨rfl, rfl, rfl, by decide +kernel, rfl, by decide +kernel, by decide +kernel⟩
theorem ok_time_by (Z : Fx K mg base) : ∃ fd : FuncData, FunD K "time_by" "time_by" (defArgs (top 12)) (defBody (top 12)) (defScope (top 12)) [] [] (He.fAd K ("time_by", none)) fd ∧ FnOk P w K mg base (L2.CX P w) 1 (He.fAd K ("time_by", none)) fd ["gate", "came"] (spF K (He.ga K) 2 (fnW 7 (t_time_by (He.ga K)))) := by
  obtain ⟨fd, F⟩ := Z.c.def_ 4 (d := d6) rfl
  refine ⟨fd, F, fn_w F sc_time_by rfl fun cdv A outer s H E c hr => ?_⟩
  exact (ws_cons (ws_setT (m := true) (tg := (.tp [2, 3, 4])) (ps_asg (we_var (pv 0)) (pg_tup rfl (pgs_cons (pg_name (i := 2) sc_time_by.nd rfl (loc_by rfl)) (pgs_cons (pg_name (i := 3) sc_time_by.nd rfl (loc_by rfl)) (pgs_cons (pg_name (i := 4) sc_time_by.nd rfl (loc_by rfl)) pgs_nil))))))
      (ws_cons (ws_setLc (tg := (.nm 5)) (m := true) (i := 6) rfl sc_time_by.nd rfl rfl (sw_true rfl rfl rfl (by decide +kernel)) (wi_seq (we_var (pv 3))) (blkOk_by (N := _) (sc := _) (own := [("number", 5)]) (by first | rfl | decide +kernel)) (fun _ _ _ _ _ => (pg_name (i := 5) sc_time_by.nd rfl (loc_by rfl))) (fun _ _ _ _ _ => (wp_one (wt_cmp w_notN (we_ixg w_item (we_var (pv 1)) (we_var (pv 5)) plain_ix) we_non (nomark _)))) (fun _ _ _ _ _ => (we_ixg w_item (we_var (pv 1)) (we_var (pv 5)) plain_ix)))
      (ws_cons (ws_if (wt_pw (ww_or (wt_cmp (w_eq hr.units) (we_cgB w_len (by rfl) Z.g_len boot_len (wa_cons (we_var (pv 6)) wa_nil)) we_int (nomark _)) (ww_or1 (wt_pw (ww_and (wt_cmp (w_eq hr.units) (we_var (pv 2)) we_str (nomark _)) (ww_and1 (wt_cmp w_lt (we_cgB w_len (by rfl) Z.g_len boot_len (wa_cons (we_var (pv 6)) wa_nil)) (we_cgB w_len (by rfl) Z.g_len boot_len (wa_cons (we_var (pv 3)) wa_nil)) (nomark _)))))))) (ws_one (ws_ret we_non)) ws_nil)
      (ws_one (ws_ret (we_op w_add (we_var (pv 4)) (we_if (wt_cmp (w_eq hr.units) (we_var (pv 2)) we_str (nomark _)) (we_cgB (w_min rfl) (by rfl) Z.g_min boot_min (wa_cons (we_var (pv 6)) wa_nil)) (we_cgB (w_max rfl) (by rfl) Z.g_max boot_max (wa_cons (we_var (pv 6)) wa_nil)))))))))
/-! Machine.step -/
def t_Machine_step (cl : Str → Addr) : TSw := sSeq (sAsgL true 1 (aNil)) (sSeq (sAsg true 2 (eC (.bl true))) (sSeq (sWhile (tTruG (eVar 2)) (sSeq (sAsg true 2 (eC (.bl false))) (sFor false (.nm 3) (iR1 (aCons (eCG rLen (aCons (eFld (cl "Machine") "gates" (eVar 0)) (aNil))) (aNil))) (sIf (tAndW (tTst (eOp rIsN (eIx rItem (eFld (cl "Machine") "times" (eVar 0)) (eOp rAdd (eFld (cl "Machine") "many" (eVar 0)) (eVar 3))) (eC .non))) (tTst (eOp rEqW (eCall (fnW 7 (t_time_by cl)) (aCons (eIx rItem (eFld (cl "Machine") "gates" (eVar 0)) (eVar 3)) (aCons (eFld (cl "Machine") "times" (eVar 0)) (aNil)))) (eFld (cl "Machine") "done" (eVar 0))))) (sSeq (sAsgG true (eFld (cl "Machine") "done" (eVar 0)) (gSubG (eFld (cl "Machine") "times" (eVar 0)) (eOp rAdd (eFld (cl "Machine") "many" (eVar 0)) (eVar 3)))) (sSeq (sDropM (mOwn true 1 mAppend (aCons (eVar 3) (aNil)))) (sAsg true 2 (eC (.bl true))))) (sSkip))))) (sSeq (sFldAugW (cl "Machine") "done" rAddI (eVar 0) (eC (.int 1))) (sRet (eCG rTupOf (aCons (eL (lCG rSortI (aCons (eVar 1) (aNil)))) (aNil)))))))
theorem sc_Machine_step : FnScope ["self", "found", "more", "at"] ["self"] (defScope (inClass (top 15) 2)) := ⟨rfl, rfl, rfl, by decide +kernel, rfl, by decide +kernel, by decide +kernel⟩
theorem ok_Machine_step (Z : Fx K mg base) : ∃ fd : FuncData, FunD K "step" "Machine.step" (defArgs (inClass (top 15) 2)) (defBody (inClass (top 15) 2)) (defScope (inClass (top 15) 2)) [] [] (He.fAd K ("Machine", some "step")) fd ∧ FnOk P w K mg base (L2.CX P w) 2 (He.fAd K ("Machine", some "step")) fd ["self"] (spF K (He.ga K) 1 (fnW 4 (t_Machine_step (He.ga K)))) := by
  obtain ⟨fd, F⟩ := Z.c.def_ 8 (d := d10) rfl
  obtain ⟨fd_time_by, F_time_by, O_time_by⟩ := ok_time_by (P := P) (w := w) Z
  have b_time_by : Binds K fd_time_by ["gate", "came"] [] := F_time_by.bindsN fun _ _ _ _ _ _ us hl => match us, hl with | [_, _], _ => rfl
  refine ⟨fd, F, fn_w F sc_Machine_step rfl fun cdv A outer s H E c hr => ?_⟩
  exact (ws_cons (ws_setL (m := true) (i := 1) (ps_asg (wl_lst wa_nil) (pg_name (i := 1) sc_Machine_step.nd rfl (loc_by rfl))))
      (ws_cons (ws_set (m := true) (i := 2) (ps_asg we_bl (pg_name (i := 2) sc_Machine_step.nd rfl (loc_by rfl))))
      (ws_cons (ws_while (passes_of rfl) (wt_truG (we_var (pv 2))) (ws_cons (ws_set (m := true) (i := 2) (ps_asg we_bl (pg_name (i := 2) sc_Machine_step.nd rfl (loc_by rfl))))
      (ws_one (ws_forR (passes_of rfl) rfl (wr_range1 (by rfl) Z.g_range (wa_cons (we_cgB w_len (by rfl) Z.g_len boot_len (wa_cons (we_fld (we_var (pv 0)) Z.c_Machine Z.n_Machine_gates rfl) wa_nil)) wa_nil)) (pg_name (i := 3) sc_Machine_step.nd rfl (loc_by rfl)) (fun _ => (ws_one (ws_if (wt_pw (ww_and (wt_cmp w_isN (we_ixg w_item (we_fld (we_var (pv 0)) Z.c_Machine Z.n_Machine_times rfl) (we_op w_add (we_fld (we_var (pv 0)) Z.c_Machine Z.n_Machine_many rfl) (we_var (pv 3))) plain_ix) we_non (nomark _)) (ww_and1 (wt_cmp (w_eq hr.units) (we_call O_time_by (hr.mono (by decide)) (by rfl) Z.g_time_by F_time_by.kp b_time_by (takes_of rfl rfl rfl rfl) (wa_cons (we_ixg w_item (we_fld (we_var (pv 0)) Z.c_Machine Z.n_Machine_gates rfl) (we_var (pv 3)) plain_ix) (wa_cons (we_fld (we_var (pv 0)) Z.c_Machine Z.n_Machine_times rfl) wa_nil))) (we_fld (we_var (pv 0)) Z.c_Machine Z.n_Machine_done rfl) (nomark _))))) (ws_cons (ws_setG (m := true) (ps_asg (we_fld (we_var (pv 0)) Z.c_Machine Z.n_Machine_done rfl) (wg_subG (we_fld (we_var (pv 0)) Z.c_Machine Z.n_Machine_times rfl) (we_op w_add (we_fld (we_var (pv 0)) Z.c_Machine Z.n_Machine_many rfl) (we_var (pv 3))))))
      (ws_cons (ws_dropM (wm_own o_append (pe_bm PySem.F.plainAttrs_list PySem.F.slot_list_append PySem.F.type_list_append mt_append (pv 1) (wa_cons (we_var (pv 3)) wa_nil))))
      (ws_one (ws_set (m := true) (i := 2) (ps_asg we_bl (pg_name (i := 2) sc_Machine_step.nd rfl (loc_by rfl))))))) ws_nil)))))))
      (ws_cons (ws_fldaug (we_var (pv 0)) we_int Z.c_Machine Z.n_Machine_done in_add o_addI)
      (ws_one (ws_ret (we_cgT w_tupOf (by rfl) Z.g_tuple boot_tuple (wa_cons (we_l (wl_cgB w_sortI (by rfl) Z.g_sorted boot_sorted (wa_cons (we_var (pv 1)) wa_nil))) wa_nil))))))))
/-! coming_rows -/
def t_coming_rows (cl : Str → Addr) : TSw := sSeq (sAsg true 3 (eMake (cl "Machine") (fnW 2 (t_Machine___init cl)) (aCons (eVar 0) (aNil)))) (sSeq (sAsgL true 4 (aNil)) (sSeq (sFor false (.nm 5) (iR1 (aCons (eVar 2) (aNil))) (sSeq (sFor false (.nm 6) (iR1 (aCons (eIx rItem (eVar 0) (eC (.int 0))) (aNil))) (sIf (tTst (eOp rEqW (eIx rItem (eVar 1) (eVar 6)) (eVar 5))) (sDrop (eMeth (cl "Machine") "put" (fnW 2 (t_Machine_put cl)) (eVar 3) (aCons (eVar 6) (aNil)))) (sSkip))) (sDropM (mOwn true 4 mAppend (aCons (eMeth (cl "Machine") "step" (fnW 4 (t_Machine_step cl)) (eVar 3) aNil) (aNil)))))) (sRet (eCG rTupOf (aCons (eVar 4) (aNil))))))
theorem sc_coming_rows : FnScope ["network", "times", "steps", "machine", "rows", "step", "signal"] ["network", "times", "steps"] (defScope (top 17)) := ⟨rfl, rfl, rfl, by decide +kernel, rfl, by decide +kernel, by decide +kernel⟩
theorem ok_coming_rows (Z : Fx K mg base) : ∃ fd : FuncData, FunD K "coming_rows" "coming_rows" (defArgs (top 17)) (defBody (top 17)) (defScope (top 17)) [] [] (He.fAd K ("coming_rows", none)) fd ∧ FnOk P w K mg base (L2.CX P w) 6 (He.fAd K ("coming_rows", none)) fd ["network", "times", "steps"] (spF K (He.ga K) 3 (fnW 7 (t_coming_rows (He.ga K)))) := by
  obtain ⟨fd, F⟩ := Z.c.def_ 10 (d := d14) rfl
  obtain ⟨fd_Machine___init, F_Machine___init, O_Machine___init⟩ := ok_Machine___init (P := P) (w := w) Z
  have b_Machine___init : Binds K fd_Machine___init ["self", "network"] [] := F_Machine___init.bindsN fun _ _ _ _ _ _ us hl => match us, hl with | [_, _], _ => rfl
  obtain ⟨fd_Machine_put, F_Machine_put, O_Machine_put⟩ := ok_Machine_put (P := P) (w := w) Z
  have b_Machine_put : Binds K fd_Machine_put ["self", "signal"] [] := F_Machine_put.bindsN fun _ _ _ _ _ _ us hl => match us, hl with | [_, _], _ => rfl
  obtain ⟨fd_Machine_step, F_Machine_step, O_Machine_step⟩ := ok_Machine_step (P := P) (w := w) Z
  have b_Machine_step : Binds K fd_Machine_step ["self"] [] := F_Machine_step.bindsN fun _ _ _ _ _ _ us hl => match us, hl with | [_], _ => rfl
  refine ⟨fd, F, fn_w F sc_coming_rows rfl fun cdv A outer s H E c hr => ?_⟩
  exact (ws_cons (ws_set (m := true) (i := 3) (ps_asg (we_make (pe_make Z.k_Machine O_Machine___init (hr.mono (by decide)) (by rfl) Z.g_Machine b_Machine___init .nil pass00 (wa_cons (we_var (pv 0)) wa_nil))) (pg_name (i := 3) sc_coming_rows.nd rfl (loc_by rfl))))
      (ws_cons (ws_setL (m := true) (i := 4) (ps_asg (wl_lst wa_nil) (pg_name (i := 4) sc_coming_rows.nd rfl (loc_by rfl))))
      (ws_cons (ws_forR (passes_of rfl) rfl (wr_range1 (by rfl) Z.g_range (wa_cons (we_var (pv 2)) wa_nil)) (pg_name (i := 5) sc_coming_rows.nd rfl (loc_by rfl)) (fun _ => (ws_cons (ws_forR (passes_of rfl) rfl (wr_range1 (by rfl) Z.g_range (wa_cons (we_ixg w_item (we_var (pv 0)) we_int plain_ix) wa_nil)) (pg_name (i := 6) sc_coming_rows.nd rfl (loc_by rfl)) (fun _ => (ws_one (ws_if (wt_cmp (w_eq hr.units) (we_ixg w_item (we_var (pv 1)) (we_var (pv 6)) plain_ix) (we_var (pv 5)) (nomark _)) (ws_one (ws_drop (we_meth (pe_methS (we_var (pv 3)) Z.c_Machine Z.m_Machine_put O_Machine_put (hr.mono (by decide)) b_Machine_put (fun _ => passAt (takes_of rfl rfl rfl rfl) _) (wa_cons (we_var (pv 6)) wa_nil))))) ws_nil))))
      (ws_one (ws_dropM (wm_own o_append (pe_bm PySem.F.plainAttrs_list PySem.F.slot_list_append PySem.F.type_list_append mt_append (pv 4) (wa_cons (we_meth0 (pe_methS0 (we_var (pv 3)) Z.c_Machine Z.m_Machine_step O_Machine_step (hr.mono (by decide)) b_Machine_step (fun _ => passAt (takes_of rfl rfl rfl rfl) _))) wa_nil))))))))
      (ws_one (ws_ret (we_cgT w_tupOf (by rfl) Z.g_tuple boot_tuple (wa_cons (we_var (pv 4)) wa_nil)))))))
/-! run_steps -/
def t_run_steps (cl : Str → Addr) : TSw := sSeq (sAsgL true 3 (lOp rRepL (eL (aCons (eC .non) (aNil))) (eCG rLen (aCons (eIx rItem (eVar 0) (eC (.int 1))) (aNil))))) (sSeq (sAsg true 4 (eCall (fnW 7 (t_coming_rows cl)) (aCons (eVar 0) (aCons (eVar 1) (aCons (eVar 2) (aNil)))))) (sSeq (sFor false (.nm 5) (iR1 (aCons (eVar 2) (aNil))) (sFor true (.nm 6) (iW (eIx rItem (eVar 4) (eVar 5))) (sAsgG true (eVar 5) (gSubO 3 (eVar 6))))) (sRet (eCG rTupOf (aCons (eVar 3) (aNil))))))
theorem sc_run_steps : FnScope ["network", "times", "steps", "told", "rows", "step", "gate"] ["network", "times", "steps"] (defScope (top 18)) := ⟨rfl, rfl, rfl, by decide +kernel, rfl, by decide +kernel, by decide +kernel⟩
theorem ok_run_steps (Z : Fx K mg base) : ∃ fd : FuncData, FunD K "run_steps" "run_steps" (defArgs (top 18)) (defBody (top 18)) (defScope (top 18)) [] [] (He.fAd K ("run_steps", none)) fd ∧ FnOk P w K mg base (L2.CX P w) 7 (He.fAd K ("run_steps", none)) fd ["network", "times", "steps"] (spF K (He.ga K) 3 (fnW 7 (t_run_steps (He.ga K)))) := by
  obtain ⟨fd, F⟩ := Z.c.def_ 11 (d := d15) rfl
  obtain ⟨fd_coming_rows, F_coming_rows, O_coming_rows⟩ := ok_coming_rows (P := P) (w := w) Z
  have b_coming_rows : Binds K fd_coming_rows ["network", "times", "steps"] [] := F_coming_rows.bindsN fun _ _ _ _ _ _ us hl => match us, hl with | [_, _, _], _ => rfl
  refine ⟨fd, F, fn_w F sc_run_steps rfl fun cdv A outer s H E c hr => ?_⟩
  exact (ws_cons (ws_setL (m := true) (i := 3) (ps_asg (wl_op w_repL (we_l (wl_lst (wa_cons we_non wa_nil))) (we_cgB w_len (by rfl) Z.g_len boot_len (wa_cons (we_ixg w_item (we_var (pv 0)) we_int plain_ix) wa_nil))) (pg_name (i := 3) sc_run_steps.nd rfl (loc_by rfl))))
      (ws_cons (ws_set (m := true) (i := 4) (ps_asg (we_call O_coming_rows (hr.mono (by decide)) (by rfl) Z.g_coming_rows F_coming_rows.kp b_coming_rows (takes_of rfl rfl rfl rfl) (wa_cons (we_var (pv 0)) (wa_cons (we_var (pv 1)) (wa_cons (we_var (pv 2)) wa_nil)))) (pg_name (i := 4) sc_run_steps.nd rfl (loc_by rfl))))
      (ws_cons (ws_forR (passes_of rfl) rfl (wr_range1 (by rfl) Z.g_range (wa_cons (we_var (pv 2)) wa_nil)) (pg_name (i := 5) sc_run_steps.nd rfl (loc_by rfl)) (fun _ => (ws_one (ws_for (tg := (.nm 6)) (passes_of rfl) rfl (wi_seq (we_ixg w_item (we_var (pv 4)) (we_var (pv 5)) plain_ix)) (pg_name (i := 6) sc_run_steps.nd rfl (loc_by rfl)) (fun _ => (ws_one (ws_setG (m := true) (ps_asg (we_var (pv 5)) (wg_subO (pv 3) (we_var (pv 6)))))))))))
      (ws_one (ws_ret (we_cgT w_tupOf (by rfl) Z.g_tuple boot_tuple (wa_cons (we_var (pv 3)) wa_nil)))))))
/-! comes -/
def t_comes (cl : Str → Addr) : TSw := sSeq (sAsgT true (.tp [2, 3]) (eVar 0)) (sSeq (sAsgL true 4 (lOp rCatL (eL (lCG rLstOf (aCons (eVar 1) (aNil)))) (eL (lOp rRepL (eL (aCons (eC .non) (aNil))) (eCG rLen (aCons (eVar 3) (aNil))))))) (sSeq (sAsgL true 5 (aR1 (eCG rLen (aCons (eVar 3) (aNil))))) (sSeq (sWhile (tTst (eOp rGtI (eCG rLen (aCons (eVar 5) (aNil))) (eC (.int 0)))) (sSeq (sAsgL false 7 (lComp (.nm 6) [6] (iW (eVar 5)) (tYesW) (eTup (aCons (eCall (fnW 7 (t_time_by cl)) (aCons (eIx rItem (eVar 3) (eVar 6)) (aCons (eVar 4) (aNil)))) (aCons (eVar 6) (aNil)))))) (sSeq (sAsgL false 9 (lComp (.nm 8) [8] (iW (eVar 7)) (tTst (eOp rNotN (eIx rItem (eVar 8) (eC (.int 0))) (eC .non))) (eVar 8))) (sSeq (sIf (tTst (eOp rEqW (eCG rLen (aCons (eVar 9) (aNil))) (eC (.int 0)))) (sBrk) (sSkip)) (sSeq (sAsgT false (.tp [10, 6]) (eCG rMinT (aCons (eVar 9) (aNil)))) (sSeq (sAsgG true (eVar 10) (gSubO 4 (eOp rAdd (eVar 2) (eVar 6)))) (sDropM (mOwn true 5 mRemI (aCons (eVar 6) (aNil)))))))))) (sRet (eCG rTupOf (aCons (eL (lSl (eVar 4) (oSome (eVar 2)) (oNone))) (aNil)))))))
theorem sc_comes : FnScope ["network", "times", "many", "gates", "came", "left", "at", "told", "pair", "known", "time"] ["network", "times"] (defScope (top 13)) := ⟨rfl, rfl, rfl, by decide +kernel, rfl, by decide +kernel, by decide +kernel⟩
theorem ok_comes (Z : Fx K mg base) : ∃ fd : FuncData, FunD K "comes" "comes" (defArgs (top 13)) (defBody (top 13)) (defScope (top 13)) [] [] (He.fAd K ("comes", none)) fd ∧ FnOk P w K mg base (L2.CX P w) 2 (He.fAd K ("comes", none)) fd ["network", "times"] (spF K (He.ga K) 2 (fnW 11 (t_comes (He.ga K)))) := by
  obtain ⟨fd, F⟩ := Z.c.def_ 5 (d := d7) rfl
  obtain ⟨fd_time_by, F_time_by, O_time_by⟩ := ok_time_by (P := P) (w := w) Z
  have b_time_by : Binds K fd_time_by ["gate", "came"] [] := F_time_by.bindsN fun _ _ _ _ _ _ us hl => match us, hl with | [_, _], _ => rfl
  refine ⟨fd, F, fn_w F sc_comes rfl fun cdv A outer s H E c hr => ?_⟩
  exact (ws_cons (ws_setT (m := true) (tg := (.tp [2, 3])) (ps_asg (we_var (pv 0)) (pg_tup rfl (pgs_cons (pg_name (i := 2) sc_comes.nd rfl (loc_by rfl)) (pgs_cons (pg_name (i := 3) sc_comes.nd rfl (loc_by rfl)) pgs_nil)))))
      (ws_cons (ws_setL (m := true) (i := 4) (ps_asg (wl_op w_catL (we_l (wl_cgT w_lstOf (by rfl) Z.g_list boot_list (wa_cons (we_var (pv 1)) wa_nil))) (we_l (wl_op w_repL (we_l (wl_lst (wa_cons we_non wa_nil))) (we_cgB w_len (by rfl) Z.g_len boot_len (wa_cons (we_var (pv 3)) wa_nil))))) (pg_name (i := 4) sc_comes.nd rfl (loc_by rfl))))
      (ws_cons (ws_setL (m := true) (i := 5) (ps_asg (wl_lstR1 rfl (by rfl) Z.g_list (by rfl) Z.g_range (we_cgB w_len (by rfl) Z.g_len boot_len (wa_cons (we_var (pv 3)) wa_nil))) (pg_name (i := 5) sc_comes.nd rfl (loc_by rfl))))
      (ws_cons (ws_while (passes_of rfl) (wt_cmp w_gt (we_cgB w_len (by rfl) Z.g_len boot_len (wa_cons (we_var (pv 5)) wa_nil)) we_int (nomark _)) (ws_cons (ws_setLc (tg := (.nm 6)) (m := false) (i := 7) rfl sc_comes.nd rfl rfl (sw_true rfl rfl rfl (by decide +kernel)) (wi_seq (we_var (pv 5))) (blkOk_by (N := _) (sc := _) (own := [("at", 6)]) (by first | rfl | decide +kernel)) (fun _ _ _ _ _ => (pg_name (i := 6) sc_comes.nd rfl (loc_by rfl))) (fun _ _ _ _ _ => wp_nil) (fun _ _ _ _ _ => (we_tup (wa_cons (we_call O_time_by (hr.mono (by decide)) (by rfl) Z.g_time_by F_time_by.kp b_time_by takes_blk (wa_cons (we_ixg w_item (we_var (pv 3)) (we_var (pv 6)) plain_ix) (wa_cons (we_var (pv 4)) wa_nil))) (wa_cons (we_var (pv 6)) wa_nil)))))
      (ws_cons (ws_setLc (tg := (.nm 8)) (m := false) (i := 9) rfl sc_comes.nd rfl rfl (sw_true rfl rfl rfl (by decide +kernel)) (wi_seq (we_var (pv 7))) (blkOk_by (N := _) (sc := _) (own := [("pair", 8)]) (by first | rfl | decide +kernel)) (fun _ _ _ _ _ => (pg_name (i := 8) sc_comes.nd rfl (loc_by rfl))) (fun _ _ _ _ _ => (wp_one (wt_cmp w_notN (we_ixg w_item (we_var (pv 8)) we_int plain_ix) we_non (nomark _)))) (fun _ _ _ _ _ => (we_var (pv 8))))
      (ws_cons (ws_if (wt_cmp (w_eq hr.units) (we_cgB w_len (by rfl) Z.g_len boot_len (wa_cons (we_var (pv 9)) wa_nil)) we_int (nomark _)) (ws_one ws_break) ws_nil)
      (ws_cons (ws_setT (m := false) (tg := (.tp [10, 6])) (ps_asg (we_cgB (w_minT rfl hr.units) (by rfl) Z.g_min boot_min (wa_cons (we_var (pv 9)) wa_nil)) (pg_tup rfl (pgs_cons (pg_name (i := 10) sc_comes.nd rfl (loc_by rfl)) (pgs_cons (pg_name (i := 6) sc_comes.nd rfl (loc_by rfl)) pgs_nil)))))
      (ws_cons (ws_setG (m := true) (ps_asg (we_var (pv 10)) (wg_subO (pv 4) (we_op w_add (we_var (pv 2)) (we_var (pv 6))))))
      (ws_one (ws_dropM (wm_own o_remI (pe_bm PySem.F.plainAttrs_list PySem.F.slot_list_remove PySem.F.type_list_remove mt_remove (pv 5) (wa_cons (we_var (pv 6)) wa_nil)))))))))))
      (ws_one (ws_ret (we_cgT w_tupOf (by rfl) Z.g_tuple boot_tuple (wa_cons (we_l (wl_sl (we_var (pv 4)) (wo_some (we_var (pv 2))) wo_none)) wa_nil))))))))
/-! quiet_behind -/
def t_quiet_behind (cl : Str → Addr) : TSw := sSeq (sAsgL true 3 (lComp (.nm 2) [2] (iW (eOp rAdd (eVar 1) (eCall (fnW 11 (t_comes cl)) (aCons (eVar 0) (aCons (eVar 1) (aNil)))))) (tTst (eOp rNotN (eVar 2) (eC .non))) (eVar 2))) (sRet (eIf (tTst (eOp rGtI (eCG rLen (aCons (eVar 3) (aNil))) (eC (.int 0)))) (eOp rAdd (eCG rMaxW (aCons (eVar 3) (aNil))) (eC (.int 1))) (eC (.int 0))))
theorem sc_quiet_behind : FnScope ["network", "times", "time", "told"] ["network", "times"] (defScope (top 19)) := ⟨rfl, rfl, rfl, by decide +kernel, rfl, by decide +kernel, by decide +kernel⟩
theorem ok_quiet_behind (Z : Fx K mg base) : ∃ fd : FuncData, FunD K "quiet_behind" "quiet_behind" (defArgs (top 19)) (defBody (top 19)) (defScope (top 19)) [] [] (He.fAd K ("quiet_behind", none)) fd ∧ FnOk P w K mg base (L2.CX P w) 3 (He.fAd K ("quiet_behind", none)) fd ["network", "times"] (spF K (He.ga K) 2 (fnW 4 (t_quiet_behind (He.ga K)))) := by
  obtain ⟨fd, F⟩ := Z.c.def_ 12 (d := d16) rfl
  obtain ⟨fd_comes, F_comes, O_comes⟩ := ok_comes (P := P) (w := w) Z
  have b_comes : Binds K fd_comes ["network", "times"] [] := F_comes.bindsN fun _ _ _ _ _ _ us hl => match us, hl with | [_, _], _ => rfl
  refine ⟨fd, F, fn_w F sc_quiet_behind rfl fun cdv A outer s H E c hr => ?_⟩
  exact (ws_cons (ws_setLc (tg := (.nm 2)) (m := true) (i := 3) rfl sc_quiet_behind.nd rfl rfl (sw_true rfl rfl rfl (by decide +kernel)) (wi_seq (we_op w_add (we_var (pv 1)) (we_call O_comes (hr.mono (by decide)) (by rfl) Z.g_comes F_comes.kp b_comes (takes_of rfl rfl rfl rfl) (wa_cons (we_var (pv 0)) (wa_cons (we_var (pv 1)) wa_nil))))) (blkOk_by (N := _) (sc := _) (own := [("time", 2)]) (by first | rfl | decide +kernel)) (fun _ _ _ _ _ => (pg_name (i := 2) sc_quiet_behind.nd rfl (loc_by rfl))) (fun _ _ _ _ _ => (wp_one (wt_cmp w_notN (we_var (pv 2)) we_non (nomark _)))) (fun _ _ _ _ _ => (we_var (pv 2))))
      (ws_one (ws_ret (we_if (wt_cmp w_gt (we_cgB w_len (by rfl) Z.g_len boot_len (wa_cons (we_var (pv 3)) wa_nil)) we_int (nomark _)) (we_op w_add (we_cgB (w_max rfl) (by rfl) Z.g_max boot_max (wa_cons (we_var (pv 3)) wa_nil)) we_int) we_int))))
/-! _law_same -/
def t_law_same (cl : Str → Addr) : TSw := sSeq (sAsgL true 2 (aCons (eTup (aCons (eVar 0) (aCons (eVar 1) (aNil)))) (aNil))) (sSeq (sWhile (tTruG (eVar 2)) (sSeq (sAsgM (.tp [3, 4]) (mOwn true 2 mPop aNil)) (sIf (tTst (eOp rIsN (eVar 4) (eC .non))) (sIf (tTst (eOp rNotN (eVar 3) (eC .non))) (sRet (eC (.bl false))) (sSkip)) (sIf (tTst (eCG rIsiW (aCons (eVar 4) (aCons (eC (.ty "bool")) (aNil))))) (sIf (tOrW (tNotW (tTst (eCG rIsiW (aCons (eVar 3) (aCons (eC (.ty "bool")) (aNil)))))) (tTst (eOp rNeW (eVar 3) (eVar 4)))) (sRet (eC (.bl false))) (sSkip)) (sIf (tTst (eCG rIsiW (aCons (eVar 4) (aCons (eC (.ty "int")) (aNil))))) (sIf (tOrW (tNotW (tTst (eCG rIsiW (aCons (eVar 3) (aCons (eC (.ty "int")) (aNil)))))) (tOrW (tTst (eCG rIsiW (aCons (eVar 3) (aCons (eC (.ty "bool")) (aNil))))) (tTst (eOp rNeW (eVar 3) (eVar 4))))) (sRet (eC (.bl false))) (sSkip)) (sIf (tTst (eCG rIsiW (aCons (eVar 4) (aCons (eC (.ty "str")) (aNil))))) (sIf (tOrW (tNotW (tTst (eCG rIsiW (aCons (eVar 3) (aCons (eC (.ty "str")) (aNil)))))) (tTst (eOp rNeW (eVar 3) (eVar 4)))) (sRet (eC (.bl false))) (sSkip)) (sSeq (sIf (tAndW (tTst (eCG rIsiW (aCons (eVar 4) (aCons (eC (.ty "list")) (aNil))))) (tNotW (tTst (eCG rIsiW (aCons (eVar 3) (aCons (eC (.ty "list")) (aNil))))))) (sRet (eC (.bl false))) (sSkip)) (sSeq (sIf (tAndW (tTst (eCG rIsiW (aCons (eVar 4) (aCons (eC (.ty "tuple")) (aNil))))) (tNotW (tTst (eCG rIsiW (aCons (eVar 3) (aCons (eC (.ty "tuple")) (aNil))))))) (sRet (eC (.bl false))) (sSkip)) (sSeq (sIf (tTst (eOp rNeW (eCG rLen (aCons (eVar 3) (aNil))) (eCG rLen (aCons (eVar 4) (aNil))))) (sRet (eC (.bl false))) (sSkip)) (sDropM (mExtL true 2 (lComp (.nm 5) [5] (iR1 (aCons (eCG rLen (aCons (eVar 4) (aNil))) (aNil))) (tYesW) (eTup (aCons (eIx rItem (eVar 3) (eVar 5)) (aCons (eIx rItem (eVar 4) (eVar 5)) (aNil)))))))))))))))) (sRet (eC (.bl true))))
theorem sc_law_same : FnScope ["told", "due", "waiting", "one", "other", "at"] ["told", "due"] (defScope (top 25)) := ⟨rfl, rfl, rfl, by decide +kernel, rfl, by decide +kernel, by decide +kernel⟩
theorem ok_law_same (Z : Fx K mg base) : ∃ fd : FuncData, FunD K "_law_same" "_law_same" (defArgs (top 25)) (defBody (top 25)) (defScope (top 25)) [] [] (He.fAd K ("_law_same", none)) fd ∧ FnOk P w K mg base (L2.CX P w) 1 (He.fAd K ("_law_same", none)) fd ["told", "due"] (spF K (He.ga K) 2 (fnW 6 (t_law_same (He.ga K)))) := by
  obtain ⟨fd, F⟩ := Z.c.def_ 16 (d := d20) rfl
  refine ⟨fd, F, fn_w F sc_law_same rfl fun cdv A outer s H E c hr => ?_⟩
  exact (ws_cons (ws_setL (m := true) (i := 2) (ps_asg (wl_lst (wa_cons (we_tup (wa_cons (we_var (pv 0)) (wa_cons (we_var (pv 1)) wa_nil))) wa_nil)) (pg_name (i := 2) sc_law_same.nd rfl (loc_by rfl))))
      (ws_cons (ws_while (passes_of rfl) (wt_truG (we_var (pv 2))) (ws_cons (ws_setM (tg := (.tp [3, 4])) (ps_asg (wm_own0 o_pop (pe_bm0 PySem.F.plainAttrs_list PySem.F.slot_list_pop PySem.F.type_list_pop mt_pop (pv 2))) (pg_tup rfl (pgs_cons (pg_name (i := 3) sc_law_same.nd rfl (loc_by rfl)) (pgs_cons (pg_name (i := 4) sc_law_same.nd rfl (loc_by rfl)) pgs_nil)))))
      (ws_one (ws_if (wt_cmp w_isN (we_var (pv 4)) we_non (nomark _)) (ws_one (ws_if (wt_cmp w_notN (we_var (pv 3)) we_non (nomark _)) (ws_one (ws_ret we_bl)) ws_nil)) (ws_one (ws_if (wt_val (we_cgB w_isi (by rfl) Z.g_isinstance boot_isinstance (wa_cons (we_var (pv 4)) (wa_cons (we_ty (by rfl) Z.g_bool boot_bool) wa_nil)))) (ws_one (ws_if (wt_pw (ww_or (wt_not (wt_val (we_cgB w_isi (by rfl) Z.g_isinstance boot_isinstance (wa_cons (we_var (pv 3)) (wa_cons (we_ty (by rfl) Z.g_bool boot_bool) wa_nil))))) (ww_or1 (wt_cmp (w_ne hr.units) (we_var (pv 3)) (we_var (pv 4)) (nomark _))))) (ws_one (ws_ret we_bl)) ws_nil)) (ws_one (ws_if (wt_val (we_cgB w_isi (by rfl) Z.g_isinstance boot_isinstance (wa_cons (we_var (pv 4)) (wa_cons (we_ty (by rfl) Z.g_int boot_int) wa_nil)))) (ws_one (ws_if (wt_pw (ww_or (wt_not (wt_val (we_cgB w_isi (by rfl) Z.g_isinstance boot_isinstance (wa_cons (we_var (pv 3)) (wa_cons (we_ty (by rfl) Z.g_int boot_int) wa_nil))))) (ww_or (wt_val (we_cgB w_isi (by rfl) Z.g_isinstance boot_isinstance (wa_cons (we_var (pv 3)) (wa_cons (we_ty (by rfl) Z.g_bool boot_bool) wa_nil)))) (ww_or1 (wt_cmp (w_ne hr.units) (we_var (pv 3)) (we_var (pv 4)) (nomark _)))))) (ws_one (ws_ret we_bl)) ws_nil)) (ws_one (ws_if (wt_val (we_cgB w_isi (by rfl) Z.g_isinstance boot_isinstance (wa_cons (we_var (pv 4)) (wa_cons (we_ty (by rfl) Z.g_str boot_str) wa_nil)))) (ws_one (ws_if (wt_pw (ww_or (wt_not (wt_val (we_cgB w_isi (by rfl) Z.g_isinstance boot_isinstance (wa_cons (we_var (pv 3)) (wa_cons (we_ty (by rfl) Z.g_str boot_str) wa_nil))))) (ww_or1 (wt_cmp (w_ne hr.units) (we_var (pv 3)) (we_var (pv 4)) (nomark _))))) (ws_one (ws_ret we_bl)) ws_nil)) (ws_cons (ws_if (wt_pw (ww_and (wt_val (we_cgB w_isi (by rfl) Z.g_isinstance boot_isinstance (wa_cons (we_var (pv 4)) (wa_cons (we_ty (by rfl) Z.g_list boot_list) wa_nil)))) (ww_and1 (wt_not (wt_val (we_cgB w_isi (by rfl) Z.g_isinstance boot_isinstance (wa_cons (we_var (pv 3)) (wa_cons (we_ty (by rfl) Z.g_list boot_list) wa_nil)))))))) (ws_one (ws_ret we_bl)) ws_nil)
      (ws_cons (ws_if (wt_pw (ww_and (wt_val (we_cgB w_isi (by rfl) Z.g_isinstance boot_isinstance (wa_cons (we_var (pv 4)) (wa_cons (we_ty (by rfl) Z.g_tuple boot_tuple) wa_nil)))) (ww_and1 (wt_not (wt_val (we_cgB w_isi (by rfl) Z.g_isinstance boot_isinstance (wa_cons (we_var (pv 3)) (wa_cons (we_ty (by rfl) Z.g_tuple boot_tuple) wa_nil)))))))) (ws_one (ws_ret we_bl)) ws_nil)
      (ws_cons (ws_if (wt_cmp (w_ne hr.units) (we_cgB w_len (by rfl) Z.g_len boot_len (wa_cons (we_var (pv 3)) wa_nil)) (we_cgB w_len (by rfl) Z.g_len boot_len (wa_cons (we_var (pv 4)) wa_nil)) (nomark _)) (ws_one (ws_ret we_bl)) ws_nil)
      (ws_one (ws_dropM (wm_extL (pe_bm PySem.F.plainAttrs_list PySem.F.slot_list_extend PySem.F.type_list_extend mt_extend (pv 2) (pa_cons (wl_lc (tg := (.nm 5)) rfl sc_law_same.nd (wi_rng (wr_range1 (by rfl) Z.g_range (wa_cons (we_cgB w_len (by rfl) Z.g_len boot_len (wa_cons (we_var (pv 4)) wa_nil)) wa_nil))) (blkOk_by (N := _) (sc := _) (own := [("at", 5)]) (by first | rfl | decide +kernel)) (fun _ _ _ _ _ => (pg_name (i := 5) sc_law_same.nd rfl (loc_by rfl))) (fun _ _ _ _ _ => wp_nil) (fun _ _ _ _ _ => (we_tup (wa_cons (we_ixg w_item (we_var (pv 3)) (we_var (pv 5)) plain_ix) (wa_cons (we_ixg w_item (we_var (pv 4)) (we_var (pv 5)) plain_ix) wa_nil))))) pa_nil))))))))))))))))))
      (ws_one (ws_ret we_bl))))
/-! _law_comes -/
def t_law_comes (cl : Str → Addr) : TSw := sSeq (sAsgT true (.tp [2, 3]) (eVar 0)) (sSeq (sAsgL true 4 (lOp rCatL (eL (lCG rLstOf (aCons (eVar 1) (aNil)))) (eL (lOp rRepL (eL (aCons (eC .non) (aNil))) (eCG rLen (aCons (eVar 3) (aNil))))))) (sSeq (sFor false (.nm 5) (iR1 (aCons (eCG rLen (aCons (eVar 3) (aNil))) (aNil))) (sSeq (sAsg true 6 (eC .non)) (sSeq (sFor false (.nm 7) (iR1 (aCons (eCG rLen (aCons (eVar 3) (aNil))) (aNil))) (sIf (tTst (eOp rIsN (eIx rItem (eVar 4) (eOp rAdd (eVar 2) (eVar 7))) (eC .non))) (sSeq (sAsgT true (.tp [8, 9, 10]) (eIx rItem (eVar 3) (eVar 7))) (sSeq (sAsgL false 12 (lComp (.nm 11) [11] (iW (eVar 9)) (tTst (eOp rNotN (eIx rItem (eVar 4) (eVar 11)) (eC .non))) (eIx rItem (eVar 4) (eVar 11)))) (sIf (tAndW (tTruG (eVar 12)) (tOrW (tTst (eOp rEqW (eVar 8) (eC (.str "first")))) (tTst (eOp rEqW (eCG rLen (aCons (eVar 12) (aNil))) (eCG rLen (aCons (eVar 9) (aNil))))))) (sSeq (sAsg false 13 (eOp rAdd (eVar 10) (eIf (tTst (eOp rEqW (eVar 8) (eC (.str "first")))) (eCG rMinW (aCons (eVar 12) (aNil))) (eCG rMaxW (aCons (eVar 12) (aNil)))))) (sAsg true 6 (eIf (tOrW (tTst (eOp rIsN (eVar 6) (eC .non))) (tTst (eOp rLtI (eVar 13) (eIx rItem (eVar 6) (eC (.int 0)))))) (eTup (aCons (eVar 13) (aCons (eVar 7) (aNil)))) (eVar 6)))) (sSkip)))) (sSkip))) (sSeq (sIf (tTst (eOp rIsN (eVar 6) (eC .non))) (sBrk) (sSkip)) (sAsgG true (eIx rItem (eVar 6) (eC (.int 0))) (gSubO 4 (eOp rAdd (eVar 2) (eIx rItem (eVar 6) (eC (.int 1)))))))))) (sRet (eCG rTupOf (aCons (eL (lSl (eVar 4) (oSome (eVar 2)) (oNone))) (aNil))))))
theorem sc_law_comes : FnScope ["network", "times", "many", "gates", "told", "lap", "best", "at", "word", "operands", "delay", "one", "there", "time"] ["network", "times"] (defScope (top 26)) := ⟨rfl, rfl, rfl, by decide +kernel, rfl, by decide +kernel, by decide +kernel⟩
theorem ok_law_comes (Z : Fx K mg base) : ∃ fd : FuncData, FunD K "_law_comes" "_law_comes" (defArgs (top 26)) (defBody (top 26)) (defScope (top 26)) [] [] (He.fAd K ("_law_comes", none)) fd ∧ FnOk P w K mg base (L2.CX P w) 1 (He.fAd K ("_law_comes", none)) fd ["network", "times"] (spF K (He.ga K) 2 (fnW 14 (t_law_comes (He.ga K)))) := by
  obtain ⟨fd, F⟩ := Z.c.def_ 17 (d := d21) rfl
  refine ⟨fd, F, fn_w F sc_law_comes rfl fun cdv A outer s H E c hr => ?_⟩
  exact (ws_cons (ws_setT (m := true) (tg := (.tp [2, 3])) (ps_asg (we_var (pv 0)) (pg_tup rfl (pgs_cons (pg_name (i := 2) sc_law_comes.nd rfl (loc_by rfl)) (pgs_cons (pg_name (i := 3) sc_law_comes.nd rfl (loc_by rfl)) pgs_nil)))))
      (ws_cons (ws_setL (m := true) (i := 4) (ps_asg (wl_op w_catL (we_l (wl_cgT w_lstOf (by rfl) Z.g_list boot_list (wa_cons (we_var (pv 1)) wa_nil))) (we_l (wl_op w_repL (we_l (wl_lst (wa_cons we_non wa_nil))) (we_cgB w_len (by rfl) Z.g_len boot_len (wa_cons (we_var (pv 3)) wa_nil))))) (pg_name (i := 4) sc_law_comes.nd rfl (loc_by rfl))))
      (ws_cons (ws_forR (passes_of rfl) rfl (wr_range1 (by rfl) Z.g_range (wa_cons (we_cgB w_len (by rfl) Z.g_len boot_len (wa_cons (we_var (pv 3)) wa_nil)) wa_nil)) (pg_name (i := 5) sc_law_comes.nd rfl (loc_by rfl)) (fun _ => (ws_cons (ws_set (m := true) (i := 6) (ps_asg we_non (pg_name (i := 6) sc_law_comes.nd rfl (loc_by rfl))))
      (ws_cons (ws_forR (passes_of rfl) rfl (wr_range1 (by rfl) Z.g_range (wa_cons (we_cgB w_len (by rfl) Z.g_len boot_len (wa_cons (we_var (pv 3)) wa_nil)) wa_nil)) (pg_name (i := 7) sc_law_comes.nd rfl (loc_by rfl)) (fun _ => (ws_one (ws_if (wt_cmp w_isN (we_ixg w_item (we_var (pv 4)) (we_op w_add (we_var (pv 2)) (we_var (pv 7))) plain_ix) we_non (nomark _)) (ws_cons (ws_setT (m := true) (tg := (.tp [8, 9, 10])) (ps_asg (we_ixg w_item (we_var (pv 3)) (we_var (pv 7)) plain_ix) (pg_tup rfl (pgs_cons (pg_name (i := 8) sc_law_comes.nd rfl (loc_by rfl)) (pgs_cons (pg_name (i := 9) sc_law_comes.nd rfl (loc_by rfl)) (pgs_cons (pg_name (i := 10) sc_law_comes.nd rfl (loc_by rfl)) pgs_nil))))))
      (ws_cons (ws_setLc (tg := (.nm 11)) (m := false) (i := 12) rfl sc_law_comes.nd rfl rfl (sw_true rfl rfl rfl (by decide +kernel)) (wi_seq (we_var (pv 9))) (blkOk_by (N := _) (sc := _) (own := [("one", 11)]) (by first | rfl | decide +kernel)) (fun _ _ _ _ _ => (pg_name (i := 11) sc_law_comes.nd rfl (loc_by rfl))) (fun _ _ _ _ _ => (wp_one (wt_cmp w_notN (we_ixg w_item (we_var (pv 4)) (we_var (pv 11)) plain_ix) we_non (nomark _)))) (fun _ _ _ _ _ => (we_ixg w_item (we_var (pv 4)) (we_var (pv 11)) plain_ix)))
      (ws_one (ws_if (wt_pw (ww_and (wt_truG (we_var (pv 12))) (ww_and1 (wt_pw (ww_or (wt_cmp (w_eq hr.units) (we_var (pv 8)) we_str (nomark _)) (ww_or1 (wt_cmp (w_eq hr.units) (we_cgB w_len (by rfl) Z.g_len boot_len (wa_cons (we_var (pv 12)) wa_nil)) (we_cgB w_len (by rfl) Z.g_len boot_len (wa_cons (we_var (pv 9)) wa_nil)) (nomark _)))))))) (ws_cons (ws_set (m := false) (i := 13) (ps_asg (we_op w_add (we_var (pv 10)) (we_if (wt_cmp (w_eq hr.units) (we_var (pv 8)) we_str (nomark _)) (we_cgB (w_min rfl) (by rfl) Z.g_min boot_min (wa_cons (we_var (pv 12)) wa_nil)) (we_cgB (w_max rfl) (by rfl) Z.g_max boot_max (wa_cons (we_var (pv 12)) wa_nil)))) (pg_name (i := 13) sc_law_comes.nd rfl (loc_by rfl))))
      (ws_one (ws_set (m := true) (i := 6) (ps_asg (we_if (wt_pw (ww_or (wt_cmp w_isN (we_var (pv 6)) we_non (nomark _)) (ww_or1 (wt_cmp w_lt (we_var (pv 13)) (we_ixg w_item (we_var (pv 6)) we_int plain_ix) (nomark _))))) (we_tup (wa_cons (we_var (pv 13)) (wa_cons (we_var (pv 7)) wa_nil))) (we_var (pv 6))) (pg_name (i := 6) sc_law_comes.nd rfl (loc_by rfl)))))) ws_nil)))) ws_nil))))
      (ws_cons (ws_if (wt_cmp w_isN (we_var (pv 6)) we_non (nomark _)) (ws_one ws_break) ws_nil)
      (ws_one (ws_setG (m := true) (ps_asg (we_ixg w_item (we_var (pv 6)) we_int plain_ix) (wg_subO (pv 4) (we_op w_add (we_var (pv 2)) (we_ixg w_item (we_var (pv 6)) we_int plain_ix)))))))))))
      (ws_one (ws_ret (we_cgT w_tupOf (by rfl) Z.g_tuple boot_tuple (wa_cons (we_l (wl_sl (we_var (pv 4)) (wo_some (we_var (pv 2))) wo_none)) wa_nil)))))))
/-! _law_quiet -/
def t_law_quiet (cl : Str → Addr) : TSw := sRet (eCG rMaxW (aCons (eL (lOp rCatL (eL (aCons (eC (.int 0)) (aNil))) (eL (lComp (.nm 2) [2] (iW (eL (lOp rCatL (eL (lCG rLstOf (aCons (eVar 0) (aNil)))) (eL (lCG rLstOf (aCons (eVar 1) (aNil))))))) (tTst (eOp rNotN (eVar 2) (eC .non))) (eOp rAdd (eVar 2) (eC (.int 1))))))) (aNil)))
theorem sc_law_quiet : FnScope ["times", "due", "time"] ["times", "due"] (defScope (top 30)) := ⟨rfl, rfl, rfl, by decide +kernel, rfl, by decide +kernel, by decide +kernel⟩
theorem ok_law_quiet (Z : Fx K mg base) : ∃ fd : FuncData, FunD K "_law_quiet" "_law_quiet" (defArgs (top 30)) (defBody (top 30)) (defScope (top 30)) [] [] (He.fAd K ("_law_quiet", none)) fd ∧ FnOk P w K mg base (L2.CX P w) 1 (He.fAd K ("_law_quiet", none)) fd ["times", "due"] (spF K (He.ga K) 2 (fnW 3 (t_law_quiet (He.ga K)))) := by
  obtain ⟨fd, F⟩ := Z.c.def_ 21 (d := d25) rfl
  refine ⟨fd, F, fn_w F sc_law_quiet rfl fun cdv A outer s H E c hr => ?_⟩
  exact (ws_one (ws_ret (we_cgB (w_max rfl) (by rfl) Z.g_max boot_max (wa_cons (we_l (wl_op w_catL (we_l (wl_lst (wa_cons we_int wa_nil))) (we_l (wl_lc (tg := (.nm 2)) rfl sc_law_quiet.nd (wi_seq (we_l (wl_op w_catL (we_l (wl_cgT w_lstOf (by rfl) Z.g_list boot_list (wa_cons (we_var (pv 0)) wa_nil))) (we_l (wl_cgT w_lstOf (by rfl) Z.g_list boot_list (wa_cons (we_var (pv 1)) wa_nil)))))) (blkOk_by (N := _) (sc := _) (own := [("time", 2)]) (by first | rfl | decide +kernel)) (fun _ _ _ _ _ => (pg_name (i := 2) sc_law_quiet.nd rfl (loc_by rfl))) (fun _ _ _ _ _ => (wp_one (wt_cmp w_notN (we_var (pv 2)) we_non (nomark _)))) (fun _ _ _ _ _ => (we_op w_add (we_var (pv 2)) we_int)))))) wa_nil))))
/-! latest_time -/
def t_latest_time (cl : Str → Addr) : TSw := sSeq (sAsgL true 3 (lComp (.nm 2) [2] (iW (eCall (fnW 11 (t_comes cl)) (aCons (eVar 0) (aCons (eVar 1) (aNil))))) (tTst (eOp rNotN (eVar 2) (eC .non))) (eVar 2))) (sRet (eIf (tTst (eOp rGtI (eCG rLen (aCons (eVar 3) (aNil))) (eC (.int 0)))) (eCG rMaxW (aCons (eVar 3) (aNil))) (eC .non)))
theorem sc_latest_time : FnScope ["network", "times", "time", "told"] ["network", "times"] (defScope (top 21)) := ⟨rfl, rfl, rfl, by decide +kernel, rfl, by decide +kernel, by decide +kernel⟩
theorem ok_latest_time (Z : Fx K mg base) : ∃ fd : FuncData, FunD K "latest_time" "latest_time" (defArgs (top 21)) (defBody (top 21)) (defScope (top 21)) [] [] (He.fAd K ("latest_time", none)) fd ∧ FnOk P w K mg base (L2.CX P w) 3 (He.fAd K ("latest_time", none)) fd ["network", "times"] (spF K (He.ga K) 2 (fnW 4 (t_latest_time (He.ga K)))) := by
  obtain ⟨fd, F⟩ := Z.c.def_ 13 (d := d17) rfl
  obtain ⟨fd_comes, F_comes, O_comes⟩ := ok_comes (P := P) (w := w) Z
  have b_comes : Binds K fd_comes ["network", "times"] [] := F_comes.bindsN fun _ _ _ _ _ _ us hl => match us, hl with | [_, _], _ => rfl
  refine ⟨fd, F, fn_w F sc_latest_time rfl fun cdv A outer s H E c hr => ?_⟩
  exact (ws_cons (ws_setLc (tg := (.nm 2)) (m := true) (i := 3) rfl sc_latest_time.nd rfl rfl (sw_true rfl rfl rfl (by decide +kernel)) (wi_seq (we_call O_comes (hr.mono (by decide)) (by rfl) Z.g_comes F_comes.kp b_comes (takes_of rfl rfl rfl rfl) (wa_cons (we_var (pv 0)) (wa_cons (we_var (pv 1)) wa_nil)))) (blkOk_by (N := _) (sc := _) (own := [("time", 2)]) (by first | rfl | decide +kernel)) (fun _ _ _ _ _ => (pg_name (i := 2) sc_latest_time.nd rfl (loc_by rfl))) (fun _ _ _ _ _ => (wp_one (wt_cmp w_notN (we_var (pv 2)) we_non (nomark _)))) (fun _ _ _ _ _ => (we_var (pv 2))))
      (ws_one (ws_ret (we_if (wt_cmp w_gt (we_cgB w_len (by rfl) Z.g_len boot_len (wa_cons (we_var (pv 3)) wa_nil)) we_int (nomark _)) (we_cgB (w_max rfl) (by rfl) Z.g_max boot_max (wa_cons (we_var (pv 3)) wa_nil)) we_non))))
/-! _law_whole -/
def t_law_whole (cl : Str → Addr) : TSw := sSeq (sAsg true 3 (eCall (fnW 3 (t_law_quiet cl)) (aCons (eVar 1) (aCons (eVar 2) (aNil))))) (sSeq (sAsgL true 5 (lComp (.nm 4) [4] (iW (eVar 2)) (tTst (eOp rNotN (eVar 4) (eC .non))) (eVar 4))) (sSeq (sAsg false 6 (eIf (tTruG (eVar 5)) (eCG rMaxW (aCons (eVar 5) (aNil))) (eC .non))) (sSeq (sAsg true 7 (eTup (aCons (eCall (fnW 4 (t_quiet_behind cl)) (aCons (eVar 0) (aCons (eVar 1) (aNil)))) (aCons (eCall (fnW 4 (t_latest_time cl)) (aCons (eVar 0) (aCons (eVar 1) (aNil)))) (aCons (eCall (fnW 11 (t_comes cl)) (aCons (eVar 0) (aCons (eVar 1) (aNil)))) (aNil)))))) (sRet (eCall (fnW 6 (t_law_same cl)) (aCons (eVar 7) (aCons (eTup (aCons (eVar 3) (aCons (eVar 6) (aCons (eVar 2) (aNil))))) (aNil))))))))
theorem sc_law_whole : FnScope ["network", "times", "due", "quiet", "time", "there", "latest", "told"] ["network", "times", "due"] (defScope (top 34)) := ⟨rfl, rfl, rfl, by decide +kernel, rfl, by decide +kernel, by decide +kernel⟩
theorem ok_law_whole (Z : Fx K mg base) : ∃ fd : FuncData, FunD K "_law_whole" "_law_whole" (defArgs (top 34)) (defBody (top 34)) (defScope (top 34)) [] [] (He.fAd K ("_law_whole", none)) fd ∧ FnOk P w K mg base (L2.CX P w) 4 (He.fAd K ("_law_whole", none)) fd ["network", "times", "due"] (spF K (He.ga K) 3 (fnW 8 (t_law_whole (He.ga K)))) := by
  obtain ⟨fd, F⟩ := Z.c.def_ 25 (d := d29) rfl
  obtain ⟨fd_comes, F_comes, O_comes⟩ := ok_comes (P := P) (w := w) Z
  have b_comes : Binds K fd_comes ["network", "times"] [] := F_comes.bindsN fun _ _ _ _ _ _ us hl => match us, hl with | [_, _], _ => rfl
  obtain ⟨fd_quiet_behind, F_quiet_behind, O_quiet_behind⟩ := ok_quiet_behind (P := P) (w := w) Z
  have b_quiet_behind : Binds K fd_quiet_behind ["network", "times"] [] := F_quiet_behind.bindsN fun _ _ _ _ _ _ us hl => match us, hl with | [_, _], _ => rfl
  obtain ⟨fd_latest_time, F_latest_time, O_latest_time⟩ := ok_latest_time (P := P) (w := w) Z
  have b_latest_time : Binds K fd_latest_time ["network", "times"] [] := F_latest_time.bindsN fun _ _ _ _ _ _ us hl => match us, hl with | [_, _], _ => rfl
  obtain ⟨fd_law_same, F_law_same, O_law_same⟩ := ok_law_same (P := P) (w := w) Z
  have b_law_same : Binds K fd_law_same ["told", "due"] [] := F_law_same.bindsN fun _ _ _ _ _ _ us hl => match us, hl with | [_, _], _ => rfl
  obtain ⟨fd_law_quiet, F_law_quiet, O_law_quiet⟩ := ok_law_quiet (P := P) (w := w) Z
  have b_law_quiet : Binds K fd_law_quiet ["times", "due"] [] := F_law_quiet.bindsN fun _ _ _ _ _ _ us hl => match us, hl with | [_, _], _ => rfl
  refine ⟨fd, F, fn_w F sc_law_whole rfl fun cdv A outer s H E c hr => ?_⟩
  exact (ws_cons (ws_set (m := true) (i := 3) (ps_asg (we_call O_law_quiet (hr.mono (by decide)) (by rfl) Z.g_law_quiet F_law_quiet.kp b_law_quiet (takes_of rfl rfl rfl rfl) (wa_cons (we_var (pv 1)) (wa_cons (we_var (pv 2)) wa_nil))) (pg_name (i := 3) sc_law_whole.nd rfl (loc_by rfl))))
      (ws_cons (ws_setLc (tg := (.nm 4)) (m := true) (i := 5) rfl sc_law_whole.nd rfl rfl (sw_true rfl rfl rfl (by decide +kernel)) (wi_seq (we_var (pv 2))) (blkOk_by (N := _) (sc := _) (own := [("time", 4)]) (by first | rfl | decide +kernel)) (fun _ _ _ _ _ => (pg_name (i := 4) sc_law_whole.nd rfl (loc_by rfl))) (fun _ _ _ _ _ => (wp_one (wt_cmp w_notN (we_var (pv 4)) we_non (nomark _)))) (fun _ _ _ _ _ => (we_var (pv 4))))
      (ws_cons (ws_set (m := false) (i := 6) (ps_asg (we_if (wt_truG (we_var (pv 5))) (we_cgB (w_max rfl) (by rfl) Z.g_max boot_max (wa_cons (we_var (pv 5)) wa_nil)) we_non) (pg_name (i := 6) sc_law_whole.nd rfl (loc_by rfl))))
      (ws_cons (ws_set (m := true) (i := 7) (ps_asg (we_tup (wa_cons (we_call O_quiet_behind (hr.mono (by decide)) (by rfl) Z.g_quiet_behind F_quiet_behind.kp b_quiet_behind (takes_of rfl rfl rfl rfl) (wa_cons (we_var (pv 0)) (wa_cons (we_var (pv 1)) wa_nil))) (wa_cons (we_call O_latest_time (hr.mono (by decide)) (by rfl) Z.g_latest_time F_latest_time.kp b_latest_time (takes_of rfl rfl rfl rfl) (wa_cons (we_var (pv 0)) (wa_cons (we_var (pv 1)) wa_nil))) (wa_cons (we_call O_comes (hr.mono (by decide)) (by rfl) Z.g_comes F_comes.kp b_comes (takes_of rfl rfl rfl rfl) (wa_cons (we_var (pv 0)) (wa_cons (we_var (pv 1)) wa_nil))) wa_nil)))) (pg_name (i := 7) sc_law_whole.nd rfl (loc_by rfl))))
      (ws_one (ws_ret (we_call O_law_same (hr.mono (by decide)) (by rfl) Z.g_law_same F_law_same.kp b_law_same (takes_of rfl rfl rfl rfl) (wa_cons (we_var (pv 7)) (wa_cons (we_tup (wa_cons (we_var (pv 3)) (wa_cons (we_var (pv 6)) (wa_cons (we_var (pv 2)) wa_nil)))) wa_nil)))))))))
/-! _law_pick -/
def t_law_pick (cl : Str → Addr) : TSw := sSeq (sIf (tTst (eOp rLtI (eVar 2) (eC (.int 2)))) (sRet (eC (.int 0))) (sSkip)) (sSeq (sAsgG true (eTup (aCons (eIx rItem (eVar 0) (eC (.int 0))) (aCons (eOp rAdd (eIx rItem (eVar 0) (eC (.int 2))) (eC (.int 1))) (aNil)))) (gTp (gsCons (gNm 3) (gsCons (gSubG (eVar 0) (eC (.int 2))) (gsNil))) 2)) (sSeq (sIf (tTruG (eVar 3)) (sSeq (sAsgG true (eTup (aCons (eOp rModI (eCG rInt (aCons (eIx rItem (eVar 3) (eC (.int 0))) (aNil))) (eVar 2)) (aCons (eOp rDivI (eIx rItem (eVar 3) (eC (.int 0))) (eVar 2)) (aCons (eOp rAdd (eIx rItem (eVar 0) (eC (.int 3))) (eC (.int 1))) (aNil))))) (gTp (gsCons (gNm 4) (gsCons (gSubG (eVar 3) (eC (.int 0))) (gsCons (gSubG (eVar 0) (eC (.int 3))) (gsNil)))) 3)) (sSeq (sIf (tOrW (tTst (eOp rEqW (eIx rItem (eVar 3) (eC (.int 0))) (eC (.int 0)))) (tTst (eOp rGeI (eIx rItem (eVar 0) (eC (.int 3))) (eC (.int 60))))) (sSeq (sDrop (eStM mPopAt (eVar 3) (aCons (eC (.int 0)) (aNil)))) (sAsgG true (eC (.int 0)) (gSubG (eVar 0) (eC (.int 3))))) (sSkip)) (sRet (eVar 4)))) (sSkip)) (sSeq (sAsgG true (eOp rModI (eCG rInt (aCons (eOp rAdd (eOp rAdd (eOp rMulI (eIx rItem (eVar 0) (eC (.int 1))) (eC (.int 70001))) (eOp rMulI (eIx rItem (eVar 0) (eC (.int 2))) (eC (.int 90001)))) (eC (.int 17))) (aNil))) (eC (.int 4100000027))) (gSubG (eVar 0) (eC (.int 1)))) (sSeq (sAsg true 5 (eIx rItem (eIx rItem (eVar 0) (eC (.int 4))) (eVar 1))) (sSeq (sIf (tTst (eOp rEqW (eVar 5) (eC (.int 0)))) (sRet (eC (.int 0))) (sSkip)) (sSeq (sIf (tTst (eOp rEqW (eVar 5) (eC (.int 1)))) (sRet (eOp rSubI (eVar 2) (eC (.int 1)))) (sSkip)) (sRet (eIf (tTst (eOp rEqW (eVar 5) (eC (.int 2)))) (eOp rModI (eCG rInt (aCons (eOp rMulI (eVar 5) (eC (.int 5))) (aNil))) (eVar 2)) (eOp rModI (eCG rInt (aCons (eOp rDivI (eIx rItem (eVar 0) (eC (.int 1))) (eC (.int 31))) (aNil))) (eVar 2))))))))))
theorem sc_law_pick : FnScope ["pen", "place", "many", "great", "worth", "habit"] ["pen", "place", "many"] (defScope (top 24)) := ⟨rfl, rfl, rfl, by decide +kernel, rfl, by decide +kernel, by decide +kernel⟩
theorem ok_law_pick (Z : Fx K mg base) : ∃ fd : FuncData, FunD K "_law_pick" "_law_pick" (defArgs (top 24)) (defBody (top 24)) (defScope (top 24)) [] [] (He.fAd K ("_law_pick", none)) fd ∧ FnOk P w K mg base (L2.CX P w) 1 (He.fAd K ("_law_pick", none)) fd ["pen", "place", "many"] (spF K (He.ga K) 3 (fnW 6 (t_law_pick (He.ga K)))) := by
  obtain ⟨fd, F⟩ := Z.c.def_ 15 (d := d19) rfl
  refine ⟨fd, F, fn_w F sc_law_pick rfl fun cdv A outer s H E c hr => ?_⟩
  exact (ws_cons (ws_if (wt_cmp w_lt (we_var (pv 2)) we_int (nomark _)) (ws_one (ws_ret we_int)) ws_nil)
      (ws_cons (ws_setG (m := true) (ps_asg (we_tup (wa_cons (we_ixg w_item (we_var (pv 0)) we_int plain_ix) (wa_cons (we_op w_add (we_ixg w_item (we_var (pv 0)) we_int plain_ix) we_int) wa_nil))) (wg_tup rfl (wgs_cons (wg_name (pg_name (i := 3) sc_law_pick.nd rfl (loc_by rfl))) (wgs_cons (wg_subG (we_var (pv 0)) we_int) wgs_nil)))))
      (ws_cons (ws_if (wt_truG (we_var (pv 3))) (ws_cons (ws_setG (m := true) (ps_asg (we_tup (wa_cons (we_op w_mod (we_cgT w_int (by rfl) Z.g_int boot_int (wa_cons (we_ixg w_item (we_var (pv 3)) we_int plain_ix) wa_nil)) (we_var (pv 2))) (wa_cons (we_op w_div (we_ixg w_item (we_var (pv 3)) we_int plain_ix) (we_var (pv 2))) (wa_cons (we_op w_add (we_ixg w_item (we_var (pv 0)) we_int plain_ix) we_int) wa_nil)))) (wg_tup rfl (wgs_cons (wg_name (pg_name (i := 4) sc_law_pick.nd rfl (loc_by rfl))) (wgs_cons (wg_subG (we_var (pv 3)) we_int) (wgs_cons (wg_subG (we_var (pv 0)) we_int) wgs_nil))))))
      (ws_cons (ws_if (wt_pw (ww_or (wt_cmp (w_eq hr.units) (we_ixg w_item (we_var (pv 3)) we_int plain_ix) we_int (nomark _)) (ww_or1 (wt_cmp w_ge (we_ixg w_item (we_var (pv 0)) we_int plain_ix) we_int (nomark _))))) (ws_cons (ws_drop (we_stM o_popAt (pe_bm PySem.F.plainAttrs_list PySem.F.slot_list_pop PySem.F.type_list_pop mt_popAt (we_var (pv 3)) (wa_cons we_int wa_nil))))
      (ws_one (ws_setG (m := true) (ps_asg we_int (wg_subG (we_var (pv 0)) we_int))))) ws_nil)
      (ws_one (ws_ret (we_var (pv 4)))))) ws_nil)
      (ws_cons (ws_setG (m := true) (ps_asg (we_op w_mod (we_cgT w_int (by rfl) Z.g_int boot_int (wa_cons (we_op w_add (we_op w_add (we_op w_mul (we_ixg w_item (we_var (pv 0)) we_int plain_ix) we_int) (we_op w_mul (we_ixg w_item (we_var (pv 0)) we_int plain_ix) we_int)) we_int) wa_nil)) we_int) (wg_subG (we_var (pv 0)) we_int)))
      (ws_cons (ws_set (m := true) (i := 5) (ps_asg (we_ixg w_item (we_ixg w_item (we_var (pv 0)) we_int plain_ix) (we_var (pv 1)) plain_ix) (pg_name (i := 5) sc_law_pick.nd rfl (loc_by rfl))))
      (ws_cons (ws_if (wt_cmp (w_eq hr.units) (we_var (pv 5)) we_int (nomark _)) (ws_one (ws_ret we_int)) ws_nil)
      (ws_cons (ws_if (wt_cmp (w_eq hr.units) (we_var (pv 5)) we_int (nomark _)) (ws_one (ws_ret (we_op w_sub (we_var (pv 2)) we_int))) ws_nil)
      (ws_one (ws_ret (we_if (wt_cmp (w_eq hr.units) (we_var (pv 5)) we_int (nomark _)) (we_op w_mod (we_cgT w_int (by rfl) Z.g_int boot_int (wa_cons (we_op w_mul (we_var (pv 5)) we_int) wa_nil)) (we_var (pv 2))) (we_op w_mod (we_cgT w_int (by rfl) Z.g_int boot_int (wa_cons (we_op w_div (we_ixg w_item (we_var (pv 0)) we_int plain_ix) we_int) wa_nil)) (we_var (pv 2)))))))))))))
/-! _law_run -/
def t_law_run (cl : Str → Addr) : TSw := sRet (eCG rTupOf (aCons (eL (lComp (.nm 2) [2] (iW (eVar 0)) (tYesW) (eIf (tAndW (tTst (eOp rNotN (eVar 2) (eC .non))) (tTst (eOp rLtI (eVar 2) (eVar 1)))) (eVar 2) (eC .non)))) (aNil)))
theorem sc_law_run : FnScope ["due", "steps", "time"] ["due", "steps"] (defScope (top 31)) := ⟨rfl, rfl, rfl, by decide +kernel, rfl, by decide +kernel, by decide +kernel⟩
theorem ok_law_run (Z : Fx K mg base) : ∃ fd : FuncData, FunD K "_law_run" "_law_run" (defArgs (top 31)) (defBody (top 31)) (defScope (top 31)) [] [] (He.fAd K ("_law_run", none)) fd ∧ FnOk P w K mg base (L2.CX P w) 1 (He.fAd K ("_law_run", none)) fd ["due", "steps"] (spF K (He.ga K) 2 (fnW 3 (t_law_run (He.ga K)))) := by
  obtain ⟨fd, F⟩ := Z.c.def_ 22 (d := d26) rfl
  refine ⟨fd, F, fn_w F sc_law_run rfl fun cdv A outer s H E c hr => ?_⟩
  exact (ws_one (ws_ret (we_cgT w_tupOf (by rfl) Z.g_tuple boot_tuple (wa_cons (we_l (wl_lc (tg := (.nm 2)) rfl sc_law_run.nd (wi_seq (we_var (pv 0))) (blkOk_by (N := _) (sc := _) (own := [("time", 2)]) (by first | rfl | decide +kernel)) (fun _ _ _ _ _ => (pg_name (i := 2) sc_law_run.nd rfl (loc_by rfl))) (fun _ _ _ _ _ => wp_nil) (fun _ _ _ _ _ => (we_if (wt_pw (ww_and (wt_cmp w_notN (we_var (pv 2)) we_non (nomark _)) (ww_and1 (wt_cmp w_lt (we_var (pv 2)) (we_var (pv 1)) (nomark _))))) (we_var (pv 2)) we_non)))) wa_nil))))
/-! _law_rows -/
def t_law_rows (cl : Str → Addr) : TSw := sSeq (sAsgL true 3 (lComp (.nm 2) [2] (iR1 (aCons (eVar 1) (aNil))) (tYesW) (eG (aNil)))) (sSeq (sFor false (.nm 4) (iR1 (aCons (eCG rLen (aCons (eVar 0) (aNil))) (aNil))) (sIf (tAndW (tTst (eOp rNotN (eIx rItem (eVar 0) (eVar 4)) (eC .non))) (tTst (eOp rLtI (eIx rItem (eVar 0) (eVar 4)) (eVar 1)))) (sDrop (eStM mAppend (eIx rItem (eVar 3) (eIx rItem (eVar 0) (eVar 4))) (aCons (eVar 4) (aNil)))) (sSkip))) (sRet (eCG rTupOf (aCons (eL (lComp (.nm 5) [5] (iW (eVar 3)) (tYesW) (eCG rTupOf (aCons (eVar 5) (aNil))))) (aNil)))))
theorem sc_law_rows : FnScope ["due", "steps", "now", "rows", "at", "row"] ["due", "steps"] (defScope (top 32)) := ⟨rfl, rfl, rfl, by decide +kernel, rfl, by decide +kernel, by decide +kernel⟩
theorem ok_law_rows (Z : Fx K mg base) : ∃ fd : FuncData, FunD K "_law_rows" "_law_rows" (defArgs (top 32)) (defBody (top 32)) (defScope (top 32)) [] [] (He.fAd K ("_law_rows", none)) fd ∧ FnOk P w K mg base (L2.CX P w) 1 (He.fAd K ("_law_rows", none)) fd ["due", "steps"] (spF K (He.ga K) 2 (fnW 6 (t_law_rows (He.ga K)))) := by
  obtain ⟨fd, F⟩ := Z.c.def_ 23 (d := d27) rfl
  refine ⟨fd, F, fn_w F sc_law_rows rfl fun cdv A outer s H E c hr => ?_⟩
  exact (ws_cons (ws_setLc (tg := (.nm 2)) (m := true) (i := 3) rfl sc_law_rows.nd rfl rfl (sw_true rfl rfl rfl (by decide +kernel)) (wi_rng (wr_range1 (by rfl) Z.g_range (wa_cons (we_var (pv 1)) wa_nil))) (blkOk_by (N := _) (sc := _) (own := [("now", 2)]) (by first | rfl | decide +kernel)) (fun _ _ _ _ _ => (pg_name (i := 2) sc_law_rows.nd rfl (loc_by rfl))) (fun _ _ _ _ _ => wp_nil) (fun _ _ _ _ _ => (we_g (wl_lst wa_nil))))
      (ws_cons (ws_forR (passes_of rfl) rfl (wr_range1 (by rfl) Z.g_range (wa_cons (we_cgB w_len (by rfl) Z.g_len boot_len (wa_cons (we_var (pv 0)) wa_nil)) wa_nil)) (pg_name (i := 4) sc_law_rows.nd rfl (loc_by rfl)) (fun _ => (ws_one (ws_if (wt_pw (ww_and (wt_cmp w_notN (we_ixg w_item (we_var (pv 0)) (we_var (pv 4)) plain_ix) we_non (nomark _)) (ww_and1 (wt_cmp w_lt (we_ixg w_item (we_var (pv 0)) (we_var (pv 4)) plain_ix) (we_var (pv 1)) (nomark _))))) (ws_one (ws_drop (we_stM o_append (pe_bm PySem.F.plainAttrs_list PySem.F.slot_list_append PySem.F.type_list_append mt_append (we_ixg w_item (we_var (pv 3)) (we_ixg w_item (we_var (pv 0)) (we_var (pv 4)) plain_ix) plain_ix) (wa_cons (we_var (pv 4)) wa_nil))))) ws_nil))))
      (ws_one (ws_ret (we_cgT w_tupOf (by rfl) Z.g_tuple boot_tuple (wa_cons (we_l (wl_lc (tg := (.nm 5)) rfl sc_law_rows.nd (wi_seq (we_var (pv 3))) (blkOk_by (N := _) (sc := _) (own := [("row", 5)]) (by first | rfl | decide +kernel)) (fun _ _ _ _ _ => (pg_name (i := 5) sc_law_rows.nd rfl (loc_by rfl))) (fun _ _ _ _ _ => wp_nil) (fun _ _ _ _ _ => (we_cgT w_tupOf (by rfl) Z.g_tuple boot_tuple (wa_cons (we_var (pv 5)) wa_nil))))) wa_nil))))))
/-! _law_asked -/
def t_law_asked (cl : Str → Addr) : TSw := sSeq (sAsg true 4 (eTup (aCons (eCall (fnW 7 (t_run_steps cl)) (aCons (eVar 0) (aCons (eVar 1) (aCons (eVar 3) (aNil))))) (aCons (eCall (fnW 7 (t_coming_rows cl)) (aCons (eVar 0) (aCons (eVar 1) (aCons (eVar 3) (aNil))))) (aNil))))) (sRet (eCall (fnW 6 (t_law_same cl)) (aCons (eVar 4) (aCons (eTup (aCons (eCall (fnW 3 (t_law_run cl)) (aCons (eVar 2) (aCons (eVar 3) (aNil)))) (aCons (eCall (fnW 6 (t_law_rows cl)) (aCons (eVar 2) (aCons (eVar 3) (aNil)))) (aNil)))) (aNil)))))
theorem sc_law_asked : FnScope ["network", "times", "due", "steps", "told"] ["network", "times", "due", "steps"] (defScope (top 33)) := ⟨rfl, rfl, rfl, by decide +kernel, rfl, by decide +kernel, by decide +kernel⟩
theorem ok_law_asked (Z : Fx K mg base) : ∃ fd : FuncData, FunD K "_law_asked" "_law_asked" (defArgs (top 33)) (defBody (top 33)) (defScope (top 33)) [] [] (He.fAd K ("_law_asked", none)) fd ∧ FnOk P w K mg base (L2.CX P w) 8 (He.fAd K ("_law_asked", none)) fd ["network", "times", "due", "steps"] (spF K (He.ga K) 4 (fnW 5 (t_law_asked (He.ga K)))) := by
  obtain ⟨fd, F⟩ := Z.c.def_ 24 (d := d28) rfl
  obtain ⟨fd_coming_rows, F_coming_rows, O_coming_rows⟩ := ok_coming_rows (P := P) (w := w) Z
  have b_coming_rows : Binds K fd_coming_rows ["network", "times", "steps"] [] := F_coming_rows.bindsN fun _ _ _ _ _ _ us hl => match us, hl with | [_, _, _], _ => rfl
  obtain ⟨fd_run_steps, F_run_steps, O_run_steps⟩ := ok_run_steps (P := P) (w := w) Z
  have b_run_steps : Binds K fd_run_steps ["network", "times", "steps"] [] := F_run_steps.bindsN fun _ _ _ _ _ _ us hl => match us, hl with | [_, _, _], _ => rfl
  obtain ⟨fd_law_same, F_law_same, O_law_same⟩ := ok_law_same (P := P) (w := w) Z
  have b_law_same : Binds K fd_law_same ["told", "due"] [] := F_law_same.bindsN fun _ _ _ _ _ _ us hl => match us, hl with | [_, _], _ => rfl
  obtain ⟨fd_law_run, F_law_run, O_law_run⟩ := ok_law_run (P := P) (w := w) Z
  have b_law_run : Binds K fd_law_run ["due", "steps"] [] := F_law_run.bindsN fun _ _ _ _ _ _ us hl => match us, hl with | [_, _], _ => rfl
  obtain ⟨fd_law_rows, F_law_rows, O_law_rows⟩ := ok_law_rows (P := P) (w := w) Z
  have b_law_rows : Binds K fd_law_rows ["due", "steps"] [] := F_law_rows.bindsN fun _ _ _ _ _ _ us hl => match us, hl with | [_, _], _ => rfl
  refine ⟨fd, F, fn_w F sc_law_asked rfl fun cdv A outer s H E c hr => ?_⟩
  exact (ws_cons (ws_set (m := true) (i := 4) (ps_asg (we_tup (wa_cons (we_call O_run_steps (hr.mono (by decide)) (by rfl) Z.g_run_steps F_run_steps.kp b_run_steps (takes_of rfl rfl rfl rfl) (wa_cons (we_var (pv 0)) (wa_cons (we_var (pv 1)) (wa_cons (we_var (pv 3)) wa_nil)))) (wa_cons (we_call O_coming_rows (hr.mono (by decide)) (by rfl) Z.g_coming_rows F_coming_rows.kp b_coming_rows (takes_of rfl rfl rfl rfl) (wa_cons (we_var (pv 0)) (wa_cons (we_var (pv 1)) (wa_cons (we_var (pv 3)) wa_nil)))) wa_nil))) (pg_name (i := 4) sc_law_asked.nd rfl (loc_by rfl))))
      (ws_one (ws_ret (we_call O_law_same (hr.mono (by decide)) (by rfl) Z.g_law_same F_law_same.kp b_law_same (takes_of rfl rfl rfl rfl) (wa_cons (we_var (pv 4)) (wa_cons (we_tup (wa_cons (we_call O_law_run (hr.mono (by decide)) (by rfl) Z.g_law_run F_law_run.kp b_law_run (takes_of rfl rfl rfl rfl) (wa_cons (we_var (pv 2)) (wa_cons (we_var (pv 3)) wa_nil))) (wa_cons (we_call O_law_rows (hr.mono (by decide)) (by rfl) Z.g_law_rows F_law_rows.kp b_law_rows (takes_of rfl rfl rfl rfl) (wa_cons (we_var (pv 2)) (wa_cons (we_var (pv 3)) wa_nil))) wa_nil))) wa_nil))))))
/-! Machine.time_of -/
def t_Machine_time_of (cl : Str → Addr) : TSw := sSeq (sIf (tNotW (tTst (eCall (fnW 2 (t_is_below cl)) (aCons (eVar 1) (aCons (eCG rLen (aCons (eFld (cl "Machine") "times" (eVar 0)) (aNil))) (aNil)))))) (sNever) (sSkip)) (sRet (eIx rItem (eFld (cl "Machine") "times" (eVar 0)) (eVar 1)))
theorem sc_Machine_time_of : FnScope ["self", "number"] ["self", "number"] (defScope (inClass (top 15) 4)) := ⟨rfl, rfl, rfl, by decide +kernel, rfl, by decide +kernel, by decide +kernel⟩
theorem ok_Machine_time_of (Z : Fx K mg base) : ∃ fd : FuncData, FunD K "time_of" "Machine.time_of" (defArgs (inClass (top 15) 4)) (defBody (inClass (top 15) 4)) (defScope (inClass (top 15) 4)) [] [] (He.fAd K ("Machine", some "time_of")) fd ∧ FnOk P w K mg base (L2.CX P w) 4 (He.fAd K ("Machine", some "time_of")) fd ["self", "number"] (spF K (He.ga K) 2 (fnW 2 (t_Machine_time_of (He.ga K)))) := by
  obtain ⟨fd, F⟩ := Z.c.def_ 9 (d := d12) rfl
  obtain ⟨fd_is_below, F_is_below, O_is_below⟩ := ok_is_below (P := P) (w := w) Z
  have b_is_below : Binds K fd_is_below ["thing", "most"] [] := F_is_below.bindsN fun _ _ _ _ _ _ us hl => match us, hl with | [_, _], _ => rfl
  refine ⟨fd, F, fn_w F sc_Machine_time_of rfl fun cdv A outer s H E c hr => ?_⟩
  exact (ws_cons (ws_if (wt_not (wt_val (we_call O_is_below (hr.mono (by decide)) (by rfl) Z.g_is_below F_is_below.kp b_is_below (takes_of rfl rfl rfl rfl) (wa_cons (we_var (pv 1)) (wa_cons (we_cgB w_len (by rfl) Z.g_len boot_len (wa_cons (we_fld (we_var (pv 0)) Z.c_Machine Z.n_Machine_times rfl) wa_nil)) wa_nil))))) (ws_one ws_never) ws_nil)
      (ws_one (ws_ret (we_ixg w_item (we_fld (we_var (pv 0)) Z.c_Machine Z.n_Machine_times rfl) (we_var (pv 1)) plain_ix))))
/-! _law_led -/
def t_law_led (cl : Str → Addr) : TSw := sSeq (sAsg true 4 (eMake (cl "Machine") (fnW 2 (t_Machine___init cl)) (aCons (eVar 0) (aNil)))) (sSeq (sFor false (.nm 5) (iR1 (aCons (eVar 3) (aNil))) (sSeq (sFor false (.nm 6) (iR1 (aCons (eIx rItem (eVar 0) (eC (.int 0))) (aNil))) (sIf (tAndW (tTst (eOp rEqW (eIx rItem (eVar 1) (eVar 6)) (eVar 5))) (tTst (eOp rNotN (eMeth (cl "Machine") "put" (fnW 2 (t_Machine_put cl)) (eVar 4) (aCons (eVar 6) (aNil))) (eC .non)))) (sRet (eC (.bl false))) (sSkip))) (sIf (tNotW (tTst (eCall (fnW 6 (t_law_same cl)) (aCons (eMeth (cl "Machine") "step" (fnW 4 (t_Machine_step cl)) (eVar 4) aNil) (aCons (eCG rTupOf (aCons (eL (lComp (.nm 7) [7] (iR1 (aCons (eCG rLen (aCons (eVar 2) (aNil))) (aNil))) (tTst (eOp rEqW (eIx rItem (eVar 2) (eVar 7)) (eVar 5))) (eVar 7))) (aNil))) (aNil)))))) (sRet (eC (.bl false))) (sSkip)))) (sSeq (sAsgL true 8 (aNil)) (sSeq (sFor false (.nm 9) (iR1 (aCons (eOp rAdd (eIx rItem (eVar 0) (eC (.int 0))) (eCG rLen (aCons (eVar 2) (aNil)))) (aNil))) (sDropM (mOwn true 8 mAppend (aCons (eMeth (cl "Machine") "time_of" (fnW 2 (t_Machine_time_of cl)) (eVar 4) (aCons (eVar 9) (aNil))) (aNil))))) (sRet (eCall (fnW 6 (t_law_same cl)) (aCons (eVar 8) (aCons (eL (lCG rLstOf (aCons (eOp rAdd (eCall (fnW 3 (t_law_run cl)) (aCons (eVar 1) (aCons (eVar 3) (aNil)))) (eCall (fnW 3 (t_law_run cl)) (aCons (eVar 2) (aCons (eVar 3) (aNil))))) (aNil)))) (aNil))))))))
theorem sc_law_led : FnScope ["network", "times", "due", "steps", "machine", "now", "signal", "at", "told", "number"] ["network", "times", "due", "steps"] (defScope (top 35)) := ⟨rfl, rfl, rfl, by decide +kernel, rfl, by decide +kernel, by decide +kernel⟩
theorem ok_law_led (Z : Fx K mg base) : ∃ fd : FuncData, FunD K "_law_led" "_law_led" (defArgs (top 35)) (defBody (top 35)) (defScope (top 35)) [] [] (He.fAd K ("_law_led", none)) fd ∧ FnOk P w K mg base (L2.CX P w) 6 (He.fAd K ("_law_led", none)) fd ["network", "times", "due", "steps"] (spF K (He.ga K) 4 (fnW 10 (t_law_led (He.ga K)))) := by
  obtain ⟨fd, F⟩ := Z.c.def_ 26 (d := d30) rfl
  obtain ⟨fd_Machine___init, F_Machine___init, O_Machine___init⟩ := ok_Machine___init (P := P) (w := w) Z
  have b_Machine___init : Binds K fd_Machine___init ["self", "network"] [] := F_Machine___init.bindsN fun _ _ _ _ _ _ us hl => match us, hl with | [_, _], _ => rfl
  obtain ⟨fd_Machine_put, F_Machine_put, O_Machine_put⟩ := ok_Machine_put (P := P) (w := w) Z
  have b_Machine_put : Binds K fd_Machine_put ["self", "signal"] [] := F_Machine_put.bindsN fun _ _ _ _ _ _ us hl => match us, hl with | [_, _], _ => rfl
  obtain ⟨fd_Machine_step, F_Machine_step, O_Machine_step⟩ := ok_Machine_step (P := P) (w := w) Z
  have b_Machine_step : Binds K fd_Machine_step ["self"] [] := F_Machine_step.bindsN fun _ _ _ _ _ _ us hl => match us, hl with | [_], _ => rfl
  obtain ⟨fd_Machine_time_of, F_Machine_time_of, O_Machine_time_of⟩ := ok_Machine_time_of (P := P) (w := w) Z
  have b_Machine_time_of : Binds K fd_Machine_time_of ["self", "number"] [] := F_Machine_time_of.bindsN fun _ _ _ _ _ _ us hl => match us, hl with | [_, _], _ => rfl
  obtain ⟨fd_law_same, F_law_same, O_law_same⟩ := ok_law_same (P := P) (w := w) Z
  have b_law_same : Binds K fd_law_same ["told", "due"] [] := F_law_same.bindsN fun _ _ _ _ _ _ us hl => match us, hl with | [_, _], _ => rfl
  obtain ⟨fd_law_run, F_law_run, O_law_run⟩ := ok_law_run (P := P) (w := w) Z
  have b_law_run : Binds K fd_law_run ["due", "steps"] [] := F_law_run.bindsN fun _ _ _ _ _ _ us hl => match us, hl with | [_, _], _ => rfl
  refine ⟨fd, F, fn_w F sc_law_led rfl fun cdv A outer s H E c hr => ?_⟩
  exact (ws_cons (ws_set (m := true) (i := 4) (ps_asg (we_make (pe_make Z.k_Machine O_Machine___init (hr.mono (by decide)) (by rfl) Z.g_Machine b_Machine___init .nil pass00 (wa_cons (we_var (pv 0)) wa_nil))) (pg_name (i := 4) sc_law_led.nd rfl (loc_by rfl))))
      (ws_cons (ws_forR (passes_of rfl) rfl (wr_range1 (by rfl) Z.g_range (wa_cons (we_var (pv 3)) wa_nil)) (pg_name (i := 5) sc_law_led.nd rfl (loc_by rfl)) (fun _ => (ws_cons (ws_forR (passes_of rfl) rfl (wr_range1 (by rfl) Z.g_range (wa_cons (we_ixg w_item (we_var (pv 0)) we_int plain_ix) wa_nil)) (pg_name (i := 6) sc_law_led.nd rfl (loc_by rfl)) (fun _ => (ws_one (ws_if (wt_pw (ww_and (wt_cmp (w_eq hr.units) (we_ixg w_item (we_var (pv 1)) (we_var (pv 6)) plain_ix) (we_var (pv 5)) (nomark _)) (ww_and1 (wt_cmp w_notN (we_meth (pe_methS (we_var (pv 4)) Z.c_Machine Z.m_Machine_put O_Machine_put (hr.mono (by decide)) b_Machine_put (fun _ => passAt (takes_of rfl rfl rfl rfl) _) (wa_cons (we_var (pv 6)) wa_nil))) we_non (nomark _))))) (ws_one (ws_ret we_bl)) ws_nil))))
      (ws_one (ws_if (wt_not (wt_val (we_call O_law_same (hr.mono (by decide)) (by rfl) Z.g_law_same F_law_same.kp b_law_same (takes_of rfl rfl rfl rfl) (wa_cons (we_meth0 (pe_methS0 (we_var (pv 4)) Z.c_Machine Z.m_Machine_step O_Machine_step (hr.mono (by decide)) b_Machine_step (fun _ => passAt (takes_of rfl rfl rfl rfl) _))) (wa_cons (we_cgT w_tupOf (by rfl) Z.g_tuple boot_tuple (wa_cons (we_l (wl_lc (tg := (.nm 7)) rfl sc_law_led.nd (wi_rng (wr_range1 (by rfl) Z.g_range (wa_cons (we_cgB w_len (by rfl) Z.g_len boot_len (wa_cons (we_var (pv 2)) wa_nil)) wa_nil))) (blkOk_by (N := _) (sc := _) (own := [("at", 7)]) (by first | rfl | decide +kernel)) (fun _ _ _ _ _ => (pg_name (i := 7) sc_law_led.nd rfl (loc_by rfl))) (fun _ _ _ _ _ => (wp_one (wt_cmp (w_eq hr.units) (we_ixg w_item (we_var (pv 2)) (we_var (pv 7)) plain_ix) (we_var (pv 5)) (nomark _)))) (fun _ _ _ _ _ => (we_var (pv 7))))) wa_nil)) wa_nil))))) (ws_one (ws_ret we_bl)) ws_nil)))))
      (ws_cons (ws_setL (m := true) (i := 8) (ps_asg (wl_lst wa_nil) (pg_name (i := 8) sc_law_led.nd rfl (loc_by rfl))))
      (ws_cons (ws_forR (passes_of rfl) rfl (wr_range1 (by rfl) Z.g_range (wa_cons (we_op w_add (we_ixg w_item (we_var (pv 0)) we_int plain_ix) (we_cgB w_len (by rfl) Z.g_len boot_len (wa_cons (we_var (pv 2)) wa_nil))) wa_nil)) (pg_name (i := 9) sc_law_led.nd rfl (loc_by rfl)) (fun _ => (ws_one (ws_dropM (wm_own o_append (pe_bm PySem.F.plainAttrs_list PySem.F.slot_list_append PySem.F.type_list_append mt_append (pv 8) (wa_cons (we_meth (pe_methS (we_var (pv 4)) Z.c_Machine Z.m_Machine_time_of O_Machine_time_of (hr.mono (by decide)) b_Machine_time_of (fun _ => passAt (takes_of rfl rfl rfl rfl) _) (wa_cons (we_var (pv 9)) wa_nil))) wa_nil)))))))
      (ws_one (ws_ret (we_call O_law_same (hr.mono (by decide)) (by rfl) Z.g_law_same F_law_same.kp b_law_same (takes_of rfl rfl rfl rfl) (wa_cons (we_var (pv 8)) (wa_cons (we_l (wl_cgT w_lstOf (by rfl) Z.g_list boot_list (wa_cons (we_op w_add (we_call O_law_run (hr.mono (by decide)) (by rfl) Z.g_law_run F_law_run.kp b_law_run (takes_of rfl rfl rfl rfl) (wa_cons (we_var (pv 1)) (wa_cons (we_var (pv 3)) wa_nil))) (we_call O_law_run (hr.mono (by decide)) (by rfl) Z.g_law_run F_law_run.kp b_law_run (takes_of rfl rfl rfl rfl) (wa_cons (we_var (pv 2)) (wa_cons (we_var (pv 3)) wa_nil)))) wa_nil))) wa_nil)))))))))
/-! _law_runs -/
def t_law_runs (cl : Str → Addr) : TSw := sSeq (sAsg true 4 (eCall (fnW 14 (t_law_comes cl)) (aCons (eVar 1) (aCons (eVar 2) (aNil))))) (sSeq (sAsg true 5 (eCall (fnW 3 (t_law_quiet cl)) (aCons (eVar 2) (aCons (eVar 4) (aNil))))) (sSeq (sIf (tNotW (tTst (eCall (fnW 8 (t_law_whole cl)) (aCons (eVar 1) (aCons (eVar 2) (aCons (eVar 4) (aNil))))))) (sRet (eC (.bl false))) (sSkip)) (sSeq (sFor true (.nm 6) (iW (eTup (aCons (eVar 5) (aCons (eC (.int 0)) (aCons (eOp rAdd (eVar 5) (eC (.int 1))) (aCons (eC (.int 1)) (aCons (eCG rMax2W (aCons (eC (.int 0)) (aCons (eOp rSubI (eVar 5) (eC (.int 1))) (aNil)))) (aCons (eCall (fnW 6 (t_law_pick cl)) (aCons (eVar 0) (aCons (eC (.int 7)) (aCons (eVar 3) (aNil))))) (aCons (eOp rAdd (eVar 5) (eCall (fnW 6 (t_law_pick cl)) (aCons (eVar 0) (aCons (eC (.int 8)) (aCons (eC (.int 5)) (aNil)))))) (aNil)))))))))) (sIf (tAndW (tTst (eOp rLeI (eVar 6) (eC (.int 2000)))) (tNotW (tTst (eCall (fnW 5 (t_law_asked cl)) (aCons (eVar 1) (aCons (eVar 2) (aCons (eVar 4) (aCons (eVar 6) (aNil))))))))) (sRet (eC (.bl false))) (sSkip))) (sRet (eCall (fnW 10 (t_law_led cl)) (aCons (eVar 1) (aCons (eVar 2) (aCons (eVar 4) (aCons (eOp rAdd (eCG rMin2W (aCons (eVar 5) (aCons (eC (.int 30)) (aNil)))) (eC (.int 1))) (aNil))))))))))
theorem sc_law_runs : FnScope ["pen", "network", "times", "most", "due", "quiet", "steps"] ["pen", "network", "times", "most"] (defScope (top 36)) := ⟨rfl, rfl, rfl, by decide +kernel, rfl, by decide +kernel, by decide +kernel⟩
theorem ok_law_runs (Z : Fx K mg base) : ∃ fd : FuncData, FunD K "_law_runs" "_law_runs" (defArgs (top 36)) (defBody (top 36)) (defScope (top 36)) [] [] (He.fAd K ("_law_runs", none)) fd ∧ FnOk P w K mg base (L2.CX P w) 9 (He.fAd K ("_law_runs", none)) fd ["pen", "network", "times", "most"] (spF K (He.ga K) 4 (fnW 7 (t_law_runs (He.ga K)))) := by
  obtain ⟨fd, F⟩ := Z.c.def_ 27 (d := d31) rfl
  obtain ⟨fd_law_pick, F_law_pick, O_law_pick⟩ := ok_law_pick (P := P) (w := w) Z
  have b_law_pick : Binds K fd_law_pick ["pen", "place", "many"] [] := F_law_pick.bindsN fun _ _ _ _ _ _ us hl => match us, hl with | [_, _, _], _ => rfl
  obtain ⟨fd_law_comes, F_law_comes, O_law_comes⟩ := ok_law_comes (P := P) (w := w) Z
  have b_law_comes : Binds K fd_law_comes ["network", "times"] [] := F_law_comes.bindsN fun _ _ _ _ _ _ us hl => match us, hl with | [_, _], _ => rfl
  obtain ⟨fd_law_quiet, F_law_quiet, O_law_quiet⟩ := ok_law_quiet (P := P) (w := w) Z
  have b_law_quiet : Binds K fd_law_quiet ["times", "due"] [] := F_law_quiet.bindsN fun _ _ _ _ _ _ us hl => match us, hl with | [_, _], _ => rfl
  obtain ⟨fd_law_asked, F_law_asked, O_law_asked⟩ := ok_law_asked (P := P) (w := w) Z
  have b_law_asked : Binds K fd_law_asked ["network", "times", "due", "steps"] [] := F_law_asked.bindsN fun _ _ _ _ _ _ us hl => match us, hl with | [_, _, _, _], _ => rfl
  obtain ⟨fd_law_whole, F_law_whole, O_law_whole⟩ := ok_law_whole (P := P) (w := w) Z
  have b_law_whole : Binds K fd_law_whole ["network", "times", "due"] [] := F_law_whole.bindsN fun _ _ _ _ _ _ us hl => match us, hl with | [_, _, _], _ => rfl
  obtain ⟨fd_law_led, F_law_led, O_law_led⟩ := ok_law_led (P := P) (w := w) Z
  have b_law_led : Binds K fd_law_led ["network", "times", "due", "steps"] [] := F_law_led.bindsN fun _ _ _ _ _ _ us hl => match us, hl with | [_, _, _, _], _ => rfl
  refine ⟨fd, F, fn_w F sc_law_runs rfl fun cdv A outer s H E c hr => ?_⟩
  exact (ws_cons (ws_set (m := true) (i := 4) (ps_asg (we_call O_law_comes (hr.mono (by decide)) (by rfl) Z.g_law_comes F_law_comes.kp b_law_comes (takes_of rfl rfl rfl rfl) (wa_cons (we_var (pv 1)) (wa_cons (we_var (pv 2)) wa_nil))) (pg_name (i := 4) sc_law_runs.nd rfl (loc_by rfl))))
      (ws_cons (ws_set (m := true) (i := 5) (ps_asg (we_call O_law_quiet (hr.mono (by decide)) (by rfl) Z.g_law_quiet F_law_quiet.kp b_law_quiet (takes_of rfl rfl rfl rfl) (wa_cons (we_var (pv 2)) (wa_cons (we_var (pv 4)) wa_nil))) (pg_name (i := 5) sc_law_runs.nd rfl (loc_by rfl))))
      (ws_cons (ws_if (wt_not (wt_val (we_call O_law_whole (hr.mono (by decide)) (by rfl) Z.g_law_whole F_law_whole.kp b_law_whole (takes_of rfl rfl rfl rfl) (wa_cons (we_var (pv 1)) (wa_cons (we_var (pv 2)) (wa_cons (we_var (pv 4)) wa_nil)))))) (ws_one (ws_ret we_bl)) ws_nil)
      (ws_cons (ws_for (tg := (.nm 6)) (passes_of rfl) rfl (wi_seq (we_tup (wa_cons (we_var (pv 5)) (wa_cons we_int (wa_cons (we_op w_add (we_var (pv 5)) we_int) (wa_cons we_int (wa_cons (we_cgB (w_max2 rfl) (by rfl) Z.g_max boot_max (wa_cons we_int (wa_cons (we_op w_sub (we_var (pv 5)) we_int) wa_nil))) (wa_cons (we_call O_law_pick (hr.mono (by decide)) (by rfl) Z.g_law_pick F_law_pick.kp b_law_pick (takes_of rfl rfl rfl rfl) (wa_cons (we_var (pv 0)) (wa_cons we_int (wa_cons (we_var (pv 3)) wa_nil)))) (wa_cons (we_op w_add (we_var (pv 5)) (we_call O_law_pick (hr.mono (by decide)) (by rfl) Z.g_law_pick F_law_pick.kp b_law_pick (takes_of rfl rfl rfl rfl) (wa_cons (we_var (pv 0)) (wa_cons we_int (wa_cons we_int wa_nil))))) wa_nil))))))))) (pg_name (i := 6) sc_law_runs.nd rfl (loc_by rfl)) (fun _ => (ws_one (ws_if (wt_pw (ww_and (wt_cmp w_le (we_var (pv 6)) we_int (nomark _)) (ww_and1 (wt_not (wt_val (we_call O_law_asked (hr.mono (by decide)) (by rfl) Z.g_law_asked F_law_asked.kp b_law_asked (takes_of rfl rfl rfl rfl) (wa_cons (we_var (pv 1)) (wa_cons (we_var (pv 2)) (wa_cons (we_var (pv 4)) (wa_cons (we_var (pv 6)) wa_nil)))))))))) (ws_one (ws_ret we_bl)) ws_nil))))
      (ws_one (ws_ret (we_call O_law_led (hr.mono (by decide)) (by rfl) Z.g_law_led F_law_led.kp b_law_led (takes_of rfl rfl rfl rfl) (wa_cons (we_var (pv 1)) (wa_cons (we_var (pv 2)) (wa_cons (we_var (pv 4)) (wa_cons (we_op w_add (we_cgB (w_min2 rfl) (by rfl) Z.g_min boot_min (wa_cons (we_var (pv 5)) (wa_cons we_int wa_nil))) we_int) wa_nil)))))))))))
/-! _law_row -/
def t_law_row (cl : Str → Addr) : TSw := sSeq (sAsgL true 3 (aNil)) (sSeq (sFor false (.nm 4) (iR1 (aCons (eVar 1) (aNil))) (sSeq (sAsg true 5 (eIx rItem (eTup (aCons (eC (.int 0)) (aCons (eC (.int 1)) (aCons (eC (.int 2)) (aCons (eC (.int 3)) (aCons (eCall (fnW 6 (t_law_pick cl)) (aCons (eVar 0) (aCons (eC (.int 5)) (aCons (eVar 2) (aNil))))) (aCons (eCall (fnW 6 (t_law_pick cl)) (aCons (eVar 0) (aCons (eC (.int 6)) (aCons (eC (.int 10)) (aNil))))) (aNil)))))))) (eCall (fnW 6 (t_law_pick cl)) (aCons (eVar 0) (aCons (eC (.int 7)) (aCons (eC (.int 6)) (aNil))))))) (sDropM (mOwn true 3 mAppend (aCons (eIf (tTst (eOp rEqW (eCall (fnW 6 (t_law_pick cl)) (aCons (eVar 0) (aCons (eC (.int 8)) (aCons (eC (.int 5)) (aNil))))) (eC (.int 0)))) (eC .non) (eVar 5)) (aNil)))))) (sRet (eCG rTupOf (aCons (eVar 3) (aNil)))))
theorem sc_law_row : FnScope ["pen", "many", "far", "told", "at", "time"] ["pen", "many", "far"] (defScope (top 29)) := ⟨rfl, rfl, rfl, by decide +kernel, rfl, by decide +kernel, by decide +kernel⟩
theorem ok_law_row (Z : Fx K mg base) : ∃ fd : FuncData, FunD K "_law_row" "_law_row" (defArgs (top 29)) (defBody (top 29)) (defScope (top 29)) [] [] (He.fAd K ("_law_row", none)) fd ∧ FnOk P w K mg base (L2.CX P w) 2 (He.fAd K ("_law_row", none)) fd ["pen", "many", "far"] (spF K (He.ga K) 3 (fnW 6 (t_law_row (He.ga K)))) := by
  obtain ⟨fd, F⟩ := Z.c.def_ 20 (d := d24) rfl
  obtain ⟨fd_law_pick, F_law_pick, O_law_pick⟩ := ok_law_pick (P := P) (w := w) Z
  have b_law_pick : Binds K fd_law_pick ["pen", "place", "many"] [] := F_law_pick.bindsN fun _ _ _ _ _ _ us hl => match us, hl with | [_, _, _], _ => rfl
  refine ⟨fd, F, fn_w F sc_law_row rfl fun cdv A outer s H E c hr => ?_⟩
  exact (ws_cons (ws_setL (m := true) (i := 3) (ps_asg (wl_lst wa_nil) (pg_name (i := 3) sc_law_row.nd rfl (loc_by rfl))))
      (ws_cons (ws_forR (passes_of rfl) rfl (wr_range1 (by rfl) Z.g_range (wa_cons (we_var (pv 1)) wa_nil)) (pg_name (i := 4) sc_law_row.nd rfl (loc_by rfl)) (fun _ => (ws_cons (ws_set (m := true) (i := 5) (ps_asg (we_ixg w_item (we_tup (wa_cons we_int (wa_cons we_int (wa_cons we_int (wa_cons we_int (wa_cons (we_call O_law_pick (hr.mono (by decide)) (by rfl) Z.g_law_pick F_law_pick.kp b_law_pick (takes_of rfl rfl rfl rfl) (wa_cons (we_var (pv 0)) (wa_cons we_int (wa_cons (we_var (pv 2)) wa_nil)))) (wa_cons (we_call O_law_pick (hr.mono (by decide)) (by rfl) Z.g_law_pick F_law_pick.kp b_law_pick (takes_of rfl rfl rfl rfl) (wa_cons (we_var (pv 0)) (wa_cons we_int (wa_cons we_int wa_nil)))) wa_nil))))))) (we_call O_law_pick (hr.mono (by decide)) (by rfl) Z.g_law_pick F_law_pick.kp b_law_pick (takes_of rfl rfl rfl rfl) (wa_cons (we_var (pv 0)) (wa_cons we_int (wa_cons we_int wa_nil)))) plain_ix) (pg_name (i := 5) sc_law_row.nd rfl (loc_by rfl))))
      (ws_one (ws_dropM (wm_own o_append (pe_bm PySem.F.plainAttrs_list PySem.F.slot_list_append PySem.F.type_list_append mt_append (pv 3) (wa_cons (we_if (wt_cmp (w_eq hr.units) (we_call O_law_pick (hr.mono (by decide)) (by rfl) Z.g_law_pick F_law_pick.kp b_law_pick (takes_of rfl rfl rfl rfl) (wa_cons (we_var (pv 0)) (wa_cons we_int (wa_cons we_int wa_nil)))) we_int (nomark _)) we_non (we_var (pv 5))) wa_nil))))))))
      (ws_one (ws_ret (we_cgT w_tupOf (by rfl) Z.g_tuple boot_tuple (wa_cons (we_var (pv 3)) wa_nil))))))
/-! _law_turns -/
def t_law_turns (cl : Str → Addr) : TSw := sSeq (sPar true 5 6 (aCons (eCall (fnW 14 (t_law_comes cl)) (aCons (eVar 1) (aCons (eVar 2) (aNil)))) (aCons (eCall (fnW 14 (t_law_comes cl)) (aCons (eVar 3) (aCons (eVar 4) (aNil)))) (aNil)))) (sSeq (sAsg true 7 (eCall (fnW 6 (t_law_pick cl)) (aCons (eVar 0) (aCons (eC (.int 7)) (aCons (eC (.int 14)) (aNil)))))) (sSeq (sFor false (.nm 8) (iR1 (aCons (eC (.int 2)) (aNil))) (sSeq (sIf (tOrW (tNotW (tTst (eCall (fnW 5 (t_law_asked cl)) (aCons (eVar 1) (aCons (eVar 2) (aCons (eVar 5) (aCons (eOp rAdd (eVar 7) (eVar 8)) (aNil)))))))) (tNotW (tTst (eCall (fnW 5 (t_law_asked cl)) (aCons (eVar 3) (aCons (eVar 4) (aCons (eVar 6) (aCons (eOp rAdd (eVar 7) (eVar 8)) (aNil))))))))) (sRet (eC (.bl false))) (sSkip)) (sIf (tOrW (tNotW (tTst (eCall (fnW 8 (t_law_whole cl)) (aCons (eVar 1) (aCons (eVar 2) (aCons (eVar 5) (aNil))))))) (tNotW (tTst (eCall (fnW 8 (t_law_whole cl)) (aCons (eVar 3) (aCons (eVar 4) (aCons (eVar 6) (aNil)))))))) (sRet (eC (.bl false))) (sSkip)))) (sSeq (sAsg true 9 (eCall (fnW 6 (t_law_row cl)) (aCons (eVar 0) (aCons (eIx rItem (eVar 1) (eC (.int 0))) (aCons (eC (.int 9)) (aNil)))))) (sRet (eAnd (eCall (fnW 8 (t_law_whole cl)) (aCons (eVar 1) (aCons (eVar 9) (aCons (eCall (fnW 14 (t_law_comes cl)) (aCons (eVar 1) (aCons (eVar 9) (aNil)))) (aNil))))) (eCall (fnW 5 (t_law_asked cl)) (aCons (eVar 1) (aCons (eVar 9) (aCons (eCall (fnW 14 (t_law_comes cl)) (aCons (eVar 1) (aCons (eVar 9) (aNil)))) (aCons (eC (.int 6)) (aNil)))))))))))
theorem sc_law_turns : FnScope ["pen", "one", "times", "other", "rows", "due", "dues", "steps", "lap", "fresh"] ["pen", "one", "times", "other", "rows"] (defScope (top 37)) := ⟨rfl, rfl, rfl, by decide +kernel, rfl, by decide +kernel, by decide +kernel⟩
theorem ok_law_turns (Z : Fx K mg base) : ∃ fd : FuncData, FunD K "_law_turns" "_law_turns" (defArgs (top 37)) (defBody (top 37)) (defScope (top 37)) [] [] (He.fAd K ("_law_turns", none)) fd ∧ FnOk P w K mg base (L2.CX P w) 9 (He.fAd K ("_law_turns", none)) fd ["pen", "one", "times", "other", "rows"] (spF K (He.ga K) 5 (fnW 10 (t_law_turns (He.ga K)))) := by
  obtain ⟨fd, F⟩ := Z.c.def_ 28 (d := d32) rfl
  obtain ⟨fd_law_pick, F_law_pick, O_law_pick⟩ := ok_law_pick (P := P) (w := w) Z
  have b_law_pick : Binds K fd_law_pick ["pen", "place", "many"] [] := F_law_pick.bindsN fun _ _ _ _ _ _ us hl => match us, hl with | [_, _, _], _ => rfl
  obtain ⟨fd_law_comes, F_law_comes, O_law_comes⟩ := ok_law_comes (P := P) (w := w) Z
  have b_law_comes : Binds K fd_law_comes ["network", "times"] [] := F_law_comes.bindsN fun _ _ _ _ _ _ us hl => match us, hl with | [_, _], _ => rfl
  obtain ⟨fd_law_row, F_law_row, O_law_row⟩ := ok_law_row (P := P) (w := w) Z
  have b_law_row : Binds K fd_law_row ["pen", "many", "far"] [] := F_law_row.bindsN fun _ _ _ _ _ _ us hl => match us, hl with | [_, _, _], _ => rfl
  obtain ⟨fd_law_asked, F_law_asked, O_law_asked⟩ := ok_law_asked (P := P) (w := w) Z
  have b_law_asked : Binds K fd_law_asked ["network", "times", "due", "steps"] [] := F_law_asked.bindsN fun _ _ _ _ _ _ us hl => match us, hl with | [_, _, _, _], _ => rfl
  obtain ⟨fd_law_whole, F_law_whole, O_law_whole⟩ := ok_law_whole (P := P) (w := w) Z
  have b_law_whole : Binds K fd_law_whole ["network", "times", "due"] [] := F_law_whole.bindsN fun _ _ _ _ _ _ us hl => match us, hl with | [_, _, _], _ => rfl
  refine ⟨fd, F, fn_w F sc_law_turns rfl fun cdv A outer s H E c hr => ?_⟩
  exact (ws_cons (ws_par (m := true) (ps_par rfl sc_law_turns.nd rfl rfl (by decide) rfl rfl (wa_cons (we_call O_law_comes (hr.mono (by decide)) (by rfl) Z.g_law_comes F_law_comes.kp b_law_comes (takes_of rfl rfl rfl rfl) (wa_cons (we_var (pv 1)) (wa_cons (we_var (pv 2)) wa_nil))) (wa_cons (we_call O_law_comes (hr.mono (by decide)) (by rfl) Z.g_law_comes F_law_comes.kp b_law_comes (takes_of rfl rfl rfl rfl) (wa_cons (we_var (pv 3)) (wa_cons (we_var (pv 4)) wa_nil))) wa_nil)) rfl))
      (ws_cons (ws_set (m := true) (i := 7) (ps_asg (we_call O_law_pick (hr.mono (by decide)) (by rfl) Z.g_law_pick F_law_pick.kp b_law_pick (takes_of rfl rfl rfl rfl) (wa_cons (we_var (pv 0)) (wa_cons we_int (wa_cons we_int wa_nil)))) (pg_name (i := 7) sc_law_turns.nd rfl (loc_by rfl))))
      (ws_cons (ws_forR (passes_of rfl) rfl (wr_range1 (by rfl) Z.g_range (wa_cons we_int wa_nil)) (pg_name (i := 8) sc_law_turns.nd rfl (loc_by rfl)) (fun _ => (ws_cons (ws_if (wt_pw (ww_or (wt_not (wt_val (we_call O_law_asked (hr.mono (by decide)) (by rfl) Z.g_law_asked F_law_asked.kp b_law_asked (takes_of rfl rfl rfl rfl) (wa_cons (we_var (pv 1)) (wa_cons (we_var (pv 2)) (wa_cons (we_var (pv 5)) (wa_cons (we_op w_add (we_var (pv 7)) (we_var (pv 8))) wa_nil))))))) (ww_or1 (wt_not (wt_val (we_call O_law_asked (hr.mono (by decide)) (by rfl) Z.g_law_asked F_law_asked.kp b_law_asked (takes_of rfl rfl rfl rfl) (wa_cons (we_var (pv 3)) (wa_cons (we_var (pv 4)) (wa_cons (we_var (pv 6)) (wa_cons (we_op w_add (we_var (pv 7)) (we_var (pv 8))) wa_nil)))))))))) (ws_one (ws_ret we_bl)) ws_nil)
      (ws_one (ws_if (wt_pw (ww_or (wt_not (wt_val (we_call O_law_whole (hr.mono (by decide)) (by rfl) Z.g_law_whole F_law_whole.kp b_law_whole (takes_of rfl rfl rfl rfl) (wa_cons (we_var (pv 1)) (wa_cons (we_var (pv 2)) (wa_cons (we_var (pv 5)) wa_nil)))))) (ww_or1 (wt_not (wt_val (we_call O_law_whole (hr.mono (by decide)) (by rfl) Z.g_law_whole F_law_whole.kp b_law_whole (takes_of rfl rfl rfl rfl) (wa_cons (we_var (pv 3)) (wa_cons (we_var (pv 4)) (wa_cons (we_var (pv 6)) wa_nil))))))))) (ws_one (ws_ret we_bl)) ws_nil)))))
      (ws_cons (ws_set (m := true) (i := 9) (ps_asg (we_call O_law_row (hr.mono (by decide)) (by rfl) Z.g_law_row F_law_row.kp b_law_row (takes_of rfl rfl rfl rfl) (wa_cons (we_var (pv 0)) (wa_cons (we_ixg w_item (we_var (pv 1)) we_int plain_ix) (wa_cons we_int wa_nil)))) (pg_name (i := 9) sc_law_turns.nd rfl (loc_by rfl))))
      (ws_one (ws_ret (we_and (we_call O_law_whole (hr.mono (by decide)) (by rfl) Z.g_law_whole F_law_whole.kp b_law_whole (takes_of rfl rfl rfl rfl) (wa_cons (we_var (pv 1)) (wa_cons (we_var (pv 9)) (wa_cons (we_call O_law_comes (hr.mono (by decide)) (by rfl) Z.g_law_comes F_law_comes.kp b_law_comes (takes_of rfl rfl rfl rfl) (wa_cons (we_var (pv 1)) (wa_cons (we_var (pv 9)) wa_nil))) wa_nil)))) (we_one (we_call O_law_asked (hr.mono (by decide)) (by rfl) Z.g_law_asked F_law_asked.kp b_law_asked (takes_of rfl rfl rfl rfl) (wa_cons (we_var (pv 1)) (wa_cons (we_var (pv 9)) (wa_cons (we_call O_law_comes (hr.mono (by decide)) (by rfl) Z.g_law_comes F_law_comes.kp b_law_comes (takes_of rfl rfl rfl rfl) (wa_cons (we_var (pv 1)) (wa_cons (we_var (pv 9)) wa_nil))) (wa_cons we_int wa_nil)))))))))))))
/-! _law_hand -/
def t_law_hand (cl : Str → Addr) : TSw := sSeq (sAsg true 1 (eTup (aCons (eC (.int 1)) (aCons (eTup (aCons (eTup (aCons (eC (.str "first")) (aCons (eTup (aCons (eC (.int 0)) (aCons (eC (.int 3)) (aNil)))) (aCons (eC (.int 0)) (aNil))))) (aCons (eTup (aCons (eC (.str "last")) (aCons (eTup (aCons (eC (.int 1)) (aCons (eC (.int 4)) (aNil)))) (aCons (eC (.int 0)) (aNil))))) (aCons (eTup (aCons (eC (.str "first")) (aCons (eTup (aCons (eC (.int 2)) (aNil))) (aCons (eC (.int 1)) (aNil))))) (aCons (eTup (aCons (eC (.str "first")) (aCons (eTup (aCons (eC (.int 0)) (aNil))) (aCons (eC (.int 3)) (aNil))))) (aNil)))))) (aNil))))) (sSeq (sAsg true 2 (eTup (aCons (eCall (fnW 7 (t_run_steps cl)) (aCons (eVar 1) (aCons (eTup (aCons (eC (.int 5)) (aNil))) (aCons (eC (.int 9)) (aNil))))) (aCons (eCallK [0, 1] (fnW 4 (t_quiet_behind cl)) (aNil) (aCons (eVar 1) (aCons (eTup (aCons (eC (.int 5)) (aNil))) (aNil)))) (aNil))))) (sSeq (sIf (tNotW (tTst (eCall (fnW 6 (t_law_same cl)) (aCons (eVar 2) (aCons (eTup (aCons (eTup (aCons (eC (.int 5)) (aCons (eC (.int 8)) (aCons (eC .non) (aCons (eC (.int 8)) (aNil)))))) (aCons (eC (.int 10)) (aNil)))) (aNil)))))) (sRet (eC (.bl false))) (sSkip)) (sSeq (sIf (tNotW (tTst (eCall (fnW 6 (t_law_same cl)) (aCons (eCallK [0, 1, 2] (fnW 7 (t_run_steps cl)) (aNil) (aCons (eVar 1) (aCons (eTup (aCons (eC (.int 5)) (aNil))) (aCons (eC (.int 10)) (aNil))))) (aCons (eTup (aCons (eC (.int 5)) (aCons (eC (.int 8)) (aCons (eC (.int 9)) (aCons (eC (.int 8)) (aNil)))))) (aNil)))))) (sRet (eC (.bl false))) (sSkip)) (sSeq (sAsg true 3 (eCallK [2, 1, 0] (fnW 7 (t_coming_rows cl)) (aNil) (aCons (eC (.int 10)) (aCons (eTup (aCons (eC (.int 5)) (aNil))) (aCons (eVar 1) (aNil)))))) (sSeq (sIf (tNotW (tTst (eCall (fnW 6 (t_law_same cl)) (aCons (eVar 3) (aCons (eTup (aCons (eTup (aNil)) (aCons (eTup (aNil)) (aCons (eTup (aNil)) (aCons (eTup (aNil)) (aCons (eTup (aNil)) (aCons (eTup (aCons (eC (.int 0)) (aNil))) (aCons (eTup (aNil)) (aCons (eTup (aNil)) (aCons (eTup (aCons (eC (.int 1)) (aCons (eC (.int 3)) (aNil)))) (aCons (eTup (aCons (eC (.int 2)) (aNil))) (aNil)))))))))))) (aNil)))))) (sRet (eC (.bl false))) (sSkip)) (sSeq (sAsg true 4 (eTup (aCons (eC (.int 2)) (aCons (eTup (aCons (eTup (aCons (eC (.str "last")) (aCons (eTup (aCons (eC (.int 0)) (aCons (eC (.int 1)) (aCons (eC (.int 2)) (aNil))))) (aCons (eC (.int 0)) (aNil))))) (aCons (eTup (aCons (eC (.str "last")) (aCons (eTup (aCons (eC (.int 0)) (aCons (eC (.int 1)) (aNil)))) (aCons (eC (.int 3)) (aNil))))) (aCons (eTup (aCons (eC (.str "first")) (aCons (eTup (aCons (eC (.int 0)) (aCons (eC (.int 0)) (aNil)))) (aCons (eC (.int 1)) (aNil))))) (aNil))))) (aNil))))) (sSeq (sAsg true 2 (eTup (aCons (eCall (fnW 4 (t_quiet_behind cl)) (aCons (eVar 1) (aCons (eTup (aCons (eC .non) (aNil))) (aNil)))) (aCons (eCall (fnW 4 (t_quiet_behind cl)) (aCons (eVar 4) (aCons (eTup (aCons (eC (.int 2)) (aCons (eC .non) (aNil)))) (aNil)))) (aCons (eCall (fnW 4 (t_quiet_behind cl)) (aCons (eVar 4) (aCons (eTup (aCons (eC .non) (aCons (eC (.int 8)) (aNil)))) (aNil)))) (aNil)))))) (sSeq (sIf (tNotW (tTst (eCall (fnW 6 (t_law_same cl)) (aCons (eTup (aCons (eVar 2) (aCons (eCall (fnW 7 (t_coming_rows cl)) (aCons (eVar 1) (aCons (eTup (aCons (eC .non) (aNil))) (aCons (eC (.int 3)) (aNil))))) (aNil)))) (aCons (eTup (aCons (eTup (aCons (eC (.int 0)) (aCons (eC (.int 4)) (aCons (eC (.int 9)) (aNil))))) (aCons (eTup (aCons (eTup (aNil)) (aCons (eTup (aNil)) (aCons (eTup (aNil)) (aNil))))) (aNil)))) (aNil)))))) (sRet (eC (.bl false))) (sSkip)) (sSeq (sAsg true 2 (eTup (aCons (eCall (fnW 4 (t_quiet_behind cl)) (aCons (eTup (aCons (eC (.int 2)) (aCons (eTup (aNil)) (aNil)))) (aCons (eTup (aCons (eC (.int 4)) (aCons (eC (.int 0)) (aNil)))) (aNil)))) (aCons (eCall (fnW 7 (t_run_steps cl)) (aCons (eTup (aCons (eC (.int 2)) (aCons (eTup (aNil)) (aNil)))) (aCons (eTup (aCons (eC (.int 4)) (aCons (eC (.int 0)) (aNil)))) (aCons (eC (.int 6)) (aNil))))) (aCons (eCall (fnW 7 (t_coming_rows cl)) (aCons (eTup (aCons (eC (.int 2)) (aCons (eTup (aNil)) (aNil)))) (aCons (eTup (aCons (eC (.int 4)) (aCons (eC (.int 0)) (aNil)))) (aCons (eC (.int 2)) (aNil))))) (aNil)))))) (sSeq (sIf (tNotW (tTst (eCall (fnW 6 (t_law_same cl)) (aCons (eVar 2) (aCons (eTup (aCons (eC (.int 5)) (aCons (eTup (aNil)) (aCons (eTup (aCons (eTup (aNil)) (aCons (eTup (aNil)) (aNil)))) (aNil))))) (aNil)))))) (sRet (eC (.bl false))) (sSkip)) (sRet (eAnd (eCall (fnW 7 (t_law_runs cl)) (aCons (eVar 0) (aCons (eVar 4) (aCons (eTup (aCons (eCall (fnW 6 (t_law_pick cl)) (aCons (eVar 0) (aCons (eC (.int 3)) (aCons (eC (.int 6)) (aNil))))) (aCons (eC (.int 2)) (aNil)))) (aCons (eC (.int 12)) (aNil)))))) (eCall (fnW 10 (t_law_turns cl)) (aCons (eVar 0) (aCons (eVar 1) (aCons (eTup (aCons (eC (.int 1)) (aNil))) (aCons (eTup (aCons (eC (.int 1)) (aCons (eSl (eIx rItem (eVar 4) (eC (.int 1))) (oSome (eC (.int 2))) (oNone)) (aNil)))) (aCons (eTup (aCons (eC (.int 4)) (aNil))) (aNil)))))))))))))))))))
theorem sc_law_hand : FnScope ["pen", "loop", "told", "rows", "wait"] ["pen"] (defScope (top 41)) := ⟨rfl, rfl, rfl, by decide +kernel, rfl, by decide +kernel, by decide +kernel⟩
theorem ok_law_hand (Z : Fx K mg base) : ∃ fd : FuncData, FunD K "_law_hand" "_law_hand" (defArgs (top 41)) (defBody (top 41)) (defScope (top 41)) [] [] (He.fAd K ("_law_hand", none)) fd ∧ FnOk P w K mg base (L2.CX P w) 10 (He.fAd K ("_law_hand", none)) fd ["pen"] (spF K (He.ga K) 1 (fnW 5 (t_law_hand (He.ga K)))) := by
  obtain ⟨fd, F⟩ := Z.c.def_ 32 (d := d36) rfl
  obtain ⟨fd_coming_rows, F_coming_rows, O_coming_rows⟩ := ok_coming_rows (P := P) (w := w) Z
  have b_coming_rows : Binds K fd_coming_rows ["network", "times", "steps"] [] := F_coming_rows.bindsN fun _ _ _ _ _ _ us hl => match us, hl with | [_, _, _], _ => rfl
  obtain ⟨fd_run_steps, F_run_steps, O_run_steps⟩ := ok_run_steps (P := P) (w := w) Z
  have b_run_steps : Binds K fd_run_steps ["network", "times", "steps"] [] := F_run_steps.bindsN fun _ _ _ _ _ _ us hl => match us, hl with | [_, _, _], _ => rfl
  obtain ⟨fd_quiet_behind, F_quiet_behind, O_quiet_behind⟩ := ok_quiet_behind (P := P) (w := w) Z
  have b_quiet_behind : Binds K fd_quiet_behind ["network", "times"] [] := F_quiet_behind.bindsN fun _ _ _ _ _ _ us hl => match us, hl with | [_, _], _ => rfl
  obtain ⟨fd_law_pick, F_law_pick, O_law_pick⟩ := ok_law_pick (P := P) (w := w) Z
  have b_law_pick : Binds K fd_law_pick ["pen", "place", "many"] [] := F_law_pick.bindsN fun _ _ _ _ _ _ us hl => match us, hl with | [_, _, _], _ => rfl
  obtain ⟨fd_law_same, F_law_same, O_law_same⟩ := ok_law_same (P := P) (w := w) Z
  have b_law_same : Binds K fd_law_same ["told", "due"] [] := F_law_same.bindsN fun _ _ _ _ _ _ us hl => match us, hl with | [_, _], _ => rfl
  obtain ⟨fd_law_runs, F_law_runs, O_law_runs⟩ := ok_law_runs (P := P) (w := w) Z
  have b_law_runs : Binds K fd_law_runs ["pen", "network", "times", "most"] [] := F_law_runs.bindsN fun _ _ _ _ _ _ us hl => match us, hl with | [_, _, _, _], _ => rfl
  obtain ⟨fd_law_turns, F_law_turns, O_law_turns⟩ := ok_law_turns (P := P) (w := w) Z
  have b_law_turns : Binds K fd_law_turns ["pen", "one", "times", "other", "rows"] [] := F_law_turns.bindsN fun _ _ _ _ _ _ us hl => match us, hl with | [_, _, _, _, _], _ => rfl
  have kb_quiet_behind_0_network_times : KBn K fd_quiet_behind ["network", "times"] 0 ["network", "times"] (kg [0, 1]) (kg [0, 1]) := WL.FunD.kb F_quiet_behind 0 ["network", "times"] [0, 1] fun _ _ _ _ _ _ us ws l1 l2 => match us, ws, l1, l2 with | [], [_, _], _, _ => rfl
  have kb_run_steps_0_network_times_steps : KBn K fd_run_steps ["network", "times", "steps"] 0 ["network", "times", "steps"] (kg [0, 1, 2]) (kg [0, 1, 2]) := WL.FunD.kb F_run_steps 0 ["network", "times", "steps"] [0, 1, 2] fun _ _ _ _ _ _ us ws l1 l2 => match us, ws, l1, l2 with | [], [_, _, _], _, _ => rfl
  have kb_coming_rows_0_steps_times_network : KBn K fd_coming_rows ["network", "times", "steps"] 0 ["steps", "times", "network"] (kg [2, 1, 0]) (kg [2, 1, 0]) := WL.FunD.kb F_coming_rows 0 ["steps", "times", "network"] [2, 1, 0] fun _ _ _ _ _ _ us ws l1 l2 => match us, ws, l1, l2 with | [], [_, _, _], _, _ => rfl
  refine ⟨fd, F, fn_w F sc_law_hand rfl fun cdv A outer s H E c hr => ?_⟩
  exact (ws_cons (ws_set (m := true) (i := 1) (ps_asg (we_tup (wa_cons we_int (wa_cons (we_tup (wa_cons (we_tup (wa_cons we_str (wa_cons (we_tup (wa_cons we_int (wa_cons we_int wa_nil))) (wa_cons we_int wa_nil)))) (wa_cons (we_tup (wa_cons we_str (wa_cons (we_tup (wa_cons we_int (wa_cons we_int wa_nil))) (wa_cons we_int wa_nil)))) (wa_cons (we_tup (wa_cons we_str (wa_cons (we_tup (wa_cons we_int wa_nil)) (wa_cons we_int wa_nil)))) (wa_cons (we_tup (wa_cons we_str (wa_cons (we_tup (wa_cons we_int wa_nil)) (wa_cons we_int wa_nil)))) wa_nil))))) wa_nil))) (pg_name (i := 1) sc_law_hand.nd rfl (loc_by rfl))))
      (ws_cons (ws_set (m := true) (i := 2) (ps_asg (we_tup (wa_cons (we_call O_run_steps (hr.mono (by decide)) (by rfl) Z.g_run_steps F_run_steps.kp b_run_steps (takes_of rfl rfl rfl rfl) (wa_cons (we_var (pv 1)) (wa_cons (we_tup (wa_cons we_int wa_nil)) (wa_cons we_int wa_nil)))) (wa_cons (we_callK0 O_quiet_behind (hr.mono (by decide)) (by rfl) Z.g_quiet_behind F_quiet_behind.kp kb_quiet_behind_0_network_times (takes_of rfl rfl rfl rfl) (wk_cons (we_var (pv 1)) (wk_cons (we_tup (wa_cons we_int wa_nil)) wk_nil))) wa_nil))) (pg_name (i := 2) sc_law_hand.nd rfl (loc_by rfl))))
      (ws_cons (ws_if (wt_not (wt_val (we_call O_law_same (hr.mono (by decide)) (by rfl) Z.g_law_same F_law_same.kp b_law_same (takes_of rfl rfl rfl rfl) (wa_cons (we_var (pv 2)) (wa_cons (we_tup (wa_cons (we_tup (wa_cons we_int (wa_cons we_int (wa_cons we_non (wa_cons we_int wa_nil))))) (wa_cons we_int wa_nil))) wa_nil))))) (ws_one (ws_ret we_bl)) ws_nil)
      (ws_cons (ws_if (wt_not (wt_val (we_call O_law_same (hr.mono (by decide)) (by rfl) Z.g_law_same F_law_same.kp b_law_same (takes_of rfl rfl rfl rfl) (wa_cons (we_callK0 O_run_steps (hr.mono (by decide)) (by rfl) Z.g_run_steps F_run_steps.kp kb_run_steps_0_network_times_steps (takes_of rfl rfl rfl rfl) (wk_cons (we_var (pv 1)) (wk_cons (we_tup (wa_cons we_int wa_nil)) (wk_cons we_int wk_nil)))) (wa_cons (we_tup (wa_cons we_int (wa_cons we_int (wa_cons we_int (wa_cons we_int wa_nil))))) wa_nil))))) (ws_one (ws_ret we_bl)) ws_nil)
      (ws_cons (ws_set (m := true) (i := 3) (ps_asg (we_callK0 O_coming_rows (hr.mono (by decide)) (by rfl) Z.g_coming_rows F_coming_rows.kp kb_coming_rows_0_steps_times_network (takes_of rfl rfl rfl rfl) (wk_cons we_int (wk_cons (we_tup (wa_cons we_int wa_nil)) (wk_cons (we_var (pv 1)) wk_nil)))) (pg_name (i := 3) sc_law_hand.nd rfl (loc_by rfl))))
      (ws_cons (ws_if (wt_not (wt_val (we_call O_law_same (hr.mono (by decide)) (by rfl) Z.g_law_same F_law_same.kp b_law_same (takes_of rfl rfl rfl rfl) (wa_cons (we_var (pv 3)) (wa_cons (we_tup (wa_cons (we_tup wa_nil) (wa_cons (we_tup wa_nil) (wa_cons (we_tup wa_nil) (wa_cons (we_tup wa_nil) (wa_cons (we_tup wa_nil) (wa_cons (we_tup (wa_cons we_int wa_nil)) (wa_cons (we_tup wa_nil) (wa_cons (we_tup wa_nil) (wa_cons (we_tup (wa_cons we_int (wa_cons we_int wa_nil))) (wa_cons (we_tup (wa_cons we_int wa_nil)) wa_nil))))))))))) wa_nil))))) (ws_one (ws_ret we_bl)) ws_nil)
      (ws_cons (ws_set (m := true) (i := 4) (ps_asg (we_tup (wa_cons we_int (wa_cons (we_tup (wa_cons (we_tup (wa_cons we_str (wa_cons (we_tup (wa_cons we_int (wa_cons we_int (wa_cons we_int wa_nil)))) (wa_cons we_int wa_nil)))) (wa_cons (we_tup (wa_cons we_str (wa_cons (we_tup (wa_cons we_int (wa_cons we_int wa_nil))) (wa_cons we_int wa_nil)))) (wa_cons (we_tup (wa_cons we_str (wa_cons (we_tup (wa_cons we_int (wa_cons we_int wa_nil))) (wa_cons we_int wa_nil)))) wa_nil)))) wa_nil))) (pg_name (i := 4) sc_law_hand.nd rfl (loc_by rfl))))
      (ws_cons (ws_set (m := true) (i := 2) (ps_asg (we_tup (wa_cons (we_call O_quiet_behind (hr.mono (by decide)) (by rfl) Z.g_quiet_behind F_quiet_behind.kp b_quiet_behind (takes_of rfl rfl rfl rfl) (wa_cons (we_var (pv 1)) (wa_cons (we_tup (wa_cons we_non wa_nil)) wa_nil))) (wa_cons (we_call O_quiet_behind (hr.mono (by decide)) (by rfl) Z.g_quiet_behind F_quiet_behind.kp b_quiet_behind (takes_of rfl rfl rfl rfl) (wa_cons (we_var (pv 4)) (wa_cons (we_tup (wa_cons we_int (wa_cons we_non wa_nil))) wa_nil))) (wa_cons (we_call O_quiet_behind (hr.mono (by decide)) (by rfl) Z.g_quiet_behind F_quiet_behind.kp b_quiet_behind (takes_of rfl rfl rfl rfl) (wa_cons (we_var (pv 4)) (wa_cons (we_tup (wa_cons we_non (wa_cons we_int wa_nil))) wa_nil))) wa_nil)))) (pg_name (i := 2) sc_law_hand.nd rfl (loc_by rfl))))
      (ws_cons (ws_if (wt_not (wt_val (we_call O_law_same (hr.mono (by decide)) (by rfl) Z.g_law_same F_law_same.kp b_law_same (takes_of rfl rfl rfl rfl) (wa_cons (we_tup (wa_cons (we_var (pv 2)) (wa_cons (we_call O_coming_rows (hr.mono (by decide)) (by rfl) Z.g_coming_rows F_coming_rows.kp b_coming_rows (takes_of rfl rfl rfl rfl) (wa_cons (we_var (pv 1)) (wa_cons (we_tup (wa_cons we_non wa_nil)) (wa_cons we_int wa_nil)))) wa_nil))) (wa_cons (we_tup (wa_cons (we_tup (wa_cons we_int (wa_cons we_int (wa_cons we_int wa_nil)))) (wa_cons (we_tup (wa_cons (we_tup wa_nil) (wa_cons (we_tup wa_nil) (wa_cons (we_tup wa_nil) wa_nil)))) wa_nil))) wa_nil))))) (ws_one (ws_ret we_bl)) ws_nil)
      (ws_cons (ws_set (m := true) (i := 2) (ps_asg (we_tup (wa_cons (we_call O_quiet_behind (hr.mono (by decide)) (by rfl) Z.g_quiet_behind F_quiet_behind.kp b_quiet_behind (takes_of rfl rfl rfl rfl) (wa_cons (we_tup (wa_cons we_int (wa_cons (we_tup wa_nil) wa_nil))) (wa_cons (we_tup (wa_cons we_int (wa_cons we_int wa_nil))) wa_nil))) (wa_cons (we_call O_run_steps (hr.mono (by decide)) (by rfl) Z.g_run_steps F_run_steps.kp b_run_steps (takes_of rfl rfl rfl rfl) (wa_cons (we_tup (wa_cons we_int (wa_cons (we_tup wa_nil) wa_nil))) (wa_cons (we_tup (wa_cons we_int (wa_cons we_int wa_nil))) (wa_cons we_int wa_nil)))) (wa_cons (we_call O_coming_rows (hr.mono (by decide)) (by rfl) Z.g_coming_rows F_coming_rows.kp b_coming_rows (takes_of rfl rfl rfl rfl) (wa_cons (we_tup (wa_cons we_int (wa_cons (we_tup wa_nil) wa_nil))) (wa_cons (we_tup (wa_cons we_int (wa_cons we_int wa_nil))) (wa_cons we_int wa_nil)))) wa_nil)))) (pg_name (i := 2) sc_law_hand.nd rfl (loc_by rfl))))
      (ws_cons (ws_if (wt_not (wt_val (we_call O_law_same (hr.mono (by decide)) (by rfl) Z.g_law_same F_law_same.kp b_law_same (takes_of rfl rfl rfl rfl) (wa_cons (we_var (pv 2)) (wa_cons (we_tup (wa_cons we_int (wa_cons (we_tup wa_nil) (wa_cons (we_tup (wa_cons (we_tup wa_nil) (wa_cons (we_tup wa_nil) wa_nil))) wa_nil)))) wa_nil))))) (ws_one (ws_ret we_bl)) ws_nil)
      (ws_one (ws_ret (we_and (we_call O_law_runs (hr.mono (by decide)) (by rfl) Z.g_law_runs F_law_runs.kp b_law_runs (takes_of rfl rfl rfl rfl) (wa_cons (we_var (pv 0)) (wa_cons (we_var (pv 4)) (wa_cons (we_tup (wa_cons (we_call O_law_pick (hr.mono (by decide)) (by rfl) Z.g_law_pick F_law_pick.kp b_law_pick (takes_of rfl rfl rfl rfl) (wa_cons (we_var (pv 0)) (wa_cons we_int (wa_cons we_int wa_nil)))) (wa_cons we_int wa_nil))) (wa_cons we_int wa_nil))))) (we_one (we_call O_law_turns (hr.mono (by decide)) (by rfl) Z.g_law_turns F_law_turns.kp b_law_turns (takes_of rfl rfl rfl rfl) (wa_cons (we_var (pv 0)) (wa_cons (we_var (pv 1)) (wa_cons (we_tup (wa_cons we_int wa_nil)) (wa_cons (we_tup (wa_cons we_int (wa_cons (we_sl (we_ixg w_item (we_var (pv 4)) we_int plain_ix) (wo_some we_int) wo_none) wa_nil))) (wa_cons (we_tup (wa_cons we_int wa_nil)) wa_nil)))))))))))))))))))))
/-! _law_gate -/
def t_law_gate (cl : Str → Addr) : TSw := sSeq (sAsgL true 6 (aNil)) (sSeq (sFor false (.nm 7) (iR1 (aCons (eOp rAdd (eC (.int 1)) (eCall (fnW 6 (t_law_pick cl)) (aCons (eVar 0) (aCons (eC (.int 1)) (aCons (eVar 4) (aNil)))))) (aNil))) (sSeq (sAsg true 8 (eCall (fnW 6 (t_law_pick cl)) (aCons (eVar 0) (aCons (eC (.int 2)) (aCons (eC (.int 7)) (aNil)))))) (sIf (tOrW (tTst (eOp rLtI (eVar 8) (eC (.int 3)))) (tAndW (tTst (eOp rLtI (eVar 8) (eC (.int 6)))) (tTst (eOp rEqW (eVar 3) (eC (.int 0)))))) (sDropM (mOwn true 6 mAppend (aCons (eCall (fnW 6 (t_law_pick cl)) (aCons (eVar 0) (aCons (eC (.int 3)) (aCons (eVar 1) (aNil))))) (aNil)))) (sDropM (mOwn true 6 mAppend (aCons (eOp rAdd (eVar 1) (eCall (fnW 6 (t_law_pick cl)) (aCons (eVar 0) (aCons (eC (.int 4)) (aCons (eIf (tTst (eOp rLtI (eVar 8) (eC (.int 6)))) (eVar 3) (eVar 2)) (aNil)))))) (aNil))))))) (sSeq (sAsg true 9 (eIx rItem (eTup (aCons (eC (.int 0)) (aCons (eC (.int 1)) (aCons (eC (.int 2)) (aCons (eCall (fnW 6 (t_law_pick cl)) (aCons (eVar 0) (aCons (eC (.int 5)) (aCons (eVar 5) (aNil))))) (aNil)))))) (eCall (fnW 6 (t_law_pick cl)) (aCons (eVar 0) (aCons (eC (.int 6)) (aCons (eC (.int 4)) (aNil))))))) (sRet (eTup (aCons (eIx rItem (eTup (aCons (eC (.str "first")) (aCons (eC (.str "last")) (aNil)))) (eCall (fnW 6 (t_law_pick cl)) (aCons (eVar 0) (aCons (eC (.int 0)) (aCons (eC (.int 2)) (aNil)))))) (aCons (eCG rTupOf (aCons (eVar 6) (aNil))) (aCons (eVar 9) (aNil))))))))
theorem sc_law_gate : FnScope ["pen", "many", "size", "at", "most", "far", "operands", "lap", "kind", "delay"] ["pen", "many", "size", "at", "most", "far"] (defScope (top 27)) := ⟨rfl, rfl, rfl, by decide +kernel, rfl, by decide +kernel, by decide +kernel⟩
theorem ok_law_gate (Z : Fx K mg base) : ∃ fd : FuncData, FunD K "_law_gate" "_law_gate" (defArgs (top 27)) (defBody (top 27)) (defScope (top 27)) [] [] (He.fAd K ("_law_gate", none)) fd ∧ FnOk P w K mg base (L2.CX P w) 2 (He.fAd K ("_law_gate", none)) fd ["pen", "many", "size", "at", "most", "far"] (spF K (He.ga K) 6 (fnW 10 (t_law_gate (He.ga K)))) := by
  obtain ⟨fd, F⟩ := Z.c.def_ 18 (d := d22) rfl
  obtain ⟨fd_law_pick, F_law_pick, O_law_pick⟩ := ok_law_pick (P := P) (w := w) Z
  have b_law_pick : Binds K fd_law_pick ["pen", "place", "many"] [] := F_law_pick.bindsN fun _ _ _ _ _ _ us hl => match us, hl with | [_, _, _], _ => rfl
  refine ⟨fd, F, fn_w F sc_law_gate rfl fun cdv A outer s H E c hr => ?_⟩
  exact (ws_cons (ws_setL (m := true) (i := 6) (ps_asg (wl_lst wa_nil) (pg_name (i := 6) sc_law_gate.nd rfl (loc_by rfl))))
      (ws_cons (ws_forR (passes_of rfl) rfl (wr_range1 (by rfl) Z.g_range (wa_cons (we_op w_add we_int (we_call O_law_pick (hr.mono (by decide)) (by rfl) Z.g_law_pick F_law_pick.kp b_law_pick (takes_of rfl rfl rfl rfl) (wa_cons (we_var (pv 0)) (wa_cons we_int (wa_cons (we_var (pv 4)) wa_nil))))) wa_nil)) (pg_name (i := 7) sc_law_gate.nd rfl (loc_by rfl)) (fun _ => (ws_cons (ws_set (m := true) (i := 8) (ps_asg (we_call O_law_pick (hr.mono (by decide)) (by rfl) Z.g_law_pick F_law_pick.kp b_law_pick (takes_of rfl rfl rfl rfl) (wa_cons (we_var (pv 0)) (wa_cons we_int (wa_cons we_int wa_nil)))) (pg_name (i := 8) sc_law_gate.nd rfl (loc_by rfl))))
      (ws_one (ws_if (wt_pw (ww_or (wt_cmp w_lt (we_var (pv 8)) we_int (nomark _)) (ww_or1 (wt_pw (ww_and (wt_cmp w_lt (we_var (pv 8)) we_int (nomark _)) (ww_and1 (wt_cmp (w_eq hr.units) (we_var (pv 3)) we_int (nomark _)))))))) (ws_one (ws_dropM (wm_own o_append (pe_bm PySem.F.plainAttrs_list PySem.F.slot_list_append PySem.F.type_list_append mt_append (pv 6) (wa_cons (we_call O_law_pick (hr.mono (by decide)) (by rfl) Z.g_law_pick F_law_pick.kp b_law_pick (takes_of rfl rfl rfl rfl) (wa_cons (we_var (pv 0)) (wa_cons we_int (wa_cons (we_var (pv 1)) wa_nil)))) wa_nil))))) (ws_one (ws_dropM (wm_own o_append (pe_bm PySem.F.plainAttrs_list PySem.F.slot_list_append PySem.F.type_list_append mt_append (pv 6) (wa_cons (we_op w_add (we_var (pv 1)) (we_call O_law_pick (hr.mono (by decide)) (by rfl) Z.g_law_pick F_law_pick.kp b_law_pick (takes_of rfl rfl rfl rfl) (wa_cons (we_var (pv 0)) (wa_cons we_int (wa_cons (we_if (wt_cmp w_lt (we_var (pv 8)) we_int (nomark _)) (we_var (pv 3)) (we_var (pv 2))) wa_nil))))) wa_nil))))))))))
      (ws_cons (ws_set (m := true) (i := 9) (ps_asg (we_ixg w_item (we_tup (wa_cons we_int (wa_cons we_int (wa_cons we_int (wa_cons (we_call O_law_pick (hr.mono (by decide)) (by rfl) Z.g_law_pick F_law_pick.kp b_law_pick (takes_of rfl rfl rfl rfl) (wa_cons (we_var (pv 0)) (wa_cons we_int (wa_cons (we_var (pv 5)) wa_nil)))) wa_nil))))) (we_call O_law_pick (hr.mono (by decide)) (by rfl) Z.g_law_pick F_law_pick.kp b_law_pick (takes_of rfl rfl rfl rfl) (wa_cons (we_var (pv 0)) (wa_cons we_int (wa_cons we_int wa_nil)))) plain_ix) (pg_name (i := 9) sc_law_gate.nd rfl (loc_by rfl))))
      (ws_one (ws_ret (we_tup (wa_cons (we_ixg w_item (we_tup (wa_cons we_str (wa_cons we_str wa_nil))) (we_call O_law_pick (hr.mono (by decide)) (by rfl) Z.g_law_pick F_law_pick.kp b_law_pick (takes_of rfl rfl rfl rfl) (wa_cons (we_var (pv 0)) (wa_cons we_int (wa_cons we_int wa_nil)))) plain_ix) (wa_cons (we_cgT w_tupOf (by rfl) Z.g_tuple boot_tuple (wa_cons (we_var (pv 6)) wa_nil)) (wa_cons (we_var (pv 9)) wa_nil)))))))))
/-! _law_network -/
def t_law_network (cl : Str → Addr) : TSw := sRet (eTup (aCons (eVar 1) (aCons (eCG rTupOf (aCons (eL (lComp (.nm 5) [5] (iR1 (aCons (eVar 2) (aNil))) (tYesW) (eCall (fnW 10 (t_law_gate cl)) (aCons (eVar 0) (aCons (eVar 1) (aCons (eVar 2) (aCons (eVar 5) (aCons (eVar 3) (aCons (eVar 4) (aNil)))))))))) (aNil))) (aNil))))
theorem sc_law_network : FnScope ["pen", "many", "size", "most", "far", "at"] ["pen", "many", "size", "most", "far"] (defScope (top 28)) := ⟨rfl, rfl, rfl, by decide +kernel, rfl, by decide +kernel, by decide +kernel⟩
theorem ok_law_network (Z : Fx K mg base) : ∃ fd : FuncData, FunD K "_law_network" "_law_network" (defArgs (top 28)) (defBody (top 28)) (defScope (top 28)) [] [] (He.fAd K ("_law_network", none)) fd ∧ FnOk P w K mg base (L2.CX P w) 3 (He.fAd K ("_law_network", none)) fd ["pen", "many", "size", "most", "far"] (spF K (He.ga K) 5 (fnW 6 (t_law_network (He.ga K)))) := by
  obtain ⟨fd, F⟩ := Z.c.def_ 19 (d := d23) rfl
  obtain ⟨fd_law_gate, F_law_gate, O_law_gate⟩ := ok_law_gate (P := P) (w := w) Z
  have b_law_gate : Binds K fd_law_gate ["pen", "many", "size", "at", "most", "far"] [] := F_law_gate.bindsN fun _ _ _ _ _ _ us hl => match us, hl with | [_, _, _, _, _, _], _ => rfl
  refine ⟨fd, F, fn_w F sc_law_network rfl fun cdv A outer s H E c hr => ?_⟩
  exact (ws_one (ws_ret (we_tup (wa_cons (we_var (pv 1)) (wa_cons (we_cgT w_tupOf (by rfl) Z.g_tuple boot_tuple (wa_cons (we_l (wl_lc (tg := (.nm 5)) rfl sc_law_network.nd (wi_rng (wr_range1 (by rfl) Z.g_range (wa_cons (we_var (pv 2)) wa_nil))) (blkOk_by (N := _) (sc := _) (own := [("at", 5)]) (by first | rfl | decide +kernel)) (fun _ _ _ _ _ => (pg_name (i := 5) sc_law_network.nd rfl (loc_by rfl))) (fun _ _ _ _ _ => wp_nil) (fun _ _ _ _ _ => (we_call O_law_gate (hr.mono (by decide)) (by rfl) Z.g_law_gate F_law_gate.kp b_law_gate takes_blk (wa_cons (we_var (pv 0)) (wa_cons (we_var (pv 1)) (wa_cons (we_var (pv 2)) (wa_cons (we_var (pv 5)) (wa_cons (we_var (pv 3)) (wa_cons (we_var (pv 4)) wa_nil)))))))))) wa_nil)) wa_nil)))))
/-! _law_scene -/
def t_law_scene (cl : Str → Addr) : TSw := sSeq (sAsg true 1 (eOp rAdd (eC (.int 1)) (eCall (fnW 6 (t_law_pick cl)) (aCons (eVar 0) (aCons (eC (.int 3)) (aCons (eC (.int 4)) (aNil))))))) (sSeq (sAsg true 2 (eCall (fnW 6 (t_law_network cl)) (aCons (eVar 0) (aCons (eVar 1) (aCons (eOp rAdd (eC (.int 1)) (eCall (fnW 6 (t_law_pick cl)) (aCons (eVar 0) (aCons (eC (.int 1)) (aCons (eC (.int 8)) (aNil)))))) (aCons (eC (.int 3)) (aCons (eC (.int 6)) (aNil)))))))) (sSeq (sAsg true 3 (eCall (fnW 6 (t_law_row cl)) (aCons (eVar 0) (aCons (eVar 1) (aCons (eC (.int 15)) (aNil)))))) (sSeq (sIf (tNotW (tTst (eCall (fnW 7 (t_law_runs cl)) (aCons (eVar 0) (aCons (eVar 2) (aCons (eVar 3) (aCons (eC (.int 30)) (aNil)))))))) (sRet (eC (.bl false))) (sSkip)) (sSeq (sAsg true 4 (eCall (fnW 6 (t_law_network cl)) (aCons (eVar 0) (aCons (eVar 1) (aCons (eOp rAdd (eC (.int 1)) (eCall (fnW 6 (t_law_pick cl)) (aCons (eVar 0) (aCons (eC (.int 2)) (aCons (eC (.int 5)) (aNil)))))) (aCons (eC (.int 2)) (aCons (eC (.int 4)) (aNil)))))))) (sRet (eCall (fnW 10 (t_law_turns cl)) (aCons (eVar 0) (aCons (eVar 2) (aCons (eVar 3) (aCons (eVar 4) (aCons (eCall (fnW 6 (t_law_row cl)) (aCons (eVar 0) (aCons (eVar 1) (aCons (eC (.int 9)) (aNil))))) (aNil))))))))))))
theorem sc_law_scene : FnScope ["pen", "many", "network", "times", "other"] ["pen"] (defScope (top 38)) := ⟨rfl, rfl, rfl, by decide +kernel, rfl, by decide +kernel, by decide +kernel⟩
theorem ok_law_scene (Z : Fx K mg base) : ∃ fd : FuncData, FunD K "_law_scene" "_law_scene" (defArgs (top 38)) (defBody (top 38)) (defScope (top 38)) [] [] (He.fAd K ("_law_scene", none)) fd ∧ FnOk P w K mg base (L2.CX P w) 10 (He.fAd K ("_law_scene", none)) fd ["pen"] (spF K (He.ga K) 1 (fnW 5 (t_law_scene (He.ga K)))) := by
  obtain ⟨fd, F⟩ := Z.c.def_ 29 (d := d33) rfl
  obtain ⟨fd_law_pick, F_law_pick, O_law_pick⟩ := ok_law_pick (P := P) (w := w) Z
  have b_law_pick : Binds K fd_law_pick ["pen", "place", "many"] [] := F_law_pick.bindsN fun _ _ _ _ _ _ us hl => match us, hl with | [_, _, _], _ => rfl
  obtain ⟨fd_law_network, F_law_network, O_law_network⟩ := ok_law_network (P := P) (w := w) Z
  have b_law_network : Binds K fd_law_network ["pen", "many", "size", "most", "far"] [] := F_law_network.bindsN fun _ _ _ _ _ _ us hl => match us, hl with | [_, _, _, _, _], _ => rfl
  obtain ⟨fd_law_row, F_law_row, O_law_row⟩ := ok_law_row (P := P) (w := w) Z
  have b_law_row : Binds K fd_law_row ["pen", "many", "far"] [] := F_law_row.bindsN fun _ _ _ _ _ _ us hl => match us, hl with | [_, _, _], _ => rfl
  obtain ⟨fd_law_runs, F_law_runs, O_law_runs⟩ := ok_law_runs (P := P) (w := w) Z
  have b_law_runs : Binds K fd_law_runs ["pen", "network", "times", "most"] [] := F_law_runs.bindsN fun _ _ _ _ _ _ us hl => match us, hl with | [_, _, _, _], _ => rfl
  obtain ⟨fd_law_turns, F_law_turns, O_law_turns⟩ := ok_law_turns (P := P) (w := w) Z
  have b_law_turns : Binds K fd_law_turns ["pen", "one", "times", "other", "rows"] [] := F_law_turns.bindsN fun _ _ _ _ _ _ us hl => match us, hl with | [_, _, _, _, _], _ => rfl
  refine ⟨fd, F, fn_w F sc_law_scene rfl fun cdv A outer s H E c hr => ?_⟩
  exact (ws_cons (ws_set (m := true) (i := 1) (ps_asg (we_op w_add we_int (we_call O_law_pick (hr.mono (by decide)) (by rfl) Z.g_law_pick F_law_pick.kp b_law_pick (takes_of rfl rfl rfl rfl) (wa_cons (we_var (pv 0)) (wa_cons we_int (wa_cons we_int wa_nil))))) (pg_name (i := 1) sc_law_scene.nd rfl (loc_by rfl))))
      (ws_cons (ws_set (m := true) (i := 2) (ps_asg (we_call O_law_network (hr.mono (by decide)) (by rfl) Z.g_law_network F_law_network.kp b_law_network (takes_of rfl rfl rfl rfl) (wa_cons (we_var (pv 0)) (wa_cons (we_var (pv 1)) (wa_cons (we_op w_add we_int (we_call O_law_pick (hr.mono (by decide)) (by rfl) Z.g_law_pick F_law_pick.kp b_law_pick (takes_of rfl rfl rfl rfl) (wa_cons (we_var (pv 0)) (wa_cons we_int (wa_cons we_int wa_nil))))) (wa_cons we_int (wa_cons we_int wa_nil)))))) (pg_name (i := 2) sc_law_scene.nd rfl (loc_by rfl))))
      (ws_cons (ws_set (m := true) (i := 3) (ps_asg (we_call O_law_row (hr.mono (by decide)) (by rfl) Z.g_law_row F_law_row.kp b_law_row (takes_of rfl rfl rfl rfl) (wa_cons (we_var (pv 0)) (wa_cons (we_var (pv 1)) (wa_cons we_int wa_nil)))) (pg_name (i := 3) sc_law_scene.nd rfl (loc_by rfl))))
      (ws_cons (ws_if (wt_not (wt_val (we_call O_law_runs (hr.mono (by decide)) (by rfl) Z.g_law_runs F_law_runs.kp b_law_runs (takes_of rfl rfl rfl rfl) (wa_cons (we_var (pv 0)) (wa_cons (we_var (pv 2)) (wa_cons (we_var (pv 3)) (wa_cons we_int wa_nil))))))) (ws_one (ws_ret we_bl)) ws_nil)
      (ws_cons (ws_set (m := true) (i := 4) (ps_asg (we_call O_law_network (hr.mono (by decide)) (by rfl) Z.g_law_network F_law_network.kp b_law_network (takes_of rfl rfl rfl rfl) (wa_cons (we_var (pv 0)) (wa_cons (we_var (pv 1)) (wa_cons (we_op w_add we_int (we_call O_law_pick (hr.mono (by decide)) (by rfl) Z.g_law_pick F_law_pick.kp b_law_pick (takes_of rfl rfl rfl rfl) (wa_cons (we_var (pv 0)) (wa_cons we_int (wa_cons we_int wa_nil))))) (wa_cons we_int (wa_cons we_int wa_nil)))))) (pg_name (i := 4) sc_law_scene.nd rfl (loc_by rfl))))
      (ws_one (ws_ret (we_call O_law_turns (hr.mono (by decide)) (by rfl) Z.g_law_turns F_law_turns.kp b_law_turns (takes_of rfl rfl rfl rfl) (wa_cons (we_var (pv 0)) (wa_cons (we_var (pv 2)) (wa_cons (we_var (pv 3)) (wa_cons (we_var (pv 4)) (wa_cons (we_call O_law_row (hr.mono (by decide)) (by rfl) Z.g_law_row F_law_row.kp b_law_row (takes_of rfl rfl rfl rfl) (wa_cons (we_var (pv 0)) (wa_cons (we_var (pv 1)) (wa_cons we_int wa_nil)))) wa_nil)))))))))))))
/-! _law_wide -/
def t_law_wide (cl : Str → Addr) : TSw := sSeq (sAsgL true 2 (aCons (eTup (aCons (eC (.str "last")) (aCons (eCG rTupOf (aCons (eL (lComp (.nm 1) [1] (iR1 (aCons (eC (.int 60)) (aNil))) (tYesW) (eOp rModI (eCG rInt (aCons (eVar 1) (aNil))) (eC (.int 6))))) (aNil))) (aCons (eCall (fnW 6 (t_law_pick cl)) (aCons (eVar 0) (aCons (eC (.int 5)) (aCons (eC (.int 4)) (aNil))))) (aNil))))) (aNil))) (sSeq (sDropM (mExtL true 2 (lComp (.nm 1) [1] (iR2 (aCons (eC (.int 1)) (aCons (eC (.int 12)) (aNil)))) (tYesW) (eTup (aCons (eIx rItem (eTup (aCons (eC (.str "first")) (aCons (eC (.str "last")) (aNil)))) (eCall (fnW 6 (t_law_pick cl)) (aCons (eVar 0) (aCons (eC (.int 0)) (aCons (eC (.int 2)) (aNil)))))) (aCons (eTup (aCons (eOp rAdd (eOp rAdd (eC (.int 6)) (eVar 1)) (eC (.int 1))) (aNil))) (aCons (eC (.int 0)) (aNil)))))))) (sSeq (sDropM (mOwn true 2 mAppend (aCons (eTup (aCons (eC (.str "first")) (aCons (eTup (aCons (eC (.int 0)) (aCons (eC (.int 6)) (aNil)))) (aCons (eC (.int 1)) (aNil))))) (aNil)))) (sSeq (sDropM (mExtL true 2 (lComp (.nm 1) [1] (iR2 (aCons (eC (.int 13)) (aCons (eC (.int 40)) (aNil)))) (tYesW) (eCall (fnW 10 (t_law_gate cl)) (aCons (eVar 0) (aCons (eC (.int 6)) (aCons (eC (.int 40)) (aCons (eVar 1) (aCons (eC (.int 4)) (aCons (eC (.int 7)) (aNil))))))))))) (sSeq (sAsg true 3 (eOp rAdd (eTup (aCons (eCall (fnW 6 (t_law_pick cl)) (aCons (eVar 0) (aCons (eC (.int 6)) (aCons (eC (.int 9)) (aNil))))) (aNil))) (eCall (fnW 6 (t_law_row cl)) (aCons (eVar 0) (aCons (eC (.int 5)) (aCons (eC (.int 40)) (aNil))))))) (sRet (eCall (fnW 7 (t_law_runs cl)) (aCons (eVar 0) (aCons (eTup (aCons (eC (.int 6)) (aCons (eCG rTupOf (aCons (eVar 2) (aNil))) (aNil)))) (aCons (eVar 3) (aCons (eC (.int 60)) (aNil)))))))))))
theorem sc_law_wide : FnScope ["pen", "at", "gates", "times"] ["pen"] (defScope (top 39)) := ⟨rfl, rfl, rfl, by decide +kernel, rfl, by decide +kernel, by decide +kernel⟩
theorem ok_law_wide (Z : Fx K mg base) : ∃ fd : FuncData, FunD K "_law_wide" "_law_wide" (defArgs (top 39)) (defBody (top 39)) (defScope (top 39)) [] [] (He.fAd K ("_law_wide", none)) fd ∧ FnOk P w K mg base (L2.CX P w) 10 (He.fAd K ("_law_wide", none)) fd ["pen"] (spF K (He.ga K) 1 (fnW 4 (t_law_wide (He.ga K)))) := by
  obtain ⟨fd, F⟩ := Z.c.def_ 30 (d := d34) rfl
  obtain ⟨fd_law_pick, F_law_pick, O_law_pick⟩ := ok_law_pick (P := P) (w := w) Z
  have b_law_pick : Binds K fd_law_pick ["pen", "place", "many"] [] := F_law_pick.bindsN fun _ _ _ _ _ _ us hl => match us, hl with | [_, _, _], _ => rfl
  obtain ⟨fd_law_gate, F_law_gate, O_law_gate⟩ := ok_law_gate (P := P) (w := w) Z
  have b_law_gate : Binds K fd_law_gate ["pen", "many", "size", "at", "most", "far"] [] := F_law_gate.bindsN fun _ _ _ _ _ _ us hl => match us, hl with | [_, _, _, _, _, _], _ => rfl
  obtain ⟨fd_law_row, F_law_row, O_law_row⟩ := ok_law_row (P := P) (w := w) Z
  have b_law_row : Binds K fd_law_row ["pen", "many", "far"] [] := F_law_row.bindsN fun _ _ _ _ _ _ us hl => match us, hl with | [_, _, _], _ => rfl
  obtain ⟨fd_law_runs, F_law_runs, O_law_runs⟩ := ok_law_runs (P := P) (w := w) Z
  have b_law_runs : Binds K fd_law_runs ["pen", "network", "times", "most"] [] := F_law_runs.bindsN fun _ _ _ _ _ _ us hl => match us, hl with | [_, _, _, _], _ => rfl
  refine ⟨fd, F, fn_w F sc_law_wide rfl fun cdv A outer s H E c hr => ?_⟩
  exact (ws_cons (ws_setL (m := true) (i := 2) (ps_asg (wl_lst (wa_cons (we_tup (wa_cons we_str (wa_cons (we_cgT w_tupOf (by rfl) Z.g_tuple boot_tuple (wa_cons (we_l (wl_lc (tg := (.nm 1)) rfl sc_law_wide.nd (wi_rng (wr_range1 (by rfl) Z.g_range (wa_cons we_int wa_nil))) (blkOk_by (N := _) (sc := _) (own := [("at", 1)]) (by first | rfl | decide +kernel)) (fun _ _ _ _ _ => (pg_name (i := 1) sc_law_wide.nd rfl (loc_by rfl))) (fun _ _ _ _ _ => wp_nil) (fun _ _ _ _ _ => (we_op w_mod (we_cgT w_int (by rfl) Z.g_int boot_int (wa_cons (we_var (pv 1)) wa_nil)) we_int)))) wa_nil)) (wa_cons (we_call O_law_pick (hr.mono (by decide)) (by rfl) Z.g_law_pick F_law_pick.kp b_law_pick (takes_of rfl rfl rfl rfl) (wa_cons (we_var (pv 0)) (wa_cons we_int (wa_cons we_int wa_nil)))) wa_nil)))) wa_nil)) (pg_name (i := 2) sc_law_wide.nd rfl (loc_by rfl))))
      (ws_cons (ws_dropM (wm_extL (pe_bm PySem.F.plainAttrs_list PySem.F.slot_list_extend PySem.F.type_list_extend mt_extend (pv 2) (pa_cons (wl_lc (tg := (.nm 1)) rfl sc_law_wide.nd (wi_rng (wr_range2 (by rfl) Z.g_range (wa_cons we_int (wa_cons we_int wa_nil)))) (blkOk_by (N := _) (sc := _) (own := [("at", 1)]) (by first | rfl | decide +kernel)) (fun _ _ _ _ _ => (pg_name (i := 1) sc_law_wide.nd rfl (loc_by rfl))) (fun _ _ _ _ _ => wp_nil) (fun _ _ _ _ _ => (we_tup (wa_cons (we_ixg w_item (we_tup (wa_cons we_str (wa_cons we_str wa_nil))) (we_call O_law_pick (hr.mono (by decide)) (by rfl) Z.g_law_pick F_law_pick.kp b_law_pick takes_blk (wa_cons (we_var (pv 0)) (wa_cons we_int (wa_cons we_int wa_nil)))) plain_ix) (wa_cons (we_tup (wa_cons (we_op w_add (we_op w_add we_int (we_var (pv 1))) we_int) wa_nil)) (wa_cons we_int wa_nil)))))) pa_nil))))
      (ws_cons (ws_dropM (wm_own o_append (pe_bm PySem.F.plainAttrs_list PySem.F.slot_list_append PySem.F.type_list_append mt_append (pv 2) (wa_cons (we_tup (wa_cons we_str (wa_cons (we_tup (wa_cons we_int (wa_cons we_int wa_nil))) (wa_cons we_int wa_nil)))) wa_nil))))
      (ws_cons (ws_dropM (wm_extL (pe_bm PySem.F.plainAttrs_list PySem.F.slot_list_extend PySem.F.type_list_extend mt_extend (pv 2) (pa_cons (wl_lc (tg := (.nm 1)) rfl sc_law_wide.nd (wi_rng (wr_range2 (by rfl) Z.g_range (wa_cons we_int (wa_cons we_int wa_nil)))) (blkOk_by (N := _) (sc := _) (own := [("at", 1)]) (by first | rfl | decide +kernel)) (fun _ _ _ _ _ => (pg_name (i := 1) sc_law_wide.nd rfl (loc_by rfl))) (fun _ _ _ _ _ => wp_nil) (fun _ _ _ _ _ => (we_call O_law_gate (hr.mono (by decide)) (by rfl) Z.g_law_gate F_law_gate.kp b_law_gate takes_blk (wa_cons (we_var (pv 0)) (wa_cons we_int (wa_cons we_int (wa_cons (we_var (pv 1)) (wa_cons we_int (wa_cons we_int wa_nil))))))))) pa_nil))))
      (ws_cons (ws_set (m := true) (i := 3) (ps_asg (we_op w_add (we_tup (wa_cons (we_call O_law_pick (hr.mono (by decide)) (by rfl) Z.g_law_pick F_law_pick.kp b_law_pick (takes_of rfl rfl rfl rfl) (wa_cons (we_var (pv 0)) (wa_cons we_int (wa_cons we_int wa_nil)))) wa_nil)) (we_call O_law_row (hr.mono (by decide)) (by rfl) Z.g_law_row F_law_row.kp b_law_row (takes_of rfl rfl rfl rfl) (wa_cons (we_var (pv 0)) (wa_cons we_int (wa_cons we_int wa_nil))))) (pg_name (i := 3) sc_law_wide.nd rfl (loc_by rfl))))
      (ws_one (ws_ret (we_call O_law_runs (hr.mono (by decide)) (by rfl) Z.g_law_runs F_law_runs.kp b_law_runs (takes_of rfl rfl rfl rfl) (wa_cons (we_var (pv 0)) (wa_cons (we_tup (wa_cons we_int (wa_cons (we_cgT w_tupOf (by rfl) Z.g_tuple boot_tuple (wa_cons (we_var (pv 2)) wa_nil)) wa_nil))) (wa_cons (we_var (pv 3)) (wa_cons we_int wa_nil))))))))))))
/-! _law_far -/
def t_law_far (cl : Str → Addr) : TSw := sSeq (sAsg true 1 (eOp rAdd (eC (.int 1000)) (eCall (fnW 6 (t_law_pick cl)) (aCons (eVar 0) (aCons (eC (.int 5)) (aCons (eC (.int 980)) (aNil))))))) (sSeq (sAsg true 2 (eTup (aCons (eC (.str "first")) (aCons (eTup (aCons (eC (.int 2)) (aCons (eC (.int 0)) (aNil)))) (aCons (eCall (fnW 6 (t_law_pick cl)) (aCons (eVar 0) (aCons (eC (.int 6)) (aCons (eC (.int 9)) (aNil))))) (aNil)))))) (sSeq (sAsg true 3 (eTup (aCons (eC (.int 3)) (aCons (eTup (aCons (eVar 2) (aCons (eTup (aCons (eC (.str "last")) (aCons (eTup (aCons (eC (.int 0)) (aCons (eC (.int 1)) (aNil)))) (aCons (eVar 1) (aNil))))) (aCons (eTup (aCons (eC (.str "last")) (aCons (eTup (aCons (eC (.int 4)) (aCons (eC (.int 2)) (aNil)))) (aCons (eC (.int 0)) (aNil))))) (aCons (eTup (aCons (eC (.str "first")) (aCons (eTup (aCons (eC (.int 3)) (aNil))) (aCons (eC (.int 7)) (aNil))))) (aNil)))))) (aNil))))) (sSeq (sAsg true 4 (eTup (aCons (eCall (fnW 6 (t_law_pick cl)) (aCons (eVar 0) (aCons (eC (.int 7)) (aCons (eC (.int 9)) (aNil))))) (aCons (eC (.int 5)) (aCons (eOp rSubI (eC (.int 99999)) (eCall (fnW 6 (t_law_pick cl)) (aCons (eVar 0) (aCons (eC (.int 8)) (aCons (eC (.int 9)) (aNil)))))) (aNil)))))) (sSeq (sAsg true 5 (eCall (fnW 14 (t_law_comes cl)) (aCons (eVar 3) (aCons (eVar 4) (aNil))))) (sSeq (sFor true (.nm 6) (iW (eTup (aCons (eC (.int 2000)) (aCons (eOp rAdd (eC (.int 1200)) (eCall (fnW 6 (t_law_pick cl)) (aCons (eVar 0) (aCons (eC (.int 3)) (aCons (eC (.int 800)) (aNil)))))) (aNil))))) (sIf (tNotW (tTst (eCall (fnW 5 (t_law_asked cl)) (aCons (eVar 3) (aCons (eVar 4) (aCons (eVar 5) (aCons (eVar 6) (aNil)))))))) (sRet (eC (.bl false))) (sSkip))) (sSeq (sAsg true 7 (eTup (aCons (eC (.int 3)) (aCons (eC (.int 4)) (aCons (eOp rSubI (eC (.int 9999)) (eCall (fnW 6 (t_law_pick cl)) (aCons (eVar 0) (aCons (eC (.int 4)) (aCons (eC (.int 3000)) (aNil)))))) (aNil)))))) (sRet (eAnd (eCall (fnW 8 (t_law_whole cl)) (aCons (eVar 3) (aCons (eVar 7) (aCons (eCall (fnW 14 (t_law_comes cl)) (aCons (eVar 3) (aCons (eVar 7) (aNil)))) (aNil))))) (eCall (fnW 7 (t_law_runs cl)) (aCons (eVar 0) (aCons (eVar 3) (aCons (eTup (aCons (eC (.int 2)) (aCons (eC (.int 0)) (aCons (eC .non) (aNil))))) (aCons (eC (.int 2000)) (aNil))))))))))))))
theorem sc_law_far : FnScope ["pen", "late", "first", "network", "times", "due", "steps", "rows"] ["pen"] (defScope (top 40)) := ⟨rfl, rfl, rfl, by decide +kernel, rfl, by decide +kernel, by decide +kernel⟩
theorem ok_law_far (Z : Fx K mg base) : ∃ fd : FuncData, FunD K "_law_far" "_law_far" (defArgs (top 40)) (defBody (top 40)) (defScope (top 40)) [] [] (He.fAd K ("_law_far", none)) fd ∧ FnOk P w K mg base (L2.CX P w) 10 (He.fAd K ("_law_far", none)) fd ["pen"] (spF K (He.ga K) 1 (fnW 8 (t_law_far (He.ga K)))) := by
  obtain ⟨fd, F⟩ := Z.c.def_ 31 (d := d35) rfl
  obtain ⟨fd_law_pick, F_law_pick, O_law_pick⟩ := ok_law_pick (P := P) (w := w) Z
  have b_law_pick : Binds K fd_law_pick ["pen", "place", "many"] [] := F_law_pick.bindsN fun _ _ _ _ _ _ us hl => match us, hl with | [_, _, _], _ => rfl
  obtain ⟨fd_law_comes, F_law_comes, O_law_comes⟩ := ok_law_comes (P := P) (w := w) Z
  have b_law_comes : Binds K fd_law_comes ["network", "times"] [] := F_law_comes.bindsN fun _ _ _ _ _ _ us hl => match us, hl with | [_, _], _ => rfl
  obtain ⟨fd_law_asked, F_law_asked, O_law_asked⟩ := ok_law_asked (P := P) (w := w) Z
  have b_law_asked : Binds K fd_law_asked ["network", "times", "due", "steps"] [] := F_law_asked.bindsN fun _ _ _ _ _ _ us hl => match us, hl with | [_, _, _, _], _ => rfl
  obtain ⟨fd_law_whole, F_law_whole, O_law_whole⟩ := ok_law_whole (P := P) (w := w) Z
  have b_law_whole : Binds K fd_law_whole ["network", "times", "due"] [] := F_law_whole.bindsN fun _ _ _ _ _ _ us hl => match us, hl with | [_, _, _], _ => rfl
  obtain ⟨fd_law_runs, F_law_runs, O_law_runs⟩ := ok_law_runs (P := P) (w := w) Z
  have b_law_runs : Binds K fd_law_runs ["pen", "network", "times", "most"] [] := F_law_runs.bindsN fun _ _ _ _ _ _ us hl => match us, hl with | [_, _, _, _], _ => rfl
  refine ⟨fd, F, fn_w F sc_law_far rfl fun cdv A outer s H E c hr => ?_⟩
  exact (ws_cons (ws_set (m := true) (i := 1) (ps_asg (we_op w_add we_int (we_call O_law_pick (hr.mono (by decide)) (by rfl) Z.g_law_pick F_law_pick.kp b_law_pick (takes_of rfl rfl rfl rfl) (wa_cons (we_var (pv 0)) (wa_cons we_int (wa_cons we_int wa_nil))))) (pg_name (i := 1) sc_law_far.nd rfl (loc_by rfl))))
      (ws_cons (ws_set (m := true) (i := 2) (ps_asg (we_tup (wa_cons we_str (wa_cons (we_tup (wa_cons we_int (wa_cons we_int wa_nil))) (wa_cons (we_call O_law_pick (hr.mono (by decide)) (by rfl) Z.g_law_pick F_law_pick.kp b_law_pick (takes_of rfl rfl rfl rfl) (wa_cons (we_var (pv 0)) (wa_cons we_int (wa_cons we_int wa_nil)))) wa_nil)))) (pg_name (i := 2) sc_law_far.nd rfl (loc_by rfl))))
      (ws_cons (ws_set (m := true) (i := 3) (ps_asg (we_tup (wa_cons we_int (wa_cons (we_tup (wa_cons (we_var (pv 2)) (wa_cons (we_tup (wa_cons we_str (wa_cons (we_tup (wa_cons we_int (wa_cons we_int wa_nil))) (wa_cons (we_var (pv 1)) wa_nil)))) (wa_cons (we_tup (wa_cons we_str (wa_cons (we_tup (wa_cons we_int (wa_cons we_int wa_nil))) (wa_cons we_int wa_nil)))) (wa_cons (we_tup (wa_cons we_str (wa_cons (we_tup (wa_cons we_int wa_nil)) (wa_cons we_int wa_nil)))) wa_nil))))) wa_nil))) (pg_name (i := 3) sc_law_far.nd rfl (loc_by rfl))))
      (ws_cons (ws_set (m := true) (i := 4) (ps_asg (we_tup (wa_cons (we_call O_law_pick (hr.mono (by decide)) (by rfl) Z.g_law_pick F_law_pick.kp b_law_pick (takes_of rfl rfl rfl rfl) (wa_cons (we_var (pv 0)) (wa_cons we_int (wa_cons we_int wa_nil)))) (wa_cons we_int (wa_cons (we_op w_sub we_int (we_call O_law_pick (hr.mono (by decide)) (by rfl) Z.g_law_pick F_law_pick.kp b_law_pick (takes_of rfl rfl rfl rfl) (wa_cons (we_var (pv 0)) (wa_cons we_int (wa_cons we_int wa_nil))))) wa_nil)))) (pg_name (i := 4) sc_law_far.nd rfl (loc_by rfl))))
      (ws_cons (ws_set (m := true) (i := 5) (ps_asg (we_call O_law_comes (hr.mono (by decide)) (by rfl) Z.g_law_comes F_law_comes.kp b_law_comes (takes_of rfl rfl rfl rfl) (wa_cons (we_var (pv 3)) (wa_cons (we_var (pv 4)) wa_nil))) (pg_name (i := 5) sc_law_far.nd rfl (loc_by rfl))))
      (ws_cons (ws_for (tg := (.nm 6)) (passes_of rfl) rfl (wi_seq (we_tup (wa_cons we_int (wa_cons (we_op w_add we_int (we_call O_law_pick (hr.mono (by decide)) (by rfl) Z.g_law_pick F_law_pick.kp b_law_pick (takes_of rfl rfl rfl rfl) (wa_cons (we_var (pv 0)) (wa_cons we_int (wa_cons we_int wa_nil))))) wa_nil)))) (pg_name (i := 6) sc_law_far.nd rfl (loc_by rfl)) (fun _ => (ws_one (ws_if (wt_not (wt_val (we_call O_law_asked (hr.mono (by decide)) (by rfl) Z.g_law_asked F_law_asked.kp b_law_asked (takes_of rfl rfl rfl rfl) (wa_cons (we_var (pv 3)) (wa_cons (we_var (pv 4)) (wa_cons (we_var (pv 5)) (wa_cons (we_var (pv 6)) wa_nil))))))) (ws_one (ws_ret we_bl)) ws_nil))))
      (ws_cons (ws_set (m := true) (i := 7) (ps_asg (we_tup (wa_cons we_int (wa_cons we_int (wa_cons (we_op w_sub we_int (we_call O_law_pick (hr.mono (by decide)) (by rfl) Z.g_law_pick F_law_pick.kp b_law_pick (takes_of rfl rfl rfl rfl) (wa_cons (we_var (pv 0)) (wa_cons we_int (wa_cons we_int wa_nil))))) wa_nil)))) (pg_name (i := 7) sc_law_far.nd rfl (loc_by rfl))))
      (ws_one (ws_ret (we_and (we_call O_law_whole (hr.mono (by decide)) (by rfl) Z.g_law_whole F_law_whole.kp b_law_whole (takes_of rfl rfl rfl rfl) (wa_cons (we_var (pv 3)) (wa_cons (we_var (pv 7)) (wa_cons (we_call O_law_comes (hr.mono (by decide)) (by rfl) Z.g_law_comes F_law_comes.kp b_law_comes (takes_of rfl rfl rfl rfl) (wa_cons (we_var (pv 3)) (wa_cons (we_var (pv 7)) wa_nil))) wa_nil)))) (we_one (we_call O_law_runs (hr.mono (by decide)) (by rfl) Z.g_law_runs F_law_runs.kp b_law_runs (takes_of rfl rfl rfl rfl) (wa_cons (we_var (pv 0)) (wa_cons (we_var (pv 3)) (wa_cons (we_tup (wa_cons we_int (wa_cons we_int (wa_cons we_non wa_nil)))) (wa_cons we_int wa_nil))))))))))))))))
/-! law -/
def t_law (cl : Str → Addr) : TSw := sSeq (sAsg true 1 (eCall (fnW 5 (t_law_pen cl)) (aCons (eVar 0) (aNil)))) (sSeq (sPar true 2 3 (aCons (eOp rEqW (eOp rModI (eCG rInt (aCons (eIx rItem (eVar 1) (eC (.int 5))) (aNil))) (eC (.int 11))) (eC (.int 0))) (aCons (eOp rEqW (eOp rModI (eCG rInt (aCons (eIx rItem (eVar 1) (eC (.int 5))) (aNil))) (eC (.int 13))) (eC (.int 0))) (aNil)))) (sSeq (sIf (tNotW (tTst (eCall (fnW 5 (t_law_hand cl)) (aCons (eVar 1) (aNil))))) (sRet (eC (.bl false))) (sSkip)) (sSeq (sFor false (.nm 4) (iR1 (aCons (eC (.int 3)) (aNil))) (sIf (tNotW (tTst (eCall (fnW 5 (t_law_scene cl)) (aCons (eVar 1) (aNil))))) (sRet (eC (.bl false))) (sSkip))) (sSeq (sIf (tAndW (tTruG (eVar 2)) (tNotW (tTst (eCall (fnW 4 (t_law_wide cl)) (aCons (eVar 1) (aNil)))))) (sRet (eC (.bl false))) (sSkip)) (sRet (eOr (eNot (eVar 3)) (eCall (fnW 8 (t_law_far cl)) (aCons (eVar 1) (aNil)))))))))
theorem sc_law : FnScope ["script", "pen", "wide", "far", "lap"] ["script"] (defScope (top 42)) := ⟨rfl, rfl, rfl, by decide +kernel, rfl, by decide +kernel, by decide +kernel⟩
theorem ok_law (Z : Fx K mg base) : ∃ fd : FuncData, FunD K "law" "law" (defArgs (top 42)) (defBody (top 42)) (defScope (top 42)) [] [] (He.fAd K ("law", none)) fd ∧ FnOk P w K mg base (L2.CX P w) 11 (He.fAd K ("law", none)) fd ["script"] (spF K (He.ga K) 1 (fnW 5 (t_law (He.ga K)))) := by
  obtain ⟨fd, F⟩ := Z.c.def_ 33 (d := d37) rfl
  obtain ⟨fd_law_pen, F_law_pen, O_law_pen⟩ := ok_law_pen (P := P) (w := w) Z
  have b_law_pen : Binds K fd_law_pen ["script"] [] := F_law_pen.bindsN fun _ _ _ _ _ _ us hl => match us, hl with | [_], _ => rfl
  obtain ⟨fd_law_scene, F_law_scene, O_law_scene⟩ := ok_law_scene (P := P) (w := w) Z
  have b_law_scene : Binds K fd_law_scene ["pen"] [] := F_law_scene.bindsN fun _ _ _ _ _ _ us hl => match us, hl with | [_], _ => rfl
  obtain ⟨fd_law_wide, F_law_wide, O_law_wide⟩ := ok_law_wide (P := P) (w := w) Z
  have b_law_wide : Binds K fd_law_wide ["pen"] [] := F_law_wide.bindsN fun _ _ _ _ _ _ us hl => match us, hl with | [_], _ => rfl
  obtain ⟨fd_law_far, F_law_far, O_law_far⟩ := ok_law_far (P := P) (w := w) Z
  have b_law_far : Binds K fd_law_far ["pen"] [] := F_law_far.bindsN fun _ _ _ _ _ _ us hl => match us, hl with | [_], _ => rfl
  obtain ⟨fd_law_hand, F_law_hand, O_law_hand⟩ := ok_law_hand (P := P) (w := w) Z
  have b_law_hand : Binds K fd_law_hand ["pen"] [] := F_law_hand.bindsN fun _ _ _ _ _ _ us hl => match us, hl with | [_], _ => rfl
  refine ⟨fd, F, fn_w F sc_law rfl fun cdv A outer s H E c hr => ?_⟩
  exact (ws_cons (ws_set (m := true) (i := 1) (ps_asg (we_call O_law_pen (hr.mono (by decide)) (by rfl) Z.g_law_pen F_law_pen.kp b_law_pen (takes_of rfl rfl rfl rfl) (wa_cons (we_var (pv 0)) wa_nil)) (pg_name (i := 1) sc_law.nd rfl (loc_by rfl))))
      (ws_cons (ws_par (m := true) (ps_par rfl sc_law.nd rfl rfl (by decide) rfl rfl (wa_cons (we_cmp (w_eq hr.units) (we_op w_mod (we_cgT w_int (by rfl) Z.g_int boot_int (wa_cons (we_ixg w_item (we_var (pv 1)) we_int plain_ix) wa_nil)) we_int) we_int (nomark _)) (wa_cons (we_cmp (w_eq hr.units) (we_op w_mod (we_cgT w_int (by rfl) Z.g_int boot_int (wa_cons (we_ixg w_item (we_var (pv 1)) we_int plain_ix) wa_nil)) we_int) we_int (nomark _)) wa_nil)) rfl))
      (ws_cons (ws_if (wt_not (wt_val (we_call O_law_hand (hr.mono (by decide)) (by rfl) Z.g_law_hand F_law_hand.kp b_law_hand (takes_of rfl rfl rfl rfl) (wa_cons (we_var (pv 1)) wa_nil)))) (ws_one (ws_ret we_bl)) ws_nil)
      (ws_cons (ws_forR (passes_of rfl) rfl (wr_range1 (by rfl) Z.g_range (wa_cons we_int wa_nil)) (pg_name (i := 4) sc_law.nd rfl (loc_by rfl)) (fun _ => (ws_one (ws_if (wt_not (wt_val (we_call O_law_scene (hr.mono (by decide)) (by rfl) Z.g_law_scene F_law_scene.kp b_law_scene (takes_of rfl rfl rfl rfl) (wa_cons (we_var (pv 1)) wa_nil)))) (ws_one (ws_ret we_bl)) ws_nil))))
      (ws_cons (ws_if (wt_pw (ww_and (wt_truG (we_var (pv 2))) (ww_and1 (wt_not (wt_val (we_call O_law_wide (hr.mono (by decide)) (by rfl) Z.g_law_wide F_law_wide.kp b_law_wide (takes_of rfl rfl rfl rfl) (wa_cons (we_var (pv 1)) wa_nil))))))) (ws_one (ws_ret we_bl)) ws_nil)
      (ws_one (ws_ret (we_or (we_not (we_var (pv 3))) (we_one (we_call O_law_far (hr.mono (by decide)) (by rfl) Z.g_law_far F_law_far.kp b_law_far (takes_of rfl rfl rfl rfl) (wa_cons (we_var (pv 1)) wa_nil)))))))))))
end
end K70
/-! M70: gates, when they come: plain mathematics. -/
namespace Net
structure Gate where
  last : Bool
  ops : List Nat
  delay : Int
  deriving Inhabited
abbrev Fn := Nat → Option Int
def up (F : Fn) (k : Nat) (v : Option Int) : Fn := fun j => if j = k then v else F j
@[simp] theorem up_s {F : Fn} {k : Nat} {v : Option Int} : up F k v k = v := by simp [up]
theorem up_n {F : Fn} {k j : Nat} {v : Option Int} (h : j ≠ k) : up F k v j = F j := by simp [up, h]
def lmin (l : List Int) : Int := l.foldl min (l.headD 0)
def lmax (l : List Int) : Int := l.foldl max (l.headD 0)
theorem foldl_min (l : List Int) : ∀ a : Int, l.foldl min a ≤ a ∧ (∀ y ∈ l, l.foldl min a ≤ y) ∧ (l.foldl min a = a ∨ l.foldl min a ∈ l) := by
  induction l with
  | nil => intro a; simp
  | cons x l ih =>
    intro a
    obtain ⟨h1, h2, h3⟩ := ih (min a x)
    simp only [List.foldl_cons]
    refine ⟨by omega, fun y hy => ?_, ?_⟩
    · rcases List.mem_cons.mp hy with e | hy
      · rw [e]; omega
      · exact h2 y hy
    · rcases h3 with e | e
      · rw [e]
        rcases Int.le_total a x with h | h
        · left; omega
        · right; rw [show min a x = x by omega]; exact List.mem_cons_self ..
      · right; exact List.mem_cons_of_mem _ e
theorem foldl_max (l : List Int) : ∀ a : Int, a ≤ l.foldl max a ∧ (∀ y ∈ l, y ≤ l.foldl max a) ∧ (l.foldl max a = a ∨ l.foldl max a ∈ l) := by
  induction l with
  | nil => intro a; simp
  | cons x l ih =>
    intro a
    obtain ⟨h1, h2, h3⟩ := ih (max a x)
    simp only [List.foldl_cons]
    refine ⟨by omega, fun y hy => ?_, ?_⟩
    · rcases List.mem_cons.mp hy with e | hy
      · rw [e]; omega
      · exact h2 y hy
    · rcases h3 with e | e
      · rw [e]
        rcases Int.le_total a x with h | h
        · right; rw [show max a x = x by omega]; exact List.mem_cons_self ..
        · left; omega
      · right; exact List.mem_cons_of_mem _ e
theorem lmin_le {l : List Int} {y : Int} (h : y ∈ l) : lmin l ≤ y := (foldl_min l _).2.1 y h
theorem le_lmax {l : List Int} {y : Int} (h : y ∈ l) : y ≤ lmax l := (foldl_max l _).2.1 y h
theorem lmin_mem {l : List Int} (h : l ≠ []) : lmin l ∈ l := by
  cases l with
  | nil => exact absurd rfl h
  | cons x l =>
    rcases (foldl_min (x :: l) x).2.2 with e | e
    · show List.foldl min x (x :: l) ∈ _
      rw [e]; exact List.mem_cons_self ..
    · exact e
theorem lmax_mem {l : List Int} (h : l ≠ []) : lmax l ∈ l := by
  cases l with
  | nil => exact absurd rfl h
  | cons x l =>
    rcases (foldl_max (x :: l) x).2.2 with e | e
    · show List.foldl max x (x :: l) ∈ _
      rw [e]; exact List.mem_cons_self ..
    · exact e
theorem lmin_eq {l : List Int} {m : Int} (h1 : m ∈ l) (h2 : ∀ y ∈ l, m ≤ y) : m = lmin l := by
  have a := lmin_le h1
  have b := h2 _ (lmin_mem (List.ne_nil_of_mem h1))
  omega
theorem lmax_eq {l : List Int} {m : Int} (h1 : m ∈ l) (h2 : ∀ y ∈ l, y ≤ m) : m = lmax l := by
  have a := le_lmax h1
  have b := h2 _ (lmax_mem (List.ne_nil_of_mem h1))
  omega

abbrev there (F : Fn) (ops : List Nat) : List Int := ops.filterMap F
def timeBy (x : Gate) (F : Fn) : Option Int :=
  if there F x.ops = [] ∨ (x.last = true ∧ (there F x.ops).length < x.ops.length) then none
  else some (x.delay + if x.last = true then lmax (there F x.ops) else lmin (there F x.ops))
theorem there_mem {F : Fn} {ops : List Nat} {v : Int} : v ∈ there F ops ↔ ∃ i ∈ ops, F i = some v := List.mem_filterMap
theorem there_full {F : Fn} : ∀ {ops : List Nat}, ¬ (there F ops).length < ops.length → ∀ i ∈ ops, ∃ v, F i = some v
  | [], _, i, h => by cases h
  | o :: r, hl, i, h => by
    unfold there at hl
    rw [List.filterMap_cons] at hl
    have hle : (List.filterMap F r).length ≤ r.length := List.length_filterMap_le ..
    cases e : F o with
    | none => rw [e] at hl; simp only [List.length_cons] at hl; omega
    | some v =>
      rw [e] at hl
      rcases List.mem_cons.mp h with z | z
      · rw [z]; exact ⟨v, e⟩
      · exact there_full (ops := r) (by simp only [List.length_cons] at hl; show ¬ (List.filterMap F r).length < _; omega) i z
theorem there_congr {F G : Fn} {ops : List Nat} (h : ∀ i ∈ ops, F i = G i) : there F ops = there G ops := by
  induction ops with
  | nil => rfl
  | cons o r ih =>
    unfold there at ih ⊢
    rw [List.filterMap_cons, List.filterMap_cons, h o (List.mem_cons_self ..), ih fun i hi => h i (List.mem_cons_of_mem _ hi)]
theorem timeBy_congr {x : Gate} {F G : Fn} (h : ∀ i ∈ x.ops, F i = G i) : timeBy x F = timeBy x G := by
  unfold timeBy; rw [there_congr h]
/-- the heart: what comes at t on c comes at t on M -/
theorem timeBy_ext {x : Gate} {c M : Fn} {t : Int} (hd : 0 ≤ x.delay) (h : timeBy x c = some t) (h1 : ∀ i ∈ x.ops, ∀ v, c i = some v → v ≤ t → M i = some v) (h2 : ∀ i ∈ x.ops, ∀ v, M i = some v → c i = some v ∨ t ≤ v) : timeBy x M = some t := by
  unfold timeBy at h
  split at h
  · cases h
  · rename_i hn
    rw [not_or] at hn
    obtain ⟨hne, hl⟩ := hn
    cases hx : x.last with
    | true =>
      rw [if_pos hx] at h
      have et := Option.some.inj h
      have full := there_full (ops := x.ops) (F := c) (fun z => hl ⟨hx, z⟩)
      have same : ∀ i ∈ x.ops, c i = M i := fun i hi => by
        obtain ⟨v, e⟩ := full i hi
        have := le_lmax (there_mem.mpr ⟨i, hi, e⟩)
        rw [e, h1 i hi v e (by omega)]
      rw [← timeBy_congr same]
      unfold timeBy
      rw [if_neg (not_or.mpr ⟨hne, hl⟩), if_pos hx]
      exact h
    | false =>
      have hf : ¬ (x.last = true) := by rw [hx]; decide
      rw [if_neg hf] at h
      have et := Option.some.inj h
      obtain ⟨i, hi, e⟩ := there_mem.mp (lmin_mem hne)
      have hm : lmin (there c x.ops) ∈ there M x.ops := there_mem.mpr ⟨i, hi, h1 i hi _ e (by omega)⟩
      have e2 : lmin (there c x.ops) = lmin (there M x.ops) := lmin_eq hm fun y hy => by
        obtain ⟨j, hj, ej⟩ := there_mem.mp hy
        rcases h2 j hj y ej with z | z
        · exact lmin_le (there_mem.mpr ⟨j, hj, z⟩)
        · omega
      unfold timeBy
      rw [if_neg (not_or.mpr ⟨List.ne_nil_of_mem hm, fun z => hf z.1⟩), if_neg hf, ← e2]
      exact h
/-- one more operand: not before it, where it was not before -/
theorem timeBy_up {x : Gate} {c : Fn} {k : Nat} {t v : Int} (hd : 0 ≤ x.delay) (hk : c k = none) (hb : ∀ v, timeBy x c = some v → t ≤ v) (h : timeBy x (up c k (some t)) = some v) : t ≤ v := by
  by_cases hm : k ∈ x.ops
  · unfold timeBy at h
    split at h
    · cases h
    · rename_i hn
      rw [not_or] at hn
      obtain ⟨hne, hl⟩ := hn
      have et := Option.some.inj h
      have hin : t ∈ there (up c k (some t)) x.ops := there_mem.mpr ⟨k, hm, up_s⟩
      cases hx : x.last with
      | true =>
        rw [if_pos hx] at et
        have := le_lmax hin
        omega
      | false =>
        have hf : ¬ (x.last = true) := by rw [hx]; decide
        rw [if_neg hf] at et
        obtain ⟨i, hi, e⟩ := there_mem.mp (lmin_mem hne)
        by_cases hik : i = k
        · rw [hik, up_s] at e
          have := Option.some.inj e
          omega
        · rw [up_n hik] at e
          have hc : there c x.ops ≠ [] := List.ne_nil_of_mem (there_mem.mpr ⟨i, hi, e⟩)
          have h3 : timeBy x c = some (x.delay + lmin (there c x.ops)) := by
            unfold timeBy
            rw [if_neg (not_or.mpr ⟨hc, fun z => hf z.1⟩), if_neg hf]
          have h4 := hb _ h3
          have h5 := lmin_le (there_mem.mpr ⟨i, hi, e⟩)
          omega
  · refine hb v ?_
    rw [← h]
    exact timeBy_congr fun i hi => (up_n fun z => hm (by rw [← z]; exact hi)).symm

/-! ### the first of some -/
abbrev Pr := Int × Nat
def stepB (b : Option Pr) (p : Pr) : Option Pr := match b with
  | none => some p
  | some q => if p.1 < q.1 then some p else some q
def bestL (l : List Pr) : Option Pr := l.foldl stepB none
theorem foldB (l : List Pr) : ∀ (b : Pr), ∃ r, l.foldl stepB (some b) = some r ∧ (r = b ∨ r ∈ l) ∧ r.1 ≤ b.1 ∧ (∀ p ∈ l, r.1 ≤ p.1) := by
  induction l with
  | nil => intro b; exact ⟨b, rfl, .inl rfl, Int.le_refl _, by simp⟩
  | cons x l ih =>
    intro b
    simp only [List.foldl_cons, stepB]
    by_cases h : x.1 < b.1
    · rw [if_pos h]
      obtain ⟨r, e, h1, h2, h3⟩ := ih x
      refine ⟨r, e, .inr ?_, by omega, fun p hp => ?_⟩
      · rcases h1 with z | z
        · rw [z]; exact List.mem_cons_self ..
        · exact List.mem_cons_of_mem _ z
      · rcases List.mem_cons.mp hp with z | z
        · rw [z]; exact h2
        · exact h3 p z
    · rw [if_neg h]
      obtain ⟨r, e, h1, h2, h3⟩ := ih b
      refine ⟨r, e, ?_, h2, fun p hp => ?_⟩
      · rcases h1 with z | z
        · exact .inl z
        · exact .inr (List.mem_cons_of_mem _ z)
      · rcases List.mem_cons.mp hp with z | z
        · rw [z]; omega
        · exact h3 p z
theorem bestL_none {l : List Pr} (h : bestL l = none) : l = [] := by
  cases l with
  | nil => rfl
  | cons x l =>
    obtain ⟨r, e, _⟩ := foldB l x
    have : bestL (x :: l) = some r := e
    rw [this] at h; cases h
theorem bestL_some {l : List Pr} {b : Pr} (h : bestL l = some b) : b ∈ l ∧ ∀ p ∈ l, b.1 ≤ p.1 := by
  cases l with
  | nil => cases h
  | cons x l =>
    obtain ⟨r, e, h1, h2, h3⟩ := foldB l x
    have : bestL (x :: l) = some r := e
    rw [this] at h
    cases h
    refine ⟨?_, fun p hp => ?_⟩
    · rcases h1 with z | z
      · rw [z]; exact List.mem_cons_self ..
      · exact List.mem_cons_of_mem _ z
    · rcases List.mem_cons.mp hp with z | z
      · rw [z]; exact h2
      · exact h3 p z
/-- of those that come first the first of the list -/
theorem foldB_tie (l : List Pr) : ∀ (b r : Pr), (∀ p ∈ l, b.2 < p.2) → l.Pairwise (fun p q => p.2 < q.2) → l.foldl stepB (some b) = some r → ∀ p, p = b ∨ p ∈ l → p.1 = r.1 → r.2 ≤ p.2 := by
  induction l with
  | nil =>
    intro b r _ _ e p hp _
    cases e
    rcases hp with z | z
    · rw [z]; exact Nat.le_refl _
    · cases z
  | cons x l ih =>
    intro b r hb hw e p hp ep
    obtain ⟨hx, hw2⟩ := List.pairwise_cons.mp hw
    simp only [List.foldl_cons, stepB] at e
    have hbx := hb x (List.mem_cons_self ..)
    by_cases h : x.1 < b.1
    · rw [if_pos h] at e
      rcases hp with z | hp
      · subst z
        obtain ⟨r', e', h1, h2, h3⟩ := foldB l x
        rw [e] at e'; cases e'
        omega
      · rcases List.mem_cons.mp hp with z | z
        · exact ih x r hx hw2 e p (.inl z) ep
        · exact ih x r hx hw2 e p (.inr z) ep
    · rw [if_neg h] at e
      rcases hp with z | hp
      · exact ih b r (fun q hq => hb q (List.mem_cons_of_mem _ hq)) hw2 e p (.inl z) ep
      · rcases List.mem_cons.mp hp with z | z
        · subst z
          obtain ⟨r', e', h1, h2, h3⟩ := foldB l b
          rw [e] at e'; cases e'
          have hq := ih b r (fun q hq => hb q (List.mem_cons_of_mem _ hq)) hw2 e b (.inl rfl) (by omega)
          omega
        · exact ih b r (fun q hq => hb q (List.mem_cons_of_mem _ hq)) hw2 e p (.inr z) ep
theorem bestL_tie {l : List Pr} {b : Pr} (hw : l.Pairwise (fun p q => p.2 < q.2)) (h : bestL l = some b) : ∀ p ∈ l, p.1 = b.1 → b.2 ≤ p.2 := by
  cases l with
  | nil => cases h
  | cons x l =>
    obtain ⟨hx, hw⟩ := List.pairwise_cons.mp hw
    intro p hp ep
    exact foldB_tie l x b hx hw h p (List.mem_cons.mp hp) ep

/-! ### a network -/
structure Nt where
  many : Nat
  gates : List Gate
namespace Nt
variable (N : Nt)
abbrev n : Nat := N.gates.length
def gate (a : Nat) : Gate := N.gates.getD a default
structure Ok : Prop where
  delay : ∀ x ∈ N.gates, 0 ≤ x.delay
  ops : ∀ x ∈ N.gates, ∀ i ∈ x.ops, i < N.many + N.n
theorem gate_mem {a : Nat} (h : a < N.n) : N.gate a ∈ N.gates := by
  unfold gate
  rw [List.getD_eq_getElem?_getD, List.getElem?_eq_getElem h]
  exact List.getElem_mem h
def candOf (F : Fn) (l : List Nat) : List Pr := l.filterMap fun a => if F (N.many + a) = none then (timeBy (N.gate a) F).map fun t => (t, a) else none
def cand (F : Fn) : List Pr := N.candOf F (List.range N.n)
def next (F : Fn) : Option Pr := bestL (N.cand F)
variable {N}
def run (N : Nt) : Nat → Fn → Fn
  | 0, F => F
  | k + 1, F => match N.next F with
    | none => F
    | some p => run N k (up F (N.many + p.2) (some p.1))
theorem candOf_mem {F : Fn} {l : List Nat} {p : Pr} : p ∈ N.candOf F l ↔ p.2 ∈ l ∧ F (N.many + p.2) = none ∧ timeBy (N.gate p.2) F = some p.1 := by
  unfold candOf
  rw [List.mem_filterMap]
  constructor
  · rintro ⟨a, ha, h⟩
    split at h
    · rename_i hn
      cases e : timeBy (N.gate a) F with
      | none => rw [e] at h; cases h
      | some t =>
        rw [e] at h
        cases h
        exact ⟨ha, hn, e⟩
    · cases h
  · rintro ⟨h1, h2, h3⟩
    exact ⟨p.2, h1, by rw [if_pos h2, h3]; rfl⟩
theorem cand_mem {F : Fn} {p : Pr} : p ∈ N.cand F ↔ p.2 < N.n ∧ F (N.many + p.2) = none ∧ timeBy (N.gate p.2) F = some p.1 := by
  unfold cand
  rw [candOf_mem, List.mem_range]
theorem candOf_sorted {F : Fn} : ∀ {l : List Nat}, l.Pairwise (· < ·) → (N.candOf F l).Pairwise fun p q => p.2 < q.2
  | [], _ => by simp [candOf]
  | a :: l, h => by
    obtain ⟨h1, h2⟩ := List.pairwise_cons.mp h
    have ih := candOf_sorted (F := F) h2
    unfold candOf at ih ⊢
    rw [List.filterMap_cons]
    split
    · exact ih
    · rename_i p e
      refine List.pairwise_cons.mpr ⟨fun q hq => ?_, ih⟩
      have hq2 := (candOf_mem.mp (show q ∈ N.candOf F l from hq)).1
      have hp : p.2 = a := by
        split at e
        · cases e2 : timeBy (N.gate a) F with
          | none => rw [e2] at e; cases e
          | some t => rw [e2] at e; cases e; rfl
        · cases e
      rw [hp]
      exact h1 _ hq2
theorem cand_sorted {F : Fn} : (N.cand F).Pairwise fun p q => p.2 < q.2 := candOf_sorted List.pairwise_lt_range
/-- no unset gate comes before t -/
def LB (N : Nt) (F : Fn) (t : Int) : Prop := ∀ a, a < N.n → F (N.many + a) = none → ∀ v, timeBy (N.gate a) F = some v → t ≤ v
theorem next_lb {F : Fn} {p : Pr} (h : N.next F = some p) : LB N F p.1 := fun a ha hn v hv => (bestL_some h).2 (v, a) (cand_mem.mpr ⟨ha, hn, hv⟩)
theorem next_at {F : Fn} {p : Pr} (h : N.next F = some p) : p.2 < N.n ∧ F (N.many + p.2) = none ∧ timeBy (N.gate p.2) F = some p.1 := cand_mem.mp (bestL_some h).1
theorem next_none {F : Fn} (h : N.next F = none) {a : Nat} (ha : a < N.n) (hn : F (N.many + a) = none) : timeBy (N.gate a) F = none := by
  cases e : timeBy (N.gate a) F with
  | none => rfl
  | some v =>
    have := bestL_none h
    have h2 : (v, a) ∈ N.cand F := cand_mem.mpr ⟨ha, hn, e⟩
    rw [this] at h2
    cases h2
theorem lb_up (ok : N.Ok) {F : Fn} {p : Pr} (h : N.next F = some p) : LB N (up F (N.many + p.2) (some p.1)) p.1 := fun a ha hn v hv => by
  obtain ⟨h1, h2, h3⟩ := next_at h
  have hne : N.many + a ≠ N.many + p.2 := fun e => by rw [e, up_s] at hn; cases hn
  rw [up_n hne] at hn
  exact timeBy_up (ok.delay _ (N.gate_mem ha)) h2 (fun v hv => next_lb h a ha hn v hv) hv
theorem run_keep {k : Nat} : ∀ {F : Fn} {i : Nat} {v : Int}, F i = some v → N.run k F i = some v := by
  induction k with
  | zero => intro F i v h; exact h
  | succ k ih =>
    intro F i v h
    unfold run
    cases e : N.next F with
    | none => exact h
    | some p =>
      refine ih ?_
      have hne : i ≠ N.many + p.2 := fun z => by rw [z, (next_at e).2.1] at h; cases h
      rw [up_n hne]; exact h
/-- what is set later is not before -/
theorem run_late (ok : N.Ok) {k : Nat} : ∀ {F : Fn} {t : Int}, LB N F t → ∀ {i : Nat} {v : Int}, N.run k F i = some v → F i = some v ∨ t ≤ v := by
  induction k with
  | zero => intro F t _ i v h; exact .inl h
  | succ k ih =>
    intro F t hb i v h
    unfold run at h
    cases e : N.next F with
    | none => rw [e] at h; exact .inl h
    | some p =>
      rw [e] at h
      obtain ⟨h1, h2, h3⟩ := next_at e
      have ht := hb p.2 h1 h2 _ h3
      rcases ih (lb_up ok e) h with z | z
      · by_cases hi : i = N.many + p.2
        · rw [hi, up_s] at z
          cases z
          exact .inr ht
        · rw [up_n hi] at z; exact .inl z
      · exact .inr (by omega)
/-- only gates are set -/
theorem run_sig {k : Nat} : ∀ {F : Fn} {i : Nat}, i < N.many → N.run k F i = F i := by
  induction k with
  | zero => intro F i _; rfl
  | succ k ih =>
    intro F i h
    unfold run
    cases e : N.next F with
    | none => rfl
    | some p =>
      show N.run k (up F (N.many + p.2) (some p.1)) i = F i
      rw [ih h, up_n (by omega)]
theorem run_out {k : Nat} : ∀ {F : Fn} {i : Nat}, N.many + N.n ≤ i → N.run k F i = F i := by
  induction k with
  | zero => intro F i _; rfl
  | succ k ih =>
    intro F i h
    unfold run
    cases e : N.next F with
    | none => rfl
    | some p =>
      have := (next_at e).1
      show N.run k (up F (N.many + p.2) (some p.1)) i = F i
      rw [ih h, up_n (by omega)]
def left (N : Nt) (F : Fn) : List Nat := (List.range N.n).filter fun a => (F (N.many + a)).isNone
theorem left_mem {F : Fn} {a : Nat} : a ∈ N.left F ↔ a < N.n ∧ F (N.many + a) = none := by
  unfold left
  rw [List.mem_filter, List.mem_range, Option.isNone_iff_eq_none]
theorem left_up {F : Fn} {a : Nat} {t : Int} (h : a < N.n) : N.left (up F (N.many + a) (some t)) = (N.left F).erase a := by
  unfold left
  rw [List.Nodup.erase_eq_filter ((List.nodup_range).filter _), List.filter_filter]
  refine List.filter_congr fun b hb => ?_
  by_cases e : b = a
  · subst e; simp
  · rw [up_n (by omega)]; simp [e]
theorem left_len {F : Fn} {a : Nat} {t : Int} (h : a < N.n) (hn : F (N.many + a) = none) : (N.left (up F (N.many + a) (some t))).length + 1 = (N.left F).length := by
  rw [left_up h, List.length_erase_of_mem (left_mem.mpr ⟨h, hn⟩)]
  have := List.length_pos_of_mem (left_mem.mpr ⟨h, hn⟩ : a ∈ N.left F)
  omega
/-- at the end none is left that could come -/
theorem run_end {k : Nat} : ∀ {F : Fn}, (N.left F).length ≤ k → N.next (N.run k F) = none := by
  induction k with
  | zero =>
    intro F h
    show N.next F = none
    cases e : N.next F with
    | none => rfl
    | some p =>
      obtain ⟨h1, h2, _⟩ := next_at e
      have := List.length_pos_of_mem (left_mem.mpr ⟨h1, h2⟩ : p.2 ∈ N.left F)
      omega
  | succ k ih =>
    intro F h
    unfold run
    cases e : N.next F with
    | none => exact e
    | some p =>
      obtain ⟨h1, h2, _⟩ := next_at e
      exact ih (by have := left_len (t := p.1) h1 h2; omega)
/-- a gate's time is what its operands say -/
theorem run_fix (ok : N.Ok) {k : Nat} : ∀ {F : Fn}, (∀ a, a < N.n → F (N.many + a) = none ∨ ∀ k', timeBy (N.gate a) (N.run k' F) = F (N.many + a)) → (N.left F).length ≤ k → ∀ a, a < N.n → timeBy (N.gate a) (N.run k F) = N.run k F (N.many + a) := by
  induction k with
  | zero =>
    intro F hF hl a ha
    rcases hF a ha with h | h
    · have := List.length_pos_of_mem (left_mem.mpr ⟨ha, h⟩ : a ∈ N.left F)
      omega
    · exact h 0
  | succ k ih =>
    intro F hF hl a ha
    cases e : N.next F with
    | none =>
      have er : ∀ k', N.run k' F = F := fun k' => by
        cases k' with
        | zero => rfl
        | succ k' => unfold run; rw [e]
      rw [er]
      rcases hF a ha with h | h
      · rw [h]; exact next_none e ha h
      · have := h 0
        exact this
    | some p =>
      obtain ⟨h1, h2, h3⟩ := next_at e
      have er : ∀ k', N.run (k' + 1) F = N.run k' (up F (N.many + p.2) (some p.1)) := fun k' => by
        show (match N.next F with | none => F | some p => N.run k' (up F (N.many + p.2) (some p.1))) = _
        rw [e]
      rw [er]
      refine ih (fun b hb => ?_) (by have := left_len (t := p.1) h1 h2; omega) a ha
      by_cases hbp : b = p.2
      · subst hbp
        right
        intro k'
        rw [up_s]
        refine timeBy_ext (ok.delay _ (N.gate_mem hb)) h3 (fun i _ v hv _ => ?_) fun i _ v hv => ?_
        · refine run_keep ?_
          have hne : i ≠ N.many + p.2 := fun z => by rw [z, h2] at hv; cases hv
          rw [up_n hne]; exact hv
        · rcases run_late ok (lb_up ok e) hv with z | z
          · by_cases hi : i = N.many + p.2
            · rw [hi, up_s] at z
              cases z
              exact .inr (Int.le_refl _)
            · rw [up_n hi] at z; exact .inl z
          · exact .inr z
      · rcases hF b hb with h | h
        · left; rw [up_n (by omega)]; exact h
        · right
          intro k'
          rw [up_n (by omega), ← er]
          exact h (k' + 1)

/-! ### when all come -/
/-- signals alone -/
def start (N : Nt) (S : Fn) : Fn := fun i => if i < N.many then S i else none
def due (N : Nt) (S : Fn) : Fn := N.run N.n (N.start S)
theorem left_le {F : Fn} : (N.left F).length ≤ N.n := by
  unfold left
  have := List.length_filter_le (fun a => (F (N.many + a)).isNone) (List.range N.n)
  rwa [List.length_range] at this
theorem due_fix (ok : N.Ok) {S : Fn} {a : Nat} (ha : a < N.n) : timeBy (N.gate a) (N.due S) = N.due S (N.many + a) := by
  refine run_fix ok (fun b _ => .inl ?_) left_le a ha
  unfold start; rw [if_neg (by omega)]
theorem due_sig {S : Fn} {i : Nat} (h : i < N.many) : N.due S i = S i := by
  unfold due; rw [run_sig h]; unfold start; rw [if_pos h]
theorem due_out {S : Fn} {i : Nat} (h : N.many + N.n ≤ i) : N.due S i = none := by
  unfold due; rw [run_out h]; unfold start; rw [if_neg (by omega)]
/-- M holds what comes before s and all that comes at s of what could come at s: then it holds what comes till s -/
theorem run_closed (ok : N.Ok) {T M : Fn} {s : Int} (hM : ∀ i v, M i = some v → T i = some v) (hlt : ∀ i v, T i = some v → v < s → M i = some v) (hcl : ∀ a, a < N.n → M (N.many + a) = none → timeBy (N.gate a) M ≠ some s) {k : Nat} :
    ∀ {F : Fn}, N.run k F = T → (∀ i v, F i = some v → v ≤ s → M i = some v) → ∀ i v, T i = some v → v ≤ s → M i = some v := by
  induction k with
  | zero => intro F e h i v hv hs; exact h i v (by rw [show F = T from e]; exact hv) hs
  | succ k ih =>
    intro F e h
    have e0 := e
    unfold run at e
    cases q : N.next F with
    | none => rw [q] at e; intro i v hv hs; exact h i v (by rw [show F = T from e]; exact hv) hs
    | some p =>
      rw [q] at e
      obtain ⟨h1, h2, h3⟩ := next_at q
      refine ih e fun i v hv hs => ?_
      by_cases hi : i = N.many + p.2
      · subst hi
        rw [up_s] at hv
        cases hv
        have hT : T (N.many + p.2) = some p.1 := by rw [← e]; exact run_keep up_s
        by_cases hlt' : p.1 < s
        · exact hlt _ _ hT hlt'
        · have es : p.1 = s := by omega
          cases em : M (N.many + p.2) with
          | some u => rw [← hT, ← hM _ _ em]
          | none =>
            exfalso
            refine hcl p.2 h1 em ?_
            rw [← es]
            refine timeBy_ext (ok.delay _ (N.gate_mem h1)) h3 (fun i _ v hv hle => h i v hv (by omega)) fun i _ v hv => ?_
            have hTi := hM _ _ hv
            rw [← e0] at hTi
            exact run_late ok (next_lb q) hTi
      · rw [up_n hi] at hv
        exact h i v hv hs
theorem nonneg (ok : N.Ok) {S : Fn} (hS : ∀ i v, S i = some v → 0 ≤ v) : ∀ i v, N.due S i = some v → 0 ≤ v := by
  have hlb : LB N (N.start S) 0 := fun a ha hn v hv => by
    have h0 : ∀ y ∈ there (N.start S) (N.gate a).ops, 0 ≤ y := fun y hy => by
      obtain ⟨i, _, e⟩ := there_mem.mp hy
      unfold start at e
      split at e
      · exact hS _ _ e
      · cases e
    have hd := ok.delay _ (N.gate_mem ha)
    unfold timeBy at hv
    split at hv
    · cases hv
    · rename_i hne
      rw [not_or] at hne
      have et := Option.some.inj hv
      have a1 := h0 _ (lmin_mem hne.1)
      have a2 := h0 _ (lmax_mem hne.1)
      split at et <;> omega
  intro i v h
  rcases run_late ok hlb h with z | z
  · unfold start at z
    split at z
    · exact hS _ _ z
    · cases z
  · exact z
end Nt
end Net
set_option maxHeartbeats 2000000
namespace K70
open PySem PySem.Spec L2 WL Net
/-! ### rows -/
def rowW (k : Nat) (F : Fn) : List W := (List.range k).map fun j => oI (F j)
section
variable {k j : Nat} {F F' : Fn} {g : G}
@[simp] theorem row_len : (rowW k F).length = k := by simp [rowW]
theorem row_get (h : j < k) : (rowW k F)[j]? = some (oI (F j)) := by simp [rowW, h]
theorem row_at (h : j < k) : atI (rowW k F) (j : Int) = some (oI (F j)) := by rw [WL.atI_nat, row_get h]
theorem row_congr (h : ∀ j, j < k → F j = F' j) : rowW k F = rowW k F' := by
  unfold rowW
  exact List.map_congr_left fun j hj => by rw [h j (List.mem_range.mp hj)]
theorem row_set (v : Option Int) : (rowW k F).set j (oI v) = rowW k (up F j v) := by
  apply List.ext_getElem?
  intro i
  by_cases hi : i < k
  · rw [row_get hi]
    by_cases e : i = j
    · subst e
      rw [List.getElem?_set_self (by rw [row_len]; exact hi), up_s]
    · rw [List.getElem?_set_ne (fun z => e z.symm), row_get hi, up_n e]
  · rw [List.getElem?_eq_none (by simp; omega), List.getElem?_eq_none (by simp; omega)]
@[simp] theorem row_noLst : noLst.noLstAll (rowW k F) = true := by
  rw [noLst_all]
  intro w hw
  obtain ⟨j, _, rfl⟩ := List.mem_map.mp hw
  exact oI_noLst
theorem row_app {b : Nat} : rowW k F ++ rowW b F' = rowW (k + b) fun j => if j < k then F j else F' (j - k) := by
  apply List.ext_getElem?
  intro i
  by_cases hi : i < k
  · rw [List.getElem?_append_left (by simpa using hi), row_get hi, row_get (by omega), if_pos hi]
  · rw [List.getElem?_append_right (by simp; omega), row_len]
    by_cases h2 : i < k + b
    · rw [row_get (by omega), row_get h2, if_neg hi]
    · rw [List.getElem?_eq_none (by simp; omega), List.getElem?_eq_none (by simp; omega)]
theorem row_non : (List.replicate k [W.non]).flatten = rowW k fun _ => none := by
  unfold rowW
  induction k with
  | zero => rfl
  | succ k ih => rw [List.replicate_succ', List.flatten_append, ih, List.range_succ, List.map_append]; simp
theorem row_drop {m : Nat} : cutW (rowW (m + k) F) (some (m : Int)) none = rowW k fun a => F (m + a) := by
  unfold cutW
  rw [row_len, HT.sIx_nat, HT.sIx_none]
  apply List.ext_getElem?
  intro i
  rw [Nat.min_eq_left (by omega), List.getElem?_take, List.getElem?_drop]
  by_cases hi : i < k
  · rw [if_pos (by omega), row_get (by omega), row_get hi]
  · rw [if_neg (by omega), List.getElem?_eq_none (by simp; omega)]
end
/-! ### least, most -/
theorem min_of {ns : List Int} {K : W → Prop} {g : G} (hn : ns ≠ []) (h : K (.int (lmin ns))) : rMinW g [.lst (ns.map W.int)] K :=
  ⟨_, ns, rfl, by show (lstG g _).bind intsW = _; rw [lstG_l]; exact intsW_map ns, List.length_pos_iff.mpr hn, fun m h1 h2 => by rw [lmin_eq h1 h2]; exact h⟩
theorem max_of {ns : List Int} {K : W → Prop} {g : G} (hn : ns ≠ []) (h : K (.int (lmax ns))) : rMaxW g [.lst (ns.map W.int)] K :=
  ⟨_, ns, rfl, by show (lstG g _).bind intsW = _; rw [lstG_l]; exact intsW_map ns, List.length_pos_iff.mpr hn, fun m h1 h2 => by rw [lmax_eq h1 h2]; exact h⟩
@[simp] theorem w_lf : (Str.ofString "last" = Str.ofString "first") = False := by simp; decide
@[simp] theorem w_fl : (Str.ofString "first" = Str.ofString "last") = False := by simp; decide
@[simp] theorem ok_l : PyData.strOk (Str.ofString "last") = true := by decide +kernel
@[simp] theorem ok_f : PyData.strOk (Str.ofString "first") = true := by decide +kernel
/-! ### gates, networks -/
def wordW (b : Bool) : W := .str (if b = true then "last" else "first")
def opsW (l : List Nat) : List W := l.map fun (i : Nat) => W.int (i : Int)
def gateW (x : Gate) : W := .tup [wordW x.last, .tup (opsW x.ops), .int x.delay]
def netW (N : Nt) : W := .tup [.int (N.many : Int), .tup (N.gates.map gateW)]
theorem fm_ints {F : Fn} (l : List Nat) : (l.filterMap fun i => (F i).map W.int) = (there F l).map W.int := by
  unfold there
  rw [List.map_filterMap]
variable {cl : Str → Addr} {g : G} {K : KW} {KE : XW}
theorem is_whole_i {i : Int} (h : K (.bl true) g) : fnW 1 (t_is_whole cl) [.int i] g K KE := by
  rw [fnW_r, t_is_whole]
  simp [h]
theorem is_number_i {i : Int} (h : K (.bl (decide (0 ≤ i))) g) : fnW 1 (t_is_number cl) [.int i] g K KE := by
  rw [fnW_r, t_is_number]
  simp
  refine is_whole_i ?_
  simp [h]
theorem is_below_i {i j : Int} (h : K (.bl (decide (0 ≤ i ∧ i < j))) g) : fnW 2 (t_is_below cl) [.int i, .int j] g K KE := by
  rw [fnW_r, t_is_below]
  simp
  refine is_number_i ?_
  by_cases h0 : 0 ≤ i
  · simp [h0]
    simpa [h0] using h
  · simp [h0]
    simpa [h0] using h
theorem look_i {i j : Int} (h0 : 0 ≤ i) (h1 : i < j) (h : K .non g) : fnW 2 (t_look_for_signal cl) [.int j, .int i] g K KE := by
  rw [fnW_r, t_look_for_signal]
  simp
  refine is_below_i ?_
  simp [h0, h1, h]
structure IsCame (g : G) (w : W) (k : Nat) (F : Fn) : Prop where
  view : w.view = w
  hide : hideW (some w) = some w
  item : ∀ i : Nat, i < k → itemW g w (.int (i : Int)) = some (oI (F i))
theorem isCame_l {k : Nat} {F : Fn} : IsCame g (.lst (rowW k F)) k F := ⟨rfl, rfl, fun i hi => by rw [item_l, row_at hi]⟩
theorem isCame_a {a : Addr} {k : Nat} {F : Fn} (h : g a = some (.gl (rowW k F))) : IsCame g (.adr a) k F := ⟨rfl, rfl, fun i hi => by rw [item_a h, row_at hi]⟩
theorem time_by_ok {x : Gate} {k : Nat} {F : Fn} {w : W} (hw : IsCame g w k F) (hl : x.ops.length < 16777216) (ho : ∀ i ∈ x.ops, i < k) (h : K (oI (timeBy x F)) g) : fnW 7 (t_time_by cl) [gateW x, w] g K KE := by
  rw [fnW_r, t_time_by]
  simp [gateW, wordW, opsW, hw.view, hw.hide]
  refine ⟨hl, comp_of x.ops (fun (i : Nat) => W.int (i : Int)) (fun i => (F i).map W.int) (fun i hi A B hAB => ?_) ?_⟩
  · simp [hw.view, hw.item i (ho i hi)]
    cases e : F i with
    | none => rw [e] at hAB; simpa using hAB
    | some v => rw [e] at hAB; simpa using hAB
  · rw [fm_ints]
    unfold timeBy at h
    by_cases hn : there F x.ops = []
    · rw [if_pos (.inl hn)] at h
      rw [hn]
      simpa using h
    · cases hx : x.last with
      | true =>
        rw [hx] at h
        by_cases hlt : (there F x.ops).length < x.ops.length
        · rw [if_pos (.inr ⟨rfl, hlt⟩)] at h
          simp [hn, hlt]
          exact h
        · rw [if_neg (not_or.mpr ⟨hn, fun z => hlt z.2⟩), if_pos rfl] at h
          simp [hn, hlt]
          refine max_of hn ?_
          simpa using h
      | false =>
        rw [hx] at h
        rw [if_neg (not_or.mpr ⟨hn, fun z => by cases z.1⟩), if_neg (by decide)] at h
        simp [hn]
        refine min_of hn ?_
        simpa using h
end K70
set_option maxHeartbeats 2000000
namespace K70
open PySem PySem.Spec L2 WL Net
theorem noLst_map {α : Type} {f : α → W} {l : List α} (h : ∀ x ∈ l, noLst (f x) = true) : noLst.noLstAll (l.map f) = true := by
  rw [noLst_all]
  intro w hw
  obtain ⟨x, hx, rfl⟩ := List.mem_map.mp hw
  exact h x hx
theorem gate_at {N : Nt} {a : Nat} (h : a < N.n) : atI (N.gates.map gateW) (a : Int) = some (gateW (N.gate a)) := by
  rw [WL.atI_nat, List.getElem?_map]
  unfold Nt.gate
  rw [List.getD_eq_getElem?_getD, List.getElem?_eq_getElem h]
  rfl
abbrev prL (p : Pr) : List Int := [p.1, (p.2 : Int)]
abbrev prW (p : Pr) : W := .tup [.int p.1, .int (p.2 : Int)]
theorem lexLt_pr {p q : Pr} : HT.lexLt (prL p) (prL q) = true ↔ p.1 < q.1 ∨ (p.1 = q.1 ∧ p.2 < q.2) := by
  simp only [prL, HT.lexLt]
  by_cases h : p.1 = q.1
  · rw [if_pos h]
    by_cases h2 : (p.2 : Int) = (q.2 : Int)
    · rw [if_pos h2]; simp; omega
    · rw [if_neg h2]; simp; omega
  · rw [if_neg h]; simp; omega
theorem argBest_min {nss : List (List Int)} {l : List Pr} (e : nss = l.map prL) : ∀ k, k < l.length → ∃ p, l[argBest (btOf nss) k]? = some p ∧ ∀ j q, j ≤ k → l[j]? = some q → ¬ (q.1 < p.1 ∨ (q.1 = p.1 ∧ q.2 < p.2)) := by
  have at_ : ∀ j q, l[j]? = some q → nss.getD j [] = prL q := fun j q h => by rw [e, List.getD_eq_getElem?_getD, List.getElem?_map, h]; rfl
  intro k
  induction k with
  | zero =>
    intro h
    refine ⟨l[0], List.getElem?_eq_getElem h, fun j q hj hq => ?_⟩
    have : j = 0 := by omega
    subst this
    rw [List.getElem?_eq_getElem h] at hq
    cases hq
    omega
  | succ k ih =>
    intro h
    obtain ⟨p, hp, hmin⟩ := ih (by omega)
    have hk : l[k + 1]? = some l[k + 1] := List.getElem?_eq_getElem h
    unfold argBest
    by_cases hb : btOf nss (k + 1) (argBest (btOf nss) k) = true
    · rw [if_pos hb]
      unfold btOf at hb
      rw [at_ _ _ hk, at_ _ _ hp] at hb
      have hlt := lexLt_pr.mp hb
      refine ⟨_, hk, fun j q hj hq => ?_⟩
      by_cases ej : j = k + 1
      · subst ej
        rw [hk] at hq
        cases hq
        omega
      · have := hmin j q (by omega) hq
        omega
    · rw [if_neg hb]
      unfold btOf at hb
      rw [at_ _ _ hk, at_ _ _ hp] at hb
      have hge := fun z => hb (lexLt_pr.mpr z)
      refine ⟨p, hp, fun j q hj hq => ?_⟩
      by_cases ej : j = k + 1
      · subst ej
        rw [hk] at hq
        cases hq
        exact hge
      · exact hmin j q (by omega) hq
theorem minL_best {l : List Pr} {b : Pr} (hw : l.Pairwise (fun p q => p.2 < q.2)) (h : bestL l = some b) : minL (l.map prL) = prL b := by
  have hb := bestL_some h
  have ht := bestL_tie hw h
  have hl : 0 < l.length := List.length_pos_of_mem hb.1
  obtain ⟨p, hp, hmin⟩ := argBest_min (l := l) rfl (l.length - 1) (by omega)
  have e : p = b := by
    have hpm := List.mem_of_getElem? hp
    obtain ⟨j, hj⟩ := List.getElem?_of_mem hb.1
    have hjl : j < l.length := (List.getElem?_eq_some_iff.mp hj).1
    have h1 := hmin j b (by omega) hj
    have h2 := hb.2 p hpm
    have h3 := ht p hpm
    have e1 : p.1 = b.1 := by omega
    have e2 : p.2 = b.2 := by have := h3 e1; omega
    exact Prod.ext e1 e2
  unfold minL
  rw [List.getD_eq_getElem?_getD, List.length_map, List.getElem?_map, hp, e]
  rfl
theorem minT_of {l : List Pr} {b : Pr} {K : W → Prop} {g : G} (hw : l.Pairwise (fun p q => p.2 < q.2)) (h : bestL l = some b) (k : K (prW b)) : rMinT g [.lst (l.map prW)] K := by
  have el : l.map prW = (l.map prL).map wT := by simp [prL, prW, wT]
  refine ⟨_, _, _, rfl, rfl, by rw [el]; exact tupsW_map _, ?_, ?_⟩
  · rw [List.length_map]
    exact List.length_pos_of_mem (bestL_some h).1
  · rw [minL_best hw h]
    exact k
theorem fm_congr {α β : Type} {f f' : α → Option β} : ∀ {l : List α}, (∀ a ∈ l, f a = f' a) → l.filterMap f = l.filterMap f'
  | [], _ => rfl
  | a :: l, h => by rw [List.filterMap_cons, List.filterMap_cons, h a (List.mem_cons_self ..), fm_congr fun b hb => h b (List.mem_cons_of_mem _ hb)]
theorem fm_some {α β : Type} {f : α → β} : ∀ {l : List α}, l.filterMap (fun a => some (f a)) = l.map f
  | [] => rfl
  | a :: l => by rw [List.filterMap_cons, List.map_cons, fm_some]
theorem atI_0 {α : Type} {a : α} {l : List α} : atI (a :: l) 0 = some a := by
  unfold atI ixN
  rw [if_pos (by omega), if_pos (by simp)]
  rfl
theorem atI_1 {α : Type} {a b : α} {l : List α} : atI (a :: b :: l) 1 = some b := by
  unfold atI ixN
  rw [if_pos (by omega), if_pos (by simp; omega)]
  rfl
theorem ixN_add {n a b : Nat} (h : a + b < n) : ixN n ((a : Int) + (b : Int)) = some (a + b) := by
  have := ixN_nat h
  rwa [show ((a + b : Nat) : Int) = (a : Int) + (b : Int) from by omega] at this
theorem row_add {k a b : Nat} {F : Fn} (h : a + b < k) : atI (rowW k F) ((a : Int) + (b : Int)) = some (oI (F (a + b))) := by
  have := row_at (F := F) h
  rwa [show ((a + b : Nat) : Int) = (a : Int) + (b : Int) from by omega] at this
theorem left_cand {N : Nt} {F : Fn} : ((N.left F).filterMap fun a => (timeBy (N.gate a) F).map fun t => prW (t, a)) = (N.cand F).map prW := by
  unfold Nt.left Nt.cand Nt.candOf
  rw [List.filterMap_filter, List.map_filterMap]
  refine fm_congr fun a _ => ?_
  cases F (N.many + a) with
  | none => simp [Option.map_map]; rfl
  | some v => simp
theorem remI_of {l : List Nat} {a : Nat} {KM : W → List W → Prop} (h : a ∈ l) (k : KM .non ((l.erase a).map fun (b : Nat) => W.int (b : Int))) : mRemI (l.map fun (b : Nat) => W.int (b : Int)) [.int (a : Int)] KM := by
  have e : (l.map fun (b : Nat) => W.int (b : Int)) = (l.map fun (b : Nat) => (b : Int)).map W.int := by rw [List.map_map]; rfl
  refine ⟨l.map fun (b : Nat) => (b : Int), (a : Int), by rw [e]; exact intsW_map _, rfl, List.mem_map.mpr ⟨a, h, rfl⟩, ?_⟩
  have e2 : ∀ l : List Nat, (l.map fun (b : Nat) => (b : Int)).erase (a : Int) = (l.erase a).map fun (b : Nat) => (b : Int) := by
    intro l
    induction l with
    | nil => rfl
    | cons x l ih =>
      by_cases hx : x = a
      · subst hx; simp
      · rw [List.map_cons, List.erase_cons_tail (by simpa using fun z => hx (by omega)), List.erase_cons_tail (by simpa using hx), ih]; rfl
  rw [e2, List.map_map]
  exact k
structure NtOk (N : Nt) : Prop where
  ok : N.Ok
  many : N.many < 10000
  size : N.n < 10000
  ops : ∀ x ∈ N.gates, x.ops.length < 10000
theorem run_stop {N : Nt} {F : Fn} (h : N.next F = none) : ∀ k, N.run k F = F
  | 0 => rfl
  | k + 1 => by unfold Nt.run; rw [h]
variable {cl : Str → Addr} {g : G} {K : KW} {KE : XW}
theorem row_non' {k : Nat} : List.replicate k W.non = rowW k fun _ => none := by
  rw [← row_non]; simp
theorem left_start {N : Nt} {S : Fn} : N.left (N.start S) = List.range N.n := by
  unfold Nt.left
  rw [List.filter_eq_self]
  intro a _
  unfold Nt.start
  rw [if_neg (by omega)]; rfl
theorem rgOk_nat {n : Nat} (h : n < 100000) : RgOk 0 (n : Int) := RgOk.of_le (Int.le_refl _) (by omega) (by omega) (by omega)
theorem comes_ok {N : Nt} {S : Fn} (ok : NtOk N) (h : K (.tup (rowW N.n fun a => N.due S (N.many + a))) g) : fnW 11 (t_comes cl) [netW N, .tup (rowW N.many S)] g K KE := by
  have hm := ok.many
  have hs : N.gates.length < 10000 := ok.size
  rw [fnW_r, t_comes]
  simp [netW, rng_map]
  refine ⟨by omega, by omega, by omega, rgOk_nat (by omega), ?_⟩
  refine while_by (m := N.n) (fun m ν g' => g' = g ∧ ∃ F, N.run m F = N.due S ∧ m = (N.left F).length ∧ Sl [some (W.tup [W.int ↑N.many, W.tup (List.map gateW N.gates)]), some (W.tup (rowW N.many S)),
              some (W.int ↑N.many), some (W.tup (List.map gateW N.gates)), some (W.own (rowW (N.many + N.n) F)), some (W.own ((N.left F).map fun (k : Nat) => W.int (k : Int)))] 5 ν) ?_ ?_
  · refine ⟨rfl, N.start S, rfl, ?_, ?_⟩
    · rw [left_start, List.length_range]
    · rw [left_start, row_non', row_app]
      have e : rowW (N.many + N.n) (fun j => if j < N.many then S j else none) = rowW (N.many + N.n) (N.start S) := row_congr fun j _ => rfl
      rw [e]
      exact ⟨rfl, rfl⟩
  · rintro m ν g' Nx ⟨rfl, F, hrun, hlen, hsl⟩ hN
    obtain ⟨x6, x7, x8, x9, x10, rfl⟩ := hsl.r5
    have out : N.next F = none → K (.tup (rowW N.n fun a => F (N.many + a))) g' := fun e => by
      rw [run_stop e] at hrun
      rw [hrun]; exact h
    simp
    by_cases h0 : (N.left F).length = 0
    · have e : N.next F = none := by
        cases e : N.next F with
        | none => rfl
        | some p =>
          obtain ⟨h1, h2, _⟩ := Nt.next_at e
          have := List.length_pos_of_mem (Nt.left_mem.mpr ⟨h1, h2⟩ : p.2 ∈ N.left F)
          omega
      have h1 : ¬ 0 < (N.left F).length := by omega
      simp [h1]
      rw [row_drop]
      exact out e
    · have h1 : 0 < (N.left F).length := by omega
      have hle := Nt.left_le (N := N) (F := F)
      simp [h1]
      refine ⟨by have : (N.left F).length ≤ N.gates.length := hle; omega, ?_⟩
      refine comp_of (N.left F) (fun (a : Nat) => W.int (a : Int)) (fun a => some (.tup [oI (timeBy (N.gate a) F), .int (a : Int)])) (fun a ha A B hA => ?_) ?_
      · obtain ⟨ha1, ha2⟩ := Nt.left_mem.mp ha
        simp [gate_at ha1]
        refine time_by_ok isCame_l (by have := ok.ops _ (N.gate_mem ha1); omega) (fun i hi => ok.ok.ops _ (N.gate_mem ha1) i hi) ?_
        simpa using hA
      · rw [fm_some]
        refine ⟨noLst_map fun a _ => by simp, by rw [List.length_map]; have : (N.left F).length ≤ N.gates.length := hle; omega, ?_⟩
        refine comp_of (N.left F) (fun a => (.tup [oI (timeBy (N.gate a) F), .int (a : Int)])) (fun a => (timeBy (N.gate a) F).map fun t => prW (t, a)) (fun a ha A B hA => ?_) ?_
        · cases e : timeBy (N.gate a) F with
          | none => rw [e] at hA; simpa [atI_0] using hA
          | some t => rw [e] at hA; simpa [atI_0] using hA
        · rw [left_cand]
          refine ⟨noLst_map fun p _ => by simp, ?_⟩
          cases e : N.next F with
          | none =>
            have e2 : N.cand F = [] := bestL_none e
            simp [e2]
            rw [row_drop]
            exact out e
          | some p =>
            have hne : N.cand F ≠ [] := List.ne_nil_of_mem (bestL_some e).1
            obtain ⟨h2, h3, h4⟩ := Nt.next_at e
            simp [hne]
            refine minT_of Nt.cand_sorted e ?_
            simp [ixN_add (show N.many + p.2 < N.many + N.n from by omega)]
            refine remI_of (Nt.left_mem.mpr ⟨h2, h3⟩) ?_
            have hl2 := Nt.left_len (t := p.1) h2 h3
            refine hN (m - 1) _ _ (by omega) ⟨rfl, up F (N.many + p.2) (some p.1), ?_, ?_, ?_⟩
            · obtain ⟨m', rfl⟩ : ∃ m', m = m' + 1 := ⟨m - 1, by omega⟩
              unfold Nt.run at hrun
              rw [e] at hrun
              exact hrun
            · omega
            · rw [← row_set, Nt.left_up h2]
              exact ⟨rfl, rfl⟩
end K70
set_option maxHeartbeats 2000000
namespace K70
open PySem PySem.Spec L2 WL Net
/-! ### the machine -/
def machF (N : Nt) (p : Addr) (d : Int) : List (Str × W) := [("many", .int (N.many : Int)), ("gates", .tup (N.gates.map gateW)), ("times", .adr p), ("done", .int d)]
section
variable {N : Nt} {p : Addr} {d e : Int}
@[simp] theorem m_many : (machF N p d).lookup ("many" : Str) = some (.int (N.many : Int)) := rfl
@[simp] theorem m_gates : (machF N p d).lookup ("gates" : Str) = some (.tup (N.gates.map gateW)) := rfl
@[simp] theorem m_times : (machF N p d).lookup ("times" : Str) = some (.adr p) := rfl
@[simp] theorem m_done : (machF N p d).lookup ("done" : Str) = some (.int d) := rfl
@[simp] theorem m_put : noLook "put" (machF N p d) = True := eq_true rfl
@[simp] theorem m_step : noLook "step" (machF N p d) = True := eq_true rfl
@[simp] theorem m_time_of : noLook "time_of" (machF N p d) = True := eq_true rfl
@[simp] theorem m_len : (machF N p d).length = 4 := rfl
theorem gateW_noLst {x : Gate} : noLst (gateW x) = true := by
  have : noLst.noLstAll (opsW x.ops) = true := noLst_map fun i _ => rfl
  simp [gateW, wordW, this]
theorem gates_noLst {l : List Gate} : noLst.noLstAll (l.map gateW) = true := noLst_map fun x _ => gateW_noLst
@[simp] theorem m_no : fsNo (machF N p d) = true := by
  simp [machF, fsNo, gates_noLst]
@[simp] theorem m_putd : putW "done" (.int e) (machF N p d) = machF N p e := rfl
end
theorem gup_gup {g : G} {a : Addr} {o o' : GO} : gup (gup g a o) a o' = gup g a o' := by
  funext b
  by_cases h : b = a
  · subst h; rw [gup_same, gup_same]
  · rw [gup_ne h, gup_ne h, gup_ne h]
theorem gup_none {g : G} {a b : Addr} {o : GO} (h : gup g a o b = none) : b ≠ a ∧ g b = none := by
  by_cases e : b = a
  · subst e; rw [gup_same] at h; cases h
  · rw [gup_ne e] at h; exact ⟨e, h⟩
theorem pm1 {a : W} : putW (Str.ofString "many") a [] = [(Str.ofString "many", a)] := rfl
theorem pm2 {a b : W} : putW (Str.ofString "gates") b [(Str.ofString "many", a)] = [(Str.ofString "many", a), (Str.ofString "gates", b)] := rfl
theorem pm3 {a b c : W} : putW (Str.ofString "times") c [(Str.ofString "many", a), (Str.ofString "gates", b)] = [(Str.ofString "many", a), (Str.ofString "gates", b), (Str.ofString "times", c)] := rfl
theorem pm4 {a b c d : W} : putW (Str.ofString "done") d [(Str.ofString "many", a), (Str.ofString "gates", b), (Str.ofString "times", c)] = [(Str.ofString "many", a), (Str.ofString "gates", b), (Str.ofString "times", c), (Str.ofString "done", d)] := rfl
theorem pl1 {a b : W} : List.lookup (Str.ofString "many") [(Str.ofString "many", a), (Str.ofString "gates", b)] = some a := rfl
theorem pl2 {a b : W} : List.lookup (Str.ofString "gates") [(Str.ofString "many", a), (Str.ofString "gates", b)] = some b := rfl
structure Mach (g : G) (C x p : Addr) (N : Nt) (M : Fn) (d : Int) : Prop where
  ins : ∃ dx, g x = some (.gi C dx (machF N p d))
  lst : g p = some (.gl (rowW (N.many + N.n) M))
  ne : x ≠ p
def KeepX (g g' : G) (x p : Addr) : Prop := ∀ a, a ≠ x → a ≠ p → g' a = g a
variable {cl : Str → Addr} {g : G} {K : KW} {KE : XW}
theorem init_ok {N : Nt} {x dx C : Addr} (hC : C = cl "Machine") (ok : NtOk N) (hx : g x = some (.gi C dx [])) (h : ∀ p g', Mach g' C x p N (fun _ => none) 0 → KeepX g g' x p → g p = none → K .non g') : fnW 2 (t_Machine___init cl) [.adr x, netW N] g K KE := by
  subst hC
  rw [fnW_r, t_Machine___init]
  simp [netW, hx, pm1, pm2, pl1, pl2, gup_gup, gates_noLst, fsNo]
  have hm := ok.many
  have hs : N.gates.length < 10000 := ok.size
  have hn : N.n = N.gates.length := rfl
  have ez : ((N.many : Int) + (N.gates.length : Int)).toNat = N.many + N.n := by omega
  rw [ez, row_non']
  refine ⟨by omega, by omega, by omega, row_noLst, fun p hp => ?_⟩
  obtain ⟨hpx, hp⟩ := gup_none hp
  have hxp : x ≠ p := fun z => hpx z.symm
  simp [gup_ne hxp, pm3, pm4, fsNo, gates_noLst]
  refine h p _ ⟨⟨dx, by rw [gup_same]; rfl⟩, by rw [gup_ne hpx, gup_same], hxp⟩ (fun a h1 h2 => by rw [gup_ne h1, gup_ne h2, gup_ne h1]) hp
theorem put_ok {N : Nt} {x p C : Addr} {M : Fn} {d : Int} {i : Nat} (hC : C = cl "Machine") (hm : Mach g C x p N M d) (hi : i < N.many) (hn : M i = none) (h : ∀ g', Mach g' C x p N (up M i (some d)) d → KeepX g g' x p → K .non g') : fnW 2 (t_Machine_put cl) [.adr x, .int (i : Int)] g K KE := by
  subst hC
  obtain ⟨⟨dx, hx⟩, hp, hne⟩ := hm
  rw [fnW_r, t_Machine_put]
  simp [hx]
  refine look_i (by omega) (by omega) ?_
  simp [hx, hp, item_a hp, row_at (show i < N.many + N.n by omega), hn, ixN_nat (show i < N.many + N.n by omega)]
  exact h _ ⟨⟨dx, by rw [gup_ne hne]; exact hx⟩, by rw [gup_same, ← row_set]; rfl, hne⟩ fun a h1 h2 => gup_ne h2
end K70
set_option maxHeartbeats 2000000
namespace K70
open PySem PySem.Spec L2 WL Net
/-! ### a step of the machine: mathematics -/
def cutF (T : Fn) (s : Int) : Fn := fun i => match T i with
  | some v => if v < s then some v else none
  | none => none
theorem cutF_some {T : Fn} {s : Int} {i : Nat} {v : Int} : cutF T s i = some v ↔ T i = some v ∧ v < s := by
  unfold cutF
  cases T i with
  | none => simp
  | some u =>
    by_cases h : u < s
    · simp [h]; rintro rfl; exact h
    · simp [h]; rintro rfl; omega
structure Mid (N : Nt) (T : Fn) (d : Int) (M : Fn) : Prop where
  hT : ∀ i v, M i = some v → T i = some v
  hlt : ∀ i v, T i = some v → v < d → M i = some v
  hsig : ∀ i v, i < N.many → T i = some v → v ≤ d → M i = some v
  hle : ∀ i v, M i = some v → v ≤ d
theorem Mid.set {N : Nt} {S : Fn} {d : Int} {M : Fn} (ok : N.Ok) (m : Mid N (N.due S) d M) {a : Nat} (ha : a < N.n) (ht : timeBy (N.gate a) M = some d) : Mid N (N.due S) d (up M (N.many + a) (some d)) := by
  have hTa : N.due S (N.many + a) = some d := by
    rw [← Nt.due_fix ok ha]
    refine timeBy_ext (ok.delay _ (N.gate_mem ha)) ht (fun i _ v hv _ => m.hT i v hv) fun i _ v hv => ?_
    by_cases h : v < d
    · exact .inl (m.hlt i v hv h)
    · exact .inr (by omega)
  have key : ∀ i v, M i = some v → up M (N.many + a) (some d) i = some v := fun i v h => by
    by_cases e : i = N.many + a
    · subst e
      rw [up_s, ← hTa, m.hT _ _ h]
    · rw [up_n e]; exact h
  refine ⟨fun i v h => ?_, fun i v h1 h2 => key i v (m.hlt i v h1 h2), fun i v h0 h1 h2 => key i v (m.hsig i v h0 h1 h2), fun i v h => ?_⟩
  · by_cases e : i = N.many + a
    · subst e; rw [up_s] at h; rw [← h]; exact hTa
    · rw [up_n e] at h; exact m.hT i v h
  · by_cases e : i = N.many + a
    · subst e; rw [up_s] at h; cases h; exact Int.le_refl _
    · rw [up_n e] at h; exact m.hle i v h
def Closed (N : Nt) (d : Int) (M : Fn) : Prop := ∀ a, a < N.n → M (N.many + a) = none → timeBy (N.gate a) M ≠ some d
theorem Mid.done {N : Nt} {S : Fn} {d : Int} {M : Fn} (ok : N.Ok) (m : Mid N (N.due S) d M) (c : Closed N d M) : M = cutF (N.due S) (d + 1) := by
  have h := Nt.run_closed ok m.hT m.hlt c (k := N.n) (F := N.start S) rfl fun i v hv hle => by
    unfold Nt.start at hv
    split at hv
    · rename_i hi
      exact m.hsig i v hi (by rw [Nt.due_sig hi]; exact hv) hle
    · cases hv
  funext i
  cases e : M i with
  | some v =>
    have h1 := m.hT i v e
    have h2 := m.hle i v e
    exact (cutF_some.mpr ⟨h1, by omega⟩).symm
  | none =>
    cases e2 : cutF (N.due S) (d + 1) i with
    | none => rfl
    | some v =>
      obtain ⟨h1, h2⟩ := cutF_some.mp e2
      rw [h i v h1 (by omega)] at e
      cases e
def rowAt (N : Nt) (T : Fn) (d : Int) : List Nat := (List.range N.n).filter fun a => decide (T (N.many + a) = some d)
theorem rowAt_mem {N : Nt} {T : Fn} {d : Int} {a : Nat} : a ∈ rowAt N T d ↔ a < N.n ∧ T (N.many + a) = some d := by
  unfold rowAt
  rw [List.mem_filter, List.mem_range, decide_eq_true_eq]
theorem sorted_row {N : Nt} {T : Fn} {d : Int} {fs : List Nat} {ns : List Int} (hn : fs.Nodup) (hm : ∀ a, a ∈ fs ↔ a < N.n ∧ T (N.many + a) = some d) (hp : ns.Perm (fs.map fun (a : Nat) => (a : Int))) (hs : ns.Pairwise (· ≤ ·)) : ns = (rowAt N T d).map fun (a : Nat) => (a : Int) := by
  have h1 : fs.Perm (rowAt N T d) := (List.perm_ext_iff_of_nodup hn (List.nodup_range.filter _)).mpr fun a => (hm a).trans rowAt_mem.symm
  refine List.Perm.eq_of_pairwise (le := (· ≤ ·)) (fun a b _ _ h1 h2 => by omega) hs ?_ (hp.trans (h1.map _))
  rw [List.pairwise_map]
  exact (List.pairwise_lt_range.filter _).imp fun h => by omega
@[simp] theorem oI_eqi {o : Option Int} {d : Int} : eqW (oI o) (.int d) = decide (o = some d) := by
  have := @oI_eq o (some d)
  rwa [oI_some] at this
variable {cl : Str → Addr} {g : G} {K : KW} {KE : XW}
theorem sortI_of {l : List Nat} {KL : List W → Prop} (h : ∀ ns : List Int, ns.Perm (l.map fun (a : Nat) => (a : Int)) → ns.Pairwise (· ≤ ·) → KL (ns.map W.int)) : rSortI g [.lst (l.map fun (a : Nat) => W.int (a : Int))] KL := by
  refine ⟨_, l.map fun (a : Nat) => (a : Int), rfl, ?_, h⟩
  show (lstG g _).bind intsW = _
  rw [lstG_l]
  have e : (l.map fun (b : Nat) => W.int (b : Int)) = (l.map fun (b : Nat) => (b : Int)).map W.int := by rw [List.map_map]; rfl
  rw [e]
  exact intsW_map _
theorem KeepX.trans {g g' g'' : G} {x p : Addr} (h : KeepX g g' x p) (h' : KeepX g' g'' x p) : KeepX g g'' x p := fun a h1 h2 => (h' a h1 h2).trans (h a h1 h2)
theorem step_ok {N : Nt} {S : Fn} {x p C : Addr} {M : Fn} {d : Int} (hC : C = cl "Machine") (ok : NtOk N) (hm : Mach g C x p N M d) (mid : Mid N (N.due S) d M) (hgl : ∀ a, M (N.many + a) ≠ some d)
    (h : ∀ g', Mach g' C x p N (cutF (N.due S) (d + 1)) (d + 1) → KeepX g g' x p → K (.tup ((rowAt N (N.due S) d).map fun (a : Nat) => W.int (a : Int))) g') : fnW 4 (t_Machine_step cl) [.adr x] g K KE := by
  subst hC
  have hs : N.gates.length < 10000 := ok.size
  rw [fnW_r, t_Machine_step]
  simp
  refine while_by (m := (N.left M).length + 1) (fun m ν g' => ∃ M' fs more, Mach g' (cl "Machine") x p N M' d ∧ Mid N (N.due S) d M' ∧ KeepX g g' x p ∧ List.Nodup fs ∧ (∀ a, a ∈ fs ↔ a < N.n ∧ M' (N.many + a) = some d) ∧
    m = (if more = true then (N.left M').length + 1 else 0) ∧ (more = false → Closed N d M') ∧ Sl [some (.adr x), some (.own (fs.map fun (a : Nat) => W.int (a : Int))), some (.bl more)] 1 ν) ?_ ?_
  · exact ⟨M, [], true, hm, mid, (fun _ _ _ => rfl), List.nodup_nil, (fun a => ⟨(fun z => nomatch z), (fun z => absurd z.2 (hgl a))⟩), rfl, (fun z => nomatch z), rfl, rfl⟩
  · rintro m ν g' Nx ⟨M', fs, more, hm', mid', kp, hnd, hfs, em, hcl, hsl⟩ hN
    obtain ⟨x3, rfl⟩ := hsl.r1
    obtain ⟨⟨dx, hx⟩, hp, hne⟩ := hm'
    cases more with
    | false =>
      simp [hx, hne]
      refine sortI_of fun ns h1 h2 => ?_
      have e := sorted_row (T := N.due S) hnd (fun a => by
        rw [hfs, Mid.done ok.ok mid' (hcl rfl)]
        rw [cutF_some]
        constructor
        · rintro ⟨q1, q2, _⟩; exact ⟨q1, q2⟩
        · rintro ⟨q1, q2⟩; exact ⟨q1, q2, by omega⟩) h1 h2
      rw [e, List.map_map]
      rw [Mid.done ok.ok mid' (hcl rfl)] at hp
      refine h _ ⟨⟨dx, by rw [gup_same]⟩, by rw [gup_ne hne.symm]; exact hp, hne⟩ fun a h1 h2 => by rw [gup_ne h1]; exact kp a h1 h2
    | true =>
      simp [hx]
      refine ⟨by omega, ?_⟩
      refine for_rng (n := N.n) (fun i ν g1 => ∃ M1 fs more, Mach g1 (cl "Machine") x p N M1 d ∧ Mid N (N.due S) d M1 ∧ KeepX g g1 x p ∧ List.Nodup fs ∧ (∀ a, a ∈ fs ↔ a < N.n ∧ M1 (N.many + a) = some d) ∧
        (more = false → M1 = M' ∧ ∀ a, a < i → M' (N.many + a) = none → timeBy (N.gate a) M' ≠ some d) ∧ (more = true → (N.left M1).length < (N.left M').length) ∧ Sl [some (.adr x), some (.own (fs.map fun (a : Nat) => W.int (a : Int))), some (.bl more)] 1 ν) ?_ ?_ ?_
      · exact ⟨M', fs, false, ⟨⟨dx, hx⟩, hp, hne⟩, mid', kp, hnd, hfs, (fun _ => ⟨rfl, (fun a z => absurd z (Nat.not_lt_zero a))⟩), (fun z => nomatch z), rfl, rfl⟩
      · rintro i ν g1 N1 hi ⟨M1, fs1, more1, hm1, mid1, kp1, hnd1, hfs1, hF, hT, hsl1⟩ hN1
        obtain ⟨x3', rfl⟩ := hsl1.r1
        obtain ⟨⟨dx1, hx1⟩, hp1, hne1⟩ := hm1
        have hmi : N.many + i < N.many + N.n := by omega
        simp [hx1, item_a hp1, row_add hmi]
        cases e : M1 (N.many + i) with
        | some v =>
          simp
          refine hN1 _ _ ⟨M1, fs1, more1, ⟨⟨dx1, hx1⟩, hp1, hne1⟩, mid1, kp1, hnd1, hfs1, fun z => ⟨(hF z).1, fun a ha ha2 => ?_⟩, hT, rfl, rfl⟩
          by_cases eai : a = i
          · subst eai
            rw [← (hF z).1, e] at ha2; cases ha2
          · exact (hF z).2 a (by omega) ha2
        | none =>
          simp [gate_at hi]
          refine time_by_ok (isCame_a hp1) (by have := ok.ops _ (N.gate_mem hi); omega) (fun j hj => ok.ok.ops _ (N.gate_mem hi) j hj) ?_
          simp [hx1]
          by_cases ht : timeBy (N.gate i) M1 = some d
          · have hfl : fs1.length ≤ N.n := by
              have hp2 : fs1.Perm ((List.range N.n).filter fun a => decide (M1 (N.many + a) = some d)) := (List.perm_ext_iff_of_nodup hnd1 (List.nodup_range.filter _)).mpr fun a => by rw [hfs1, List.mem_filter, List.mem_range, decide_eq_true_eq]
              have h1 := hp2.length_eq
              have h2 := List.length_filter_le (fun a => decide (M1 (N.many + a) = some d)) (List.range N.n)
              rw [List.length_range] at h2
              omega
            have hnn : N.n = N.gates.length := rfl
            simp [ht, hx1, hp1, ixN_add hmi]
            refine ⟨by omega, hN1 _ _ ⟨up M1 (N.many + i) (some d), fs1 ++ [i], true, ⟨⟨dx1, by rw [gup_ne hne1]; exact hx1⟩, by rw [gup_same, ← row_set]; rfl, hne1⟩, mid1.set ok.ok hi ht, (fun a h1 h2 => by rw [gup_ne h2]; exact kp1 a h1 h2), ?_, fun a => ?_, (fun z => nomatch z), fun _ => ?_, ?_, rfl⟩⟩
            · rw [List.nodup_append]
              refine ⟨hnd1, by simp, fun a ha b hb => ?_⟩
              rw [List.mem_singleton] at hb
              rintro rfl
              rw [hb] at ha
              rw [((hfs1 i).mp ha).2] at e
              cases e
            · rw [List.mem_append, List.mem_singleton, hfs1]
              by_cases eai : a = i
              · subst eai
                rw [up_s]; simp [hi]
              · rw [up_n (by omega)]; simp [eai]
            · have hl := Nt.left_len (t := d) hi e
              cases more1 with
              | false => rw [(hF rfl).1] at hl ⊢; omega
              | true => have := hT rfl; omega
            · rw [List.map_append]; rfl
          · simp [ht]
            refine hN1 _ _ ⟨M1, fs1, more1, ⟨⟨dx1, hx1⟩, hp1, hne1⟩, mid1, kp1, hnd1, hfs1, fun z => ⟨(hF z).1, fun a ha ha2 => ?_⟩, hT, rfl, rfl⟩
            by_cases eai : a = i
            · subst eai
              rw [← (hF z).1]; exact ht
            · exact (hF z).2 a (by omega) ha2
      · rintro ν g1 ⟨M1, fs1, more1, hm1, mid1, kp1, hnd1, hfs1, hF, hT, hsl1⟩
        have em' : m = (N.left M').length + 1 := by rw [em, if_pos rfl]
        refine hN (if more1 = true then (N.left M1).length + 1 else 0) _ _ ?_ ⟨M1, fs1, more1, hm1, mid1, kp1, hnd1, hfs1, rfl, fun z => ?_, hsl1⟩
        · cases more1 with
          | false => rw [if_neg (by decide)]; omega
          | true => rw [if_pos rfl]; have := hT rfl; omega
        · obtain ⟨e1, e2⟩ := hF z
          rw [e1]
          exact e2
end K70
set_option maxHeartbeats 2000000
namespace K70
open PySem PySem.Spec L2 WL Net
@[simp] theorem net_view {N : Nt} : (netW N).view = netW N := rfl
@[simp] theorem net_hide {N : Nt} : hideW (some (netW N)) = some (netW N) := rfl
@[simp] theorem net_noLst {N : Nt} : noLst (netW N) = true := by simp [netW, gates_noLst]
def Keep (g g' : G) : Prop := ∀ a, g a ≠ none → g' a = g a
theorem Keep.refl (g : G) : Keep g g := fun _ _ => rfl
theorem Keep.trans {g g' g'' : G} (h : Keep g g') (h' : Keep g' g'') : Keep g g'' := fun a n => (h' a (by rw [h a n]; exact n)).trans (h a n)
theorem Keep.ofX {g g' g'' : G} {x p : Addr} (h : Keep g g') (k : KeepX g' g'' x p) (hx : g x = none) (hp : g p = none) : Keep g g'' := fun a n => (k a (fun e => n (by rw [e]; exact hx)) (fun e => n (by rw [e]; exact hp))).trans (h a n)
theorem Keep.fresh {g g' : G} (h : Keep g g') {x : Addr} (n : g' x = none) : g x = none := by
  cases e : g x with
  | none => rfl
  | some o => rw [h x (by rw [e]; simp), e] at n; cases n
theorem Keep.gup {g g' : G} (h : Keep g g') {x : Addr} {o : GO} (n : g x = none) : Keep g (WL.gup g' x o) := fun a na => by
  have : a ≠ x := fun e => na (by rw [e]; exact n)
  rw [gup_ne this]; exact h a na
variable {cl : Str → Addr} {g : G} {K : KW} {KE : XW}
def rowT (N : Nt) (T : Fn) (d : Int) : W := .tup ((rowAt N T d).map fun (a : Nat) => W.int (a : Int))
/-- as the signals of a step are put -/
def preF (T : Fn) (d : Int) (j : Nat) : Fn := fun k => if k < j then cutF T (d + 1) k else cutF T d k
theorem preF_0 {T : Fn} {d : Int} : preF T d 0 = cutF T d := by
  funext k; unfold preF; rw [if_neg (Nat.not_lt_zero k)]
theorem cutF_eq {T : Fn} {d : Int} {k : Nat} (h : T k ≠ some d) : cutF T (d + 1) k = cutF T d k := by
  unfold cutF
  cases e : T k with
  | none => rfl
  | some v =>
    have : v ≠ d := fun z => h (by rw [e, z])
    show (if v < d + 1 then some v else none) = (if v < d then some v else none)
    by_cases h1 : v < d
    · rw [if_pos h1, if_pos (by omega)]
    · rw [if_neg h1, if_neg (by omega)]
theorem preF_skip {T : Fn} {d : Int} {j : Nat} (h : T j ≠ some d) : preF T d (j + 1) = preF T d j := by
  funext k
  unfold preF
  by_cases e : k = j
  · subst e
    rw [if_pos (by omega), if_neg (by omega), cutF_eq h]
  · by_cases h1 : k < j
    · rw [if_pos h1, if_pos (by omega)]
    · rw [if_neg h1, if_neg (by omega)]
theorem preF_put {T : Fn} {d : Int} {j : Nat} (h : T j = some d) : up (preF T d j) j (some d) = preF T d (j + 1) := by
  funext k
  by_cases e : k = j
  · subst e
    rw [up_s]
    unfold preF
    rw [if_pos (by omega)]
    exact (cutF_some.mpr ⟨h, by omega⟩).symm
  · rw [up_n e]
    unfold preF
    by_cases h1 : k < j
    · rw [if_pos h1, if_pos (by omega)]
    · rw [if_neg h1, if_neg (by omega)]
theorem preF_none {T : Fn} {d : Int} {j : Nat} (h : T j = some d) : preF T d j j = none := by
  unfold preF
  rw [if_neg (by omega)]
  unfold cutF
  rw [h]
  simp
theorem preF_mid {N : Nt} {T : Fn} {d : Int} : Mid N T d (preF T d N.many) := by
  refine ⟨fun i v h => ?_, fun i v h h2 => ?_, fun i v h0 h h2 => ?_, fun i v h => ?_⟩
  · unfold preF at h
    split at h
    · exact (cutF_some.mp h).1
    · exact (cutF_some.mp h).1
  · unfold preF
    split
    · exact cutF_some.mpr ⟨h, by omega⟩
    · exact cutF_some.mpr ⟨h, h2⟩
  · unfold preF
    rw [if_pos h0]
    exact cutF_some.mpr ⟨h, by omega⟩
  · unfold preF at h
    split at h
    · have := (cutF_some.mp h).2; omega
    · have := (cutF_some.mp h).2; omega
theorem preF_gl {N : Nt} {T : Fn} {d : Int} (a : Nat) : preF T d N.many (N.many + a) ≠ some d := fun h => by
  unfold preF at h
  rw [if_neg (by omega)] at h
  have := (cutF_some.mp h).2
  omega
theorem cutF_0 {T : Fn} (h : ∀ i v, T i = some v → 0 ≤ v) : cutF T 0 = fun _ => none := by
  funext i
  cases e : cutF T 0 i with
  | none => rfl
  | some v =>
    obtain ⟨h1, h2⟩ := cutF_some.mp e
    have := h i v h1
    omega
structure SOk (N : Nt) (S : Fn) : Prop where
  nn : ∀ i v, S i = some v → 0 ≤ v
theorem coming_ok {N : Nt} {S : Fn} {steps : Nat} (ok : NtOk N) (hS : SOk N S) (hst : steps < 10000)
    (h : ∀ g', Keep g g' → K (.tup ((List.range steps).map fun (s : Nat) => rowT N (N.due S) (s : Int))) g') : fnW 7 (t_coming_rows cl) [netW N, .tup (rowW N.many S), .int (steps : Int)] g K KE := by
  have hmany := ok.many
  have hTn := Nt.nonneg ok.ok hS.nn
  rw [fnW_r, t_coming_rows]
  simp
  intro x dx hx
  refine init_ok rfl ok gup_same fun p g' hm kx hp => ⟨rfl, ?_⟩
  have hpx := gup_none hp
  have kp0 : Keep g g' := Keep.ofX (Keep.gup (Keep.refl g) hx) kx hx hpx.2
  refine ⟨by omega, ?_⟩
  refine for_rng (n := steps) (fun i ν g1 => ∃ p, Mach g1 (cl "Machine") x p N (cutF (N.due S) (i : Int)) (i : Int) ∧ Keep g g1 ∧ g x = none ∧ g p = none ∧
    Sl [some (netW N), some (.tup (rowW N.many S)), some (.int (steps : Int)), some (.adr x), some (.own ((List.range i).map fun (s : Nat) => rowT N (N.due S) (s : Int)))] 2 ν) ?_ ?_ ?_
  · refine ⟨p, ?_, kp0, hx, hpx.2, rfl, rfl⟩
    have e : cutF (N.due S) ((0 : Nat) : Int) = fun _ => none := cutF_0 hTn
    rw [e]
    exact hm
  · rintro i ν g1 Nx hi ⟨p, hm1, kp1, hx1, hp1, hsl⟩ hN
    obtain ⟨x5, x6, rfl⟩ := hsl.r2
    simp [netW, atI_0]
    refine ⟨by omega, ?_⟩
    refine for_rng (n := N.many) (fun j ν g2 => Mach g2 (cl "Machine") x p N (preF (N.due S) (i : Int) j) (i : Int) ∧ KeepX g1 g2 x p ∧ 
      Sl [some (netW N), some (.tup (rowW N.many S)), some (.int (steps : Int)), some (.adr x), some (.own ((List.range i).map fun (s : Nat) => rowT N (N.due S) (s : Int))), some (.int (i : Int))] 1 ν) ?_ ?_ ?_
    · exact ⟨by rw [preF_0]; exact hm1, fun _ _ _ => rfl, rfl, rfl⟩
    · rintro j ν g2 N2 hj ⟨hm2, kx2, hsl2⟩ hN2
      obtain ⟨x6, rfl⟩ := hsl2.r1
      have hTS : N.due S j = S j := Nt.due_sig hj
      simp [row_at hj]
      by_cases e : S j = some (i : Int)
      · simp [e]
        obtain ⟨dx2, hx2⟩ := hm2.ins
        simp [hx2]
        rw [← hTS] at e
        refine put_ok rfl hm2 hj (preF_none e) fun g3 hm3 kx3 => ?_
        exact hN2 _ _ ⟨by rw [← preF_put e]; exact hm3, kx2.trans kx3, rfl, rfl⟩
      · simp [e]
        refine hN2 _ _ ⟨?_, kx2, rfl, rfl⟩
        rw [preF_skip (by rw [hTS]; exact e)]
        exact hm2
    · rintro ν g2 ⟨hm2, kx2, hsl2⟩
      obtain ⟨x6, rfl⟩ := hsl2.r1
      obtain ⟨dx2, hx2⟩ := hm2.ins
      simp [hx2]
      refine step_ok rfl ok hm2 preF_mid preF_gl fun g3 hm3 kx3 => ?_
      refine ⟨by omega, hN _ _ ⟨p, ?_, Keep.ofX kp1 (kx2.trans kx3) hx1 hp1, hx1, hp1, ?_, rfl⟩⟩
      · have ei : ((i + 1 : Nat) : Int) = (i : Int) + 1 := by omega
        rw [ei]; exact hm3
      · rw [List.range_succ, List.map_append]; rfl
  · rintro ν g1 ⟨p, hm1, kp1, hx1, hp1, hsl⟩
    obtain ⟨x5, x6, rfl⟩ := hsl.r2
    simp
    exact h g1 kp1
end K70
set_option maxHeartbeats 2000000
namespace K70
open PySem PySem.Spec L2 WL Net
/-! ### same -/
def sz : W → Nat
  | .tup xs => 1 + szs xs
  | .lst xs => 1 + szs xs
  | .scr xs => 1 + szs xs
  | _ => 1
where szs : List W → Nat
  | [] => 0
  | x :: xs => sz x + szs xs
theorem szs_app (xs ys : List W) : sz.szs (xs ++ ys) = sz.szs xs + sz.szs ys := by
  induction xs with
  | nil => simp [sz.szs]
  | cons x xs ih => rw [List.cons_append]; simp only [sz.szs]; rw [ih]; omega
theorem flat_see {n : Nat} {w : W} (h : flatOk n w = true) : hideW (some w) = some w ∧ w.view = w := by
  cases w <;> first | exact ⟨rfl, rfl⟩ | (cases n <;> simp [flatOk] at h)
theorem szs_len (xs : List W) : xs.length ≤ sz.szs xs := by
  induction xs with
  | nil => simp
  | cons x xs ih =>
    simp only [sz.szs, List.length_cons]
    have : 1 ≤ sz x := by cases x <;> simp [sz]
    omega
def twoW (x : W) : W := .tup [x, x]
theorem range_two (xs : List W) : ((List.range xs.length).filterMap fun k => (xs[k]?).map twoW) = xs.map twoW := by
  apply List.ext_getElem?
  intro i
  have e : ((List.range xs.length).filterMap fun k => (xs[k]?).map twoW) = (List.range xs.length).map fun k => twoW (xs.getD k .non) := by
    rw [← fm_some]
    refine fm_congr fun k hk => ?_
    have hk := List.mem_range.mp hk
    rw [List.getElem?_eq_getElem hk, List.getD_eq_getElem?_getD, List.getElem?_eq_getElem hk]
    rfl
  rw [e, List.getElem?_map, List.getElem?_map]
  by_cases hi : i < xs.length
  · rw [List.getElem?_range hi, List.getElem?_eq_getElem hi]
    simp [hi]
  · rw [List.getElem?_eq_none (by simpa using hi), List.getElem?_eq_none (by omega)]
    rfl
variable {cl : Str → Addr} {g : G} {K : KW} {KE : XW}
theorem isiW_c {xs : List W} {n : String} : isiW g (.scr xs) n = kitB "list" n := rfl
theorem same_ok {w : W} {n : Nat} (hw : flatOk n w = true) (hz : sz w ≤ 1000000) (h : K (.bl true) g) : fnW 6 (t_law_same cl) [w, w] g K KE := by
  obtain ⟨h1, h2⟩ := flat_see hw
  rw [fnW_r, t_law_same]
  simp [h1, h2]
  refine while_by (m := sz w) (fun m ν g' => g' = g ∧ ∃ ws : List W, (∀ x ∈ ws, ∃ n, flatOk n x = true) ∧ m = sz.szs ws ∧ m ≤ 1000000 ∧ Sl [some w, some w, some (.own (ws.map twoW))] 3 ν) ?_ ?_
  · exact ⟨rfl, [w], by simp; exact ⟨n, hw⟩, by simp [sz.szs], hz, rfl, rfl⟩
  · rintro m ν g' Nx ⟨rfl, ws, hws, em, hm, hsl⟩ hN
    obtain ⟨x3, x4, x5, rfl⟩ := hsl.r3
    rcases List.eq_nil_or_concat ws with rfl | ⟨ys, x, rfl⟩
    · simp
      exact h
    · have hx := hws x (by simp)
      obtain ⟨k, hk⟩ := hx
      rw [List.concat_eq_append] at *
      rw [szs_app] at em
      simp only [sz.szs] at em
      have hys : ∀ z ∈ ys, ∃ n, flatOk n z = true := fun z hz => hws z (by simp [hz])
      simp [twoW]
      have go : ∀ m', m' = sz.szs ys → m' < m → ∀ ν, Sl [some w, some w, some (.own (ys.map twoW))] 3 ν → Nx ν g' := fun m' e1 e2 ν hs => hN m' ν g' e2 ⟨rfl, ys, hys, e1, by omega, hs⟩
      cases x with
      | non => simp; exact go _ rfl (by simp [sz] at em; omega) _ ⟨rfl, rfl⟩
      | bl b => simp; exact go _ rfl (by simp [sz] at em; omega) _ ⟨rfl, rfl⟩
      | int b => simp; exact go _ rfl (by simp [sz] at em; omega) _ ⟨rfl, rfl⟩
      | str b =>
        have hb : PyData.strOk b = true := by simpa using hk
        simp [hb]; exact go _ rfl (by simp [sz] at em; omega) _ ⟨rfl, rfl⟩
      | tup xs =>
        have hxs : ∀ z ∈ xs, ∃ n, flatOk n z = true := fun z hz => by
          cases k with
          | zero => simp [flatOk] at hk
          | succ k => exact ⟨k, by simp [flatOk] at hk; exact hk z hz⟩
        simp only [sz] at em
        have hl := szs_len xs
        have hly := szs_len ys
        simp [rng_map]
        refine ⟨by omega, by omega, comp_of (List.range xs.length) (fun (k : Nat) => W.int (k : Int)) (fun k => (xs[k]?).map twoW) (fun i hi A B hA => ?_) ?_⟩
        · have hi := List.mem_range.mp hi
          rw [List.getElem?_eq_getElem hi] at hA
          simp [WL.atI_nat, hi, twoW] at hA ⊢
          exact hA
        · rw [range_two]
          refine ⟨by rw [List.length_map]; omega, hN (sz.szs (ys ++ xs)) _ _ (by rw [szs_app]; omega) ⟨rfl, ys ++ xs, fun z hz => ?_, rfl, by rw [szs_app]; omega, ?_, rfl⟩⟩
          · rcases List.mem_append.mp hz with h | h
            · exact hys z h
            · exact hxs z h
          · rw [List.map_append]; rfl
      | lst xs =>
        have hxs : ∀ z ∈ xs, ∃ n, flatOk n z = true := fun z hz => by
          cases k with
          | zero => simp [flatOk] at hk
          | succ k => exact ⟨k, by simp [flatOk] at hk; exact hk z hz⟩
        simp only [sz] at em
        have hl := szs_len xs
        have hly := szs_len ys
        simp [rng_map]
        refine ⟨by omega, by omega, comp_of (List.range xs.length) (fun (k : Nat) => W.int (k : Int)) (fun k => (xs[k]?).map twoW) (fun i hi A B hA => ?_) ?_⟩
        · have hi := List.mem_range.mp hi
          rw [List.getElem?_eq_getElem hi] at hA
          simp [WL.atI_nat, hi, twoW] at hA ⊢
          exact hA
        · rw [range_two]
          refine ⟨by rw [List.length_map]; omega, hN (sz.szs (ys ++ xs)) _ _ (by rw [szs_app]; omega) ⟨rfl, ys ++ xs, fun z hz => ?_, rfl, by rw [szs_app]; omega, ?_, rfl⟩⟩
          · rcases List.mem_append.mp hz with h | h
            · exact hys z h
            · exact hxs z h
          · rw [List.map_append]; rfl
      | scr xs =>
        have hxs : ∀ z ∈ xs, ∃ n, flatOk n z = true := fun z hz => by
          cases k with
          | zero => simp [flatOk] at hk
          | succ k => exact ⟨k, by simp [flatOk] at hk; exact hk z hz⟩
        simp only [sz] at em
        have hl := szs_len xs
        have hly := szs_len ys
        simp [rng_map, isiW_c]
        refine ⟨by omega, by omega, comp_of (List.range xs.length) (fun (k : Nat) => W.int (k : Int)) (fun k => (xs[k]?).map twoW) (fun i hi A B hA => ?_) ?_⟩
        · have hi := List.mem_range.mp hi
          rw [List.getElem?_eq_getElem hi] at hA
          simp [WL.atI_nat, hi, twoW] at hA ⊢
          exact hA
        · rw [range_two]
          refine ⟨by rw [List.length_map]; omega, hN (sz.szs (ys ++ xs)) _ _ (by rw [szs_app]; omega) ⟨rfl, ys ++ xs, fun z hz => ?_, rfl, by rw [szs_app]; omega, ?_, rfl⟩⟩
          · rcases List.mem_append.mp hz with h | h
            · exact hys z h
            · exact hxs z h
          · rw [List.map_append]; rfl
      | adr a => cases k <;> simp [flatOk] at hk
      | own a => cases k <;> simp [flatOk] at hk
      | ty a => cases k <;> simp [flatOk] at hk
end K70
set_option maxHeartbeats 2000000
namespace K70
open PySem PySem.Spec L2 WL Net
variable {cl : Str → Addr} {g : G} {K : KW} {KE : XW}
theorem run_steps_ok {N : Nt} {S : Fn} {steps : Nat} (ok : NtOk N) (hS : SOk N S) (hst : steps < 10000)
    (h : ∀ g', Keep g g' → K (.tup (rowW N.n fun a => cutF (N.due S) (steps : Int) (N.many + a))) g') : fnW 7 (t_run_steps cl) [netW N, .tup (rowW N.many S), .int (steps : Int)] g K KE := by
  have hs : N.gates.length < 10000 := ok.size
  have hTn := Nt.nonneg ok.ok hS.nn
  rw [fnW_r, t_run_steps]
  simp [netW, atI_1]
  refine ⟨by omega, by omega, coming_ok ok hS hst fun g' hk => ⟨by omega, ?_⟩⟩
  refine for_rng (n := steps) (fun i ν g1 => g1 = g' ∧ 
    Sl [some (netW N), some (.tup (rowW N.many S)), some (.int (steps : Int)), some (.own (rowW N.n fun a => cutF (N.due S) (i : Int) (N.many + a))), some (.tup ((List.range steps).map fun (s : Nat) => rowT N (N.due S) (s : Int)))] 2 ν) ?_ ?_ ?_
  · refine ⟨rfl, ?_, rfl⟩
    have e : cutF (N.due S) ((0 : Nat) : Int) = fun _ => none := cutF_0 hTn
    rw [e, row_non']
    rfl
  · rintro i ν g1 Nx hi ⟨rfl, hsl⟩ hN
    obtain ⟨x5, x6, rfl⟩ := hsl.r2
    simp [WL.atI_nat, hi, rowT]
    refine for_by (fun j ν g2 => g2 = g1 ∧ Sl [some (netW N), some (.tup (rowW N.many S)), some (.int (steps : Int)), some (.own (rowW N.n fun a => if a ∈ (rowAt N (N.due S) (i : Int)).take j then some (i : Int) else cutF (N.due S) (i : Int) (N.many + a))), some (.tup ((List.range steps).map fun (s : Nat) => rowT N (N.due S) (s : Int))), some (.int (i : Int))] 1 ν) ?_ ?_ ?_
    · refine ⟨rfl, ?_, rfl⟩
      simp
      exact fun _ _ => rfl
    · rintro j w ν g2 N2 hw ⟨rfl, hsl2⟩ hN2
      obtain ⟨x6, rfl⟩ := hsl2.r1
      rw [List.getElem?_map] at hw
      cases q : (rowAt N (N.due S) (i : Int))[j]? with
      | none => rw [q] at hw; cases hw
      | some a =>
        rw [q] at hw
        cases hw
        have ha := rowAt_mem.mp (List.mem_of_getElem? q)
        simp [ixN_nat ha.1]
        refine hN2 _ _ ⟨rfl, ?_, rfl⟩
        have e := row_set (k := N.n) (F := fun a => if a ∈ (rowAt N (N.due S) (i : Int)).take j then some (i : Int) else cutF (N.due S) (i : Int) (N.many + a)) (j := a) (some (i : Int))
        rw [oI_some] at e
        rw [List.take_add_one, q]
        simp only [List.take, List.cons.injEq, Option.some.injEq, W.own.injEq, true_and, and_true, List.take_succ_cons, List.length_cons, List.length_nil]
        rw [e]
        refine row_congr fun b _ => ?_
        by_cases eb : b = a
        · subst eb; rw [up_s]; simp
        · rw [up_n eb]; simp [eb]
    · rintro ν g2 ⟨rfl, hsl2⟩
      obtain ⟨x6, rfl⟩ := hsl2.r1
      refine hN _ _ ⟨rfl, ?_, rfl⟩
      have e : (rowW N.n fun a => if a ∈ (rowAt N (N.due S) (i : Int)).take (((rowAt N (N.due S) (i : Int)).map fun (a : Nat) => W.int (a : Int)).length) then some (i : Int) else cutF (N.due S) (i : Int) (N.many + a)) = rowW N.n fun a => cutF (N.due S) ((i + 1 : Nat) : Int) (N.many + a) := row_congr fun a ha => by
        rw [List.length_map, List.take_length]
        have ei : ((i + 1 : Nat) : Int) = (i : Int) + 1 := by omega
        rw [ei]
        by_cases h1 : N.due S (N.many + a) = some (i : Int)
        · rw [if_pos (rowAt_mem.mpr ⟨ha, h1⟩)]
          exact (cutF_some.mpr ⟨h1, by omega⟩).symm
        · rw [if_neg fun z => h1 (rowAt_mem.mp z).2, cutF_eq h1]
      rw [e]
      rfl
  · rintro ν g1 ⟨rfl, hsl⟩
    obtain ⟨x5, x6, rfl⟩ := hsl.r2
    simp
    exact h g1 hk
theorem told_ok {k : Nat} {F : Fn} {xs : List W} (hx : xs = rowW k F) : xs.filterMap (fun w => if WL.isNon w = true then none else some w) = (there F (List.range k)).map W.int := by
  subst hx
  unfold rowW there
  rw [List.filterMap_map, List.map_filterMap]
  refine fm_congr fun j _ => ?_
  simp
  cases F j <;> simp
end K70
set_option maxHeartbeats 2000000
namespace K70
open PySem PySem.Spec L2 WL Net
def bW : Option Pr → W
  | none => .non
  | some p => prW p
@[simp] theorem bW_view {o : Option Pr} : (bW o).view = bW o := by cases o <;> rfl
@[simp] theorem bW_hide {o : Option Pr} : hideW (some (bW o)) = some (bW o) := by cases o <;> rfl
@[simp] theorem bW_isNon {o : Option Pr} : WL.isNon (bW o) = o.isNone := by cases o <;> rfl
@[simp] theorem bW_noLst {o : Option Pr} : noLst (bW o) = true := by cases o <;> rfl
theorem candOf_succ {N : Nt} {F : Fn} {a : Nat} : N.candOf F (List.range (a + 1)) = N.candOf F (List.range a) ++ (if F (N.many + a) = none then (timeBy (N.gate a) F).map fun t => (t, a) else none).toList := by
  unfold Nt.candOf
  rw [List.range_succ, List.filterMap_append]
  congr 1
theorem best_succ {l r : List Pr} : bestL (l ++ r) = r.foldl stepB (bestL l) := by
  unfold bestL; rw [List.foldl_append]
variable {cl : Str → Addr} {g : G} {K : KW} {KE : XW}
theorem law_comes_ok {N : Nt} {S : Fn} (ok : NtOk N) (h : K (.tup (rowW N.n fun a => N.due S (N.many + a))) g) : fnW 14 (t_law_comes cl) [netW N, .tup (rowW N.many S)] g K KE := by
  have hm := ok.many
  have hs : N.gates.length < 10000 := ok.size
  rw [fnW_r, t_law_comes]
  simp [netW]
  refine ⟨by omega, by omega, by omega, by omega, ?_⟩
  have ed : N.n = N.gates.length := rfl
  refine for_rng (n := N.n) (fun lap ν g1 => g1 = g ∧ ∃ F, N.run (N.n - lap) F = N.due S ∧ Sl [some (W.tup [W.int ↑N.many, W.tup (List.map gateW N.gates)]), some (W.tup (rowW N.many S)),
              some (W.int ↑N.many), some (W.tup (List.map gateW N.gates)), some (W.own (rowW (N.many + N.n) F))] 9 ν) ?_ ?_ ?_
  · refine ⟨rfl, N.start S, rfl, ?_, rfl⟩
    rw [row_non', row_app]
    have e : rowW (N.many + N.n) (fun j => if j < N.many then S j else none) = rowW (N.many + N.n) (N.start S) := row_congr fun j _ => rfl
    rw [← e]
    rfl
  · rintro lap ν g1 Nx hlap ⟨rfl, F, hrun, hsl⟩ hN
    obtain ⟨x5, x6, x7, x8, x9, x10, x11, x12, x13, rfl⟩ := hsl.r9
    simp
    refine ⟨by omega, ?_⟩
    refine for_rng (n := N.n) (fun a ν g2 => g2 = g1 ∧ Sl [some (W.tup [W.int ↑N.many, W.tup (List.map gateW N.gates)]), some (W.tup (rowW N.many S)),
              some (W.int ↑N.many), some (W.tup (List.map gateW N.gates)), some (W.own (rowW (N.many + N.n) F)), some (.int (lap : Int)), some (bW (bestL (N.candOf F (List.range a))))] 7 ν) ?_ ?_ ?_
    · exact ⟨rfl, rfl, rfl⟩
    · rintro a ν g2 N2 ha ⟨rfl, hsl2⟩ hN2
      obtain ⟨x7, x8, x9, x10, x11, x12, x13, rfl⟩ := hsl2.r7
      have hma : N.many + a < N.many + N.n := by omega
      simp [row_add hma]
      cases e : F (N.many + a) with
      | some v =>
        simp
        refine hN2 _ _ ⟨rfl, ?_, rfl⟩
        rw [candOf_succ, e]
        simp
      | none =>
        have hops := ok.ops _ (N.gate_mem ha)
        have hin := ok.ok.ops _ (N.gate_mem ha)
        simp [gate_at ha, gateW, wordW, opsW]
        refine ⟨by omega, comp_of (N.gate a).ops (fun (i : Nat) => W.int (i : Int)) (fun i => (F i).map W.int) (fun i hi A B hAB => ?_) ?_⟩
        · simp [row_at (hin i hi)]
          cases e : F i with
          | none => rw [e] at hAB; simpa using hAB
          | some v => rw [e] at hAB; simpa using hAB
        · rw [fm_ints]
          have fin1 : ∀ ν, timeBy (N.gate a) F = none → Sl [some (W.tup [W.int ↑N.many, W.tup (List.map gateW N.gates)]), some (W.tup (rowW N.many S)),
              some (W.int ↑N.many), some (W.tup (List.map gateW N.gates)), some (W.own (rowW (N.many + N.n) F)), some (.int (lap : Int)), some (bW (bestL (N.candOf F (List.range a))))] 7 ν → N2 ν g2 := fun ν et hs => by
            refine hN2 ν g2 ⟨rfl, ?_⟩
            rw [candOf_succ, e, if_pos rfl, et]
            simpa using hs
          have fin2 : ∀ t ν, timeBy (N.gate a) F = some t → Sl [some (W.tup [W.int ↑N.many, W.tup (List.map gateW N.gates)]), some (W.tup (rowW N.many S)),
              some (W.int ↑N.many), some (W.tup (List.map gateW N.gates)), some (W.own (rowW (N.many + N.n) F)), some (.int (lap : Int)), some (bW (stepB (bestL (N.candOf F (List.range a))) (t, a)))] 7 ν → N2 ν g2 := fun t ν et hs => by
            refine hN2 ν g2 ⟨rfl, ?_⟩
            rw [candOf_succ, e, if_pos rfl, et, best_succ]
            exact hs
          have hnl : noLst.noLstAll ((there F (N.gate a).ops).map W.int) = true := noLst_map fun _ _ => rfl
          have hle : (there F (N.gate a).ops).length ≤ (N.gate a).ops.length := List.length_filterMap_le ..
          by_cases hn : there F (N.gate a).ops = []
          · simp [hn]
            refine fin1 _ (by unfold timeBy; rw [if_pos (.inl hn)]) ?_
            exact ⟨rfl, rfl⟩
          · cases hx : (N.gate a).last with
            | true =>
              by_cases hlt : (there F (N.gate a).ops).length < (N.gate a).ops.length
              · have hne : ¬ (((there F (N.gate a).ops).length : Int) = ((N.gate a).ops.length : Int)) := by omega
                simp [hn, hnl, hne]
                refine fin1 _ (by unfold timeBy; rw [if_pos (.inr ⟨hx, hlt⟩)]) ?_
                exact ⟨rfl, rfl⟩
              · have hne : (there F (N.gate a).ops).length = (N.gate a).ops.length := by omega
                have et : timeBy (N.gate a) F = some ((N.gate a).delay + lmax (there F (N.gate a).ops)) := by
                  unfold timeBy
                  rw [if_neg (not_or.mpr ⟨hn, fun z => hlt z.2⟩), if_pos hx]
                simp [hn, hnl, hne]
                refine max_of hn ?_
                simp
                cases eb : bestL (N.candOf F (List.range a)) with
                | none =>
                  simp [bW]
                  refine fin2 _ _ et ?_
                  exact ⟨by rw [eb]; rfl, rfl⟩
                | some q =>
                  simp [bW, prW, atI_0]
                  by_cases hq : (N.gate a).delay + lmax (there F (N.gate a).ops) < q.1
                  · simp [hq]
                    refine fin2 _ _ et ?_
                    exact ⟨by rw [eb]; simp [stepB, hq, bW, prW], rfl⟩
                  · simp [hq]
                    refine fin2 _ _ et ?_
                    exact ⟨by rw [eb]; simp [stepB, hq, bW, prW], rfl⟩
            | false =>
              have et : timeBy (N.gate a) F = some ((N.gate a).delay + lmin (there F (N.gate a).ops)) := by
                unfold timeBy
                rw [if_neg (not_or.mpr ⟨hn, fun z => by rw [hx] at z; cases z.1⟩), if_neg (by rw [hx]; decide)]
              simp [hn, hnl]
              refine min_of hn ?_
              simp
              cases eb : bestL (N.candOf F (List.range a)) with
              | none =>
                simp [bW]
                refine fin2 _ _ et ?_
                exact ⟨by rw [eb]; rfl, rfl⟩
              | some q =>
                simp [bW, prW, atI_0]
                by_cases hq : (N.gate a).delay + lmin (there F (N.gate a).ops) < q.1
                · simp [hq]
                  refine fin2 _ _ et ?_
                  exact ⟨by rw [eb]; simp [stepB, hq, bW, prW], rfl⟩
                · simp [hq]
                  refine fin2 _ _ et ?_
                  exact ⟨by rw [eb]; simp [stepB, hq, bW, prW], rfl⟩
    · rintro ν g2 ⟨rfl, hsl2⟩
      obtain ⟨x7, x8, x9, x10, x11, x12, x13, rfl⟩ := hsl2.r7
      have eb : bestL (N.candOf F (List.range N.n)) = N.next F := rfl
      rw [eb]
      obtain ⟨k', ek⟩ : ∃ k', N.n - lap = k' + 1 := ⟨N.n - lap - 1, by omega⟩
      cases e : N.next F with
      | none =>
        rw [run_stop e] at hrun
        simp [bW]
        rw [row_drop, hrun]
        exact h
      | some p =>
        obtain ⟨h2, h3, h4⟩ := Nt.next_at e
        simp [bW, prW, atI_0, atI_1, ixN_add (show N.many + p.2 < N.many + N.n from by omega)]
        refine hN _ _ ⟨rfl, up F (N.many + p.2) (some p.1), ?_, ?_, rfl⟩
        · rw [ek] at hrun
          unfold Nt.run at hrun
          rw [e] at hrun
          have : N.n - (lap + 1) = k' := by omega
          rw [this]
          exact hrun
        · rw [← row_set]
          rfl
  · rintro ν g1 ⟨rfl, F, hrun, hsl⟩
    obtain ⟨x5, x6, x7, x8, x9, x10, x11, x12, x13, rfl⟩ := hsl.r9
    rw [Nat.sub_self] at hrun
    simp
    rw [row_drop, show F = N.due S from hrun]
    exact h
end K70
set_option maxHeartbeats 2000000
namespace K70
open PySem PySem.Spec L2 WL Net
theorem row_all {N : Nt} {S : Fn} : rowW N.many S ++ rowW N.n (fun a => N.due S (N.many + a)) = rowW (N.many + N.n) (N.due S) := by
  rw [row_app]
  refine row_congr fun j hj => ?_
  by_cases h : j < N.many
  · rw [if_pos h, Nt.due_sig h]
  · rw [if_neg h, show N.many + (j - N.many) = j by omega]
def toldL (N : Nt) (S : Fn) : List Int := there (N.due S) (List.range (N.many + N.n))
def quiet (N : Nt) (S : Fn) : Int := lmax (0 :: (toldL N S).map (· + 1))
theorem told_nn {N : Nt} {S : Fn} (ok : NtOk N) (hS : SOk N S) : ∀ v ∈ toldL N S, 0 ≤ v := fun v hv => by
  obtain ⟨i, _, e⟩ := there_mem.mp hv
  exact Nt.nonneg ok.ok hS.nn i v e
theorem quiet_eq {N : Nt} {S : Fn} (ok : NtOk N) (hS : SOk N S) : quiet N S = if toldL N S = [] then 0 else lmax (toldL N S) + 1 := by
  have hn := told_nn ok hS
  unfold quiet
  by_cases h : toldL N S = []
  · rw [if_pos h, h]; rfl
  · rw [if_neg h]
    symm
    refine lmax_eq (List.mem_cons_of_mem _ (List.mem_map.mpr ⟨_, lmax_mem h, rfl⟩)) fun y hy => ?_
    rcases List.mem_cons.mp hy with e | hy
    · have := hn _ (lmax_mem h); omega
    · obtain ⟨z, hz, rfl⟩ := List.mem_map.mp hy
      have := le_lmax hz; omega
theorem quiet_nn {N : Nt} {S : Fn} : 0 ≤ quiet N S := le_lmax (List.mem_cons_self ..)
def lateO (N : Nt) (S : Fn) : Option Int :=
  let l := there (fun a => N.due S (N.many + a)) (List.range N.n)
  if l = [] then none else some (lmax l)
theorem fm_row {k : Nat} {F : Fn} : ((List.range k).filterMap fun j => (F j).map W.int) = (there F (List.range k)).map W.int := fm_ints _
variable {cl : Str → Addr} {g : G} {K : KW} {KE : XW}
theorem there_lt {F : Fn} {k : Nat} (h : k < 100000) : (there F (List.range k)).length < 100000 := by
  have := List.length_filterMap_le F (List.range k)
  rw [List.length_range] at this
  exact Nat.lt_of_le_of_lt this h
theorem quiet_behind_ok {N : Nt} {S : Fn} (ok : NtOk N) (hS : SOk N S) (h : K (.int (quiet N S)) g) : fnW 4 (t_quiet_behind cl) [netW N, .tup (rowW N.many S)] g K KE := by
  have hm := ok.many
  have hs := ok.size
  rw [fnW_r, t_quiet_behind]
  simp
  refine comes_ok ok ?_
  simp
  refine ⟨by omega, by omega, ?_⟩
  rw [row_all]
  refine comp_of (List.range (N.many + N.n)) (fun j => oI (N.due S j)) (fun j => (N.due S j).map W.int) (fun j hj A B hA => ?_) ?_
  · cases e : N.due S j with
    | none => rw [e] at hA; simpa using hA
    | some v => rw [e] at hA; simpa using hA
  · rw [fm_row]
    rw [quiet_eq ok hS] at h
    by_cases hl : toldL N S = []
    · rw [if_pos hl] at h
      have hl' : there (N.due S) (List.range (N.many + N.n)) = [] := hl
      simp [hl']
      exact h
    · rw [if_neg hl] at h
      have hl' : there (N.due S) (List.range (N.many + N.n)) ≠ [] := hl
      have hp := List.length_pos_iff.mpr hl'
      simp [hp]
      refine max_of hl' ?_
      simp
      exact h
theorem latest_ok {N : Nt} {S : Fn} (ok : NtOk N) (h : K (oI (lateO N S)) g) : fnW 4 (t_latest_time cl) [netW N, .tup (rowW N.many S)] g K KE := by
  have hm := ok.many
  have hs := ok.size
  rw [fnW_r, t_latest_time]
  simp
  refine comes_ok ok ?_
  simp
  refine ⟨by omega, ?_⟩
  refine comp_of (List.range N.n) (fun j => oI (N.due S (N.many + j))) (fun j => (N.due S (N.many + j)).map W.int) (fun j hj A B hA => ?_) ?_
  · cases e : N.due S (N.many + j) with
    | none => rw [e] at hA; simpa using hA
    | some v => rw [e] at hA; simpa using hA
  · rw [fm_row (F := fun a => N.due S (N.many + a))]
    unfold lateO at h
    by_cases hl : there (fun a => N.due S (N.many + a)) (List.range N.n) = []
    · rw [if_pos hl] at h
      simp [hl]
      exact h
    · rw [if_neg hl] at h
      have hp := List.length_pos_iff.mpr hl
      simp [hp]
      refine max_of hl ?_
      simpa using h
abbrev dueW (N : Nt) (S : Fn) : W := .tup (rowW N.n fun a => N.due S (N.many + a))
theorem law_quiet_ok {N : Nt} {S : Fn} (ok : NtOk N) (h : K (.int (quiet N S)) g) : fnW 3 (t_law_quiet cl) [.tup (rowW N.many S), dueW N S] g K KE := by
  have hm := ok.many
  have hs := ok.size
  rw [fnW_r, t_law_quiet]
  simp
  refine ⟨by omega, by omega, ?_⟩
  rw [row_all]
  refine comp_of (List.range (N.many + N.n)) (fun j => oI (N.due S j)) (fun j => (N.due S j).map fun v => W.int (v + 1)) (fun j hj A B hA => ?_) ?_
  · cases e : N.due S j with
    | none => rw [e] at hA; simpa using hA
    | some v => rw [e] at hA; simpa using hA
  · have e : ((List.range (N.many + N.n)).filterMap fun j => (N.due S j).map fun v => W.int (v + 1)) = ((toldL N S).map (· + 1)).map W.int := by
      unfold toldL there
      rw [List.map_filterMap, List.map_filterMap]
      refine fm_congr fun j _ => ?_
      cases N.due S j <;> rfl
    rw [e]
    have hlt : (toldL N S).length < 100000 := there_lt (by omega)
    simp
    refine ⟨by omega, ?_⟩
    have e2 : W.int 0 :: List.map (W.int ∘ fun x => x + 1) (toldL N S) = (0 :: (toldL N S).map (· + 1)).map W.int := by simp
    rw [e2]
    exact max_of (by simp) h
theorem row_flat {k n : Nat} {F : Fn} : flatOk (n + 1) (.tup (rowW k F)) = true := by
  simp only [flatOk, List.all_eq_true]
  intro x hx
  obtain ⟨j, _, rfl⟩ := List.mem_map.mp hx
  exact oI_flat
theorem szs_le {l : List W} {c : Nat} (h : ∀ x ∈ l, sz x ≤ c) : sz.szs l ≤ c * l.length := by
  induction l with
  | nil => simp [sz.szs]
  | cons x l ih =>
    simp only [sz.szs, List.length_cons]
    have h1 := h x (List.mem_cons_self ..)
    have h2 := ih fun y hy => h y (List.mem_cons_of_mem _ hy)
    rw [Nat.mul_add]
    omega
theorem row_sz {k : Nat} {F : Fn} : sz (.tup (rowW k F)) ≤ 1 + k := by
  simp only [sz]
  have := szs_le (l := rowW k F) (c := 1) fun x hx => by
    obtain ⟨j, _, rfl⟩ := List.mem_map.mp hx
    cases F j <;> simp [sz]
  rw [row_len] at this
  omega
theorem law_whole_ok {N : Nt} {S : Fn} (ok : NtOk N) (hS : SOk N S) (h : K (.bl true) g) : fnW 8 (t_law_whole cl) [netW N, .tup (rowW N.many S), dueW N S] g K KE := by
  have hm := ok.many
  have hs := ok.size
  rw [fnW_r, t_law_whole]
  simp
  refine law_quiet_ok ok ?_
  refine ⟨by omega, ?_⟩
  refine comp_of (List.range N.n) (fun j => oI (N.due S (N.many + j))) (fun j => (N.due S (N.many + j)).map W.int) (fun j hj A B hA => ?_) ?_
  · cases e : N.due S (N.many + j) with
    | none => rw [e] at hA; simpa using hA
    | some v => rw [e] at hA; simpa using hA
  · rw [fm_row (F := fun a => N.due S (N.many + a))]
    have fin : ∀ KE : XW, fnW 6 (t_law_same cl) [.tup [.int (quiet N S), oI (lateO N S), dueW N S], .tup [.int (quiet N S), oI (lateO N S), dueW N S]] g K KE := fun KE => by
      refine same_ok (n := 60) ?_ ?_ h
      · simp [flatOk, oI_flat]
        intro x hx
        obtain ⟨j, _, rfl⟩ := List.mem_map.mp hx
        exact oI_flat
      · have h1 := row_sz (k := N.n) (F := fun a => N.due S (N.many + a))
        have h2 : sz (oI (lateO N S)) = 1 := by cases lateO N S <;> rfl
        simp only [sz, sz.szs] at h1 ⊢
        omega
    by_cases hl : there (fun a => N.due S (N.many + a)) (List.range N.n) = []
    · have el : lateO N S = none := by unfold lateO; rw [if_pos hl]
      simp [hl]
      refine quiet_behind_ok ok hS (latest_ok ok (comes_ok ok ?_))
      rw [el] at fin ⊢
      exact fin _
    · have el : lateO N S = some (lmax (there (fun a => N.due S (N.many + a)) (List.range N.n))) := by unfold lateO; rw [if_neg hl]
      have hnl : noLst.noLstAll ((there (fun a => N.due S (N.many + a)) (List.range N.n)).map W.int) = true := noLst_map fun _ _ => rfl
      simp [hl]
      refine max_of hl ?_
      simp
      refine quiet_behind_ok ok hS (latest_ok ok (comes_ok ok ?_))
      rw [el] at fin ⊢
      exact fin _
end K70
set_option maxHeartbeats 2000000
namespace K70
open PySem PySem.Spec L2 WL Net
variable {cl : Str → Addr} {g : G} {K : KW} {KE : XW}
theorem law_run_ok {k : Nat} {F : Fn} {s : Int} (hk : k < 100000) (h : K (.tup (rowW k (cutF F s))) g) : fnW 3 (t_law_run cl) [.tup (rowW k F), .int s] g K KE := by
  rw [fnW_r, t_law_run]
  simp
  refine ⟨by omega, ?_⟩
  refine comp_of (List.range k) (fun j => oI (F j)) (fun j => some (oI (cutF F s j))) (fun j hj A B hA => ?_) ?_
  · simp only [cutF] at hA
    cases e : F j with
    | none => rw [e] at hA; simpa using hA
    | some v =>
      rw [e] at hA
      by_cases hv : v < s
      · simp [hv] at hA ⊢; exact hA
      · simp [hv] at hA ⊢; exact hA
  · rw [fm_some]
    exact h
def rowB (k : Nat) (D : Fn) (s : Int) : List Nat := (List.range k).filter fun a => decide (D a = some s)
theorem rowB_succ {k : Nat} {D : Fn} {s : Int} : rowB (k + 1) D s = rowB k D s ++ if D k = some s then [k] else [] := by
  unfold rowB
  rw [List.range_succ, List.filter_append]
  congr 1
  by_cases h : D k = some s <;> simp [h]
theorem getD_map {ps : List Addr} {k : Nat} (h : ps.length = k) : ps.map W.adr = (List.range k).map fun i => W.adr (ps.getD i 0) := by
  apply List.ext_getElem?
  intro i
  rw [List.getElem?_map, List.getElem?_map]
  by_cases hi : i < k
  · rw [List.getElem?_range hi, List.getElem?_eq_getElem (by omega)]
    simp [List.getD_eq_getElem?_getD, show i < ps.length by omega]
  · rw [List.getElem?_eq_none (by omega), List.getElem?_eq_none (by simpa using hi)]
    rfl
theorem law_rows_ok {k steps : Nat} {D : Fn} (hk : k < 10000) (hst : steps < 10000) (hD : ∀ i v, D i = some v → 0 ≤ v)
    (h : ∀ g', Keep g g' → K (.tup ((List.range steps).map fun (s : Nat) => W.tup ((rowB k D (s : Int)).map fun (a : Nat) => W.int (a : Int)))) g') : fnW 6 (t_law_rows cl) [.tup (rowW k D), .int (steps : Int)] g K KE := by
  rw [fnW_r, t_law_rows]
  simp [rng_map]
  refine ⟨by omega, by omega, ?_⟩
  refine comp_by (fun i acc g' => ∃ ps : List Addr, acc = ps.map W.adr ∧ ps.length = i ∧ ps.Nodup ∧ (∀ p ∈ ps, g p = none ∧ g' p = some (.gl [])) ∧ Keep g g') ⟨[], rfl, rfl, List.nodup_nil, (fun p z => nomatch z), Keep.refl g⟩ ?_ ?_
  · rintro i w acc g' Nx hw ⟨ps, rfl, hl, hnd, hps, hkp⟩ hN
    rw [List.getElem?_map] at hw
    simp
    intro p hp
    have hpn : p ∉ ps := fun z => by rw [(hps p z).2] at hp; cases hp
    refine hN _ _ ⟨ps ++ [p], by rw [List.map_append]; rfl, by simp [hl], ?_, fun q hq => ?_, Keep.gup hkp (Keep.fresh hkp hp)⟩
    · rw [List.nodup_append]
      refine ⟨hnd, by simp, fun a ha b hb => ?_⟩
      rw [List.mem_singleton] at hb
      rintro rfl
      exact hpn (by rw [← hb]; exact ha)
    · rcases List.mem_append.mp hq with z | z
      · have hqp : q ≠ p := fun e => hpn (by rw [← e]; exact z)
        exact ⟨(hps q z).1, by rw [gup_ne hqp]; exact (hps q z).2⟩
      · rw [List.mem_singleton.mp z]
        exact ⟨Keep.fresh hkp hp, gup_same⟩
  · rintro acc g' ⟨ps, rfl, hl, hnd, hps, hkp⟩
    rw [List.length_map, List.length_range] at hl
    refine ⟨by omega, ?_⟩
    rw [← rng_map]
    refine for_rng (n := k) (fun a ν g1 => Keep g g1 ∧ (∀ (i : Nat) p, ps[i]? = some p → g1 p = some (.gl ((rowB a D (i : Int)).map fun (a : Nat) => W.int (a : Int)))) ∧ Sl [some (.tup (rowW k D)), some (.int (steps : Int)), none, some (.own (ps.map W.adr))] 2 ν) ?_ ?_ ?_
    · exact ⟨hkp, fun i p e => (hps p (List.mem_of_getElem? e)).2, rfl, rfl⟩
    · rintro a ν g1 Nx ha ⟨hkp1, hg1, hsl⟩ hN
      obtain ⟨x4, x5, rfl⟩ := hsl.r2
      simp [row_at ha]
      have skip : (∀ i : Nat, i < steps → D a ≠ some (i : Int)) → ∀ ν, Sl [some (.tup (rowW k D)), some (.int (steps : Int)), none, some (.own (ps.map W.adr))] 2 ν → Nx ν g1 := fun hne ν hs => by
        refine hN ν g1 ⟨hkp1, fun i p e => ?_, hs⟩
        rw [rowB_succ, if_neg (hne i (by have := (List.getElem?_eq_some_iff.mp e).1; omega)), List.append_nil]
        exact hg1 i p e
      cases e : D a with
      | none =>
        simp
        refine skip (fun i _ => by rw [e]; simp) _ ?_
        exact ⟨rfl, rfl⟩
      | some v =>
        have hv := hD a v e
        by_cases hvs : v < (steps : Int)
        · obtain ⟨i, rfl⟩ : ∃ i : Nat, v = (i : Int) := ⟨v.toNat, by omega⟩
          have hi : i < ps.length := by omega
          have hp := hg1 i ps[i] (List.getElem?_eq_getElem hi)
          have hin : i < steps := by omega
          simp [hin, WL.atI_nat, hi, hp]
          have hlen : (rowB a D (i : Int)).length ≤ a := by
            unfold rowB
            have := List.length_filter_le (fun a => decide (D a = some (i : Int))) (List.range a)
            rwa [List.length_range] at this
          refine ⟨by omega, noLst_map fun _ _ => rfl, hN _ _ ⟨?_, fun j q ej => ?_, rfl, rfl⟩⟩
          · exact Keep.gup hkp1 (hps _ (List.getElem_mem hi)).1
          · rw [rowB_succ]
            by_cases eij : j = i
            · subst eij
              rw [List.getElem?_eq_getElem hi] at ej
              cases ej
              rw [gup_same, if_pos e, List.map_append]
              rfl
            · have hne : q ≠ ps[i] := fun z => by
                have hj := (List.getElem?_eq_some_iff.mp ej).1
                have h2 := (List.getElem?_eq_some_iff.mp ej).2
                rw [← h2] at z
                exact eij ((List.getElem_inj hnd).mp z)
              rw [gup_ne hne, if_neg (fun z => by rw [e] at z; have := Option.some.inj z; omega), List.append_nil]
              exact hg1 j q ej
        · simp [hvs]
          refine skip (fun i hi z => ?_) _ ?_
          · rw [e] at z
            have := Option.some.inj z
            omega
          · exact ⟨rfl, rfl⟩
    · rintro ν g1 ⟨hkp1, hg1, hsl⟩
      obtain ⟨x4, x5, rfl⟩ := hsl.r2
      simp
      refine ⟨by omega, ?_⟩
      rw [getD_map hl]
      refine comp_of (List.range steps) (fun i => W.adr (ps.getD i 0)) (fun s => some (W.tup ((rowB k D (s : Int)).map fun (a : Nat) => W.int (a : Int)))) (fun i hi A B hA => ?_) ?_
      · have hi := List.mem_range.mp hi
        have hq := hg1 i (ps.getD i 0) (by rw [List.getD_eq_getElem?_getD, List.getElem?_eq_getElem (by omega)]; rfl)
        simp only [put_nm]
        rw [wipeW_c, wipeW_n]
        simp [List.getD_eq_getElem?_getD] at hq ⊢
        rw [seqG_a hq]
        simpa using hA
      · rw [fm_some]
        exact h g1 hkp1
end K70
set_option maxHeartbeats 2000000
namespace K70
open PySem PySem.Spec L2 WL Net
variable {cl : Str → Addr} {g : G} {K : KW} {KE : XW}
theorem rowAt_B {N : Nt} {T : Fn} {s : Int} : rowB N.n (fun a => T (N.many + a)) s = rowAt N T s := rfl
theorem flat_all {n : Nat} {l : List W} (h : ∀ w ∈ l, flatOk n w = true) : flatOk (n + 1) (.tup l) = true := by
  simp only [flatOk, List.all_eq_true]
  exact h
theorem rowsW_flat {N : Nt} {T : Fn} {steps n : Nat} : flatOk (n + 1 + 1) (.tup ((List.range steps).map fun (s : Nat) => rowT N T (s : Int))) = true := by
  refine flat_all fun w hw => ?_
  obtain ⟨s, _, rfl⟩ := List.mem_map.mp hw
  refine flat_all fun w hw => ?_
  obtain ⟨a, _, rfl⟩ := List.mem_map.mp hw
  simp
theorem rowAt_le {N : Nt} {T : Fn} {s : Int} : (rowAt N T s).length ≤ N.n := by
  unfold rowAt
  have := List.length_filter_le (fun a => decide (T (N.many + a) = some s)) (List.range N.n)
  rwa [List.length_range] at this
theorem ints_sz {l : List Nat} : sz.szs (l.map fun (a : Nat) => W.int (a : Int)) = l.length := by
  induction l with
  | nil => rfl
  | cons a l ih => simp only [List.map_cons, sz.szs, ih, sz, List.length_cons]; omega
theorem rowsW_sz {N : Nt} {T : Fn} {steps : Nat} : sz (.tup ((List.range steps).map fun (s : Nat) => rowT N T (s : Int))) ≤ 1 + (1 + N.n) * steps := by
  simp only [sz]
  have := szs_le (l := (List.range steps).map fun (s : Nat) => rowT N T (s : Int)) (c := 1 + N.n) fun x hx => by
    obtain ⟨s, _, rfl⟩ := List.mem_map.mp hx
    unfold rowT
    simp only [sz]
    rw [ints_sz]
    have := rowAt_le (N := N) (T := T) (s := (s : Int))
    omega
  rw [List.length_map, List.length_range] at this
  omega
theorem law_asked_ok {N : Nt} {S : Fn} {steps : Nat} (ok : NtOk N) (hS : SOk N S) (hst : steps < 3000) (hn : N.n < 100) (h : ∀ g', Keep g g' → K (.bl true) g') : fnW 5 (t_law_asked cl) [netW N, .tup (rowW N.many S), dueW N S, .int (steps : Int)] g K KE := by
  have hTn := Nt.nonneg ok.ok hS.nn
  rw [fnW_r, t_law_asked]
  simp
  refine run_steps_ok ok hS (by omega) fun g1 k1 => coming_ok ok hS (by omega) fun g2 k2 => ?_
  refine law_run_ok (by omega) (law_rows_ok (by omega) (by omega) (fun i v e => hTn _ v e) fun g3 k3 => ?_)
  have e : (fun (s : Nat) => W.tup ((rowB N.n (fun a => N.due S (N.many + a)) (s : Int)).map fun (a : Nat) => W.int (a : Int))) = fun (s : Nat) => rowT N (N.due S) (s : Int) := rfl
  rw [e]
  refine same_ok (n := 60) ?_ ?_ (h g3 ((k1.trans k2).trans k3))
  · refine flat_all fun w hw => ?_
    rcases List.mem_cons.mp hw with rfl | hw
    · exact row_flat
    · rw [List.mem_singleton.mp hw]
      exact rowsW_flat
  · have h1 := row_sz (k := N.n) (F := fun a => cutF (N.due S) (steps : Int) (N.many + a))
    have h2 := rowsW_sz (N := N) (T := N.due S) (steps := steps)
    have h3 : (1 + N.n) * steps ≤ 100 * 3000 := Nat.mul_le_mul (by omega) (by omega)
    have e2 : sz (W.tup [.tup (rowW N.n fun a => cutF (N.due S) (steps : Int) (N.many + a)), .tup ((List.range steps).map fun (s : Nat) => rowT N (N.due S) (s : Int))]) = 1 + (sz (.tup (rowW N.n fun a => cutF (N.due S) (steps : Int) (N.many + a))) + (sz (.tup ((List.range steps).map fun (s : Nat) => rowT N (N.due S) (s : Int))) + 0)) := rfl
    show sz (W.tup [.tup (rowW N.n fun a => cutF (N.due S) (steps : Int) (N.many + a)), .tup ((List.range steps).map fun (s : Nat) => rowT N (N.due S) (s : Int))]) ≤ _
    rw [e2]
    omega
theorem time_of_ok {N : Nt} {x p C : Addr} {M : Fn} {d : Int} {i : Nat} (hC : C = cl "Machine") (hm : Mach g C x p N M d) (hi : i < N.many + N.n) (h : K (oI (M i)) g) : fnW 2 (t_Machine_time_of cl) [.adr x, .int (i : Int)] g K KE := by
  subst hC
  obtain ⟨⟨dx, hx⟩, hp, hne⟩ := hm
  rw [fnW_r, t_Machine_time_of]
  simp [hx, len_a hp]
  refine is_below_i ?_
  have h2 : (i : Int) < (N.many : Int) + (N.n : Int) := by omega
  simp [h2, hx, item_a hp, row_at hi]
  exact h
theorem law_led_ok {N : Nt} {S : Fn} {steps : Nat} (ok : NtOk N) (hS : SOk N S) (hst : steps < 3000) (h : ∀ g', Keep g g' → K (.bl true) g') : fnW 10 (t_law_led cl) [netW N, .tup (rowW N.many S), dueW N S, .int (steps : Int)] g K KE := by
  have hmany := ok.many
  have hsz := ok.size
  have hTn := Nt.nonneg ok.ok hS.nn
  rw [fnW_r, t_law_led]
  simp
  intro x dx hx
  refine init_ok rfl ok gup_same fun p g' hm kx hp => ⟨rfl, ?_⟩
  have hpx := gup_none hp
  have kp0 : Keep g g' := Keep.ofX (Keep.gup (Keep.refl g) hx) kx hx hpx.2
  refine ⟨by omega, ?_⟩
  refine for_rng (n := steps) (fun i ν g1 => Mach g1 (cl "Machine") x p N (cutF (N.due S) (i : Int)) (i : Int) ∧ Keep g g1 ∧
    Sl [some (netW N), some (.tup (rowW N.many S)), some (dueW N S), some (.int (steps : Int)), some (.adr x)] 5 ν) ?_ ?_ ?_
  · refine ⟨?_, kp0, rfl, rfl⟩
    have e : cutF (N.due S) ((0 : Nat) : Int) = fun _ => none := cutF_0 hTn
    rw [e]
    exact hm
  · rintro i ν g1 Nx hi ⟨hm1, kp1, hsl⟩ hN
    obtain ⟨x5, x6, x7, x8, x9, rfl⟩ := hsl.r5
    simp [netW, atI_0]
    refine ⟨by omega, ?_⟩
    refine for_rng (n := N.many) (fun j ν g2 => Mach g2 (cl "Machine") x p N (preF (N.due S) (i : Int) j) (i : Int) ∧ KeepX g1 g2 x p ∧ 
      Sl [some (netW N), some (.tup (rowW N.many S)), some (dueW N S), some (.int (steps : Int)), some (.adr x), some (.int (i : Int))] 4 ν) ?_ ?_ ?_
    · exact ⟨by rw [preF_0]; exact hm1, fun _ _ _ => rfl, rfl, rfl⟩
    · rintro j ν g2 N2 hj ⟨hm2, kx2, hsl2⟩ hN2
      obtain ⟨x6, x7, x8, x9, rfl⟩ := hsl2.r4
      have hTS : N.due S j = S j := Nt.due_sig hj
      simp [row_at hj]
      by_cases e : S j = some (i : Int)
      · simp [e]
        obtain ⟨dx2, hx2⟩ := hm2.ins
        simp [hx2]
        rw [← hTS] at e
        refine put_ok rfl hm2 hj (preF_none e) fun g3 hm3 kx3 => ?_
        simp
        exact hN2 _ _ ⟨by rw [← preF_put e]; exact hm3, kx2.trans kx3, rfl, rfl⟩
      · simp [e]
        refine hN2 _ _ ⟨?_, kx2, rfl, rfl⟩
        rw [preF_skip (by rw [hTS]; exact e)]
        exact hm2
    · rintro ν g2 ⟨hm2, kx2, hsl2⟩
      obtain ⟨x6, x7, x8, x9, rfl⟩ := hsl2.r4
      obtain ⟨dx2, hx2⟩ := hm2.ins
      simp [hx2]
      refine step_ok rfl ok hm2 preF_mid preF_gl fun g3 hm3 kx3 => ?_
      simp [rng_map]
      refine ⟨by omega, by omega, comp_of (List.range N.n) (fun (a : Nat) => W.int (a : Int)) (fun a => if N.due S (N.many + a) = some (i : Int) then some (W.int (a : Int)) else none) (fun a ha A B hA => ?_) ?_⟩
      · have ha := List.mem_range.mp ha
        simp [row_at ha]
        by_cases h1 : N.due S (N.many + a) = some (i : Int)
        · simp [h1] at hA ⊢; exact hA
        · simp [h1] at hA ⊢; exact hA
      · have e : ((List.range N.n).filterMap fun a => if N.due S (N.many + a) = some (i : Int) then some (W.int (a : Int)) else none) = (rowAt N (N.due S) (i : Int)).map fun (a : Nat) => W.int (a : Int) := by
          unfold rowAt
          rw [← fm_some, List.filterMap_filter]
          refine fm_congr fun a _ => ?_
          by_cases h1 : N.due S (N.many + a) = some (i : Int) <;> simp [h1]
        rw [e]
        refine same_ok (n := 60) ?_ ?_ ?_
        · refine flat_all fun w hw => ?_
          obtain ⟨a, _, rfl⟩ := List.mem_map.mp hw
          simp
        · simp only [sz]
          rw [ints_sz]
          have := rowAt_le (N := N) (T := N.due S) (s := (i : Int))
          omega
        · simp
          refine hN _ _ ⟨?_, Keep.ofX kp1 (kx2.trans kx3) hx hpx.2, rfl, rfl⟩
          have ei : ((i + 1 : Nat) : Int) = (i : Int) + 1 := by omega
          rw [ei]; exact hm3
  · rintro ν g1 ⟨hm1, kp1, hsl⟩
    obtain ⟨x5, x6, x7, x8, x9, rfl⟩ := hsl.r5
    simp [netW, atI_0]
    have hcast : (N.many : Int) + (N.n : Int) = ((N.many + N.n : Nat) : Int) := by omega
    rw [hcast]
    refine ⟨by omega, by omega, ?_⟩
    refine for_rng (n := N.many + N.n) (fun j ν g2 => g2 = g1 ∧ Sl [some (netW N), some (.tup (rowW N.many S)), some (dueW N S), some (.int (steps : Int)), some (.adr x), x5, x6, x7, some (.own (rowW j (cutF (N.due S) (steps : Int))))] 1 ν) ?_ ?_ ?_
    · exact ⟨rfl, rfl, rfl⟩
    · rintro j ν g2 N2 hj ⟨rfl, hsl2⟩ hN2
      obtain ⟨x9, rfl⟩ := hsl2.r1
      obtain ⟨dx2, hx2⟩ := hm1.ins
      simp [hx2]
      refine time_of_ok rfl hm1 hj ?_
      refine ⟨by omega, hN2 _ _ ⟨rfl, ?_, rfl⟩⟩
      have e : rowW (j + 1) (cutF (N.due S) (steps : Int)) = rowW j (cutF (N.due S) (steps : Int)) ++ [oI (cutF (N.due S) (steps : Int) j)] := by
        unfold rowW; rw [List.range_succ, List.map_append]; rfl
      rw [e]
      rfl
    · rintro ν g2 ⟨rfl, hsl2⟩
      obtain ⟨x9, rfl⟩ := hsl2.r1
      simp
      refine law_run_ok (by omega) (law_run_ok (by omega) ?_)
      have e : rowW N.many (cutF S (steps : Int)) ++ rowW N.n (cutF (fun a => N.due S (N.many + a)) (steps : Int)) = rowW (N.many + N.n) (cutF (N.due S) (steps : Int)) := by
        rw [row_app]
        refine row_congr fun j hj => ?_
        by_cases hjm : j < N.many
        · rw [if_pos hjm]; unfold cutF; rw [Nt.due_sig hjm]
        · rw [if_neg hjm]; unfold cutF; simp only [show N.many + (j - N.many) = j by omega]
      simp
      rw [e]
      refine ⟨by omega, same_ok (n := 60) ?_ ?_ (h _ kp1)⟩
      · simp only [flatOk, List.all_eq_true]
        intro w hw
        obtain ⟨a, _, rfl⟩ := List.mem_map.mp hw
        exact oI_flat
      · have := row_sz (k := N.many + N.n) (F := cutF (N.due S) (steps : Int))
        simp only [sz] at this ⊢
        omega
end K70
set_option maxHeartbeats 2000000
namespace K70
open PySem PySem.Spec L2 WL Net
/-! ### the pen -/
structure Pen (g : G) (p : Addr) : Prop where
  ex : ∃ (gr hb : Addr) (gs hs : List Int) (seed c2 c3 x : Int), g p = some (.gl [.adr gr, .int seed, .int c2, .int c3, .adr hb, .int x]) ∧ g gr = some (.gl (gs.map W.int)) ∧ g hb = some (.gl (hs.map W.int)) ∧ hs.length = 9 ∧ p ≠ gr ∧ p ≠ hb ∧ gr ≠ hb
theorem Pen.keep {g g' : G} {p : Addr} (h : Pen g p) (k : Keep g g') : Pen g' p := by
  obtain ⟨gr, hb, gs, hs, seed, c2, c3, x, h1, h2, h3, h4⟩ := h.ex
  exact ⟨gr, hb, gs, hs, seed, c2, c3, x, by rw [k p (by rw [h1]; simp)]; exact h1, by rw [k gr (by rw [h2]; simp)]; exact h2, by rw [k hb (by rw [h3]; simp)]; exact h3, h4⟩
section
variable {a b c d e f : W}
theorem pen0 : atI [a, b, c, d, e, f] 0 = some a := rfl
theorem pen1 : atI [a, b, c, d, e, f] 1 = some b := rfl
theorem pen2 : atI [a, b, c, d, e, f] 2 = some c := rfl
theorem pen3 : atI [a, b, c, d, e, f] 3 = some d := rfl
theorem pen4 : atI [a, b, c, d, e, f] 4 = some e := rfl
theorem pen5 : atI [a, b, c, d, e, f] 5 = some f := rfl
theorem pix1 : ixN 6 1 = some 1 := rfl
theorem pix2 : ixN 6 2 = some 2 := rfl
theorem pix3 : ixN 6 3 = some 3 := rfl
end
theorem ix0 {n : Nat} : ixN (n + 1) 0 = some 0 := by
  unfold ixN
  rw [if_pos (by omega), if_pos (by omega)]
  rfl
theorem ints_noLst {l : List Int} : noLst.noLstAll (l.map W.int) = true := noLst_map fun _ _ => rfl
theorem popAt0 {w : W} {r : List W} {KM : W → List W → Prop} (h : KM w r) : mPopAt (w :: r) [.int 0] KM := by
  refine ⟨0, 0, w, rfl, by decide, by decide, ?_, rfl, h⟩
  unfold seqIndex?
  simp
theorem cmul_r {i j : Int} (h1 : -(2 ^ 64) < j) (h2 : j < 2 ^ 64) : CMul i j := .inr ⟨h1, h2⟩
theorem cmul_l {i j : Int} (h1 : -(2 ^ 64) < i) (h2 : i < 2 ^ 64) : CMul i j := .inl ⟨h1, h2⟩
theorem item_g {g : G} {p : Addr} {xs : List W} {i : Int} : itemW (WL.gup g p (.gl xs)) (.adr p) (.int i) = atI xs i := item_a gup_same
theorem item_n {g : G} {p q : Addr} {o : GO} {i : Int} (h : q ≠ p) : itemW (WL.gup g p o) (.adr q) (.int i) = itemW g (.adr q) (.int i) := by
  simp [itemW, seqG, gup_ne h]
variable {cl : Str → Addr} {g : G} {K : KW} {KE : XW}
theorem pick_ok {p : Addr} {place : Nat} {many : Int} (hp : Pen g p) (hpl : place < 9) (hm : many < 1000000) (h : ∀ (v : Nat) g', ((v : Int) < many ∨ v = 0) → Pen g' p → K (.int (v : Int)) g') : fnW 6 (t_law_pick cl) [.adr p, .int (place : Int), .int many] g K KE := by
  have hv : ∀ (i : Int) g', 0 ≤ i → (i < many ∨ i = 0) → Pen g' p → K (.int i) g' := fun i g' h0 h1 hp' => by
    obtain ⟨n, rfl⟩ : ∃ n : Nat, i = (n : Int) := ⟨i.toNat, by omega⟩
    exact h n g' (by omega) hp'
  obtain ⟨gr, hb, gs, hs, seed, c2, c3, x, h1, h2, h3, h4, h5, h6, h7⟩ := hp.ex
  rw [fnW_r, t_law_pick]
  simp
  by_cases hm2 : many < 2
  · simp [hm2]
    exact hv 0 g (Int.le_refl _) (.inr rfl) hp
  · have hmod : ∀ i : Int, 0 ≤ i.fmod many ∧ i.fmod many < many := fun i => ⟨Int.fmod_nonneg_of_pos _ (by omega), Int.fmod_lt_of_pos _ (by omega)⟩
    have hm0 : ¬ many = 0 := by omega
    simp [hm2, item_a h1, pen0, pen2, h1, pix2]
    have n1 := Ne.symm h5
    have n2 := Ne.symm h6
    have n3 := Ne.symm h7
    cases gs with
    | nil =>
      have ht : truthG (WL.gup g p (.gl [.adr gr, .int seed, .int (c2 + 1), .int c3, .adr hb, .int x])) (.adr gr) = some false := by
        rw [truth_a (xs := []) (by rw [gup_ne (Ne.symm h5)]; exact h2)]; rfl
      have hp9 : place < hs.length := by omega
      have hi : itemW g (.adr hb) (.int (place : Int)) = some (.int hs[place]) := by rw [item_a h3, WL.atI_nat, List.getElem?_map, List.getElem?_eq_getElem hp9]; rfl
      have hpen : ∀ sd, Pen (WL.gup g p (.gl [.adr gr, .int sd, .int (c2 + 1), .int c3, .adr hb, .int x])) p := fun sd =>
        ⟨gr, hb, [], hs, sd, c2 + 1, c3, x, gup_same, by rw [gup_ne n1]; exact h2, by rw [gup_ne n2]; exact h3, h4, h5, h6, h7⟩
      simp [ht, item_g, item_n n2, pen0, pen1, pen2, pen4, pix1, gup_gup, hi, CMul, CDivN, hm0]
      by_cases e0 : hs[place] = 0
      · simp [e0]
        exact hv 0 _ (Int.le_refl _) (.inr rfl) (hpen _)
      · by_cases e1 : hs[place] = 1
        · simp [e1]
          exact hv (many - 1) _ (by omega) (.inl (by omega)) (hpen _)
        · by_cases e2 : hs[place] = 2
          · simp [e2]
            exact hv _ _ (hmod _).1 (.inl (hmod _).2) (hpen _)
          · simp [e0, e1, e2]
            exact hv _ _ (hmod _).1 (.inl (hmod _).2) (hpen _)
    | cons c gs =>
      have ht : truthG (WL.gup g p (.gl [.adr gr, .int seed, .int (c2 + 1), .int c3, .adr hb, .int x])) (.adr gr) = some true := by
        rw [truth_a (by rw [gup_ne n1]; exact h2)]; rfl
      have hi : ∀ o, itemW (WL.gup g p o) (.adr gr) (.int 0) = some (.int c) := fun o => by
        rw [item_n n1, item_a h2]; exact atI_0
      simp [ht, hi, item_g, item_n n1, item_n h5, pen0, pen1, pen2, pen3, pen4, pix3, hm0, CDivN, gup_ne n1, gup_ne h5, h2, ix0, ints_noLst, atI_0]
      refine ⟨by omega, ?_⟩
      have hfin : ∀ (gs' : List Int) (s' : Int) g', g' p = some (.gl [.adr gr, .int seed, .int (c2 + 1), .int s', .adr hb, .int x]) → g' gr = some (.gl (gs'.map W.int)) → g' hb = g hb → K (.int (c.fmod many)) g' := fun gs' s' g' e1 e2 e3 =>
        hv _ g' (hmod _).1 (.inl (hmod _).2) ⟨gr, hb, gs', hs, seed, c2 + 1, s', x, e1, e2, by rw [e3]; exact h3, h4, h5, h6, h7⟩
      by_cases e0 : c.fdiv many = 0
      · simp [e0]
        refine popAt0 ?_
        simp [ints_noLst, gup_ne h5, pix3]
        refine hfin gs 0 _ gup_same (by rw [gup_ne n1, gup_same]) ?_
        simp [gup_ne n2, gup_ne n3]
      · by_cases e1 : 60 ≤ c3 + 1
        · simp [e0, e1]
          refine popAt0 ?_
          simp [ints_noLst, gup_ne h5, pix3]
          refine hfin gs 0 _ gup_same (by rw [gup_ne n1, gup_same]) ?_
          simp [gup_ne n2, gup_ne n3]
        · simp [e0, e1]
          refine hfin (c.fdiv many :: gs) (c3 + 1) _ gup_same (by rw [gup_ne n1, gup_same]; rfl) ?_
          simp [gup_ne n2, gup_ne n3]
end K70
set_option maxHeartbeats 2000000
namespace K70
open PySem PySem.Spec L2 WL Net
variable {cl : Str → Addr} {g : G} {K : KW} {KE : XW}
def cutI (l : List Int) (lo hi : Option Int) : List Int := (l.drop (HT.sIx l.length 0 lo)).take (HT.sIx l.length l.length hi - HT.sIx l.length 0 lo)
theorem cut_map {l : List Int} {lo hi : Option Int} : cutW (l.map W.int) lo hi = (cutI l lo hi).map W.int := by
  unfold cutW cutI
  rw [List.length_map, List.map_take, List.map_drop]
theorem cutI_len {l : List Int} {lo hi : Option Int} : (cutI l lo hi).length ≤ l.length := by
  unfold cutI
  rw [List.length_take, List.length_drop]
  omega
theorem pen_ok {ns : List Int} (hl : ns.length ≤ 63) (hg : g = fun _ => none) (h : ∀ p g', Pen g' p → K (.adr p) g') : fnW 5 (t_law_pen cl) [.scr (ns.map W.int)] g K KE := by
  rw [fnW_r, t_law_pen]
  simp
  rw [cut_map]
  generalize hc : cutI ns none (some 63) = cs
  have hcl : cs.length ≤ 63 := by rw [← hc]; exact Nat.le_trans cutI_len hl
  refine for_by (fun i ν g1 => g1 = g ∧ ∃ sd, Sl [some (.scr (ns.map W.int)), some (.int sd)] 3 ν) ⟨rfl, 30011, rfl, rfl⟩ ?_ ?_
  · rintro i w ν g1 Nx hw ⟨rfl, sd, hsl⟩ hN
    obtain ⟨x2, x3, x4, rfl⟩ := hsl.r3
    rw [List.getElem?_map] at hw
    cases q : cs[i]? with
    | none => rw [q] at hw; cases hw
    | some c =>
      rw [q] at hw
      cases hw
      simp [CMul]
      exact hN _ _ ⟨rfl, _, rfl, rfl⟩
  · rintro ν g1 ⟨rfl, sd, hsl⟩
    obtain ⟨x2, x3, x4, rfl⟩ := hsl.r3
    simp
    intro hb hhb
    refine for_rng (n := 9) (fun i ν g2 => ∃ (hs : List Int) (sd : Int), hs.length = i ∧ g2 hb = some (.gl (hs.map W.int)) ∧ (∀ a, a ≠ hb → g2 a = g1 a) ∧ Sl [some (.scr (ns.map W.int)), some (.int sd), x2, some (.adr hb)] 1 ν) ?_ ?_ ?_
    · exact ⟨[], sd, rfl, gup_same, fun a ha => gup_ne ha, rfl, rfl⟩
    · rintro i ν g2 N2 hi ⟨hs, sd, hlen, hgh, hge, hsl⟩ hN
      obtain ⟨x4, rfl⟩ := hsl.r1
      simp [CMul, CDivN, hgh]
      refine ⟨by omega, ints_noLst, hN _ _ ⟨hs ++ [(((sd * 65003 + 31 * (i : Int) + 7).fmod 4100000027).fdiv 1013).fmod 12], _, by simp [hlen], ?_, fun a ha => by rw [gup_ne ha]; exact hge a ha, rfl, rfl⟩⟩
      rw [gup_same, List.map_append]
      rfl
    · rintro ν g2 ⟨hs, sd, hlen, hgh, hge, hsl⟩
      obtain ⟨x4, rfl⟩ := hsl.r1
      simp [CPow, CDivN]
      rw [cut_map, hc]
      refine ⟨by rw [List.length_map]; omega, comp_of cs W.int (fun c => if (10 : Int) ^ 18 ≤ c then some (W.int c) else none) (fun c hcm A B hA => ?_) ?_⟩
      · simp [CPow]
        by_cases h1 : (1000000000000000000 : Int) ≤ c
        · simp [h1] at hA ⊢; exact hA
        · simp [h1] at hA ⊢; exact hA
      · have e : (cs.filterMap fun c => if (10 : Int) ^ 18 ≤ c then some (W.int c) else none) = (cs.filter fun c => decide ((10 : Int) ^ 18 ≤ c)).map W.int := by
          rw [← fm_some, List.filterMap_filter]
          refine fm_congr fun c _ => ?_
          by_cases h1 : (10 : Int) ^ 18 ≤ c <;> simp [h1]
        rw [e]
        refine ⟨ints_noLst, fun gr hgr p hp => ?_⟩
        obtain ⟨hpg, hp⟩ := gup_none hp
        have hgrb : gr ≠ hb := fun z => by rw [z, hgh] at hgr; cases hgr
        have hpb : p ≠ hb := fun z => by rw [z, hgh] at hp; cases hp
        exact h p _ ⟨gr, hb, _, hs, _, _, _, _, gup_same, by rw [gup_ne (Ne.symm hpg), gup_same], by rw [gup_ne (Ne.symm hpb), gup_ne (Ne.symm hgrb)]; exact hgh, hlen, hpg, hpb, hgrb⟩
end K70
set_option maxHeartbeats 2000000
namespace K70
open PySem PySem.Spec L2 WL Net
variable {cl : Str → Addr} {g : G} {K : KW} {KE : XW}
theorem row_push {i : Nat} {S : Fn} {v : Option Int} : rowW i S ++ [oI v] = rowW (i + 1) (up S i v) := by
  unfold rowW
  rw [List.range_succ, List.map_append]
  congr 1
  · exact List.map_congr_left fun j hj => by rw [up_n (Nat.ne_of_lt (List.mem_range.mp hj))]
  · simp
theorem six {a b c d e f : W} {v : Nat} (hv : v < 6) : ∃ w, atI [a, b, c, d, e, f] (v : Int) = some w ∧ (w = a ∨ w = b ∨ w = c ∨ w = d ∨ w = e ∨ w = f) := by
  match v, hv with
  | 0, _ => exact ⟨a, rfl, .inl rfl⟩
  | 1, _ => exact ⟨b, rfl, .inr (.inl rfl)⟩
  | 2, _ => exact ⟨c, rfl, .inr (.inr (.inl rfl))⟩
  | 3, _ => exact ⟨d, rfl, .inr (.inr (.inr (.inl rfl)))⟩
  | 4, _ => exact ⟨e, rfl, .inr (.inr (.inr (.inr (.inl rfl))))⟩
  | 5, _ => exact ⟨f, rfl, .inr (.inr (.inr (.inr (.inr rfl))))⟩
theorem four {a b c d : W} {v : Nat} (hv : v < 4) : ∃ w, atI [a, b, c, d] (v : Int) = some w ∧ (w = a ∨ w = b ∨ w = c ∨ w = d) := by
  match v, hv with
  | 0, _ => exact ⟨a, rfl, .inl rfl⟩
  | 1, _ => exact ⟨b, rfl, .inr (.inl rfl)⟩
  | 2, _ => exact ⟨c, rfl, .inr (.inr (.inl rfl))⟩
  | 3, _ => exact ⟨d, rfl, .inr (.inr (.inr rfl))⟩
theorem row_ok {p : Addr} {many : Nat} {far : Int} (hp : Pen g p) (hm : many < 10000) (hf : far < 1000000) (h : ∀ S g', (∀ i v, S i = some v → 0 ≤ v) → Pen g' p → K (.tup (rowW many S)) g') : fnW 6 (t_law_row cl) [.adr p, .int (many : Int), .int far] g K KE := by
  rw [fnW_r, t_law_row]
  simp
  refine ⟨by omega, ?_⟩
  refine for_rng (n := many) (fun i ν g1 => Pen g1 p ∧ ∃ S : Fn, (∀ i v, S i = some v → 0 ≤ v) ∧ Sl [some (.adr p), some (.int (many : Int)), some (.int far), some (.own (rowW i S))] 2 ν) ⟨hp, fun _ => none, (fun _ _ z => nomatch z), rfl, rfl⟩ ?_ ?_
  · rintro i ν g1 Nx hi ⟨hp1, S, hS, hsl⟩ hN
    obtain ⟨x4, x5, rfl⟩ := hsl.r2
    simp
    refine pick_ok hp1 (by decide) hf fun v5 g2 _ hp2 => pick_ok hp2 (by decide) (by decide) fun v6 g3 _ hp3 => pick_ok hp3 (by decide) (by decide) fun v7 g4 h7 hp4 => ?_
    obtain ⟨w, ew, hw⟩ := six (a := .int 0) (b := .int 1) (c := .int 2) (d := .int 3) (e := .int (v5 : Int)) (f := .int (v6 : Int)) (v := v7) (by omega)
    obtain ⟨t, rfl, ht⟩ : ∃ t : Int, w = .int t ∧ 0 ≤ t := by
      rcases hw with rfl | rfl | rfl | rfl | rfl | rfl
      · exact ⟨_, rfl, by omega⟩
      · exact ⟨_, rfl, by omega⟩
      · exact ⟨_, rfl, by omega⟩
      · exact ⟨_, rfl, by omega⟩
      · exact ⟨_, rfl, by omega⟩
      · exact ⟨_, rfl, by omega⟩
    simp [ew]
    refine pick_ok hp4 (by decide) (by decide) fun v8 g5 _ hp5 => ?_
    have step : ∀ (v : Option Int), (∀ u, v = some u → 0 ≤ u) → ∀ ν, Sl [some (.adr p), some (.int (many : Int)), some (.int far), some (.own (rowW i S ++ [oI v]))] 2 ν → Nx ν g5 := fun v hv ν hs => by
      rw [row_push] at hs
      refine hN ν g5 ⟨hp5, up S i v, fun j u hj => ?_, hs⟩
      by_cases e : j = i
      · rw [e, up_s] at hj; exact hv u hj
      · rw [up_n e] at hj; exact hS j u hj
    by_cases h8 : v8 = 0
    · simp [h8]
      refine ⟨by omega, step none (fun _ z => nomatch z) _ ?_⟩
      exact ⟨rfl, rfl⟩
    · simp [h8]
      refine ⟨by omega, step (some t) (fun u z => by cases z; exact ht) _ ?_⟩
      exact ⟨rfl, rfl⟩
  · rintro ν g1 ⟨hp1, S, hS, hsl⟩
    obtain ⟨x4, x5, rfl⟩ := hsl.r2
    simp
    exact h S g1 hS hp1
end K70
set_option maxHeartbeats 2000000
namespace K70
open PySem PySem.Spec L2 WL Net
variable {cl : Str → Addr} {g : G} {K : KW} {KE : XW}
theorem two {a b : W} {v : Nat} (hv : v < 2) : ∃ w, atI [a, b] (v : Int) = some w ∧ (w = a ∨ w = b) := by
  match v, hv with
  | 0, _ => exact ⟨a, rfl, .inl rfl⟩
  | 1, _ => exact ⟨b, rfl, .inr rfl⟩
structure GOk (x : Gate) (k mo : Nat) : Prop where
  ops : ∀ i ∈ x.ops, i < k
  len : x.ops.length ≤ mo + 1
  nn : 0 ≤ x.delay
theorem gate_ok {p : Addr} {m s a mo : Nat} {far : Int} (hp : Pen g p) (hm : m < 1000) (hm1 : 1 ≤ m) (hs : s < 1000) (ha : a < s) (hmo : mo < 1000) (hf : far < 1000000)
    (h : ∀ x g', GOk x (m + s) mo → Pen g' p → K (gateW x) g') : fnW 10 (t_law_gate cl) [.adr p, .int (m : Int), .int (s : Int), .int (a : Int), .int (mo : Int), .int far] g K KE := by
  rw [fnW_r, t_law_gate]
  simp
  refine pick_ok hp (by decide) (by omega) fun v1 g1 h1 hp1 => ?_
  have e1 : (1 : Int) + (v1 : Int) = ((1 + v1 : Nat) : Int) := by omega
  simp
  rw [e1]
  refine ⟨by omega, by omega, ?_⟩
  refine for_rng (n := 1 + v1) (fun i ν g1 => Pen g1 p ∧ ∃ l : List Nat, l.length = i ∧ (∀ j ∈ l, j < m + s) ∧ Sl [some (.adr p), some (.int (m : Int)), some (.int (s : Int)), some (.int (a : Int)), some (.int (mo : Int)), some (.int far), some (.own (opsW l))] 3 ν) ?_ ?_ ?_
  · exact ⟨hp1, [], rfl, (fun _ z => nomatch z), rfl, rfl⟩
  · rintro i ν g2 Nx hi ⟨hp2, l, hl, hlm, hsl⟩ hN
    obtain ⟨x7, x8, x9, rfl⟩ := hsl.r3
    simp
    refine pick_ok hp2 (by decide) (by decide) fun v2 g3 h2 hp3 => ?_
    have push : ∀ (j : Nat) g', j < m + s → Pen g' p → ∀ ν, Sl [some (.adr p), some (.int (m : Int)), some (.int (s : Int)), some (.int (a : Int)), some (.int (mo : Int)), some (.int far), some (.own (opsW l ++ [.int (j : Int)]))] 3 ν → Nx ν g' := fun j g' hj hp' ν hs => by
      refine hN ν g' ⟨hp', l ++ [j], by simp [hl], fun b hb => ?_, ?_⟩
      · rcases List.mem_append.mp hb with z | z
        · exact hlm b z
        · rw [List.mem_singleton.mp z]; exact hj
      · unfold opsW at hs ⊢
        rw [List.map_append]
        exact hs
    have hlo : (opsW l).length = i := by unfold opsW; rw [List.length_map, hl]
    have c1 : ∀ g', Pen g' p → ∀ ν', Sl [some (.adr p), some (.int (m : Int)), some (.int (s : Int)), some (.int (a : Int)), some (.int (mo : Int)), some (.int far), some (.own (opsW l))] 3 ν' → True := fun _ _ _ _ => trivial
    by_cases q1 : (v2 : Int) < 3
    · simp [q1]
      refine pick_ok hp3 (by decide) (by omega) fun v3 g4 h3 hp4 => ?_
      refine ⟨by omega, push v3 g4 (by omega) hp4 _ ?_⟩
      exact ⟨rfl, rfl⟩
    · by_cases q2 : (v2 : Int) < 6
      · by_cases q3 : a = 0
        · simp [q1, q2, q3]
          refine pick_ok hp3 (by decide) (by omega) fun v3 g4 h3 hp4 => ?_
          refine ⟨by omega, push v3 g4 (by omega) hp4 _ ?_⟩
          subst q3
          exact ⟨rfl, rfl⟩
        · simp [q1, q2, q3]
          refine pick_ok hp3 (by decide) (by omega) fun v4 g4 h4 hp4 => ?_
          refine ⟨by omega, push (m + v4) g4 (by omega) hp4 _ ?_⟩
          exact ⟨rfl, rfl⟩
      · simp [q1, q2]
        refine pick_ok hp3 (by decide) (by omega) fun v4 g4 h4 hp4 => ?_
        refine ⟨by omega, push (m + v4) g4 (by omega) hp4 _ ?_⟩
        exact ⟨rfl, rfl⟩
  · rintro ν g2 ⟨hp2, l, hl, hlm, hsl⟩
    obtain ⟨x7, x8, x9, rfl⟩ := hsl.r3
    simp
    refine pick_ok hp2 (by decide) hf fun v5 g3 h5 hp3 => pick_ok hp3 (by decide) (by decide) fun v6 g4 h6 hp4 => ?_
    obtain ⟨w, ew, hw⟩ := four (a := .int 0) (b := .int 1) (c := .int 2) (d := .int (v5 : Int)) (v := v6) (by omega)
    obtain ⟨t, rfl, ht⟩ : ∃ t : Int, w = .int t ∧ 0 ≤ t := by
      rcases hw with rfl | rfl | rfl | rfl
      · exact ⟨_, rfl, by omega⟩
      · exact ⟨_, rfl, by omega⟩
      · exact ⟨_, rfl, by omega⟩
      · exact ⟨_, rfl, by omega⟩
    simp [ew]
    refine pick_ok hp4 (by decide) (by decide) fun v0 g5 h0 hp5 => ?_
    obtain ⟨w, ew, hw⟩ := two (a := .str "first") (b := .str "last") (v := v0) (by omega)
    simp [ew]
    rcases hw with rfl | rfl
    · exact h ⟨false, l, t⟩ g5 ⟨hlm, by simp only; omega, ht⟩ hp5
    · exact h ⟨true, l, t⟩ g5 ⟨hlm, by simp only; omega, ht⟩ hp5
theorem network_ok {p : Addr} {m s mo : Nat} {far : Int} (hp : Pen g p) (hm : m < 1000) (hm1 : 1 ≤ m) (hs : s < 1000) (hmo : mo < 1000) (hf : far < 1000000)
    (h : ∀ N g', N.many = m → N.n = s → NtOk N → Pen g' p → K (netW N) g') : fnW 6 (t_law_network cl) [.adr p, .int (m : Int), .int (s : Int), .int (mo : Int), .int far] g K KE := by
  rw [fnW_r, t_law_network]
  simp [rng_map]
  refine ⟨by omega, by omega, ?_⟩
  refine comp_by (fun i acc g1 => Pen g1 p ∧ ∃ gs : List Gate, acc = gs.map gateW ∧ gs.length = i ∧ ∀ x ∈ gs, GOk x (m + s) mo) ⟨hp, [], rfl, rfl, fun _ z => nomatch z⟩ ?_ ?_
  · rintro i w acc g1 Nx hw ⟨hp1, gs, rfl, hl, hgs⟩ hN
    have hi : i < s := by
      have := (List.getElem?_eq_some_iff.mp hw).1
      simpa using this
    rw [List.getElem?_map, List.getElem?_range hi] at hw
    cases hw
    simp
    refine gate_ok hp1 hm hm1 hs hi hmo hf fun x g2 hx hp2 => ?_
    refine hN _ _ ⟨hp2, gs ++ [x], by rw [List.map_append]; rfl, by simp [hl], fun y hy => ?_⟩
    rcases List.mem_append.mp hy with z | z
    · exact hgs y z
    · rw [List.mem_singleton.mp z]; exact hx
  · rintro acc g1 ⟨hp1, gs, rfl, hl, hgs⟩
    rw [List.length_map, List.length_range] at hl
    have hn : (Nt.mk m gs).n = s := hl
    refine h ⟨m, gs⟩ g1 rfl hn ⟨⟨fun x hx => (hgs x hx).nn, fun x hx i hi => ?_⟩, by show m < _; omega, by rw [hn]; omega, fun x hx => by have := (hgs x hx).len; omega⟩ hp1
    rw [hn]
    exact (hgs x hx).ops i hi
end K70
set_option maxHeartbeats 2000000
namespace K70
open PySem PySem.Spec L2 WL Net
variable {cl : Str → Addr} {g : G} {K : KW} {KE : XW}
@[simp] theorem due_view {N : Nt} {S : Fn} : (dueW N S).view = dueW N S := rfl
@[simp] theorem due_hide {N : Nt} {S : Fn} : hideW (some (dueW N S)) = some (dueW N S) := rfl
theorem runs_ok {N : Nt} {S : Fn} {p : Addr} {most : Int} (ok : NtOk N) (hn : N.n < 100) (hS : SOk N S) (hp : Pen g p) (hmo : most < 1000000) (h : ∀ g', Pen g' p → K (.bl true) g') : fnW 7 (t_law_runs cl) [.adr p, netW N, .tup (rowW N.many S), .int most] g K KE := by
  rw [fnW_r, t_law_runs]
  try simp
  refine law_comes_ok ok ?_
  try simp
  refine law_quiet_ok ok ?_
  try simp
  refine law_whole_ok ok hS ?_
  try simp
  have hq := quiet_nn (N := N) (S := S)
  generalize quiet N S = q at hq
  refine pick_ok hp (by decide) hmo fun v7 g1 _ hp1 => ?_
  try simp
  refine pick_ok hp1 (by decide) (by decide) fun v8 g2 _ hp2 => ?_
  try simp
  refine for_by (fun i ν g1 => Pen g1 p ∧ Sl [some (.adr p), some (netW N), some (.tup (rowW N.many S)), some (.int most), some (dueW N S), some (.int q)] 1 ν) ⟨hp2, rfl, rfl⟩ ?_ ?_
  · rintro i w ν g3 Nx hw ⟨hp3, hsl⟩ hN
    obtain ⟨x6, rfl⟩ := hsl.r1
    obtain ⟨t, rfl⟩ : ∃ t : Nat, w = .int (t : Int) := by
      have hm := List.mem_of_getElem? hw
      simp only [List.mem_cons, List.not_mem_nil, or_false] at hm
      rcases hm with rfl | rfl | rfl | rfl | rfl | rfl | rfl
      · exact ⟨q.toNat, by congr 1; omega⟩
      · exact ⟨0, rfl⟩
      · exact ⟨(q + 1).toNat, by congr 1; omega⟩
      · exact ⟨1, rfl⟩
      · exact ⟨(if q - 1 > 0 then q - 1 else 0).toNat, by congr 1; split <;> omega⟩
      · exact ⟨v7, rfl⟩
      · exact ⟨(q + (v8 : Int)).toNat, by congr 1; omega⟩
    try simp
    by_cases ht : (t : Int) ≤ 2000
    · simp [ht]
      refine law_asked_ok ok hS (by omega) hn fun g4 k4 => ?_
      try simp
      exact hN _ _ ⟨hp3.keep k4, rfl, rfl⟩
    · simp [ht]
      exact hN _ _ ⟨hp3, rfl, rfl⟩
  · rintro ν g3 ⟨hp3, hsl⟩
    obtain ⟨x6, rfl⟩ := hsl.r1
    try simp
    obtain ⟨t, et, ht⟩ : ∃ t : Nat, (if 30 < q then 30 else q) + 1 = (t : Int) ∧ t < 3000 := ⟨((if 30 < q then 30 else q) + 1).toNat, by split <;> omega, by split <;> omega⟩
    rw [et]
    exact law_led_ok ok hS ht fun g4 k4 => h g4 (hp3.keep k4)
theorem turns_ok {N M : Nt} {S R : Fn} {p : Addr} (ok : NtOk N) (hn : N.n < 100) (hS : SOk N S) (okM : NtOk M) (hnM : M.n < 100) (hR : SOk M R) (hp : Pen g p) (h : ∀ g', Pen g' p → K (.bl true) g') : fnW 10 (t_law_turns cl) [.adr p, netW N, .tup (rowW N.many S), netW M, .tup (rowW M.many R)] g K KE := by
  have hNm := ok.many
  rw [fnW_r, t_law_turns]
  try simp
  refine law_comes_ok ok ?_
  try simp
  refine law_comes_ok okM ?_
  try simp
  refine pick_ok hp (by decide) (by decide) fun v7 g1 _ hp1 => ?_
  try simp
  refine for_rng (n := 2) (fun i ν g1 => Pen g1 p ∧ Sl [some (.adr p), some (netW N), some (.tup (rowW N.many S)), some (netW M), some (.tup (rowW M.many R)), some (dueW N S), some (dueW M R), some (.int (v7 : Int))] 2 ν) ⟨hp1, rfl, rfl⟩ ?_ ?_
  · rintro i ν g2 Nx hi ⟨hp2, hsl⟩ hN
    obtain ⟨x8, x9, rfl⟩ := hsl.r2
    try simp
    have e : (v7 : Int) + (i : Int) = ((v7 + i : Nat) : Int) := by omega
    rw [e]
    refine law_asked_ok ok hS (by omega) hn fun g3 k3 => ?_
    try simp
    rw [e]
    refine law_asked_ok okM hR (by omega) hnM fun g4 k4 => ?_
    try simp
    refine law_whole_ok ok hS ?_
    try simp
    refine law_whole_ok okM hR ?_
    try simp
    exact hN _ _ ⟨(hp2.keep k3).keep k4, rfl, rfl⟩
  · rintro ν g2 ⟨hp2, hsl⟩
    obtain ⟨x8, x9, rfl⟩ := hsl.r2
    simp [netW, atI_0]
    refine row_ok hp2 (by omega) (by decide) fun F g3 hF hp3 => ?_
    try simp
    refine law_comes_ok ok ?_
    try simp
    refine law_whole_ok ok ⟨hF⟩ ?_
    try simp
    refine law_comes_ok ok ?_
    try simp
    exact law_asked_ok (steps := 6) ok ⟨hF⟩ (by decide) hn fun g4 k4 => h g4 (hp3.keep k4)
theorem scene_ok {p : Addr} (hp : Pen g p) (h : ∀ g', Pen g' p → K (.bl true) g') : fnW 5 (t_law_scene cl) [.adr p] g K KE := by
  rw [fnW_r, t_law_scene]
  try simp
  refine pick_ok hp (by decide) (by decide) fun v1 g1 h1 hp1 => ?_
  try simp
  refine pick_ok hp1 (by decide) (by decide) fun v2 g2 h2 hp2 => ?_
  try simp
  have e1 : (1 : Int) + (v1 : Int) = ((1 + v1 : Nat) : Int) := by omega
  have e2 : (1 : Int) + (v2 : Int) = ((1 + v2 : Nat) : Int) := by omega
  rw [e1, e2]
  refine network_ok (m := 1 + v1) (s := 1 + v2) (mo := 3) hp2 (by omega) (by omega) (by omega) (by decide) (by decide) fun N g3 hN1 hN2 ok hp3 => ?_
  try simp
  rw [e1]
  refine row_ok hp3 (by omega) (by decide) fun S g4 hS hp4 => ?_
  try simp
  rw [← hN1]
  refine runs_ok ok (by omega) ⟨hS⟩ hp4 (by decide) fun g5 hp5 => ?_
  try simp
  refine pick_ok hp5 (by decide) (by decide) fun v3 g6 h3 hp6 => ?_
  try simp
  have e3 : (1 : Int) + (v3 : Int) = ((1 + v3 : Nat) : Int) := by omega
  rw [e1, e3]
  refine network_ok (m := 1 + v1) (s := 1 + v3) (mo := 2) hp6 (by omega) (by omega) (by omega) (by decide) (by decide) fun M g7 hM1 hM2 okM hp7 => ?_
  try simp
  rw [e1]
  refine row_ok hp7 (by omega) (by decide) fun R g8 hR hp8 => ?_
  try simp
  rw [← hM1]
  exact turns_ok ok (by omega) ⟨hS⟩ okM (by omega) ⟨hR⟩ hp8 h
end K70
set_option maxHeartbeats 2000000
namespace K70
open PySem PySem.Spec L2 WL Net
variable {cl : Str → Addr} {g : G} {K : KW} {KE : XW}
theorem far_ok {p : Addr} (hp : Pen g p) (h : ∀ g', Pen g' p → K (.bl true) g') : fnW 8 (t_law_far cl) [.adr p] g K KE := by
  rw [fnW_r, t_law_far]
  try simp
  refine pick_ok hp (by decide) (by decide) fun v5 g1 h5 hp1 => ?_
  try simp
  refine pick_ok hp1 (by decide) (by decide) fun v6 g2 h6 hp2 => ?_
  try simp
  refine pick_ok hp2 (by decide) (by decide) fun v7 g3 h7 hp3 => ?_
  try simp
  refine pick_ok hp3 (by decide) (by decide) fun v8 g4 h8 hp4 => ?_
  try simp
  generalize hN : (Nt.mk 3 [⟨false, [2, 0], (v6 : Int)⟩, ⟨true, [0, 1], 1000 + (v5 : Int)⟩, ⟨true, [4, 2], 0⟩, ⟨false, [3], 7⟩]) = N
  have eN : W.tup [.int 3, .tup [.tup [.str "first", .tup [.int 2, .int 0], .int (v6 : Int)], .tup [.str "last", .tup [.int 0, .int 1], .int (1000 + (v5 : Int))], .tup [.str "last", .tup [.int 4, .int 2], .int 0], .tup [.str "first", .tup [.int 3], .int 7]]] = netW N := by rw [← hN]; rfl
  have hn : N.n = 4 := by rw [← hN]; rfl
  have hm : N.many = 3 := by rw [← hN]
  have ok : NtOk N := by
    refine ⟨⟨fun x hx => ?_, fun x hx i hi => ?_⟩, by omega, by omega, fun x hx => ?_⟩
    · rw [← hN] at hx
      simp at hx
      rcases hx with rfl | rfl | rfl | rfl <;> simp <;> omega
    · rw [hm, hn]
      rw [← hN] at hx
      simp at hx
      rcases hx with rfl | rfl | rfl | rfl <;> simp at hi <;> omega
    · rw [← hN] at hx
      simp at hx
      rcases hx with rfl | rfl | rfl | rfl <;> simp
  rw [eN]
  have row3 : ∀ a b c : Option Int, [oI a, oI b, oI c] = rowW N.many fun j => match j with | 0 => a | 1 => b | 2 => c | _ => none := fun a b c => by rw [hm]; rfl
  have nn3 : ∀ a b c : Option Int, (∀ v, a = some v → 0 ≤ v) → (∀ v, b = some v → 0 ≤ v) → (∀ v, c = some v → 0 ≤ v) → SOk N fun j => match j with | 0 => a | 1 => b | 2 => c | _ => none := fun a b c ha hb hc => ⟨fun i v e => by
    match i, e with
    | 0, e => exact ha v e
    | 1, e => exact hb v e
    | 2, e => exact hc v e⟩
  have e1 := row3 (some (v7 : Int)) (some 5) (some (99999 - (v8 : Int)))
  simp only [oI_some] at e1
  rw [e1]
  have s1 := nn3 (some (v7 : Int)) (some 5) (some (99999 - (v8 : Int))) (fun v z => by cases z; omega) (fun v z => by cases z; omega) (fun v z => by cases z; omega)
  generalize hS : (fun j => match j with | 0 => some (v7 : Int) | 1 => some 5 | 2 => some (99999 - (v8 : Int)) | _ => none : Fn) = S at s1
  refine law_comes_ok ok ?_
  try simp
  refine pick_ok hp4 (by decide) (by decide) fun v3 g5 h3 hp5 => ?_
  try simp
  refine for_by (fun i ν g1 => Pen g1 p ∧ ∃ x1 x2, ν = [some (.adr p), x1, x2, some (netW N), some (.tup (rowW N.many S)), some (dueW N S)] ++ ν.drop 6 ∧ ν.length = 8) ⟨hp5, _, _, rfl, rfl⟩ ?_ ?_
  · rintro i w ν g6 Nx hw ⟨hp6, x1, x2, hsl, hl⟩ hN'
    have hd : (ν.drop 6).length = 2 := by rw [List.length_drop]; omega
    obtain ⟨x6, r, er, hr⟩ := len1 hd
    obtain ⟨x7, r2, er2, hr2⟩ := len1 hr
    rw [len0 hr2] at er2
    rw [er2] at er
    rw [er] at hsl
    subst hsl
    obtain ⟨t, rfl, ht⟩ : ∃ t : Nat, w = .int (t : Int) ∧ t < 3000 := by
      have hm := List.mem_of_getElem? hw
      simp only [List.mem_cons, List.not_mem_nil, or_false] at hm
      rcases hm with rfl | rfl
      · exact ⟨2000, rfl, by decide⟩
      · exact ⟨1200 + v3, by congr 1, by omega⟩
    try simp
    refine law_asked_ok ok s1 ht (by omega) fun g7 k7 => ?_
    try simp
    exact hN' _ _ ⟨hp6.keep k7, _, _, rfl, rfl⟩
  · rintro ν g6 ⟨hp6, x1, x2, hsl, hl⟩
    have hd : (ν.drop 6).length = 2 := by rw [List.length_drop]; omega
    obtain ⟨x6, r, er, hr⟩ := len1 hd
    obtain ⟨x7, r2, er2, hr2⟩ := len1 hr
    rw [len0 hr2] at er2
    rw [er2] at er
    rw [er] at hsl
    subst hsl
    try simp
    refine pick_ok hp6 (by decide) (by decide) fun v4 g7 h4 hp7 => ?_
    try simp
    have e2 := row3 (some 3) (some 4) (some (9999 - (v4 : Int)))
    simp only [oI_some] at e2
    have s2 := nn3 (some 3) (some 4) (some (9999 - (v4 : Int))) (fun v z => by cases z; omega) (fun v z => by cases z; omega) (fun v z => by cases z; omega)
    have e3 := row3 (some 2) (some 0) none
    simp only [oI_some, oI_none] at e3
    have s3 := nn3 (some 2) (some 0) none (fun v z => by cases z; omega) (fun v z => by cases z; omega) (fun v z => nomatch z)
    rw [e2]
    refine law_comes_ok ok ?_
    try simp
    refine law_whole_ok ok s2 ?_
    try simp
    rw [e3]
    exact runs_ok ok (by omega) s3 hp7 (by decide) h
end K70
set_option maxHeartbeats 2000000
namespace K70
open PySem PySem.Spec L2 WL Net
variable {cl : Str → Addr} {g : G} {K : KW} {KE : XW}
theorem row_cons {o : Option Int} {k : Nat} {S : Fn} : oI o :: rowW k S = rowW (k + 1) fun j => match j with | 0 => o | j + 1 => S j := by
  unfold rowW
  rw [List.range_succ_eq_map, List.map_cons, List.map_map]
  rfl
theorem fmod_nat {a b : Nat} : Int.fmod (a : Int) (b : Int) = ((a % b : Nat) : Int) := by
  rw [Int.fmod_eq_emod_of_nonneg _ (by omega)]
  omega
theorem rng2 {a b : Nat} (h : a ≤ b) : rngW (a : Int) (b : Int) = (List.range (b - a)).map fun (k : Nat) => W.int ((a + k : Nat) : Int) := by
  unfold rngW
  have e : ((b : Int) - (a : Int)).toNat = b - a := by omega
  rw [e]
  refine List.map_congr_left fun k _ => ?_
  congr 1
theorem wide_ok {p : Addr} (hp : Pen g p) (h : ∀ g', Pen g' p → K (.bl true) g') : fnW 4 (t_law_wide cl) [.adr p] g K KE := by
  have r60 : rngW 0 60 = (List.range 60).map fun (k : Nat) => W.int (k : Int) := rng_map 60
  have r12 : rngW 1 12 = (List.range 11).map fun (k : Nat) => W.int ((1 + k : Nat) : Int) := rng2 (a := 1) (b := 12) (by decide)
  have r40 : rngW 13 40 = (List.range 27).map fun (k : Nat) => W.int ((13 + k : Nat) : Int) := rng2 (a := 13) (b := 40) (by decide)
  rw [fnW_r, t_law_wide]
  simp only [sSeq_r, sAsgL_r, aCons_r, eTup_r, eC_r, eCG_r, eL_r, lComp_r, iR1_r, aNil_r, rng1_r, r60]
  refine ⟨by decide, by decide, by simp, comp_of (List.range 60) (fun (k : Nat) => W.int (k : Int)) (fun k => some (.int ((k % 6 : Nat) : Int))) (fun k hk A B hA => ?_) ?_⟩
  · have e : Int.fmod (k : Int) 6 = ((k % 6 : Nat) : Int) := fmod_nat (b := 6)
    simp [e]
    simpa using hA
  · rw [fm_some]
    have e0 : (List.range 60).map (fun (k : Nat) => W.int ((k % 6 : Nat) : Int)) = opsW ((List.range 60).map (· % 6)) := by unfold opsW; rw [List.map_map]; rfl
    rw [e0]
    generalize hops : (List.range 60).map (· % 6) = ops
    have hol : ops.length = 60 := by rw [← hops]; rfl
    have hom : ∀ i ∈ ops, i < 46 := fun i hi => by
      rw [← hops] at hi
      obtain ⟨k, _, rfl⟩ := List.mem_map.mp hi
      omega
    try simp
    refine pick_ok hp (by decide) (by decide) fun v5 g1 h5 hp1 => ?_
    try simp
    rw [r12]
    refine ⟨by decide, ?_⟩
    have first : W.tup [.str "last", .tup (opsW ops), .int (v5 : Int)] = gateW ⟨true, ops, v5⟩ := rfl
    have ok0 : GOk ⟨true, ops, (v5 : Int)⟩ 46 60 := ⟨hom, by simp only; omega, by simp only; omega⟩
    refine comp_by (fun i acc g2 => Pen g2 p ∧ ∃ gs : List Gate, acc = gs.map gateW ∧ gs.length = i ∧ ∀ x ∈ gs, GOk x 46 60) ⟨hp1, [], rfl, rfl, fun _ z => nomatch z⟩ ?_ ?_
    · rintro i w acc g2 Nx hw ⟨hp2, gs, rfl, hl, hgs⟩ hN
      have hi : i < 11 := by
        have := (List.getElem?_eq_some_iff.mp hw).1
        simpa using this
      rw [List.getElem?_map, List.getElem?_range hi] at hw
      cases hw
      try simp
      refine pick_ok hp2 (by decide) (by decide) fun v0 g3 h0 hp3 => ?_
      obtain ⟨w, ew, hw⟩ := two (a := .str "first") (b := .str "last") (v := v0) (by omega)
      try simp [ew]
      have push : ∀ b : Bool, w = wordW b → Nx (gs.map gateW ++ [.tup [w, .tup [.int (6 + (1 + (i : Int)) + 1)], .int 0]]) g3 := fun b eb => by
        have e : W.tup [w, .tup [.int (6 + (1 + (i : Int)) + 1)], .int 0] = gateW ⟨b, [8 + i], 0⟩ := by
          have e' : (6 + (1 + (i : Int)) + 1) = ((8 + i : Nat) : Int) := by omega
          rw [eb, e']
          rfl
        rw [e]
        refine hN _ _ ⟨hp3, gs ++ [⟨b, [8 + i], 0⟩], by rw [List.map_append]; rfl, by simp [hl], fun y hy => ?_⟩
        rcases List.mem_append.mp hy with z | z
        · exact hgs y z
        · rw [List.mem_singleton.mp z]
          exact ⟨fun j hj => by simp at hj; omega, by simp, by simp⟩
      rcases hw with rfl | rfl
      · exact push false rfl
      · exact push true rfl
    · rintro acc g2 ⟨hp2, gs, rfl, hl, hgs⟩
      rw [List.length_map, List.length_range] at hl
      try simp
      rw [r40]
      refine ⟨by omega, by omega, by simp, ?_⟩
      refine comp_by (fun i acc g2 => Pen g2 p ∧ ∃ gs : List Gate, acc = gs.map gateW ∧ gs.length = i ∧ ∀ x ∈ gs, GOk x 46 60) ⟨hp2, [], rfl, rfl, fun _ z => nomatch z⟩ ?_ ?_
      · rintro i w acc g2 Nx hw ⟨hp2, gs, rfl, hl, hgs⟩ hN
        have hi : i < 27 := by
          have := (List.getElem?_eq_some_iff.mp hw).1
          simpa using this
        rw [List.getElem?_map, List.getElem?_range hi] at hw
        cases hw
        try simp
        have e13 : (13 : Int) + (i : Int) = ((13 + i : Nat) : Int) := by omega
        rw [e13]
        refine gate_ok (m := 6) (s := 40) (a := 13 + i) (mo := 4) hp2 (by decide) (by decide) (by decide) (by omega) (by decide) (by decide) fun x g3 hx hp3 => ?_
        refine hN _ _ ⟨hp3, gs ++ [x], by rw [List.map_append]; rfl, by simp [hl], fun y hy => ?_⟩
        rcases List.mem_append.mp hy with z | z
        · exact hgs y z
        · rw [List.mem_singleton.mp z]
          exact ⟨hx.ops, by have := hx.len; omega, hx.nn⟩
      · rintro acc g3 ⟨hp3, gs2, rfl, hl2, hgs2⟩
        rw [List.length_map, List.length_range] at hl2
        try simp
        refine ⟨by omega, ?_⟩
        refine pick_ok hp3 (by decide) (by decide) fun v6 g4 h6 hp4 => ?_
        try simp
        refine row_ok (many := 5) hp4 (by decide) (by decide) fun S g5 hS hp5 => ?_
        generalize hG : (⟨true, ops, (v5 : Int)⟩ :: (gs ++ ⟨false, [0, 6], 1⟩ :: gs2) : List Gate) = G
        have hGl : G.length = 40 := by rw [← hG]; simp; omega
        have hGo : ∀ x ∈ G, GOk x 46 60 := fun x hx => by
          rw [← hG] at hx
          rcases List.mem_cons.mp hx with rfl | hx
          · exact ok0
          · rcases List.mem_append.mp hx with z | z
            · exact hgs x z
            · rcases List.mem_cons.mp z with rfl | z
              · exact ⟨fun j hj => by simp at hj; omega, by simp, by simp⟩
              · exact hgs2 x z
        have ok : NtOk ⟨6, G⟩ := by
          refine ⟨⟨fun x hx => (hGo x hx).nn, fun x hx i hi => ?_⟩, by show 6 < 10000; decide, ?_, fun x hx => ?_⟩
          · have := (hGo x hx).ops i hi
            show i < 6 + G.length
            omega
          · show G.length < _; omega
          · have := (hGo x hx).len
            omega
        have eG : W.tup [.int 6, .tup (W.tup [W.str (Str.ofString "last"), W.tup (opsW ops), W.int ↑v5] :: (List.map gateW gs ++ W.tup [W.str (Str.ofString "first"), W.tup [W.int 0, W.int 6], W.int 1] :: List.map gateW gs2))] = netW ⟨6, G⟩ := by
          show _ = W.tup [.int ((6 : Nat) : Int), .tup (G.map gateW)]
          rw [← hG, List.map_cons, List.map_append, List.map_cons]
          rfl
        try simp
        rw [eG]
        have er := row_cons (o := some (v6 : Int)) (k := 5) (S := S)
        rw [oI_some] at er
        rw [er]
        refine runs_ok (N := ⟨6, G⟩) ok (by show G.length < _; omega) ⟨fun i v e => ?_⟩ hp5 (by decide) h
        match i, e with
        | 0, e => cases e; omega
        | j + 1, e => exact hS j v e
end K70
set_option maxHeartbeats 2000000
namespace K70
open PySem PySem.Spec L2 WL Net
variable {cl : Str → Addr} {g : G} {K : KW} {KE : XW}
def sig (l : List (Option Int)) : Fn := fun j => (l[j]?).join
theorem sig_row (l : List (Option Int)) : rowW l.length (sig l) = l.map oI := by
  apply List.ext_getElem?
  intro i
  by_cases hi : i < l.length
  · rw [row_get hi, List.getElem?_map, List.getElem?_eq_getElem hi]
    unfold sig
    rw [List.getElem?_eq_getElem hi]
    rfl
  · rw [List.getElem?_eq_none (by simp; omega), List.getElem?_eq_none (by simp; omega)]
theorem sig_ok {N : Nt} {l : List (Option Int)} (h : ∀ o ∈ l, ∀ v, o = some v → 0 ≤ v) : SOk N (sig l) := ⟨fun i v e => by
  unfold sig at e
  cases q : l[i]? with
  | none => rw [q] at e; cases e
  | some o => rw [q] at e; exact h o (List.mem_of_getElem? q) v e⟩
def NL : Nt := ⟨1, [⟨false, [0, 3], 0⟩, ⟨true, [1, 4], 0⟩, ⟨false, [2], 1⟩, ⟨false, [0], 3⟩]⟩
def NW : Nt := ⟨2, [⟨true, [0, 1, 2], 0⟩, ⟨true, [0, 1], 3⟩, ⟨false, [0, 0], 1⟩]⟩
def NE : Nt := ⟨2, []⟩
def NF : Nt := ⟨1, [⟨false, [0, 0], 1⟩]⟩
theorem ok_of {N : Nt} (h1 : ∀ x ∈ N.gates, 0 ≤ x.delay ∧ (∀ i ∈ x.ops, i < N.many + N.n) ∧ x.ops.length < 100) (h2 : N.many < 100) (h3 : N.n < 100) : NtOk N :=
  ⟨⟨fun x hx => (h1 x hx).1, fun x hx => (h1 x hx).2.1⟩, by omega, by omega, fun x hx => by have := (h1 x hx).2.2; omega⟩
theorem ok_L : NtOk NL := ok_of (by decide) (by decide) (by decide)
theorem ok_W : NtOk NW := ok_of (by decide) (by decide) (by decide)
theorem ok_E : NtOk NE := ok_of (by decide) (by decide) (by decide)
theorem ok_F : NtOk NF := ok_of (by decide) (by decide) (by decide)
theorem rowEq {k : Nat} {F : Fn} {l : List (Option Int)} (h : (List.range k).map F = l) : rowW k F = l.map oI := by
  subst h
  unfold rowW
  rw [List.map_map]; rfl
theorem rowsEq {N : Nt} {T : Fn} {k : Nat} {l : List (List Nat)} (h : (List.range k).map (fun s => rowAt N T ((s : Nat) : Int)) = l) : (List.range k).map (fun (s : Nat) => rowT N T (s : Int)) = l.map fun r => W.tup (r.map fun (a : Nat) => W.int (a : Int)) := by
  subst h
  rw [List.map_map]; rfl
abbrev S5 : Fn := sig [some 5]
theorem f1' : (List.range NL.n).map (fun a => cutF (NL.due S5) ((9 : Nat) : Int) (NL.many + a)) = ([some 5, some 8, none, some 8] : List (Option Int)) := by decide +kernel
theorem f1 : rowW NL.n (fun a => cutF (NL.due S5) ((9 : Nat) : Int) (NL.many + a)) = [.int 5, .int 8, .non, .int 8] := Eq.trans (rowEq f1') rfl
theorem f2 : quiet NL S5 = 10 := by decide +kernel
theorem f3' : (List.range NL.n).map (fun a => cutF (NL.due S5) ((10 : Nat) : Int) (NL.many + a)) = ([some 5, some 8, some 9, some 8] : List (Option Int)) := by decide +kernel
theorem f3 : rowW NL.n (fun a => cutF (NL.due S5) ((10 : Nat) : Int) (NL.many + a)) = [.int 5, .int 8, .int 9, .int 8] := Eq.trans (rowEq f3') rfl
theorem f4' : (List.range 10).map (fun s => rowAt NL (NL.due S5) ((s : Nat) : Int)) = ([[], [], [], [], [], [0], [], [], [1, 3], [2]] : List (List Nat)) := by decide +kernel
theorem f4 : (List.range 10).map (fun (s : Nat) => rowT NL (NL.due S5) (s : Int)) = [.tup [], .tup [], .tup [], .tup [], .tup [], .tup [.int 0], .tup [], .tup [], .tup [.int 1, .int 3], .tup [.int 2]] := Eq.trans (rowsEq f4') rfl
theorem f5 : quiet NL (sig [none]) = 0 := by decide +kernel
theorem f6 : quiet NW (sig [some 2, none]) = 4 := by decide +kernel
theorem f7 : quiet NW (sig [none, some 8]) = 9 := by decide +kernel
theorem f8' : (List.range 3).map (fun s => rowAt NL (NL.due (sig [none])) ((s : Nat) : Int)) = ([[], [], []] : List (List Nat)) := by decide +kernel
theorem f8 : (List.range 3).map (fun (s : Nat) => rowT NL (NL.due (sig [none])) (s : Int)) = [.tup [], .tup [], .tup []] := Eq.trans (rowsEq f8') rfl
theorem f9 : quiet NE (sig [some 4, some 0]) = 5 := by decide +kernel
theorem f10 : rowW NE.n (fun a => cutF (NE.due (sig [some 4, some 0])) ((6 : Nat) : Int) (NE.many + a)) = [] := rfl
theorem f11' : (List.range 2).map (fun s => rowAt NE (NE.due (sig [some 4, some 0])) ((s : Nat) : Int)) = ([[], []] : List (List Nat)) := by decide +kernel
theorem f11 : (List.range 2).map (fun (s : Nat) => rowT NE (NE.due (sig [some 4, some 0])) (s : Int)) = [.tup [], .tup []] := Eq.trans (rowsEq f11') rfl
end K70
set_option maxHeartbeats 400000
namespace K70
open PySem PySem.Spec L2 WL Net
variable {cl : Str → Addr} {g : G} {K : KW} {KE : XW}
theorem c9 (h : ∀ g', Keep g g' → K (.tup [.int 5, .int 8, .non, .int 8]) g') : fnW 7 (t_run_steps cl) [netW NL, .tup [.int 5], .int 9] g K KE :=
  run_steps_ok (N := NL) (S := S5) (steps := 9) ok_L (sig_ok (by simp)) (by decide) fun g' k => by rw [f1]; exact h g' k
theorem c10 (h : ∀ g', Keep g g' → K (.tup [.int 5, .int 8, .int 9, .int 8]) g') : fnW 7 (t_run_steps cl) [netW NL, .tup [.int 5], .int 10] g K KE :=
  run_steps_ok (N := NL) (S := S5) (steps := 10) ok_L (sig_ok (by simp)) (by decide) fun g' k => by rw [f3]; exact h g' k
theorem c10r (h : ∀ g', Keep g g' → K (.tup [.tup [], .tup [], .tup [], .tup [], .tup [], .tup [.int 0], .tup [], .tup [], .tup [.int 1, .int 3], .tup [.int 2]]) g') : fnW 7 (t_coming_rows cl) [netW NL, .tup [.int 5], .int 10] g K KE :=
  coming_ok (N := NL) (S := S5) (steps := 10) ok_L (sig_ok (by simp)) (by decide) fun g' k => by
    have e := h g' k
    rw [← f4] at e
    exact e
theorem c3r (h : ∀ g', Keep g g' → K (.tup [.tup [], .tup [], .tup []]) g') : fnW 7 (t_coming_rows cl) [netW NL, .tup [.non], .int 3] g K KE :=
  coming_ok (N := NL) (S := sig [none]) (steps := 3) ok_L (sig_ok (by simp)) (by decide) fun g' k => by
    have e := h g' k
    rw [← f8] at e
    exact e
theorem c2r (h : ∀ g', Keep g g' → K (.tup [.tup [], .tup []]) g') : fnW 7 (t_coming_rows cl) [netW NE, .tup [.int 4, .int 0], .int 2] g K KE :=
  coming_ok (N := NE) (S := sig [some 4, some 0]) (steps := 2) ok_E (sig_ok (by simp)) (by decide) fun g' k => by
    have e := h g' k
    rw [← f11] at e
    exact e
theorem c6 (h : ∀ g', Keep g g' → K (.tup []) g') : fnW 7 (t_run_steps cl) [netW NE, .tup [.int 4, .int 0], .int 6] g K KE :=
  run_steps_ok (N := NE) (S := sig [some 4, some 0]) (steps := 6) ok_E (sig_ok (by simp)) (by decide) fun g' k => by rw [f10]; exact h g' k
theorem q5 (h : K (.int 10) g) : fnW 4 (t_quiet_behind cl) [netW NL, .tup [.int 5]] g K KE := quiet_behind_ok (N := NL) (S := S5) ok_L (sig_ok (by simp)) (by rw [f2]; exact h)
theorem q0 (h : K (.int 0) g) : fnW 4 (t_quiet_behind cl) [netW NL, .tup [.non]] g K KE := quiet_behind_ok (N := NL) (S := sig [none]) ok_L (sig_ok (by simp)) (by rw [f5]; exact h)
theorem q2 (h : K (.int 4) g) : fnW 4 (t_quiet_behind cl) [netW NW, .tup [.int 2, .non]] g K KE := quiet_behind_ok (N := NW) (S := sig [some 2, none]) ok_W (sig_ok (by simp)) (by rw [f6]; exact h)
theorem q8 (h : K (.int 9) g) : fnW 4 (t_quiet_behind cl) [netW NW, .tup [.non, .int 8]] g K KE := quiet_behind_ok (N := NW) (S := sig [none, some 8]) ok_W (sig_ok (by simp)) (by rw [f7]; exact h)
theorem q4 (h : K (.int 5) g) : fnW 4 (t_quiet_behind cl) [netW NE, .tup [.int 4, .int 0]] g K KE := quiet_behind_ok (N := NE) (S := sig [some 4, some 0]) ok_E (sig_ok (by simp)) (by rw [f9]; exact h)
end K70
set_option maxHeartbeats 2000000
namespace K70
open PySem PySem.Spec L2 WL Net
variable {cl : Str → Addr} {g : G} {K : KW} {KE : XW}
theorem hand_ok {p : Addr} (hp : Pen g p) (h : ∀ g', Pen g' p → K (.bl true) g') : fnW 5 (t_law_hand cl) [.adr p] g K KE := by
  rw [fnW_r, t_law_hand]
  have eL : W.tup [.int 1, .tup [.tup [.str "first", .tup [.int 0, .int 3], .int 0], .tup [.str "last", .tup [.int 1, .int 4], .int 0], .tup [.str "first", .tup [.int 2], .int 1], .tup [.str "first", .tup [.int 0], .int 3]]] = netW NL := rfl
  have eW : W.tup [.int 2, .tup [.tup [.str "last", .tup [.int 0, .int 1, .int 2], .int 0], .tup [.str "last", .tup [.int 0, .int 1], .int 3], .tup [.str "first", .tup [.int 0, .int 0], .int 1]]] = netW NW := rfl
  have eE : W.tup [.int 2, .tup []] = netW NE := rfl
  refine seqN fun N1 hN1 => ?_
  simp
  rw [eL]
  subst hN1
  refine seqN fun N2 hN2 => ?_
  simp [kg]
  refine c9 fun g1 k1 => ?_
  refine q5 ?_
  subst hN2
  refine seqN fun N3 hN3 => ?_
  simp
  refine same_ok (n := 60) (by decide +kernel) (by decide +kernel) ?_
  simp
  subst hN3
  refine seqN fun N4 hN4 => ?_
  simp [kg]
  refine c10 fun g2 k2 => ?_
  refine same_ok (n := 60) (by decide +kernel) (by decide +kernel) ?_
  simp
  subst hN4
  refine seqN fun N5 hN5 => ?_
  simp [kg]
  refine c10r fun g3 k3 => ?_
  subst hN5
  refine seqN fun N6 hN6 => ?_
  simp
  refine same_ok (n := 60) (by decide +kernel) (by decide +kernel) ?_
  simp
  subst hN6
  refine seqN fun N7 hN7 => ?_
  simp
  rw [eW]
  subst hN7
  refine seqN fun N8 hN8 => ?_
  simp
  refine q0 ?_
  refine q2 ?_
  refine q8 ?_
  subst hN8
  refine seqN fun N9 hN9 => ?_
  simp
  refine c3r fun g4 k4 => ?_
  refine same_ok (n := 60) (by decide +kernel) (by decide +kernel) ?_
  simp
  subst hN9
  refine seqN fun N10 hN10 => ?_
  simp
  rw [eE]
  refine q4 ?_
  refine c6 fun g5 k5 => ?_
  refine c2r fun g6 k6 => ?_
  subst hN10
  refine seqN fun N11 hN11 => ?_
  simp
  refine same_ok (n := 60) (by decide +kernel) (by decide +kernel) ?_
  simp
  subst hN11
  have hp6 : Pen g6 p := (((((hp.keep k1).keep k2).keep k3).keep k4).keep k5).keep k6
  simp
  refine pick_ok hp6 (by decide) (by decide) fun v3 g7 h3 hp7 => ?_
  try simp
  have hv : W.tup [.int (v3 : Int), .int 2] = .tup (rowW NW.many (sig [some (v3 : Int), some 2])) := congrArg W.tup (sig_row [some (v3 : Int), some 2]).symm
  rw [hv]
  refine runs_ok (N := NW) ok_W (by decide) (sig_ok (by simp)) hp7 (by decide) fun g8 hp8 => ?_
  have ei : itemW g8 (netW NW) (.int 1) = some (.tup [.tup [.str "last", .tup [.int 0, .int 1, .int 2], .int 0], .tup [.str "last", .tup [.int 0, .int 1], .int 3], .tup [.str "first", .tup [.int 0, .int 0], .int 1]]) := rfl
  have es : sliceW (.tup [.tup [.str "last", .tup [.int 0, .int 1, .int 2], .int 0], .tup [.str "last", .tup [.int 0, .int 1], .int 3], .tup [.str "first", .tup [.int 0, .int 0], .int 1]]) (some 2) none = some (.tup [.tup [.str "first", .tup [.int 0, .int 0], .int 1]]) := rfl
  rw [asB_b, if_pos rfl, ei, asO_s, es, asO_s]
  exact turns_ok (N := NL) (S := sig [some 1]) (M := NF) (R := sig [some 4]) ok_L (by decide) (sig_ok (by simp)) ok_F (by decide) (sig_ok (by simp)) hp8 h
theorem law_ok {ns : List Int} (hl : ns.length ≤ 63) : fnW 5 (t_law cl) [.scr (ns.map W.int)] (fun _ => none) (fun w _ => w = .bl true) noX := by
  rw [fnW_r, t_law]
  simp
  refine pen_ok hl rfl fun p g1 hp1 => ?_
  obtain ⟨gr, hb, gs, hs, seed, c2, c3, x, h1, _⟩ := hp1.ex
  simp [item_a h1, pen5]
  refine hand_ok hp1 fun g2 hp2 => ?_
  simp
  refine for_rng (n := 3) (fun i ν g1 => Pen g1 p ∧ ∃ b c : Bool, Sl [some (.scr (ns.map W.int)), some (.adr p), some (.bl b), some (.bl c)] 1 ν) ⟨hp2, _, _, rfl, rfl⟩ ?_ ?_
  · rintro i ν g3 Nx hi ⟨hp3, b, c, hsl⟩ hN
    obtain ⟨x4, rfl⟩ := hsl.r1
    simp
    refine scene_ok hp3 fun g4 hp4 => ?_
    simp
    exact hN _ _ ⟨hp4, b, c, rfl, rfl⟩
  · rintro ν g3 ⟨hp3, b, c, hsl⟩
    obtain ⟨x4, rfl⟩ := hsl.r1
    have fin : ∀ g4, Pen g4 p → ∀ KE : XW, (if c = true then fnW 8 (t_law_far cl) [.adr p] g4 (fun w _ => w = .bl true) KE else True) := fun g4 hp4 KE => by
      split
      · exact far_ok hp4 fun _ _ => rfl
      · trivial
    cases b with
    | false =>
      cases c with
      | false => simp
      | true =>
        simp
        exact far_ok hp3 fun _ _ => rfl
    | true =>
      simp
      refine wide_ok hp3 fun g4 hp4 => ?_
      simp
      cases c with
      | false => simp
      | true =>
        simp
        exact far_ok hp4 fun _ _ => rfl
end K70
namespace K70
open PySem PySem.Spec PyProof.Rows L2 WL HT
theorem facts {P : Program} {w : World} {K : PySem.W.Frag} {h : Heap} {mg : Str → Option Value} {f : Addr} (X : K.In h) (G : h.Ns mainGlobals mg) (hfa : mg ("law" : Str) = some (.ref f)) (c : He.SaysD fa fn K) :
    ∃ fd : FuncData, (∀ (s : Shared) (v : Value), BindsTo s fd ⟨[v], []⟩ [("script", v)]) ∧ ∀ base : Heap, K.In base → base.Ns mainGlobals mg → FnOk P w K mg base (L2.CX P w) 11 f fd ["script"] (spF K (He.ga K) 1 (fnW 5 (t_law (He.ga K)))) := by
  have e := hfa.symm.trans (He.glo_ok X G (c.fact 26 (f := .glo "law") rfl))
  cases e
  obtain ⟨fd, F, _⟩ := ok_law (P := P) (w := w) (Fx.mk c X G)
  have b := FunD.bindsA (ps := ["script"]) F fun _ _ _ _ _ _ us hl => match us, hl with | [_], _ => rfl
  refine ⟨fd, fun s v => b s [v] rfl, fun base X' G' => ?_⟩
  obtain ⟨fd', F', o⟩ := ok_law (P := P) (w := w) (Fx.mk c X' G')
  have e : fd' = fd := by
    obtain ⟨oc, od, dV, kV, doc, pm, an, cdv, ct, osl, h1, l1, _⟩ := F.ex
    obtain ⟨oc', od', dV', kV', doc', pm', an', cdv', ct', osl', h1', l1', _⟩ := F'.ex
    rw [l1] at l1'
    have z := Option.some.inj l1'
    injection z with z1 z2 z3 z4
    injection z3 with z5
    exact z5.symm
  rw [← e]
  exact o
end K70
open PySem PySem.W PySem.Calls PyProof.Rows
theorem PySem.Challenge.cw_firstandlast_k70_whole_runs_holds : PySem.Challenge.rw_firstandlast_k70_whole_runs.Holds := by
  w_on; o_law
  refine HandSHeadRun.head_any (r := OpenLaw.row PySem.Challenge.rw_firstandlast_k70_whole_runs) (q := view (OpenLaw.row PySem.Challenge.rw_firstandlast_k70_whole_runs).prog [42]) (H := HT.hk) (ob := HT.ob) (M := 3000) (loose := HT.loose) (d := HandSHeadRun.topDef (OpenLaw.row PySem.Challenge.rw_firstandlast_k70_whole_runs).prog 42) (kwd := []) HT.ob_eq
    (by kernel_rfl) (fun s => by kernel_rfl) HT.run (by kernel_rfl) (by kernel_rfl) (by kernel_rfl) (by rfl) (by first | assumption | decide +kernel) (by decide +kernel) ⟨rfl, rfl, rfl, rfl, rfl, by decide +kernel⟩ ?hw ?hc
  case hw => w_witness2
  case hc =>
    refine WL.walk_ofW (l := PySem.Challenge.rw_firstandlast_k70_whole_runs) (n := 63) (k := 11) (N := 5) (x := "script") rfl (by decide) (by kernel_rfl) ⟨rfl, by decide, by decide⟩ ?F
    intro w mg fa h Y G hmg0
    obtain ⟨K, KX, c⟩ := Y
    have hmg : mg ("law" : PySem.Str) = some (.ref fa) := by
      have e : (HandSHeadRun.topDef (OpenLaw.row PySem.Challenge.rw_firstandlast_k70_whole_runs).prog 42).name = ("law" : PySem.Str) := by kernel_rfl
      rw [← e]
      exact hmg0
    obtain ⟨fd, hb, hF⟩ := K70.facts (P := (PySem.Challenge.rw_firstandlast_k70_whole_runs).prog) (w := w) KX G hmg c
    exact ⟨K, He.ga K, fd, K70.t_law (He.ga K), KX, hb, fun ns hl => K70.law_ok hl, hF⟩
