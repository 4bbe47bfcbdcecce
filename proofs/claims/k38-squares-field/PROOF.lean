import PyProof.Rows.All
import Wide.All
import OpenK.AllK
import Wide.FinOn
import HandS.Base
import HandS.Call
import HandS.List
import HandS.Comp
import HandS.Exc
import HandS.Words
import HandS.Iter
import HandS.Walk
import HandS.Wide
import HandS.WideBits
import HandS.TupAny
import HandS.Gcd
import HandS.IsInst
import HandS.Style
import HandS.Text
import HandS.Zip
import HandS.TupMul
import KE.GoesMore
import PyProof.EnumMake
import PyProof.Rows.CallKw2
import HandS.Star
import HandS.Dict
import HandS.NoneIn
import HandS.Ends
import HandS.EndBits
import HandS.HeadEnd
import HandS.Defaults
import HandS.Head0
import HandS.Head1
import HandS.Head2
import HandS.HeadHook1
import HandS.HeadHook2
import KE.KStateDown
import HandS.Head3
import PySem.Challenge.RW_panewebs_k38_the_squares_field

/-! Pv0 -/
set_option Elab.async false
set_option linter.all false
set_option maxRecDepth 100000
set_option maxHeartbeats 2000000
namespace Pv
open PySem L2

/-! ### data in a heap -/
mutual
inductive Rp (K : PySem.W.Frag) (F : Hp) : V → PyData → Prop
  | non : Rp K F .non .none
  | bl (b : Bool) : Rp K F (.bl b) (.bool b)
  | int (i : Int) : Rp K F (.int i) (.int i)
  | str (x : Str) : Rp K F (.str x) (.str x)
  | lst {a : Addr} {xs : List V} {ds : List PyData} : F a = some (.lst xs) → RpAll K F xs ds → Rp K F (.ref a) (.list ds)
  | tup {a : Addr} {xs : List V} {ds : List PyData} : SqT K F a xs → RpAll K F xs ds → Rp K F (.ref a) (.tuple ds)
inductive RpAll (K : PySem.W.Frag) (F : Hp) : List V → List PyData → Prop
  | nil : RpAll K F [] []
  | cons {v : V} {vs : List V} {d : PyData} {ds : List PyData} : Rp K F v d → RpAll K F vs ds → RpAll K F (v :: vs) (d :: ds)
end

section
variable {K : PySem.W.Frag} {F F' : Hp}
theorem sqT_mono (e : Same F F') {a : Addr} {xs : List V} (h : SqT K F a xs) : SqT K F' a xs := by
  rcases h with (h | ⟨o, h⟩) | h
  · exact .inl (.inl (e _ _ h))
  · exact .inl (.inr ⟨o, e _ _ h⟩)
  · exact .inr h
mutual
theorem Rp.mono (e : Same F F') : ∀ {v : V} {d : PyData}, Rp K F v d → Rp K F' v d
  | _, _, .non => .non
  | _, _, .bl b => .bl b
  | _, _, .int i => .int i
  | _, _, .str x => .str x
  | _, _, .lst h r => .lst (e _ _ h) (RpAll.mono e r)
  | _, _, .tup h r => .tup (sqT_mono e h) (RpAll.mono e r)
theorem RpAll.mono (e : Same F F') : ∀ {vs : List V} {ds : List PyData}, RpAll K F vs ds → RpAll K F' vs ds
  | _, _, .nil => .nil
  | _, _, .cons h r => .cons (Rp.mono e h) (RpAll.mono e r)
end
mutual
theorem Rp.dp : ∀ {v : V} {d : PyData}, Rp K F v d → Dp K F v d
  | _, _, .non => .non
  | _, _, .bl b => .bl b
  | _, _, .int i => .int i
  | _, _, .str x => .str x
  | _, _, .lst h r => .lst (SqL.of h) (RpAll.dp r)
  | _, _, .tup h r => .tup h (RpAll.dp r)
theorem RpAll.dp : ∀ {vs : List V} {ds : List PyData}, RpAll K F vs ds → DpAll K F vs ds
  | _, _, .nil => .nil
  | _, _, .cons h r => .cons (Rp.dp h) (RpAll.dp r)
end
theorem RpAll.length : ∀ {vs : List V} {ds : List PyData}, RpAll K F vs ds → vs.length = ds.length
  | _, _, .nil => rfl
  | _, _, .cons _ r => by rw [List.length_cons, List.length_cons, RpAll.length r]
theorem RpAll.get : ∀ {vs : List V} {ds : List PyData} {i : Nat} {d : PyData}, RpAll K F vs ds → ds[i]? = some d → ∃ v, vs[i]? = some v ∧ Rp K F v d
  | _, _, _, _, .nil, h => by simp at h
  | _, _, 0, _, .cons h r, e => by simp at e; subst e; exact ⟨_, rfl, h⟩
  | _, _, i + 1, _, .cons h r, e => by
    obtain ⟨v, h1, h2⟩ := RpAll.get (i := i) r (by simpa using e)
    exact ⟨v, by simpa using h1, h2⟩
theorem RpAll.getV : ∀ {vs : List V} {ds : List PyData} {i : Nat} {v : V}, RpAll K F vs ds → vs[i]? = some v → ∃ d, ds[i]? = some d ∧ Rp K F v d
  | _, _, _, _, .nil, h => by simp at h
  | _, _, 0, _, .cons h r, e => by simp at e; subst e; exact ⟨_, rfl, h⟩
  | _, _, i + 1, _, .cons h r, e => by
    obtain ⟨v, h1, h2⟩ := RpAll.getV (i := i) r (by simpa using e)
    exact ⟨v, by simpa using h1, h2⟩
theorem RpAll.append : ∀ {vs ws : List V} {ds es : List PyData}, RpAll K F vs ds → RpAll K F ws es → RpAll K F (vs ++ ws) (ds ++ es)
  | _, _, _, _, .nil, s => s
  | _, _, _, _, .cons h r, s => .cons h (RpAll.append r s)
theorem RpAll.set : ∀ {vs : List V} {ds : List PyData} {v : V} {d : PyData} (i : Nat), RpAll K F vs ds → Rp K F v d → RpAll K F (vs.set i v) (ds.set i d)
  | _, _, _, _, _, .nil, _ => .nil
  | _, _, _, _, 0, .cons _ r, q => .cons q r
  | _, _, _, _, i + 1, .cons h r, q => .cons h (RpAll.set i r q)
theorem RpAll.take : ∀ {vs : List V} {ds : List PyData} (n : Nat), RpAll K F vs ds → RpAll K F (vs.take n) (ds.take n)
  | _, _, 0, _ => .nil
  | _, _, _ + 1, .nil => .nil
  | _, _, n + 1, .cons h r => .cons h (RpAll.take n r)
theorem RpAll.drop : ∀ {vs : List V} {ds : List PyData} (n : Nat), RpAll K F vs ds → RpAll K F (vs.drop n) (ds.drop n)
  | _, _, 0, r => r
  | _, _, _ + 1, .nil => .nil
  | _, _, n + 1, .cons h r => RpAll.drop n r
theorem RpAll.reverse {vs : List V} {ds : List PyData} (h : RpAll K F vs ds) : RpAll K F vs.reverse ds.reverse := by
  have go : ∀ {vs : List V} {ds : List PyData}, RpAll K F vs ds → RpAll K F vs.reverse ds.reverse := by
    intro vs
    induction vs with
    | nil => intro ds h; cases h; exact .nil
    | cons v vs ih =>
      intro ds h
      cases h with
      | cons h r =>
        rw [List.reverse_cons, List.reverse_cons]
        exact RpAll.append (ih r) (.cons h .nil)
  exact go h
theorem RpAll.dropLast {vs : List V} {ds : List PyData} (h : RpAll K F vs ds) : RpAll K F vs.dropLast ds.dropLast := by
  have e := h.length
  rw [List.dropLast_eq_take, List.dropLast_eq_take, e]
  exact h.take _
theorem RpAll.rep {vs : List V} {ds : List PyData} (h : RpAll K F vs ds) : ∀ k : Nat, RpAll K F (List.replicate k vs).flatten (List.replicate k ds).flatten
  | 0 => .nil
  | k + 1 => by
    rw [List.replicate_succ, List.replicate_succ, List.flatten_cons, List.flatten_cons]
    exact RpAll.append h (RpAll.rep h k)
end

/-! ### no list within -/
mutual
def lfree : PyData → Bool
  | .none => true
  | .bool _ => true
  | .int _ => true
  | .str _ => true
  | .list _ => false
  | .tuple xs => lfreeAll xs
  | .dict _ => false
def lfreeAll : List PyData → Bool
  | [] => true
  | x :: xs => lfree x && lfreeAll xs
end
/-- the heap without what stands at A -/
def less (F : Hp) (A : Addr → Prop) [DecidablePred A] : Hp := fun b => if A b then none else F b
section
variable {K : PySem.W.Frag} {F : Hp} {A : Addr → Prop} [DecidablePred A]
theorem sqT_less (hA : ∀ b, A b → ∃ xs, F b = some (.lst xs)) {a : Addr} {xs : List V} (h : SqT K F a xs) : SqT K (less F A) a xs := by
  rcases h with (h | ⟨o, h⟩) | h
  · refine .inl (.inl ?_)
    unfold less
    rw [if_neg]
    · exact h
    · intro q
      obtain ⟨ys, e⟩ := hA a q
      rw [h] at e; cases e
  · refine .inl (.inr ⟨o, ?_⟩)
    unfold less
    rw [if_neg]
    · exact h
    · intro q
      obtain ⟨ys, e⟩ := hA a q
      rw [h] at e; cases e
  · exact .inr h
mutual
theorem Rp.less (hA : ∀ b, A b → ∃ xs, F b = some (.lst xs)) : ∀ {v : V} {d : PyData}, Rp K F v d → lfree d = true → Rp K (less F A) v d
  | _, _, .non, _ => .non
  | _, _, .bl b, _ => .bl b
  | _, _, .int i, _ => .int i
  | _, _, .str x, _ => .str x
  | _, _, .lst h r, l => by simp [lfree] at l
  | _, _, .tup h r, l => .tup (sqT_less hA h) (RpAll.less hA r (by simpa [lfree] using l))
theorem RpAll.less (hA : ∀ b, A b → ∃ xs, F b = some (.lst xs)) : ∀ {vs : List V} {ds : List PyData}, RpAll K F vs ds → lfreeAll ds = true → RpAll K (Pv.less F A) vs ds
  | _, _, .nil, _ => .nil
  | _, _, .cons h r, l => by
    simp only [lfreeAll, Bool.and_eq_true] at l
    exact .cons (Rp.less hA h l.1) (RpAll.less hA r l.2)
end
end

/-! ### the law's source of draws -/
structure SV where
  cells : List Int
  left : Int
  mixed : Int
  turn : Int
structure Src where
  a : Addr
  c : Addr
  v : SV
/-- what the evaluator knows of it -/
abbrev SS := Option SV
def has (S : Option Src) (b : Addr) : Prop := ∃ s, S = some s ∧ (b = s.a ∨ b = s.c)
def srcKv (s : Src) : List (Key × V) := [(.inr "cells", .ref s.c), (.inr "left", .int s.v.left), (.inr "mixed", .int s.v.mixed), (.inr "turn", .int s.v.turn)]
def SrcOk (H : Hp) (S : Option Src) : Prop := ∀ s, S = some s → s.a ≠ s.c ∧ H s.a = some (.dK (srcKv s)) ∧ H s.c = some (.lst (s.v.cells.map V.int))
theorem has_none {b : Addr} : ¬ has none b := fun ⟨_, e, _⟩ => by cases e

/-! ### states: F, what stands still; S, the source; H, the heap -/
structure Gs where
  F : Hp
  S : Option Src
  H : Hp
abbrev Gs.V (g : Gs) : SS := g.S.map (·.v)
structure Gs.Ok (g : Gs) : Prop where
  sub : Same g.F g.H
  src : SrcOk g.H g.S
  fre : ∀ b, has g.S b → g.F b = none
structure Gs.Le (g g' : Gs) : Prop where
  fro : Same g.F g'.F
  keep : ∀ b o, g.H b = some o → ¬ has g.S b → g'.H b = some o
  dom : ∀ b, g.H b ≠ none → g'.H b ≠ none
  new : ∀ b, g.F b = none → g.H b ≠ none → g'.F b = none
  srcs : ∀ b, has g'.S b → has g.S b ∨ g.H b = none
  same : ∀ s, g.S = some s → ∃ s', g'.S = some s' ∧ s'.a = s.a ∧ s'.c = s.c
theorem Gs.Le.refl (g : Gs) : g.Le g := ⟨fun _ _ h => h, fun _ _ h _ => h, fun _ h => h, fun _ h _ => h, fun _ h => .inl h, fun s h => ⟨s, h, rfl, rfl⟩⟩
theorem Gs.Le.hasS {g g' : Gs} (l : g.Le g') {b : Addr} (h : has g.S b) : has g'.S b := by
  obtain ⟨s, e, q⟩ := h
  obtain ⟨s', e', q1, q2⟩ := l.same s e
  exact ⟨s', e', by rw [q1, q2]; exact q⟩
theorem Gs.Le.trans {g g1 g2 : Gs} (a : g.Le g1) (b : g1.Le g2) : g.Le g2 where
  fro := a.fro.trans b.fro
  keep := fun c o h n => b.keep c o (a.keep c o h n) fun q => by
    rcases a.srcs c q with q | q
    · exact n q
    · rw [h] at q; cases q
  dom := fun c h => b.dom c (a.dom c h)
  new := fun c h1 h2 => b.new c (a.new c h1 h2) (a.dom c h2)
  srcs := fun c h => by
    rcases b.srcs c h with h | h
    · exact a.srcs c h
    · right
      cases e : g.H c with
      | none => rfl
      | some o => exact absurd h (a.dom c (by rw [e]; simp))
  same := fun s h => by
    obtain ⟨s1, e1, p1, p2⟩ := a.same s h
    obtain ⟨s2, e2, p3, p4⟩ := b.same s1 e1
    exact ⟨s2, e2, p3.trans p1, p4.trans p2⟩
theorem Gs.Le.none {g g' : Gs} (l : g.Le g') {b : Addr} (h : g'.H b = none) : g.H b = none := by
  cases e : g.H b with
  | none => rfl
  | some o => exact absurd h (l.dom b (by rw [e]; simp))
theorem Gs.Ok.noneF {g : Gs} (o : g.Ok) {b : Addr} (h : g.H b = none) : g.F b = none := by
  cases e : g.F b with
  | none => rfl
  | some u => rw [o.sub b u e] at h; cases h
theorem Gs.Ok.nhas {g : Gs} (o : g.Ok) {b : Addr} (h : g.H b = none) : ¬ has g.S b := fun ⟨s, e, q⟩ => by
  obtain ⟨_, h1, h2⟩ := o.src s e
  rcases q with q | q
  · rw [q, h1] at h; cases h
  · rw [q, h2] at h; cases h

/-- a new object, which nobody writes -/
def Gs.put (g : Gs) (p : Addr) (o : HO) : Gs := ⟨upd g.F p o, g.S, upd g.H p o⟩
theorem same_upd {H : Hp} {p : Addr} {o : HO} (h : H p = none) : Same H (upd H p o) := fun a u e => by
  rw [upd_ne (ne_of_none e h)]
  exact e
theorem srcOk_upd {H : Hp} {S : Option Src} {p : Addr} {o : HO} (h : SrcOk H S) (n : ¬ has S p) : SrcOk (upd H p o) S := fun s e => by
  obtain ⟨h0, h1, h2⟩ := h s e
  refine ⟨h0, ?_, ?_⟩
  · rw [upd_ne (fun q => n ⟨s, e, .inl q.symm⟩)]; exact h1
  · rw [upd_ne (fun q => n ⟨s, e, .inr q.symm⟩)]; exact h2
theorem Gs.put_ok {g : Gs} {p : Addr} {o : HO} (k : g.Ok) (h : g.H p = none) : (g.put p o).Ok where
  sub := fun a u e => by
    by_cases q : a = p
    · subst q
      have e : upd g.F a o a = some u := e
      rw [upd_same] at e; cases e; exact upd_same
    · have e : upd g.F p o a = some u := e
      rw [upd_ne q] at e
      show upd g.H p o a = some u
      rw [upd_ne q]
      exact k.sub a u e
  src := srcOk_upd k.src (k.nhas h)
  fre := fun b q => by
    have ne : b ≠ p := fun e => k.nhas h (by rw [← e]; exact q)
    show upd g.F p o b = none
    rw [upd_ne ne]
    exact k.fre b q
theorem Gs.put_le {g : Gs} {p : Addr} {o : HO} (k : g.Ok) (h : g.H p = none) : g.Le (g.put p o) where
  fro := same_upd (k.noneF h)
  keep := fun b u e _ => same_upd h b u e
  dom := fun b e => by
    show upd g.H p o b ≠ none
    by_cases q : b = p
    · subst q; rw [upd_same]; simp
    · rw [upd_ne q]; exact e
  new := fun b e1 e2 => by
    have ne : b ≠ p := fun e => e2 (by rw [e]; exact h)
    show upd g.F p o b = none
    rw [upd_ne ne]
    exact e1
  srcs := fun b q => .inl q
  same := fun s e => ⟨s, e, rfl, rfl⟩
/-- a new object that may be written -/
def Gs.lay (g : Gs) (p : Addr) (o : HO) : Gs := ⟨g.F, g.S, upd g.H p o⟩
theorem Gs.lay_ok {g : Gs} {p : Addr} {o : HO} (k : g.Ok) (h : g.F p = none) (n : ¬ has g.S p) : (g.lay p o).Ok where
  sub := fun a u e => by
    have e : g.F a = some u := e
    show upd g.H p o a = some u
    rw [upd_ne (fun q => by rw [q, h] at e; cases e)]
    exact k.sub a u e
  src := srcOk_upd k.src n
  fre := k.fre
theorem Gs.lay_le {g : Gs} {p : Addr} {o : HO} (k : g.Ok) (h : g.H p = none) : g.Le (g.lay p o) where
  fro := fun _ _ e => e
  keep := fun b u e _ => same_upd h b u e
  dom := fun b e => by
    show upd g.H p o b ≠ none
    by_cases q : b = p
    · subst q; rw [upd_same]; simp
    · rw [upd_ne q]; exact e
  new := fun b e1 _ => e1
  srcs := fun b q => .inl q
  same := fun s e => ⟨s, e, rfl, rfl⟩
/-- relative to a base at which p is not there -/
theorem Gs.lay_le0 {b0 g : Gs} {p : Addr} {o : HO} (l : b0.Le g) (h : b0.H p = none) : b0.Le (g.lay p o) where
  fro := l.fro
  keep := fun b u e n => by
    show upd g.H p o b = some u
    rw [upd_ne (fun q => by rw [q, h] at e; cases e)]
    exact l.keep b u e n
  dom := fun b e => by
    show upd g.H p o b ≠ none
    by_cases q : b = p
    · subst q; exact absurd h e
    · rw [upd_ne q]; exact l.dom b e
  new := l.new
  srcs := l.srcs
  same := l.same
/-- what stands at p stands still from here on -/
def Gs.frz (g : Gs) (p : Addr) (o : HO) : Gs := ⟨upd g.F p o, g.S, g.H⟩
theorem Gs.frz_ok {g : Gs} {p : Addr} {o : HO} (k : g.Ok) (h : g.H p = some o) (n : ¬ has g.S p) : (g.frz p o).Ok where
  sub := fun a u e => by
    have e : upd g.F p o a = some u := e
    by_cases q : a = p
    · subst q; rw [upd_same] at e; cases e; exact h
    · rw [upd_ne q] at e; exact k.sub a u e
  src := k.src
  fre := fun b q => by
    have ne : b ≠ p := fun e => n (by rw [← e]; exact q)
    show upd g.F p o b = none
    rw [upd_ne ne]
    exact k.fre b q
theorem Gs.frz_le0 {b0 g : Gs} {p : Addr} {o : HO} (l : b0.Le g) (h : b0.H p = none) (hF : g.F p = none) : b0.Le (g.frz p o) where
  fro := l.fro.trans (same_upd hF)
  keep := l.keep
  dom := l.dom
  new := fun b e1 e2 => by
    have ne : b ≠ p := fun e => e2 (by rw [e]; exact h)
    show upd g.F p o b = none
    rw [upd_ne ne]
    exact l.new b e1 e2
  srcs := l.srcs
  same := l.same
theorem Gs.frz_same {g : Gs} {p : Addr} {o : HO} (hF : g.F p = none) : Same g.F (g.frz p o).F := same_upd hF

/-! ### what an expression gives -/
inductive R where
  /-- data that stands still -/
  | val (d : PyData)
  /-- a list of one's own -/
  | own (ds : List PyData)
  /-- the source -/
  | src
  /-- the script -/
  | scr (ns : List Int)
def RepR (K : PySem.W.Frag) (b0 g : Gs) : V → R → Prop
  | v, .val d => Rp K g.F v d
  | v, .own ds => ∃ a xs, v = .ref a ∧ b0.H a = none ∧ g.F a = none ∧ ¬ has g.S a ∧ g.H a = some (.lst xs) ∧ RpAll K g.F xs ds
  | v, .src => ∃ s, g.S = some s ∧ v = .ref s.a
  | v, .scr ns => ∃ a, v = .ref a ∧ SqL K g.F a (ns.map V.int)
section
variable {K : PySem.W.Frag} {b0 b1 g g' : Gs} {v : V} {r : R}
theorem RepR.mono (l : g.Le g') (h : RepR K b0 g v r) : RepR K b0 g' v r := by
  cases r with
  | val d => exact Rp.mono l.fro h
  | own ds =>
    obtain ⟨a, xs, e, h0, h1, h2, h3, h4⟩ := h
    refine ⟨a, xs, e, h0, l.new a h1 (by rw [h3]; simp), fun q => ?_, l.keep a _ h3 h2, RpAll.mono l.fro h4⟩
    rcases l.srcs a q with q | q
    · exact h2 q
    · rw [h3] at q; cases q
  | src =>
    obtain ⟨s, e, q⟩ := h
    obtain ⟨s', e', q1, _⟩ := l.same s e
    exact ⟨s', e', by rw [q1]; exact q⟩
  | scr ns =>
    obtain ⟨a, e, q⟩ := h
    exact ⟨a, e, l.fro.seq q⟩
theorem RepR.base (l : b0.Le b1) (h : RepR K b1 g v r) : RepR K b0 g v r := by
  cases r with
  | val d => exact h
  | own ds =>
    obtain ⟨a, xs, e, h0, q⟩ := h
    exact ⟨a, xs, e, l.none h0, q⟩
  | src => exact h
  | scr ns => exact h
end

/-! ### the machine of the evaluator -/
structure Exc where
  cls : Str
  fs : Option (List (Str × PyData))
inductive Out (α : Type) where
  | stuck
  | ok (a : α) (S : SS)
  | exc (e : Exc) (S : SS)
def Out.bind {α β : Type} (o : Out α) (f : α → SS → Out β) : Out β :=
  match o with
  | .stuck => .stuck
  | .ok a S => f a S
  | .exc e S => .exc e S
def M (α : Type) := SS → Out α
def M.pure {α : Type} (a : α) : M α := fun S => .ok a S
def M.bind {α β : Type} (m : M α) (f : α → M β) : M β := fun S => (m S).bind f
instance : Monad M where
  pure := M.pure
  bind := M.bind
def M.stuck {α : Type} : M α := fun _ => .stuck
def M.of {α : Type} : Option α → M α
  | some a => M.pure a
  | none => M.stuck
def M.exc {α : Type} (e : Exc) : M α := fun S => .exc e S
def Out.Post {α : Type} (o : Out α) (P : α → SS → Prop) (E : Exc → SS → Prop) : Prop :=
  match o with
  | .stuck => False
  | .ok a S => P a S
  | .exc e S => E e S
theorem Out.Post.mono {α : Type} {o : Out α} {P P' : α → SS → Prop} {E E' : Exc → SS → Prop} (h : o.Post P E) (hP : ∀ a S, P a S → P' a S) (hE : ∀ e S, E e S → E' e S) : o.Post P' E' := by
  cases o with
  | stuck => exact h
  | ok a S => exact hP a S h
  | exc e S => exact hE e S h
theorem Out.post_bind {α β : Type} {o : Out α} {f : α → SS → Out β} {P : β → SS → Prop} {E : Exc → SS → Prop} : (o.bind f).Post P E ↔ o.Post (fun a S => (f a S).Post P E) E := by
  cases o <;> exact Iff.rfl
theorem M.bind_eq {α β : Type} (m : M α) (f : α → M β) (S : SS) : (m >>= f) S = (m S).bind f := rfl
theorem M.pure_eq {α : Type} (a : α) (S : SS) : (Pure.pure a : M α) S = .ok a S := rfl
end Pv

/-! Pv1 -/
set_option Elab.async false
set_option linter.all false
set_option maxRecDepth 100000
set_option maxHeartbeats 2000000
namespace Pv
open PySem L2

/-! ### the evaluator's language -/
inductive Bl where
  | len | list | tuple | abs | int | max | min | repr | gcd | all | any | sum
  deriving DecidableEq
/-- a target: a name, a tuple of names -/
inductive Tg where
  | one (j : Nat)
  | many (js : List Nat)
mutual
inductive E where
  | var (i : Nat)
  | glob (i : Nat)
  | lit (d : PyData)
  | bin (op : Operator) (a b : E)
  | neg (a : E)
  | notv (a : E)
  | andv (a b : E)
  | orv (a b : E)
  | cmp (op : CmpOp) (a b : E)
  | chn (op op' : CmpOp) (a b c : E)
  | ite (c a b : E)
  | call (f : Nat) (as : Es)
  | blt (f : Bl) (as : Es)
  | isi (a : E) (ty : String)
  | tup (as : Es)
  | lst (as : Es)
  | idx (a i : E)
  | slc (a lo hi : E) (st : Int)
  | comp (vs : List Nat) (tg : Tg) (it : I) (c : Es) (e : E)
  | srcI (i k : Nat)
  | srcN (i : Nat)
  | srcNew (a b c d : E)
  | idxO (i : Nat) (k : E)
  | lstS (a : E) (as : Es)
inductive Es where
  | nil
  | cons (a : E) (as : Es)
inductive I where
  | it (a : E)
  | rng (as : Es)
  | enum (a : E)
  | zip (a b : E)
  | zipS (a b : E)
end
/-! ### operations on data -/
def mulOk (i j : Int) : Bool := decide ((Builtin.Int.intBits i : Int) + (Builtin.Int.intBits j : Int) ≤ 134217728)
def divOk (i j : Int) : Bool := decide (j ≠ 0) && !Builtin.divisionGoesByPylong i j
def b2i (b : Bool) : Int := if b then 1 else 0
def line : Nat := 16000000
def binop (op : Operator) (x y : PyData) : Option R :=
  match op, x, y with
  | .Add, .int i, .int j => some (.val (.int (i + j)))
  | .Sub, .int i, .int j => some (.val (.int (i - j)))
  | .Sub, .bool i, .bool j => some (.val (.int (b2i i - b2i j)))
  | .Mult, .int i, .int j => if mulOk i j then some (.val (.int (i * j))) else none
  | .FloorDiv, .int i, .int j => if divOk i j then some (.val (.int (i.fdiv j))) else none
  | .Mod, .int i, .int j => if j ≠ 0 then some (.val (.int (i.fmod j))) else none
  | .Pow, .int i, .int j => if 0 ≤ j ∧ j ≤ 1000000 ∧ i.natAbs < 2 ^ 64 then some (.val (.int (i ^ j.toNat))) else none
  | .Add, .str a, .str b => if a.length + b.length ≤ line then some (.val (.str (a ++ b))) else none
  | .Add, .list a, .list b => if a.length + b.length ≤ line then some (.own (a ++ b)) else none
  | .Add, .tuple a, .tuple b => if a.length + b.length ≤ line then some (.val (.tuple (a ++ b))) else none
  | .Mult, .list a, .int k => if -(2 ^ 63) ≤ k ∧ k < 2 ^ 63 ∧ a.length * k.toNat ≤ line then some (.own (List.replicate k.toNat a).flatten) else none
  | .Mult, .tuple a, .int k => if a ≠ [] ∧ a.length ≤ 1000 ∧ 1 ≤ k ∧ k ≤ 1000 then some (.val (.tuple (List.replicate k.toNat a).flatten)) else none
  | _, _, _ => none
def eqOp (x y : PyData) : Option Bool :=
  match x, y with
  | .int i, .int j => some (decide (i = j))
  | .bool i, .bool j => some (decide (i = j))
  | .str i, .str j => some (decide (i = j))
  | x, y => if SeqAt.shaped x && SeqAt.shaped y then some (PyData.eqv x y) else none
def isNone : PyData → Bool
  | .none => true
  | _ => false
def isBl (b : Bool) : PyData → Bool
  | .bool c => c == b
  | _ => false
def cmpop (op : CmpOp) (x y : PyData) : Option Bool :=
  match op, x, y with
  | .Eq, x, y => eqOp x y
  | .NotEq, x, y => (eqOp x y).map (!·)
  | .Lt, .int i, .int j => some (decide (i < j))
  | .LtE, .int i, .int j => some (decide (i ≤ j))
  | .Gt, .int i, .int j => some (decide (j < i))
  | .GtE, .int i, .int j => some (decide (j ≤ i))
  | .Is, x, .none => some (isNone x)
  | .IsNot, x, .none => some (!isNone x)
  | .Is, .bool b, .bool c => some (b == c)
  | .IsNot, .bool b, .bool c => some (!(b == c))
  | _, _, _ => none
def boolsOf : List PyData → Option (List Bool)
  | [] => some []
  | .bool b :: r => (boolsOf r).map (b :: ·)
  | _ :: _ => none
def intsOf : List PyData → Option (List Int)
  | [] => some []
  | .int b :: r => (intsOf r).map (b :: ·)
  | _ :: _ => none
def blt (f : Bl) (as : List PyData) : Option R :=
  match f, as with
  | .len, [.list xs] => some (.val (.int xs.length))
  | .len, [.tuple xs] => some (.val (.int xs.length))
  | .len, [.str s] => if s.length ≤ line then some (.val (.int s.length)) else none
  | .list, [.list xs] => some (.own xs)
  | .list, [.tuple xs] => some (.own xs)
  | .tuple, [.list xs] => some (.val (.tuple xs))
  | .tuple, [.tuple xs] => some (.val (.tuple xs))
  | .abs, [.int i] => some (.val (.int i.natAbs))
  | .int, [.int i] => some (.val (.int i))
  | .max, [.int i, .int j] => some (.val (.int (if j > i then j else i)))
  | .min, [.int i, .int j] => some (.val (.int (if j < i then j else i)))
  | .gcd, [.int i, .int j] => some (.val (.int (Int.gcd i j : Nat)))
  | .repr, [d] => if d.showable && !d.hasDict && decide (d.shown.length ≤ line) && decide (d.depth ≤ 32) then some (.val (.str d.shown)) else none
  | .all, [.list xs] => (boolsOf xs).map fun bs => .val (.bool (bs.all id))
  | .any, [.list xs] => (boolsOf xs).map fun bs => .val (.bool (bs.any id))
  | .sum, [.list xs] => (intsOf xs).map fun ns => .val (.int ns.sum)
  | _, _ => none
def isiD (ty : String) : PyData → Option Bool
  | .none => (kit "NoneType" ty)
  | .bool _ => kit "bool" ty
  | .int _ => kit "int" ty
  | .str _ => kit "str" ty
  | .list _ => kit "list" ty
  | .tuple _ => kit "tuple" ty
  | .dict _ => none
where kit (a b : String) : Option Bool :=
  if ["NoneType", "bool", "int", "str", "list", "tuple"].contains a && ["bool", "int", "str", "list", "tuple"].contains b then some (a == b || (a == "bool" && b == "int")) else none
def idx (x i : PyData) : Option PyData :=
  match x, i with
  | .list xs, .int i => atI xs i
  | .tuple xs, .int i => atI xs i
  | .str z, .int i => if z.length ≤ line then (atI z.cps.toList i).map fun c => .str ⟨#[c]⟩ else none
  | _, _ => none
def cut {α : Type} (xs : List α) (lo hi : Option Int) : List α := (xs.drop (HT.sIx xs.length 0 lo)).take (HT.sIx xs.length xs.length hi - HT.sIx xs.length 0 lo)
/-- every st-th one from lo on to hi -/
def stepCut {α : Type} (xs : List α) (lo hi : Option Int) (st : Int) : List α :=
  let p := Builtin.Slice.sliceAdjust lo hi st (xs.length : Int)
  (List.range (Builtin.Slice.slicePlaces p.1 p.2 st)).filterMap fun (k : Nat) => xs[(p.1 + (k : Int) * st).toNat]?
def slc (x : PyData) (lo hi : Option Int) (st : Int) : Option R :=
  match x with
  | .tuple xs => if st = 1 then some (.val (.tuple (cut xs lo hi))) else if st = 0 then none else if (stepCut xs lo hi st).length ≤ line then some (.val (.tuple (stepCut xs lo hi st))) else none
  | .list xs => if st = 1 then some (.own (cut xs lo hi)) else match lo, hi with
    | none, none => if st = -1 then some (.own xs.reverse) else none
    | _, _ => none
  | .str z => if st = 1 ∧ z.length ≤ line then some (.val (.str ⟨(cut z.cps.toList lo hi).toArray⟩)) else none
  | _ => none
def small (i : Int) : Bool := decide (-(2 ^ 62) ≤ i ∧ i < 2 ^ 62)
def rng (as : List PyData) : Option (List PyData) :=
  match as with
  | [.int n] => if small n then some ((List.range n.toNat).map fun i => .int (i : Nat)) else none
  | [.int lo, .int n] => if small lo && small n then some ((List.range (n - lo).toNat).map fun (i : Nat) => .int (lo + i)) else none
  | [.int lo, .int n, .int st] => if small lo && small n && decide (st = -1) then some ((List.range (lo - n).toNat).map fun (i : Nat) => .int (lo + i * (-1))) else none
  | _ => none
def items : PyData → Option (List PyData)
  | .list xs => some xs
  | .tuple xs => some xs
  | .str z => some (z.cps.toList.map fun c => .str ⟨#[c]⟩)
  | _ => none
def enumAt : Nat → List PyData → List PyData
  | _, [] => []
  | n, x :: r => .tuple [.int (n : Nat), x] :: enumAt (n + 1) r
def enum : PyData → Option (List PyData)
  | .list xs => some (enumAt 0 xs)
  | .tuple xs => some (enumAt 0 xs)
  | _ => none
/-- zip of two lists of one length -/
def zipSD (x y : PyData) : Option (List PyData) :=
  match x, y with
  | .list xs, .list ys => if xs.length = ys.length then some (List.zipWith (fun a b => .tuple [a, b]) xs ys) else none
  | _, _ => none
def seqD0 : PyData → Option (List PyData)
  | .tuple ds => some ds
  | .list ds => some ds
  | _ => none
def zipD (x y : PyData) : Option (List PyData) :=
  match x, y with
  | .list xs, .list ys => some (List.zipWith (fun a b => .tuple [a, b]) xs ys)
  | .tuple xs, .tuple ys => some (List.zipWith (fun a b => .tuple [a, b]) xs ys)
  | _, _ => none

/-! ### the evaluator -/
abbrev Env := List (Option R)
structure Ctx where
  fn : Nat → List R → M R
  con : Nat → Option PyData
def R.d : R → Option PyData
  | .val d => some d
  | .own ds => some (.list ds)
  | _ => none
def R.arg : R → R
  | .own ds => .val (.list ds)
  | r => r
def negD : PyData → Option R
  | .int i => some (.val (.int (-i)))
  | _ => none
def isB : PyData → Option Bool
  | .bool b => some b
  | _ => none
def getV (ρ : Env) (i : Nat) : Option R :=
  match ρ[i]? with
  | some (some (.own _)) => none
  | some o => o
  | none => none
/-- a slot's value, a list of one's own too, to be looked into -/
def getX (ρ : Env) (i : Nat) : Option PyData :=
  match ρ[i]? with
  | some (some r) => r.d
  | _ => none
def setV (ρ : Env) (i : Nat) (r : R) : Env := ρ.set i (some r)
def clr (ρ : Env) (vs : List Nat) : Env := vs.foldr (fun v ρ => ρ.set v none) ρ
def bindMany : List Nat → List PyData → Env → Option Env
  | [], [], ρ => some ρ
  | j :: js, d :: ds, ρ => bindMany js ds (setV ρ j (.val d))
  | _, _, _ => none
def bindTg (tg : Tg) (d : PyData) (ρ : Env) : Option Env :=
  match tg, d with
  | .one j, d => some (setV ρ j (.val d))
  | .many js, .tuple ds => bindMany js ds ρ
  | _, _ => none
def M.noexc {α : Type} (m : M α) : M α := fun S =>
  match m S with
  | .ok a S => .ok a S
  | _ => .stuck
def compLoop (body : PyData → M (Option PyData)) : List PyData → List PyData → M (List PyData)
  | [], acc => pure acc
  | d :: ds, acc => do
    match ← body d with
    | some y => if acc.length < line then compLoop body ds (acc ++ [y]) else M.stuck
    | none => compLoop body ds acc
def asD (m : M R) : M PyData := do
  let r ← m
  M.of r.d
def isNl : E → Bool
  | .lit .none => true
  | _ => false
def toPart (nl : Bool) (d : PyData) : Option (Option Int) :=
  if nl then some none else match d with
    | .int i => some (some i)
    | _ => none
def asB (m : M R) : M Bool := do
  let x ← asD m
  M.of (isB x)
def itemsR (r : R) : Option (List PyData) :=
  match r with
  | .scr ns => some (ns.map .int)
  | r => r.d.bind items
def srcGet (s : SV) (k : Nat) : Int := if k = 0 then s.left else if k = 1 then s.mixed else s.turn
def srcPut (s : SV) (k : Nat) (n : Int) : SV := if k = 0 then { s with left := n } else if k = 1 then { s with mixed := n } else { s with turn := n }
def M.rd (r : R) (f : SV → Int) : M R := fun S =>
  match r, S with
  | .src, some s => .ok (.val (.int (f s))) S
  | _, _ => .stuck
def M.mk (ns : List Int) (l m t : Int) : M R := fun S =>
  match S with
  | none => .ok .src (some ⟨ns, l, m, t⟩)
  | some _ => .stuck
def ownInts : R → Option (List Int)
  | .own ds => intsOf ds
  | _ => none
def toInt : PyData → Option Int
  | .int i => some i
  | _ => none
def asI (m : M R) : M Int := do
  let x ← asD m
  M.of (toInt x)
section
variable (Γ : Ctx)
mutual
def evE : E → Env → M R
  | .var i, ρ => M.of (getV ρ i)
  | .glob i, _ => M.of ((Γ.con i).map .val)
  | .lit d, _ => pure (.val d)
  | .bin op a b, ρ => do
    let x ← asD (evE a ρ)
    let y ← asD (evE b ρ)
    M.of (binop op x y)
  | .neg a, ρ => do
    let x ← asD (evE a ρ)
    M.of (negD x)
  | .notv a, ρ => do
    let b ← asB (evE a ρ)
    pure (.val (.bool (!b)))
  | .andv a b, ρ => do
    let c ← asB (evE a ρ)
    if c then evE b ρ else pure (.val (.bool false))
  | .orv a b, ρ => do
    let c ← asB (evE a ρ)
    if c then pure (.val (.bool true)) else evE b ρ
  | .cmp op a b, ρ => do
    let x ← asD (evE a ρ)
    let y ← asD (evE b ρ)
    let c ← M.of (cmpop op x y)
    pure (.val (.bool c))
  | .chn op op' a b c, ρ => do
    let x ← asD (evE a ρ)
    let y ← asD (evE b ρ)
    let k ← M.of (cmpop op x y)
    if k then
      let z ← asD (evE c ρ)
      let k' ← M.of (cmpop op' y z)
      pure (.val (.bool k'))
    else pure (.val (.bool false))
  | .ite c a b, ρ => do
    if ← asB (evE c ρ) then evE a ρ else evE b ρ
  | .call f as, ρ => do
    let vs ← evA as ρ
    Γ.fn f vs
  | .blt f as, ρ => do
    let ds ← evDs as ρ
    M.of (blt f ds)
  | .isi a ty, ρ => do
    let x ← asD (evE a ρ)
    let b ← M.of (isiD ty x)
    pure (.val (.bool b))
  | .tup as, ρ => do
    let ds ← evDs as ρ
    if ds.length ≤ line then pure (.val (.tuple ds)) else M.stuck
  | .lst as, ρ => do
    let ds ← evDs as ρ
    if ds.length ≤ line then pure (.own ds) else M.stuck
  | .idx a i, ρ => do
    let x ← asD (evE a ρ)
    let y ← asD (evE i ρ)
    let z ← M.of (idx x y)
    pure (.val z)
  | .slc a lo hi st, ρ => do
    let x ← asD (evE a ρ)
    let y ← asD (evE lo ρ)
    let lo' ← M.of (toPart (isNl lo) y)
    let z ← asD (evE hi ρ)
    let hi' ← M.of (toPart (isNl hi) z)
    M.of (slc x lo' hi' st)
  | .comp vs tg it c e, ρ => do
    let ds ← evI it ρ
    let ys ← compLoop (fun d => M.noexc (do
      let ρ' ← M.of (bindTg tg d (clr ρ vs))
      if ← evC c ρ' then
        let y ← asD (evE e ρ')
        pure (some y)
      else pure none)) ds []
    pure (.own ys)
  | .srcI i k, ρ => do
    let r ← M.of (getV ρ i)
    M.rd r fun s => srcGet s k
  | .srcN i, ρ => do
    let r ← M.of (getV ρ i)
    M.rd r fun s => (s.cells.length : Nat)
  | .srcNew a b c d, ρ => do
    let r ← evE a ρ
    let ns ← M.of (ownInts r)
    let l ← asI (evE b ρ)
    let m ← asI (evE c ρ)
    let t ← asI (evE d ρ)
    M.mk ns l m t
  | .idxO i k, ρ => do
    let x ← M.of (getX ρ i)
    let y ← asD (evE k ρ)
    let z ← M.of (idx x y)
    pure (.val z)
  | .lstS a as, ρ => do
    let x ← asD (evE a ρ)
    let xs ← M.of (seqD0 x)
    let ds ← evDs as ρ
    if xs.length + ds.length ≤ line then pure (.own (xs ++ ds)) else M.stuck
/-- arguments of a def -/
def evA : Es → Env → M (List R)
  | .nil, _ => pure []
  | .cons a as, ρ => do
    let r ← evE a ρ
    let rs ← evA as ρ
    pure (r.arg :: rs)
def evDs : Es → Env → M (List PyData)
  | .nil, _ => pure []
  | .cons a as, ρ => do
    let d ← asD (evE a ρ)
    let ds ← evDs as ρ
    pure (d :: ds)
/-- a comprehension's test -/
def evC : Es → Env → M Bool
  | .nil, _ => pure true
  | .cons a _, ρ => asB (evE a ρ)
def evI : I → Env → M (List PyData)
  | .it a, ρ => do
    let r ← evE a ρ
    M.of (itemsR r)
  | .rng as, ρ => do
    let ds ← evDs as ρ
    M.of (rng ds)
  | .enum a, ρ => do
    let x ← asD (evE a ρ)
    M.of (enum x)
  | .zip a b, ρ => do
    let x ← asD (evE a ρ)
    let y ← asD (evE b ρ)
    M.of (zipD x y)
  | .zipS a b, ρ => do
    let x ← asD (evE a ρ)
    let y ← asD (evE b ρ)
    M.of (zipSD x y)
end

end
end Pv

/-! Pv2 -/
set_option Elab.async false
set_option linter.all false
set_option maxRecDepth 100000
set_option maxHeartbeats 2000000
namespace Pv
open PySem PySem.Spec PyProof.Rows L2

/-! ### what is wanted behind an evaluation -/
def ExcRep (K : PySem.W.Frag) (mg : Str → Option Value) (g : Gs) (ec : Exc) (cls : Value) (d : Option Addr) : Prop :=
  ∃ C, mg ec.cls = some (.ref C) ∧ cls = .ref C ∧ ∀ fs, ec.fs = some fs → ∃ dx xs, d = some dx ∧ g.F dx = some (.xd xs) ∧ xs.map (·.1) = fs.map (·.1) ∧ RpAll K g.F (xs.map (·.2)) (fs.map (·.2))
/-- a list of one's own where it stands -/
def OwnR (K : PySem.W.Frag) (g : Gs) (v : V) (ds : List PyData) : Prop := ∃ a xs, v = .ref a ∧ g.F a = none ∧ ¬ has g.S a ∧ g.H a = some (.lst xs) ∧ RpAll K g.F xs ds
theorem OwnR.mono {K : PySem.W.Frag} {g g' : Gs} {v : V} {ds : List PyData} (l : g.Le g') (h : OwnR K g v ds) : OwnR K g' v ds := by
  obtain ⟨a, xs, e, h1, h2, h3, h4⟩ := h
  have h0 : g.H a ≠ none := by rw [h3]; simp
  refine ⟨a, xs, e, l.new a h1 h0, fun q => ?_, l.keep a _ h3 h2, RpAll.mono l.fro h4⟩
  rcases l.srcs a q with q | q
  · exact h2 q
  · exact h0 q
def EnvR (K : PySem.W.Frag) (g : Gs) (σ : L2.St) (ρ : Env) : Prop := ρ.length = σ.length ∧ ∀ (i : Nat) (r : R), ρ[i]? = some (some r) → (∃ ds v, r = .own ds ∧ σ[i]? = some (some v) ∧ OwnR K g v ds) ∨ ∃ v, σ[i]? = some (some v) ∧ (∀ ds, r ≠ .own ds) ∧ RepR K g g v r
theorem EnvR.mono {K : PySem.W.Frag} {g g' : Gs} {σ : L2.St} {ρ : Env} (l : g.Le g') (h : EnvR K g σ ρ) : EnvR K g' σ ρ := ⟨h.1, fun i r e => by
  rcases h.2 i r e with ⟨ds, v, q, q1, q2⟩ | ⟨v, q1, no, q2⟩
  · exact .inl ⟨ds, v, q, q1, q2.mono l⟩
  · cases r with
    | own ds => exact (no ds rfl).elim
    | val d => exact .inr ⟨v, q1, no, RepR.mono (b0 := g) l q2⟩
    | src => exact .inr ⟨v, q1, no, RepR.mono (b0 := g) l q2⟩
    | scr ns => exact .inr ⟨v, q1, no, RepR.mono (b0 := g) l q2⟩⟩
section
variable (X : Cx) (W : WX)
def XFin (g : Gs) (σ : L2.St) (e : Exc) (S : SS) : Prop := ∀ cls d g', g'.V = S → g'.Ok → g.Le g' → ExcRep X.K X.mg g' e cls d → W cls d σ g'.H
def RFin (g : Gs) (Q : VK) (r : R) (S : SS) : Prop := ∀ v g', g'.V = S → g'.Ok → g.Le g' → RepR X.K g g' v r → Q v g'.H
def DFin (g : Gs) (Q : VK) (d : PyData) (S : SS) : Prop := ∀ v g', g'.V = S → g'.Ok → g.Le g' → Rp X.K g'.F v d → Q v g'.H
def tM (m : Env → M R) : TE := fun σ H Q => ∃ g ρ, g.H = H ∧ g.Ok ∧ EnvR X.K g σ ρ ∧ (m ρ g.V).Post (RFin X g Q) (XFin X W g σ)
def tD (m : Env → M PyData) : TE := fun σ H Q => ∃ g ρ, g.H = H ∧ g.Ok ∧ EnvR X.K g σ ρ ∧ (m ρ g.V).Post (DFin X g Q) (XFin X W g σ)
def tBt (m : Env → M Bool) : TT := fun σ H Q => ∃ g ρ, g.H = H ∧ g.Ok ∧ EnvR X.K g σ ρ ∧ (m ρ g.V).Post (fun b S => ∀ g', g'.V = S → g'.Ok → g.Le g' → Q b g'.H) (XFin X W g σ)
end
theorem PE.imp {X : Cx} {e : Expr} {t t' : TE} (h : PE X e t) (hi : ∀ σ H Q, t' σ H Q → t σ H Q) : PE X e t' := ⟨fun pins s σ H Q I hw => h.run pins s σ H Q I (hi σ H Q hw)⟩
theorem PT.imp {X : Cx} {e : Expr} {t t' : TT} (h : PT X e t) (hi : ∀ σ H Q, t' σ H Q → t σ H Q) : PT X e t' := ⟨fun pins s σ H Q I hw => h.run pins s σ H Q I (hi σ H Q hw)⟩
theorem PW.imp {X : Cx} {e : Expr} {t t' : TT} (h : PW X e t) (hi : ∀ σ H Q, t' σ H Q → t σ H Q) : PW X e t' := ⟨fun w pins s σ H Q I hw => h.run w pins s σ H Q I (hi σ H Q hw)⟩
section
variable {X : Cx} {W : WX} {g g1 : Gs} {σ : L2.St} {Q : VK}
theorem XFin.mono {e : Exc} {S : SS} (l : g.Le g1) (h : XFin X W g σ e S) : XFin X W g1 σ e S := fun cls d g' hs ok le r => h cls d g' hs ok (l.trans le) r
theorem RFin.mono {r : R} {S : SS} (l : g.Le g1) (h : RFin X g Q r S) : RFin X g1 Q r S := fun v g' hs ok le q => h v g' hs ok (l.trans le) (q.base l)
theorem DFin.mono {r : PyData} {S : SS} (l : g.Le g1) (h : DFin X g Q r S) : DFin X g1 Q r S := fun v g' hs ok le q => h v g' hs ok (l.trans le) q
theorem RPost.mono {o : Out R} (l : g.Le g1) (h : o.Post (RFin X g Q) (XFin X W g σ)) : o.Post (RFin X g1 Q) (XFin X W g1 σ) := h.mono (fun _ _ q => q.mono l) fun _ _ q => q.mono l
theorem DPost.mono {o : Out PyData} (l : g.Le g1) (h : o.Post (DFin X g Q) (XFin X W g σ)) : o.Post (DFin X g1 Q) (XFin X W g1 σ) := h.mono (fun _ _ q => q.mono l) fun _ _ q => q.mono l
/-- a value that stands still -/
theorem RFin.val {d : PyData} {v : V} (ok : g.Ok) (h : RFin X g Q (.val d) g.V) (r : Rp X.K g.F v d) : Q v g.H := h v g rfl ok (Gs.Le.refl g) r
/-- a new list of one's own -/
theorem RFin.newL {ds : List PyData} {xs : List V} {p : Addr} (ok : g.Ok) (h : RFin X g Q (.own ds) g.V) (hp : g.H p = none) (r : RpAll X.K g.F xs ds) : Q (.ref p) (upd g.H p (.lst xs)) :=
  h (.ref p) (g.lay p (.lst xs)) rfl (Gs.lay_ok ok (ok.noneF hp) (ok.nhas hp)) (Gs.lay_le ok hp) ⟨p, xs, rfl, hp, ok.noneF hp, ok.nhas hp, upd_same, r⟩
/-- a new tuple -/
theorem RFin.newT {ds : List PyData} {xs : List V} {p : Addr} (ok : g.Ok) (h : RFin X g Q (.val (.tuple ds)) g.V) (hp : g.H p = none) (r : RpAll X.K g.F xs ds) : Q (.ref p) (upd g.H p (.tup xs)) :=
  h (.ref p) (g.put p (.tup xs)) rfl (Gs.put_ok ok hp) (Gs.put_le ok hp) (.tup (.inl (.inl upd_same)) (RpAll.mono (same_upd (ok.noneF hp)) r))
/-- a list of one's own held still -/
theorem RepR.hold {b0 g : Gs} {K : PySem.W.Frag} {v : V} {r : R} {d : PyData} (ok : g.Ok) (l : b0.Le g) (h : RepR K b0 g v r) (e : r.d = some d) :
    ∃ g', g'.V = g.V ∧ g'.H = g.H ∧ g'.Ok ∧ b0.Le g' ∧ Same g.F g'.F ∧ Rp K g'.F v d := by
  cases r with
  | val d' => cases e; exact ⟨g, rfl, rfl, ok, l, Same.refl _, h⟩
  | own ds =>
    cases e
    obtain ⟨a, xs, rfl, h0, h1, h2, h3, h4⟩ := h
    exact ⟨g.frz a (.lst xs), rfl, rfl, Gs.frz_ok ok h3 h2, Gs.frz_le0 l h0 h1, Gs.frz_same h1, .lst upd_same (RpAll.mono (Gs.frz_same h1) h4)⟩
  | src => cases e
  | scr ns => cases e
theorem RepR.holdR {b0 g : Gs} {K : PySem.W.Frag} {v : V} {r : R} (ok : g.Ok) (l : b0.Le g) (h : RepR K b0 g v r) :
    ∃ g', g'.V = g.V ∧ g'.H = g.H ∧ g'.Ok ∧ b0.Le g' ∧ Same g.F g'.F ∧ RepR K b0 g' v r.arg := by
  cases r with
  | val d' => exact ⟨g, rfl, rfl, ok, l, Same.refl _, h⟩
  | own ds =>
    obtain ⟨g', h1, h2, h3, h4, h5, h6⟩ := RepR.hold (d := .list ds) ok l h rfl
    exact ⟨g', h1, h2, h3, h4, h5, h6⟩
  | src => exact ⟨g, rfl, rfl, ok, l, Same.refl _, h⟩
  | scr ns => exact ⟨g, rfl, rfl, ok, l, Same.refl _, h⟩
theorem of_post {α : Type} {o : Option α} {S : SS} {P : α → SS → Prop} {E : Exc → SS → Prop} (h : ((M.of o) S).Post P E) : ∃ a, o = some a ∧ P a S := by
  cases o with
  | none => exact h.elim
  | some a => exact ⟨a, rfl, h⟩
theorem bind_post {α β : Type} {m : M α} {f : α → M β} {S : SS} {P : β → SS → Prop} {E : Exc → SS → Prop} (h : ((m >>= f) S).Post P E) : (m S).Post (fun a S' => (f a S').Post P E) E := Out.post_bind.mp h
/-- as data -/
theorem pe_D {e : Expr} {m : Env → M R} (h : PE X e (tM X W m)) : PE X e (tD X W fun ρ => asD (m ρ)) := by
  refine PE.imp h fun σ H Q hw => ?_
  obtain ⟨g, ρ, e, ok, er, hp⟩ := hw
  refine ⟨g, ρ, e, ok, er, (bind_post hp).mono (fun r S' q => ?_) fun _ _ q => q⟩
  intro v g' hs ok' le rep
  obtain ⟨d, ed, q⟩ := of_post q
  obtain ⟨g2, e1, e2, ok2, le2, _, r2⟩ := RepR.hold ok' le rep ed
  rw [← e2]
  exact q v g2 (e1.trans hs) ok2 le2 r2
/-! ### two parts, one behind another -/
theorem seq1 {ta : TE → TE} {m : Env → M PyData} {f : PyData → M R} {r : V → Hp → VK → Prop}
    (hr : ∀ (g : Gs) (σ : L2.St) (Q : VK) (x : V) (d : PyData), g.Ok → Rp X.K g.F x d → (f d g.V).Post (RFin X g Q) (XFin X W g σ) → r x g.H Q) :
    ∀ σ H Q, tM X W (fun ρ => m ρ >>= f) σ H Q → tD X W m σ H fun x H1 => r x H1 Q := by
  rintro σ H Q ⟨g, ρ, rfl, ok, er, hp⟩
  refine ⟨g, ρ, rfl, ok, er, (bind_post hp).mono (fun d S' q => ?_) fun _ _ q => q⟩
  rintro x g1 rfl ok1 le1 r1
  exact hr g1 σ Q x d ok1 r1 (RPost.mono le1 q)
theorem seq2 {ma mb : Env → M PyData} {f : PyData → PyData → M R} {r : R2}
    (hr : ∀ (g : Gs) (σ : L2.St) (Q : VK) (x y : V) (d e : PyData), g.Ok → Rp X.K g.F x d → Rp X.K g.F y e → (f d e g.V).Post (RFin X g Q) (XFin X W g σ) → r x y g.H Q) :
    ∀ σ H Q, tM X W (fun ρ => ma ρ >>= fun d => mb ρ >>= fun e => f d e) σ H Q → tOp r (tD X W ma) (tD X W mb) σ H Q := by
  rintro σ H Q ⟨g, ρ, rfl, ok, er, hp⟩
  refine ⟨g, ρ, rfl, ok, er, (bind_post hp).mono (fun d S' q => ?_) fun _ _ q => q⟩
  rintro x g1 rfl ok1 le1 r1
  refine ⟨g1, ρ, rfl, ok1, er.mono le1, (bind_post q).mono (fun e S' q => ?_) fun _ _ q => q.mono le1⟩
  rintro y g2 rfl ok2 le2 r2
  exact hr g2 σ Q x y d e ok2 (Rp.mono le2.fro r1) r2 (RPost.mono (le1.trans le2) q)
end
end Pv

/-! Tm1 -/
set_option Elab.async false
set_option linter.all false
set_option maxRecDepth 100000
set_option maxHeartbeats 4000000
/-! tuple * 1: the tuple itself -/
namespace Tm
open PySem PySem.Spec PyProof.Rows L2
theorem tuple_mul1 (l : Addr) (items : Array Value) (n : Nat) (dd : Option Addr) (sl : Array (Option Value)) (u : Tok) :
    Meets (Builtin.«tuple.__mul__» ⟨[.ref l, .int 1 u], []⟩) (fun _ R s => s.heap.get? l = some { cls := .type "tuple", dict := dd, data := .seq items n, slots := sl } ∧ R (.ok (.ret (Value.ref l))) s) :=
  .of_wp fun prog w A R s h => by
    obtain ⟨hp, g, d, tk, os⟩ := s
    obtain ⟨hl, h⟩ := h
    have f1 := AutoSeq1.idx_int
    have c0 : (decide ((1 : Int) < -(2 ^ 63)) || decide ((1 : Int) ≥ 2 ^ 63)) = false := by decide
    have c1 : (items.isEmpty || (1 : Int) == 1) = true := by simp
    wp_walk using wpAny_loadPart' hl
    repeat (first
      | (refine wpAny_ite_false (decide_eq_false (by rw [c0]; exact Bool.false_ne_true)) ?_; wp_walk using wpAny_loadPart' hl)
      | (refine wpAny_ite_true (decide_eq_true (by rw [c1])) ?_; wp_walk using wpAny_loadPart' hl))
    exact ⟨_, rfl, h⟩
def rRepT1 (K : PySem.W.Frag) : R2 := fun x y H Q => ∃ l xs, x = .ref l ∧ y = .int 1 ∧ SqT K H l xs ∧ Q (.ref l) H
section
variable {X : Cx}
theorem op_repT1 : OpR X (binaryOp .Mult) (rRepT1 X.K) := by
  intro pins s σ H x y v u Q I rx ry h
  obtain ⟨l, xs, rfl, rfl, hT, q⟩ := h
  cases rx
  obtain ⟨t, rfl⟩ := ry
  obtain ⟨its, r, ⟨⟨cls, dd, data, sl⟩, ho, hc, n, hd⟩, hs⟩ := I.tuple hT
  simp only at hc hd
  subst hc hd
  refine wpAny_binaryOp_repeat_ref (T := "tuple") (U := "int") (by decide) ⟨_, ho, rfl⟩ (fun s' => typeIs_int s' 1 t) noFill_tuple_mul F.fills_int_mul F.slot_int_rmul repeat_tuple F.slot_int_index.lookup
    (call_meets F.slot_int_rmul (typeIs_int s 1 t) F.entry_int_rmul (F.args_int_rmul_2 _ _) (int_rmul_tuple 1 t l its.toArray n dd sl)
      ⟨ho, rfl, ⟨_, ho, rfl⟩, call_meets F.slot_tuple_mul ⟨_, ho, rfl⟩ F.entry_tuple_mul (F.args_tuple_mul_2 _ _) (tuple_mul1 l its.toArray n dd sl t) ⟨ho, ?_⟩⟩)
  exact ⟨.ref l, H, I, rfl, q⟩
end
end Tm

/-! Pv3 -/
set_option Elab.async false
set_option linter.all false
set_option maxRecDepth 100000
set_option maxHeartbeats 2000000
namespace Pv
open PySem PySem.Spec PyProof.Rows L2
theorem line_le {n : Nat} (h : n ≤ line) : n ≤ sizeLine := by
  rw [sizeLine_eq]
  unfold line at h
  omega
theorem line_lt {n : Nat} (h : n < line) : n < sizeLine := by
  rw [sizeLine_eq]
  unfold line at h
  omega
theorem gives_bool_sub (a b : Bool) : Gives (Builtin.«int.__sub__» ⟨[.bool a, .bool b], []⟩) (.int ((if a = true then (1 : Int) else 0) - if b = true then (1 : Int) else 0)) :=
  .of_wp fun M A E s Q h => by
    obtain ⟨hp, g, d, tk, os⟩ := s
    wp_walk
    exact ⟨_, rfl, h⟩
section
variable {prog : Program} {w : World} {A : Around} {E : Value → Shared → Prop} {s : Shared}
theorem sub_bools {a b : Bool} {Q : Value → Shared → Prop} (h : Q (.int ((if a = true then (1 : Int) else 0) - if b = true then (1 : Int) else 0) s.toks) { s with toks := s.toks + 1 }) : wpAny (model prog w) A (binaryOp .Sub (.bool a) (.bool b)) Q E s :=
  binaryOp_gives (op := .Sub) (T := "bool") (PySem.typeIs_bool s a) (PySem.typeIs_bool s b) F.fills_bool_sub F.slot_bool_sub F.entry_int_sub (F.args_int_sub_2 _ _) (gives_bool_sub a b) trivial h
end
section
variable {X : Cx} {W : WX}
/-! ### operators -/
def rBin (X : Cx) (W : WX) (op : Operator) : R2 := fun x y H Q => ∃ (g : Gs) (σ : L2.St) (d e : PyData), g.H = H ∧ g.Ok ∧ Rp X.K g.F x d ∧ Rp X.K g.F y e ∧ ((M.of (binop op d e)) g.V).Post (RFin X g Q) (XFin X W g σ)
theorem op_bin (op : Operator) : OpR X (binaryOp op) (rBin X W op) := by
  intro pins s σ0 H x y v u Q I rx ry h
  obtain ⟨g, σ, d, e, rfl, ok, hd, he, h⟩ := h
  obtain ⟨r, er, q⟩ := of_post h
  have q : RFin X g Q r g.V := q
  unfold binop at er
  split at er
  · cases er; cases hd; cases he
    exact op_add pins s σ0 g.H _ _ v u Q I rx ry ⟨_, _, rfl, rfl, q.val ok (.int _)⟩
  · cases er; cases hd; cases he
    exact op_sub pins s σ0 g.H _ _ v u Q I rx ry ⟨_, _, rfl, rfl, q.val ok (.int _)⟩
  · cases er; cases hd; cases he
    cases rx; cases ry
    exact sub_bools ⟨.int _, g.H, I.tok _, ⟨_, rfl⟩, q.val ok (.int _)⟩
  · split at er
    · rename_i hm
      cases er; cases hd; cases he
      exact op_mulX pins s σ0 g.H _ _ v u Q I rx ry ⟨_, _, rfl, rfl, (of_decide_eq_true hm : _ ≤ _), q.val ok (.int _)⟩
    · cases er
  · split at er
    · rename_i hm
      cases er; cases hd; cases he
      obtain ⟨t, rfl⟩ := rx
      obtain ⟨t', rfl⟩ := ry
      simp only [divOk, Bool.and_eq_true, decide_eq_true_eq, Bool.not_eq_true'] at hm
      exact floordiv_int hm.1 ⟨.int _, g.H, I.tok _, ⟨_, rfl⟩, q.val ok (.int _)⟩ (.inl hm.2)
    · cases er
  · split at er
    · rename_i hm
      cases er; cases hd; cases he
      exact op_modN pins s σ0 g.H _ _ v u Q I rx ry ⟨_, _, rfl, rfl, hm, q.val ok (.int _)⟩
    · cases er
  · split at er
    · rename_i hm
      cases er; cases hd; cases he
      exact op_pow pins s σ0 g.H _ _ v u Q I rx ry ⟨_, _, rfl, rfl, hm, q.val ok (.int _)⟩
    · cases er
  · split at er
    · rename_i hm
      cases er; cases hd; cases he
      exact op_add_str pins s σ0 g.H _ _ v u Q I rx ry ⟨_, _, rfl, rfl, line_le hm, q.val ok (.str _)⟩
    · cases er
  · split at er
    · rename_i hm
      cases er
      cases hd with
      | lst ha ra =>
      cases he with
      | lst hb rb =>
      refine op_cat pins s σ0 g.H _ _ v u Q I rx ry ⟨_, _, _, _, rfl, rfl, ok.sub _ _ ha, ok.sub _ _ hb, ?_, fun p hp => q.newL ok hp (ra.append rb)⟩
      rw [ra.length, rb.length]
      exact line_le hm
    · cases er
  · split at er
    · rename_i hm
      cases er
      cases hd with
      | tup ha ra =>
      cases he with
      | tup hb rb =>
      refine op_catA pins s σ0 g.H _ _ v u Q I rx ry ⟨_, _, _, _, rfl, rfl, sqT_mono ok.sub ha, sqT_mono ok.sub hb, ?_, fun e0 => ?_, fun _ e0 => ?_, fun _ _ p hp => q.newT ok hp (ra.append rb)⟩
      · rw [ra.length, rb.length]
        exact line_le hm
      · subst e0
        cases ra
        exact q.val ok (.tup hb rb)
      · subst e0
        cases rb
        exact q.val ok (.tup ha (by rw [List.append_nil]; exact ra))
    · cases er
  · split at er
    · rename_i hm
      cases er
      cases hd with
      | lst ha ra =>
      cases he
      refine op_rep pins s σ0 g.H _ _ v u Q I rx ry ⟨_, _, _, rfl, rfl, ok.sub _ _ ha, hm.1, hm.2.1, ?_, fun p hp => q.newL ok hp (ra.rep _)⟩
      rw [ra.length]
      exact line_le hm.2.2
    · cases er
  · split at er
    · rename_i a k hm
      cases er
      cases hd with
      | tup ha ra =>
      cases he
      obtain ⟨m1, m2, m3, m4⟩ := hm
      by_cases hk : k = 1
      · subst hk
        refine Tm.op_repT1 pins s σ0 g.H _ _ v u Q I rx ry ⟨_, _, rfl, rfl, sqT_mono ok.sub ha, q.val ok ?_⟩
        have e : (List.replicate (1 : Int).toNat a).flatten = a := by simp
        rw [e]
        exact .tup ha ra
      · refine op_repT pins s σ0 g.H _ _ v u Q I rx ry ⟨_, _, _, rfl, rfl, sqT_mono ok.sub ha, fun e0 => ?_, by omega, m4, by rw [ra.length]; exact m2, fun p hp => q.newT ok hp (ra.rep _)⟩
        subst e0
        cases ra
        exact m1 rfl
    · cases er
  · cases er
/-! ### comparisons -/
def rCmp (X : Cx) (W : WX) (op : CmpOp) : R2 := fun x y H Q => ∃ (g : Gs) (d e : PyData) (b : Bool), g.H = H ∧ g.Ok ∧ Rp X.K g.F x d ∧ Rp X.K g.F y e ∧ cmpop op d e = some b ∧ Q (.bl b) H
theorem Rp.isNone {K : PySem.W.Frag} {F : Hp} {x : V} {d : PyData} (h : Rp K F x d) : decide (x = .non) = isNone d := by
  cases h <;> simp [Pv.isNone]
theorem op_eqRp (hu : X.A.units + 64 < cLine) : OpR X (compareOp .Eq) (fun x y H Q => ∃ (g : Gs) (d e : PyData) (b : Bool), g.H = H ∧ g.Ok ∧ Rp X.K g.F x d ∧ Rp X.K g.F y e ∧ eqOp d e = some b ∧ Q (.bl b) H) := by
  intro pins s σ0 H x y v u Q I rx ry h
  obtain ⟨g, d, e, b, rfl, ok, hd, he, h, q⟩ := h
  unfold eqOp at h
  split at h
  · cases h; cases hd; cases he
    exact op_eq pins s σ0 g.H _ _ v u Q I rx ry ⟨rfl, by simpa using q⟩
  · cases h; cases hd; cases he
    exact op_eq pins s σ0 g.H _ _ v u Q I rx ry ⟨rfl, by simpa using q⟩
  · cases h; cases hd; cases he
    exact op_eq pins s σ0 g.H _ _ v u Q I rx ry ⟨rfl, by simpa using q⟩
  · split at h
    · rename_i hm
      simp only [Bool.and_eq_true] at hm
      cases h
      exact op_eqD hu pins s σ0 g.H _ _ v u Q I rx ry ⟨d, e, (hd.mono ok.sub).dp, (he.mono ok.sub).dp, hm.1, hm.2, q⟩
    · cases h
theorem op_neRp (hu : X.A.units + 64 < cLine) : OpR X (compareOp .NotEq) (fun x y H Q => ∃ (g : Gs) (d e : PyData) (b : Bool), g.H = H ∧ g.Ok ∧ Rp X.K g.F x d ∧ Rp X.K g.F y e ∧ eqOp d e = some b ∧ Q (.bl (!b)) H) := by
  intro pins s σ0 H x y v u Q I rx ry h
  obtain ⟨g, d, e, b, rfl, ok, hd, he, h, q⟩ := h
  unfold eqOp at h
  split at h
  · cases h; cases hd; cases he
    exact op_ne pins s σ0 g.H _ _ v u Q I rx ry ⟨rfl, by simpa using q⟩
  · cases h; cases hd; cases he
    exact op_ne pins s σ0 g.H _ _ v u Q I rx ry ⟨rfl, by simpa using q⟩
  · cases h; cases hd; cases he
    exact op_ne pins s σ0 g.H _ _ v u Q I rx ry ⟨rfl, by simpa using q⟩
  · split at h
    · rename_i hm
      simp only [Bool.and_eq_true] at hm
      cases h
      exact op_neD hu pins s σ0 g.H _ _ v u Q I rx ry ⟨d, e, (hd.mono ok.sub).dp, (he.mono ok.sub).dp, hm.1, hm.2, q⟩
    · cases h
theorem op_cmp (hu : X.A.units + 64 < cLine) (op : CmpOp) : OpR X (compareOp op) (rCmp X W op) := by
  intro pins s σ0 H x y v u Q I rx ry h
  obtain ⟨g, d, e, b, rfl, ok, hd, he, h, q⟩ := h
  unfold cmpop at h
  split at h
  · exact op_eqRp hu pins s σ0 g.H _ _ v u Q I rx ry ⟨g, _, _, b, rfl, ok, hd, he, h, q⟩
  · cases hb : eqOp d e with
    | none => rw [hb] at h; cases h
    | some c =>
      rw [hb] at h
      cases h
      exact op_neRp hu pins s σ0 g.H _ _ v u Q I rx ry ⟨g, _, _, c, rfl, ok, hd, he, hb, q⟩
  · cases h; cases hd; cases he
    exact op_lt pins s σ0 g.H _ _ v u Q I rx ry ⟨_, _, rfl, rfl, q⟩
  · cases h; cases hd; cases he
    exact op_le pins s σ0 g.H _ _ v u Q I rx ry ⟨_, _, rfl, rfl, q⟩
  · cases h; cases hd; cases he
    exact op_gt pins s σ0 g.H _ _ v u Q I rx ry ⟨_, _, rfl, rfl, q⟩
  · cases h; cases hd; cases he
    exact op_ge pins s σ0 g.H _ _ v u Q I rx ry ⟨_, _, rfl, rfl, q⟩
  · cases h; cases he
    exact op_isN pins s σ0 g.H _ _ v u Q I rx ry ⟨rfl, by rw [hd.isNone]; exact q⟩
  · cases h; cases he
    exact op_notN pins s σ0 g.H _ _ v u Q I rx ry ⟨rfl, by rw [hd.isNone]; exact q⟩
  · cases h; cases hd; cases he
    exact op_isBl pins s σ0 g.H _ _ v u Q I rx ry ⟨_, _, rfl, rfl, by rw [← Bool.beq_eq_decide_eq]; exact q⟩
  · cases h; cases hd; cases he
    exact op_notBl pins s σ0 g.H _ _ v u Q I rx ry ⟨_, _, rfl, rfl, by rw [← Bool.beq_eq_decide_eq]; exact q⟩
  · cases h
end
end Pv

/-! Pv4 -/
set_option Elab.async false
set_option linter.all false
set_option maxRecDepth 100000
set_option maxHeartbeats 2000000
namespace Pv
open PySem PySem.Spec PyProof.Rows L2
section
variable {K : PySem.W.Frag} {F : Hp}
theorem bools_vs : ∀ {vs : List V} {ds : List PyData} {bs : List Bool}, RpAll K F vs ds → boolsOf ds = some bs → vs = bs.map V.bl
  | _, _, _, .nil, h => by simp only [boolsOf, Option.some.injEq] at h; subst h; rfl
  | _, _ :: ds, _, .cons h r, e => by
    cases h <;> simp only [boolsOf] at e <;> try cases e
    cases q : boolsOf ds with
    | none => rw [q] at e; cases e
    | some cs =>
      rw [q] at e
      cases e
      rw [bools_vs r q]
      rfl
theorem ints_vs : ∀ {vs : List V} {ds : List PyData} {bs : List Int}, RpAll K F vs ds → intsOf ds = some bs → vs = bs.map V.int
  | _, _, _, .nil, h => by simp only [intsOf, Option.some.injEq] at h; subst h; rfl
  | _, _ :: ds, _, .cons h r, e => by
    cases h <;> simp only [intsOf] at e <;> try cases e
    cases q : intsOf ds with
    | none => rw [q] at e; cases e
    | some cs =>
      rw [q] at e
      cases e
      rw [ints_vs r q]
      rfl
theorem rp1 {vs : List V} {d : PyData} (h : RpAll K F vs [d]) : ∃ v, vs = [v] ∧ Rp K F v d := by
  cases h with
  | cons h r => cases r; exact ⟨_, rfl, h⟩
theorem rp2 {vs : List V} {d e : PyData} (h : RpAll K F vs [d, e]) : ∃ v w, vs = [v, w] ∧ Rp K F v d ∧ Rp K F w e := by
  cases h with
  | cons h r =>
    obtain ⟨w, rfl, q⟩ := rp1 r
    exact ⟨_, _, rfl, h, q⟩
end
def bltV : Bl → Value
  | .len => .builtin "len"
  | .list => .type "list"
  | .tuple => .type "tuple"
  | .abs => .builtin "abs"
  | .int => .type "int"
  | .max => .builtin "max"
  | .min => .builtin "min"
  | .repr => .builtin "repr"
  | .gcd => .builtin "math.gcd"
  | .all => .builtin "all"
  | .any => .builtin "any"
  | .sum => .builtin "sum"
/-- what is known of a context -/
structure COk (X : Cx) : Prop where
  calm : X.calm = true
  gu : X.A.guards = some []
  un : X.A.units + 100 < cLine
theorem shown_none : PyData.shown .none = "None" := by simp only [PyData.shown]
section
variable {X : Cx} {W : WX}
theorem call_reprD (co : COk X) : CallR X (.builtin "repr") (fun vs H Q => ∃ (g : Gs) (v : V) (d : PyData), g.H = H ∧ g.Ok ∧ vs = [v] ∧ Rp X.K g.F v d ∧ d.showable = true ∧ d.hasDict = false ∧ d.shown.length ≤ sizeLine ∧ d.depth ≤ 32 ∧ Q (.str d.shown) H) := by
  intro pins s σ H vs us Q I r h
  obtain ⟨g, v, d, rfl, ok, rfl, hd, h1, h2, h3, h4, q⟩ := h
  obtain ⟨u, rfl, ru⟩ := vals1 r
  have ref : ∀ a, u = Value.ref a → wpAny (model X.prog X.w) X.A (call (.builtin "repr") [u]) (EP X pins σ Q) X.xe s := by
    intro a e
    subst e
    obtain ⟨as, rd⟩ := Dp.reads I d v _ (hd.mono ok.sub).dp ru
    exact repr_of_reads' rd h1 (PyData.noDict_hsm h2) co.gu (by have := co.un; omega) (fun _ _ e => e) (fun h' u tk hk => ⟨.str d.shown, g.H, I.kept hk, ⟨u, rfl⟩, q⟩) h3
  cases hd with
  | non =>
    cases ru
    rw [shown_none] at q
    exact PySem.P.repr_of_none ⟨.str _, g.H, I.tok _, ⟨_, rfl⟩, q⟩
  | bl b =>
    cases ru
    simp only [PyData.shown] at q
    exact PySem.P.repr_of_bool ⟨.str _, g.H, I.tok _, ⟨_, rfl⟩, q⟩
  | int i =>
    obtain ⟨t, rfl⟩ := ru
    simp only [PyData.shown] at q
    simp only [PyData.showable, decide_eq_true_eq] at h1
    exact PySem.P.repr_of_int h1 ⟨.str _, g.H, I.tok _, ⟨_, rfl⟩, q⟩
  | str x =>
    obtain ⟨t, rfl⟩ := ru
    simp only [PyData.shown] at q h3
    exact PySem.P.repr_of_str ⟨.str _, g.H, I.tok _, ⟨_, rfl⟩, q⟩ h3
  | lst ha hr => exact ref _ ru
  | tup ha hr => exact ref _ ru
/-! ### built-ins -/
def rBl (X : Cx) (W : WX) (f : Bl) : List V → Hp → VK → Prop := fun vs H Q => ∃ (g : Gs) (σ : L2.St) (ds : List PyData), g.H = H ∧ g.Ok ∧ RpAll X.K g.F vs ds ∧ ((M.of (blt f ds)) g.V).Post (RFin X g Q) (XFin X W g σ)
theorem natAbs_if (i : Int) : (if i < 0 then -i else i) = ((i.natAbs : Nat) : Int) := by
  split <;> omega
theorem call_bl (co : COk X) (f : Bl) : CallR X (bltV f) (rBl X W f) := by
  intro pins s σ0 H vs us Q I r h
  obtain ⟨g, σ, ds, rfl, ok, hd, h⟩ := h
  obtain ⟨o, eo, q⟩ := of_post h
  have q : RFin X g Q o g.V := q
  unfold blt at eo
  split at eo
  -- len
  · cases eo
    obtain ⟨v, rfl, h1⟩ := rp1 hd
    cases h1 with
    | lst ha hr => exact call_len_seq pins s σ0 g.H _ us Q I r ⟨_, _, rfl, .inl (SqL.of (ok.sub _ _ ha)), by rw [hr.length]; exact q.val ok (.int _)⟩
  · cases eo
    obtain ⟨v, rfl, h1⟩ := rp1 hd
    cases h1 with
    | tup ha hr => exact call_len_seq pins s σ0 g.H _ us Q I r ⟨_, _, rfl, .inr (sqT_mono ok.sub ha), by rw [hr.length]; exact q.val ok (.int _)⟩
  · split at eo
    · rename_i hl
      cases eo
      obtain ⟨v, rfl, h1⟩ := rp1 hd
      cases h1
      exact call_len_str pins s σ0 g.H _ us Q I r ⟨_, rfl, line_le hl, q.val ok (.int _)⟩
    · cases eo
  -- list, tuple
  · cases eo
    obtain ⟨v, rfl, h1⟩ := rp1 hd
    cases h1 with
    | lst ha hr => exact call_list_of pins s σ0 g.H _ us Q I r ⟨_, _, rfl, .inl (SqL.of (ok.sub _ _ ha)), fun p hp => q.newL ok hp hr⟩
  · cases eo
    obtain ⟨v, rfl, h1⟩ := rp1 hd
    cases h1 with
    | tup ha hr => exact call_list_of pins s σ0 g.H _ us Q I r ⟨_, _, rfl, .inr (sqT_mono ok.sub ha), fun p hp => q.newL ok hp hr⟩
  · cases eo
    obtain ⟨v, rfl, h1⟩ := rp1 hd
    cases h1 with
    | lst ha hr => exact call_tuple_of pins s σ0 g.H _ us Q I r ⟨_, _, rfl, .inl ⟨SqL.of (ok.sub _ _ ha), fun p hp => q.newT ok hp hr⟩⟩
  · cases eo
    obtain ⟨v, rfl, h1⟩ := rp1 hd
    cases h1 with
    | tup ha hr => exact call_tuple_of pins s σ0 g.H _ us Q I r ⟨_, _, rfl, .inr ⟨sqT_mono ok.sub ha, q.val ok (.tup ha hr)⟩⟩
  -- abs, int, max, min, gcd
  · cases eo
    obtain ⟨v, rfl, h1⟩ := rp1 hd
    cases h1
    exact call_abs pins s σ0 g.H _ us Q I r ⟨_, rfl, by rw [natAbs_if]; exact q.val ok (.int _)⟩
  · cases eo
    obtain ⟨v, rfl, h1⟩ := rp1 hd
    cases h1
    exact call_int1 pins s σ0 g.H _ us Q I r (.inl ⟨_, rfl, q.val ok (.int _)⟩)
  · cases eo
    obtain ⟨v, w', rfl, h1, h2⟩ := rp2 hd
    cases h1; cases h2
    exact call_max2 co.calm pins s σ0 g.H _ us Q I r ⟨_, _, rfl, q.val ok (.int _)⟩
  · cases eo
    obtain ⟨v, w', rfl, h1, h2⟩ := rp2 hd
    cases h1; cases h2
    exact call_min2 co.calm pins s σ0 g.H _ us Q I r ⟨_, _, rfl, q.val ok (.int _)⟩
  · cases eo
    obtain ⟨v, w', rfl, h1, h2⟩ := rp2 hd
    cases h1; cases h2
    exact cr_gcd pins s σ0 g.H _ us Q I r ⟨_, _, rfl, q.val ok (.int _)⟩
  -- repr
  · split at eo
    · rename_i hh
      simp only [Bool.and_eq_true, Bool.not_eq_true', decide_eq_true_eq] at hh
      cases eo
      obtain ⟨v, rfl, h1⟩ := rp1 hd
      exact call_reprD co pins s σ0 g.H _ us Q I r ⟨g, v, _, rfl, ok, rfl, h1, hh.1.1.1, hh.1.1.2, line_le hh.1.2, hh.2, q.val ok (.str _)⟩
    · cases eo
  -- all, any, sum
  · obtain ⟨v, rfl, h1⟩ := rp1 hd
    cases h1 with
    | lst ha hr =>
      cases hb : boolsOf _ with
      | none => rw [hb] at eo; cases eo
      | some bs =>
        rw [hb] at eo
        cases eo
        have e := bools_vs hr hb
        subst e
        exact cr_all co.calm pins s σ0 g.H _ us Q I r ⟨_, bs, rfl, SqL.of (ok.sub _ _ ha), q.val ok (.bl _)⟩
  · obtain ⟨v, rfl, h1⟩ := rp1 hd
    cases h1 with
    | lst ha hr =>
      cases hb : boolsOf _ with
      | none => rw [hb] at eo; cases eo
      | some bs =>
        rw [hb] at eo
        cases eo
        have e := bools_vs hr hb
        subst e
        exact cr_any co.calm pins s σ0 g.H _ us Q I r ⟨_, bs, rfl, SqL.of (ok.sub _ _ ha), q.val ok (.bl _)⟩
  · obtain ⟨v, rfl, h1⟩ := rp1 hd
    cases h1 with
    | lst ha hr =>
      cases hb : intsOf _ with
      | none => rw [hb] at eo; cases eo
      | some bs =>
        rw [hb] at eo
        cases eo
        have e := ints_vs hr hb
        subst e
        exact cr_sum co.calm pins s σ0 g.H _ us Q I r ⟨_, bs, rfl, SqL.of (ok.sub _ _ ha), q.val ok (.int _)⟩
  · cases eo
/-! ### isinstance -/
theorem tyX_of {g : Gs} (ok : g.Ok) {x : V} {d : PyData} (h : Rp X.K g.F x d) : ∃ t, TyX X.K g.H x (.type t) ∧ ∀ ty b, isiD ty d = some b → isiD.kit t ty = some b := by
  cases h with
  | non => exact ⟨_, .base .non, fun _ _ e => e⟩
  | bl b => exact ⟨_, .base (.bl b), fun _ _ e => e⟩
  | int i => exact ⟨_, .base (.int i), fun _ _ e => e⟩
  | str z => exact ⟨_, .base (.str z), fun _ _ e => e⟩
  | lst ha hr => exact ⟨_, .base (.lst (ok.sub _ _ ha)), fun _ _ e => e⟩
  | tup ha hr =>
    refine ⟨"tuple", ?_, fun _ _ e => e⟩
    rcases sqT_mono ok.sub ha with (h | ⟨o, h⟩) | ⟨o, its, n, hk, hc, _⟩
    · exact .base (.tup h)
    · exact .fTuple h
    · exact .kTuple hk hc
theorem kit_ok {K : PySem.W.Frag} {a b : String} {r : Bool} (h : isiD.kit a b = some r) : PySem.W.kitOne K (.type a) (.type b) = some r := by
  unfold isiD.kit at h
  split at h
  · rename_i hh
    simp only [Bool.and_eq_true, List.contains_iff_mem, List.mem_cons, List.not_mem_nil, or_false] at hh
    obtain ⟨h1, h2⟩ := hh
    cases h
    rcases h1 with rfl | rfl | rfl | rfl | rfl | rfl <;> rcases h2 with rfl | rfl | rfl | rfl | rfl <;> exact kit_ty (by decide +kernel)
  · cases h
/-! ### an item -/
def rIdx (X : Cx) (W : WX) : R2 := fun x y H Q => ∃ (g : Gs) (d e z : PyData), g.H = H ∧ g.Ok ∧ Rp X.K g.F x d ∧ Rp X.K g.F y e ∧ idx d e = some z ∧ RFin X g Q (.val z) g.V
theorem atI_rp {K : PySem.W.Frag} {F : Hp} {xs : List V} {ds : List PyData} {i : Int} {z : PyData} (h : RpAll K F xs ds) (e : atI ds i = some z) : ∃ v, atI xs i = some v ∧ Rp K F v z := by
  unfold atI at e ⊢
  rw [h.length]
  cases q : ixN ds.length i with
  | none => rw [q] at e; cases e
  | some j =>
    rw [q] at e
    exact h.get (i := j) e
theorem ix_ok : IxR X (rIdx X W) := by
  intro value slice pins s σ0 H x y v u Q I rx ry h hs
  obtain ⟨g, d, e, z, rfl, ok, hd, he, hz, q⟩ := h
  unfold idx at hz
  split at hz
  · cases hd with
    | lst ha hr =>
    cases he
    obtain ⟨w', hw, rw'⟩ := atI_rp hr hz
    exact ix_list value slice pins s σ0 g.H _ _ v u Q I rx ry ⟨_, _, _, _, rfl, rfl, SqL.of (ok.sub _ _ ha), hw, q.val ok rw'⟩ hs
  · cases hd with
    | tup ha hr =>
    cases he
    obtain ⟨w', hw, rw'⟩ := atI_rp hr hz
    exact ix_tup value slice pins s σ0 g.H _ _ v u Q I rx ry ⟨_, _, _, _, rfl, rfl, sqT_mono ok.sub ha, hw, q.val ok rw'⟩ hs
  · split at hz
    · rename_i hl
      cases hd; cases he
      cases hc : atI _ _ with
      | none => rw [hc] at hz; cases hz
      | some c =>
        rw [hc] at hz
        cases hz
        exact ix_str value slice pins s σ0 g.H _ _ v u Q I rx ry ⟨_, _, c, rfl, rfl, line_le hl, hc, q.val ok (.str _)⟩ hs
    · cases hz
  · cases hz
end
end Pv

/-! Pv5 -/
set_option Elab.async false
set_option linter.all false
set_option maxRecDepth 100000
set_option maxHeartbeats 2000000
namespace Pv
open PySem PySem.Spec PyProof.Rows L2 HT
section
variable {prog : Program} {w : World} {A : Around} {E : Value → Shared → Prop} {s : Shared}
theorem slice_parts {sl : Addr} {vl vu vs : Value} {lo hi : Option Int} {st : Int} {n : Nat} {Q : Int × Int × Nat → Shared → Prop} (hst : st ≠ 0) (hs : s.heap.IsSliceOf sl vl vu vs) (pl : IsPart vl lo) (pu : IsPart vu hi) (ps : IsPart vs (some st))
    (h : Q ((Builtin.Slice.sliceAdjust lo hi st (n : Int)).1, st, Builtin.Slice.slicePlaces (Builtin.Slice.sliceAdjust lo hi st (n : Int)).1 (Builtin.Slice.sliceAdjust lo hi st (n : Int)).2 st) s) :
    wpAny (model prog w) A (Builtin.Slice.sliceApplied (.ref sl) (pure (n : Int))) Q E s := by
  obtain ⟨ob, e1, e2, e3⟩ := id hs
  unfold Builtin.Slice.sliceApplied Builtin.Slice.sliceFields
  refine wpAny_bind (wpAny_bind (wpAny_field e1 e3 (x := vl) rfl (wpAny_bind (wpAny_field e1 e3 (x := vu) rfl (wpAny_bind (wpAny_field e1 e3 (x := vs) rfl (wpAny_pure ?_)))))))
  refine wpAny_bind (slicePart_ ps ?_)
  show wpAny _ _ (if (st == 0) = true then _ else _) _ _ s
  rw [if_neg (by simpa using hst)]
  refine wpAny_bind (slicePart_ pl (wpAny_bind (slicePart_ pu (wpAny_bind (wpAny_pure ?_)))))
  exact wpAny_pure h
theorem tuple_step {t sl : Addr} {its : List Value} {vl vu vs : Value} {lo hi : Option Int} {st : Int} {Q : Value → Shared → Prop} (h0 : st ≠ 0) (h1 : st ≠ 1) (ht : IsTup s.heap t its.toArray) (hs : s.heap.IsSliceOf sl vl vu vs) (pl : IsPart vl lo) (pu : IsPart vu hi) (ps : IsPart vs (some st))
    (h : Q (.ref s.heap.objs.size) { s with heap := s.heap.push { cls := .type "tuple", data := .seq (stepCut its lo hi st).toArray } }) (hz : (stepCut its lo hi st).length ≤ sizeLine) : wpAny (model prog w) A (getItem (.ref t) (.ref sl)) Q E s := by
  have fits : sizeOk (.seq (stepCut its lo hi st).toArray) := by
    show (stepCut its lo hi st).toArray.size ≤ sizeLine
    rw [List.size_toArray]
    exact hz
  have tS : s.TypeIs (.ref sl) "slice" := by
    obtain ⟨ob, e1, e2, _⟩ := id hs
    exact ⟨ob, e1, e2⟩
  unfold getItem
  try with_reducible refine wpAny_holding ?_
  first | refine wpAny_bind (wpAny_pure ?_) | skip
  refine wpAny_bind (wpAny_sequenceKey ht.typeIs (by decide) (wpAny_bind ?_))
  refine wpAny_callSpecial?_slot (name := Str.ofString "__getitem__") ht.typeIs PyProof.Rows.slot_tuple_getitem (wpAny_call_entry PyProof.Rows.slot_tuple_getitem ht.typeIs entry_tuple_getitem ?_ (args_tuple_getitem _ _))
  show wpAny _ _ (Builtin.Tuple.tupleItemsOf (.ref t) >>= _) _ _ s
  refine wpAny_bind (tupleItemsOf_ ht (wpAny_bind (wpAny_typeOf tS ?_)))
  rw [if_pos (by decide)]
  refine wpAny_bind (slice_parts (n := its.toArray.size) h0 hs pl pu ps ?_)
  have no : ¬ (((Builtin.Slice.sliceAdjust lo hi st (its.toArray.size : Int)).1 == 0 && st == 1 && (Builtin.Slice.slicePlaces (Builtin.Slice.sliceAdjust lo hi st (its.toArray.size : Int)).1 (Builtin.Slice.sliceAdjust lo hi st (its.toArray.size : Int)).2 st) == its.toArray.size) = true) := by
    intro q
    rw [Bool.and_eq_true, Bool.and_eq_true] at q
    exact h1 (eq_of_beq q.1.2)
  show wpAny _ _ (if ((Builtin.Slice.sliceAdjust lo hi st (its.toArray.size : Int)).1 == 0 && st == 1 && (Builtin.Slice.slicePlaces (Builtin.Slice.sliceAdjust lo hi st (its.toArray.size : Int)).1 (Builtin.Slice.sliceAdjust lo hi st (its.toArray.size : Int)).2 st) == its.toArray.size) = true then _ else _) _ _ s
  rw [if_neg no]
  have eS : ((List.range (Builtin.Slice.slicePlaces (Builtin.Slice.sliceAdjust lo hi st (its.toArray.size : Int)).1 (Builtin.Slice.sliceAdjust lo hi st (its.toArray.size : Int)).2 st)).filterMap fun (k : Nat) => its.toArray[((Builtin.Slice.sliceAdjust lo hi st (its.toArray.size : Int)).1 + (k : Int) * st).toNat]?).toArray = (stepCut its lo hi st).toArray := by
    unfold stepCut
    rw [List.size_toArray]
    simp only [List.getElem?_toArray]
  rw [eS]
  first
    | exact wpAny_bind (m := Builtin.Tuple.tupleExact _) (wpAny_newObj_type (wpAny_pure ⟨_, rfl, wpAny_pure h⟩) fits)
    | exact wpAny_bind (m := Builtin.Tuple.tupleExact _) (wpAny_newObj_type (wpAny_bind (wpAny_pure (wpAny_pure ⟨_, rfl, wpAny_pure h⟩))) fits)
    | exact wpAny_bind (wpAny_bind (m := Builtin.Tuple.tupleExact _) (wpAny_newObj_type (wpAny_pure (wpAny_pure ⟨_, rfl, wpAny_pure h⟩)) fits))
    | exact wpAny_bind (wpAny_bind (m := Builtin.Tuple.tupleExact _) (wpAny_newObj_type (wpAny_pure ⟨_, rfl, wpAny_pure h⟩) fits))
end
theorem filterMap_vals {vs : List V} {us : List Value} (h : Vals vs us) (f : Nat → Nat) : ∀ l : List Nat, Vals (l.filterMap fun k => vs[f k]?) (l.filterMap fun k => us[f k]?)
  | [] => .nil
  | k :: l => by
    cases e : vs[f k]? with
    | none =>
      have e' := h.none_of e
      simp only [List.filterMap_cons, e, e']
      exact filterMap_vals h f l
    | some x =>
      obtain ⟨u, e', r⟩ := h.get e
      simp only [List.filterMap_cons, e, e']
      exact .cons r (filterMap_vals h f l)
theorem filterMap_rp {K : PySem.W.Frag} {F : Hp} {vs : List V} {ds : List PyData} (h : RpAll K F vs ds) (f : Nat → Nat) : ∀ l : List Nat, RpAll K F (l.filterMap fun k => vs[f k]?) (l.filterMap fun k => ds[f k]?)
  | [] => .nil
  | k :: l => by
    cases e : ds[f k]? with
    | none =>
      have e' : vs[f k]? = none := by
        rw [List.getElem?_eq_none_iff] at e ⊢
        rw [h.length]
        exact e
      simp only [List.filterMap_cons, e, e']
      exact filterMap_rp h f l
    | some x =>
      obtain ⟨u, e', r⟩ := h.get e
      simp only [List.filterMap_cons, e, e']
      exact .cons r (filterMap_rp h f l)
theorem stepCut_vals {vs : List V} {us : List Value} (h : Vals vs us) (lo hi : Option Int) (st : Int) : Vals (stepCut vs lo hi st) (stepCut us lo hi st) := by
  unfold stepCut
  rw [h.length]
  exact filterMap_vals h _ _
theorem stepCut_rp {K : PySem.W.Frag} {F : Hp} {vs : List V} {ds : List PyData} (h : RpAll K F vs ds) (lo hi : Option Int) (st : Int) : RpAll K F (stepCut vs lo hi st) (stepCut ds lo hi st) := by
  unfold stepCut
  rw [h.length]
  exact filterMap_rp h _ _
theorem cut_rp {K : PySem.W.Frag} {F : Hp} {vs : List V} {ds : List PyData} (h : RpAll K F vs ds) (lo hi : Option Int) : RpAll K F (cutV vs lo hi) (cut ds lo hi) := by
  unfold cutV cut
  rw [h.length]
  exact (h.drop _).take _
end Pv

/-! Pv6 -/
set_option Elab.async false
set_option linter.all false
set_option maxRecDepth 100000
set_option maxHeartbeats 2000000
namespace Pv
open PySem PySem.Spec PyProof.Rows L2

/-! ### a def's promise where nothing is being shown -/
structure FnG (P : Program) (w : World) (K : PySem.W.Frag) (mg : Str → Option Value) (base : Heap) (k : Nat) (f : Addr) (fd : FuncData) (ps : List Str) (sp : Sp) : Prop where
  len : ∀ vs H Q E, sp vs H Q E → vs.length = ps.length
  run : ∀ (A : Around) (outer : List PySem.Env) (s : Shared) (H : Hp) (args : Args) (us : List Value) (vs : List V) (Q : VK) (E : XK), Room k A → A.guards = some [] → Env0 P w K mg base A outer s H → BindsTo s fd args (ps.zip us) → Vals vs us → sp vs H Q E →
    codeAny (model P w) A (.call (.ref f) args) (CR (CX P w) outer P w H s Q E) s
theorem FnG.mono {P : Program} {w : World} {K : PySem.W.Frag} {mg : Str → Option Value} {base : Heap} {j k : Nat} {f : Addr} {fd : FuncData} {ps : List Str} {sp : Sp} (F : FnG P w K mg base j f fd ps sp) (h : j ≤ k) : FnG P w K mg base k f fd ps sp :=
  ⟨F.len, fun A outer s H args us vs Q E hr => F.run A outer s H args us vs Q E (hr.mono h)⟩
theorem guards_deeper (A : Around) (env : PySem.Env) : (A.deeper env).guards = A.guards := rfl

section
variable {X : Cx} {W : WX} {k : Nat} {f : Addr} {fd : FuncData} {ps : List Str} {sp : Sp} {x : Str} {p pos : Pos} {e : Expr} {es : List Expr} {t : TA}
theorem run_G {pins : List (Addr × Obj)} {σ : L2.St} {H : Hp} {s : Shared} {Q : VK} {us : List Value} {vs : List V} (F : FnG X.prog X.w X.K X.mg X.base k f fd ps sp) (hr : Room k X.A) (gu : X.A.guards = some []) (hb : Binds X.K fd ps []) (tk : Takes X W)
    (I : Inv X pins σ H s) (r : Vals vs us) (h : sp vs H Q fun cls d H' => W cls d σ H') : wpAny (model X.prog X.w) X.A (call (.ref f) us) (EP X pins σ Q) X.xe s := by
  have hl : us.length = ps.length := r.length.symm.trans (F.len _ _ _ _ h)
  have hbs := hb s us I.kIn (by rw [List.append_nil]; exact hl)
  rw [List.append_nil] at hbs
  refine wpAny_call (codeAny_mono (F.run X.A X.stack s H ⟨us, []⟩ us vs Q (fun cls d H' => W cls d σ H') hr gu I.env0 hbs r h) fun o s' ho => ?_)
  cases o with
  | error u => exact tk u s' (XE.of_call I (fun _ _ _ q => q) ho)
  | ok fl =>
    cases fl with
    | ret u => exact I.after ho
    | next => exact ho.elim
    | brk => exact ho.elim
    | cont => exact ho.elim
def tCallF (W : WX) (sp : Sp) (t : TA) : TE := fun σ H Q => t σ H fun vs H1 => sp vs H1 Q fun cls d H' => W cls d σ H'
theorem pe_callF (F : FnG X.prog X.w X.K X.mg X.base k f fd ps sp) (hr : Room k X.A) (gu : X.A.guards = some []) (hg : Gl X x) (hm : X.mg x = some (.ref f)) (hk : PySem.W.keepIn X.K (.ref f) = true) (hb : Binds X.K fd ps []) (tk : Takes X W)
    (ha : PA X (e :: es) t) (hd : (x == ("__debug__" : Str)) = false) (he : starEach (e :: es) X.env = (false, eval e X.env) :: starEach es X.env) (hp : (backTo pos (starEach es X.env)).any (·.1) = false) :
    PE X (.Call (.Name x p) (e :: es) [] pos) (tCallF W sp t) := by
  refine ⟨fun pins s σ H Q I h => wpAny_Call_Name_kw (ld_glob I hg hm ?_ hd)⟩
  refine PySem.W.callWith_K (h₀ := X.base) I.ok.mod.kin hk (thn (ha.run pos pins s σ H _ I h) fun us s1 hq => ?_) he hp
  obtain ⟨vs, H1, I1, r, q⟩ := hq
  exact ⟨I1.kIn, run_G F hr gu hb tk I1 r q⟩
theorem pe_callF0 (F : FnG X.prog X.w X.K X.mg X.base k f fd ps sp) (hr : Room k X.A) (gu : X.A.guards = some []) (hg : Gl X x) (hm : X.mg x = some (.ref f)) (hk : PySem.W.keepIn X.K (.ref f) = true) (hb : Binds X.K fd ps []) (tk : Takes X W)
    (hd : (x == ("__debug__" : Str)) = false) : PE X (.Call (.Name x p) [] [] pos) (tCallF W sp tNil) :=
  ⟨fun pins s σ H Q I h => wpAny_Call_Name_kw (ld_glob I hg hm (PySem.W.callWith_K0 I.kIn hk (run_G (us := []) F hr gu hb tk I .nil h)) hd)⟩
end

/-! ### a def of the text as a function of the evaluator -/
abbrev FnS := List R → M R
def ArgR (K : PySem.W.Frag) (g : Gs) : V → R → Prop
  | _, .own _ => False
  | v, r => RepR K g g v r
inductive ArgsR (K : PySem.W.Frag) (g : Gs) : List V → List R → Prop
  | nil : ArgsR K g [] []
  | cons {v : V} {vs : List V} {r : R} {rs : List R} : ArgR K g v r → ArgsR K g vs rs → ArgsR K g (v :: vs) (r :: rs)
theorem ArgsR.length {K : PySem.W.Frag} {g : Gs} : ∀ {vs : List V} {rs : List R}, ArgsR K g vs rs → vs.length = rs.length
  | _, _, .nil => rfl
  | _, _, .cons _ r => by rw [List.length_cons, List.length_cons, r.length]
def spOf (K : PySem.W.Frag) (mg : Str → Option Value) (n : Nat) (f : FnS) : Sp := fun vs H Q E => vs.length = n ∧ ∃ (g : Gs) (as : List R), g.H = H ∧ g.Ok ∧ ArgsR K g vs as ∧
  (f as g.V).Post (fun r S' => ∀ v g', g'.V = S' → g'.Ok → g.Le g' → RepR K g g' v r → Q v g'.H) (fun ec S' => ∀ cls d g', g'.V = S' → g'.Ok → g.Le g' → ExcRep K mg g' ec cls d → E cls d g'.H)
/-- the def f of the text does as sem says -/
def FnAt (X : Cx) (sem : FnS) (f : Str) : Prop := ∃ (a : Addr) (fd : FuncData) (ps : List Str) (k : Nat), X.mg f = some (.ref a) ∧ PySem.W.keepIn X.K (.ref a) = true ∧ Binds X.K fd ps [] ∧ Room k X.A ∧ FnG X.prog X.w X.K X.mg X.base k a fd ps (spOf X.K X.mg ps.length sem) ∧ ∀ as S, as.length ≠ ps.length → sem as S = .stuck

/-! ### from the text to the evaluator's language -/
structure CC where
  fns : List (Str × Nat)
  cons : List Str
  gcd : Bool
  own : List Nat := []
def bltNames : List Str := ["len", "list", "tuple", "abs", "int", "max", "min", "repr", "all", "any", "sum", "isinstance", "range", "enumerate", "zip", "bool", "str"]
def bltOf (x : Str) : Option Bl :=
  if x = "len" then some .len else if x = "list" then some .list else if x = "tuple" then some .tuple else if x = "abs" then some .abs else if x = "int" then some .int else
  if x = "max" then some .max else if x = "min" then some .min else if x = "repr" then some .repr else if x = "all" then some .all else if x = "any" then some .any else if x = "sum" then some .sum else none
def tyOf (x : Str) : Option String :=
  if x = "int" then some "int" else if x = "bool" then some "bool" else if x = "str" then some "str" else if x = "list" then some "list" else if x = "tuple" then some "tuple" else none
def plainName (x : Str) : Bool := !(x == ("__debug__" : Str)) && !(x == ("__classdict__" : Str)) && !(x == ("__name__" : Str))
def ixOf (N : List Str) (x : Str) : Option Nat := N.findIdx? fun y => decide (y = x)
def isVis (sc : Scope) (x : Str) : Bool :=
  match sc.names.lookup x with
  | some .local => true
  | some .cell => true
  | some .free => true
  | _ => false
def isGl (sc : Scope) (x : Str) : Bool :=
  match sc.names.lookup x with
  | some .globalImplicit => true
  | _ => false
def litOf : Const → Option PyData
  | .int i => some (.int i)
  | .bool b => some (.bool b)
  | .none => some .none
  | .str s => some (.str s)
  | _ => none
/-- a written step -/
def stepOf : Expr → Option Int
  | .Constant (.int i) _ _ => some i
  | .UnaryOp .USub (.Constant (.int i) _ _) _ => some (-i)
  | _ => none
def notSlice : Expr → Bool
  | .Slice .. => false
  | _ => true
def notSet : Expr → Bool
  | .Set .. => false
  | _ => true
/-- a test that the machine asks part by part -/
def tOk : Nat → Expr → Bool
  | 0, _ => false
  | n + 1, .UnaryOp .Not a _ => tOk n a
  | n + 1, .BoolOp _ es _ => es.all (tOk n)
  | _ + 1, .IfExp .. => false
  | _ + 1, _ => true
/-- a name whose list is one's own -/
def ownIx (cc : CC) (N : List Str) (sc : Scope) : Expr → Option Nat
  | .Name x _ => if plainName x && isVis sc x then (ixOf N x).bind fun i => if cc.own.contains i then some i else none else none
  | _ => none
def nmIx (N : List Str) : Expr → Option Nat
  | .Name x _ => ixOf N x
  | _ => none
def nmLoc (sc : Scope) : Expr → Bool
  | .Name x _ => match sc.names.lookup x with
    | some .local => true
    | some .cell => true
    | _ => false
  | _ => false
def tgOf (N : List Str) : Expr → Option Tg
  | .Name x _ => (ixOf N x).map .one
  | .Tuple es _ _ => (es.mapM (nmIx N)).map .many
  | _ => none
/-- the names that a target stores -/
def tgLoc (sc : Scope) : Expr → Bool
  | .Tuple es _ _ => es.all (nmLoc sc)
  | e => nmLoc sc e
def isTup : Expr → Bool
  | .Tuple .. => true
  | _ => false
def tgIn : Tg → List Nat → Bool
  | .one j, vs => vs.contains j
  | .many js, vs => js.all fun j => vs.contains j
/-- a comprehension's own names with their places -/
def ownOf (N : List Str) (scope : Scope) : List (Str × Nat) := scope.names.filterMap fun y => match y.2 with
  | .local => (ixOf N y.1).map fun i => (y.1, i)
  | .cell => (ixOf N y.1).map fun i => (y.1, i)
  | _ => none
def srcK (s : Str) : Option Nat := if s = "left" then some 0 else if s = "mixed" then some 1 else if s = "turn" then some 2 else none
section
variable (cc : CC) (N : List Str)
mutual
def compE : Nat → Scope → Expr → Option E
  | 0, _, _ => none
  | n + 1, sc, e => match e with
    | .Name x _ => if plainName x then (if isVis sc x then (ixOf N x).map .var else if isGl sc x then (ixOf cc.cons x).map .glob else none) else none
    | .Constant c _ _ => (litOf c).map .lit
    | .BinOp a op b _ => do return .bin op (← compE n sc a) (← compE n sc b)
    | .UnaryOp .USub a _ => do return .neg (← compE n sc a)
    | .UnaryOp .Not a _ => do return .notv (← compE n sc a)
    | .BoolOp .And [a, b] _ => do return .andv (← compE n sc a) (← compE n sc b)
    | .BoolOp .And (a :: b :: c :: r) pos => do return .andv (← compE n sc a) (← compE n sc (.BoolOp .And (b :: c :: r) pos))
    | .BoolOp .Or [a, b] _ => do return .orv (← compE n sc a) (← compE n sc b)
    | .BoolOp .Or (a :: b :: c :: r) pos => do return .orv (← compE n sc a) (← compE n sc (.BoolOp .Or (b :: c :: r) pos))
    | .Compare a [op] [b] _ => if notSet b then do return .cmp op (← compE n sc a) (← compE n sc b) else none
    | .Compare a [op, op'] [b, c] _ => if notSet c then do return .chn op op' (← compE n sc a) (← compE n sc b) (← compE n sc c) else none
    | .IfExp c a b _ => if tOk n c then do return .ite (← compE n sc c) (← compE n sc a) (← compE n sc b) else none
    | .Tuple es _ _ => do return .tup (← compEs n sc es)
    | .List (.Starred a _ :: es) _ => do return .lstS (← compE n sc a) (← compEs n sc es)
    | .List es _ => do return .lst (← compEs n sc es)
    | .Subscript a (.Slice lo hi st _) _ => do
      let st' ← match st with
        | none => some 1
        | some e => (stepOf e).bind fun i => if i = 1 then none else some i
      return .slc (← compE n sc a) (← compO n sc lo) (← compO n sc hi) st'
    | .Subscript (.Name x _) (.Constant (.str s) _ _) _ => if (plainName x && isVis sc x) = true then do return .srcI (← ixOf N x) (← srcK s) else none
    | .Dict [some (.Constant (.str k1) _ _), some (.Constant (.str k2) _ _), some (.Constant (.str k3) _ _), some (.Constant (.str k4) _ _)] [a, b, c, d] _ =>
      if (decide (k1 = "cells") && decide (k2 = "left") && decide (k3 = "mixed") && decide (k4 = "turn")) = true then do return .srcNew (← compE n sc a) (← compE n sc b) (← compE n sc c) (← compE n sc d) else none
    | .Call (.Name f _) [.Subscript (.Name x _) (.Constant (.str s) _ _) _] [] _ =>
      if (decide (f = "len") && isGl sc f && decide (s = "cells") && plainName x && isVis sc x) = true then (ixOf N x).map .srcN else none
    | .Subscript a i _ => match ownIx cc N sc a with
      | some j => do return .idxO j (← compE n sc i)
      | none => do return .idx (← compE n sc a) (← compE n sc i)
    | .Call (.Name f _) as [] _ =>
      if plainName f && isGl sc f then
        if f = "isinstance" then match as with
          | [a, .Name ty _] => if isGl sc ty then do return .isi (← compE n sc a) (← tyOf ty) else none
          | _ => none
        else match bltOf f with
        | some b => if as.isEmpty then none else do return .blt b (← compEs n sc as)
        | none => if f = "gcd" then (if cc.gcd && !as.isEmpty then do return .blt .gcd (← compEs n sc as) else none) else
          match cc.fns.lookup f with
          | some i => do return .call i (← compEs n sc as)
          | none => none
      else none
    | .ListComp elt [⟨tg, it, ifs, 0⟩] scope _ => do
      let own := ownOf N scope
      let sc' := relS scope sc
      let i ← compI n (isTup tg) sc it
      let t ← tgOf N tg
      let c ← match ifs with
        | [] => some Es.nil
        | [c] => if tOk n c then (compE n sc' c).map fun c => .cons c .nil else none
        | _ => none
      let y ← compE n sc' elt
      if blkC N sc scope own && tgLoc scope tg && tgIn t (own.map (·.2)) then some (.comp (own.map (·.2)) t i c y) else none
    | _ => none
def compO : Nat → Scope → Option Expr → Option E
  | _, _, none => some (.lit .none)
  | 0, _, some _ => none
  | n + 1, sc, some e => (compE n sc e).bind fun x => if isNl x then none else some x
def compEs : Nat → Scope → List Expr → Option Es
  | _, _, [] => some .nil
  | 0, _, _ :: _ => none
  | n + 1, sc, e :: es => do return .cons (← compE n sc e) (← compEs n sc es)
def compI : Nat → Bool → Scope → Expr → Option I
  | 0, _, _, _ => none
  | n + 1, tup, sc, e => match e with
    | .Call (.Name f p) as [] pos =>
      if plainName f && isGl sc f && f = "range" then match as with
          | [_] => do return .rng (← compEs n sc as)
          | [_, _] => do return .rng (← compEs n sc as)
          | [_, _, _] => do return .rng (← compEs n sc as)
          | _ => none
      else if plainName f && isGl sc f && f = "enumerate" then match as with
          | [a] => if tup then do return .enum (← compE n sc a) else none
          | _ => none
      else if plainName f && isGl sc f && f = "zip" then match as with
          | [a, b] => if tup then do return .zip (← compE n sc a) (← compE n sc b) else none
          | _ => none
      else do return .it (← compE n sc (.Call (.Name f p) as [] pos))
    | .Call (.Name f _) [a, b] [⟨some k, .Constant (.bool true) _ _, _⟩] _ =>
      if (plainName f && isGl sc f && decide (f = "zip") && decide (k = "strict") && tup) = true then do return .zipS (← compE n sc a) (← compE n sc b) else none
    | e => if notSet e then do return .it (← compE n sc e) else none
end
end
end Pv

/-! Pv7a -/
set_option Elab.async false
set_option linter.all false
set_option maxRecDepth 100000
set_option maxHeartbeats 4000000
namespace Pv
open PySem PySem.Spec PyProof.Rows L2
open AutoSeq1 (wpAny_loadPart')
/-! ### enumerate over a tuple -/
theorem enum_new_tup (l : Addr) (items : Array Value) (n : Nat) (dct : Option Addr) (sl : Array (Option Value)) :
    Meets (Builtin.«enumerate.__new__» ⟨[.type "enumerate", .ref l], []⟩) (fun _ Rr s => s.heap.get? l = some { cls := .type "tuple", dict := dct, data := .seq items n, slots := sl } ∧
      Rr (.ok (.ret (.ref (s.heap.push { cls := .type "tuple_iterator", data := .fields #[.ref l, .int 0 0] }).objs.size)))
        { s with heap := (s.heap.push { cls := .type "tuple_iterator", data := .fields #[.ref l, .int 0 0] }).push { cls := .type "enumerate", data := .fields #[.none, .bool false, .ref s.heap.objs.size, rawInt 0, .none, .none] } }) :=
  .of_wp fun prog w A Rr s hyp => by
    obtain ⟨hp, gn, dr, tk, os⟩ := s
    obtain ⟨hl, hyp⟩ := hyp
    have sube := sub_enumerate
    have tupl : Heap.IsTuple (Shared.heap ⟨hp, gn, dr, tk, os⟩) l items := ⟨_, hl, rfl, n, rfl⟩
    wp_walk using wpAny_loadPart' hl
    refine wpAny_stack_any fun st => wpAny_pure ?_
    split
    · rename_i c _ _ _ _ _
      cases (c == Value.type "enumerate") <;> (wp_walk using wpAny_loadPart' hl, wpAny_pyIter_tuple tupl; exact ⟨_, rfl, hyp⟩)
    · wp_walk using wpAny_loadPart' hl, wpAny_pyIter_tuple tupl
      exact ⟨_, rfl, hyp⟩
theorem call_enum_tup {prog : Program} {w : World} {A : Around} {E : Value → Shared → Prop} {s : Shared} {l : Addr} {items : Array Value} {Q : Value → Shared → Prop} (ht : IsTup s.heap l items)
    (h : ∀ h', IsEnum h' (s.heap.objs.size + 1) s.heap.objs.size 0 .none → h'.IsTupleIter s.heap.objs.size l 0 → (∀ b o, s.heap.get? b = some o → h'.get? b = some o) → Q (.ref (s.heap.objs.size + 1)) { s with heap := h' }) :
    wpAny (model prog w) A (call (.type "enumerate") [.ref l]) Q E s := by
  obtain ⟨⟨c, dct, dt, sl⟩, hl, hc, n, hd⟩ := ht
  replace hc : c = .type "tuple" := hc
  replace hd : dt = .seq items n := hd
  subst hc hd
  refine callType_new F.called_enumerate (by decide) (F.typeCall_enumerate_1 _) (F.newCall_enumerate_1 _) (fun obj => F.args_object_init_2 obj _) F.entry_enumerate_new (enum_new_tup l items n dct sl) ⟨hl, ?_⟩
  have size1 : (s.heap.push { cls := .type "tuple_iterator", data := .fields #[.ref l, .int 0 0] }).objs.size = s.heap.objs.size + 1 := Heap.size_push ..
  show _ ∧ _
  rw [size1]
  have isE := Heap.get?_push_size (s.heap.push { cls := .type "tuple_iterator", data := .fields #[.ref l, .int 0 0] }) (o := { cls := .type "enumerate", data := .fields #[.none, .bool false, .ref s.heap.objs.size, rawInt 0, .none, .none] }) rfl
  rw [size1] at isE
  exact ⟨⟨_, isE, rfl⟩, h _ isE ⟨_, Heap.get?_push_of_some _ (Heap.get?_push_size _ rfl), rfl, rfl⟩ fun b o x => Heap.get?_push_of_some _ (Heap.get?_push_of_some _ x)⟩
/-- the tuple at a, each item with its number in a new pair -/
def ItTe (K : PySem.W.Frag) (a : Addr) : It :=
  ⟨fun i H => ∃ (xs : List V) (x : V), SqT K H a xs ∧ xs[i]? = some x, fun i H v H' => ∃ T x, v = .ref T ∧ H T = none ∧ H' = upd H T (.tup [.int (i : Nat), x]) ∧ ∀ xs, SqT K H a xs → xs[i]? = some x, fun i H => ∃ xs : List V, SqT K H a xs ∧ xs.length = i⟩
theorem tup_ne_iter {h : Heap} {a it : Addr} {i : Nat} {items : Array Value} (t : IsTup h a items) (x : h.IsTupleIter it a i) : a ≠ it := fun e => by
  subst e
  obtain ⟨o, e1, c1, _⟩ := t
  obtain ⟨o', e2, c2, _⟩ := x
  rw [e1] at e2
  cases e2
  rw [c1] at c2
  exact absurd c2 (by decide)
theorem turn_enumT {P : Program} {w : World} {K : PySem.W.Frag} {elts : List Expr} {kk : Nat} {tpos : Pos} (a e it : Addr) :
    Turn P w K (.Tuple elts kk tpos) (ItTe K a) [e, it] e (fun i h => (∃ old, IsEnum h e it ((i : Nat) : Int) old) ∧ h.IsTupleIter it a i ∧ e ≠ it) where
  mem := by simp
  obj := fun i h st b hb => by
    obtain ⟨⟨old, he⟩, ⟨o, ho, hc, hd⟩, _⟩ := st
    rcases List.mem_cons.mp hb with z | z
    · rw [z]
      exact ⟨_, he, fun v q => nomatch q⟩
    · have z' : b = it := by simpa using z
      rw [z']
      exact ⟨o, ho, fun v q => by rw [hd] at q; cases q⟩
  keep := fun i h h' st k => ⟨st.1.elim fun old he => ⟨old, k e (by simp) _ he⟩, st.2.1.at fun o q => k it (by simp) o q, st.2.2⟩
  item := by
    intro X hP hw hK hc i pins s σ H E I hf st hg
    subst hP hw hK
    obtain ⟨⟨old, he⟩, hit, hne⟩ := st
    obtain ⟨xs, x, hq, hx⟩ := hg
    obtain ⟨its, rv, tp, hz⟩ := I.tuple hq
    obtain ⟨u, hu, ru⟩ := rv.get hx
    have le : e < s.heap.objs.size := Heap.lt_size he
    have li : it < s.heap.objs.size := by obtain ⟨_, q, _⟩ := hit; exact Heap.lt_size q
    have tp' : s.heap.IsTuple a its.toArray := tp
    have lt : i < its.toArray.size := by
      rw [List.size_toArray, ← rv.length]
      exact (List.getElem?_eq_some_iff.mp hx).1
    have hh : X.A.in1.handled = none := I.ok.hd hc
    have efp : e ∉ [it, a] := fun q => by
      rcases List.mem_cons.mp q with q | q
      · exact hne q
      · have q' : e = a := by simpa using q
        obtain ⟨o, e1, c1, _⟩ := id tp
        rw [← q', he] at e1
        cases e1
        have c2 : Value.type "enumerate" = Value.type "tuple" := c1
        exact absurd c2 (by decide)
    refine wpAny_pyNext_enum_itemD (Draws.tuple hh it a (tup_ne_iter tp hit) its.toArray) he ⟨hit, tp'⟩ lt hne efp fun y h' tk hy ho hst hT hsz hk => ?_
    have ey : y = u := by
      have h2 : its.toArray[i]? = some u := by simpa using hu
      exact Option.some.inj (hy.symm.trans h2)
    subst ey
    refine ⟨_, rfl, wpAny_letOwnedTupleGo_enum (s := { s with heap := h', toks := tk + 1 }) ho fun h'' he' sb => ?_⟩
    have hT2 : h''.get? s.heap.objs.size = some { cls := .type "tuple", data := .seq #[.int i tk, y] } := (sb.2 _ (Nat.ne_of_gt le)).trans hT
    have new : ObjOk X.prog X.w (upd H s.heap.objs.size (.tup [.int (i : Nat), x])) h'' s.heap.objs.size (.tup [.int (i : Nat), x]) :=
      ⟨by show 2 ≤ sizeLine; decide, [.int i tk, y], .cons ⟨_, rfl⟩ (.cons ru .nil), ⟨_, hT2, rfl, _, rfl⟩⟩
    have I1 : Inv X pins σ (upd H s.heap.objs.size (.tup [.int (i : Nat), x])) { s with heap := h'', toks := tk + 1 } :=
      I.turnedNew (ch := [e, it]) (fun b ob hb q => (sb.2 b (fun z => hb (by simp [z]))).trans (hk b ob (fun z => hb (by simp [z])) (fun z => hb (by simp [z])) q)) hf (Nat.le_refl _) new
    refine ⟨.ref s.heap.objs.size, _, I1, rfl, ⟨_, x, rfl, I.hok.fresh (Nat.le_refl _), rfl, fun ys hy => by rw [I.tuple_inj hy hq]; exact hx⟩, ⟨⟨y, ?_⟩, hst.1.at fun o q => (sb.2 it (Ne.symm hne)).trans q, hne⟩, fun b hb => ?_⟩
    · have e1 : ((i + 1 : Nat) : Int) = (i : Int) + 1 := by omega
      rw [e1]
      exact he'
    · have lb : b < s.heap.objs.size := by
        rcases List.mem_cons.mp hb with z | z
        · rw [z]; exact le
        · have z' : b = it := by simpa using z
          rw [z']; exact li
      rw [upd_ne (Nat.ne_of_lt lb)]
      exact (hf b hb).1
  done := by
    intro X hP hw hK hc i pins s σ H E I hf st hg
    subst hP hw hK
    obtain ⟨⟨old, he⟩, hit, hne⟩ := st
    obtain ⟨xs, hq, hx⟩ := hg
    obtain ⟨its, rv, tp, hz⟩ := I.tuple hq
    have tp' : s.heap.IsTuple a its.toArray := tp
    obtain ⟨f0, f1, f2, f3, f4, f5⟩ := hf it (by simp)
    have hh : X.A.in1.handled = none := I.ok.hd hc
    have en : i = its.toArray.size := by
      rw [List.size_toArray, ← rv.length]
      exact hx.symm
    rw [en] at hit
    exact wpAny_pyNext_enum_endD (Draws.tuple hh it a (tup_ne_iter tp hit) its.toArray) he ⟨hit, tp'⟩ fun h' eb => ⟨rfl, I.turned (t' := s.toks) (fun b o hb q => eb b o hb q) f0 f1 f3 f4 f5⟩
  self := fun A i s Q E st h => let ⟨⟨_, he⟩, _⟩ := st; wpAny_pyIter_enum he h
def iEnumT (K : PySem.W.Frag) (ta : TA) : TI := fun σ H Rr => ta σ H fun vs H1 => ∃ a xs, vs = [.ref a] ∧ SqT K H1 a xs ∧ Rr (ItTe K a) H1
theorem pi_enumT {X : Cx} {e : Expr} {ta : TA} {p pos tpos : Pos} {elts : List Expr} {kk : Nat} (hg : Gl X "enumerate") (hm : X.mg "enumerate" = none) (ha : PA X [e] ta) (hs : starEach [e] X.env = [(false, eval e X.env)]) :
    PI X (.Tuple elts kk tpos) (.Call (.Name "enumerate" p) [e] [] pos) (iEnumT X.K ta) := by
  refine ⟨fun pins s σ H Rr I h => ?_⟩
  refine Call_ (ld_blt I hg hm boot_enumerate (PyProof.Rows.callWith_type1 (thn (ha.run pos pins s σ H _ I h) fun us s1 hq => ?_) hs rfl))
  obtain ⟨vs, H1, I1, r1, a, xs, rfl, sq, q⟩ := hq
  obtain ⟨u, rfl, ru⟩ := Vals.one r1
  cases ru
  obtain ⟨its, rv, tp, hz⟩ := I1.tuple sq
  refine call_enum_tup tp fun h' he hit hk => wpAny_pyIter_enum he ?_
  have I2 : Inv X pins σ H1 { s1 with heap := h' } := I1.kept (t' := s1.toks) hk
  refine ⟨s1.heap.objs.size + 1, [s1.heap.objs.size + 1, s1.heap.objs.size], _, _, H1, rfl, I2, turn_enumT a (s1.heap.objs.size + 1) s1.heap.objs.size, ⟨⟨.none, he⟩, hit, Nat.succ_ne_self _⟩, fun b hb => ?_, q⟩
  have hle : s1.heap.objs.size ≤ b := by
    rcases List.mem_cons.mp hb with z | z
    · rw [z]; exact Nat.le_add_right _ _
    · have z' : b = s1.heap.objs.size := by simpa using z
      rw [z']; exact Nat.le_refl _
  exact I1.fpOk hle (I1.hok.fresh hle)
end Pv

/-! Pv7 -/
set_option Elab.async false
set_option linter.all false
set_option maxRecDepth 100000
set_option maxHeartbeats 4000000
namespace Pv
open PySem PySem.Spec PyProof.Rows L2
structure MOk (cc : CC) (Γ : Ctx) (X : Cx) : Prop where
  ok : COk X
  nd : X.N.Nodup
  fn : ∀ f i, cc.fns.lookup f = some i → FnAt X (Γ.fn i) f
  con : ∀ (i : Nat) x d, cc.cons[i]? = some x → Γ.con i = some d → ∃ u v, X.mg x = some u ∧ RelV v u ∧ ∀ F : Hp, Rp X.K F v d
  free : ∀ x ∈ bltNames, X.mg x = none
  gcd : cc.gcd = true → X.mg "gcd" = some (.builtin "math.gcd")
section
variable (X : Cx) (W : WX)
def tAs (m : Env → M (List PyData)) : TA := fun σ H Q => ∃ g ρ, g.H = H ∧ g.Ok ∧ EnvR X.K g σ ρ ∧ (m ρ g.V).Post (fun ds S => ∀ vs g', g'.V = S → g'.Ok → g.Le g' → RpAll X.K g'.F vs ds → Q vs g'.H) (XFin X W g σ)
def tAr (m : Env → M (List R)) : TA := fun σ H Q => ∃ g ρ, g.H = H ∧ g.Ok ∧ EnvR X.K g σ ρ ∧ (m ρ g.V).Post (fun rs S => ∀ vs g', g'.V = S → g'.Ok → g.Le g' → ArgsR X.K g' vs rs → Q vs g'.H) (XFin X W g σ)
end
theorem ArgR.mono {K : PySem.W.Frag} {g g' : Gs} (l : g.Le g') {v : V} {r : R} (h : ArgR K g v r) : ArgR K g' v r := by
  cases r with
  | own ds => exact h
  | val d => exact RepR.mono (b0 := g) l (show RepR K g g v (.val d) from h)
  | src => exact RepR.mono (b0 := g) l (show RepR K g g v .src from h)
  | scr ns => exact RepR.mono (b0 := g) l (show RepR K g g v (.scr ns) from h)
theorem ArgR.of {K : PySem.W.Frag} {b0 g : Gs} {v : V} {r : R} (h : RepR K b0 g v r.arg) : ArgR K g v r.arg := by
  cases r <;> exact h
section
variable {X : Cx} {W : WX} {Γ : Ctx} {pos p2 : Pos} {a b c e : Expr}
/-! ### names, constants -/
theorem getV_some {ρ : Env} {i : Nat} {r : R} (h : getV ρ i = some r) : ρ[i]? = some (some r) ∧ ∀ ds, r ≠ .own ds := by
  unfold getV at h
  cases q : ρ[i]? with
  | none => rw [q] at h; cases h
  | some o =>
    rw [q] at h
    cases o with
    | none => cases h
    | some z =>
      cases z with
      | own ds => cases h
      | val d => cases h; exact ⟨rfl, fun _ e => by cases e⟩
      | src => cases h; exact ⟨rfl, fun _ e => by cases e⟩
      | scr ns => cases h; exact ⟨rfl, fun _ e => by cases e⟩
theorem xe_var {i : Nat} {x : Str} (hN : X.N[i]? = some x) (hv : Vis X.env.scope x) (h1 : (x == ("__debug__" : Str)) = false) (h2 : (x == ("__classdict__" : Str)) = false) : PE X (.Name x pos) (tM X W (evE Γ (.var i))) := by
  refine PE.imp (pe_var hN hv h1 h2) fun σ H Q hw => ?_
  obtain ⟨g, ρ, rfl, ok, er, hp⟩ := hw
  have hp : ((M.of (getV ρ i)) g.V).Post (RFin X g Q) (XFin X W g σ) := by simpa only [evE] using hp
  obtain ⟨r, e1, q⟩ := of_post hp
  obtain ⟨e2, no⟩ := getV_some e1
  rcases er.2 i r e2 with ⟨ds, _, rfl, _⟩ | ⟨v, q1, _, q2⟩
  · exact (no ds rfl).elim
  · refine ⟨v, q1, q v g rfl ok (Gs.Le.refl g) ?_⟩
    cases r with
    | own ds => exact (no ds rfl).elim
    | val d => exact q2
    | src => exact q2
    | scr ns => exact q2
theorem xe_glob {i : Nat} {x : Str} (hg : Gl X x) (hd : (x == ("__debug__" : Str)) = false) (hc : ∀ d, Γ.con i = some d → ∃ u v, X.mg x = some u ∧ RelV v u ∧ ∀ F : Hp, Rp X.K F v d) : PE X (.Name x pos) (tM X W (evE Γ (.glob i))) := by
  cases hq : Γ.con i with
  | none =>
    refine ⟨fun pins s σ H Q I hw => ?_⟩
    obtain ⟨g, ρ, rfl, ok, er, hp⟩ := hw
    simp only [evE, hq] at hp
    exact hp.elim
  | some d =>
    obtain ⟨u, v, e1, r, rp⟩ := hc d hq
    refine PE.imp (pe_glob hg e1 r hd) fun σ H Q hw => ?_
    obtain ⟨g, ρ, rfl, ok, er, hp⟩ := hw
    simp only [evE, hq] at hp
    have hp : RFin X g Q (.val d) g.V := hp
    exact hp.val ok (rp g.F)
theorem xe_lit {k : Const} {j : Nat} {d : PyData} (h : litOf k = some d) : PE X (.Constant k j pos) (tM X W (evE Γ (.lit d))) := by
  have fin : ∀ (v : V), (∀ F : Hp, Rp X.K F v d) → PE X (.Constant k j pos) (tC v) → PE X (.Constant k j pos) (tM X W (evE Γ (.lit d))) := fun v r hpe => by
    refine PE.imp hpe fun σ H Q hw => ?_
    obtain ⟨g, ρ, rfl, ok, er, hp⟩ := hw
    simp only [evE] at hp
    have hp : RFin X g Q (.val d) g.V := hp
    exact hp.val ok (r g.F)
  cases k <;> simp only [litOf, Option.some.injEq] at h <;> try cases h
  · exact fin .non (fun _ => .non) pe_non
  · exact fin (.bl _) (fun _ => .bl _) pe_bl
  · exact fin (.int _) (fun _ => .int _) pe_int
  · exact fin (.str _) (fun _ => .str _) pe_str
/-! ### operators -/
theorem xe_bin {op : Operator} {x y : E} (ha : PE X a (tM X W (evE Γ x))) (hb : PE X b (tM X W (evE Γ y))) : PE X (.BinOp a op b pos) (tM X W (evE Γ (.bin op x y))) := by
  refine PE.imp (pe_op (op_bin (W := W) op) (pe_D ha) (pe_D hb)) fun σ H Q hw => ?_
  refine seq2 (f := fun d e => M.of (binop op d e)) (fun g σ Q v w' d e ok r1 r2 q => ⟨g, σ, d, e, rfl, ok, r1, r2, q⟩) σ H Q ?_
  simpa only [evE] using hw
theorem xe_neg {x : E} (ha : PE X a (tM X W (evE Γ x))) : PE X (.UnaryOp .USub a pos) (tM X W (evE Γ (.neg x))) := by
  refine PE.imp (pe_un un_neg (pe_D ha)) fun σ H Q hw => ?_
  refine seq1 (ta := id) (f := fun d => M.of (negD d)) (r := rU fun i => .int (-i)) (fun g σ Q v d ok r1 q => ?_) σ H Q ?_
  · cases r1 <;> try exact q.elim
    rename_i i
    have q : RFin X g Q (.val (.int (-i))) g.V := q
    exact ⟨i, rfl, q.val ok (.int _)⟩
  · simpa only [evE] using hw
theorem asB_post {m : M R} {S : SS} {P : Bool → SS → Prop} {Ex : Exc → SS → Prop} (h : ((asB m) S).Post P Ex) : ((asD m) S).Post (fun d S' => ∃ b, isB d = some b ∧ P b S') Ex :=
  (bind_post h).mono (fun d S' q => of_post q) fun _ _ q => q
theorem isB_rp {K : PySem.W.Frag} {F : Hp} {v : V} {d : PyData} {b : Bool} (r : Rp K F v d) (h : isB d = some b) : v = .bl b := by
  cases r <;> simp only [isB, Option.some.injEq] at h <;> try cases h
  rfl
theorem xe_not {x : E} (ha : PE X a (tM X W (evE Γ x))) : PE X (.UnaryOp .Not a pos) (tM X W (evE Γ (.notv x))) := by
  refine PE.imp (pe_not (pe_D ha)) fun σ H Q hw => ?_
  obtain ⟨g, ρ, rfl, ok, er, hp⟩ := hw
  simp only [evE] at hp
  refine ⟨g, ρ, rfl, ok, er, (asB_post (bind_post hp)).mono (fun d S' q => ?_) fun _ _ q => q⟩
  rintro v g1 rfl ok1 le1 r1
  obtain ⟨b, e1, q⟩ := q
  have ev := isB_rp r1 e1
  subst ev
  exact ⟨b, rfl, (RFin.mono le1 q).val ok1 (.bl _)⟩
theorem xe_and {op : BoolOp} {x y : E} {r : List Expr} (hop : op = .And) (ha : PE X a (tM X W (evE Γ x))) (hb : PE X (.BoolOp op (b :: r) pos) (tM X W (evE Γ y))) : PE X (.BoolOp op (a :: b :: r) pos) (tM X W (evE Γ (.andv x y))) := by
  subst hop
  refine PE.imp (pe_and (pe_D ha) hb) fun σ H Q hw => ?_
  obtain ⟨g, ρ, rfl, ok, er, hp⟩ := hw
  simp only [evE] at hp
  refine ⟨g, ρ, rfl, ok, er, (asB_post (bind_post hp)).mono (fun d S' q => ?_) fun _ _ q => q⟩
  rintro v g1 rfl ok1 le1 r1
  obtain ⟨c, e1, q⟩ := q
  have ev := isB_rp r1 e1
  subst ev
  refine ⟨c, rfl, ?_⟩
  cases c with
  | true =>
    rw [if_pos rfl] at q ⊢
    exact ⟨g1, ρ, rfl, ok1, er.mono le1, RPost.mono le1 q⟩
  | false =>
    rw [if_neg Bool.false_ne_true] at q ⊢
    exact (RFin.mono le1 q).val ok1 (.bl _)
theorem xe_or {op : BoolOp} {x y : E} {r : List Expr} (hop : op = .Or) (ha : PE X a (tM X W (evE Γ x))) (hb : PE X (.BoolOp op (b :: r) pos) (tM X W (evE Γ y))) : PE X (.BoolOp op (a :: b :: r) pos) (tM X W (evE Γ (.orv x y))) := by
  subst hop
  refine PE.imp (pe_or (pe_D ha) hb) fun σ H Q hw => ?_
  obtain ⟨g, ρ, rfl, ok, er, hp⟩ := hw
  simp only [evE] at hp
  refine ⟨g, ρ, rfl, ok, er, (asB_post (bind_post hp)).mono (fun d S' q => ?_) fun _ _ q => q⟩
  rintro v g1 rfl ok1 le1 r1
  obtain ⟨c, e1, q⟩ := q
  have ev := isB_rp r1 e1
  subst ev
  refine ⟨c, rfl, ?_⟩
  cases c with
  | true =>
    rw [if_pos rfl] at q ⊢
    exact (RFin.mono le1 q).val ok1 (.bl _)
  | false =>
    rw [if_neg Bool.false_ne_true] at q ⊢
    exact ⟨g1, ρ, rfl, ok1, er.mono le1, RPost.mono le1 q⟩
theorem seq2c {x y : E} {op : CmpOp} : ∀ σ H Q, tM X W (evE Γ (.cmp op x y)) σ H Q → tOp (rCmp X W op) (tD X W fun ρ => asD (evE Γ x ρ)) (tD X W fun ρ => asD (evE Γ y ρ)) σ H Q := by
  intro σ H Q hw
  refine seq2 (f := fun d e => M.of (cmpop op d e) >>= fun c => pure (.val (.bool c))) (fun g σ Q v w' d e ok r1 r2 q => ?_) σ H Q ?_
  · obtain ⟨c, ec, q⟩ := of_post (bind_post q)
    have q : RFin X g Q (.val (.bool c)) g.V := q
    exact ⟨g, d, e, c, rfl, ok, r1, r2, ec, q.val ok (.bl _)⟩
  · simpa only [evE] using hw
theorem xe_cmp (co : COk X) {op : CmpOp} {x y : E} (hm : behindInMarks op b = false) (ha : PE X a (tM X W (evE Γ x))) (hb : PE X b (tM X W (evE Γ y))) : PE X (.Compare a [op] [b] pos) (tM X W (evE Γ (.cmp op x y))) :=
  PE.imp (pe_cmpR (op_cmp (W := W) (by have := co.un; omega) op) (pe_D ha) (pe_D hb) hm) seq2c
theorem xe_chn (co : COk X) {op op' : CmpOp} {x y z : E} (hm : lastMarks [op, op'] [b, c] = false) (ha : PE X a (tM X W (evE Γ x))) (hb : PE X b (tM X W (evE Γ y))) (hc : PE X c (tM X W (evE Γ z))) : PE X (.Compare a [op, op'] [b, c] pos) (tM X W (evE Γ (.chn op op' x y z))) := by
  refine PE.imp (pe_chain (op_cmp (W := W) (by have := co.un; omega) op) (op_cmp (W := W) (by have := co.un; omega) op') (pe_D ha) (pe_D hb) (pe_D hc) hm) fun σ H Q hw => ?_
  obtain ⟨g, ρ, rfl, ok, er, hp⟩ := hw
  simp only [evE] at hp
  refine ⟨g, ρ, rfl, ok, er, (bind_post hp).mono (fun d S' q => ?_) fun _ _ q => q⟩
  rintro v g1 rfl ok1 le1 r1
  refine ⟨g1, ρ, rfl, ok1, er.mono le1, (bind_post q).mono (fun e S' q => ?_) fun _ _ q => q.mono le1⟩
  rintro u g2 rfl ok2 le2 r2
  obtain ⟨k, ek, q⟩ := of_post (bind_post q)
  refine ⟨g2, d, e, k, rfl, ok2, r1.mono le2.fro, r2, ek, k, rfl, ?_⟩
  have le := le1.trans le2
  cases k with
  | true =>
    rw [if_pos rfl] at q ⊢
    refine ⟨g2, ρ, rfl, ok2, er.mono le, (bind_post q).mono (fun f S' q => ?_) fun _ _ q => q.mono le⟩
    rintro w' g3 rfl ok3 le3 r3
    obtain ⟨k', ek', q⟩ := of_post (bind_post q)
    have q : RFin X g Q (.val (.bool k')) g3.V := q
    exact ⟨g3, e, f, k', rfl, ok3, r2.mono le3.fro, r3, ek', (RFin.mono (le.trans le3) q).val ok3 (.bl _)⟩
  | false =>
    rw [if_neg Bool.false_ne_true] at q ⊢
    have q : RFin X g Q (.val (.bool false)) g2.V := q
    exact (RFin.mono le q).val ok2 (.bl _)
theorem xe_ite {x y z : E} (hc : PT X c (tBt X W fun ρ => asB (evE Γ x ρ))) (ha : PE X a (tM X W (evE Γ y))) (hb : PE X b (tM X W (evE Γ z))) : PE X (.IfExp c a b pos) (tM X W (evE Γ (.ite x y z))) := by
  refine PE.imp (pe_ifExp hc ha hb) fun σ H Q hw => ?_
  obtain ⟨g, ρ, rfl, ok, er, hp⟩ := hw
  simp only [evE] at hp
  refine ⟨g, ρ, rfl, ok, er, (bind_post hp).mono (fun k S' q => ?_) fun _ _ q => q⟩
  rintro g1 rfl ok1 le1
  cases k with
  | true =>
    rw [if_pos rfl] at q ⊢
    exact ⟨g1, ρ, rfl, ok1, er.mono le1, RPost.mono le1 q⟩
  | false =>
    rw [if_neg Bool.false_ne_true] at q ⊢
    exact ⟨g1, ρ, rfl, ok1, er.mono le1, RPost.mono le1 q⟩
/-! ### tests -/
theorem xt_val {x : E} (h : PE X e (tM X W (evE Γ x))) (he : ∀ whole, isTrue e X.env whole = (do let v ← whole; standAt e.pos; holding [v] (truthy v))) : PT X e (tBt X W fun ρ => asB (evE Γ x ρ)) := by
  refine PT.imp (pt_val (pe_D h) he) fun σ H Q hw => ?_
  obtain ⟨g, ρ, rfl, ok, er, hp⟩ := hw
  refine ⟨g, ρ, rfl, ok, er, (asB_post hp).mono (fun d S' q => ?_) fun _ _ q => q⟩
  rintro v g1 rfl ok1 le1 r1
  obtain ⟨b, e1, q⟩ := q
  have ev := isB_rp r1 e1
  subst ev
  exact ⟨b, rfl, q g1 rfl ok1 le1⟩
theorem tB_of {x : E} {t : TE} (hi : ∀ σ H Q, tM X W (evE Γ x) σ H Q → t σ H Q) : ∀ σ H Q, tBt X W (fun ρ => asB (evE Γ x ρ)) σ H Q → tTest t σ H Q := by
  intro σ H Q hw
  obtain ⟨g, ρ, rfl, ok, er, hp⟩ := hw
  refine hi σ g.H _ ⟨g, ρ, rfl, ok, er, (bind_post (asB_post hp)).mono (fun r S' q => ?_) fun _ _ q => q⟩
  rintro v g1 rfl ok1 le1 r1
  obtain ⟨d, ed, b, eb, q⟩ := of_post q
  obtain ⟨g2, e1, e2, ok2, le2, _, r2⟩ := RepR.hold ok1 le1 r1 ed
  have ev := isB_rp r2 eb
  subst ev
  rw [← e2]
  exact ⟨b, rfl, q g2 e1 ok2 le2⟩
theorem xt_cmp (co : COk X) {op : CmpOp} {x y : E} (hm : behindInMarks op b = false) (ha : PE X a (tM X W (evE Γ x))) (hb : PE X b (tM X W (evE Γ y))) : PT X (.Compare a [op] [b] pos) (tBt X W fun ρ => asB (evE Γ (.cmp op x y) ρ)) :=
  PT.imp (pt_cmpR (op_cmp (W := W) (by have := co.un; omega) op) (pe_D ha) (pe_D hb) hm) (tB_of seq2c)
theorem xt_not {x : E} (ha : PT X a (tBt X W fun ρ => asB (evE Γ x ρ))) : PT X (.UnaryOp .Not a pos) (tBt X W fun ρ => asB (evE Γ (.notv x) ρ)) := by
  refine PT.imp (pt_not ha) fun σ H Q hw => ?_
  obtain ⟨g, ρ, rfl, ok, er, hp⟩ := hw
  refine ⟨g, ρ, rfl, ok, er, ?_⟩
  have hp := bind_post (asB_post hp)
  simp only [evE] at hp
  refine (bind_post hp).mono (fun b S' q => ?_) fun _ _ q => q
  rintro g1 rfl ok1 le1
  have q : ((M.of (R.val (.bool (!b))).d) g1.V).Post (fun d S' => ∃ b, isB d = some b ∧ ∀ (g' : Gs), g'.V = S' → g'.Ok → g.Le g' → Q b g'.H) (XFin X W g σ) := q
  obtain ⟨d, ed, c, ec, q⟩ := of_post q
  cases ed
  cases ec
  exact q g1 rfl ok1 le1
end
end Pv

/-! Pv8 -/
set_option Elab.async false
set_option linter.all false
set_option maxRecDepth 100000
set_option maxHeartbeats 4000000
namespace Pv
open PySem PySem.Spec PyProof.Rows L2
section
variable {X : Cx} {W : WX} {Γ : Ctx} {pos p2 : Pos} {a b c e : Expr}
theorem asB_bind {α : Type} {m : M α} {f : α → M R} {S : SS} {P : Bool → SS → Prop} {Ex : Exc → SS → Prop} (h : ((asB (m >>= f)) S).Post P Ex) : (m S).Post (fun x S1 => ((asB (f x)) S1).Post P Ex) Ex := by
  have h1 := bind_post (bind_post h)
  have h2 := bind_post h1
  refine h2.mono (fun x S1 q => ?_) fun _ _ q => q
  exact Out.post_bind.mpr (Out.post_bind.mpr q)
theorem asB_val {k : Bool} {S : SS} {P : Bool → SS → Prop} {Ex : Exc → SS → Prop} (h : ((asB (pure (.val (.bool k)) : M R)) S).Post P Ex) : P k S := h
theorem xw_and1 {x y : E} (ha : PT X a (tBt X W fun ρ => asB (evE Γ x ρ))) {t : TT} {r : List Expr} (hb : PW X (.BoolOp .And (b :: r) pos) (tBt X W fun ρ => asB (evE Γ y ρ))) : PW X (.BoolOp .And (a :: b :: r) pos) (tBt X W fun ρ => asB (evE Γ (.andv x y) ρ)) := by
  refine PW.imp (pw_and ha hb) fun σ H Q hw => ?_
  obtain ⟨g, ρ, rfl, ok, er, hp⟩ := hw
  simp only [evE] at hp
  refine ⟨g, ρ, rfl, ok, er, (asB_bind hp).mono (fun c S' q => ?_) fun _ _ q => q⟩
  rintro g1 rfl ok1 le1
  cases c with
  | true =>
    rw [if_pos rfl] at q ⊢
    exact ⟨g1, ρ, rfl, ok1, er.mono le1, q.mono (fun b S h g' hs ok' le' => h g' hs ok' (le1.trans le')) fun _ _ h => h.mono le1⟩
  | false =>
    rw [if_neg Bool.false_ne_true] at q ⊢
    exact asB_val q g1 rfl ok1 le1
theorem xw_or1 {x y : E} (ha : PT X a (tBt X W fun ρ => asB (evE Γ x ρ))) {r : List Expr} (hb : PW X (.BoolOp .Or (b :: r) pos) (tBt X W fun ρ => asB (evE Γ y ρ))) : PW X (.BoolOp .Or (a :: b :: r) pos) (tBt X W fun ρ => asB (evE Γ (.orv x y) ρ)) := by
  refine PW.imp (pw_or ha hb) fun σ H Q hw => ?_
  obtain ⟨g, ρ, rfl, ok, er, hp⟩ := hw
  simp only [evE] at hp
  refine ⟨g, ρ, rfl, ok, er, (asB_bind hp).mono (fun c S' q => ?_) fun _ _ q => q⟩
  rintro g1 rfl ok1 le1
  cases c with
  | true =>
    rw [if_pos rfl] at q ⊢
    exact asB_val q g1 rfl ok1 le1
  | false =>
    rw [if_neg Bool.false_ne_true] at q ⊢
    exact ⟨g1, ρ, rfl, ok1, er.mono le1, q.mono (fun b S h g' hs ok' le' => h g' hs ok' (le1.trans le')) fun _ _ h => h.mono le1⟩
theorem chn_t {op op' : CmpOp} {x y z : E} : ∀ σ H Q, tM X W (evE Γ (.chn op op' x y z)) σ H Q → tChain (rCmp X W op) (rCmp X W op') (tD X W fun ρ => asD (evE Γ x ρ)) (tD X W fun ρ => asD (evE Γ y ρ)) (tD X W fun ρ => asD (evE Γ z ρ)) σ H Q := by
  intro σ H Q hw
  obtain ⟨g, ρ, rfl, ok, er, hp⟩ := hw
  simp only [evE] at hp
  refine ⟨g, ρ, rfl, ok, er, (bind_post hp).mono (fun d S' q => ?_) fun _ _ q => q⟩
  rintro v g1 rfl ok1 le1 r1
  refine ⟨g1, ρ, rfl, ok1, er.mono le1, (bind_post q).mono (fun e S' q => ?_) fun _ _ q => q.mono le1⟩
  rintro u g2 rfl ok2 le2 r2
  obtain ⟨k, ek, q⟩ := of_post (bind_post q)
  refine ⟨g2, d, e, k, rfl, ok2, r1.mono le2.fro, r2, ek, k, rfl, ?_⟩
  have le := le1.trans le2
  cases k with
  | true =>
    rw [if_pos rfl] at q ⊢
    refine ⟨g2, ρ, rfl, ok2, er.mono le, (bind_post q).mono (fun f S' q => ?_) fun _ _ q => q.mono le⟩
    rintro w' g3 rfl ok3 le3 r3
    obtain ⟨k', ek', q⟩ := of_post (bind_post q)
    have q : RFin X g Q (.val (.bool k')) g3.V := q
    exact ⟨g3, e, f, k', rfl, ok3, r2.mono le3.fro, r3, ek', (RFin.mono (le.trans le3) q).val ok3 (.bl _)⟩
  | false =>
    rw [if_neg Bool.false_ne_true] at q ⊢
    have q : RFin X g Q (.val (.bool false)) g2.V := q
    exact (RFin.mono le q).val ok2 (.bl _)
theorem xt_chn (co : COk X) {op op' : CmpOp} {x y z : E} (hm : lastMarks [op, op'] [b, c] = false) (ha : PE X a (tM X W (evE Γ x))) (hb : PE X b (tM X W (evE Γ y))) (hc : PE X c (tM X W (evE Γ z))) : PT X (.Compare a [op, op'] [b, c] pos) (tBt X W fun ρ => asB (evE Γ (.chn op op' x y z) ρ)) :=
  PT.imp (pt_chain (op_cmp (W := W) (by have := co.un; omega) op) (op_cmp (W := W) (by have := co.un; omega) op') (pe_D ha) (pe_D hb) (pe_D hc) hm) (tB_of chn_t)
/-! ### arguments -/
theorem xa_nil : PA X [] (tAs X W (evDs Γ .nil)) := by
  refine ⟨fun pos pins s σ H Q I hw => pa_nil.run pos pins s σ H Q I ?_⟩
  obtain ⟨g, ρ, rfl, ok, er, hp⟩ := hw
  simp only [evDs] at hp
  have hp : ∀ vs g', g'.V = g.V → g'.Ok → g.Le g' → RpAll X.K g'.F vs [] → Q vs g'.H := hp
  exact hp [] g rfl ok (Gs.Le.refl g) .nil
theorem xa_cons {x : E} {xs : Es} {es : List Expr} (hs : starEach (e :: es) X.env = (false, eval e X.env) :: starEach es X.env) (he : PE X e (tM X W (evE Γ x))) (hr : PA X es (tAs X W (evDs Γ xs))) : PA X (e :: es) (tAs X W (evDs Γ (.cons x xs))) := by
  refine ⟨fun pos pins s σ H Q I hw => (pa_cons (pe_D he) hr hs).run pos pins s σ H Q I ?_⟩
  obtain ⟨g, ρ, rfl, ok, er, hp⟩ := hw
  simp only [evDs] at hp
  refine ⟨g, ρ, rfl, ok, er, (bind_post hp).mono (fun d S' q => ?_) fun _ _ q => q⟩
  rintro v g1 rfl ok1 le1 r1
  refine ⟨g1, ρ, rfl, ok1, er.mono le1, (bind_post q).mono (fun ds S' q => ?_) fun _ _ q => q.mono le1⟩
  intro vs g2 hs2 ok2 le2 r2
  subst hs2
  have q : ∀ vs g', g'.V = g2.V → g'.Ok → g.Le g' → RpAll X.K g'.F vs (d :: ds) → Q vs g'.H := q
  exact q (v :: vs) g2 rfl ok2 (le1.trans le2) (.cons (r1.mono le2.fro) r2)
/-- a value, a list of one's own held still -/
def tArg (X : Cx) (W : WX) (m : Env → M R) : TE := fun σ H Q => ∃ g ρ, g.H = H ∧ g.Ok ∧ EnvR X.K g σ ρ ∧ (m ρ g.V).Post (fun r S => ∀ v g', g'.V = S → g'.Ok → g.Le g' → ArgR X.K g' v r.arg → Q v g'.H) (XFin X W g σ)
theorem pe_arg {x : E} (he : PE X e (tM X W (evE Γ x))) : PE X e (tArg X W (evE Γ x)) := by
  refine PE.imp he fun σ H Q hw => ?_
  obtain ⟨g, ρ, rfl, ok, er, hp⟩ := hw
  refine ⟨g, ρ, rfl, ok, er, hp.mono (fun r S' q => ?_) fun _ _ q => q⟩
  intro v g' hs ok' le' rep
  obtain ⟨g2, e1, e2, ok2, le2, _, r2⟩ := RepR.holdR ok' le' rep
  rw [← e2]
  exact q v g2 (e1.trans hs) ok2 le2 (ArgR.of r2)
theorem xr_nil : PA X [] (tAr X W (evA Γ .nil)) := by
  refine ⟨fun pos pins s σ H Q I hw => pa_nil.run pos pins s σ H Q I ?_⟩
  obtain ⟨g, ρ, rfl, ok, er, hp⟩ := hw
  simp only [evA] at hp
  have hp : ∀ vs g', g'.V = g.V → g'.Ok → g.Le g' → ArgsR X.K g' vs [] → Q vs g'.H := hp
  exact hp [] g rfl ok (Gs.Le.refl g) .nil
theorem xr_cons {x : E} {xs : Es} {es : List Expr} (hs : starEach (e :: es) X.env = (false, eval e X.env) :: starEach es X.env) (he : PE X e (tM X W (evE Γ x))) (hr : PA X es (tAr X W (evA Γ xs))) : PA X (e :: es) (tAr X W (evA Γ (.cons x xs))) := by
  refine ⟨fun pos pins s σ H Q I hw => (pa_cons (pe_arg he) hr hs).run pos pins s σ H Q I ?_⟩
  obtain ⟨g, ρ, rfl, ok, er, hp⟩ := hw
  simp only [evA] at hp
  refine ⟨g, ρ, rfl, ok, er, (bind_post hp).mono (fun d S' q => ?_) fun _ _ q => q⟩
  rintro v g1 rfl ok1 le1 r1
  refine ⟨g1, ρ, rfl, ok1, er.mono le1, (bind_post q).mono (fun ds S' q => ?_) fun _ _ q => q.mono le1⟩
  intro vs g2 hs2 ok2 le2 r2
  subst hs2
  have q : ∀ vs g', g'.V = g2.V → g'.Ok → g.Le g' → ArgsR X.K g' vs (d.arg :: ds) → Q vs g'.H := q
  exact q (v :: vs) g2 rfl ok2 (le1.trans le2) (.cons (r1.mono le2) r2)
/-! ### displays, calls -/
theorem xe_tup {k : Nat} {xs : Es} {es : List Expr} (h : PA X es (tAs X W (evDs Γ xs))) : PE X (.Tuple es k pos) (tM X W (evE Γ (.tup xs))) := by
  refine PE.imp (pe_tup h) fun σ H Q hw => ?_
  obtain ⟨g, ρ, rfl, ok, er, hp⟩ := hw
  simp only [evE] at hp
  refine ⟨g, ρ, rfl, ok, er, (bind_post hp).mono (fun ds S' q => ?_) fun _ _ q => q⟩
  rintro vs g1 rfl ok1 le1 r1
  by_cases hl : ds.length ≤ line
  · rw [if_pos hl] at q
    have q : RFin X g Q (.val (.tuple ds)) g1.V := q
    exact ⟨by rw [r1.length]; exact line_le hl, fun p hp => (RFin.mono le1 q).newT ok1 hp r1⟩
  · rw [if_neg hl] at q
    exact q.elim
theorem xe_lst {xs : Es} {es : List Expr} (h : PA X es (tAs X W (evDs Γ xs))) : PE X (.List es pos) (tM X W (evE Γ (.lst xs))) := by
  refine PE.imp (pe_lst h) fun σ H Q hw => ?_
  obtain ⟨g, ρ, rfl, ok, er, hp⟩ := hw
  simp only [evE] at hp
  refine ⟨g, ρ, rfl, ok, er, (bind_post hp).mono (fun ds S' q => ?_) fun _ _ q => q⟩
  rintro vs g1 rfl ok1 le1 r1
  by_cases hl : ds.length ≤ line
  · rw [if_pos hl] at q
    have q : RFin X g Q (.own ds) g1.V := q
    exact ⟨by rw [r1.length]; exact line_le hl, fun p hp => (RFin.mono le1 q).newL ok1 hp r1⟩
  · rw [if_neg hl] at q
    exact q.elim
theorem xe_call (co : COk X) (tk : Takes X W) {i : Nat} {f : Str} {p : Pos} {xs : Es} {es : List Expr} (fa : FnAt X (Γ.fn i) f) (hg : Gl X f) (hd : (f == ("__debug__" : Str)) = false)
    (hn : es = [] → xs = .nil) (h : PA X es (tAr X W (evA Γ xs))) (he : ∀ e r, es = e :: r → starEach (e :: r) X.env = (false, eval e X.env) :: starEach r X.env ∧ (backTo pos (starEach r X.env)).any (·.1) = false) :
    PE X (.Call (.Name f p) es [] pos) (tM X W (evE Γ (.call i xs))) := by
  obtain ⟨ad, fd, ps, k, hm, hk, hb, hr, F, har⟩ := fa
  have fin : ∀ σ H Q, tM X W (evE Γ (.call i xs)) σ H Q → tCallF W (spOf X.K X.mg ps.length (Γ.fn i)) (tAr X W (evA Γ xs)) σ H Q := by
    rintro σ H Q ⟨g, ρ, rfl, ok, er, hp⟩
    simp only [evE] at hp
    refine ⟨g, ρ, rfl, ok, er, (bind_post hp).mono (fun rs S' q => ?_) fun _ _ q => q⟩
    rintro vs g1 rfl ok1 le1 r1
    refine ⟨?_, g1, rs, rfl, ok1, r1, q.mono (fun r S' q v g' hs ok' le' rep => q v g' hs ok' (le1.trans le') (rep.base le1)) fun ec S' q cls d g' hs ok' le' rep => q cls d g' hs ok' (le1.trans le') rep⟩
    rw [r1.length]
    by_cases hl : rs.length = ps.length
    · exact hl
    · rw [har rs g1.V hl] at q
      exact q.elim
  cases es with
  | nil =>
    refine PE.imp (pe_callF0 F hr co.gu hg hm hk hb tk hd) fun σ H Q hw => ?_
    obtain ⟨g, ρ, rfl, ok, er, hp⟩ := fin σ H Q hw
    rw [hn rfl] at hp
    have hp : ∀ vs g', g'.V = g.V → g'.Ok → g.Le g' → ArgsR X.K g' vs [] → spOf X.K X.mg ps.length (Γ.fn i) vs g'.H Q _ := hp
    exact hp [] g rfl ok (Gs.Le.refl g) .nil
  | cons e r => exact PE.imp (pe_callF F hr co.gu hg hm hk hb tk h hd (he e r rfl).1 (he e r rfl).2) fin
/-! ### built-ins -/
theorem xe_blt (co : COk X) (free : ∀ x ∈ bltNames, X.mg x = none) {f : Str} {b : Bl} {p : Pos} {xs : Es} {es : List Expr} (hb : bltOf f = some b) (hg : Gl X f) (hne : es ≠ [])
    (h : PA X es (tAs X W (evDs Γ xs))) (he : ∀ e r, es = e :: r → starEach (e :: r) X.env = (false, eval e X.env) :: starEach r X.env ∧ (backTo pos (starEach r X.env)).any (·.1) = false) :
    PE X (.Call (.Name f p) es [] pos) (tM X W (evE Γ (.blt b xs))) := by
  obtain ⟨e, r, rfl⟩ := List.exists_cons_of_ne_nil hne
  obtain ⟨h1, h2⟩ := he e r rfl
  have fin : ∀ σ H Q, tM X W (evE Γ (.blt b xs)) σ H Q → tCB (rBl X W b) (tAs X W (evDs Γ xs)) σ H Q := by
    rintro σ H Q ⟨g, ρ, rfl, ok, er, hp⟩
    simp only [evE] at hp
    refine ⟨g, ρ, rfl, ok, er, (bind_post hp).mono (fun ds S' q => ?_) fun _ _ q => q⟩
    rintro vs g1 rfl ok1 le1 r1
    exact ⟨g1, σ, ds, rfl, ok1, r1, RPost.mono le1 q⟩
  have cb := call_bl (W := W) co b
  unfold bltOf at hb
  by_cases e1 : f = "len"
  · subst e1
    rw [if_pos rfl] at hb
    cases hb
    exact PE.imp (pe_callB cb hg (free _ (by decide)) (by decide +kernel) h (by decide) (by decide) h1 h2) fin
  rw [if_neg e1] at hb
  by_cases e1 : f = "list"
  · subst e1
    rw [if_pos rfl] at hb
    cases hb
    exact PE.imp (pe_callTy cb hg (free _ (by decide)) (by decide +kernel) h (by decide) (by decide) h1 h2) fin
  rw [if_neg e1] at hb
  by_cases e1 : f = "tuple"
  · subst e1
    rw [if_pos rfl] at hb
    cases hb
    exact PE.imp (pe_callTy cb hg (free _ (by decide)) (by decide +kernel) h (by decide) (by decide) h1 h2) fin
  rw [if_neg e1] at hb
  by_cases e1 : f = "abs"
  · subst e1
    rw [if_pos rfl] at hb
    cases hb
    exact PE.imp (pe_callB cb hg (free _ (by decide)) (by decide +kernel) h (by decide) (by decide) h1 h2) fin
  rw [if_neg e1] at hb
  by_cases e1 : f = "int"
  · subst e1
    rw [if_pos rfl] at hb
    cases hb
    exact PE.imp (pe_callTy cb hg (free _ (by decide)) (by decide +kernel) h (by decide) (by decide) h1 h2) fin
  rw [if_neg e1] at hb
  by_cases e1 : f = "max"
  · subst e1
    rw [if_pos rfl] at hb
    cases hb
    exact PE.imp (pe_callB cb hg (free _ (by decide)) (by decide +kernel) h (by decide) (by decide) h1 h2) fin
  rw [if_neg e1] at hb
  by_cases e1 : f = "min"
  · subst e1
    rw [if_pos rfl] at hb
    cases hb
    exact PE.imp (pe_callB cb hg (free _ (by decide)) (by decide +kernel) h (by decide) (by decide) h1 h2) fin
  rw [if_neg e1] at hb
  by_cases e1 : f = "repr"
  · subst e1
    rw [if_pos rfl] at hb
    cases hb
    exact PE.imp (pe_callB cb hg (free _ (by decide)) (by decide +kernel) h (by decide) (by decide) h1 h2) fin
  rw [if_neg e1] at hb
  by_cases e1 : f = "all"
  · subst e1
    rw [if_pos rfl] at hb
    cases hb
    exact PE.imp (pe_callB cb hg (free _ (by decide)) (by decide +kernel) h (by decide) (by decide) h1 h2) fin
  rw [if_neg e1] at hb
  by_cases e1 : f = "any"
  · subst e1
    rw [if_pos rfl] at hb
    cases hb
    exact PE.imp (pe_callB cb hg (free _ (by decide)) (by decide +kernel) h (by decide) (by decide) h1 h2) fin
  rw [if_neg e1] at hb
  by_cases e1 : f = "sum"
  · subst e1
    rw [if_pos rfl] at hb
    cases hb
    exact PE.imp (pe_callB cb hg (free _ (by decide)) (by decide +kernel) h (by decide) (by decide) h1 h2) fin
  rw [if_neg e1] at hb
  cases hb
theorem xe_gcd (co : COk X) (hm : X.mg "gcd" = some (.builtin "math.gcd")) {p : Pos} {xs : Es} {es : List Expr} (hg : Gl X "gcd") (hne : es ≠ [])
    (h : PA X es (tAs X W (evDs Γ xs))) (he : ∀ e r, es = e :: r → starEach (e :: r) X.env = (false, eval e X.env) :: starEach r X.env ∧ (backTo pos (starEach r X.env)).any (·.1) = false) :
    PE X (.Call (.Name "gcd" p) es [] pos) (tM X W (evE Γ (.blt .gcd xs))) := by
  obtain ⟨e, r, rfl⟩ := List.exists_cons_of_ne_nil hne
  obtain ⟨h1, h2⟩ := he e r rfl
  refine PE.imp (pe_callBfun (call_bl (W := W) co .gcd) hg hm h (by decide) h1 h2) ?_
  rintro σ H Q ⟨g, ρ, rfl, ok, er, hp⟩
  simp only [evE] at hp
  refine ⟨g, ρ, rfl, ok, er, (bind_post hp).mono (fun ds S' q => ?_) fun _ _ q => q⟩
  rintro vs g1 rfl ok1 le1 r1
  exact ⟨g1, σ, ds, rfl, ok1, r1, RPost.mono le1 q⟩
theorem boot_ty {x : Str} {T : String} (h : tyOf x = some T) : bootBuiltins x = some (.type T) ∧ x ∈ bltNames ∧ x ≠ "__name__" ∧ (x == ("__debug__" : Str)) = false := by
  unfold tyOf at h
  by_cases e1 : x = "int"
  · subst e1; rw [if_pos rfl] at h; cases h; exact ⟨by decide +kernel, by decide, by decide, by decide⟩
  rw [if_neg e1] at h
  by_cases e1 : x = "bool"
  · subst e1; rw [if_pos rfl] at h; cases h; exact ⟨by decide +kernel, by decide, by decide, by decide⟩
  rw [if_neg e1] at h
  by_cases e1 : x = "str"
  · subst e1; rw [if_pos rfl] at h; cases h; exact ⟨by decide +kernel, by decide, by decide, by decide⟩
  rw [if_neg e1] at h
  by_cases e1 : x = "list"
  · subst e1; rw [if_pos rfl] at h; cases h; exact ⟨by decide +kernel, by decide, by decide, by decide⟩
  rw [if_neg e1] at h
  by_cases e1 : x = "tuple"
  · subst e1; rw [if_pos rfl] at h; cases h; exact ⟨by decide +kernel, by decide, by decide, by decide⟩
  rw [if_neg e1] at h
  cases h
theorem xe_isi (co : COk X) (free : ∀ x ∈ bltNames, X.mg x = none) {x : E} {ty : Str} {T : String} {p q : Pos} (hT : tyOf ty = some T) (hg : Gl X "isinstance") (hg2 : Gl X ty) (hs : starEach [a, .Name ty q] X.env = (false, eval a X.env) :: starEach [.Name ty q] X.env)
    (ha : PE X a (tM X W (evE Γ x))) : PE X (.Call (.Name "isinstance" p) [a, .Name ty q] [] pos) (tM X W (evE Γ (.isi x T))) := by
  obtain ⟨b1, b2, b3, b4⟩ := boot_ty hT
  have pT : PE X (.Name ty q) (tC (.ty T)) := pe_bltn hg2 (free _ b2) b1 rfl b3 b4
  refine PE.imp (pe_callB call_isi hg (free _ (by decide)) (by decide +kernel) (pa_cons (pe_D ha) (pa_cons pT pa_nil rfl) hs) (by decide) (by decide) hs rfl) fun σ H Q hw => ?_
  obtain ⟨g, ρ, rfl, ok, er, hp⟩ := hw
  simp only [evE] at hp
  refine ⟨g, ρ, rfl, ok, er, (bind_post hp).mono (fun d S' q => ?_) fun _ _ q => q⟩
  rintro v g1 rfl ok1 le1 r1
  obtain ⟨k, ek, q⟩ := of_post (bind_post q)
  have q : RFin X g Q (.val (.bool k)) g1.V := q
  obtain ⟨t, h1, h2⟩ := tyX_of ok1 r1
  exact ⟨v, .ty T, _, _, k, rfl, .ty T, h1, kit_ok (h2 T k ek), (RFin.mono le1 q).val ok1 (.bl _)⟩
/-! ### items, slices -/
theorem xe_idx {x y : E} (hb : PlainIx b) (ha : PE X a (tM X W (evE Γ x))) (hi : PE X b (tM X W (evE Γ y))) : PE X (.Subscript a b pos) (tM X W (evE Γ (.idx x y))) := by
  refine PE.imp (pe_ix (ix_ok (W := W)) (pe_D ha) (pe_D hi) hb) fun σ H Q hw => ?_
  refine seq2 (f := fun d e => M.of (idx d e) >>= fun z => pure (.val z)) (fun g σ Q v w' d e ok r1 r2 q => ?_) σ H Q ?_
  · obtain ⟨z, ez, q⟩ := of_post (bind_post q)
    exact ⟨g, d, e, z, rfl, ok, r1, r2, ez, q⟩
  · simpa only [evE] using hw
end
end Pv

/-! Pv9 -/
set_option Elab.async false
set_option linter.all false
set_option maxRecDepth 100000
set_option maxHeartbeats 4000000
namespace Pv
open PySem PySem.Spec PyProof.Rows L2
section
variable {X : Cx} {W : WX} {Γ : Ctx} {pos p2 p3 : Pos} {a b c e : Expr}
def mPart (Γ : Ctx) (x : E) (ρ : Env) : M (Option Int) := asD (evE Γ x ρ) >>= fun y => M.of (toPart (isNl x) y)
def tPt (X : Cx) (W : WX) (m : Env → M (Option Int)) : TO := fun σ H Q => ∃ g ρ, g.H = H ∧ g.Ok ∧ EnvR X.K g σ ρ ∧ (m ρ g.V).Post (fun o S => ∀ g', g'.V = S → g'.Ok → g.Le g' → Q o g'.H) (XFin X W g σ)
theorem xo_none : PO X none (tPt X W (mPart Γ (.lit .none))) := by
  refine ⟨fun pins s σ H Q I hw => po_none.run pins s σ H Q I ?_⟩
  obtain ⟨g, ρ, rfl, ok, er, hp⟩ := hw
  unfold mPart at hp
  simp only [evE] at hp
  have hp : ∀ g', g'.V = g.V → g'.Ok → g.Le g' → Q none g'.H := hp
  exact hp g rfl ok (Gs.Le.refl g)
theorem xo_some {x : E} (hx : isNl x = false) (h : PE X e (tM X W (evE Γ x))) : PO X (some e) (tPt X W (mPart Γ x)) := by
  refine ⟨fun pins s σ H Q I hw => (po_some (pe_D h)).run pins s σ H Q I ?_⟩
  obtain ⟨g, ρ, rfl, ok, er, hp⟩ := hw
  unfold mPart at hp
  refine ⟨g, ρ, rfl, ok, er, (bind_post hp).mono (fun d S' q => ?_) fun _ _ q => q⟩
  rintro v g1 rfl ok1 le1 r1
  obtain ⟨o, eo, q⟩ := of_post q
  rw [hx] at eo
  unfold toPart at eo
  rw [if_neg Bool.false_ne_true] at eo
  cases r1 <;> try cases eo
  exact ⟨_, rfl, q g1 rfl ok1 le1⟩
def rSlc (X : Cx) (st : Int) : V → Option Int → Option Int → Hp → VK → Prop := fun x lo hi H Q => ∃ (g : Gs) (d : PyData) (r : R), g.H = H ∧ g.Ok ∧ Rp X.K g.F x d ∧ slc d lo hi st = some r ∧ RFin X g Q r g.V
theorem slc_seq {x y z : E} {st : Int} : ∀ σ H Q, tM X W (evE Γ (.slc x y z st)) σ H Q → tSl (rSlc X st) (tD X W fun ρ => asD (evE Γ x ρ)) (tPt X W (mPart Γ y)) (tPt X W (mPart Γ z)) σ H Q := by
  rintro σ H Q ⟨g, ρ, rfl, ok, er, hp⟩
  simp only [evE] at hp
  refine ⟨g, ρ, rfl, ok, er, (bind_post hp).mono (fun d S' q => ?_) fun _ _ q => q⟩
  rintro v g1 rfl ok1 le1 r1
  have q1 : ((mPart Γ y ρ) g1.V).Post (fun lo S => ((mPart Γ z ρ >>= fun hi => M.of (slc d lo hi st)) S).Post (RFin X g Q) (XFin X W g σ)) (XFin X W g σ) := by
    refine Out.post_bind.mpr ((bind_post q).mono (fun y' S2 q2 => ?_) fun _ _ q => q)
    refine (bind_post q2).mono (fun lo S3 q3 => ?_) fun _ _ q => q
    refine Out.post_bind.mpr (Out.post_bind.mpr ((bind_post q3).mono (fun z' S4 q4 => ?_) fun _ _ q => q))
    exact (bind_post q4).mono (fun hi S5 q5 => q5) fun _ _ q => q
  refine ⟨g1, ρ, rfl, ok1, er.mono le1, q1.mono (fun lo S' q => ?_) fun _ _ q => q.mono le1⟩
  rintro g2 rfl ok2 le2
  have le := le1.trans le2
  refine ⟨g2, ρ, rfl, ok2, er.mono le, (bind_post q).mono (fun hi S' q => ?_) fun _ _ q => q.mono le⟩
  rintro g3 rfl ok3 le3
  obtain ⟨r, er', q⟩ := of_post q
  exact ⟨g3, d, r, rfl, ok3, (r1.mono le2.fro).mono le3.fro, er', RFin.mono (le.trans le3) q⟩
theorem cutS_eq (z : Str) (lo hi : Option Int) : cutS z lo hi = ⟨(cut z.cps.toList lo hi).toArray⟩ := by
  unfold cutS cut
  first
    | rfl
    | (congr 1)
theorem sl_ok1 : SlR X (rSlc X 1) := by
  intro pins s σ0 H x v vl vu lo hi sl Q I rx hs pl pu h
  obtain ⟨g, d, r, rfl, ok, hd, hr, q⟩ := h
  unfold slc at hr
  split at hr
  · rw [if_pos rfl] at hr
    cases hr
    cases hd with
    | tup ha ra =>
    refine sl_tupA pins s σ0 g.H _ v vl vu lo hi sl Q I rx hs pl pu ⟨_, _, rfl, sqT_mono ok.sub ha, fun hwh => ?_, fun _ p hp => q.newT ok hp (cut_rp ra lo hi)⟩
    refine q.val ok (.tup ha ?_)
    rename_i ds _ _
    have e : cut ds lo hi = ds := by
      unfold cut
      rw [← ra.length, hwh.1, hwh.2, List.drop_zero, Nat.sub_zero, ra.length, List.take_length]
    rw [e]
    exact ra
  · rw [if_pos rfl] at hr
    cases hr
    cases hd with
    | lst ha ra =>
    exact sl_list pins s σ0 g.H _ v vl vu lo hi sl Q I rx hs pl pu ⟨_, _, rfl, SqL.of (ok.sub _ _ ha), fun p hp => q.newL ok hp (cut_rp ra lo hi)⟩
  · split at hr
    · rename_i hl
      cases hr
      cases hd
      exact sl_str pins s σ0 g.H _ v vl vu lo hi sl Q I rx hs pl pu ⟨_, rfl, line_le hl.2, by rw [cutS_eq]; exact q.val ok (.str _)⟩
    · cases hr
  · cases hr
theorem xe_slc1 {x y z : E} {lo hi : Option Expr} (ha : PE X a (tM X W (evE Γ x))) (hl : PO X lo (tPt X W (mPart Γ y))) (hu : PO X hi (tPt X W (mPart Γ z))) : PE X (.Subscript a (.Slice lo hi none p2) pos) (tM X W (evE Γ (.slc x y z 1))) :=
  PE.imp (pe_slice sl_ok1 (pe_D ha) hl hu) slc_seq
theorem step_pe {e : Expr} {st : Int} (h : stepOf e = some st) : PE X e (fun _ H Q => Q (.int st) H) := by
  unfold stepOf at h
  split at h
  · cases h
    exact pe_int
  · cases h
    exact PE.imp (pe_un un_neg pe_int) fun σ H Q q => ⟨_, rfl, q⟩
  · cases h
theorem xe_slcS {x y z : E} {lo hi : Option Expr} {stE : Expr} {st : Int} (hst : stepOf stE = some st) (h1 : st ≠ 1) (ha : PE X a (tM X W (evE Γ x))) (hl : PO X lo (tPt X W (mPart Γ y))) (hu : PO X hi (tPt X W (mPart Γ z))) :
    PE X (.Subscript a (.Slice lo hi (some stE) p2) pos) (tM X W (evE Γ (.slc x y z st))) := by
  refine ⟨fun pins s σ H Q I hw => ?_⟩
  have hw := slc_seq σ H Q hw
  refine Subscript_ (thn ((pe_D ha).run pins s σ H _ I hw) fun v s1 hq => ?_)
  obtain ⟨xv, H1, I1, rx, q1⟩ := hq
  refine wpAny_Slice (thn (hl.run pins s1 σ H1 _ I1 q1) fun vl s2 hq => ?_)
  obtain ⟨lo', H2, I2, pl, q2⟩ := hq
  refine thn (hu.run pins s2 σ H2 _ I2 q2) fun vu s3 hq => ?_
  obtain ⟨hi', H3, I3, pu, q3⟩ := hq
  refine thn ((po_some (step_pe hst)).run pins s3 σ H3 (fun o H4 => o = some st ∧ rSlc X st xv lo' hi' H4 Q) I3 ⟨st, rfl, rfl, q3⟩) fun vs s4 hq => ?_
  obtain ⟨o, H4, I4, ps, eo, q4⟩ := hq
  subst eo
  obtain ⟨g, d, r, rfl, ok, hd, hr, q⟩ := q4
  have I5 : Inv X pins σ g.H { s4 with heap := s4.heap.push { cls := .type "slice", data := .fields #[vl, vu, vs] } } := I4.kept (t' := s4.toks) fun b ob q => Heap.get?_push_of_some _ q
  unfold slc at hr
  split at hr
  · rw [if_neg h1] at hr
    split at hr
    · cases hr
    · rename_i h0
      split at hr
      · rename_i hlen
        cases hr
        cases hd with
        | tup hT ra =>
        cases rx
        obtain ⟨its, rv, tp, hz⟩ := I5.tuple (sqT_mono ok.sub hT)
        have sv := stepCut_vals rv lo' hi' st
        have sr := stepCut_rp ra lo' hi' st
        have hsz : (stepCut its lo' hi' st).length ≤ sizeLine := by
          rw [← sv.length, sr.length]
          exact line_le hlen
        refine tail_any (ops := [_, .ref s4.heap.objs.size]) (T := "tuple") tp.typeIs PyProof.Rows.slot_tuple_getitem.lookup ?_ (by with_unfolding_all rfl)
        refine tuple_step h0 h1 tp (Heap.IsSliceOf.new _ vl vu vs) pl pu ps ?_ hsz
        refine ⟨.ref _, _, I5.laid (t' := s4.toks) (o := .tup (stepCut _ lo' hi' st)) (fun b ob q => Heap.get?_push_of_some _ q) (Nat.le_refl _) ?_, rfl, q.newT ok (I5.hok.fresh (Nat.le_refl _)) sr⟩
        exact ⟨by rw [sv.length]; exact hsz, _, sv, ⟨_, Heap.get?_push_size _ rfl, rfl, _, rfl⟩⟩
      · cases hr
  · rw [if_neg h1] at hr
    split at hr
    · split at hr
      · rename_i hm
        subst hm
        cases hr
        cases hd with
        | lst hL ra =>
        cases rx
        obtain ⟨its, rv, lp, hz⟩ := I5.list (SqL.of (ok.sub _ _ hL))
        refine tail_any (ops := [_, .ref s4.heap.objs.size]) (T := "list") lp.isList.typeIs PySem.slot_list_getitem.lookup ?_ (by with_unfolding_all rfl)
        have hl2 := rv.length
        refine wpAny_getItem_list_slice lp.isList (Heap.IsSliceOf.new _ vl vu vs) pl pu ps (by decide) ?_ (by rw [List.size_toArray]; omega)
        rw [PySem.W.krv_pick]
        refine ⟨.ref _, _, I5.laid (t' := s4.toks) (o := .lst (List.reverse _)) (fun b ob q => Heap.get?_push_of_some _ q) (Nat.le_refl _) ?_, rfl, q.newL ok (I5.hok.fresh (Nat.le_refl _)) ra.reverse⟩
        exact ⟨by rw [List.length_reverse]; exact hz, _, 0, rv.reverse, Heap.get?_push_size _ rfl⟩
      · cases hr
    · cases hr
  · rename_i hl
    split at hr
    · rename_i h2
      exact absurd h2.1 h1
    · cases hr
  · cases hr
end
end Pv

/-! Pv10 -/
set_option Elab.async false
set_option linter.all false
set_option maxRecDepth 100000
set_option maxHeartbeats 4000000
namespace Pv
open PySem PySem.Spec PyProof.Rows L2
/-! ### what is walked -/
structure WalkOk (K : PySem.W.Frag) (g0 : Gs) (J : It) (ds : List PyData) : Prop where
  goes : ∀ (i : Nat) (g : Gs), i < ds.length → Same g0.F g.F → g.Ok → J.go i g.H
  stops : ∀ (g : Gs), Same g0.F g.F → g.Ok → J.stop ds.length g.H
  yields : ∀ (i : Nat) (g : Gs) (x : V) (H' : Hp), i < ds.length → Same g0.F g.F → g.Ok → J.yld i g.H x H' → ∃ (g' : Gs) (d : PyData), g'.H = H' ∧ g'.V = g.V ∧ g'.Ok ∧ g.Le g' ∧ ds[i]? = some d ∧ Rp K g'.F x d
def tI (X : Cx) (W : WX) (m : Env → M (List PyData)) : TI := fun σ H Rr => ∃ g ρ, g.H = H ∧ g.Ok ∧ EnvR X.K g σ ρ ∧ (m ρ g.V).Post (fun ds S => ∀ J g', g'.V = S → g'.Ok → g.Le g' → WalkOk X.K g' J ds → Rr J g'.H) (XFin X W g σ)
/-- a walk that no object holds up -/
def tIa (X : Cx) (W : WX) (m : Env → M (List PyData)) : TI := fun σ H Rr => ∃ g ρ, g.H = H ∧ g.Ok ∧ EnvR X.K g σ ρ ∧ (m ρ g.V).Post (fun ds S => ∀ J g', g'.V = S → g'.Ok → g.Le g' → (∀ g0, WalkOk X.K g0 J ds) → Rr J g'.H) (XFin X W g σ)
theorem PI.imp {X : Cx} {tg e : Expr} {t t' : TI} (h : PI X tg e t) (hi : ∀ σ H Q, t' σ H Q → t σ H Q) : PI X tg e t' := ⟨fun pins s σ H Q I hw => h.run pins s σ H Q I (hi σ H Q hw)⟩
theorem enumAt_get : ∀ (xs : List PyData) (n i : Nat), (enumAt n xs)[i]? = xs[i]?.map fun x => .tuple [.int ((n + i : Nat) : Int), x]
  | [], n, i => by simp [enumAt]
  | x :: xs, n, 0 => by simp [enumAt]
  | x :: xs, n, i + 1 => by
    have h := enumAt_get xs (n + 1) i
    simp only [enumAt, List.getElem?_cons_succ]
    rw [h]
    have e : n + 1 + i = n + (i + 1) := by omega
    rw [e]
theorem enumAt_length : ∀ (xs : List PyData) (n : Nat), (enumAt n xs).length = xs.length
  | [], _ => rfl
  | _ :: xs, n => by simp [enumAt, enumAt_length xs (n + 1)]
section
variable {K : PySem.W.Frag} {g0 : Gs} {a : Addr} {xs : List V} {ds : List PyData}
theorem wo_list (h : g0.F a = some (.lst xs)) (r : RpAll K g0.F xs ds) : WalkOk K g0 (Itl K a) ds where
  goes := fun i g hi hs ok => by
    have hx : i < xs.length := by rw [r.length]; exact hi
    exact ⟨xs, xs[i], SqL.of (ok.sub _ _ (hs _ _ h)), by simp [hx]⟩
  stops := fun g hs ok => ⟨xs, SqL.of (ok.sub _ _ (hs _ _ h)), by rw [r.length]; exact Nat.le_refl _⟩
  yields := fun i g x H' hi hs ok y => by
    obtain ⟨e, y⟩ := y
    subst e
    have hx := y xs (SqL.of (ok.sub _ _ (hs _ _ h)))
    obtain ⟨d, e1, r1⟩ := r.getV hx
    exact ⟨g, d, rfl, rfl, ok, Gs.Le.refl g, e1, r1.mono hs⟩
theorem wo_tup (h : SqT K g0.F a xs) (r : RpAll K g0.F xs ds) : WalkOk K g0 (Itt K a) ds where
  goes := fun i g hi hs ok => by
    have hx : i < xs.length := by rw [r.length]; exact hi
    exact ⟨xs, xs[i], sqT_mono ok.sub (sqT_mono hs h), by simp [hx]⟩
  stops := fun g hs ok => ⟨xs, sqT_mono ok.sub (sqT_mono hs h), by rw [r.length]; exact Nat.le_refl _⟩
  yields := fun i g x H' hi hs ok y => by
    obtain ⟨e, y⟩ := y
    subst e
    have hx := y xs (sqT_mono ok.sub (sqT_mono hs h))
    obtain ⟨d, e1, r1⟩ := r.getV hx
    exact ⟨g, d, rfl, rfl, ok, Gs.Le.refl g, e1, r1.mono hs⟩
theorem wo_str {z : Str} : WalkOk K g0 (Its z) (z.cps.toList.map fun c => .str ⟨#[c]⟩) where
  goes := fun i g hi hs ok => by
    rw [List.length_map, Array.length_toList] at hi
    exact hi
  stops := fun g hs ok => by
    rw [List.length_map, Array.length_toList]
    exact Nat.le_refl _
  yields := fun i g x H' hi hs ok y => by
    obtain ⟨e, c, hc, rfl⟩ := y
    subst e
    exact ⟨g, _, rfl, rfl, ok, Gs.Le.refl g, by rw [List.getElem?_map, Array.getElem?_toList, hc]; rfl, .str _⟩
/-- a new pair each turn -/
theorem wo_pair {J : It} {n : Nat} {G : Hp → Prop} {fx fy : Nat → Option V} (w : Walk J n G (YPair fx fy)) (hn : ds.length = n) (hG : ∀ g : Gs, Same g0.F g.F → g.Ok → G g.H)
    (hd : ∀ i x y, i < n → fx i = some x → fy i = some y → ∃ d e, ds[i]? = some (.tuple [d, e]) ∧ Rp K g0.F x d ∧ Rp K g0.F y e) : WalkOk K g0 J ds where
  goes := fun i g hi hs ok => w.goes i g.H (by omega) (hG g hs ok)
  stops := fun g hs ok => by rw [hn]; exact w.stops g.H (hG g hs ok)
  yields := fun i g x H' hi hs ok y => by
    obtain ⟨T, u, v, rfl, hT, rfl, h1, h2⟩ := w.yields i g.H x H' (by omega) (hG g hs ok) y
    obtain ⟨d, e, e1, r1, r2⟩ := hd i u v (by omega) h1 h2
    refine ⟨g.put T (.tup [u, v]), _, rfl, rfl, Gs.put_ok ok hT, Gs.put_le ok hT, e1, .tup (.inl (.inl upd_same)) (.cons ?_ (.cons ?_ .nil))⟩
    · exact (r1.mono hs).mono (same_upd (ok.noneF hT))
    · exact (r2.mono hs).mono (same_upd (ok.noneF hT))
theorem wo_fn {J : It} {n : Nat} {f : Nat → V} (w : Walk J n (fun _ => True) (YFn f)) (hn : ds.length = n) (hd : ∀ i, i < n → ∃ d, ds[i]? = some d ∧ ∀ F : Hp, Rp K F (f i) d) : WalkOk K g0 J ds where
  goes := fun i g hi hs ok => w.goes i g.H (by omega) trivial
  stops := fun g hs ok => by rw [hn]; exact w.stops g.H trivial
  yields := fun i g x H' hi hs ok y => by
    obtain ⟨e, rfl⟩ := w.yields i g.H x H' (by omega) trivial y
    subst e
    obtain ⟨d, e1, r1⟩ := hd i (by omega)
    exact ⟨g, d, rfl, rfl, ok, Gs.Le.refl g, e1, r1 _⟩
theorem walk_enumT {K : PySem.W.Frag} {a : Addr} {xs : List V} : Walk (ItTe K a) xs.length (fun H => SqT K H a xs) (YPair (fun i => some (.int (i : Nat))) (fun i => xs[i]?)) :=
  ⟨fun i H hi q => ⟨xs, xs[i], q, by simp [hi]⟩, fun H q => ⟨xs, q, rfl⟩, fun i H x H' hi q y => by
    obtain ⟨T, u, e1, e2, e3, h⟩ := y
    exact ⟨T, _, u, e1, e2, e3, rfl, h xs q⟩⟩
theorem walk_zipT {K : PySem.W.Frag} {a b : Addr} {xs ys : List V} {n : Nat} (hn : n = min xs.length ys.length) : Walk (RZ.ItzT K a b) n (fun H => SqT K H a xs ∧ SqT K H b ys) (YPair (fun i => xs[i]?) (fun i => ys[i]?)) :=
  ⟨fun i H hi q => ⟨xs, ys, xs[i]'(by omega), ys[i]'(by omega), q.1, q.2, by simp [show i < xs.length by omega], by simp [show i < ys.length by omega]⟩, fun H q => ⟨xs, ys, q.1, q.2, by omega⟩, fun i H x H' hi q y => by
    obtain ⟨T, u, v, e1, e2, e3, h1, h2⟩ := y
    exact ⟨T, u, v, e1, e2, e3, h1 xs q.1, h2 ys q.2⟩⟩
end
section
variable {X : Cx} {W : WX} {Γ : Ctx} {pos tpos : Pos} {tg a b c e : Expr}
theorem wo_scr {K : PySem.W.Frag} {g0 : Gs} {a : Addr} {ns : List Int} (ok0 : ∀ g : Gs, Same g0.F g.F → g.Ok → SqL K g.H a (ns.map V.int)) : WalkOk K g0 (Itl K a) (ns.map PyData.int) where
  goes := fun i g hi hs ok => by
    rw [List.length_map] at hi
    have hx : i < (ns.map V.int).length := by rw [List.length_map]; exact hi
    exact ⟨ns.map V.int, (ns.map V.int)[i], ok0 g hs ok, by simp [hi]⟩
  stops := fun g hs ok => ⟨ns.map V.int, ok0 g hs ok, by rw [List.length_map, List.length_map]; exact Nat.le_refl _⟩
  yields := fun i g x H' hi hs ok y => by
    obtain ⟨e, y⟩ := y
    subst e
    rw [List.length_map] at hi
    have hx := y _ (ok0 g hs ok)
    rw [List.getElem?_map, List.getElem?_eq_getElem hi] at hx
    cases hx
    exact ⟨g, .int ns[i], rfl, rfl, ok, Gs.Le.refl g, by rw [List.getElem?_map, List.getElem?_eq_getElem hi]; rfl, .int _⟩
theorem sqL_mono {K : PySem.W.Frag} {F F' : Hp} (e : Same F F') {a : Addr} {xs : List V} (h : SqL K F a xs) : SqL K F' a xs := by
  rcases h with (h | ⟨o, h⟩) | h
  · exact .inl (.inl (e _ _ h))
  · exact .inl (.inr ⟨o, e _ _ h⟩)
  · exact .inr h
theorem xi_it {x : E} (he : PE X e (tM X W (evE Γ x))) : PI X tg e (tI X W (evI Γ (.it x))) := by
  refine ⟨fun pins s σ H Rr I hw => ?_⟩
  obtain ⟨g, ρ, rfl, ok, er, hp⟩ := hw
  simp only [evI] at hp
  have hw : tM X W (evE Γ x) σ g.H fun v H1 => ∃ (g1 : Gs) (ds : List PyData), g1.H = H1 ∧ g1.Ok ∧ (∀ J, WalkOk X.K g1 J ds → Rr J g1.H) ∧ ((∃ (a : Addr) (ns : List Int), v = .ref a ∧ SqL X.K g1.F a (ns.map V.int) ∧ ds = ns.map PyData.int) ∨ ∃ d, Rp X.K g1.F v d ∧ items d = some ds) := by
    refine ⟨g, ρ, rfl, ok, er, (bind_post hp).mono (fun r S' q => ?_) fun _ _ q => q⟩
    rintro v g1 rfl ok1 le1 rep
    obtain ⟨ds, ed, q⟩ := of_post q
    have other : (r.d.bind items = some ds) → ∃ (g2 : Gs) (ds : List PyData), g2.H = g1.H ∧ g2.Ok ∧ (∀ J, WalkOk X.K g2 J ds → Rr J g2.H) ∧ ((∃ (a : Addr) (ns : List Int), v = .ref a ∧ SqL X.K g2.F a (ns.map V.int) ∧ ds = ns.map PyData.int) ∨ ∃ d, Rp X.K g2.F v d ∧ items d = some ds) := fun e => by
      cases hd : r.d with
      | none => rw [hd] at e; cases e
      | some d =>
        rw [hd] at e
        obtain ⟨g2, e1, e2, ok2, le2, _, r2⟩ := RepR.hold ok1 le1 rep hd
        exact ⟨g2, ds, e2, ok2, fun J wk => q J g2 e1 ok2 le2 wk, .inr ⟨d, r2, e⟩⟩
    cases r with
    | scr ns =>
      cases ed
      obtain ⟨a, rfl, sq⟩ := rep
      exact ⟨g1, _, rfl, ok1, fun J wk => q J g1 rfl ok1 le1 wk, .inl ⟨a, ns, rfl, sq, rfl⟩⟩
    | val d => exact other ed
    | own ds => exact other ed
    | src => exact other ed
  refine thn (he.run pins s σ g.H _ I hw) fun v s1 hq => ?_
  obtain ⟨xv, H1, I1, rx, g1, ds, rfl, ok1, q, hk⟩ := hq
  rcases hk with ⟨a, ns, rfl, sq, rfl⟩ | ⟨d, r1, ed⟩
  · cases rx
    obtain ⟨its, rv, lp, hz⟩ := I1.list (sqL_mono ok1.sub sq)
    refine wpAny_pyIter_list lp.isList (pi_one (tk := s1.toks) I1 _ (turn_list _ _) ⟨_, Heap.get?_push_size _ rfl, rfl, rfl⟩ (q _ ?_))
    exact wo_scr fun g hs ok => sqL_mono ok.sub (sqL_mono hs sq)
  unfold items at ed
  split at ed
  · cases ed
    cases r1 with
    | lst ha ra =>
    cases rx
    obtain ⟨its, rv, lp, hz⟩ := I1.list (SqL.of (K := X.K) (ok1.sub _ _ ha))
    exact wpAny_pyIter_list lp.isList (pi_one (tk := s1.toks) I1 _ (turn_list _ _) ⟨_, Heap.get?_push_size _ rfl, rfl, rfl⟩ (q _ (wo_list ha ra)))
  · cases ed
    cases r1 with
    | tup ha ra =>
    cases rx
    obtain ⟨its, rv, lp, hz⟩ := I1.tuple (sqT_mono ok1.sub ha)
    exact wpAny_pyIter_tuple (show s1.heap.IsTuple _ its.toArray from lp) (pi_one (tk := s1.toks) I1 _ (turn_tuple _ _) ⟨_, Heap.get?_push_size _ rfl, rfl, rfl⟩ (q _ (wo_tup ha ra)))
  · cases ed
    cases r1
    obtain ⟨t, rfl⟩ := rx
    rename_i z
    cases hz : z.cps.all (· < 128)
    · exact wpAny_pyIter_wide hz (pi_one (tk := s1.toks) I1 _ (turn_str _ z t "str_iterator" (.inr rfl)) ⟨_, Heap.get?_push_size _ rfl, rfl, rfl⟩ (q _ wo_str))
    · exact wpAny_pyIter_ascii hz (pi_one (tk := s1.toks) I1 _ (turn_str _ z t "str_ascii_iterator" (.inl rfl)) ⟨_, Heap.get?_push_size _ rfl, rfl, rfl⟩ (q _ wo_str))
  · cases ed
theorem rng_walk {ds as : List PyData} (h : rng as = some ds) : (∃ n : Int, as = [.int n] ∧ small n = true ∧ ds = (List.range n.toNat).map fun (i : Nat) => PyData.int (i : Nat)) ∨
    (∃ lo n : Int, as = [.int lo, .int n] ∧ small lo = true ∧ small n = true ∧ ds = (List.range (n - lo).toNat).map fun (i : Nat) => PyData.int (lo + i)) ∨
    (∃ lo n : Int, as = [.int lo, .int n, .int (-1)] ∧ small lo = true ∧ small n = true ∧ ds = (List.range (lo - n).toNat).map fun (i : Nat) => PyData.int (lo + i * (-1))) := by
  unfold rng at h
  split at h
  · split at h
    · cases h; exact .inl ⟨_, rfl, by assumption, rfl⟩
    · cases h
  · split at h
    · rename_i hs
      cases h
      simp only [Bool.and_eq_true] at hs
      exact .inr (.inl ⟨_, _, rfl, hs.1, hs.2, rfl⟩)
    · cases h
  · split at h
    · rename_i hs
      cases h
      simp only [Bool.and_eq_true, decide_eq_true_eq] at hs
      obtain ⟨⟨h1, h2⟩, rfl⟩ := hs
      exact .inr (.inr ⟨_, _, rfl, h1, h2, rfl⟩)
    · cases h
  · cases h
theorem get_range_map {f : Nat → PyData} {n i : Nat} (h : i < n) : ((List.range n).map f)[i]? = some (f i) := by
  rw [List.getElem?_map, List.getElem?_range h]
  rfl
theorem small_of {i : Int} (h : small i = true) : -(2 ^ 62) ≤ i ∧ i < 2 ^ 62 := of_decide_eq_true h
theorem rp3 {K : PySem.W.Frag} {F : Hp} {vs : List V} {d e f : PyData} (h : RpAll K F vs [d, e, f]) : ∃ v w z, vs = [v, w, z] ∧ Rp K F v d ∧ Rp K F w e ∧ Rp K F z f := by
  cases h with
  | cons h r =>
    obtain ⟨w, z, rfl, q⟩ := rp2 r
    exact ⟨_, _, _, rfl, h, q⟩
def Es.len : Es → Nat
  | .nil => 0
  | .cons _ r => r.len + 1
theorem evDs_len {Γ : Ctx} : ∀ (xs : Es) (ρ : Env) (S : SS) {P : List PyData → SS → Prop} {Ex : Exc → SS → Prop}, ((evDs Γ xs ρ) S).Post P Ex → ((evDs Γ xs ρ) S).Post (fun ds S' => ds.length = xs.len ∧ P ds S') Ex
  | .nil, ρ, S, P, Ex, h => by
    simp only [evDs] at h ⊢
    exact ⟨rfl, h⟩
  | .cons x xs, ρ, S, P, Ex, h => by
    simp only [evDs] at h ⊢
    refine Out.post_bind.mpr ((bind_post h).mono (fun d S1 q => ?_) fun _ _ q => q)
    refine Out.post_bind.mpr ((evDs_len xs ρ S1 (bind_post q)).mono (fun ds S2 q => ?_) fun _ _ q => q)
    exact ⟨by rw [List.length_cons, q.1]; rfl, q.2⟩
theorem tAs_mono {m : Env → M (List PyData)} {σ : L2.St} {H : Hp} {Q Q' : List V → Hp → Prop} (h : tAs X W m σ H Q) (hq : ∀ vs H, Q vs H → Q' vs H) : tAs X W m σ H Q' := by
  obtain ⟨g, ρ, e, ok, er, hp⟩ := h
  exact ⟨g, ρ, e, ok, er, hp.mono (fun ds S q vs g' e ok' le r => hq _ _ (q vs g' e ok' le r)) fun _ _ q => q⟩
theorem xi_rngA (free : X.mg "range" = none) (hg : Gl X "range") {p : Pos} {xs : Es} {es : List Expr} (hl : xs.len = es.length) (hx : PA X es (tAs X W (evDs Γ xs))) (hs : ∀ e r, starEach (e :: r) X.env = (false, eval e X.env) :: starEach r X.env ∨ ¬ e ∈ es)
    (h3 : es.length = 1 ∨ es.length = 2 ∨ es.length = 3) : PI X tg (.Call (.Name "range" p) es [] pos) (tIa X W (evI Γ (.rng xs))) := by
  have fin : ∀ σ H Rr, tIa X W (evI Γ (.rng xs)) σ H Rr → tAs X W (evDs Γ xs) σ H fun vs H1 => ∃ (as ds : List PyData), as.length = es.length ∧ (∃ g : Gs, g.H = H1 ∧ g.Ok ∧ RpAll X.K g.F vs as ∧ ∀ J, (∀ g0, WalkOk X.K g0 J ds) → Rr J H1) ∧ rng as = some ds := by
    rintro σ H Rr ⟨g, ρ, rfl, ok, er, hp⟩
    simp only [evI] at hp
    refine ⟨g, ρ, rfl, ok, er, (evDs_len xs ρ g.V (bind_post hp)).mono (fun as S' q => ?_) fun _ _ q => q⟩
    rintro vs g1 rfl ok1 le1 r1
    obtain ⟨q0, q⟩ := q
    obtain ⟨ds, ed, q⟩ := of_post q
    exact ⟨as, ds, q0.trans hl, ⟨g1, rfl, ok1, r1, fun J wk => q J g1 rfl ok1 le1 wk⟩, ed⟩
  have g0 : ∀ {as : List PyData} {vs : List V} {H1 : Hp} {ds : List PyData} {Rr : It → Hp → Prop}, (∃ g : Gs, g.H = H1 ∧ g.Ok ∧ RpAll X.K g.F vs as ∧ ∀ J, (∀ g0, WalkOk X.K g0 J ds) → Rr J H1) → ∃ F : Hp, RpAll X.K F vs as ∧ ∃ g : Gs, ∀ J, (∀ g0, WalkOk X.K g0 J ds) → Rr J H1 := fun ⟨g, _, _, r, q⟩ => ⟨g.F, r, g, q⟩
  match es, h3 with
  | [a], _ =>
    refine PI.imp (pi_range1 hg free hx ((hs a []).resolve_right (by simp))) fun σ H Rr hw => tAs_mono (fin σ H Rr hw) fun vs H1 q => ?_
    obtain ⟨as, ds, hlen, q, ed⟩ := q
    obtain ⟨F, r, g, wq⟩ := g0 q
    rcases rng_walk ed with ⟨n, rfl, s1, rfl⟩ | ⟨lo, n, rfl, _⟩ | ⟨lo, n, rfl, _⟩
    · obtain ⟨v, rfl, rv⟩ := rp1 r
      cases rv
      refine ⟨n, rfl, (small_of s1).1, (small_of s1).2, wq _ (fun _ => wo_fn walk_range (by simp) fun i hi => ⟨_, get_range_map hi, fun F => ?_⟩)⟩
      rw [Int.zero_add]
      exact .int _
    · cases hlen
    · cases hlen
  | [a, b], _ =>
    have h1 : starEach [a, b] X.env = [(false, eval a X.env), (false, eval b X.env)] := by
      rw [(hs a [b]).resolve_right (by simp), (hs b []).resolve_right (by simp)]
      rfl
    refine PI.imp (pi_range2 hg free hx h1 ((hs b []).resolve_right (by simp))) fun σ H Rr hw => tAs_mono (fin σ H Rr hw) fun vs H1 q => ?_
    obtain ⟨as, ds, hlen, q, ed⟩ := q
    obtain ⟨F, r, g, wq⟩ := g0 q
    rcases rng_walk ed with ⟨n, rfl, s1, rfl⟩ | ⟨lo, n, rfl, s1, s2, rfl⟩ | ⟨lo, n, rfl, _⟩
    · cases hlen
    · obtain ⟨v, w', rfl, rv, rw'⟩ := rp2 r
      cases rv
      cases rw'
      exact ⟨lo, n, rfl, ⟨(small_of s1).1, (small_of s1).2, (small_of s2).1, (small_of s2).2⟩, wq _ (fun _ => wo_fn walk_range (by simp) fun i hi => ⟨_, get_range_map hi, fun F => .int _⟩)⟩
    · cases hlen
  | [a, b, c], _ =>
    have h1 : starEach [c] X.env = [(false, eval c X.env)] := (hs c []).resolve_right (by simp)
    have h2 : starEach [b, c] X.env = [(false, eval b X.env), (false, eval c X.env)] := by
      rw [(hs b [c]).resolve_right (by simp), h1]
    have h3 : starEach [a, b, c] X.env = [(false, eval a X.env), (false, eval b X.env), (false, eval c X.env)] := by
      rw [(hs a [b, c]).resolve_right (by simp), h2]
    refine PI.imp (pi_range3 hg free hx ((hs a [b, c]).resolve_right (by simp)) (by rw [h2]; rfl)) fun σ H Rr hw => tAs_mono (fin σ H Rr hw) fun vs H1 q => ?_
    obtain ⟨as, ds, hlen, q, ed⟩ := q
    obtain ⟨F, r, g, wq⟩ := g0 q
    rcases rng_walk ed with ⟨n, rfl, s1, rfl⟩ | ⟨lo, n, rfl, s1, s2, rfl⟩ | ⟨lo, n, rfl, s1, s2, rfl⟩
    · cases hlen
    · cases hlen
    · obtain ⟨v, w', z, rfl, rv, rw', rz⟩ := rp3 r
      cases rv
      cases rw'
      cases rz
      exact ⟨lo, n, -1, _, rfl, RgC.neg (small_of s1).1 (small_of s1).2 (small_of s2).1 (small_of s2).2, wq _ (fun _ => wo_fn walk_rangeC (by simp) fun i hi => ⟨_, get_range_map hi, fun F => .int _⟩)⟩
theorem xi_rng (free : X.mg "range" = none) (hg : Gl X "range") {p : Pos} {xs : Es} {es : List Expr} (hl : xs.len = es.length) (hx : PA X es (tAs X W (evDs Γ xs))) (hs : ∀ e r, starEach (e :: r) X.env = (false, eval e X.env) :: starEach r X.env ∨ ¬ e ∈ es)
    (h3 : es.length = 1 ∨ es.length = 2 ∨ es.length = 3) : PI X tg (.Call (.Name "range" p) es [] pos) (tI X W (evI Γ (.rng xs))) :=
  PI.imp (xi_rngA free hg hl hx hs h3) fun σ H Rr hw => by
    obtain ⟨g, ρ, e, ok, er, hp⟩ := hw
    exact ⟨g, ρ, e, ok, er, hp.mono (fun ds S q J g' hs ok' le' wk => q J g' hs ok' le' (wk g')) fun _ _ q => q⟩
/-! ### enumerate, zip -/
def iEnumA (K : PySem.W.Frag) (ta : TA) : TI := fun σ H Rr => ta σ H fun vs H1 => ∃ a xs, vs = [.ref a] ∧ ((SqL K H1 a xs ∧ Rr (Ite K a) H1) ∨ (SqT K H1 a xs ∧ Rr (ItTe K a) H1))
theorem pi_enumA {ta : TA} {p : Pos} {elts : List Expr} {kk : Nat} (hg : Gl X "enumerate") (hm : X.mg "enumerate" = none) (ha : PA X [e] ta) (hs : starEach [e] X.env = [(false, eval e X.env)]) :
    PI X (.Tuple elts kk tpos) (.Call (.Name "enumerate" p) [e] [] pos) (iEnumA X.K ta) := by
  refine ⟨fun pins s σ H Rr I h => ?_⟩
  refine Call_ (ld_blt I hg hm boot_enumerate (PyProof.Rows.callWith_type1 (thn (ha.run pos pins s σ H _ I h) fun us s1 hq => ?_) hs rfl))
  obtain ⟨vs, H1, I1, r1, a, xs, rfl, q⟩ := hq
  obtain ⟨u, rfl, ru⟩ := Vals.one r1
  cases ru
  have fresh2 : ∀ b, b ∈ [s1.heap.objs.size + 1, s1.heap.objs.size] → FpOk X pins H1 b := fun b hb => by
    have hle : s1.heap.objs.size ≤ b := by
      rcases List.mem_cons.mp hb with z | z
      · rw [z]; exact Nat.le_add_right _ _
      · have z' : b = s1.heap.objs.size := by simpa using z
        rw [z']; exact Nat.le_refl _
    exact I1.fpOk hle (I1.hok.fresh hle)
  rcases q with ⟨sq, q⟩ | ⟨sq, q⟩
  · obtain ⟨its, rv, lp, hz⟩ := I1.list sq
    refine call_enumerate_list lp.isList fun h' he hit hsz hk => wpAny_pyIter_enum he ?_
    exact ⟨s1.heap.objs.size + 1, [s1.heap.objs.size + 1, s1.heap.objs.size], _, _, H1, rfl, I1.kept (t' := s1.toks) hk, turn_enum a (s1.heap.objs.size + 1) s1.heap.objs.size, ⟨⟨.none, he⟩, hit, Nat.succ_ne_self _⟩, fresh2, q⟩
  · obtain ⟨its, rv, tp, hz⟩ := I1.tuple sq
    refine call_enum_tup tp fun h' he hit hk => wpAny_pyIter_enum he ?_
    exact ⟨s1.heap.objs.size + 1, [s1.heap.objs.size + 1, s1.heap.objs.size], _, _, H1, rfl, I1.kept (t' := s1.toks) hk, turn_enumT a (s1.heap.objs.size + 1) s1.heap.objs.size, ⟨⟨.none, he⟩, hit, Nat.succ_ne_self _⟩, fresh2, q⟩
theorem pa_one {t : TE} (h : PE X e t) (hs : starEach [e] X.env = [(false, eval e X.env)]) : PA X [e] (fun σ H Q => t σ H fun v H1 => Q [v] H1) := pa_cons h pa_nil hs
theorem xi_enum (free : X.mg "enumerate" = none) (hg : Gl X "enumerate") {p : Pos} {x : E} {elts : List Expr} {kk : Nat} (hx : PE X e (tM X W (evE Γ x))) (hs : starEach [e] X.env = [(false, eval e X.env)]) :
    PI X (.Tuple elts kk tpos) (.Call (.Name "enumerate" p) [e] [] pos) (tI X W (evI Γ (.enum x))) := by
  refine PI.imp (pi_enumA hg free (pa_one (pe_D hx) hs) hs) fun σ H Rr hw => ?_
  obtain ⟨g, ρ, rfl, ok, er, hp⟩ := hw
  simp only [evI] at hp
  refine ⟨g, ρ, rfl, ok, er, (bind_post hp).mono (fun d S' q => ?_) fun _ _ q => q⟩
  rintro v g1 rfl ok1 le1 r1
  obtain ⟨ds, ed, q⟩ := of_post q
  have q : ∀ J, WalkOk X.K g1 J ds → Rr J g1.H := fun J wk => q J g1 rfl ok1 le1 wk
  have pair : ∀ {xs : List V} {es : List PyData} (i : Nat) (u v : V), RpAll X.K g1.F xs es → i < xs.length → (fun (i : Nat) => some (V.int (i : Nat))) i = some u → (fun (i : Nat) => xs[i]?) i = some v → ∃ d e, (enumAt 0 es)[i]? = some (.tuple [d, e]) ∧ Rp X.K g1.F u d ∧ Rp X.K g1.F v e := by
    intro xs es i u v ra hi h1 h2
    obtain ⟨z, ez, rz⟩ := ra.getV h2
    cases h1
    refine ⟨.int (i : Nat), z, ?_, .int _, rz⟩
    rw [enumAt_get, ez, Nat.zero_add]
    rfl
  unfold enum at ed
  split at ed
  · cases ed
    cases r1 with
    | lst ha ra =>
    refine ⟨_, _, rfl, .inl ⟨SqL.of (ok1.sub _ _ ha), q _ (wo_pair walk_enum (by rw [enumAt_length, ra.length]) (fun g hs ok => SqL.of (ok.sub _ _ (hs _ _ ha))) fun i u v hi h1 h2 => pair i u v ra hi h1 h2)⟩⟩
  · cases ed
    cases r1 with
    | tup ha ra =>
    refine ⟨_, _, rfl, .inr ⟨sqT_mono ok1.sub ha, q _ (wo_pair walk_enumT (by rw [enumAt_length, ra.length]) (fun g hs ok => sqT_mono ok.sub (sqT_mono hs ha)) fun i u v hi h1 h2 => pair i u v ra hi h1 h2)⟩⟩
  · cases ed
theorem xi_zip (free : X.mg "zip" = none) (hg : Gl X "zip") {p : Pos} {x y : E} {elts : List Expr} {kk : Nat} (hx : PE X a (tM X W (evE Γ x))) (hy : PE X b (tM X W (evE Γ y)))
    (hs : starEach [a, b] X.env = (false, eval a X.env) :: starEach [b] X.env) (hs2 : starEach [b] X.env = [(false, eval b X.env)]) :
    PI X (.Tuple elts kk tpos) (.Call (.Name "zip" p) [a, b] [] pos) (tI X W (evI Γ (.zip x y))) := by
  refine PI.imp (RZ.pi_zipA hg free (pa_cons (pe_D hx) (pa_one (pe_D hy) hs2) hs) hs (by rw [hs2]; rfl)) fun σ H Rr hw => ?_
  obtain ⟨g, ρ, rfl, ok, er, hp⟩ := hw
  simp only [evI] at hp
  refine ⟨g, ρ, rfl, ok, er, (bind_post hp).mono (fun d S' q => ?_) fun _ _ q => q⟩
  rintro v g1 rfl ok1 le1 r1
  refine ⟨g1, ρ, rfl, ok1, er.mono le1, (bind_post q).mono (fun e S' q => ?_) fun _ _ q => q.mono le1⟩
  rintro u g2 rfl ok2 le2 r2
  obtain ⟨ds, ed, q⟩ := of_post q
  have q : ∀ J, WalkOk X.K g2 J ds → Rr J g2.H := fun J wk => q J g2 rfl ok2 (le1.trans le2) wk
  have r1 := r1.mono le2.fro
  have pair : ∀ {xs ys : List V} {es fs : List PyData} (i : Nat) (u v : V), RpAll X.K g2.F xs es → RpAll X.K g2.F ys fs → (fun (i : Nat) => xs[i]?) i = some u → (fun (i : Nat) => ys[i]?) i = some v → ∃ d e, (List.zipWith (fun a b => PyData.tuple [a, b]) es fs)[i]? = some (.tuple [d, e]) ∧ Rp X.K g2.F u d ∧ Rp X.K g2.F v e := by
    intro xs ys es fs i u v ra rb h1 h2
    obtain ⟨z, ez, rz⟩ := ra.getV h1
    obtain ⟨z', ez', rz'⟩ := rb.getV h2
    exact ⟨z, z', by rw [List.getElem?_zipWith, ez, ez'], rz, rz'⟩
  unfold zipD at ed
  split at ed
  · cases ed
    cases r1 with
    | lst ha ra =>
    cases r2 with
    | lst hb rb =>
    refine ⟨_, _, _, _, rfl, .inl ⟨SqL.of (ok2.sub _ _ ha), SqL.of (ok2.sub _ _ hb), q _ (wo_pair (walk_zip rfl) (by rw [List.length_zipWith, ra.length, rb.length]) (fun g hs ok => ⟨SqL.of (ok.sub _ _ (hs _ _ ha)), SqL.of (ok.sub _ _ (hs _ _ hb))⟩) fun i u v hi h1 h2 => pair i u v ra rb h1 h2)⟩⟩
  · cases ed
    cases r1 with
    | tup ha ra =>
    cases r2 with
    | tup hb rb =>
    refine ⟨_, _, _, _, rfl, .inr ⟨sqT_mono ok2.sub ha, sqT_mono ok2.sub hb, q _ (wo_pair (walk_zipT rfl) (by rw [List.length_zipWith, ra.length, rb.length]) (fun g hs ok => ⟨sqT_mono ok.sub (sqT_mono hs ha), sqT_mono ok.sub (sqT_mono hs hb)⟩) fun i u v hi h1 h2 => pair i u v ra rb h1 h2)⟩⟩
  · cases ed
end
end Pv

/-! Pv11 -/
set_option Elab.async false
set_option linter.all false
set_option maxRecDepth 100000
set_option maxHeartbeats 4000000
namespace Pv
open PySem PySem.Spec PyProof.Rows L2
/-! ### targets -/
def LocX (X : Cx) (x : Str) : Prop := Loc X.env.scope x ∧ (X.fn x = true ∨ X.env.scope.names.lookup x = some .local)
def tgX (X : Cx) : Expr → Prop
  | .Name x _ => LocX X x
  | .Tuple es _ _ => ∀ x p, Expr.Name x p ∈ es → LocX X x
  | _ => True
def gNs : List Nat → TGs
  | [] => gNil
  | j :: js => gCons (gName j) (gNs js)
def tgT (K : PySem.W.Frag) : Tg → TG
  | .one j => gName j
  | .many js => gTup K js.length (gNs js)
def tgVars : Tg → List Nat
  | .one j => [j]
  | .many js => js
theorem ixOf_get {N : List Str} {x : Str} {i : Nat} (h : ixOf N x = some i) : N[i]? = some x := by
  unfold ixOf at h
  rw [List.findIdx?_eq_some_iff_getElem] at h
  obtain ⟨hi, h1, _⟩ := h
  rw [List.getElem?_eq_getElem hi]
  exact congrArg some (of_decide_eq_true h1)
theorem nmIx_some {N : List Str} {e : Expr} {i : Nat} (h : nmIx N e = some i) : ∃ x p, e = .Name x p ∧ N[i]? = some x := by
  unfold nmIx at h
  split at h
  · exact ⟨_, _, rfl, ixOf_get h⟩
  · cases h
theorem mapM_cons {α β : Type} {f : α → Option β} {a : α} {as : List α} {bs : List β} (h : (a :: as).mapM f = some bs) : ∃ b r, f a = some b ∧ as.mapM f = some r ∧ bs = b :: r := by
  rw [List.mapM_cons] at h
  cases q : f a with
  | none => rw [q] at h; cases h
  | some b =>
    rw [q] at h
    cases q2 : as.mapM f with
    | none => rw [q2] at h; cases h
    | some r =>
      rw [q2] at h
      cases h
      exact ⟨b, r, rfl, rfl, rfl⟩
section
variable {X : Cx} {pos : Pos}
theorem pgs_ns (nd : X.N.Nodup) : ∀ (es : List Expr) (js : List Nat), es.mapM (nmIx X.N) = some js → (∀ x p, Expr.Name x p ∈ es → LocX X x) →
    PGs X es (gNs js) ∧ (assignEach es X.env).length = js.length ∧ (assignEach es X.env).findIdx? (·.1) = none
  | [], js, h, _ => by
    rw [List.mapM_nil] at h
    cases h
    exact ⟨pgs_nil, rfl, rfl⟩
  | e :: es, js, h, hl => by
    obtain ⟨j, r, e1, e2, rfl⟩ := mapM_cons h
    obtain ⟨x, p, rfl, hN⟩ := nmIx_some e1
    obtain ⟨h1, h2, h3⟩ := pgs_ns nd es r e2 fun x p q => hl x p (List.mem_cons_of_mem _ q)
    obtain ⟨l1, l2⟩ := hl x p List.mem_cons_self
    have ea : assignEach (.Name x p :: es) X.env = (false, assign (.Name x p) X.env) :: assignEach es X.env := rfl
    refine ⟨pgs_cons (pg_name nd hN l1 l2) h1 rfl, by rw [ea, List.length_cons, h2]; rfl, ?_⟩
    rw [ea, List.findIdx?_cons, h3]
    rfl
theorem pg_tg (co : COk X) (nd : X.N.Nodup) {e : Expr} {t : Tg} (h : tgOf X.N e = some t) (hl : tgX X e) : PG X e (tgT X.K t) := by
  unfold tgOf at h
  split at h
  · rename_i x p
    cases q : ixOf X.N x with
    | none => rw [q] at h; cases h
    | some i =>
      rw [q] at h
      cases h
      exact pg_name nd (ixOf_get q) hl.1 hl.2
  · rename_i es k p
    cases q : es.mapM (nmIx X.N) with
    | none => rw [q] at h; cases h
    | some js =>
      rw [q] at h
      cases h
      obtain ⟨h1, h2, h3⟩ := pgs_ns nd es js q hl
      exact pg_tup co.calm h1 h2 h3
  · cases h
end
section
variable {K : PySem.W.Frag} {Φ : L2.St → Env → Prop}
theorem bind_many {F : Hp} {js0 : List Nat} (step : ∀ σ ρ j v d, j ∈ js0 → Φ σ ρ → Rp K F v d → Φ (σ.set j (some v)) (setV ρ j (.val d))) : ∀ (js : List Nat) (xs : List V) (ds : List PyData) (σ : L2.St) (ρ ρ' : Env), (∀ j ∈ js, j ∈ js0) → RpAll K F xs ds → bindMany js ds ρ = some ρ' → Φ σ ρ →
    ∃ σ', Φ σ' ρ' ∧ js.length = xs.length ∧ ∀ (H : Hp) (Q : L2.St → Hp → Prop), Q σ' H → gNs js xs σ H Q
  | [], xs, ds, σ, ρ, ρ', _, r, h, p => by
    cases r with
    | nil =>
      simp only [bindMany, Option.some.injEq] at h
      subst h
      exact ⟨σ, p, rfl, fun H Q q => ⟨rfl, q⟩⟩
    | cons _ _ => simp [bindMany] at h
  | j :: js, xs, ds, σ, ρ, ρ', hj, r, h, p => by
    cases r with
    | nil => simp [bindMany] at h
    | cons r1 rr =>
      simp only [bindMany] at h
      obtain ⟨σ', p', hl, q'⟩ := bind_many step js _ _ _ _ _ (fun i hi => hj i (List.mem_cons_of_mem _ hi)) rr h (step σ ρ j _ _ (hj j List.mem_cons_self) p r1)
      exact ⟨σ', p', by rw [List.length_cons, List.length_cons, hl], fun H Q q => ⟨_, _, rfl, q' H Q q⟩⟩
theorem bind_tg {g : Gs} {t : Tg} {v : V} {d : PyData} {σ : L2.St} {ρ ρ' : Env} (ok : g.Ok) (step : ∀ σ ρ j v d, j ∈ tgVars t → Φ σ ρ → Rp K g.F v d → Φ (σ.set j (some v)) (setV ρ j (.val d))) (r : Rp K g.F v d) (h : bindTg t d ρ = some ρ') (p : Φ σ ρ) :
    ∃ σ', Φ σ' ρ' ∧ ∀ (Q : L2.St → Hp → Prop), Q σ' g.H → tgT K t v σ g.H Q := by
  cases t with
  | one j =>
    simp only [bindTg, Option.some.injEq] at h
    subst h
    exact ⟨_, step σ ρ j v d List.mem_cons_self p r, fun Q q => q⟩
  | many js =>
    cases r with
    | tup hT ra =>
      simp only [bindTg] at h
      obtain ⟨σ', p', hl, q'⟩ := bind_many step js _ _ _ _ _ (fun i hi => hi) ra h p
      exact ⟨σ', p', fun Q q => ⟨_, _, rfl, sqT_mono ok.sub hT, hl.symm, q' g.H Q q⟩⟩
    | _ => simp [bindTg] at h
end
/-! ### the names of a comprehension -/
theorem wipe_get (σ : L2.St) : ∀ (vs : List Nat) (i : Nat), (wipe σ vs)[i]? = if i ∈ vs then σ[i]?.map (fun _ => none) else σ[i]?
  | [], i => by simp [wipe]
  | v :: vs, i => by
    unfold wipe
    rw [List.getElem?_set, wipe_length]
    by_cases h : v = i
    · subst h
      rw [if_pos rfl, if_pos List.mem_cons_self]
      by_cases hl : v < σ.length
      · rw [if_pos hl, List.getElem?_eq_getElem hl]; rfl
      · rw [if_neg hl, List.getElem?_eq_none (Nat.le_of_not_lt hl)]; rfl
    · rw [if_neg h, wipe_get σ vs i]
      by_cases hm : i ∈ vs
      · rw [if_pos hm, if_pos (List.mem_cons_of_mem _ hm)]
      · rw [if_neg hm, if_neg]
        intro q
        rcases List.mem_cons.mp q with q | q
        · exact h q.symm
        · exact hm q
theorem wipe_set {σ : L2.St} {vs : List Nat} {j : Nat} {o : Option V} (h : j ∈ vs) : wipe (σ.set j o) vs = wipe σ vs := by
  apply List.ext_getElem?
  intro i
  rw [wipe_get, wipe_get]
  by_cases hm : i ∈ vs
  · rw [if_pos hm, if_pos hm, List.getElem?_set]
    by_cases e : j = i
    · subst e
      rw [if_pos rfl]
      by_cases hl : j < σ.length
      · rw [if_pos hl, List.getElem?_eq_getElem hl]; rfl
      · rw [if_neg hl, List.getElem?_eq_none (Nat.le_of_not_lt hl)]
    · rw [if_neg e]
  · rw [if_neg hm, if_neg hm, List.getElem?_set_ne]
    intro e
    subst e
    exact hm h
theorem wipe_wipe (σ : L2.St) (vs : List Nat) : wipe (wipe σ vs) vs = wipe σ vs := by
  apply List.ext_getElem?
  intro i
  rw [wipe_get, wipe_get]
  by_cases hm : i ∈ vs
  · rw [if_pos hm, if_pos hm]
    cases σ[i]? <;> rfl
  · rw [if_neg hm, if_neg hm]
theorem EnvR.set {K : PySem.W.Frag} {g : Gs} {σ : L2.St} {ρ : Env} (h : EnvR K g σ ρ) {j : Nat} {v : V} {d : PyData} (r : Rp K g.F v d) : EnvR K g (σ.set j (some v)) (setV ρ j (.val d)) := by
  unfold setV
  refine ⟨by rw [List.length_set, List.length_set, h.1], fun i q e => ?_⟩
  rw [List.getElem?_set] at e
  by_cases hj : j = i
  · subst hj
    rw [if_pos rfl] at e
    split at e
    · cases e
      refine .inr ⟨v, ?_, fun _ z => (by cases z), r⟩
      rw [List.getElem?_set, if_pos rfl, if_pos (by rw [← h.1]; assumption)]
    · cases e
  · rw [if_neg hj] at e
    rw [List.getElem?_set_ne hj]
    exact h.2 i q e
theorem EnvR.setNone {K : PySem.W.Frag} {g : Gs} {σ : L2.St} {ρ : Env} (h : EnvR K g σ ρ) (j : Nat) : EnvR K g (σ.set j none) (ρ.set j none) := by
  refine ⟨by rw [List.length_set, List.length_set, h.1], fun i q e => ?_⟩
  rw [List.getElem?_set] at e
  by_cases hj : j = i
  · subst hj
    rw [if_pos rfl] at e
    split at e <;> cases e
  · rw [if_neg hj] at e
    rw [List.getElem?_set_ne hj]
    exact h.2 i q e
theorem EnvR.clr {K : PySem.W.Frag} {g : Gs} {σ : L2.St} {ρ : Env} (h : EnvR K g σ ρ) : ∀ vs : List Nat, EnvR K g (wipe σ vs) (Pv.clr ρ vs)
  | [] => h
  | v :: vs => (EnvR.clr h vs).setNone v
/-! ### comprehensions -/
def noW : WX := fun _ _ _ _ => False
theorem noexc_post {α : Type} {m : M α} {S : SS} {P : α → SS → Prop} {Ex : Exc → SS → Prop} {Ex' : Exc → SS → Prop} (h : ((M.noexc m) S).Post P Ex) : (m S).Post P Ex' := by
  unfold M.noexc at h
  cases q : m S with
  | stuck => rw [q] at h; exact h.elim
  | ok a S' => rw [q] at h; exact h
  | exc e S' => rw [q] at h; exact h.elim
section
variable {X : Cx} {W : WX} {Γ : Ctx}
theorem evC_yes {Q : Bool → Hp → Prop} {σ : L2.St} {H : Hp} (h : tBt X W (evC Γ .nil) σ H Q) : Q true H := by
  obtain ⟨g, ρ, rfl, ok, er, hp⟩ := h
  simp only [evC] at hp
  exact (show ∀ g', g'.V = g.V → g'.Ok → g.Le g' → Q true g'.H from hp) g rfl ok (Gs.Le.refl g)
theorem PTs.imp {X : Cx} {e : List Expr} {t t' : TT} (h : PTs X e t) (hi : ∀ σ H Q, t' σ H Q → t σ H Q) : PTs X e t' := ⟨fun pins s σ H Q I hw => h.run pins s σ H Q I (hi σ H Q hw)⟩
theorem lc_imp {vs : List Nat} {it : I} {t : Tg} {c : Es} {e : E} (hin : ∀ j ∈ tgVars t, j ∈ vs) : ∀ σ H Q, tM X W (evE Γ (.comp vs t it c e)) σ H Q →
    tLc (tI X W (evI Γ it)) (tgT X.K t) (tBt X noW (evC Γ c)) (tD X noW fun ρ => asD (evE Γ e ρ)) vs σ H Q := by
  rintro σ H Q ⟨g, ρ, rfl, okg, er, hp⟩
  simp only [evE] at hp
  refine ⟨g, ρ, rfl, okg, er, (bind_post hp).mono (fun ds S' q => ?_) fun _ _ q => q⟩
  rintro J g1 rfl ok1 le1 wo D hD
  have hD0 : g.H D = none := le1.none hD
  let gD := g1.lay D (.lst [])
  have okD : gD.Ok := Gs.lay_ok ok1 (ok1.noneF hD) (ok1.nhas hD)
  have leD : g1.Le gD := Gs.lay_le ok1 hD
  generalize hbody : (fun d => M.noexc (do
      let ρ' ← M.of (bindTg t d (Pv.clr ρ vs))
      if ← evC Γ c ρ' then
        let y ← asD (evE Γ e ρ')
        pure (some y)
      else pure none)) = body at q
  let Wv : Nat → Nat → Hp → Prop := fun i m H => m = ds.length - i ∧ i ≤ ds.length ∧ ∃ (gi : Gs) (acc : List V) (ya : List PyData), gi.H = H ∧ gi.Ok ∧ g1.Le gi ∧ H D = some (.lst acc) ∧ gi.F D = none ∧ ¬ has gi.S D ∧ RpAll X.K gi.F acc ya ∧
    ((compLoop body (ds.drop i) ya) gi.V).Post (fun ys S => RFin X g Q (.own ys) S) fun _ _ => True
  refine ⟨Wv, ⟨ds.length, rfl, Nat.zero_le _, gD, [], [], rfl, okD, leD, upd_same, ok1.noneF hD, ok1.nhas hD, .nil, ?_⟩, ?_⟩
  · exact (bind_post q).mono (fun ys S q => q) fun _ _ _ => trivial
  rintro i m Hi ⟨rfl, hil, gi, acc, ya, rfl, oki, lei, hDi, hF, hS, ra, hq⟩
  by_cases hlt : i < ds.length
  · refine .inr ⟨wo.goes i gi hlt lei.fro oki, Wv (i + 1) (ds.length - (i + 1)), fun H' w => ⟨_, by omega, w⟩, fun x H' y => ?_⟩
    obtain ⟨g2, d, rfl, hS2, ok2, le2, hd, rx⟩ := wo.yields i gi x H' hlt lei.fro oki y
    have edrop : ds.drop i = d :: ds.drop (i + 1) := by
      rw [List.drop_eq_getElem_cons hlt]
      rw [List.getElem?_eq_getElem hlt] at hd
      cases hd
      rfl
    rw [edrop] at hq
    simp only [compLoop] at hq
    have hq := bind_post hq
    rw [← hbody] at hq
    have hq := noexc_post (Ex' := fun _ _ => False) hq
    rw [← hS2] at hq
    obtain ⟨ρ', hb, hq⟩ := of_post (bind_post hq)
    rw [hbody] at hq
    have le12 := (lei.trans le2)
    have er2 : EnvR X.K g2 (wipe σ vs) (Pv.clr ρ vs) := EnvR.clr (er.mono (le1.trans le12)) vs
    obtain ⟨σ2, ⟨er3, hw⟩, fin⟩ := bind_tg (Φ := fun σ' ρ' => EnvR X.K g2 σ' ρ' ∧ wipe σ' vs = wipe σ vs) ok2 (fun σ' ρ' j v d' hj p r => ⟨p.1.set r, by rw [wipe_set (hin j hj)]; exact p.2⟩) rx hb ⟨er2, wipe_wipe σ vs⟩
    refine fin _ ⟨hw, g2, ρ', rfl, ok2, er3, (bind_post hq).mono (fun b S3 q3 => ?_) fun _ _ q => q.elim⟩
    rintro g3 rfl ok3 le3
    have keepD : ∀ {gg : Gs}, gi.Le gg → gg.H D = some (.lst acc) ∧ gg.F D = none ∧ ¬ has gg.S D := fun {gg} l => by
      refine ⟨l.keep D _ hDi hS, l.new D hF (by rw [hDi]; simp), fun z => ?_⟩
      rcases l.srcs D z with z | z
      · exact hS z
      · rw [hDi] at z; cases z
    cases b with
    | true =>
      rw [if_pos rfl] at q3 ⊢
      refine ⟨g3, ρ', rfl, ok3, er3.mono le3, (bind_post q3).mono (fun yv S4 q4 => ?_) fun _ _ q => q.elim⟩
      rintro v g4 rfl ok4 le4 rv
      obtain ⟨k1, k2, k3⟩ := keepD ((le2.trans le3).trans le4)
      have q4 : ((if ya.length < line then compLoop body (ds.drop (i + 1)) (ya ++ [yv]) else M.stuck) g4.V).Post (fun ys S => RFin X g Q (.own ys) S) fun _ _ => True := q4
      by_cases hl : ya.length < line
      · rw [if_pos hl] at q4
        refine ⟨acc, k1, by rw [ra.length]; exact Nat.lt_of_lt_of_le hl (line_le (Nat.le_refl _)), rfl, hlt, g4.lay D (.lst (acc ++ [v])), acc ++ [v], ya ++ [yv], rfl, Gs.lay_ok ok4 k2 k3, Gs.lay_le0 ((lei.trans ((le2.trans le3).trans le4))) hD, upd_same, k2, k3, ?_, q4⟩
        exact RpAll.append (ra.mono ((le2.trans le3).trans le4).fro) (.cons rv .nil)
      · rw [if_neg hl] at q4
        exact q4.elim
    | false =>
      rw [if_neg Bool.false_ne_true] at q3 ⊢
      obtain ⟨k1, k2, k3⟩ := keepD (le2.trans le3)
      have q3 : ((compLoop body (ds.drop (i + 1)) ya) g3.V).Post (fun ys S => RFin X g Q (.own ys) S) fun _ _ => True := q3
      exact ⟨rfl, hlt, g3, acc, ya, rfl, ok3, lei.trans (le2.trans le3), k1, k2, k3, ra.mono (le2.trans le3).fro, q3⟩
  · have e : i = ds.length := by omega
    subst e
    rw [List.drop_length] at hq
    have hq : RFin X g Q (.own ya) gi.V := hq
    exact .inl ⟨wo.stops gi lei.fro oki, hq _ gi rfl oki (le1.trans lei) ⟨D, acc, rfl, hD0, hF, hS, hDi, ra⟩⟩
end
end Pv

/-! Pv12 -/
set_option Elab.async false
set_option linter.all false
set_option maxRecDepth 100000
set_option maxHeartbeats 4000000
namespace Pv
open PySem PySem.Spec PyProof.Rows L2
theorem obind {α β : Type} {o : Option α} {f : α → Option β} {b : β} (h : (o >>= f) = some b) : ∃ a, o = some a ∧ f a = some b := by
  cases o with
  | none => cases h
  | some a => exact ⟨a, rfl, h⟩
theorem omap {α β : Type} {o : Option α} {f : α → β} {b : β} (h : o.map f = some b) : ∃ a, o = some a ∧ f a = b := by
  cases o with
  | none => cases h
  | some a => exact ⟨a, rfl, Option.some.inj h⟩
theorem oif {α : Type} {c : Bool} {o : Option α} {b : α} (h : (if c = true then o else none) = some b) : c = true ∧ o = some b := by
  cases c with
  | true => exact ⟨rfl, h⟩
  | false => cases h
theorem plain_of {x : Str} (h : plainName x = true) : (x == ("__debug__" : Str)) = false ∧ (x == ("__classdict__" : Str)) = false ∧ (x == ("__name__" : Str)) = false := by
  unfold plainName at h
  simp only [Bool.and_eq_true, Bool.not_eq_true'] at h
  exact ⟨h.1.1, h.1.2, h.2⟩
def isRng : I → Bool
  | .rng _ => true
  | _ => false
section
variable (cc : CC) (Γ : Ctx) (N : List Str)
def SndE (n : Nat) : Prop := ∀ (X : Cx) (W : WX) (sc : Scope) (e : Expr) (x : E), MOk cc Γ X → X.N = N → X.env.scope = sc → Takes X W → compE cc N n sc e = some x → PE X e (tM X W (evE Γ x))
def SndT (n : Nat) : Prop := ∀ (X : Cx) (W : WX) (sc : Scope) (e : Expr) (x : E) (m : Nat), MOk cc Γ X → X.N = N → X.env.scope = sc → Takes X W → compE cc N n sc e = some x → tOk m e = true → PT X e (tBt X W fun ρ => asB (evE Γ x ρ))
def SndW (n : Nat) : Prop := ∀ (X : Cx) (W : WX) (sc : Scope) (op : BoolOp) (es : List Expr) (pos : Pos) (x : E) (m : Nat), MOk cc Γ X → X.N = N → X.env.scope = sc → Takes X W → compE cc N n sc (.BoolOp op es pos) = some x → tOk m (.BoolOp op es pos) = true → PW X (.BoolOp op es pos) (tBt X W fun ρ => asB (evE Γ x ρ))
def SndO (n : Nat) : Prop := ∀ (X : Cx) (W : WX) (sc : Scope) (e : Option Expr) (x : E), MOk cc Γ X → X.N = N → X.env.scope = sc → Takes X W → compO cc N n sc e = some x → PO X e (tPt X W (mPart Γ x))
def SndL (n : Nat) : Prop := ∀ (X : Cx) (W : WX) (sc : Scope) (es : List Expr) (xs : Es), MOk cc Γ X → X.N = N → X.env.scope = sc → Takes X W → compEs cc N n sc es = some xs → PA X es (tAs X W (evDs Γ xs)) ∧ PA X es (tAr X W (evA Γ xs))
def SndI (n : Nat) : Prop := ∀ (X : Cx) (W : WX) (sc : Scope) (tup : Bool) (tg e : Expr) (x : I), MOk cc Γ X → X.N = N → X.env.scope = sc → Takes X W → (tup = true → isTup tg = true) → compI cc N n tup sc e = some x → PI X tg e (tI X W (evI Γ x)) ∧ notSet e = true ∧ (isRng x = true → PI X tg e (tIa X W (evI Γ x)))
end
section
variable {cc : CC} {Γ : Ctx} {N : List Str} {n : Nat}
theorem vis_of {sc : Scope} {x : Str} (h : isVis sc x = true) : Vis sc x := by
  unfold isVis at h
  split at h
  · exact .inl (by assumption)
  · exact .inr (.inl (by assumption))
  · exact .inr (.inr (by assumption))
  · cases h
theorem gl_of {X : Cx} {x : Str} (h : isGl X.env.scope x = true) : Gl X x := by
  unfold isGl at h
  split at h
  · assumption
  · cases h
theorem compEs_cons {sc : Scope} {e : Expr} {es : List Expr} {xs : Es} (h : compEs cc N n sc (e :: es) = some xs) : ∃ m x r, n = m + 1 ∧ compE cc N m sc e = some x ∧ compEs cc N m sc es = some r ∧ xs = .cons x r := by
  cases n with
  | zero => simp [compEs] at h
  | succ m =>
    unfold compEs at h
    obtain ⟨x, e1, h⟩ := obind h
    obtain ⟨r, e2, h⟩ := obind h
    exact ⟨m, x, r, rfl, e1, e2, (Option.some.inj h).symm⟩
theorem notStar_of {sc : Scope} {e : Expr} {x : E} (h : compE cc N n sc e = some x) : ∀ r env, starEach (e :: r) env = (false, eval e env) :: starEach r env := by
  intro r env
  cases e <;> first
    | rfl
    | (exfalso; cases n <;> simp [compE] at h)
theorem star_any {sc : Scope} : ∀ {es : List Expr} {xs : Es} {n : Nat}, compEs cc N n sc es = some xs → ∀ env, (starEach es env).any (·.1) = false
  | [], _, _, _, _ => rfl
  | e :: es, xs, n, h, env => by
    obtain ⟨m, x, r, rfl, e1, e2, rfl⟩ := compEs_cons h
    rw [notStar_of e1, List.any_cons, star_any e2]
    rfl
theorem backTo_any {pos : Pos} (l : List (Bool × Sem Value)) (h : l.any (·.1) = false) : (backTo pos l).any (·.1) = false := by
  unfold backTo
  first
    | rfl
    | (simp only [List.any_map] at *; exact h)
    | (cases l <;> simp_all)
theorem plainIx_of {sc : Scope} {e : Expr} {x : E} (h : compE cc N n sc e = some x) : PlainIx e := by
  intro o i
  cases e <;> first
    | rfl
    | (exfalso; cases n <;> simp [compE] at h)
theorem behind_of {op : CmpOp} {b : Expr} (h : notSet b = true) : behindInMarks op b = false := by
  cases b <;> first
    | rfl
    | cases h
theorem fold_of {e : Expr} {env : PySem.Env} (h : notSet e = true) : ∀ x, foldedSetIterable e env x = pure x := by
  intro x
  cases e <;> first
    | rfl
    | cases h
end
end Pv

/-! Zs1 -/
set_option Elab.async false
set_option linter.all false
set_option maxRecDepth 100000
set_option maxHeartbeats 4000000
/-! zip of two lists with strict=True, at the library's level -/
namespace Zs
open PySem PyProof.Rows
open PySem.Sem (wp)
abbrev IsZipS (h : Heap) (z TI TO : Addr) (f0 : Value) : Prop :=
  h.get? z = some { cls := .type "zip", dict := none, data := .fields #[f0, .bool false, .bool true, .ref TI, .ref TO], slots := #[] }
section
variable {prog : Program} {w : World} {A : Around} {E : Value → Shared → Prop} {s : Shared}
theorem nextOrEnd_item {it l : Addr} {i : Nat} {items} {x : Value} {Q : Option Value → Shared → Prop} (hit : s.heap.IsListIter it l i) (hl : s.heap.IsList l items) (hx : items[i]? = some x)
    (hQ : ∀ h', h'.IsListIter it l (i + 1) → Heap.SameBut it s.heap h' → Q (some x) { s with heap := h' }) :
    wpAny (model prog w) A (Builtin.SmallTypes.nextOrEnd (.ref it)) Q E s := by
  unfold Builtin.SmallTypes.nextOrEnd
  exact wpAny_bind (wpAny_attempt (wpAny_nextOf_list_item hit hl hx fun h' a b => wpAny_pure (hQ h' a b)))
theorem nextOrEnd_end {it l : Addr} {i : Nat} {items} {Q : Option Value → Shared → Prop} (hh : A.handled = none) (hit : s.heap.IsListIter it l i) (hl : s.heap.IsList l items) (hx : items[i]? = none)
    (hQ : ∀ h', Heap.ExtBut it s.heap h' → Q none { s with heap := h' }) :
    wpAny (model prog w) A (Builtin.SmallTypes.nextOrEnd (.ref it)) Q E s := by
  unfold Builtin.SmallTypes.nextOrEnd
  refine wpAny_bind (wpAny_attempt (wpAny_nextOf_list_end hh hit hl hx fun h' e hk he => ?_))
  obtain ⟨o, ho, hc⟩ := he
  refine wpAny_bind (wpAny_isInstance (T := "StopIteration") (b := true) ⟨o, ho, hc⟩ isSubtype_stop ?_)
  exact wpAny_pure (hQ _ hk)
theorem zipS_next_item {z TI TO i1 i2 l1 l2 : Addr} {k1 k2 : Nat} {xs ys : Array Value} {x y a b : Value} {Q : Value → Shared → Prop} (D : ZipApart z TI TO i1 i2 l1 l2)
    (hz : IsZipS s.heap z TI TO .none) (hTI : IsPair s.heap TI (.ref i1) (.ref i2)) (hTO : IsPair s.heap TO a b)
    (h1 : s.heap.IsListIter i1 l1 k1) (h2 : s.heap.IsListIter i2 l2 k2) (hl1 : s.heap.IsList l1 xs) (hl2 : s.heap.IsList l2 ys) (hx : xs[k1]? = some x) (hy : ys[k2]? = some y)
    (hQ : ∀ h', IsZipS h' z TI TO (rawInt s.heap.objs.size) → IsPair h' TO x y → h'.IsListIter i1 l1 (k1 + 1) → h'.IsListIter i2 l2 (k2 + 1) → IsPair h' s.heap.objs.size x y → h'.objs.size = s.heap.objs.size + 1 →
      (∀ c o, c ≠ z → c ≠ TO → c ≠ i1 → c ≠ i2 → s.heap.get? c = some o → h'.get? c = some o) → Q (.ref s.heap.objs.size) { s with heap := h' }) :
    wpAny (model prog w) A (Builtin.«zip.__next__» ⟨[.ref z], []⟩) (fun fin s' => ∃ v, fin = .done (.ret v) ∧ Q v s') E s := by
  show wpAny _ _ (field (.ref z) 2 >>= _) _ _ _
  refine wpAny_bind (wpAny_field hz rfl (x := .bool true) rfl ?_)
  show wpAny _ _ (field (.ref z) 3 >>= _) _ _ _
  refine wpAny_bind (wpAny_field hz rfl (x := .ref TI) rfl ?_)
  refine wpAny_bind (wpAny_seqItems hTI rfl ?_)
  show wpAny _ _ (Builtin.SmallTypes.ownedTupleIsFree (.ref z) >>= _) _ _ _
  refine wpAny_bind ?_
  unfold Builtin.SmallTypes.ownedTupleIsFree
  refine wpAny_bind (wpAny_field hz rfl (x := .none) rfl (wpAny_pure ?_))
  simp only [if_true]
  refine wpAny_bind (wpAny_rule ?_)
  refine wpAny_bind (wpAny_field hz rfl (x := .ref TO) rfl ?_)
  refine wpAny_bind (wpAny_setField_rec hz (by simp) fun h₁ hz₁ hs₁ => ?_)
  replace hz₁ : IsZipS h₁ z TI TO .ellipsis := hz₁
  refine wpAny_bind ?_
  simp only [List.zipIdx_cons, List.zipIdx_nil, List.forIn_cons, List.forIn_nil]

  refine wpAny_bind (wpAny_bind (wpAny_onRaise ?_))
  show wpAny _ _ (Builtin.SmallTypes.nextOrEnd (.ref i1)) _ _ _
  refine (nextOrEnd_item (h1.extBut hs₁.extBut D.i1z) (hl1.extBut hs₁.extBut D.l1z) hx fun h₂ h1₂ hs₂ => ?_)
  have hTO₂ : IsPair h₂ TO a b := hs₂.extBut _ _ D.TOi1 (hs₁.extBut _ _ D.TOz hTO)
  refine wpAny_bind (wpAny_seqItems hTO₂ rfl ?_)
  refine wpAny_bind (wpAny_updateSeq_pair hTO₂ fun h₃ hTO₃ hs₃ => ?_)
  replace hTO₃ : IsPair h₃ TO x b := hTO₃
  refine wpAny_bind (wpAny_letGo (wpAny_pure ?_))

  refine wpAny_bind (wpAny_bind (wpAny_onRaise ?_))
  show wpAny _ _ (Builtin.SmallTypes.nextOrEnd (.ref i2)) _ _ _
  refine (nextOrEnd_item (((h2.extBut hs₁.extBut D.i2z).extBut hs₂.extBut D.i12.symm).extBut hs₃.extBut D.TOi2.symm)
    (((hl2.extBut hs₁.extBut D.l2z).extBut hs₂.extBut D.l2i1).extBut hs₃.extBut D.l2TO) hy fun h₄ h2₄ hs₄ => ?_)
  have hTO₄ : IsPair h₄ TO x b := hs₄.extBut _ _ D.TOi2 hTO₃
  refine wpAny_bind (wpAny_seqItems hTO₄ rfl ?_)
  refine wpAny_bind (wpAny_updateSeq_pair hTO₄ fun h₅ hTO₅ hs₅ => ?_)
  replace hTO₅ : IsPair h₅ TO x y := hTO₅
  refine wpAny_bind (wpAny_letGo (wpAny_pure (wpAny_pure ?_)))

  refine wpAny_bind (wpAny_seqItems hTO₅ rfl ?_)
  refine wpAny_bind (wpAny_newTuple ?_)
  have hsz : h₅.objs.size = s.heap.objs.size := by rw [hs₅.1, hs₄.1, hs₃.1, hs₂.1, hs₁.1]
  have hz₅ : IsZipS h₅ z TI TO .ellipsis := hs₅.extBut _ _ D.TOz.symm (hs₄.extBut _ _ D.i2z.symm (hs₃.extBut _ _ D.TOz.symm (hs₂.extBut _ _ D.i1z.symm hz₁)))
  have hk₅ : ∀ c o, c ≠ z → c ≠ TO → c ≠ i1 → c ≠ i2 → s.heap.get? c = some o → h₅.get? c = some o := fun c o c1 c2 c3 c4 e =>
    hs₅.extBut _ _ c2 (hs₄.extBut _ _ c4 (hs₃.extBut _ _ c2 (hs₂.extBut _ _ c3 (hs₁.extBut _ _ c1 e))))
  have h1₅ : h₅.IsListIter i1 l1 (k1 + 1) := ((h1₂.extBut hs₃.extBut D.TOi1.symm).extBut hs₄.extBut D.i12).extBut hs₅.extBut D.TOi1.symm
  have h2₅ : h₅.IsListIter i2 l2 (k2 + 1) := h2₄.extBut hs₅.extBut D.TOi2.symm
  have hzlt : z < h₅.objs.size := Heap.lt_size hz₅
  have hTOlt : TO < h₅.objs.size := Heap.lt_size hTO₅
  have hi1lt : i1 < h₅.objs.size := by obtain ⟨_, e, _⟩ := h1₅; exact Heap.lt_size e
  have hi2lt : i2 < h₅.objs.size := by obtain ⟨_, e, _⟩ := h2₅; exact Heap.lt_size e
  show wpAny _ _ (Builtin.SmallTypes.ownedTupleHandOut (.ref z) (.ref h₅.objs.size) >>= _) _ _ _
  refine wpAny_bind ?_
  unfold Builtin.SmallTypes.ownedTupleHandOut
  have hz₆ : IsZipS (h₅.push { cls := .type "tuple", data := .seq #[x, y] }) z TI TO .ellipsis := Heap.get?_push_of_some _ hz₅
  refine wpAny_bind (wpAny_setField_rec hz₆ (by simp) fun h₇ hz₇ hs₇ => ?_)
  replace hz₇ : IsZipS h₇ z TI TO (rawInt h₅.objs.size) := hz₇
  refine wpAny_setField_rec hz₇ (by simp) fun h₈ hz₈ hs₈ => ?_
  replace hz₈ : IsZipS h₈ z TI TO (rawInt h₅.objs.size) := hz₈
  have up : ∀ c o, c ≠ z → h₅.get? c = some o → h₈.get? c = some o := fun c o c1 e => hs₈.extBut _ _ c1 (hs₇.extBut _ _ c1 (Heap.get?_push_of_some _ e))
  have hT₈ : IsPair h₈ h₅.objs.size x y := hs₈.extBut _ _ (Nat.ne_of_gt hzlt) (hs₇.extBut _ _ (Nat.ne_of_gt hzlt) (Heap.get?_push_size _ rfl))
  have hz8 : h₈.objs.size = h₅.objs.size + 1 := by rw [hs₈.1, hs₇.1, Heap.size_push]
  rw [hsz] at hz₈ hT₈ hz8
  refine wpAny_pure ⟨_, rfl, ?_⟩
  show Q (.ref h₅.objs.size) _
  rw [hsz]
  exact hQ h₈ hz₈ (up _ _ D.TOz hTO₅) (h1₅.at fun o e => up _ o D.i1z e) (h2₅.at fun o e => up _ o D.i2z e) hT₈ hz8 fun c o c1 c2 c3 c4 e => up c o c1 (hk₅ c o c1 c2 c3 c4 e)

theorem zipS_next_end {z TI TO i1 i2 l1 l2 : Addr} {k1 k2 : Nat} {xs ys : Array Value} {a b : Value} {Q : Fin → Shared → Prop} (hh : A.handled = none) (D : ZipApart z TI TO i1 i2 l1 l2)
    (hz : IsZipS s.heap z TI TO .none) (hTI : IsPair s.heap TI (.ref i1) (.ref i2)) (hTO : IsPair s.heap TO a b)
    (h1 : s.heap.IsListIter i1 l1 k1) (h2 : s.heap.IsListIter i2 l2 k2) (hl1 : s.heap.IsList l1 xs) (hl2 : s.heap.IsList l2 ys) (hx : xs[k1]? = none) (hy : ys[k2]? = none)
    (hE : ∀ h' e, (∀ c o, c ≠ z → c ≠ TO → c ≠ i1 → c ≠ i2 → s.heap.get? c = some o → h'.get? c = some o) → (∃ o, h'.get? e = some o ∧ o.cls = .type "StopIteration") → E (.ref e) { s with heap := h' }) :
    wpAny (model prog w) A (Builtin.«zip.__next__» ⟨[.ref z], []⟩) Q E s := by
  show wpAny _ _ (field (.ref z) 2 >>= _) _ _ _
  refine wpAny_bind (wpAny_field hz rfl (x := .bool true) rfl ?_)
  show wpAny _ _ (field (.ref z) 3 >>= _) _ _ _
  refine wpAny_bind (wpAny_field hz rfl (x := .ref TI) rfl ?_)
  refine wpAny_bind (wpAny_seqItems hTI rfl ?_)
  show wpAny _ _ (Builtin.SmallTypes.ownedTupleIsFree (.ref z) >>= _) _ _ _
  refine wpAny_bind ?_
  unfold Builtin.SmallTypes.ownedTupleIsFree
  refine wpAny_bind (wpAny_field hz rfl (x := .none) rfl (wpAny_pure ?_))
  simp only [if_true]
  refine wpAny_bind (wpAny_rule ?_)
  refine wpAny_bind (wpAny_field hz rfl (x := .ref TO) rfl ?_)
  refine wpAny_bind (wpAny_setField_rec hz (by simp) fun h₁ hz₁ hs₁ => ?_)
  replace hz₁ : IsZipS h₁ z TI TO .ellipsis := hz₁
  refine wpAny_bind ?_
  simp only [List.zipIdx_cons, List.zipIdx_nil, List.forIn_cons, List.forIn_nil]
  refine wpAny_bind (wpAny_bind (wpAny_onRaise ?_))
  show wpAny _ _ (Builtin.SmallTypes.nextOrEnd (.ref i1)) _ _ _
  refine nextOrEnd_end hh (h1.extBut hs₁.extBut D.i1z) (hl1.extBut hs₁.extBut D.l1z) hx fun h₂ hs₂ => ?_
  have hz₂ : IsZipS h₂ z TI TO .ellipsis := hs₂ _ _ D.i1z.symm hz₁
  refine wpAny_bind (wpAny_setField_rec hz₂ (by simp) fun h₃ hz₃ hs₃ => ?_)
  replace hz₃ : IsZipS h₃ z TI TO .none := hz₃
  refine wpAny_bind ?_
  show wpAny _ _ (forIn ([Value.ref i2].zipIdx 1) PUnit.unit _ >>= _) _ _ _
  refine wpAny_bind ?_
  simp only [List.zipIdx_cons, List.zipIdx_nil, List.forIn_cons, List.forIn_nil]
  have hl2₃ : h₃.IsList l2 ys := ((hl2.extBut hs₁.extBut D.l2z).extBut hs₂ D.l2i1).extBut hs₃.extBut D.l2z
  have h2₃ : h₃.IsListIter i2 l2 k2 := ((h2.extBut hs₁.extBut D.i2z).extBut hs₂ D.i12.symm).extBut hs₃.extBut D.i2z
  refine wpAny_bind (wpAny_bind (nextOrEnd_end hh h2₃ hl2₃ hy fun h₄ hs₄ => ?_))
  refine wpAny_pure (wpAny_pure ?_)
  refine wpAny_bind (wpAny_rule ?_)
  show wpAny _ _ (Builtin.SmallTypes.stopIteration) _ _ _
  unfold Builtin.SmallTypes.stopIteration
  refine wpAny_bind ?_
  simp only [newExc, newTuple]
  refine wpAny_bind (wpAny_newObj_type ?_ (by size_fits))
  refine wpAny_bind (m := firstArgMember _ _) (wpAny_of_eq (a := Value.none) (by first | rfl | (simp only [firstArgMember]; rfl)) ?_)
  refine wpAny_newObj_type ?_ (by size_fits)
  simp only [raiseNew]
  refine wpAny_bind (wpAny_handled ?_)
  rw [hh]
  refine wpAny_bind (wpAny_pure (wpAny_throw ?_))
  refine hE _ _ (fun c o c1 c2 c3 c4 x => ?_) ⟨_, Heap.get?_push_size _ rfl, rfl⟩
  exact Heap.get?_push_of_some _ (Heap.get?_push_of_some _ (hs₄ _ _ c4 (hs₃.extBut _ _ c1 (hs₂ _ _ c3 (hs₁.extBut _ _ c1 x)))))
end
end Zs

/-! Zs2 -/
set_option Elab.async false
set_option linter.all false
set_option maxRecDepth 100000
set_option maxHeartbeats 4000000
namespace Zs
open PySem PyProof.Rows
open PySem.Sem (wp)
section
variable {prog : Program} {w : World} {A : Around} {E : Value → Shared → Prop} {s : Shared}
theorem pyNext_zipS_item {z TI TO i1 i2 l1 l2 : Addr} {k1 k2 : Nat} {xs ys : Array Value} {x y a b : Value} {Q : Option Value → Shared → Prop} (D : ZipApart z TI TO i1 i2 l1 l2)
    (hz : IsZipS s.heap z TI TO .none) (hTI : IsPair s.heap TI (.ref i1) (.ref i2)) (hTO : IsPair s.heap TO a b)
    (h1 : s.heap.IsListIter i1 l1 k1) (h2 : s.heap.IsListIter i2 l2 k2) (hl1 : s.heap.IsList l1 xs) (hl2 : s.heap.IsList l2 ys) (hx : xs[k1]? = some x) (hy : ys[k2]? = some y)
    (hQ : ∀ h', IsZipS h' z TI TO (rawInt s.heap.objs.size) → IsPair h' TO x y → h'.IsListIter i1 l1 (k1 + 1) → h'.IsListIter i2 l2 (k2 + 1) → IsPair h' s.heap.objs.size x y → h'.objs.size = s.heap.objs.size + 1 →
      (∀ c o, c ≠ z → c ≠ TO → c ≠ i1 → c ≠ i2 → s.heap.get? c = some o → h'.get? c = some o) → Q (some (.ref s.heap.objs.size)) { s with heap := h' }) :
    wpAny (model prog w) A (pyNext (.ref z)) Q E s := by
  have hT : s.TypeIs (.ref z) "zip" := ⟨_, hz, rfl⟩
  unfold pyNext
  exact wpAny_bind (wpAny_attempt (wpAny_callSpecial?_slot (name := Str.ofString "__next__") hT F.slot_zip_next
    (wpAny_call_entry F.slot_zip_next hT F.entry_zip_next
      (zipS_next_item D hz hTI hTO h1 h2 hl1 hl2 hx hy fun h' a1 a2 a3 a4 a5 a6 a7 => wpAny_pure (hQ h' a1 a2 a3 a4 a5 a6 a7)) (F.args_zip_next_1 _))))
theorem pyNext_zipS_end {z TI TO i1 i2 l1 l2 : Addr} {k1 k2 : Nat} {xs ys : Array Value} {a b : Value} {Q : Option Value → Shared → Prop} (hh : A.handled = none) (D : ZipApart z TI TO i1 i2 l1 l2)
    (hz : IsZipS s.heap z TI TO .none) (hTI : IsPair s.heap TI (.ref i1) (.ref i2)) (hTO : IsPair s.heap TO a b)
    (h1 : s.heap.IsListIter i1 l1 k1) (h2 : s.heap.IsListIter i2 l2 k2) (hl1 : s.heap.IsList l1 xs) (hl2 : s.heap.IsList l2 ys) (hx : xs[k1]? = none) (hy : ys[k2]? = none)
    (hQ : ∀ h', (∀ c o, c ≠ z → c ≠ TO → c ≠ i1 → c ≠ i2 → s.heap.get? c = some o → h'.get? c = some o) → Q none { s with heap := h' }) : wpAny (model prog w) A (pyNext (.ref z)) Q E s := by
  have hT : s.TypeIs (.ref z) "zip" := ⟨_, hz, rfl⟩
  unfold pyNext
  refine wpAny_bind (wpAny_attempt (wpAny_callSpecial?_slot (name := Str.ofString "__next__") hT F.slot_zip_next
    (wpAny_call_entry F.slot_zip_next hT F.entry_zip_next (zipS_next_end hh D hz hTI hTO h1 h2 hl1 hl2 hx hy fun h' e hk he => ?_) (F.args_zip_next_1 _))))
  obtain ⟨o, ho, hc⟩ := he
  refine wpAny_bind (wpAny_isInstance (T := "StopIteration") (b := true) ⟨o, ho, hc⟩ isSubtype_stop ?_)
  exact wpAny_pure (hQ _ hk)
theorem letOwnedTupleGo_zipS {elts : List Expr} {x1} {pos : Pos} {z TI TO T : Addr} {Q : Unit → Shared → Prop} (hz : IsZipS s.heap z TI TO (rawInt T))
    (hQ : ∀ h', IsZipS h' z TI TO .none → Heap.SameBut z s.heap h' → Q () { s with heap := h' }) :
    wpAny (model prog w) A (letOwnedTupleGo (.Tuple elts x1 pos) (.ref z) (.ref T)) Q E s := by
  unfold letOwnedTupleGo
  refine wpAny_bind (wpAny_load hz ?_)
  show wpAny _ _ (if (["enumerate", "zip", "dict_itemiterator", "dict_reverseitemiterator", "odict_iterator", "itertools.zip_longest", "itertools.pairwise"].contains "zip" &&
      (#[rawInt T, .bool false, .bool true, .ref TI, .ref TO] : Array Value)[0]? == some (rawInt T)) = true then _ else _) Q E s
  rw [if_pos (by simp)]
  refine wpAny_bind (wpAny_rule ?_)
  show wpAny _ _ (setField (.ref z) 0 .none) Q E s
  exact wpAny_setField_rec hz (by simp) fun h' hz' hs' => hQ h' hz' hs'
theorem pyIter_zipS {z TI TO : Addr} {f0 : Value} {Q : Value → Shared → Prop} (hz : IsZipS s.heap z TI TO f0) (h : Q (.ref z) s) : wpAny (model prog w) A (pyIter (.ref z)) Q E s := by
  have hT : s.TypeIs (.ref z) "zip" := ⟨_, hz, rfl⟩
  refine wpAny_pyIter_slot hT F.slot_zip_iter (wpAny_call_entry F.slot_zip_iter hT F.entry_zip_iter ?_ (F.args_zip_iter_1 _))
  show wpAny _ _ (ret (.ref z)) _ _ s
  exact wpAny_pure ⟨_, rfl, "zip", _, hT, F.slot_zip_next.lookup, h⟩
end
abbrev kwS : List (Str × Value) := [("strict", .bool true)]
abbrev zipS5 (h : Heap) (l1 l2 : Addr) : Heap := (zipH4 h l1 l2).push { cls := .type "zip", data := .fields #[.none, .bool false, .bool true, .ref (zipH2 h l1 l2).objs.size, .ref (zipH3 h l1 l2).objs.size] }
theorem meets_zipS_new (l1 l2 : Addr) (xs ys : Array Value) :
    Meets (Builtin.«zip.__new__» ⟨[.type "zip", .ref l1, .ref l2], kwS⟩) (fun _ R s => s.heap.IsList l1 xs ∧ s.heap.IsList l2 ys ∧
      R (.ok (.ret (.ref (zipH4 s.heap l1 l2).objs.size))) { s with heap := zipS5 s.heap l1 l2 }) :=
  .of_wp fun prog w A R s h => by
    obtain ⟨hp, g, d, tk, os⟩ := s; obtain ⟨hl1, hl2, h⟩ := h
    have hsub := sub_zip
    have hL1 : Heap.IsList (Shared.heap ⟨hp, g, d, tk, os⟩) l1 xs := hl1
    have hL2 : Heap.IsList (Shared.heap ⟨hp.push { cls := .type "list_iterator", data := .fields #[.ref l1, .int 0 0] }, g, d, tk, os⟩) l2 ys := Heap.IsList.push hl2 _
    wp_walk using wpAny_pyIter_list hL1, wpAny_pyIter_list hL2
    exact ⟨_, rfl, h⟩
theorem typeCall_zipS (a b : Value) : checkTypeCall "zip" ⟨[a, b], kwS⟩ = pure () := by kernel_rfl
theorem newCall_zipS (a b : Value) : checkBuiltinCall "zip.__new__" ⟨[.type "zip", a, b], kwS⟩ = pure () := by kernel_rfl
theorem args_init_S (a b c : Value) : argsOk "object.__init__" ⟨[a, b, c], kwS⟩ := by
  unfold argsOk; rw [signature?_of (id := "object.__init__") (n := ['_', '_', 't', 'i', 'n', 'i', '_', '_']) (o := ['t', 'c', 'e', 'j', 'b', 'o']) (by kernel_rfl) F.owner_object]; kernel_rfl
end Zs

/-! Zs3 -/
set_option Elab.async false
set_option linter.all false
set_option maxRecDepth 100000
set_option maxHeartbeats 4000000
namespace Zs
open PySem PyProof.Rows
open PySem.Sem (wp)
section
variable {prog : Program} {w : World} {A : Around} {E : Value → Shared → Prop} {s : Shared}
theorem callType_meetsKw {T newId initId : String} {Bn Bi : Builtin} {args : List Value} {kw : List (Str × Value)} {S : PySem.Spec} {Q Q₁ : Value → Shared → Prop} (ft : TypeCalled T newId initId)
    (hct : checkTypeCall T ⟨args, kw⟩ = pure ()) (hcn : checkBuiltinCall newId ⟨.type T :: args, kw⟩ = pure ())
    (entryN : entryFor table newId = some Bn) (entryI : entryFor table initId = some Bi) (g : Meets (Bn ⟨.type T :: args, kw⟩) S)
    (h : S A.in1 (wants Q₁ E) s)
    (hnext : ∀ obj s₁, Q₁ obj s₁ → s₁.TypeIs obj T ∧ argsOk initId ⟨obj :: args, kw⟩ ∧ ∃ Si, Meets (Bi ⟨obj :: args, kw⟩) Si ∧ Si A.in1 (wants (fun r s₂ => r = .none ∧ Q obj s₂) E) s₁) :
    wpAny (model prog w) A (call (.type T) args kw) Q E s := by
  obtain ⟨c, tl, hmro⟩ := ft.mro
  have hmade := ft.made
  have hsub := ft.sub
  refine wpAny_call (codeAny_of_tree ?_)
  show wpAny _ _ (callAny (.type T) _) _ _ _
  refine wpAny_pure ⟨Code.quiet_builtin _ (by decide +kernel), codeAny_builtin F.entry_type_call ?_⟩
  rw [Around.under_plain (weight_type_call_type T args kw) (units_type_call_type T args kw)]
  have h1 := ft.notType
  have h2 := ft.canCreate
  repeat (any_goals (first | assumption | wp_step))

  refine codeAny_mono (codeAny_call_builtin ft.plain entryN (wpAny_of_eq hcn (g prog w A.in1 _ s h))) fun r s₁ hr => ?_
  cases r with
  | error e => exact hr
  | ok fl =>
    cases fl with
    | ret obj =>
      obtain ⟨hT, hok, Si, gi, hsi⟩ := hnext _ _ hr
      have hli := ft.init.lookup
      have hbi := ft.init.bind obj
      repeat (any_goals (first | assumption | wp_step))

      refine codeAny_mono (codeAny_call_builtin ft.init.plain entryI (ft.init.check _ _ _ _ _ _ _ _ hT hok (gi prog w A.in1 _ s₁ hsi))) fun r₂ s₂ hr₂ => ?_
      cases r₂ with
      | error e => exact hr₂
      | ok fl₂ =>
        cases fl₂ with
        | ret r =>
          obtain ⟨rfl, hq⟩ := hr₂
          repeat (any_goals (first | assumption | wp_step))
        | _ => exact hr₂.elim
    | _ => exact hr.elim
theorem object_init_kw {T newId : String} {self : Value} {a b : Value} {kw : List (Str × Value)} (hl : typeLookup (.type T) "__init__" = pure (some (.builtin "object.__init__")))
    (hm : Bind.madeBy (.type T) = pure (some newId)) (hne : (some newId != some "object.__new__") = true) :
    Meets (Builtin.«object.__init__» ⟨[self, a, b], kw⟩) (fun _ R s => s.TypeIs self T ∧ R (.ok (.ret .none)) s) := by
  refine Meets.of_wp fun prog w A R s hs => ?_
  obtain ⟨hT, hq⟩ := hs
  repeat (any_goals (first | assumption | wp_step))
  exact ⟨_, rfl, hq⟩
theorem call_zipS {l1 l2 : Addr} {xs ys : Array Value} {Q : Value → Shared → Prop} (hl1 : s.heap.IsList l1 xs) (hl2 : s.heap.IsList l2 ys)
    (h : ∀ h', IsZipS h' (s.heap.objs.size + 4) (s.heap.objs.size + 2) (s.heap.objs.size + 3) .none → IsPair h' (s.heap.objs.size + 2) (.ref s.heap.objs.size) (.ref (s.heap.objs.size + 1)) →
      IsPair h' (s.heap.objs.size + 3) .none .none → h'.IsListIter s.heap.objs.size l1 0 → h'.IsListIter (s.heap.objs.size + 1) l2 0 → h'.objs.size = s.heap.objs.size + 5 →
      (∀ c o, s.heap.get? c = some o → h'.get? c = some o) → Q (.ref (s.heap.objs.size + 4)) { s with heap := h' }) :
    wpAny (model prog w) A (call (.type "zip") [.ref l1, .ref l2] kwS) Q E s := by
  refine callType_meetsKw (Q₁ := fun obj s₁ => s₁.TypeIs obj "zip" ∧ Q obj s₁) F.called_zip (typeCall_zipS _ _) (newCall_zipS _ _) F.entry_zip_new F.entry_object_init
    (meets_zipS_new l1 l2 xs ys) ⟨hl1, hl2, ?_⟩ fun obj s₁ hq => ⟨hq.1, args_init_S _ _ _, _, object_init_kw F.called_zip.init.lookup F.called_zip.made (by decide), hq.1, rfl, hq.2⟩
  have z1 : (zipH1 s.heap l1).objs.size = s.heap.objs.size + 1 := Heap.size_push ..
  have z2 : (zipH2 s.heap l1 l2).objs.size = s.heap.objs.size + 2 := by rw [Heap.size_push, z1]
  have z3 : (zipH3 s.heap l1 l2).objs.size = s.heap.objs.size + 3 := by rw [Heap.size_push, z2]
  have z4 : (zipH4 s.heap l1 l2).objs.size = s.heap.objs.size + 4 := by rw [Heap.size_push, z3]
  have z5 : (zipS5 s.heap l1 l2).objs.size = s.heap.objs.size + 5 := by rw [Heap.size_push, z4]
  have g5 : (zipS5 s.heap l1 l2).get? (zipH4 s.heap l1 l2).objs.size = some _ := Heap.get?_push_size _ rfl
  have g4 : (zipS5 s.heap l1 l2).get? (zipH3 s.heap l1 l2).objs.size = some _ := Heap.get?_push_of_some _ (Heap.get?_push_size _ rfl)
  have g3 : (zipS5 s.heap l1 l2).get? (zipH2 s.heap l1 l2).objs.size = some _ := Heap.get?_push_of_some _ (Heap.get?_push_of_some _ (Heap.get?_push_size _ rfl))
  have g2 : (zipS5 s.heap l1 l2).get? (zipH1 s.heap l1).objs.size = some _ := Heap.get?_push_of_some _ (Heap.get?_push_of_some _ (Heap.get?_push_of_some _ (Heap.get?_push_size _ rfl)))
  have g1 : (zipS5 s.heap l1 l2).get? s.heap.objs.size = some _ := Heap.get?_push_of_some _ (Heap.get?_push_of_some _ (Heap.get?_push_of_some _ (Heap.get?_push_of_some _ (Heap.get?_push_size _ rfl))))
  show _ ∧ _
  rw [z2, z3, z4] at g5
  rw [z1, z2] at g3
  rw [z3] at g4
  rw [z1] at g2
  rw [z4]
  exact ⟨⟨_, g5, rfl⟩, h _ g5 g3 g4 ⟨_, g1, rfl, rfl⟩ ⟨_, g2, rfl, rfl⟩ z5 fun c o x =>
    Heap.get?_push_of_some _ (Heap.get?_push_of_some _ (Heap.get?_push_of_some _ (Heap.get?_push_of_some _ (Heap.get?_push_of_some _ x))))⟩
end
section
variable {M : Model} {A : Around} {E : Value → Shared → Prop} {s : Shared} {env : PySem.Env}
theorem callWith_typeKw {pos : Pos} {T : String} {e : Expr} {rest : List Expr} {kws : List Keyword} {Q : Value → Shared → Prop} (hall : (backToKw pos (keywordEach kws env)).all (·.1.isSome) = true)
    (h : wpAny M A (spliced (backTo pos (starEach (e :: rest) env))) (fun vs s₁ => wpAny M A (evalAll ((backToKw pos (keywordEach kws env)).map (·.2)))
      (fun ks s₂ => wpAny M A (call (.type T) vs (((backToKw pos (keywordEach kws env)).filterMap (·.1)).zip ks)) Q E s₂) E s₁) E s)
    (hplain : ((backTo pos (starEach (e :: rest) env)).any (·.1) || (backToKw pos (keywordEach kws env)).any (·.1.isNone)) = false) (he : starEach (e :: rest) env = (false, eval e env) :: starEach rest env) :
    wpAny M A (callWith pos (.type T) [] (backTo pos (starEach (e :: rest) env)) (backToKw pos (keywordEach kws env))) Q E s := by
  have h' := evalArgs_kw2 (f := .type T) (Q := fun a s₁ => wpAny M A (call (.type T) a.pos a.kw) Q E s₁) hall h he
  unfold callWith
  refine wpAny_bind (wpAny_holding (wpAny_mono h' (fun a s₁ h₁ => wpAny_bind (wpAny_standAt ?_)) fun _ _ x => x))
  simp only [hplain]
  refine wpAny_bind (wpAny_pure ?_)
  exact wpAny_bind (wpAny_mono h₁ (fun r s₂ hr => wpAny_bind (wpAny_holding (wpAny_point (wpAny_pure hr)))) fun _ _ x => x)
end
end Zs

/-! Zs4 -/
set_option Elab.async false
set_option linter.all false
set_option maxRecDepth 100000
set_option maxHeartbeats 4000000
namespace Zs
open PySem PySem.Spec PyProof.Rows L2
/-- two lists as they stand at each turn, of one length -/
def ItzS (K : PySem.W.Frag) (a b : Addr) : It :=
  ⟨fun i H => ∃ (xs ys : List V) (x y : V), SqL K H a xs ∧ SqL K H b ys ∧ xs[i]? = some x ∧ ys[i]? = some y,
    fun i H v H' => ∃ T x y, v = .ref T ∧ H T = none ∧ H' = upd H T (.tup [x, y]) ∧ (∀ xs, SqL K H a xs → xs[i]? = some x) ∧ ∀ ys, SqL K H b ys → ys[i]? = some y,
    fun i H => ∃ xs ys : List V, SqL K H a xs ∧ SqL K H b ys ∧ xs.length ≤ i ∧ ys.length ≤ i⟩
theorem turn_zipS {P : Program} {w : World} {K : PySem.W.Frag} {elts : List Expr} {kk : Nat} {tpos : Pos} {a b z TI TO i1 i2 : Addr} (D : ZipApart z TI TO i1 i2 a b) :
    Turn P w K (.Tuple elts kk tpos) (ItzS K a b) [z, TI, TO, i1, i2] z (fun i h => IsZipS h z TI TO .none ∧ IsPair h TI (.ref i1) (.ref i2) ∧ (∃ x y, IsPair h TO x y) ∧ h.IsListIter i1 a i ∧ h.IsListIter i2 b i) where
  mem := by simp
  obj := fun i h st c hc => by
    obtain ⟨hz, hTI, ⟨x, y, hTO⟩, ⟨o1, e1, _, d1⟩, ⟨o2, e2, _, d2⟩⟩ := st
    have e' : c = z ∨ c = TI ∨ c = TO ∨ c = i1 ∨ c = i2 := by simpa using hc
    rcases e' with q | q | q | q | q
    · rw [q]; exact ⟨_, hz, fun v q => nomatch q⟩
    · rw [q]; exact ⟨_, hTI, fun v q => nomatch q⟩
    · rw [q]; exact ⟨_, hTO, fun v q => nomatch q⟩
    · rw [q]; exact ⟨o1, e1, fun v q => by rw [d1] at q; cases q⟩
    · rw [q]; exact ⟨o2, e2, fun v q => by rw [d2] at q; cases q⟩
  keep := fun i h h' st k => by
    obtain ⟨hz, hTI, ⟨x, y, hTO⟩, h1, h2⟩ := st
    exact ⟨k z (by simp) _ hz, k TI (by simp) _ hTI, ⟨x, y, k TO (by simp) _ hTO⟩, h1.at fun o q => k i1 (by simp) o q, h2.at fun o q => k i2 (by simp) o q⟩
  item := by
    intro X hP hw hK hc i pins s σ H E I hf st hg
    subst hP hw hK
    obtain ⟨hz, hTI, ⟨x0, y0, hTO⟩, h1, h2⟩ := st
    obtain ⟨xs, ys, x, y, hqx, hqy, hx, hy⟩ := hg
    obtain ⟨its, rv, p, _⟩ := I.list hqx
    obtain ⟨its2, rv2, p2, _⟩ := I.list hqy
    obtain ⟨u, hu, ru⟩ := rv.get hx
    obtain ⟨u2, hu2, ru2⟩ := rv2.get hy
    have hzl : z < s.heap.objs.size := Heap.lt_size hz
    refine pyNext_zipS_item D hz hTI hTO h1 h2 p.isList p2.isList (x := u) (y := u2) (by simpa using hu) (by simpa using hu2) fun h' z' TO' h1' h2' hT hsz hk => ?_
    refine ⟨_, rfl, letOwnedTupleGo_zipS (s := { s with heap := h' }) z' fun h'' z'' sb => ?_⟩
    have hT2 : h''.get? s.heap.objs.size = some { cls := .type "tuple", data := .seq #[u, u2] } := (sb.2 _ (Nat.ne_of_gt hzl)).trans hT
    have new : ObjOk X.prog X.w (upd H s.heap.objs.size (.tup [x, y])) h'' s.heap.objs.size (.tup [x, y]) :=
      ⟨by show 2 ≤ sizeLine; decide, [u, u2], .cons ru (.cons ru2 .nil), ⟨_, hT2, rfl, _, rfl⟩⟩
    have I1 : Inv X pins σ (upd H s.heap.objs.size (.tup [x, y])) { s with heap := h'' } :=
      I.turnedNew (t' := s.toks) (ch := [z, TI, TO, i1, i2]) (fun c o hb q => (sb.2 c (fun q' => hb (by simp [q']))).trans (hk c o (fun q' => hb (by simp [q'])) (fun q' => hb (by simp [q'])) (fun q' => hb (by simp [q'])) (fun q' => hb (by simp [q'])) q)) hf (Nat.le_refl _) new
    refine ⟨.ref s.heap.objs.size, _, I1, rfl, ⟨_, x, y, rfl, I.hok.fresh (Nat.le_refl _), rfl, fun l hl => by rw [I.list_inj hl hqx]; exact hx, fun l hl => by rw [I.list_inj hl hqy]; exact hy⟩, ⟨z'', ?_, ⟨u, u2, ?_⟩, ?_, ?_⟩, fun c hcm => ?_⟩
    · exact (sb.2 _ D.TIz).trans (hk _ _ D.TIz D.TITO D.TIi1 D.TIi2 hTI)
    · exact (sb.2 _ D.TOz).trans TO'
    · exact h1'.at fun o q => (sb.2 _ D.i1z).trans q
    · exact h2'.at fun o q => (sb.2 _ D.i2z).trans q
    · have hlt : c < s.heap.objs.size := by
        have e' : c = z ∨ c = TI ∨ c = TO ∨ c = i1 ∨ c = i2 := by simpa using hcm
        rcases e' with q | q | q | q | q
        · rw [q]; exact hzl
        · rw [q]; exact Heap.lt_size hTI
        · rw [q]; exact Heap.lt_size hTO
        · rw [q]; obtain ⟨_, e1, _⟩ := h1; exact Heap.lt_size e1
        · rw [q]; obtain ⟨_, e2, _⟩ := h2; exact Heap.lt_size e2
      rw [upd_ne (Nat.ne_of_lt hlt)]
      exact (hf c hcm).1
  done := by
    intro X hP hw hK hc i pins s σ H E I hf st hg
    subst hP hw hK
    obtain ⟨hz, hTI, ⟨x0, y0, hTO⟩, h1, h2⟩ := st
    obtain ⟨xs, ys, hqx, hqy, hex, hey⟩ := hg
    obtain ⟨its, rv, p, _⟩ := I.list hqx
    obtain ⟨its2, rv2, p2, _⟩ := I.list hqy
    have l1 := rv.length
    have l2 := rv2.length
    exact pyNext_zipS_end (I.ok.hd hc) D hz hTI hTO h1 h2 p.isList p2.isList (by simp; omega) (by simp; omega) fun h' hk => ⟨rfl, I.turnedL (t' := s.toks) (ch := [z, TI, TO, i1, i2]) (fun c o hb q =>
      hk c o (fun q' => hb (by simp [q'])) (fun q' => hb (by simp [q'])) (fun q' => hb (by simp [q'])) (fun q' => hb (by simp [q'])) q) hf⟩
  self := fun A i s Q E st h => pyIter_zipS st.1 h
def iZipS (K : PySem.W.Frag) (ta : TA) : TI := fun σ H R => ta σ H fun vs H1 => ∃ a b xs ys, vs = [.ref a, .ref b] ∧ SqL K H1 a xs ∧ SqL K H1 b ys ∧ R (ItzS K a b) H1
theorem pi_zipS {X : Cx} {e e2 : Expr} {ta : TA} {p pos tpos kp ep : Pos} {kc : Nat} {elts : List Expr} {kk : Nat} (hg : Gl X "zip") (hm : X.mg "zip" = none) (ha : PA X [e, e2] ta)
    (hs : starEach [e, e2] X.env = (false, eval e X.env) :: starEach [e2] X.env) (hpl : (backTo pos (starEach [e, e2] X.env)).any (·.1) = false) :
    PI X (.Tuple elts kk tpos) (.Call (.Name "zip" p) [e, e2] [⟨some "strict", .Constant (.bool true) kc ep, kp⟩] pos) (iZipS X.K ta) := by
  refine ⟨fun pins s σ H R I h => ?_⟩
  refine wpAny_Call_Name_kw (ld_blt I hg hm PyProof.Rows.boot_zip ?_)
  refine callWith_typeKw rfl (thn (ha.run pos pins s σ H _ I h) fun us s1 ⟨vs, H1, I1, r1, q1⟩ => ?_) (by rw [hpl]; rfl) hs
  refine kwAll_cons (Constant_bool (kwAll_nil ?_))
  obtain ⟨a, b, xs, ys, ex, hqx, hqy, q⟩ := q1
  subst ex
  cases r1 with
  | cons r rr =>
    cases rr with
    | cons r' rr =>
      cases rr
      cases r
      cases r'
      obtain ⟨its, rv, p1, _⟩ := I1.list hqx
      obtain ⟨its2, rv2, p2, _⟩ := I1.list hqy
      have la : a < s1.heap.objs.size := p1.lt
      have lb : b < s1.heap.objs.size := p2.lt
      refine call_zipS p1.isList p2.isList fun h' hz hTI hTO h1 h2 hsz hk => pyIter_zipS hz ?_
      have I2 : Inv X pins σ H1 { s1 with heap := h' } := I1.kept (t' := s1.toks) hk
      refine ⟨s1.heap.objs.size + 4, [s1.heap.objs.size + 4, s1.heap.objs.size + 2, s1.heap.objs.size + 3, s1.heap.objs.size, s1.heap.objs.size + 1], _, _, H1, rfl, I2, turn_zipS (PySem.W.ktu_apart s1.heap.objs.size a b la lb), ⟨hz, hTI, ⟨_, _, hTO⟩, h1, h2⟩, fun c hcm => ?_, q⟩
      have e' : c = s1.heap.objs.size + 4 ∨ c = s1.heap.objs.size + 2 ∨ c = s1.heap.objs.size + 3 ∨ c = s1.heap.objs.size ∨ c = s1.heap.objs.size + 1 := by simpa using hcm
      have hle : s1.heap.objs.size ≤ c := by
        rcases e' with z | z | z | z | z
        · rw [z]; exact Nat.le_add_right _ _
        · rw [z]; exact Nat.le_add_right _ _
        · rw [z]; exact Nat.le_add_right _ _
        · rw [z]; exact Nat.le_refl _
        · rw [z]; exact Nat.le_add_right _ _
      exact I1.fpOk hle (I1.hok.fresh hle)
end Zs

/-! Pv12z -/
set_option Elab.async false
set_option linter.all false
set_option maxRecDepth 100000
set_option maxHeartbeats 4000000
namespace Pv
open PySem PySem.Spec PyProof.Rows L2
theorem rpAll_app {K : PySem.W.Frag} {F : Hp} : ∀ {xs ys : List V} {ds es : List PyData}, RpAll K F xs ds → RpAll K F ys es → RpAll K F (xs ++ ys) (ds ++ es)
  | _, _, _, _, .nil, h => h
  | _, _, _, _, .cons a r, h => .cons a (rpAll_app r h)
section
variable {X : Cx} {W : WX} {Γ : Ctx} {a b e : Expr} {es : List Expr} {pos tpos : Pos}
/-! ### an item of a list of one's own -/
theorem xe_idxO {i : Nat} {x : Str} {px : Pos} {y : E} (hb : PlainIx b) (hN : X.N[i]? = some x) (hv : Vis X.env.scope x) (h1 : (x == ("__debug__" : Str)) = false) (h2 : (x == ("__classdict__" : Str)) = false)
    (hi : PE X b (tM X W (evE Γ y))) : PE X (.Subscript (.Name x px) b pos) (tM X W (evE Γ (.idxO i y))) := by
  refine PE.imp (pe_ix (IxR.or (ix_ok (W := W)) ix_list) (pe_var hN hv h1 h2) (pe_D hi) hb) fun σ H Q hw => ?_
  obtain ⟨g, ρ, rfl, ok, er, hp⟩ := hw
  simp only [evE] at hp
  obtain ⟨d, e0, hp⟩ := of_post (bind_post hp)
  unfold getX at e0
  split at e0
  · rename_i r er0
    rcases er.2 i r er0 with ⟨ds, v, rfl, q1, q2⟩ | ⟨v, q1, no, q2⟩
    · cases e0
      refine ⟨v, q1, g, ρ, rfl, ok, er, (bind_post hp).mono (fun e S' q => ?_) fun _ _ q => q⟩
      rintro w g1 rfl ok1 le1 r1
      obtain ⟨z, ez, q⟩ := of_post (bind_post q)
      obtain ⟨a, xs, rfl, f1, f2, f3, f4⟩ := q2.mono le1
      have qz : RFin X g Q (.val z) g1.V := q
      clear q
      unfold idx at ez
      split at ez
      · rename_i hd
        cases hd
        cases r1
        obtain ⟨u, hu, ru⟩ := atI_rp f4 ez
        exact .inr ⟨a, xs, _, u, rfl, rfl, SqL.of f3, hu, (RFin.mono le1 qz).val ok1 ru⟩
      · rename_i hd
        cases hd
      · rename_i hd
        cases hd
      · cases ez
    · cases r with
      | val d0 =>
        cases e0
        refine ⟨v, q1, g, ρ, rfl, ok, er, (bind_post hp).mono (fun e S' q => ?_) fun _ _ q => q⟩
        rintro w g1 rfl ok1 le1 r1
        obtain ⟨z, ez, q⟩ := of_post (bind_post q)
        have q2 : Rp X.K g.F v d := q2
        exact .inl ⟨g1, d, e, z, rfl, ok1, q2.mono le1.fro, r1, ez, RFin.mono le1 q⟩
      | own ds => exact (no ds rfl).elim
      | src => cases e0
      | scr ns => cases e0
  · cases e0
/-! ### [*a, b, ..] -/
theorem xe_lstS {x : E} {xs : Es} {p : Pos} (ha : PE X a (tM X W (evE Γ x))) (h : PA X es (tAs X W (evDs Γ xs))) (hs : starEach (.Starred a p :: es) X.env = (true, eval a X.env) :: starEach es X.env) :
    PE X (.List (.Starred a p :: es) pos) (tM X W (evE Γ (.lstS x xs))) := by
  refine PE.imp (pe_lst (StX.pa_star (pe_D ha) h hs)) fun σ H Q hw => ?_
  obtain ⟨g, ρ, rfl, ok, er, hp⟩ := hw
  simp only [evE] at hp
  refine ⟨g, ρ, rfl, ok, er, (bind_post hp).mono (fun d S' q => ?_) fun _ _ q => q⟩
  rintro v g1 rfl ok1 le1 r1
  obtain ⟨ds, ed, q⟩ := of_post (bind_post q)
  have key : ∃ p ys, v = V.ref p ∧ (SqT X.K g1.H p ys ∨ SqL X.K g1.H p ys) ∧ RpAll X.K g1.F ys ds := by
    unfold seqD0 at ed
    split at ed
    · cases ed
      cases r1 with
      | tup hq hr => exact ⟨_, _, rfl, .inl (sqT_mono ok1.sub hq), hr⟩
    · cases ed
      cases r1 with
      | lst hq hr => exact ⟨_, _, rfl, .inr (SqL.of (ok1.sub _ _ hq)), hr⟩
    · cases ed
  obtain ⟨p, ys, rfl, hq, hr⟩ := key
  refine ⟨p, ys, rfl, hq, g1, ρ, rfl, ok1, er.mono le1, (bind_post q).mono (fun es' S' q => ?_) fun _ _ q => q.mono le1⟩
  rintro vs g2 rfl ok2 le2 r2
  split at q
  · rename_i hl
    have q : RFin X g Q (.own (ds ++ es')) g2.V := q
    have ra : RpAll X.K g2.F (ys ++ vs) (ds ++ es') := by
      exact rpAll_app (RpAll.mono le2.fro hr) r2
    refine ⟨?_, fun p hp => ?_⟩
    · rw [ra.length]
      refine line_le ?_
      rw [List.length_append]
      exact hl
    · exact (RFin.mono (le1.trans le2) q).newL ok2 hp ra
  · exact q.elim
/-! ### zip of two lists with strict=True -/
theorem walk_zipS {K : PySem.W.Frag} {a b : Addr} {xs ys : List V} {n : Nat} (hn : n = xs.length) (hm : n = ys.length) : Walk (Zs.ItzS K a b) n (fun H => SqL K H a xs ∧ SqL K H b ys) (YPair (fun i => xs[i]?) (fun i => ys[i]?)) :=
  ⟨fun i H hi q => ⟨xs, ys, xs[i]'(by omega), ys[i]'(by omega), q.1, q.2, by simp [show i < xs.length by omega], by simp [show i < ys.length by omega]⟩, fun H q => ⟨xs, ys, q.1, q.2, by omega, by omega⟩, fun i H x H' hi q y => by
    obtain ⟨T, u, v, e1, e2, e3, h1, h2⟩ := y
    exact ⟨T, u, v, e1, e2, e3, h1 xs q.1, h2 ys q.2⟩⟩
theorem xi_zipS (free : X.mg "zip" = none) (hg : Gl X "zip") {p kp ep : Pos} {kc : Nat} {x y : E} {elts : List Expr} {kk : Nat} (hx : PE X a (tM X W (evE Γ x))) (hy : PE X b (tM X W (evE Γ y)))
    (hs : starEach [a, b] X.env = (false, eval a X.env) :: starEach [b] X.env) (hs2 : starEach [b] X.env = [(false, eval b X.env)]) :
    PI X (.Tuple elts kk tpos) (.Call (.Name "zip" p) [a, b] [⟨some "strict", .Constant (.bool true) kc ep, kp⟩] pos) (tI X W (evI Γ (.zipS x y))) := by
  refine PI.imp (Zs.pi_zipS hg free (pa_cons (pe_D hx) (pa_one (pe_D hy) hs2) hs) hs (by rw [hs, hs2]; rfl)) fun σ H Rr hw => ?_
  obtain ⟨g, ρ, rfl, ok, er, hp⟩ := hw
  simp only [evI] at hp
  refine ⟨g, ρ, rfl, ok, er, (bind_post hp).mono (fun d S' q => ?_) fun _ _ q => q⟩
  rintro v g1 rfl ok1 le1 r1
  refine ⟨g1, ρ, rfl, ok1, er.mono le1, (bind_post q).mono (fun e S' q => ?_) fun _ _ q => q.mono le1⟩
  rintro u g2 rfl ok2 le2 r2
  obtain ⟨ds, ed, q⟩ := of_post q
  have q : ∀ J, WalkOk X.K g2 J ds → Rr J g2.H := fun J wk => q J g2 rfl ok2 (le1.trans le2) wk
  have r1 := r1.mono le2.fro
  have pair : ∀ {xs ys : List V} {es fs : List PyData} (i : Nat) (u v : V), RpAll X.K g2.F xs es → RpAll X.K g2.F ys fs → (fun (i : Nat) => xs[i]?) i = some u → (fun (i : Nat) => ys[i]?) i = some v → ∃ d e, (List.zipWith (fun a b => PyData.tuple [a, b]) es fs)[i]? = some (.tuple [d, e]) ∧ Rp X.K g2.F u d ∧ Rp X.K g2.F v e := by
    intro xs ys es fs i u v ra rb h1 h2
    obtain ⟨z, ez, rz⟩ := ra.getV h1
    obtain ⟨z', ez', rz'⟩ := rb.getV h2
    exact ⟨z, z', by rw [List.getElem?_zipWith, ez, ez'], rz, rz'⟩
  unfold zipSD at ed
  split at ed
  · split at ed
    · rename_i hlen
      cases ed
      cases r1 with
      | lst ha ra =>
      cases r2 with
      | lst hb rb =>
      refine ⟨_, _, _, _, rfl, SqL.of (ok2.sub _ _ ha), SqL.of (ok2.sub _ _ hb), q _ (wo_pair (walk_zipS rfl (by rw [ra.length, rb.length, hlen])) (by rw [List.length_zipWith, ra.length, hlen, Nat.min_self]) (fun g hs ok => ⟨SqL.of (ok.sub _ _ (hs _ _ ha)), SqL.of (ok.sub _ _ (hs _ _ hb))⟩) fun i u v hi h1 h2 => pair i u v ra rb h1 h2)⟩
    · cases ed
  · cases ed
end
end Pv

/-! Pv13 -/
set_option Elab.async false
set_option linter.all false
set_option maxRecDepth 100000
set_option maxHeartbeats 4000000
namespace Pv
open PySem PySem.Spec PyProof.Rows L2
section
variable {cc : CC} {Γ : Ctx} {N : List Str} {n : Nat}
theorem compEs_len {sc : Scope} : ∀ {es : List Expr} {xs : Es} {n : Nat}, compEs cc N n sc es = some xs → xs.len = es.length
  | [], xs, n, h => by
    cases n <;> (simp only [compEs, Option.some.injEq] at h; subst h; rfl)
  | e :: es, xs, n, h => by
    obtain ⟨m, x, r, rfl, e1, e2, rfl⟩ := compEs_cons h
    show r.len + 1 = _
    rw [compEs_len e2]
    rfl
theorem compEs_nil {sc : Scope} {xs : Es} (h : compEs cc N n sc [] = some xs) : xs = .nil := by
  cases n <;> (simp only [compEs, Option.some.injEq] at h; exact h.symm)
theorem compEs_star {sc : Scope} {es : List Expr} {xs : Es} (h : compEs cc N n sc es = some xs) {env : PySem.Env} : ∀ e r, e ∈ es → starEach (e :: r) env = (false, eval e env) :: starEach r env := by
  have go : ∀ {es : List Expr} {xs : Es} {n : Nat}, compEs cc N n sc es = some xs → ∀ e r, e ∈ es → starEach (e :: r) env = (false, eval e env) :: starEach r env := by
    intro es
    induction es with
    | nil => intro xs n _ e r h; cases h
    | cons a as ih =>
      intro xs n h e r hm
      obtain ⟨m, x, r', rfl, e1, e2, rfl⟩ := compEs_cons h
      rcases List.mem_cons.mp hm with rfl | hm
      · exact notStar_of e1 r env
      · exact ih e2 e r hm
  exact go h
theorem call_star {sc : Scope} {es : List Expr} {xs : Es} {pos : Pos} (h : compEs cc N n sc es = some xs) {env : PySem.Env} : ∀ e r, es = e :: r → starEach (e :: r) env = (false, eval e env) :: starEach r env ∧ (backTo pos (starEach r env)).any (·.1) = false := by
  rintro e r rfl
  obtain ⟨m, x, r', rfl, e1, e2, rfl⟩ := compEs_cons h
  exact ⟨notStar_of e1 r env, backTo_any _ (star_any e2 env)⟩
theorem mOk_blk {X : Cx} (M : MOk cc Γ X) (s : Shared) (H : Hp) (scope : Scope) (cenv : PySem.Env) (fp : List Addr) : MOk cc Γ (X.blk s H scope cenv fp) where
  ok := ⟨M.ok.calm, M.ok.gu, M.ok.un⟩
  nd := M.nd
  fn := M.fn
  con := M.con
  free := M.free
  gcd := M.gcd
theorem takes_no (X : Cx) : Takes X noW := fun u s' ⟨a, B, sI, pins, σ, H, cls, d, e, I, nb, up, sky, na, os, ag, w⟩ => w.elim
theorem tgX_of {X : Cx} {scope : Scope} {tg : Expr} (h1 : ∀ x k, k ≠ NameKind.free → scope.names.lookup x = some k → X.env.scope.names.lookup x = some k) (h2 : ∀ x, scope.names.lookup x = some .cell → X.fn x = true) (h : tgLoc scope tg = true) : tgX X tg := by
  have one : ∀ x p, nmLoc scope (.Name x p) = true → LocX X x := by
    intro x p h
    simp only [nmLoc] at h
    split at h
    · rename_i q
      have q2 := h1 x _ (by decide) q
      exact ⟨.inl q2, .inr q2⟩
    · rename_i q
      have q2 := h1 x _ (by decide) q
      exact ⟨.inr q2, .inl (h2 x q)⟩
    · cases h
  unfold tgX
  split
  · exact one _ default (by unfold tgLoc at h; exact h)
  · rename_i es k p
    intro x q hm
    unfold tgLoc at h
    simp only [List.all_eq_true] at h
    exact one x q (h _ hm)
  · trivial
theorem compCmp {sc : Scope} {a : Expr} {ops : List CmpOp} {cs : List Expr} {pos : Pos} {x : E} (h : compE cc N (n + 1) sc (.Compare a ops cs pos) = some x) :
    (∃ op b xa xb, ops = [op] ∧ cs = [b] ∧ notSet b = true ∧ compE cc N n sc a = some xa ∧ compE cc N n sc b = some xb ∧ x = .cmp op xa xb) ∨
    (∃ op op' b c xa xb xc, ops = [op, op'] ∧ cs = [b, c] ∧ notSet c = true ∧ compE cc N n sc a = some xa ∧ compE cc N n sc b = some xb ∧ compE cc N n sc c = some xc ∧ x = .chn op op' xa xb xc) := by
  unfold compE at h
  split at h <;> rename_i q <;> first | (cases q; done) | skip
  · cases q
    obtain ⟨h1, h⟩ := oif h
    obtain ⟨xa, e1, h⟩ := obind h
    obtain ⟨xb, e2, h⟩ := obind h
    exact .inl ⟨_, _, xa, xb, rfl, rfl, h1, e1, e2, (Option.some.inj h).symm⟩
  · cases q
    obtain ⟨h1, h⟩ := oif h
    obtain ⟨xa, e1, h⟩ := obind h
    obtain ⟨xb, e2, h⟩ := obind h
    obtain ⟨xc, e3, h⟩ := obind h
    exact .inr ⟨_, _, _, _, xa, xb, xc, rfl, rfl, h1, e1, e2, e3, (Option.some.inj h).symm⟩
  · cases h
theorem last_of {op op' : CmpOp} {b c : Expr} (h : notSet c = true) : lastMarks [op, op'] [b, c] = false := behind_of h
theorem compBool {sc : Scope} {op : BoolOp} {es : List Expr} {pos : Pos} {x : E} (h : compE cc N (n + 1) sc (.BoolOp op es pos) = some x) :
    ∃ a b r xa xb, es = a :: b :: r ∧ compE cc N n sc a = some xa ∧ ((r = [] ∧ compE cc N n sc b = some xb) ∨ compE cc N n sc (.BoolOp op (b :: r) pos) = some xb) ∧ ((op = .And ∧ x = .andv xa xb) ∨ (op = .Or ∧ x = .orv xa xb)) := by
  unfold compE at h
  split at h <;> rename_i q <;> first | (cases q; done) | skip
  · cases q
    obtain ⟨xa, e1, h⟩ := obind h
    obtain ⟨xb, e2, h⟩ := obind h
    exact ⟨_, _, _, xa, xb, rfl, e1, .inl ⟨rfl, e2⟩, .inl ⟨rfl, (Option.some.inj h).symm⟩⟩
  · cases q
    obtain ⟨xa, e1, h⟩ := obind h
    obtain ⟨xb, e2, h⟩ := obind h
    exact ⟨_, _, _, xa, xb, rfl, e1, .inr e2, .inl ⟨rfl, (Option.some.inj h).symm⟩⟩
  · cases q
    obtain ⟨xa, e1, h⟩ := obind h
    obtain ⟨xb, e2, h⟩ := obind h
    exact ⟨_, _, _, xa, xb, rfl, e1, .inl ⟨rfl, e2⟩, .inr ⟨rfl, (Option.some.inj h).symm⟩⟩
  · cases q
    obtain ⟨xa, e1, h⟩ := obind h
    obtain ⟨xb, e2, h⟩ := obind h
    exact ⟨_, _, _, xa, xb, rfl, e1, .inr e2, .inr ⟨rfl, (Option.some.inj h).symm⟩⟩
  · cases h
theorem sndW_step (hT : SndT cc Γ N n) (hW : SndW cc Γ N n) : SndW cc Γ N (n + 1) := by
  intro X W sc op es pos x m M hN hs tk h ht
  cases m with
  | zero => cases ht
  | succ m =>
    obtain ⟨a, b, r, xa, xb, rfl, e1, e2, e3⟩ := compBool h
    have ht : (a :: b :: r).all (tOk m) = true := ht
    simp only [List.all_cons, Bool.and_eq_true] at ht
    have pa := hT X W sc a xa m M hN hs tk e1 ht.1
    have hrest : PW X (.BoolOp op (b :: r) pos) (tBt X W fun ρ => asB (evE Γ xb ρ)) := by
      rcases e2 with ⟨rfl, e2⟩ | e2
      · have pb := hT X W sc b xb m M hN hs tk e2 ht.2.1
        rcases e3 with ⟨rfl, _⟩ | ⟨rfl, _⟩
        · exact pw_and1 pb
        · exact pw_or1 pb
      · refine hW X W sc op (b :: r) pos xb (m + 1) M hN hs tk e2 ?_
        show (b :: r).all (tOk m) = true
        simp only [List.all_cons, Bool.and_eq_true]
        exact ht.2
    rcases e3 with ⟨rfl, rfl⟩ | ⟨rfl, rfl⟩
    · exact xw_and1 (t := tYes) pa hrest
    · exact xw_or1 pa hrest
theorem sndT_step (hE : SndE cc Γ N (n + 1)) (hE0 : SndE cc Γ N n) (hT : SndT cc Γ N n) (hW : SndW cc Γ N (n + 1)) : SndT cc Γ N (n + 1) := by
  intro X W sc e x m M hN hs tk h ht
  cases m with
  | zero => cases ht
  | succ m =>
    have hv := hE X W sc e x M hN hs tk h
    cases e with
    | BoolOp op es pos => exact (hW X W sc op es pos x (m + 1) M hN hs tk h ht).pt
    | UnaryOp op a pos =>
      cases op with
      | Not =>
        have h' : (compE cc N n sc a >>= fun y => pure (E.notv y)) = some x := by
          unfold compE at h
          exact h
        obtain ⟨y, e1, h'⟩ := obind h'
        cases h'
        exact xt_not (hT X W sc a y m M hN hs tk e1 ht)
      | _ => exact xt_val hv (by intro _; rfl)
    | IfExp => cases ht
    | Compare a ops cs pos =>
      rcases compCmp h with ⟨op, b, xa, xb, rfl, rfl, hb, e1, e2, rfl⟩ | ⟨op, op', b, c, xa, xb, xc, rfl, rfl, hb, e1, e2, e3, rfl⟩
      · exact xt_cmp M.ok (behind_of hb) (hE0 X W sc a xa M hN hs tk e1) (hE0 X W sc b xb M hN hs tk e2)
      · exact xt_chn M.ok (last_of hb) (hE0 X W sc a xa M hN hs tk e1) (hE0 X W sc b xb M hN hs tk e2) (hE0 X W sc c xc M hN hs tk e3)
    | _ => exact xt_val hv (by intro _; rfl)
theorem sndO_step (hE : SndE cc Γ N n) : SndO cc Γ N (n + 1) := by
  intro X W sc e x M hN hs tk h
  cases e with
  | none =>
    simp only [compO, Option.some.injEq] at h
    subst h
    exact xo_none
  | some e =>
    unfold compO at h
    obtain ⟨y, e1, h⟩ := obind (show (compE cc N n sc e >>= fun x => if isNl x = true then none else some x) = some x from h)
    by_cases hn : isNl y = true
    · rw [if_pos hn] at h; cases h
    · rw [if_neg hn] at h
      cases h
      exact xo_some (Bool.eq_false_iff.mpr hn) (hE X W sc e x M hN hs tk e1)
theorem sndL_step (hE : SndE cc Γ N n) (hL : SndL cc Γ N n) : SndL cc Γ N (n + 1) := by
  intro X W sc es xs M hN hs tk h
  cases es with
  | nil =>
    have e := compEs_nil h
    subst e
    exact ⟨xa_nil, xr_nil⟩
  | cons e es =>
    obtain ⟨m, x, r, hm, e1, e2, rfl⟩ := compEs_cons h
    cases hm
    have st := notStar_of e1 es X.env
    have pe := hE X W sc e x M hN hs tk e1
    obtain ⟨p1, p2⟩ := hL X W sc es r M hN hs tk e2
    exact ⟨xa_cons st pe p1, xr_cons st pe p2⟩
theorem sndI_step (hE : SndE cc Γ N n) (hL : SndL cc Γ N n) : SndI cc Γ N (n + 1) := by
  intro X W sc tup tg e x M hN hs tk htup h
  unfold compI at h
  split at h
  · rename_i f p as pos
    suffices hh : PI X tg (.Call (.Name f p) as [] pos) (tI X W (evI Γ x)) ∧ (isRng x = true → PI X tg (.Call (.Name f p) as [] pos) (tIa X W (evI Γ x))) from ⟨hh.1, rfl, hh.2⟩
    split at h
    · rename_i hc
      simp only [Bool.and_eq_true, decide_eq_true_eq] at hc
      obtain ⟨⟨hp, hg⟩, rfl⟩ := hc
      rw [← hs] at hg
      have gl := gl_of hg
      have fin : ∀ xs, compEs cc N n sc as = some xs → (as.length = 1 ∨ as.length = 2 ∨ as.length = 3) → PI X tg (.Call (.Name "range" p) as [] pos) (tI X W (evI Γ (.rng xs))) ∧ (isRng (.rng xs) = true → PI X tg (.Call (.Name "range" p) as [] pos) (tIa X W (evI Γ (.rng xs)))) := fun xs e1 hl => by
        have st : ∀ e r, starEach (e :: r) X.env = (false, eval e X.env) :: starEach r X.env ∨ ¬ e ∈ as := fun e r => by
          by_cases hm : e ∈ as
          · exact .inl (compEs_star e1 e r hm)
          · exact .inr hm
        exact ⟨xi_rng (M.free _ (by decide)) gl (compEs_len e1) (hL X W sc as xs M hN hs tk e1).1 st hl, fun _ => xi_rngA (M.free _ (by decide)) gl (compEs_len e1) (hL X W sc as xs M hN hs tk e1).1 st hl⟩
      split at h
      · obtain ⟨xs, e1, h⟩ := obind h
        cases h
        exact fin xs e1 (.inl rfl)
      · obtain ⟨xs, e1, h⟩ := obind h
        cases h
        exact fin xs e1 (.inr (.inl rfl))
      · obtain ⟨xs, e1, h⟩ := obind h
        cases h
        exact fin xs e1 (.inr (.inr rfl))
      · cases h
    · split at h
      · rename_i hc
        simp only [Bool.and_eq_true, decide_eq_true_eq] at hc
        obtain ⟨⟨hp, hg⟩, rfl⟩ := hc
        rw [← hs] at hg
        have gl := gl_of hg
        split at h
        · obtain ⟨ht, h⟩ := oif h
          obtain ⟨y, e1, h⟩ := obind h
          cases h
          have it := htup ht
          cases tg <;> first | (cases it; done) | skip
          exact ⟨xi_enum (M.free _ (by decide)) gl (hE X W sc _ y M hN hs tk e1) (notStar_of e1 _ _), fun z => nomatch z⟩
        · cases h
      · split at h
        · rename_i hc
          simp only [Bool.and_eq_true, decide_eq_true_eq] at hc
          obtain ⟨⟨hp, hg⟩, rfl⟩ := hc
          rw [← hs] at hg
          have gl := gl_of hg
          split at h
          · obtain ⟨ht, h⟩ := oif h
            obtain ⟨y, e1, h⟩ := obind h
            obtain ⟨z, e2, h⟩ := obind h
            cases h
            have it := htup ht
            cases tg <;> first | (cases it; done) | skip
            exact ⟨xi_zip (M.free _ (by decide)) gl (hE X W sc _ y M hN hs tk e1) (hE X W sc _ z M hN hs tk e2) (notStar_of e1 _ _) (notStar_of e2 _ _), fun z => nomatch z⟩
          · cases h
        · obtain ⟨y, e1, h⟩ := obind h
          cases h
          exact ⟨xi_it (hE X W sc _ y M hN hs tk e1), fun z => nomatch z⟩
  · rename_i f p a b k kc ep kp pos
    obtain ⟨hc, h2⟩ := oif h
    clear h
    simp only [Bool.and_eq_true, decide_eq_true_eq] at hc
    obtain ⟨⟨⟨⟨hp, hg⟩, rfl⟩, rfl⟩, ht⟩ := hc
    obtain ⟨y, e1, h2⟩ := obind h2
    obtain ⟨z, e2, h2⟩ := obind h2
    cases h2
    rw [← hs] at hg
    have gl := gl_of hg
    have it := htup ht
    cases tg <;> first | (cases it; done) | skip
    exact ⟨xi_zipS (M.free _ (by decide)) gl (hE X W sc _ y M hN hs tk e1) (hE X W sc _ z M hN hs tk e2) (notStar_of e1 _ _) (notStar_of e2 _ _), rfl, fun z => nomatch z⟩
  · obtain ⟨hns, h⟩ := oif h
    obtain ⟨y, e1, h⟩ := obind h
    cases h
    exact ⟨xi_it (hE X W sc _ y M hN hs tk e1), hns, fun z => nomatch z⟩
end
end Pv

/-! Pv13s -/
set_option Elab.async false
set_option linter.all false
set_option maxRecDepth 100000
set_option maxHeartbeats 4000000
namespace Pv
open PySem PySem.Spec PyProof.Rows L2
def srcKey (k : Nat) : Str := if k = 0 then "left" else if k = 1 then "mixed" else "turn"
theorem srcK_key {s : Str} {k : Nat} (h : srcK s = some k) : s = srcKey k ∧ (k = 0 ∨ k = 1 ∨ k = 2) := by
  unfold srcK at h
  by_cases h1 : s = "left"
  · rw [if_pos h1] at h; cases h; exact ⟨h1, .inl rfl⟩
  rw [if_neg h1] at h
  by_cases h2 : s = "mixed"
  · rw [if_pos h2] at h; cases h; exact ⟨h2, .inr (.inl rfl)⟩
  rw [if_neg h2] at h
  by_cases h3 : s = "turn"
  · rw [if_pos h3] at h; cases h; exact ⟨h3, .inr (.inr rfl)⟩
  rw [if_neg h3] at h
  cases h
theorem srcKv_get (s : Src) {k : Nat} (h : k = 0 ∨ k = 1 ∨ k = 2) : valV (srcKv s) (.inr (srcKey k)) = some (.int (srcGet s.v k)) := by
  rcases h with rfl | rfl | rfl <;> rfl
theorem srcKv_cells (s : Src) : valV (srcKv s) (.inr "cells") = some (.ref s.c) := by rfl
theorem srcKv_put (s : Src) {k : Nat} (n : Int) (h : k = 0 ∨ k = 1 ∨ k = 2) : putK (srcKv s) (.inr (srcKey k)) (.int n) = srcKv { s with v := srcPut s.v k n } := by
  rcases h with rfl | rfl | rfl <;> rfl
theorem srcKv_make (p c : Addr) (v : SV) : mergeK [] [(.inr "cells", V.ref c), (.inr "left", .int v.left), (.inr "mixed", .int v.mixed), (.inr "turn", .int v.turn)] = srcKv ⟨p, c, v⟩ := by rfl
section
variable {X : Cx} {W : WX} {Γ : Ctx} {pos p1 p2 p3 p4 : Pos}
theorem rd_post {r : R} {f : SV → Int} {S : SS} {P : R → SS → Prop} {E : Exc → SS → Prop} (h : ((M.rd r f) S).Post P E) : r = .src ∧ ∃ s, S = some s ∧ P (.val (.int (f s))) S := by
  unfold M.rd at h
  split at h
  · exact ⟨rfl, _, rfl, h⟩
  · exact h.elim
theorem v_some {g : Gs} {sv : SV} (h : g.V = some sv) : ∃ s, g.S = some s ∧ s.v = sv := by
  cases q : g.S with
  | none =>
    have h : g.S.map (·.v) = some sv := h
    rw [q] at h; cases h
  | some s =>
    have h : g.S.map (·.v) = some sv := h
    rw [q] at h; cases h
    exact ⟨s, rfl, rfl⟩
theorem src_at {K : PySem.W.Frag} {g : Gs} {s : Src} {v : V} (e : g.S = some s) (h : RepR K g g v .src) : v = .ref s.a := by
  obtain ⟨s', e', rfl⟩ := h
  rw [e] at e'
  cases e'
  rfl
theorem xe_srcI (co : COk X) {i k : Nat} {x s : Str} {j : Nat} (hN : X.N[i]? = some x) (hv : Vis X.env.scope x) (d1 : (x == ("__debug__" : Str)) = false) (d2 : (x == ("__classdict__" : Str)) = false) (hk : srcK s = some k) :
    PE X (.Subscript (.Name x p1) (.Constant (.str s) j p2) pos) (tM X W (evE Γ (.srcI i k))) := by
  obtain ⟨rfl, hk2⟩ := srcK_key hk
  refine PE.imp (pe_dget (by have := co.un; omega) (pe_var hN hv d1 d2) pe_str (fun _ _ => rfl)) fun σ H Q hw => ?_
  obtain ⟨g, ρ, rfl, ok, er, hp⟩ := hw
  simp only [evE] at hp
  obtain ⟨r, e1, hp⟩ := of_post (bind_post hp)
  obtain ⟨rfl, sv, eV, q⟩ := rd_post hp
  obtain ⟨s, eS, rfl⟩ := v_some eV
  obtain ⟨e2, no⟩ := getV_some e1
  rcases er.2 i _ e2 with ⟨ds, _, h, _⟩ | ⟨v, q1, _, q2⟩
  · cases h
  have ev := src_at eS q2
  subst ev
  obtain ⟨h0, h1, h2⟩ := ok.src s eS
  refine ⟨_, q1, s.a, _, rfl, .inl ⟨srcKv s, .inr (srcKey k), .inl h1, rfl, (srcKv_get s hk2).symm⟩, ?_⟩
  exact q (.int _) g rfl ok (Gs.Le.refl g) (.int _)
theorem xe_srcN (co : COk X) (free : X.mg "len" = none) {i : Nat} {x : Str} {j : Nat} (hg : Gl X "len") (hN : X.N[i]? = some x) (hv : Vis X.env.scope x) (d1 : (x == ("__debug__" : Str)) = false) (d2 : (x == ("__classdict__" : Str)) = false) :
    PE X (.Call (.Name "len" p3) [.Subscript (.Name x p1) (.Constant (.str "cells") j p2) p4] [] pos) (tM X W (evE Γ (.srcN i))) := by
  refine PE.imp (pe_callB call_len_seq hg free (by decide +kernel) (pa_one (pe_dget (by have := co.un; omega) (pe_var hN hv d1 d2) pe_str (fun _ _ => rfl)) rfl) (by decide) (by decide) rfl rfl) fun σ H Q hw => ?_
  obtain ⟨g, ρ, rfl, ok, er, hp⟩ := hw
  simp only [evE] at hp
  obtain ⟨r, e1, hp⟩ := of_post (bind_post hp)
  obtain ⟨rfl, sv, eV, q⟩ := rd_post hp
  obtain ⟨s, eS, rfl⟩ := v_some eV
  obtain ⟨e2, no⟩ := getV_some e1
  rcases er.2 i _ e2 with ⟨ds, _, h, _⟩ | ⟨v, q1, _, q2⟩
  · cases h
  have ev := src_at eS q2
  subst ev
  obtain ⟨h0, h1, h2⟩ := ok.src s eS
  refine ⟨_, q1, s.a, _, rfl, .inl ⟨srcKv s, .inr "cells", .inl h1, rfl, (srcKv_cells s).symm⟩, s.c, s.v.cells.map V.int, rfl, .inl (SqL.of h2), ?_⟩
  rw [List.length_map]
  exact q (.int _) g rfl ok (Gs.Le.refl g) (.int _)
theorem asI_post {m : M R} {S : SS} {P : Int → SS → Prop} {E : Exc → SS → Prop} (h : ((asI m) S).Post P E) : ((asD m) S).Post (fun d S' => ∃ n, d = .int n ∧ P n S') E :=
  (bind_post h).mono (fun d S' q => by
    obtain ⟨n, e, q⟩ := of_post q
    unfold toInt at e
    split at e
    · cases e; exact ⟨_, rfl, q⟩
    · cases e) fun _ _ q => q
theorem ints_rp {K : PySem.W.Frag} {F : Hp} : ∀ {ds : List PyData} {xs : List V} {ns : List Int}, RpAll K F xs ds → intsOf ds = some ns → xs = ns.map V.int
  | [], xs, ns, r, h => by
    cases r
    simp only [intsOf, Option.some.injEq] at h
    subst h
    rfl
  | d :: ds, xs, ns, r, h => by
    cases r with
    | cons r1 rr =>
      cases d <;> simp only [intsOf] at h <;> try cases h
      obtain ⟨a, e1, e2⟩ := (Option.map_eq_some_iff.mp h)
      subst e2
      cases r1
      rw [ints_rp rr e1]
      rfl
theorem xe_srcNew (co : COk X) {a b c d : Expr} {xa xb xc xd : E} {j1 j2 j3 j4 : Nat} {q1 q2 q3 q4 : Pos} (ha : PE X a (tM X W (evE Γ xa))) (hb : PE X b (tM X W (evE Γ xb))) (hc : PE X c (tM X W (evE Γ xc))) (hd : PE X d (tM X W (evE Γ xd))) :
    PE X (.Dict [some (.Constant (.str "cells") j1 q1), some (.Constant (.str "left") j2 q2), some (.Constant (.str "mixed") j3 q3), some (.Constant (.str "turn") j4 q4)] [a, b, c, d] pos) (tM X W (evE Γ (.srcNew xa xb xc xd))) := by
  refine PE.imp (pe_disp (pps_cons pe_str ha (pps_cons pe_str (pe_D hb) (pps_cons pe_str (pe_D hc) (pps_cons pe_str (pe_D hd) pps_nil)))) rfl rfl (by simp) (by simp)) fun σ H Q hw => ?_
  obtain ⟨g, ρ, rfl, ok, er, hp⟩ := hw
  simp only [evE] at hp
  intro p hpn
  let gD := g.lay p (.dK [])
  have okD : gD.Ok := Gs.lay_ok ok (ok.noneF hpn) (ok.nhas hpn)
  have leD : g.Le gD := Gs.lay_le ok hpn
  refine ⟨gD, ρ, rfl, okD, er.mono leD, (bind_post hp).mono (fun r S q => ?_) fun _ _ q => q.mono leD⟩
  rintro v1 g1 rfl ok1 le1 rep1
  obtain ⟨ns, en, qn⟩ := of_post (bind_post q)
  obtain ⟨ds, rfl, en⟩ : ∃ ds, r = .own ds ∧ intsOf ds = some ns := by
    cases r with
    | own ds => exact ⟨ds, rfl, en⟩
    | val d => cases en
    | src => cases en
    | scr z => cases en
  obtain ⟨ac, xs, rfl, h0, h1, h2, h3, h4⟩ := rep1
  have exs := ints_rp h4 en
  rw [exs] at h3
  have leg1 := leD.trans le1
  refine ⟨g1, ρ, rfl, ok1, er.mono leg1, (asI_post (bind_post qn)).mono (fun dl S q => ?_) fun _ _ q => q.mono leg1⟩
  rintro v2 g2 rfl ok2 le2 rp2
  obtain ⟨l, rfl, ql⟩ := q
  cases rp2
  have leg2 := leg1.trans le2
  refine ⟨g2, ρ, rfl, ok2, er.mono leg2, (asI_post (bind_post ql)).mono (fun dl S q => ?_) fun _ _ q => q.mono leg2⟩
  rintro v3 g3 rfl ok3 le3 rp3
  obtain ⟨m, rfl, qm⟩ := q
  cases rp3
  have leg3 := leg2.trans le3
  refine ⟨g3, ρ, rfl, ok3, er.mono leg3, (asI_post (bind_post qm)).mono (fun dl S q => ?_) fun _ _ q => q.mono leg3⟩
  rintro v4 g4 rfl ok4 le4 rp4
  obtain ⟨t, rfl, qt⟩ := q
  cases rp4
  have leg4 := leg3.trans le4
  have le14 : g1.Le g4 := (le2.trans le3).trans le4
  have leD4 : gD.Le g4 := le1.trans le14
  -- the end
  have hV : g4.V = none ∧ RFin X g Q .src (some ⟨ns, l, m, t⟩) := by
    unfold M.mk at qt
    split at qt
    · rename_i e
      exact ⟨e, qt⟩
    · exact qt.elim
  obtain ⟨eV, qf⟩ := hV
  have eS : g4.S = none := by
    cases z : g4.S with
    | none => rfl
    | some s =>
      have eV : g4.S.map (·.v) = none := eV
      rw [z] at eV
      cases eV
  have hp4 : g4.H p = some (.dK []) := leD4.keep p _ upd_same (by
    intro z
    exact ok.nhas hpn z)
  have hc4 : g4.H ac = some (.lst (ns.map V.int)) := le14.keep ac _ h3 h2
  have fp4 : g4.F p = none := leD4.new p (ok.noneF hpn) (by show upd g.H p _ p ≠ none; rw [upd_same]; simp)
  have fc4 : g4.F ac = none := le14.new ac h1 (by rw [h3]; simp)
  have hne : p ≠ ac := fun e => by
    rw [← e] at h0
    have h0 : upd g.H p (.dK []) p = none := h0
    rw [upd_same] at h0
    cases h0
  have hcg : g.H ac = none := leD.none h0
  refine ⟨hp4, [(.inr "cells", V.ref ac), (.inr "left", .int l), (.inr "mixed", .int m), (.inr "turn", .int t)], rfl, (by show 4 ≤ 15; decide), ?_⟩
  rw [srcKv_make p ac ⟨ns, l, m, t⟩]
  refine qf (.ref p) ⟨g4.F, some ⟨p, ac, ⟨ns, l, m, t⟩⟩, upd g4.H p (.dK (srcKv ⟨p, ac, ⟨ns, l, m, t⟩⟩))⟩ rfl ⟨fun b o e => ?_, fun s e => ?_, fun b hb => ?_⟩ ⟨leg4.fro, fun b o e n => ?_, fun b e => ?_, leg4.new, fun b hb => ?_, fun s e => ?_⟩ ⟨_, rfl, rfl⟩
  · show upd g4.H p _ b = some o
    rw [upd_ne (fun z => by rw [z, fp4] at e; cases e)]
    exact ok4.sub b o e
  · cases e
    refine ⟨hne, upd_same, ?_⟩
    show upd g4.H p _ ac = _
    rw [upd_ne (Ne.symm hne)]
    exact hc4
  · obtain ⟨s, e, hb⟩ := hb
    cases e
    rcases hb with rfl | rfl
    · exact fp4
    · exact fc4
  · show upd g4.H p _ b = some o
    rw [upd_ne (ne_of_none e hpn)]
    exact leg4.keep b o e n
  · show upd g4.H p _ b ≠ none
    by_cases z : b = p
    · subst z; rw [upd_same]; simp
    · rw [upd_ne z]; exact leg4.dom b e
  · obtain ⟨s, e, hb⟩ := hb
    cases e
    rcases hb with rfl | rfl
    · exact .inr hpn
    · exact .inr hcg
  · obtain ⟨s', e', _⟩ := leg4.same s e
    rw [eS] at e'
    cases e'
end
end Pv

/-! Pv14 -/
set_option Elab.async false
set_option linter.all false
set_option maxRecDepth 100000
set_option maxHeartbeats 4000000
namespace Pv
open PySem PySem.Spec PyProof.Rows L2
section
variable {cc : CC} {Γ : Ctx} {N : List Str} {n : Nat}
theorem stepOf_sl {e : Expr} {st : Int} (h : ((stepOf e).bind fun i => if i = 1 then none else some i) = some st) : stepOf e = some st ∧ st ≠ 1 := by
  cases q : stepOf e with
  | none => rw [q] at h; cases h
  | some i =>
    rw [q] at h
    have h : (if i = 1 then none else some i) = some st := h
    by_cases h1 : i = 1
    · rw [if_pos h1] at h; cases h
    · rw [if_neg h1] at h
      cases h
      exact ⟨rfl, h1⟩
theorem own_sub {t : Tg} {vs : List Nat} (h : tgIn t vs = true) : ∀ j ∈ tgVars t, j ∈ vs := by
  intro j hj
  cases t with
  | one i =>
    have e : j = i := by simpa [tgVars] using hj
    subst e
    simpa [tgIn] using h
  | many js =>
    have h : ∀ i ∈ js, vs.contains i = true := by simpa [tgIn, List.all_eq_true] using h
    simpa using h j hj
/-- what a comprehension stands on -/
def LcOk (Γ : Ctx) (X : Cx) (W : WX) (elt tg it : Expr) (ifs : List Expr) (scope : Scope) (x : E) : Prop := ∃ (own : List (Str × Nat)) (wi : TI) (g : TG) (tt : TT) (te : TE), PI X tg it wi ∧ BlkOk X.N X.env.scope scope own ∧
  (∀ (s : Shared) (H : Hp) (C : Addr) (cl : List (Str × Addr)) (fp : List Addr), PG (X.blk s H scope (compEnvC scope cl C X.env) fp) tg g) ∧
  (∀ (s : Shared) (H : Hp) (C : Addr) (cl : List (Str × Addr)) (fp : List Addr), PTs (X.blk s H scope (compEnvC scope cl C X.env) fp) ifs tt) ∧
  (∀ (s : Shared) (H : Hp) (C : Addr) (cl : List (Str × Addr)) (fp : List Addr), PE (X.blk s H scope (compEnvC scope cl C X.env) fp) elt te) ∧
  (∀ x, foldedSetIterable it X.env x = pure x) ∧ ∀ σ H Q, tM X W (evE Γ x) σ H Q → tLc wi g tt te (own.map (·.2)) σ H Q
theorem lc_ok (hE : SndE cc Γ N n) (hT : SndT cc Γ N n) (hI : SndI cc Γ N n) {X : Cx} {W : WX} {sc : Scope} {elt tg it : Expr} {ifs : List Expr} {scope : Scope} {pos : Pos} {x : E} (M : MOk cc Γ X) (hN : X.N = N) (hs : X.env.scope = sc) (tk : Takes X W)
    (h : compE cc N (n + 1) sc (.ListComp elt [⟨tg, it, ifs, 0⟩] scope pos) = some x) : LcOk Γ X W elt tg it ifs scope x := by
  unfold compE at h
  obtain ⟨xi, e1, h⟩ := obind h
  obtain ⟨t, e2, h⟩ := obind h
  have key : ∃ c, ((ifs = [] ∧ c = Es.nil) ∨ ∃ c0 xc, ifs = [c0] ∧ tOk n c0 = true ∧ compE cc N n (relS scope sc) c0 = some xc ∧ c = .cons xc .nil) ∧
      (compE cc N n (relS scope sc) elt >>= fun y => if (blkC N sc scope (ownOf N scope) && tgLoc scope tg && tgIn t ((ownOf N scope).map (·.2))) = true then some (E.comp ((ownOf N scope).map (·.2)) t xi c y) else none) = some x := by
    cases ifs with
    | nil => exact ⟨.nil, .inl ⟨rfl, rfl⟩, h⟩
    | cons c0 r =>
      cases r with
      | nil =>
        by_cases ht : tOk n c0 = true
        · have h := show ((if tOk n c0 = true then (do
              let c ← Option.map (fun c => Es.cons c Es.nil) (compE cc N n (relS scope sc) c0)
              let y ← compE cc N n (relS scope sc) elt
              if (blkC N sc scope (ownOf N scope) && tgLoc scope tg && tgIn t ((ownOf N scope).map (·.2))) = true then some (E.comp ((ownOf N scope).map (·.2)) t xi c y) else none) else (do
              let c ← none
              let y ← compE cc N n (relS scope sc) elt
              if (blkC N sc scope (ownOf N scope) && tgLoc scope tg && tgIn t ((ownOf N scope).map (·.2))) = true then some (E.comp ((ownOf N scope).map (·.2)) t xi c y) else none)) = some x) from h
          rw [if_pos ht] at h
          obtain ⟨c, e3, h⟩ := obind h
          obtain ⟨xc, e5, rfl⟩ := omap e3
          exact ⟨_, .inr ⟨c0, xc, rfl, ht, e5, rfl⟩, h⟩
        · have h := show ((if tOk n c0 = true then (do
              let c ← Option.map (fun c => Es.cons c Es.nil) (compE cc N n (relS scope sc) c0)
              let y ← compE cc N n (relS scope sc) elt
              if (blkC N sc scope (ownOf N scope) && tgLoc scope tg && tgIn t ((ownOf N scope).map (·.2))) = true then some (E.comp ((ownOf N scope).map (·.2)) t xi c y) else none) else (none : Option E)) = some x) from h
          rw [if_neg ht] at h
          cases h
      | cons _ _ => cases (show (none : Option E) = some x from h)
  obtain ⟨c, e3, h⟩ := key
  obtain ⟨y, e4, h⟩ := obind h
  obtain ⟨hc, h⟩ := oif h
  cases h
  simp only [Bool.and_eq_true] at hc
  obtain ⟨⟨hb, hl⟩, hin⟩ := hc
  have bo : BlkOk X.N X.env.scope scope (ownOf N scope) := by
    rw [hN, hs]
    exact blkOk_by hb
  obtain ⟨pi, hns, _⟩ := hI X W sc (isTup tg) tg it xi M hN hs tk (fun z => z) e1
  refine ⟨_, _, _, _, _, pi, bo, fun s H C cl fp => ?_, fun s H C cl fp => ?_, fun s H C cl fp => ?_, fold_of hns, lc_imp (own_sub hin)⟩
  · refine pg_tg (X := X.blk s H scope (compEnvC scope cl C X.env) fp) ⟨M.ok.calm, M.ok.gu, M.ok.un⟩ M.nd (by show tgOf X.N tg = some t; rw [hN]; exact e2) ?_
    refine tgX_of (scope := scope) (fun x k hk hx => ?_) (fun x hx => ?_) hl
    · show (relS scope X.env.scope).names.lookup x = some k
      exact lookup_relS_keep hk hx
    · show (scope.names.lookup x == some NameKind.cell) = true
      rw [hx]
      rfl
  · have MB := mOk_blk M s H scope (compEnvC scope cl C X.env) fp
    have sB : (X.blk s H scope (compEnvC scope cl C X.env) fp).env.scope = relS scope sc := by rw [← hs]; rfl
    rcases e3 with ⟨rfl, rfl⟩ | ⟨c0, xc, rfl, ht, e5, rfl⟩
    · exact PTs.imp pts_nil fun σ H Q hw => evC_yes hw
    · have pt := hT _ noW (relS scope sc) c0 xc n MB hN sB (takes_no _) e5 ht
      refine pts_one (PT.imp pt fun σ H Q hw => ?_)
      simp only [evC] at hw
      exact hw
  · have MB := mOk_blk M s H scope (compEnvC scope cl C X.env) fp
    have sB : (X.blk s H scope (compEnvC scope cl C X.env) fp).env.scope = relS scope sc := by rw [← hs]; rfl
    exact pe_D (hE _ noW (relS scope sc) elt y MB hN sB (takes_no _) e4)
theorem ownIx_of {sc : Scope} {a : Expr} {j : Nat} (h : ownIx cc N sc a = some j) : ∃ x p, a = .Name x p ∧ (x == ("__debug__" : Str)) = false ∧ (x == ("__classdict__" : Str)) = false ∧ ixOf N x = some j ∧ isVis sc x = true := by
  unfold ownIx at h
  split at h
  · rename_i x p
    obtain ⟨hc, h⟩ := oif h
    simp only [Bool.and_eq_true] at hc
    obtain ⟨p1, p2, _⟩ := plain_of hc.1
    cases e : ixOf N x with
    | none => rw [e] at h; cases h
    | some i =>
      rw [e] at h
      have h : (if cc.own.contains i = true then some i else none) = some j := h
      split at h
      · cases h
        exact ⟨x, p, rfl, p1, p2, e, hc.2⟩
      · cases h
  · cases h
theorem sndE_step (hE : SndE cc Γ N n) (hT : SndT cc Γ N n) (hO : SndO cc Γ N n) (hL : SndL cc Γ N n) (hI : SndI cc Γ N n) : SndE cc Γ N (n + 1) := by
  intro X W sc e x M hN hs tk h
  have h0 := h
  unfold compE at h
  split at h
  -- names
  · rename_i y p
    obtain ⟨hp, h⟩ := oif h
    obtain ⟨p1, p2, p3⟩ := plain_of hp
    cases hv : isVis sc y with
    | true =>
      rw [hv, if_pos rfl] at h
      obtain ⟨i, e1, rfl⟩ := omap h
      rw [← hs] at hv
      exact xe_var (by rw [hN]; exact ixOf_get e1) (vis_of hv) p1 p2
    | false =>
      rw [hv, if_neg Bool.false_ne_true] at h
      obtain ⟨hg, h⟩ := oif h
      obtain ⟨i, e1, rfl⟩ := omap h
      rw [← hs] at hg
      exact xe_glob (gl_of hg) p1 fun d hd => M.con i y d (ixOf_get e1) hd
  · obtain ⟨d, e1, rfl⟩ := omap h
    exact xe_lit e1
  · obtain ⟨xa, e1, h⟩ := obind h
    obtain ⟨xb, e2, h⟩ := obind h
    cases h
    exact xe_bin (hE X W sc _ xa M hN hs tk e1) (hE X W sc _ xb M hN hs tk e2)
  · obtain ⟨xa, e1, h⟩ := obind h
    cases h
    exact xe_neg (hE X W sc _ xa M hN hs tk e1)
  · obtain ⟨xa, e1, h⟩ := obind h
    cases h
    exact xe_not (hE X W sc _ xa M hN hs tk e1)
  · obtain ⟨xa, e1, h⟩ := obind h
    obtain ⟨xb, e2, h⟩ := obind h
    cases h
    exact xe_and rfl (hE X W sc _ xa M hN hs tk e1) (pe_one (hE X W sc _ xb M hN hs tk e2))
  · obtain ⟨xa, e1, h⟩ := obind h
    obtain ⟨xb, e2, h⟩ := obind h
    cases h
    exact xe_and rfl (hE X W sc _ xa M hN hs tk e1) (hE X W sc _ xb M hN hs tk e2)
  · obtain ⟨xa, e1, h⟩ := obind h
    obtain ⟨xb, e2, h⟩ := obind h
    cases h
    exact xe_or rfl (hE X W sc _ xa M hN hs tk e1) (pe_one (hE X W sc _ xb M hN hs tk e2))
  · obtain ⟨xa, e1, h⟩ := obind h
    obtain ⟨xb, e2, h⟩ := obind h
    cases h
    exact xe_or rfl (hE X W sc _ xa M hN hs tk e1) (hE X W sc _ xb M hN hs tk e2)
  · obtain ⟨h1, h⟩ := oif h
    obtain ⟨xa, e1, h⟩ := obind h
    obtain ⟨xb, e2, h⟩ := obind h
    cases h
    exact xe_cmp M.ok (behind_of h1) (hE X W sc _ xa M hN hs tk e1) (hE X W sc _ xb M hN hs tk e2)
  · obtain ⟨h1, h⟩ := oif h
    obtain ⟨xa, e1, h⟩ := obind h
    obtain ⟨xb, e2, h⟩ := obind h
    obtain ⟨xc, e3, h⟩ := obind h
    cases h
    exact xe_chn M.ok (last_of h1) (hE X W sc _ xa M hN hs tk e1) (hE X W sc _ xb M hN hs tk e2) (hE X W sc _ xc M hN hs tk e3)
  · obtain ⟨h1, h⟩ := oif h
    obtain ⟨xc, e1, h⟩ := obind h
    obtain ⟨xa, e2, h⟩ := obind h
    obtain ⟨xb, e3, h⟩ := obind h
    cases h
    exact xe_ite (hT X W sc _ xc n M hN hs tk e1 h1) (hE X W sc _ xa M hN hs tk e2) (hE X W sc _ xb M hN hs tk e3)
  · obtain ⟨xs, e1, h⟩ := obind h
    cases h
    exact xe_tup (hL X W sc _ xs M hN hs tk e1).1
  · obtain ⟨xa, e1, h⟩ := obind h
    obtain ⟨xs, e2, h⟩ := obind h
    cases h
    exact xe_lstS (hE X W sc _ xa M hN hs tk e1) (hL X W sc _ xs M hN hs tk e2).1 rfl
  · obtain ⟨xs, e1, h⟩ := obind h
    cases h
    exact xe_lst (hL X W sc _ xs M hN hs tk e1).1
  -- slices
  · rename_i a lo hi st p2 p1
    have key : ∀ st', (compE cc N n sc a >>= fun xa => compO cc N n sc lo >>= fun xl => compO cc N n sc hi >>= fun xh => pure (E.slc xa xl xh st')) = some x →
        ∃ xa xl xh, PE X a (tM X W (evE Γ xa)) ∧ PO X lo (tPt X W (mPart Γ xl)) ∧ PO X hi (tPt X W (mPart Γ xh)) ∧ x = .slc xa xl xh st' := by
      intro st' h
      obtain ⟨xa, e1, h⟩ := obind h
      obtain ⟨xl, e2, h⟩ := obind h
      obtain ⟨xh, e3, h⟩ := obind h
      exact ⟨xa, xl, xh, hE X W sc _ xa M hN hs tk e1, hO X W sc _ xl M hN hs tk e2, hO X W sc _ xh M hN hs tk e3, (Option.some.inj h).symm⟩
    cases st with
    | none =>
      obtain ⟨xa, xl, xh, p1, p2, p3, rfl⟩ := key 1 h
      exact xe_slc1 p1 p2 p3
    | some stE =>
      obtain ⟨st', e0, h⟩ := obind (show (((stepOf stE).bind fun i => if i = 1 then none else some i) >>= fun st' => compE cc N n sc a >>= fun xa => compO cc N n sc lo >>= fun xl => compO cc N n sc hi >>= fun xh => pure (E.slc xa xl xh st')) = some x from h)
      obtain ⟨xa, xl, xh, p1, p2, p3, rfl⟩ := key st' h
      obtain ⟨h1, h2⟩ := stepOf_sl e0
      exact xe_slcS h1 h2 p1 p2 p3
  · rename_i y p s j p2 pos
    obtain ⟨hc, h⟩ := oif h
    simp only [Bool.and_eq_true] at hc
    obtain ⟨i, e1, h⟩ := obind h
    obtain ⟨k, e2, h⟩ := obind h
    cases h
    obtain ⟨p1, p2, _⟩ := plain_of hc.1
    rw [← hs] at hc
    exact xe_srcI M.ok (by rw [hN]; exact ixOf_get e1) (vis_of hc.2) p1 p2 e2
  · obtain ⟨hc, h⟩ := oif h
    simp only [Bool.and_eq_true, decide_eq_true_eq] at hc
    obtain ⟨⟨⟨rfl, rfl⟩, rfl⟩, rfl⟩ := hc
    obtain ⟨xa, e1, h⟩ := obind h
    obtain ⟨xb, e2, h⟩ := obind h
    obtain ⟨xc, e3, h⟩ := obind h
    obtain ⟨xd, e4, h⟩ := obind h
    cases h
    exact xe_srcNew M.ok (hE X W sc _ xa M hN hs tk e1) (hE X W sc _ xb M hN hs tk e2) (hE X W sc _ xc M hN hs tk e3) (hE X W sc _ xd M hN hs tk e4)
  · rename_i f p y p2 s j p3 p4 pos
    obtain ⟨hc, h⟩ := oif h
    simp only [Bool.and_eq_true, decide_eq_true_eq] at hc
    obtain ⟨⟨⟨⟨hf, hg⟩, hs2⟩, hp⟩, hv⟩ := hc
    obtain ⟨i, e1, rfl⟩ := omap h
    obtain ⟨p1, p2, _⟩ := plain_of hp
    rw [← hs] at hg hv
    have gl := gl_of hg
    rw [hf] at gl ⊢
    rw [hs2]
    exact xe_srcN M.ok (M.free _ (by decide)) gl (by rw [hN]; exact ixOf_get e1) (vis_of hv) p1 p2
  · split at h
    · rename_i j ej
      obtain ⟨xb, e2, h⟩ := obind h
      cases h
      obtain ⟨y, py, rfl, p1, p2, ey, vy⟩ := ownIx_of ej
      rw [← hs] at vy
      exact xe_idxO (plainIx_of e2) (by rw [hN]; exact ixOf_get ey) (vis_of vy) p1 p2 (hE X W sc _ xb M hN hs tk e2)
    · obtain ⟨xa, e1, h⟩ := obind h
      obtain ⟨xb, e2, h⟩ := obind h
      cases h
      exact xe_idx (plainIx_of e2) (hE X W sc _ xa M hN hs tk e1) (hE X W sc _ xb M hN hs tk e2)
  -- calls
  · rename_i f p as pos _
    obtain ⟨hc, h⟩ := oif h
    simp only [Bool.and_eq_true] at hc
    obtain ⟨hp, hg⟩ := hc
    rw [← hs] at hg
    have gl := gl_of hg
    obtain ⟨p1, p2, p3⟩ := plain_of hp
    by_cases he : f = "isinstance"
    · rw [if_pos he] at h
      rw [he] at gl ⊢
      split at h
      · rename_i a ty q
        obtain ⟨hg2, h⟩ := oif h
        rw [← hs] at hg2
        obtain ⟨xa, e1, h⟩ := obind h
        obtain ⟨T, e2, h⟩ := obind h
        cases h
        exact xe_isi M.ok M.free e2 gl (gl_of hg2) (notStar_of e1 _ _) (hE X W sc _ xa M hN hs tk e1)
      · cases h
    · rw [if_neg he] at h
      split at h
      · rename_i b hb
        split at h
        · cases h
        · rename_i hne
          obtain ⟨xs, e1, h⟩ := obind h
          cases h
          exact xe_blt M.ok M.free hb gl (by intro q; subst q; exact hne rfl) (hL X W sc _ xs M hN hs tk e1).1 (call_star e1)
      · by_cases he2 : f = "gcd"
        · rw [if_pos he2] at h
          rw [he2] at gl ⊢
          split at h
          · rename_i hc
            simp only [Bool.and_eq_true, Bool.not_eq_true'] at hc
            obtain ⟨xs, e1, h⟩ := obind h
            cases h
            exact xe_gcd M.ok (M.gcd hc.1) gl (by intro q; subst q; cases hc.2) (hL X W sc _ xs M hN hs tk e1).1 (call_star e1)
          · cases h
        · rw [if_neg he2] at h
          split at h
          · rename_i i hl
            obtain ⟨xs, e1, h⟩ := obind h
            cases h
            exact xe_call M.ok tk (M.fn f i hl) gl p1 (by intro q; subst q; exact compEs_nil e1) (hL X W sc _ xs M hN hs tk e1).2 (call_star e1)
          · cases h
  -- comprehensions
  · rename_i elt tg it ifs scope pos
    obtain ⟨own, wi, g, tt, te, hi, bo, hg, ht, he, hf, imp⟩ := lc_ok (pos := pos) hE hT hI M hN hs tk h0
    exact PE.imp (pe_lc M.ok.calm M.nd hi bo hg ht he hf) imp
  · cases h
theorem snd_all : ∀ n, SndE cc Γ N n ∧ SndT cc Γ N n ∧ SndW cc Γ N n ∧ SndO cc Γ N n ∧ SndL cc Γ N n ∧ SndI cc Γ N n
  | 0 => by
    refine ⟨?_, ?_, ?_, ?_, ?_, ?_⟩
    · intro X W sc e x M hN hs tk h; simp [compE] at h
    · intro X W sc e x m M hN hs tk h; simp [compE] at h
    · intro X W sc op es pos x m M hN hs tk h; simp [compE] at h
    · intro X W sc e x M hN hs tk h
      cases e with
      | none =>
        simp only [compO, Option.some.injEq] at h
        subst h
        exact xo_none
      | some e => simp [compO] at h
    · intro X W sc es xs M hN hs tk h
      cases es with
      | nil =>
        have e := compEs_nil h
        subst e
        exact ⟨xa_nil, xr_nil⟩
      | cons e es => simp [compEs] at h
    · intro X W sc tup tg e x M hN hs tk _ h; simp [compI] at h
  | n + 1 => by
    obtain ⟨hE, hT, hW, hO, hL, hI⟩ := snd_all n
    have hE1 := sndE_step hE hT hO hL hI
    have hW1 := sndW_step hT hW
    exact ⟨hE1, sndT_step hE1 hE hT hW1, hW1, sndO_step hE, sndL_step hE hL, sndI_step hE hL⟩
end
end Pv

/-! Pv15 -/
set_option Elab.async false
set_option linter.all false
set_option maxRecDepth 100000
set_option maxHeartbeats 4000000
namespace Pv
open PySem PySem.Spec PyProof.Rows L2
/-! ### statements -/
mutual
inductive S where
  | asg (i : Nat) (h : Bool) (e : E) (fz : List Nat)
  | par (i j : Nat) (hi hj : Bool) (a b : E) (fz : List Nat)
  | unp (is : List Nat) (e : E) (fz : List Nat)
  | unpT (is : List Nat) (es : Es) (fz : List Nat)
  | app (i : Nat) (e : E) (fz : List Nat)
  | ext (i : Nat) (e : E) (fz : List Nat)
  | pop (i : Nat)
  | popTo (tg : Tg) (i : Nat)
  | setI (i : Nat) (k e : E) (fz : List Nat)
  | swp (i : Nat) (k : E) (j : Nat) (l : E) (es : Es) (fz : List Nat)
  | srcSet (i k : Nat) (e : E) (fz : List Nat)
  | srcPop (i : Nat)
  | ifS (c : E) (a b : Ss) (fz : List Nat)
  | whl (c : E) (b : Ss) (fz : List Nat)
  | for_ (tg : Tg) (it : I) (b : Ss) (fz : List Nat)
  | ret (e : E) (fz : List Nat)
  | retO (i : Nat)
  | retN
  | pass | brk | cont
inductive Ss where
  | nil
  | cons (s : S) (ss : Ss)
end
inductive Fl where
  | nx (ρ : Env)
  | rt (r : R)
  | bk (ρ : Env)
  | ct (ρ : Env)
def frzSlot : Option R → Option R
  | some (.own ds) => some (.val (.list ds))
  | o => o
/-- the slots at fz held still -/
def frz (ρ : Env) : List Nat → Env
  | [] => ρ
  | i :: r => frz (ρ.set i (frzSlot (ρ[i]?.join))) r
def lfreeR : R → Bool
  | .val d => lfree d
  | .own ds => lfreeAll ds
  | .src => true
  | .scr _ => false
def back (ρ ρ' : Env) (b : Bool) : Env := if b then ρ else ρ'
def hR (h : Bool) (r : R) : R := if h then r.arg else r
def getOwn (ρ : Env) (i : Nat) : Option (List PyData) :=
  match ρ[i]? with
  | some (some (.own ds)) => some ds
  | _ => none
def bindRs : List Nat → List R → Env → Option Env
  | [], [], ρ => some ρ
  | j :: js, d :: ds, ρ => bindRs js ds (setV ρ j d)
  | _, _, _ => none
def seqD : PyData → Option (List PyData)
  | .tuple ds => some ds
  | .list ds => some ds
  | _ => none
def forLoop (body : PyData → Env → M Fl) : List PyData → Env → M Fl
  | [], ρ => pure (.nx ρ)
  | d :: ds, ρ => do
    match ← body d ρ with
    | .nx ρ' => forLoop body ds ρ'
    | .ct ρ' => forLoop body ds ρ'
    | .bk ρ' => pure (.nx ρ')
    | .rt r => pure (.rt r)
def whlLoop (test : Env → M Bool) (body : Env → M Fl) : Nat → Env → M Fl
  | 0, _ => M.stuck
  | n + 1, ρ => do
    if ← test ρ then
      match ← body ρ with
      | .nx ρ' => whlLoop test body n ρ'
      | .ct ρ' => whlLoop test body n ρ'
      | .bk ρ' => pure (.nx ρ')
      | .rt r => pure (.rt r)
    else pure (.nx ρ)
def M.wr (r : R) (f : SV → SV) : M Unit := fun S =>
  match r, S with
  | .src, some s => .ok () (some (f s))
  | _, _ => .stuck
def M.popS (r : R) : M Unit := fun S =>
  match r, S with
  | .src, some s => match s.cells.getLast? with
    | some n => .ok () (some { s with cells := s.cells.dropLast, left := n })
    | none => .stuck
  | _, _ => .stuck
def fuel : Nat := 18446744073709551616
section
variable (Γ : Ctx)
/-- e over ρ, the slots at fz held still meanwhile: what it gives, and what the slots are behind it -/
def evF (e : E) (ρ : Env) (fz : List Nat) : M (R × Env) := do
  let r ← evE Γ e (frz ρ fz)
  pure (r, back ρ (frz ρ fz) (lfreeR r))
def evT (e : E) (ρ : Env) (fz : List Nat) : M Bool := asB (evE Γ e (frz ρ fz))
/-- a store into a list of one's own -/
def setAt (i : Nat) (k : E) (d : PyData) (fz : List Nat) (ρ : Env) : M Env := do
  let _ ← M.of (getOwn ρ i)
  let (rk, ρ2) ← evF Γ k ρ fz
  let n ← M.of rk.d
  let ds ← M.of (getOwn ρ2 i)
  match n with
  | .int n =>
    let j ← M.of (ixN ds.length n)
    pure (setV ρ2 i (.own (ds.set j d)))
  | _ => M.stuck
mutual
def exS : S → Env → M Fl
  | .asg i h e fz, ρ => do
    let (r, ρ') ← evF Γ e ρ fz
    pure (.nx (setV ρ' i (hR h r)))
  | .par i j hi hj a b fz, ρ => do
    let x ← evE Γ a (frz ρ fz)
    let y ← evE Γ b (frz ρ fz)
    pure (.nx (setV (setV (back ρ (frz ρ fz) (lfreeR x && lfreeR y)) i (hR hi x)) j (hR hj y)))
  | .unp is e fz, ρ => do
    let (r, ρ') ← evF Γ e ρ fz
    let d ← M.of r.d
    let ds ← M.of (seqD d)
    let ρ2 ← M.of (bindMany is ds ρ')
    pure (.nx ρ2)
  | .unpT is es fz, ρ => do
    let ds ← evDs Γ es (frz ρ fz)
    let ρ2 ← M.of (bindMany is ds (back ρ (frz ρ fz) (lfreeAll ds)))
    pure (.nx ρ2)
  | .app i e fz, ρ => do
    let _ ← M.of (getOwn ρ i)
    let (r, ρ') ← evF Γ e ρ fz
    let d ← M.of r.d
    let ds ← M.of (getOwn ρ' i)
    if ds.length < line then pure (.nx (setV ρ' i (.own (ds ++ [d])))) else M.stuck
  | .ext i e fz, ρ => do
    let _ ← M.of (getOwn ρ i)
    let (r, ρ') ← evF Γ e ρ fz
    let d ← M.of r.d
    let ds ← M.of (getOwn ρ' i)
    match d with
    | .list es => if ds.length + es.length < line then pure (.nx (setV ρ' i (.own (ds ++ es)))) else M.stuck
    | _ => M.stuck
  | .pop i, ρ => do
    let ds ← M.of (getOwn ρ i)
    if ds.isEmpty then M.stuck else pure (.nx (setV ρ i (.own ds.dropLast)))
  | .popTo tg i, ρ => do
    let ds ← M.of (getOwn ρ i)
    let d ← M.of ds.getLast?
    let ρ2 ← M.of (bindTg tg d (setV ρ i (.own ds.dropLast)))
    pure (.nx ρ2)
  | .setI i k e fz, ρ => do
    let (r, ρ') ← evF Γ e ρ fz
    let d ← M.of r.d
    let _ ← M.of (getOwn ρ' i)
    let (rk, ρ2) ← evF Γ k ρ' fz
    let n ← M.of rk.d
    let ds ← M.of (getOwn ρ2 i)
    match n with
    | .int n =>
      let j ← M.of (ixN ds.length n)
      pure (.nx (setV ρ2 i (.own (ds.set j d))))
    | _ => M.stuck
  | .swp i k j l es fz, ρ => do
    let ds ← evDs Γ es (frz ρ fz)
    match ds with
    | [d, e] =>
      let ρ2 ← setAt Γ i k d fz (back ρ (frz ρ fz) (lfreeAll ds))
      let ρ3 ← setAt Γ j l e fz ρ2
      pure (.nx ρ3)
    | _ => M.stuck
  | .srcSet i k e fz, ρ => do
    let (r, ρ') ← evF Γ e ρ fz
    let n ← M.of (r.d.bind toInt)
    let s ← M.of (getV ρ' i)
    M.wr s fun s => srcPut s k n
    pure (.nx ρ')
  | .srcPop i, ρ => do
    let s ← M.of (getV ρ i)
    M.popS s
    pure (.nx ρ)
  | .ifS c a b fz, ρ => do
    if ← evT Γ c ρ fz then exSs a ρ else exSs b ρ
  | .whl c b fz, ρ => whlLoop (fun ρ => evT Γ c ρ fz) (fun ρ => exSs b ρ) fuel ρ
  | .for_ tg it b fz, ρ => do
    let ds ← evI Γ it (frz ρ fz)
    forLoop (fun d ρ => do
      let ρ2 ← M.of (bindTg tg d ρ)
      exSs b ρ2) ds (back ρ (frz ρ fz) (isRng it))
  | .ret e fz, ρ => do
    let r ← evE Γ e (frz ρ fz)
    pure (.rt r)
  | .retO i, ρ => do
    let ds ← M.of (getOwn ρ i)
    pure (.rt (.own ds))
  | .retN, _ => pure (.rt (.val .none))
  | .pass, ρ => pure (.nx ρ)
  | .brk, ρ => pure (.bk ρ)
  | .cont, ρ => pure (.ct ρ)
def exSs : Ss → Env → M Fl
  | .nil, ρ => pure (.nx ρ)
  | .cons s ss, ρ => do
    match ← exS s ρ with
    | .nx ρ' => exSs ss ρ'
    | f => pure f
end
/-- a def: how many parameters, how many names, its body -/
def runDef (np n : Nat) (b : Ss) (args : List R) : M R := do
  if args.length = np then
    match ← exSs Γ b (args.map some ++ List.replicate (n - np) none) with
    | .rt r => pure r
    | .nx _ => pure (.val .none)
    | _ => M.stuck
  else M.stuck
theorem runDef_ar {np n : Nat} {b : Ss} {args : List R} {S : SS} (h : args.length ≠ np) : runDef Γ np n b args S = .stuck := by
  unfold runDef
  rw [if_neg h]
  rfl
end

/-! ### the names' values -/
def StR (K : PySem.W.Frag) (b0 g : Gs) (σ : L2.St) (ρ : Env) : Prop :=
  ρ.length = σ.length ∧ (∀ (i : Nat) (r : R), ρ[i]? = some (some r) → ∃ v, σ[i]? = some (some v) ∧ RepR K b0 g v r) ∧
  ∀ (i j : Nat) (ds es : List PyData) (v : V), i ≠ j → ρ[i]? = some (some (.own ds)) → ρ[j]? = some (some (.own es)) → σ[i]? = some (some v) → σ[j]? ≠ some (some v)
def NewR (σ : L2.St) (ρ : Env) (v : V) (r : R) : Prop := ∀ ds, r = .own ds → ∀ (j : Nat) (es : List PyData), ρ[j]? = some (some (.own es)) → σ[j]? ≠ some (some v)
section
variable {K : PySem.W.Frag} {b0 g g' gF g2 : Gs} {σ : L2.St} {ρ : Env} {v : V} {r : R}
theorem NewR.val {d : PyData} : NewR σ ρ v (.val d) := fun _ e => by cases e
theorem StR.envR (h : StR K b0 g σ ρ) : EnvR K g σ ρ := by
  refine ⟨h.1, fun i r e => ?_⟩
  obtain ⟨v, h1, h2⟩ := h.2.1 i r e
  cases r with
  | own ds =>
    obtain ⟨a, xs, rfl, h0, q1, q2, q3, q4⟩ := h2
    exact .inl ⟨ds, .ref a, rfl, h1, a, xs, rfl, q1, q2, q3, q4⟩
  | val d => exact .inr ⟨v, h1, fun _ z => (by cases z), h2⟩
  | src => exact .inr ⟨v, h1, fun _ z => (by cases z), h2⟩
  | scr ns => exact .inr ⟨v, h1, fun _ z => (by cases z), h2⟩
theorem StR.mono (h : StR K b0 g σ ρ) (l : g.Le g') : StR K b0 g' σ ρ := by
  refine ⟨h.1, fun i r e => ?_, h.2.2⟩
  obtain ⟨v, h1, h2⟩ := h.2.1 i r e
  exact ⟨v, h1, h2.mono l⟩
theorem StR.set (h : StR K b0 g σ ρ) (i : Nat) (rep : RepR K b0 g v r) (new : NewR σ ρ v r) : StR K b0 g (σ.set i (some v)) (setV ρ i r) := by
  unfold setV
  refine ⟨by rw [List.length_set, List.length_set, h.1], fun j q e => ?_, fun j k ds es w hjk e1 e2 e3 e4 => ?_⟩
  · rw [List.getElem?_set] at e
    by_cases hj : i = j
    · subst hj
      rw [if_pos rfl] at e
      split at e
      · cases e
        exact ⟨v, by rw [List.getElem?_set, if_pos rfl, if_pos (by rw [← h.1]; assumption)], rep⟩
      · cases e
    · rw [if_neg hj] at e
      obtain ⟨w, h1, h2⟩ := h.2.1 j q e
      exact ⟨w, by rw [List.getElem?_set_ne hj]; exact h1, h2⟩
  · rw [List.getElem?_set] at e1 e2 e3 e4
    by_cases hj : i = j
    · subst hj
      rw [if_neg hjk] at e2 e4
      rw [if_pos rfl] at e1 e3
      split at e1
      · split at e3
        · cases e1
          cases e3
          exact new ds rfl k es e2 e4
        · cases e3
      · cases e1
    · rw [if_neg hj] at e1 e3
      by_cases hk : i = k
      · subst hk
        rw [if_pos rfl] at e2 e4
        split at e2
        · split at e4
          · cases e2
            cases e4
            exact new es rfl j ds e1 e3
          · cases e4
        · cases e2
      · rw [if_neg hk] at e2 e4
        exact h.2.2 j k ds es w hjk e1 e2 e3 e4
/-- one object held still -/
theorem RepR.frz1 {a : Addr} {o : HO} (hF : g.F a = none) (rep : RepR K b0 g v r) (hne : ∀ ds, r = .own ds → v ≠ .ref a) : RepR K b0 (g.frz a o) v r := by
  have sm : Same g.F (g.frz a o).F := Gs.frz_same hF
  cases r with
  | val d => exact Rp.mono sm rep
  | own ds =>
    obtain ⟨b, xs, rfl, h0, h1, h2, h3, h4⟩ := rep
    have hb : b ≠ a := fun e => hne ds rfl (by rw [e])
    refine ⟨b, xs, rfl, h0, ?_, h2, h3, RpAll.mono sm h4⟩
    show upd g.F a o b = none
    rw [upd_ne hb]
    exact h1
  | src => exact rep
  | scr ns =>
    obtain ⟨b, e, q⟩ := rep
    refine ⟨b, e, ?_⟩
    rcases q with (q | ⟨o', q⟩) | q
    · exact .inl (.inl (sm _ _ q))
    · exact .inl (.inr ⟨o', sm _ _ q⟩)
    · exact .inr q
theorem StR.frz1 {a : Addr} {o : HO} (h : StR K b0 g σ ρ) (hF : g.F a = none) (hne : ∀ (j : Nat) (es : List PyData), ρ[j]? = some (some (.own es)) → σ[j]? ≠ some (some (.ref a))) : StR K b0 (g.frz a o) σ ρ := by
  refine ⟨h.1, fun i r e => ?_, h.2.2⟩
  obtain ⟨v, h1, h2⟩ := h.2.1 i r e
  refine ⟨v, h1, h2.frz1 hF fun ds er ev => ?_⟩
  subst er ev
  exact hne i ds e h1
/-- held still: gF is g but for A -/
structure Frz (g gF : Gs) (A : List Addr) : Prop where
  H : gF.H = g.H
  S : gF.S = g.S
  ok : gF.Ok
  same : Same g.F gF.F
  at_ : ∀ a ∈ A, (∃ xs, gF.F a = some (.lst xs)) ∧ g.F a = none ∧ g.H a ≠ none
  off : ∀ a, a ∉ A → gF.F a = g.F a
theorem Frz.Ve {A : List Addr} (f : Frz g gF A) : gF.V = g.V := congrArg (Option.map _) f.S
theorem Frz.refl (ok : g.Ok) : Frz g g [] := ⟨rfl, rfl, ok, Same.refl _, fun a h => (by cases h), fun _ _ => rfl⟩
theorem frz_sub : ∀ (fz : List Nat) (ρ : Env) (j : Nat) (es : List PyData), (frz ρ fz)[j]? = some (some (.own es)) → ρ[j]? = some (some (.own es))
  | [], _, _, _, h => h
  | i :: r, ρ, j, es, h => by
    have h1 := frz_sub r _ j es h
    rw [List.getElem?_set] at h1
    by_cases hi : i = j
    · subst hi
      rw [if_pos rfl] at h1
      split at h1
      · rename_i hl
        have h1 : frzSlot (ρ[i]?.join) = some (.own es) := by simpa using h1
        cases q : ρ[i]?.join with
        | none => rw [q] at h1; cases h1
        | some z =>
          rw [q] at h1
          cases z <;> cases h1
      · cases h1
    · rw [if_neg hi] at h1
      exact h1
theorem frz_ok : ∀ (fz : List Nat) (g : Gs) (ρ : Env), g.Ok → b0.Le g → StR K b0 g σ ρ → ∃ gF A, Frz g gF A ∧ b0.Le gF ∧ StR K b0 gF σ (Pv.frz ρ fz)
  | [], g, ρ, ok, le, st => ⟨g, [], Frz.refl ok, le, st⟩
  | i :: r, g, ρ, ok, le, st => by
    have skip : frzSlot (ρ[i]?.join) = ρ[i]?.join → ∃ gF A, Frz g gF A ∧ b0.Le gF ∧ StR K b0 gF σ (Pv.frz ρ (i :: r)) := by
      intro e
      have e2 : ρ.set i (frzSlot (ρ[i]?.join)) = ρ := by
        rw [e]
        apply List.ext_getElem?
        intro j
        rw [List.getElem?_set]
        by_cases hj : i = j
        · subst hj
          rw [if_pos rfl]
          by_cases hl : i < ρ.length
          · rw [if_pos hl, List.getElem?_eq_getElem hl]; rfl
          · rw [if_neg hl, List.getElem?_eq_none (Nat.le_of_not_lt hl)]
        · rw [if_neg hj]
      show ∃ gF A, Frz g gF A ∧ b0.Le gF ∧ StR K b0 gF σ (Pv.frz (ρ.set i (frzSlot (ρ[i]?.join))) r)
      rw [e2]
      exact frz_ok r g ρ ok le st
    cases q : ρ[i]? with
    | none => exact skip (by rw [q]; rfl)
    | some o =>
      cases o with
      | none => exact skip (by rw [q]; rfl)
      | some z =>
        cases z with
        | val d => exact skip (by rw [q]; rfl)
        | src => exact skip (by rw [q]; rfl)
        | scr ns => exact skip (by rw [q]; rfl)
        | own ds =>
          obtain ⟨v, hv, a, xs, rfl, h0, h1, h2, h3, h4⟩ := st.2.1 i _ q
          have ok1 := Gs.frz_ok ok h3 h2
          have le1 := Gs.frz_le0 le h0 h1 (o := .lst xs)
          have sm : Same g.F (g.frz a (.lst xs)).F := Gs.frz_same h1
          have il : i < ρ.length := by
            by_cases hl : i < ρ.length
            · exact hl
            · rw [List.getElem?_eq_none (Nat.le_of_not_lt hl)] at q; cases q
          have st1 : StR K b0 (g.frz a (.lst xs)) σ (ρ.set i (some (.val (.list ds)))) := by
            refine ⟨by rw [List.length_set]; exact st.1, fun j r' e => ?_, fun j k ds' es' w hjk e1 e2 e3 e4 => ?_⟩
            · rw [List.getElem?_set] at e
              by_cases hj : i = j
              · subst hj
                rw [if_pos rfl, if_pos il] at e
                cases e
                exact ⟨_, hv, .lst upd_same (RpAll.mono sm h4)⟩
              · rw [if_neg hj] at e
                obtain ⟨w, e1, e2⟩ := st.2.1 j r' e
                refine ⟨w, e1, e2.frz1 h1 fun ds' er ew => ?_⟩
                subst er ew
                exact st.2.2 i j ds ds' (.ref a) hj q e hv e1
            · rw [List.getElem?_set] at e1 e2
              by_cases hj : i = j
              · subst hj
                rw [if_pos rfl, if_pos il] at e1
                cases e1
              · rw [if_neg hj] at e1
                by_cases hk : i = k
                · subst hk
                  rw [if_pos rfl, if_pos il] at e2
                  cases e2
                · rw [if_neg hk] at e2
                  exact st.2.2 j k ds' es' w hjk e1 e2 e3 e4
          have er : frzSlot (ρ[i]?.join) = some (.val (.list ds)) := by rw [q]; rfl
          obtain ⟨gF, A, f, le2, st2⟩ := frz_ok r _ _ ok1 le1 st1
          refine ⟨gF, a :: A, ⟨f.H, f.S, f.ok, sm.trans f.same, fun b hb => ?_, fun b hb => ?_⟩, le2, ?_⟩
          · by_cases hba : b = a
            · subst hba
              exact ⟨⟨xs, f.same _ _ upd_same⟩, h1, by rw [h3]; simp⟩
            · rcases List.mem_cons.mp hb with e | hb
              · exact absurd e hba
              · obtain ⟨p1, p2, p3⟩ := f.at_ b hb
                refine ⟨p1, ?_, p3⟩
                have p2 : upd g.F a (.lst xs) b = none := p2
                rw [upd_ne hba] at p2
                exact p2
          · have hb1 : b ≠ a := fun e => hb (by rw [e]; exact List.mem_cons_self)
            have hb2 : b ∉ A := fun e => hb (List.mem_cons_of_mem _ e)
            rw [f.off b hb2]
            show upd g.F a (.lst xs) b = g.F b
            rw [upd_ne hb1]
          · show StR K b0 gF σ (Pv.frz (ρ.set i (frzSlot (ρ[i]?.join))) r)
            rw [er]
            exact st2
/-- what was held still is one's own again -/
def thaw (g2 : Gs) (A : List Addr) : Gs := ⟨less g2.F (· ∈ A), g2.S, g2.H⟩
theorem less_out {F : Hp} {A : List Addr} {b : Addr} (h : b ∉ A) : less F (· ∈ A) b = F b := by
  unfold less
  rw [if_neg h]
theorem less_in {F : Hp} {A : List Addr} {b : Addr} (h : b ∈ A) : less F (· ∈ A) b = none := by
  unfold less
  rw [if_pos h]
theorem less_some {F : Hp} {A : List Addr} {b : Addr} {o : HO} (h : less F (· ∈ A) b = some o) : b ∉ A ∧ F b = some o := by
  by_cases hb : b ∈ A
  · rw [less_in hb] at h; cases h
  · rw [less_out hb] at h; exact ⟨hb, h⟩
theorem thaw_ok {A : List Addr} (f : Frz g gF A) (ok2 : g2.Ok) (le : gF.Le g2) : (thaw g2 A).Ok where
  sub := fun a u e => ok2.sub a u (less_some e).2
  src := ok2.src
  fre := fun b q => by
    show less g2.F (· ∈ A) b = none
    by_cases hb : b ∈ A
    · exact less_in hb
    · rw [less_out hb]; exact ok2.fre b q
theorem Frz.lek {A : List Addr} (f : Frz g gF A) (le : gF.Le g2) : g.Le (thaw g2 A) where
  fro := fun b o e => by
    have hb : b ∉ A := fun h => by
      rw [(f.at_ b h).2.1] at e; cases e
    show less g2.F (· ∈ A) b = some o
    rw [less_out hb]
    exact le.fro b o (f.same b o e)
  keep := fun b o e n => le.keep b o (by rw [f.H]; exact e) (by rw [f.S]; exact n)
  dom := fun b e => le.dom b (by rw [f.H]; exact e)
  new := fun b e1 e2 => by
    show less g2.F (· ∈ A) b = none
    by_cases hb : b ∈ A
    · exact less_in hb
    · rw [less_out hb]
      exact le.new b (by rw [f.off b hb]; exact e1) (by rw [f.H]; exact e2)
  srcs := fun b q => by
    rcases le.srcs b q with q | q
    · exact .inl (by rw [← f.S]; exact q)
    · exact .inr (by rw [← f.H]; exact q)
  same := fun s e => le.same s (by rw [f.S]; exact e)
theorem Frz.lt {A : List Addr} (f : Frz g gF A) (le : gF.Le g2) : ∀ b ∈ A, ∃ xs, g2.F b = some (.lst xs) := fun b hb => by
  obtain ⟨⟨xs, e⟩, _⟩ := f.at_ b hb
  exact ⟨xs, le.fro _ _ e⟩
theorem Frz.rp {A : List Addr} (f : Frz g gF A) (le : gF.Le g2) {d : PyData} (h : Rp K g2.F v d) (l : lfree d = true) : Rp K (thaw g2 A).F v d := Rp.less (A := (· ∈ A)) (f.lt le) h l
theorem Frz.rps {A : List Addr} (f : Frz g gF A) (le : gF.Le g2) {vs : List V} {ds : List PyData} (h : RpAll K g2.F vs ds) (l : lfreeAll ds = true) : RpAll K (thaw g2 A).F vs ds := RpAll.less (A := (· ∈ A)) (f.lt le) h l
theorem Frz.rep {A : List Addr} (f : Frz g gF A) (le : gF.Le g2) (h : RepR K gF g2 v r) (l : lfreeR r = true) : RepR K g (thaw g2 A) v r := by
  cases r with
  | val d => exact f.rp le h l
  | own ds =>
    obtain ⟨a, xs, e, h0, h1, h2, h3, h4⟩ := h
    refine ⟨a, xs, e, by rw [← f.H]; exact h0, ?_, h2, h3, f.rps le h4 l⟩
    show less g2.F (· ∈ A) a = none
    by_cases hb : a ∈ A
    · exact less_in hb
    · rw [less_out hb]; exact h1
  | src => exact h
  | scr ns => cases l
theorem NewR.of (st : StR K b0 g σ ρ) (h : ∀ ds, r = .own ds → ∃ a, v = .ref a ∧ g.H a = none) : NewR σ ρ v r := by
  intro ds er j es ej eq
  obtain ⟨a, rfl, ha⟩ := h ds er
  obtain ⟨w, h1, b, xs, rfl, h0, h2, h3, h4, h5⟩ := st.2.1 j _ ej
  rw [eq] at h1
  cases h1
  rw [ha] at h4
  cases h4
end
end Pv

/-! Pv16 -/
set_option Elab.async false
set_option linter.all false
set_option maxRecDepth 100000
set_option maxHeartbeats 4000000
namespace Pv
open PySem PySem.Spec PyProof.Rows L2
section
variable (X : Cx) (W : WX) (b0 : Gs)
def XS (ec : Exc) (S : SS) : Prop := ∀ cls d g' σ', g'.V = S → g'.Ok → b0.Le g' → ExcRep X.K X.mg g' ec cls d → W cls d σ' g'.H
def StFin (D : Ends) (fl : Fl) (S : SS) : Prop :=
  match fl with
  | .nx ρ => ∀ g σ, g.V = S → g.Ok → b0.Le g → StR X.K b0 g σ ρ → D.nx σ g.H
  | .ct ρ => ∀ g σ, g.V = S → g.Ok → b0.Le g → StR X.K b0 g σ ρ → D.ct σ g.H
  | .bk ρ => ∀ g σ, g.V = S → g.Ok → b0.Le g → StR X.K b0 g σ ρ → D.bk σ g.H
  | .rt r => ∀ g v, g.V = S → g.Ok → b0.Le g → RepR X.K b0 g v r → D.rt v g.H
def tS (m : Env → M Fl) : TS := fun D σ H => ∃ g ρ, g.H = H ∧ g.Ok ∧ b0.Le g ∧ StR X.K b0 g σ ρ ∧ (m ρ g.V).Post (StFin X b0 D) (XS X W b0)
end
theorem PS.imp {X : Cx} {e : Stmt} {t t' : TS} (h : PS X e t) (hi : ∀ D σ H, t' D σ H → t D σ H) : PS X e t' := ⟨fun pins s σ H D I hw => h.run pins s σ H D I (hi D σ H hw)⟩
theorem PSs.imp {X : Cx} {e : List Stmt} {t t' : TS} (h : PSs X e t) (hi : ∀ D σ H, t' D σ H → t D σ H) : PSs X e t' := ⟨fun pins s σ H D I hw => h.run pins s σ H D I (hi D σ H hw)⟩
section
variable {X : Cx} {W : WX} {b0 g g1 : Gs} {σ : L2.St} {ρ : Env} {Γ : Ctx} {v : V} {r : R}
theorem XS.fin {ec : Exc} {S : SS} (le : b0.Le g) (h : XS X W b0 ec S) : XFin X W g σ ec S := fun cls d g' hs ok l q => h cls d g' σ hs ok (le.trans l) q
theorem own_new {gF g2 : Gs} {K : PySem.W.Frag} (rep : RepR K gF g2 v r) : ∀ ds, r = .own ds → ∃ a, v = .ref a ∧ gF.H a = none := by
  rintro ds rfl
  obtain ⟨a, xs, e, h0, _⟩ := rep
  exact ⟨a, e, h0⟩
/-- one expression, some slots held still meanwhile -/
theorem run_F {e : E} {fz : List Nat} (ok : g.Ok) (le : b0.Le g) (st : StR X.K b0 g σ ρ) {P : R × Env → SS → Prop} (hp : ((evF Γ e ρ fz) g.V).Post P (XS X W b0)) {Q : VK}
    (hq : ∀ r ρ2 g3 v, P (r, ρ2) g3.V → g3.Ok → b0.Le g3 → Same g.F g3.F → StR X.K b0 g3 σ ρ2 → RepR X.K b0 g3 v r → NewR σ ρ2 v r → Q v g3.H) : tM X W (evE Γ e) σ g.H Q := by
  obtain ⟨gF, A, f, leF, stF⟩ := frz_ok fz g ρ ok le st
  refine ⟨gF, Pv.frz ρ fz, f.H, f.ok, stF.envR, ?_⟩
  rw [f.Ve]
  unfold evF at hp
  refine (bind_post hp).mono (fun r S' q => ?_) fun _ _ q => q.fin leF
  rintro v g2 rfl ok2 le2 rep
  have q : P (r, back ρ (Pv.frz ρ fz) (lfreeR r)) g2.V := q
  cases hl : lfreeR r with
  | false =>
    rw [hl] at q
    exact hq r (Pv.frz ρ fz) g2 v q ok2 (leF.trans le2) (f.same.trans le2.fro) (stF.mono le2) (rep.base leF) (NewR.of stF (own_new rep))
  | true =>
    rw [hl] at q
    refine hq r ρ (thaw g2 A) v q (thaw_ok f ok2 le2) (le.trans (f.lek le2)) (f.lek le2).fro (st.mono (f.lek le2)) ((f.rep le2 rep hl).base le) (NewR.of st fun ds er => ?_)
    obtain ⟨a, e1, e2⟩ := own_new rep ds er
    exact ⟨a, e1, by rw [← f.H]; exact e2⟩
/-- two -/
theorem run_F2 {a b : E} {fz : List Nat} (ok : g.Ok) (le : b0.Le g) (st : StR X.K b0 g σ ρ) {P : R → R → SS → Prop} (hp : ((evE Γ a (Pv.frz ρ fz) >>= fun x => evE Γ b (Pv.frz ρ fz) >>= fun y => (pure (x, y) : M (R × R))) g.V).Post (fun p => P p.1 p.2) (XS X W b0)) {Q : V → V → Hp → Prop}
    (hq : ∀ x y g3 v w, P x y g3.V → g3.Ok → b0.Le g3 → StR X.K b0 g3 σ (back ρ (Pv.frz ρ fz) (lfreeR x && lfreeR y)) → RepR X.K b0 g3 v x → NewR σ (back ρ (Pv.frz ρ fz) (lfreeR x && lfreeR y)) v x → RepR X.K b0 g3 w y → NewR σ (back ρ (Pv.frz ρ fz) (lfreeR x && lfreeR y)) w y →
      (∀ ds es, x = .own ds → y = .own es → v ≠ w) → Q v w g3.H) : tM X W (evE Γ a) σ g.H fun v H1 => tM X W (evE Γ b) σ H1 fun w H2 => Q v w H2 := by
  obtain ⟨gF, A, f, leF, stF⟩ := frz_ok fz g ρ ok le st
  refine ⟨gF, Pv.frz ρ fz, f.H, f.ok, stF.envR, ?_⟩
  rw [f.Ve]
  refine (bind_post hp).mono (fun x S' q => ?_) fun _ _ q => q.fin leF
  rintro v g1 rfl ok1 le1 rep1
  refine ⟨g1, Pv.frz ρ fz, rfl, ok1, stF.envR.mono le1, (bind_post q).mono (fun y S' q => ?_) fun _ _ q => q.fin (leF.trans le1)⟩
  rintro w g2 rfl ok2 le2 rep2
  have q : P x y g2.V := q
  have le12 := le1.trans le2
  have rep1' := rep1.mono le2
  have rep2' := rep2.base le1
  have ne : ∀ ds es, x = .own ds → y = .own es → v ≠ w := by
    rintro ds es rfl rfl e
    obtain ⟨a1, xs1, e1, _, _, _, h3, _⟩ := rep1
    obtain ⟨a2, xs2, e2, h0, _⟩ := rep2
    rw [e1, e2] at e
    cases e
    rw [h0] at h3
    cases h3
  have nw : ∀ {z : R} {u : V}, RepR X.K gF g2 u z → ∀ ds, z = .own ds → ∃ a, u = .ref a ∧ g.H a = none := fun rep ds er => by
    obtain ⟨a, e1, e2⟩ := own_new rep ds er
    exact ⟨a, e1, by rw [← f.H]; exact e2⟩
  cases hl : (lfreeR x && lfreeR y) with
  | false =>
    refine hq x y g2 v w q ok2 (leF.trans le12) ?_ (rep1'.base leF) ?_ (rep2'.base leF) ?_ ne
    · rw [hl]; exact stF.mono le12
    · rw [hl]; exact NewR.of stF (own_new rep1')
    · rw [hl]; exact NewR.of stF (own_new rep2')
  | true =>
    have hl' := hl
    simp only [Bool.and_eq_true] at hl'
    refine hq x y (thaw g2 A) v w q (thaw_ok f ok2 le12) (le.trans (f.lek le12)) ?_ ((f.rep le12 rep1' hl'.1).base le) ?_ ((f.rep le12 rep2' hl'.2).base le) ?_ ne
    · rw [hl]; exact st.mono (f.lek le12)
    · rw [hl]; exact NewR.of st (nw rep1')
    · rw [hl]; exact NewR.of st (nw rep2')
/-- several, as data -/
theorem run_Fs {es : Es} {fz : List Nat} (ok : g.Ok) (le : b0.Le g) (st : StR X.K b0 g σ ρ) {P : List PyData → SS → Prop} (hp : ((evDs Γ es (Pv.frz ρ fz)) g.V).Post P (XS X W b0)) {Q : List V → Hp → Prop}
    (hq : ∀ ds g3 vs, P ds g3.V → g3.Ok → b0.Le g3 → StR X.K b0 g3 σ (back ρ (Pv.frz ρ fz) (lfreeAll ds)) → RpAll X.K g3.F vs ds → Q vs g3.H) : tAs X W (evDs Γ es) σ g.H Q := by
  obtain ⟨gF, A, f, leF, stF⟩ := frz_ok fz g ρ ok le st
  refine ⟨gF, Pv.frz ρ fz, f.H, f.ok, stF.envR, ?_⟩
  rw [f.Ve]
  refine hp.mono (fun ds S' q => ?_) fun _ _ q => q.fin leF
  rintro vs g2 rfl ok2 le2 rep
  cases hl : lfreeAll ds with
  | false =>
    refine hq ds g2 vs q ok2 (leF.trans le2) ?_ rep
    rw [hl]; exact stF.mono le2
  | true =>
    refine hq ds (thaw g2 A) vs q (thaw_ok f ok2 le2) (le.trans (f.lek le2)) ?_ (f.rps le2 rep hl)
    rw [hl]; exact st.mono (f.lek le2)
/-- a test -/
theorem run_T {e : E} {fz : List Nat} (ok : g.Ok) (le : b0.Le g) (st : StR X.K b0 g σ ρ) {P : Bool → SS → Prop} (hp : ((evT Γ e ρ fz) g.V).Post P (XS X W b0)) {Q : Bool → Hp → Prop}
    (hq : ∀ b g3, P b g3.V → g3.Ok → b0.Le g3 → StR X.K b0 g3 σ ρ → Q b g3.H) : tBt X W (fun ρ => asB (evE Γ e ρ)) σ g.H Q := by
  obtain ⟨gF, A, f, leF, stF⟩ := frz_ok fz g ρ ok le st
  refine ⟨gF, Pv.frz ρ fz, f.H, f.ok, stF.envR, ?_⟩
  rw [f.Ve]
  unfold evT at hp
  refine hp.mono (fun b S' q => ?_) fun _ _ q => q.fin leF
  rintro g2 rfl ok2 le2
  exact hq b (thaw g2 A) q (thaw_ok f ok2 le2) (le.trans (f.lek le2)) (st.mono (f.lek le2))
/-- held still for good -/
theorem hold_st {K : PySem.W.Frag} {d : PyData} (ok : g.Ok) (le : b0.Le g) (st : StR K b0 g σ ρ) (rep : RepR K b0 g v r) (new : NewR σ ρ v r) (e : r.d = some d) :
    ∃ g', g'.V = g.V ∧ g'.H = g.H ∧ g'.Ok ∧ b0.Le g' ∧ Same g.F g'.F ∧ StR K b0 g' σ ρ ∧ Rp K g'.F v d := by
  cases r with
  | val d' => cases e; exact ⟨g, rfl, rfl, ok, le, Same.refl _, st, rep⟩
  | own ds =>
    cases e
    obtain ⟨a, xs, rfl, h0, h1, h2, h3, h4⟩ := rep
    exact ⟨g.frz a (.lst xs), rfl, rfl, Gs.frz_ok ok h3 h2, Gs.frz_le0 le h0 h1, Gs.frz_same h1, st.frz1 h1 fun j es ej => new ds rfl j es ej, .lst upd_same (RpAll.mono (Gs.frz_same h1) h4)⟩
  | src => cases e
  | scr ns => cases e
theorem hold_hR {K : PySem.W.Frag} (h : Bool) (ok : g.Ok) (le : b0.Le g) (st : StR K b0 g σ ρ) (rep : RepR K b0 g v r) (new : NewR σ ρ v r) :
    ∃ g', g'.V = g.V ∧ g'.H = g.H ∧ g'.Ok ∧ b0.Le g' ∧ StR K b0 g' σ ρ ∧ RepR K b0 g' v (hR h r) ∧ NewR σ ρ v (hR h r) ∧ ∀ w z, RepR K b0 g w z → (∀ ds es, r = .own ds → z = .own es → v ≠ w) → RepR K b0 g' w z := by
  have same : hR h r = r → ∃ g', g'.V = g.V ∧ g'.H = g.H ∧ g'.Ok ∧ b0.Le g' ∧ StR K b0 g' σ ρ ∧ RepR K b0 g' v (hR h r) ∧ NewR σ ρ v (hR h r) ∧ ∀ w z, RepR K b0 g w z → (∀ ds es, r = .own ds → z = .own es → v ≠ w) → RepR K b0 g' w z := fun e => by
    rw [e]
    exact ⟨g, rfl, rfl, ok, le, st, rep, new, fun _ _ q _ => q⟩
  cases h with
  | false => exact same rfl
  | true =>
    cases r with
    | val d => exact same rfl
    | src => exact same rfl
    | scr ns => exact same rfl
    | own ds =>
      obtain ⟨a, xs, rfl, h0, h1, h2, h3, h4⟩ := rep
      refine ⟨g.frz a (.lst xs), rfl, rfl, Gs.frz_ok ok h3 h2, Gs.frz_le0 le h0 h1, st.frz1 h1 fun j es ej => new ds rfl j es ej, .lst upd_same (RpAll.mono (Gs.frz_same h1) h4), NewR.val, fun w z q hne => q.frz1 h1 fun es ez ew => ?_⟩
      exact hne ds es rfl ez ew.symm
theorem NewR.set {i : Nat} {w : V} {z : R} (n : NewR σ ρ v r) (h : ∀ ds es, z = .own ds → r = .own es → w ≠ v) : NewR (σ.set i (some w)) (setV ρ i z) v r := by
  rintro ds rfl j es e1 e2
  unfold setV at e1
  rw [List.getElem?_set] at e1 e2
  by_cases hj : i = j
  · subst hj
    rw [if_pos rfl] at e1 e2
    split at e1
    · split at e2
      · cases e1
        cases e2
        exact h es ds rfl rfl rfl
      · cases e2
    · cases e1
  · rw [if_neg hj] at e1 e2
    exact n ds rfl j es e1 e2
theorem NewR.hR {h : Bool} (n : NewR σ ρ v r) : NewR σ ρ v (Pv.hR h r) := by
  cases h with
  | false => exact n
  | true => cases r <;> first | exact n | exact NewR.val
theorem hR_own {h : Bool} {ds : List PyData} (e : hR h r = .own ds) : r = .own ds := by
  cases h with
  | false => exact e
  | true => cases r <;> cases e
/-- a value put into a slot -/
theorem StR.setV {K : PySem.W.Frag} (st : StR K b0 g σ ρ) (i : Nat) {d : PyData} (rp : Rp K g.F v d) : StR K b0 g (σ.set i (some v)) (Pv.setV ρ i (.val d)) := st.set i (r := .val d) rp NewR.val
theorem getOwn_some {i : Nat} {ds : List PyData} (h : getOwn ρ i = some ds) : ρ[i]? = some (some (.own ds)) := by
  unfold getOwn at h
  split at h
  · cases h; assumption
  · cases h
/-- a list of one's own written anew -/
theorem StR.wr {K : PySem.W.Frag} {i : Nat} {a : Addr} {xs ys : List V} {ds es : List PyData} (ok : g.Ok) (le : b0.Le g) (st : StR K b0 g σ ρ) (h : getOwn ρ i = some ds) (hv : σ[i]? = some (some (.ref a))) (hH : g.H a = some (.lst xs)) (rp : RpAll K g.F ys es) :
    ∃ g', g'.V = g.V ∧ g'.H = upd g.H a (.lst ys) ∧ g'.Ok ∧ b0.Le g' ∧ g'.F = g.F ∧ StR K b0 g' σ (Pv.setV ρ i (.own es)) := by
  have ei := getOwn_some h
  obtain ⟨w, hw, b, xs', rfl, h0, h1, h2, h3, h4⟩ := st.2.1 i _ ei
  rw [hv] at hw
  cases hw
  have st1 : StR K b0 (g.lay a (.lst ys)) σ (Pv.setV ρ i (.own es)) := by
    refine ⟨by unfold Pv.setV; rw [List.length_set]; exact st.1, fun j r' e => ?_, fun j k ds' es' w hjk e1 e2 e3 e4 => ?_⟩
    · unfold Pv.setV at e
      rw [List.getElem?_set] at e
      by_cases hj : i = j
      · subst hj
        rw [if_pos rfl] at e
        split at e
        · cases e
          exact ⟨_, hv, a, ys, rfl, h0, h1, h2, upd_same, rp⟩
        · cases e
      · rw [if_neg hj] at e
        obtain ⟨w, e1, e2⟩ := st.2.1 j r' e
        refine ⟨w, e1, ?_⟩
        cases r' with
        | val d => exact e2
        | src => exact e2
        | scr ns => exact e2
        | own ds' =>
          obtain ⟨c, zs, rfl, p0, p1, p2, p3, p4⟩ := e2
          have hc : c ≠ a := fun e' => st.2.2 i j ds ds' (.ref a) hj ei e hv (by rw [e1, e'])
          refine ⟨c, zs, rfl, p0, p1, p2, ?_, p4⟩
          show upd g.H a (.lst ys) c = _
          rw [upd_ne hc]
          exact p3
    · unfold Pv.setV at e1 e2
      have key : ∀ {m : Nat} {zs : List PyData}, (ρ.set i (some (.own es)))[m]? = some (some (.own zs)) → ∃ us, ρ[m]? = some (some (.own us)) := fun {m zs} e => by
        rw [List.getElem?_set] at e
        by_cases hm : i = m
        · subst hm
          exact ⟨ds, ei⟩
        · rw [if_neg hm] at e
          exact ⟨zs, e⟩
      obtain ⟨us, e1⟩ := key e1
      obtain ⟨ws, e2⟩ := key e2
      exact st.2.2 j k us ws w hjk e1 e2 e3 e4
  exact ⟨g.lay a (.lst ys), rfl, rfl, Gs.lay_ok ok h1 h2, Gs.lay_le0 le h0, rfl, st1⟩
theorem own_at {K : PySem.W.Frag} {i : Nat} {ds : List PyData} (st : StR K b0 g σ ρ) (h : getOwn ρ i = some ds) : ∃ a xs, σ[i]? = some (some (.ref a)) ∧ g.H a = some (.lst xs) ∧ RpAll K g.F xs ds := by
  obtain ⟨w, hw, b, xs', rfl, h0, h1, h2, h3, h4⟩ := st.2.1 i _ (getOwn_some h)
  exact ⟨b, xs', hw, h3, h4⟩
end
end Pv

/-! Pv17 -/
set_option Elab.async false
set_option linter.all false
set_option maxRecDepth 100000
set_option maxHeartbeats 4000000
namespace Pv
open PySem PySem.Spec PyProof.Rows L2
section
variable {X : Cx} {W : WX} {b0 g g1 : Gs} {σ : L2.St} {ρ : Env} {Γ : Ctx} {v : V} {r : R} {pos p2 p3 : Pos} {D : Ends} {H : Hp}
/-! ### name = e -/
theorem asg_imp {i : Nat} {h : Bool} {e : E} {fz : List Nat} (hw : tS X W b0 (exS Γ (.asg i h e fz)) D σ H) : tM X W (evE Γ e) σ H fun x H1 => D.nx (σ.set i (some x)) H1 := by
  obtain ⟨g, ρ, rfl, ok, le, st, hp⟩ := hw
  simp only [exS] at hp
  refine run_F ok le st (bind_post hp) fun r ρ2 g3 v q ok3 le3 sm st3 rep new => ?_
  obtain ⟨g', e1, e2, ok', le', st', rep', new', _⟩ := hold_hR h ok3 le3 st3 rep new
  have q : ∀ g σ, g.V = g3.V → g.Ok → b0.Le g → StR X.K b0 g σ (setV ρ2 i (hR h r)) → D.nx σ g.H := q
  rw [← e2]
  exact q g' _ e1 ok' le' (st'.set i rep' new')
theorem xs_asg (nd : X.N.Nodup) {i : Nat} {x : Str} {h : Bool} {e : Expr} {ex : E} {fz : List Nat} {p : Pos} (hi : X.N[i]? = some x) (hl : LocX X x) (he : PE X e (tM X W (evE Γ ex))) (hs : swapsWith e (some (.Name x p)) pos.line X.env = pure false) :
    PS X (.Assign [.Name x p] e pos) (tS X W b0 (exS Γ (.asg i h ex fz))) :=
  PS.imp (ps_set nd hi hl.1 he hs hl.2) fun D σ H hw => asg_imp hw
theorem xs_asgLc (co : COk X) (nd : X.N.Nodup) {i : Nat} {x : Str} {h : Bool} {elt tg it : Expr} {ifs : List Expr} {scope : Scope} {ex : E} {fz : List Nat} {p : Pos} (hi : X.N[i]? = some x) (hl : X.env.scope.names.lookup x = some .local) (hc : LcOk Γ X W elt tg it ifs scope ex)
    (hs : swapsWith (.ListComp elt [⟨tg, it, ifs, 0⟩] scope p2) (some (.Name x p)) pos.line X.env = pure true) : PS X (.Assign [.Name x p] (.ListComp elt [⟨tg, it, ifs, 0⟩] scope p2) pos) (tS X W b0 (exS Γ (.asg i h ex fz))) := by
  obtain ⟨own, wi, g, tt, te, pi, bo, hg, ht, he, hf, imp⟩ := hc
  exact PS.imp (ps_setLc co.calm nd hi hl hs pi bo hg ht he hf) fun D σ H hw => imp σ H _ (asg_imp hw)
/-! ### a, b = e, f -/
theorem par_imp {i j : Nat} {hi hj : Bool} {a b : E} {fz : List Nat} (hw : tS X W b0 (exS Γ (.par i j hi hj a b fz)) D σ H) : tM X W (evE Γ a) σ H fun v H1 => tM X W (evE Γ b) σ H1 fun w H2 =>
    ∃ g4 ρ4, g4.H = H2 ∧ g4.Ok ∧ b0.Le g4 ∧ StR X.K b0 g4 ((σ.set i (some v)).set j (some w)) ρ4 ∧ ∀ g5, g5.V = g4.V → g5.Ok → b0.Le g5 → StR X.K b0 g5 ((σ.set i (some v)).set j (some w)) ρ4 → D.nx ((σ.set i (some v)).set j (some w)) g5.H := by
  obtain ⟨g, ρ, rfl, ok, le, st, hp⟩ := hw
  simp only [exS] at hp
  refine run_F2 (fz := fz) (P := fun x y S => StFin X b0 D (.nx (setV (setV (back ρ (Pv.frz ρ fz) (lfreeR x && lfreeR y)) i (hR hi x)) j (hR hj y))) S) ok le st ?_ fun x y g3 v w q ok3 le3 st3 rep1 new1 rep2 new2 ne => ?_
  · refine Out.post_bind.mpr ((bind_post hp).mono (fun x S q => ?_) fun _ _ q => q)
    exact Out.post_bind.mpr ((bind_post q).mono (fun y S q => q) fun _ _ q => q)
  · generalize back ρ (Pv.frz ρ fz) (lfreeR x && lfreeR y) = ρ2 at q st3 new1 new2
    obtain ⟨g4, e1, e2, ok4, le4, st4, rep1', new1', keep1⟩ := hold_hR hi ok3 le3 st3 rep1 new1
    have rep2' := keep1 w y rep2 fun ds es ex ey => ne ds es ex ey
    obtain ⟨g5, e3, e4, ok5, le5, st5, rep2'', new2', keep2⟩ := hold_hR hj ok4 le4 st4 rep2' new2
    have rep1'' := keep2 v (hR hi x) rep1' fun ds es ey ex => fun ee => ne es ds (hR_own ex) ey ee.symm
    have st6 := st5.set i rep1'' new1'
    have st7 := st6.set j rep2'' (new2'.set fun ds es ex ey => ne ds es (hR_own ex) (hR_own ey))
    refine ⟨g5, _, e4.trans e2, ok5, le5, st7, fun g6 hs ok6 le6 st8 => ?_⟩
    have q : ∀ g σ, g.V = g3.V → g.Ok → b0.Le g → StR X.K b0 g σ (setV (setV ρ2 i (hR hi x)) j (hR hj y)) → D.nx σ g.H := q
    exact q g6 _ (hs.trans (e3.trans e1)) ok6 le6 st8
theorem xs_par (co : COk X) (nd : X.N.Nodup) {i j : Nat} {hi hj : Bool} {x y : Str} {a b : Expr} {xa xb : E} {fz : List Nat} {px py pt q2 : Pos} {kt k2 : Nat} (hx : X.N[i]? = some x) (hy : X.N[j]? = some y) (hij : i ≠ j)
    (lx : X.env.scope.names.lookup x = some .local) (ly : X.env.scope.names.lookup y = some .local) (ha : PE X a (tM X W (evE Γ xa))) (hb : PE X b (tM X W (evE Γ xb))) (hs1 : starEach [a, b] X.env = (false, eval a X.env) :: starEach [b] X.env) (hs2 : starEach [b] X.env = [(false, eval b X.env)])
    (hw : swappedStores [.Tuple [.Name x px, .Name y py] kt pt] (.Tuple [a, b] k2 q2) X.env = pure (some [x, y])) :
    PS X (.Assign [.Tuple [.Name x px, .Name y py] kt pt] (.Tuple [a, b] k2 q2) pos) (tS X W b0 (exS Γ (.par i j hi hj xa xb fz))) := by
  refine PS.imp (ps_par co.calm nd hx hy hij lx ly (pa_cons ha (pa_one hb hs2) hs1) hw) fun D σ H h => ?_
  obtain ⟨g, ρ, e, ok, er, hp⟩ := par_imp h
  refine ⟨g, ρ, e, ok, er, hp.mono (fun r S q v g' hs ok' le' rep => ?_) fun _ _ q => q⟩
  obtain ⟨g2, ρ2, e2, ok2, er2, hp2⟩ := q v g' hs ok' le' rep
  refine ⟨g2, ρ2, e2, ok2, er2, hp2.mono (fun r S q w g3 hs ok3 le3 rep => ?_) fun _ _ q => q⟩
  obtain ⟨g4, ρ4, e4, ok4, le4, st4, fin⟩ := q w g3 hs ok3 le3 rep
  exact ⟨v, w, rfl, by rw [← e4]; exact fin g4 rfl ok4 le4 st4⟩
theorem xs_par0 (co : COk X) (nd : X.N.Nodup) {i j : Nat} {hi hj : Bool} {a b : Expr} {ts : List Expr} {xa xb : E} {fz : List Nat} {pt q2 : Pos} {kt k2 : Nat} (ht : ts.mapM (nmIx X.N) = some [i, j]) (hl : ∀ x p, Expr.Name x p ∈ ts → LocX X x)
    (ha : PE X a (tM X W (evE Γ xa))) (hb : PE X b (tM X W (evE Γ xb))) (hs1 : starEach [a, b] X.env = (false, eval a X.env) :: starEach [b] X.env) (hs2 : starEach [b] X.env = [(false, eval b X.env)])
    (hw : swappedStores [.Tuple ts kt pt] (.Tuple [a, b] k2 q2) X.env = pure none) :
    PS X (.Assign [.Tuple ts kt pt] (.Tuple [a, b] k2 q2) pos) (tS X W b0 (exS Γ (.par i j hi hj xa xb fz))) := by
  obtain ⟨h1, h2, h3⟩ := pgs_ns nd ts _ ht hl
  refine PS.imp (ps_asg (pe_tup (pa_cons ha (pa_one hb hs2) hs1)) (pg_tup (n := 2) co.calm h1 h2 h3) rfl hw) fun D σ H h => ?_
  obtain ⟨g, ρ, e, ok, er, hp⟩ := par_imp h
  refine ⟨g, ρ, e, ok, er, hp.mono (fun r S q v g' hs ok' le' rep => ?_) fun _ _ q => q⟩
  obtain ⟨g2, ρ2, e2, ok2, er2, hp2⟩ := q v g' hs ok' le' rep
  refine ⟨g2, ρ2, e2, ok2, er2, hp2.mono (fun r S q w g3 hs ok3 le3 rep => ?_) fun _ _ q => q⟩
  obtain ⟨g4, ρ4, e4, ok4, le4, st4, fin⟩ := q w g3 hs ok3 le3 rep
  refine ⟨by show 2 ≤ sizeLine; decide, fun p hp => ⟨p, [v, w], rfl, SqT.of upd_same, rfl, v, [w], rfl, w, [], rfl, rfl, ?_⟩⟩
  rw [← e4] at hp ⊢
  exact fin (g4.put p (.tup [v, w])) rfl (Gs.put_ok ok4 hp) (le4.trans (Gs.put_le ok4 hp)) (st4.mono (Gs.put_le ok4 hp))
/-! ### a, b, .. = e -/
def gSq (K : PySem.W.Frag) (n : Nat) (t : TGs) : TG := fun v σ H Q => gTup K n t v σ H Q ∨ gUnl K n t v σ H Q
theorem PG.or {tg : Expr} {t u : TG} (h : PG X tg t) (h' : PG X tg u) : PG X tg (fun v σ H Q => t v σ H Q ∨ u v σ H Q) := ⟨fun pins s σ H v w Q I r q => by
  rcases q with q | q
  · exact h.run pins s σ H v w Q I r q
  · exact h'.run pins s σ H v w Q I r q⟩
theorem bind_st {K : PySem.W.Frag} {js : List Nat} {xs : List V} {ds : List PyData} {ρ' : Env} (st : StR K b0 g σ ρ) (rp : RpAll K g.F xs ds) (h : bindMany js ds ρ = some ρ') :
    ∃ σ', StR K b0 g σ' ρ' ∧ js.length = xs.length ∧ ∀ (H : Hp) (Q : L2.St → Hp → Prop), Q σ' H → gNs js xs σ H Q :=
  bind_many (Φ := fun σ ρ => StR K b0 g σ ρ) (js0 := js) (fun σ ρ j v d _ p r => p.setV j r) js xs ds σ ρ ρ' (fun _ h => h) rp h st
theorem xs_unp (co : COk X) (nd : X.N.Nodup) {is : List Nat} {e : Expr} {ts : List Expr} {ex : E} {fz : List Nat} {pt : Pos} {kt : Nat} (ht : ts.mapM (nmIx X.N) = some is) (hl : ∀ x p, Expr.Name x p ∈ ts → LocX X x) (he : PE X e (tM X W (evE Γ ex)))
    (hs : swapsWithSole [.Tuple ts kt pt] e pos.line X.env = pure false) (hw : swappedStores [.Tuple ts kt pt] e X.env = pure none) : PS X (.Assign [.Tuple ts kt pt] e pos) (tS X W b0 (exS Γ (.unp is ex fz))) := by
  obtain ⟨h1, h2, h3⟩ := pgs_ns nd ts _ ht hl
  refine PS.imp (ps_asg he (PG.or (pg_tup co.calm h1 h2 h3) (pg_unl co.calm h1 h2 h3)) hs hw) fun D σ H h => ?_
  obtain ⟨g, ρ, rfl, ok, le, st, hp⟩ := h
  simp only [exS] at hp
  refine run_F ok le st (bind_post hp) fun r ρ2 g3 v q ok3 le3 sm st3 rep new => ?_
  obtain ⟨d, ed, q⟩ := of_post (bind_post (show ((M.of r.d >>= fun d => M.of (seqD d) >>= fun ds => M.of (bindMany is ds ρ2) >>= fun ρ3 => (pure (.nx ρ3) : M Fl)) g3.V).Post (StFin X b0 D) (XS X W b0) from q))
  obtain ⟨ds, es, q⟩ := of_post (bind_post q)
  obtain ⟨ρ3, e3, q⟩ := of_post (bind_post q)
  obtain ⟨g4, s1, s2, ok4, le4, _, st4, rp⟩ := hold_st ok3 le3 st3 rep new ed
  have qf : ∀ g σ, g.V = g3.V → g.Ok → b0.Le g → StR X.K b0 g σ ρ3 → D.nx σ g.H := q
  rw [← s2]
  cases rp <;> try cases es
  · rename_i a xs hF ra
    obtain ⟨σ', st5, hn, fin⟩ := bind_st st4 ra e3
    exact .inr ⟨a, xs, rfl, SqL.of (ok4.sub _ _ hF), hn.symm, fin _ _ (qf g4 σ' s1 ok4 le4 st5)⟩
  · rename_i a xs hF ra
    obtain ⟨σ', st5, hn, fin⟩ := bind_st st4 ra e3
    exact .inl ⟨a, xs, rfl, sqT_mono ok4.sub hF, hn.symm, fin _ _ (qf g4 σ' s1 ok4 le4 st5)⟩
theorem xs_unpT (co : COk X) (nd : X.N.Nodup) {is : List Nat} {es ts : List Expr} {xs : Es} {fz : List Nat} {pt q2 : Pos} {kt k2 : Nat} (ht : ts.mapM (nmIx X.N) = some is) (hl : ∀ x p, Expr.Name x p ∈ ts → LocX X x) (he : PA X es (tAs X W (evDs Γ xs))) (hlen : is.length ≤ line)
    (hw : swappedStores [.Tuple ts kt pt] (.Tuple es k2 q2) X.env = pure none) : PS X (.Assign [.Tuple ts kt pt] (.Tuple es k2 q2) pos) (tS X W b0 (exS Γ (.unpT is xs fz))) := by
  obtain ⟨h1, h2, h3⟩ := pgs_ns nd ts _ ht hl
  refine PS.imp (ps_asg (pe_tup he) (pg_tup co.calm h1 h2 h3) rfl hw) fun D σ H h => ?_
  obtain ⟨g, ρ, rfl, ok, le, st, hp⟩ := h
  simp only [exS] at hp
  show tAs X W (evDs Γ xs) σ g.H fun vs H1 => vs.length ≤ sizeLine ∧ ∀ p, H1 p = none → gTup X.K is.length (gNs is) (.ref p) σ (upd H1 p (.tup vs)) D.nx
  refine run_Fs (fz := fz) ok le st (bind_post hp) fun ds g3 vs q ok3 le3 st3 rp => ?_
  obtain ⟨ρ3, e3, q⟩ := of_post (bind_post q)
  have q : ∀ g σ, g.V = g3.V → g.Ok → b0.Le g → StR X.K b0 g σ ρ3 → D.nx σ g.H := q
  obtain ⟨σ', st5, hn, fin⟩ := bind_st st3 rp e3
  refine ⟨by rw [← hn]; exact line_le hlen, fun p hp => ⟨p, vs, rfl, SqT.of upd_same, hn.symm, fin _ _ ?_⟩⟩
  exact q (g3.put p (.tup vs)) σ' rfl (Gs.put_ok ok3 hp) (le3.trans (Gs.put_le ok3 hp)) (st5.mono (Gs.put_le ok3 hp))
end
end Pv

/-! Pv18 -/
set_option Elab.async false
set_option linter.all false
set_option maxRecDepth 100000
set_option maxHeartbeats 4000000
namespace Pv
open PySem PySem.Spec PyProof.Rows L2
section
variable {X : Cx} {W : WX} {b0 g g1 : Gs} {σ : L2.St} {ρ : Env} {Γ : Ctx} {v : V} {r : R} {pos p2 p3 apos cpos px : Pos} {D : Ends} {H : Hp}
/-! ### methods of a list of one's own -/
theorem few1 {e : Expr} (hs : starEach [e] X.env = [(false, eval e X.env)]) : ((backTo cpos (starEach [e] X.env)).all (fun x => !x.1) && (backToKw cpos (keywordEach [] X.env)).all (fun x => x.1.isSome)
      && decide ([e].length + ([] : List Keyword).length + (if ([] : List Keyword).isEmpty then 0 else 1) < 30)) = true := by
  rw [hs]
  rfl
theorem xs_app {i : Nat} {x : Str} {e : Expr} {ex : E} {fz : List Nat} (hN : X.N[i]? = some x) (hv : Vis X.env.scope x) (d1 : (x == ("__debug__" : Str)) = false) (d2 : (x == ("__classdict__" : Str)) = false) (he : PE X e (tM X W (evE Γ ex))) (hs : starEach [e] X.env = [(false, eval e X.env)]) (hl : (apos.endLine == cpos.line) = true) :
    PS X (.Expr (.Call (.Attribute (.Name x px) "append" apos) [e] [] cpos) pos) (tS X W b0 (exS Γ (.app i ex fz))) := by
  refine PS.imp (ps_expr (pe_bm PySem.F.plainAttrs_list PySem.F.slot_list_append PySem.F.type_list_append mt_append (pe_var hN hv d1 d2) (pa_one he hs) rfl (few1 hs) hl hs rfl) rfl) fun D σ H h => ?_
  obtain ⟨g, ρ, rfl, ok, le, st, hp⟩ := h
  simp only [exS] at hp
  obtain ⟨ds0, e0, hp⟩ := of_post (bind_post hp)
  obtain ⟨a, xs, hv, hH, _⟩ := own_at st e0
  refine ⟨.ref a, hv, .inl ⟨rfl, xs, SqL.of hH⟩, ?_⟩
  refine run_F ok le st (bind_post hp) fun r ρ2 g3 v q ok3 le3 sm st3 rep new => ?_
  obtain ⟨d, ed, q⟩ := of_post (bind_post (show ((M.of r.d >>= fun d => M.of (getOwn ρ2 i) >>= fun ds => (if ds.length < line then pure (.nx (setV ρ2 i (.own (ds ++ [d])))) else M.stuck : M Fl)) g3.V).Post (StFin X b0 D) (XS X W b0) from q))
  obtain ⟨ds, es, q⟩ := of_post (bind_post q)
  by_cases hlen : ds.length < line
  · rw [if_pos hlen] at q
    have qf : ∀ g σ, g.V = g3.V → g.Ok → b0.Le g → StR X.K b0 g σ (setV ρ2 i (.own (ds ++ [d]))) → D.nx σ g.H := q
    obtain ⟨g4, s1, s2, ok4, le4, _, st4, rp⟩ := hold_st ok3 le3 st3 rep new ed
    obtain ⟨a', xs', hv', hH', ra⟩ := own_at st4 es
    rw [hv] at hv'
    cases hv'
    obtain ⟨g5, t1, t2, ok5, le5, _, st5⟩ := st4.wr ok4 le4 es hv hH' (ra.append (.cons rp .nil))
    rw [← s2]
    refine ⟨a, xs', v, rfl, rfl, hH', by rw [ra.length]; exact Nat.lt_of_lt_of_le hlen (line_le (Nat.le_refl _)), ?_⟩
    rw [← t2]
    exact qf g5 σ (t1.trans s1) ok5 le5 st5
  · rw [if_neg hlen] at q
    exact q.elim
theorem xs_ext {i : Nat} {x : Str} {e : Expr} {ex : E} {fz : List Nat} (hN : X.N[i]? = some x) (hv : Vis X.env.scope x) (d1 : (x == ("__debug__" : Str)) = false) (d2 : (x == ("__classdict__" : Str)) = false) (he : PE X e (tM X W (evE Γ ex))) (hs : starEach [e] X.env = [(false, eval e X.env)]) (hl : (apos.endLine == cpos.line) = true) :
    PS X (.Expr (.Call (.Attribute (.Name x px) "extend" apos) [e] [] cpos) pos) (tS X W b0 (exS Γ (.ext i ex fz))) := by
  refine PS.imp (ps_expr (pe_bm PySem.F.plainAttrs_list PySem.F.slot_list_extend PySem.F.type_list_extend mt_extend (pe_var hN hv d1 d2) (pa_one he hs) rfl (few1 hs) hl hs rfl) rfl) fun D σ H h => ?_
  obtain ⟨g, ρ, rfl, ok, le, st, hp⟩ := h
  simp only [exS] at hp
  obtain ⟨ds0, e0, hp⟩ := of_post (bind_post hp)
  obtain ⟨a, xs, hv, hH, _⟩ := own_at st e0
  refine ⟨.ref a, hv, .inl ⟨rfl, xs, SqL.of hH⟩, ?_⟩
  refine run_F ok le st (bind_post hp) fun r ρ2 g3 v q ok3 le3 sm st3 rep new => ?_
  obtain ⟨d, ed, q⟩ := of_post (bind_post (show ((M.of r.d >>= fun d => M.of (getOwn ρ2 i) >>= fun ds => (match d with
    | .list es => if ds.length + es.length < line then pure (.nx (setV ρ2 i (.own (ds ++ es)))) else M.stuck
    | _ => M.stuck : M Fl)) g3.V).Post (StFin X b0 D) (XS X W b0) from q))
  obtain ⟨ds, es, q⟩ := of_post (bind_post q)
  obtain ⟨g4, s1, s2, ok4, le4, _, st4, rp⟩ := hold_st ok3 le3 st3 rep new ed
  obtain ⟨ws, rfl⟩ : ∃ ws, d = .list ws := by
    cases d with
    | list ws => exact ⟨ws, rfl⟩
    | _ => exact q.elim
  obtain ⟨b, zs, rfl, hF, rw'⟩ : ∃ b zs, v = .ref b ∧ g4.F b = some (.lst zs) ∧ RpAll X.K g4.F zs ws := by
    cases rp with
    | lst hF rw' => exact ⟨_, _, rfl, hF, rw'⟩
  by_cases hlen : ds.length + ws.length < line
  · have q : ((if ds.length + ws.length < line then pure (.nx (setV ρ2 i (.own (ds ++ ws)))) else M.stuck : M Fl) g3.V).Post (StFin X b0 D) (XS X W b0) := q
    rw [if_pos hlen] at q
    have qf : ∀ g σ, g.V = g3.V → g.Ok → b0.Le g → StR X.K b0 g σ (setV ρ2 i (.own (ds ++ ws))) → D.nx σ g.H := q
    obtain ⟨a', xs', hv', hH', ra⟩ := own_at st4 es
    rw [hv] at hv'
    cases hv'
    obtain ⟨g5, t1, t2, ok5, le5, _, st5⟩ := st4.wr ok4 le4 es hv hH' (ra.append rw')
    rw [← s2]
    refine ⟨a, b, xs', zs, rfl, rfl, hH', ok4.sub _ _ hF, ?_, ?_⟩
    · rw [ra.length, rw'.length]
      exact Nat.le_trans (Nat.le_of_lt hlen) (line_le (Nat.le_refl _))
    · rw [← t2]
      exact qf g5 σ (t1.trans s1) ok5 le5 st5
  · have q : ((if ds.length + ws.length < line then pure (.nx (setV ρ2 i (.own (ds ++ ws)))) else M.stuck : M Fl) g3.V).Post (StFin X b0 D) (XS X W b0) := q
    rw [if_neg hlen] at q
    exact q.elim
theorem last_rp {K : PySem.W.Frag} {F : Hp} {xs : List V} {ds : List PyData} {d : PyData} (ra : RpAll K F xs ds) (h : ds.getLast? = some d) : ∃ v, xs[xs.length - 1]? = some v ∧ Rp K F v d := by
  rw [List.getLast?_eq_getElem?] at h
  obtain ⟨v, h1, h2⟩ := ra.get h
  exact ⟨v, by rw [ra.length]; exact h1, h2⟩
theorem xs_pop {i : Nat} {x : Str} (hN : X.N[i]? = some x) (hv : Vis X.env.scope x) (d1 : (x == ("__debug__" : Str)) = false) (d2 : (x == ("__classdict__" : Str)) = false) (hl : (apos.endLine == cpos.line) = true) :
    PS X (.Expr (.Call (.Attribute (.Name x px) "pop" apos) [] [] cpos) pos) (tS X W b0 (exS Γ (.pop i))) := by
  refine PS.imp (ps_expr (pe_bm0 PySem.F.plainAttrs_list PySem.F.slot_list_pop PySem.F.type_list_pop mt_pop (pe_var hN hv d1 d2) rfl hl) rfl) fun D σ H h => ?_
  obtain ⟨g, ρ, rfl, ok, le, st, hp⟩ := h
  simp only [exS] at hp
  obtain ⟨ds, e0, hp⟩ := of_post (bind_post hp)
  obtain ⟨a, xs, hv, hH, ra⟩ := own_at st e0
  refine ⟨.ref a, hv, .inl ⟨rfl, xs, SqL.of hH⟩, ?_⟩
  cases hq : ds.getLast? with
  | none =>
    have e : ds = [] := by simpa using hq
    subst e
    exact hp.elim
  | some d =>
    have e : ds.isEmpty = false := by
      cases ds with
      | nil => cases hq
      | cons _ _ => rfl
    rw [e, if_neg Bool.false_ne_true] at hp
    have qf : ∀ g' σ, g'.V = g.V → g'.Ok → b0.Le g' → StR X.K b0 g' σ (setV ρ i (.own ds.dropLast)) → D.nx σ g'.H := hp
    obtain ⟨w, hw, _⟩ := last_rp ra hq
    obtain ⟨g5, t1, t2, ok5, le5, _, st5⟩ := st.wr ok le e0 hv hH ra.dropLast
    refine ⟨a, xs, w, rfl, rfl, hH, hw, ?_⟩
    rw [← t2]
    exact qf g5 σ t1 ok5 le5 st5
theorem xs_popTo (co : COk X) (nd : X.N.Nodup) {i : Nat} {x : Str} {tg : Expr} {t : Tg} (hN : X.N[i]? = some x) (hv : Vis X.env.scope x) (d1 : (x == ("__debug__" : Str)) = false) (d2 : (x == ("__classdict__" : Str)) = false) (hl : (apos.endLine == cpos.line) = true)
    (ht : tgOf X.N tg = some t) (hx : tgX X tg) : PS X (.Assign [tg] (.Call (.Attribute (.Name x px) "pop" apos) [] [] cpos) pos) (tS X W b0 (exS Γ (.popTo t i))) := by
  have h1 : (assignEach [tg] X.env).map (·.2) = [assign tg X.env] := by
    cases tg <;> first | rfl | (simp [tgOf] at ht)
  have h2 : swappedStores [tg] (.Call (.Attribute (.Name x px) "pop" apos) [] [] cpos) X.env = pure none := by
    cases tg <;> rfl
  refine PS.imp (ps_asg (pe_bm0 PySem.F.plainAttrs_list PySem.F.slot_list_pop PySem.F.type_list_pop mt_pop (pe_var hN hv d1 d2) rfl hl) (pg_tg co nd ht hx) rfl h2 h1) fun D σ H h => ?_
  obtain ⟨g, ρ, rfl, ok, le, st, hp⟩ := h
  simp only [exS] at hp
  obtain ⟨ds, e0, hp⟩ := of_post (bind_post hp)
  obtain ⟨d, hq, hp⟩ := of_post (bind_post hp)
  obtain ⟨ρ2, e2, hp⟩ := of_post (bind_post hp)
  obtain ⟨a, xs, hv, hH, ra⟩ := own_at st e0
  refine ⟨.ref a, hv, .inl ⟨rfl, xs, SqL.of hH⟩, ?_⟩
  obtain ⟨w, hw, rp⟩ := last_rp ra hq
  obtain ⟨g5, t1, t2, ok5, le5, tF, st5⟩ := st.wr ok le e0 hv hH ra.dropLast
  refine ⟨a, xs, w, rfl, rfl, hH, hw, ?_⟩
  rw [← t2]
  obtain ⟨σ', st6, fin⟩ := bind_tg (Φ := fun σ ρ => StR X.K b0 g5 σ ρ) ok5 (fun σ ρ j v d _ p r => p.setV j r) (by rw [tF]; exact rp) e2 st5
  have qf : ∀ g' σ, g'.V = g.V → g'.Ok → b0.Le g' → StR X.K b0 g' σ ρ2 → D.nx σ g'.H := hp
  exact fin _ (qf g5 σ' t1 ok5 le5 st6)
theorem xs_setI (co : COk X) {i : Nat} {x : Str} {k e : Expr} {kx ex : E} {fz : List Nat} (hN : X.N[i]? = some x) (hv : Vis X.env.scope x) (d1 : (x == ("__debug__" : Str)) = false) (d2 : (x == ("__classdict__" : Str)) = false) (hk : PE X k (tM X W (evE Γ kx))) (he : PE X e (tM X W (evE Γ ex)))
    (hn : notSlice k = true) (hs : swapsWithSole [.Subscript (.Name x px) k p2] e pos.line X.env = pure false) (hw : swappedStores [.Subscript (.Name x px) k p2] e X.env = pure none) :
    PS X (.Assign [.Subscript (.Name x px) k p2] e pos) (tS X W b0 (exS Γ (.setI i kx ex fz))) := by
  have ha : ∀ v, assign (.Subscript (.Name x px) k p2) X.env v = (do
      let ov ← holding [v] (eval (.Name x px) X.env)
      let iv ← holding [v, ov] (eval k X.env)
      standAt p2
      holding [v, ov, iv] (setItem ov iv v)
      release [v, ov, iv] []) := by
    intro v
    cases k <;> first | rfl | cases hn
  refine PS.imp (ps_asg he (pg_sub (pe_var hN hv d1 d2) hk set_list ha) hs hw rfl) fun D σ H h => ?_
  obtain ⟨g, ρ, rfl, ok, le, st, hp⟩ := h
  simp only [exS] at hp
  refine run_F ok le st (bind_post hp) fun r ρ2 g3 v q ok3 le3 sm st3 rep new => ?_
  obtain ⟨d, ed, q⟩ := of_post (bind_post (show ((M.of r.d >>= fun d => M.of (getOwn ρ2 i) >>= fun _ => evF Γ kx ρ2 fz >>= fun p => M.of p.1.d >>= fun n => M.of (getOwn p.2 i) >>= fun ds => (match n with
    | .int n => M.of (ixN ds.length n) >>= fun j => (pure (.nx (setV p.2 i (.own (ds.set j d)))) : M Fl)
    | _ => M.stuck : M Fl)) g3.V).Post (StFin X b0 D) (XS X W b0) from q))
  obtain ⟨ds0, e0, q⟩ := of_post (bind_post q)
  obtain ⟨g4, s1, s2, ok4, le4, _, st4, rp⟩ := hold_st ok3 le3 st3 rep new ed
  rw [← s1] at q
  rw [← s2]
  obtain ⟨a, xs, hv, hH, _⟩ := own_at st4 e0
  refine ⟨.ref a, hv, ?_⟩
  refine run_F ok4 le4 st4 (bind_post q) fun rk ρ3 g5 w q5 ok5 le5 sm5 st5 rep5 new5 => ?_
  obtain ⟨n, en, q5⟩ := of_post (bind_post (show ((M.of rk.d >>= fun n => M.of (getOwn ρ3 i) >>= fun ds => (match n with
    | .int n => M.of (ixN ds.length n) >>= fun j => (pure (.nx (setV ρ3 i (.own (ds.set j d)))) : M Fl)
    | _ => M.stuck : M Fl)) g5.V).Post (StFin X b0 D) (XS X W b0) from q5))
  obtain ⟨ds, es, q5⟩ := of_post (bind_post q5)
  obtain ⟨m, rfl⟩ : ∃ m, n = .int m := by
    cases n with
    | int m => exact ⟨m, rfl⟩
    | _ => exact q5.elim
  obtain ⟨j, ej, q5⟩ := of_post (bind_post (show ((M.of (ixN ds.length m) >>= fun j => (pure (.nx (setV ρ3 i (.own (ds.set j d)))) : M Fl)) g5.V).Post (StFin X b0 D) (XS X W b0) from q5))
  have qf : ∀ g σ, g.V = g5.V → g.Ok → b0.Le g → StR X.K b0 g σ (setV ρ3 i (.own (ds.set j d))) → D.nx σ g.H := q5
  obtain ⟨a', xs', hv', hH', ra⟩ := own_at st5 es
  rw [hv] at hv'
  cases hv'
  obtain ⟨g6, t1, t2, ok6, le6, _, st6⟩ := st5.wr ok5 le5 es hv hH' (ra.set j (rp.mono sm5))
  have ew : w = .int m := by
    cases rk with
    | val z =>
      cases en
      have rep5 : Rp X.K g5.F w (.int m) := rep5
      cases rep5
      rfl
    | own z => cases en
    | src => cases en
    | scr z => cases en
  subst ew
  refine ⟨a, xs', m, j, rfl, rfl, hH', by rw [ra.length]; exact ej, ?_⟩
  rw [← t2]
  exact qf g6 σ t1 ok6 le6 st6
theorem setAt_ok {i : Nat} {kx : E} {fz : List Nat} {d : PyData} {P : Env → SS → Prop} (ok : g.Ok) (le : b0.Le g) (st : StR X.K b0 g σ ρ) (rp : Rp X.K g.F v d) (hp : ((setAt Γ i kx d fz ρ) g.V).Post P (XS X W b0)) {Q : L2.St → Hp → Prop}
    (hq : ∀ ρ' g', P ρ' g'.V → g'.Ok → b0.Le g' → Same g.F g'.F → StR X.K b0 g' σ ρ' → Q σ g'.H) :
    ∃ o, σ[i]? = some (some o) ∧ tM X W (evE Γ kx) σ g.H fun w H2 => rSetL o w v H2 fun H3 => Q σ H3 := by
  unfold setAt at hp
  obtain ⟨ds0, e0, hp⟩ := of_post (bind_post hp)
  obtain ⟨a, xs, hv, hH, _⟩ := own_at st e0
  refine ⟨.ref a, hv, ?_⟩
  refine run_F ok le st (bind_post hp) fun rk ρ3 g5 w q5 ok5 le5 sm5 st5 rep5 new5 => ?_
  obtain ⟨n, en, q5⟩ := of_post (bind_post (show ((M.of rk.d >>= fun n => M.of (getOwn ρ3 i) >>= fun ds => (match n with
    | .int n => M.of (ixN ds.length n) >>= fun j => (pure (setV ρ3 i (.own (ds.set j d))) : M Env)
    | _ => M.stuck : M Env)) g5.V).Post P (XS X W b0) from q5))
  obtain ⟨ds, es, q5⟩ := of_post (bind_post q5)
  obtain ⟨m, rfl⟩ : ∃ m, n = .int m := by
    cases n with
    | int m => exact ⟨m, rfl⟩
    | _ => exact q5.elim
  obtain ⟨j, ej, q5⟩ := of_post (bind_post (show ((M.of (ixN ds.length m) >>= fun j => (pure (setV ρ3 i (.own (ds.set j d))) : M Env)) g5.V).Post P (XS X W b0) from q5))
  have qf : P (setV ρ3 i (.own (ds.set j d))) g5.V := q5
  obtain ⟨a', xs', hv', hH', ra⟩ := own_at st5 es
  rw [hv] at hv'
  cases hv'
  obtain ⟨g6, t1, t2, ok6, le6, tF, st6⟩ := st5.wr ok5 le5 es hv hH' (ra.set j (rp.mono sm5))
  have ew : w = .int m := by
    cases rk with
    | val z =>
      cases en
      have rep5 : Rp X.K g5.F w (.int m) := rep5
      cases rep5
      rfl
    | own z => cases en
    | src => cases en
    | scr z => cases en
  subst ew
  refine ⟨a, xs', m, j, rfl, rfl, hH', by rw [ra.length]; exact ej, ?_⟩
  rw [← t2]
  exact hq _ g6 (by rw [t1]; exact qf) ok6 le6 (by rw [tF]; exact sm5) st6
theorem xs_swp (co : COk X) {i j : Nat} {x y : Str} {k l a b : Expr} {kx lx : E} {xs : Es} {fz : List Nat} {px py p1 q1 pt q2 : Pos} {kt k2 : Nat} (hN : X.N[i]? = some x) (hv : Vis X.env.scope x) (d1 : (x == ("__debug__" : Str)) = false) (d2 : (x == ("__classdict__" : Str)) = false)
    (hN' : X.N[j]? = some y) (hv' : Vis X.env.scope y) (d1' : (y == ("__debug__" : Str)) = false) (d2' : (y == ("__classdict__" : Str)) = false) (hk : PE X k (tM X W (evE Γ kx))) (hl : PE X l (tM X W (evE Γ lx))) (he : PA X [a, b] (tAs X W (evDs Γ xs)))
    (hn : notSlice k = true) (hn' : notSlice l = true) (hw : swappedStores [.Tuple [.Subscript (.Name x px) k p1, .Subscript (.Name y py) l q1] kt pt] (.Tuple [a, b] k2 q2) X.env = pure none) :
    PS X (.Assign [.Tuple [.Subscript (.Name x px) k p1, .Subscript (.Name y py) l q1] kt pt] (.Tuple [a, b] k2 q2) pos) (tS X W b0 (exS Γ (.swp i kx j lx xs fz))) := by
  have ha : ∀ (x : Str) (px : Pos) (k : Expr) (p2 : Pos), notSlice k = true → ∀ v, assign (.Subscript (.Name x px) k p2) X.env v = (do
      let ov ← holding [v] (eval (.Name x px) X.env)
      let iv ← holding [v, ov] (eval k X.env)
      standAt p2
      holding [v, ov, iv] (setItem ov iv v)
      release [v, ov, iv] []) := by
    intro x px k p2 hn v
    cases k <;> first | rfl | cases hn
  refine PS.imp (ps_asg (pe_tup he) (pg_tup (n := 2) co.calm (pgs_cons (pg_sub (pe_var hN hv d1 d2) hk set_list (ha _ _ _ _ hn)) (pgs_cons (pg_sub (pe_var hN' hv' d1' d2') hl set_list (ha _ _ _ _ hn')) pgs_nil))) rfl hw) fun D σ H h => ?_
  obtain ⟨g, ρ, rfl, ok, le, st, hp⟩ := h
  simp only [exS] at hp
  show tAs X W (evDs Γ xs) σ g.H fun vs H1 => vs.length ≤ sizeLine ∧ ∀ p, H1 p = none → gTup X.K 2 _ (.ref p) σ (upd H1 p (.tup vs)) D.nx
  refine run_Fs (fz := fz) ok le st (bind_post hp) fun ds g3 vs q ok3 le3 st3 rp => ?_
  generalize back ρ (Pv.frz ρ fz) (lfreeAll ds) = ρ1 at q st3
  split at q
  · rename_i d e
    cases rp with
    | cons r1 rp =>
    cases rp with
    | cons r2 rp =>
    cases rp
    rename_i v1 v2
    refine ⟨by show 2 ≤ sizeLine; decide, fun p hp => ⟨p, [v1, v2], rfl, SqT.of upd_same, rfl, v1, [v2], rfl, ?_⟩⟩
    have le4 := Gs.put_le ok3 hp (o := .tup [v1, v2])
    refine setAt_ok (g := g3.put p (.tup [v1, v2])) (Q := fun σ' H' => gCons (gSub (tVar j) (tM X W (evE Γ lx)) rSetL) gNil [v2] σ' H' D.nx) (Gs.put_ok ok3 hp) (le3.trans le4) (st3.mono le4) (r1.mono le4.fro) (bind_post q) fun ρ' g5 q5 ok5 le5 sm5 st5 => ?_
    refine ⟨v2, [], rfl, ?_⟩
    refine setAt_ok (Q := fun σ' H' => gNil [] σ' H' D.nx) ok5 le5 st5 ((r2.mono le4.fro).mono sm5) (bind_post q5) fun ρ'' g6 q6 ok6 le6 sm6 st6 => ?_
    refine ⟨rfl, ?_⟩
    have qf : ∀ g σ, g.V = g6.V → g.Ok → b0.Le g → StR X.K b0 g σ ρ'' → D.nx σ g.H := q6
    exact qf g6 σ rfl ok6 le6 st6
  · exact q.elim
/-! ### the source -/
/-- the source written anew, its addresses kept -/
theorem src_wr {s : Src} {v' : SV} {H' : Hp} (ok : g.Ok) (le : b0.Le g) {K : PySem.W.Frag} (st : StR K b0 g σ ρ) (e : g.S = some s) (ha : H' s.a = some (.dK (srcKv { s with v := v' }))) (hc : H' s.c = some (.lst (v'.cells.map V.int))) (ho : ∀ b, b ≠ s.a → b ≠ s.c → H' b = g.H b) :
    ∃ g' : Gs, g'.V = some v' ∧ g'.H = H' ∧ g'.Ok ∧ b0.Le g' ∧ StR K b0 g' σ ρ := by
  obtain ⟨h0, h1, h2⟩ := ok.src s e
  have off : ∀ b, ¬ has g.S b → H' b = g.H b := fun b n => ho b (fun z => n ⟨s, e, .inl z⟩) fun z => n ⟨s, e, .inr z⟩
  have hasE : ∀ b, has (some { s with v := v' } : Option Src) b → has g.S b := fun b h => by
    obtain ⟨s', e', q⟩ := h
    cases e'
    exact ⟨s, e, q⟩
  refine ⟨⟨g.F, some { s with v := v' }, H'⟩, rfl, rfl, ⟨fun b o q => ?_, fun s' e' => ?_, fun b q => ok.fre b (hasE b q)⟩, ⟨le.fro, fun b o q n => ?_, fun b q => ?_, le.new, fun b q => le.srcs b (hasE b q), fun s0 q => ?_⟩, st.1, fun i r q => ?_, st.2.2⟩
  · show H' b = some o
    rw [off b fun z => by rw [ok.fre b z] at q; cases q]
    exact ok.sub b o q
  · cases e'
    exact ⟨h0, ha, hc⟩
  · show H' b = some o
    rw [off b fun z => ?_]
    · exact le.keep b o q n
    · rcases le.srcs b z with z | z
      · exact n z
      · rw [q] at z; cases z
  · show H' b ≠ none
    by_cases z1 : b = s.a
    · rw [z1, ha]; simp
    · by_cases z2 : b = s.c
      · rw [z2, hc]; simp
      · rw [ho b z1 z2]; exact le.dom b q
  · obtain ⟨s1, e1, p1, p2⟩ := le.same s0 q
    rw [e] at e1
    cases e1
    exact ⟨_, rfl, p1, p2⟩
  · obtain ⟨w, w1, w2⟩ := st.2.1 i r q
    refine ⟨w, w1, ?_⟩
    cases r with
    | val d => exact w2
    | scr ns => exact w2
    | src =>
      obtain ⟨s1, e1, p1⟩ := w2
      rw [e] at e1
      cases e1
      exact ⟨_, rfl, p1⟩
    | own ds =>
      obtain ⟨a, xs, q0, q1, q2, q3, q4, q5⟩ := w2
      exact ⟨a, xs, q0, q1, q2, fun z => q3 (hasE a z), by show H' a = _; rw [off a q3]; exact q4, q5⟩
theorem src_slot {K : PySem.W.Frag} {i : Nat} {r : R} {S : SS} (st : StR K b0 g σ ρ) (h : getV ρ i = some r) : (∀ s, r = .src → g.S = some s → σ[i]? = some (some (.ref s.a))) := by
  rintro s rfl e
  obtain ⟨e2, _⟩ := getV_some h
  obtain ⟨w, w1, s1, e1, rfl⟩ := st.2.1 i _ e2
  rw [e] at e1
  cases e1
  exact w1
theorem wr_post {r : R} {f : SV → SV} {S : SS} {P : Unit → SS → Prop} {E : Exc → SS → Prop} (h : ((M.wr r f) S).Post P E) : r = .src ∧ ∃ s, S = some s ∧ P () (some (f s)) := by
  unfold M.wr at h
  split at h
  · exact ⟨rfl, _, rfl, h⟩
  · exact h.elim
theorem popS_post {r : R} {S : SS} {P : Unit → SS → Prop} {E : Exc → SS → Prop} (h : ((M.popS r) S).Post P E) : r = .src ∧ ∃ s n, S = some s ∧ s.cells.getLast? = some n ∧ P () (some { s with cells := s.cells.dropLast, left := n }) := by
  unfold M.popS at h
  split at h
  · split at h
    · exact ⟨rfl, _, _, rfl, by assumption, h⟩
    · exact h.elim
  · exact h.elim
theorem xs_srcSet (co : COk X) {i k : Nat} {x s : Str} {e : Expr} {ex : E} {fz : List Nat} {j : Nat} {p4 : Pos} (hN : X.N[i]? = some x) (hv : Vis X.env.scope x) (d1 : (x == ("__debug__" : Str)) = false) (d2 : (x == ("__classdict__" : Str)) = false) (hk : srcK s = some k) (he : PE X e (tM X W (evE Γ ex)))
    (hs : swapsWith e (some (.Subscript (.Name x px) (.Constant (.str s) j p2) p3)) p4.line X.env = pure false) : PS X (.Assign [.Subscript (.Name x px) (.Constant (.str s) j p2) p3] e p4) (tS X W b0 (exS Γ (.srcSet i k ex fz))) := by
  obtain ⟨rfl, hk2⟩ := srcK_key hk
  refine PS.imp (ps_dput (by have := co.un; omega) (pe_var hN hv d1 d2) pe_str he hs) fun D σ H h => ?_
  obtain ⟨g, ρ, rfl, ok, le, st, hp⟩ := h
  simp only [exS] at hp
  refine run_F ok le st (bind_post hp) fun r ρ2 g3 v q ok3 le3 sm st3 rep new => ?_
  obtain ⟨n, en, q⟩ := of_post (bind_post (show ((M.of (r.d.bind toInt) >>= fun n => M.of (getV ρ2 i) >>= fun s => (M.wr s fun s => srcPut s k n) >>= fun _ => (pure (.nx ρ2) : M Fl)) g3.V).Post (StFin X b0 D) (XS X W b0) from q))
  obtain ⟨z, ez, q⟩ := of_post (bind_post q)
  obtain ⟨rfl, sv, eV, q⟩ := wr_post (bind_post q)
  obtain ⟨s, eS, rfl⟩ := v_some eV
  have hσ := src_slot (S := none) st3 ez s rfl eS
  obtain ⟨h0, h1, h2⟩ := ok3.src s eS
  have ev : v = .int n := by
    cases r with
    | val d =>
      have en : toInt d = some n := en
      have rep : Rp X.K g3.F v d := rep
      cases rep <;> cases en
      rfl
    | own ds => cases en
    | src => cases en
    | scr z => cases en
  rw [ev]
  refine ⟨_, hσ, s.a, _, rfl, .inl ⟨srcKv s, .inr (srcKey k), h1, rfl, by show 4 < sizeLine; decide, rfl⟩, ?_⟩
  rw [srcKv_put s n hk2]
  have hcl : (srcPut s.v k n).cells = s.v.cells := by
    unfold srcPut
    split
    · rfl
    · split <;> rfl
  obtain ⟨g', e1, e2, ok', le', st'⟩ := src_wr (v' := srcPut s.v k n) (H' := upd g3.H s.a (.dK (srcKv { s with v := srcPut s.v k n }))) ok3 le3 st3 eS upd_same (by rw [upd_ne (Ne.symm h0), hcl]; exact h2) fun b hb _ => upd_ne hb
  have qf : ∀ g σ, g.V = some (srcPut s.v k n) → g.Ok → b0.Le g → StR X.K b0 g σ ρ2 → D.nx σ g.H := q
  rw [← e2]
  exact qf g' σ e1 ok' le' st'
theorem xs_srcPop (co : COk X) {i : Nat} {x : Str} {j j2 : Nat} {q1 q2 q3 p4 : Pos} (hN : X.N[i]? = some x) (hv : Vis X.env.scope x) (d1 : (x == ("__debug__" : Str)) = false) (d2 : (x == ("__classdict__" : Str)) = false) (hl : (apos.endLine == cpos.line) = true) :
    PS X (.Assign [.Subscript (.Name x px) (.Constant (.str "left") j p2) p3] (.Call (.Attribute (.Subscript (.Name x q1) (.Constant (.str "cells") j2 q2) q3) "pop" apos) [] [] cpos) p4) (tS X W b0 (exS Γ (.srcPop i))) := by
  refine PS.imp (ps_dput (by have := co.un; omega) (pe_var hN hv d1 d2) pe_str (pe_bm0 PySem.F.plainAttrs_list PySem.F.slot_list_pop PySem.F.type_list_pop mt_pop (pe_dget (by have := co.un; omega) (pe_var hN hv d1 d2) pe_str (fun _ _ => rfl)) rfl hl) rfl) fun D σ H h => ?_
  obtain ⟨g, ρ, rfl, ok, le, st, hp⟩ := h
  simp only [exS] at hp
  obtain ⟨z, ez, hp⟩ := of_post (bind_post hp)
  obtain ⟨rfl, sv, n, eV, hn, q⟩ := popS_post (bind_post hp)
  obtain ⟨s, eS, rfl⟩ := v_some eV
  have hσ := src_slot (S := none) st ez s rfl eS
  obtain ⟨h0, h1, h2⟩ := ok.src s eS
  refine ⟨_, hσ, s.a, _, rfl, .inl ⟨srcKv s, .inr "cells", .inl h1, rfl, (srcKv_cells s).symm⟩, .inl ⟨rfl, s.v.cells.map V.int, SqL.of h2⟩, s.c, s.v.cells.map V.int, .int n, rfl, rfl, h2, ?_, _, hσ, s.a, _, rfl, .inl ⟨srcKv s, .inr "left", ?_, rfl, by show 4 < sizeLine; decide, rfl⟩, ?_⟩
  · rw [List.length_map, List.getElem?_map, ← List.getLast?_eq_getElem?, hn]
    rfl
  · rw [upd_ne h0]
    exact h1
  · have e := srcKv_put s n (k := 0) (.inl rfl)
    have e : putK (srcKv s) (.inr "left") (.int n) = srcKv { s with v := { s.v with cells := s.v.cells.dropLast, left := n } } := e
    rw [e]
    obtain ⟨g', e1, e2, ok', le', st'⟩ := src_wr (v' := { s.v with cells := s.v.cells.dropLast, left := n }) (H' := upd (upd g.H s.c (.lst (s.v.cells.map V.int).dropLast)) s.a (.dK (srcKv { s with v := { s.v with cells := s.v.cells.dropLast, left := n } }))) ok le st eS upd_same
      (by rw [upd_ne (Ne.symm h0), upd_same, List.map_dropLast]) fun b hb hc => by rw [upd_ne hb, upd_ne hc]
    have qf : ∀ g σ, g.V = some { s.v with cells := s.v.cells.dropLast, left := n } → g.Ok → b0.Le g → StR X.K b0 g σ ρ → D.nx σ g.H := q
    rw [← e2]
    exact qf g' σ e1 ok' le' st'
/-! ### return, if, blocks -/
theorem xs_ret {e : Expr} {ex : E} {fz : List Nat} (he : PE X e (tM X W (evE Γ ex))) : PS X (.Return (some e) pos) (tS X W b0 (exS Γ (.ret ex fz))) := by
  refine PS.imp (ps_ret he) fun D σ H h => ?_
  obtain ⟨g, ρ, rfl, ok, le, st, hp⟩ := h
  simp only [exS] at hp
  obtain ⟨gF, A, f, leF, stF⟩ := frz_ok fz g ρ ok le st
  refine ⟨gF, Pv.frz ρ fz, f.H, f.ok, stF.envR, ?_⟩
  rw [f.Ve]
  refine (bind_post hp).mono (fun r S' q => ?_) fun _ _ q => q.fin leF
  rintro v g2 rfl ok2 le2 rep
  have q : ∀ g v, g.V = g2.V → g.Ok → b0.Le g → RepR X.K b0 g v r → D.rt v g.H := q
  exact q g2 v rfl ok2 (leF.trans le2) (rep.base leF)
theorem xs_retO {i : Nat} {x : Str} (hN : X.N[i]? = some x) (hv : Vis X.env.scope x) (d1 : (x == ("__debug__" : Str)) = false) (d2 : (x == ("__classdict__" : Str)) = false) :
    PS X (.Return (some (.Name x px)) pos) (tS X W b0 (exS Γ (.retO i))) := by
  refine PS.imp (ps_ret (pe_var hN hv d1 d2)) fun D σ H h => ?_
  obtain ⟨g, ρ, rfl, ok, le, st, hp⟩ := h
  simp only [exS] at hp
  obtain ⟨ds, e0, hp⟩ := of_post (bind_post hp)
  obtain ⟨w, hw, rep⟩ := st.2.1 i _ (getOwn_some e0)
  have q : ∀ g' v, g'.V = g.V → g'.Ok → b0.Le g' → RepR X.K b0 g' v (.own ds) → D.rt v g'.H := hp
  exact ⟨w, hw, q g w rfl ok le rep⟩
theorem xs_retN : PS X (.Return none pos) (tS X W b0 (exS Γ .retN)) := by
  refine PS.imp ps_retN fun D σ H h => ?_
  obtain ⟨g, ρ, rfl, ok, le, st, hp⟩ := h
  simp only [exS] at hp
  have q : ∀ g' v, g'.V = g.V → g'.Ok → b0.Le g' → RepR X.K b0 g' v (.val .none) → D.rt v g'.H := hp
  exact q g .non rfl ok le .non
theorem xs_pass : PS X (.Pass pos) (tS X W b0 (exS Γ .pass)) := by
  refine PS.imp ps_pass fun D σ H h => ?_
  obtain ⟨g, ρ, rfl, ok, le, st, hp⟩ := h
  simp only [exS] at hp
  have q : ∀ g' σ, g'.V = g.V → g'.Ok → b0.Le g' → StR X.K b0 g' σ ρ → D.nx σ g'.H := hp
  exact q g σ rfl ok le st
theorem xs_brk : PS X (.Break pos) (tS X W b0 (exS Γ .brk)) := by
  refine PS.imp ps_break fun D σ H h => ?_
  obtain ⟨g, ρ, rfl, ok, le, st, hp⟩ := h
  simp only [exS] at hp
  have q : ∀ g' σ, g'.V = g.V → g'.Ok → b0.Le g' → StR X.K b0 g' σ ρ → D.bk σ g'.H := hp
  exact q g σ rfl ok le st
theorem xs_cont : PS X (.Continue pos) (tS X W b0 (exS Γ .cont)) := by
  refine PS.imp ps_continue fun D σ H h => ?_
  obtain ⟨g, ρ, rfl, ok, le, st, hp⟩ := h
  simp only [exS] at hp
  have q : ∀ g' σ, g'.V = g.V → g'.Ok → b0.Le g' → StR X.K b0 g' σ ρ → D.ct σ g'.H := hp
  exact q g σ rfl ok le st
theorem xs_nil : PSs X [] (tS X W b0 (exSs Γ .nil)) := by
  refine PSs.imp pss_nil fun D σ H h => ?_
  obtain ⟨g, ρ, rfl, ok, le, st, hp⟩ := h
  simp only [exSs] at hp
  have q : ∀ g' σ, g'.V = g.V → g'.Ok → b0.Le g' → StR X.K b0 g' σ ρ → D.nx σ g'.H := hp
  exact q g σ rfl ok le st
theorem xs_cons {st : Stmt} {sts : List Stmt} {s : S} {ss : Ss} (h1 : PS X st (tS X W b0 (exS Γ s))) (h2 : PSs X sts (tS X W b0 (exSs Γ ss))) : PSs X (st :: sts) (tS X W b0 (exSs Γ (.cons s ss))) := by
  refine PSs.imp (pss_cons h1 h2) fun D σ H h => ?_
  obtain ⟨g, ρ, rfl, ok, le, st, hp⟩ := h
  simp only [exSs] at hp
  refine ⟨g, ρ, rfl, ok, le, st, (bind_post hp).mono (fun fl S q => ?_) fun _ _ q => q⟩
  cases fl with
  | nx ρ' =>
    intro g' σ' hs ok' le' st'
    subst hs
    exact ⟨g', ρ', rfl, ok', le', st', q⟩
  | rt r => exact q
  | bk ρ' => exact q
  | ct ρ' => exact q
theorem xs_if {c : Expr} {cx : E} {p q : List Stmt} {xa xb : Ss} {fz : List Nat} (hc : PT X c (tBt X W fun ρ => asB (evE Γ cx ρ))) (ha : PSs X p (tS X W b0 (exSs Γ xa))) (hb : PSs X q (tS X W b0 (exSs Γ xb))) : PS X (.If c p q pos) (tS X W b0 (exS Γ (.ifS cx xa xb fz))) := by
  refine PS.imp (ps_if hc ha hb) fun D σ H h => ?_
  obtain ⟨g, ρ, rfl, ok, le, st, hp⟩ := h
  simp only [exS] at hp
  refine run_T ok le st (bind_post hp) fun b g3 q ok3 le3 st3 => ?_
  cases b with
  | true =>
    rw [if_pos rfl] at q ⊢
    exact ⟨g3, ρ, rfl, ok3, le3, st3, q⟩
  | false =>
    rw [if_neg Bool.false_ne_true] at q ⊢
    exact ⟨g3, ρ, rfl, ok3, le3, st3, q⟩
/-! ### loops -/
theorem xs_whl {c : Expr} {cx : E} {body : List Stmt} {xb : Ss} {fz : List Nat} (hp0 : PassesOwn (model X.prog X.w) X.A X.env X.xe) (hc : PT X c (tBt X W fun ρ => asB (evE Γ cx ρ))) (hb : PSs X body (tS X W b0 (exSs Γ xb))) : PS X (.While c body [] pos) (tS X W b0 (exS Γ (.whl cx xb fz))) := by
  refine PS.imp (ps_while hp0 hc hb) fun D σ H h => ?_
  obtain ⟨g, ρ, rfl, ok, le, st, hp⟩ := h
  simp only [exS] at hp
  generalize fuel = fu at hp
  let Wv : Nat → L2.St → Hp → Prop := fun m σ H => ∃ g ρ, g.H = H ∧ g.Ok ∧ b0.Le g ∧ StR X.K b0 g σ ρ ∧ ((whlLoop (fun ρ => evT Γ cx ρ fz) (fun ρ => exSs Γ xb ρ) m ρ) g.V).Post (StFin X b0 D) (XS X W b0)
  refine ⟨Wv, ⟨fu, g, ρ, rfl, ok, le, st, hp⟩, ?_⟩
  rintro m σ1 H1 ⟨g1, ρ1, rfl, ok1, le1, st1, hp1⟩
  cases m with
  | zero => exact hp1.elim
  | succ m =>
    simp only [whlLoop] at hp1
    refine run_T ok1 le1 st1 (bind_post hp1) fun b g3 q ok3 le3 st3 => ?_
    cases b with
    | true =>
      rw [if_pos rfl] at q ⊢
      refine ⟨Wv m, fun σ' H' w => ⟨m, Nat.lt_succ_self m, w⟩, g3, ρ1, rfl, ok3, le3, st3, (bind_post q).mono (fun fl S q => ?_) fun _ _ q => q⟩
      cases fl with
      | nx ρ' =>
        intro g' σ' hs ok' le' st'
        subst hs
        exact ⟨g', ρ', rfl, ok', le', st', q⟩
      | ct ρ' =>
        intro g' σ' hs ok' le' st'
        subst hs
        exact ⟨g', ρ', rfl, ok', le', st', q⟩
      | bk ρ' => exact q
      | rt r => exact q
    | false =>
      rw [if_neg Bool.false_ne_true] at q ⊢
      have q : ∀ g' σ, g'.V = g3.V → g'.Ok → b0.Le g' → StR X.K b0 g' σ ρ1 → D.nx σ g'.H := q
      exact q g3 σ1 rfl ok3 le3 st3
/-- the loop, from its walk on; b1: the base with what the walk stands on -/
theorem for_core {t : Tg} {xb : Ss} {J : It} {ds : List PyData} {b1 F : Gs} (hH : b1.H = b0.H) (hb : ∀ g, b1.Le g → b0.Le g) (hF : ∀ g, b1.Le g → Same F.F g.F) (wo : WalkOk X.K F J ds) (ok1 : g1.Ok) (le1 : b1.Le g1) (st1 : StR X.K b0 g1 σ ρ)
    (hp : ((forLoop (fun d ρ => M.of (bindTg t d ρ) >>= fun ρ2 => exSs Γ xb ρ2) ds ρ) g1.V).Post (StFin X b0 D) (XS X W b0)) :
    ∃ Wv : Nat → Nat → L2.St → Hp → Prop, (∃ m, Wv 0 m σ g1.H) ∧ ∀ i m σ H, Wv i m σ H →
      (J.stop i H ∧ D.nx σ H) ∨ (J.go i H ∧ ∃ N : L2.St → Hp → Prop, (∀ σ' H', N σ' H' → ∃ m', m' < m ∧ Wv (i + 1) m' σ' H') ∧ ∀ x H', J.yld i H x H' → tgT X.K t x σ H' fun σ2 H2 => tS X W b1 (exSs Γ xb) { D with nx := N, ct := N, bk := D.nx } σ2 H2) := by
  have eR : ∀ {g : Gs} {v : V} {r : R}, RepR X.K b1 g v r → RepR X.K b0 g v r := fun {g v r} h => by
    cases r with
    | own ds =>
      obtain ⟨a, xs, e, h0, q⟩ := h
      exact ⟨a, xs, e, by rw [← hH]; exact h0, q⟩
    | val d => exact h
    | src => exact h
    | scr ns => exact h
  have eR' : ∀ {g : Gs} {v : V} {r : R}, RepR X.K b0 g v r → RepR X.K b1 g v r := fun {g v r} h => by
    cases r with
    | own ds =>
      obtain ⟨a, xs, e, h0, q⟩ := h
      exact ⟨a, xs, e, by rw [hH]; exact h0, q⟩
    | val d => exact h
    | src => exact h
    | scr ns => exact h
  have eS : ∀ {g : Gs} {σ : L2.St} {ρ : Env}, StR X.K b1 g σ ρ → StR X.K b0 g σ ρ := fun h => ⟨h.1, fun i r e => by
    obtain ⟨v, h1, h2⟩ := h.2.1 i r e
    exact ⟨v, h1, eR h2⟩, h.2.2⟩
  have eS' : ∀ {g : Gs} {σ : L2.St} {ρ : Env}, StR X.K b0 g σ ρ → StR X.K b1 g σ ρ := fun h => ⟨h.1, fun i r e => by
    obtain ⟨v, h1, h2⟩ := h.2.1 i r e
    exact ⟨v, h1, eR' h2⟩, h.2.2⟩
  let body : PyData → Env → M Fl := fun d ρ => M.of (bindTg t d ρ) >>= fun ρ2 => exSs Γ xb ρ2
  let Wv : Nat → Nat → L2.St → Hp → Prop := fun i m σ H => m = ds.length - i ∧ i ≤ ds.length ∧ ∃ gi ρi, gi.H = H ∧ gi.Ok ∧ b1.Le gi ∧ StR X.K b0 gi σ ρi ∧ ((forLoop body (ds.drop i) ρi) gi.V).Post (StFin X b0 D) (XS X W b0)
  refine ⟨Wv, ⟨ds.length, rfl, Nat.zero_le _, g1, ρ, rfl, ok1, le1, st1, hp⟩, ?_⟩
  rintro i m σi Hi ⟨rfl, hil, gi, ρi, rfl, oki, lei, sti, hq⟩
  by_cases hlt : i < ds.length
  · refine .inr ⟨wo.goes i gi hlt (hF gi lei) oki, Wv (i + 1) (ds.length - (i + 1)), fun σ' H' w => ⟨_, by omega, w⟩, fun x H' y => ?_⟩
    obtain ⟨g2, d, rfl, hS2, ok2, le2, hd, rx⟩ := wo.yields i gi x H' hlt (hF gi lei) oki y
    have edrop : ds.drop i = d :: ds.drop (i + 1) := by
      rw [List.drop_eq_getElem_cons hlt]
      rw [List.getElem?_eq_getElem hlt] at hd
      cases hd
      rfl
    rw [edrop] at hq
    simp only [forLoop] at hq
    rw [← hS2] at hq
    obtain ⟨ρ2, hb2, hq⟩ := of_post (bind_post (bind_post hq))
    obtain ⟨σ2, st2, fin⟩ := bind_tg (Φ := fun σ ρ => StR X.K b1 g2 σ ρ) ok2 (fun σ ρ j v d _ p r => p.setV j r) rx hb2 (eS' (sti.mono le2))
    refine fin _ ⟨g2, ρ2, rfl, ok2, lei.trans le2, st2, hq.mono (fun fl S q => ?_) fun ec S q cls dd g' σ' hs ok' le' rep => q cls dd g' σ' hs ok' (hb _ le') rep⟩
    cases fl with
    | nx ρ' =>
      intro g' σ' hs ok' le' st'
      subst hs
      exact ⟨rfl, hlt, g', ρ', rfl, ok', le', eS st', q⟩
    | ct ρ' =>
      intro g' σ' hs ok' le' st'
      subst hs
      exact ⟨rfl, hlt, g', ρ', rfl, ok', le', eS st', q⟩
    | bk ρ' =>
      intro g' σ' hs ok' le' st'
      subst hs
      have q : ∀ g σ, g.V = g'.V → g.Ok → b0.Le g → StR X.K b0 g σ ρ' → D.nx σ g.H := q
      exact q g' σ' rfl ok' (hb _ le') (eS st')
    | rt r =>
      intro g' v hs ok' le' rep
      subst hs
      have q : ∀ g v, g.V = g'.V → g.Ok → b0.Le g → RepR X.K b0 g v r → D.rt v g.H := q
      exact q g' v rfl ok' (hb _ le') (eR rep)
  · have e : i = ds.length := by omega
    subst e
    rw [List.drop_length] at hq
    have q : ∀ g σ, g.V = gi.V → g.Ok → b0.Le g → StR X.K b0 g σ ρi → D.nx σ g.H := hq
    exact .inl ⟨wo.stops gi (hF gi lei) oki, q gi σi rfl oki (hb _ lei) sti⟩
theorem gNs_mono {Q Q' : L2.St → Hp → Prop} (hq : ∀ σ H, Q σ H → Q' σ H) : ∀ {js : List Nat} {vs : List V} {σ : L2.St} {H : Hp}, gNs js vs σ H Q → gNs js vs σ H Q'
  | [], _, _, _, h => ⟨h.1, hq _ _ h.2⟩
  | _ :: _, _, _, _, h => by
    obtain ⟨v, r, e, h⟩ := h
    exact ⟨v, r, e, gNs_mono hq h⟩
theorem tgT_mono {K : PySem.W.Frag} {t : Tg} {x : V} {Q Q' : L2.St → Hp → Prop} (h : tgT K t x σ H Q) (hq : ∀ σ H, Q σ H → Q' σ H) : tgT K t x σ H Q' := by
  cases t with
  | one j => exact hq _ _ h
  | many js =>
    obtain ⟨a, xs, e, h1, h2, h3⟩ := h
    exact ⟨a, xs, e, h1, h2, gNs_mono hq h3⟩
/-- the base with more that stands still -/
def withF (b0 : Gs) (F : Hp) : Gs := ⟨F, b0.S, b0.H⟩
theorem withF_le (l : b0.Le g1) : (withF b0 g1.F).Le g1 := ⟨Same.refl _, l.keep, l.dom, fun b h _ => h, l.srcs, l.same⟩
theorem withF_base (l : b0.Le g1) (h : (withF b0 g1.F).Le g) : b0.Le g := ⟨l.fro.trans h.fro, h.keep, h.dom, fun b e1 e2 => h.new b (l.new b e1 e2) e2, h.srcs, h.same⟩
theorem xs_for (co : COk X) {tg it : Expr} {t : Tg} {xi : I} {body : List Stmt} {xb : Ss} {fz : List Nat} (hp0 : PassesOwn (model X.prog X.w) X.A X.env X.xe) (hi : PI X tg it (tI X W (evI Γ xi))) (hia : isRng xi = true → PI X tg it (tIa X W (evI Γ xi))) (hg : PG X tg (tgT X.K t))
    (hb : ∀ b1, PSs X body (tS X W b1 (exSs Γ xb))) (hs : ∀ x, foldedSetIterable it X.env x = pure x) : PS X (.For tg it body [] pos) (tS X W b0 (exS Γ (.for_ t xi xb fz))) := by
  have hbE : PSs X body (fun D σ H => ∃ b1, tS X W b1 (exSs Γ xb) D σ H) := ⟨fun pins s σ H D I ⟨b1, h⟩ => (hb b1).run pins s σ H D I h⟩
  have wrap : ∀ {b1 : Gs} {J : It} {σ : L2.St} {H : Hp} {D : Ends}, (∃ Wv : Nat → Nat → L2.St → Hp → Prop, (∃ m, Wv 0 m σ H) ∧ ∀ i m σ H, Wv i m σ H →
      (J.stop i H ∧ D.nx σ H) ∨ (J.go i H ∧ ∃ N : L2.St → Hp → Prop, (∀ σ' H', N σ' H' → ∃ m', m' < m ∧ Wv (i + 1) m' σ' H') ∧ ∀ x H', J.yld i H x H' → tgT X.K t x σ H' fun σ2 H2 => tS X W b1 (exSs Γ xb) { D with nx := N, ct := N, bk := D.nx } σ2 H2)) →
      ∃ Wv : Nat → Nat → L2.St → Hp → Prop, (∃ m, Wv 0 m σ H) ∧ ∀ i m σ H, Wv i m σ H →
      (J.stop i H ∧ D.nx σ H) ∨ (J.go i H ∧ ∃ N : L2.St → Hp → Prop, (∀ σ' H', N σ' H' → ∃ m', m' < m ∧ Wv (i + 1) m' σ' H') ∧ ∀ x H', J.yld i H x H' → tgT X.K t x σ H' fun σ2 H2 => ∃ b1, tS X W b1 (exSs Γ xb) { D with nx := N, ct := N, bk := D.nx } σ2 H2) := by
    rintro b1 J σ H D ⟨Wv, h0, h⟩
    refine ⟨Wv, h0, fun i m σ H w => ?_⟩
    rcases h i m σ H w with q | ⟨q1, N, q2, q3⟩
    · exact .inl q
    · refine .inr ⟨q1, N, q2, fun x H' y => ?_⟩
      exact tgT_mono (q3 x H' y) fun σ2 H2 q => ⟨b1, q⟩
  cases hr : isRng xi with
  | true =>
    refine PS.imp (ps_for hp0 co.calm (hia hr) hg hbE hs) fun D σ H h => ?_
    obtain ⟨g, ρ, rfl, ok, le, st, hp⟩ := h
    simp only [exS] at hp
    obtain ⟨gF, A, f, leF, stF⟩ := frz_ok fz g ρ ok le st
    rw [hr] at hp
    refine ⟨gF, Pv.frz ρ fz, f.H, f.ok, stF.envR, ?_⟩
    rw [f.Ve]
    refine (bind_post hp).mono (fun ds S' q => ?_) fun _ _ q => q.fin leF
    rintro J g2 rfl ok2 le2 wk
    exact wrap (for_core (b0 := b0) (b1 := b0) (g1 := thaw g2 A) (F := ⟨fun _ => none, none, fun _ => none⟩) rfl (fun _ l => l) (fun _ _ _ _ e => by cases e) (wk _) (thaw_ok f ok2 le2) (le.trans (f.lek le2)) (st.mono (f.lek le2)) q)
  | false =>
    refine PS.imp (ps_for hp0 co.calm hi hg hbE hs) fun D σ H h => ?_
    obtain ⟨g, ρ, rfl, ok, le, st, hp⟩ := h
    simp only [exS] at hp
    obtain ⟨gF, A, f, leF, stF⟩ := frz_ok fz g ρ ok le st
    rw [hr] at hp
    refine ⟨gF, Pv.frz ρ fz, f.H, f.ok, stF.envR, ?_⟩
    rw [f.Ve]
    refine (bind_post hp).mono (fun ds S' q => ?_) fun _ _ q => q.fin leF
    rintro J g2 rfl ok2 le2 wk
    have le3 := leF.trans le2
    exact wrap (for_core (b0 := b0) (b1 := withF b0 g2.F) (g1 := g2) (F := g2) rfl (fun _ l => withF_base le3 l) (fun _ l => l.fro) wk ok2 (withF_le le3) (stF.mono le2) q)
end
end Pv

/-! Pv19 -/
set_option Elab.async false
set_option linter.all false
set_option maxRecDepth 100000
set_option maxHeartbeats 4000000
namespace Pv
open PySem PySem.Spec PyProof.Rows L2
mutual
def rdE : E → List Nat
  | .var i => [i]
  | .glob _ => []
  | .lit _ => []
  | .bin _ a b => rdE a ++ rdE b
  | .neg a => rdE a
  | .notv a => rdE a
  | .andv a b => rdE a ++ rdE b
  | .orv a b => rdE a ++ rdE b
  | .cmp _ a b => rdE a ++ rdE b
  | .chn _ _ a b c => rdE a ++ rdE b ++ rdE c
  | .ite c a b => rdE c ++ rdE a ++ rdE b
  | .call _ as => rdEs as
  | .blt _ as => rdEs as
  | .isi a _ => rdE a
  | .tup as => rdEs as
  | .lst as => rdEs as
  | .idx a i => rdE a ++ rdE i
  | .slc a lo hi _ => rdE a ++ rdE lo ++ rdE hi
  | .comp _ _ it c e => rdI it ++ rdEs c ++ rdE e
  | .srcI i _ => [i]
  | .srcN i => [i]
  | .srcNew a b c d => rdE a ++ rdE b ++ rdE c ++ rdE d
  | .idxO _ k => rdE k
  | .lstS a as => rdE a ++ rdEs as
def rdEs : Es → List Nat
  | .nil => []
  | .cons a as => rdE a ++ rdEs as
def rdI : I → List Nat
  | .it a => rdE a
  | .rng as => rdEs as
  | .enum a => rdE a
  | .zip a b => rdE a ++ rdE b
  | .zipS a b => rdE a ++ rdE b
end
/-- what the machine swaps when it stores -/
def swOf (sc : Scope) (ts vs : List Expr) : Option (Option (List Str)) :=
  if (!(ts.length == 2 || ts.length == 3) || vs.length != ts.length) = true then some none else
  if (vs.any fun | .Starred .. => true | _ => false) = true then some none else
  if ((ts.filterMap fun
      | .Name id pos => if sc.names.lookup id == some .local && pos.line == (ts.head?.map (·.pos.line)).getD 0 then some id else none
      | _ => none).length != ts.length || (ts.filterMap fun
      | .Name id pos => if sc.names.lookup id == some .local && pos.line == (ts.head?.map (·.pos.line)).getD 0 then some id else none
      | _ => none).eraseDups.length != (ts.filterMap fun
      | .Name id pos => if sc.names.lookup id == some .local && pos.line == (ts.head?.map (·.pos.line)).getD 0 then some id else none
      | _ => none).length) = true then some none else
  if (vs.all (foldedForSure 8)) = true then some none else
  if (vs.all (constantsAlone 8)) = true then none else some (some (ts.filterMap fun
      | .Name id pos => if sc.names.lookup id == some .local && pos.line == (ts.head?.map (·.pos.line)).getD 0 then some id else none
      | _ => none))
theorem swOf_ok {sc : Scope} {env : PySem.Env} {ts vs : List Expr} {k k2 : Nat} {p p2 : Pos} {o : Option (List Str)} (he : env.scope = sc) (hk : sc.kind = .function) (h : swOf sc ts vs = some o) : swappedStores [.Tuple ts k p] (.Tuple vs k2 p2) env = pure o := by
  subst he
  have hb : env.blockKind = .function := by
    unfold Env.blockKind
    rw [hk]
    rfl
  have e0 : (env.blockKind != .function) = false := by rw [hb]; rfl
  unfold swOf at h
  unfold swappedStores
  simp only [e0, Bool.or_false]
  by_cases h1 : (!(ts.length == 2 || ts.length == 3) || vs.length != ts.length) = true
  · rw [if_pos h1] at h
    cases h
    exact if_pos h1
  rw [if_neg h1] at h
  refine (if_neg h1).trans ?_
  split at h
  · rename_i h2
    cases h
    exact if_pos h2
  rename_i h2
  refine (if_neg h2).trans ?_
  split at h
  · rename_i h3
    cases h
    exact if_pos h3
  rename_i h3
  refine (if_neg h3).trans ?_
  split at h
  · rename_i h4
    cases h
    exact if_pos h4
  rename_i h4
  refine (if_neg h4).trans ?_
  split at h
  · cases h
  rename_i h5
  cases h
  exact if_neg h5
section
variable (cc : CC) (N : List Str) (own : List Nat)
def fzOf (e : List Nat) : List Nat := own.filter fun i => e.contains i
def notTup : Expr → Bool
  | .Tuple .. => false
  | _ => true
def tgOk (sc : Scope) : Expr → Bool
  | .Name x p => nmLoc sc (.Name x p)
  | .Tuple es _ _ => es.all (nmLoc sc)
  | _ => false
def twoNames : List Expr → Option (Str × Str)
  | [.Name x _, .Name y _] => some (x, y)
  | _ => none
/-- a tuple of names = a tuple -/
def compTup (n : Nat) (sc : Scope) (ts es : List Expr) (is : List Nat) (o : Option (List Str)) : Option S :=
  match is, es, o with
  | [i, j], [a, b], none => do
    let xa ← compE cc N n sc a
    let xb ← compE cc N n sc b
    return .par i j (!own.contains i) (!own.contains j) xa xb (fzOf own (rdE xa ++ rdE xb))
  | [i, j], [a, b], some nm => do
    let xy ← twoNames ts
    let xa ← compE cc N n sc a
    let xb ← compE cc N n sc b
    if decide (nm = [xy.1, xy.2]) && decide (i ≠ j) && decide (sc.names.lookup xy.1 = some .local) && decide (sc.names.lookup xy.2 = some .local) then return .par i j (!own.contains i) (!own.contains j) xa xb (fzOf own (rdE xa ++ rdE xb)) else none
  | is, es, none => do
    let xs ← compEs cc N n sc es
    if is.length ≤ 100 then return .unpT is xs (fzOf own (rdEs xs)) else none
  | _, _, _ => none
def compA (n : Nat) (sc : Scope) (tg e : Expr) (pos : Pos) : Option S :=
  match e with
  | .Call (.Attribute (.Name x _) m apos) [] [] cpos =>
    if m = "pop" ∧ plainName x = true ∧ isVis sc x = true ∧ (apos.endLine == cpos.line) = true ∧ tgOk sc tg = true then do
      let i ← ixOf N x
      let t ← tgOf N tg
      return .popTo t i
    else none
  | _ => match tg with
    | .Name x _ => if nmLoc sc (.Name x default) = true then do
        let i ← ixOf N x
        let ex ← compE cc N n sc e
        return .asg i (!own.contains i) ex (fzOf own (rdE ex))
      else none
    | .Tuple [.Subscript (.Name x px) k p1, .Subscript (.Name y py) l q1] _ _ =>
      match e with
      | .Tuple [a, b] _ _ =>
        if plainName x = true ∧ isVis sc x = true ∧ notSlice k = true ∧ plainName y = true ∧ isVis sc y = true ∧ notSlice l = true ∧ swOf sc [.Subscript (.Name x px) k p1, .Subscript (.Name y py) l q1] [a, b] = some none then do
          let i ← ixOf N x
          let j ← ixOf N y
          let kx ← compE cc N n sc k
          let lx ← compE cc N n sc l
          let es ← compEs cc N n sc [a, b]
          return .swp i kx j lx es (fzOf own (rdEs es ++ rdE kx ++ rdE lx))
        else none
      | _ => none
    | .Tuple ts _ _ => if ts.all (nmLoc sc) = true then do
        let is ← ts.mapM (nmIx N)
        match e with
        | .Tuple es _ _ => do
          let o ← swOf sc ts es
          compTup cc N own n sc ts es is o
        | e => do
          let ex ← compE cc N n sc e
          return .unp is ex (fzOf own (rdE ex))
      else none
    | .Subscript (.Name x _) (.Constant (.str s) _ _) _ => if plainName x = true ∧ isVis sc x = true then
        match e with
        | .Call (.Attribute (.Subscript (.Name y _) (.Constant (.str cl) _ _) _) m apos) [] [] cpos =>
          if m = "pop" ∧ cl = "cells" ∧ s = "left" ∧ y = x ∧ (apos.endLine == cpos.line) = true then (ixOf N x).map .srcPop else none
        | e => do
          let i ← ixOf N x
          let k ← srcK s
          let ex ← compE cc N n sc e
          return .srcSet i k ex (fzOf own (rdE ex))
      else none
    | .Subscript (.Name x _) k _ => if plainName x = true ∧ isVis sc x = true ∧ notSlice k = true then do
        let i ← ixOf N x
        let kx ← compE cc N n sc k
        let ex ← compE cc N n sc e
        return .setI i kx ex (fzOf own (rdE ex ++ rdE kx))
      else none
    | _ => none
def retS (sc : Scope) (e : Expr) (ex : E) : S :=
  match e with
  | .Name x _ => if plainName x = true ∧ isVis sc x = true then
      match ixOf N x with
      | some i => if own.contains i = true then .retO i else .ret ex (fzOf own (rdE ex))
      | none => .ret ex (fzOf own (rdE ex))
    else .ret ex (fzOf own (rdE ex))
  | _ => .ret ex (fzOf own (rdE ex))
mutual
def compS : Nat → Scope → Stmt → Option S
  | 0, _, _ => none
  | n + 1, sc, st => match st with
    | .Assign [tg] e pos => compA cc N own n sc tg e pos
    | .Expr (.Call (.Attribute (.Name x _) m apos) [e] [] cpos) _ =>
      if plainName x = true ∧ isVis sc x = true ∧ (apos.endLine == cpos.line) = true then
        if m = "append" then do
          let i ← ixOf N x
          let ex ← compE cc N n sc e
          return .app i ex (fzOf own (rdE ex))
        else if m = "extend" then do
          let i ← ixOf N x
          let ex ← compE cc N n sc e
          return .ext i ex (fzOf own (rdE ex))
        else none
      else none
    | .Expr (.Call (.Attribute (.Name x _) m apos) [] [] cpos) _ =>
      if plainName x = true ∧ isVis sc x = true ∧ (apos.endLine == cpos.line) = true ∧ m = "pop" then (ixOf N x).map .pop else none
    | .If c a b _ => if tOk n c = true then do
        let cx ← compE cc N n sc c
        return .ifS cx (← compSs n sc a) (← compSs n sc b) (fzOf own (rdE cx))
      else none
    | .While c b [] _ => if tOk n c = true then do
        let cx ← compE cc N n sc c
        return .whl cx (← compSs n sc b) (fzOf own (rdE cx))
      else none
    | .For tg it b [] _ => if tgOk sc tg = true then do
        let xi ← compI cc N n (isTup tg) sc it
        let t ← tgOf N tg
        return .for_ t xi (← compSs n sc b) (fzOf own (rdI xi))
      else none
    | .Return none _ => some .retN
    | .Return (some e) _ => (compE cc N n sc e).map fun ex => retS N own sc e ex
    | .Pass _ => some .pass
    | .Break _ => some .brk
    | .Continue _ => some .cont
    | _ => none
def compSs : Nat → Scope → List Stmt → Option Ss
  | _, _, [] => some .nil
  | 0, _, _ :: _ => none
  | n + 1, sc, s :: ss => do return .cons (← compS n sc s) (← compSs n sc ss)
end
end
section
variable {cc : CC} {Γ : Ctx} {N : List Str} {own : List Nat} {n : Nat}
theorem locX_of {X : Cx} {x : Str} (hfn : ∀ x, X.fn x = true) (h : nmLoc X.env.scope (.Name x default) = true) : LocX X x := by
  simp only [nmLoc] at h
  split at h
  · exact ⟨.inl (by assumption), .inl (hfn x)⟩
  · exact ⟨.inr (by assumption), .inl (hfn x)⟩
  · cases h
theorem locs_of {X : Cx} {ts : List Expr} (hfn : ∀ x, X.fn x = true) (h : ts.all (nmLoc X.env.scope) = true) : ∀ x p, Expr.Name x p ∈ ts → LocX X x := by
  intro x p hm
  simp only [List.all_eq_true] at h
  exact locX_of hfn (show nmLoc X.env.scope (.Name x default) = true from h (.Name x p) hm)
theorem tgOk_of {X : Cx} {tg : Expr} (hfn : ∀ x, X.fn x = true) (h : tgOk X.env.scope tg = true) : tgX X tg := by
  cases tg <;> first | trivial | skip
  · exact locX_of hfn h
  · exact locs_of hfn h
structure Env1 (cc : CC) (Γ : Ctx) (N : List Str) (X : Cx) (W : WX) (sc : Scope) : Prop where
  M : MOk cc Γ X
  hN : X.N = N
  hs : X.env.scope = sc
  tk : Takes X W
  po : PassesOwn (model X.prog X.w) X.A X.env X.xe
  kd : sc.kind = .function
  fn : ∀ x, X.fn x = true
theorem noSw {e : Expr} {x : E} {sc : Scope} {t : Option Expr} {l : Nat} {env : PySem.Env} (h : compE cc N n sc e = some x) (hn : ∀ elt gs scope pos, e ≠ .ListComp elt gs scope pos) : swapsWith e t l env = pure false := by
  cases e <;> first
    | rfl
    | exact absurd rfl (hn _ _ _ _)
    | (exfalso; cases n <;> simp [compE] at h)
theorem noSwT {e tg : Expr} {l : Nat} {env : PySem.Env} (hn : ∀ y p, tg ≠ .Name y p) : swapsWithSole [tg] e l env = pure false := by
  show swapsWith e (some tg) l env = pure false
  cases e <;> first
    | rfl
    | (cases tg <;> first | rfl | exact absurd rfl (hn _ _))
theorem lc_shape {elt : Expr} {gs : List Comprehension} {scope sc : Scope} {pos : Pos} {x : E} (h : compE cc N n sc (.ListComp elt gs scope pos) = some x) : ∃ tg it ifs, gs = [⟨tg, it, ifs, 0⟩] := by
  cases n with
  | zero => simp [compE] at h
  | succ n =>
    unfold compE at h
    split at h <;> rename_i q <;> first | (cases q; done) | skip
    · cases q
      exact ⟨_, _, _, rfl⟩
    · cases h
theorem compA_ok {X : Cx} {W : WX} {b0 : Gs} {sc : Scope} (V : Env1 cc Γ N X W sc) {tg e : Expr} {pos : Pos} {x : S} (h : compA cc N own n sc tg e pos = some x) : PS X (.Assign [tg] e pos) (tS X W b0 (exS Γ x)) := by
  obtain ⟨M, hN, hs, tk, po, kd, hfn⟩ := V
  have hE := (snd_all (cc := cc) (Γ := Γ) (N := N) n).1
  have hL := (snd_all (cc := cc) (Γ := Γ) (N := N) n).2.2.2.2.1
  have he := fun e y h => hE X W sc e y M hN hs tk h
  have vis : ∀ {y : Str}, isVis sc y = true → Vis X.env.scope y := fun h => by rw [hs]; exact vis_of h
  have ix : ∀ {y : Str} {i : Nat}, ixOf N y = some i → X.N[i]? = some y := fun h => by rw [hN]; exact ixOf_get h
  unfold compA at h
  split at h
  · rename_i y p m apos cpos
    split at h
    · rename_i hc
      obtain ⟨rfl, h1, h2, h3, h4⟩ := hc
      obtain ⟨i, e1, h⟩ := obind h
      obtain ⟨t, e2, h⟩ := obind h
      cases h
      obtain ⟨p1, p2, _⟩ := plain_of h1
      exact xs_popTo M.ok M.nd (ix e1) (vis h2) p1 p2 h3 (by rw [hN]; exact e2) (tgOk_of hfn (by rw [hs]; exact h4))
    · cases h
  · split at h
    · rename_i y p
      split at h
      · rename_i hl
        obtain ⟨i, e1, h⟩ := obind h
        obtain ⟨ex, e2, h⟩ := obind h
        cases h
        have lx : LocX X y := locX_of hfn (by rw [hs]; exact hl)
        by_cases hlc : ∃ elt gs scope q, e = .ListComp elt gs scope q
        · obtain ⟨elt, gs, scope, q, rfl⟩ := hlc
          obtain ⟨tg, it, ifs, rfl⟩ := lc_shape e2
          have sw : swapsWith (.ListComp elt [⟨tg, it, ifs, 0⟩] scope q) (some (.Name y p)) pos.line X.env = pure (X.env.blockKind == .function && X.env.kindOf y == some .local && p.line == q.line
            && !(scope.names.any fun (n, k) => n == y && (k == .local || k == .cell))) := rfl
          cases hb : (X.env.blockKind == .function && X.env.kindOf y == some .local && p.line == q.line
            && !(scope.names.any fun (n, k) => n == y && (k == .local || k == .cell))) with
          | false => exact xs_asg M.nd (ix e1) lx (he _ ex e2) (by rw [sw, hb])
          | true =>
            have hb' := hb
            simp only [Bool.and_eq_true, beq_iff_eq] at hb'
            cases n with
            | zero => simp [compE] at e2
            | succ n =>
              obtain ⟨gE, gT, _, _, _, gI⟩ := snd_all (cc := cc) (Γ := Γ) (N := N) n
              exact xs_asgLc M.ok M.nd (ix e1) hb'.1.1.2 (lc_ok gE gT gI M hN hs tk e2) (by rw [sw, hb])
        · exact xs_asg M.nd (ix e1) lx (he _ ex e2) (noSw e2 fun elt gs scope q z => hlc ⟨elt, gs, scope, q, z⟩)
      · cases h
    · rename_i x px k p1 y py l q1 kt pt
      split at h
      · rename_i a b k2 q2
        split at h
        rotate_left
        · cases h
        rename_i hc
        obtain ⟨c1, c2, c3, c4, c5, c6, c7⟩ := hc
        obtain ⟨i, e1, h⟩ := obind h
        obtain ⟨j, e2, h⟩ := obind h
        obtain ⟨kx, e3, h⟩ := obind h
        obtain ⟨lx, e4, h⟩ := obind h
        obtain ⟨xs, e5, h⟩ := obind h
        cases h
        obtain ⟨d1, d2, _⟩ := plain_of c1
        obtain ⟨d1', d2', _⟩ := plain_of c4
        exact xs_swp M.ok (ix e1) (vis c2) d1 d2 (ix e2) (vis c5) d1' d2' (he _ kx e3) (he _ lx e4) (hL X W sc _ _ M hN hs tk e5).1 c3 c6 (swOf_ok (env := X.env) hs kd c7)
      · cases h
    · rename_i ts k p _
      split at h
      · rename_i hl
        have lx := locs_of (X := X) hfn (by rw [hs]; exact hl)
        obtain ⟨is, e1, h⟩ := obind h
        have e1' : ts.mapM (nmIx X.N) = some is := by rw [hN]; exact e1
        split at h
        · obtain ⟨o, e2, h⟩ := obind h
          have sw := fun k p k2 p2 => swOf_ok (env := X.env) (k := k) (p := p) (k2 := k2) (p2 := p2) hs kd e2
          unfold compTup at h
          split at h
          · rename_i i j a b
            obtain ⟨xa, e3, h⟩ := obind h
            obtain ⟨xb, e4, h⟩ := obind h
            cases h
            exact xs_par0 M.ok M.nd e1' lx (he _ _ e3) (he _ _ e4) (notStar_of e3 _ _) (notStar_of e4 _ _) (sw _ _ _ _)
          · rename_i i j a b nm
            obtain ⟨⟨xn, yn⟩, e5, h⟩ := obind h
            obtain ⟨xa, e3, h⟩ := obind h
            obtain ⟨xb, e4, h⟩ := obind h
            obtain ⟨hc, h⟩ := oif h
            cases h
            simp only [Bool.and_eq_true, decide_eq_true_eq] at hc
            obtain ⟨⟨⟨rfl, c2⟩, c3⟩, c4⟩ := hc
            obtain ⟨px, py, rfl⟩ : ∃ px py, ts = [.Name xn px, .Name yn py] := by
              unfold twoNames at e5
              split at e5
              · cases e5; exact ⟨_, _, rfl⟩
              · cases e5
            obtain ⟨i', r, q1, q2, q3⟩ := mapM_cons e1'
            obtain ⟨j', r', q4, q5, q6⟩ := mapM_cons q2
            rw [List.mapM_nil] at q5
            cases q5
            subst q6
            cases q3
            exact xs_par M.ok M.nd (ixOf_get q1) (ixOf_get q4) c2 (by rw [hs]; exact c3) (by rw [hs]; exact c4) (he _ _ e3) (he _ _ e4) (notStar_of e3 _ _) (notStar_of e4 _ _) (sw _ _ _ _)
          · obtain ⟨xs, e3, h⟩ := obind h
            split at h
            · rename_i hlen
              cases h
              exact xs_unpT M.ok M.nd e1' lx (hL X W sc _ _ M hN hs tk e3).1 (Nat.le_trans hlen (by decide)) (sw _ _ _ _)
            · cases h
          · cases h
        · rename_i hnt
          obtain ⟨ex, e2, h⟩ := obind h
          cases h
          refine xs_unp M.ok M.nd e1' lx (he _ ex e2) (noSwT fun y q z => by cases z) ?_
          cases e <;> first | rfl | exact absurd rfl (hnt _ _ _)
      · cases h
    · rename_i y p s j p2 p3
      split at h
      · rename_i hc
        obtain ⟨h1, h2⟩ := hc
        obtain ⟨d1, d2, _⟩ := plain_of h1
        split at h
        · split at h
          · rename_i hc
            obtain ⟨rfl, rfl, rfl, rfl, h3⟩ := hc
            obtain ⟨i, e1, rfl⟩ := omap h
            exact xs_srcPop M.ok (ix e1) (vis h2) d1 d2 h3
          · cases h
        · obtain ⟨i, e1, h⟩ := obind h
          obtain ⟨k, e2, h⟩ := obind h
          obtain ⟨ex, e3, h⟩ := obind h
          cases h
          exact xs_srcSet M.ok (ix e1) (vis h2) d1 d2 e2 (he _ ex e3) (show swapsWithSole [.Subscript (.Name y p) (.Constant (.str s) j p2) p3] e pos.line X.env = pure false from noSwT fun y q z => by cases z)
      · cases h
    · rename_i y p k p2 _
      split at h
      · rename_i hc
        obtain ⟨h1, h2, h3⟩ := hc
        obtain ⟨i, e1, h⟩ := obind h
        obtain ⟨kx, e2, h⟩ := obind h
        obtain ⟨ex, e3, h⟩ := obind h
        cases h
        obtain ⟨p1, p2, _⟩ := plain_of h1
        exact xs_setI M.ok (ix e1) (vis h2) p1 p2 (he _ kx e2) (he _ ex e3) h3 (noSwT fun y q z => by cases z) rfl
      · cases h
    · cases h
theorem snd_st : ∀ (n : Nat) (X : Cx) (W : WX) (sc : Scope), Env1 cc Γ N X W sc →
    (∀ b0 st x, compS cc N own n sc st = some x → PS X st (tS X W b0 (exS Γ x))) ∧ (∀ b0 sts xs, compSs cc N own n sc sts = some xs → PSs X sts (tS X W b0 (exSs Γ xs)))
  | 0, X, W, sc, V => by
    refine ⟨fun b0 st x h => by simp [compS] at h, fun b0 sts xs h => ?_⟩
    cases sts with
    | nil =>
      simp only [compSs, Option.some.injEq] at h
      subst h
      exact xs_nil
    | cons => simp [compSs] at h
  | n + 1, X, W, sc, V => by
    obtain ⟨iS, iSs⟩ := snd_st n X W sc V
    have V0 := V
    obtain ⟨M, hN, hs, tk, po, kd, hfn⟩ := V
    obtain ⟨gE, gT, _, _, _, gI⟩ := snd_all (cc := cc) (Γ := Γ) (N := N) n
    have he := fun e y h => gE X W sc e y M hN hs tk h
    have vis : ∀ {y : Str}, isVis sc y = true → Vis X.env.scope y := fun h => by rw [hs]; exact vis_of h
    have ix : ∀ {y : Str} {i : Nat}, ixOf N y = some i → X.N[i]? = some y := fun h => by rw [hN]; exact ixOf_get h
    refine ⟨fun b0 st x h => ?_, fun b0 sts xs h => ?_⟩
    · unfold compS at h
      split at h
      · exact compA_ok V0 h
      · rename_i y p m apos e cpos q
        split at h
        · rename_i hc
          obtain ⟨h1, h2, h3⟩ := hc
          obtain ⟨p1, p2, _⟩ := plain_of h1
          by_cases hm : m = "append"
          · rw [if_pos hm] at h
            obtain ⟨i, e1, h⟩ := obind h
            obtain ⟨ex, e2, h⟩ := obind h
            cases h
            rw [hm]
            exact xs_app (ix e1) (vis h2) p1 p2 (he _ ex e2) (notStar_of e2 _ _) h3
          · rw [if_neg hm] at h
            by_cases hm2 : m = "extend"
            · rw [if_pos hm2] at h
              obtain ⟨i, e1, h⟩ := obind h
              obtain ⟨ex, e2, h⟩ := obind h
              cases h
              rw [hm2]
              exact xs_ext (ix e1) (vis h2) p1 p2 (he _ ex e2) (notStar_of e2 _ _) h3
            · rw [if_neg hm2] at h
              cases h
        · cases h
      · rename_i y p m apos cpos q
        split at h
        · rename_i hc
          obtain ⟨h1, h2, h3, hm⟩ := hc
          obtain ⟨p1, p2, _⟩ := plain_of h1
          obtain ⟨i, e1, rfl⟩ := omap h
          rw [hm]
          exact xs_pop (ix e1) (vis h2) p1 p2 h3
        · cases h
      · obtain ⟨ht, h⟩ := oif h
        obtain ⟨cx, e1, h⟩ := obind h
        obtain ⟨xa, e2, h⟩ := obind h
        obtain ⟨xb, e3, h⟩ := obind h
        cases h
        exact xs_if (gT X W sc _ cx n M hN hs tk e1 ht) (iSs b0 _ _ e2) (iSs b0 _ _ e3)
      · obtain ⟨ht, h⟩ := oif h
        obtain ⟨cx, e1, h⟩ := obind h
        obtain ⟨xb, e2, h⟩ := obind h
        cases h
        exact xs_whl po (gT X W sc _ cx n M hN hs tk e1 ht) (iSs b0 _ _ e2)
      · obtain ⟨ht, h⟩ := oif h
        obtain ⟨xi, e1, h⟩ := obind h
        obtain ⟨t, e2, h⟩ := obind h
        obtain ⟨xb, e3, h⟩ := obind h
        cases h
        obtain ⟨pi, hns, pia⟩ := gI X W sc _ _ _ xi M hN hs tk (fun z => z) e1
        exact xs_for M.ok po pi pia (pg_tg M.ok M.nd (by rw [hN]; exact e2) (tgOk_of hfn (by rw [hs]; exact ht))) (fun b1 => iSs b1 _ _ e3) (fold_of hns)
      · cases h
        exact xs_retN
      · obtain ⟨ex, e1, rfl⟩ := omap h
        have base : ∀ q fz, PS X (.Return (some _) q) (tS X W b0 (exS Γ (.ret ex fz))) := fun q fz => xs_ret (he _ ex e1)
        unfold retS
        split
        · split
          · rename_i hc
            split
            · rename_i i hi
              split
              · obtain ⟨p1, p2, _⟩ := plain_of hc.1
                exact xs_retO (ix hi) (vis hc.2) p1 p2
              · exact base _ _
            · exact base _ _
          · exact base _ _
        · exact base _ _
      · cases h
        exact xs_pass
      · cases h
        exact xs_brk
      · cases h
        exact xs_cont
      · cases h
    · cases sts with
      | nil =>
        simp only [compSs, Option.some.injEq] at h
        subst h
        exact xs_nil
      | cons s ss =>
        unfold compSs at h
        obtain ⟨x, e1, h⟩ := obind h
        obtain ⟨xs', e2, h⟩ := obind h
        cases h
        exact xs_cons (iS b0 _ _ e1) (iSs b0 _ _ e2)
end
end Pv

/-! Pv20 -/
set_option Elab.async false
set_option linter.all false
set_option maxRecDepth 100000
set_option maxHeartbeats 4000000
namespace Pv
open PySem PySem.Spec PyProof.Rows L2
/-! ### a def from its body -/
/-- the names of the module that the evaluator knows, at depth k -/
structure Glob (P : Program) (w : World) (K : PySem.W.Frag) (mg : Str → Option Value) (base : Heap) (k : Nat) (cc : CC) (Γ : Ctx) : Prop where
  fn : ∀ f i, cc.fns.lookup f = some i → ∃ (a : Addr) (fd : FuncData) (ps : List Str), mg f = some (.ref a) ∧ PySem.W.keepIn K (.ref a) = true ∧ Binds K fd ps [] ∧ FnG P w K mg base k a fd ps (spOf K mg ps.length (Γ.fn i)) ∧ ∀ as S, as.length ≠ ps.length → Γ.fn i as S = .stuck
  con : ∀ (i : Nat) x d, cc.cons[i]? = some x → Γ.con i = some d → ∃ u v, mg x = some u ∧ RelV v u ∧ ∀ F : Hp, Rp K F v d
  free : ∀ x ∈ bltNames, mg x = none
  gcd : cc.gcd = true → mg "gcd" = some (.builtin "math.gcd")
section
variable {P : Program} {w : World} {K : PySem.W.Frag} {mg : Str → Option Value} {base : Heap} {k : Nat} {cc : CC} {Γ : Ctx}
theorem Glob.mono {j : Nat} (G : Glob P w K mg base j cc Γ) (h : j ≤ k) : Glob P w K mg base k cc Γ :=
  ⟨fun f i e => let ⟨a, fd, ps, h1, h2, h3, h4, h5⟩ := G.fn f i e; ⟨a, fd, ps, h1, h2, h3, h4.mono h, h5⟩, G.con, G.free, G.gcd⟩
theorem start_rep {g : Gs} {vs : List V} {as : List R} (ar : ArgsR K g vs as) : ∀ (m : Nat) (i : Nat) (r : R), (as.map some ++ List.replicate m none)[i]? = some (some r) → (∃ v, (vs.map some ++ List.replicate m none)[i]? = some (some v) ∧ RepR K g g v r) ∧ ∀ ds, r ≠ .own ds := by
  induction ar with
  | nil =>
    intro m i r h
    simp only [List.map_nil, List.nil_append] at h
    rw [List.getElem?_replicate] at h
    split at h <;> cases h
  | cons h1 h2 ih =>
    intro m i r h
    cases i with
    | zero =>
      simp only [List.map_cons, List.cons_append, List.getElem?_cons_zero, Option.some.injEq] at h
      subst h
      rename_i v _ q _
      refine ⟨⟨v, by simp, ?_⟩, fun ds e => ?_⟩
      · cases q <;> first | exact h1 | exact h1.elim
      · subst e
        exact h1
    | succ i =>
      simp only [List.map_cons, List.cons_append, List.getElem?_cons_succ] at h ⊢
      exact ih m i r h
theorem start_st {g : Gs} {N : List Str} {vs : List V} {as : List R} (ar : ArgsR K g vs as) : StR K g g (L2.start N vs) (as.map some ++ List.replicate (N.length - vs.length) none) := by
  unfold L2.start
  refine ⟨by rw [List.length_append, List.length_append, List.length_map, List.length_map, ar.length, List.length_replicate, List.length_replicate], fun i r e => (start_rep ar _ i r e).1, fun i j ds es v _ e1 => ?_⟩
  exact absurd rfl ((start_rep ar _ i _ e1).2 ds)
/-- the body's promise -/
theorem body_ok {N ps : List Str} {qual : Str} {scope : Scope} {f : Addr} {cdv : Value} {A : Around} {outer : List PySem.Env} {s : Shared} {H : Hp} {E : XK} {own : List Nat} {n : Nat} {body : List Stmt} {ir : Ss} {vs : List V} {Q : VK}
    (G : Glob P w K mg base k cc Γ) (S : FnScope N ps scope) (hr : Room k (A.deeper (envOfC qual scope s.heap.objs.size f cdv))) (gu : A.guards = some []) (hc : compSs cc N own n scope body = some ir)
    (h : spOf K mg ps.length (runDef Γ ps.length N.length ir) vs H Q E) :
    ∃ t, PSs (cxOf (L2.CX P w) P w K mg base N qual scope f cdv A outer s H E) body t ∧ t { nx := fun _ H' => Q .non H', rt := Q } (L2.start N vs) H := by
  obtain ⟨hl, g, as, rfl, ok, ar, hp⟩ := h
  have V : Env1 cc Γ N (cxOf (L2.CX P w) P w K mg base N qual scope f cdv A outer s g.H E) (fun cls d _ H => E cls d H) scope := by
    refine ⟨⟨⟨rfl, gu, ?_⟩, S.nd, fun f i e => ?_, G.con, G.free, G.gcd⟩, rfl, rfl, takes_of rfl rfl rfl rfl, passes_of rfl, S.kind, fun _ => rfl⟩
    · have q := hr.un
      show (A.deeper _).units + 100 < cLine
      omega
    · obtain ⟨a, fd, ps, h1, h2, h3, h4, h5⟩ := G.fn f i e
      exact ⟨a, fd, ps, k, h1, h2, h3, hr, h4, h5⟩
  refine ⟨_, (snd_st n _ _ scope V).2 g body ir hc, g, as.map some ++ List.replicate (N.length - vs.length) none, rfl, ok, Gs.Le.refl g, start_st ar, ?_⟩
  have hal : as.length = ps.length := ar.length.symm.trans hl
  unfold runDef at hp
  rw [if_pos hal] at hp
  rw [hl]
  refine (bind_post hp).mono (fun fl S' q => ?_) fun ec S' q => ?_
  · cases fl with
    | rt r => exact fun g' v hs ok' le' rep => (show ∀ v g', g'.V = S' → g'.Ok → g.Le g' → RepR K g g' v r → Q v g'.H from q) v g' hs ok' le' rep
    | nx ρ => exact fun g' σ hs ok' le' st' => (show ∀ v g', g'.V = S' → g'.Ok → g.Le g' → RepR K g g' v (.val .none) → Q v g'.H from q) .non g' hs ok' le' .non
    | bk ρ => exact q.elim
    | ct ρ => exact q.elim
  · exact fun cls d g' σ' hs ok' le' rep => q cls d g' hs ok' le' rep
/-- THE RULE -/
theorem fn_G {f : Addr} {name qual : Str} {params : Arguments} {body : List Stmt} {scope : Scope} {dV kV doc pm cdv ct oc : Value} {an od : Option Addr} {osl : Array (Option Value)} {N ps : List Str} {own : List Nat} {n : Nat} {ir : Ss}
    (G : Glob P w K mg base k cc Γ) (lk : K.lookup f = some ⟨oc, od, .func (PySem.W.fnOf name qual params body scope dV kV doc pm an cdv ct), osl⟩) (hcd : PySem.W.codeIn K cdv qual = true) (S : FnScope N ps scope) (hc : compSs cc N own n scope body = some ir) :
    FnG P w K mg base (k + 1) f (PySem.W.fnOf name qual params body scope dV kV doc pm an cdv ct) ps (spOf K mg ps.length (runDef Γ ps.length N.length ir)) where
  len := fun vs H Q E h => h.1
  run := by
    intro A outer s H args us vs Q E room gu e0 binds rel h
    have inK : K.In s.heap := e0.mod.kin.keeps fun b o hb => (e0.bs b o hb).1
    have free : s.heap.NoLimit := e0.mod.nolimit.keeps fun b o hb => (e0.bs b o hb).1
    have hu : us.length = ps.length := by rw [← rel.length]; exact h.1
    have kinds : ∀ y ∈ ps.zip us, scope.names.lookup y.1 = some .local ∨ (scope.names.lookup y.1 = some .cell ∧ ((cellsFrom (s.heap.objs.size + 1) scope.names []).lookup y.1).isSome = true) := by
      rintro ⟨a, b⟩ hy
      have := S.par a (List.of_mem_zip hy).1
      exact this.imp id fun q => ⟨q, PySem.W.cellsFrom_some _ _ _ (.inl q)⟩
    apply codeAny_call_function room.depth (inK _ _ lk) rfl S.co S.gen rfl (PySem.W.codeRec_of inK hcd)
    apply binds
    refine wpAny_newFunctionEnv_cells S.kind kinds ?_
    rintro _ rfl s1 x
    constructor
    · exact free.keeps x.toInCall.keep
    apply codeAny_func
    obtain ⟨t, pt, ht⟩ := body_ok (outer := outer) (s := s) (f := f) (cdv := cdv) (qual := qual) G S (room.deeper _) gu hc h
    have I := inv_start (CX := L2.CX P w) (qual := qual) (f := f) (cd := cdv) (E := E) S room.hd e0 h.1 rel x
    refine wpAny_mono (pt.run [] s1 _ H _ I ht) ?_ fun _ _ q => q
    intro fl s' hs
    cases fl with
    | brk => exact hs.choose_spec.choose_spec.2.elim
    | cont => exact hs.choose_spec.choose_spec.2.elim
    | next =>
      obtain ⟨_, H', J, q⟩ := hs
      exact ⟨.non, H', J.os, J.bare, J.base, J.hok, rfl, q⟩
    | ret u =>
      obtain ⟨v, _, H', J, rv, q⟩ := hs
      exact ⟨v, H', J.os, J.bare, J.base, J.hok, rv, q⟩
end
end Pv

/-! Pv21 -/
set_option Elab.async false
set_option linter.all false
set_option maxRecDepth 100000
set_option maxHeartbeats 4000000
namespace Pv
open PySem PySem.Spec PyProof.Rows L2
/-! ### the law's end -/
section
variable {P : Program} {w : World} {K : PySem.W.Frag} {mg mb : Str → Option Value} {k : Nat} {fa a : Addr} {fd : FuncData} {x : Str} {sem : FnS} {s : Shared} {vs : List Value} {ns : List Int}
/-- nothing but the script's address may be tracked -/
structure Lone (K : PySem.W.Frag) (H : Hp) (a : Addr) (ns : List Int) (s : Shared) (P : Program) (w : World) : Prop where
  sq : SqL K H a (ns.map V.int)
  hok : HOk P w H s.heap
  only : ∀ b, H b ≠ none → b = a ∧ K.lookup a = none ∧ ∃ o, H b = some (.frz o (.lst (ns.map V.int)))
theorem lone_of (KX : K.In s.heap) (ha : s.heap.get? a = some { cls := .type "list", data := .seq vs.toArray }) (hi : IntsAre vs ns) (hl : ns.length ≤ sizeLine) : ∃ H, Lone K H a ns s P w := by
  have rv := vals_ints hi
  cases q : K.lookup a with
  | some o =>
    have e := (KX a o q).symm.trans ha
    cases e
    refine ⟨fun _ => none, .inr ⟨_, vs.toArray, _, q, rfl, rfl, rfl, ?_, ?_⟩, fun _ _ z => (nomatch z), fun _ z => (z rfl).elim⟩
    · rw [List.size_toArray, hi.length]
      exact hl
    · rw [List.toList_toArray]
      exact rv
  | none =>
    let o : Obj := { cls := .type "list", data := .seq vs.toArray }
    refine ⟨upd (fun _ => none) a (.frz o (.lst (ns.map V.int))), .inl (.inr ⟨o, upd_same⟩), fun b u z => ?_, fun b z => ?_⟩
    · by_cases hb : b = a
      · subst hb
        rw [upd_same] at z
        cases z
        refine ⟨ha, ?_, vs, _, rv, ha⟩
        rw [List.length_map]
        exact hl
      · rw [upd_ne hb] at z
        cases z
    · by_cases hb : b = a
      · subst hb
        exact ⟨rfl, q, o, upd_same⟩
      · rw [upd_ne hb] at z
        exact (z rfl).elim
theorem law_run (KX : K.In s.heap) (hns : s.heap.Ns mainGlobals mg) (hb : s.heap.Ns builtinsNs mb) (hbb : ∀ x : Str, x ≠ "__name__" → mb x = bootBuiltins x) (hlim : s.heap.NoLimit) (hg : s.gens = #[])
    (ha : s.heap.get? a = some { cls := .type "list", data := .seq vs.toArray }) (hi : IntsAre vs ns) (hl : ns.length ≤ sizeLine) (room : Room k callerA)
    (F : ∀ base : Heap, K.In base → base.Ns mainGlobals mg → FnG P w K mg base k fa fd [x] (spOf K mg 1 sem)) (hbind : ∀ (s : Shared) (u : Value), BindsTo s fd ⟨[u], []⟩ [(x, u)])
    (pure : ∃ S, sem [.scr ns] none = .ok (.val (.bool true)) S) :
    codeAny (model P w) callerA (.call (.ref fa) ⟨[.ref a], []⟩) (fun r s' => r = .ok (.ret (.bool true)) ∧ OldK s.heap s'.heap ∧ s'.os = s.os ∧ AllBare s'.gens) s := by
  obtain ⟨H, L⟩ := lone_of (P := P) (w := w) KX ha hi hl
  obtain ⟨S, hS⟩ := pure
  let base : Heap := hidT s.heap H
  have noD : ∀ {b : Addr} {o : Obj} {es : Array DictEntry} {ep : Nat}, s.heap.get? b = some o → o.data = .dict es ep → H b = none := by
    intro b o es ep e d
    refine Classical.byContradiction fun z => ?_
    obtain ⟨rfl, _⟩ := L.only b z
    rw [ha] at e
    cases e
    cases d
  have nsB : ∀ {b : Addr} {m : Str → Option Value}, s.heap.Ns b m → base.Ns b m := by
    rintro b m ⟨o, es, ep, e, d, r⟩
    exact ⟨o, es, ep, hidT_get e (noD e d), d, r⟩
  have inB : K.In base := by
    intro b o e
    refine hidT_get (KX b o e) (Classical.byContradiction fun z => ?_)
    obtain ⟨rfl, n, _⟩ := L.only b z
    rw [n] at e
    cases e
  have lim : base.NoLimit := by
    obtain ⟨mc, h1, h2⟩ := hlim
    exact ⟨mc, nsB h1, h2⟩
  have mod : Mod K mg base := ⟨inB, nsB hns, ⟨mb, nsB hb, hbb⟩, lim⟩
  have e0 : Env0 P w K mg base callerA [] s H := by
    refine ⟨rfl, mod, fun b o e => of_hidT e, Nat.le_of_eq (hidT_size _ _), trivial, ?_, L.hok, .of_eq hg⟩
    intro b z
    cases z
  let g : Gs := ⟨H, none, H⟩
  have okg : g.Ok := ⟨Same.refl _, fun _ e => (nomatch e), fun b z => by
    obtain ⟨_, e, _⟩ := z
    cases e⟩
  have sp : spOf K mg 1 sem [.ref a] H (fun v _ => v = .bl true) fun _ _ _ => False := by
    refine ⟨rfl, g, [.scr ns], rfl, okg, .cons ⟨a, rfl, L.sq⟩ .nil, ?_⟩
    show (sem [.scr ns] none).Post _ _
    rw [hS]
    intro v g' _ _ _ rep
    have rep : Rp K g'.F v (.bool true) := rep
    cases rep
    rfl
  have run := (F base inB (nsB hns)).run callerA [] s H ⟨[.ref a], []⟩ [.ref a] [.ref a] _ _ room rfl e0 (hbind s (.ref a)) (.cons rfl .nil) sp
  refine codeAny_mono run ?_
  intro r s' h
  cases r with
  | error e =>
    obtain ⟨_, _, _, _, _, _, _, _, _, _, _, _, z⟩ := h
    exact z.elim
  | ok fl =>
    cases fl <;> try exact h.elim
    obtain ⟨v, H', os, bare, un, hok', rel, q⟩ := h
    have q : v = .bl true := q
    rw [q] at rel
    cases rel
    refine ⟨rfl, OldK.of_keep fun b o e => ?_, os, bare⟩
    cases z : H b with
    | none =>
      refine un.keep b o e z ?_ (by simp)
      intro y
      cases y
    | some u =>
      obtain ⟨_, _, o', z2⟩ := L.only b (by rw [z]; simp)
      have e1 := (L.hok b _ z2).1
      have e2 := (hok' b _ (un.frzs b o' _ z2)).1
      rw [e] at e1
      cases e1
      exact e2
end
/-- the law's row -/
theorem walk_G {l : PySem.W.OpenLaw} {n k : Nat} {q : Program} {loose : List Str} {XP : (Str → Option Value) → Heap → Prop} {YP : World → Heap → Prop} {d : DefRec} {x : Str} {sem : FnS}
    (hn : l.most = some n) (hn2 : n ≤ sizeLine) (hdf : d.params.defaults = []) (hr : Room k callerA)
    (F : ∀ (w : World) (mg : Str → Option Value) (fa : Addr) (h : Heap), YP w h → h.Ns mainGlobals mg → mg d.name = some (.ref fa) →
      ∃ (K : PySem.W.Frag) (fd : FuncData), K.In h ∧ (∀ (s : Shared) (u : Value), BindsTo s fd ⟨[u], []⟩ [(x, u)]) ∧ ∀ base : Heap, K.In base → base.Ns mainGlobals mg → FnG l.prog w K mg base k fa fd [x] (spOf K mg 1 sem))
    (pure : ∀ ns : List Int, ns.length ≤ n → (∀ z ∈ ns, Builtin.Int.intBits z ≤ 1048576) → ∃ S, sem [.scr ns] none = .ok (.val (.bool true)) S) : PySem.W.WalkO q loose XP YP l.row.toRowW d [] (fun f vs => PySem.call f vs) := by
  apply Att.attach_callB hn hdf
  intro w s₀ s₁ mg mb fa o pm cd doc a vs ns G Y ho hd hcd hmg hobj hints hlen hbits hg
  obtain ⟨K, fd, KX, hb, hF⟩ := F w mg fa _ Y G.T.g hmg
  exact law_run KX G.T.g G.T.b G.T.builtins G.T.nolimit hg hobj hints (Nat.le_trans hlen hn2) hr hF hb (pure ns hlen hbits)
end Pv

/-! Pv22 -/
set_option Elab.async false
set_option linter.all false
set_option maxRecDepth 100000
set_option maxHeartbeats 4000000
namespace Pv
open PySem PySem.Spec PyProof.Rows L2
/-! ### what stands behind the top -/
def obsV (n : Nat) (fa : List He.Fa) (fn : List He.DefD) (ex : PySem.W.Frag → Bool) (g : Addr → Option Obj) : He.AlD × Bool :=
  let K := He.frG g (He.asD g n)
  (He.obsD fa fn K, ex K)
def hookV (n : Nat) (fa : List He.Fa) (fn : List He.DefD) (ex : PySem.W.Frag → Bool) : PySem.W.Hook where
  α := He.AlD × Bool
  obs s := obsV n fa fn ex s.heap.get?
  val _ := (He.valD fn, true)
  says _ h := ∃ K : PySem.W.Frag, K.In h ∧ He.SaysD fa fn K ∧ ex K = true
  of _ _ e := ⟨_, He.frG_in, congrArg Prod.fst e, congrArg Prod.snd e⟩
  keeps _ _ _ c k := by
    obtain ⟨K, hK, c1, c2⟩ := c
    exact ⟨K, PySem.W.Frag.In.keeps hK k, c1, c2⟩
theorem obsV_eq {n : Nat} {fa : List He.Fa} {fn : List He.DefD} {ex : PySem.W.Frag → Bool} {g : Addr → Option Obj} {s : Shared} (h : ∀ a, g a = s.heap.get? a) : obsV n fa fn ex g = (hookV n fa fn ex).obs s := by
  obtain rfl : g = s.heap.get? := funext h
  rfl
/-! ### the defs of a text -/
def Has (P : Program) (w : World) (K : PySem.W.Frag) (mg : Str → Option Value) (base : Heap) (k : Nat) (x : Str) (sem : FnS) : Prop :=
  ∃ (a : Addr) (fd : FuncData) (ps : List Str), mg x = some (.ref a) ∧ PySem.W.keepIn K (.ref a) = true ∧ Binds K fd ps [] ∧ FnG P w K mg base k a fd ps (spOf K mg ps.length sem) ∧ ∀ as S, as.length ≠ ps.length → sem as S = .stuck
def ccOfO (names cons : List Str) (gcd : Bool) (own : List Nat) : CC := ⟨names.zipIdx, cons, gcd, own⟩
def ccOf (names cons : List Str) (gcd : Bool) : CC := ccOfO names cons gcd []
def ctxOf (sems : List FnS) (cs : List PyData) : Ctx := ⟨fun i => sems.getD i fun _ => M.stuck, fun i => cs[i]?⟩
inductive Hass (P : Program) (w : World) (K : PySem.W.Frag) (mg : Str → Option Value) (base : Heap) (k : Nat) : List Str → List FnS → Prop
  | nil : Hass P w K mg base k [] []
  | cons {x : Str} {xs : List Str} {s : FnS} {ss : List FnS} : Has P w K mg base k x s → Hass P w K mg base k xs ss → Hass P w K mg base k (x :: xs) (s :: ss)
/-- a constant of the module -/
def ConAt (K : PySem.W.Frag) (mg : Str → Option Value) (x : Str) (d : PyData) : Prop := ∃ u v, mg x = some u ∧ RelV v u ∧ ∀ F : Hp, Rp K F v d
inductive Cons (K : PySem.W.Frag) (mg : Str → Option Value) : List Str → List PyData → Prop
  | nil : Cons K mg [] []
  | cons {x : Str} {xs : List Str} {d : PyData} {ds : List PyData} : ConAt K mg x d → Cons K mg xs ds → Cons K mg (x :: xs) (d :: ds)
section
variable {P : Program} {w : World} {K : PySem.W.Frag} {mg : Str → Option Value} {base : Heap} {k : Nat}
theorem Has.mono {j : Nat} {x : Str} {sem : FnS} (h : Has P w K mg base j x sem) (l : j ≤ k) : Has P w K mg base k x sem := by
  obtain ⟨a, fd, ps, h1, h2, h3, h4, h5⟩ := h
  exact ⟨a, fd, ps, h1, h2, h3, h4.mono l, h5⟩
theorem Hass.get {xs : List Str} {ss : List FnS} (h : Hass P w K mg base k xs ss) : ∀ {i : Nat} {x : Str}, xs[i]? = some x → Has P w K mg base k x (ss.getD i fun _ => M.stuck) := by
  induction h with
  | nil => intro i x e; cases e
  | cons h1 h2 ih =>
    intro i x e
    cases i with
    | zero => cases e; exact h1
    | succ i => exact ih e
theorem Cons.get {xs : List Str} {ds : List PyData} (h : Cons K mg xs ds) : ∀ {i : Nat} {x : Str} {d : PyData}, xs[i]? = some x → ds[i]? = some d → ConAt K mg x d := by
  induction h with
  | nil => intro i x d e; cases e
  | cons h1 h2 ih =>
    intro i x d e e2
    cases i with
    | zero => cases e; cases e2; exact h1
    | succ i => exact ih e e2
theorem lookup_zip : ∀ {xs : List Str} {n i : Nat} {f : Str}, (xs.zipIdx n).lookup f = some i → ∃ j, i = n + j ∧ xs[j]? = some f
  | [], n, i, f, h => by cases h
  | x :: xs, n, i, f, h => by
    rw [List.zipIdx_cons, List.lookup_cons] at h
    split at h
    · rename_i e
      cases h
      exact ⟨0, rfl, congrArg some (eq_of_beq e).symm⟩
    · obtain ⟨j, e1, e2⟩ := lookup_zip h
      exact ⟨j + 1, by omega, e2⟩
theorem glob_of {names cons : List Str} {sems : List FnS} {cs : List PyData} {gcd : Bool} {own : List Nat} (h : Hass P w K mg base k names sems) (hc : Cons K mg cons cs) (free : ∀ x ∈ bltNames, mg x = none) (hg : gcd = true → mg "gcd" = some (.builtin "math.gcd")) :
    Glob P w K mg base k (ccOfO names cons gcd own) (ctxOf sems cs) where
  fn := fun f i e => by
    obtain ⟨j, rfl, e2⟩ := lookup_zip e
    have q := h.get e2
    rw [Nat.zero_add]
    exact q
  con := fun i x d e1 e2 => hc.get e1 e2
  free := free
  gcd := hg
theorem has_of {x q : Str} {params : Arguments} {body : List Stmt} {scope : Scope} {f : Addr} {fd : FuncData} {N ps : List Str} {own : List Nat} {n : Nat} {ir : Ss} {cc : CC} {Γ : Ctx} (F : FunD K x q params body scope [] [] f fd) (hm : mg x = some (.ref f)) (S : FnScope N ps scope)
    (hb : ∀ (kV doc pm : Value) (an : Option Addr) (cdv ct : Value) (us : List Value), us.length = ps.length → bindArgs (PySem.W.fnOf x q params body scope .none kV doc pm an cdv ct) ⟨us, []⟩ = pure (ps.zip us))
    (G : Glob P w K mg base k cc Γ) (hc : compSs cc N own n scope body = some ir) : Has P w K mg base (k + 1) x (runDef Γ ps.length N.length ir) := by
  refine ⟨f, fd, ps, hm, F.kp, FunD.bindsN F hb, ?_, fun as S h => runDef_ar Γ h⟩
  obtain ⟨oc, od, dV, kV, doc, pm, an, cdv, ct, osl, rfl, lk, hcd, _, _⟩ := F.ex
  exact fn_G G lk hcd S hc
theorem has_ofG {x q y : Str} {params : Arguments} {body : List Stmt} {scope : Scope} {f : Addr} {fd : FuncData} {N ps : List Str} {own : List Nat} {n : Nat} {ir : Ss} {cc : CC} {Γ : Ctx} (F : FunD K x q params body scope [] [] f fd) (hm : mg y = some (.ref f)) (S : FnScope N ps scope)
    (hb : ∀ (kV doc pm : Value) (an : Option Addr) (cdv ct : Value) (us : List Value), us.length = ps.length → bindArgs (PySem.W.fnOf x q params body scope .none kV doc pm an cdv ct) ⟨us, []⟩ = pure (ps.zip us))
    (G : Glob P w K mg base k cc Γ) (hc : compSs cc N own n scope body = some ir) : Has P w K mg base (k + 1) y (runDef Γ ps.length N.length ir) := by
  refine ⟨f, fd, ps, hm, F.kp, FunD.bindsN F hb, ?_, fun as S h => runDef_ar Γ h⟩
  obtain ⟨oc, od, dV, kV, doc, pm, an, cdv, ct, osl, rfl, lk, hcd, _, _⟩ := F.ex
  exact fn_G G lk hcd S hc
theorem con_tup {x : Str} {is : List Int} (hm : mg x = some (.ref (He.ga K x))) (h : He.tupB K x (is.map fun i => He.Dv.int i) = true) : ConAt K mg x (.tuple (is.map PyData.int)) := by
  refine ⟨_, .ref (He.ga K x), hm, rfl, fun F => .tup (He.tupB_ok h F) ?_⟩
  clear h hm
  induction is with
  | nil => exact .nil
  | cons i is ih => exact .cons (.int i) ih
/-- a constant's value, whatever stands in it -/
def vOf : Value → V
  | .bool b => .bl b
  | .int i _ => .int i
  | .str s _ => .str s
  | .ref a => .ref a
  | _ => .non
mutual
def repB (K : PySem.W.Frag) : PyData → Value → Bool
  | .none, .none => true
  | .bool b, .bool c => b == c
  | .int i, .int j _ => decide (i = j)
  | .str s, .str t _ => decide (s = t)
  | .tuple ds, .ref a => match K.lookup a with
    | some ⟨.type c, _, .seq its _, _⟩ => decide (c = "tuple") && (decide (its.size ≤ sizeLine) && repAll K ds its.toList)
    | _ => false
  | _, _ => false
def repAll (K : PySem.W.Frag) : List PyData → List Value → Bool
  | [], [] => true
  | d :: ds, v :: vs => repB K d v && repAll K ds vs
  | _, _ => false
end
mutual
theorem repB_ok : ∀ {d : PyData} {v : Value}, repB K d v = true → RelV (vOf v) v ∧ ∀ F : Hp, Rp K F (vOf v) d
  | .none, .none, _ => ⟨rfl, fun _ => .non⟩
  | .bool b, .bool c, h => by
    simp only [repB, beq_iff_eq] at h
    subst h
    exact ⟨rfl, fun _ => .bl b⟩
  | .int i, .int j t, h => by
    simp only [repB, decide_eq_true_eq] at h
    subst h
    exact ⟨⟨t, rfl⟩, fun _ => .int i⟩
  | .str s, .str z t, h => by
    simp only [repB, decide_eq_true_eq] at h
    subst h
    exact ⟨⟨t, rfl⟩, fun _ => .str s⟩
  | .tuple ds, .ref a, h => by
    unfold repB at h
    cases q : K.lookup a with
    | none => rw [q] at h; cases h
    | some o =>
      obtain ⟨oc, od, dt, osl⟩ := o
      rw [q] at h
      cases oc with
      | type c =>
        cases dt with
        | seq its n =>
          obtain ⟨h1, h2⟩ := He.ba (show (decide (c = "tuple") && (decide (its.size ≤ sizeLine) && repAll K ds its.toList)) = true from h)
          obtain ⟨h3, h4⟩ := He.ba h2
          obtain ⟨r1, r2⟩ := repAll_ok h4
          exact ⟨rfl, fun F => .tup (.inr ⟨_, its, n, q, congrArg Value.type (of_decide_eq_true h1), rfl, of_decide_eq_true h3, r1⟩) (r2 F)⟩
        | _ => cases h
      | _ => cases dt <;> cases h
theorem repAll_ok : ∀ {ds : List PyData} {vs : List Value}, repAll K ds vs = true → Vals (vs.map vOf) vs ∧ ∀ F : Hp, RpAll K F (vs.map vOf) ds
  | [], [], _ => ⟨.nil, fun _ => .nil⟩
  | d :: ds, v :: vs, h => by
    unfold repAll at h
    obtain ⟨h1, h2⟩ := He.ba h
    obtain ⟨a1, a2⟩ := repB_ok h1
    obtain ⟨b1, b2⟩ := repAll_ok h2
    exact ⟨.cons a1 b1, fun F => .cons (a2 F) (b2 F)⟩
end
theorem con_rep {x : Str} {d : PyData} (hm : mg x = some (.ref (He.ga K x))) (h : repB K d (.ref (He.ga K x)) = true) : ConAt K mg x d := by
  obtain ⟨a, b⟩ := repB_ok h
  exact ⟨_, _, hm, a, b⟩
theorem con_int {x : Str} {i : Int} (h : ∃ t, mg x = some (.int i t)) : ConAt K mg x (.int i) := by
  obtain ⟨t, e⟩ := h
  exact ⟨_, .int i, e, ⟨t, rfl⟩, fun F => .int i⟩
end
end Pv

/-! K07Sem -/
set_option Elab.async false
set_option linter.all false
set_option maxRecDepth 100000
set_option maxHeartbeats 0
namespace K07
open PySem Pv

def ir_is_whole : Ss := (.cons (.ret (.andv (.isi (.var 0) "int") (.notv (.isi (.var 0) "bool"))) []) .nil)
def g_is_whole : Pv.Ctx := ctxOf [] []
def sem_is_whole : FnS := runDef g_is_whole 1 1 ir_is_whole
def ir_fraction_low : Ss := (.cons (.asg 2 true (.ite (.cmp .Gt (.var 1) (.lit (.int (0)))) (.blt .gcd (.cons (.var 0) (.cons (.var 1) .nil))) (.neg (.blt .gcd (.cons (.var 0) (.cons (.var 1) .nil))))) []) (.cons (.ret (.tup (.cons (.bin .FloorDiv (.var 0) (.var 2)) (.cons (.bin .FloorDiv (.var 1) (.var 2)) .nil))) []) .nil))
def g_fraction_low : Pv.Ctx := ctxOf [] []
def sem_fraction_low : FnS := runDef g_fraction_low 2 3 ir_fraction_low
def ir_is_fraction : Ss := (.cons (.ifS (.orv (.notv (.isi (.var 0) "tuple")) (.orv (.cmp .NotEq (.blt .len (.cons (.var 0) .nil)) (.lit (.int (2)))) (.notv (.blt .all (.cons (.comp [1] (.one 1) (.it (.var 0)) .nil (.call 1 (.cons (.var 1) .nil))) .nil))))) (.cons (.ret (.lit (.bool false)) []) .nil) .nil []) (.cons (.ret (.andv (.cmp .Gt (.idx (.var 0) (.lit (.int (1)))) (.lit (.int (0)))) (.cmp .Eq (.call 0 (.cons (.idx (.var 0) (.lit (.int (0)))) (.cons (.idx (.var 0) (.lit (.int (1)))) .nil))) (.var 0))) []) .nil))
def g_is_fraction : Pv.Ctx := ctxOf [sem_fraction_low, sem_is_whole] []
@[simp] theorem gf_is_fraction_0 : g_is_fraction.fn 0 = sem_fraction_low := (rfl)
@[simp] theorem gf_is_fraction_1 : g_is_fraction.fn 1 = sem_is_whole := (rfl)
def sem_is_fraction : FnS := runDef g_is_fraction 1 2 ir_is_fraction
def ir_fractions_added : Ss := (.cons (.ret (.call 0 (.cons (.bin .Add (.bin .Mult (.idx (.var 0) (.lit (.int (0)))) (.idx (.var 1) (.lit (.int (1))))) (.bin .Mult (.idx (.var 1) (.lit (.int (0)))) (.idx (.var 0) (.lit (.int (1)))))) (.cons (.bin .Mult (.idx (.var 0) (.lit (.int (1)))) (.idx (.var 1) (.lit (.int (1))))) .nil))) []) .nil)
def g_fractions_added : Pv.Ctx := ctxOf [sem_fraction_low] []
@[simp] theorem gf_fractions_added_0 : g_fractions_added.fn 0 = sem_fraction_low := (rfl)
def sem_fractions_added : FnS := runDef g_fractions_added 2 2 ir_fractions_added
def ir_fractions_less : Ss := (.cons (.ret (.call 0 (.cons (.bin .Sub (.bin .Mult (.idx (.var 0) (.lit (.int (0)))) (.idx (.var 1) (.lit (.int (1))))) (.bin .Mult (.idx (.var 1) (.lit (.int (0)))) (.idx (.var 0) (.lit (.int (1)))))) (.cons (.bin .Mult (.idx (.var 0) (.lit (.int (1)))) (.idx (.var 1) (.lit (.int (1))))) .nil))) []) .nil)
def g_fractions_less : Pv.Ctx := ctxOf [sem_fraction_low] []
@[simp] theorem gf_fractions_less_0 : g_fractions_less.fn 0 = sem_fraction_low := (rfl)
def sem_fractions_less : FnS := runDef g_fractions_less 2 2 ir_fractions_less
def ir_fractions_times : Ss := (.cons (.ret (.call 0 (.cons (.bin .Mult (.idx (.var 0) (.lit (.int (0)))) (.idx (.var 1) (.lit (.int (0))))) (.cons (.bin .Mult (.idx (.var 0) (.lit (.int (1)))) (.idx (.var 1) (.lit (.int (1))))) .nil))) []) .nil)
def g_fractions_times : Pv.Ctx := ctxOf [sem_fraction_low] []
@[simp] theorem gf_fractions_times_0 : g_fractions_times.fn 0 = sem_fraction_low := (rfl)
def sem_fractions_times : FnS := runDef g_fractions_times 2 2 ir_fractions_times
def ir_fractions_over : Ss := (.cons (.ret (.call 0 (.cons (.bin .Mult (.idx (.var 0) (.lit (.int (0)))) (.idx (.var 1) (.lit (.int (1))))) (.cons (.bin .Mult (.idx (.var 0) (.lit (.int (1)))) (.idx (.var 1) (.lit (.int (0))))) .nil))) []) .nil)
def g_fractions_over : Pv.Ctx := ctxOf [sem_fraction_low] []
@[simp] theorem gf_fractions_over_0 : g_fractions_over.fn 0 = sem_fraction_low := (rfl)
def sem_fractions_over : FnS := runDef g_fractions_over 2 2 ir_fractions_over
def ir_is_ahead : Ss := (.cons (.ret (.cmp .Lt (.bin .Mult (.idx (.var 0) (.lit (.int (0)))) (.idx (.var 1) (.lit (.int (1))))) (.bin .Mult (.idx (.var 1) (.lit (.int (0)))) (.idx (.var 0) (.lit (.int (1)))))) []) .nil)
def g_is_ahead : Pv.Ctx := ctxOf [] []
def sem_is_ahead : FnS := runDef g_is_ahead 2 2 ir_is_ahead
def ir_sign_of : Ss := (.cons (.ret (.bin .Sub (.cmp .Gt (.idx (.var 0) (.lit (.int (0)))) (.lit (.int (0)))) (.cmp .Lt (.idx (.var 0) (.lit (.int (0)))) (.lit (.int (0))))) []) .nil)
def g_sign_of : Pv.Ctx := ctxOf [] []
def sem_sign_of : FnS := runDef g_sign_of 1 1 ir_sign_of
def ir_polynomial_of : Ss := (.cons (.asg 1 false (.blt .list (.cons (.var 0) .nil)) []) (.cons (.whl (.andv (.cmp .NotEq (.var 1) (.lst .nil)) (.cmp .Eq (.idx (.var 1) (.neg (.lit (.int (1))))) (.glob 0))) (.cons (.pop 1) .nil) [1]) (.cons (.ret (.blt .tuple (.cons (.var 1) .nil)) [1]) .nil)))
def g_polynomial_of : Pv.Ctx := ctxOf [] [.tuple [.int (0), .int (1)]]
@[simp] theorem gc_polynomial_of_0 : g_polynomial_of.con 0 = some (.tuple [.int (0), .int (1)]) := (rfl)
def sem_polynomial_of : FnS := runDef g_polynomial_of 1 2 ir_polynomial_of
def ir_is_polynomial : Ss := (.cons (.ifS (.orv (.notv (.isi (.var 0) "tuple")) (.notv (.blt .all (.cons (.comp [1] (.one 1) (.it (.var 0)) .nil (.call 0 (.cons (.var 1) .nil))) .nil)))) (.cons (.ret (.lit (.bool false)) []) .nil) .nil []) (.cons (.ret (.orv (.cmp .Eq (.var 0) (.tup .nil)) (.cmp .NotEq (.idx (.var 0) (.neg (.lit (.int (1))))) (.glob 0))) []) .nil))
def g_is_polynomial : Pv.Ctx := ctxOf [sem_is_fraction] [.tuple [.int (0), .int (1)]]
@[simp] theorem gf_is_polynomial_0 : g_is_polynomial.fn 0 = sem_is_fraction := (rfl)
@[simp] theorem gc_is_polynomial_0 : g_is_polynomial.con 0 = some (.tuple [.int (0), .int (1)]) := (rfl)
def sem_is_polynomial : FnS := runDef g_is_polynomial 1 2 ir_is_polynomial
def ir_member : Ss := (.cons (.ret (.ite (.cmp .Lt (.var 1) (.blt .len (.cons (.var 0) .nil))) (.idx (.var 0) (.var 1)) (.glob 0)) []) .nil)
def g_member : Pv.Ctx := ctxOf [] [.tuple [.int (0), .int (1)]]
@[simp] theorem gc_member_0 : g_member.con 0 = some (.tuple [.int (0), .int (1)]) := (rfl)
def sem_member : FnS := runDef g_member 2 2 ir_member
def ir_polynomials_added : Ss := (.cons (.asg 2 true (.blt .max (.cons (.blt .len (.cons (.var 0) .nil)) (.cons (.blt .len (.cons (.var 1) .nil)) .nil))) []) (.cons (.ret (.call 0 (.cons (.comp [3] (.one 3) (.rng (.cons (.var 2) .nil)) .nil (.call 1 (.cons (.call 2 (.cons (.var 0) (.cons (.var 3) .nil))) (.cons (.call 2 (.cons (.var 1) (.cons (.var 3) .nil))) .nil)))) .nil)) []) .nil))
def g_polynomials_added : Pv.Ctx := ctxOf [sem_polynomial_of, sem_fractions_added, sem_member] []
@[simp] theorem gf_polynomials_added_0 : g_polynomials_added.fn 0 = sem_polynomial_of := (rfl)
@[simp] theorem gf_polynomials_added_1 : g_polynomials_added.fn 1 = sem_fractions_added := (rfl)
@[simp] theorem gf_polynomials_added_2 : g_polynomials_added.fn 2 = sem_member := (rfl)
def sem_polynomials_added : FnS := runDef g_polynomials_added 2 4 ir_polynomials_added
def ir_polynomial_scaled : Ss := (.cons (.ret (.call 0 (.cons (.comp [2] (.one 2) (.it (.var 0)) .nil (.call 1 (.cons (.var 2) (.cons (.var 1) .nil)))) .nil)) []) .nil)
def g_polynomial_scaled : Pv.Ctx := ctxOf [sem_polynomial_of, sem_fractions_times] []
@[simp] theorem gf_polynomial_scaled_0 : g_polynomial_scaled.fn 0 = sem_polynomial_of := (rfl)
@[simp] theorem gf_polynomial_scaled_1 : g_polynomial_scaled.fn 1 = sem_fractions_times := (rfl)
def sem_polynomial_scaled : FnS := runDef g_polynomial_scaled 2 3 ir_polynomial_scaled
def ir_polynomials_less : Ss := (.cons (.ret (.call 0 (.cons (.var 0) (.cons (.call 1 (.cons (.var 1) (.cons (.tup (.cons (.neg (.lit (.int (1)))) (.cons (.lit (.int (1))) .nil))) .nil))) .nil))) []) .nil)
def g_polynomials_less : Pv.Ctx := ctxOf [sem_polynomials_added, sem_polynomial_scaled] []
@[simp] theorem gf_polynomials_less_0 : g_polynomials_less.fn 0 = sem_polynomials_added := (rfl)
@[simp] theorem gf_polynomials_less_1 : g_polynomials_less.fn 1 = sem_polynomial_scaled := (rfl)
def sem_polynomials_less : FnS := runDef g_polynomials_less 2 2 ir_polynomials_less
def ir_polynomials_times : Ss := (.cons (.asg 2 false (.bin .Mult (.lst (.cons (.glob 0) .nil)) (.blt .max (.cons (.lit (.int (0))) (.cons (.bin .Sub (.bin .Add (.blt .len (.cons (.var 0) .nil)) (.blt .len (.cons (.var 1) .nil))) (.lit (.int (1)))) .nil)))) []) (.cons (.for_ (.many [3, 4]) (.enum (.var 0)) (.cons (.for_ (.many [5, 6]) (.enum (.var 1)) (.cons (.setI 2 (.bin .Add (.var 3) (.var 5)) (.call 1 (.cons (.idx (.var 2) (.bin .Add (.var 3) (.var 5))) (.cons (.call 2 (.cons (.var 4) (.cons (.var 6) .nil))) .nil))) [2]) .nil) []) .nil) []) (.cons (.ret (.call 0 (.cons (.var 2) .nil)) [2]) .nil)))
def g_polynomials_times : Pv.Ctx := ctxOf [sem_polynomial_of, sem_fractions_added, sem_fractions_times] [.tuple [.int (0), .int (1)]]
@[simp] theorem gf_polynomials_times_0 : g_polynomials_times.fn 0 = sem_polynomial_of := (rfl)
@[simp] theorem gf_polynomials_times_1 : g_polynomials_times.fn 1 = sem_fractions_added := (rfl)
@[simp] theorem gf_polynomials_times_2 : g_polynomials_times.fn 2 = sem_fractions_times := (rfl)
@[simp] theorem gc_polynomials_times_0 : g_polynomials_times.con 0 = some (.tuple [.int (0), .int (1)]) := (rfl)
def sem_polynomials_times : FnS := runDef g_polynomials_times 2 7 ir_polynomials_times
def ir_polynomial_parted : Ss := (.cons (.par 3 4 false false (.blt .list (.cons (.var 0) .nil)) (.bin .Mult (.lst (.cons (.glob 0) .nil)) (.blt .max (.cons (.lit (.int (0))) (.cons (.bin .Add (.bin .Sub (.blt .len (.cons (.var 0) .nil)) (.blt .len (.cons (.var 1) .nil))) (.lit (.int (1)))) .nil)))) []) (.cons (.for_ (.one 2) (.rng (.cons (.bin .Sub (.blt .len (.cons (.var 4) .nil)) (.lit (.int (1)))) (.cons (.neg (.lit (.int (1)))) (.cons (.neg (.lit (.int (1)))) .nil)))) (.cons (.setI 4 (.var 2) (.call 0 (.cons (.idx (.var 3) (.bin .Sub (.bin .Add (.var 2) (.blt .len (.cons (.var 1) .nil))) (.lit (.int (1))))) (.cons (.idx (.var 1) (.neg (.lit (.int (1))))) .nil))) [3]) (.cons (.asg 5 true (.tup (.cons (.neg (.idx (.idx (.var 4) (.var 2)) (.lit (.int (0))))) (.cons (.idx (.idx (.var 4) (.var 2)) (.lit (.int (1)))) .nil))) [4]) (.cons (.for_ (.many [6, 7]) (.enum (.var 1)) (.cons (.setI 3 (.bin .Add (.var 2) (.var 6)) (.call 2 (.cons (.idx (.var 3) (.bin .Add (.var 2) (.var 6))) (.cons (.call 3 (.cons (.var 7) (.cons (.var 5) .nil))) .nil))) [3]) .nil) []) .nil))) [4]) (.cons (.ret (.tup (.cons (.call 1 (.cons (.var 4) .nil)) (.cons (.call 1 (.cons (.var 3) .nil)) .nil))) [3, 4]) .nil)))
def g_polynomial_parted : Pv.Ctx := ctxOf [sem_fractions_over, sem_polynomial_of, sem_fractions_added, sem_fractions_times] [.tuple [.int (0), .int (1)]]
@[simp] theorem gf_polynomial_parted_0 : g_polynomial_parted.fn 0 = sem_fractions_over := (rfl)
@[simp] theorem gf_polynomial_parted_1 : g_polynomial_parted.fn 1 = sem_polynomial_of := (rfl)
@[simp] theorem gf_polynomial_parted_2 : g_polynomial_parted.fn 2 = sem_fractions_added := (rfl)
@[simp] theorem gf_polynomial_parted_3 : g_polynomial_parted.fn 3 = sem_fractions_times := (rfl)
@[simp] theorem gc_polynomial_parted_0 : g_polynomial_parted.con 0 = some (.tuple [.int (0), .int (1)]) := (rfl)
def sem_polynomial_parted : FnS := runDef g_polynomial_parted 2 8 ir_polynomial_parted
def ir_polynomial_first_one : Ss := (.cons (.ret (.ite (.cmp .NotEq (.var 0) (.tup .nil)) (.call 0 (.cons (.var 0) (.cons (.call 1 (.cons (.glob 0) (.cons (.idx (.var 0) (.neg (.lit (.int (1))))) .nil))) .nil))) (.tup .nil)) []) .nil)
def g_polynomial_first_one : Pv.Ctx := ctxOf [sem_polynomial_scaled, sem_fractions_over] [.tuple [.int (1), .int (1)]]
@[simp] theorem gf_polynomial_first_one_0 : g_polynomial_first_one.fn 0 = sem_polynomial_scaled := (rfl)
@[simp] theorem gf_polynomial_first_one_1 : g_polynomial_first_one.fn 1 = sem_fractions_over := (rfl)
@[simp] theorem gc_polynomial_first_one_0 : g_polynomial_first_one.con 0 = some (.tuple [.int (1), .int (1)]) := (rfl)
def sem_polynomial_first_one : FnS := runDef g_polynomial_first_one 1 1 ir_polynomial_first_one
def ir_polynomial_value : Ss := (.cons (.asg 2 true (.glob 0) []) (.cons (.for_ (.one 3) (.it (.slc (.var 0) (.lit .none) (.lit .none) (-1))) (.cons (.asg 2 true (.call 0 (.cons (.call 1 (.cons (.var 2) (.cons (.var 1) .nil))) (.cons (.var 3) .nil))) []) .nil) []) (.cons (.ret (.var 2) []) .nil)))
def g_polynomial_value : Pv.Ctx := ctxOf [sem_fractions_added, sem_fractions_times] [.tuple [.int (0), .int (1)]]
@[simp] theorem gf_polynomial_value_0 : g_polynomial_value.fn 0 = sem_fractions_added := (rfl)
@[simp] theorem gf_polynomial_value_1 : g_polynomial_value.fn 1 = sem_fractions_times := (rfl)
@[simp] theorem gc_polynomial_value_0 : g_polynomial_value.con 0 = some (.tuple [.int (0), .int (1)]) := (rfl)
def sem_polynomial_value : FnS := runDef g_polynomial_value 2 4 ir_polynomial_value
def ir_polynomial_slope : Ss := (.cons (.ret (.call 0 (.cons (.slc (.comp [1, 2] (.many [1, 2]) (.enum (.var 0)) .nil (.call 1 (.cons (.var 2) (.cons (.tup (.cons (.var 1) (.cons (.lit (.int (1))) .nil))) .nil)))) (.lit (.int (1))) (.lit .none) (1)) .nil)) []) .nil)
def g_polynomial_slope : Pv.Ctx := ctxOf [sem_polynomial_of, sem_fractions_times] []
@[simp] theorem gf_polynomial_slope_0 : g_polynomial_slope.fn 0 = sem_polynomial_of := (rfl)
@[simp] theorem gf_polynomial_slope_1 : g_polynomial_slope.fn 1 = sem_fractions_times := (rfl)
def sem_polynomial_slope : FnS := runDef g_polynomial_slope 1 3 ir_polynomial_slope
def ir_polynomial_led : Ss := (.cons (.par 3 4 false true (.lst .nil) (.glob 0) []) (.cons (.for_ (.one 2) (.it (.var 0)) (.cons (.app 3 (.call 1 (.cons (.var 2) (.cons (.var 4) .nil))) []) (.cons (.asg 4 true (.call 1 (.cons (.var 4) (.cons (.var 1) .nil))) []) .nil)) []) (.cons (.ret (.call 0 (.cons (.var 3) .nil)) [3]) .nil)))
def g_polynomial_led : Pv.Ctx := ctxOf [sem_polynomial_of, sem_fractions_times] [.tuple [.int (1), .int (1)]]
@[simp] theorem gf_polynomial_led_0 : g_polynomial_led.fn 0 = sem_polynomial_of := (rfl)
@[simp] theorem gf_polynomial_led_1 : g_polynomial_led.fn 1 = sem_fractions_times := (rfl)
@[simp] theorem gc_polynomial_led_0 : g_polynomial_led.con 0 = some (.tuple [.int (1), .int (1)]) := (rfl)
def sem_polynomial_led : FnS := runDef g_polynomial_led 2 5 ir_polynomial_led
def ir_even_part : Ss := (.cons (.ret (.call 0 (.cons (.slc (.var 0) (.lit .none) (.lit .none) (2)) .nil)) []) .nil)
def g_even_part : Pv.Ctx := ctxOf [sem_polynomial_of] []
@[simp] theorem gf_even_part_0 : g_even_part.fn 0 = sem_polynomial_of := (rfl)
def sem_even_part : FnS := runDef g_even_part 1 1 ir_even_part
def ir_odd_part : Ss := (.cons (.ret (.call 0 (.cons (.slc (.var 0) (.lit (.int (1))) (.lit .none) (2)) .nil)) []) .nil)
def g_odd_part : Pv.Ctx := ctxOf [sem_polynomial_of] []
@[simp] theorem gf_odd_part_0 : g_odd_part.fn 0 = sem_polynomial_of := (rfl)
def sem_odd_part : FnS := runDef g_odd_part 1 1 ir_odd_part
def ir_polynomial_whole : Ss := (.cons (.par 3 4 true true (.lit (.int (1))) (.lit (.int (0))) []) (.cons (.for_ (.one 1) (.it (.var 0)) (.cons (.asg 3 true (.bin .FloorDiv (.bin .Mult (.var 3) (.idx (.var 1) (.lit (.int (1))))) (.blt .gcd (.cons (.var 3) (.cons (.idx (.var 1) (.lit (.int (1)))) .nil)))) []) .nil) []) (.cons (.asg 2 true (.comp [1] (.one 1) (.it (.var 0)) .nil (.bin .Mult (.idx (.var 1) (.lit (.int (0)))) (.bin .FloorDiv (.var 3) (.idx (.var 1) (.lit (.int (1))))))) []) (.cons (.for_ (.one 1) (.it (.var 2)) (.cons (.asg 4 true (.blt .gcd (.cons (.var 4) (.cons (.var 1) .nil))) []) .nil) []) (.cons (.ret (.blt .tuple (.cons (.comp [1] (.one 1) (.it (.var 2)) .nil (.call 0 (.cons (.var 1) (.cons (.var 4) .nil)))) .nil)) []) .nil)))))
def g_polynomial_whole : Pv.Ctx := ctxOf [sem_fraction_low] []
@[simp] theorem gf_polynomial_whole_0 : g_polynomial_whole.fn 0 = sem_fraction_low := (rfl)
def sem_polynomial_whole : FnS := runDef g_polynomial_whole 1 5 ir_polynomial_whole
def ir__law_source : Ss := (.cons (.asg 1 true (.lit (.int (11))) []) (.cons (.for_ (.one 2) (.it (.var 0)) (.cons (.asg 1 true (.bin .Mod (.blt .int (.cons (.bin .Add (.bin .Add (.bin .Mult (.var 1) (.lit (.int (69069)))) (.bin .Mult (.var 2) (.lit (.int (31))))) (.lit (.int (5)))) .nil)) (.lit (.int (2147483629)))) []) .nil) []) (.cons (.ret (.srcNew (.slc (.comp [2] (.one 2) (.it (.var 0)) .nil (.blt .abs (.cons (.var 2) .nil))) (.lit .none) (.lit .none) (-1)) (.lit (.int (1))) (.var 1) (.lit (.int (0)))) []) .nil)))
def g__law_source : Pv.Ctx := ctxOf [] []
def sem__law_source : FnS := runDef g__law_source 1 3 ir__law_source
def ir__law_pick : Ss := (.cons (.whl (.andv (.cmp .Gt (.var 1) (.lit (.int (1)))) (.andv (.cmp .Lt (.srcI 0 0) (.lit (.int (2)))) (.cmp .Gt (.srcN 0) (.lit (.int (0)))))) (.cons (.srcPop 0) .nil) []) (.cons (.asg 2 true (.srcI 0 0) []) (.cons (.ifS (.orv (.cmp .Lt (.var 1) (.lit (.int (2)))) (.cmp .Gt (.var 2) (.lit (.int (1))))) (.cons (.srcSet 0 0 (.bin .FloorDiv (.var 2) (.blt .max (.cons (.lit (.int (1))) (.cons (.var 1) .nil)))) []) (.cons (.ret (.bin .Mod (.blt .int (.cons (.var 2) .nil)) (.blt .max (.cons (.lit (.int (1))) (.cons (.var 1) .nil)))) []) .nil)) .nil []) (.cons (.srcSet 0 2 (.bin .Add (.srcI 0 2) (.lit (.int (1)))) []) (.cons (.asg 3 true (.bin .Mod (.blt .int (.cons (.bin .Add (.srcI 0 1) (.bin .Mult (.srcI 0 2) (.lit (.int (104729))))) .nil)) (.lit (.int (998244353)))) []) (.cons (.asg 3 true (.bin .Mod (.blt .int (.cons (.bin .Add (.bin .Mult (.var 3) (.var 3)) (.bin .Mult (.srcI 0 2) (.lit (.int (17))))) .nil)) (.lit (.int (2147483647)))) []) (.cons (.srcSet 0 1 (.var 3) []) (.cons (.ret (.bin .Mod (.blt .int (.cons (.bin .FloorDiv (.var 3) (.lit (.int (16)))) .nil)) (.var 1)) []) .nil))))))))
def g__law_pick : Pv.Ctx := ctxOf [] []
def sem__law_pick : FnS := runDef g__law_pick 2 4 ir__law_pick
def ir__law_of : Ss := (.cons (.ret (.idx (.var 1) (.call 0 (.cons (.var 0) (.cons (.blt .len (.cons (.var 1) .nil)) .nil)))) []) .nil)
def g__law_of : Pv.Ctx := ctxOf [sem__law_pick] []
@[simp] theorem gf__law_of_0 : g__law_of.fn 0 = sem__law_pick := (rfl)
def sem__law_of : FnS := runDef g__law_of 2 2 ir__law_of
def ir__law_low : Ss := (.cons (.par 2 3 true true (.blt .abs (.cons (.var 0) .nil)) (.blt .abs (.cons (.var 1) .nil)) []) (.cons (.whl (.cmp .Gt (.var 3) (.lit (.int (0)))) (.cons (.par 2 3 true true (.var 3) (.bin .Mod (.blt .int (.cons (.var 2) .nil)) (.var 3)) []) .nil) []) (.cons (.asg 2 true (.ite (.cmp .Gt (.var 1) (.lit (.int (0)))) (.var 2) (.bin .Sub (.lit (.int (0))) (.var 2))) []) (.cons (.ret (.tup (.cons (.bin .FloorDiv (.var 0) (.var 2)) (.cons (.bin .FloorDiv (.var 1) (.var 2)) .nil))) []) .nil))))
def g__law_low : Pv.Ctx := ctxOf [] []
def sem__law_low : FnS := runDef g__law_low 2 4 ir__law_low
def ir__law_plus : Ss := (.cons (.ret (.call 0 (.cons (.bin .Add (.bin .Mult (.idx (.var 0) (.lit (.int (0)))) (.idx (.var 1) (.lit (.int (1))))) (.bin .Mult (.idx (.var 1) (.lit (.int (0)))) (.idx (.var 0) (.lit (.int (1)))))) (.cons (.bin .Mult (.idx (.var 0) (.lit (.int (1)))) (.idx (.var 1) (.lit (.int (1))))) .nil))) []) .nil)
def g__law_plus : Pv.Ctx := ctxOf [sem__law_low] []
@[simp] theorem gf__law_plus_0 : g__law_plus.fn 0 = sem__law_low := (rfl)
def sem__law_plus : FnS := runDef g__law_plus 2 2 ir__law_plus
def ir__law_times : Ss := (.cons (.ret (.call 0 (.cons (.bin .Mult (.idx (.var 0) (.lit (.int (0)))) (.idx (.var 1) (.lit (.int (0))))) (.cons (.bin .Mult (.idx (.var 0) (.lit (.int (1)))) (.idx (.var 1) (.lit (.int (1))))) .nil))) []) .nil)
def g__law_times : Pv.Ctx := ctxOf [sem__law_low] []
@[simp] theorem gf__law_times_0 : g__law_times.fn 0 = sem__law_low := (rfl)
def sem__law_times : FnS := runDef g__law_times 2 2 ir__law_times
def ir__law_value : Ss := (.cons (.par 3 4 true true (.tup (.cons (.lit (.int (0))) (.cons (.lit (.int (1))) .nil))) (.tup (.cons (.lit (.int (1))) (.cons (.lit (.int (1))) .nil))) []) (.cons (.for_ (.one 2) (.it (.var 0)) (.cons (.par 3 4 true true (.call 0 (.cons (.var 3) (.cons (.call 1 (.cons (.var 2) (.cons (.var 4) .nil))) .nil))) (.call 1 (.cons (.var 4) (.cons (.var 1) .nil))) []) .nil) []) (.cons (.ret (.var 3) []) .nil)))
def g__law_value : Pv.Ctx := ctxOf [sem__law_plus, sem__law_times] []
@[simp] theorem gf__law_value_0 : g__law_value.fn 0 = sem__law_plus := (rfl)
@[simp] theorem gf__law_value_1 : g__law_value.fn 1 = sem__law_times := (rfl)
def sem__law_value : FnS := runDef g__law_value 2 5 ir__law_value
def ir__law_trimmed : Ss := (.cons (.asg 1 false (.blt .list (.cons (.var 0) .nil)) []) (.cons (.whl (.andv (.cmp .NotEq (.var 1) (.lst .nil)) (.cmp .Eq (.idx (.var 1) (.neg (.lit (.int (1))))) (.tup (.cons (.lit (.int (0))) (.cons (.lit (.int (1))) .nil))))) (.cons (.pop 1) .nil) [1]) (.cons (.ret (.blt .tuple (.cons (.var 1) .nil)) [1]) .nil)))
def g__law_trimmed : Pv.Ctx := ctxOf [] []
def sem__law_trimmed : FnS := runDef g__law_trimmed 1 2 ir__law_trimmed
def ir__law_polynomial : Ss := (.cons (.asg 3 false (.lst .nil) []) (.cons (.for_ (.one 4) (.rng (.cons (.call 1 (.cons (.var 0) (.cons (.bin .Add (.var 1) (.lit (.int (1)))) .nil))) .nil)) (.cons (.app 3 (.call 2 (.cons (.bin .Sub (.call 1 (.cons (.var 0) (.cons (.bin .Add (.bin .Mult (.lit (.int (2))) (.var 2)) (.lit (.int (1)))) .nil))) (.var 2)) (.cons (.call 3 (.cons (.var 0) (.cons (.lst (.cons (.lit (.int (1))) (.cons (.lit (.int (1))) (.cons (.lit (.int (1))) (.cons (.lit (.int (2))) (.cons (.lit (.int (3))) .nil)))))) .nil))) .nil))) []) .nil) []) (.cons (.ret (.call 0 (.cons (.var 3) .nil)) [3]) .nil)))
def g__law_polynomial : Pv.Ctx := ctxOf [sem__law_trimmed, sem__law_pick, sem__law_low, sem__law_of] []
@[simp] theorem gf__law_polynomial_0 : g__law_polynomial.fn 0 = sem__law_trimmed := (rfl)
@[simp] theorem gf__law_polynomial_1 : g__law_polynomial.fn 1 = sem__law_pick := (rfl)
@[simp] theorem gf__law_polynomial_2 : g__law_polynomial.fn 2 = sem__law_low := (rfl)
@[simp] theorem gf__law_polynomial_3 : g__law_polynomial.fn 3 = sem__law_of := (rfl)
def sem__law_polynomial : FnS := runDef g__law_polynomial 3 5 ir__law_polynomial
def ir__law_is_fraction : Ss := (.cons (.ifS (.orv (.notv (.isi (.var 0) "tuple")) (.cmp .NotEq (.blt .len (.cons (.var 0) .nil)) (.lit (.int (2))))) (.cons (.ret (.lit (.bool false)) []) .nil) .nil []) (.cons (.ifS (.cmp .NotEq (.comp [1] (.one 1) (.it (.var 0)) (.cons (.orv (.notv (.isi (.var 1) "int")) (.isi (.var 1) "bool")) .nil) (.var 1)) (.lst .nil)) (.cons (.ret (.lit (.bool false)) []) .nil) .nil []) (.cons (.ret (.andv (.cmp .Gt (.idx (.var 0) (.lit (.int (1)))) (.lit (.int (0)))) (.cmp .Eq (.call 0 (.cons (.idx (.var 0) (.lit (.int (0)))) (.cons (.idx (.var 0) (.lit (.int (1)))) .nil))) (.var 0))) []) .nil)))
def g__law_is_fraction : Pv.Ctx := ctxOf [sem__law_low] []
@[simp] theorem gf__law_is_fraction_0 : g__law_is_fraction.fn 0 = sem__law_low := (rfl)
def sem__law_is_fraction : FnS := runDef g__law_is_fraction 1 2 ir__law_is_fraction
def ir__law_is_polynomial : Ss := (.cons (.ifS (.orv (.notv (.isi (.var 0) "tuple")) (.cmp .NotEq (.comp [1] (.one 1) (.it (.var 0)) (.cons (.notv (.call 0 (.cons (.var 1) .nil))) .nil) (.var 1)) (.lst .nil))) (.cons (.ret (.lit (.bool false)) []) .nil) .nil []) (.cons (.ret (.orv (.cmp .Eq (.var 0) (.tup .nil)) (.cmp .NotEq (.idx (.var 0) (.neg (.lit (.int (1))))) (.tup (.cons (.lit (.int (0))) (.cons (.lit (.int (1))) .nil))))) []) .nil))
def g__law_is_polynomial : Pv.Ctx := ctxOf [sem__law_is_fraction] []
@[simp] theorem gf__law_is_polynomial_0 : g__law_is_polynomial.fn 0 = sem__law_is_fraction := (rfl)
def sem__law_is_polynomial : FnS := runDef g__law_is_polynomial 1 2 ir__law_is_polynomial
def ir__law_values : Ss := (.cons (.asg 2 true (.lst (.cons (.var 1) (.cons (.blt .list (.cons (.var 1) .nil)) (.cons (.bin .Add (.var 1) (.tup (.cons (.tup (.cons (.lit (.int (0))) (.cons (.lit (.int (1))) .nil))) .nil))) (.cons (.bin .Add (.var 1) (.tup (.cons (.tup (.cons (.lit (.int (1))) (.cons (.neg (.lit (.int (2)))) .nil))) .nil))) (.cons (.bin .Add (.var 1) (.tup (.cons (.tup (.cons (.lit (.int (2))) (.cons (.lit (.int (4))) .nil))) .nil))) (.cons (.bin .Add (.var 1) (.tup (.cons (.lit (.int (1))) .nil))) (.cons (.bin .Add (.var 1) (.tup (.cons (.lit .none) .nil))) (.cons (.lit .none) (.cons (.lit (.int (7))) .nil)))))))))) []) (.cons (.ret (.bin .Add (.var 2) (.lst (.cons (.bin .Add (.var 1) (.tup (.cons (.tup (.cons (.lit (.bool true)) (.cons (.lit (.int (1))) .nil))) .nil))) (.cons (.bin .Add (.tup (.cons (.tup (.cons (.lit (.int (0))) (.cons (.lit (.int (1))) .nil))) .nil)) (.var 1)) (.cons (.tup (.cons (.tup (.cons (.lit (.int (0))) (.cons (.lit (.int (1))) .nil))) .nil)) (.cons (.tup (.cons (.var 1) .nil)) (.cons (.bin .Add (.var 1) (.tup (.cons (.tup (.cons (.lit (.int (1))) (.cons (.lit (.int (1))) (.cons (.lit (.int (1))) .nil)))) .nil))) (.cons (.slc (.var 1) (.lit .none) (.lit .none) (-1)) (.cons (.tup .nil) .nil))))))))) []) .nil))
def g__law_values : Pv.Ctx := ctxOf [] []
def sem__law_values : FnS := runDef g__law_values 2 3 ir__law_values
def ir__law_fractions_right : Ss := (.cons (.for_ (.one 1) (.rng (.cons (.lit (.int (4))) .nil)) (.cons (.asg 2 true (.call 0 (.cons (.var 0) (.cons (.lst (.cons (.lit (.int (4))) (.cons (.lit (.int (30))) (.cons (.bin .Pow (.lit (.int (10))) (.lit (.int (12)))) .nil)))) .nil))) []) (.cons (.unp [9, 10] (.comp [7] (.one 7) (.rng (.cons (.lit (.int (2))) .nil)) .nil (.call 1 (.cons (.bin .Sub (.call 10 (.cons (.var 0) (.cons (.bin .Add (.bin .Mult (.lit (.int (2))) (.var 2)) (.lit (.int (1)))) .nil))) (.var 2)) (.cons (.bin .Add (.lit (.int (1))) (.call 10 (.cons (.var 0) (.cons (.var 2) .nil)))) .nil)))) []) (.cons (.asg 3 true (.tup (.cons (.bin .Sub (.lit (.int (0))) (.idx (.var 10) (.lit (.int (0))))) (.cons (.idx (.var 10) (.lit (.int (1)))) .nil))) []) (.cons (.asg 4 true (.lst (.cons (.call 2 (.cons (.var 9) (.cons (.var 10) .nil))) (.cons (.call 3 (.cons (.var 9) (.cons (.var 10) .nil))) (.cons (.call 4 (.cons (.var 9) (.cons (.var 10) .nil))) (.cons (.call 5 (.cons (.var 9) (.cons (.var 10) .nil))) (.cons (.call 6 (.cons (.var 9) .nil)) .nil)))))) []) (.cons (.asg 5 true (.ite (.cmp .Eq (.idx (.var 9) (.lit (.int (0)))) (.lit (.int (0)))) (.lit (.int (0))) (.bin .FloorDiv (.idx (.var 9) (.lit (.int (0)))) (.blt .abs (.cons (.idx (.var 9) (.lit (.int (0)))) .nil)))) []) (.cons (.asg 6 true (.lst (.cons (.call 7 (.cons (.var 9) (.cons (.var 10) .nil))) (.cons (.call 7 (.cons (.var 9) (.cons (.var 3) .nil))) (.cons (.call 8 (.cons (.var 9) (.cons (.var 10) .nil))) (.cons (.cmp .Lt (.bin .Mult (.idx (.var 9) (.lit (.int (0)))) (.idx (.var 10) (.lit (.int (1))))) (.bin .Mult (.idx (.var 10) (.lit (.int (0)))) (.idx (.var 9) (.lit (.int (1)))))) (.cons (.var 5) .nil)))))) []) (.cons (.ifS (.cmp .NotEq (.blt .repr (.cons (.var 4) .nil)) (.blt .repr (.cons (.var 6) .nil))) (.cons (.ret (.lit (.bool false)) []) .nil) .nil []) (.cons (.ifS (.andv (.cmp .NotEq (.idx (.var 10) (.lit (.int (0)))) (.lit (.int (0)))) (.cmp .NotEq (.blt .repr (.cons (.call 4 (.cons (.call 13 (.cons (.var 9) (.cons (.var 10) .nil))) (.cons (.var 10) .nil))) .nil)) (.blt .repr (.cons (.var 9) .nil)))) (.cons (.ret (.lit (.bool false)) []) .nil) .nil []) (.cons (.asg 7 true (.call 0 (.cons (.var 0) (.cons (.lst (.cons (.lit (.int (1))) (.cons (.neg (.lit (.int (1)))) (.cons (.lit (.int (6))) (.cons (.neg (.lit (.int (4)))) .nil))))) .nil))) []) (.cons (.ifS (.cmp .NotEq (.blt .repr (.cons (.call 9 (.cons (.bin .Mult (.idx (.var 9) (.lit (.int (0)))) (.var 7)) (.cons (.bin .Mult (.idx (.var 9) (.lit (.int (1)))) (.var 7)) .nil))) .nil)) (.blt .repr (.cons (.var 9) .nil))) (.cons (.ret (.lit (.bool false)) []) .nil) .nil []) (.cons (.for_ (.one 8) (.it (.tup (.cons (.var 9) (.cons (.tup (.cons (.idx (.var 9) (.lit (.int (0)))) (.cons (.bin .Sub (.lit (.int (0))) (.idx (.var 9) (.lit (.int (1))))) .nil))) (.cons (.tup (.cons (.bin .Mult (.lit (.int (2))) (.idx (.var 9) (.lit (.int (0))))) (.cons (.bin .Mult (.lit (.int (2))) (.idx (.var 9) (.lit (.int (1))))) .nil))) (.cons (.lst (.cons (.idx (.var 9) (.lit (.int (0)))) (.cons (.idx (.var 9) (.lit (.int (1)))) .nil))) (.cons (.bin .Add (.var 9) (.tup (.cons (.lit (.int (1))) .nil))) (.cons (.tup (.cons (.idx (.var 9) (.lit (.int (0)))) (.cons (.lit (.bool true)) .nil))) (.cons (.lit .none) (.cons (.tup (.cons (.idx (.var 9) (.lit (.int (0)))) (.cons (.lit (.int (0))) .nil))) .nil)))))))))) (.cons (.ifS (.cmp .NotEq (.blt .repr (.cons (.call 11 (.cons (.var 8) .nil)) .nil)) (.blt .repr (.cons (.call 12 (.cons (.var 8) .nil)) .nil))) (.cons (.ret (.lit (.bool false)) []) .nil) .nil []) .nil) []) .nil))))))))))) []) (.cons (.ret (.lit (.bool true)) []) .nil))
def g__law_fractions_right : Pv.Ctx := ctxOf [sem__law_of, sem__law_low, sem_fractions_added, sem_fractions_less, sem_fractions_times, sem_is_ahead, sem_sign_of, sem__law_plus, sem__law_times, sem_fraction_low, sem__law_pick, sem_is_fraction, sem__law_is_fraction, sem_fractions_over] []
@[simp] theorem gf__law_fractions_right_0 : g__law_fractions_right.fn 0 = sem__law_of := (rfl)
@[simp] theorem gf__law_fractions_right_1 : g__law_fractions_right.fn 1 = sem__law_low := (rfl)
@[simp] theorem gf__law_fractions_right_2 : g__law_fractions_right.fn 2 = sem_fractions_added := (rfl)
@[simp] theorem gf__law_fractions_right_3 : g__law_fractions_right.fn 3 = sem_fractions_less := (rfl)
@[simp] theorem gf__law_fractions_right_4 : g__law_fractions_right.fn 4 = sem_fractions_times := (rfl)
@[simp] theorem gf__law_fractions_right_5 : g__law_fractions_right.fn 5 = sem_is_ahead := (rfl)
@[simp] theorem gf__law_fractions_right_6 : g__law_fractions_right.fn 6 = sem_sign_of := (rfl)
@[simp] theorem gf__law_fractions_right_7 : g__law_fractions_right.fn 7 = sem__law_plus := (rfl)
@[simp] theorem gf__law_fractions_right_8 : g__law_fractions_right.fn 8 = sem__law_times := (rfl)
@[simp] theorem gf__law_fractions_right_9 : g__law_fractions_right.fn 9 = sem_fraction_low := (rfl)
@[simp] theorem gf__law_fractions_right_10 : g__law_fractions_right.fn 10 = sem__law_pick := (rfl)
@[simp] theorem gf__law_fractions_right_11 : g__law_fractions_right.fn 11 = sem_is_fraction := (rfl)
@[simp] theorem gf__law_fractions_right_12 : g__law_fractions_right.fn 12 = sem__law_is_fraction := (rfl)
@[simp] theorem gf__law_fractions_right_13 : g__law_fractions_right.fn 13 = sem_fractions_over := (rfl)
def sem__law_fractions_right : FnS := runDef g__law_fractions_right 1 11 ir__law_fractions_right
def ir__law_whole_right : Ss := (.cons (.par 3 4 true true (.call 1 (.cons (.var 0) .nil)) (.lit (.int (0))) []) (.cons (.ifS (.orv (.cmp .NotEq (.blt .len (.cons (.var 3) .nil)) (.blt .len (.cons (.var 0) .nil))) (.cmp .NotEq (.comp [1] (.one 1) (.it (.var 3)) (.cons (.cmp .NotEq (.idx (.var 1) (.lit (.int (1)))) (.lit (.int (1)))) .nil) (.var 1)) (.lst .nil))) (.cons (.ret (.lit (.bool false)) []) .nil) .nil []) (.cons (.for_ (.one 1) (.it (.var 3)) (.cons (.par 5 6 true true (.blt .abs (.cons (.idx (.var 1) (.lit (.int (0)))) .nil)) (.var 4) []) (.cons (.whl (.cmp .Gt (.var 6) (.lit (.int (0)))) (.cons (.par 5 6 true true (.var 6) (.bin .Mod (.blt .int (.cons (.var 5) .nil)) (.var 6)) []) .nil) []) (.cons (.asg 4 true (.var 5) []) .nil))) []) (.cons (.asg 2 true (.call 0 (.cons (.idx (.var 3) (.neg (.lit (.int (1))))) (.cons (.ite (.cmp .Gt (.idx (.idx (.var 0) (.neg (.lit (.int (1))))) (.lit (.int (0)))) (.lit (.int (0)))) (.tup (.cons (.idx (.idx (.var 0) (.neg (.lit (.int (1))))) (.lit (.int (1)))) (.cons (.idx (.idx (.var 0) (.neg (.lit (.int (1))))) (.lit (.int (0)))) .nil))) (.tup (.cons (.bin .Sub (.lit (.int (0))) (.idx (.idx (.var 0) (.neg (.lit (.int (1))))) (.lit (.int (1))))) (.cons (.bin .Sub (.lit (.int (0))) (.idx (.idx (.var 0) (.neg (.lit (.int (1))))) (.lit (.int (0))))) .nil)))) .nil))) []) (.cons (.ret (.andv (.cmp .Eq (.var 4) (.lit (.int (1)))) (.andv (.cmp .Gt (.idx (.var 2) (.lit (.int (0)))) (.lit (.int (0)))) (.cmp .Eq (.comp [1] (.one 1) (.it (.var 0)) .nil (.call 0 (.cons (.var 1) (.cons (.var 2) .nil)))) (.blt .list (.cons (.var 3) .nil))))) []) .nil)))))
def g__law_whole_right : Pv.Ctx := ctxOf [sem__law_times, sem_polynomial_whole] []
@[simp] theorem gf__law_whole_right_0 : g__law_whole_right.fn 0 = sem__law_times := (rfl)
@[simp] theorem gf__law_whole_right_1 : g__law_whole_right.fn 1 = sem_polynomial_whole := (rfl)
def sem__law_whole_right : FnS := runDef g__law_whole_right 1 7 ir__law_whole_right
def ir_law : Ss := (.cons (.asg 1 true (.call 0 (.cons (.var 0) .nil)) []) (.cons (.par 3 10 true true (.call 5 (.cons (.var 1) (.cons (.lit (.int (7))) (.cons (.lit (.int (5))) .nil)))) (.call 5 (.cons (.var 1) (.cons (.lit (.int (5))) (.cons (.lit (.int (4))) .nil)))) []) (.cons (.asg 2 true (.call 1 (.cons (.var 1) (.cons (.lit (.int (4))) .nil))) []) (.cons (.asg 3 true (.ite (.cmp .Gt (.var 2) (.lit (.int (0)))) (.var 3) (.call 6 (.cons (.var 10) (.cons (.call 5 (.cons (.var 1) (.cons (.lit (.int (3))) (.cons (.lit (.int (3))) .nil)))) .nil)))) []) (.cons (.par 11 12 true true (.blt .repr (.cons (.lst (.cons (.var 3) (.cons (.var 10) .nil))) .nil)) (.call 7 (.cons (.bin .Sub (.call 1 (.cons (.var 1) (.cons (.lit (.int (9))) .nil))) (.lit (.int (4)))) (.cons (.bin .Add (.lit (.int (1))) (.call 1 (.cons (.var 1) (.cons (.lit (.int (3))) .nil)))) .nil))) []) (.cons (.asg 4 true (.lst (.cons (.call 8 (.cons (.var 3) (.cons (.var 10) .nil))) (.cons (.call 9 (.cons (.var 3) (.cons (.var 10) .nil))) (.cons (.call 6 (.cons (.var 3) (.cons (.var 10) .nil))) .nil)))) []) (.cons (.asg 4 true (.bin .Add (.var 4) (.lst (.cons (.call 15 (.cons (.var 3) (.cons (.var 12) .nil))) (.cons (.call 16 (.cons (.var 3) (.cons (.var 12) .nil))) (.cons (.call 17 (.cons (.bin .Add (.blt .list (.cons (.var 3) .nil)) (.bin .Mult (.lst (.cons (.tup (.cons (.lit (.int (0))) (.cons (.lit (.int (1))) .nil))) .nil)) (.lit (.int (2))))) .nil)) .nil))))) []) (.cons (.ifS (.cmp .NotEq (.comp [20] (.one 20) (.it (.var 4)) (.cons (.orv (.notv (.call 23 (.cons (.var 20) .nil))) (.cmp .IsNot (.call 22 (.cons (.var 20) .nil)) (.lit (.bool true)))) .nil) (.var 20)) (.lst .nil)) (.cons (.ret (.lit (.bool false)) []) .nil) .nil []) (.cons (.asg 5 true (.ite (.cmp .NotEq (.var 10) (.tup .nil)) (.call 10 (.cons (.var 3) (.cons (.var 10) .nil))) (.tup (.cons (.tup .nil) (.cons (.var 3) .nil)))) []) (.cons (.ifS (.andv (.cmp .NotEq (.var 10) (.tup .nil)) (.orv (.cmp .GtE (.blt .len (.cons (.idx (.var 5) (.lit (.int (1)))) .nil)) (.blt .len (.cons (.var 10) .nil))) (.cmp .NotEq (.comp [20] (.one 20) (.it (.var 5)) (.cons (.notv (.call 23 (.cons (.var 20) .nil))) .nil) (.var 20)) (.lst .nil)))) (.cons (.ret (.lit (.bool false)) []) .nil) .nil []) (.cons (.par 13 14 true true (.call 11 (.cons (.var 3) .nil)) (.call 12 (.cons (.var 3) .nil)) []) (.cons (.for_ (.one 6) (.rng (.cons (.lit (.int (14))) .nil)) (.cons (.asg 15 true (.call 7 (.cons (.bin .Sub (.var 6) (.lit (.int (6)))) (.cons (.ite (.cmp .Lt (.var 6) (.lit (.int (12)))) (.lit (.int (1))) (.lit (.int (3)))) .nil))) []) (.cons (.par 18 19 true true (.call 18 (.cons (.var 3) (.cons (.var 15) .nil))) (.call 18 (.cons (.var 10) (.cons (.var 15) .nil))) []) (.cons (.asg 16 true (.lst (.cons (.call 19 (.cons (.var 18) (.cons (.var 19) .nil))) (.cons (.call 19 (.cons (.var 18) (.cons (.tup (.cons (.bin .Sub (.lit (.int (0))) (.idx (.var 19) (.lit (.int (0))))) (.cons (.idx (.var 19) (.lit (.int (1)))) .nil))) .nil))) (.cons (.call 13 (.cons (.var 18) (.cons (.var 19) .nil))) (.cons (.call 13 (.cons (.var 18) (.cons (.var 12) .nil))) .nil))))) []) (.cons (.asg 16 true (.bin .Add (.var 16) (.lst (.cons (.call 18 (.cons (.var 3) (.cons (.call 13 (.cons (.var 12) (.cons (.var 15) .nil))) .nil))) (.cons (.var 18) .nil)))) []) (.cons (.ifS (.orv (.cmp .NotEq (.comp [20] (.one 20) (.it (.var 4)) .nil (.call 18 (.cons (.var 20) (.cons (.var 15) .nil)))) (.var 16)) (.cmp .NotEq (.blt .repr (.cons (.call 24 (.cons (.var 3) (.cons (.var 15) .nil))) .nil)) (.blt .repr (.cons (.var 18) .nil)))) (.cons (.ret (.lit (.bool false)) []) .nil) .nil []) (.cons (.asg 17 true (.call 13 (.cons (.var 15) (.cons (.var 15) .nil))) []) (.cons (.ifS (.cmp .NotEq (.call 19 (.cons (.call 18 (.cons (.var 13) (.cons (.var 17) .nil))) (.cons (.call 13 (.cons (.var 15) (.cons (.call 18 (.cons (.var 14) (.cons (.var 17) .nil))) .nil))) .nil))) (.var 18)) (.cons (.ret (.lit (.bool false)) []) .nil) .nil []) (.cons (.ifS (.cmp .NotEq (.call 19 (.cons (.call 13 (.cons (.call 18 (.cons (.idx (.var 5) (.lit (.int (0)))) (.cons (.var 15) .nil))) (.cons (.var 19) .nil))) (.cons (.call 18 (.cons (.idx (.var 5) (.lit (.int (1)))) (.cons (.var 15) .nil))) .nil))) (.var 18)) (.cons (.ret (.lit (.bool false)) []) .nil) .nil []) .nil)))))))) []) (.cons (.asg 7 true (.call 2 (.cons (.slc (.comp [6, 21] (.many [6, 21]) (.enum (.var 3)) .nil (.call 13 (.cons (.var 21) (.cons (.tup (.cons (.var 6) (.cons (.lit (.int (1))) .nil))) .nil)))) (.lit (.int (1))) (.lit .none) (1)) .nil)) []) (.cons (.ifS (.cmp .NotEq (.blt .repr (.cons (.call 20 (.cons (.var 3) .nil)) .nil)) (.blt .repr (.cons (.var 7) .nil))) (.cons (.ret (.lit (.bool false)) []) .nil) .nil []) (.cons (.ifS (.orv (.andv (.cmp .NotEq (.var 3) (.tup .nil)) (.notv (.call 21 (.cons (.var 3) .nil)))) (.andv (.cmp .Eq (.var 3) (.tup .nil)) (.cmp .NotEq (.blt .repr (.cons (.lst (.cons (.call 25 (.cons (.var 3) .nil)) (.cons (.var 3) .nil))) .nil)) (.lit (.str "[(), ()]"))))) (.cons (.ret (.lit (.bool false)) []) .nil) .nil []) (.cons (.asg 8 true (.call 3 (.cons (.var 3) .nil)) []) (.cons (.ifS (.andv (.cmp .NotEq (.var 3) (.tup .nil)) (.orv (.cmp .NotEq (.idx (.var 8) (.neg (.lit (.int (1))))) (.tup (.cons (.lit (.int (1))) (.cons (.lit (.int (1))) .nil)))) (.cmp .NotEq (.comp [20] (.one 20) (.it (.var 8)) .nil (.call 13 (.cons (.var 20) (.cons (.idx (.var 3) (.neg (.lit (.int (1))))) .nil)))) (.blt .list (.cons (.var 3) .nil))))) (.cons (.ret (.lit (.bool false)) []) .nil) .nil []) (.cons (.for_ (.one 9) (.it (.call 4 (.cons (.var 1) (.cons (.var 3) .nil)))) (.cons (.ifS (.cmp .NotEq (.blt .repr (.cons (.call 22 (.cons (.var 9) .nil)) .nil)) (.blt .repr (.cons (.call 23 (.cons (.var 9) .nil)) .nil))) (.cons (.ret (.lit (.bool false)) []) .nil) .nil []) .nil) []) (.cons (.ret (.andv (.call 14 (.cons (.var 1) .nil)) (.cmp .Eq (.blt .repr (.cons (.lst (.cons (.var 3) (.cons (.var 10) .nil))) .nil)) (.var 11))) []) .nil)))))))))))))))))))
def g_law : Pv.Ctx := ctxOf [sem__law_source, sem__law_pick, sem__law_trimmed, sem_polynomial_first_one, sem__law_values, sem__law_polynomial, sem_polynomials_times, sem__law_low, sem_polynomials_added, sem_polynomials_less, sem_polynomial_parted, sem_even_part, sem_odd_part, sem__law_times, sem__law_fractions_right, sem_polynomial_scaled, sem_polynomial_led, sem_polynomial_of, sem__law_value, sem__law_plus, sem_polynomial_slope, sem__law_whole_right, sem_is_polynomial, sem__law_is_polynomial, sem_polynomial_value, sem_polynomial_whole] []
@[simp] theorem gf_law_0 : g_law.fn 0 = sem__law_source := (rfl)
@[simp] theorem gf_law_1 : g_law.fn 1 = sem__law_pick := (rfl)
@[simp] theorem gf_law_2 : g_law.fn 2 = sem__law_trimmed := (rfl)
@[simp] theorem gf_law_3 : g_law.fn 3 = sem_polynomial_first_one := (rfl)
@[simp] theorem gf_law_4 : g_law.fn 4 = sem__law_values := (rfl)
@[simp] theorem gf_law_5 : g_law.fn 5 = sem__law_polynomial := (rfl)
@[simp] theorem gf_law_6 : g_law.fn 6 = sem_polynomials_times := (rfl)
@[simp] theorem gf_law_7 : g_law.fn 7 = sem__law_low := (rfl)
@[simp] theorem gf_law_8 : g_law.fn 8 = sem_polynomials_added := (rfl)
@[simp] theorem gf_law_9 : g_law.fn 9 = sem_polynomials_less := (rfl)
@[simp] theorem gf_law_10 : g_law.fn 10 = sem_polynomial_parted := (rfl)
@[simp] theorem gf_law_11 : g_law.fn 11 = sem_even_part := (rfl)
@[simp] theorem gf_law_12 : g_law.fn 12 = sem_odd_part := (rfl)
@[simp] theorem gf_law_13 : g_law.fn 13 = sem__law_times := (rfl)
@[simp] theorem gf_law_14 : g_law.fn 14 = sem__law_fractions_right := (rfl)
@[simp] theorem gf_law_15 : g_law.fn 15 = sem_polynomial_scaled := (rfl)
@[simp] theorem gf_law_16 : g_law.fn 16 = sem_polynomial_led := (rfl)
@[simp] theorem gf_law_17 : g_law.fn 17 = sem_polynomial_of := (rfl)
@[simp] theorem gf_law_18 : g_law.fn 18 = sem__law_value := (rfl)
@[simp] theorem gf_law_19 : g_law.fn 19 = sem__law_plus := (rfl)
@[simp] theorem gf_law_20 : g_law.fn 20 = sem_polynomial_slope := (rfl)
@[simp] theorem gf_law_21 : g_law.fn 21 = sem__law_whole_right := (rfl)
@[simp] theorem gf_law_22 : g_law.fn 22 = sem_is_polynomial := (rfl)
@[simp] theorem gf_law_23 : g_law.fn 23 = sem__law_is_polynomial := (rfl)
@[simp] theorem gf_law_24 : g_law.fn 24 = sem_polynomial_value := (rfl)
@[simp] theorem gf_law_25 : g_law.fn 25 = sem_polynomial_whole := (rfl)
def sem_law : FnS := runDef g_law 1 22 ir_law
end K07

/-! K38Sem -/
set_option Elab.async false
set_option linter.all false
set_option maxRecDepth 100000
set_option maxHeartbeats 0
namespace K38
open PySem Pv

def ir_told_in : Ss := (.cons (.ret (.idx (.call 0 (.cons (.var 1) (.cons (.var 0) .nil))) (.lit (.int (1)))) []) .nil)
def g_told_in : Pv.Ctx := ctxOf [K07.sem_polynomial_parted] []
@[simp] theorem gf_told_in_0 : g_told_in.fn 0 = K07.sem_polynomial_parted := (rfl)
def sem_told_in : FnS := runDef g_told_in 2 2 ir_told_in
def ir_field_times : Ss := (.cons (.ret (.call 0 (.cons (.var 0) (.cons (.call 1 (.cons (.var 1) (.cons (.var 2) .nil))) .nil))) []) .nil)
def g_field_times : Pv.Ctx := ctxOf [sem_told_in, K07.sem_polynomials_times] []
@[simp] theorem gf_field_times_0 : g_field_times.fn 0 = sem_told_in := (rfl)
@[simp] theorem gf_field_times_1 : g_field_times.fn 1 = K07.sem_polynomials_times := (rfl)
def sem_field_times : FnS := runDef g_field_times 3 3 ir_field_times
def ir_squares_told : Ss := (.cons (.par 2 3 true true (.call 2 (.cons (.var 0) .nil)) (.call 3 (.cons (.var 0) .nil)) []) (.cons (.ifS (.cmp .Eq (.var 3) (.tup .nil)) (.cons (.ret (.call 1 (.cons (.var 2) .nil)) []) .nil) .nil []) (.cons (.asg 1 true (.call 0 (.cons (.glob 0) (.cons (.call 0 (.cons (.var 3) (.cons (.var 3) .nil))) .nil))) []) (.cons (.ret (.call 1 (.cons (.call 4 (.cons (.call 0 (.cons (.var 2) (.cons (.var 2) .nil))) (.cons (.var 1) .nil))) .nil)) []) .nil))))
def g_squares_told : Pv.Ctx := ctxOf [K07.sem_polynomials_times, K07.sem_polynomial_first_one, K07.sem_even_part, K07.sem_odd_part, K07.sem_polynomials_less] [.tuple [.tuple [.int 0, .int 1], .tuple [.int 1, .int 1]]]
@[simp] theorem gf_squares_told_0 : g_squares_told.fn 0 = K07.sem_polynomials_times := (rfl)
@[simp] theorem gf_squares_told_1 : g_squares_told.fn 1 = K07.sem_polynomial_first_one := (rfl)
@[simp] theorem gf_squares_told_2 : g_squares_told.fn 2 = K07.sem_even_part := (rfl)
@[simp] theorem gf_squares_told_3 : g_squares_told.fn 3 = K07.sem_odd_part := (rfl)
@[simp] theorem gf_squares_told_4 : g_squares_told.fn 4 = K07.sem_polynomials_less := (rfl)
@[simp] theorem gc_squares_told_0 : g_squares_told.con 0 = some (.tuple [.tuple [.int 0, .int 1], .tuple [.int 1, .int 1]]) := (rfl)
def sem_squares_told : FnS := runDef g_squares_told 1 4 ir_squares_told
def ir_square_powers : Ss := (.cons (.par 2 3 true false (.call 0 (.cons (.var 0) (.cons (.call 1 (.cons (.glob 1) (.cons (.glob 1) .nil))) .nil))) (.lst (.cons (.glob 0) .nil)) []) (.cons (.for_ (.one 1) (.rng (.cons (.bin .Sub (.blt .len (.cons (.call 3 (.cons (.var 0) .nil)) .nil)) (.lit (.int (2)))) .nil)) (.cons (.app 3 (.call 2 (.cons (.var 0) (.cons (.idxO 3 (.neg (.lit (.int (1))))) (.cons (.var 2) .nil)))) []) .nil) []) (.cons (.retO 3) .nil)))
def g_square_powers : Pv.Ctx := ctxOf [sem_told_in, K07.sem_polynomials_times, sem_field_times, sem_squares_told] [.tuple [.tuple [.int 1, .int 1]], .tuple [.tuple [.int 0, .int 1], .tuple [.int 1, .int 1]]]
@[simp] theorem gf_square_powers_0 : g_square_powers.fn 0 = sem_told_in := (rfl)
@[simp] theorem gf_square_powers_1 : g_square_powers.fn 1 = K07.sem_polynomials_times := (rfl)
@[simp] theorem gf_square_powers_2 : g_square_powers.fn 2 = sem_field_times := (rfl)
@[simp] theorem gf_square_powers_3 : g_square_powers.fn 3 = sem_squares_told := (rfl)
@[simp] theorem gc_square_powers_0 : g_square_powers.con 0 = some (.tuple [.tuple [.int 1, .int 1]]) := (rfl)
@[simp] theorem gc_square_powers_1 : g_square_powers.con 1 = some (.tuple [.tuple [.int 0, .int 1], .tuple [.int 1, .int 1]]) := (rfl)
def sem_square_powers : FnS := runDef g_square_powers 1 4 ir_square_powers
def ir_row_less : Ss := (.cons (.ret (.comp [3, 4] (.many [3, 4]) (.zipS (.var 0) (.var 1)) .nil (.call 0 (.cons (.var 3) (.cons (.call 1 (.cons (.var 4) (.cons (.var 2) .nil))) .nil)))) []) .nil)
def g_row_less : Pv.Ctx := ctxOf [K07.sem_fractions_less, K07.sem_fractions_times] []
@[simp] theorem gf_row_less_0 : g_row_less.fn 0 = K07.sem_fractions_less := (rfl)
@[simp] theorem gf_row_less_1 : g_row_less.fn 1 = K07.sem_fractions_times := (rfl)
def sem_row_less : FnS := runDef g_row_less 3 5 ir_row_less
def ir_in_squares : Ss := (.cons (.par 5 6 true true (.call 0 (.cons (.var 0) .nil)) (.bin .Sub (.blt .len (.cons (.var 0) .nil)) (.lit (.int (1)))) []) (.cons (.asg 2 true (.blt .len (.cons (.var 5) .nil)) []) (.cons (.asg 3 false (.comp [4] (.one 4) (.rng (.cons (.var 6) .nil)) .nil (.comp [8] (.one 8) (.it (.lstS (.var 5) (.cons (.var 1) .nil))) .nil (.call 1 (.cons (.var 8) (.cons (.var 4) .nil))))) []) (.cons (.for_ (.one 4) (.rng (.cons (.var 2) .nil)) (.cons (.asg 7 true (.idx (.comp [10] (.one 10) (.rng (.cons (.var 4) (.cons (.var 6) .nil))) (.cons (.cmp .NotEq (.idx (.idxO 3 (.var 10)) (.var 4)) (.glob 0)) .nil) (.var 10)) (.lit (.int (0)))) []) (.cons (.swp 3 (.var 4) 3 (.var 7) (.cons (.idxO 3 (.var 7)) (.cons (.idxO 3 (.var 4)) .nil)) []) (.cons (.setI 3 (.var 4) (.comp [8] (.one 8) (.it (.idxO 3 (.var 4))) .nil (.call 2 (.cons (.var 8) (.cons (.idx (.idxO 3 (.var 4)) (.var 4)) .nil)))) []) (.cons (.asg 3 false (.comp [10, 9] (.many [10, 9]) (.enum (.var 3)) .nil (.ite (.cmp .NotEq (.var 10) (.var 4)) (.call 3 (.cons (.var 9) (.cons (.idxO 3 (.var 4)) (.cons (.idx (.var 9) (.var 4)) .nil)))) (.var 9))) [3]) .nil)))) []) (.cons (.ifS (.cmp .NotEq (.comp [9] (.one 9) (.it (.slc (.var 3) (.var 2) (.lit .none) (1))) (.cons (.cmp .NotEq (.idx (.var 9) (.var 2)) (.glob 0)) .nil) (.var 9)) (.lst .nil)) (.cons (.ret (.lit .none) []) .nil) .nil [3]) (.cons (.ret (.blt .tuple (.cons (.comp [9] (.one 9) (.it (.slc (.var 3) (.lit .none) (.var 2) (1))) .nil (.idx (.var 9) (.var 2))) .nil)) [3]) .nil))))))
def g_in_squares : Pv.Ctx := ctxOf [sem_square_powers, K07.sem_member, K07.sem_fractions_over, sem_row_less] [.tuple [.int 0, .int 1]]
@[simp] theorem gf_in_squares_0 : g_in_squares.fn 0 = sem_square_powers := (rfl)
@[simp] theorem gf_in_squares_1 : g_in_squares.fn 1 = K07.sem_member := (rfl)
@[simp] theorem gf_in_squares_2 : g_in_squares.fn 2 = K07.sem_fractions_over := (rfl)
@[simp] theorem gf_in_squares_3 : g_in_squares.fn 3 = sem_row_less := (rfl)
@[simp] theorem gc_in_squares_0 : g_in_squares.con 0 = some (.tuple [.int 0, .int 1]) := (rfl)
def sem_in_squares : FnS := runDef g_in_squares 2 11 ir_in_squares
def ir__law_low : Ss := (.cons (.par 3 4 true true (.blt .abs (.cons (.var 1) .nil)) (.blt .abs (.cons (.var 0) .nil)) []) (.cons (.whl (.cmp .Gt (.var 4) (.lit (.int (0)))) (.cons (.par 3 4 true true (.var 4) (.bin .Mod (.blt .int (.cons (.var 3) .nil)) (.var 4)) []) .nil) []) (.cons (.asg 2 true (.ite (.cmp .Gt (.var 1) (.lit (.int (0)))) (.lit (.int (1))) (.neg (.lit (.int (1))))) []) (.cons (.ret (.tup (.cons (.bin .FloorDiv (.bin .Mult (.var 2) (.var 0)) (.var 3)) (.cons (.bin .FloorDiv (.bin .Mult (.var 2) (.var 1)) (.var 3)) .nil))) []) .nil))))
def g__law_low : Pv.Ctx := ctxOf [] []
def sem__law_low : FnS := runDef g__law_low 2 5 ir__law_low
def ir__law_sum : Ss := (.cons (.ret (.call 0 (.cons (.bin .Add (.bin .Mult (.idx (.var 0) (.lit (.int (0)))) (.idx (.var 1) (.lit (.int (1))))) (.bin .Mult (.bin .Mult (.var 2) (.idx (.var 1) (.lit (.int (0))))) (.idx (.var 0) (.lit (.int (1)))))) (.cons (.bin .Mult (.idx (.var 0) (.lit (.int (1)))) (.idx (.var 1) (.lit (.int (1))))) .nil))) []) .nil)
def g__law_sum : Pv.Ctx := ctxOf [sem__law_low] []
@[simp] theorem gf__law_sum_0 : g__law_sum.fn 0 = sem__law_low := (rfl)
def sem__law_sum : FnS := runDef g__law_sum 3 3 ir__law_sum
def ir__law_times : Ss := (.cons (.ret (.call 0 (.cons (.bin .Mult (.idx (.var 0) (.lit (.int (0)))) (.idx (.var 1) (.lit (.int (0))))) (.cons (.bin .Mult (.idx (.var 0) (.lit (.int (1)))) (.idx (.var 1) (.lit (.int (1))))) .nil))) []) .nil)
def g__law_times : Pv.Ctx := ctxOf [sem__law_low] []
@[simp] theorem gf__law_times_0 : g__law_times.fn 0 = sem__law_low := (rfl)
def sem__law_times : FnS := runDef g__law_times 2 2 ir__law_times
def ir__law_over : Ss := (.cons (.ret (.call 0 (.cons (.bin .Mult (.idx (.var 0) (.lit (.int (0)))) (.idx (.var 1) (.lit (.int (1))))) (.cons (.bin .Mult (.idx (.var 0) (.lit (.int (1)))) (.idx (.var 1) (.lit (.int (0))))) .nil))) []) .nil)
def g__law_over : Pv.Ctx := ctxOf [sem__law_low] []
@[simp] theorem gf__law_over_0 : g__law_over.fn 0 = sem__law_low := (rfl)
def sem__law_over : FnS := runDef g__law_over 2 2 ir__law_over
def ir__law_cut : Ss := (.cons (.asg 1 false (.blt .list (.cons (.var 0) .nil)) []) (.cons (.whl (.andv (.cmp .NotEq (.var 1) (.lst .nil)) (.cmp .Eq (.idx (.idxO 1 (.neg (.lit (.int (1))))) (.lit (.int (0)))) (.lit (.int (0))))) (.cons (.pop 1) .nil) [1]) (.cons (.ret (.blt .tuple (.cons (.var 1) .nil)) [1]) .nil)))
def g__law_cut : Pv.Ctx := ctxOf [] []
def sem__law_cut : FnS := runDef g__law_cut 1 2 ir__law_cut
def ir__law_product : Ss := (.cons (.asg 2 false (.bin .Mult (.lst (.cons (.tup (.cons (.lit (.int (0))) (.cons (.lit (.int (1))) .nil))) .nil)) (.blt .max (.cons (.lit (.int (0))) (.cons (.bin .Sub (.bin .Add (.blt .len (.cons (.var 0) .nil)) (.blt .len (.cons (.var 1) .nil))) (.lit (.int (1)))) .nil)))) []) (.cons (.for_ (.many [3, 4]) (.enum (.var 0)) (.cons (.for_ (.many [5, 6]) (.enum (.var 1)) (.cons (.setI 2 (.bin .Add (.var 3) (.var 5)) (.call 1 (.cons (.idxO 2 (.bin .Add (.var 3) (.var 5))) (.cons (.call 2 (.cons (.var 4) (.cons (.var 6) .nil))) (.cons (.lit (.int (1))) .nil)))) []) .nil) []) .nil) []) (.cons (.ret (.call 0 (.cons (.var 2) .nil)) [2]) .nil)))
def g__law_product : Pv.Ctx := ctxOf [sem__law_cut, sem__law_sum, sem__law_times] []
@[simp] theorem gf__law_product_0 : g__law_product.fn 0 = sem__law_cut := (rfl)
@[simp] theorem gf__law_product_1 : g__law_product.fn 1 = sem__law_sum := (rfl)
@[simp] theorem gf__law_product_2 : g__law_product.fn 2 = sem__law_times := (rfl)
def sem__law_product : FnS := runDef g__law_product 2 7 ir__law_product
def ir__law_both : Ss := (.cons (.asg 3 true (.blt .max (.cons (.blt .len (.cons (.var 0) .nil)) (.cons (.blt .len (.cons (.var 1) .nil)) .nil))) []) (.cons (.asg 4 true (.comp [5] (.one 5) (.it (.tup (.cons (.var 0) (.cons (.var 1) .nil)))) .nil (.bin .Add (.blt .list (.cons (.var 5) .nil)) (.bin .Mult (.lst (.cons (.tup (.cons (.lit (.int (0))) (.cons (.lit (.int (1))) .nil))) .nil)) (.bin .Sub (.var 3) (.blt .len (.cons (.var 5) .nil)))))) []) (.cons (.ret (.call 0 (.cons (.comp [6, 7] (.many [6, 7]) (.zip (.idx (.var 4) (.lit (.int (0)))) (.idx (.var 4) (.lit (.int (1))))) .nil (.call 1 (.cons (.var 6) (.cons (.var 7) (.cons (.var 2) .nil))))) .nil)) []) .nil)))
def g__law_both : Pv.Ctx := ctxOf [sem__law_cut, sem__law_sum] []
@[simp] theorem gf__law_both_0 : g__law_both.fn 0 = sem__law_cut := (rfl)
@[simp] theorem gf__law_both_1 : g__law_both.fn 1 = sem__law_sum := (rfl)
def sem__law_both : FnS := runDef g__law_both 3 8 ir__law_both
def ir__law_rest : Ss := (.cons (.asg 2 false (.blt .list (.cons (.var 0) .nil)) []) (.cons (.for_ (.one 3) (.rng (.cons (.blt .max (.cons (.lit (.int (0))) (.cons (.bin .Add (.bin .Sub (.blt .len (.cons (.var 0) .nil)) (.blt .len (.cons (.var 1) .nil))) (.lit (.int (1)))) .nil))) .nil)) (.cons (.asg 4 true (.call 1 (.cons (.idxO 2 (.neg (.lit (.int (1))))) (.cons (.idx (.var 1) (.neg (.lit (.int (1))))) .nil))) []) (.cons (.asg 5 true (.bin .Sub (.blt .len (.cons (.var 2) .nil)) (.blt .len (.cons (.var 1) .nil))) [2]) (.cons (.for_ (.many [6, 7]) (.enum (.var 1)) (.cons (.setI 2 (.bin .Add (.var 5) (.var 6)) (.call 2 (.cons (.idxO 2 (.bin .Add (.var 5) (.var 6))) (.cons (.call 3 (.cons (.var 7) (.cons (.var 4) .nil))) (.cons (.neg (.lit (.int (1)))) .nil)))) []) .nil) []) (.cons (.pop 2) .nil)))) []) (.cons (.ret (.call 0 (.cons (.var 2) .nil)) [2]) .nil)))
def g__law_rest : Pv.Ctx := ctxOf [sem__law_cut, sem__law_over, sem__law_sum, sem__law_times] []
@[simp] theorem gf__law_rest_0 : g__law_rest.fn 0 = sem__law_cut := (rfl)
@[simp] theorem gf__law_rest_1 : g__law_rest.fn 1 = sem__law_over := (rfl)
@[simp] theorem gf__law_rest_2 : g__law_rest.fn 2 = sem__law_sum := (rfl)
@[simp] theorem gf__law_rest_3 : g__law_rest.fn 3 = sem__law_times := (rfl)
def sem__law_rest : FnS := runDef g__law_rest 2 8 ir__law_rest
def ir__law_numbers : Ss := (.cons (.ret (.call 0 (.cons (.comp [1] (.one 1) (.it (.var 0)) .nil (.tup (.cons (.var 1) (.cons (.lit (.int (1))) .nil)))) .nil)) []) .nil)
def g__law_numbers : Pv.Ctx := ctxOf [sem__law_cut] []
@[simp] theorem gf__law_numbers_0 : g__law_numbers.fn 0 = sem__law_cut := (rfl)
def sem__law_numbers : FnS := runDef g__law_numbers 1 2 ir__law_numbers
def ir__law_roots : Ss := (.cons (.asg 0 true (.lst (.cons (.tup (.cons (.tup (.cons (.lit (.int (2))) (.cons (.neg (.lit (.int (4)))) (.cons (.lit (.int (1))) .nil)))) (.cons (.tup (.cons (.lit (.int (3))) (.cons (.lit (.int (4))) .nil))) .nil))) (.cons (.tup (.cons (.tup (.cons (.lit (.int (1))) (.cons (.neg (.lit (.int (3)))) (.cons (.lit (.int (1))) .nil)))) (.cons (.tup (.cons (.lit (.int (2))) (.cons (.lit (.int (3))) .nil))) .nil))) (.cons (.tup (.cons (.tup (.cons (.neg (.lit (.int (2)))) (.cons (.lit (.int (0))) (.cons (.lit (.int (1))) .nil)))) (.cons (.tup (.cons (.lit (.int (1))) (.cons (.lit (.int (2))) .nil))) .nil))) (.cons (.tup (.cons (.tup (.cons (.neg (.lit (.int (3)))) (.cons (.lit (.int (0))) (.cons (.lit (.int (1))) .nil)))) (.cons (.tup (.cons (.lit (.int (1))) (.cons (.lit (.int (2))) .nil))) .nil))) .nil))))) []) (.cons (.asg 0 true (.bin .Add (.var 0) (.lst (.cons (.tup (.cons (.tup (.cons (.neg (.lit (.int (1)))) (.cons (.neg (.lit (.int (1)))) (.cons (.lit (.int (1))) .nil)))) (.cons (.tup (.cons (.lit (.int (1))) (.cons (.lit (.int (2))) .nil))) .nil))) (.cons (.tup (.cons (.tup (.cons (.lit (.int (1))) (.cons (.neg (.lit (.int (2)))) (.cons (.neg (.lit (.int (1)))) (.cons (.lit (.int (1))) .nil))))) (.cons (.tup (.cons (.lit (.int (1))) (.cons (.lit (.int (2))) .nil))) .nil))) (.cons (.tup (.cons (.tup (.cons (.neg (.lit (.int (1)))) (.cons (.lit (.int (6))) (.cons (.neg (.lit (.int (5)))) (.cons (.lit (.int (1))) .nil))))) (.cons (.tup (.cons (.lit (.int (0))) (.cons (.lit (.int (1))) .nil))) .nil))) (.cons (.tup (.cons (.tup (.cons (.neg (.lit (.int (2)))) (.cons (.lit (.int (0))) (.cons (.lit (.int (0))) (.cons (.lit (.int (1))) .nil))))) (.cons (.tup (.cons (.lit (.int (1))) (.cons (.lit (.int (2))) .nil))) .nil))) .nil)))))) []) (.cons (.asg 0 true (.bin .Add (.var 0) (.lst (.cons (.tup (.cons (.tup (.cons (.neg (.lit (.int (3)))) (.cons (.lit (.int (2))) .nil))) (.cons (.tup (.cons (.lit (.int (1))) (.cons (.lit (.int (2))) .nil))) .nil))) (.cons (.tup (.cons (.tup (.cons (.lit (.int (1))) (.cons (.neg (.lit (.int (4)))) (.cons (.lit (.int (1))) .nil)))) (.cons (.tup (.cons (.lit (.int (3))) (.cons (.lit (.int (4))) .nil))) .nil))) (.cons (.tup (.cons (.tup (.cons (.neg (.lit (.int (1)))) (.cons (.lit (.int (3))) (.cons (.neg (.lit (.int (4)))) (.cons (.lit (.int (1))) .nil))))) (.cons (.tup (.cons (.lit (.int (3))) (.cons (.lit (.int (4))) .nil))) .nil))) (.cons (.tup (.cons (.tup (.cons (.lit (.int (1))) (.cons (.lit (.int (0))) (.cons (.neg (.lit (.int (4)))) (.cons (.lit (.int (0))) (.cons (.lit (.int (1))) .nil)))))) (.cons (.tup (.cons (.lit (.int (1))) (.cons (.lit (.int (2))) .nil))) .nil))) .nil)))))) []) (.cons (.asg 0 true (.bin .Add (.var 0) (.lst (.cons (.tup (.cons (.tup (.cons (.lit (.int (1))) (.cons (.neg (.lit (.int (8)))) (.cons (.lit (.int (14))) (.cons (.neg (.lit (.int (7)))) (.cons (.lit (.int (1))) .nil)))))) (.cons (.tup (.cons (.lit (.int (2))) (.cons (.lit (.int (3))) .nil))) .nil))) (.cons (.tup (.cons (.tup (.cons (.neg (.lit (.int (1)))) (.cons (.neg (.lit (.int (1)))) (.cons (.lit (.int (0))) (.cons (.lit (.int (0))) (.cons (.lit (.int (1))) .nil)))))) (.cons (.tup (.cons (.lit (.int (1))) (.cons (.lit (.int (2))) .nil))) .nil))) (.cons (.tup (.cons (.tup (.cons (.lit (.int (2))) (.cons (.neg (.lit (.int (4)))) (.cons (.lit (.int (1))) .nil)))) (.cons (.tup (.cons (.lit (.int (0))) (.cons (.lit (.int (1))) .nil))) .nil))) .nil))))) []) (.cons (.ret (.bin .Add (.var 0) (.lst (.cons (.tup (.cons (.tup (.cons (.lit (.int (7))) (.cons (.neg (.lit (.int (6)))) (.cons (.lit (.int (1))) .nil)))) (.cons (.tup (.cons (.lit (.int (0))) (.cons (.lit (.int (2))) .nil))) .nil))) (.cons (.tup (.cons (.tup (.cons (.lit (.int (2))) (.cons (.neg (.lit (.int (12)))) (.cons (.lit (.int (3))) .nil)))) (.cons (.tup (.cons (.lit (.int (3))) (.cons (.lit (.int (4))) .nil))) .nil))) .nil)))) []) .nil)))))
def g__law_roots : Pv.Ctx := ctxOf [] []
def sem__law_roots : FnS := runDef g__law_roots 0 1 ir__law_roots
def ir__law_first_one : Ss := (.cons (.ret (.blt .tuple (.cons (.comp [1] (.one 1) (.it (.var 0)) .nil (.call 0 (.cons (.var 1) (.cons (.idx (.var 0) (.neg (.lit (.int (1))))) .nil)))) .nil)) []) .nil)
def g__law_first_one : Pv.Ctx := ctxOf [sem__law_over] []
@[simp] theorem gf__law_first_one_0 : g__law_first_one.fn 0 = sem__law_over := (rfl)
def sem__law_first_one : FnS := runDef g__law_first_one 1 2 ir__law_first_one
def ir__law_squares : Ss := (.cons (.ifS (.cmp .Eq (.comp [2] (.one 2) (.it (.slc (.var 0) (.lit (.int (1))) (.lit .none) (2))) (.cons (.cmp .NotEq (.idx (.var 2) (.lit (.int (0)))) (.lit (.int (0)))) .nil) (.var 2)) (.lst .nil)) (.cons (.ret (.call 0 (.cons (.slc (.var 0) (.lit .none) (.lit .none) (2)) .nil)) []) .nil) .nil []) (.cons (.asg 1 true (.blt .tuple (.cons (.comp [3, 2] (.many [3, 2]) (.enum (.var 0)) .nil (.ite (.cmp .Eq (.bin .Mod (.blt .int (.cons (.var 3) .nil)) (.lit (.int (2)))) (.lit (.int (1)))) (.call 2 (.cons (.var 2) (.cons (.tup (.cons (.neg (.lit (.int (1)))) (.cons (.lit (.int (1))) .nil))) .nil))) (.var 2))) .nil)) []) (.cons (.ret (.call 0 (.cons (.slc (.call 1 (.cons (.var 0) (.cons (.var 1) .nil))) (.lit .none) (.lit .none) (2)) .nil)) []) .nil)))
def g__law_squares : Pv.Ctx := ctxOf [sem__law_first_one, sem__law_product, sem__law_times] []
@[simp] theorem gf__law_squares_0 : g__law_squares.fn 0 = sem__law_first_one := (rfl)
@[simp] theorem gf__law_squares_1 : g__law_squares.fn 1 = sem__law_product := (rfl)
@[simp] theorem gf__law_squares_2 : g__law_squares.fn 2 = sem__law_times := (rfl)
def sem__law_squares : FnS := runDef g__law_squares 1 4 ir__law_squares
def ir__law_put_together : Ss := (.cons (.unpT [3, 4, 5] (.cons (.tup (.cons (.tup (.cons (.lit (.int (0))) (.cons (.lit (.int (1))) .nil))) (.cons (.tup (.cons (.lit (.int (0))) (.cons (.lit (.int (1))) .nil))) (.cons (.tup (.cons (.lit (.int (1))) (.cons (.lit (.int (1))) .nil))) .nil)))) (.cons (.tup (.cons (.tup (.cons (.lit (.int (1))) (.cons (.lit (.int (1))) .nil))) .nil)) (.cons (.tup .nil) .nil))) []) (.cons (.for_ (.one 2) (.it (.var 1)) (.cons (.asg 5 true (.call 1 (.cons (.var 5) (.cons (.call 2 (.cons (.comp [6] (.one 6) (.it (.var 4)) .nil (.call 4 (.cons (.var 6) (.cons (.var 2) .nil)))) .nil)) (.cons (.lit (.int (1))) .nil)))) []) (.cons (.asg 4 true (.call 0 (.cons (.call 3 (.cons (.var 4) (.cons (.var 3) .nil))) (.cons (.var 0) .nil))) []) .nil)) []) (.cons (.ret (.call 0 (.cons (.var 5) (.cons (.var 0) .nil))) []) .nil)))
def g__law_put_together : Pv.Ctx := ctxOf [sem__law_rest, sem__law_both, sem__law_cut, sem__law_product, sem__law_times] []
@[simp] theorem gf__law_put_together_0 : g__law_put_together.fn 0 = sem__law_rest := (rfl)
@[simp] theorem gf__law_put_together_1 : g__law_put_together.fn 1 = sem__law_both := (rfl)
@[simp] theorem gf__law_put_together_2 : g__law_put_together.fn 2 = sem__law_cut := (rfl)
@[simp] theorem gf__law_put_together_3 : g__law_put_together.fn 3 = sem__law_product := (rfl)
@[simp] theorem gf__law_put_together_4 : g__law_put_together.fn 4 = sem__law_times := (rfl)
def sem__law_put_together : FnS := runDef g__law_put_together 2 7 ir__law_put_together
def ir__law_number : Ss := (.cons (.asg 3 false (.lst .nil) []) (.cons (.for_ (.one 4) (.rng (.cons (.var 1) .nil)) (.cons (.app 3 (.call 1 (.cons (.bin .Sub (.call 2 (.cons (.var 0) (.cons (.bin .Add (.bin .Mult (.lit (.int (2))) (.var 2)) (.lit (.int (1)))) .nil))) (.var 2)) (.cons (.bin .Add (.lit (.int (1))) (.call 2 (.cons (.var 0) (.cons (.lit (.int (4))) .nil)))) .nil))) []) .nil) []) (.cons (.ret (.call 0 (.cons (.comp [5] (.one 5) (.it (.var 3)) .nil (.ite (.cmp .Gt (.call 2 (.cons (.var 0) (.cons (.lit (.int (4))) .nil))) (.lit (.int (0)))) (.var 5) (.tup (.cons (.lit (.int (0))) (.cons (.lit (.int (1))) .nil))))) .nil)) [3]) .nil)))
def g__law_number : Pv.Ctx := ctxOf [sem__law_cut, sem__law_low, K07.sem__law_pick] []
@[simp] theorem gf__law_number_0 : g__law_number.fn 0 = sem__law_cut := (rfl)
@[simp] theorem gf__law_number_1 : g__law_number.fn 1 = sem__law_low := (rfl)
@[simp] theorem gf__law_number_2 : g__law_number.fn 2 = K07.sem__law_pick := (rfl)
def sem__law_number : FnS := runDef g__law_number 3 6 ir__law_number
def ir_law : Ss := (.cons (.asg 1 true (.call 0 (.cons (.var 0) .nil)) []) (.cons (.for_ (.one 2) (.rng (.cons (.lit (.int (4))) .nil)) (.cons (.asg 4 false (.call 2 (.cons (.var 1) (.cons (.call 7 .nil) .nil))) []) (.cons (.asg 3 true (.call 3 (.cons (.call 1 (.cons (.idxO 4 (.lit (.int (0)))) .nil)) .nil)) []) (.cons (.par 7 8 true true (.bin .Sub (.blt .len (.cons (.var 3) .nil)) (.lit (.int (1)))) (.cmp .Eq (.comp [9] (.one 9) (.it (.slc (.var 3) (.lit (.int (1))) (.lit .none) (2))) (.cons (.cmp .NotEq (.idx (.var 9) (.lit (.int (0)))) (.lit (.int (0)))) .nil) (.var 9)) (.lst .nil)) []) (.cons (.asg 5 true (.call 4 (.cons (.var 3) .nil)) []) (.cons (.ifS (.orv (.cmp .NotEq (.blt .repr (.cons (.call 5 (.cons (.var 3) .nil)) .nil)) (.blt .repr (.cons (.var 5) .nil))) (.cmp .NotEq (.bin .Sub (.blt .len (.cons (.var 5) .nil)) (.lit (.int (1)))) (.ite (.var 8) (.bin .FloorDiv (.var 7) (.lit (.int (2)))) (.var 7)))) (.cons (.ret (.lit (.bool false)) []) .nil) .nil []) (.cons (.ifS (.cmp .NotEq (.call 8 (.cons (.var 3) (.cons (.var 5) .nil))) (.tup .nil)) (.cons (.ret (.lit (.bool false)) []) .nil) .nil []) (.cons (.for_ (.one 6) (.rng (.cons (.lit (.int (4))) .nil)) (.cons (.asg 9 true (.call 9 (.cons (.var 1) (.cons (.var 7) (.cons (.call 2 (.cons (.var 1) (.cons (.lst (.cons (.lit (.int (3))) (.cons (.lit (.int (9))) (.cons (.bin .Pow (.lit (.int (10))) (.lit (.int (6)))) .nil)))) .nil))) .nil)))) []) (.cons (.asg 10 true (.call 6 (.cons (.var 3) (.cons (.var 9) .nil))) []) (.cons (.asg 11 true (.orv (.notv (.var 8)) (.cmp .Eq (.comp [12] (.one 12) (.it (.slc (.var 9) (.lit (.int (1))) (.lit .none) (2))) (.cons (.cmp .NotEq (.idx (.var 12) (.lit (.int (0)))) (.lit (.int (0)))) .nil) (.var 12)) (.lst .nil))) []) (.cons (.ifS (.cmp .NotEq (.cmp .IsNot (.var 10) (.lit .none)) (.var 11)) (.cons (.ret (.lit (.bool false)) []) .nil) .nil []) (.cons (.ifS (.cmp .IsNot (.var 10) (.lit .none)) (.cons (.ifS (.orv (.cmp .NotEq (.blt .len (.cons (.var 10) .nil)) (.bin .Sub (.blt .len (.cons (.var 5) .nil)) (.lit (.int (1))))) (.cmp .NotEq (.call 8 (.cons (.var 3) (.cons (.var 10) .nil))) (.var 9))) (.cons (.ret (.lit (.bool false)) []) .nil) .nil []) (.cons (.ifS (.orv (.cmp .NotEq (.blt .repr (.cons (.comp [12] (.one 12) (.it (.var 10)) .nil (.call 10 (.cons (.idx (.var 12) (.lit (.int (0)))) (.cons (.idx (.var 12) (.lit (.int (1)))) .nil)))) .nil)) (.blt .repr (.cons (.blt .list (.cons (.var 10) .nil)) .nil))) (.notv (.isi (.var 10) "tuple"))) (.cons (.ret (.lit (.bool false)) []) .nil) .nil []) .nil)) .nil []) .nil))))) []) (.cons (.ifS (.cmp .NotEq (.blt .repr (.cons (.call 6 (.cons (.var 3) (.cons (.tup .nil) .nil))) .nil)) (.blt .repr (.cons (.bin .Mult (.tup (.cons (.tup (.cons (.lit (.int (0))) (.cons (.lit (.int (1))) .nil))) .nil)) (.bin .Sub (.blt .len (.cons (.var 5) .nil)) (.lit (.int (1))))) .nil))) (.cons (.ret (.lit (.bool false)) []) .nil) .nil []) .nil)))))))) []) (.cons (.asg 3 true (.call 1 (.cons (.tup (.cons (.lit (.int (2))) (.cons (.neg (.lit (.int (4)))) (.cons (.lit (.int (1))) .nil)))) .nil)) []) (.cons (.asg 4 false (.lst (.cons (.call 5 (.cons (.var 3) .nil)) (.cons (.call 6 (.cons (.var 3) (.cons (.tup (.cons (.tup (.cons (.lit (.int (2))) (.cons (.lit (.int (1))) .nil))) (.cons (.tup (.cons (.neg (.lit (.int (1)))) (.cons (.lit (.int (2))) .nil))) .nil))) .nil))) .nil))) []) (.cons (.app 4 (.call 6 (.cons (.call 1 (.cons (.tup (.cons (.neg (.lit (.int (2)))) (.cons (.lit (.int (0))) (.cons (.lit (.int (1))) .nil)))) .nil)) (.cons (.call 1 (.cons (.tup (.cons (.lit (.int (0))) (.cons (.lit (.int (1))) .nil))) .nil)) .nil))) []) (.cons (.ret (.cmp .Eq (.blt .repr (.cons (.var 4) .nil)) (.blt .repr (.cons (.lst (.cons (.call 1 (.cons (.tup (.cons (.lit (.int (4))) (.cons (.neg (.lit (.int (12)))) (.cons (.lit (.int (1))) .nil)))) .nil)) (.cons (.tup (.cons (.tup (.cons (.lit (.int (7))) (.cons (.lit (.int (4))) .nil))) (.cons (.tup (.cons (.neg (.lit (.int (1)))) (.cons (.lit (.int (8))) .nil))) .nil))) (.cons (.lit .none) .nil)))) .nil))) [4]) .nil))))))
def g_law : Pv.Ctx := ctxOf [K07.sem__law_source, sem__law_numbers, K07.sem__law_of, sem__law_first_one, sem__law_squares, sem_squares_told, sem_in_squares, sem__law_roots, sem__law_put_together, sem__law_number, sem__law_low] []
@[simp] theorem gf_law_0 : g_law.fn 0 = K07.sem__law_source := (rfl)
@[simp] theorem gf_law_1 : g_law.fn 1 = sem__law_numbers := (rfl)
@[simp] theorem gf_law_2 : g_law.fn 2 = K07.sem__law_of := (rfl)
@[simp] theorem gf_law_3 : g_law.fn 3 = sem__law_first_one := (rfl)
@[simp] theorem gf_law_4 : g_law.fn 4 = sem__law_squares := (rfl)
@[simp] theorem gf_law_5 : g_law.fn 5 = sem_squares_told := (rfl)
@[simp] theorem gf_law_6 : g_law.fn 6 = sem_in_squares := (rfl)
@[simp] theorem gf_law_7 : g_law.fn 7 = sem__law_roots := (rfl)
@[simp] theorem gf_law_8 : g_law.fn 8 = sem__law_put_together := (rfl)
@[simp] theorem gf_law_9 : g_law.fn 9 = sem__law_number := (rfl)
@[simp] theorem gf_law_10 : g_law.fn 10 = sem__law_low := (rfl)
def sem_law : FnS := runDef g_law 1 13 ir_law
end K38

/-! M1 -/
set_option Elab.async false
set_option linter.all false
set_option maxRecDepth 100000
set_option maxHeartbeats 4000000
namespace Pv
open PySem
/-! ### running the evaluator -/
@[simp] theorem mbind_eq {α β : Type} (m : M α) (f : α → M β) (S : SS) : (m >>= f) S = (m S).bind f := (rfl)
@[simp] theorem mpure_eq {α : Type} (a : α) (S : SS) : (pure a : M α) S = .ok a S := (rfl)
@[simp] theorem ok_bind {α β : Type} (a : α) (S : SS) (f : α → M β) : (Out.ok a S).bind f = f a S := (rfl)
@[simp] theorem ok_bind2 {α β : Type} (a : α) (S : SS) (f : α → SS → Out β) : (Out.ok a S).bind f = f a S := (rfl)
@[simp] theorem M.of_some {α : Type} (a : α) (S : SS) : (M.of (some a)) S = .ok a S := (rfl)
@[simp] theorem M.of_none {α : Type} (S : SS) : (M.of (none : Option α)) S = .stuck := (rfl)
@[simp] theorem R.d_val (d : PyData) : (R.val d).d = some d := (rfl)
@[simp] theorem R.d_own (d : List PyData) : (R.own d).d = some (.list d) := (rfl)
@[simp] theorem R.arg_val (d : PyData) : (R.val d).arg = .val d := (rfl)
@[simp] theorem R.arg_own (d : List PyData) : (R.own d).arg = .val (.list d) := (rfl)
@[simp] theorem R.arg_src : R.src.arg = .src := (rfl)
@[simp] theorem isB_bool (b : Bool) : isB (.bool b) = some b := (rfl)
@[simp] theorem hR_true (r : R) : hR true r = r.arg := (rfl)
@[simp] theorem hR_false (r : R) : hR false r = r := (rfl)
@[simp] theorem frz_nil (ρ : Env) : frz ρ [] = ρ := (rfl)
@[simp] theorem back_same (ρ : Env) (b : Bool) : back ρ ρ b = ρ := by cases b <;> rfl
@[simp] theorem back_true (ρ ρ' : Env) : back ρ ρ' true = ρ := (rfl)
@[simp] theorem back_false (ρ ρ' : Env) : back ρ ρ' false = ρ' := (rfl)
@[simp] theorem getV_zero (d : PyData) (ρ : Env) : getV (some (.val d) :: ρ) 0 = some (.val d) := (rfl)
@[simp] theorem getV_src (ρ : Env) : getV (some .src :: ρ) 0 = some .src := (rfl)
@[simp] theorem getV_scr (ns : List Int) (ρ : Env) : getV (some (.scr ns) :: ρ) 0 = some (.scr ns) := (rfl)
@[simp] theorem getV_succ (o : Option R) (ρ : Env) (i : Nat) : getV (o :: ρ) (i + 1) = getV ρ i := (rfl)
@[simp] theorem getX_val (d : PyData) (ρ : Env) : getX (some (.val d) :: ρ) 0 = some d := (rfl)
@[simp] theorem getX_own (d : List PyData) (ρ : Env) : getX (some (.own d) :: ρ) 0 = some (.list d) := (rfl)
@[simp] theorem getX_succ (o : Option R) (ρ : Env) (i : Nat) : getX (o :: ρ) (i + 1) = getX ρ i := (rfl)
@[simp] theorem getOwn_zero (d : List PyData) (ρ : Env) : getOwn (some (.own d) :: ρ) 0 = some d := (rfl)
@[simp] theorem getOwn_succ (o : Option R) (ρ : Env) (i : Nat) : getOwn (o :: ρ) (i + 1) = getOwn ρ i := (rfl)
@[simp] theorem evF_s (Γ : Ctx) (e : E) (ρ : Env) (fz : List Nat) : evF Γ e ρ fz = (evE Γ e (frz ρ fz) >>= fun r => pure (r, back ρ (frz ρ fz) (lfreeR r))) := by rw [evF]
@[simp] theorem evT_s (Γ : Ctx) (e : E) (ρ : Env) (fz : List Nat) : evT Γ e ρ fz = asB (evE Γ e (frz ρ fz)) := by rw [evT]
@[simp] theorem asD_s (m : M R) : asD m = (m >>= fun r => M.of r.d) := by rw [asD]
@[simp] theorem asB_s (m : M R) : asB m = (asD m >>= fun x => M.of (isB x)) := by rw [asB]
@[simp] theorem setV_s (ρ : Env) (i : Nat) (r : R) : setV ρ i r = ρ.set i (some r) := by rw [setV]
section
variable (Γ : Ctx) (ρ : Env) (a b : E) (as : Es)
@[simp] theorem evA_nil : evA Γ .nil ρ = pure [] := by rw [evA]
@[simp] theorem evA_cons : evA Γ (.cons a as) ρ = (evE Γ a ρ >>= fun r => evA Γ as ρ >>= fun rs => pure (r.arg :: rs)) := by rw [evA]
@[simp] theorem evDs_nil : evDs Γ .nil ρ = pure [] := by rw [evDs]
@[simp] theorem evDs_cons : evDs Γ (.cons a as) ρ = (asD (evE Γ a ρ) >>= fun d => evDs Γ as ρ >>= fun ds => pure (d :: ds)) := by rw [evDs]
@[simp] theorem evC_nil : evC Γ .nil ρ = pure true := by rw [evC]
@[simp] theorem evC_cons : evC Γ (.cons a as) ρ = asB (evE Γ a ρ) := by rw [evC]
@[simp] theorem evI_it : evI Γ (.it a) ρ = (evE Γ a ρ >>= fun r => M.of (itemsR r)) := by rw [evI]
@[simp] theorem evI_rng : evI Γ (.rng as) ρ = (evDs Γ as ρ >>= fun ds => M.of (rng ds)) := by rw [evI]
@[simp] theorem evI_enum : evI Γ (.enum a) ρ = (asD (evE Γ a ρ) >>= fun x => M.of (enum x)) := by rw [evI]
@[simp] theorem evI_zip : evI Γ (.zip a b) ρ = (asD (evE Γ a ρ) >>= fun x => asD (evE Γ b ρ) >>= fun y => M.of (zipD x y)) := by rw [evI]
@[simp] theorem evI_zipS : evI Γ (.zipS a b) ρ = (asD (evE Γ a ρ) >>= fun x => asD (evE Γ b ρ) >>= fun y => M.of (zipSD x y)) := by rw [evI]
@[simp] theorem items_list (ds : List PyData) : itemsR (.val (.list ds)) = some ds := (rfl)
@[simp] theorem items_own (ds : List PyData) : itemsR (.own ds) = some ds := (rfl)
@[simp] theorem items_tuple (ds : List PyData) : itemsR (.val (.tuple ds)) = some ds := (rfl)
@[simp] theorem items_scr (ns : List Int) : itemsR (.scr ns) = some (ns.map .int) := (rfl)
@[simp] theorem enum_list (ds : List PyData) : enum (.list ds) = some (enumAt 0 ds) := (rfl)
@[simp] theorem enum_tuple (ds : List PyData) : enum (.tuple ds) = some (enumAt 0 ds) := (rfl)
end
/-- one turn of a comprehension -/
def cbody (Γ : Ctx) (vs : List Nat) (tg : Tg) (c : Es) (e : E) (ρ : Env) (d : PyData) : M (Option PyData) := M.noexc (M.of (bindTg tg d (clr ρ vs)) >>= fun ρ' => evC Γ c ρ' >>= fun b => if b then asD (evE Γ e ρ') >>= fun y => pure (some y) else pure none)
section
variable (Γ : Ctx) (ρ : Env) (i j st : Nat) (e a b c k : E) (as cs : Es) (op op' : CmpOp) (o : Operator) (ty : String) (f : Bl) (vs : List Nat) (tg : Tg) (it : I) (d : PyData) (z : Int)
@[simp] theorem evE_var : evE Γ (.var i) ρ = M.of (getV ρ i) := by rw [evE]
@[simp] theorem evE_glob : evE Γ (.glob i) ρ = M.of ((Γ.con i).map .val) := by rw [evE]
@[simp] theorem evE_lit : evE Γ (.lit d) ρ = pure (.val d) := by rw [evE]
@[simp] theorem evE_bin : evE Γ (.bin o a b) ρ = (asD (evE Γ a ρ) >>= fun x => asD (evE Γ b ρ) >>= fun y => M.of (binop o x y)) := by rw [evE]
@[simp] theorem evE_neg : evE Γ (.neg a) ρ = (asD (evE Γ a ρ) >>= fun x => M.of (negD x)) := by rw [evE]
@[simp] theorem evE_notv : evE Γ (.notv a) ρ = (asB (evE Γ a ρ) >>= fun b => pure (.val (.bool (!b)))) := by rw [evE]
@[simp] theorem evE_andv : evE Γ (.andv a b) ρ = (asB (evE Γ a ρ) >>= fun c => if c then evE Γ b ρ else pure (.val (.bool false))) := by rw [evE]
@[simp] theorem evE_orv : evE Γ (.orv a b) ρ = (asB (evE Γ a ρ) >>= fun c => if c then pure (.val (.bool true)) else evE Γ b ρ) := by rw [evE]
@[simp] theorem evE_cmp : evE Γ (.cmp op a b) ρ = (asD (evE Γ a ρ) >>= fun x => asD (evE Γ b ρ) >>= fun y => M.of (cmpop op x y) >>= fun c => pure (.val (.bool c))) := by rw [evE]
@[simp] theorem evE_ite : evE Γ (.ite c a b) ρ = (asB (evE Γ c ρ) >>= fun x => if x then evE Γ a ρ else evE Γ b ρ) := by rw [evE]
@[simp] theorem evE_call : evE Γ (.call i as) ρ = (evA Γ as ρ >>= fun vs => Γ.fn i vs) := by rw [evE]
@[simp] theorem evE_blt : evE Γ (.blt f as) ρ = (evDs Γ as ρ >>= fun ds => M.of (blt f ds)) := by rw [evE]
@[simp] theorem evE_isi : evE Γ (.isi a ty) ρ = (asD (evE Γ a ρ) >>= fun x => M.of (isiD ty x) >>= fun b => pure (.val (.bool b))) := by rw [evE]
@[simp] theorem evE_tup : evE Γ (.tup as) ρ = (evDs Γ as ρ >>= fun ds => if ds.length ≤ line then pure (.val (.tuple ds)) else M.stuck) := by rw [evE]
@[simp] theorem evE_lst : evE Γ (.lst as) ρ = (evDs Γ as ρ >>= fun ds => if ds.length ≤ line then pure (.own ds) else M.stuck) := by rw [evE]
@[simp] theorem evE_idx : evE Γ (.idx a b) ρ = (asD (evE Γ a ρ) >>= fun x => asD (evE Γ b ρ) >>= fun y => M.of (idx x y) >>= fun z => pure (.val z)) := by rw [evE]
@[simp] theorem evE_slc : evE Γ (.slc a b c z) ρ = (asD (evE Γ a ρ) >>= fun x => asD (evE Γ b ρ) >>= fun y => M.of (toPart (isNl b) y) >>= fun lo => asD (evE Γ c ρ) >>= fun w => M.of (toPart (isNl c) w) >>= fun hi => M.of (slc x lo hi z)) := by rw [evE]
@[simp] theorem evE_srcI : evE Γ (.srcI i j) ρ = (M.of (getV ρ i) >>= fun r => M.rd r fun s => srcGet s j) := by rw [evE]
@[simp] theorem evE_srcN : evE Γ (.srcN i) ρ = (M.of (getV ρ i) >>= fun r => M.rd r fun s => (s.cells.length : Nat)) := by rw [evE]
@[simp] theorem evE_srcNew : evE Γ (.srcNew a b c e) ρ = (evE Γ a ρ >>= fun r => M.of (ownInts r) >>= fun ns => asI (evE Γ b ρ) >>= fun l => asI (evE Γ c ρ) >>= fun m => asI (evE Γ e ρ) >>= fun t => M.mk ns l m t) := by rw [evE]
@[simp] theorem evE_idxO : evE Γ (.idxO i a) ρ = (M.of (getX ρ i) >>= fun x => asD (evE Γ a ρ) >>= fun y => M.of (idx x y) >>= fun z => pure (.val z)) := by rw [evE]
@[simp] theorem evE_lstS : evE Γ (.lstS a as) ρ = (asD (evE Γ a ρ) >>= fun x => M.of (seqD0 x) >>= fun xs => evDs Γ as ρ >>= fun ds => if xs.length + ds.length ≤ line then pure (.own (xs ++ ds)) else M.stuck) := by rw [evE]
theorem evE_comp : evE Γ (.comp vs tg it cs e) ρ = (evI Γ it ρ >>= fun ds => compLoop (cbody Γ vs tg cs e ρ) ds [] >>= fun ys => pure (.own ys)) := by
  rw [evE]
  rfl
@[simp] theorem nl_none : isNl (.lit .none) = true := (rfl)
@[simp] theorem nl_int : isNl (.lit (.int z)) = false := (rfl)
@[simp] theorem part_nl : toPart true d = some none := (rfl)
@[simp] theorem part_int : toPart false (.int z) = some (some z) := (rfl)
end
section
variable (Γ : Ctx) (ρ : Env) (i j : Nat) (e a b c k : E) (es : Es) (fz is : List Nat) (h h' : Bool) (s : S) (ss tt : Ss) (tg : Tg) (it : I)
@[simp] theorem exSs_nil : exSs Γ .nil ρ = pure (.nx ρ) := by rw [exSs]
@[simp] theorem exSs_cons : exSs Γ (.cons s ss) ρ = (exS Γ s ρ >>= fun fl => match fl with
    | .nx ρ' => exSs Γ ss ρ'
    | f => pure f) := by rw [exSs]; try rfl
@[simp] theorem exS_asg : exS Γ (.asg i h e fz) ρ = (evF Γ e ρ fz >>= fun p => pure (.nx (setV p.2 i (hR h p.1)))) := by rw [exS]
@[simp] theorem exS_par : exS Γ (.par i j h h' a b fz) ρ = (evE Γ a (frz ρ fz) >>= fun x => evE Γ b (frz ρ fz) >>= fun y => pure (.nx (setV (setV (back ρ (frz ρ fz) (lfreeR x && lfreeR y)) i (hR h x)) j (hR h' y)))) := by rw [exS]
@[simp] theorem exS_unp : exS Γ (.unp is e fz) ρ = (evF Γ e ρ fz >>= fun p => M.of p.1.d >>= fun d => M.of (seqD d) >>= fun ds => M.of (bindMany is ds p.2) >>= fun ρ2 => pure (.nx ρ2)) := by rw [exS]
@[simp] theorem exS_unpT : exS Γ (.unpT is es fz) ρ = (evDs Γ es (frz ρ fz) >>= fun ds => M.of (bindMany is ds (back ρ (frz ρ fz) (lfreeAll ds))) >>= fun ρ2 => pure (.nx ρ2)) := by rw [exS]
@[simp] theorem exS_app : exS Γ (.app i e fz) ρ = (M.of (getOwn ρ i) >>= fun _ => evF Γ e ρ fz >>= fun p => M.of p.1.d >>= fun d => M.of (getOwn p.2 i) >>= fun ds => if ds.length < line then pure (.nx (setV p.2 i (.own (ds ++ [d])))) else M.stuck) := by rw [exS]
@[simp] theorem exS_pop : exS Γ (.pop i) ρ = (M.of (getOwn ρ i) >>= fun ds => if ds.isEmpty then M.stuck else pure (.nx (setV ρ i (.own ds.dropLast)))) := by rw [exS]
@[simp] theorem exS_ifS : exS Γ (.ifS c ss tt fz) ρ = (evT Γ c ρ fz >>= fun b => if b then exSs Γ ss ρ else exSs Γ tt ρ) := by rw [exS]
@[simp] theorem exS_ret : exS Γ (.ret e fz) ρ = (evE Γ e (frz ρ fz) >>= fun r => pure (.rt r)) := by rw [exS]
@[simp] theorem exS_retO : exS Γ (.retO i) ρ = (M.of (getOwn ρ i) >>= fun ds => pure (.rt (.own ds))) := by rw [exS]
@[simp] theorem exS_retN : exS Γ .retN ρ = pure (.rt (.val .none)) := by rw [exS]
@[simp] theorem exS_srcSet : exS Γ (.srcSet i j e fz) ρ = (evF Γ e ρ fz >>= fun p => M.of (p.1.d.bind toInt) >>= fun n => M.of (getV p.2 i) >>= fun s => (M.wr s fun s => srcPut s j n) >>= fun _ => pure (.nx p.2)) := by rw [exS]
@[simp] theorem exS_swp (l : E) : exS Γ (.swp i k j l es fz) ρ = (evDs Γ es (frz ρ fz) >>= fun ds => match ds with
    | [d, e] => setAt Γ i k d fz (back ρ (frz ρ fz) (lfreeAll ds)) >>= fun ρ2 => setAt Γ j l e fz ρ2 >>= fun ρ3 => pure (.nx ρ3)
    | _ => M.stuck) := by rw [exS]; try rfl
@[simp] theorem setAt_s (d : PyData) : setAt Γ i k d fz ρ = (M.of (getOwn ρ i) >>= fun _ => evF Γ k ρ fz >>= fun p => M.of p.1.d >>= fun n => M.of (getOwn p.2 i) >>= fun ds => match n with
    | .int n => M.of (L2.ixN ds.length n) >>= fun j => pure (setV p.2 i (.own (ds.set j d)))
    | _ => M.stuck) := by rw [setAt]; try rfl
@[simp] theorem exS_srcPop : exS Γ (.srcPop i) ρ = (M.of (getV ρ i) >>= fun s => M.popS s >>= fun _ => pure (.nx ρ)) := by rw [exS]
@[simp] theorem exS_setI : exS Γ (.setI i k e fz) ρ = (evF Γ e ρ fz >>= fun p => M.of p.1.d >>= fun d => M.of (getOwn p.2 i) >>= fun _ => evF Γ k p.2 fz >>= fun q => M.of q.1.d >>= fun n => M.of (getOwn q.2 i) >>= fun ds => match n with
    | .int n => M.of (L2.ixN ds.length n) >>= fun j => pure (.nx (setV q.2 i (.own (ds.set j d))))
    | _ => M.stuck) := by rw [exS]; try rfl
theorem exS_whl : exS Γ (.whl c ss fz) ρ = whlLoop (fun ρ => evT Γ c ρ fz) (fun ρ => exSs Γ ss ρ) fuel ρ := by rw [exS]
theorem exS_for : exS Γ (.for_ tg it ss fz) ρ = (evI Γ it (frz ρ fz) >>= fun ds => forLoop (fun d ρ => M.of (bindTg tg d ρ) >>= fun ρ2 => exSs Γ ss ρ2) ds (back ρ (frz ρ fz) (isRng it))) := by rw [exS]
end
section
variable (i j : Int) (x y : PyData) (xs ys : List PyData)
@[simp] theorem cmp_gt : cmpop .Gt (.int i) (.int j) = some (decide (j < i)) := (rfl)
@[simp] theorem cmp_ge : cmpop .GtE (.int i) (.int j) = some (decide (j ≤ i)) := (rfl)
@[simp] theorem cmp_lt : cmpop .Lt (.int i) (.int j) = some (decide (i < j)) := (rfl)
@[simp] theorem cmp_le : cmpop .LtE (.int i) (.int j) = some (decide (i ≤ j)) := (rfl)
@[simp] theorem cmp_eq : cmpop .Eq x y = eqOp x y := by cases x <;> cases y <;> rfl
@[simp] theorem cmp_ne : cmpop .NotEq x y = (eqOp x y).map (!·) := by cases x <;> cases y <;> rfl
@[simp] theorem bin_add : binop .Add (.int i) (.int j) = some (.val (.int (i + j))) := (rfl)
@[simp] theorem bin_sub : binop .Sub (.int i) (.int j) = some (.val (.int (i - j))) := (rfl)
@[simp] theorem bin_mul : binop .Mult (.int i) (.int j) = if mulOk i j then some (.val (.int (i * j))) else none := (rfl)
@[simp] theorem bin_div : binop .FloorDiv (.int i) (.int j) = if divOk i j then some (.val (.int (i.fdiv j))) else none := (rfl)
@[simp] theorem bin_mod : binop .Mod (.int i) (.int j) = if j ≠ 0 then some (.val (.int (i.fmod j))) else none := (rfl)
@[simp] theorem bin_addT : binop .Add (.tuple xs) (.tuple ys) = if xs.length + ys.length ≤ line then some (.val (.tuple (xs ++ ys))) else none := (rfl)
@[simp] theorem bin_addL : binop .Add (.list xs) (.list ys) = if xs.length + ys.length ≤ line then some (.own (xs ++ ys)) else none := (rfl)
@[simp] theorem neg_int : negD (.int i) = some (.val (.int (-i))) := (rfl)
@[simp] theorem blt_gcd : blt .gcd [.int i, .int j] = some (.val (.int (Int.gcd i j : Nat))) := (rfl)
@[simp] theorem blt_abs : blt .abs [.int i] = some (.val (.int i.natAbs)) := (rfl)
@[simp] theorem blt_int : blt .int [.int i] = some (.val (.int i)) := (rfl)
@[simp] theorem blt_max : blt .max [.int i, .int j] = some (.val (.int (if j > i then j else i))) := (rfl)
@[simp] theorem blt_lenT : blt .len [.tuple xs] = some (.val (.int xs.length)) := (rfl)
@[simp] theorem blt_lenL : blt .len [.list xs] = some (.val (.int xs.length)) := (rfl)
@[simp] theorem blt_listT : blt .list [.tuple xs] = some (.own xs) := (rfl)
@[simp] theorem blt_listL : blt .list [.list xs] = some (.own xs) := (rfl)
@[simp] theorem blt_tupT : blt .tuple [.tuple xs] = some (.val (.tuple xs)) := (rfl)
@[simp] theorem blt_tupL : blt .tuple [.list xs] = some (.val (.tuple xs)) := (rfl)
@[simp] theorem idx_T : idx (.tuple xs) (.int i) = L2.atI xs i := (rfl)
@[simp] theorem idx_L : idx (.list xs) (.int i) = L2.atI xs i := (rfl)
end
@[simp] theorem runDef_eq (Γ : Ctx) (np n : Nat) (b : Ss) (args : List R) (S : SS) (h : args.length = np) : runDef Γ np n b args S = (exSs Γ b (args.map some ++ List.replicate (n - np) none) S).bind fun fl S => match fl with
    | .rt r => .ok r S
    | .nx _ => .ok (.val .none) S
    | _ => .stuck := by
  unfold runDef
  rw [if_pos h]
  simp only [M.bind_eq]
  cases exSs Γ b (args.map some ++ List.replicate (n - np) none) S with
  | stuck => rfl
  | exc e S => rfl
  | ok fl S => cases fl <;> rfl

/-! ### fractions -/
def fr (q : Rat) : PyData := .tuple [.int q.num, .int q.den]
theorem divOk_of {i j : Int} (h : j ≠ 0) (hj : j.natAbs < 2 ^ 9000) : divOk i j = true := by
  unfold divOk Builtin.divisionGoesByPylong
  have hl : j.natAbs.log2 < 9000 := (Nat.log2_lt (by omega)).mpr hj
  have h1 : (j == 0) = false := by simpa using h
  have h2 : ¬ (j.natAbs.log2 / 30 + 1 > 300) := by omega
  simp [h, h1, h2]
theorem bits_le {i : Int} {n : Nat} (h : i.natAbs < 2 ^ n) : Builtin.Int.intBits i ≤ n := by
  unfold Builtin.Int.intBits
  by_cases h0 : i = 0
  · subst h0; simp
  · have h1 : (i == 0) = false := by simpa using h0
    rw [h1, if_neg Bool.false_ne_true]
    exact (Nat.log2_lt (by omega)).mpr h
theorem mulOk_of {i j : Int} (hi : i.natAbs < 2 ^ 60000) (hj : j.natAbs < 2 ^ 60000) : mulOk i j = true := by
  unfold mulOk
  have h1 := bits_le hi
  have h2 := bits_le hj
  exact decide_eq_true (by omega)
theorem low_num {t b : Int} (hb : b ≠ 0) : t.fdiv (if 0 < b then (Int.gcd t b : Int) else -(Int.gcd t b : Int)) = (Rat.divInt t b).num := by
  have g0 : 0 < Int.gcd t b := Int.gcd_pos_of_ne_zero_right _ hb
  have hd : (Int.gcd t b : Int) ∣ t := Int.gcd_dvd_left ..
  obtain ⟨c, hc⟩ := hd
  have g0' : (Int.gcd t b : Int) ≠ 0 := by omega
  rw [Rat.num_divInt, Int.gcd_comm b t]
  by_cases h : 0 < b
  · rw [if_pos h, Int.sign_eq_one_of_pos h, Int.one_mul]
    rw [Int.fdiv_eq_ediv_of_nonneg _ (by omega)]
  · rw [if_neg h, Int.sign_eq_neg_one_of_neg (by omega)]
    have e1 : t.fdiv (-(Int.gcd t b : Int)) = -c := by
      have : t = (-(Int.gcd t b : Int)) * (-c) := by rw [Int.neg_mul_neg]; exact hc
      conv => lhs; lhs; rw [this]
      exact Int.mul_fdiv_cancel_left _ (by omega)
    have e2 : (-1 * t) / (Int.gcd t b : Int) = -c := by
      have : -1 * t = (Int.gcd t b : Int) * (-c) := by rw [Int.mul_neg, ← hc]; omega
      conv => lhs; lhs; rw [this]
      exact Int.mul_ediv_cancel_left _ g0'
    rw [e1, e2]
theorem low_den {t b : Int} (hb : b ≠ 0) : b.fdiv (if 0 < b then (Int.gcd t b : Int) else -(Int.gcd t b : Int)) = ((Rat.divInt t b).den : Int) := by
  have g0 : 0 < Int.gcd t b := Int.gcd_pos_of_ne_zero_right _ hb
  have hd : (Int.gcd t b : Int) ∣ b := Int.gcd_dvd_right ..
  obtain ⟨c, hc⟩ := hd
  have g0' : (Int.gcd t b : Int) ≠ 0 := by omega
  rw [Rat.den_divInt, if_neg hb, Int.gcd_comm b t]
  by_cases h : 0 < b
  · rw [if_pos h, Int.fdiv_eq_ediv_of_nonneg _ (by omega)]
    rw [Int.natCast_ediv, Int.natAbs_of_nonneg (by omega)]
  · rw [if_neg h]
    have e1 : b.fdiv (-(Int.gcd t b : Int)) = -c := by
      have : b = (-(Int.gcd t b : Int)) * (-c) := by rw [Int.neg_mul_neg]; exact hc
      conv => lhs; lhs; rw [this]
      exact Int.mul_fdiv_cancel_left _ (by omega)
    rw [e1, Int.natCast_ediv]
    have : (b.natAbs : Int) = (Int.gcd t b : Int) * (-c) := by rw [Int.mul_neg, ← hc]; omega
    rw [this, Int.mul_ediv_cancel_left _ g0']
theorem gcd_small {t b : Int} (hb : b ≠ 0) (h : b.natAbs < 2 ^ 9000) : (Int.gcd t b) < 2 ^ 9000 :=
  Nat.lt_of_le_of_lt (Nat.le_of_dvd (by omega) (Int.gcd_dvd_natAbs_right t b)) h
/-! ### the steps of a common part -/
theorem whl_gcd {test : Env → M Bool} {body : Env → M Fl} {mk : Nat → Nat → Env} {S : SS} (ht : ∀ a b, test (mk a b) S = .ok (decide (0 < b)) S) (hb : ∀ a b, 0 < b → body (mk a b) S = .ok (.nx (mk b (a % b))) S) :
    ∀ (k a b n : Nat), b < 2 ^ k → 2 * k + 2 ≤ n → whlLoop test body n (mk a b) S = .ok (.nx (mk (Nat.gcd a b) 0)) S := by
  have stop : ∀ a n, whlLoop test body (n + 1) (mk a 0) S = .ok (.nx (mk a 0)) S := fun a n => by
    simp [whlLoop, ht]
  have step : ∀ a b n, 0 < b → whlLoop test body (n + 1) (mk a b) S = whlLoop test body n (mk b (a % b)) S := fun a b n h => by
    simp [whlLoop, ht, hb a b h, h]
  intro k
  induction k with
  | zero =>
    intro a b n h1 h2
    obtain rfl : b = 0 := by omega
    obtain ⟨m, rfl⟩ : ∃ m, n = m + 1 := ⟨n - 1, by omega⟩
    rw [stop, Nat.gcd_zero_right]
  | succ k ih =>
    intro a b n h1 h2
    obtain ⟨m, rfl⟩ : ∃ m, n = m + 1 + 1 := ⟨n - 2, by omega⟩
    by_cases h0 : b = 0
    · subst h0; rw [stop, Nat.gcd_zero_right]
    rw [step a b _ (by omega)]
    by_cases h3 : a % b = 0
    · rw [h3, stop, Nat.gcd_comm, Nat.gcd_eq_left (Nat.dvd_of_mod_eq_zero h3)]
    rw [step b (a % b) _ (by omega)]
    have h4 : a % b < b := Nat.mod_lt _ (by omega)
    have h5 : b % (a % b) < 2 ^ k := by
      have h6 : b % (a % b) < a % b := Nat.mod_lt _ (by omega)
      have h7 : (a % b) * 1 ≤ (a % b) * (b / (a % b)) := Nat.mul_le_mul_left _ (Nat.div_pos (by omega) (by omega))
      have h8 := Nat.div_add_mod b (a % b)
      have h9 : 2 ^ (k + 1) = 2 ^ k * 2 := Nat.pow_succ ..
      omega
    rw [ih (a % b) (b % (a % b)) m h5 (by omega)]
    have e : Nat.gcd (a % b) (b % (a % b)) = Nat.gcd a b := by
      rw [Nat.gcd_comm (a % b) (b % (a % b)), ← Nat.gcd_rec (a % b) b, ← Nat.gcd_rec b a, Nat.gcd_comm]
    rw [e]
end Pv

/-! M3 -/
set_option Elab.async false
set_option linter.all false
set_option maxRecDepth 100000
set_option maxHeartbeats 4000000
set_option exponentiation.threshold 100000
namespace Pv
open PySem
/-! ### numbers of known size -/
def Sq (q : Rat) : Prop := q.num.natAbs < 2 ^ 4000 ∧ q.den < 2 ^ 4000
/-- q = n / D, |n| ≤ M -/
def Bd (D M : Nat) (q : Rat) : Prop := ∃ n : Int, q * (D : Rat) = (n : Rat) ∧ n.natAbs ≤ M
theorem Bd.mono {D M M' : Nat} {q : Rat} (h : Bd D M q) (l : M ≤ M') : Bd D M' q := by
  obtain ⟨n, h1, h2⟩ := h
  exact ⟨n, h1, Nat.le_trans h2 l⟩
theorem Bd.scale {D M : Nat} {q : Rat} (h : Bd D M q) (c : Nat) : Bd (D * c) (M * c) q := by
  obtain ⟨n, h1, h2⟩ := h
  refine ⟨n * c, ?_, ?_⟩
  · rw [Rat.natCast_mul, ← Rat.mul_assoc, h1, Rat.intCast_mul]
    rfl
  · rw [Int.natAbs_mul, Int.natAbs_natCast]
    exact Nat.mul_le_mul_right _ h2
theorem Bd.add {D M M' : Nat} {p q : Rat} (h : Bd D M p) (h' : Bd D M' q) : Bd D (M + M') (p + q) := by
  obtain ⟨n, h1, h2⟩ := h
  obtain ⟨m, h3, h4⟩ := h'
  refine ⟨n + m, ?_, by omega⟩
  rw [Rat.add_mul, h1, h3, Rat.intCast_add]
theorem Bd.neg {D M : Nat} {q : Rat} (h : Bd D M q) : Bd D M (-q) := by
  obtain ⟨n, h1, h2⟩ := h
  refine ⟨-n, ?_, by omega⟩
  rw [Rat.neg_mul, h1, Rat.intCast_neg]
theorem Bd.sub {D M M' : Nat} {p q : Rat} (h : Bd D M p) (h' : Bd D M' q) : Bd D (M + M') (p - q) := by
  rw [Rat.sub_eq_add_neg]
  exact h.add h'.neg
theorem Bd.mul {D M D' M' : Nat} {p q : Rat} (h : Bd D M p) (h' : Bd D' M' q) : Bd (D * D') (M * M') (p * q) := by
  obtain ⟨n, h1, h2⟩ := h
  obtain ⟨m, h3, h4⟩ := h'
  refine ⟨n * m, ?_, ?_⟩
  · rw [Rat.natCast_mul, Rat.intCast_mul, ← h1, ← h3]
    grind
  · rw [Int.natAbs_mul]
    exact Nat.mul_le_mul h2 h4
theorem Bd.zero (D : Nat) : Bd D 0 0 := ⟨0, by rw [Rat.zero_mul]; rfl, by simp⟩
theorem Bd.int (n : Int) : Bd 1 n.natAbs (n : Rat) := ⟨n, by simp, Nat.le_refl _⟩
theorem Bd.inv {D M : Nat} {q : Rat} (hD : 0 < D) (h : Bd D M q) (h0 : q ≠ 0) : ∃ E, 0 < E ∧ E ≤ M ∧ Bd E D (q⁻¹) := by
  obtain ⟨n, h1, h2⟩ := h
  have hDr : (D : Rat) ≠ 0 := by
    intro e
    have e : (D : Rat) = ((0 : Nat) : Rat) := e
    have := Rat.natCast_inj.mp e
    omega
  have hn : n ≠ 0 := by
    rintro rfl
    have h1 : q * (D : Rat) = 0 := h1
    rcases Rat.mul_eq_zero.mp h1 with h | h
    · exact h0 h
    · exact hDr h
  refine ⟨n.natAbs, by omega, h2, ?_⟩
  have hq : q⁻¹ * (n : Rat) = (D : Rat) := by
    rw [← h1, ← Rat.mul_assoc, Rat.inv_mul_cancel _ h0, Rat.one_mul]
  by_cases hp : 0 ≤ n
  · refine ⟨D, ?_, by simp⟩
    have : ((n.natAbs : Nat) : Rat) = (n : Rat) := by
      rw [← Rat.intCast_natCast, Int.natAbs_of_nonneg hp]
    rw [this, hq]
    rfl
  · refine ⟨-(D : Int), ?_, by simp⟩
    have : ((n.natAbs : Nat) : Rat) = -(n : Rat) := by
      rw [← Rat.intCast_natCast, ← Rat.intCast_neg]
      congr 1
      omega
    rw [this, Rat.mul_neg, hq, Rat.intCast_neg]
    rfl
theorem Bd.den {D M : Nat} {q : Rat} (hD : 0 < D) (h : Bd D M q) : q.den ∣ D ∧ q.num.natAbs ≤ M := by
  obtain ⟨n, h1, h2⟩ := h
  have hDr : (D : Rat) ≠ 0 := by
    intro e
    have e : (D : Rat) = ((0 : Nat) : Rat) := e
    have := Rat.natCast_inj.mp e
    omega
  have hq : q = mkRat n D := by
    rw [Rat.mkRat_eq_div, ← h1, Rat.mul_div_cancel hDr]
  constructor
  · rw [hq, Rat.den_mkRat, if_neg (by omega)]
    exact Nat.div_dvd_of_dvd (Nat.gcd_dvd_left ..)
  · rw [hq, Rat.num_mkRat, if_neg (by omega)]
    refine Nat.le_trans ?_ h2
    exact Int.natAbs_ediv_le_natAbs ..
theorem Bd.sq {D M : Nat} {q : Rat} (hD : 0 < D) (h : Bd D M q) (h1 : D < 2 ^ 4000) (h2 : M < 2 ^ 4000) : Sq q := by
  obtain ⟨h3, h4⟩ := h.den hD
  exact ⟨Nat.lt_of_le_of_lt h4 h2, Nat.lt_of_le_of_lt (Nat.le_of_dvd hD h3) h1⟩
theorem Bd.low {t b : Int} (hb : b ≠ 0) : Bd b.natAbs t.natAbs (Rat.divInt t b) := by
  refine ⟨if 0 < b then t else -t, ?_, by split <;> simp⟩
  have hbr : (b : Rat) ≠ 0 := by
    intro e
    have e : (b : Rat) = ((0 : Int) : Rat) := e
    have := Rat.intCast_inj.mp e
    exact hb this
  rw [Rat.divInt_eq_div, ← Rat.intCast_natCast]
  by_cases h : 0 < b
  · rw [if_pos h, Int.natAbs_of_nonneg (by omega), Rat.div_mul_cancel hbr]
  · rw [if_neg h]
    have : (b.natAbs : Int) = -b := by omega
    rw [this, Rat.intCast_neg, Rat.mul_neg, Rat.div_mul_cancel hbr, Rat.intCast_neg]
/-! ### polynomials by values -/
def ev (a : Rat) : List Rat → Rat
  | [] => 0
  | x :: xs => x + a * ev a xs
theorem ev_append (a : Rat) : ∀ l m, ev a (l ++ m) = ev a l + a ^ l.length * ev a m
  | [], m => by simp [ev, Rat.zero_add]
  | x :: l, m => by
    rw [List.cons_append, ev, ev, ev_append a l m, List.length_cons, Rat.pow_succ]
    grind
theorem ev_zeros (a : Rat) : ∀ n, ev a (List.replicate n 0) = 0
  | 0 => rfl
  | n + 1 => by
    rw [List.replicate_succ, ev, ev_zeros a n]
    grind
def trim : List Rat → List Rat
  | [] => []
  | x :: xs => match trim xs with
    | [] => if x = 0 then [] else [x]
    | y :: ys => x :: y :: ys
theorem trim_snoc0 : ∀ l, trim (l ++ [0]) = trim l
  | [] => rfl
  | x :: l => by
    rw [List.cons_append, trim, trim, trim_snoc0 l]
theorem trim_snoc {c : Rat} (h : c ≠ 0) : ∀ l, trim (l ++ [c]) = l ++ [c]
  | [] => by simp [trim, h]
  | x :: l => by
    rw [List.cons_append, trim, trim_snoc h l]
    cases l <;> rfl
theorem trim_zeros (l : List Rat) : ∀ n, trim (l ++ List.replicate n 0) = trim l
  | 0 => by simp
  | n + 1 => by
    rw [List.replicate_succ', ← List.append_assoc, trim_snoc0, trim_zeros l n]
/-- what trim takes -/
theorem trim_split (l : List Rat) : ∃ n, l = trim l ++ List.replicate n 0 := by
  induction l with
  | nil => exact ⟨0, rfl⟩
  | cons x l ih =>
    obtain ⟨n, e⟩ := ih
    rw [trim]
    cases q : trim l with
    | nil =>
      rw [q] at e
      by_cases h : x = 0
      · simp only [h, if_true]
        refine ⟨n + 1, ?_⟩
        rw [e, List.replicate_succ]
        rfl
      · simp only [h, if_false]
        refine ⟨n, ?_⟩
        conv => lhs; rw [e]
        rfl
    | cons y ys =>
      rw [q] at e
      exact ⟨n, by rw [List.cons_append, ← e]⟩
theorem ev_trim (a : Rat) (l : List Rat) : ev a (trim l) = ev a l := by
  obtain ⟨n, e⟩ := trim_split l
  conv => rhs; rw [e, ev_append, ev_zeros, Rat.mul_zero, Rat.add_zero]
/-- the last one is not nothing -/
def Tr (l : List Rat) : Prop := l.getLast? ≠ some 0
theorem tr_trim (l : List Rat) : Tr (trim l) := by
  induction l with
  | nil => simp [trim, Tr]
  | cons x l ih =>
    rw [trim]
    cases q : trim l with
    | nil =>
      by_cases h : x = 0
      · simp [h, Tr]
      · simp [h, Tr]
    | cons y ys =>
      rw [q] at ih
      unfold Tr at ih ⊢
      rw [List.getLast?_cons_cons]
      exact ih
theorem trim_of_tr {l : List Rat} (h : Tr l) : trim l = l := by
  obtain ⟨n, e⟩ := trim_split l
  cases n with
  | zero => rw [List.replicate_zero, List.append_nil] at e; exact e.symm
  | succ n =>
    exfalso
    apply h
    rw [e, List.replicate_succ', ← List.append_assoc, List.getLast?_append]
    rfl
theorem trim_len (l : List Rat) : (trim l).length ≤ l.length := by
  obtain ⟨n, e⟩ := trim_split l
  conv => rhs; rw [e]
  rw [List.length_append]
  omega
theorem trim_mem {l : List Rat} {q : Rat} (h : q ∈ trim l) : q ∈ l := by
  obtain ⟨n, e⟩ := trim_split l
  rw [e]
  exact List.mem_append_left _ h
def Bdl (D M : Nat) (l : List Rat) : Prop := ∀ q ∈ l, Bd D M q
theorem Bdl.trim {D M : Nat} {l : List Rat} (h : Bdl D M l) : Bdl D M (trim l) := fun q hq => h q (trim_mem hq)
end Pv

/-! M2 -/
set_option Elab.async false
set_option linter.all false
set_option maxRecDepth 100000
set_option maxHeartbeats 4000000
set_option exponentiation.threshold 100000
namespace K07
open PySem Pv
theorem s_low {t b : Int} {S : SS} (hb : b ≠ 0) (h : b.natAbs < 2 ^ 9000) : sem_fraction_low [.val (.int t), .val (.int b)] S = .ok (.val (fr (Rat.divInt t b))) S := by
  have g := gcd_small (t := t) hb h
  have g0 : 0 < Int.gcd t b := Int.gcd_pos_of_ne_zero_right _ hb
  unfold fr
  rw [← low_num hb, ← low_den hb]
  by_cases h0 : 0 < b
  · have d1 : ∀ i : Int, divOk i (Int.gcd t b : Int) = true := fun i => divOk_of (by omega) (by simpa using g)
    simp [sem_fraction_low, ir_fraction_low, h0, d1, line]
  · have d1 : ∀ i : Int, divOk i (-(Int.gcd t b : Int)) = true := fun i => divOk_of (by omega) (by simpa using g)
    simp [sem_fraction_low, ir_fraction_low, h0, d1, line]
section
variable {x y : Rat} {S : SS}
theorem sq_mul {i j : Int} (hi : i.natAbs < 2 ^ 4000) (hj : j.natAbs < 2 ^ 4000) : mulOk i j = true :=
  mulOk_of (Nat.lt_of_lt_of_le hi (Nat.pow_le_pow_right (by decide) (by decide))) (Nat.lt_of_lt_of_le hj (Nat.pow_le_pow_right (by decide) (by decide)))
theorem sq_bot (hx : Sq x) (hy : Sq y) : ((x.den : Int) * (y.den : Int)) ≠ 0 ∧ ((x.den : Int) * (y.den : Int)).natAbs < 2 ^ 9000 := by
  have h1 := x.den_pos
  have h2 := y.den_pos
  constructor
  · exact Int.mul_ne_zero (by omega) (by omega)
  · rw [Int.natAbs_mul, Int.natAbs_natCast, Int.natAbs_natCast]
    calc x.den * y.den < 2 ^ 4000 * 2 ^ 4000 := Nat.mul_lt_mul'' hx.2 hy.2
      _ ≤ 2 ^ 9000 := by rw [← Nat.pow_add]; exact Nat.pow_le_pow_right (by decide) (by decide)
@[simp] theorem at0 (a b : PyData) : L2.atI [a, b] 0 = some a := (rfl)
@[simp] theorem at1 (a b : PyData) : L2.atI [a, b] 1 = some b := (rfl)
theorem add_divInt : Rat.divInt (x.num * y.den + y.num * x.den) ((x.den : Int) * (y.den : Int)) = x + y := by
  rw [Rat.add_def', ← Rat.divInt_ofNat, Int.natCast_mul]
theorem sub_divInt : Rat.divInt (x.num * y.den - y.num * x.den) ((x.den : Int) * (y.den : Int)) = x - y := by
  rw [Rat.sub_def', ← Rat.divInt_ofNat, Int.natCast_mul]
theorem mul_divInt : Rat.divInt (x.num * y.num) ((x.den : Int) * (y.den : Int)) = x * y := by
  rw [Rat.mul_def', ← Rat.divInt_ofNat, Int.natCast_mul]
theorem over_divInt (h : y ≠ 0) : Rat.divInt (x.num * y.den) ((x.den : Int) * y.num) = x / y := by
  rw [Rat.div_def, Rat.inv_def, ← Rat.num_divInt_den x, Rat.divInt_mul_divInt, Rat.num_divInt_den]
theorem s_added (hx : Sq x) (hy : Sq y) : sem_fractions_added [.val (fr x), .val (fr y)] S = .ok (.val (fr (x + y))) S := by
  obtain ⟨b1, b2⟩ := sq_bot hx hy
  have m1 := sq_mul (i := x.num) (j := y.den) hx.1 (by simpa using hy.2)
  have m2 := sq_mul (i := y.num) (j := x.den) hy.1 (by simpa using hx.2)
  have m3 := sq_mul (i := x.den) (j := y.den) (by simpa using hx.2) (by simpa using hy.2)
  have e := s_low (S := S) (t := x.num * y.den + y.num * x.den) b1 b2
  rw [add_divInt] at e
  unfold fr at e ⊢
  simp [sem_fractions_added, ir_fractions_added, m1, m2, m3, e]
theorem s_less (hx : Sq x) (hy : Sq y) : sem_fractions_less [.val (fr x), .val (fr y)] S = .ok (.val (fr (x - y))) S := by
  obtain ⟨b1, b2⟩ := sq_bot hx hy
  have m1 := sq_mul (i := x.num) (j := y.den) hx.1 (by simpa using hy.2)
  have m2 := sq_mul (i := y.num) (j := x.den) hy.1 (by simpa using hx.2)
  have m3 := sq_mul (i := x.den) (j := y.den) (by simpa using hx.2) (by simpa using hy.2)
  have e := s_low (S := S) (t := x.num * y.den - y.num * x.den) b1 b2
  rw [sub_divInt] at e
  unfold fr at e ⊢
  simp [sem_fractions_less, ir_fractions_less, m1, m2, m3, e]
theorem s_times (hx : Sq x) (hy : Sq y) : sem_fractions_times [.val (fr x), .val (fr y)] S = .ok (.val (fr (x * y))) S := by
  obtain ⟨b1, b2⟩ := sq_bot hx hy
  have m1 := sq_mul (i := x.num) (j := y.num) hx.1 hy.1
  have m3 := sq_mul (i := x.den) (j := y.den) (by simpa using hx.2) (by simpa using hy.2)
  have e := s_low (S := S) (t := x.num * y.num) b1 b2
  rw [mul_divInt] at e
  unfold fr at e ⊢
  simp [sem_fractions_times, ir_fractions_times, m1, m3, e]
theorem s_over (hx : Sq x) (hy : Sq y) (h0 : y ≠ 0) : sem_fractions_over [.val (fr x), .val (fr y)] S = .ok (.val (fr (x / y))) S := by
  have m1 := sq_mul (i := x.num) (j := y.den) hx.1 (by simpa using hy.2)
  have m3 := sq_mul (i := x.den) (j := y.num) (by simpa using hx.2) hy.1
  have b1 : (x.den : Int) * y.num ≠ 0 := Int.mul_ne_zero (by have := x.den_pos; omega) (by rw [Ne, Rat.num_eq_zero]; exact h0)
  have b2 : ((x.den : Int) * y.num).natAbs < 2 ^ 9000 := by
    rw [Int.natAbs_mul, Int.natAbs_natCast]
    calc x.den * y.num.natAbs < 2 ^ 4000 * 2 ^ 4000 := Nat.mul_lt_mul'' hx.2 hy.1
      _ ≤ 2 ^ 9000 := by rw [← Nat.pow_add]; exact Nat.pow_le_pow_right (by decide) (by decide)
  have e := s_low (S := S) (t := x.num * y.den) b1 b2
  rw [over_divInt h0] at e
  unfold fr at e ⊢
  simp [sem_fractions_over, ir_fractions_over, m1, m3, e]
theorem s_ahead (hx : Sq x) (hy : Sq y) : sem_is_ahead [.val (fr x), .val (fr y)] S = .ok (.val (.bool (decide (x < y)))) S := by
  have m1 := sq_mul (i := x.num) (j := y.den) hx.1 (by simpa using hy.2)
  have m2 := sq_mul (i := y.num) (j := x.den) hy.1 (by simpa using hx.2)
  unfold fr
  simp [sem_is_ahead, ir_is_ahead, m1, m2, Rat.lt_iff]
/-! ### the law's own -/
theorem l_low {t b : Int} {S : SS} (hb : b ≠ 0) (h : b.natAbs < 2 ^ 9000) : sem__law_low [.val (.int t), .val (.int b)] S = .ok (.val (fr (Rat.divInt t b))) S := by
  have g := gcd_small (t := t) hb h
  have g0 : 0 < Int.gcd t b := Int.gcd_pos_of_ne_zero_right _ hb
  have w := whl_gcd (test := fun ρ => evT g__law_low (.cmp .Gt (.var 3) (.lit (.int 0))) ρ []) (body := fun ρ => exSs g__law_low (.cons (.par 2 3 true true (.var 3) (.bin .Mod (.blt .int (.cons (.var 2) .nil)) (.var 3)) []) .nil) ρ)
    (mk := fun a b' => [some (.val (.int t)), some (.val (.int b)), some (.val (.int a)), some (.val (.int b'))]) (S := S) (fun a b' => by simp) (fun a b' hb' => by
      have h1 : b' ≠ 0 := by omega
      have h2 : (a : Int).fmod (b' : Int) = ((a % b' : Nat) : Int) := by rw [Int.fmod_eq_emod_of_nonneg _ (by omega)]; rfl
      simp [h1, h2]) 9000 t.natAbs b.natAbs fuel h (by decide)
  rw [← exS_whl] at w
  unfold fr
  rw [← low_num hb, ← low_den hb]
  have eg : Nat.gcd t.natAbs b.natAbs = Int.gcd t b := rfl
  rw [eg] at w
  by_cases h0 : 0 < b
  · have d1 : ∀ i : Int, divOk i (Int.gcd t b : Int) = true := fun i => divOk_of (by omega) (by simpa using g)
    simp [sem__law_low, ir__law_low, h0, d1, line, w]
  · have d1 : ∀ i : Int, divOk i (-(Int.gcd t b : Int)) = true := fun i => divOk_of (by omega) (by simpa using g)
    simp [sem__law_low, ir__law_low, h0, d1, line, w]
theorem l_plus (hx : Sq x) (hy : Sq y) : sem__law_plus [.val (fr x), .val (fr y)] S = .ok (.val (fr (x + y))) S := by
  obtain ⟨b1, b2⟩ := sq_bot hx hy
  have m1 := sq_mul (i := x.num) (j := y.den) hx.1 (by simpa using hy.2)
  have m2 := sq_mul (i := y.num) (j := x.den) hy.1 (by simpa using hx.2)
  have m3 := sq_mul (i := x.den) (j := y.den) (by simpa using hx.2) (by simpa using hy.2)
  have e := l_low (S := S) (t := x.num * y.den + y.num * x.den) b1 b2
  rw [add_divInt] at e
  unfold fr at e ⊢
  simp [sem__law_plus, ir__law_plus, m1, m2, m3, e]
theorem l_times (hx : Sq x) (hy : Sq y) : sem__law_times [.val (fr x), .val (fr y)] S = .ok (.val (fr (x * y))) S := by
  obtain ⟨b1, b2⟩ := sq_bot hx hy
  have m1 := sq_mul (i := x.num) (j := y.num) hx.1 hy.1
  have m3 := sq_mul (i := x.den) (j := y.den) (by simpa using hx.2) (by simpa using hy.2)
  have e := l_low (S := S) (t := x.num * y.num) b1 b2
  rw [mul_divInt] at e
  unfold fr at e ⊢
  simp [sem__law_times, ir__law_times, m1, m3, e]
end
end K07

/-! M4 -/
set_option Elab.async false
set_option linter.all false
set_option maxRecDepth 100000
set_option maxHeartbeats 4000000
set_option exponentiation.threshold 100000
namespace Pv
open PySem
/-! ### what may be compared -/
def Shp (n : Nat) (d : PyData) : Prop := d.canLay0 = true ∧ d.depth ≤ n
def ShpAll (n : Nat) (ds : List PyData) : Prop := PyData.canLayAll0 ds = true ∧ PyData.depthAll ds ≤ n
theorem ShpAll.nil (n : Nat) : ShpAll n [] := ⟨by simp [PyData.canLayAll0], by simp [PyData.depthAll]⟩
theorem ShpAll.cons {n : Nat} {d : PyData} {ds : List PyData} (h : Shp n d) (h' : ShpAll n ds) : ShpAll n (d :: ds) :=
  ⟨by simp [PyData.canLayAll0, h.1, h'.1], by simp only [PyData.depthAll]; exact Nat.max_le.mpr ⟨h.2, h'.2⟩⟩
theorem ShpAll.of {n : Nat} : ∀ {ds : List PyData}, (∀ d ∈ ds, Shp n d) → ShpAll n ds
  | [], _ => ShpAll.nil n
  | d :: ds, h => ShpAll.cons (h d List.mem_cons_self) (ShpAll.of fun x hx => h x (List.mem_cons_of_mem _ hx))
theorem Shp.list {n : Nat} {ds : List PyData} (h : ShpAll n ds) : Shp (n + 1) (.list ds) := ⟨by simp [PyData.canLay0, h.1], by simp only [PyData.depth]; have := h.2; omega⟩
theorem Shp.tuple {n : Nat} {ds : List PyData} (h : ShpAll n ds) : Shp (n + 1) (.tuple ds) := ⟨by simp [PyData.canLay0, h.1], by simp only [PyData.depth]; have := h.2; omega⟩
theorem Shp.int {n : Nat} (i : Int) : Shp n (.int i) := ⟨by simp [PyData.canLay0], by simp [PyData.depth]⟩
theorem Shp.bool {n : Nat} (i : Bool) : Shp n (.bool i) := ⟨by simp [PyData.canLay0], by simp [PyData.depth]⟩
theorem Shp.none {n : Nat} : Shp n .none := ⟨by simp [PyData.canLay0], by simp [PyData.depth]⟩
theorem Shp.mono {n m : Nat} {d : PyData} (h : Shp n d) (l : n ≤ m) : Shp m d := ⟨h.1, Nat.le_trans h.2 l⟩
theorem ShpAll.mono {n m : Nat} {d : List PyData} (h : ShpAll n d) (l : n ≤ m) : ShpAll m d := ⟨h.1, Nat.le_trans h.2 l⟩
theorem Shp.fr {n : Nat} (q : Rat) : Shp (n + 1) (fr q) := Shp.tuple (.cons (.int _) (.cons (.int _) (.nil _)))
theorem eqOp_of {x y : PyData} (hx : Shp 64 x) (hy : Shp 64 y) : eqOp x y = some (PyData.eqv x y) := by
  have s : ∀ {d : PyData}, Shp 64 d → SeqAt.shaped d = true := fun {d} h => by
    unfold SeqAt.shaped
    rw [h.1, decide_eq_true h.2]
    rfl
  unfold eqOp
  split
  · rename_i i j
    simp only [PyData.eqv]
    by_cases h : i = j
    · subst h; simp
    · simp [h]
  · rename_i i j
    simp only [PyData.eqv]
    by_cases h : i = j
    · subst h; simp
    · simp [h]
  · rename_i i j
    simp only [PyData.eqv]
    by_cases h : i = j
    · subst h; simp
    · simp [h]
  · rw [s hx, s hy]
    rfl
mutual
theorem eqv_refl : ∀ (d : PyData), d.canLay0 = true → PyData.eqv d d = true
  | .none, _ => by simp [PyData.eqv]
  | .bool _, _ => by simp [PyData.eqv]
  | .int _, _ => by simp [PyData.eqv]
  | .str _, _ => by simp [PyData.eqv]
  | .list xs, h => by
    simp only [PyData.eqv]
    exact eqvAll_refl xs (by simpa [PyData.canLay0] using h)
  | .tuple xs, h => by
    simp only [PyData.eqv]
    exact eqvAll_refl xs (by simpa [PyData.canLay0] using h)
  | .dict _, h => by simp [PyData.canLay0] at h
theorem eqvAll_refl : ∀ (ds : List PyData), PyData.canLayAll0 ds = true → PyData.eqvAll ds ds = true
  | [], _ => by simp [PyData.eqvAll]
  | x :: xs, h => by
    have h' : x.canLay0 = true ∧ PyData.canLayAll0 xs = true := by simpa [PyData.canLayAll0] using h
    simp only [PyData.eqvAll]
    rw [eqv_refl x h'.1, eqvAll_refl xs h'.2]
    rfl
end
theorem eqv_fr (p q : Rat) : PyData.eqv (fr p) (fr q) = decide (p = q) := by
  unfold fr
  simp only [PyData.eqv, PyData.eqvAll, Bool.and_true]
  by_cases h : p = q
  · subst h; simp
  · rw [decide_eq_false h]
    by_cases h1 : p.num = q.num
    · have : p.den ≠ q.den := fun e => h (Rat.ext h1 e)
      simp [h1]
      omega
    · simp [h1]
/-! ### trailing nothings -/
theorem whl_trim {test : Env → M Bool} {body : Env → M Fl} {mk : List Rat → Env} {S : SS} (h0 : test (mk []) S = .ok false S) (h1 : ∀ l c, test (mk (l ++ [c])) S = .ok (decide (c = 0)) S) (hb : ∀ l c, body (mk (l ++ [c])) S = .ok (.nx (mk l)) S) :
    ∀ (n : Nat) (l : List Rat), l.length < n → whlLoop test body n (mk l) S = .ok (.nx (mk (trim l))) S := by
  intro n
  induction n with
  | zero => intro l h; omega
  | succ n ih =>
    intro l h
    rcases List.eq_nil_or_concat l with rfl | ⟨m, c, rfl⟩
    · simp [whlLoop, h0, trim]
    · rw [List.concat_eq_append] at h ⊢
      by_cases hc : c = 0
      · subst hc
        have e : whlLoop test body (n + 1) (mk (m ++ [0])) S = whlLoop test body n (mk m) S := by
          simp [whlLoop, h1, hb]
        rw [e, trim_snoc0]
        exact ih m (by rw [List.length_append] at h; simp at h; omega)
      · rw [trim_snoc hc]
        simp [whlLoop, h1, hc]
def fl (l : List Rat) : List PyData := l.map fr
def po (l : List Rat) : PyData := .tuple (fl l)
theorem fl_append (l m : List Rat) : fl (l ++ m) = fl l ++ fl m := List.map_append
theorem fl_len (l : List Rat) : (fl l).length = l.length := List.length_map ..
theorem ShpAll.fl (l : List Rat) : ShpAll 1 (fl l) := ShpAll.of fun d hd => by
  obtain ⟨q, _, rfl⟩ := List.mem_map.mp hd
  exact Shp.fr (n := 0) q
theorem at_last (l : List PyData) (d : PyData) : L2.atI (l ++ [d]) (-1) = some d := by
  unfold L2.atI L2.ixN
  rw [List.length_append, List.length_singleton, if_neg (by decide), if_pos (by omega)]
  show (l ++ [d])[((-1 : Int) + ((l.length + 1 : Nat) : Int)).toNat]? = some d
  have : ((-1 : Int) + ((l.length + 1 : Nat) : Int)).toNat = l.length := by omega
  rw [this, List.getElem?_append_right (Nat.le_refl _), Nat.sub_self]
  rfl
theorem fr0 : fr 0 = .tuple [.int 0, .int 1] := rfl
theorem fr1 : fr 1 = .tuple [.int 1, .int 1] := rfl
end Pv
namespace K07
open PySem Pv
section
variable {S : SS} {l : List Rat}
theorem of_loop (v0 : R) (hl : l.length < 16000000) : exS g_polynomial_of (.whl (.andv (.cmp .NotEq (.var 1) (.lst .nil)) (.cmp .Eq (.idx (.var 1) (.neg (.lit (.int 1)))) (.glob 0))) (.cons (.pop 1) .nil) [1]) [some v0, some (.own (fl l))] S =
    .ok (.nx [some v0, some (.own (fl (trim l)))]) S := by
  rw [exS_whl]
  refine whl_trim (mk := fun l => [some v0, some (.own (fl l))]) ?_ (fun m c => ?_) (fun m c => ?_) fuel l (by unfold fuel; omega)
  · simp [frz, frzSlot, fl, eqOp_of (Shp.list (n := 63) (.nil _)) (Shp.list (n := 63) (.nil _)), PyData.eqv, PyData.eqvAll, line]
  · have e1 := eqOp_of (x := .list (fl (m ++ [c]))) (y := .list []) (.mono (.list (.fl _)) (by decide)) (.mono (.list (.nil 0)) (by decide))
    have e2 := eqOp_of (x := fr c) (y := fr 0) (.mono (.fr (n := 0) c) (by decide)) (.mono (.fr (n := 0) 0) (by decide))
    rw [eqv_fr] at e2
    have e3 : PyData.eqv (.list (fl (m ++ [c]))) (.list []) = false := by
      rw [fl_append]
      simp only [PyData.eqv]
      cases fl m <;> simp [fl, PyData.eqvAll]
    rw [e3] at e1
    rw [fr0] at e2
    have e4 := at_last (fl m) (fr c)
    have e5 : fl (m ++ [c]) = fl m ++ [fr c] := fl_append m [c]
    rw [e5] at e1
    simp [frz, frzSlot, e5, e1, e4, e2, line]
  · have e5 : fl (m ++ [c]) = fl m ++ [fr c] := fl_append m [c]
    simp [e5]
end
end K07

/-! M5 -/
set_option Elab.async false
set_option linter.all false
set_option maxRecDepth 100000
set_option maxHeartbeats 4000000
set_option exponentiation.threshold 100000
namespace K07
open PySem Pv
section
variable {S : SS} {l m : List Rat}
theorem s_ofL (hl : l.length < 16000000) : sem_polynomial_of [.val (.list (fl l))] S = .ok (.val (po (trim l))) S := by
  have w := of_loop (S := S) (.val (.list (fl l))) hl
  simp [sem_polynomial_of, ir_polynomial_of, w, frz, frzSlot, po]
theorem s_ofT (hl : l.length < 16000000) : sem_polynomial_of [.val (.tuple (fl l))] S = .ok (.val (po (trim l))) S := by
  have w := of_loop (S := S) (.val (.tuple (fl l))) hl
  simp [sem_polynomial_of, ir_polynomial_of, w, frz, frzSlot, po]
theorem tr_loop (v0 : R) (hl : l.length < 16000000) : exS g__law_trimmed (.whl (.andv (.cmp .NotEq (.var 1) (.lst .nil)) (.cmp .Eq (.idx (.var 1) (.neg (.lit (.int 1)))) (.tup (.cons (.lit (.int 0)) (.cons (.lit (.int 1)) .nil))))) (.cons (.pop 1) .nil) [1]) [some v0, some (.own (fl l))] S =
    .ok (.nx [some v0, some (.own (fl (trim l)))]) S := by
  rw [exS_whl]
  refine whl_trim (mk := fun l => [some v0, some (.own (fl l))]) ?_ (fun m c => ?_) (fun m c => ?_) fuel l (by unfold fuel; omega)
  · simp [frz, frzSlot, fl, eqOp_of (Shp.list (n := 63) (.nil _)) (Shp.list (n := 63) (.nil _)), PyData.eqv, PyData.eqvAll, line]
  · have e1 := eqOp_of (x := .list (fl (m ++ [c]))) (y := .list []) (.mono (.list (.fl _)) (by decide)) (.mono (.list (.nil 0)) (by decide))
    have e2 := eqOp_of (x := fr c) (y := fr 0) (.mono (.fr (n := 0) c) (by decide)) (.mono (.fr (n := 0) 0) (by decide))
    rw [eqv_fr] at e2
    have e3 : PyData.eqv (.list (fl (m ++ [c]))) (.list []) = false := by
      rw [fl_append]
      simp only [PyData.eqv]
      cases fl m <;> simp [fl, PyData.eqvAll]
    rw [e3] at e1
    rw [fr0] at e2
    have e4 := at_last (fl m) (fr c)
    have e5 : fl (m ++ [c]) = fl m ++ [fr c] := fl_append m [c]
    rw [e5] at e1
    simp [frz, frzSlot, e5, e1, e4, e2, line]
  · have e5 : fl (m ++ [c]) = fl m ++ [fr c] := fl_append m [c]
    simp [e5]
theorem l_trimL (hl : l.length < 16000000) : sem__law_trimmed [.val (.list (fl l))] S = .ok (.val (po (trim l))) S := by
  have w := tr_loop (S := S) (.val (.list (fl l))) hl
  simp [sem__law_trimmed, ir__law_trimmed, w, frz, frzSlot, po]
theorem l_trimT (hl : l.length < 16000000) : sem__law_trimmed [.val (.tuple (fl l))] S = .ok (.val (po (trim l))) S := by
  have w := tr_loop (S := S) (.val (.tuple (fl l))) hl
  simp [sem__law_trimmed, ir__law_trimmed, w, frz, frzSlot, po]
end
end K07
/-! ### comprehensions, loops over data -/
namespace Pv
open PySem
/-- a comprehension without a test whose element is worked out without the source -/
theorem comp_map {α : Type} {body : PyData → M (Option PyData)} {S : SS} {f : α → PyData} {h : α → PyData} : ∀ (xs : List α) (acc : List PyData), (∀ x ∈ xs, body (h x) S = .ok (some (f x)) S) → acc.length + xs.length ≤ line → compLoop body (xs.map h) acc S = .ok (acc ++ xs.map f) S
  | [], acc, _, _ => by simp [compLoop]
  | x :: xs, acc, hb, hl => by
    rw [List.length_cons] at hl
    have e := hb x List.mem_cons_self
    have ih := comp_map xs (acc ++ [f x]) (fun y hy => hb y (List.mem_cons_of_mem _ hy)) (by rw [List.length_append, List.length_singleton]; omega)
    rw [List.map_cons, compLoop]
    simp only [mbind_eq, e, ok_bind]
    rw [if_pos (by omega), ih]
    simp
/-- with a test -/
theorem comp_filter {α : Type} {body : PyData → M (Option PyData)} {S : SS} {p : α → Bool} {f : α → PyData} {h : α → PyData} : ∀ (xs : List α) (acc : List PyData), (∀ x ∈ xs, body (h x) S = .ok (if p x then some (f x) else none) S) → acc.length + xs.length ≤ line → compLoop body (xs.map h) acc S = .ok (acc ++ (xs.filter p).map f) S
  | [], acc, _, _ => by simp [compLoop]
  | x :: xs, acc, hb, hl => by
    rw [List.length_cons] at hl
    have e := hb x List.mem_cons_self
    rw [List.map_cons, compLoop]
    simp only [mbind_eq, e, ok_bind]
    cases hp : p x with
    | true =>
      have ih := comp_filter xs (acc ++ [f x]) (fun y hy => hb y (List.mem_cons_of_mem _ hy)) (by rw [List.length_append, List.length_singleton]; omega)
      simp only [if_true]
      rw [if_pos (by omega), ih, List.filter_cons, hp]
      simp
    | false =>
      have ih := comp_filter xs acc (fun y hy => hb y (List.mem_cons_of_mem _ hy)) (by omega)
      simp only [Bool.false_eq_true, if_false]
      rw [ih, List.filter_cons, hp]
      simp
theorem comp_ok {α : Type} {Γ : Ctx} {vs : List Nat} {tg : Tg} {it : I} {cs : Es} {e : E} {ρ : Env} {S : SS} {xs : List α} {f h : α → PyData} (hi : evI Γ it ρ S = .ok (xs.map h) S) (hl : xs.length ≤ line) (hb : ∀ x ∈ xs, cbody Γ vs tg cs e ρ (h x) S = .ok (some (f x)) S) :
    evE Γ (.comp vs tg it cs e) ρ S = .ok (.own (xs.map f)) S := by
  rw [evE_comp]
  have c := comp_map xs [] hb (by simpa using hl)
  simp only [mbind_eq, hi, ok_bind, c, List.nil_append]
  rfl
theorem comp_okF {α : Type} {Γ : Ctx} {vs : List Nat} {tg : Tg} {it : I} {cs : Es} {e : E} {ρ : Env} {S : SS} {xs : List α} {p : α → Bool} {f h : α → PyData} (hi : evI Γ it ρ S = .ok (xs.map h) S) (hl : xs.length ≤ line) (hb : ∀ x ∈ xs, cbody Γ vs tg cs e ρ (h x) S = .ok (if p x then some (f x) else none) S) :
    evE Γ (.comp vs tg it cs e) ρ S = .ok (.own ((xs.filter p).map f)) S := by
  rw [evE_comp]
  have c := comp_filter xs [] hb (by simpa using hl)
  simp only [mbind_eq, hi, ok_bind, c, List.nil_append]
  rfl
@[simp] theorem noexc_ok {α : Type} {m : M α} {S S' : SS} {a : α} (h : m S = .ok a S') : M.noexc m S = .ok a S' := by
  unfold M.noexc
  rw [h]
/-- a for whose body goes on -/
theorem for_nx {α : Type} {body : PyData → Env → M Fl} {S : SS} {h : α → PyData} {σ : Type} {mk : σ → Env} {step : σ → α → σ} : ∀ (xs : List α) (s : σ), (∀ (pre : List α) x post, xs = pre ++ x :: post → body (h x) (mk (pre.foldl step s)) S = .ok (.nx (mk ((pre ++ [x]).foldl step s))) S) → forLoop body (xs.map h) (mk s) S = .ok (.nx (mk (xs.foldl step s))) S
  | [], s, _ => by simp [forLoop]
  | x :: xs, s, hb => by
    rw [List.map_cons, forLoop]
    have e := hb [] x xs rfl
    simp only [List.foldl_nil, List.nil_append, List.foldl_cons] at e
    simp only [mbind_eq, e, ok_bind]
    rw [List.foldl_cons]
    exact for_nx xs (step s x) fun pre y post hp => by
      have := hb (x :: pre) y post (by rw [hp]; rfl)
      simpa using this
/-- a for whose body goes on, its names a function of what was walked -/
theorem for_run {α : Type} {body : PyData → Env → M Fl} {S : SS} {h : α → PyData} (E : List α → Env) : ∀ (xs : List α), (∀ (pre : List α) x post, xs = pre ++ x :: post → body (h x) (E pre) S = .ok (.nx (E (pre ++ [x]))) S) → forLoop body (xs.map h) (E []) S = .ok (.nx (E xs)) S := by
  have gen : ∀ (xs pre : List α), (∀ (p : List α) x post, xs = p ++ x :: post → body (h x) (E (pre ++ p)) S = .ok (.nx (E (pre ++ p ++ [x]))) S) → forLoop body (xs.map h) (E pre) S = .ok (.nx (E (pre ++ xs))) S := by
    intro xs
    induction xs with
    | nil =>
      intro pre _
      simp [forLoop]
    | cons x xs ih =>
      intro pre hb
      rw [List.map_cons, forLoop]
      have e := hb [] x xs rfl
      rw [List.append_nil] at e
      simp only [mbind_eq, e, ok_bind]
      have := ih (pre ++ [x]) fun p y post hp => by
        have := hb (x :: p) y post (by rw [hp]; rfl)
        simpa using this
      simpa using this
  intro xs hb
  simpa using gen xs [] (by simpa using hb)
end Pv

/-! M6 -/
set_option Elab.async false
set_option linter.all false
set_option maxRecDepth 100000
set_option maxHeartbeats 4000000
set_option exponentiation.threshold 100000
namespace Pv
open PySem
theorem at_nat {α : Type} (l : List α) (k : Nat) (h : k < l.length) : L2.atI l (k : Int) = some l[k] := by
  unfold L2.atI L2.ixN
  rw [if_pos (by omega), if_pos (by omega)]
  simp [h]
theorem at_fl {l : List Rat} {k : Nat} {q : Rat} (h : l[k]? = some q) : L2.atI (fl l) (k : Int) = some (fr q) := by
  have hk : k < l.length := by
    by_cases hk : k < l.length
    · exact hk
    · rw [List.getElem?_eq_none (by omega)] at h; cases h
  rw [at_nat _ _ (by rw [fl_len]; exact hk)]
  rw [List.getElem?_eq_getElem hk] at h
  cases h
  simp [fl]
def Sql (l : List Rat) : Prop := ∀ q ∈ l, Sq q
theorem Sq.zero : Sq 0 := by unfold Sq; exact ⟨by simp, by simp⟩
theorem Sql.getD {l : List Rat} (h : Sql l) (k : Nat) : Sq (l[k]?.getD 0) := by
  by_cases hk : k < l.length
  · rw [List.getElem?_eq_getElem hk]
    exact h _ (List.getElem_mem hk)
  · rw [List.getElem?_eq_none (by omega)]
    exact Sq.zero
theorem fl_map {α : Type} (xs : List α) (f : α → Rat) : xs.map (fun x => fr (f x)) = fl (xs.map f) := by
  unfold fl
  rw [List.map_map]
  rfl
theorem small_nat {n : Nat} (h : n ≤ 1000) : small (n : Int) = true := decide_eq_true (by omega)
theorem rng_1 {n : Nat} (h : n ≤ 1000) : rng [.int (n : Int)] = some ((List.range n).map fun k => .int ((k : Nat) : Int)) := by
  have e : rng [.int (n : Int)] = if small (n : Int) then some ((List.range (n : Int).toNat).map fun k => .int ((k : Nat) : Int)) else none := rfl
  rw [e, small_nat h]
  rfl
@[simp high] theorem blt_maxN (a b : Nat) : blt .max [.int (a : Int), .int (b : Int)] = some (.val (.int ((max a b : Nat) : Int))) := by
  rw [blt_max]
  congr 3
  split <;> omega
def addl (l m : List Rat) : List Rat := (List.range (max l.length m.length)).map fun k => l[k]?.getD 0 + m[k]?.getD 0
/-- powers of by, from p on, along a list -/
def ledl (c : Rat) : Rat → List Rat → List Rat
  | _, [] => []
  | p, x :: xs => x * p :: ledl c (p * c) xs
theorem ev_ledl (a c : Rat) : ∀ (l : List Rat) (p : Rat), ev a (ledl c p l) = p * ev (c * a) l
  | [], p => by simp [ledl, ev]
  | x :: xs, p => by
    rw [ledl, ev, ev, ev_ledl a c xs (p * c)]
    grind
theorem ledl_len (c : Rat) : ∀ (l : List Rat) (p : Rat), (ledl c p l).length = l.length
  | [], _ => rfl
  | x :: xs, p => by rw [ledl, List.length_cons, List.length_cons, ledl_len]
theorem ev_map_mul (a c : Rat) : ∀ l : List Rat, ev a (l.map (· * c)) = ev a l * c
  | [] => by simp [ev]
  | x :: xs => by
    rw [List.map_cons, ev, ev, ev_map_mul a c xs]
    grind
theorem ev_range (a : Rat) (n : Nat) (f g : Nat → Rat) : ev a ((List.range n).map fun k => f k + g k) = ev a ((List.range n).map f) + ev a ((List.range n).map g) := by
  have gen : ∀ xs : List Nat, ev a (xs.map fun k => f k + g k) = ev a (xs.map f) + ev a (xs.map g) := by
    intro xs
    induction xs with
    | nil => simp [ev, Rat.add_zero]
    | cons x xs ih =>
      rw [List.map_cons, List.map_cons, List.map_cons, ev, ev, ev, ih]
      grind
  exact gen _
theorem range_getD (l : List Rat) (n : Nat) (h : l.length ≤ n) : (List.range n).map (fun k => l[k]?.getD 0) = l ++ List.replicate (n - l.length) 0 := by
  apply List.ext_getElem?
  intro i
  rw [List.getElem?_map]
  by_cases hi : i < n
  · rw [List.getElem?_range hi]
    by_cases hl : i < l.length
    · rw [List.getElem?_append_left hl]
      simp [hl]
    · rw [List.getElem?_append_right (by omega), List.getElem?_replicate, if_pos (by omega)]
      simp [List.getElem?_eq_none (show l.length ≤ i by omega)]
  · rw [List.getElem?_eq_none (by simpa using hi), List.getElem?_eq_none (by simp; omega)]
    rfl
theorem ev_addl (a : Rat) (l m : List Rat) : ev a (addl l m) = ev a l + ev a m := by
  unfold addl
  rw [ev_range a _ (fun k => l[k]?.getD 0) (fun k => m[k]?.getD 0), range_getD l _ (Nat.le_max_left ..), range_getD m _ (Nat.le_max_right ..), ev_append, ev_append, ev_zeros, ev_zeros]
  grind
end Pv
namespace K07
open PySem Pv
section
variable {S : SS} {l m : List Rat} {c : Rat}
theorem s_member (k : Nat) : sem_member [.val (po l), .val (.int (k : Int))] S = .ok (.val (fr (l[k]?.getD 0))) S := by
  unfold po
  by_cases h : k < l.length
  · have e := at_fl (l := l) (k := k) (List.getElem?_eq_getElem h)
    have e2 : l[k]?.getD 0 = l[k] := by simp [h]
    rw [e2]
    simp [sem_member, ir_member, fl_len, h, e]
  · have e2 : l[k]?.getD 0 = 0 := by simp [List.getElem?_eq_none (show l.length ≤ k by omega)]
    rw [e2]
    simp [sem_member, ir_member, fl_len, h, fr0]
theorem s_padd (hl : Sql l) (hm : Sql m) (h1 : l.length ≤ 900) (h2 : m.length ≤ 900) : sem_polynomials_added [.val (po l), .val (po m)] S = .ok (.val (po (trim (addl l m)))) S := by
  have hmax : max l.length m.length ≤ 900 := Nat.max_le.mpr ⟨h1, h2⟩
  have cb := comp_ok (Γ := g_polynomials_added) (vs := [3]) (tg := .one 3) (it := .rng (.cons (.var 2) .nil)) (cs := .nil) (e := .call 1 (.cons (.call 2 (.cons (.var 0) (.cons (.var 3) .nil))) (.cons (.call 2 (.cons (.var 1) (.cons (.var 3) .nil))) .nil)))
    (ρ := [some (.val (po l)), some (.val (po m)), some (.val (.int ((max l.length m.length : Nat) : Int))), none]) (S := S) (xs := List.range (max l.length m.length)) (f := fun k => fr (l[k]?.getD 0 + m[k]?.getD 0)) (h := fun k => .int (k : Int))
    (by simp [rng_1 (show max l.length m.length ≤ 1000 by omega)]) (by simp [line]; omega) (fun k hk => by
      unfold cbody
      refine noexc_ok ?_
      simp [bindTg, clr, s_member, s_added (hl.getD k) (hm.getD k)])
  rw [fl_map] at cb
  have s := s_ofL (S := S) (l := addl l m) (by unfold addl; simp; omega)
  unfold addl at s
  simp only [po] at cb s ⊢
  simp [sem_polynomials_added, ir_polynomials_added, fl_len, cb, s, addl]
end
end K07

/-! M7 -/
set_option Elab.async false
set_option linter.all false
set_option maxRecDepth 100000
set_option maxHeartbeats 4000000
set_option exponentiation.threshold 100000
namespace K07
open PySem Pv
section
variable {S : SS} {l m : List Rat} {c : Rat}
theorem frm1 : fr (-1) = .tuple [.int (-1), .int 1] := rfl
theorem s_scaled (hl : Sql l) (hc : Sq c) (h : l.length ≤ 900) : sem_polynomial_scaled [.val (po l), .val (fr c)] S = .ok (.val (po (trim (l.map (· * c))))) S := by
  have cb := comp_ok (Γ := g_polynomial_scaled) (vs := [2]) (tg := .one 2) (it := .it (.var 0)) (cs := .nil) (e := .call 1 (.cons (.var 2) (.cons (.var 1) .nil)))
    (ρ := [some (.val (po l)), some (.val (fr c)), none]) (S := S) (xs := l) (f := fun q => fr (q * c)) (h := fr) (by simp [po, fl]) (by simp [line]; omega) (fun q hq => by
      unfold cbody
      refine noexc_ok ?_
      simp [bindTg, clr, s_times (hl q hq) hc])
  rw [fl_map] at cb
  have s := s_ofL (S := S) (l := l.map (· * c)) (by simp; omega)
  simp [sem_polynomial_scaled, ir_polynomial_scaled, cb, s]
theorem sq_m1 : Sq (-1) := by unfold Sq; exact ⟨by simp, by simp⟩
theorem s_pless (hl : Sql l) (hm : Sql m) (hm' : Sql (m.map (· * -1))) (h1 : l.length ≤ 900) (h2 : m.length ≤ 900) : sem_polynomials_less [.val (po l), .val (po m)] S = .ok (.val (po (trim (addl l (trim (m.map (· * -1))))))) S := by
  have e1 := s_scaled (S := S) hm sq_m1 h2
  have h3 : (trim (m.map (· * -1))).length ≤ 900 := Nat.le_trans (trim_len _) (by simpa using h2)
  have e2 := s_padd (S := S) hl (m := trim (m.map (· * -1))) (fun q hq => hm' q (trim_mem hq)) h1 h3
  rw [frm1] at e1
  simp [sem_polynomials_less, ir_polynomials_less, line, e1, e2]
theorem s_first_one (hl : Sql l) (h : l.length ≤ 900) {c : Rat} {k : List Rat} (hk : l = k ++ [c]) (h0 : c ≠ 0) (hi : Sq (1 / c)) : sem_polynomial_first_one [.val (po l)] S = .ok (.val (po (trim (l.map (· * (1 / c)))))) S := by
  have e1 := s_scaled (S := S) hl hi h
  have e2 := s_over (S := S) (x := 1) (y := c) (by unfold Sq; exact ⟨by simp, by simp⟩) (hl c (by rw [hk]; simp)) h0
  have e3 : fl l = fl k ++ [fr c] := by rw [hk]; exact fl_append k [c]
  have e4 := at_last (fl k) (fr c)
  rw [← e3] at e4
  have e5 : eqOp (po l) (.tuple []) = some false := by
    show eqOp (.tuple (fl l)) (.tuple []) = some false
    rw [eqOp_of (.mono (.tuple (.fl l)) (by decide)) (.mono (.tuple (.nil 0)) (by decide))]
    rw [e3]
    simp only [PyData.eqv]
    cases fl k <;> simp [PyData.eqvAll]
  rw [fr1] at e2
  simp only [po] at e1 e5 ⊢
  simp [sem_polynomial_first_one, ir_polynomial_first_one, line, e5, e4, e2, e1]
theorem s_first_nil : sem_polynomial_first_one [.val (po [])] S = .ok (.val (po [])) S := by
  have e5 : eqOp (.tuple []) (.tuple []) = some true := by
    rw [eqOp_of (.mono (.tuple (.nil 0)) (by decide)) (.mono (.tuple (.nil 0)) (by decide))]
    simp [PyData.eqv, PyData.eqvAll]
  simp [sem_polynomial_first_one, ir_polynomial_first_one, po, fl, line, e5]
/-! ### values -/
/-- Horner's steps, from the last -/
def horn (a : Rat) (l : List Rat) : Rat := l.foldl (fun f c => f * a + c) 0
theorem horn_rev (a : Rat) : ∀ l : List Rat, horn a l.reverse = ev a l
  | [] => rfl
  | x :: xs => by
    unfold horn
    rw [List.reverse_cons, List.foldl_append]
    have := horn_rev a xs
    unfold horn at this
    rw [this, ev]
    simp only [List.foldl_cons, List.foldl_nil]
    grind
theorem ev_horn (a : Rat) (l : List Rat) : horn a l.reverse = ev a l := horn_rev a l
theorem horn_snoc (a c : Rat) (l : List Rat) : horn a (l ++ [c]) = horn a l * a + c := by
  unfold horn
  rw [List.foldl_append]
  rfl
theorem s_value {a : Rat} (ha : Sq a) (hl : Sql l) (hh : ∀ pre x post, l.reverse = pre ++ x :: post → Sq (horn a pre) ∧ Sq (horn a pre * a)) (hrev : slc (po l) none none (-1) = some (.val (po l.reverse))) :
    sem_polynomial_value [.val (po l), .val (fr a)] S = .ok (.val (fr (ev a l))) S := by
  have w : exS g_polynomial_value (.for_ (.one 3) (.it (.slc (.var 0) (.lit .none) (.lit .none) (-1))) (.cons (.asg 2 true (.call 0 (.cons (.call 1 (.cons (.var 2) (.cons (.var 1) .nil))) (.cons (.var 3) .nil))) []) .nil) []) [some (.val (po l)), some (.val (fr a)), some (.val (fr 0)), none] S =
      .ok (.nx [some (.val (po l)), some (.val (fr a)), some (.val (fr (horn a l.reverse))), l.reverse.getLast?.map fun q => .val (fr q)]) S := by
    rw [exS_for]
    have r := for_run (S := S) (h := fr) (body := fun d ρ => M.of (bindTg (.one 3) d ρ) >>= fun ρ2 => exSs g_polynomial_value (.cons (.asg 2 true (.call 0 (.cons (.call 1 (.cons (.var 2) (.cons (.var 1) .nil))) (.cons (.var 3) .nil))) []) .nil) ρ2)
      (fun pre => [some (.val (po l)), some (.val (fr a)), some (.val (fr (horn a pre))), pre.getLast?.map fun q => .val (fr q)]) l.reverse (fun pre x post hp => by
        obtain ⟨q1, q2⟩ := hh pre x post hp
        have hx : Sq x := hl x (by rw [← List.mem_reverse, hp]; simp)
        simp [bindTg, s_times q1 ha, s_added q2 hx, horn_snoc])
    have e : evI g_polynomial_value (.it (.slc (.var 0) (.lit .none) (.lit .none) (-1))) [some (.val (po l)), some (.val (fr a)), some (.val (fr 0)), none] S = .ok (l.reverse.map fr) S := by
      simp [hrev]
      simp [po, fl]
    simp only [frz_nil, back_same, mbind_eq, e, ok_bind]
    exact r
  rw [fr0, ev_horn] at w
  simp [sem_polynomial_value, ir_polynomial_value, w]
/-- the law's own: found + number * power -/
theorem l_value {a : Rat} (ha : Sq a) (hl : Sql l) (hh : ∀ pre x post, l = pre ++ x :: post → Sq (ev a pre) ∧ Sq (a ^ pre.length) ∧ Sq (x * a ^ pre.length)) :
    sem__law_value [.val (po l), .val (fr a)] S = .ok (.val (fr (ev a l))) S := by
  have w : exS g__law_value (.for_ (.one 2) (.it (.var 0)) (.cons (.par 3 4 true true (.call 0 (.cons (.var 3) (.cons (.call 1 (.cons (.var 2) (.cons (.var 4) .nil))) .nil))) (.call 1 (.cons (.var 4) (.cons (.var 1) .nil))) []) .nil) []) [some (.val (po l)), some (.val (fr a)), none, some (.val (fr 0)), some (.val (fr 1))] S =
      .ok (.nx [some (.val (po l)), some (.val (fr a)), l.getLast?.map fun q => .val (fr q), some (.val (fr (ev a l))), some (.val (fr (a ^ l.length)))]) S := by
    rw [exS_for]
    have r := for_run (S := S) (h := fr) (body := fun d ρ => M.of (bindTg (.one 2) d ρ) >>= fun ρ2 => exSs g__law_value (.cons (.par 3 4 true true (.call 0 (.cons (.var 3) (.cons (.call 1 (.cons (.var 2) (.cons (.var 4) .nil))) .nil))) (.call 1 (.cons (.var 4) (.cons (.var 1) .nil))) []) .nil) ρ2)
      (fun pre => [some (.val (po l)), some (.val (fr a)), pre.getLast?.map fun q => .val (fr q), some (.val (fr (ev a pre))), some (.val (fr (a ^ pre.length)))]) l (fun pre x post hp => by
        obtain ⟨q1, q2, q3⟩ := hh pre x post hp
        have hx : Sq x := hl x (by rw [hp]; simp)
        have e1 : ev a (pre ++ [x]) = ev a pre + x * a ^ pre.length := by
          rw [ev_append, ev, ev]
          grind
        simp [bindTg, l_times hx q2, l_plus q1 q3, l_times q2 ha, e1, Rat.pow_succ])
    have e : evI g__law_value (.it (.var 0)) [some (.val (po l)), some (.val (fr a)), none, some (.val (fr 0)), some (.val (fr 1))] S = .ok (l.map fr) S := by
      simp [po, fl]
    simp only [frz_nil, back_same, mbind_eq, e, ok_bind]
    have e2 : ev a [] = 0 := rfl
    simpa [e2] using r
  rw [fr0, fr1] at w
  simp [sem__law_value, ir__law_value, line, w]
/-- powers along -/
theorem ledl_snoc (b : Rat) (x : Rat) : ∀ (l : List Rat) (p : Rat), ledl b p (l ++ [x]) = ledl b p l ++ [x * (p * b ^ l.length)]
  | [], p => by simp [ledl]
  | y :: l, p => by
    rw [List.cons_append, ledl, ledl, ledl_snoc b x l (p * b), List.length_cons, Rat.pow_succ]
    have : p * b * b ^ l.length = p * (b ^ l.length * b) := by grind
    rw [this]
    rfl
theorem s_led {b : Rat} (hb : Sq b) (hl : Sql l) (h : l.length ≤ 900) (hh : ∀ pre x post, l = pre ++ x :: post → Sq (b ^ pre.length)) :
    sem_polynomial_led [.val (po l), .val (fr b)] S = .ok (.val (po (trim (ledl b 1 l)))) S := by
  have w : exS g_polynomial_led (.for_ (.one 2) (.it (.var 0)) (.cons (.app 3 (.call 1 (.cons (.var 2) (.cons (.var 4) .nil))) []) (.cons (.asg 4 true (.call 1 (.cons (.var 4) (.cons (.var 1) .nil))) []) .nil)) []) [some (.val (po l)), some (.val (fr b)), none, some (.own []), some (.val (fr 1))] S =
      .ok (.nx [some (.val (po l)), some (.val (fr b)), l.getLast?.map fun q => .val (fr q), some (.own (fl (ledl b 1 l))), some (.val (fr (b ^ l.length)))]) S := by
    rw [exS_for]
    have r := for_run (S := S) (h := fr) (body := fun d ρ => M.of (bindTg (.one 2) d ρ) >>= fun ρ2 => exSs g_polynomial_led (.cons (.app 3 (.call 1 (.cons (.var 2) (.cons (.var 4) .nil))) []) (.cons (.asg 4 true (.call 1 (.cons (.var 4) (.cons (.var 1) .nil))) []) .nil)) ρ2)
      (fun pre => [some (.val (po l)), some (.val (fr b)), pre.getLast?.map fun q => .val (fr q), some (.own (fl (ledl b 1 pre))), some (.val (fr (b ^ pre.length)))]) l (fun pre x post hp => by
        have q2 := hh pre x post hp
        have hx : Sq x := hl x (by rw [hp]; simp)
        have hlen : pre.length < 900 := by rw [hp] at h; simp at h; omega
        have hlen2 : pre.length < 16000000 := by omega
        have e1 : fl (ledl b 1 (pre ++ [x])) = fl (ledl b 1 pre) ++ [fr (x * b ^ pre.length)] := by
          rw [ledl_snoc, Rat.one_mul]
          exact fl_append _ _
        simp [bindTg, s_times hx q2, s_times q2 hb, fl_len, ledl_len, hlen2, line, e1, Rat.pow_succ])
    have e : evI g_polynomial_led (.it (.var 0)) [some (.val (po l)), some (.val (fr b)), none, some (.own []), some (.val (fr 1))] S = .ok (l.map fr) S := by
      simp [po, fl]
    simp only [frz_nil, back_same, mbind_eq, e, ok_bind]
    simpa [ledl, fl] using r
  have s := s_ofL (S := S) (l := ledl b 1 l) (by rw [ledl_len]; omega)
  rw [fr1] at w
  simp [sem_polynomial_led, ir_polynomial_led, line, w, s, frz, frzSlot]
end
end K07

/-! M8 -/
set_option Elab.async false
set_option linter.all false
set_option maxRecDepth 100000
set_option maxHeartbeats 4000000
set_option exponentiation.threshold 100000
namespace Pv
open PySem
theorem fm_range {α : Type} : ∀ (ys : List α) (f : Nat → Option α), (∀ k, k < ys.length → f k = ys[k]?) → (List.range ys.length).filterMap f = ys
  | [], f, _ => by simp
  | y :: ys, f, h => by
    rw [List.length_cons, List.range_succ_eq_map, List.filterMap_cons, h 0 (by simp)]
    simp only [List.getElem?_cons_zero, List.filterMap_map]
    rw [fm_range ys (f ∘ Nat.succ) fun k hk => by
      have := h (k + 1) (by rw [List.length_cons]; omega)
      simpa using this]
def evens {α : Type} : List α → List α
  | [] => []
  | [x] => [x]
  | x :: _ :: r => x :: evens r
theorem evens_len {α : Type} : ∀ xs : List α, (evens xs).length = (xs.length + 1) / 2
  | [] => by simp [evens]
  | [x] => by simp [evens]
  | x :: y :: r => by
    rw [evens, List.length_cons, evens_len r, List.length_cons, List.length_cons]
    omega
theorem evens_get {α : Type} : ∀ (xs : List α) (k : Nat), (evens xs)[k]? = xs[2 * k]?
  | [], k => by simp [evens]
  | [x], 0 => rfl
  | [x], k + 1 => by simp [evens]
  | x :: y :: r, 0 => rfl
  | x :: y :: r, k + 1 => by
    rw [evens, List.getElem?_cons_succ, evens_get r k]
    have : 2 * (k + 1) = 2 * k + 1 + 1 := by omega
    rw [this, List.getElem?_cons_succ, List.getElem?_cons_succ]
theorem evens_map {α β : Type} (f : α → β) : ∀ xs : List α, evens (xs.map f) = (evens xs).map f
  | [] => rfl
  | [x] => rfl
  | x :: y :: r => by
    simp only [List.map_cons, evens]
    rw [evens_map f r]
theorem evens_mem {α : Type} {x : α} : ∀ {xs : List α}, x ∈ evens xs → x ∈ xs
  | [], h => h
  | [y], h => h
  | y :: z :: r, h => by
    rw [evens] at h
    rcases List.mem_cons.mp h with h | h
    · rw [h]; exact List.mem_cons_self
    · exact List.mem_cons_of_mem _ (List.mem_cons_of_mem _ (evens_mem h))
theorem ev_evens (a : Rat) : ∀ l : List Rat, ev a l = ev (a * a) (evens l) + a * ev (a * a) (evens l.tail)
  | [] => by simp [ev, evens, Rat.add_zero]
  | [x] => by simp [ev, evens, Rat.add_zero]
  | [x, y] => by simp [ev, evens, Rat.add_zero]
  | x :: y :: z :: r => by
    have ih := ev_evens a (z :: r)
    simp only [List.tail_cons] at ih ⊢
    rw [ev, ev, ih]
    simp only [evens, ev]
    have e : evens (y :: z :: r) = y :: evens r := rfl
    grind
theorem step_rev {xs : List PyData} (h : xs.length ≤ 900) : slc (.tuple xs) none none (-1) = some (.val (.tuple xs.reverse)) := by
  have e : stepCut xs none none (-1) = xs.reverse := by
    have p : Builtin.Slice.sliceAdjust none none (-1) (xs.length : Int) = ((xs.length : Int) - 1, -1) := by
      unfold Builtin.Slice.sliceAdjust
      simp
    have n : Builtin.Slice.slicePlaces ((xs.length : Int) - 1) (-1) (-1) = xs.reverse.length := by
      unfold Builtin.Slice.slicePlaces
      rw [List.length_reverse]
      simp
      split <;> omega
    unfold stepCut
    rw [p]
    simp only [n]
    refine fm_range xs.reverse _ fun k hk => ?_
    rw [List.length_reverse] at hk
    rw [List.getElem?_reverse hk]
    congr 1
    omega
  unfold slc
  simp only [e]
  simp [line]
  omega
theorem step_ev {xs : List PyData} (h : xs.length ≤ 900) : slc (.tuple xs) none none 2 = some (.val (.tuple (evens xs))) := by
  have e : stepCut xs none none 2 = evens xs := by
    have p : Builtin.Slice.sliceAdjust none none 2 (xs.length : Int) = (0, (xs.length : Int)) := by
      unfold Builtin.Slice.sliceAdjust
      simp
    have n : Builtin.Slice.slicePlaces 0 (xs.length : Int) 2 = (evens xs).length := by
      unfold Builtin.Slice.slicePlaces
      rw [evens_len]
      simp
      split <;> omega
    unfold stepCut
    rw [p]
    simp only [n]
    refine fm_range (evens xs) _ fun k hk => ?_
    rw [evens_get]
    congr 1
    omega
  have hl := evens_len xs
  have hl2 : (evens xs).length ≤ line := by
    show _ ≤ 16000000
    omega
  unfold slc
  simp only [e]
  simp [hl2]
theorem step_odd {xs : List PyData} (h : xs.length ≤ 900) : slc (.tuple xs) (some 1) none 2 = some (.val (.tuple (evens xs.tail))) := by
  have hl := evens_len xs.tail
  have hl2 : xs.tail.length = xs.length - 1 := List.length_tail
  have e : stepCut xs (some 1) none 2 = evens xs.tail := by
    have p : Builtin.Slice.sliceAdjust (some 1) none 2 (xs.length : Int) = (min 1 (xs.length : Int), (xs.length : Int)) := by
      unfold Builtin.Slice.sliceAdjust
      simp
    have n : Builtin.Slice.slicePlaces (min 1 (xs.length : Int)) (xs.length : Int) 2 = (evens xs.tail).length := by
      unfold Builtin.Slice.slicePlaces
      rw [hl, hl2]
      simp
      split <;> omega
    unfold stepCut
    rw [p]
    simp only [n]
    refine fm_range (evens xs.tail) _ fun k hk => ?_
    rw [evens_get]
    rw [hl, hl2] at hk
    rw [List.getElem?_tail]
    congr 1
    omega
  have hl3 : (evens xs.tail).length ≤ line := by
    show _ ≤ 16000000
    omega
  unfold slc
  simp only [e]
  simp [hl3]
theorem slc_L1 (xs : List PyData) : slc (.list xs) (some 1) none 1 = some (.own xs.tail) := by
  unfold slc
  simp only [if_true]
  congr 2
  unfold cut
  have e : HT.sIx xs.length 0 (some 1) = min 1 xs.length := by
    have := HT.sIx_nat xs.length 0 1
    simpa using this
  rw [e]
  show (xs.drop (min 1 xs.length)).take (xs.length - min 1 xs.length) = _
  cases xs with
  | nil => rfl
  | cons x xs => simp
theorem enum_fl : ∀ (l : List Rat) (n : Nat), enumAt n (fl l) = (l.zipIdx n).map fun p => .tuple [.int ((p.2 : Nat) : Int), fr p.1]
  | [], n => rfl
  | x :: l, n => by
    have ih := enum_fl l (n + 1)
    unfold fl at ih ⊢
    rw [List.map_cons, enumAt, ih, List.zipIdx_cons, List.map_cons]
theorem fr_nat (k : Nat) : fr (k : Rat) = .tuple [.int (k : Int), .int 1] := by
  unfold fr
  simp
theorem sq_nat {k : Nat} (h : k < 1000) : Sq (k : Rat) := by
  unfold Sq
  refine ⟨?_, by simp⟩
  simp only [Rat.num_natCast, Int.natAbs_natCast]
  exact Nat.lt_trans h (by decide)
end Pv
namespace K07
open PySem Pv
section
variable {S : SS} {l m : List Rat} {c : Rat}
theorem s_even (h : l.length ≤ 900) : sem_even_part [.val (po l)] S = .ok (.val (po (trim (evens l)))) S := by
  have e := step_ev (xs := fl l) (by rw [fl_len]; exact h)
  have e2 : evens (fl l) = fl (evens l) := evens_map fr l
  rw [e2] at e
  have hl := evens_len l
  have s := s_ofT (S := S) (l := evens l) (by omega)
  simp only [po] at s ⊢
  simp [sem_even_part, ir_even_part, e, s]
theorem s_odd (h : l.length ≤ 900) : sem_odd_part [.val (po l)] S = .ok (.val (po (trim (evens l.tail)))) S := by
  have e := step_odd (xs := fl l) (by rw [fl_len]; exact h)
  have e2 : evens (fl l).tail = fl (evens l.tail) := by
    have : (fl l).tail = fl l.tail := by cases l <;> rfl
    rw [this]
    exact evens_map fr l.tail
  rw [e2] at e
  have hl := evens_len l.tail
  have hl2 : l.tail.length = l.length - 1 := List.length_tail
  have s := s_ofT (S := S) (l := evens l.tail) (by omega)
  simp only [po] at s ⊢
  simp [sem_odd_part, ir_odd_part, e, s]
def slope (l : List Rat) : List Rat := (l.zipIdx.map fun p => p.1 * (p.2 : Rat)).tail
theorem s_slope (hl : Sql l) (h : l.length ≤ 900) : sem_polynomial_slope [.val (po l)] S = .ok (.val (po (trim (slope l)))) S := by
  have cb := comp_ok (Γ := g_polynomial_slope) (vs := [1, 2]) (tg := .many [1, 2]) (it := .enum (.var 0)) (cs := .nil) (e := .call 1 (.cons (.var 2) (.cons (.tup (.cons (.var 1) (.cons (.lit (.int 1)) .nil))) .nil)))
    (ρ := [some (.val (po l)), none, none]) (S := S) (xs := l.zipIdx) (f := fun p => fr (p.1 * (p.2 : Rat))) (h := fun p => .tuple [.int ((p.2 : Nat) : Int), fr p.1]) (by simp [po, enum_fl]) (by simp [line]; omega) (fun p hp => by
      have hk : p.2 < l.length := List.snd_lt_of_mem_zipIdx hp
      have e := s_times (S := S) (hl p.1 (List.fst_mem_of_mem_zipIdx hp)) (sq_nat (k := p.2) (by omega))
      rw [fr_nat] at e
      unfold cbody
      refine noexc_ok ?_
      simp [bindTg, bindMany, clr, line, e])
  rw [fl_map] at cb
  have s := s_ofL (S := S) (l := slope l) (by unfold slope; simp; omega)
  have e2 : (fl (l.zipIdx.map fun p => p.1 * (p.2 : Rat))).tail = fl (slope l) := by
    unfold slope fl
    rw [List.map_tail]
  simp [sem_polynomial_slope, ir_polynomial_slope, cb, slc_L1, e2, s]
end
end K07

/-! M9 -/
set_option Elab.async false
set_option linter.all false
set_option maxRecDepth 100000
set_option maxHeartbeats 4000000
set_option exponentiation.threshold 100000
namespace Pv
open PySem
/-- a for whose body goes on, by an invariant -/
theorem for_inv {α : Type} {body : PyData → Env → M Fl} {S : SS} {h : α → PyData} (P : List α → Env → Prop) (xs : List α) {ρ : Env} (h0 : P [] ρ) (hb : ∀ (pre : List α) x post ρ, xs = pre ++ x :: post → P pre ρ → ∃ ρ', body (h x) ρ S = .ok (.nx ρ') S ∧ P (pre ++ [x]) ρ') :
    ∃ ρ', forLoop body (xs.map h) ρ S = .ok (.nx ρ') S ∧ P xs ρ' := by
  have gen : ∀ (ys pre : List α) (ρ : Env), P pre ρ → (∀ (p : List α) x post ρ, ys = p ++ x :: post → P (pre ++ p) ρ → ∃ ρ', body (h x) ρ S = .ok (.nx ρ') S ∧ P (pre ++ p ++ [x]) ρ') → ∃ ρ', forLoop body (ys.map h) ρ S = .ok (.nx ρ') S ∧ P (pre ++ ys) ρ' := by
    intro ys
    induction ys with
    | nil =>
      intro pre ρ hp _
      exact ⟨ρ, by simp [forLoop], by simpa using hp⟩
    | cons x ys ih =>
      intro pre ρ hp hb
      obtain ⟨ρ1, e1, p1⟩ := hb [] x ys ρ rfl (by simpa using hp)
      rw [List.append_nil] at p1
      obtain ⟨ρ2, e2, p2⟩ := ih (pre ++ [x]) ρ1 p1 fun p y post ρ' hy hp' => by
        have := hb (x :: p) y post ρ' (by rw [hy]; rfl) (by simpa using hp')
        simpa using this
      refine ⟨ρ2, ?_, by simpa using p2⟩
      rw [List.map_cons, forLoop]
      simp only [mbind_eq, e1, ok_bind]
      exact e2
  simpa using gen xs [] ρ h0 (by simpa using hb)
theorem zip_split {α : Type} {l : List α} {pre post : List (α × Nat)} {p : α × Nat} (h : l.zipIdx = pre ++ p :: post) : p.2 = pre.length ∧ l[pre.length]? = some p.1 := by
  have e : l.zipIdx[pre.length]? = some p := by
    rw [h, List.getElem?_append_right (Nat.le_refl _), Nat.sub_self]
    rfl
  rw [List.getElem?_zipIdx] at e
  obtain ⟨a, e1, e2⟩ := Option.map_eq_some_iff.mp e
  subst e2
  exact ⟨by simp, e1⟩
theorem take_snoc {α : Type} {l : List α} {k : Nat} {x : α} (h : l[k]? = some x) : l.take (k + 1) = l.take k ++ [x] := by
  rw [List.take_add_one, h]
  rfl
theorem at_fl2 {l : List Rat} {k j : Nat} {q : Rat} (h : l[k + j]? = some q) : L2.atI (fl l) ((k : Int) + (j : Int)) = some (fr q) := by
  have := at_fl h
  simpa using this
theorem ix_2 {n k j : Nat} (h : k + j < n) : L2.ixN n ((k : Int) + (j : Int)) = some (k + j) := by
  unfold L2.ixN
  rw [if_pos (by omega), if_pos (by omega)]
  congr 1
@[simp] theorem lfree_fr (q : Rat) : lfreeR (.val (fr q)) = true := by simp [lfreeR, fr, lfree, lfreeAll]
@[simp] theorem lfree_int (i : Int) : lfreeR (.val (.int i)) = true := by simp [lfreeR, lfree]
theorem fl_set (l : List Rat) (i : Nat) (q : Rat) : (fl l).set i (fr q) = fl (l.set i q) := by
  unfold fl
  rw [List.map_set]
theorem ev_set (a : Rat) : ∀ (l : List Rat) (i : Nat) (c : Rat), i < l.length → ev a (l.set i (l[i]?.getD 0 + c)) = ev a l + c * a ^ i
  | [], i, c, h => by simp at h
  | x :: l, 0, c, h => by
    simp only [List.set_cons_zero, ev, List.getElem?_cons_zero, Option.getD_some, Rat.pow_zero]
    grind
  | x :: l, i + 1, c, h => by
    have ih := ev_set a l i c (by simpa using h)
    simp only [List.set_cons_succ, ev, List.getElem?_cons_succ]
    rw [ih, Rat.pow_succ]
    grind
theorem Bdl.get {D M : Nat} {l : List Rat} (h : Bdl D M l) (i : Nat) : Bd D M (l[i]?.getD 0) := by
  by_cases hi : i < l.length
  · rw [List.getElem?_eq_getElem hi]
    exact h _ (List.getElem_mem hi)
  · rw [List.getElem?_eq_none (by omega)]
    exact (Bd.zero D).mono (Nat.zero_le _)
theorem bdl_of {D M : Nat} {l : List Rat} (h : ∀ i : Nat, Bd D M (l[i]?.getD 0)) : Bdl D M l := by
  intro q hq
  obtain ⟨i, hi, e⟩ := List.mem_iff_getElem.mp hq
  have := h i
  rw [List.getElem?_eq_getElem hi, Option.getD_some, e] at this
  exact this
theorem rep_own (d : PyData) {k : Nat} (h : k ≤ 2000) : binop .Mult (.list [d]) (.int (k : Int)) = some (.own (List.replicate k d)) := by
  have e : binop .Mult (.list [d]) (.int (k : Int)) = if -(2 ^ 63) ≤ (k : Int) ∧ (k : Int) < 2 ^ 63 ∧ [d].length * (k : Int).toNat ≤ line then some (.own (List.replicate (k : Int).toNat [d]).flatten) else none := rfl
  have h3 : [d].length * (k : Int).toNat ≤ line := by
    have e1 : (k : Int).toNat = k := Int.toNat_natCast k
    have e2 : [d].length = 1 := rfl
    have e3 : line = 16000000 := rfl
    rw [e1, e2, e3]
    omega
  have h1 : -(2 ^ 63) ≤ (k : Int) := by omega
  have h2 : (k : Int) < 2 ^ 63 := by omega
  rw [e, if_pos ⟨h1, h2, h3⟩]
  have e1 : (k : Int).toNat = k := Int.toNat_natCast k
  rw [e1]
  have gen : ∀ k : Nat, (List.replicate k [d]).flatten = List.replicate k d := by
    intro k
    induction k with
    | zero => rfl
    | succ k ih => rw [List.replicate_succ, List.flatten_cons, ih, List.replicate_succ]; rfl
  rw [gen]
theorem fl_zeros (k : Nat) : fl (List.replicate k 0) = List.replicate k (fr 0) := by
  unfold fl
  rw [List.map_replicate]
end Pv
namespace K07
open PySem Pv
section
variable {S : SS} {l m : List Rat}
theorem sq_of {D M : Nat} {q : Rat} (h : Bd D M q) (h0 : 0 < D) (h1 : D < 2 ^ 4000) (h2 : M < 2 ^ 4000) : Sq q := h.sq h0 h1 h2
/-- found[k + j] = found[k + j] + x * m[j], for all j -/
theorem times_inner {D1 M1 D2 M2 : Nat} (hm : Bdl D2 M2 m) (d1 : 0 < D1) (d2 : 0 < D2) {x : Rat} {k t : Nat} {acc : List Rat} (hx : Bd D1 M1 x) (hD : D1 * D2 < 2 ^ 4000) (hMM : (t + 1) * (M1 * M2) < 2 ^ 4000) (hk : k + m.length ≤ acc.length) (ha : Bdl (D1 * D2) (t * (M1 * M2)) acc)
    (b1 : M1 < 2 ^ 4000) (b2 : M2 < 2 ^ 4000) (s5 s6 : Option R) :
    ∃ (acc' : List Rat) (s5' s6' : Option R), exS g_polynomials_times (.for_ (.many [5, 6]) (.enum (.var 1)) (.cons (.setI 2 (.bin .Add (.var 3) (.var 5)) (.call 1 (.cons (.idx (.var 2) (.bin .Add (.var 3) (.var 5))) (.cons (.call 2 (.cons (.var 4) (.cons (.var 6) .nil))) .nil))) [2]) .nil) [])
      [some (.val (po l)), some (.val (po m)), some (.own (fl acc)), some (.val (.int (k : Int))), some (.val (fr x)), s5, s6] S = .ok (.nx [some (.val (po l)), some (.val (po m)), some (.own (fl acc')), some (.val (.int (k : Int))), some (.val (fr x)), s5', s6']) S ∧
      acc'.length = acc.length ∧ Bdl (D1 * D2) ((t + 1) * (M1 * M2)) acc' ∧ ∀ a, ev a acc' = ev a acc + x * a ^ k * ev a m := by
  have hD0 : 0 < D1 * D2 := Nat.mul_pos d1 d2
  have le1 : t * (M1 * M2) ≤ (t + 1) * (M1 * M2) := Nat.mul_le_mul_right _ (Nat.le_succ t)
  have le2 : M1 * M2 ≤ (t + 1) * (M1 * M2) := by
    rw [Nat.succ_mul]
    exact Nat.le_add_left _ _
  have hD1 : D1 < 2 ^ 4000 := Nat.lt_of_le_of_lt (Nat.le_mul_of_pos_right _ d2) hD
  have hD2 : D2 < 2 ^ 4000 := Nat.lt_of_le_of_lt (Nat.le_mul_of_pos_left _ d1) hD
  rw [exS_for]
  have r := for_inv (S := S) (h := fun p : Rat × Nat => PyData.tuple [.int ((p.2 : Nat) : Int), fr p.1]) (body := fun d ρ => M.of (bindTg (.many [5, 6]) d ρ) >>= fun ρ2 => exSs g_polynomials_times (.cons (.setI 2 (.bin .Add (.var 3) (.var 5)) (.call 1 (.cons (.idx (.var 2) (.bin .Add (.var 3) (.var 5))) (.cons (.call 2 (.cons (.var 4) (.cons (.var 6) .nil))) .nil))) [2]) .nil) ρ2)
    (fun pre ρ => ∃ (a' : List Rat) (s5' s6' : Option R), ρ = [some (.val (po l)), some (.val (po m)), some (.own (fl a')), some (.val (.int (k : Int))), some (.val (fr x)), s5', s6'] ∧ a'.length = acc.length ∧ (∀ i, Bd (D1 * D2) ((t + 1) * (M1 * M2)) (a'[i]?.getD 0)) ∧
      (∀ i, k + pre.length ≤ i → Bd (D1 * D2) (t * (M1 * M2)) (a'[i]?.getD 0)) ∧ ∀ a, ev a a' = ev a acc + x * a ^ k * ev a (m.take pre.length)) m.zipIdx (ρ := [some (.val (po l)), some (.val (po m)), some (.own (fl acc)), some (.val (.int (k : Int))), some (.val (fr x)), s5, s6])
    ⟨acc, s5, s6, rfl, rfl, fun i => (ha.get i).mono le1, fun i _ => ha.get i, fun a => by
      have e0 : ev a (m.take ([] : List (Rat × Nat)).length) = 0 := rfl
      rw [e0, Rat.mul_zero, Rat.add_zero]⟩ (fun pre p post ρ hp hP => by
      obtain ⟨a', s5', s6', rfl, hlen, hb1, hb2, hev⟩ := hP
      obtain ⟨z1, z2⟩ := zip_split hp
      obtain ⟨y, j⟩ := p
      simp only at z1 z2
      subst z1
      have hj : pre.length < m.length := by
        by_cases h : pre.length < m.length
        · exact h
        · rw [List.getElem?_eq_none (by omega)] at z2; cases z2
      have hy : Bd D2 M2 y := hm y (List.mem_of_getElem? z2)
      have hxy := hx.mul hy
      have hc := hb2 (k + pre.length) (Nat.le_refl _)
      have hi : k + pre.length < a'.length := by omega
      have hget : a'[k + pre.length]? = some (a'[k + pre.length]?.getD 0) := by rw [List.getElem?_eq_getElem hi]; rfl
      have hsum := hc.add hxy
      rw [← Nat.succ_mul] at hsum
      have e1 := s_times (S := S) (sq_of hx d1 hD1 b1) (sq_of hy d2 hD2 b2)
      have e2 := s_added (S := S) (sq_of hc hD0 hD (Nat.lt_of_le_of_lt le1 hMM)) (sq_of hxy hD0 hD (Nat.lt_of_le_of_lt le2 hMM))
      have e3 := at_fl2 hget
      have e4 := ix_2 (n := (fl a').length) (k := k) (j := pre.length) (by rw [fl_len]; exact hi)
      refine ⟨[some (.val (po l)), some (.val (po m)), some (.own (fl (a'.set (k + pre.length) (a'[k + pre.length]?.getD 0 + x * y)))), some (.val (.int (k : Int))), some (.val (fr x)), some (.val (.int (pre.length : Int))), some (.val (fr y))], ?_, _, _, _, rfl, by rw [List.length_set]; exact hlen, fun i => ?_, fun i h => ?_, fun a => ?_⟩
      · simp [bindTg, bindMany, frz, frzSlot, e1, e2, e3, e4, fl_set]
      · by_cases h : k + pre.length = i
        · subst h
          rw [List.getElem?_set_self hi]
          exact hsum
        · rw [List.getElem?_set_ne h]
          exact hb1 i
      · rw [List.length_append, List.length_singleton] at h
        rw [List.getElem?_set_ne (by omega)]
        exact hb2 i (by omega)
      · rw [ev_set a a' _ _ hi, hev, List.length_append, List.length_singleton, take_snoc z2, ev_append, List.length_take, Nat.min_eq_left (by omega)]
        simp only [ev]
        have : a ^ (k + pre.length) = a ^ k * a ^ pre.length := by
          generalize pre.length = n
          induction n with
          | zero => simp
          | succ n ih => rw [← Nat.add_assoc, Rat.pow_succ, ih, Rat.pow_succ]; grind
        rw [this]
        grind)
  obtain ⟨ρ', e, a', s5', s6', rfl, hlen, hb1, _, hev⟩ := r
  refine ⟨a', s5', s6', ?_, hlen, bdl_of hb1, fun a => ?_⟩
  · have ei : evI g_polynomials_times (.enum (.var 1)) [some (.val (po l)), some (.val (po m)), some (.own (fl acc)), some (.val (.int (k : Int))), some (.val (fr x)), s5, s6] S = .ok (m.zipIdx.map fun p => .tuple [.int ((p.2 : Nat) : Int), fr p.1]) S := by
      simp [po, enum_fl]
    simp only [frz_nil, back_same, mbind_eq, ei, ok_bind]
    exact e
  · rw [hev, List.length_zipIdx, List.take_length]
end
end K07

/-! M10 -/
set_option Elab.async false
set_option linter.all false
set_option maxRecDepth 100000
set_option maxHeartbeats 4000000
set_option exponentiation.threshold 100000
namespace Pv
open PySem
@[simp high] theorem blt_max0 (a b : Nat) : blt .max [.int 0, .int ((a : Int) + (b : Int) - 1)] = some (.val (.int ((a + b - 1 : Nat) : Int))) := by
  rw [blt_max]
  congr 3
  split <;> omega
@[simp high] theorem blt_max1 (a b : Nat) : blt .max [.int 0, .int ((a : Int) - (b : Int) + 1)] = some (.val (.int ((a + 1 - b : Nat) : Int))) := by
  rw [blt_max]
  congr 3
  split <;> omega
end Pv
namespace K07
open PySem Pv
section
variable {S : SS} {l m : List Rat}
theorem s_ptimes {D1 M1 D2 M2 : Nat} (hl : Bdl D1 M1 l) (hm : Bdl D2 M2 m) (d1 : 0 < D1) (d2 : 0 < D2) (hD : D1 * D2 < 2 ^ 4000) (hMM : (l.length + 1) * (M1 * M2) < 2 ^ 4000) (b1 : M1 < 2 ^ 4000) (b2 : M2 < 2 ^ 4000) (h1 : l.length ≤ 900) (h2 : m.length ≤ 900) :
    ∃ r : List Rat, sem_polynomials_times [.val (po l), .val (po m)] S = .ok (.val (po r)) S ∧ Tr r ∧ Bdl (D1 * D2) (l.length * (M1 * M2)) r ∧ r.length ≤ l.length + m.length - 1 ∧ ∀ a, ev a r = ev a l * ev a m := by
  have loop : ∃ (acc : List Rat) (s3 s4 s5 s6 : Option R), exS g_polynomials_times (.for_ (.many [3, 4]) (.enum (.var 0)) (.cons (.for_ (.many [5, 6]) (.enum (.var 1)) (.cons (.setI 2 (.bin .Add (.var 3) (.var 5)) (.call 1 (.cons (.idx (.var 2) (.bin .Add (.var 3) (.var 5))) (.cons (.call 2 (.cons (.var 4) (.cons (.var 6) .nil))) .nil))) [2]) .nil) []) .nil) [])
      [some (.val (po l)), some (.val (po m)), some (.own (fl (List.replicate (l.length + m.length - 1) 0))), none, none, none, none] S = .ok (.nx [some (.val (po l)), some (.val (po m)), some (.own (fl acc)), s3, s4, s5, s6]) S ∧
      acc.length = l.length + m.length - 1 ∧ Bdl (D1 * D2) (l.length * (M1 * M2)) acc ∧ ∀ a, ev a acc = ev a l * ev a m := by
    rw [exS_for]
    have r := for_inv (S := S) (h := fun p : Rat × Nat => PyData.tuple [.int ((p.2 : Nat) : Int), fr p.1]) (body := fun d ρ => M.of (bindTg (.many [3, 4]) d ρ) >>= fun ρ2 => exSs g_polynomials_times (.cons (.for_ (.many [5, 6]) (.enum (.var 1)) (.cons (.setI 2 (.bin .Add (.var 3) (.var 5)) (.call 1 (.cons (.idx (.var 2) (.bin .Add (.var 3) (.var 5))) (.cons (.call 2 (.cons (.var 4) (.cons (.var 6) .nil))) .nil))) [2]) .nil) []) .nil) ρ2)
      (fun pre ρ => ∃ (a' : List Rat) (s3 s4 s5 s6 : Option R), ρ = [some (.val (po l)), some (.val (po m)), some (.own (fl a')), s3, s4, s5, s6] ∧ a'.length = l.length + m.length - 1 ∧ Bdl (D1 * D2) (pre.length * (M1 * M2)) a' ∧ ∀ a, ev a a' = ev a (l.take pre.length) * ev a m) l.zipIdx (ρ := [some (.val (po l)), some (.val (po m)), some (.own (fl (List.replicate (l.length + m.length - 1) 0))), none, none, none, none])
      ⟨List.replicate (l.length + m.length - 1) 0, none, none, none, none, rfl, List.length_replicate, fun q hq => by
        rw [List.eq_of_mem_replicate hq]
        exact (Bd.zero _).mono (Nat.zero_le _), fun a => by
        have e0 : ev a (l.take ([] : List (Rat × Nat)).length) = 0 := rfl
        rw [e0, Rat.zero_mul, ev_zeros]⟩ (fun pre p post ρ hp hP => by
        obtain ⟨a', s3, s4, s5, s6, rfl, hlen, hb, hev⟩ := hP
        obtain ⟨z1, z2⟩ := zip_split hp
        obtain ⟨y, j⟩ := p
        simp only at z1 z2
        subst z1
        have hj : pre.length < l.length := by
          by_cases h : pre.length < l.length
          · exact h
          · rw [List.getElem?_eq_none (by omega)] at z2; cases z2
        have hy : Bd D1 M1 y := hl y (List.mem_of_getElem? z2)
        have hMM' : (pre.length + 1) * (M1 * M2) < 2 ^ 4000 := Nat.lt_of_le_of_lt (Nat.mul_le_mul_right _ (by omega)) hMM
        obtain ⟨acc', s5', s6', e, el, eb, eev⟩ := times_inner (S := S) (l := l) hm d1 d2 (k := pre.length) (t := pre.length) hy hD hMM' (acc := a') (by omega) hb b1 b2 s5 s6
        refine ⟨_, ?_, acc', some (.val (.int (pre.length : Int))), some (.val (fr y)), s5', s6', rfl, el.trans hlen, ?_, fun a => ?_⟩
        · simp [bindTg, bindMany, e]
        · rw [List.length_append, List.length_singleton]
          exact eb
        · rw [eev, hev, List.length_append, List.length_singleton, take_snoc z2, ev_append, List.length_take, Nat.min_eq_left (by omega)]
          simp only [ev]
          grind)
    obtain ⟨ρ', e, a', s3, s4, s5, s6, rfl, hlen, hb, hev⟩ := r
    refine ⟨a', s3, s4, s5, s6, ?_, hlen, by rw [List.length_zipIdx] at hb; exact hb, fun a => ?_⟩
    · have ei : evI g_polynomials_times (.enum (.var 0)) [some (.val (po l)), some (.val (po m)), some (.own (fl (List.replicate (l.length + m.length - 1) 0))), none, none, none, none] S = .ok (l.zipIdx.map fun p => .tuple [.int ((p.2 : Nat) : Int), fr p.1]) S := by
        simp [po, enum_fl]
      simp only [frz_nil, back_same, mbind_eq, ei, ok_bind]
      exact e
    · rw [hev, List.length_zipIdx, List.take_length]
  obtain ⟨acc, s3, s4, s5, s6, e, el, eb, eev⟩ := loop
  refine ⟨trim acc, ?_, tr_trim acc, eb.trim, Nat.le_trans (trim_len acc) (Nat.le_of_eq el), fun a => by rw [ev_trim]; exact eev a⟩
  have s := s_ofL (S := S) (l := acc) (by omega)
  have rp := rep_own (fr 0) (k := l.length + m.length - 1) (by omega)
  rw [← fl_zeros, fr0] at rp
  simp only [po] at e s ⊢
  simp [sem_polynomials_times, ir_polynomials_times, line, fl_len, rp, e, frz, frzSlot, s]
end
end K07

/-! M11 -/
set_option Elab.async false
set_option linter.all false
set_option maxRecDepth 100000
set_option maxHeartbeats 4000000
set_option exponentiation.threshold 100000
namespace Pv
open PySem
@[simp] theorem isRng_rng (as : Es) : isRng (.rng as) = true := rfl
theorem rng_dn {n : Nat} (h : n ≤ 1000) : rng [.int ((n : Int) - 1), .int (-1), .int (-1)] = some ((List.range n).map fun i => .int ((n - 1 - i : Nat) : Int)) := by
  have h1 : small ((n : Int) - 1) = true := decide_eq_true (by omega)
  have h2 : small (-1) = true := decide_eq_true (by omega)
  have e : rng [.int ((n : Int) - 1), .int (-1), .int (-1)] = if (small ((n : Int) - 1) && small (-1) && decide ((-1 : Int) = -1)) = true then some ((List.range ((n : Int) - 1 - (-1)).toNat).map fun i => .int ((n : Int) - 1 + ((i : Nat) : Int) * (-1))) else none := rfl
  rw [e, h1, h2, if_pos (by decide)]
  have e1 : ((n : Int) - 1 - (-1)).toNat = n := by omega
  rw [e1]
  congr 1
  apply List.map_congr_left
  intro i hi
  have := List.mem_range.mp hi
  congr 1
  omega
theorem fr_neg (q : Rat) : fr (-q) = .tuple [.int (-q.num), .int q.den] := rfl
theorem ix_1 {n k : Nat} (h : k < n) : L2.ixN n (k : Int) = some k := by
  unfold L2.ixN
  rw [if_pos (by omega), if_pos (by omega)]
  congr 1
theorem getD_set (l : List Rat) (i j : Nat) (c : Rat) (h : i < l.length) : (l.set i c)[j]?.getD 0 = if i = j then c else l[j]?.getD 0 := by
  by_cases e : i = j
  · subst e
    rw [List.getElem?_set_self h, if_pos rfl]
    rfl
  · rw [List.getElem?_set_ne e, if_neg e]
theorem pow_add' (a : Rat) (k n : Nat) : a ^ (k + n) = a ^ k * a ^ n := by
  induction n with
  | zero => simp
  | succ n ih => rw [← Nat.add_assoc, Rat.pow_succ, ih, Rat.pow_succ]; grind
end Pv
namespace K07
open PySem Pv
section
variable {S : SS} {l m : List Rat}
/-- rest[k + j] = rest[k + j] + m[j] * by, for all j -/
theorem part_inner {by_ : Rat} {k : Nat} {rest : List Rat} {v0 v4 : Option R} (hm : Sql m) (hby : Sq by_) (hr : Sql rest) (hp : ∀ (j : Nat) (y : Rat), m[j]? = some y → Sq (y * by_)) (hk : k + m.length ≤ rest.length) (s6 s7 : Option R) :
    ∃ (r' : List Rat) (s6' s7' : Option R), exS g_polynomial_parted (.for_ (.many [6, 7]) (.enum (.var 1)) (.cons (.setI 3 (.bin .Add (.var 2) (.var 6)) (.call 2 (.cons (.idx (.var 3) (.bin .Add (.var 2) (.var 6))) (.cons (.call 3 (.cons (.var 7) (.cons (.var 5) .nil))) .nil))) [3]) .nil) [])
      [v0, some (.val (po m)), some (.val (.int (k : Int))), some (.own (fl rest)), v4, some (.val (fr by_)), s6, s7] S = .ok (.nx [v0, some (.val (po m)), some (.val (.int (k : Int))), some (.own (fl r')), v4, some (.val (fr by_)), s6', s7']) S ∧
      r'.length = rest.length ∧ (∀ i : Nat, (i < k ∨ k + m.length ≤ i) → r'[i]?.getD 0 = rest[i]?.getD 0) ∧ (∀ j : Nat, j < m.length → r'[k + j]?.getD 0 = rest[k + j]?.getD 0 + m[j]?.getD 0 * by_) ∧ ∀ a, ev a r' = ev a rest + by_ * a ^ k * ev a m := by
  rw [exS_for]
  have r := for_inv (S := S) (h := fun p : Rat × Nat => PyData.tuple [.int ((p.2 : Nat) : Int), fr p.1]) (body := fun d ρ => M.of (bindTg (.many [6, 7]) d ρ) >>= fun ρ2 => exSs g_polynomial_parted (.cons (.setI 3 (.bin .Add (.var 2) (.var 6)) (.call 2 (.cons (.idx (.var 3) (.bin .Add (.var 2) (.var 6))) (.cons (.call 3 (.cons (.var 7) (.cons (.var 5) .nil))) .nil))) [3]) .nil) ρ2)
    (fun pre ρ => ∃ (a' : List Rat) (s6' s7' : Option R), ρ = [v0, some (.val (po m)), some (.val (.int (k : Int))), some (.own (fl a')), v4, some (.val (fr by_)), s6', s7'] ∧ a'.length = rest.length ∧ (∀ i : Nat, (i < k ∨ k + pre.length ≤ i) → a'[i]?.getD 0 = rest[i]?.getD 0) ∧
      (∀ j : Nat, j < pre.length → a'[k + j]?.getD 0 = rest[k + j]?.getD 0 + m[j]?.getD 0 * by_) ∧ ∀ a, ev a a' = ev a rest + by_ * a ^ k * ev a (m.take pre.length)) m.zipIdx (ρ := [v0, some (.val (po m)), some (.val (.int (k : Int))), some (.own (fl rest)), v4, some (.val (fr by_)), s6, s7])
    ⟨rest, s6, s7, rfl, rfl, fun i _ => rfl, fun j hj => by simp at hj, fun a => by
      have e0 : ev a (m.take ([] : List (Rat × Nat)).length) = 0 := rfl
      rw [e0, Rat.mul_zero, Rat.add_zero]⟩ (fun pre p post ρ hpz hP => by
      obtain ⟨a', s6', s7', rfl, hlen, hb1, hb2, hev⟩ := hP
      obtain ⟨z1, z2⟩ := zip_split hpz
      obtain ⟨y, j⟩ := p
      simp only at z1 z2
      subst z1
      have hj : pre.length < m.length := by
        by_cases h : pre.length < m.length
        · exact h
        · rw [List.getElem?_eq_none (by omega)] at z2; cases z2
      have hc : a'[k + pre.length]?.getD 0 = rest[k + pre.length]?.getD 0 := hb1 _ (.inr (Nat.le_refl _))
      have hi : k + pre.length < a'.length := by omega
      have hget : a'[k + pre.length]? = some (a'[k + pre.length]?.getD 0) := by rw [List.getElem?_eq_getElem hi]; rfl
      have sqc : Sq (a'[k + pre.length]?.getD 0) := by rw [hc]; exact hr.getD _
      have e1 := s_times (S := S) (hm y (List.mem_of_getElem? z2)) hby
      have e2 := s_added (S := S) sqc (hp _ y z2)
      have e3 := at_fl2 hget
      have e4 := ix_2 (n := (fl a').length) (k := k) (j := pre.length) (by rw [fl_len]; exact hi)
      refine ⟨[v0, some (.val (po m)), some (.val (.int (k : Int))), some (.own (fl (a'.set (k + pre.length) (a'[k + pre.length]?.getD 0 + y * by_)))), v4, some (.val (fr by_)), some (.val (.int (pre.length : Int))), some (.val (fr y))], ?_, _, _, _, rfl, by rw [List.length_set]; exact hlen, fun i h => ?_, fun j h => ?_, fun a => ?_⟩
      · simp [bindTg, bindMany, frz, frzSlot, e1, e2, e3, e4, fl_set]
      · rw [List.length_append, List.length_singleton] at h
        rw [getD_set _ _ _ _ hi, if_neg (by omega)]
        exact hb1 i (by omega)
      · rw [List.length_append, List.length_singleton] at h
        rw [getD_set _ _ _ _ hi]
        by_cases e : pre.length = j
        · subst e
          rw [if_pos rfl, hc, z2]
          rfl
        · rw [if_neg (by omega)]
          exact hb2 j (by omega)
      · rw [ev_set a a' _ _ hi, hev, List.length_append, List.length_singleton, take_snoc z2, ev_append, List.length_take, Nat.min_eq_left (by omega)]
        simp only [ev]
        rw [pow_add']
        grind)
  obtain ⟨ρ', e, a', s6', s7', rfl, hlen, hb1, hb2, hev⟩ := r
  rw [List.length_zipIdx] at hb1 hb2 hev
  refine ⟨a', s6', s7', ?_, hlen, hb1, hb2, fun a => ?_⟩
  · have ei : evI g_polynomial_parted (.enum (.var 1)) [v0, some (.val (po m)), some (.val (.int (k : Int))), some (.own (fl rest)), v4, some (.val (fr by_)), s6, s7] S = .ok (m.zipIdx.map fun p => .tuple [.int ((p.2 : Nat) : Int), fr p.1]) S := by
      simp [po, enum_fl]
    simp only [frz_nil, back_same, mbind_eq, ei, ok_bind]
    exact e
  · rw [hev, List.take_length]
end
end K07

/-! M12 -/
set_option Elab.async false
set_option linter.all false
set_option maxRecDepth 100000
set_option maxHeartbeats 4000000
set_option exponentiation.threshold 100000
namespace Pv
open PySem
theorem at_fl3 {l : List Rat} {k b : Nat} {q : Rat} (hb : 1 ≤ b) (h : l[k + b - 1]? = some q) : L2.atI (fl l) ((k : Int) + (b : Int) - 1) = some (fr q) := by
  have := at_fl h
  have e : ((k + b - 1 : Nat) : Int) = (k : Int) + (b : Int) - 1 := by omega
  rw [e] at this
  exact this
theorem trim_le {l : List Rat} {n : Nat} (h : ∀ i : Nat, n ≤ i → l[i]?.getD 0 = 0) : (trim l).length ≤ n := by
  refine Nat.le_of_not_lt fun hn => ?_
  have ht := tr_trim l
  obtain ⟨k, e⟩ := trim_split l
  have h1 := h ((trim l).length - 1) (by omega)
  have hlt : (trim l).length - 1 < (trim l).length := by omega
  have h2 := congrArg (fun z : List Rat => z[(trim l).length - 1]?) e
  simp only [List.getElem?_append_left hlt] at h2
  rw [h2] at h1
  apply ht
  rw [List.getLast?_eq_getElem?]
  rw [List.getElem?_eq_getElem hlt] at h1 ⊢
  exact congrArg some h1
theorem pow_le_pow {Q W : Nat} (h : Q ≤ W) (n : Nat) : Q ^ n ≤ W ^ n := Nat.pow_le_pow_left h n
theorem len_po (l : List Rat) : blt .len [po l] = some (.val (.int l.length)) := by
  unfold po
  rw [blt_lenT, fl_len]
theorem idx_po (l : List Rat) (i : Int) : idx (po l) (.int i) = L2.atI (fl l) i := (rfl)
@[simp] theorem idx_fr0 (q : Rat) : idx (fr q) (.int 0) = some (.int q.num) := (rfl)
@[simp] theorem idx_fr1 (q : Rat) : idx (fr q) (.int 1) = some (.int q.den) := (rfl)
theorem Bd.cast {D D' M M' : Nat} {q : Rat} (h : Bd D M q) (e : D = D') (l : M ≤ M') : Bd D' M' q := by
  subst e
  exact h.mono l
end Pv
namespace K07
open PySem Pv
section
variable {S : SS} {l m : List Rat}
theorem s_parted {D1 M1 D2 M2 : Nat} {kk : List Rat} {c : Rat} (hl : Bdl D1 M1 l) (hm : Bdl D2 M2 m) (d1 : 0 < D1) (d2 : 0 < D2) (em : m = kk ++ [c]) (hc : c ≠ 0) (h1 : l.length ≤ 900) (h2 : m.length ≤ 900)
    (hD : D1 * (D2 * M2) ^ (l.length + 1 - m.length) * M2 * D2 < 2 ^ 4000) (hM : M1 * (2 * D2 * M2) ^ (l.length + 1 - m.length) * D2 * M2 < 2 ^ 4000) (hM1 : 0 < M1) :
    ∃ (E : Nat) (q r : List Rat), 0 < E ∧ E ≤ M2 ∧ sem_polynomial_parted [.val (po l), .val (po m)] S = .ok (.val (.tuple [po q, po r])) S ∧ Tr q ∧ Tr r ∧ r.length < m.length ∧ q.length ≤ l.length + 1 - m.length ∧
      Bdl (D1 * (D2 * E) ^ (l.length + 1 - m.length) * E) (M1 * (2 * D2 * M2) ^ (l.length + 1 - m.length) * D2) q ∧ Bdl (D1 * (D2 * E) ^ (l.length + 1 - m.length)) (M1 * (2 * D2 * M2) ^ (l.length + 1 - m.length)) r ∧ ∀ a, ev a l = ev a q * ev a m + ev a r := by
  have hcm : c ∈ m := by rw [em]; simp
  obtain ⟨E, E0, E1, hE⟩ := (hm c hcm).inv d2 hc
  have hM2 : 0 < M2 := Nat.lt_of_lt_of_le E0 E1
  generalize hN : l.length + 1 - m.length = N at hD hM ⊢
  generalize hQ : D2 * E = Q at ⊢
  generalize hW : 2 * D2 * M2 = W at hM ⊢
  have Q0 : 0 < Q := by rw [← hQ]; exact Nat.mul_pos d2 E0
  have QW : Q ≤ W := by
    rw [← hQ, ← hW, Nat.mul_assoc]
    have := Nat.mul_le_mul_left D2 E1
    omega
  have W0 : 0 < W := Nat.lt_of_lt_of_le Q0 QW
  have QM : Q ≤ D2 * M2 := by rw [← hQ]; exact Nat.mul_le_mul_left _ E1
  have mpos : 0 < m.length := by rw [em]; simp
  have mlast : m[m.length - 1]? = some c := by rw [em]; simp
  -- sizes at the t-th turn
  have szD : ∀ t, t ≤ N → D1 * Q ^ t * E * D2 < 2 ^ 4000 := fun t ht => by
    refine Nat.lt_of_le_of_lt ?_ hD
    have a1 : Q ^ t ≤ (D2 * M2) ^ N := Nat.le_trans (pow_le_pow QM t) (Nat.pow_le_pow_right (by exact Nat.mul_pos d2 hM2) ht)
    exact Nat.mul_le_mul_right _ (Nat.mul_le_mul (Nat.mul_le_mul_left _ a1) E1)
  have szM : ∀ t, t ≤ N → M1 * W ^ t * D2 * M2 < 2 ^ 4000 := fun t ht => by
    refine Nat.lt_of_le_of_lt ?_ hM
    exact Nat.mul_le_mul_right _ (Nat.mul_le_mul_right _ (Nat.mul_le_mul_left _ (Nat.pow_le_pow_right W0 ht)))
  have up : ∀ {x y : Nat}, 0 < y → x ≤ x * y := fun {x y} h => Nat.le_mul_of_pos_right x h
  have sqm : Sql m := fun y hy => sq_of (hm y hy) d2 (Nat.lt_of_le_of_lt (Nat.le_mul_of_pos_left D2 (Nat.mul_pos (Nat.mul_pos d1 (Nat.pow_pos Q0)) E0)) (szD 0 (Nat.zero_le _))) (Nat.lt_of_le_of_lt (Nat.le_mul_of_pos_left M2 (Nat.mul_pos (Nat.mul_pos hM1 (Nat.pow_pos W0)) d2)) (szM 0 (Nat.zero_le _)))
  have sqr : ∀ {t : Nat} {x : Rat}, t ≤ N → Bd (D1 * Q ^ t) (M1 * W ^ t) x → Sq x := fun {t x} ht h => by
    refine sq_of h (Nat.mul_pos d1 (Nat.pow_pos Q0)) (Nat.lt_of_le_of_lt ?_ (szD t ht)) (Nat.lt_of_le_of_lt ?_ (szM t ht))
    · exact Nat.le_trans (up E0) (up d2)
    · exact Nat.le_trans (up d2) (up hM2)
  have loop : ∃ (rest found : List Rat) (s2 s5 s6 s7 : Option R), exS g_polynomial_parted (.for_ (.one 2) (.rng (.cons (.bin .Sub (.blt .len (.cons (.var 4) .nil)) (.lit (.int 1))) (.cons (.neg (.lit (.int 1))) (.cons (.neg (.lit (.int 1))) .nil)))) (.cons (.setI 4 (.var 2) (.call 0 (.cons (.idx (.var 3) (.bin .Sub (.bin .Add (.var 2) (.blt .len (.cons (.var 1) .nil))) (.lit (.int 1)))) (.cons (.idx (.var 1) (.neg (.lit (.int 1)))) .nil))) [3]) (.cons (.asg 5 true (.tup (.cons (.neg (.idx (.idx (.var 4) (.var 2)) (.lit (.int 0)))) (.cons (.idx (.idx (.var 4) (.var 2)) (.lit (.int 1))) .nil))) [4]) (.cons (.for_ (.many [6, 7]) (.enum (.var 1)) (.cons (.setI 3 (.bin .Add (.var 2) (.var 6)) (.call 2 (.cons (.idx (.var 3) (.bin .Add (.var 2) (.var 6))) (.cons (.call 3 (.cons (.var 7) (.cons (.var 5) .nil))) .nil))) [3]) .nil) []) .nil))) [4])
      [some (.val (po l)), some (.val (po m)), none, some (.own (fl l)), some (.own (fl (List.replicate N 0))), none, none, none] S = .ok (.nx [some (.val (po l)), some (.val (po m)), s2, some (.own (fl rest)), some (.own (fl found)), s5, s6, s7]) S ∧
      rest.length = l.length ∧ found.length = N ∧ Bdl (D1 * Q ^ N) (M1 * W ^ N) rest ∧ Bdl (D1 * Q ^ N * E) (M1 * W ^ N * D2) found ∧ (∀ i : Nat, l.length - N ≤ i → rest[i]?.getD 0 = 0) ∧ ∀ a, ev a l = ev a found * ev a m + ev a rest := by
    rw [exS_for]
    have r := for_inv (S := S) (h := fun i : Nat => PyData.int ((N - 1 - i : Nat) : Int)) (body := fun d ρ => M.of (bindTg (.one 2) d ρ) >>= fun ρ2 => exSs g_polynomial_parted (.cons (.setI 4 (.var 2) (.call 0 (.cons (.idx (.var 3) (.bin .Sub (.bin .Add (.var 2) (.blt .len (.cons (.var 1) .nil))) (.lit (.int 1)))) (.cons (.idx (.var 1) (.neg (.lit (.int 1)))) .nil))) [3]) (.cons (.asg 5 true (.tup (.cons (.neg (.idx (.idx (.var 4) (.var 2)) (.lit (.int 0)))) (.cons (.idx (.idx (.var 4) (.var 2)) (.lit (.int 1))) .nil))) [4]) (.cons (.for_ (.many [6, 7]) (.enum (.var 1)) (.cons (.setI 3 (.bin .Add (.var 2) (.var 6)) (.call 2 (.cons (.idx (.var 3) (.bin .Add (.var 2) (.var 6))) (.cons (.call 3 (.cons (.var 7) (.cons (.var 5) .nil))) .nil))) [3]) .nil) []) .nil))) ρ2)
      (fun pre ρ => ∃ (rest found : List Rat) (s2 s5 s6 s7 : Option R), ρ = [some (.val (po l)), some (.val (po m)), s2, some (.own (fl rest)), some (.own (fl found)), s5, s6, s7] ∧ rest.length = l.length ∧ found.length = N ∧ Bdl (D1 * Q ^ pre.length) (M1 * W ^ pre.length) rest ∧ Bdl (D1 * Q ^ N * E) (M1 * W ^ N * D2) found ∧
        (∀ i : Nat, l.length - pre.length ≤ i → rest[i]?.getD 0 = 0) ∧ (∀ i : Nat, i < N - pre.length → found[i]?.getD 0 = 0) ∧ ∀ a, ev a l = ev a found * ev a m + ev a rest) (List.range N) (ρ := [some (.val (po l)), some (.val (po m)), none, some (.own (fl l)), some (.own (fl (List.replicate N 0))), none, none, none])
      ⟨l, List.replicate N 0, none, none, none, none, rfl, rfl, List.length_replicate, by simpa using hl, fun q hq => by
        rw [List.eq_of_mem_replicate hq]
        exact (Bd.zero _).mono (Nat.zero_le _), fun i hi => by
        rw [List.getElem?_eq_none (by simpa using hi)]
        rfl, fun i hi => by
        simp only [List.length_nil, Nat.sub_zero] at hi
        simp [hi], fun a => by
        rw [ev_zeros, Rat.zero_mul, Rat.zero_add]⟩ (fun pre x post ρ hp hP => by
        obtain ⟨rest, found, s2, s5, s6, s7, rfl, len1, len2, hb1, hb2, hz1, hz2, hev⟩ := hP
        have hx : x = pre.length ∧ pre.length < N := by
          have e : (List.range N)[pre.length]? = some x := by
            rw [hp, List.getElem?_append_right (Nat.le_refl _), Nat.sub_self]
            rfl
          by_cases h : pre.length < N
          · rw [List.getElem?_range h] at e
            cases e
            exact ⟨rfl, h⟩
          · rw [List.getElem?_eq_none (by simpa using h)] at e
            cases e
        obtain ⟨rfl, ht⟩ := hx
        have hk : N - 1 - pre.length + m.length - 1 < rest.length := by omega
        have hkl : N - 1 - pre.length + m.length - 1 = l.length - (pre.length + 1) := by omega
        have hkf : N - 1 - pre.length < found.length := by omega
        have r0 : rest[N - 1 - pre.length + m.length - 1]? = some (rest[N - 1 - pre.length + m.length - 1]?.getD 0) := by rw [List.getElem?_eq_getElem hk]; rfl
        generalize hr0 : rest[N - 1 - pre.length + m.length - 1]?.getD 0 = x0 at r0
        have bx0 : Bd (D1 * Q ^ pre.length) (M1 * W ^ pre.length) x0 := by rw [← hr0]; exact hb1.get _
        generalize hkn : N - 1 - pre.length = kn at hk hkl hkf r0 hr0 ⊢
        have f0 : found[kn]?.getD 0 = 0 := hz2 _ (by omega)
        have bq : Bd (D1 * Q ^ pre.length * E) (M1 * W ^ pre.length * D2) (x0 / c) := by rw [Rat.div_def]; exact bx0.mul hE
        have bby := bq.neg
        have szq : D1 * Q ^ pre.length * E < 2 ^ 4000 := Nat.lt_of_le_of_lt (up d2) (szD pre.length (by omega))
        have szq2 : M1 * W ^ pre.length * D2 < 2 ^ 4000 := Nat.lt_of_le_of_lt (up hM2) (szM pre.length (by omega))
        have D0 : 0 < D1 * Q ^ pre.length * E := Nat.mul_pos (Nat.mul_pos d1 (Nat.pow_pos Q0)) E0
        obtain ⟨r', s6', s7', e1, e2, e3, e4, e5⟩ := part_inner (S := S) (m := m) (by_ := -(x0 / c)) (k := kn) (rest := rest) (v0 := some (.val (po l))) (v4 := some (.own (fl (found.set (kn) (x0 / c))))) sqm (sq_of bby D0 szq szq2) (fun y hy => sqr (by omega) (hb1 y hy)) (fun j y hy => by
          have b := (hm y (List.mem_of_getElem? hy)).mul bby
          refine sq_of b (Nat.mul_pos d2 D0) (Nat.lt_of_le_of_lt (Nat.le_of_eq (Nat.mul_comm _ _)) (szD pre.length (by omega))) (Nat.lt_of_le_of_lt (Nat.le_of_eq (Nat.mul_comm _ _)) (szM pre.length (by omega)))) (by omega) s6 s7
        have a1 := at_fl3 (l := rest) (k := kn) (b := m.length) mpos r0
        have a2 : L2.atI (fl m) (-1) = some (fr c) := by
          rw [em, fl_append]
          exact at_last (fl kk) (fr c)
        have a3 := s_over (S := S) (sqr (by omega) bx0) (sqm c hcm) hc
        have a4 := ix_1 (n := (fl found).length) (k := kn) (by rw [fl_len]; exact hkf)
        have a5 : L2.atI (fl (found.set (kn) (x0 / c))) ((kn : Nat) : Int) = some (fr (x0 / c)) := at_fl (by rw [List.getElem?_set_self hkf])
        have a6 : lfreeR (.val (.tuple [.int (-(x0 / c).num), .int ((x0 / c).den : Int)])) = true := by simp [lfreeR, lfree, lfreeAll]
        rw [fr_neg] at e1
        refine ⟨[some (.val (po l)), some (.val (po m)), some (.val (.int ((kn : Nat) : Int))), some (.own (fl r')), some (.own (fl (found.set (kn) (x0 / c)))), some (.val (fr (-(x0 / c)))), s6', s7'], ?_, r', found.set (kn) (x0 / c), _, _, s6', s7', rfl, e2.trans len1, by rw [List.length_set]; exact len2, ?_, ?_, ?_, ?_, ?_⟩
        · simp [bindTg, frz, frzSlot, len_po, idx_po, a1, a2, a3, a4, fl_set, a5, a6, line, e1, fr_neg]
        · intro y hy
          rw [List.length_append, List.length_singleton]
          have eD : D1 * Q ^ (pre.length + 1) = D1 * Q ^ pre.length * Q := by rw [Nat.pow_succ, Nat.mul_assoc]
          have eM : M1 * W ^ (pre.length + 1) = M1 * W ^ pre.length * W := by rw [Nat.pow_succ, Nat.mul_assoc]
          refine bdl_of (fun i => ?_) y hy
          have sc := (hb1.get i).scale Q
          have un : r'[i]?.getD 0 = rest[i]?.getD 0 → Bd (D1 * Q ^ (pre.length + 1)) (M1 * W ^ (pre.length + 1)) (r'[i]?.getD 0) := fun e => by
            rw [e, eD, eM]
            exact sc.mono (Nat.mul_le_mul_left _ QW)
          by_cases hi : i < kn ∨ kn + m.length ≤ i
          · exact un (e3 i hi)
          · obtain ⟨j, rfl⟩ : ∃ j, i = kn + j := ⟨i - kn, by omega⟩
            have hj : j < m.length := by omega
            rw [e4 j hj]
            have b := (hm.get j).mul bby
            have b' : Bd (D1 * Q ^ pre.length * Q) (M2 * (M1 * W ^ pre.length * D2)) (m[j]?.getD 0 * -(x0 / c)) := b.cast (by rw [← hQ]; grind) (Nat.le_refl _)
            rw [eD, eM]
            refine (sc.add b').mono ?_
            rw [← hW]
            have h1 : M1 * (2 * D2 * M2) ^ pre.length * Q ≤ M1 * (2 * D2 * M2) ^ pre.length * (D2 * M2) := Nat.mul_le_mul_left _ QM
            have h2 : M2 * (M1 * (2 * D2 * M2) ^ pre.length * D2) = M1 * (2 * D2 * M2) ^ pre.length * (D2 * M2) := by grind
            have h3 : M1 * (2 * D2 * M2) ^ pre.length * (2 * D2 * M2) = M1 * (2 * D2 * M2) ^ pre.length * (D2 * M2) + M1 * (2 * D2 * M2) ^ pre.length * (D2 * M2) := by grind
            omega
        · refine bdl_of fun i => ?_
          rw [getD_set _ _ _ _ hkf]
          split
          · have b := bq.scale (Q ^ (N - pre.length))
            refine b.cast ?_ ?_
            · have : Q ^ N = Q ^ pre.length * Q ^ (N - pre.length) := by rw [← Nat.pow_add]; congr 1; omega
              rw [this]
              grind
            · have : W ^ N = W ^ pre.length * W ^ (N - pre.length) := by rw [← Nat.pow_add]; congr 1; omega
              rw [this]
              have h1 : Q ^ (N - pre.length) ≤ W ^ (N - pre.length) := pow_le_pow QW _
              calc M1 * W ^ pre.length * D2 * Q ^ (N - pre.length) ≤ M1 * W ^ pre.length * D2 * W ^ (N - pre.length) := Nat.mul_le_mul_left _ h1
                _ = M1 * (W ^ pre.length * W ^ (N - pre.length)) * D2 := by grind
          · exact hb2.get i
        · intro i hi
          rw [List.length_append, List.length_singleton] at hi
          by_cases hi2 : i = kn + m.length - 1
          · have e := e4 (m.length - 1) (by omega)
            have e' : kn + (m.length - 1) = i := by omega
            rw [e'] at e
            rw [e, mlast, hi2, hr0]
            show x0 + c * -(x0 / c) = 0
            have := Rat.div_mul_cancel (a := x0) hc
            grind
          · by_cases hi3 : kn + m.length ≤ i
            · rw [e3 i (.inr hi3)]
              exact hz1 i (by omega)
            · omega
        · intro i hi
          rw [List.length_append, List.length_singleton] at hi
          rw [getD_set _ _ _ _ hkf, if_neg (by omega)]
          exact hz2 i (by omega)
        · intro a
          have e := ev_set a found kn (x0 / c) hkf
          rw [f0, Rat.zero_add] at e
          rw [e, e5, hev]
          grind)
    obtain ⟨ρ', e, rest, found, s2, s5, s6, s7, rfl, len1, len2, hb1, hb2, hz1, hz2, hev⟩ := r
    rw [List.length_range] at hb1 hz1
    refine ⟨rest, found, s2, s5, s6, s7, ?_, len1, len2, hb1, hb2, hz1, hev⟩
    have ei : evI g_polynomial_parted (.rng (.cons (.bin .Sub (.blt .len (.cons (.var 4) .nil)) (.lit (.int 1))) (.cons (.neg (.lit (.int 1))) (.cons (.neg (.lit (.int 1))) .nil)))) (frz [some (.val (po l)), some (.val (po m)), none, some (.own (fl l)), some (.own (fl (List.replicate N 0))), none, none, none] [4]) S = .ok ((List.range N).map fun i => .int ((N - 1 - i : Nat) : Int)) S := by
      simp [frz, frzSlot, fl_len, rng_dn (show N ≤ 1000 by omega)]
    simp only [mbind_eq, ei, ok_bind, isRng_rng, back_true]
    exact e
  obtain ⟨rest, found, s2, s5, s6, s7, e, len1, len2, hb1, hb2, hz1, hev⟩ := loop
  refine ⟨E, trim found, trim rest, E0, E1, ?_, tr_trim _, tr_trim _, ?_, Nat.le_trans (trim_len _) (Nat.le_of_eq len2), (by rw [hQ]; exact hb2.trim), (by rw [hQ]; exact hb1.trim), fun a => by rw [ev_trim, ev_trim]; exact hev a⟩
  · have s1 := s_ofL (S := S) (l := found) (by omega)
    have s2 := s_ofL (S := S) (l := rest) (by omega)
    have rp := rep_own (fr 0) (k := l.length + 1 - m.length) (by omega)
    rw [hN, ← fl_zeros, fr0] at rp
    simp only [po] at e s1 s2 ⊢
    simp [sem_polynomial_parted, ir_polynomial_parted, line, fl_len, hN, rp, e, frz, frzSlot, s1, s2]
  · refine Nat.lt_of_le_of_lt (trim_le (n := l.length - N) hz1) ?_
    omega
end
end K07

/-! M13 -/
set_option Elab.async false
set_option linter.all false
set_option maxRecDepth 100000
set_option maxHeartbeats 4000000
set_option exponentiation.threshold 100000
namespace Pv
open PySem
section
variable (i : Int) (b : Bool) (s : Str) (xs : List PyData)
@[simp] theorem isi_int_none : isiD "int" .none = some false := (rfl)
@[simp] theorem isi_int_bool : isiD "int" (.bool b) = some true := (rfl)
@[simp] theorem isi_int_int : isiD "int" (.int i) = some true := (rfl)
@[simp] theorem isi_int_str : isiD "int" (.str s) = some false := (rfl)
@[simp] theorem isi_int_list : isiD "int" (.list xs) = some false := (rfl)
@[simp] theorem isi_int_tuple : isiD "int" (.tuple xs) = some false := (rfl)
@[simp] theorem isi_bool_none : isiD "bool" .none = some false := (rfl)
@[simp] theorem isi_bool_bool : isiD "bool" (.bool b) = some true := (rfl)
@[simp] theorem isi_bool_int : isiD "bool" (.int i) = some false := (rfl)
@[simp] theorem isi_bool_str : isiD "bool" (.str s) = some false := (rfl)
@[simp] theorem isi_bool_list : isiD "bool" (.list xs) = some false := (rfl)
@[simp] theorem isi_bool_tuple : isiD "bool" (.tuple xs) = some false := (rfl)
@[simp] theorem isi_tuple_none : isiD "tuple" .none = some false := (rfl)
@[simp] theorem isi_tuple_bool : isiD "tuple" (.bool b) = some false := (rfl)
@[simp] theorem isi_tuple_int : isiD "tuple" (.int i) = some false := (rfl)
@[simp] theorem isi_tuple_str : isiD "tuple" (.str s) = some false := (rfl)
@[simp] theorem isi_tuple_list : isiD "tuple" (.list xs) = some false := (rfl)
@[simp] theorem isi_tuple_tuple : isiD "tuple" (.tuple xs) = some true := (rfl)
@[simp] theorem blt_allL : blt .all [.list xs] = (boolsOf xs).map fun bs => .val (.bool (bs.all id)) := (rfl)
end
def isW : PyData → Bool
  | .int _ => true
  | _ => false
def isF : PyData → Bool
  | .tuple [.int t, .int b] => decide (0 < b) && PyData.eqv (fr (Rat.divInt t b)) (.tuple [.int t, .int b])
  | _ => false
def isP : PyData → Bool
  | .tuple xs => xs.all isF && (xs.isEmpty || !PyData.eqv (xs.getLast?.getD .none) (fr 0))
  | _ => false
theorem bools_map {α : Type} (f : α → Bool) : ∀ xs : List α, boolsOf (xs.map fun x => .bool (f x)) = some (xs.map f)
  | [] => rfl
  | x :: xs => by
    rw [List.map_cons, boolsOf, bools_map f xs]
    rfl
theorem shp_mem {n : Nat} : ∀ {xs : List PyData}, ShpAll n xs → ∀ x ∈ xs, Shp n x
  | [], _, x, hx => by cases hx
  | y :: ys, h, x, hx => by
    have h1 := h.1
    have h2 := h.2
    simp only [PyData.canLayAll0, Bool.and_eq_true] at h1
    simp only [PyData.depthAll] at h2
    rcases List.mem_cons.mp hx with rfl | hx
    · exact ⟨h1.1, Nat.le_trans (Nat.le_max_left ..) h2⟩
    · exact shp_mem (xs := ys) ⟨h1.2, Nat.le_trans (Nat.le_max_right ..) h2⟩ x hx
theorem shp_tup {n : Nat} {xs : List PyData} (h : Shp (n + 1) (.tuple xs)) : ShpAll n xs := by
  have h1 := h.1
  have h2 := h.2
  simp only [PyData.canLay0] at h1
  simp only [PyData.depth] at h2
  exact ⟨h1, by omega⟩
theorem shp_dict {n : Nat} {kv : List (PyData × PyData)} (h : Shp n (.dict kv)) : False := by
  have := h.1
  simp [PyData.canLay0] at this
theorem all_one (xs : List PyData) (f : PyData → PyData) : (xs.map id).map f = xs.map f := by simp
end Pv
namespace K07
open PySem Pv
section
variable {S : SS} {d : PyData} {n : Nat}
theorem s_whole (h : Shp n d) : sem_is_whole [.val d] S = .ok (.val (.bool (isW d))) S := by
  cases d with
  | dict kv => exact (shp_dict h).elim
  | _ => simp [sem_is_whole, ir_is_whole, isW]
theorem eq_pair {t b : Int} (t' b' : Int) : eqOp (.tuple [.int t, .int b]) (.tuple [.int t', .int b']) = some (PyData.eqv (.tuple [.int t, .int b]) (.tuple [.int t', .int b'])) :=
  eqOp_of (.mono (.tuple (.cons (.int (n := 0) t) (.cons (.int b) (.nil _)))) (by decide)) (.mono (.tuple (.cons (.int (n := 0) t') (.cons (.int b') (.nil _)))) (by decide))
theorem isF_len {xs : List PyData} (h : xs.length ≠ 2) : isF (.tuple xs) = false := by
  match xs, h with
  | [], _ => rfl
  | [a], _ => cases a <;> rfl
  | [a, b], h => exact absurd rfl h
  | a :: b :: c :: r, _ => cases a <;> cases b <;> rfl
theorem isF_two {a b : PyData} (h : ¬ (isW a = true ∧ isW b = true)) : isF (.tuple [a, b]) = false := by
  cases a <;> cases b <;> first | rfl | exact absurd ⟨rfl, rfl⟩ h
theorem isW_int {a : PyData} (h : isW a = true) : ∃ i, a = .int i := by
  cases a <;> first | exact ⟨_, rfl⟩ | cases h
theorem s_isF (h : Shp 50 d) (hb : ∀ t b : Int, d = .tuple [.int t, .int b] → b.natAbs < 2 ^ 9000) : sem_is_fraction [.val d] S = .ok (.val (.bool (isF d))) S := by
  cases d with
  | dict kv => exact (shp_dict h).elim
  | tuple xs =>
    have hs := shp_mem (shp_tup h)
    by_cases hl : xs.length = 2
    · obtain ⟨a, b, rfl⟩ : ∃ a b, xs = [a, b] := by
        match xs, hl with
        | [a, b], _ => exact ⟨a, b, rfl⟩
      have cb := comp_ok (Γ := g_is_fraction) (vs := [1]) (tg := .one 1) (it := .it (.var 0)) (cs := .nil) (e := .call 1 (.cons (.var 1) .nil)) (ρ := [some (.val (.tuple [a, b])), none]) (S := S) (xs := [a, b]) (f := fun x => .bool (isW x)) (h := id) (by simp) (by simp [line]) (fun x hx => by
        unfold cbody
        refine noexc_ok ?_
        simp [bindTg, clr, s_whole (hs x hx)])
      have e2 : eqOp (.int 2) (.int 2) = some true := rfl
      by_cases hw : isW a = true ∧ isW b = true
      · obtain ⟨t, rfl⟩ := isW_int hw.1
        obtain ⟨b, rfl⟩ := isW_int hw.2
        have bs := bools_map isW [.int t, .int b]
        by_cases h0 : 0 < b
        · have e := s_low (S := S) (t := t) (b := b) (by omega) (hb t b rfl)
          have e3 := eq_pair (t := (Rat.divInt t b).num) (b := (Rat.divInt t b).den) t b
          unfold fr at e
          simp [sem_is_fraction, ir_is_fraction, e2, cb, bs, isW, h0, isF, fr, e, e3, boolsOf]
        · simp [sem_is_fraction, ir_is_fraction, e2, cb, bs, isW, h0, isF, boolsOf]
      · rw [isF_two hw]
        have : isW a = false ∨ isW b = false := by
          cases q : isW a
          · exact .inl rfl
          · cases q2 : isW b
            · exact .inr rfl
            · exact absurd ⟨q, q2⟩ hw
        rcases this with q | q <;> simp [sem_is_fraction, ir_is_fraction, e2, cb, boolsOf, q]
    · rw [isF_len hl]
      have e2 : eqOp (.int xs.length) (.int 2) = some false := by
        show some (decide ((xs.length : Int) = 2)) = some false
        rw [decide_eq_false (by omega)]
      simp [sem_is_fraction, ir_is_fraction, e2]
  | _ => simp [sem_is_fraction, ir_is_fraction, isF]
theorem l_isF (h : Shp 50 d) (hb : ∀ t b : Int, d = .tuple [.int t, .int b] → b.natAbs < 2 ^ 9000) : sem__law_is_fraction [.val d] S = .ok (.val (.bool (isF d))) S := by
  cases d with
  | dict kv => exact (shp_dict h).elim
  | tuple xs =>
    have hs := shp_mem (shp_tup h)
    by_cases hl : xs.length = 2
    · obtain ⟨a, b, rfl⟩ : ∃ a b, xs = [a, b] := by
        match xs, hl with
        | [a, b], _ => exact ⟨a, b, rfl⟩
      have cb := comp_okF (Γ := g__law_is_fraction) (vs := [1]) (tg := .one 1) (it := .it (.var 0)) (cs := .cons (.orv (.notv (.isi (.var 1) "int")) (.isi (.var 1) "bool")) .nil) (e := .var 1) (ρ := [some (.val (.tuple [a, b])), none]) (S := S) (xs := [a, b]) (p := fun x => !isW x) (f := id) (h := id) (by simp) (by simp [line]) (fun x hx => by
        unfold cbody
        refine noexc_ok ?_
        have h := hs x hx
        cases x with
        | dict kv => exact (shp_dict h).elim
        | _ => simp [bindTg, clr, isW])
      have e2 : eqOp (.int 2) (.int 2) = some true := rfl
      have ha := hs a (by simp)
      have hb' := hs b (by simp)
      by_cases hw : isW a = true ∧ isW b = true
      · obtain ⟨t, rfl⟩ := isW_int hw.1
        obtain ⟨b, rfl⟩ := isW_int hw.2
        have e5 : eqOp (.list []) (.list []) = some true := by
          rw [eqOp_of (.mono (.list (.nil 0)) (by decide)) (.mono (.list (.nil 0)) (by decide))]
          simp [PyData.eqv, PyData.eqvAll]
        by_cases h0 : 0 < b
        · have e := l_low (S := S) (t := t) (b := b) (by omega) (hb t b rfl)
          have e3 := eq_pair (t := (Rat.divInt t b).num) (b := (Rat.divInt t b).den) t b
          unfold fr at e
          simp [sem__law_is_fraction, ir__law_is_fraction, e2, cb, isW, h0, isF, fr, e, e3, line, e5]
        · simp [sem__law_is_fraction, ir__law_is_fraction, e2, cb, isW, h0, isF, line, e5]
      · rw [isF_two hw]
        have e6 : ∀ x xs, ShpAll 49 (x :: xs) → eqOp (.list (x :: xs)) (.list []) = some false := fun x xs hx => by
          rw [eqOp_of (.mono (.list hx) (by decide)) (.mono (.list (.nil 0)) (by decide))]
          simp [PyData.eqv, PyData.eqvAll]
        cases q : isW a <;> cases q2 : isW b
        · have := e6 a [b] (.cons ha (.cons hb' (.nil _)))
          simp [sem__law_is_fraction, ir__law_is_fraction, e2, cb, q, q2, this, line]
        · have := e6 a [] (.cons ha (.nil _))
          simp [sem__law_is_fraction, ir__law_is_fraction, e2, cb, q, q2, this, line]
        · have := e6 b [] (.cons hb' (.nil _))
          simp [sem__law_is_fraction, ir__law_is_fraction, e2, cb, q, q2, this, line]
        · exact absurd ⟨q, q2⟩ hw
    · rw [isF_len hl]
      have e2 : eqOp (.int xs.length) (.int 2) = some false := by
        show some (decide ((xs.length : Int) = 2)) = some false
        rw [decide_eq_false (by omega)]
      simp [sem__law_is_fraction, ir__law_is_fraction, e2]
  | _ => simp [sem__law_is_fraction, ir__law_is_fraction, isF]
/-- what may be asked whether it is a polynomial -/
def AskP (d : PyData) : Prop := Shp 50 d ∧ ∀ xs, d = .tuple xs → xs.length ≤ 900 ∧ ∀ t b : Int, .tuple [.int t, .int b] ∈ xs → b.natAbs < 2 ^ 9000
theorem s_isP (h : AskP d) : sem_is_polynomial [.val d] S = .ok (.val (.bool (isP d))) S := by
  obtain ⟨h, hb⟩ := h
  cases d with
  | dict kv => exact (shp_dict h).elim
  | tuple xs =>
    obtain ⟨hlen, hb⟩ := hb xs rfl
    have hs := shp_mem (shp_tup h)
    have cb := comp_ok (Γ := g_is_polynomial) (vs := [1]) (tg := .one 1) (it := .it (.var 0)) (cs := .nil) (e := .call 0 (.cons (.var 1) .nil)) (ρ := [some (.val (.tuple xs)), none]) (S := S) (xs := xs) (f := fun x => .bool (isF x)) (h := id) (by simp) (by simp [line]; omega) (fun x hx => by
      unfold cbody
      refine noexc_ok ?_
      simp [bindTg, clr, s_isF ((hs x hx).mono (by decide)) (fun t b e => hb t b (by rw [← e]; exact hx))])
    have bs := bools_map isF xs
    rcases List.eq_nil_or_concat xs with rfl | ⟨m, c, rfl⟩
    · have e5 : eqOp (.tuple []) (.tuple []) = some true := by
        rw [eqOp_of (.mono (.tuple (.nil 0)) (by decide)) (.mono (.tuple (.nil 0)) (by decide))]
        simp [PyData.eqv, PyData.eqvAll]
      simp [sem_is_polynomial, ir_is_polynomial, cb, boolsOf, isP, e5, line]
    · rw [List.concat_eq_append] at *
      have e5 : eqOp (.tuple (m ++ [c])) (.tuple []) = some false := by
        rw [eqOp_of (h.mono (by decide)) (.mono (.tuple (.nil 0)) (by decide))]
        simp only [PyData.eqv]
        cases m <;> simp [PyData.eqvAll]
      have e6 := at_last m c
      have e7 : eqOp c (.tuple [.int 0, .int 1]) = some (PyData.eqv c (fr 0)) := eqOp_of ((hs c (by simp)).mono (by decide)) (.mono (.fr (n := 0) 0) (by decide))
      have e8 : isP (.tuple (m ++ [c])) = ((m ++ [c]).all isF && !PyData.eqv c (fr 0)) := by
        have e9 : (m ++ [c]).isEmpty = false := by cases m <;> rfl
        simp [isP, e9]
      rw [e8]
      cases q : (m ++ [c]).all isF
      · have q' : ((m ++ [c]).map isF).all id = false := by rw [List.all_map]; exact q
        simp only [List.map_append, List.map_cons, List.map_nil] at bs cb q'
        simp [sem_is_polynomial, ir_is_polynomial, cb, bs, q']
      · have q' : ((m ++ [c]).map isF).all id = true := by rw [List.all_map]; exact q
        simp only [List.map_append, List.map_cons, List.map_nil] at bs cb q'
        simp [sem_is_polynomial, ir_is_polynomial, cb, bs, q', e5, e6, e7, line]
  | _ => simp [sem_is_polynomial, ir_is_polynomial, isP]
theorem l_isP (h : AskP d) : sem__law_is_polynomial [.val d] S = .ok (.val (.bool (isP d))) S := by
  obtain ⟨h, hb⟩ := h
  cases d with
  | dict kv => exact (shp_dict h).elim
  | tuple xs =>
    obtain ⟨hlen, hb⟩ := hb xs rfl
    have hs := shp_mem (shp_tup h)
    have cb := comp_okF (Γ := g__law_is_polynomial) (vs := [1]) (tg := .one 1) (it := .it (.var 0)) (cs := .cons (.notv (.call 0 (.cons (.var 1) .nil))) .nil) (e := .var 1) (ρ := [some (.val (.tuple xs)), none]) (S := S) (xs := xs) (p := fun x => !isF x) (f := id) (h := id) (by simp) (by simp [line]; omega) (fun x hx => by
      have e := l_isF (S := S) ((hs x hx).mono (by decide)) (fun t b e => hb t b (by rw [← e]; exact hx))
      unfold cbody
      refine noexc_ok ?_
      cases q : isF x <;> simp [bindTg, clr, e, q])
    have e0 : eqOp (.list []) (.list []) = some true := by
      rw [eqOp_of (.mono (.list (.nil 0)) (by decide)) (.mono (.list (.nil 0)) (by decide))]
      simp [PyData.eqv, PyData.eqvAll]
    rcases List.eq_nil_or_concat xs with rfl | ⟨m, c, rfl⟩
    · have e5 : eqOp (.tuple []) (.tuple []) = some true := by
        rw [eqOp_of (.mono (.tuple (.nil 0)) (by decide)) (.mono (.tuple (.nil 0)) (by decide))]
        simp [PyData.eqv, PyData.eqvAll]
      simp [sem__law_is_polynomial, ir__law_is_polynomial, cb, isP, e0, e5, line]
    · rw [List.concat_eq_append] at *
      have e5 : eqOp (.tuple (m ++ [c])) (.tuple []) = some false := by
        rw [eqOp_of (h.mono (by decide)) (.mono (.tuple (.nil 0)) (by decide))]
        simp only [PyData.eqv]
        cases m <;> simp [PyData.eqvAll]
      have e6 := at_last m c
      have e7 : eqOp c (.tuple [.int 0, .int 1]) = some (PyData.eqv c (fr 0)) := eqOp_of ((hs c (by simp)).mono (by decide)) (.mono (.fr (n := 0) 0) (by decide))
      have e8 : isP (.tuple (m ++ [c])) = ((m ++ [c]).all isF && !PyData.eqv c (fr 0)) := by
        have e9 : (m ++ [c]).isEmpty = false := by cases m <;> rfl
        simp [isP, e9]
      rw [e8]
      have eL : eqOp (.list (((m ++ [c]).filter fun x => !isF x).map id)) (.list []) = some ((m ++ [c]).all isF) := by
        rw [List.map_id, eqOp_of (.mono (.list (ShpAll.of (n := 49) fun x hx => hs x ((List.mem_filter.mp hx).1))) (by decide)) (.mono (.list (.nil 0)) (by decide))]
        cases q : (m ++ [c]).filter fun x => !isF x with
        | nil =>
          have : (m ++ [c]).all isF = true := by
            rw [List.all_eq_true]
            intro x hx
            have := List.filter_eq_nil_iff.mp q x hx
            simpa using this
          rw [this]
          simp [PyData.eqv, PyData.eqvAll]
        | cons y ys =>
          have hy : y ∈ (m ++ [c]).filter fun x => !isF x := by rw [q]; simp
          have : (m ++ [c]).all isF = false := by
            rw [List.all_eq_false]
            exact ⟨y, (List.mem_filter.mp hy).1, by have := (List.mem_filter.mp hy).2; simpa using this⟩
          rw [this]
          simp [PyData.eqv, PyData.eqvAll]
      generalize hF : ((m ++ [c]).filter fun x => !isF x).map id = F at cb eL
      cases q : (m ++ [c]).all isF
      · rw [q] at eL
        simp [sem__law_is_polynomial, ir__law_is_polynomial, cb, eL, line]
      · rw [q] at eL
        simp [sem__law_is_polynomial, ir__law_is_polynomial, cb, eL, e5, e6, e7, line]
  | _ => simp [sem__law_is_polynomial, ir__law_is_polynomial, isP]
end
end K07

/-! M14 -/
set_option Elab.async false
set_option linter.all false
set_option maxRecDepth 100000
set_option maxHeartbeats 4000000
set_option exponentiation.threshold 100000
namespace Pv
open PySem
/-! ### what may be shown -/
theorem piled_bound {B : Nat} : ∀ {ts : List Str}, (∀ t ∈ ts, t.length ≤ B) → piled ts ≤ ts.length * (B + 2)
  | [], _ => by simp [piled]
  | t :: ts, h => by
    have h1 := h t List.mem_cons_self
    have h2 := piled_bound (ts := ts) fun x hx => h x (List.mem_cons_of_mem _ hx)
    rw [piled_cons, List.length_cons, Nat.succ_mul]
    omega
theorem listText_bound : ∀ ts : List Str, (listText ts).length ≤ piled ts + 2
  | [] => by
    show (textFrom 0 "[" [] ++ "]").length ≤ _
    rw [strLen_append]
    decide
  | t :: r => by
    have h := textFrom_length_pos r 1 (("[" : Str) ++ (if (0 : Nat) > 0 then ", " else "" : String) ++ t) (Nat.succ_pos 0)
    have e : ((("[" : Str) ++ (if (0 : Nat) > 0 then ", " else "" : String) ++ t)).length = 1 + t.length := by
      rw [strLen_append, strLen_append]
      rfl
    have hY : (textFrom 0 "[" (t :: r)).length = (textFrom 1 (("[" : Str) ++ (if (0 : Nat) > 0 then ", " else "" : String) ++ t) r).length := rfl
    show (textFrom 0 "[" (t :: r) ++ "]").length ≤ _
    rw [strLen_append, hY, h, e, piled_cons]
    have e3 : (("]" : String) : Str).length = 1 := rfl
    rw [e3]
    omega
theorem tupleText_bound (ts : List Str) : (tupleText ts).length ≤ piled ts + 4 := by
  unfold tupleText
  rw [strLen_append, strLen_append]
  have e1 : ((("(" : String) : Str)).length = 1 := rfl
  have e3 : (((if ts.length == 1 then ",)" else ")" : String) : Str)).length ≤ 2 := by split <;> decide
  rw [e1]
  by_cases h : ts = []
  · subst h
    have : (Str.join ", " []).length = 0 := rfl
    rw [this]
    omega
  · have := join_length_add ts h
    omega
theorem shownAll_len : ∀ xs : List PyData, (PyData.shownAll xs).length = xs.length
  | [] => by simp [PyData.shownAll]
  | x :: xs => by simp [PyData.shownAll, shownAll_len xs]
theorem shownAll_mem {B : Nat} : ∀ {xs : List PyData}, (∀ x ∈ xs, x.shown.length ≤ B) → ∀ t ∈ PyData.shownAll xs, t.length ≤ B
  | [], _, t, h => by simp [PyData.shownAll] at h
  | x :: xs, hb, t, h => by
    simp only [PyData.shownAll, List.mem_cons] at h
    rcases h with rfl | h
    · exact hb x List.mem_cons_self
    · exact shownAll_mem (fun y hy => hb y (List.mem_cons_of_mem _ hy)) t h
structure Rpr (B n : Nat) (d : PyData) : Prop where
  sh : d.showable = true
  nd : d.hasDict = false
  len : d.shown.length ≤ B
  dp : d.depth ≤ n
theorem showAll_of : ∀ {xs : List PyData}, (∀ x ∈ xs, x.showable = true) → PyData.showableAll xs = true
  | [], _ => by simp [PyData.showableAll]
  | x :: xs, h => by simp [PyData.showableAll, h x List.mem_cons_self, showAll_of fun y hy => h y (List.mem_cons_of_mem _ hy)]
theorem dictAll_of : ∀ {xs : List PyData}, (∀ x ∈ xs, x.hasDict = false) → PyData.hasDictAll xs = false
  | [], _ => by simp [PyData.hasDictAll]
  | x :: xs, h => by simp [PyData.hasDictAll, h x List.mem_cons_self, dictAll_of fun y hy => h y (List.mem_cons_of_mem _ hy)]
theorem depthAll_of {n : Nat} : ∀ {xs : List PyData}, (∀ x ∈ xs, x.depth ≤ n) → PyData.depthAll xs ≤ n
  | [], _ => by simp [PyData.depthAll]
  | x :: xs, h => by
    simp only [PyData.depthAll]
    exact Nat.max_le.mpr ⟨h x List.mem_cons_self, depthAll_of fun y hy => h y (List.mem_cons_of_mem _ hy)⟩
theorem Rpr.list {B n : Nat} {xs : List PyData} (h : ∀ x ∈ xs, Rpr B n x) : Rpr (xs.length * (B + 2) + 4) (n + 1) (.list xs) where
  sh := by simp only [PyData.showable]; exact showAll_of fun x hx => (h x hx).sh
  nd := by simp only [PyData.hasDict]; exact dictAll_of fun x hx => (h x hx).nd
  len := by
    simp only [PyData.shown]
    have h1 := listText_bound (PyData.shownAll xs)
    have h2 := piled_bound (shownAll_mem (B := B) fun x hx => (h x hx).len)
    rw [shownAll_len] at h2
    omega
  dp := by
    simp only [PyData.depth]
    have := depthAll_of fun x hx => (h x hx).dp
    omega
theorem Rpr.tuple {B n : Nat} {xs : List PyData} (h : ∀ x ∈ xs, Rpr B n x) : Rpr (xs.length * (B + 2) + 4) (n + 1) (.tuple xs) where
  sh := by simp only [PyData.showable]; exact showAll_of fun x hx => (h x hx).sh
  nd := by simp only [PyData.hasDict]; exact dictAll_of fun x hx => (h x hx).nd
  len := by
    simp only [PyData.shown]
    have h1 := tupleText_bound (PyData.shownAll xs)
    have h2 := piled_bound (shownAll_mem (B := B) fun x hx => (h x hx).len)
    rw [shownAll_len] at h2
    omega
  dp := by
    simp only [PyData.depth]
    have := depthAll_of fun x hx => (h x hx).dp
    omega
theorem Rpr.mono {B B' n n' : Nat} {d : PyData} (h : Rpr B n d) (l : B ≤ B') (l' : n ≤ n') : Rpr B' n' d := ⟨h.sh, h.nd, Nat.le_trans h.len l, Nat.le_trans h.dp l'⟩
theorem Rpr.int {i : Int} (h : i.natAbs < 2 ^ 1900) (n : Nat) : Rpr 2000 n (.int i) where
  sh := by
    simp only [PyData.showable]
    refine decide_eq_true ?_
    by_cases h0 : i.natAbs = 0
    · rw [h0]; decide
    · exact Nat.lt_of_lt_of_le ((Nat.log2_lt h0).mpr h) (by decide)
  nd := by simp only [PyData.hasDict]
  len := by
    simp only [PyData.shown]
    have h1 : i.natAbs.log2 < 1900 := by
      by_cases h0 : i.natAbs = 0
      · rw [h0]; decide
      · exact (Nat.log2_lt h0).mpr h
    have h2 := int_text_length_le (a := i) (k := 1900) (by decide) h1
    have h3 : ((toString i : String) : Str).length = (toString i).length := ofString_length _
    rw [h3]
    omega
  dp := by simp only [PyData.depth]; omega
theorem Rpr.bool (b : Bool) (n : Nat) : Rpr 2000 n (.bool b) where
  sh := by simp only [PyData.showable]
  nd := by simp only [PyData.hasDict]
  len := by
    simp only [PyData.shown]
    cases b <;> decide
  dp := by simp only [PyData.depth]; omega
theorem blt_repr {B n : Nat} {d : PyData} (h : Rpr B n d) (hB : B ≤ 15000000) (hn : n ≤ 32) : blt .repr [d] = some (.val (.str d.shown)) := by
  have e : blt .repr [d] = if (d.showable && !d.hasDict && decide (d.shown.length ≤ line) && decide (d.depth ≤ 32)) = true then some (.val (.str d.shown)) else none := rfl
  have h1 := h.len
  have h2 := h.dp
  have h3 : d.shown.length ≤ line := by
    show _ ≤ 16000000
    omega
  rw [e, h.sh, h.nd, decide_eq_true h3, decide_eq_true (show d.depth ≤ 32 by omega)]
  rfl
/-- small enough to be shown -/
def Sz (q : Rat) : Prop := q.num.natAbs < 2 ^ 1900 ∧ q.den < 2 ^ 1900
theorem Bd.ss {D M : Nat} {q : Rat} (hD : 0 < D) (h : Bd D M q) (h1 : D < 2 ^ 1900) (h2 : M < 2 ^ 1900) : Sz q := by
  obtain ⟨h3, h4⟩ := h.den hD
  exact ⟨Nat.lt_of_le_of_lt h4 h2, Nat.lt_of_le_of_lt (Nat.le_of_dvd hD h3) h1⟩
theorem Rpr.fr {q : Rat} (h : Sz q) : Rpr 4100 1 (fr q) := by
  refine (Rpr.tuple (B := 2000) (n := 0) fun x hx => ?_).mono (by simp) (Nat.le_refl _)
  simp only [List.mem_cons, List.not_mem_nil, or_false] at hx
  rcases hx with rfl | rfl
  · exact Rpr.int h.1 0
  · exact Rpr.int (by simpa using h.2) 0
theorem Rpr.po {l : List Rat} (h : ∀ q ∈ l, Sz q) (hl : l.length ≤ 100) : Rpr 500000 2 (po l) := by
  refine (Rpr.tuple (B := 4100) (n := 1) fun x hx => ?_).mono ?_ (Nat.le_refl _)
  · obtain ⟨q, hq, rfl⟩ := List.mem_map.mp hx
    exact Rpr.fr (h q hq)
  · rw [fl_len]
    have := Nat.mul_le_mul_right (4100 + 2) hl
    omega
end Pv

/-! M15 -/
set_option Elab.async false
set_option linter.all false
set_option maxRecDepth 100000
set_option maxHeartbeats 4000000
set_option exponentiation.threshold 100000
namespace Pv
open PySem
def lcms (l : List Rat) : Nat := l.foldl (fun b q => Nat.lcm b q.den) 1
theorem lcms_snoc (l : List Rat) (q : Rat) : lcms (l ++ [q]) = Nat.lcm (lcms l) q.den := by
  unfold lcms
  rw [List.foldl_append]
  rfl
theorem lcms_dvd {D : Nat} {l : List Rat} (h : ∀ q ∈ l, q.den ∣ D) : lcms l ∣ D := by
  have gen : ∀ (l : List Rat) (b : Nat), b ∣ D → (∀ q ∈ l, q.den ∣ D) → l.foldl (fun b q => Nat.lcm b q.den) b ∣ D := by
    intro l
    induction l with
    | nil => intro b hb _; exact hb
    | cons q l ih =>
      intro b hb h
      exact ih _ (Nat.lcm_dvd hb (h q List.mem_cons_self)) fun x hx => h x (List.mem_cons_of_mem _ hx)
  exact gen l 1 (Nat.one_dvd _) h
theorem dvd_lcms {l : List Rat} : ∀ q ∈ l, q.den ∣ lcms l := by
  have gen : ∀ (l : List Rat) (b : Nat), b ∣ l.foldl (fun b q => Nat.lcm b q.den) b ∧ ∀ q ∈ l, q.den ∣ l.foldl (fun b q => Nat.lcm b q.den) b := by
    intro l
    induction l with
    | nil => intro b; exact ⟨Nat.dvd_refl _, fun q hq => by cases hq⟩
    | cons p l ih =>
      intro b
      obtain ⟨h1, h2⟩ := ih (Nat.lcm b p.den)
      refine ⟨Nat.dvd_trans (Nat.dvd_lcm_left ..) h1, fun q hq => ?_⟩
      rcases List.mem_cons.mp hq with rfl | hq
      · exact Nat.dvd_trans (Nat.dvd_lcm_right ..) h1
      · exact h2 q hq
  exact (gen l 1).2
theorem lcms_pos (l : List Rat) : 0 < lcms l := by
  have gen : ∀ (l : List Rat) (b : Nat), 0 < b → 0 < l.foldl (fun b q => Nat.lcm b q.den) b := by
    intro l
    induction l with
    | nil => intro b hb; exact hb
    | cons p l ih => intro b hb; exact ih _ (Nat.lcm_pos hb p.den_pos)
  exact gen l 1 (by decide)
def wnum (L : Nat) (q : Rat) : Int := q.num * ((L / q.den : Nat) : Int)
theorem wnum_eq {L : Nat} {q : Rat} (h : q.den ∣ L) : ((wnum L q : Int) : Rat) = q * (L : Rat) := by
  obtain ⟨c, rfl⟩ := h
  unfold wnum
  rw [Nat.mul_div_cancel_left _ q.den_pos, Rat.intCast_mul, Rat.natCast_mul]
  have e : q * (q.den : Rat) = (q.num : Rat) := by
    have h1 : (q.den : Rat) ≠ 0 := by
      intro e
      have e : (q.den : Rat) = ((0 : Nat) : Rat) := e
      have := Rat.natCast_inj.mp e
      have := q.den_pos
      omega
    have h2 : q = (q.num : Rat) / (q.den : Rat) := by rw [← Rat.mkRat_eq_div, Rat.mkRat_self]
    conv => lhs; lhs; rw [h2]
    rw [Rat.div_mul_cancel h1]
  rw [← Rat.mul_assoc, e]
  rfl
def gcds (ns : List Int) : Nat := ns.foldl (fun g n => Int.gcd g n) 0
theorem gcds_snoc (ns : List Int) (n : Int) : gcds (ns ++ [n]) = Int.gcd (gcds ns) n := by
  unfold gcds
  rw [List.foldl_append]
  rfl
theorem gcds_dvd {ns : List Int} : ∀ n ∈ ns, ((gcds ns : Nat) : Int) ∣ n := by
  have gen : ∀ (ns : List Int) (g : Nat), ns.foldl (fun g n => Int.gcd g n) g ∣ g ∧ ∀ n ∈ ns, ((ns.foldl (fun g n => Int.gcd g n) g : Nat) : Int) ∣ n := by
    intro ns
    induction ns with
    | nil => intro g; exact ⟨Nat.dvd_refl _, fun n hn => by cases hn⟩
    | cons m ns ih =>
      intro g
      obtain ⟨h1, h2⟩ := ih (Int.gcd g m)
      have h3 : Int.gcd g m ∣ g := by
        have := Int.gcd_dvd_natAbs_left (g : Int) m
        simpa using this
      refine ⟨Nat.dvd_trans h1 h3, fun n hn => ?_⟩
      rcases List.mem_cons.mp hn with rfl | hn
      · exact Int.dvd_trans (Int.natCast_dvd_natCast.mpr h1) (Int.gcd_dvd_right ..)
      · exact h2 n hn
  exact (gen ns 0).2
theorem gcds_pos {ns : List Int} {n : Int} (h : n ∈ ns) (h0 : n ≠ 0) : 0 < gcds ns := by
  have := gcds_dvd n h
  refine Nat.pos_of_ne_zero fun e => ?_
  rw [e] at this
  have := Int.zero_dvd.mp (by simpa using this)
  exact h0 this
end Pv
namespace K07
open PySem Pv
section
variable {S : SS} {l : List Rat}
theorem s_pwhole {D B : Nat} {kk : List Rat} {c : Rat} (hl : Bdl D B l) (hD : 0 < D) (h1 : D < 2 ^ 2000) (h2 : B < 2 ^ 2000) (hlen : l.length ≤ 900) (ek : l = kk ++ [c]) (hc : c ≠ 0) :
    sem_polynomial_whole [.val (po l)] S = .ok (.val (po ((l.map (wnum (lcms l))).map fun n => Rat.divInt n (gcds (l.map (wnum (lcms l))))))) S := by
  have h1' : D < 2 ^ 4000 := Nat.lt_of_lt_of_le h1 (Nat.pow_le_pow_right (by decide) (by decide))
  have h2' : B < 2 ^ 4000 := Nat.lt_of_lt_of_le h2 (Nat.pow_le_pow_right (by decide) (by decide))
  have dv : ∀ q ∈ l, q.den ∣ D := fun q hq => ((hl q hq).den hD).1
  have lD : lcms l ≤ D := Nat.le_of_dvd hD (lcms_dvd dv)
  have w1 : exS g_polynomial_whole (.for_ (.one 1) (.it (.var 0)) (.cons (.asg 3 true (.bin .FloorDiv (.bin .Mult (.var 3) (.idx (.var 1) (.lit (.int 1)))) (.blt .gcd (.cons (.var 3) (.cons (.idx (.var 1) (.lit (.int 1))) .nil)))) []) .nil) []) [some (.val (po l)), none, none, some (.val (.int 1)), some (.val (.int 0))] S =
      .ok (.nx [some (.val (po l)), l.getLast?.map fun q => .val (fr q), none, some (.val (.int (lcms l : Int))), some (.val (.int 0))]) S := by
    rw [exS_for]
    have r := for_run (S := S) (h := fr) (body := fun d ρ => M.of (bindTg (.one 1) d ρ) >>= fun ρ2 => exSs g_polynomial_whole (.cons (.asg 3 true (.bin .FloorDiv (.bin .Mult (.var 3) (.idx (.var 1) (.lit (.int 1)))) (.blt .gcd (.cons (.var 3) (.cons (.idx (.var 1) (.lit (.int 1))) .nil)))) []) .nil) ρ2)
      (fun pre => [some (.val (po l)), pre.getLast?.map fun q => .val (fr q), none, some (.val (.int (lcms pre : Int))), some (.val (.int 0))]) l (fun pre x post hp => by
        have hpre : lcms pre ≤ D := Nat.le_of_dvd hD (lcms_dvd fun q hq => dv q (by rw [hp]; exact List.mem_append_left _ hq))
        have hx : x.den ≤ D := Nat.le_of_dvd hD (dv x (by rw [hp]; simp))
        have m1 := sq_mul (i := (lcms pre : Int)) (j := (x.den : Int)) (by rw [Int.natAbs_natCast]; exact Nat.lt_of_le_of_lt hpre h1') (by rw [Int.natAbs_natCast]; exact Nat.lt_of_le_of_lt hx h1')
        have g0 : 0 < Nat.gcd (lcms pre) x.den := Nat.gcd_pos_of_pos_right _ x.den_pos
        have gl : Nat.gcd (lcms pre) x.den ≤ D := Nat.le_trans (Nat.le_of_dvd x.den_pos (Nat.gcd_dvd_right ..)) hx
        have d1 : divOk ((lcms pre : Int) * (x.den : Int)) ((Nat.gcd (lcms pre) x.den : Nat) : Int) = true := divOk_of (by omega) (by
          rw [Int.natAbs_natCast]
          exact Nat.lt_of_lt_of_le (Nat.lt_of_le_of_lt gl h1') (Nat.pow_le_pow_right (by decide) (by decide)))
        have e1 : ((lcms pre : Int) * (x.den : Int)).fdiv ((Nat.gcd (lcms pre) x.den : Nat) : Int) = ((Nat.lcm (lcms pre) x.den : Nat) : Int) := by
          rw [Int.fdiv_eq_ediv_of_nonneg _ (by omega)]
          unfold Nat.lcm
          rw [Int.natCast_ediv, Int.natCast_mul]
        have e2 : Int.gcd (lcms pre : Int) (x.den : Int) = Nat.gcd (lcms pre) x.den := rfl
        simp [bindTg, m1, e2, d1, e1, lcms_snoc])
    have e : evI g_polynomial_whole (.it (.var 0)) [some (.val (po l)), none, none, some (.val (.int 1)), some (.val (.int 0))] S = .ok (l.map fr) S := by
      simp [po, fl]
    simp only [frz_nil, back_same, mbind_eq, e, ok_bind]
    exact r
  generalize hL : lcms l = L at w1 lD ⊢
  have L0 : 0 < L := by rw [← hL]; exact lcms_pos l
  have c1 := comp_ok (Γ := g_polynomial_whole) (vs := [1]) (tg := .one 1) (it := .it (.var 0)) (cs := .nil) (e := .bin .Mult (.idx (.var 1) (.lit (.int 0))) (.bin .FloorDiv (.var 3) (.idx (.var 1) (.lit (.int 1)))))
    (ρ := [some (.val (po l)), l.getLast?.map fun q => .val (fr q), none, some (.val (.int (L : Int))), some (.val (.int 0))]) (S := S) (xs := l) (f := fun q => .int (wnum L q)) (h := fr) (by simp [po, fl]) (by simp [line]; omega) (fun q hq => by
      have hd := dv q hq
      have hqd : q.den ≤ D := Nat.le_of_dvd hD hd
      have d1 : divOk (L : Int) (q.den : Int) = true := divOk_of (by have := q.den_pos; omega) (by
        rw [Int.natAbs_natCast]
        exact Nat.lt_of_lt_of_le (Nat.lt_of_le_of_lt hqd h1') (Nat.pow_le_pow_right (by decide) (by decide)))
      have e1 : (L : Int).fdiv (q.den : Int) = ((L / q.den : Nat) : Int) := by
        rw [Int.fdiv_eq_ediv_of_nonneg _ (by omega), Int.natCast_ediv]
      have m1 := sq_mul (i := q.num) (j := ((L / q.den : Nat) : Int)) (Nat.lt_of_le_of_lt ((hl q hq).den hD).2 h2') (by
        rw [Int.natAbs_natCast]
        exact Nat.lt_of_le_of_lt (Nat.le_trans (Nat.div_le_self ..) lD) h1')
      have e1' : (L : Int).fdiv (q.den : Int) = (L : Int) / (q.den : Int) := by rw [e1, Int.natCast_ediv]
      rw [Int.natCast_ediv] at m1
      unfold cbody
      refine noexc_ok ?_
      simp [bindTg, clr, d1, e1', m1, wnum])
  generalize hns : l.map (wnum L) = ns
  have c1' : (l.map fun q => PyData.int (wnum L q)) = ns.map PyData.int := by
    rw [← hns, List.map_map]
    rfl
  rw [c1'] at c1
  have w2 : exS g_polynomial_whole (.for_ (.one 1) (.it (.var 2)) (.cons (.asg 4 true (.blt .gcd (.cons (.var 4) (.cons (.var 1) .nil))) []) .nil) []) [some (.val (po l)), l.getLast?.map fun q => .val (fr q), some (.val (.list (ns.map PyData.int))), some (.val (.int (L : Int))), some (.val (.int 0))] S =
      .ok (.nx [some (.val (po l)), (match ns.getLast? with | some n => some (.val (.int n)) | none => l.getLast?.map fun q => .val (fr q)), some (.val (.list (ns.map PyData.int))), some (.val (.int (L : Int))), some (.val (.int (gcds ns : Int)))]) S := by
    rw [exS_for]
    have r := for_run (S := S) (h := PyData.int) (body := fun d ρ => M.of (bindTg (.one 1) d ρ) >>= fun ρ2 => exSs g_polynomial_whole (.cons (.asg 4 true (.blt .gcd (.cons (.var 4) (.cons (.var 1) .nil))) []) .nil) ρ2)
      (fun pre => [some (.val (po l)), (match pre.getLast? with | some n => some (.val (.int n)) | none => l.getLast?.map fun q => .val (fr q)), some (.val (.list (ns.map PyData.int))), some (.val (.int (L : Int))), some (.val (.int (gcds pre : Int)))]) ns (fun pre x post hp => by
        simp [bindTg, gcds_snoc])
    have e : evI g_polynomial_whole (.it (.var 2)) [some (.val (po l)), l.getLast?.map fun q => .val (fr q), some (.val (.list (ns.map PyData.int))), some (.val (.int (L : Int))), some (.val (.int 0))] S = .ok (ns.map PyData.int) S := by
      simp
    simp only [frz_nil, back_same, mbind_eq, e, ok_bind]
    exact r
  have nc : wnum L c ∈ ns := by rw [← hns, ek]; simp
  have nc0 : wnum L c ≠ 0 := by
    intro e
    have h := wnum_eq (L := L) (q := c) (by rw [← hL]; exact dvd_lcms c (by rw [ek]; simp))
    rw [e] at h
    have h : c * (L : Rat) = 0 := h.symm
    rcases Rat.mul_eq_zero.mp h with h | h
    · exact hc h
    · have h : (L : Rat) = ((0 : Nat) : Rat) := h
      have := Rat.natCast_inj.mp h
      omega
  have G0 : 0 < gcds ns := gcds_pos nc nc0
  have GB : gcds ns < 2 ^ 9000 := by
    have h3 : gcds ns ∣ (wnum L c).natAbs := by have h := Int.natAbs_dvd_natAbs.mpr (gcds_dvd _ nc); rwa [Int.natAbs_natCast] at h
    refine Nat.lt_of_le_of_lt (Nat.le_of_dvd (by omega) h3) ?_
    unfold wnum
    rw [Int.natAbs_mul, Int.natAbs_natCast]
    have h4 : c.num.natAbs ≤ B := ((hl c (by rw [ek]; simp)).den hD).2
    have h5 : L / c.den ≤ D := Nat.le_trans (Nat.div_le_self ..) lD
    calc c.num.natAbs * (L / c.den) ≤ B * D := Nat.mul_le_mul h4 h5
      _ < 2 ^ 2000 * 2 ^ 2000 := Nat.mul_lt_mul'' h2 h1
      _ ≤ 2 ^ 9000 := by rw [← Nat.pow_add]; exact Nat.pow_le_pow_right (by decide) (by decide)
  generalize gcds ns = G at w2 G0 GB ⊢
  generalize (match ns.getLast? with | some n => some (R.val (.int n)) | none => l.getLast?.map fun q => R.val (fr q)) = s1 at w2
  have c2 := comp_ok (Γ := g_polynomial_whole) (vs := [1]) (tg := .one 1) (it := .it (.var 2)) (cs := .nil) (e := .call 0 (.cons (.var 1) (.cons (.var 4) .nil)))
    (ρ := [some (.val (po l)), s1, some (.val (.list (ns.map PyData.int))), some (.val (.int (L : Int))), some (.val (.int (G : Int)))]) (S := S) (xs := ns) (f := fun n => fr (Rat.divInt n (G : Int))) (h := PyData.int) (by simp) (by rw [← hns]; simp [line]; omega) (fun n hn => by
      have e := s_low (S := S) (t := n) (b := (G : Int)) (by omega) (by rw [Int.natAbs_natCast]; exact GB)
      unfold cbody
      refine noexc_ok ?_
      simp [bindTg, clr, e])
  rw [fl_map] at c2
  simp only [po] at w1 w2 c1 c2 ⊢
  simp [sem_polynomial_whole, ir_polynomial_whole, w1, c1, w2, c2]
end
end K07

/-! M16 -/
set_option Elab.async false
set_option linter.all false
set_option maxRecDepth 100000
set_option maxHeartbeats 4000000
set_option exponentiation.threshold 100000
namespace Pv
open PySem
/-! ### drawing -/
def Sk (n : Nat) (S : SS) : Prop := ∃ s : SV, S = some s ∧ s.cells.length ≤ 1000 ∧ s.turn.natAbs ≤ n
theorem Sk.mono {n m : Nat} {S : SS} (h : Sk n S) (hm : n ≤ m) : Sk m S := by
  obtain ⟨s, e, h1, h2⟩ := h
  exact ⟨s, e, h1, by omega⟩
theorem whl_pop {test : Env → M Bool} {body : Env → M Fl} {ρ : Env} {T : SV → Bool} (ht : ∀ s, test ρ (some s) = .ok (T s) (some s)) (hT : ∀ s, T s = true → s.cells ≠ [])
    (hb : ∀ s c n, s.cells = c ++ [n] → body ρ (some s) = .ok (.nx ρ) (some { s with cells := c, left := n })) :
    ∀ (k : Nat) (s : SV), s.cells.length < k → ∃ s', whlLoop test body k ρ (some s) = .ok (.nx ρ) (some s') ∧ s'.turn = s.turn ∧ s'.cells.length ≤ s.cells.length := by
  intro k
  induction k with
  | zero => intro s h; omega
  | succ k ih =>
    intro s h
    cases e : T s with
    | false => exact ⟨s, by simp [whlLoop, ht, e], rfl, Nat.le_refl _⟩
    | true =>
      rcases List.eq_nil_or_concat s.cells with h0 | ⟨c, n, hc⟩
      · exact absurd h0 (hT s e)
      · rw [List.concat_eq_append] at hc
        have hl : s.cells.length = c.length + 1 := by rw [hc]; simp
        obtain ⟨s', e', h1, h2⟩ := ih { s with cells := c, left := n } (by show c.length < k; omega)
        refine ⟨s', ?_, h1, by show s'.cells.length ≤ _; have h2 : s'.cells.length ≤ c.length := h2; omega⟩
        have : whlLoop test body (k + 1) ρ (some s) = whlLoop test body k ρ (some { s with cells := c, left := n }) := by
          simp [whlLoop, ht, e, hb s c n hc]
        rw [this, e']
@[simp] theorem rd_src (f : SV → Int) (s : SV) : M.rd .src f (some s) = .ok (.val (.int (f s))) (some s) := (rfl)
@[simp] theorem wr_src (f : SV → SV) (s : SV) : M.wr .src f (some s) = .ok () (some (f s)) := (rfl)
@[simp] theorem get_0 (s : SV) : srcGet s 0 = s.left := (rfl)
@[simp] theorem get_1 (s : SV) : srcGet s 1 = s.mixed := (rfl)
@[simp] theorem get_2 (s : SV) : srcGet s 2 = s.turn := (rfl)
@[simp] theorem put_0 (s : SV) (n : Int) : srcPut s 0 n = { s with left := n } := (rfl)
@[simp] theorem put_1 (s : SV) (n : Int) : srcPut s 1 n = { s with mixed := n } := (rfl)
@[simp] theorem put_2 (s : SV) (n : Int) : srcPut s 2 n = { s with turn := n } := (rfl)
@[simp] theorem toInt_int (n : Int) : toInt (.int n) = some n := (rfl)
end Pv
namespace K07
open PySem Pv
theorem s_pick {many : Int} (h1 : 0 < many) (h2 : many.natAbs < 2 ^ 9000) {n : Nat} {S : SS} (hS : Sk n S) (hn : n ≤ 1000000) :
    ∃ (p : Int) (S' : SS), sem__law_pick [.src, .val (.int many)] S = .ok (.val (.int p)) S' ∧ 0 ≤ p ∧ p < many ∧ Sk (n + 1) S' := by
  obtain ⟨s, rfl, hc, ht⟩ := hS
  have loop := whl_pop (test := fun ρ => evT g__law_pick (.andv (.cmp .Gt (.var 1) (.lit (.int (1)))) (.andv (.cmp .Lt (.srcI 0 0) (.lit (.int (2)))) (.cmp .Gt (.srcN 0) (.lit (.int (0)))))) ρ [])
    (body := fun ρ => exSs g__law_pick (.cons (.srcPop 0) .nil) ρ) (ρ := [some .src, some (.val (.int many)), none, none])
    (T := fun s => decide (1 < many) && (decide (s.left < 2) && decide (0 < s.cells.length))) (fun s => by
      by_cases a : 1 < many
      · by_cases b : s.left < 2
        · simp [a, b]
        · simp [a, b]
      · simp [a]) (fun s h e => by simp [e] at h) (fun s c n e => by
      simp [M.popS, e]) fuel s (by unfold fuel; omega)
  obtain ⟨s', e, h3, h4⟩ := loop
  have ew : exS g__law_pick (.whl (.andv (.cmp .Gt (.var 1) (.lit (.int (1)))) (.andv (.cmp .Lt (.srcI 0 0) (.lit (.int (2)))) (.cmp .Gt (.srcN 0) (.lit (.int (0)))))) (.cons (.srcPop 0) .nil) []) [some .src, some (.val (.int many)), none, none] (some s) = .ok (.nx [some .src, some (.val (.int many)), none, none]) (some s') := by
    rw [exS_whl]; exact e
  have hm : (if many > 1 then many else (1 : Int)) = many := by split <;> omega
  have dv : ∀ i, divOk i many = true := fun i => divOk_of (by omega) h2
  have hr : ∀ i : Int, 0 ≤ i.fmod many ∧ i.fmod many < many := fun i => ⟨Int.fmod_nonneg_of_pos _ h1, Int.fmod_lt_of_pos _ h1⟩
  have k1 : mulOk (s'.turn + 1) 104729 = true := mulOk_of (by
    refine Nat.lt_of_le_of_lt (m := 1000001) (by omega) ?_
    exact Nat.lt_of_lt_of_le (show 1000001 < 2 ^ 20 by decide) (Nat.pow_le_pow_right (by decide) (by decide))) (by
    exact Nat.lt_of_lt_of_le (show 104729 < 2 ^ 20 by decide) (Nat.pow_le_pow_right (by decide) (by decide)))
  have k2 : mulOk (s'.turn + 1) 17 = true := mulOk_of (by
    refine Nat.lt_of_le_of_lt (m := 1000001) (by omega) ?_
    exact Nat.lt_of_lt_of_le (show 1000001 < 2 ^ 20 by decide) (Nat.pow_le_pow_right (by decide) (by decide))) (by
    exact Nat.lt_of_lt_of_le (show 17 < 2 ^ 20 by decide) (Nat.pow_le_pow_right (by decide) (by decide)))
  have k3 : ∀ i : Int, mulOk (i.fmod 998244353) (i.fmod 998244353) = true := fun i => by
    have a := Int.fmod_nonneg_of_pos i (show (0 : Int) < 998244353 by decide)
    have b := Int.fmod_lt_of_pos i (show (0 : Int) < 998244353 by decide)
    have c : (i.fmod 998244353).natAbs < 2 ^ 60000 := Nat.lt_of_lt_of_le (show _ < 2 ^ 40 by omega) (Nat.pow_le_pow_right (by decide) (by decide))
    exact mulOk_of c c
  have k4 : ∀ i : Int, divOk i 16 = true := fun i => divOk_of (by decide) (Nat.lt_of_lt_of_le (show 16 < 2 ^ 20 by decide) (Nat.pow_le_pow_right (by decide) (by decide)))
  by_cases hif : many < 2 ∨ 1 < s'.left
  · refine ⟨s'.left.fmod many, some { s' with left := s'.left.fdiv many }, ?_, (hr _).1, (hr _).2, ⟨_, rfl, by show s'.cells.length ≤ 1000; omega, by show s'.turn.natAbs ≤ n + 1; omega⟩⟩
    unfold sem__law_pick ir__law_pick
    by_cases a : many < 2
    · simp [ew, hm, dv, a, show many ≠ 0 by omega]
    · have b : 1 < s'.left := by omega
      simp [ew, hm, dv, a, b, show many ≠ 0 by omega]
  · have a : ¬ many < 2 := fun h => hif (.inl h)
    have b : ¬ 1 < s'.left := fun h => hif (.inr h)
    obtain ⟨w, hw⟩ : ∃ w, w = (((s'.mixed + (s'.turn + 1) * 104729).fmod 998244353) * ((s'.mixed + (s'.turn + 1) * 104729).fmod 998244353) + (s'.turn + 1) * 17).fmod 2147483647 := ⟨_, rfl⟩
    refine ⟨(w.fdiv 16).fmod many, some { s' with turn := s'.turn + 1, mixed := w }, ?_, (hr _).1, (hr _).2, ⟨_, rfl, by show s'.cells.length ≤ 1000; omega, by show (s'.turn + 1).natAbs ≤ n + 1; omega⟩⟩
    subst hw
    unfold sem__law_pick ir__law_pick
    simp [ew, a, b, k1, k2, k3, k4, show many ≠ 0 by omega]
end K07

/-! M17 -/
set_option Elab.async false
set_option linter.all false
set_option maxRecDepth 100000
set_option maxHeartbeats 4000000
set_option exponentiation.threshold 100000
namespace Pv
open PySem
theorem intsOf_map : ∀ ns : List Int, intsOf (ns.map PyData.int) = some ns
  | [] => rfl
  | n :: ns => by
    rw [List.map_cons]
    show (intsOf (ns.map PyData.int)).map (n :: ·) = _
    rw [intsOf_map ns]
    rfl
theorem lt_big {n k : Nat} (h : n < 2 ^ k) (hk : k ≤ 60000) : n < 2 ^ 60000 := Nat.lt_of_lt_of_le h (Nat.pow_le_pow_right (by decide) hk)
@[simp] theorem mk_none (ns : List Int) (l m t : Int) : M.mk ns l m t none = .ok .src (some ⟨ns, l, m, t⟩) := (rfl)
end Pv
namespace K07
open PySem Pv
theorem l_source {ns : List Int} (h1 : ns.length ≤ 63) (h2 : ∀ z ∈ ns, Builtin.Int.intBits z ≤ 1048576) : ∃ S, sem__law_source [.scr ns] none = .ok .src S ∧ Sk 0 S := by
  obtain ⟨ρ', f, hP⟩ := for_inv (body := fun d ρ => M.of (bindTg (.one 2) d ρ) >>= fun ρ2 => exSs g__law_source (.cons (.asg 1 true (.bin .Mod (.blt .int (.cons (.bin .Add (.bin .Add (.bin .Mult (.var 1) (.lit (.int (69069)))) (.bin .Mult (.var 2) (.lit (.int (31))))) (.lit (.int (5)))) .nil)) (.lit (.int (2147483629)))) []) .nil) ρ2) (S := none) (h := PyData.int)
    (fun _ ρ => ∃ (m : Int) (o : Option R), ρ = [some (.scr ns), some (.val (.int m)), o] ∧ m.natAbs < 2 ^ 40) ns (ρ := [some (.scr ns), some (.val (.int 11)), none]) ⟨11, none, rfl, by decide⟩ (fun pre x post ρ e => by
      rintro ⟨m, o, rfl, hm⟩
      have k1 : mulOk m 69069 = true := mulOk_of (lt_big hm (by decide)) (lt_big (show 69069 < 2 ^ 40 by decide) (by decide))
      have k2 : mulOk x 31 = true := by
        have b := h2 x (by rw [e]; simp)
        have b2 : Builtin.Int.intBits 31 ≤ 40 := by
          exact bits_le (show (31 : Int).natAbs < 2 ^ 40 by decide)
        unfold mulOk
        simp only [decide_eq_true_eq]
        omega
      refine ⟨[some (.scr ns), some (.val (.int ((m * 69069 + x * 31 + 5).fmod 2147483629))), some (.val (.int x))], by simp [bindTg, k1, k2], _, _, rfl, ?_⟩
      have a := Int.fmod_nonneg_of_pos (m * 69069 + x * 31 + 5) (show (0 : Int) < 2147483629 by decide)
      have b := Int.fmod_lt_of_pos (m * 69069 + x * 31 + 5) (show (0 : Int) < 2147483629 by decide)
      omega)
  obtain ⟨m, o, rfl, hm⟩ := hP
  have ef : exS g__law_source (.for_ (.one 2) (.it (.var 0)) (.cons (.asg 1 true (.bin .Mod (.blt .int (.cons (.bin .Add (.bin .Add (.bin .Mult (.var 1) (.lit (.int (69069)))) (.bin .Mult (.var 2) (.lit (.int (31))))) (.lit (.int (5)))) .nil)) (.lit (.int (2147483629)))) []) .nil) []) [some (.scr ns), some (.val (.int 11)), none] none = .ok (.nx [some (.scr ns), some (.val (.int m)), o]) none := by
    rw [exS_for]
    simp only [frz_nil, back_same, mbind_eq, evI_it, evE_var, getV_scr, M.of_some, ok_bind, items_scr]
    exact f
  have ec := comp_ok (Γ := g__law_source) (vs := [2]) (tg := .one 2) (it := .it (.var 0)) (cs := .nil) (e := .blt .abs (.cons (.var 2) .nil)) (ρ := [some (.scr ns), some (.val (.int m)), o]) (S := none) (xs := ns) (f := fun n => PyData.int n.natAbs) (h := PyData.int) (by simp) (by simp [line]; omega) (fun n hn => by
      unfold cbody
      refine noexc_ok ?_
      simp [bindTg, clr])
  have er : slc (.list (ns.map fun n => PyData.int n.natAbs)) none none (-1) = some (.own ((ns.reverse.map fun n => (n.natAbs : Int)).map PyData.int)) := by
    unfold slc
    simp [Function.comp_def, List.map_reverse]
  refine ⟨some ⟨ns.reverse.map fun n => (n.natAbs : Int), 1, m, 0⟩, ?_, ⟨_, rfl, ?_, by show (0 : Int).natAbs ≤ 0; decide⟩⟩
  rotate_left
  · show (ns.reverse.map _).length ≤ 1000
    rw [List.length_map, List.length_reverse]
    omega
  · unfold sem__law_source ir__law_source
    have ei : intsOf (List.map (PyData.int ∘ fun n : Int => ((n.natAbs : Nat) : Int)) ns).reverse = some (List.map (fun n : Int => ((n.natAbs : Nat) : Int)) ns).reverse := by
      rw [← List.map_map, ← List.map_reverse, intsOf_map]
    simp [ef, ec, er, asI, ownInts, ei]
theorem l_of {xs : List PyData} (h0 : 0 < xs.length) (h1 : xs.length ≤ 1000) {n : Nat} {S : SS} (hS : Sk n S) (hn : n ≤ 1000000) : ∃ d ∈ xs, ∃ S', sem__law_of [.src, .val (.list xs)] S = .ok (.val d) S' ∧ Sk (n + 1) S' := by
  obtain ⟨p, S', e, p0, p1, hS'⟩ := s_pick (many := (xs.length : Int)) (by omega) (Nat.lt_of_le_of_lt (m := 1000) (by omega) (Nat.lt_of_lt_of_le (show 1000 < 2 ^ 20 by decide) (Nat.pow_le_pow_right (by decide) (by decide)))) hS hn
  have hp : p.toNat < xs.length := by omega
  have ha : L2.atI xs p = some xs[p.toNat] := by
    unfold L2.atI L2.ixN
    rw [if_pos p0, if_pos p1]
    simp [hp]
  refine ⟨xs[p.toNat], List.getElem_mem hp, S', ?_, hS'⟩
  unfold sem__law_of ir__law_of
  simp [e, ha]
end K07

/-! M18 -/
set_option Elab.async false
set_option linter.all false
set_option maxRecDepth 100000
set_option maxHeartbeats 4000000
set_option exponentiation.threshold 100000
namespace Pv
open PySem
/-- a for whose body goes on, the source moving on -/
theorem for_invS {α : Type} {body : PyData → Env → M Fl} {h : α → PyData} (P : List α → Env → SS → Prop) (xs : List α) {ρ : Env} {S : SS} (h0 : P [] ρ S) (hb : ∀ (pre : List α) x post ρ S, xs = pre ++ x :: post → P pre ρ S → ∃ ρ' S', body (h x) ρ S = .ok (.nx ρ') S' ∧ P (pre ++ [x]) ρ' S') :
    ∃ ρ' S', forLoop body (xs.map h) ρ S = .ok (.nx ρ') S' ∧ P xs ρ' S' := by
  have gen : ∀ (ys pre : List α) (ρ : Env) (S : SS), P pre ρ S → (∀ (p : List α) x post ρ S, ys = p ++ x :: post → P (pre ++ p) ρ S → ∃ ρ' S', body (h x) ρ S = .ok (.nx ρ') S' ∧ P (pre ++ p ++ [x]) ρ' S') → ∃ ρ' S', forLoop body (ys.map h) ρ S = .ok (.nx ρ') S' ∧ P (pre ++ ys) ρ' S' := by
    intro ys
    induction ys with
    | nil =>
      intro pre ρ S hp _
      exact ⟨ρ, S, by simp [forLoop], by simpa using hp⟩
    | cons x ys ih =>
      intro pre ρ S hp hb
      obtain ⟨ρ1, S1, e1, p1⟩ := hb [] x ys ρ S rfl (by simpa using hp)
      rw [List.append_nil] at p1
      obtain ⟨ρ2, S2, e2, p2⟩ := ih (pre ++ [x]) ρ1 S1 p1 fun p y post ρ' S' hy hp' => by
        have := hb (x :: p) y post ρ' S' (by rw [hy]; rfl) (by simpa using hp')
        simpa using this
      refine ⟨ρ2, S2, ?_, by simpa using p2⟩
      rw [List.map_cons, forLoop]
      simp only [mbind_eq, e1, ok_bind]
      exact e2
  simpa using gen xs [] ρ S h0 (by simpa using hb)
theorem Bd.of_low {t : Int} {d : Int} {M : Nat} (hd : d = 1 ∨ d = 2 ∨ d = 3) (ht : t.natAbs ≤ M) : Bd 6 (6 * M) (Rat.divInt t d) := by
  rcases hd with rfl | rfl | rfl
  · exact ((Bd.low (t := t) (b := 1) (by decide)).scale 6).cast (by decide) (by omega)
  · exact ((Bd.low (t := t) (b := 2) (by decide)).scale 3).cast (by decide) (by omega)
  · exact ((Bd.low (t := t) (b := 3) (by decide)).scale 2).cast (by decide) (by omega)
end Pv
namespace K07
open PySem Pv
theorem l_polynomial {most high : Nat} (hm : most ≤ 100) (hh : high ≤ 1000) {n : Nat} {S : SS} (hS : Sk n S) (hn : n ≤ 900000) :
    ∃ (l : List Rat) (S' : SS), sem__law_polynomial [.src, .val (.int (most : Int)), .val (.int (high : Int))] S = .ok (.val (po l)) S' ∧ Tr l ∧ l.length ≤ most ∧ Bdl 6 (6 * high) l ∧ Sk (n + 201) S' := by
  have sm : ∀ k : Nat, k ≤ 5000 → (k : Int).natAbs < 2 ^ 9000 := fun k hk => Nat.lt_of_le_of_lt (m := 5000) (by omega) (Nat.lt_of_lt_of_le (show 5000 < 2 ^ 20 by decide) (Nat.pow_le_pow_right (by decide) (by decide)))
  obtain ⟨p, S1, e1, p0, p1, hS1⟩ := s_pick (many := (most : Int) + 1) (by omega) (by have := sm (most + 1) (by omega); exact this) hS (by omega)
  have ep : p = ((p.toNat : Nat) : Int) := by omega
  generalize hk : p.toNat = k at ep
  subst ep
  have er : rng [.int (k : Int)] = some ((List.range k).map fun i => .int ((i : Nat) : Int)) := rng_1 (by omega)
  have ei : evI g__law_polynomial (.rng (.cons (.call 1 (.cons (.var 0) (.cons (.bin .Add (.var 1) (.lit (.int (1)))) .nil))) .nil)) [some .src, some (.val (.int (most : Int))), some (.val (.int (high : Int))), some (.own []), none] S = .ok ((List.range k).map fun i => .int ((i : Nat) : Int)) S1 := by
    simp [e1, er]
  obtain ⟨ρ', S2, f, l, o, rfl, hl, hb, hS2⟩ := for_invS (body := fun d ρ => M.of (bindTg (.one 4) d ρ) >>= fun ρ2 => exSs g__law_polynomial (.cons (.app 3 (.call 2 (.cons (.bin .Sub (.call 1 (.cons (.var 0) (.cons (.bin .Add (.bin .Mult (.lit (.int (2))) (.var 2)) (.lit (.int (1)))) .nil))) (.var 2)) (.cons (.call 3 (.cons (.var 0) (.cons (.lst (.cons (.lit (.int (1))) (.cons (.lit (.int (1))) (.cons (.lit (.int (1))) (.cons (.lit (.int (2))) (.cons (.lit (.int (3))) .nil)))))) .nil))) .nil))) []) .nil) ρ2) (h := fun i : Nat => PyData.int (i : Int))
    (fun (pre : List Nat) ρ S => ∃ (l : List Rat) (o : Option R), ρ = [some .src, some (.val (.int (most : Int))), some (.val (.int (high : Int))), some (.own (fl l)), o] ∧ l.length = pre.length ∧ Bdl 6 (6 * high) l ∧ Sk (n + 1 + 2 * pre.length) S) (List.range k) (ρ := [some .src, some (.val (.int (most : Int))), some (.val (.int (high : Int))), some (.own []), none]) (S := S1)
    ⟨[], none, rfl, rfl, (by intro q hq; cases hq), (by simpa using hS1)⟩ (fun pre x post ρ S e => by
      rintro ⟨l, o, rfl, hl, hb, hS⟩
      have hpl : pre.length < k := by
        have := congrArg List.length e
        simp at this
        omega
      have k1 : mulOk 2 (high : Int) = true := mulOk_of (lt_big (show 2 < 2 ^ 40 by decide) (by decide)) (lt_big (k := 40) (by show high < _; omega) (by decide))
      obtain ⟨z, S', ez, z0, z1, hS'⟩ := s_pick (many := 2 * (high : Int) + 1) (by omega) (by have := sm (2 * high + 1) (by omega); simpa using this) hS (by omega)
      obtain ⟨d, hd, S'', ed, hS''⟩ := l_of (xs := [.int 1, .int 1, .int 1, .int 2, .int 3]) (by simp) (by simp) hS' (by omega)
      obtain ⟨b, rfl, hb3⟩ : ∃ b : Int, d = .int b ∧ (b = 1 ∨ b = 2 ∨ b = 3) := by
        simp at hd
        rcases hd with rfl | rfl | rfl
        · exact ⟨1, rfl, .inl rfl⟩
        · exact ⟨2, rfl, .inr (.inl rfl)⟩
        · exact ⟨3, rfl, .inr (.inr rfl)⟩
      have el := l_low (S := S'') (t := z - high) (b := b) (by omega) (by
        have := sm b.toNat (by omega)
        have h2 : ((b.toNat : Nat) : Int) = b := by omega
        rwa [h2] at this)
      have hlen : l.length < line := by show _ < 16000000; omega
      refine ⟨[some .src, some (.val (.int (most : Int))), some (.val (.int (high : Int))), some (.own (fl (l ++ [Rat.divInt (z - high) b]))), some (.val (.int (x : Int)))], S'', ?_, l ++ [Rat.divInt (z - high) b], _, rfl, by simp [hl], ?_, ?_⟩
      · have hll : 5 ≤ line := by decide
        simp [bindTg, k1, ez, ed, el, hll, hlen, fl_append, fl]
      · intro q hq
        rcases List.mem_append.mp hq with hq | hq
        · exact hb q hq
        · obtain rfl := List.mem_singleton.mp hq
          exact Bd.of_low hb3 (by omega)
      · rw [List.length_append, List.length_singleton]
        exact hS''.mono (by omega))
  rw [List.length_range] at hl hS2
  have ef : exS g__law_polynomial (.for_ (.one 4) (.rng (.cons (.call 1 (.cons (.var 0) (.cons (.bin .Add (.var 1) (.lit (.int (1)))) .nil))) .nil)) (.cons (.app 3 (.call 2 (.cons (.bin .Sub (.call 1 (.cons (.var 0) (.cons (.bin .Add (.bin .Mult (.lit (.int (2))) (.var 2)) (.lit (.int (1)))) .nil))) (.var 2)) (.cons (.call 3 (.cons (.var 0) (.cons (.lst (.cons (.lit (.int (1))) (.cons (.lit (.int (1))) (.cons (.lit (.int (1))) (.cons (.lit (.int (2))) (.cons (.lit (.int (3))) .nil)))))) .nil))) .nil))) []) .nil) []) [some .src, some (.val (.int (most : Int))), some (.val (.int (high : Int))), some (.own []), none] S = .ok (.nx [some .src, some (.val (.int (most : Int))), some (.val (.int (high : Int))), some (.own (fl l)), o]) S2 := by
    rw [exS_for]
    simp only [frz_nil, back_same, mbind_eq, ei, ok_bind]
    exact f
  have et := l_trimL (S := S2) (l := l) (by omega)
  refine ⟨trim l, S2, ?_, tr_trim l, Nat.le_trans (trim_len l) (by omega), hb.trim, hS2.mono (by omega)⟩
  unfold sem__law_polynomial ir__law_polynomial
  simp [ef, et, frz, frzSlot]
end K07

/-! M19 -/
set_option Elab.async false
set_option linter.all false
set_option maxRecDepth 100000
set_option maxHeartbeats 4000000
set_option exponentiation.threshold 100000
namespace K07
open PySem Pv
def El (d : PyData) : Prop := Shp 49 d ∧ ∀ t b : Int, d = .tuple [.int t, .int b] → b.natAbs < 2 ^ 9000
theorem AskP.tup {xs : List PyData} (h : ∀ x ∈ xs, El x) (hl : xs.length ≤ 900) : AskP (.tuple xs) := by
  refine ⟨.tuple (ShpAll.of fun x hx => (h x hx).1), fun ys e => ?_⟩
  cases e
  exact ⟨hl, fun t b hm => (h _ hm).2 t b rfl⟩
theorem AskP.non {d : PyData} (h : Shp 50 d) (hd : ∀ xs, d ≠ .tuple xs) : AskP d := ⟨h, fun xs e => absurd e (hd xs)⟩
theorem lt9 {n : Nat} (h : n < 2 ^ 20) : n < 2 ^ 9000 := Nat.lt_of_lt_of_le h (Nat.pow_le_pow_right (by decide) (by decide))
theorem El.fr {q : Rat} (h : Sz q) : El (fr q) := by
  refine ⟨.mono (.fr (n := 0) q) (by decide), fun t b e => ?_⟩
  have e : PyData.tuple [.int q.num, .int q.den] = .tuple [.int t, .int b] := e
  injection e with e
  injection e with _ e
  injection e with e
  injection e with e
  subst e
  rw [Int.natAbs_natCast]
  exact Nat.lt_trans h.2 (Nat.pow_lt_pow_right (by decide) (by decide))
theorem El.pair (t b : Int) (h : b.natAbs < 2 ^ 20) : El (.tuple [.int t, .int b]) := by
  refine ⟨.mono (.tuple (.cons (.int (n := 0) t) (.cons (.int b) (.nil _)))) (by decide), fun t' b' e => ?_⟩
  cases e
  exact lt9 h
theorem El.of {d : PyData} (h : Shp 49 d) (hd : ∀ t b : Int, d ≠ .tuple [.int t, .int b]) : El d := ⟨h, fun t b e => absurd e (hd t b)⟩
theorem El.po {l : List Rat} (h : ∀ q ∈ l, Sz q) : El (po l) := by
  refine .of (.mono (.tuple (.fl l)) (by decide)) fun t b e => ?_
  unfold Pv.po at e
  injection e with e
  match l, e with
  | [], e => cases e
  | q :: l, e =>
    have e : Pv.fr q :: fl l = _ := e
    injection e with e _
    cases e
theorem l_values {l : List Rat} (h : ∀ q ∈ l, Sz q) (hl : l.length ≤ 800) (S : SS) : ∃ ds, sem__law_values [.src, .val (po l)] S = .ok (.own ds) S ∧ ∀ d ∈ ds, AskP d := by
  have a1 : (fl l).length + 1 ≤ line := by rw [fl_len]; show _ ≤ 16000000; omega
  have a2 : 1 + (fl l).length ≤ line := by omega
  have hr := step_rev (xs := fl l) (by rw [fl_len]; omega)
  have ho : (1 : Nat) ≤ line := by decide
  have h0 : (0 : Nat) ≤ line := by decide
  have h2 : (2 : Nat) ≤ line := by decide
  have h3 : (3 : Nat) ≤ line := by decide
  have h9 : (9 : Nat) ≤ line := by decide
  have h7 : (7 : Nat) ≤ line := by decide
  have h16 : (16 : Nat) ≤ line := by decide
  refine ⟨[po l, .list (fl l), .tuple (fl l ++ [.tuple [.int 0, .int 1]]), .tuple (fl l ++ [.tuple [.int 1, .int (-2)]]), .tuple (fl l ++ [.tuple [.int 2, .int 4]]), .tuple (fl l ++ [.int 1]), .tuple (fl l ++ [.none]), .none, .int 7,
    .tuple (fl l ++ [.tuple [.bool true, .int 1]]), .tuple ([.tuple [.int 0, .int 1]] ++ fl l), .tuple [.tuple [.int 0, .int 1]], .tuple [po l], .tuple (fl l ++ [.tuple [.int 1, .int 1, .int 1]]), .tuple (fl l).reverse, .tuple []], ?_, ?_⟩
  · unfold sem__law_values ir__law_values
    simp [po, a1, a2, hr, ho, h0, h2, h3, h9, h7, h16]
  · have hf : ∀ x ∈ fl l, El x := fun x hx => by
      obtain ⟨q, hq, rfl⟩ := List.mem_map.mp hx
      exact .fr (h q hq)
    have ap : ∀ x, El x → AskP (.tuple (fl l ++ [x])) := fun x hx => .tup (fun y hy => by
      rcases List.mem_append.mp hy with hy | hy
      · exact hf y hy
      · obtain rfl := List.mem_singleton.mp hy
        exact hx) (by rw [List.length_append, fl_len, List.length_singleton]; omega)
    have e1 : ∀ x, El x → AskP (.tuple [x]) := fun x hx => .tup (fun y hy => by
      obtain rfl := List.mem_singleton.mp hy
      exact hx) (by simp)
    have shb : Shp 49 (.bool true) := ⟨rfl, by decide⟩
    have shn : Shp 49 .none := ⟨rfl, by decide⟩
    intro d hd
    simp only [List.mem_cons, List.not_mem_nil, or_false] at hd
    rcases hd with rfl | rfl | rfl | rfl | rfl | rfl | rfl | rfl | rfl | rfl | rfl | rfl | rfl | rfl | rfl | rfl
    · exact .tup hf (by rw [fl_len]; omega)
    · exact .non (.mono (.list (.fl l)) (by decide)) fun xs e => by cases e
    · exact ap _ (.pair 0 1 (by decide))
    · exact ap _ (.pair 1 (-2) (by decide))
    · exact ap _ (.pair 2 4 (by decide))
    · exact ap _ (.of (.int 1) fun t b e => by cases e)
    · exact ap _ (.of shn fun t b e => by cases e)
    · exact .non ⟨rfl, by decide⟩ fun xs e => by cases e
    · exact .non (.int 7) fun xs e => by cases e
    · exact ap _ (.of ⟨rfl, by decide⟩ fun t b e => by cases e)
    · exact .tup (fun y hy => by
        rcases List.mem_append.mp hy with hy | hy
        · obtain rfl := List.mem_singleton.mp hy
          exact .pair 0 1 (by decide)
        · exact hf y hy) (by rw [List.length_append, fl_len, List.length_singleton]; omega)
    · exact e1 _ (.pair 0 1 (by decide))
    · exact e1 _ (.po h)
    · exact ap _ (.of ⟨rfl, by decide⟩ fun t b e => by cases e)
    · exact .tup (fun y hy => hf y (List.mem_reverse.mp hy)) (by rw [List.length_reverse, fl_len]; omega)
    · exact .tup (fun y hy => by cases hy) (by simp)
end K07

/-! M20 -/
set_option Elab.async false
set_option linter.all false
set_option maxRecDepth 100000
set_option maxHeartbeats 4000000
set_option exponentiation.threshold 100000
namespace Pv
open PySem
theorem gcds_scale (G : Nat) (ms : List Int) : gcds (ms.map fun m => (G : Int) * m) = G * gcds ms := by
  have gen : ∀ (ms : List Int) (g : Nat), (ms.map fun m => (G : Int) * m).foldl (fun g n => Int.gcd g n) (G * g) = G * ms.foldl (fun g n => Int.gcd g n) g := by
    intro ms
    induction ms with
    | nil => intro g; rfl
    | cons m ms ih =>
      intro g
      rw [List.map_cons, List.foldl_cons, List.foldl_cons]
      have e : Int.gcd ((G * g : Nat) : Int) ((G : Int) * m) = G * Int.gcd (g : Int) m := by
        rw [Int.natCast_mul, Int.gcd_mul_left, Int.natAbs_natCast]
      rw [e, ih]
  have := gen ms 0
  simpa [gcds] using this
theorem gcd_turn (ms : List Int) (m : Int) : gcds (ms ++ [m]) = Nat.gcd m.natAbs (gcds ms) := by
  rw [gcds_snoc, Nat.gcd_comm]
  rfl
theorem divInt_mul (G : Nat) (hG : 0 < G) (m : Int) : Rat.divInt ((G : Int) * m) (G : Int) = (m : Rat) := by
  rw [Rat.divInt_eq_div, Rat.intCast_mul, Rat.mul_comm]
  have h : ((G : Int) : Rat) ≠ 0 := by
    intro e
    have e : ((G : Int) : Rat) = ((0 : Int) : Rat) := e
    have := Rat.intCast_inj.mp e
    omega
  rw [Rat.mul_div_cancel h]
theorem fr_int (m : Int) : fr (m : Rat) = .tuple [.int m, .int 1] := by
  simp [fr]
theorem fr_inv {c : Rat} (hc : c ≠ 0) : fr c⁻¹ = if 0 < c.num then .tuple [.int c.den, .int c.num] else .tuple [.int (-c.den), .int (-c.num)] := by
  have h0 : c.num ≠ 0 := by rw [Ne, Rat.num_eq_zero]; exact hc
  unfold fr
  rw [Rat.num_inv, Rat.den_inv, if_neg h0]
  split
  · rename_i h
    rw [Int.sign_eq_one_of_pos h, Int.one_mul]
    have : ((c.num.natAbs : Nat) : Int) = c.num := by omega
    rw [this]
  · rename_i h
    rw [Int.sign_eq_neg_one_of_neg (by omega)]
    have : ((c.num.natAbs : Nat) : Int) = -c.num := by omega
    rw [this]
    congr 3
    omega
end Pv

/-! M21 -/
set_option Elab.async false
set_option linter.all false
set_option maxRecDepth 100000
set_option maxHeartbeats 4000000
set_option exponentiation.threshold 100000
namespace K07
open PySem Pv
section
variable {S : SS} {l : List Rat}
theorem wr_gcd (d0 o3 : Option R) {ms : List Int} (hb : ∀ k pre post, ms = pre ++ k :: post → gcds pre < 2 ^ 9000) (e3 : o3 = some (.val (po (ms.map fun m : Int => (m : Rat))))) : ∃ o1 o5 o6, exS g__law_whole_right (.for_ (.one 1) (.it (.var 3)) (.cons (.par 5 6 true true (.blt .abs (.cons (.idx (.var 1) (.lit (.int (0)))) .nil)) (.var 4) []) (.cons (.whl (.cmp .Gt (.var 6) (.lit (.int (0)))) (.cons (.par 5 6 true true (.var 6) (.bin .Mod (.blt .int (.cons (.var 5) .nil)) (.var 6)) []) .nil) []) (.cons (.asg 4 true (.var 5) []) .nil))) []) [d0, none, none, o3, some (.val (.int 0)), none, none] S = .ok (.nx [d0, o1, none, o3, some (.val (.int (gcds ms : Int))), o5, o6]) S := by
  obtain ⟨ρ', f, o1, o5, o6, rfl⟩ := for_inv (S := S) (h := fun m : Int => fr (m : Rat)) (body := fun d ρ => M.of (bindTg (.one 1) d ρ) >>= fun ρ2 => exSs g__law_whole_right (.cons (.par 5 6 true true (.blt .abs (.cons (.idx (.var 1) (.lit (.int (0)))) .nil)) (.var 4) []) (.cons (.whl (.cmp .Gt (.var 6) (.lit (.int (0)))) (.cons (.par 5 6 true true (.var 6) (.bin .Mod (.blt .int (.cons (.var 5) .nil)) (.var 6)) []) .nil) []) (.cons (.asg 4 true (.var 5) []) .nil))) ρ2)
    (fun pre ρ => ∃ o1 o5 o6, ρ = [d0, o1, none, o3, some (.val (.int (gcds pre : Int))), o5, o6]) ms (ρ := [d0, none, none, o3, some (.val (.int 0)), none, none]) ⟨none, none, none, rfl⟩ (fun pre m post ρ e => by
      rintro ⟨o1, o5, o6, rfl⟩
      have w := whl_gcd (test := fun ρ => evT g__law_whole_right (.cmp .Gt (.var 6) (.lit (.int 0))) ρ []) (body := fun ρ => exSs g__law_whole_right (.cons (.par 5 6 true true (.var 6) (.bin .Mod (.blt .int (.cons (.var 5) .nil)) (.var 6)) []) .nil) ρ)
        (mk := fun a b' => [d0, some (.val (fr (m : Rat))), none, o3, some (.val (.int (gcds pre : Int))), some (.val (.int a)), some (.val (.int b'))]) (S := S) (fun a b' => by simp) (fun a b' hb' => by
          have h0 : b' ≠ 0 := by omega
          have h1 : ((a : Nat) : Int).fmod (b' : Int) = ((a % b' : Nat) : Int) := by
            rw [Int.fmod_eq_emod_of_nonneg _ (by omega)]; rfl
          simp [h0, h1]) 9000 m.natAbs (gcds pre) fuel (hb m pre post e) (by unfold fuel; omega)
      have ew : exS g__law_whole_right (.whl (.cmp .Gt (.var 6) (.lit (.int (0)))) (.cons (.par 5 6 true true (.var 6) (.bin .Mod (.blt .int (.cons (.var 5) .nil)) (.var 6)) []) .nil) []) [d0, some (.val (fr (m : Rat))), none, o3, some (.val (.int (gcds pre : Int))), some (.val (.int (m.natAbs : Int))), some (.val (.int (gcds pre : Int)))] S = .ok (.nx [d0, some (.val (fr (m : Rat))), none, o3, some (.val (.int (gcds pre : Int))), some (.val (.int (Nat.gcd m.natAbs (gcds pre) : Nat))), some (.val (.int (0 : Nat)))]) S := by
        rw [exS_whl]; exact w
      refine ⟨[d0, some (.val (fr (m : Rat))), none, o3, some (.val (.int (gcds (pre ++ [m]) : Int))), some (.val (.int (Nat.gcd m.natAbs (gcds pre) : Nat))), some (.val (.int (0 : Nat)))], ?_, _, _, _, rfl⟩
      rw [gcd_turn]
      rw [fr_int] at ew ⊢
      simp [bindTg, ew, L2.atI, L2.ixN])
  refine ⟨o1, o5, o6, ?_⟩
  rw [exS_for]
  subst e3
  simp only [frz_nil, back_same, mbind_eq, evI_it, evE_var, getV_succ, getV_zero, M.of_some, ok_bind, po, items_tuple]
  unfold po at f
  rw [← fl_map] at f ⊢
  exact f
end
end K07

/-! M22 -/
set_option Elab.async false
set_option linter.all false
set_option maxRecDepth 100000
set_option maxHeartbeats 4000000
set_option exponentiation.threshold 100000
namespace K07
open PySem Pv
section
variable {S : SS} {l : List Rat}
theorem natR {n : Nat} (h : 0 < n) : (n : Rat) ≠ 0 := by
  intro e
  have e : (n : Rat) = ((0 : Nat) : Rat) := e
  have := Rat.natCast_inj.mp e
  omega
theorem l_whole {D B : Nat} {kk : List Rat} {c : Rat} (hl : Bdl D B l) (hD : 0 < D) (h1 : D < 2 ^ 1900) (h2 : B < 2 ^ 1900) (hlen : l.length ≤ 900) (ek : l = kk ++ [c]) (hc : c ≠ 0) :
    sem__law_whole_right [.val (po l)] S = .ok (.val (.bool true)) S := by
  have h1a : D < 2 ^ 2000 := Nat.lt_trans h1 (Nat.pow_lt_pow_right (by decide) (by decide))
  have h2a : B < 2 ^ 2000 := Nat.lt_trans h2 (Nat.pow_lt_pow_right (by decide) (by decide))
  have hw := s_pwhole (S := S) hl hD h1a h2a hlen ek hc
  have hdv : ∀ q ∈ l, q.den ∣ lcms l := dvd_lcms
  have hL : 0 < lcms l := lcms_pos l
  have lD : lcms l ≤ D := Nat.le_of_dvd hD (lcms_dvd fun q hq => ((hl q hq).den hD).1)
  generalize lcms l = L at hw hdv hL lD
  have hcl : c ∈ l := by rw [ek]; simp
  have hcn : wnum L c ≠ 0 := by
    intro e
    have h := wnum_eq (hdv c hcl)
    rw [e] at h
    have h : c * (L : Rat) = 0 := h.symm
    rcases Rat.mul_eq_zero.mp h with h | h
    · exact hc h
    · exact natR hL h
  have hG : 0 < gcds (l.map (wnum L)) := gcds_pos (List.mem_map_of_mem hcl) hcn
  have hGd : ∀ q ∈ l, ((gcds (l.map (wnum L)) : Nat) : Int) ∣ wnum L q := fun q hq => gcds_dvd _ (List.mem_map_of_mem hq)
  have hm : l.map (wnum L) = (l.map fun q => wnum L q / (gcds (l.map (wnum L)) : Int)).map fun m => ((gcds (l.map (wnum L)) : Nat) : Int) * m := by
    rw [List.map_map]
    exact List.map_congr_left fun q hq => (Int.mul_ediv_cancel' (hGd q hq)).symm
  have hg1 : gcds (l.map fun q => wnum L q / (gcds (l.map (wnum L)) : Int)) = 1 := by
    have h := gcds_scale (gcds (l.map (wnum L))) (l.map fun q => wnum L q / (gcds (l.map (wnum L)) : Int))
    rw [← hm] at h
    exact (Nat.eq_of_mul_eq_mul_left hG (by rw [Nat.mul_one]; exact h)).symm
  have hb : ∀ q ∈ l, (wnum L q).natAbs ≤ B * D := fun q hq => by
    unfold wnum
    rw [Int.natAbs_mul, Int.natAbs_natCast]
    exact Nat.mul_le_mul ((hl q hq).den hD).2 (Nat.le_trans (Nat.div_le_self ..) lD)
  have hBD : B * D < 2 ^ 3900 := by
    calc B * D < 2 ^ 1900 * 2 ^ 1900 := Nat.mul_lt_mul'' h2 h1
      _ ≤ 2 ^ 3900 := by rw [← Nat.pow_add]; exact Nat.pow_le_pow_right (by decide) (by decide)
  generalize gcds (l.map (wnum L)) = G at *
  have he : (l.map (wnum L)).map (fun n => Rat.divInt n (G : Int)) = (l.map fun q => wnum L q / (G : Int)).map fun m : Int => (m : Rat) := by
    rw [List.map_map, List.map_map]
    refine List.map_congr_left fun q hq => ?_
    show Rat.divInt (wnum L q) (G : Int) = _
    conv => lhs; lhs; rw [← Int.mul_ediv_cancel' (hGd q hq)]
    exact divInt_mul G hG _
  rw [he] at hw
  have hv : ∀ q ∈ l, ((wnum L q / (G : Int) : Int) : Rat) = q * ((L : Rat) / (G : Rat)) := fun q hq => by
    have h := wnum_eq (hdv q hq)
    conv at h => lhs; rw [← Int.mul_ediv_cancel' (hGd q hq)]
    rw [Rat.intCast_mul, Rat.intCast_natCast] at h
    have hg := natR hG
    have h3 : ((wnum L q / (G : Int) : Int) : Rat) = q * (L : Rat) / (G : Rat) := by
      rw [← h, Rat.mul_comm, Rat.mul_div_cancel hg]
    rw [h3, Rat.div_def, Rat.div_def, Rat.mul_assoc]
  generalize hms : (l.map fun q => wnum L q / (G : Int)) = ms at hw hg1
  have hmb : ∀ m ∈ ms, m.natAbs < 2 ^ 3900 := fun m hmm => by
    rw [← hms] at hmm
    obtain ⟨q, hq, rfl⟩ := List.mem_map.mp hmm
    refine Nat.lt_of_le_of_lt (Int.natAbs_ediv_le_natAbs ..) (Nat.lt_of_le_of_lt (hb q hq) hBD)
  have hlm : ms.length = l.length := by rw [← hms, List.length_map]
  have sqm : ∀ m ∈ ms, Sq (m : Rat) := fun m hm => ⟨by
    rw [Rat.num_intCast]
    exact Nat.lt_trans (hmb m hm) (Nat.pow_lt_pow_right (by decide) (by decide)), by rw [Rat.den_intCast]; exact Nat.one_lt_pow (by decide) (by decide)⟩
  have hGc : G ≤ B * D := by
    have h : G ∣ (wnum L c).natAbs := by have h := Int.natAbs_dvd_natAbs.mpr (hGd c hcl); rwa [Int.natAbs_natCast] at h
    exact Nat.le_trans (Nat.le_of_dvd (by omega) h) (hb c hcl)
  have sqb : Sq ((L : Rat) / (G : Rat)) := by
    have h := Bd.low (t := (L : Int)) (b := (G : Int)) (by omega)
    rw [Rat.divInt_eq_div, Rat.intCast_natCast, Rat.intCast_natCast, Int.natAbs_natCast, Int.natAbs_natCast] at h
    exact h.sq hG (Nat.lt_of_le_of_lt hGc (Nat.lt_trans hBD (Nat.pow_lt_pow_right (by decide) (by decide)))) (Nat.lt_of_le_of_lt lD (Nat.lt_trans h1 (Nat.pow_lt_pow_right (by decide) (by decide))))
  have bpos : 0 < ((L : Rat) / (G : Rat)).num := by
    have e : (L : Rat) / (G : Rat) = mkRat (L : Int) G := by rw [Rat.mkRat_eq_div, Rat.intCast_natCast]
    rw [e, Rat.num_mkRat, if_neg (by omega)]
    have hd : ∀ g : Nat, g ∣ L → 0 < (L : Int) / (g : Int) := fun g hg => by
      have := Nat.div_pos (Nat.le_of_dvd hL hg) (Nat.pos_of_dvd_of_pos hg hL)
      rw [← Int.natCast_ediv]
      omega
    refine hd _ ?_
    first | exact Nat.gcd_dvd_left _ _ | exact Nat.gcd_dvd_right _ _ | exact (by simpa using Nat.gcd_dvd_right G L) | exact (by simpa using Nat.gcd_dvd_left L G)
  have sqc : Sq c⁻¹ := by
    have h := (hl c hcl).den hD
    have h0 : c.num ≠ 0 := by rw [Ne, Rat.num_eq_zero]; exact hc
    refine ⟨?_, ?_⟩
    · rw [Rat.num_inv, Int.natAbs_mul, Int.natAbs_sign_of_ne_zero h0, Nat.one_mul, Int.natAbs_natCast]
      exact Nat.lt_of_le_of_lt (Nat.le_of_dvd hD h.1) (Nat.lt_trans h1 (Nat.pow_lt_pow_right (by decide) (by decide)))
    · rw [Rat.den_inv, if_neg h0]
      exact Nat.lt_of_le_of_lt h.2 (Nat.lt_trans h2 (Nat.pow_lt_pow_right (by decide) (by decide)))
  have sql : ∀ q ∈ l, Sq q := fun q hq => (hl q hq).sq hD (Nat.lt_trans h1 (Nat.pow_lt_pow_right (by decide) (by decide))) (Nat.lt_trans h2 (Nat.pow_lt_pow_right (by decide) (by decide)))
  have hvc := hv c hcl
  have hT : ms.map (fun m : Int => (m : Rat)) = kk.map (fun q => ((wnum L q / (G : Int) : Int) : Rat)) ++ [c * ((L : Rat) / (G : Rat))] := by
    rw [← hms, ek, List.map_map, List.map_append, List.map_cons, List.map_nil, ← hvc]
    rfl
  have hX : (l.map fun q => fr (q * ((L : Rat) / (G : Rat)))) = fl (ms.map fun m : Int => (m : Rat)) := by
    rw [fl_map, ← hms, List.map_map]
    congr 1
    exact List.map_congr_left fun q hq => (hv q hq).symm
  have hF : fl (ms.map fun m : Int => (m : Rat)) = ms.map fun m : Int => fr (m : Rat) := (fl_map ..).symm
  have sqt : Sq (c * ((L : Rat) / (G : Rat))) := by
    rw [← hvc]
    exact sqm _ (by rw [← hms]; exact List.mem_map_of_mem (f := fun q => wnum L q / (G : Int)) hcl)
  have et := l_times (S := S) sqt sqc
  have eby : c * ((L : Rat) / (G : Rat)) * c⁻¹ = (L : Rat) / (G : Rat) := by
    rw [Rat.mul_comm c, Rat.mul_assoc, Rat.mul_inv_cancel c hc, Rat.mul_one]
  rw [eby] at et
  have c1 := comp_okF (Γ := g__law_whole_right) (vs := [1]) (tg := .one 1) (it := .it (.var 3)) (cs := .cons (.cmp .NotEq (.idx (.var 1) (.lit (.int (1)))) (.lit (.int (1)))) .nil) (e := .var 1) (ρ := [some (.val (po l)), none, none, some (.val (po (ms.map fun m : Int => (m : Rat)))), some (.val (.int 0)), none, none]) (S := S) (xs := ms) (p := fun _ => false) (f := fun m : Int => fr (m : Rat)) (h := fun m : Int => fr (m : Rat)) (by simp [po, hF]) (by show _ ≤ 16000000; omega) (fun m hmm => by
    have e1 : eqOp (.int 1) (.int 1) = some true := rfl
    unfold cbody
    refine noexc_ok ?_
    rw [fr_int]
    simp [bindTg, clr, L2.atI, L2.ixN, e1])
  have gb : ∀ k pre post, ms = pre ++ k :: post → gcds pre < 2 ^ 9000 := fun k pre post e => by
    by_cases h0 : gcds pre = 0
    · rw [h0]; exact Nat.pow_pos (by decide)
    · cases pre with
      | nil => exact absurd rfl h0
      | cons a r =>
        by_cases hz : ∃ z ∈ a :: r, z ≠ 0
        · obtain ⟨z, hz, hz0⟩ := hz
          have hd : gcds (a :: r) ∣ z.natAbs := by have h := Int.natAbs_dvd_natAbs.mpr (gcds_dvd z hz); rwa [Int.natAbs_natCast] at h
          refine Nat.lt_of_le_of_lt (Nat.le_of_dvd (by omega) hd) (Nat.lt_trans (hmb z (by rw [e]; exact List.mem_append_left _ hz)) (Nat.pow_lt_pow_right (by decide) (by decide)))
        · exfalso
          apply h0
          have : ∀ (l : List Int), (∀ z ∈ l, z = 0) → gcds l = 0 := by
            intro l
            unfold gcds
            induction l with
            | nil => intro _; rfl
            | cons x xs ih =>
              intro h
              rw [List.foldl_cons, h x List.mem_cons_self]
              exact ih fun z hz => h z (List.mem_cons_of_mem _ hz)
          exact this _ fun z hz' => by
            by_cases h : z = 0
            · exact h
            · exact absurd ⟨z, hz', h⟩ hz
  obtain ⟨o1, o5, o6, ef⟩ := wr_gcd (S := S) (some (.val (po l))) (some (.val (po (ms.map fun m : Int => (m : Rat))))) gb rfl
  rw [hg1] at ef
  have c2 := comp_ok (Γ := g__law_whole_right) (vs := [1]) (tg := .one 1) (it := .it (.var 0)) (cs := .nil) (e := .call 0 (.cons (.var 1) (.cons (.var 2) .nil))) (ρ := [some (.val (po l)), o1, some (.val (fr ((L : Rat) / (G : Rat)))), some (.val (po (ms.map fun m : Int => (m : Rat)))), some (.val (.int (1 : Nat))), o5, o6]) (S := S) (xs := l) (f := fun q => fr (q * ((L : Rat) / (G : Rat)))) (h := fr) (by simp [po, fl]) (by show _ ≤ 16000000; omega) (fun q hq => by
    have e := l_times (S := S) (sql q hq) sqb
    unfold cbody
    refine noexc_ok ?_
    simp [bindTg, clr, e])
  rw [hX] at c2
  have e1 : eqOp (.int (l.length : Int)) (.int (l.length : Int)) = some true := by
    show some (decide _) = _
    simp
  have hlT : (fl (ms.map fun m : Int => (m : Rat))).length = l.length := by rw [fl_len, List.length_map, hlm]
  have e2 : eqOp (.list []) (.list []) = some true := by
    rw [eqOp_of (.mono (.list (.nil 0)) (by decide)) (.mono (.list (.nil 0)) (by decide))]
    simp [PyData.eqv, PyData.eqvAll]
  have e3 : eqOp (.list (fl (ms.map fun m : Int => (m : Rat)))) (.list (fl (ms.map fun m : Int => (m : Rat)))) = some true := by
    have h : Shp 2 (.list (fl (ms.map fun m : Int => (m : Rat)))) := .list (.fl _)
    rw [eqOp_of (h.mono (by decide)) (h.mono (by decide)), eqv_refl _ h.1]
  have e4 : eqOp (.int 1) (.int 1) = some true := rfl
  have a1 := at_last (fl kk) (fr c)
  have a2 := at_last (fl (kk.map (fun q => ((wnum L q / (G : Int) : Int) : Rat)))) (fr (c * ((L : Rat) / (G : Rat))))
  have f1 : fl l = fl kk ++ [fr c] := by rw [ek, fl_append]; rfl
  have f2 : fl (ms.map fun m : Int => (m : Rat)) = fl (kk.map (fun q => ((wnum L q / (G : Int) : Int) : Rat))) ++ [fr (c * ((L : Rat) / (G : Rat)))] := by rw [hT, fl_append]; rfl
  rw [← f1] at a1
  rw [← f2] at a2
  have i0 : ∀ q : Rat, L2.atI [PyData.int q.num, PyData.int q.den] 0 = some (.int q.num) := fun q => rfl
  have i1 : ∀ q : Rat, L2.atI [PyData.int q.num, PyData.int q.den] 1 = some (.int q.den) := fun q => rfl
  have hfl : (fl l).length = l.length := fl_len l
  have hln : 2 ≤ line := by decide
  have hi := fr_inv hc
  simp only [po] at hw c1 ef c2 ⊢
  have c1 := c1.trans (by rw [List.filter_eq_nil_iff.mpr (by simp)]; rfl : _ = Out.ok (R.own []) S)
  generalize fl (ms.map fun m : Int => (m : Rat)) = T at *
  have bpos' := bpos
  generalize hby : (L : Rat) / (G : Rat) = by' at *
  have i2 : L2.atI [PyData.int c.num, PyData.int c.den] 0 = some (.int c.num) := rfl
  have i3 : L2.atI [PyData.int c.num, PyData.int c.den] 1 = some (.int c.den) := rfl
  have i4 : L2.atI [PyData.int by'.num, PyData.int by'.den] 0 = some (.int by'.num) := rfl
  have fc : fr c = .tuple [.int c.num, .int c.den] := rfl
  have fb : fr by' = .tuple [.int by'.num, .int by'.den] := rfl
  rw [fc] at a1
  rw [fb] at et c2
  rw [show ((1 : Nat) : Int) = 1 from rfl] at ef c2
  by_cases hs : 0 < c.num
  · rw [if_pos hs] at hi
    rw [hi] at et
    simp [sem__law_whole_right, ir__law_whole_right, hw, hlT, hfl, e1, c1, e2, ef, a1, a2, i2, i3, i4, hs, et, e4, bpos', c2, e3, hln]
  · rw [if_neg hs] at hi
    rw [hi] at et
    simp [sem__law_whole_right, ir__law_whole_right, hw, hlT, hfl, e1, c1, e2, ef, a1, a2, i2, i3, i4, hs, et, e4, bpos', c2, e3, hln]
end
end K07

/-! M23 -/
set_option Elab.async false
set_option linter.all false
set_option maxRecDepth 100000
set_option maxHeartbeats 4000000
set_option exponentiation.threshold 100000
namespace K07
open PySem Pv
theorem s_sign (x : Rat) (S : SS) : sem_sign_of [.val (fr x)] S = .ok (.val (.int x.num.sign)) S := by
  have i0 : L2.atI [PyData.int x.num, PyData.int x.den] 0 = some (.int x.num) := rfl
  have bs : ∀ a b : Bool, binop .Sub (.bool a) (.bool b) = some (.val (.int (b2i a - b2i b))) := fun a b => rfl
  unfold sem_sign_of ir_sign_of fr
  rcases Int.lt_trichotomy x.num 0 with h | h | h
  · have h2 : ¬ 0 < x.num := by omega
    simp [i0, bs, h, h2, b2i, Int.sign_eq_neg_one_of_neg h]
  · rw [h] at i0 ⊢
    simp [i0, bs, b2i]
  · have h2 : ¬ x.num < 0 := by omega
    simp [i0, bs, h, h2, b2i, Int.sign_eq_one_of_pos h]
theorem sign_div {n : Int} (h : n ≠ 0) : n.fdiv (n.natAbs : Int) = n.sign := by
  rcases Int.lt_trichotomy n 0 with h1 | h1 | h1
  · rw [Int.sign_eq_neg_one_of_neg h1]
    have : (n.natAbs : Int) = -n := by omega
    rw [this]
    have e := Int.mul_fdiv_cancel (-1) (show -n ≠ 0 by omega)
    rwa [show (-1 : Int) * -n = n by omega] at e
  · exact absurd h1 h
  · rw [Int.sign_eq_one_of_pos h1]
    have : (n.natAbs : Int) = n := by omega
    rw [this, Int.fdiv_self h]
/-- drawing one fraction for `_law_fractions_right` -/
theorem draw_fr {h : Nat} (h0 : 0 < h) (hh : h < 2 ^ 100) {n : Nat} {S : SS} (hS : Sk n S) (hn : n ≤ 900000) {ρ : Pv.Env} (e0 : getV ρ 0 = some .src) (e2 : getV ρ 2 = some (.val (.int (h : Int)))) :
    ∃ q S', evE g__law_fractions_right (.call 1 (.cons (.bin .Sub (.call 10 (.cons (.var 0) (.cons (.bin .Add (.bin .Mult (.lit (.int (2))) (.var 2)) (.lit (.int (1)))) .nil))) (.var 2)) (.cons (.bin .Add (.lit (.int (1))) (.call 10 (.cons (.var 0) (.cons (.var 2) .nil)))) .nil))) ρ S = .ok (.val (fr q)) S' ∧ Sz q ∧ q.num.natAbs < 2 ^ 100 ∧ q.den < 2 ^ 101 ∧ Sk (n + 2) S' := by
  have big : ∀ k : Nat, k < 2 ^ 102 → k < 2 ^ 9000 := fun k hk => Nat.lt_trans hk (Nat.pow_lt_pow_right (by decide) (by decide))
  have k1 : mulOk 2 (h : Int) = true := mulOk_of (lt_big (show 2 < 2 ^ 40 by decide) (by decide)) (lt_big (k := 100) (by simpa using hh) (by decide))
  obtain ⟨a, S1, ea, a0, a1, hS1⟩ := s_pick (many := 2 * (h : Int) + 1) (by omega) (big _ (by omega)) hS (by omega)
  obtain ⟨b, S2, eb, b0, b1, hS2⟩ := s_pick (many := (h : Int)) (by omega) (big _ (by omega)) hS1 (by omega)
  have el := l_low (S := S2) (t := a - h) (b := 1 + b) (by omega) (big _ (by omega))
  have hb := (Bd.low (t := a - h) (b := 1 + b) (by omega)).den (by omega)
  have d2 : (Rat.divInt (a - h) (1 + b)).den ≤ h := Nat.le_trans (Nat.le_of_dvd (by omega) hb.1) (by omega)
  have n2 : (Rat.divInt (a - h) (1 + b)).num.natAbs ≤ h := Nat.le_trans hb.2 (by omega)
  refine ⟨Rat.divInt (a - h) (1 + b), S2, ?_, ⟨Nat.lt_of_le_of_lt n2 (Nat.lt_trans hh (Nat.pow_lt_pow_right (by decide) (by decide))), Nat.lt_of_le_of_lt d2 (Nat.lt_trans hh (Nat.pow_lt_pow_right (by decide) (by decide)))⟩, by omega, by omega, hS2⟩
  simp [e0, e2, k1, ea, eb, el]
end K07

/-! M24 -/
set_option Elab.async false
set_option linter.all false
set_option maxRecDepth 100000
set_option maxHeartbeats 4000000
set_option exponentiation.threshold 100000
namespace Pv
open PySem
theorem eq_str (s : Str) : eqOp (.str s) (.str s) = some true := by
  show some (decide (s = s)) = some true
  rw [decide_eq_true rfl]
theorem repr_bool (b : Bool) : blt .repr [.bool b] = some (.val (.str (PyData.bool b).shown)) := blt_repr (Rpr.bool b 1) (by decide) (by decide)
end Pv
namespace K07
open PySem Pv
def AskF (d : PyData) : Prop := Shp 50 d ∧ ∀ t b : Int, d = .tuple [.int t, .int b] → b.natAbs < 2 ^ 9000
theorem fr_asks {ds : List PyData} (h : ∀ d ∈ ds, AskF d) (a0 a1 a2 a3 a4 a5 a6 a7 a8 a9 a10 : Option R) (S : SS) :
    ∃ o, forLoop (fun d ρ => M.of (bindTg (.one 8) d ρ) >>= fun ρ2 => exSs g__law_fractions_right (.cons (.ifS (.cmp .NotEq (.blt .repr (.cons (.call 11 (.cons (.var 8) .nil)) .nil)) (.blt .repr (.cons (.call 12 (.cons (.var 8) .nil)) .nil))) (.cons (.ret (.lit (.bool false)) []) .nil) .nil []) .nil) ρ2) ds [a0, a1, a2, a3, a4, a5, a6, a7, a8, a9, a10] S = .ok (.nx [a0, a1, a2, a3, a4, a5, a6, a7, o, a9, a10]) S := by
  obtain ⟨ρ', f, o, rfl⟩ := for_inv (S := S) (h := (id : PyData → PyData)) (body := fun d ρ => M.of (bindTg (.one 8) d ρ) >>= fun ρ2 => exSs g__law_fractions_right (.cons (.ifS (.cmp .NotEq (.blt .repr (.cons (.call 11 (.cons (.var 8) .nil)) .nil)) (.blt .repr (.cons (.call 12 (.cons (.var 8) .nil)) .nil))) (.cons (.ret (.lit (.bool false)) []) .nil) .nil []) .nil) ρ2)
    (fun pre ρ => ∃ o, ρ = [a0, a1, a2, a3, a4, a5, a6, a7, o, a9, a10]) ds (ρ := [a0, a1, a2, a3, a4, a5, a6, a7, a8, a9, a10]) ⟨_, rfl⟩ (fun pre d post ρ e => by
      rintro ⟨o, rfl⟩
      have hd := h d (by rw [e]; simp)
      have e1 := s_isF (S := S) hd.1 hd.2
      have e2 := l_isF (S := S) hd.1 hd.2
      exact ⟨[a0, a1, a2, a3, a4, a5, a6, a7, some (.val d), a9, a10], by simp [bindTg, e1, e2, repr_bool, eq_str], _, rfl⟩)
  rw [List.map_id] at f
  exact ⟨o, f⟩
end K07

/-! M25 -/
set_option Elab.async false
set_option linter.all false
set_option maxRecDepth 100000
set_option maxHeartbeats 4000000
set_option exponentiation.threshold 100000
namespace K07
open PySem Pv
theorem fr_negd (y : Rat) : PyData.tuple [.int (0 - y.num), .int y.den] = fr (-y) := by
  unfold fr
  rw [Rat.neg_num, Rat.neg_den, Int.zero_sub]
theorem lt_cross (x y : Rat) : decide (x < y) = decide (x.num * (y.den : Int) < y.num * (x.den : Int)) := by
  rw [decide_eq_decide]
  exact Rat.lt_iff x y
theorem low_scaled (x : Rat) {k : Int} (hk : k ≠ 0) : Rat.divInt (x.num * k) ((x.den : Int) * k) = x := by
  rw [Rat.divInt_mul_right hk]
  first | exact Rat.num_divInt_den x | exact Rat.divInt_self x | simp
theorem over_times (x y : Rat) (h : y ≠ 0) : x / y * y = x := Rat.div_mul_cancel h
theorem AskF.pair {t b : Int} (h : b.natAbs < 2 ^ 9000) : AskF (.tuple [.int t, .int b]) :=
  ⟨.mono (.tuple (.cons (.int (n := 0) t) (.cons (.int b) (.nil _)))) (by decide), fun t' b' e => by cases e; exact h⟩
theorem AskF.of {d : PyData} (h : Shp 50 d) (hd : ∀ t b : Int, d ≠ .tuple [.int t, .int b]) : AskF d := ⟨h, fun t b e => absurd e (hd t b)⟩
end K07

/-! M26 -/
set_option Elab.async false
set_option linter.all false
set_option maxRecDepth 100000
set_option maxHeartbeats 4000000
set_option exponentiation.threshold 100000
namespace K07
open PySem Pv
theorem Bd.self (x : Rat) : Bd x.den x.num.natAbs x := by
  have h := Bd.low (t := x.num) (b := (x.den : Int)) (by have := x.den_pos; omega)
  rw [Int.natAbs_natCast] at h
  have e : Rat.divInt x.num x.den = x := by first | exact Rat.num_divInt_den x | exact Rat.divInt_self x | simp
  rwa [e] at h
/-- small -/
def Sm (x : Rat) : Prop := x.num.natAbs < 2 ^ 100 ∧ x.den < 2 ^ 101
theorem Sm.sz {x : Rat} (h : Sm x) : Sz x := ⟨Nat.lt_trans h.1 (Nat.pow_lt_pow_right (by decide) (by decide)), Nat.lt_trans h.2 (Nat.pow_lt_pow_right (by decide) (by decide))⟩
theorem Sm.sq {x : Rat} (h : Sm x) : Sq x := ⟨Nat.lt_trans h.1 (Nat.pow_lt_pow_right (by decide) (by decide)), Nat.lt_trans h.2 (Nat.pow_lt_pow_right (by decide) (by decide))⟩
theorem Sm.neg {x : Rat} (h : Sm x) : Sm (-x) := by
  unfold Sm
  rw [Rat.neg_num, Rat.neg_den, Int.natAbs_neg]
  exact h
theorem Sm.mul {x y : Rat} (hx : Sm x) (hy : Sm y) : Sz (x * y) := by
  have h := (Bd.self x).mul (Bd.self y)
  refine h.ss (Nat.mul_pos x.den_pos y.den_pos) ?_ ?_
  · exact Nat.lt_trans (Nat.mul_lt_mul'' hx.2 hy.2) (by rw [← Nat.pow_add]; exact Nat.pow_lt_pow_right (by decide) (by decide))
  · exact Nat.lt_trans (Nat.mul_lt_mul'' hx.1 hy.1) (by rw [← Nat.pow_add]; exact Nat.pow_lt_pow_right (by decide) (by decide))
theorem Sm.add {x y : Rat} (hx : Sm x) (hy : Sm y) : Sz (x + y) := by
  have a := (Bd.self x).scale y.den
  have b := (Bd.self y).scale x.den
  rw [Nat.mul_comm y.den x.den] at b
  refine (a.add b).ss (Nat.mul_pos x.den_pos y.den_pos) ?_ ?_
  · exact Nat.lt_trans (Nat.mul_lt_mul'' hx.2 hy.2) (by rw [← Nat.pow_add]; exact Nat.pow_lt_pow_right (by decide) (by decide))
  · have h1 : x.num.natAbs * y.den < 2 ^ 100 * 2 ^ 101 := Nat.mul_lt_mul'' hx.1 hy.2
    have h2 : y.num.natAbs * x.den < 2 ^ 100 * 2 ^ 101 := Nat.mul_lt_mul'' hy.1 hx.2
    refine Nat.lt_of_lt_of_le (Nat.add_lt_add h1 h2) ?_
    rw [← Nat.pow_add, ← Nat.two_mul, ← Nat.pow_succ']
    exact Nat.pow_le_pow_right (by decide) (by decide)
theorem Sm.sub {x y : Rat} (hx : Sm x) (hy : Sm y) : Sz (x - y) := by
  rw [Rat.sub_eq_add_neg]
  exact hx.add hy.neg
end K07

/-! M27 -/
set_option Elab.async false
set_option linter.all false
set_option maxRecDepth 100000
set_option maxHeartbeats 4000000
set_option exponentiation.threshold 100000
namespace K07
open PySem Pv
theorem repr_five {a b c : Rat} (ha : Sz a) (hb : Sz b) (hc : Sz c) (t : Bool) {s : Int} (hs : s.natAbs < 2 ^ 1900) :
    blt .repr [.list [fr a, fr b, fr c, .bool t, .int s]] = some (.val (.str (PyData.list [fr a, fr b, fr c, .bool t, .int s]).shown)) := by
  refine blt_repr (Rpr.list (B := 4100) (n := 1) fun x hx => ?_) (by simp) (by decide)
  simp only [List.mem_cons, List.not_mem_nil, or_false] at hx
  rcases hx with rfl | rfl | rfl | rfl | rfl
  · exact .fr ha
  · exact .fr hb
  · exact .fr hc
  · exact (Rpr.bool t 1).mono (by decide) (by decide)
  · exact (Rpr.int hs 1).mono (by decide) (by decide)
theorem repr_fr {a : Rat} (ha : Sz a) : blt .repr [fr a] = some (.val (.str (fr a).shown)) := blt_repr (.fr ha) (by decide) (by decide)
/-- the comparisons of one turn of `_law_fractions_right`, up to the repr of its five answers -/
theorem fr_five {x y : Rat} (hx : Sm x) (hy : Sm y) (a0 a1 a2 a4 a5 a6 a7 a8 : Option R) (S : SS) :
    exS g__law_fractions_right (.asg 4 true (.lst (.cons (.call 2 (.cons (.var 9) (.cons (.var 10) .nil))) (.cons (.call 3 (.cons (.var 9) (.cons (.var 10) .nil))) (.cons (.call 4 (.cons (.var 9) (.cons (.var 10) .nil))) (.cons (.call 5 (.cons (.var 9) (.cons (.var 10) .nil))) (.cons (.call 6 (.cons (.var 9) .nil)) .nil)))))) []) [a0, a1, a2, some (.val (fr (-y))), a4, a5, a6, a7, a8, some (.val (fr x)), some (.val (fr y))] S =
      .ok (.nx [a0, a1, a2, some (.val (fr (-y))), some (.val (.list [fr (x + y), fr (x - y), fr (x * y), .bool (decide (x < y)), .int x.num.sign])), a5, a6, a7, a8, some (.val (fr x)), some (.val (fr y))]) S := by
  have e1 := s_added (S := S) hx.sq hy.sq
  have e2 := s_less (S := S) hx.sq hy.sq
  have e3 := s_times (S := S) hx.sq hy.sq
  have e4 := s_ahead (S := S) hx.sq hy.sq
  have e5 := s_sign x S
  have h5 : 5 ≤ line := by decide
  simp [e1, e2, e3, e4, e5, h5]
end K07

/-! M28 -/
set_option Elab.async false
set_option linter.all false
set_option maxRecDepth 100000
set_option maxHeartbeats 4000000
set_option exponentiation.threshold 100000
namespace K07
open PySem Pv
theorem fr_sgn {x : Rat} (hx : Sm x) (a0 a1 a2 a3 a4 a5 a6 a7 a8 a10 : Option R) (S : SS) :
    exS g__law_fractions_right (.asg 5 true (.ite (.cmp .Eq (.idx (.var 9) (.lit (.int (0)))) (.lit (.int (0)))) (.lit (.int (0))) (.bin .FloorDiv (.idx (.var 9) (.lit (.int (0)))) (.blt .abs (.cons (.idx (.var 9) (.lit (.int (0)))) .nil)))) []) [a0, a1, a2, a3, a4, a5, a6, a7, a8, some (.val (fr x)), a10] S =
      .ok (.nx [a0, a1, a2, a3, a4, some (.val (.int x.num.sign)), a6, a7, a8, some (.val (fr x)), a10]) S := by
  have ix0 : idx (fr x) (.int 0) = some (.int x.num) := rfl
  have e : eqOp (.int x.num) (.int 0) = some (decide (x.num = 0)) := rfl
  by_cases h : x.num = 0
  · have e' : eqOp (.int x.num) (.int 0) = some true := by rw [e, decide_eq_true h]
    have hs : x.num.sign = 0 := by rw [h]; rfl
    rw [hs]
    simp only [exS_asg, evF, evE_ite, evE_cmp, evE_idx, evE_var, evE_lit, asD, asB, mbind_eq, mpure_eq, getV_succ, getV_zero, M.of_some, ok_bind, R.d_val, ix0, cmp_eq, e', isB_bool, frz_nil, back_same, if_true, setV, hR_true, R.arg_val]
    rfl
  · have e' : eqOp (.int x.num) (.int 0) = some false := by rw [e, decide_eq_false h]
    have d : divOk x.num (x.num.natAbs : Int) = true := divOk_of (by omega) (by rw [Int.natAbs_natCast]; exact Nat.lt_trans hx.1 (Nat.pow_lt_pow_right (by decide) (by decide)))
    simp [ix0, e', d, sign_div h]
theorem fr_six {x y : Rat} (hx : Sm x) (hy : Sm y) (a0 a1 a2 a4 a6 a7 a8 : Option R) (S : SS) :
    exS g__law_fractions_right (.asg 6 true (.lst (.cons (.call 7 (.cons (.var 9) (.cons (.var 10) .nil))) (.cons (.call 7 (.cons (.var 9) (.cons (.var 3) .nil))) (.cons (.call 8 (.cons (.var 9) (.cons (.var 10) .nil))) (.cons (.cmp .Lt (.bin .Mult (.idx (.var 9) (.lit (.int (0)))) (.idx (.var 10) (.lit (.int (1))))) (.bin .Mult (.idx (.var 10) (.lit (.int (0)))) (.idx (.var 9) (.lit (.int (1)))))) (.cons (.var 5) .nil)))))) []) [a0, a1, a2, some (.val (fr (-y))), a4, some (.val (.int x.num.sign)), a6, a7, a8, some (.val (fr x)), some (.val (fr y))] S =
      .ok (.nx [a0, a1, a2, some (.val (fr (-y))), a4, some (.val (.int x.num.sign)), some (.val (.list [fr (x + y), fr (x - y), fr (x * y), .bool (decide (x < y)), .int x.num.sign])), a7, a8, some (.val (fr x)), some (.val (fr y))]) S := by
  have e1 := l_plus (S := S) hx.sq hy.sq
  have e2 := l_plus (S := S) hx.sq hy.neg.sq
  have e3 := l_times (S := S) hx.sq hy.sq
  have ix0 : idx (fr x) (.int 0) = some (.int x.num) := rfl
  have ix1 : idx (fr x) (.int 1) = some (.int x.den) := rfl
  have iy0 : idx (fr y) (.int 0) = some (.int y.num) := rfl
  have iy1 : idx (fr y) (.int 1) = some (.int y.den) := rfl
  have m1 : mulOk x.num (y.den : Int) = true := mulOk_of (Nat.lt_trans hx.1 (Nat.pow_lt_pow_right (by decide) (by decide))) (by rw [Int.natAbs_natCast]; exact Nat.lt_trans hy.2 (Nat.pow_lt_pow_right (by decide) (by decide)))
  have m2 : mulOk y.num (x.den : Int) = true := mulOk_of (Nat.lt_trans hy.1 (Nat.pow_lt_pow_right (by decide) (by decide))) (by rw [Int.natAbs_natCast]; exact Nat.lt_trans hx.2 (Nat.pow_lt_pow_right (by decide) (by decide)))
  have h5 : 5 ≤ line := by decide
  rw [← Rat.sub_eq_add_neg] at e2
  rw [lt_cross]
  simp [e1, e2, e3, ix0, ix1, iy0, iy1, m1, m2, h5]
end K07

/-! M29 -/
set_option Elab.async false
set_option linter.all false
set_option maxRecDepth 100000
set_option maxHeartbeats 4000000
set_option exponentiation.threshold 100000
namespace Pv
open PySem
theorem seq_nx {Γ : Ctx} {s : Pv.S} {ss : Ss} {ρ ρ' : Env} {S S' : SS} (h : exS Γ s ρ S = .ok (.nx ρ') S') : exSs Γ (.cons s ss) ρ S = exSs Γ ss ρ' S' := by
  rw [exSs_cons, mbind_eq, h]
  rfl
theorem seq_rt {Γ : Ctx} {s : Pv.S} {ss : Ss} {ρ : Env} {r : R} {S S' : SS} (h : exS Γ s ρ S = .ok (.rt r) S') : exSs Γ (.cons s ss) ρ S = .ok (.rt r) S' := by
  rw [exSs_cons, mbind_eq, h]
  rfl
theorem pow12 : binop .Pow (.int 10) (.int 12) = some (.val (.int 1000000000000)) := by simp [binop]
theorem addfr (x : Rat) (d : PyData) : binop .Add (fr x) (.tuple [d]) = some (.val (.tuple [.int x.num, .int x.den, d])) := by simp [fr, binop, line]
end Pv
namespace K07
open PySem Pv
def fR_1b_1 : Pv.S := (.asg 2 true (.call 0 (.cons (.var 0) (.cons (.lst (.cons (.lit (.int (4))) (.cons (.lit (.int (30))) (.cons (.bin .Pow (.lit (.int (10))) (.lit (.int (12)))) .nil)))) .nil))) [])
def fR_1b_2 : Pv.S := (.unp [9, 10] (.comp [7] (.one 7) (.rng (.cons (.lit (.int (2))) .nil)) .nil (.call 1 (.cons (.bin .Sub (.call 10 (.cons (.var 0) (.cons (.bin .Add (.bin .Mult (.lit (.int (2))) (.var 2)) (.lit (.int (1)))) .nil))) (.var 2)) (.cons (.bin .Add (.lit (.int (1))) (.call 10 (.cons (.var 0) (.cons (.var 2) .nil)))) .nil)))) [])
def fR_1b_3 : Pv.S := (.asg 3 true (.tup (.cons (.bin .Sub (.lit (.int (0))) (.idx (.var 10) (.lit (.int (0))))) (.cons (.idx (.var 10) (.lit (.int (1)))) .nil))) [])
def fR_1b_4 : Pv.S := (.asg 4 true (.lst (.cons (.call 2 (.cons (.var 9) (.cons (.var 10) .nil))) (.cons (.call 3 (.cons (.var 9) (.cons (.var 10) .nil))) (.cons (.call 4 (.cons (.var 9) (.cons (.var 10) .nil))) (.cons (.call 5 (.cons (.var 9) (.cons (.var 10) .nil))) (.cons (.call 6 (.cons (.var 9) .nil)) .nil)))))) [])
def fR_1b_5 : Pv.S := (.asg 5 true (.ite (.cmp .Eq (.idx (.var 9) (.lit (.int (0)))) (.lit (.int (0)))) (.lit (.int (0))) (.bin .FloorDiv (.idx (.var 9) (.lit (.int (0)))) (.blt .abs (.cons (.idx (.var 9) (.lit (.int (0)))) .nil)))) [])
def fR_1b_6 : Pv.S := (.asg 6 true (.lst (.cons (.call 7 (.cons (.var 9) (.cons (.var 10) .nil))) (.cons (.call 7 (.cons (.var 9) (.cons (.var 3) .nil))) (.cons (.call 8 (.cons (.var 9) (.cons (.var 10) .nil))) (.cons (.cmp .Lt (.bin .Mult (.idx (.var 9) (.lit (.int (0)))) (.idx (.var 10) (.lit (.int (1))))) (.bin .Mult (.idx (.var 10) (.lit (.int (0)))) (.idx (.var 9) (.lit (.int (1)))))) (.cons (.var 5) .nil)))))) [])
def fR_1b_7 : Pv.S := (.ifS (.cmp .NotEq (.blt .repr (.cons (.var 4) .nil)) (.blt .repr (.cons (.var 6) .nil))) (.cons (.ret (.lit (.bool false)) []) .nil) .nil [])
def fR_1b_8 : Pv.S := (.ifS (.andv (.cmp .NotEq (.idx (.var 10) (.lit (.int (0)))) (.lit (.int (0)))) (.cmp .NotEq (.blt .repr (.cons (.call 4 (.cons (.call 13 (.cons (.var 9) (.cons (.var 10) .nil))) (.cons (.var 10) .nil))) .nil)) (.blt .repr (.cons (.var 9) .nil)))) (.cons (.ret (.lit (.bool false)) []) .nil) .nil [])
def fR_1b_9 : Pv.S := (.asg 7 true (.call 0 (.cons (.var 0) (.cons (.lst (.cons (.lit (.int (1))) (.cons (.neg (.lit (.int (1)))) (.cons (.lit (.int (6))) (.cons (.neg (.lit (.int (4)))) .nil))))) .nil))) [])
def fR_1b_10 : Pv.S := (.ifS (.cmp .NotEq (.blt .repr (.cons (.call 9 (.cons (.bin .Mult (.idx (.var 9) (.lit (.int (0)))) (.var 7)) (.cons (.bin .Mult (.idx (.var 9) (.lit (.int (1)))) (.var 7)) .nil))) .nil)) (.blt .repr (.cons (.var 9) .nil))) (.cons (.ret (.lit (.bool false)) []) .nil) .nil [])
def fR_1b_11b_1 : Pv.S := (.ifS (.cmp .NotEq (.blt .repr (.cons (.call 11 (.cons (.var 8) .nil)) .nil)) (.blt .repr (.cons (.call 12 (.cons (.var 8) .nil)) .nil))) (.cons (.ret (.lit (.bool false)) []) .nil) .nil [])
def fR_1b_11b : Ss := (.cons fR_1b_11b_1 .nil)
def fR_1b_11 : Pv.S := (.for_ (.one 8) (.it (.tup (.cons (.var 9) (.cons (.tup (.cons (.idx (.var 9) (.lit (.int (0)))) (.cons (.bin .Sub (.lit (.int (0))) (.idx (.var 9) (.lit (.int (1))))) .nil))) (.cons (.tup (.cons (.bin .Mult (.lit (.int (2))) (.idx (.var 9) (.lit (.int (0))))) (.cons (.bin .Mult (.lit (.int (2))) (.idx (.var 9) (.lit (.int (1))))) .nil))) (.cons (.lst (.cons (.idx (.var 9) (.lit (.int (0)))) (.cons (.idx (.var 9) (.lit (.int (1)))) .nil))) (.cons (.bin .Add (.var 9) (.tup (.cons (.lit (.int (1))) .nil))) (.cons (.tup (.cons (.idx (.var 9) (.lit (.int (0)))) (.cons (.lit (.bool true)) .nil))) (.cons (.lit .none) (.cons (.tup (.cons (.idx (.var 9) (.lit (.int (0)))) (.cons (.lit (.int (0))) .nil))) .nil)))))))))) fR_1b_11b [])
def fR_1b : Ss := (.cons fR_1b_1 (.cons fR_1b_2 (.cons fR_1b_3 (.cons fR_1b_4 (.cons fR_1b_5 (.cons fR_1b_6 (.cons fR_1b_7 (.cons fR_1b_8 (.cons fR_1b_9 (.cons fR_1b_10 (.cons fR_1b_11 .nil)))))))))))
def fR_1 : Pv.S := (.for_ (.one 1) (.rng (.cons (.lit (.int (4))) .nil)) fR_1b [])
def fR_2 : Pv.S := (.ret (.lit (.bool true)) [])
theorem fR_eq : ir__law_fractions_right = (.cons fR_1 (.cons fR_2 .nil)) := (rfl)
theorem Sm.div {x y : Rat} (hx : Sm x) (hy : Sm y) (h : y ≠ 0) : Sq (x / y) := by
  obtain ⟨E, h0, h1, h2⟩ := (Bd.self y).inv y.den_pos h
  rw [Rat.div_def]
  refine ((Bd.self x).mul h2).sq (Nat.mul_pos x.den_pos h0) ?_ ?_
  · exact Nat.lt_trans (Nat.mul_lt_mul'' hx.2 (Nat.lt_of_le_of_lt h1 hy.1)) (by rw [← Nat.pow_add]; exact Nat.pow_lt_pow_right (by decide) (by decide))
  · exact Nat.lt_trans (Nat.mul_lt_mul'' hx.1 hy.2) (by rw [← Nat.pow_add]; exact Nat.pow_lt_pow_right (by decide) (by decide))
section
variable {n : Nat} {S : SS} {x y : Rat}
theorem fr_s1 (hS : Sk n S) (hn : n ≤ 900000) (a1 a2 a3 a4 a5 a6 a7 a8 a9 a10 : Option R) : ∃ (h : Nat) (S' : SS), exS g__law_fractions_right fR_1b_1 [some .src, a1, a2, a3, a4, a5, a6, a7, a8, a9, a10] S = .ok (.nx [some .src, a1, some (.val (.int (h : Int))), a3, a4, a5, a6, a7, a8, a9, a10]) S' ∧ 0 < h ∧ h < 2 ^ 100 ∧ Sk (n + 1) S' := by
  obtain ⟨d, hd, S', e, hS'⟩ := l_of (xs := [.int 4, .int 30, .int 1000000000000]) (by simp) (by simp) hS (by omega)
  have h3 : 3 ≤ line := by decide
  simp only [List.mem_cons, List.not_mem_nil, or_false] at hd
  rcases hd with rfl | rfl | rfl
  · exact ⟨4, S', by simp [fR_1b_1, pow12, e, h3], by decide, by decide, hS'⟩
  · exact ⟨30, S', by simp [fR_1b_1, pow12, e, h3], by decide, by decide, hS'⟩
  · exact ⟨1000000000000, S', by simp [fR_1b_1, pow12, e, h3], by decide, by decide, hS'⟩
theorem fr_s2 {h : Nat} (h0 : 0 < h) (hh : h < 2 ^ 100) (hS : Sk n S) (hn : n ≤ 800000) (a1 a3 a4 a5 a6 a7 a8 a9 a10 : Option R) : ∃ (x y : Rat) (S' : SS), exS g__law_fractions_right fR_1b_2 [some .src, a1, some (.val (.int (h : Int))), a3, a4, a5, a6, a7, a8, a9, a10] S = .ok (.nx [some .src, a1, some (.val (.int (h : Int))), a3, a4, a5, a6, a7, a8, some (.val (fr x)), some (.val (fr y))]) S' ∧ Sm x ∧ Sm y ∧ Sk (n + 4) S' := by
  obtain ⟨x, S1, e1, z1, n1, d1, hS1⟩ := draw_fr h0 hh hS (by omega) (ρ := [some .src, a1, some (.val (.int (h : Int))), a3, a4, a5, a6, some (.val (.int 0)), a8, a9, a10]) rfl rfl
  obtain ⟨y, S2, e2, z2, n2, d2, hS2⟩ := draw_fr h0 hh hS1 (by omega) (ρ := [some .src, a1, some (.val (.int (h : Int))), a3, a4, a5, a6, some (.val (.int 1)), a8, a9, a10]) rfl rfl
  refine ⟨x, y, S2, ?_, ⟨n1, d1⟩, ⟨n2, d2⟩, hS2⟩
  have er : rng [.int 2] = some [.int 0, .int 1] := by
    rw [show ((2 : Int)) = ((2 : Nat) : Int) from rfl, rng_1 (by decide)]
    rfl
  have l0 : 0 < line := by decide
  have l1 : 1 < line := by decide
  unfold fR_1b_2
  generalize hE : (E.call 1 _) = Ec at e1 e2 ⊢
  have b1 : cbody g__law_fractions_right [7] (.one 7) .nil Ec [some .src, a1, some (.val (.int (h : Int))), a3, a4, a5, a6, a7, a8, a9, a10] (.int 0) S = .ok (some (fr x)) S1 := by
    unfold cbody
    refine noexc_ok ?_
    simp [bindTg, clr, e1]
  have b2 : cbody g__law_fractions_right [7] (.one 7) .nil Ec [some .src, a1, some (.val (.int (h : Int))), a3, a4, a5, a6, a7, a8, a9, a10] (.int 1) S1 = .ok (some (fr y)) S2 := by
    unfold cbody
    refine noexc_ok ?_
    simp [bindTg, clr, e2]
  simp [evE_comp, er, compLoop, b1, b2, l0, l1, seqD, bindMany]
theorem fr_s3 (a1 a2 a3 a4 a5 a6 a7 a8 a9 : Option R) : exS g__law_fractions_right fR_1b_3 [some .src, a1, a2, a3, a4, a5, a6, a7, a8, a9, some (.val (fr y))] S = .ok (.nx [some .src, a1, a2, some (.val (fr (-y))), a4, a5, a6, a7, a8, a9, some (.val (fr y))]) S := by
  have h2 : 2 ≤ line := by decide
  rw [← fr_negd]
  simp [fR_1b_3, h2]
theorem fr_s7 (hx : Sm x) (hy : Sm y) (a1 a2 a3 a5 a7 a8 a9 a10 : Option R) : exS g__law_fractions_right fR_1b_7 [some .src, a1, a2, a3, some (.val (.list [fr (x + y), fr (x - y), fr (x * y), .bool (decide (x < y)), .int x.num.sign])), a5, some (.val (.list [fr (x + y), fr (x - y), fr (x * y), .bool (decide (x < y)), .int x.num.sign])), a7, a8, a9, a10] S = .ok (.nx [some .src, a1, a2, a3, some (.val (.list [fr (x + y), fr (x - y), fr (x * y), .bool (decide (x < y)), .int x.num.sign])), a5, some (.val (.list [fr (x + y), fr (x - y), fr (x * y), .bool (decide (x < y)), .int x.num.sign])), a7, a8, a9, a10]) S := by
  have h := repr_five (hx.add hy) (hx.sub hy) (hx.mul hy) (decide (x < y)) (s := x.num.sign) (Nat.lt_of_le_of_lt (m := 1) (by
    rcases Int.lt_trichotomy x.num 0 with h | h | h
    · rw [Int.sign_eq_neg_one_of_neg h]; decide
    · rw [h]; decide
    · rw [Int.sign_eq_one_of_pos h]; decide) (Nat.one_lt_pow (by decide) (by decide)))
  simp [fR_1b_7, h, eq_str]
theorem fr_s8 (hx : Sm x) (hy : Sm y) (a1 a2 a3 a4 a5 a6 a7 a8 : Option R) : exS g__law_fractions_right fR_1b_8 [some .src, a1, a2, a3, a4, a5, a6, a7, a8, some (.val (fr x)), some (.val (fr y))] S = .ok (.nx [some .src, a1, a2, a3, a4, a5, a6, a7, a8, some (.val (fr x)), some (.val (fr y))]) S := by
  have e0 : eqOp (.int y.num) (.int 0) = some (decide (y.num = 0)) := rfl
  by_cases h : y.num = 0
  · have e0 : eqOp (.int y.num) (.int 0) = some true := by rw [e0, decide_eq_true h]
    simp [fR_1b_8, e0]
  · have e0 : eqOp (.int y.num) (.int 0) = some false := by rw [e0, decide_eq_false h]
    have hy0 : y ≠ 0 := fun e => h (by rw [e]; rfl)
    have e1 := s_over (S := S) hx.sq hy.sq hy0
    have e2 := s_times (S := S) (hx.div hy hy0) hy.sq
    rw [over_times x y hy0] at e2
    simp [fR_1b_8, e0, e1, e2, repr_fr hx.sz, eq_str]
theorem fr_s9 (hS : Sk n S) (hn : n ≤ 900000) (a1 a2 a3 a4 a5 a6 a7 a8 a9 a10 : Option R) : ∃ (k : Int) (S' : SS), exS g__law_fractions_right fR_1b_9 [some .src, a1, a2, a3, a4, a5, a6, a7, a8, a9, a10] S = .ok (.nx [some .src, a1, a2, a3, a4, a5, a6, some (.val (.int k)), a8, a9, a10]) S' ∧ k ≠ 0 ∧ k.natAbs < 2 ^ 10 ∧ Sk (n + 1) S' := by
  obtain ⟨d, hd, S', e, hS'⟩ := l_of (xs := [.int 1, .int (-1), .int 6, .int (-4)]) (by simp) (by simp) hS (by omega)
  have h3 : 4 ≤ line := by decide
  simp only [List.mem_cons, List.not_mem_nil, or_false] at hd
  rcases hd with rfl | rfl | rfl | rfl
  · exact ⟨1, S', by simp [fR_1b_9, e, h3], by decide, by decide, hS'⟩
  · exact ⟨-1, S', by simp [fR_1b_9, e, h3], by decide, by decide, hS'⟩
  · exact ⟨6, S', by simp [fR_1b_9, e, h3], by decide, by decide, hS'⟩
  · exact ⟨-4, S', by simp [fR_1b_9, e, h3], by decide, by decide, hS'⟩
theorem fr_s10 (hx : Sm x) {k : Int} (hk : k ≠ 0) (hk2 : k.natAbs < 2 ^ 10) (a1 a2 a3 a4 a5 a6 a8 a10 : Option R) : exS g__law_fractions_right fR_1b_10 [some .src, a1, a2, a3, a4, a5, a6, some (.val (.int k)), a8, some (.val (fr x)), a10] S = .ok (.nx [some .src, a1, a2, a3, a4, a5, a6, some (.val (.int k)), a8, some (.val (fr x)), a10]) S := by
  have kb : k.natAbs < 2 ^ 60000 := Nat.lt_trans hk2 (Nat.pow_lt_pow_right (by decide) (by decide))
  have m1 : mulOk x.num k = true := mulOk_of (Nat.lt_trans hx.1 (Nat.pow_lt_pow_right (by decide) (by decide))) kb
  have m2 : mulOk (x.den : Int) k = true := mulOk_of (by rw [Int.natAbs_natCast]; exact Nat.lt_trans hx.2 (Nat.pow_lt_pow_right (by decide) (by decide))) kb
  have e := s_low (S := S) (t := x.num * k) (b := (x.den : Int) * k) (Int.mul_ne_zero (by have := x.den_pos; omega) hk) (by
    rw [Int.natAbs_mul, Int.natAbs_natCast]
    exact Nat.lt_trans (Nat.mul_lt_mul'' hx.2 hk2) (by rw [← Nat.pow_add]; exact Nat.pow_lt_pow_right (by decide) (by decide)))
  rw [low_scaled x hk] at e
  simp [fR_1b_10, m1, m2, e, repr_fr hx.sz, eq_str]
theorem fr_s11 (hx : Sm x) (a1 a2 a3 a4 a5 a6 a7 a8 a10 : Option R) : ∃ o, exS g__law_fractions_right fR_1b_11 [some .src, a1, a2, a3, a4, a5, a6, a7, a8, some (.val (fr x)), a10] S = .ok (.nx [some .src, a1, a2, a3, a4, a5, a6, a7, o, some (.val (fr x)), a10]) S := by
  have big : ∀ {m : Nat}, m < 2 ^ 101 → m < 2 ^ 60000 := fun h => Nat.lt_trans h (Nat.pow_lt_pow_right (by decide) (by decide))
  have m0 : (2 : Int).natAbs < 2 ^ 60000 := Nat.lt_of_lt_of_le (show 2 < 2 ^ 40 by decide) (Nat.pow_le_pow_right (by decide) (by decide))
  have m1 : mulOk 2 x.num = true := mulOk_of m0 (Nat.lt_trans hx.1 (Nat.pow_lt_pow_right (by decide) (by decide)))
  have m2 : mulOk 2 (x.den : Int) = true := mulOk_of m0 (by rw [Int.natAbs_natCast]; exact Nat.lt_trans hx.2 (Nat.pow_lt_pow_right (by decide) (by decide)))
  have q : ∀ {m : Nat}, m < 2 ^ 102 → m < 2 ^ 9000 := fun h => Nat.lt_trans h (Nat.pow_lt_pow_right (by decide) (by decide))
  obtain ⟨o, e⟩ := fr_asks (S := S) (ds := [fr x, .tuple [.int x.num, .int (0 - x.den)], .tuple [.int (2 * x.num), .int (2 * x.den)], .list [.int x.num, .int x.den], .tuple [.int x.num, .int x.den, .int 1], .tuple [.int x.num, .bool true], .none, .tuple [.int x.num, .int 0]]) (fun d hd => by
    have hd2 := hx.2
    simp only [List.mem_cons, List.not_mem_nil, or_false] at hd
    rcases hd with rfl | rfl | rfl | rfl | rfl | rfl | rfl | rfl
    · exact .pair (q (by rw [Int.natAbs_natCast]; exact Nat.lt_trans hx.2 (by decide)))
    · exact .pair (q (by omega))
    · exact .pair (q (by omega))
    · exact .of (.mono (.list (.cons (.int (n := 0) _) (.cons (.int _) (.nil _)))) (by decide)) fun t b e => by cases e
    · exact .of (.mono (.tuple (.cons (.int (n := 0) _) (.cons (.int _) (.cons (.int _) (.nil _))))) (by decide)) fun t b e => by cases e
    · exact .of (.mono (.tuple (.cons (.int (n := 0) _) (.cons (.bool _) (.nil _)))) (by decide)) fun t b e => by cases e
    · exact .of .none fun t b e => by cases e
    · exact .pair (q (by decide))) (some .src) a1 a2 a3 a4 a5 a6 a7 a8 (some (.val (fr x))) a10
  refine ⟨o, ?_⟩
  have h1 : 1 ≤ line := by decide
  have h2 : 2 ≤ line := by decide
  have h8 : 8 ≤ line := by decide
  unfold fR_1b_11
  rw [exS_for]
  simp only [frz_nil, back_same, mbind_eq]
  have ei : evI g__law_fractions_right (.it (.tup (.cons (.var 9) (.cons (.tup (.cons (.idx (.var 9) (.lit (.int (0)))) (.cons (.bin .Sub (.lit (.int (0))) (.idx (.var 9) (.lit (.int (1))))) .nil))) (.cons (.tup (.cons (.bin .Mult (.lit (.int (2))) (.idx (.var 9) (.lit (.int (0))))) (.cons (.bin .Mult (.lit (.int (2))) (.idx (.var 9) (.lit (.int (1))))) .nil))) (.cons (.lst (.cons (.idx (.var 9) (.lit (.int (0)))) (.cons (.idx (.var 9) (.lit (.int (1)))) .nil))) (.cons (.bin .Add (.var 9) (.tup (.cons (.lit (.int (1))) .nil))) (.cons (.tup (.cons (.idx (.var 9) (.lit (.int (0)))) (.cons (.lit (.bool true)) .nil))) (.cons (.lit .none) (.cons (.tup (.cons (.idx (.var 9) (.lit (.int (0)))) (.cons (.lit (.int (0))) .nil))) .nil))))))))))
     [some .src, a1, a2, a3, a4, a5, a6, a7, a8, some (.val (fr x)), a10] S = .ok [fr x, .tuple [.int x.num, .int (0 - x.den)], .tuple [.int (2 * x.num), .int (2 * x.den)], .list [.int x.num, .int x.den], .tuple [.int x.num, .int x.den, .int 1], .tuple [.int x.num, .bool true], .none, .tuple [.int x.num, .int 0]] S := by
    simp [h1, h2, h8, m1, m2, addfr]
  rw [ei]
  exact e
theorem fr_turn (hS : Sk n S) (hn : n ≤ 750000) (a1 a2 a3 a4 a5 a6 a7 a8 a9 a10 : Option R) : ∃ a2' a3' a4' a5' a6' a7' a8' a9' a10' S', exSs g__law_fractions_right fR_1b [some .src, a1, a2, a3, a4, a5, a6, a7, a8, a9, a10] S = .ok (.nx [some .src, a1, a2', a3', a4', a5', a6', a7', a8', a9', a10']) S' ∧ Sk (n + 6) S' := by
  obtain ⟨h, S1, e1, h0, hh, hS1⟩ := fr_s1 hS (by omega) a1 a2 a3 a4 a5 a6 a7 a8 a9 a10
  obtain ⟨x, y, S2, e2, hx, hy, hS2⟩ := fr_s2 h0 hh hS1 (by omega) a1 a3 a4 a5 a6 a7 a8 a9 a10
  obtain ⟨k, S3, e9, k0, kb, hS3⟩ := fr_s9 hS2 (by omega) a1 (some (.val (.int (h : Int)))) (some (.val (fr (-y)))) (some (.val (.list [fr (x + y), fr (x - y), fr (x * y), .bool (decide (x < y)), .int x.num.sign]))) (some (.val (.int x.num.sign))) (some (.val (.list [fr (x + y), fr (x - y), fr (x * y), .bool (decide (x < y)), .int x.num.sign]))) a7 a8 (some (.val (fr x))) (some (.val (fr y)))
  obtain ⟨o, e11⟩ := fr_s11 (S := S3) hx a1 (some (.val (.int (h : Int)))) (some (.val (fr (-y)))) (some (.val (.list [fr (x + y), fr (x - y), fr (x * y), .bool (decide (x < y)), .int x.num.sign]))) (some (.val (.int x.num.sign))) (some (.val (.list [fr (x + y), fr (x - y), fr (x * y), .bool (decide (x < y)), .int x.num.sign]))) (some (.val (.int k))) a8 (some (.val (fr y)))
  refine ⟨some (.val (.int (h : Int))), some (.val (fr (-y))), some (.val (.list [fr (x + y), fr (x - y), fr (x * y), .bool (decide (x < y)), .int x.num.sign])), some (.val (.int x.num.sign)), some (.val (.list [fr (x + y), fr (x - y), fr (x * y), .bool (decide (x < y)), .int x.num.sign])), some (.val (.int k)), o, some (.val (fr x)), some (.val (fr y)), S3, ?_, hS3⟩
  unfold fR_1b
  rw [seq_nx e1, seq_nx e2, seq_nx (fr_s3 ..), seq_nx (s := fR_1b_4) (fr_five hx hy ..), seq_nx (s := fR_1b_5) (fr_sgn hx ..), seq_nx (s := fR_1b_6) (fr_six hx hy ..), seq_nx (fr_s7 hx hy ..), seq_nx (fr_s8 hx hy ..), seq_nx e9, seq_nx (fr_s10 hx k0 kb ..), seq_nx e11, exSs_nil, mpure_eq]
theorem l_fractions (hS : Sk n S) (hn : n ≤ 700000) : ∃ S', sem__law_fractions_right [.src] S = .ok (.val (.bool true)) S' ∧ Sk (n + 24) S' := by
  obtain ⟨ρ', S', f, a1, a2, a3, a4, a5, a6, a7, a8, a9, a10, rfl, hS'⟩ := for_invS (body := fun d ρ => M.of (bindTg (.one 1) d ρ) >>= fun ρ2 => exSs g__law_fractions_right fR_1b ρ2) (h := fun i : Nat => PyData.int (i : Int))
    (fun (pre : List Nat) ρ S => ∃ a1 a2 a3 a4 a5 a6 a7 a8 a9 a10 : Option R, ρ = [some .src, a1, a2, a3, a4, a5, a6, a7, a8, a9, a10] ∧ Sk (n + 6 * pre.length) S) (List.range 4) (ρ := [some .src, none, none, none, none, none, none, none, none, none, none]) (S := S) ⟨none, none, none, none, none, none, none, none, none, none, rfl, hS⟩ (fun pre i post ρ S e => by
      rintro ⟨a1, a2, a3, a4, a5, a6, a7, a8, a9, a10, rfl, hS⟩
      have hl : pre.length < 4 := by
        have := congrArg List.length e
        simp at this
        omega
      obtain ⟨b2, b3, b4, b5, b6, b7, b8, b9, b10, S', e, hS'⟩ := fr_turn hS (by omega) (some (.val (.int (i : Int)))) a2 a3 a4 a5 a6 a7 a8 a9 a10
      exact ⟨[some .src, some (.val (.int (i : Int))), b2, b3, b4, b5, b6, b7, b8, b9, b10], S', by simp [bindTg, e], some (.val (.int (i : Int))), b2, b3, b4, b5, b6, b7, b8, b9, b10, rfl, hS'.mono (by simp; omega)⟩)
  have er : rng [.int 4] = some ((List.range 4).map fun i => .int ((i : Nat) : Int)) := rng_1 (n := 4) (by decide)
  have ef : exS g__law_fractions_right fR_1 [some .src, none, none, none, none, none, none, none, none, none, none] S = .ok (.nx [some .src, a1, a2, a3, a4, a5, a6, a7, a8, a9, a10]) S' := by
    unfold fR_1
    rw [exS_for]
    simp only [frz_nil, back_same, mbind_eq, evI_rng, evDs_cons, evDs_nil, evE_lit, asD_s, mpure_eq, ok_bind, R.d_val, M.of_some, er]
    exact f
  refine ⟨S', ?_, by simpa using hS'⟩
  unfold sem__law_fractions_right
  rw [fR_eq]
  simp [seq_nx ef, fR_2]
end
end K07

/-! M30 -/
set_option Elab.async false
set_option linter.all false
set_option maxRecDepth 100000
set_option maxHeartbeats 4000000
set_option exponentiation.threshold 100000
namespace Pv
open PySem
theorem Bd.pow {d A : Nat} {a : Rat} (h : Bd d A a) : ∀ k : Nat, Bd (d ^ k) (A ^ k) (a ^ k)
  | 0 => by
    rw [Rat.pow_zero, Nat.pow_zero, Nat.pow_zero]
    exact Bd.int 1
  | k + 1 => by
    rw [Rat.pow_succ, Nat.pow_succ, Nat.pow_succ]
    exact (Bd.pow h k).mul h
theorem ev_Bd {D M d A : Nat} {a : Rat} (ha : Bd d A a) : ∀ {l : List Rat}, Bdl D M l → Bd (D * d ^ l.length) (l.length * (M * (A + d) ^ l.length)) (ev a l)
  | [], _ => (Bd.zero _).mono (Nat.zero_le _)
  | x :: xs, h => by
    have hx := (h x List.mem_cons_self).scale (d ^ (xs.length + 1))
    have ih := ev_Bd ha (l := xs) fun q hq => h q (List.mem_cons_of_mem _ hq)
    have hm := ha.mul ih
    have e : d * (D * d ^ xs.length) = D * d ^ (xs.length + 1) := by
      rw [Nat.pow_succ, Nat.mul_left_comm, Nat.mul_comm d]
    rw [e] at hm
    have hs := hx.add hm
    show Bd (D * d ^ (xs.length + 1)) _ (x + a * ev a xs)
    refine hs.mono ?_
    rw [List.length_cons]
    have h1 : M * d ^ (xs.length + 1) ≤ M * (A + d) ^ (xs.length + 1) := Nat.mul_le_mul_left _ (Nat.pow_le_pow_left (Nat.le_add_left _ _) _)
    have h2 : A * (xs.length * (M * (A + d) ^ xs.length)) ≤ xs.length * (M * (A + d) ^ (xs.length + 1)) := by
      rw [Nat.mul_left_comm]
      refine Nat.mul_le_mul_left _ ?_
      rw [Nat.mul_left_comm, Nat.pow_succ, Nat.mul_comm ((A + d) ^ xs.length)]
      exact Nat.mul_le_mul_left _ (Nat.mul_le_mul_right _ (Nat.le_add_right _ _))
    rw [Nat.add_mul, Nat.one_mul]
    omega
/-- a list whose values may be taken -/
def Vo (l : List Rat) : Prop := ∃ D M : Nat, Bdl D M l ∧ 0 < D ∧ D < 2 ^ 1000 ∧ M < 2 ^ 1000 ∧ l.length ≤ 20
/-- a point -/
def Pt (a : Rat) : Prop := ∃ d A : Nat, Bd d A a ∧ 0 < d ∧ d < 2 ^ 20 ∧ A < 2 ^ 20
theorem Vo.sub {l m : List Rat} (h : Vo l) (hm : ∀ q ∈ m, q ∈ l) (hl : m.length ≤ l.length) : Vo m := by
  obtain ⟨D, M, h1, h2, h3, h4, h5⟩ := h
  exact ⟨D, M, fun q hq => h1 q (hm q hq), h2, h3, h4, by omega⟩
theorem Vo.trim {l : List Rat} (h : Vo l) : Vo (trim l) := h.sub (fun q hq => trim_mem hq) (trim_len l)
theorem pow_bd {d k n m : Nat} (h : d < 2 ^ m) (hk : k ≤ n) : d ^ k ≤ 2 ^ (m * n) := by
  rw [Nat.pow_mul]
  calc d ^ k ≤ (2 ^ m) ^ k := Nat.pow_le_pow_left (Nat.le_of_lt h) k
    _ ≤ (2 ^ m) ^ n := Nat.pow_le_pow_right (Nat.pow_pos (by decide)) hk
theorem Vo.bd {l : List Rat} {a : Rat} (h : Vo l) (p : Pt a) : ∃ D M : Nat, Bd D M (ev a l) ∧ 0 < D ∧ D < 2 ^ 1500 ∧ M < 2 ^ 1500 := by
  obtain ⟨D, M, h1, h2, h3, h4, h5⟩ := h
  obtain ⟨d, A, p1, p2, p3, p4⟩ := p
  refine ⟨_, _, ev_Bd p1 h1, Nat.mul_pos h2 (Nat.pow_pos p2), ?_, ?_⟩
  · calc D * d ^ l.length ≤ D * 2 ^ (20 * 20) := Nat.mul_le_mul_left _ (pow_bd p3 h5)
      _ < 2 ^ 1000 * 2 ^ (20 * 20) := Nat.mul_lt_mul_of_pos_right h3 (Nat.pow_pos (by decide))
      _ ≤ 2 ^ 1500 := by rw [← Nat.pow_add]; exact Nat.pow_le_pow_right (by decide) (by decide)
  · have e : (A + d) ^ l.length ≤ 2 ^ (21 * 20) := pow_bd (by omega) h5
    have e2 : M * (A + d) ^ l.length < 2 ^ 1000 * 2 ^ (21 * 20) := Nat.lt_of_le_of_lt (Nat.mul_le_mul_left _ e) (Nat.mul_lt_mul_of_pos_right h4 (Nat.pow_pos (by decide)))
    calc l.length * (M * (A + d) ^ l.length) ≤ 2 ^ 5 * (2 ^ 1000 * 2 ^ (21 * 20)) := Nat.mul_le_mul (by omega) (Nat.le_of_lt e2)
      _ < 2 ^ 1500 := by rw [← Nat.pow_add, ← Nat.pow_add]; exact Nat.pow_lt_pow_right (by decide) (by decide)
theorem up {a b n : Nat} (h : n < 2 ^ a) (hab : a ≤ b) : n < 2 ^ b := Nat.lt_of_lt_of_le h (Nat.pow_le_pow_right (by decide) hab)
theorem Vo.ev_sz {l : List Rat} {a : Rat} (h : Vo l) (p : Pt a) : Sz (ev a l) := by
  obtain ⟨D, M, h1, h2, h3, h4⟩ := h.bd p
  exact h1.ss h2 (up h3 (by decide)) (up h4 (by decide))
theorem Vo.ev_sq {l : List Rat} {a : Rat} (h : Vo l) (p : Pt a) : Sq (ev a l) := by
  obtain ⟨D, M, h1, h2, h3, h4⟩ := h.bd p
  exact h1.sq h2 (up h3 (by decide)) (up h4 (by decide))
theorem Vo.sq {l : List Rat} (h : Vo l) : ∀ q ∈ l, Sq q := by
  obtain ⟨D, M, h1, h2, h3, h4, h5⟩ := h
  exact fun q hq => (h1 q hq).sq h2 (up h3 (by decide)) (up h4 (by decide))
theorem Vo.sz {l : List Rat} (h : Vo l) : ∀ q ∈ l, Sz q := by
  obtain ⟨D, M, h1, h2, h3, h4, h5⟩ := h
  exact fun q hq => (h1 q hq).ss h2 (up h3 (by decide)) (up h4 (by decide))
theorem Vo.len {l : List Rat} (h : Vo l) : l.length ≤ 20 := by
  obtain ⟨D, M, h1, h2, h3, h4, h5⟩ := h
  exact h5
theorem Pt.sq {a : Rat} (p : Pt a) : Sq a := by
  obtain ⟨d, A, p1, p2, p3, p4⟩ := p
  exact p1.sq p2 (up p3 (by decide)) (up p4 (by decide))
theorem Pt.sz {a : Rat} (p : Pt a) : Sz a := by
  obtain ⟨d, A, p1, p2, p3, p4⟩ := p
  exact p1.ss p2 (up p3 (by decide)) (up p4 (by decide))
end Pv
namespace K07
open PySem Pv
theorem l_val {l : List Rat} {a : Rat} {S : SS} (h : Vo l) (p : Pt a) : sem__law_value [.val (po l), .val (fr a)] S = .ok (.val (fr (ev a l))) S := by
  refine l_value p.sq h.sq fun pre x post e => ⟨?_, ?_, ?_⟩
  · exact Vo.ev_sq (h.sub (fun q hq => by rw [e]; exact List.mem_append_left _ hq) (by rw [e, List.length_append]; omega)) p
  all_goals
    obtain ⟨D, M, h1, h2, h3, h4, h5⟩ := h
    obtain ⟨d, A, p1, p2, p3, p4⟩ := p
    have hp : pre.length ≤ 20 := by rw [e, List.length_append] at h5; omega
    have b1 : d ^ pre.length < 2 ^ 500 := Nat.lt_of_le_of_lt (pow_bd p3 hp) (Nat.pow_lt_pow_right (by decide) (by decide))
    have b2 : A ^ pre.length < 2 ^ 500 := Nat.lt_of_le_of_lt (pow_bd p4 hp) (Nat.pow_lt_pow_right (by decide) (by decide))
  · exact (p1.pow _).sq (Nat.pow_pos p2) (up b1 (by decide)) (up b2 (by decide))
  · refine ((h1 x (by rw [e]; simp)).mul (p1.pow _)).sq (Nat.mul_pos h2 (Nat.pow_pos p2)) ?_ ?_
    · exact Nat.lt_trans (Nat.mul_lt_mul'' h3 b1) (by rw [← Nat.pow_add]; exact Nat.pow_lt_pow_right (by decide) (by decide))
    · exact Nat.lt_trans (Nat.mul_lt_mul'' h4 b2) (by rw [← Nat.pow_add]; exact Nat.pow_lt_pow_right (by decide) (by decide))
theorem s_val {l : List Rat} {a : Rat} {S : SS} (h : Vo l) (p : Pt a) : sem_polynomial_value [.val (po l), .val (fr a)] S = .ok (.val (fr (ev a l))) S := by
  have hrev : slc (po l) none none (-1) = some (.val (po l.reverse)) := by
    have e := step_rev (xs := fl l) (by rw [fl_len]; have := h.len; omega)
    unfold po
    rw [e]
    unfold fl
    rw [List.map_reverse]
  refine s_value p.sq h.sq (fun pre x post e => ?_) hrev
  have hr : horn a pre = ev a pre.reverse := by
    have := horn_rev a pre.reverse
    rwa [List.reverse_reverse] at this
  have hv : Vo pre.reverse := h.sub (fun q hq => by
    have : q ∈ l.reverse := by rw [e]; exact List.mem_append_left _ (List.mem_reverse.mp hq)
    exact List.mem_reverse.mp this) (by
    have := congrArg List.length e
    rw [List.length_reverse, List.length_append] at this
    rw [List.length_reverse]
    omega)
  rw [hr]
  refine ⟨hv.ev_sq p, ?_⟩
  obtain ⟨D, M, h1, h2, h3, h4⟩ := hv.bd p
  obtain ⟨d, A, p1, p2, p3, p4⟩ := p
  refine (h1.mul p1).sq (Nat.mul_pos h2 p2) ?_ ?_
  · exact Nat.lt_trans (Nat.mul_lt_mul'' h3 p3) (by rw [← Nat.pow_add]; exact Nat.pow_lt_pow_right (by decide) (by decide))
  · exact Nat.lt_trans (Nat.mul_lt_mul'' h4 p4) (by rw [← Nat.pow_add]; exact Nat.pow_lt_pow_right (by decide) (by decide))
theorem isF_fr (q : Rat) : isF (fr q) = true := by
  have e := eqv_fr (Rat.divInt q.num q.den) q
  have e2 : Rat.divInt q.num q.den = q := by first | exact Rat.num_divInt_den q | exact Rat.divInt_self q | simp
  rw [e2] at e
  have h := q.den_pos
  show (decide (0 < (q.den : Int)) && PyData.eqv (fr (Rat.divInt q.num q.den)) (fr q)) = true
  rw [e2, e]
  simp
  omega
theorem isP_po {l : List Rat} (h : Tr l) : isP (po l) = true := by
  show ((fl l).all isF && ((fl l).isEmpty || !PyData.eqv ((fl l).getLast?.getD .none) (fr 0))) = true
  rw [Bool.and_eq_true]
  refine ⟨?_, ?_⟩
  · rw [List.all_eq_true]
    intro d hd
    obtain ⟨q, _, rfl⟩ := List.mem_map.mp hd
    exact isF_fr q
  · rcases List.eq_nil_or_concat l with rfl | ⟨k, c, e⟩
    · rfl
    · rw [List.concat_eq_append] at e
      subst e
      rw [fl_append]
      have h : (k ++ [c]).getLast? ≠ some 0 := h
      rw [List.getLast?_append] at h
      have hc : c ≠ 0 := fun e => h (by rw [e]; rfl)
      have e1 : (fl k ++ fl [c]).getLast? = some (fr c) := by
        rw [List.getLast?_append]
        rfl
      rw [e1]
      show (_ || !PyData.eqv (fr c) (fr 0)) = true
      rw [eqv_fr, decide_eq_false hc]
      simp
theorem AskP.po {l : List Rat} (h : Vo l) : AskP (po l) := AskP.tup (fun x hx => by
  obtain ⟨q, hq, rfl⟩ := List.mem_map.mp hx
  exact .fr (h.sz q hq)) (by rw [fl_len]; have := h.len; omega)
end K07

/-! M31 -/
set_option Elab.async false
set_option linter.all false
set_option maxRecDepth 100000
set_option maxHeartbeats 4000000
set_option exponentiation.threshold 100000
namespace Pv
open PySem
theorem Bdl.addl {D M D' M' : Nat} {l m : List Rat} (h : Bdl D M l) (h' : Bdl D' M' m) : Bdl (D * D') (M * D' + M' * D) (addl l m) := by
  intro q hq
  unfold Pv.addl at hq
  obtain ⟨k, _, rfl⟩ := List.mem_map.mp hq
  have a := (h.get k).scale D'
  have b := (h'.get k).scale D
  rw [Nat.mul_comm D' D] at b
  exact a.add b
theorem Bdl.scaled {D M d A : Nat} {l : List Rat} {c : Rat} (h : Bdl D M l) (hc : Bd d A c) : Bdl (D * d) (M * A) (l.map (· * c)) := by
  intro q hq
  obtain ⟨x, hx, rfl⟩ := List.mem_map.mp hq
  exact (h x hx).mul hc
theorem Bdl.ledl {D M d A : Nat} {c : Rat} (hc : Bd d A c) : ∀ {l : List Rat} {p : Rat} {dp Mp : Nat}, Bd dp Mp p → Bdl D M l → Bdl (D * dp * d ^ l.length) (M * Mp * (A + d) ^ l.length) (ledl c p l)
  | [], p, dp, Mp, _, _ => by
    intro q hq
    cases hq
  | x :: xs, p, dp, Mp, hp, h => by
    have ih := Bdl.ledl hc (l := xs) (hp.mul hc) fun q hq => h q (List.mem_cons_of_mem _ hq)
    intro q hq
    unfold Pv.ledl at hq
    have e1 : D * (dp * d) * d ^ xs.length = D * dp * d ^ (xs.length + 1) := by
      rw [Nat.pow_succ, Nat.mul_assoc, Nat.mul_assoc, Nat.mul_assoc, Nat.mul_comm d]
    rw [e1] at ih
    rcases List.mem_cons.mp hq with rfl | hq
    · have e := ((h x List.mem_cons_self).mul hp).scale (d ^ (xs.length + 1))
      exact e.mono (Nat.mul_le_mul_left _ (Nat.pow_le_pow_left (Nat.le_add_left _ _) _))
    · refine (ih q hq).mono ?_
      rw [List.length_cons, Nat.pow_succ, Nat.mul_comm ((A + d) ^ xs.length) (A + d), ← Nat.mul_assoc (M * Mp) (A + d)]
      refine Nat.mul_le_mul_right _ ?_
      rw [← Nat.mul_assoc M Mp A]
      exact Nat.mul_le_mul_left _ (Nat.le_add_right _ _)
theorem eq_same {d : PyData} (h : Shp 64 d) : eqOp d d = some true := by rw [eqOp_of h h, eqv_refl d h.1]
theorem eq_nilL : eqOp (.list []) (.list []) = some true := eq_same (.mono (.list (n := 0) (.nil _)) (by decide))
theorem shp_po (l : List Rat) : Shp 64 (po l) := .mono (.tuple (.fl l)) (by decide)
theorem eq_poNil (l : List Rat) : eqOp (po l) (.tuple []) = some l.isEmpty := by
  rw [eqOp_of (shp_po l) (.mono (.tuple (.nil 0)) (by decide))]
  cases l <;> simp [po, fl, PyData.eqv, PyData.eqvAll]
@[simp] theorem cmp_isnot_b (b c : Bool) : cmpop .IsNot (.bool b) (.bool c) = some (!(b == c)) := (rfl)
theorem lfreeAll_fl : ∀ l : List Rat, lfreeAll (fl l) = true
  | [] => rfl
  | x :: xs => by
    show (lfree (fr x) && lfreeAll (fl xs)) = true
    rw [lfreeAll_fl xs]
    rfl
theorem tr_split {l : List Rat} (h : Tr l) (h0 : l ≠ []) : ∃ k c, l = k ++ [c] ∧ c ≠ 0 := by
  rcases List.eq_nil_or_concat l with e | ⟨k, c, e⟩
  · exact absurd e h0
  · rw [List.concat_eq_append] at e
    subst e
    refine ⟨k, c, rfl, fun e => h ?_⟩
    rw [e, List.getLast?_append]
    rfl
end Pv
namespace K07
open PySem Pv
theorem bdl_slope {D M : Nat} {l : List Rat} (h : Bdl D M l) (hl : l.length ≤ 20) : Bdl D (M * 20) (slope l) := by
  intro q hq
  unfold K07.slope at hq
  obtain ⟨p, hp, rfl⟩ := List.mem_map.mp (List.mem_of_mem_tail hq)
  have hk : p.2 < l.length := List.snd_lt_of_mem_zipIdx hp
  have e := (h p.1 (List.fst_mem_of_mem_zipIdx hp)).mul (Bd.int (p.2 : Int))
  rw [Nat.mul_one, Int.natAbs_natCast, Rat.intCast_natCast] at e
  exact e.mono (Nat.mul_le_mul_left _ (by omega))
/-- what the law has drawn -/
structure Dt (l m : List Rat) (c : Rat) : Prop where
  tl : Tr l
  tm : Tr m
  ll : l.length ≤ 7
  lm : m.length ≤ 5
  bl : Bdl 36 3000 l
  bm : Bdl 6 24 m
  bc : Bd 6 24 c
section
variable {l m : List Rat} {c : Rat} {S : SS}
theorem lt1000 {n : Nat} (h : n < 2 ^ 900) : n < 2 ^ 1000 := up h (by decide)
theorem Dt.vl (h : Dt l m c) : Vo l := ⟨_, _, h.bl, by decide, lt1000 (by decide), lt1000 (by decide), by have := h.ll; omega⟩
theorem Dt.vm (h : Dt l m c) : Vo m := ⟨_, _, h.bm, by decide, lt1000 (by decide), lt1000 (by decide), by have := h.lm; omega⟩
theorem Dt.pc (h : Dt l m c) : Pt c := ⟨_, _, h.bc, by decide, by decide, by decide⟩
theorem Dt.vadd (h : Dt l m c) : Vo (addl l m) := ⟨_, _, h.bl.addl h.bm, by decide, lt1000 (by decide), lt1000 (by decide), by
  have := h.ll
  have := h.lm
  unfold addl
  simp
  omega⟩
theorem bd_m1 : Bd 1 1 (-1) := by
  have h := Bd.int (-1)
  exact h
theorem Dt.bneg (h : Dt l m c) : Bdl 6 24 (m.map (· * -1)) := by
  have e := h.bm.scaled bd_m1
  exact e
theorem Dt.vneg (h : Dt l m c) : Vo (m.map (· * -1)) := ⟨_, _, h.bneg, by decide, lt1000 (by decide), lt1000 (by decide), by have := h.lm; rw [List.length_map]; omega⟩
theorem Dt.vless (h : Dt l m c) : Vo (addl l (trim (m.map (· * -1)))) := ⟨_, _, h.bl.addl h.bneg.trim, by decide, lt1000 (by decide), lt1000 (by decide), by
  have := h.ll
  have := h.lm
  have := trim_len (m.map (· * -1))
  rw [List.length_map] at this
  unfold addl
  simp
  omega⟩
theorem Dt.vscaled (h : Dt l m c) : Vo (l.map (· * c)) := ⟨_, _, h.bl.scaled h.bc, by decide, lt1000 (by decide), lt1000 (by decide), by have := h.ll; rw [List.length_map]; omega⟩
theorem p7 {d k : Nat} (h : k ≤ 7) (hd : 0 < d) : d ^ k ≤ d ^ 7 := Nat.pow_le_pow_right hd h
theorem Dt.vled (h : Dt l m c) : Vo (ledl c 1 l) := by
  have e := Bdl.ledl h.bc (l := l) (p := 1) (dp := 1) (Mp := 1) (Bd.int 1) h.bl
  refine ⟨_, _, e, Nat.mul_pos (by decide) (Nat.pow_pos (by decide)), lt1000 ?_, lt1000 ?_, by have := h.ll; rw [ledl_len]; omega⟩
  · exact Nat.lt_of_le_of_lt (Nat.mul_le_mul_left _ (p7 h.ll (by decide))) (by decide)
  · exact Nat.lt_of_le_of_lt (Nat.mul_le_mul_left _ (p7 h.ll (by decide))) (by decide)
theorem Dt.vslope (h : Dt l m c) : Vo (slope l) := ⟨_, _, bdl_slope h.bl (by have := h.ll; omega), by decide, lt1000 (by decide), lt1000 (by decide), by
  have := h.ll
  unfold slope
  simp
  omega⟩
theorem Dt.times (h : Dt l m c) : ∃ P : List Rat, sem_polynomials_times [.val (po l), .val (po m)] S = .ok (.val (po P)) S ∧ Tr P ∧ Vo P ∧ ∀ a, ev a P = ev a l * ev a m := by
  have h1 := h.ll
  have h2 := h.lm
  obtain ⟨P, e, t, b, n, v⟩ := s_ptimes (S := S) h.bl h.bm (by decide) (by decide) (up (show 36 * 6 < 2 ^ 900 by decide) (by decide)) (by
    exact Nat.lt_of_le_of_lt (m := 8 * (3000 * 24)) (Nat.mul_le_mul_right _ (by omega)) (up (show 8 * (3000 * 24) < 2 ^ 900 by decide) (by decide))) (up (show 3000 < 2 ^ 900 by decide) (by decide)) (up (show 24 < 2 ^ 900 by decide) (by decide)) (by omega) (by omega)
  exact ⟨P, e, t, ⟨_, _, b, by decide, lt1000 (by decide), lt1000 (Nat.lt_of_le_of_lt (Nat.mul_le_mul_right _ h1) (by decide)), by omega⟩, v⟩
theorem Dt.parts (h : Dt l m c) (h0 : m ≠ []) : ∃ q r : List Rat, sem_polynomial_parted [.val (po l), .val (po m)] S = .ok (.val (.tuple [po q, po r])) S ∧ Tr q ∧ Tr r ∧ Vo q ∧ Vo r ∧ r.length < m.length ∧ ∀ a, ev a l = ev a q * ev a m + ev a r := by
  have h1 := h.ll
  have h2 := h.lm
  obtain ⟨kk, d, em, hd⟩ := tr_split h.tm h0
  have hx : l.length + 1 - m.length ≤ 7 := by
    have : 0 < m.length := by rw [em]; simp
    omega
  have k1 : (6 * 24) ^ (l.length + 1 - m.length) ≤ (6 * 24) ^ 7 := p7 hx (by decide)
  have k2 : (2 * 6 * 24) ^ (l.length + 1 - m.length) ≤ (2 * 6 * 24) ^ 7 := p7 hx (by decide)
  obtain ⟨E, q, r, e0, e1, e, tq, tr, lr, lq, bq, br, v⟩ := s_parted (S := S) h.bl h.bm (by decide) (by decide) em hd (by omega) (by omega)
    (up (Nat.lt_of_le_of_lt (Nat.mul_le_mul_right _ (Nat.mul_le_mul_right _ (Nat.mul_le_mul_left _ k1))) (show 36 * (6 * 24) ^ 7 * 24 * 6 < 2 ^ 900 by decide)) (by decide))
    (up (Nat.lt_of_le_of_lt (Nat.mul_le_mul_right _ (Nat.mul_le_mul_right _ (Nat.mul_le_mul_left _ k2))) (show 3000 * (2 * 6 * 24) ^ 7 * 6 * 24 < 2 ^ 900 by decide)) (by decide)) (by decide)
  have k3 : (6 * E) ^ (l.length + 1 - m.length) ≤ (6 * 24) ^ 7 := Nat.le_trans (Nat.pow_le_pow_left (Nat.mul_le_mul_left _ e1) _) k1
  have k4 : 0 < (6 * E) ^ (l.length + 1 - m.length) := Nat.pow_pos (by omega)
  refine ⟨q, r, e, tq, tr, ⟨_, _, bq, Nat.mul_pos (Nat.mul_pos (by decide) k4) e0, lt1000 ?_, lt1000 ?_, by omega⟩, ⟨_, _, br, Nat.mul_pos (by decide) k4, lt1000 ?_, lt1000 ?_, by omega⟩, lr, v⟩
  · exact Nat.lt_of_le_of_lt (Nat.mul_le_mul (Nat.mul_le_mul_left _ k3) e1) (show 36 * (6 * 24) ^ 7 * 24 < 2 ^ 900 by decide)
  · exact Nat.lt_of_le_of_lt (Nat.mul_le_mul_right _ (Nat.mul_le_mul_left _ k2)) (show 3000 * (2 * 6 * 24) ^ 7 * 6 < 2 ^ 900 by decide)
  · exact Nat.lt_of_le_of_lt (Nat.mul_le_mul_left _ k3) (show 36 * (6 * 24) ^ 7 < 2 ^ 900 by decide)
  · exact Nat.lt_of_le_of_lt (Nat.mul_le_mul_left _ k2) (show 3000 * (2 * 6 * 24) ^ 7 < 2 ^ 900 by decide)
end
end K07

/-! N1 -/
set_option Elab.async false
set_option linter.all false
set_option maxRecDepth 100000
set_option maxHeartbeats 4000000
set_option exponentiation.threshold 100000
namespace K38
open PySem Pv K07
theorem l_low {t b : Int} {S : SS} (hb : b ≠ 0) (h : b.natAbs < 2 ^ 9000) (ht : t.natAbs < 2 ^ 9000) : sem__law_low [.val (.int t), .val (.int b)] S = .ok (.val (fr (Rat.divInt t b))) S := by
  have g := gcd_small (t := t) hb h
  have g0 : 0 < Int.gcd t b := Int.gcd_pos_of_ne_zero_right _ hb
  have w := whl_gcd (test := fun ρ => evT g__law_low (.cmp .Gt (.var 4) (.lit (.int 0))) ρ []) (body := fun ρ => exSs g__law_low (.cons (.par 3 4 true true (.var 4) (.bin .Mod (.blt .int (.cons (.var 3) .nil)) (.var 4)) []) .nil) ρ)
    (mk := fun a b' => [some (.val (.int t)), some (.val (.int b)), none, some (.val (.int a)), some (.val (.int b'))]) (S := S) (fun a b' => by simp) (fun a b' hb' => by
      have h1 : b' ≠ 0 := by omega
      have h2 : (a : Int).fmod (b' : Int) = ((a % b' : Nat) : Int) := by rw [Int.fmod_eq_emod_of_nonneg _ (by omega)]; rfl
      simp [h1, h2]) 9000 b.natAbs t.natAbs fuel ht (by decide)
  rw [← exS_whl] at w
  unfold fr
  rw [← low_num hb, ← low_den hb]
  have eg : Nat.gcd b.natAbs t.natAbs = Int.gcd t b := Nat.gcd_comm ..
  rw [eg] at w
  have d1 : ∀ i : Int, divOk i (Int.gcd t b : Int) = true := fun i => divOk_of (by omega) (by simpa using g)
  have mt : ∀ i : Int, i.natAbs ≤ 1 → mulOk i t = true := fun i hi => mulOk_of (Nat.lt_of_le_of_lt hi (Nat.one_lt_pow (by decide) (by decide))) (Nat.lt_trans ht (Nat.pow_lt_pow_right (by decide) (by decide)))
  have mb : ∀ i : Int, i.natAbs ≤ 1 → mulOk i b = true := fun i hi => mulOk_of (Nat.lt_of_le_of_lt hi (Nat.one_lt_pow (by decide) (by decide))) (Nat.lt_trans h (Nat.pow_lt_pow_right (by decide) (by decide)))
  have m1 := mt 1 (by decide)
  have m2 := mt (-1) (by decide)
  have m3 := mb 1 (by decide)
  have m4 := mb (-1) (by decide)
  by_cases h0 : 0 < b
  · simp [sem__law_low, ir__law_low, h0, d1, line, w, m1, m3]
  · have e : ∀ i : Int, (-i).fdiv (Int.gcd t b : Int) = i.fdiv (-(Int.gcd t b : Int)) := fun i => by
      have := Int.neg_fdiv_neg i (-(Int.gcd t b : Int))
      rwa [Int.neg_neg] at this
    simp [sem__law_low, ir__law_low, h0, d1, line, w, m2, m4, e]
section
variable {x y : Rat} {S : SS} {l m : List Rat}
theorem up9 {n : Nat} (h : n < 2 ^ 8001) : n < 2 ^ 9000 := up h (by decide)
theorem sq_pr {i j : Int} (hi : i.natAbs < 2 ^ 4000) (hj : j.natAbs < 2 ^ 4000) : (i * j).natAbs < 2 ^ 8000 := by
  rw [Int.natAbs_mul]
  exact Nat.lt_of_lt_of_le (Nat.mul_lt_mul'' hi hj) (by rw [← Nat.pow_add]; exact Nat.le_refl _)
theorem l_times (hx : Sq x) (hy : Sq y) : sem__law_times [.val (fr x), .val (fr y)] S = .ok (.val (fr (x * y))) S := by
  obtain ⟨b1, b2⟩ := sq_bot hx hy
  have m1 := sq_mul (i := x.num) (j := y.num) hx.1 hy.1
  have m3 := sq_mul (i := x.den) (j := y.den) (by simpa using hx.2) (by simpa using hy.2)
  have e := l_low (S := S) (t := x.num * y.num) b1 b2 (up9 (up (sq_pr hx.1 hy.1) (by decide)))
  rw [mul_divInt] at e
  unfold fr at e ⊢
  simp [sem__law_times, ir__law_times, m1, m3, e]
theorem l_over (hx : Sq x) (hy : Sq y) (h0 : y ≠ 0) : sem__law_over [.val (fr x), .val (fr y)] S = .ok (.val (fr (x / y))) S := by
  have hn : y.num ≠ 0 := by rw [Ne, Rat.num_eq_zero]; exact h0
  have m1 := sq_mul (i := x.num) (j := y.den) hx.1 (by simpa using hy.2)
  have m3 := sq_mul (i := x.den) (j := y.num) (by simpa using hx.2) hy.1
  have e := l_low (S := S) (t := x.num * y.den) (b := (x.den : Int) * y.num) (Int.mul_ne_zero (by have := x.den_pos; omega) hn) (up9 (up (sq_pr (by simpa using hx.2) hy.1) (by decide))) (up9 (up (sq_pr hx.1 (by simpa using hy.2)) (by decide)))
  rw [over_divInt h0] at e
  unfold fr at e ⊢
  simp [sem__law_over, ir__law_over, m1, m3, e]
theorem l_sum (hx : Sq x) (hy : Sq y) : sem__law_sum [.val (fr x), .val (fr y), .val (.int 1)] S = .ok (.val (fr (x + y))) S := by
  obtain ⟨b1, b2⟩ := sq_bot hx hy
  have m1 := sq_mul (i := x.num) (j := y.den) hx.1 (by simpa using hy.2)
  have m2 := sq_mul (i := y.num) (j := x.den) hy.1 (by simpa using hx.2)
  have m3 := sq_mul (i := x.den) (j := y.den) (by simpa using hx.2) (by simpa using hy.2)
  have m4 := sq_mul (i := 1) (j := y.num) (Nat.one_lt_pow (by decide) (by decide)) hy.1
  have e := l_low (S := S) (t := x.num * y.den + y.num * x.den) b1 b2 (up9 (by
    have h1 := sq_pr hx.1 (j := (y.den : Int)) (by simpa using hy.2)
    have h2 := sq_pr hy.1 (j := (x.den : Int)) (by simpa using hx.2)
    rw [show (8001 : Nat) = 8000 + 1 from rfl, Nat.pow_succ]
    omega))
  rw [add_divInt] at e
  unfold fr at e ⊢
  simp [sem__law_sum, ir__law_sum, m1, m2, m3, m4, e]
theorem cut_loop (v0 : R) (hl : l.length < 16000000) : exS g__law_cut (.whl (.andv (.cmp .NotEq (.var 1) (.lst .nil)) (.cmp .Eq (.idx (.idxO 1 (.neg (.lit (.int (1))))) (.lit (.int (0)))) (.lit (.int (0))))) (.cons (.pop 1) .nil) [1]) [some v0, some (.own (fl l))] S =
    .ok (.nx [some v0, some (.own (fl (trim l)))]) S := by
  rw [exS_whl]
  refine whl_trim (mk := fun l => [some v0, some (.own (fl l))]) ?_ (fun m c => ?_) (fun m c => ?_) fuel l (by unfold fuel; omega)
  · simp [frz, frzSlot, fl, eqOp_of (Shp.list (n := 63) (.nil _)) (Shp.list (n := 63) (.nil _)), PyData.eqv, PyData.eqvAll, line]
  · have e1 := eqOp_of (x := .list (fl (m ++ [c]))) (y := .list []) (.mono (.list (.fl _)) (by decide)) (.mono (.list (.nil 0)) (by decide))
    have e3 : PyData.eqv (.list (fl (m ++ [c]))) (.list []) = false := by
      rw [fl_append]
      simp only [PyData.eqv]
      cases fl m <;> simp [fl, PyData.eqvAll]
    rw [e3] at e1
    have e4 := at_last (fl m) (fr c)
    have e5 : eqOp (.int c.num) (.int 0) = some (decide (c.num = 0)) := rfl
    have e6 : decide (c = 0) = decide (c.num = 0) := by rw [decide_eq_decide, Rat.num_eq_zero]
    rw [fl_append] at e1 ⊢
    have hfc : fl [c] = [fr c] := rfl
    rw [hfc] at e1 ⊢
    rw [e6]
    simp [frz, frzSlot, e1, e4, e5, line]
  · have e5 : fl (m ++ [c]) = fl m ++ [fr c] := fl_append m [c]
    simp [e5]
theorem l_cutL (hl : l.length < 16000000) : sem__law_cut [.val (.list (fl l))] S = .ok (.val (po (trim l))) S := by
  have w := cut_loop (S := S) (.val (.list (fl l))) hl
  simp [sem__law_cut, ir__law_cut, w, frz, frzSlot, po]
end
end K38

/-! N2 -/
set_option Elab.async false
set_option linter.all false
set_option maxRecDepth 100000
set_option maxHeartbeats 4000000
set_option exponentiation.threshold 100000
namespace Pv
open PySem
def pad (n : Nat) (l : List Rat) : List Rat := l ++ List.replicate (n - l.length) 0
theorem pad_len {n : Nat} {l : List Rat} (h : l.length ≤ n) : (pad n l).length = n := by
  unfold pad
  rw [List.length_append, List.length_replicate]
  omega
theorem pad_get (n : Nat) (l : List Rat) (k : Nat) : (pad n l)[k]?.getD 0 = l[k]?.getD 0 := by
  unfold pad
  rw [List.getElem?_append]
  split
  · rfl
  · rw [List.getElem?_replicate]
    rename_i h
    rw [List.getElem?_eq_none (Nat.le_of_not_lt h)]
    split <;> rfl
theorem zip_pad (l m : List Rat) : ((pad (max l.length m.length) l).zip (pad (max l.length m.length) m)).map (fun p => p.1 + p.2) = addl l m := by
  have h1 := pad_len (n := max l.length m.length) (l := l) (Nat.le_max_left ..)
  have h2 := pad_len (n := max l.length m.length) (l := m) (Nat.le_max_right ..)
  have g1 := pad_get (max l.length m.length) l
  have g2 := pad_get (max l.length m.length) m
  generalize pad (max l.length m.length) l = A at h1 g1
  generalize pad (max l.length m.length) m = B at h2 g2
  unfold addl
  apply List.ext_getElem?
  intro k
  rw [List.getElem?_map, List.getElem?_map]
  by_cases hk : k < max l.length m.length
  · rw [List.getElem?_range hk]
    have a1 : A[k]? = some A[k] := List.getElem?_eq_getElem (by omega)
    have a2 : B[k]? = some B[k] := List.getElem?_eq_getElem (by omega)
    show _ = some (l[k]?.getD 0 + m[k]?.getD 0)
    have a3 : (A.zip B)[k]? = some (A[k], B[k]) := List.getElem?_zip_eq_some.mpr ⟨a1, a2⟩
    rw [← g1 k, ← g2 k, a1, a2, a3]
    rfl
  · rw [List.getElem?_eq_none (by rw [List.length_zip]; omega), List.getElem?_eq_none (by rw [List.length_range]; omega)]
    rfl
theorem zipD_fl (A B : List Rat) : zipD (.list (fl A)) (.list (fl B)) = some ((A.zip B).map fun p => .tuple [fr p.1, fr p.2]) := by
  show some (List.zipWith _ (fl A) (fl B)) = _
  congr 1
  unfold fl
  rw [List.zipWith_map, ← List.map_uncurry_zip_eq_zipWith]
  rfl
theorem zipSD_fl {A B : List Rat} (h : A.length = B.length) : zipSD (.list (fl A)) (.list (fl B)) = some ((A.zip B).map fun p => .tuple [fr p.1, fr p.2]) := by
  show (if _ then some (List.zipWith _ (fl A) (fl B)) else none) = _
  rw [if_pos (by rw [fl_len, fl_len]; exact h)]
  exact zipD_fl A B
/-- rows of fractions -/
def ml (M : List (List Rat)) : List PyData := M.map fun r => .list (fl r)
theorem ml_len (M : List (List Rat)) : (ml M).length = M.length := List.length_map ..
theorem enum_ml : ∀ (M : List (List Rat)) (n : Nat), enumAt n (ml M) = (M.zipIdx n).map fun p => .tuple [.int ((p.2 : Nat) : Int), .list (fl p.1)]
  | [], _ => rfl
  | r :: M, n => by
    show _ :: enumAt (n + 1) (ml M) = _
    rw [enum_ml M (n + 1), List.zipIdx_cons, List.map_cons]
theorem at_ml {M : List (List Rat)} {k : Nat} {r : List Rat} (h : M[k]? = some r) : L2.atI (ml M) (k : Int) = some (.list (fl r)) := by
  have hl : k < M.length := by
    by_cases hl : k < M.length
    · exact hl
    · rw [List.getElem?_eq_none (Nat.le_of_not_lt hl)] at h
      cases h
  rw [at_nat _ _ (by rw [ml_len]; exact hl)]
  rw [List.getElem?_eq_getElem hl] at h
  cases h
  unfold ml
  simp
theorem ml_set (M : List (List Rat)) (k : Nat) (r : List Rat) : (ml M).set k (.list (fl r)) = ml (M.set k r) := by
  unfold ml
  rw [List.map_set]
theorem rng_2 {lo n : Nat} (h : lo ≤ 1000) (h2 : n ≤ 1000) : rng [.int (lo : Int), .int (n : Int)] = some ((List.range (n - lo)).map fun i => .int ((lo + i : Nat) : Int)) := by
  have e : ((n : Int) - (lo : Int)).toNat = n - lo := by omega
  simp only [rng, small_nat h, small_nat h2, Bool.and_self, if_true, e, Int.natCast_add]
theorem eqv_frn (p q : Rat) : eqOp (fr p) (fr q) = some (decide (p = q)) := by
  rw [eqOp_of (.mono (.fr (n := 0) p) (by decide)) (.mono (.fr (n := 0) q) (by decide)), eqv_fr]
end Pv
namespace K38
open PySem Pv K07
section
variable {S : SS} {l m r s P X : List Rat} {b : Rat}
theorem l_both (hl : Sql l) (hm : Sql m) (h1 : l.length ≤ 900) (h2 : m.length ≤ 900) : sem__law_both [.val (po l), .val (po m), .val (.int 1)] S = .ok (.val (po (trim (addl l m)))) S := by
  have hmax : (if (m.length : Int) > (l.length : Int) then (m.length : Int) else (l.length : Int)) = ((max l.length m.length : Nat) : Int) := by split <;> omega
  have hn : max l.length m.length ≤ 900 := by omega
  have c1 := comp_ok (Γ := g__law_both) (vs := [5]) (tg := .one 5) (it := .it (.tup (.cons (.var 0) (.cons (.var 1) .nil)))) (cs := .nil) (e := .bin .Add (.blt .list (.cons (.var 5) .nil)) (.bin .Mult (.lst (.cons (.tup (.cons (.lit (.int (0))) (.cons (.lit (.int (1))) .nil))) .nil)) (.bin .Sub (.var 3) (.blt .len (.cons (.var 5) .nil)))))
    (ρ := [some (.val (po l)), some (.val (po m)), some (.val (.int 1)), some (.val (.int ((max l.length m.length : Nat) : Int))), none, none, none, none]) (S := S) (xs := [l, m]) (f := fun q => .list (fl (pad (max l.length m.length) q))) (h := po) (by simp [line]) (by show 2 ≤ 16000000; decide) (fun q hq => by
    have hq2 : q.length ≤ max l.length m.length := by
      simp only [List.mem_cons, List.not_mem_nil, or_false] at hq
      rcases hq with rfl | rfl <;> omega
    have el : blt .list [po q] = some (.own (fl q)) := rfl
    have e1 : ((max l.length m.length : Nat) : Int) - (q.length : Int) = ((max l.length m.length - q.length : Nat) : Int) := by omega
    have e2 := rep_own (fr 0) (k := max l.length m.length - q.length) (by omega)
    rw [← fl_zeros] at e2
    have e2 : binop .Mult (.list [.tuple [.int 0, .int 1]]) (.int ((max l.length m.length - q.length : Nat) : Int)) = some (.own (fl (List.replicate (max l.length m.length - q.length) 0))) := e2
    have e3 : binop .Add (.list (fl q)) (.list (fl (List.replicate (max l.length m.length - q.length) 0))) = some (.own (fl (pad (max l.length m.length) q))) := by
      rw [bin_addL, if_pos (by rw [fl_len, fl_len, List.length_replicate]; show _ ≤ 16000000; omega), ← fl_append]
      rfl
    unfold cbody
    refine noexc_ok ?_
    simp only [bindTg, clr, List.foldr_cons, List.foldr_nil, setV_s, List.set, mbind_eq, M.of_some, ok_bind, evC_nil, mpure_eq, if_true, asD_s, evE_bin, evE_blt, evDs_cons, evDs_nil, evE_var, getV_succ, getV_zero, R.d_val, el, R.d_own, evE_lst, evE_tup, evE_lit, List.length_cons, List.length_nil, len_po, bin_sub]
    simp [line, len_po, e1, e2, e3])
  have c2 := comp_ok (Γ := g__law_both) (vs := [6, 7]) (tg := .many [6, 7]) (it := .zip (.idx (.var 4) (.lit (.int (0)))) (.idx (.var 4) (.lit (.int (1))))) (cs := .nil) (e := .call 1 (.cons (.var 6) (.cons (.var 7) (.cons (.var 2) .nil))))
    (ρ := [some (.val (po l)), some (.val (po m)), some (.val (.int 1)), some (.val (.int ((max l.length m.length : Nat) : Int))), some (.val (.list [.list (fl (pad (max l.length m.length) l)), .list (fl (pad (max l.length m.length) m))])), none, none, none]) (S := S) (xs := (pad (max l.length m.length) l).zip (pad (max l.length m.length) m)) (f := fun p => fr (p.1 + p.2)) (h := fun p => .tuple [fr p.1, fr p.2])
    (by simp [zipD_fl]) (by rw [List.length_zip, pad_len (Nat.le_max_left ..)]; show _ ≤ 16000000; omega) (fun p hp => by
      have mem : ∀ {q : List Rat} {z : Rat}, Sql q → z ∈ pad (max l.length m.length) q → Sq z := fun {q z} hq hz => by
        unfold pad at hz
        rcases List.mem_append.mp hz with hz | hz
        · exact hq z hz
        · rw [(List.mem_replicate.mp hz).2]; exact Sq.zero
      obtain ⟨p1, p2⟩ := p
      have e := l_sum (S := S) (mem hl (List.of_mem_zip hp).1) (mem hm (List.of_mem_zip hp).2)
      unfold cbody
      refine noexc_ok ?_
      simp [bindTg, bindMany, clr, e])
  rw [fl_map, zip_pad] at c2
  have ec := l_cutL (S := S) (l := addl l m) (by unfold addl; rw [List.length_map, List.length_range]; omega)
  simp only [List.map_cons, List.map_nil] at c1
  simp [sem__law_both, ir__law_both, len_po, hmax, c1, c2, ec]
theorem l_rest_short (h : l.length < m.length) (h1 : m.length ≤ 900) : sem__law_rest [.val (po l), .val (po m)] S = .ok (.val (po (trim l))) S := by
  have h0 : l.length + 1 - m.length = 0 := by omega
  have er : rng [.int ((l.length + 1 - m.length : Nat) : Int)] = some [] := by rw [h0, rng_1 (by decide)]; rfl
  have el : blt .list [po l] = some (.own (fl l)) := rfl
  have ec := l_cutL (S := S) (l := l) (by omega)
  simp [sem__law_rest, ir__law_rest, len_po, el, exS_for, er, forLoop, frz, frzSlot, ec]
theorem s_row_less (hr : Sql r) (hs : Sql s) (hb : Sq b) (hp : ∀ y ∈ s, Sq (y * b)) (hl : r.length = s.length) (h9 : s.length ≤ 900) :
    sem_row_less [.val (.list (fl r)), .val (.list (fl s)), .val (fr b)] S = .ok (.own (fl ((r.zip s).map fun p => p.1 - p.2 * b))) S := by
  have c := comp_ok (Γ := g_row_less) (vs := [3, 4]) (tg := .many [3, 4]) (it := .zipS (.var 0) (.var 1)) (cs := .nil) (e := .call 0 (.cons (.var 3) (.cons (.call 1 (.cons (.var 4) (.cons (.var 2) .nil))) .nil)))
    (ρ := [some (.val (.list (fl r))), some (.val (.list (fl s))), some (.val (fr b)), none, none]) (S := S) (xs := r.zip s) (f := fun p => fr (p.1 - p.2 * b)) (h := fun p => .tuple [fr p.1, fr p.2]) (by simp [zipSD_fl hl]) (by rw [List.length_zip]; show _ ≤ 16000000; omega) (fun p hp' => by
      obtain ⟨p1, p2⟩ := p
      have m1 := (List.of_mem_zip hp').1
      have m2 := (List.of_mem_zip hp').2
      have e1 := s_times (S := S) (hs p2 m2) hb
      have e2 := s_less (S := S) (hr p1 m1) (hp p2 m2)
      unfold cbody
      refine noexc_ok ?_
      simp [bindTg, bindMany, clr, e1, e2])
  rw [fl_map] at c
  simp [sem_row_less, ir_row_less, c]
end
end K38

/-! N3 -/
set_option Elab.async false
set_option linter.all false
set_option maxRecDepth 100000
set_option maxHeartbeats 4000000
set_option exponentiation.threshold 100000
namespace K38
open PySem Pv K07
def iS_1 : Pv.S := (.par 5 6 true true (.call 0 (.cons (.var 0) .nil)) (.bin .Sub (.blt .len (.cons (.var 0) .nil)) (.lit (.int (1)))) [])
def iS_2 : Pv.S := (.asg 2 true (.blt .len (.cons (.var 5) .nil)) [])
def iS_3 : Pv.S := (.asg 3 false (.comp [4] (.one 4) (.rng (.cons (.var 6) .nil)) .nil (.comp [8] (.one 8) (.it (.lstS (.var 5) (.cons (.var 1) .nil))) .nil (.call 1 (.cons (.var 8) (.cons (.var 4) .nil))))) [])
def iS_4b_1 : Pv.S := (.asg 7 true (.idx (.comp [10] (.one 10) (.rng (.cons (.var 4) (.cons (.var 6) .nil))) (.cons (.cmp .NotEq (.idx (.idxO 3 (.var 10)) (.var 4)) (.glob 0)) .nil) (.var 10)) (.lit (.int (0)))) [])
def iS_4b_2 : Pv.S := (.swp 3 (.var 4) 3 (.var 7) (.cons (.idxO 3 (.var 7)) (.cons (.idxO 3 (.var 4)) .nil)) [])
def iS_4b_3 : Pv.S := (.setI 3 (.var 4) (.comp [8] (.one 8) (.it (.idxO 3 (.var 4))) .nil (.call 2 (.cons (.var 8) (.cons (.idx (.idxO 3 (.var 4)) (.var 4)) .nil)))) [])
def iS_4b_4 : Pv.S := (.asg 3 false (.comp [10, 9] (.many [10, 9]) (.enum (.var 3)) .nil (.ite (.cmp .NotEq (.var 10) (.var 4)) (.call 3 (.cons (.var 9) (.cons (.idxO 3 (.var 4)) (.cons (.idx (.var 9) (.var 4)) .nil)))) (.var 9))) [3])
def iS_4b : Ss := (.cons iS_4b_1 (.cons iS_4b_2 (.cons iS_4b_3 (.cons iS_4b_4 .nil))))
def iS_4 : Pv.S := (.for_ (.one 4) (.rng (.cons (.var 2) .nil)) iS_4b [])
def iS_5 : Pv.S := (.ifS (.cmp .NotEq (.comp [9] (.one 9) (.it (.slc (.var 3) (.var 2) (.lit .none) (1))) (.cons (.cmp .NotEq (.idx (.var 9) (.var 2)) (.glob 0)) .nil) (.var 9)) (.lst .nil)) (.cons (.ret (.lit .none) []) .nil) .nil [3])
def iS_6 : Pv.S := (.ret (.blt .tuple (.cons (.comp [9] (.one 9) (.it (.slc (.var 3) (.lit .none) (.var 2) (1))) .nil (.idx (.var 9) (.var 2))) .nil)) [3])
theorem iS_eq : ir_in_squares = (.cons iS_1 (.cons iS_2 (.cons iS_3 (.cons iS_4 (.cons iS_5 (.cons iS_6 .nil)))))) := (rfl)
def ent (M : List (List Rat)) (i k : Nat) : Rat := (M[i]?.getD [])[k]?.getD 0
def cands (M : List (List Rat)) (n k : Nat) : List Nat := ((List.range (n - k)).filter fun i => decide (ent M (k + i) k ≠ 0)).map fun i => k + i
def swpM (M : List (List Rat)) (k j : Nat) : List (List Rat) := (M.set k (M[j]?.getD [])).set j (M[k]?.getD [])
def nrm (M : List (List Rat)) (k : Nat) : List Rat := (M[k]?.getD []).map fun x => x / ent M k k
def redM (M : List (List Rat)) (k : Nat) (p : List Rat) : List (List Rat) := M.zipIdx.map fun q => if q.2 ≠ k then (q.1.zip p).map fun z => z.1 - z.2 * (q.1[k]?.getD 0) else q.1
def stepM (M : List (List Rat)) (k j : Nat) : List (List Rat) := redM ((swpM M k j).set k (nrm (swpM M k j) k)) k (nrm (swpM M k j) k)
structure StepOk (M : List (List Rat)) (n w k j : Nat) : Prop where
  hn : M.length = n
  hw : ∀ r ∈ M, r.length = w
  hk : k < n
  kw : k < w
  n9 : n ≤ 900
  w9 : w ≤ 900
  sq : ∀ r ∈ M, Sql r
  piv : (cands M n k).head? = some j
  sqp : Sql (nrm (swpM M k j) k)
  sqm : ∀ r ∈ swpM M k j, ∀ y ∈ nrm (swpM M k j) k, Sq (y * (r[k]?.getD 0))
section
variable {S : SS} {M : List (List Rat)} {n w k j : Nat}
theorem row_at (h : StepOk M n w k j) {i : Nat} (hi : i < n) : ∃ r, M[i]? = some r ∧ r ∈ M ∧ r.length = w ∧ r[k]? = some (ent M i k) := by
  have h1 : i < M.length := by rw [h.hn]; exact hi
  have e := List.getElem?_eq_getElem h1
  have hm := List.getElem_mem h1
  have hl := h.hw _ hm
  refine ⟨M[i], e, hm, hl, ?_⟩
  unfold ent
  rw [e]
  show M[i][k]? = some (M[i][k]?.getD 0)
  rw [List.getElem?_eq_getElem (by rw [hl]; exact h.kw)]
  rfl
theorem piv_mem (h : StepOk M n w k j) : k ≤ j ∧ j < n ∧ ent M j k ≠ 0 := by
  have hm := List.mem_of_mem_head? h.piv
  unfold cands at hm
  obtain ⟨i, hi, rfl⟩ := List.mem_map.mp hm
  obtain ⟨h1, h2⟩ := List.mem_filter.mp hi
  have h1 := List.mem_range.mp h1
  exact ⟨Nat.le_add_right _ _, by omega, of_decide_eq_true h2⟩
variable (a0 a1 a2 a3 a4 a5 a6 a7 a8 a9 a10 : Option R)
theorem is_1 (h : StepOk M n w k j) : exS g_in_squares iS_4b_1 [a0, a1, a2, some (.own (ml M)), some (.val (.int (k : Int))), a5, some (.val (.int (n : Int))), a7, a8, a9, a10] S = .ok (.nx [a0, a1, a2, some (.own (ml M)), some (.val (.int (k : Int))), a5, some (.val (.int (n : Int))), some (.val (.int (j : Int))), a8, a9, a10]) S := by
  have hk := h.hk
  have n9 := h.n9
  have c := comp_okF (Γ := g_in_squares) (vs := [10]) (tg := .one 10) (it := .rng (.cons (.var 4) (.cons (.var 6) .nil))) (cs := .cons (.cmp .NotEq (.idx (.idxO 3 (.var 10)) (.var 4)) (.glob 0)) .nil) (e := .var 10) (ρ := [a0, a1, a2, some (.own (ml M)), some (.val (.int (k : Int))), a5, some (.val (.int (n : Int))), a7, a8, a9, a10]) (S := S) (xs := List.range (n - k))
    (p := fun i => decide (ent M (k + i) k ≠ 0)) (f := fun i => .int ((k + i : Nat) : Int)) (h := fun i => .int ((k + i : Nat) : Int)) (by simp [rng_2 (lo := k) (n := n) (by omega) (by omega)]) (by rw [List.length_range]; show _ ≤ 16000000; omega) (fun i hi => by
      obtain ⟨r, e1, _, _, e2⟩ := row_at h (i := k + i) (by have := List.mem_range.mp hi; omega)
      generalize k + i = c at e1 e2 ⊢
      have ha1 := at_ml e1
      have ha2 := at_fl e2
      have e3 := eqv_frn (ent M c k) 0
      rw [fr0] at e3
      unfold cbody
      refine noexc_ok ?_
      by_cases hz : ent M c k = 0
      · rw [decide_eq_true hz] at e3
        rw [hz] at e3 ha2
        simp [bindTg, clr, ha1, ha2, e3, hz]
      · rw [decide_eq_false hz] at e3
        simp [bindTg, clr, ha1, ha2, e3, hz])
  have hc : ((List.range (n - k)).filter fun i => decide (ent M (k + i) k ≠ 0)).map (fun i => PyData.int ((k + i : Nat) : Int)) = (cands M n k).map fun i => PyData.int ((i : Nat) : Int) := by
    unfold cands
    rw [List.map_map]
    rfl
  rw [hc] at c
  obtain ⟨t, ht⟩ : ∃ t, cands M n k = j :: t := by
    have hp := h.piv
    cases hq : cands M n k with
    | nil => rw [hq] at hp; cases hp
    | cons x t => rw [hq] at hp; cases hp; exact ⟨t, rfl⟩
  rw [ht] at c
  have a0' : L2.atI (PyData.int (j : Int) :: t.map fun i => PyData.int ((i : Nat) : Int)) 0 = some (.int (j : Int)) := by
    have := at_nat (PyData.int (j : Int) :: t.map fun i => PyData.int ((i : Nat) : Int)) 0 (by simp)
    exact this
  simp only [List.map_cons] at c
  simp [iS_4b_1, c, a0']
theorem getD_of {α : Type} {o : Option α} {x d : α} (h : o = some x) : o.getD d = x := by rw [h]; rfl
theorem is_2 (h : StepOk M n w k j) : exS g_in_squares iS_4b_2 [a0, a1, a2, some (.own (ml M)), some (.val (.int (k : Int))), a5, a6, some (.val (.int (j : Int))), a8, a9, a10] S = .ok (.nx [a0, a1, a2, some (.own (ml (swpM M k j))), some (.val (.int (k : Int))), a5, a6, some (.val (.int (j : Int))), a8, a9, a10]) S := by
  obtain ⟨p1, p2, p3⟩ := piv_mem h
  obtain ⟨rk, e1, _⟩ := row_at h h.hk
  obtain ⟨rj, e2, _⟩ := row_at h p2
  have i1 := ix_1 (n := (ml M).length) (k := k) (by rw [ml_len, h.hn]; exact h.hk)
  have i2 := ix_1 (n := (ml (M.set k rj)).length) (k := j) (by rw [ml_len, List.length_set, h.hn]; exact p2)
  have es : swpM M k j = (M.set k rj).set j rk := by
    unfold swpM
    rw [getD_of e1, getD_of e2]
  rw [es, ← ml_set (M.set k rj) j rk]
  simp [iS_4b_2, at_ml e1, at_ml e2, i1, ml_set, i2]
theorem swp_len (h : StepOk M n w k j) : (swpM M k j).length = n := by
  unfold swpM
  rw [List.length_set, List.length_set, h.hn]
theorem swp_mem (h : StepOk M n w k j) : ∀ r ∈ swpM M k j, r ∈ M := by
  obtain ⟨p1, p2, p3⟩ := piv_mem h
  obtain ⟨rk, e1, m1, _⟩ := row_at h h.hk
  obtain ⟨rj, e2, m2, _⟩ := row_at h p2
  intro r hr
  unfold swpM at hr
  rw [getD_of e1, getD_of e2] at hr
  rcases List.mem_or_eq_of_mem_set hr with hr | rfl
  · rcases List.mem_or_eq_of_mem_set hr with hr | rfl
    · exact hr
    · exact m2
  · exact m1
theorem swp_at (h : StepOk M n w k j) : (swpM M k j)[k]? = M[j]? := by
  obtain ⟨p1, p2, p3⟩ := piv_mem h
  obtain ⟨rj, e2, m2, _⟩ := row_at h p2
  obtain ⟨rk, e1, m1, _⟩ := row_at h h.hk
  unfold swpM
  rw [getD_of e1, getD_of e2, e2]
  by_cases hjk : j = k
  · subst hjk
    rw [List.getElem?_set_self (by rw [List.length_set, h.hn]; exact p2)]
    rw [e1] at e2
    exact e2
  · rw [List.getElem?_set_ne hjk, List.getElem?_set_self (by rw [h.hn]; exact h.hk)]
theorem swp_ent (h : StepOk M n w k j) : ent (swpM M k j) k k = ent M j k := by
  unfold ent
  rw [swp_at h]
theorem is_3 (h : StepOk M n w k j) : exS g_in_squares iS_4b_3 [a0, a1, a2, some (.own (ml (swpM M k j))), some (.val (.int (k : Int))), a5, a6, a7, a8, a9, a10] S = .ok (.nx [a0, a1, a2, some (.own (ml ((swpM M k j).set k (nrm (swpM M k j) k)))), some (.val (.int (k : Int))), a5, a6, a7, a8, a9, a10]) S := by
  obtain ⟨p1, p2, p3⟩ := piv_mem h
  obtain ⟨rj, e2, m2, l2, f2⟩ := row_at h p2
  have e1 : (swpM M k j)[k]? = some rj := by rw [swp_at h, e2]
  have ha1 := at_ml e1
  have ha2 := at_fl f2
  have en : nrm (swpM M k j) k = rj.map fun x => x / ent M j k := by
    unfold nrm
    rw [getD_of e1, swp_ent h]
  have sqj := h.sq rj m2
  have sqe : Sq (ent M j k) := by
    have := sqj.getD k
    rwa [f2] at this
  have c := comp_ok (Γ := g_in_squares) (vs := [8]) (tg := .one 8) (it := .it (.idxO 3 (.var 4))) (cs := .nil) (e := .call 2 (.cons (.var 8) (.cons (.idx (.idxO 3 (.var 4)) (.var 4)) .nil))) (ρ := [a0, a1, a2, some (.own (ml (swpM M k j))), some (.val (.int (k : Int))), a5, a6, a7, a8, a9, a10]) (S := S) (xs := rj) (f := fun x => fr (x / ent M j k)) (h := fr) (by simp [ha1, fl]) (by rw [l2]; have := h.w9; show _ ≤ 16000000; omega) (fun x hx => by
    have e := s_over (S := S) (sqj x hx) sqe p3
    unfold cbody
    refine noexc_ok ?_
    simp [bindTg, clr, ha1, ha2, e])
  rw [fl_map, ← en] at c
  have i1 := ix_1 (n := (ml (swpM M k j)).length) (k := k) (by rw [ml_len, swp_len h]; exact h.hk)
  simp [iS_4b_3, c, i1, ml_set]
theorem is_4 (h : StepOk M n w k j) : exS g_in_squares iS_4b_4 [a0, a1, a2, some (.own (ml ((swpM M k j).set k (nrm (swpM M k j) k)))), some (.val (.int (k : Int))), a5, a6, a7, a8, a9, a10] S = .ok (.nx [a0, a1, a2, some (.own (ml (stepM M k j))), some (.val (.int (k : Int))), a5, a6, a7, a8, a9, a10]) S := by
  obtain ⟨p1, p2, p3⟩ := piv_mem h
  obtain ⟨rj, e2, m2, l2, f2⟩ := row_at h p2
  have e1 : (swpM M k j)[k]? = some rj := by rw [swp_at h, e2]
  have lp : (nrm (swpM M k j) k).length = w := by
    unfold nrm
    rw [getD_of e1, List.length_map, l2]
  unfold stepM
  generalize hp : nrm (swpM M k j) k = p at lp
  have sqp := h.sqp
  have sqm := h.sqm
  rw [hp] at sqp sqm
  generalize hM2 : (swpM M k j).set k p = M2
  have hk2 : M2[k]? = some p := by
    rw [← hM2, List.getElem?_set_self (by rw [swp_len h]; exact h.hk)]
  have ha1 := at_ml hk2
  have hlen : M2.length = n := by rw [← hM2, List.length_set, swp_len h]
  have c := comp_ok (Γ := g_in_squares) (vs := [10, 9]) (tg := .many [10, 9]) (it := .enum (.var 3)) (cs := .nil) (e := .ite (.cmp .NotEq (.var 10) (.var 4)) (.call 3 (.cons (.var 9) (.cons (.idxO 3 (.var 4)) (.cons (.idx (.var 9) (.var 4)) .nil)))) (.var 9)) (ρ := [a0, a1, a2, some (.val (.list (ml M2))), some (.val (.int (k : Int))), a5, a6, a7, a8, a9, a10]) (S := S) (xs := M2.zipIdx)
    (f := fun q => .list (fl (if q.2 ≠ k then (q.1.zip p).map fun z => z.1 - z.2 * (q.1[k]?.getD 0) else q.1))) (h := fun q => .tuple [.int ((q.2 : Nat) : Int), .list (fl q.1)]) (by simp [enum_ml]) (by rw [List.length_zipIdx, hlen]; have := h.n9; show _ ≤ 16000000; omega) (fun q hq => by
      obtain ⟨r, i⟩ := q
      obtain ⟨hi, _, hr⟩ := List.mem_zipIdx hq
      have hr' : M2[i]? = some r := by
        have : M2[i - 0]? = some r := by
          rw [List.getElem?_eq_getElem (by omega)]
          exact congrArg some hr.symm
        exact this
      have eqi : eqOp (.int (i : Int)) (.int (k : Int)) = some (decide (i = k)) := by
        show some (decide ((i : Int) = (k : Int))) = _
        congr 1
        rw [decide_eq_decide]
        omega
      unfold cbody
      refine noexc_ok ?_
      by_cases hik : i = k
      · rw [decide_eq_true hik] at eqi
        subst hik
        simp [bindTg, bindMany, clr, eqi]
      · rw [decide_eq_false hik] at eqi
        have hrm : r ∈ swpM M k j := by
          rw [← hM2, List.getElem?_set_ne (fun e => hik e.symm)] at hr'
          exact List.mem_of_getElem? hr'
        have hrl : r.length = w := h.hw r (swp_mem h r hrm)
        have rk : r[k]? = some (r[k]?.getD 0) := by
          rw [List.getElem?_eq_getElem (by rw [hrl]; exact h.kw)]
          rfl
        have ha2 := at_fl rk
        have e := s_row_less (S := S) (h.sq r (swp_mem h r hrm)) sqp ((h.sq r (swp_mem h r hrm)).getD k) (sqm r hrm) (by rw [hrl, lp]) (by rw [lp]; exact h.w9)
        simp [bindTg, bindMany, clr, eqi, hik, ha1, ha2, e])
  have hf : M2.zipIdx.map (fun q => PyData.list (fl (if q.2 ≠ k then (q.1.zip p).map fun z => z.1 - z.2 * (q.1[k]?.getD 0) else q.1))) = ml (redM M2 k p) := by
    unfold ml redM
    rw [List.map_map]
    rfl
  rw [hf] at c
  cases hb : lfreeR (.own (ml (redM M2 k p))) with
  | true => simp [iS_4b_4, c, frz, frzSlot, hb]
  | false => simp [iS_4b_4, c, frz, frzSlot, hb]
theorem in_step (h : StepOk M n w k j) : exSs g_in_squares iS_4b [a0, a1, a2, some (.own (ml M)), some (.val (.int (k : Int))), a5, some (.val (.int (n : Int))), a7, a8, a9, a10] S = .ok (.nx [a0, a1, a2, some (.own (ml (stepM M k j))), some (.val (.int (k : Int))), a5, some (.val (.int (n : Int))), some (.val (.int (j : Int))), a8, a9, a10]) S := by
  unfold iS_4b
  rw [seq_nx (is_1 (h := h) ..), seq_nx (is_2 (h := h) ..), seq_nx (is_3 (h := h) ..), seq_nx (is_4 (h := h) ..), exSs_nil, mpure_eq]
end
end K38

/-! N4 -/
set_option Elab.async false
set_option linter.all false
set_option maxRecDepth 100000
set_option maxHeartbeats 4000000
set_option exponentiation.threshold 100000
namespace K38
open PySem Pv K07
/-- so many times the unknown ones -/
def dot : List Rat → List Rat → Rat
  | [], _ => 0
  | c :: cs, x => c * x.headD 0 + dot cs x.tail
theorem dot_div (q : Rat) : ∀ (c x : List Rat), dot (c.map fun z => z / q) x = dot c x / q
  | [], x => by
    show (0 : Rat) = 0 / q
    rw [Rat.div_def, Rat.zero_mul]
  | c :: cs, x => by
    show c / q * x.headD 0 + dot (cs.map fun z => z / q) x.tail = (c * x.headD 0 + dot cs x.tail) / q
    rw [dot_div q cs x.tail, Rat.div_def, Rat.div_def, Rat.div_def, Rat.add_mul, Rat.mul_assoc, Rat.mul_comm q⁻¹, ← Rat.mul_assoc]
theorem dot_sub (s : Rat) : ∀ (c d x : List Rat), c.length = d.length → dot ((c.zip d).map fun z => z.1 - z.2 * s) x = dot c x - dot d x * s
  | [], [], x, _ => by
    show (0 : Rat) = 0 - 0 * s
    rw [Rat.zero_mul]
    decide +kernel
  | c :: cs, d :: ds, x, h => by
    show (c - d * s) * x.headD 0 + dot ((cs.zip ds).map fun z => z.1 - z.2 * s) x.tail = (c * x.headD 0 + dot cs x.tail) - (d * x.headD 0 + dot ds x.tail) * s
    rw [dot_sub s cs ds x.tail (Nat.succ.inj h)]
    grind
  | [], _ :: _, _, h => by cases h
  | _ :: _, [], _, h => by cases h
/-- a row of constants as the row of the first m and of the sum of the others -/
def ev1 (x : List Rat) (m : Nat) (b : List Rat) : List Rat := b.take m ++ [dot (b.drop m) x]
section
variable {x : List Rat} {m w n k j : Nat} {B : List (List Rat)} {b p : List Rat}
theorem ev1_len (h : m ≤ b.length) : (ev1 x m b).length = m + 1 := by
  unfold ev1
  rw [List.length_append, List.length_take, List.length_singleton]
  omega
theorem ev1_get (hk : k < m) (h : m ≤ b.length) : (ev1 x m b)[k]? = b[k]? := by
  unfold ev1
  rw [List.getElem?_append_left (by rw [List.length_take]; omega), List.getElem?_take_of_lt hk]
theorem ent_ev (hk : k < m) (h : ∀ b ∈ B, m ≤ b.length) (i : Nat) : ent (B.map (ev1 x m)) i k = ent B i k := by
  unfold ent
  rw [List.getElem?_map]
  cases e : B[i]? with
  | none => rfl
  | some b =>
    show (ev1 x m b)[k]?.getD 0 = b[k]?.getD 0
    rw [ev1_get hk (h b (List.mem_of_getElem? e))]
theorem cands_ev (hk : k < m) (h : ∀ b ∈ B, m ≤ b.length) : cands (B.map (ev1 x m)) n k = cands B n k := by
  unfold cands
  congr 1
  exact List.filter_congr fun i _ => by rw [ent_ev hk h]
theorem swp_ev (hk : k < B.length) (hj : j < B.length) : swpM (B.map (ev1 x m)) k j = (swpM B k j).map (ev1 x m) := by
  unfold swpM
  rw [List.map_set, List.map_set, List.getElem?_map, List.getElem?_map, List.getElem?_eq_getElem hk, List.getElem?_eq_getElem hj]
  rfl
theorem div_ev (q : Rat) : (ev1 x m b).map (fun z => z / q) = ev1 x m (b.map fun z => z / q) := by
  unfold ev1
  rw [List.map_append, List.map_take, List.map_cons, List.map_nil, ← dot_div, List.map_drop]
theorem nrm_ev (hk : k < m) (h : ∀ b ∈ B, m ≤ b.length) (hkB : k < B.length) : nrm (B.map (ev1 x m)) k = ev1 x m (nrm B k) := by
  unfold nrm
  rw [ent_ev hk h, List.getElem?_map, List.getElem?_eq_getElem hkB]
  show (ev1 x m B[k]).map _ = _
  rw [div_ev]
  rfl
theorem sub_ev (s : Rat) (hl : b.length = p.length) : ((ev1 x m b).zip (ev1 x m p)).map (fun z => z.1 - z.2 * s) = ev1 x m ((b.zip p).map fun z => z.1 - z.2 * s) := by
  unfold ev1
  rw [List.zip_append (by rw [List.length_take, List.length_take, hl]), List.map_append]
  congr 1
  · rw [← List.map_take]
    congr 1
    simp only [List.zip_eq_zipWith, List.take_zipWith]
  · rw [← List.map_drop]
    show [_] = [_]
    congr 1
    have e : (b.zip p).drop m = (b.drop m).zip (p.drop m) := by simp only [List.zip_eq_zipWith, List.drop_zipWith]
    rw [e, dot_sub s _ _ _ (by rw [List.length_drop, List.length_drop, hl])]
theorem red_ev (hk : k < m) (h : ∀ b ∈ B, b.length = p.length) (hm : m ≤ p.length) : redM (B.map (ev1 x m)) k (ev1 x m p) = (redM B k p).map (ev1 x m) := by
  unfold redM
  rw [List.zipIdx_map, List.map_map, List.map_map]
  refine List.map_congr_left fun q hq => ?_
  obtain ⟨b, i⟩ := q
  have hb : b ∈ B := List.fst_mem_of_mem_zipIdx hq
  show (if i ≠ k then ((ev1 x m b).zip (ev1 x m p)).map (fun z => z.1 - z.2 * ((ev1 x m b)[k]?.getD 0)) else ev1 x m b) = ev1 x m (if i ≠ k then (b.zip p).map (fun z => z.1 - z.2 * (b[k]?.getD 0)) else b)
  rw [ev1_get hk (by rw [h b hb]; exact hm)]
  split
  · exact sub_ev _ (h b hb)
  · rfl
theorem step_ev (hk : k < m) (hw : ∀ b ∈ B, b.length = w) (hm : m ≤ w) (hkB : k < B.length) (hj : j < B.length) : stepM (B.map (ev1 x m)) k j = (stepM B k j).map (ev1 x m) := by
  have hS : ∀ b ∈ swpM B k j, b.length = w := fun b hb => by
    unfold swpM at hb
    rw [List.getElem?_eq_getElem hkB, List.getElem?_eq_getElem hj] at hb
    rcases List.mem_or_eq_of_mem_set hb with hb | rfl
    · rcases List.mem_or_eq_of_mem_set hb with hb | rfl
      · exact hw b hb
      · exact hw _ (List.getElem_mem hj)
    · exact hw _ (List.getElem_mem hkB)
  have lS : (swpM B k j).length = B.length := by
    unfold swpM
    rw [List.length_set, List.length_set]
  have lN : (nrm (swpM B k j) k).length = w := by
    unfold nrm
    rw [List.getElem?_eq_getElem (by rw [lS]; exact hkB), List.length_map]
    exact hS _ (List.getElem_mem _)
  unfold stepM
  rw [swp_ev hkB hj, nrm_ev hk (fun b hb => by rw [hS b hb]; exact hm) (by rw [lS]; exact hkB), ← List.map_set, red_ev hk (fun b hb => ?_) (by rw [lN]; exact hm)]
  rw [lN]
  rcases List.mem_or_eq_of_mem_set hb with hb | rfl
  · exact hS b hb
  · exact lN
end
/-! ### sizes -/
def okQ (q : Rat) : Bool := decide (q.num.natAbs < 2 ^ 60) && decide (q.den < 2 ^ 60)
theorem okQ_bd {q : Rat} (h : okQ q = true) : ∃ D M : Nat, Bd D M q ∧ 0 < D ∧ D < 2 ^ 60 ∧ M < 2 ^ 60 := by
  unfold okQ at h
  simp only [Bool.and_eq_true, decide_eq_true_eq] at h
  exact ⟨q.den, q.num.natAbs, K07.Bd.self q, q.den_pos, h.2, h.1⟩
theorem dot_bd : ∀ {c x : List Rat}, (∀ q ∈ c, okQ q = true) → Bdl 12 (2 ^ 30) x → ∃ D M : Nat, Bd D M (dot c x) ∧ 0 < D ∧ D ≤ 2 ^ (64 * c.length) ∧ M ≤ 2 ^ (100 + 70 * c.length)
  | [], _, _, _ => ⟨1, 0, Bd.zero 1, by decide, by decide, by decide⟩
  | c :: cs, x, hc, hx => by
    obtain ⟨D1, M1, b1, d1, d2, d3⟩ := okQ_bd (hc c List.mem_cons_self)
    have hx0 : Bd 12 (2 ^ 30) (x.headD 0) := by
      cases x with
      | nil => exact (Bd.zero 12).mono (Nat.zero_le _)
      | cons z zs => exact hx z List.mem_cons_self
    obtain ⟨D2, M2, b2, e1, e2, e3⟩ := dot_bd (c := cs) (x := x.tail) (fun q hq => hc q (List.mem_cons_of_mem _ hq)) (fun q hq => hx q (List.mem_of_mem_tail hq))
    have p1 := (b1.mul hx0).scale D2
    have p2 := b2.scale (D1 * 12)
    rw [Nat.mul_comm D2 (D1 * 12)] at p2
    refine ⟨_, _, p1.add p2, Nat.mul_pos (Nat.mul_pos d1 (by decide)) e1, ?_, ?_⟩
    · rw [List.length_cons, show 64 * (cs.length + 1) = 64 + 64 * cs.length by omega, Nat.pow_add]
      exact Nat.mul_le_mul (by omega) e2
    · have q1 : M1 * 2 ^ 30 * D2 ≤ 2 ^ 90 * 2 ^ (64 * cs.length) := by
        refine Nat.mul_le_mul ?_ e2
        rw [show (2 : Nat) ^ 90 = 2 ^ 60 * 2 ^ 30 by decide]
        exact Nat.mul_le_mul_right _ (Nat.le_of_lt d3)
      have q2 : M2 * (D1 * 12) ≤ 2 ^ (100 + 70 * cs.length) * 2 ^ 64 := Nat.mul_le_mul e3 (by omega)
      have q3 : 2 ^ 90 * 2 ^ (64 * cs.length) ≤ 2 ^ (100 + 70 * cs.length) * 2 ^ 64 := by
        rw [← Nat.pow_add, ← Nat.pow_add]
        exact Nat.pow_le_pow_right (by decide) (by omega)
      rw [List.length_cons, show 100 + 70 * (cs.length + 1) = (100 + 70 * cs.length) + 64 + 6 by omega, Nat.pow_add, Nat.pow_add]
      omega
end K38

/-! N5 -/
set_option Elab.async false
set_option linter.all false
set_option maxRecDepth 100000
set_option maxHeartbeats 4000000
set_option exponentiation.threshold 100000
namespace K38
open PySem Pv K07
def okRow (w : Nat) (b : List Rat) : Bool := decide (b.length = w) && b.all okQ
def stepChk (n w : Nat) (B : List (List Rat)) (k : Nat) : Option (List (List Rat)) :=
  match (cands B n k).head? with
  | none => none
  | some j => if decide (B.length = n) && B.all (okRow w) && okRow w (nrm (swpM B k j) k) && decide (k < n) then some (stepM B k j) else none
def run (n w : Nat) (B0 : List (List Rat)) : Nat → Option (List (List Rat))
  | 0 => some B0
  | t + 1 => (run n w B0 t).bind fun B => stepChk n w B t
section
variable {S : SS} {B B' B0 : List (List Rat)} {n w m k j t : Nat} {x : List Rat}
theorem up' {a b n : Nat} (h : n ≤ 2 ^ a) (hab : a < b) : n < 2 ^ b := Nat.lt_of_le_of_lt h (Nat.pow_lt_pow_right (by decide) hab)
theorem ev1_bd {b : List Rat} (hb : ∀ q ∈ b, okQ q = true) (hl : b.length ≤ m + 5) (hx : Bdl 12 (2 ^ 30) x) : ∀ q ∈ ev1 x m b, ∃ D M : Nat, Bd D M q ∧ 0 < D ∧ D < 2 ^ 1000 ∧ M < 2 ^ 1000 := by
  intro q hq
  unfold ev1 at hq
  rcases List.mem_append.mp hq with hq | hq
  · obtain ⟨D, M, b1, d1, d2, d3⟩ := okQ_bd (hb q (List.mem_of_mem_take hq))
    exact ⟨D, M, b1, d1, up d2 (by decide), up d3 (by decide)⟩
  · obtain rfl := List.mem_singleton.mp hq
    obtain ⟨D, M, b1, d1, d2, d3⟩ := dot_bd (c := b.drop m) (x := x) (fun q hq => hb q (List.mem_of_mem_drop hq)) hx
    have hd : (b.drop m).length ≤ 5 := by rw [List.length_drop]; omega
    exact ⟨D, M, b1, d1, up' d2 (by omega), up' d3 (by omega)⟩
theorem bd_sq {q : Rat} (h : ∃ D M : Nat, Bd D M q ∧ 0 < D ∧ D < 2 ^ 1000 ∧ M < 2 ^ 1000) : Sq q := by
  obtain ⟨D, M, b1, d1, d2, d3⟩ := h
  exact b1.sq d1 (up d2 (by decide)) (up d3 (by decide))
theorem bd_sz {q : Rat} (h : ∃ D M : Nat, Bd D M q ∧ 0 < D ∧ D < 2 ^ 1000 ∧ M < 2 ^ 1000) : Sz q := by
  obtain ⟨D, M, b1, d1, d2, d3⟩ := h
  exact b1.ss d1 (up d2 (by decide)) (up d3 (by decide))
theorem bd_mul {p q : Rat} (h : ∃ D M : Nat, Bd D M p ∧ 0 < D ∧ D < 2 ^ 1000 ∧ M < 2 ^ 1000) (h' : ∃ D M : Nat, Bd D M q ∧ 0 < D ∧ D < 2 ^ 1000 ∧ M < 2 ^ 1000) : Sq (p * q) := by
  obtain ⟨D, M, b1, d1, d2, d3⟩ := h
  obtain ⟨E, N, c1, e1, e2, e3⟩ := h'
  refine (b1.mul c1).sq (Nat.mul_pos d1 e1) ?_ ?_
  · exact Nat.lt_trans (Nat.mul_lt_mul'' d2 e2) (by rw [← Nat.pow_add]; exact Nat.pow_lt_pow_right (by decide) (by decide))
  · exact Nat.lt_trans (Nat.mul_lt_mul'' d3 e3) (by rw [← Nat.pow_add]; exact Nat.pow_lt_pow_right (by decide) (by decide))
theorem okRow_of {b : List Rat} (h : okRow w b = true) : b.length = w ∧ ∀ q ∈ b, okQ q = true := by
  unfold okRow at h
  simp only [Bool.and_eq_true, decide_eq_true_eq, List.all_eq_true] at h
  exact h
theorem chk_ok (h : stepChk n w B k = some B') (hk : k < m) (hm : m ≤ w) (hw5 : w ≤ m + 5) (n9 : n ≤ 800) (w9 : w ≤ 800) (hx : Bdl 12 (2 ^ 30) x) :
    ∃ j, StepOk (B.map (ev1 x m)) n (m + 1) k j ∧ stepM (B.map (ev1 x m)) k j = B'.map (ev1 x m) := by
  unfold stepChk at h
  split at h
  · cases h
  · rename_i j hj
    split at h
    · rename_i hc
      cases h
      simp only [Bool.and_eq_true, decide_eq_true_eq, List.all_eq_true] at hc
      obtain ⟨⟨⟨hn, hB⟩, hN⟩, hkn⟩ := hc
      have hw : ∀ b ∈ B, b.length = w := fun b hb => (okRow_of (hB b hb)).1
      have hq : ∀ b ∈ B, ∀ q ∈ b, okQ q = true := fun b hb => (okRow_of (hB b hb)).2
      have hwm : ∀ b ∈ B, m ≤ b.length := fun b hb => by rw [hw b hb]; exact hm
      obtain ⟨nw, nq⟩ := okRow_of hN
      have hjn : j < B.length := by
        have hm := List.mem_of_mem_head? hj
        unfold cands at hm
        obtain ⟨i, hi, rfl⟩ := List.mem_map.mp hm
        have := List.mem_range.mp (List.mem_filter.mp hi).1
        omega
      have hkB : k < B.length := by omega
      have lS : (swpM B k j).length = B.length := by
        unfold swpM
        rw [List.length_set, List.length_set]
      have mS : ∀ b ∈ swpM B k j, b ∈ B := fun b hb => by
        unfold swpM at hb
        rw [List.getElem?_eq_getElem hkB, List.getElem?_eq_getElem hjn] at hb
        rcases List.mem_or_eq_of_mem_set hb with hb | rfl
        · rcases List.mem_or_eq_of_mem_set hb with hb | rfl
          · exact hb
          · exact List.getElem_mem hjn
        · exact List.getElem_mem hkB
      have eN : nrm (swpM (B.map (ev1 x m)) k j) k = ev1 x m (nrm (swpM B k j) k) := by
        rw [swp_ev hkB hjn, nrm_ev hk (fun b hb => hwm b (mS b hb)) (by rw [lS]; exact hkB)]
      refine ⟨j, ⟨by rw [List.length_map, hn], fun r hr => ?_, hkn, by omega, by omega, by omega, fun r hr => ?_, by rw [cands_ev hk hwm]; exact hj, ?_, fun r hr y hy => ?_⟩, step_ev hk hw hm hkB hjn⟩
      · obtain ⟨b, hb, rfl⟩ := List.mem_map.mp hr
        exact ev1_len (hwm b hb)
      · obtain ⟨b, hb, rfl⟩ := List.mem_map.mp hr
        exact fun q hq' => bd_sq (ev1_bd (hq b hb) (by rw [hw b hb]; exact hw5) hx q hq')
      · rw [eN]
        exact fun q hq' => bd_sq (ev1_bd nq (by rw [nw]; exact hw5) hx q hq')
      · rw [eN] at hy
        rw [swp_ev hkB hjn] at hr
        obtain ⟨b, hb, rfl⟩ := List.mem_map.mp hr
        have hb' := mS b hb
        refine bd_mul (ev1_bd nq (by rw [nw]; exact hw5) hx y hy) ?_
        have hz := ev1_bd (hq b hb') (by rw [hw b hb']; exact hw5) hx
        have hl := ev1_len (x := x) (hwm b hb')
        rw [List.getElem?_eq_getElem (by omega)]
        exact hz _ (List.getElem_mem _)
    · cases h
theorem run_pre : ∀ {m : Nat} {B' : List (List Rat)}, run n w B0 m = some B' → ∀ t, t ≤ m → ∃ B, run n w B0 t = some B
  | 0, _, h, t, ht => by
    obtain rfl : t = 0 := by omega
    exact ⟨_, h⟩
  | m + 1, _, h, t, ht => by
    by_cases e : t = m + 1
    · subst e
      exact ⟨_, h⟩
    · have h : (run n w B0 m).bind (fun B => stepChk n w B m) = some _ := h
      cases hr : run n w B0 m with
      | none => rw [hr] at h; cases h
      | some B => exact run_pre hr t (by omega)
variable (a0 a1 a2 a3 a4 a5 a6 a7 a8 a9 a10 : Option R)
theorem in_loop (h : run n w B0 m = some B') (hm : m ≤ w) (hw5 : w ≤ m + 5) (n9 : n ≤ 800) (w9 : w ≤ 800) (hx : Bdl 12 (2 ^ 30) x) :
    ∃ b4 b7, exS g_in_squares iS_4 [a0, a1, some (.val (.int (m : Int))), some (.own (ml (B0.map (ev1 x m)))), a4, a5, some (.val (.int (n : Int))), a7, a8, a9, a10] S = .ok (.nx [a0, a1, some (.val (.int (m : Int))), some (.own (ml (B'.map (ev1 x m)))), b4, a5, some (.val (.int (n : Int))), b7, a8, a9, a10]) S := by
  obtain ⟨ρ', f, B1, b4, b7, hB1, rfl⟩ := for_inv (S := S) (h := fun i : Nat => PyData.int (i : Int)) (body := fun d ρ => M.of (bindTg (.one 4) d ρ) >>= fun ρ2 => exSs g_in_squares iS_4b ρ2)
    (fun (pre : List Nat) ρ => ∃ (B : List (List Rat)) (b4 b7 : Option R), run n w B0 pre.length = some B ∧ ρ = [a0, a1, some (.val (.int (m : Int))), some (.own (ml (B.map (ev1 x m)))), b4, a5, some (.val (.int (n : Int))), b7, a8, a9, a10]) (List.range m) (ρ := [a0, a1, some (.val (.int (m : Int))), some (.own (ml (B0.map (ev1 x m)))), a4, a5, some (.val (.int (n : Int))), a7, a8, a9, a10]) ⟨B0, a4, a7, rfl, rfl⟩ (fun pre k post ρ e => by
      rintro ⟨B, b4, b7, hB, rfl⟩
      have hk : k = pre.length ∧ k < m := by
        have e1 : (List.range m)[pre.length]? = some k := by rw [e]; simp
        have hl : pre.length < m := by
          have := congrArg List.length e
          simp at this
          omega
        rw [List.getElem?_range hl] at e1
        cases e1
        exact ⟨rfl, hl⟩
      obtain ⟨rfl, hkm⟩ := hk
      obtain ⟨B2, hB2⟩ := run_pre h (pre.length + 1) (by omega)
      have hs : stepChk n w B pre.length = some B2 := by
        have h2 : (run n w B0 pre.length).bind (fun B => stepChk n w B pre.length) = some B2 := hB2
        rw [hB] at h2
        exact h2
      obtain ⟨j, so, es⟩ := chk_ok hs hkm hm hw5 n9 w9 hx
      have st := in_step (S := S) a0 a1 (some (.val (.int (m : Int)))) a5 b7 a8 a9 a10 so
      rw [es] at st
      exact ⟨_, by simp only [mbind_eq, bindTg, M.of_some, ok_bind, setV_s, List.set]; exact st, B2, _, _, by rw [List.length_append]; exact hB2, rfl⟩)
  rw [List.length_range, h] at hB1
  cases hB1
  refine ⟨b4, b7, ?_⟩
  have er : rng [.int (m : Int)] = some ((List.range m).map fun i => .int ((i : Nat) : Int)) := rng_1 (n := m) (by omega)
  unfold iS_4
  rw [exS_for]
  simp only [frz_nil, back_same, mbind_eq, evI_rng, evDs_cons, evDs_nil, evE_var, getV_succ, getV_zero, asD_s, mpure_eq, ok_bind, R.d_val, M.of_some, er]
  exact f
end
end K38

/-! N6 -/
set_option Elab.async false
set_option linter.all false
set_option maxRecDepth 100000
set_option maxHeartbeats 4000000
set_option exponentiation.threshold 100000
namespace Pv
open PySem
theorem slc_from {xs : List PyData} {m : Nat} (h : m ≤ xs.length) : slc (.list xs) (some (m : Int)) none 1 = some (.own (xs.drop m)) := by
  unfold slc
  simp only [if_true]
  congr 2
  unfold cut
  rw [HT.sIx_nat, HT.sIx_none, Nat.min_eq_left h]
  exact List.take_of_length_le (by rw [List.length_drop]; exact Nat.le_refl _)
theorem slc_to {xs : List PyData} {m : Nat} (h : m ≤ xs.length) : slc (.list xs) none (some (m : Int)) 1 = some (.own (xs.take m)) := by
  unfold slc
  simp only [if_true]
  congr 2
  unfold cut
  rw [HT.sIx_nat, HT.sIx_none, Nat.min_eq_left h, List.drop_zero]
  rfl
theorem eq_listNil {xs : List PyData} (h : Shp 64 (.list xs)) : eqOp (.list xs) (.list []) = some xs.isEmpty := by
  rw [eqOp_of h (.mono (.list (.nil 0)) (by decide))]
  cases xs <;> simp [PyData.eqv, PyData.eqvAll]
theorem shp_ml (M : List (List Rat)) : Shp 64 (.list (ml M)) := .mono (.list (n := 3) (.of fun d hd => by
  obtain ⟨r, _, rfl⟩ := List.mem_map.mp hd
  exact .mono (.list (.fl r)) (by decide))) (by decide)
end Pv
namespace K38
open PySem Pv K07
def unit (n k : Nat) : List Rat := List.replicate k 0 ++ 1 :: List.replicate (n - k - 1) 0
theorem dot_zeros : ∀ (n : Nat) (x : List Rat), dot (List.replicate n 0) x = 0
  | 0, _ => rfl
  | n + 1, x => by
    show 0 * x.headD 0 + dot (List.replicate n 0) x.tail = 0
    rw [dot_zeros n, Rat.zero_mul, Rat.zero_add]
theorem dot_skip (r : List Rat) : ∀ (k : Nat) (x : List Rat), dot (List.replicate k 0 ++ r) x = dot r (x.drop k)
  | 0, x => rfl
  | k + 1, x => by
    show 0 * x.headD 0 + dot (List.replicate k 0 ++ r) x.tail = _
    rw [dot_skip r k, Rat.zero_mul, Rat.zero_add]
    cases x with
    | nil => rw [List.tail_nil, List.drop_nil, List.drop_nil]
    | cons z zs => rfl
theorem dot_unit (n k : Nat) (x : List Rat) : dot (unit n k) x = x[k]?.getD 0 := by
  unfold unit
  rw [dot_skip]
  show 1 * (x.drop k).headD 0 + dot (List.replicate (n - k - 1) 0) (x.drop k).tail = _
  rw [dot_zeros, Rat.one_mul, Rat.add_zero]
  have e : (x.drop k).headD 0 = (x.drop k)[0]?.getD 0 := by cases x.drop k <;> rfl
  rw [e, List.getElem?_drop, Nat.add_zero]
def rows0 (n : Nat) (pows : List (List Rat)) : List (List Rat) := (List.range n).map fun k => pows.map (fun p => p[k]?.getD 0) ++ unit n k
section
variable {S : SS} {P X : List Rat} {pows B' : List (List Rat)} {n m : Nat}
theorem rows0_ev : (rows0 n pows).map (ev1 X pows.length) = (List.range n).map fun k => (pows ++ [X]).map fun p => p[k]?.getD 0 := by
  unfold rows0
  rw [List.map_map]
  refine List.map_congr_left fun k _ => ?_
  show ev1 X pows.length (pows.map (fun p => p[k]?.getD 0) ++ unit n k) = _
  unfold ev1
  have hl : (pows.map fun p => p[k]?.getD 0).length = pows.length := List.length_map ..
  rw [List.take_left' hl, List.drop_left' hl, dot_unit, List.map_append]
  rfl
variable (a0 a1 a2 a3 a4 a5 a6 a7 a8 a9 a10 : Option R)
theorem in_1 (hp : ∀ S, sem_square_powers [.val (po P)] S = .ok (.own (pows.map po)) S) (hP : P.length = n + 1) : exS g_in_squares iS_1 [some (.val (po P)), a1, a2, a3, a4, a5, a6, a7, a8, a9, a10] S = .ok (.nx [some (.val (po P)), a1, a2, a3, a4, some (.val (.list (pows.map po))), some (.val (.int (n : Int))), a7, a8, a9, a10]) S := by
  have e := hp S
  have en : ((P.length : Nat) : Int) - 1 = (n : Int) := by omega
  simp [iS_1, e, len_po, en]
theorem in_2 (hm : pows.length = m) : exS g_in_squares iS_2 [a0, a1, a2, a3, a4, some (.val (.list (pows.map po))), a6, a7, a8, a9, a10] S = .ok (.nx [a0, a1, some (.val (.int (m : Int))), a3, a4, some (.val (.list (pows.map po))), a6, a7, a8, a9, a10]) S := by
  simp [iS_2, hm]
theorem in_3 (hn : n ≤ 800) (hm : pows.length ≤ 800) : exS g_in_squares iS_3 [a0, some (.val (po X)), a2, a3, a4, some (.val (.list (pows.map po))), some (.val (.int (n : Int))), a7, a8, a9, a10] S = .ok (.nx [a0, some (.val (po X)), a2, some (.own (ml ((rows0 n pows).map (ev1 X pows.length)))), a4, some (.val (.list (pows.map po))), some (.val (.int (n : Int))), a7, a8, a9, a10]) S := by
  have c := comp_ok (Γ := g_in_squares) (vs := [4]) (tg := .one 4) (it := .rng (.cons (.var 6) .nil)) (cs := .nil) (e := .comp [8] (.one 8) (.it (.lstS (.var 5) (.cons (.var 1) .nil))) .nil (.call 1 (.cons (.var 8) (.cons (.var 4) .nil)))) (ρ := [a0, some (.val (po X)), a2, a3, a4, some (.val (.list (pows.map po))), some (.val (.int (n : Int))), a7, a8, a9, a10]) (S := S) (xs := List.range n)
    (f := fun k => .list (fl ((pows ++ [X]).map fun p => p[k]?.getD 0))) (h := fun k => .int ((k : Nat) : Int)) (by simp [rng_1 (n := n) (by omega)]) (by rw [List.length_range]; show _ ≤ 16000000; omega) (fun k hk => by
      have c2 := comp_ok (Γ := g_in_squares) (vs := [8]) (tg := .one 8) (it := .it (.lstS (.var 5) (.cons (.var 1) .nil))) (cs := .nil) (e := .call 1 (.cons (.var 8) (.cons (.var 4) .nil))) (ρ := [a0, some (.val (po X)), a2, a3, some (.val (.int (k : Int))), some (.val (.list (pows.map po))), some (.val (.int (n : Int))), a7, a8, a9, a10]) (S := S) (xs := pows ++ [X])
        (f := fun p => fr (p[k]?.getD 0)) (h := po) (by
          have hl : (pows.map po).length + 1 ≤ line := by rw [List.length_map]; show _ ≤ 16000000; omega
          have hl : pows.length + 1 ≤ line := by show _ ≤ 16000000; omega
          simp [seqD0, hl]) (by rw [List.length_append]; show _ ≤ 16000000; simp; omega) (fun p hp => by
          have e := s_member (S := S) (l := p) k
          unfold cbody
          refine noexc_ok ?_
          simp [bindTg, clr, e])
      rw [fl_map] at c2
      unfold cbody
      refine noexc_ok ?_
      simp only [bindTg, clr, List.foldr_cons, List.foldr_nil, setV_s, List.set, mbind_eq, Pv.M.of_some, ok_bind, evC_nil, mpure_eq, if_true, asD_s, c2, R.d_own])
  have e : ml ((rows0 n pows).map (ev1 X pows.length)) = (List.range n).map fun k => .list (fl ((pows ++ [X]).map fun p => p[k]?.getD 0)) := by
    rw [rows0_ev]
    unfold ml
    rw [List.map_map]
    rfl
  rw [e]
  simp [iS_3, c]
/-- whether something is left over -/
def left (m : Nat) (B : List (List Rat)) (X : List Rat) : Bool := (B.drop m).any fun b => !decide (dot (b.drop m) X = 0)
def sol (m : Nat) (B : List (List Rat)) (X : List Rat) : List Rat := (B.take m).map fun b => dot (b.drop m) X
theorem ev1_at {b : List Rat} (h : m ≤ b.length) : L2.atI (fl (ev1 X m b)) (m : Int) = some (fr (dot (b.drop m) X)) := by
  refine at_fl ?_
  unfold ev1
  have hl : (b.take m).length = m := by rw [List.length_take]; omega
  rw [List.getElem?_append_right (by omega), hl, Nat.sub_self]
  rfl
theorem in_5 (hB : B'.length ≤ 800) (hm : m ≤ B'.length) (hw : ∀ b ∈ B', m ≤ b.length) : exS g_in_squares iS_5 [a0, a1, some (.val (.int (m : Int))), some (.own (ml (B'.map (ev1 X m)))), a4, a5, a6, a7, a8, a9, a10] S =
    if left m B' X then .ok (.rt (.val .none)) S else .ok (.nx [a0, a1, some (.val (.int (m : Int))), some (.own (ml (B'.map (ev1 X m)))), a4, a5, a6, a7, a8, a9, a10]) S := by
  have c := comp_okF (Γ := g_in_squares) (vs := [9]) (tg := .one 9) (it := .it (.slc (.var 3) (.var 2) (.lit .none) (1))) (cs := .cons (.cmp .NotEq (.idx (.var 9) (.var 2)) (.glob 0)) .nil) (e := .var 9) (ρ := [a0, a1, some (.val (.int (m : Int))), some (.val (.list (ml (B'.map (ev1 X m))))), a4, a5, a6, a7, a8, a9, a10]) (S := S) (xs := B'.drop m)
    (p := fun b => !decide (dot (b.drop m) X = 0)) (f := fun b => .list (fl (ev1 X m b))) (h := fun b => .list (fl (ev1 X m b))) (by
      have e := slc_from (xs := ml (B'.map (ev1 X m))) (m := m) (by rw [ml_len, List.length_map]; exact hm)
      have nv : isNl (.var 2) = false := rfl
      have tp : toPart false (.int (m : Int)) = some (some (m : Int)) := rfl
      have em : (ml (B'.map (ev1 X m))).drop m = (B'.drop m).map fun b => .list (fl (ev1 X m b)) := by
        unfold ml
        rw [List.map_map, ← List.map_drop]
        rfl
      rw [em] at e
      simp [nv, tp, e]) (by rw [List.length_drop]; show _ ≤ 16000000; omega) (fun b hb => by
      have ha := ev1_at (X := X) (hw b (List.mem_of_mem_drop hb))
      have e3 := eqv_frn (dot (b.drop m) X) 0
      rw [fr0] at e3
      unfold cbody
      refine noexc_ok ?_
      by_cases hz : dot (b.drop m) X = 0
      · rw [decide_eq_true hz] at e3
        rw [hz] at e3 ha
        simp [bindTg, clr, ha, e3, hz]
      · rw [decide_eq_false hz] at e3
        simp [bindTg, clr, ha, e3, hz])
  have e4 : eqOp (.list (((B'.drop m).filter fun b => !decide (dot (b.drop m) X = 0)).map fun b => PyData.list (fl (ev1 X m b)))) (.list []) = some (!left m B' X) := by
    have e := eq_listNil (shp_ml (((B'.drop m).filter fun b => !decide (dot (b.drop m) X = 0)).map (ev1 X m)))
    unfold ml at e
    rw [List.map_map] at e
    refine Eq.trans e ?_
    congr 1
    unfold left
    generalize B'.drop m = L
    induction L with
    | nil => rfl
    | cons b L ih =>
      rw [List.any_cons, List.filter_cons]
      cases hd : (!decide (dot (b.drop m) X = 0)) with
      | true => rfl
      | false => simpa [hd] using ih
  have h0 : 0 ≤ line := by decide
  cases hl : left m B' X with
  | true =>
    rw [hl] at e4
    simp [iS_5, frz, frzSlot, c, e4, h0]
  | false =>
    rw [hl] at e4
    simp [iS_5, frz, frzSlot, c, e4, h0]
theorem in_6 (hB : B'.length ≤ 800) (hm : m ≤ B'.length) (hw : ∀ b ∈ B', m ≤ b.length) : exS g_in_squares iS_6 [a0, a1, some (.val (.int (m : Int))), some (.own (ml (B'.map (ev1 X m)))), a4, a5, a6, a7, a8, a9, a10] S = .ok (.rt (.val (po (sol m B' X)))) S := by
  have c := comp_ok (Γ := g_in_squares) (vs := [9]) (tg := .one 9) (it := .it (.slc (.var 3) (.lit .none) (.var 2) (1))) (cs := .nil) (e := .idx (.var 9) (.var 2)) (ρ := [a0, a1, some (.val (.int (m : Int))), some (.val (.list (ml (B'.map (ev1 X m))))), a4, a5, a6, a7, a8, a9, a10]) (S := S) (xs := B'.take m)
    (f := fun b => fr (dot (b.drop m) X)) (h := fun b => .list (fl (ev1 X m b))) (by
      have e := slc_to (xs := ml (B'.map (ev1 X m))) (m := m) (by rw [ml_len, List.length_map]; exact hm)
      have nv : isNl (.var 2) = false := rfl
      have tp : toPart false (.int (m : Int)) = some (some (m : Int)) := rfl
      have em : (ml (B'.map (ev1 X m))).take m = (B'.take m).map fun b => .list (fl (ev1 X m b)) := by
        unfold ml
        rw [List.map_map, ← List.map_take]
        rfl
      rw [em] at e
      simp [nv, tp, e]) (by rw [List.length_take]; show _ ≤ 16000000; omega) (fun b hb => by
      have ha := ev1_at (X := X) (hw b (List.mem_of_mem_take hb))
      unfold cbody
      refine noexc_ok ?_
      simp [bindTg, clr, ha])
  rw [fl_map] at c
  have es : (B'.take m).map (fun b => dot (b.drop m) X) = sol m B' X := rfl
  rw [es] at c
  simp [iS_6, frz, frzSlot, c, po]
end
theorem s_in_squares {S : SS} {P X : List Rat} {pows B' : List (List Rat)} {n : Nat} (hp : ∀ S, sem_square_powers [.val (po P)] S = .ok (.own (pows.map po)) S) (hP : P.length = n + 1) (hn : n ≤ 5) (hm : pows.length ≤ n)
    (hr : run n (pows.length + n) (rows0 n pows) pows.length = some B') (hBn : B'.length = n) (hw : ∀ b ∈ B', pows.length ≤ b.length) (hx : Bdl 12 (2 ^ 30) X) :
    sem_in_squares [.val (po P), .val (po X)] S = .ok (.val (if left pows.length B' X then .none else po (sol pows.length B' X))) S := by
  obtain ⟨b4, b7, e4⟩ := in_loop (S := S) (x := X) (some (.val (po P))) (some (.val (po X))) none (some (.val (.list (pows.map po)))) none none none none hr (by omega) (by omega) (by omega) (by omega) hx
  have e1 := in_1 (S := S) (some (.val (po X))) none none none none none none none none none hp hP
  have e2 := in_2 (S := S) (pows := pows) (some (.val (po P))) (some (.val (po X))) none none none (some (.val (.int (n : Int)))) none none none none rfl
  have e3 := in_3 (S := S) (X := X) (pows := pows) (some (.val (po P))) (some (.val (.int (pows.length : Int)))) none none none none none none (n := n) (by omega) (by omega)
  have e5 := in_5 (S := S) (X := X) (B' := B') (m := pows.length) (some (.val (po P))) (some (.val (po X))) b4 (some (.val (.list (pows.map po)))) (some (.val (.int (n : Int)))) b7 none none none (by omega) (by omega) hw
  have e6 := in_6 (S := S) (X := X) (B' := B') (m := pows.length) (some (.val (po P))) (some (.val (po X))) b4 (some (.val (.list (pows.map po)))) (some (.val (.int (n : Int)))) b7 none none none (by omega) (by omega) hw
  show runDef g_in_squares 2 11 ir_in_squares [.val (po P), .val (po X)] S = _
  rw [runDef_eq g_in_squares 2 11 ir_in_squares [.val (po P), .val (po X)] S rfl, iS_eq]
  show (exSs g_in_squares _ [some (.val (po P)), some (.val (po X)), none, none, none, none, none, none, none, none, none] S).bind _ = _
  rw [seq_nx e1, seq_nx e2, seq_nx e3, seq_nx e4]
  cases hl : left pows.length B' X with
  | true =>
    rw [hl, if_pos rfl] at e5
    rw [seq_rt e5]
    rfl
  | false =>
    rw [hl, if_neg Bool.false_ne_true] at e5
    rw [seq_nx e5, seq_rt e6]
    rfl
end K38

/-! N7 -/
set_option Elab.async false
set_option linter.all false
set_option maxRecDepth 100000
set_option maxHeartbeats 4000000
set_option exponentiation.threshold 100000
namespace K38
open PySem Pv K07
def lP_1 : Pv.S := (.unpT [3, 4, 5] (.cons (.tup (.cons (.tup (.cons (.lit (.int (0))) (.cons (.lit (.int (1))) .nil))) (.cons (.tup (.cons (.lit (.int (0))) (.cons (.lit (.int (1))) .nil))) (.cons (.tup (.cons (.lit (.int (1))) (.cons (.lit (.int (1))) .nil))) .nil)))) (.cons (.tup (.cons (.tup (.cons (.lit (.int (1))) (.cons (.lit (.int (1))) .nil))) .nil)) (.cons (.tup .nil) .nil))) [])
def lP_2b_1 : Pv.S := (.asg 5 true (.call 1 (.cons (.var 5) (.cons (.call 2 (.cons (.comp [6] (.one 6) (.it (.var 4)) .nil (.call 4 (.cons (.var 6) (.cons (.var 2) .nil)))) .nil)) (.cons (.lit (.int (1))) .nil)))) [])
def lP_2b_2 : Pv.S := (.asg 4 true (.call 0 (.cons (.call 3 (.cons (.var 4) (.cons (.var 3) .nil))) (.cons (.var 0) .nil))) [])
def lP_2b : Ss := (.cons lP_2b_1 (.cons lP_2b_2 .nil))
def lP_2 : Pv.S := (.for_ (.one 2) (.it (.var 1)) lP_2b [])
def lP_3 : Pv.S := (.ret (.call 0 (.cons (.var 5) (.cons (.var 0) .nil))) [])
theorem lP_eq : ir__law_put_together = (.cons lP_1 (.cons lP_2 (.cons lP_3 .nil))) := (rfl)
/-- the powers added up, each so many times -/
def addUp : List (List Rat) → List Rat → List Rat → List Rat
  | p :: ps, r :: rs, F => addUp ps rs (trim (addl F (trim (p.map (· * r)))))
  | _, _, F => F
section
variable {S : SS} {P F row : List Rat} {pw : List (List Rat)} {n m : Nat}
theorem trim_get : ∀ (l : List Rat) (i : Nat), (trim l)[i]?.getD 0 = l[i]?.getD 0 := fun l i => by
  obtain ⟨k, e⟩ := trim_split l
  conv => rhs; rw [e]
  rw [List.getElem?_append]
  split
  · rfl
  · rename_i h
    rw [List.getElem?_eq_none (Nat.le_of_not_lt h), List.getElem?_replicate]
    split <;> rfl
theorem addl_get (l m : List Rat) (i : Nat) : (addl l m)[i]?.getD 0 = l[i]?.getD 0 + m[i]?.getD 0 := by
  unfold addl
  rw [List.getElem?_map]
  by_cases h : i < max l.length m.length
  · rw [List.getElem?_range h]
    rfl
  · rw [List.getElem?_eq_none (by rw [List.length_range]; omega), List.getElem?_eq_none (l := l) (by omega), List.getElem?_eq_none (l := m) (by omega)]
    show (0 : Rat) = 0 + 0
    rw [Rat.add_zero]
theorem map_get (c : Rat) (l : List Rat) (i : Nat) : (l.map (· * c))[i]?.getD 0 = l[i]?.getD 0 * c := by
  rw [List.getElem?_map]
  cases l[i]? with
  | some x => rfl
  | none => exact (Rat.zero_mul c).symm
theorem addl_len (l m : List Rat) : (addl l m).length = max l.length m.length := by
  unfold addl
  rw [List.length_map, List.length_range]
theorem addUp_len : ∀ (ps : List (List Rat)) (rs F : List Rat), (∀ p ∈ ps, p.length ≤ n) → F.length ≤ n → (addUp ps rs F).length ≤ n
  | p :: ps, r :: rs, F, hp, hF => by
    refine addUp_len ps rs _ (fun q hq => hp q (List.mem_cons_of_mem _ hq)) (Nat.le_trans (trim_len _) ?_)
    rw [addl_len]
    have h1 := trim_len (p.map (· * r))
    rw [List.length_map] at h1
    have h2 := hp p List.mem_cons_self
    omega
  | [], _, F, _, hF => hF
  | _ :: _, [], F, _, hF => hF
theorem addUp_tr : ∀ (ps : List (List Rat)) (rs F : List Rat), Tr F → Tr (addUp ps rs F)
  | p :: ps, r :: rs, F, hF => addUp_tr ps rs _ (tr_trim _)
  | [], _, F, hF => hF
  | _ :: _, [], F, hF => hF
/-- the number of a power in what is added up -/
def sumAt : List (List Rat) → List Rat → Nat → Rat
  | p :: ps, r :: rs, i => p[i]?.getD 0 * r + sumAt ps rs i
  | _, _, _ => 0
theorem addUp_get : ∀ (ps : List (List Rat)) (rs F : List Rat) (i : Nat), (addUp ps rs F)[i]?.getD 0 = F[i]?.getD 0 + sumAt ps rs i
  | p :: ps, r :: rs, F, i => by
    show (addUp ps rs _)[i]?.getD 0 = F[i]?.getD 0 + (p[i]?.getD 0 * r + sumAt ps rs i)
    rw [addUp_get ps rs, trim_get, addl_get, trim_get, map_get, Rat.add_assoc]
  | [], _, F, i => (Rat.add_zero _).symm
  | _ :: _, [], F, i => (Rat.add_zero _).symm
/-- a row's number -/
def RowOk (r : Rat) : Prop := ∃ D M : Nat, Bd D M r ∧ 0 < D ∧ D ≤ 2 ^ 320 ∧ M ≤ 2 ^ 450
theorem RowOk.sq {r : Rat} (h : RowOk r) : Sq r := by
  obtain ⟨D, M, b, d, d1, d2⟩ := h
  exact b.sq d (up' d1 (by decide)) (up' d2 (by decide))
def AccOk (k : Nat) (F : List Rat) : Prop := ∃ D M : Nat, Bdl D M F ∧ 0 < D ∧ D ≤ 2 ^ (336 * k) ∧ M ≤ 2 ^ (600 + 340 * k)
theorem AccOk.sql {k : Nat} (h : AccOk k F) (hk : k ≤ 5) : Sql F := by
  obtain ⟨D, M, b, d, d1, d2⟩ := h
  exact fun q hq => (b q hq).sq d (up' d1 (by omega)) (up' d2 (by omega))
theorem AccOk.step {k : Nat} {p : List Rat} {r : Rat} (h : AccOk k F) (hp : Bdl 46656 (2 ^ 60) p) (hr : RowOk r) : AccOk (k + 1) (trim (addl F (trim (p.map (· * r))))) := by
  obtain ⟨D, M, b, d, d1, d2⟩ := h
  obtain ⟨D', M', c, e, e1, e2⟩ := hr
  have hb := (b.addl (hp.scaled c).trim).trim
  refine ⟨_, _, hb, Nat.mul_pos d (Nat.mul_pos (by decide) e), ?_, ?_⟩
  · rw [show 336 * (k + 1) = 336 * k + 336 by omega, Nat.pow_add]
    refine Nat.mul_le_mul d1 ?_
    exact Nat.le_trans (Nat.mul_le_mul_left _ e1) (by rw [show (336 : Nat) = 16 + 320 from rfl, Nat.pow_add]; exact Nat.mul_le_mul_right _ (by decide))
  · have q1 : 46656 * D' ≤ 2 ^ 336 := Nat.le_trans (Nat.mul_le_mul_left _ e1) (by rw [show (336 : Nat) = 16 + 320 from rfl, Nat.pow_add]; exact Nat.mul_le_mul_right _ (by decide))
    have q2 : 2 ^ 60 * M' ≤ 2 ^ 510 := Nat.le_trans (Nat.mul_le_mul_left _ e2) (by rw [← Nat.pow_add]; exact Nat.le_refl _)
    have q3 : M * (46656 * D') ≤ 2 ^ (600 + 340 * k) * 2 ^ 336 := Nat.mul_le_mul d2 q1
    have q4 : 2 ^ 60 * M' * D ≤ 2 ^ 510 * 2 ^ (336 * k) := Nat.mul_le_mul q2 d1
    have q5 : 2 ^ 510 * 2 ^ (336 * k) ≤ 2 ^ (600 + 340 * k) * 2 ^ 336 := by
      rw [← Nat.pow_add, ← Nat.pow_add]
      exact Nat.pow_le_pow_right (by decide) (by omega)
    have q6 : 2 ^ (600 + 340 * (k + 1)) = 2 ^ (600 + 340 * k) * 2 ^ 336 * 16 := by
      rw [show 600 + 340 * (k + 1) = 600 + 340 * k + 336 + 4 by omega, Nat.pow_add, Nat.pow_add]
    rw [q6]
    omega
variable (a0 a1 a2 a3 a4 a5 a6 : Option R)
theorem put_1 {p : List Rat} {r : Rat} {k : Nat} (hF : AccOk k F) (hk : k ≤ 5) (hp : Bdl 46656 (2 ^ 60) p) (hr : RowOk r) (lF : F.length ≤ 800) (lp : p.length ≤ 800) :
    exS g__law_put_together lP_2b_1 [a0, a1, some (.val (fr r)), a3, some (.val (po p)), some (.val (po F)), a6] S = .ok (.nx [a0, a1, some (.val (fr r)), a3, some (.val (po p)), some (.val (po (trim (addl F (trim (p.map (· * r))))))), a6]) S := by
  have sp : Sql p := fun q hq => (hp q hq).sq (by decide) (up (show 46656 < 2 ^ 16 by decide) (by decide)) (Nat.pow_lt_pow_right (by decide) (by decide))
  have c := comp_ok (Γ := g__law_put_together) (vs := [6]) (tg := .one 6) (it := .it (.var 4)) (cs := .nil) (e := .call 4 (.cons (.var 6) (.cons (.var 2) .nil))) (ρ := [a0, a1, some (.val (fr r)), a3, some (.val (po p)), some (.val (po F)), a6]) (S := S) (xs := p) (f := fun q => fr (q * r)) (h := fr) (by simp [po, fl]) (by show _ ≤ 16000000; omega) (fun q hq => by
    have e := K38.l_times (S := S) (sp q hq) hr.sq
    unfold cbody
    refine noexc_ok ?_
    simp [bindTg, clr, e])
  rw [fl_map] at c
  have e1 := l_cutL (S := S) (l := p.map (· * r)) (by rw [List.length_map]; omega)
  have sm : Sql (trim (p.map (· * r))) := by
    obtain ⟨D', M', b, e, e1, e2⟩ := hr
    have hb := (hp.scaled b).trim
    refine fun q hq => (hb q hq).sq (Nat.mul_pos (by decide) e) ?_ ?_
    · exact Nat.lt_of_le_of_lt (Nat.mul_le_mul_left _ e1) (Nat.lt_of_lt_of_le (Nat.mul_lt_mul_of_pos_right (show 46656 < 2 ^ 16 by decide) (Nat.pow_pos (by decide))) (by rw [← Nat.pow_add]; exact Nat.pow_le_pow_right (by decide) (by decide)))
    · exact Nat.lt_of_le_of_lt (Nat.mul_le_mul_left _ e2) (by rw [← Nat.pow_add]; exact Nat.pow_lt_pow_right (by decide) (by decide))
  have e2 := l_both (S := S) (hF.sql hk) sm (by omega) (Nat.le_trans (trim_len _) (by rw [List.length_map]; omega))
  simp [lP_2b_1, c, e1, e2]
theorem put_2 {p q : List Rat} (h : ∃ d, ∀ S, sem__law_product [.val (po p), .val (po [0, 0, 1])] S = .ok (.val d) S ∧ sem__law_rest [.val d, .val (po P)] S = .ok (.val (po q)) S) :
    exS g__law_put_together lP_2b_2 [some (.val (po P)), a1, a2, some (.val (po [0, 0, 1])), some (.val (po p)), a5, a6] S = .ok (.nx [some (.val (po P)), a1, a2, some (.val (po [0, 0, 1])), some (.val (po q)), a5, a6]) S := by
  obtain ⟨d, h⟩ := h
  obtain ⟨h1, h2⟩ := h S
  simp [lP_2b_2, h1, h2]
/-- the powers as the law goes through them -/
def Pows (P : List Rat) (pw : List (List Rat)) : Prop := ∀ (k : Nat) (p q : List Rat), pw[k]? = some p → pw[k + 1]? = some q → ∃ d, ∀ S, sem__law_product [.val (po p), .val (po [0, 0, 1])] S = .ok (.val d) S ∧ sem__law_rest [.val d, .val (po P)] S = .ok (.val (po q)) S
theorem addUp_snoc : ∀ (pre : List Rat) (r p : Rat) (pw : List (List Rat)) (q F : List Rat), pw[pre.length]? = some q → addUp pw (pre ++ [r]) F = trim (addl (addUp pw pre F) (trim (q.map (· * r))))
  | [], r, p, pw, q, F, h => by
    cases pw with
    | nil => cases h
    | cons a as =>
      cases h
      show addUp as [] _ = _
      cases as <;> rfl
  | x :: xs, r, p, pw, q, F, h => by
    cases pw with
    | nil => cases h
    | cons a as => exact addUp_snoc xs r p as q _ h
theorem acc_pre : ∀ (rs : List Rat) (ps : List (List Rat)) (F : List Rat) (k : Nat), AccOk k F → (∀ p ∈ ps, Bdl 46656 (2 ^ 60) p) → (∀ r ∈ rs, RowOk r) → rs.length ≤ ps.length → AccOk (k + rs.length) (addUp ps rs F)
  | [], ps, F, k, h, _, _, _ => by
    cases ps <;> exact h
  | r :: rs, p :: ps, F, k, h, hp, hr, hl => by
    have := acc_pre rs ps _ (k + 1) (h.step (hp p List.mem_cons_self) (hr r List.mem_cons_self)) (fun q hq => hp q (List.mem_cons_of_mem _ hq)) (fun q hq => hr q (List.mem_cons_of_mem _ hq)) (by simpa using hl)
    rw [List.length_cons, show k + (rs.length + 1) = k + 1 + rs.length by omega]
    exact this
  | _ :: _, [], _, _, _, _, _, hl => by simp at hl
theorem s_put (hpw : Pows P pw) (h0 : pw[0]? = some [1]) (hlen : pw.length = row.length + 1) (hb : ∀ p ∈ pw, Bdl 46656 (2 ^ 60) p) (hpl : ∀ p ∈ pw, p.length ≤ n) (hr : ∀ r ∈ row, RowOk r) (hm : row.length ≤ 5) (hP : P.length = n + 1) (hn : n ≤ 5) :
    sem__law_put_together [.val (po P), .val (po row)] S = .ok (.val (po (addUp pw row []))) S := by
  have w1 : exS g__law_put_together lP_1 [some (.val (po P)), some (.val (po row)), none, none, none, none, none] S = .ok (.nx [some (.val (po P)), some (.val (po row)), none, some (.val (po [0, 0, 1])), some (.val (po [1])), some (.val (po [])), none]) S := by
    have h1 : 1 ≤ line := by decide
    have h2 : 2 ≤ line := by decide
    have h3 : 3 ≤ line := by decide
    have h0 : 0 ≤ line := by decide
    have e1 : po [0, 0, 1] = .tuple [.tuple [.int 0, .int 1], .tuple [.int 0, .int 1], .tuple [.int 1, .int 1]] := rfl
    have e2 : po [1] = .tuple [.tuple [.int 1, .int 1]] := rfl
    have e3 : po [] = .tuple [] := rfl
    simp [lP_1, h0, h1, h2, h3, bindMany, e1, e2, e3]
  obtain ⟨ρ', f, q, o2, o6, hq, rfl⟩ := for_inv (S := S) (h := fr) (body := fun d ρ => M.of (bindTg (.one 2) d ρ) >>= fun ρ2 => exSs g__law_put_together lP_2b ρ2)
    (fun (pre : List Rat) ρ => ∃ (q : List Rat) (o2 o6 : Option R), pw[pre.length]? = some q ∧ ρ = [some (.val (po P)), some (.val (po row)), o2, some (.val (po [0, 0, 1])), some (.val (po q)), some (.val (po (addUp pw pre []))), o6]) row
    (ρ := [some (.val (po P)), some (.val (po row)), none, some (.val (po [0, 0, 1])), some (.val (po [1])), some (.val (po [])), none]) ⟨[1], none, none, h0, by cases pw <;> rfl⟩ (fun pre r post ρ e => by
      rintro ⟨q, o2, o6, hq, rfl⟩
      have hl : pre.length < row.length := by
        have := congrArg List.length e
        simp at this
        omega
      have hpre : ∀ z ∈ pre, RowOk z := fun z hz => hr z (by rw [e]; exact List.mem_append_left _ hz)
      have acc := acc_pre pre pw [] 0 ⟨1, 0, fun q hq => (by cases hq), by decide, by decide, Nat.zero_le _⟩ hb hpre (by omega)
      rw [Nat.zero_add] at acc
      have hq1 : pw[pre.length + 1]? = some (pw[pre.length + 1]'(by omega)) := List.getElem?_eq_getElem (by omega)
      have qm := List.mem_of_getElem? hq
      have s1 := put_1 (S := S) (some (.val (po P))) (some (.val (po row))) (some (.val (po [0, 0, 1]))) o6 (r := r) acc (by omega) (hb q qm) (hr r (by rw [e]; simp)) (Nat.le_trans (addUp_len (n := n) pw pre [] hpl (Nat.zero_le _)) (by omega)) (Nat.le_trans (hpl q qm) (by omega))
      have s2 := put_2 (S := S) (some (.val (po row))) (some (.val (fr r))) (some (.val (po (trim (addl (addUp pw pre []) (trim (q.map (· * r)))))))) o6 (hpw _ _ _ hq hq1)
      refine ⟨[some (.val (po P)), some (.val (po row)), some (.val (fr r)), some (.val (po [0, 0, 1])), some (.val (po (pw[pre.length + 1]'(by omega)))), some (.val (po (trim (addl (addUp pw pre []) (trim (q.map (· * r))))))), o6], ?_, pw[pre.length + 1]'(by omega), some (.val (fr r)), o6, ?_, ?_⟩
      · simp only [mbind_eq, bindTg, M.of_some, ok_bind, setV_s, List.set]
        unfold lP_2b
        rw [seq_nx s1, seq_nx s2, exSs_nil, mpure_eq]
      · rw [List.length_append]
        exact hq1
      · rw [addUp_snoc pre r 0 pw q [] hq])
  have ef : exS g__law_put_together lP_2 [some (.val (po P)), some (.val (po row)), none, some (.val (po [0, 0, 1])), some (.val (po [1])), some (.val (po [])), none] S = .ok (.nx [some (.val (po P)), some (.val (po row)), o2, some (.val (po [0, 0, 1])), some (.val (po q)), some (.val (po (addUp pw row []))), o6]) S := by
    unfold lP_2
    rw [exS_for]
    simp only [frz_nil, back_same, mbind_eq, evI_it, evE_var, getV_succ, getV_zero, M.of_some, ok_bind, po, items_tuple]
    unfold po fl at f
    unfold fl
    exact f
  have lF := addUp_len (n := n) pw row [] hpl (Nat.zero_le _)
  have er := l_rest_short (S := S) (l := addUp pw row []) (m := P) (by omega) (by omega)
  rw [trim_of_tr (addUp_tr pw row [] (by simp [Tr]))] at er
  show runDef g__law_put_together 2 7 ir__law_put_together [.val (po P), .val (po row)] S = _
  rw [runDef_eq g__law_put_together 2 7 ir__law_put_together [.val (po P), .val (po row)] S rfl, lP_eq]
  show (exSs g__law_put_together _ [some (.val (po P)), some (.val (po row)), none, none, none, none, none] S).bind _ = _
  rw [seq_nx w1, seq_nx ef]
  simp [lP_3, er]
end
end K38

/-! N8 -/
set_option Elab.async false
set_option linter.all false
set_option maxRecDepth 100000
set_option maxHeartbeats 4000000
set_option exponentiation.threshold 100000
namespace K38
open PySem Pv K07
def lW_1 : Pv.S := (.asg 1 true (.call 0 (.cons (.var 0) .nil)) [])
def lW_2b_1 : Pv.S := (.asg 4 false (.call 2 (.cons (.var 1) (.cons (.call 7 .nil) .nil))) [])
def lW_2b_2 : Pv.S := (.asg 3 true (.call 3 (.cons (.call 1 (.cons (.idxO 4 (.lit (.int (0)))) .nil)) .nil)) [])
def lW_2b_3 : Pv.S := (.par 7 8 true true (.bin .Sub (.blt .len (.cons (.var 3) .nil)) (.lit (.int (1)))) (.cmp .Eq (.comp [9] (.one 9) (.it (.slc (.var 3) (.lit (.int (1))) (.lit .none) (2))) (.cons (.cmp .NotEq (.idx (.var 9) (.lit (.int (0)))) (.lit (.int (0)))) .nil) (.var 9)) (.lst .nil)) [])
def lW_2b_4 : Pv.S := (.asg 5 true (.call 4 (.cons (.var 3) .nil)) [])
def lW_2b_5 : Pv.S := (.ifS (.orv (.cmp .NotEq (.blt .repr (.cons (.call 5 (.cons (.var 3) .nil)) .nil)) (.blt .repr (.cons (.var 5) .nil))) (.cmp .NotEq (.bin .Sub (.blt .len (.cons (.var 5) .nil)) (.lit (.int (1)))) (.ite (.var 8) (.bin .FloorDiv (.var 7) (.lit (.int (2)))) (.var 7)))) (.cons (.ret (.lit (.bool false)) []) .nil) .nil [])
def lW_2b_6 : Pv.S := (.ifS (.cmp .NotEq (.call 8 (.cons (.var 3) (.cons (.var 5) .nil))) (.tup .nil)) (.cons (.ret (.lit (.bool false)) []) .nil) .nil [])
def lW_2b_7b_1 : Pv.S := (.asg 9 true (.call 9 (.cons (.var 1) (.cons (.var 7) (.cons (.call 2 (.cons (.var 1) (.cons (.lst (.cons (.lit (.int (3))) (.cons (.lit (.int (9))) (.cons (.bin .Pow (.lit (.int (10))) (.lit (.int (6)))) .nil)))) .nil))) .nil)))) [])
def lW_2b_7b_2 : Pv.S := (.asg 10 true (.call 6 (.cons (.var 3) (.cons (.var 9) .nil))) [])
def lW_2b_7b_3 : Pv.S := (.asg 11 true (.orv (.notv (.var 8)) (.cmp .Eq (.comp [12] (.one 12) (.it (.slc (.var 9) (.lit (.int (1))) (.lit .none) (2))) (.cons (.cmp .NotEq (.idx (.var 12) (.lit (.int (0)))) (.lit (.int (0)))) .nil) (.var 12)) (.lst .nil))) [])
def lW_2b_7b_4 : Pv.S := (.ifS (.cmp .NotEq (.cmp .IsNot (.var 10) (.lit .none)) (.var 11)) (.cons (.ret (.lit (.bool false)) []) .nil) .nil [])
def lW_2b_7b_5t_1 : Pv.S := (.ifS (.orv (.cmp .NotEq (.blt .len (.cons (.var 10) .nil)) (.bin .Sub (.blt .len (.cons (.var 5) .nil)) (.lit (.int (1))))) (.cmp .NotEq (.call 8 (.cons (.var 3) (.cons (.var 10) .nil))) (.var 9))) (.cons (.ret (.lit (.bool false)) []) .nil) .nil [])
def lW_2b_7b_5t_2 : Pv.S := (.ifS (.orv (.cmp .NotEq (.blt .repr (.cons (.comp [12] (.one 12) (.it (.var 10)) .nil (.call 10 (.cons (.idx (.var 12) (.lit (.int (0)))) (.cons (.idx (.var 12) (.lit (.int (1)))) .nil)))) .nil)) (.blt .repr (.cons (.blt .list (.cons (.var 10) .nil)) .nil))) (.notv (.isi (.var 10) "tuple"))) (.cons (.ret (.lit (.bool false)) []) .nil) .nil [])
def lW_2b_7b_5t : Ss := (.cons lW_2b_7b_5t_1 (.cons lW_2b_7b_5t_2 .nil))
def lW_2b_7b_5 : Pv.S := (.ifS (.cmp .IsNot (.var 10) (.lit .none)) lW_2b_7b_5t .nil [])
def lW_2b_7b : Ss := (.cons lW_2b_7b_1 (.cons lW_2b_7b_2 (.cons lW_2b_7b_3 (.cons lW_2b_7b_4 (.cons lW_2b_7b_5 .nil)))))
def lW_2b_7 : Pv.S := (.for_ (.one 6) (.rng (.cons (.lit (.int (4))) .nil)) lW_2b_7b [])
def lW_2b_8 : Pv.S := (.ifS (.cmp .NotEq (.blt .repr (.cons (.call 6 (.cons (.var 3) (.cons (.tup .nil) .nil))) .nil)) (.blt .repr (.cons (.bin .Mult (.tup (.cons (.tup (.cons (.lit (.int (0))) (.cons (.lit (.int (1))) .nil))) .nil)) (.bin .Sub (.blt .len (.cons (.var 5) .nil)) (.lit (.int (1))))) .nil))) (.cons (.ret (.lit (.bool false)) []) .nil) .nil [])
def lW_2b : Ss := (.cons lW_2b_1 (.cons lW_2b_2 (.cons lW_2b_3 (.cons lW_2b_4 (.cons lW_2b_5 (.cons lW_2b_6 (.cons lW_2b_7 (.cons lW_2b_8 .nil))))))))
def lW_2 : Pv.S := (.for_ (.one 2) (.rng (.cons (.lit (.int (4))) .nil)) lW_2b [])
def lW_3 : Pv.S := (.asg 3 true (.call 1 (.cons (.tup (.cons (.lit (.int (2))) (.cons (.neg (.lit (.int (4)))) (.cons (.lit (.int (1))) .nil)))) .nil)) [])
def lW_4 : Pv.S := (.asg 4 false (.lst (.cons (.call 5 (.cons (.var 3) .nil)) (.cons (.call 6 (.cons (.var 3) (.cons (.tup (.cons (.tup (.cons (.lit (.int (2))) (.cons (.lit (.int (1))) .nil))) (.cons (.tup (.cons (.neg (.lit (.int (1)))) (.cons (.lit (.int (2))) .nil))) .nil))) .nil))) .nil))) [])
def lW_5 : Pv.S := (.app 4 (.call 6 (.cons (.call 1 (.cons (.tup (.cons (.neg (.lit (.int (2)))) (.cons (.lit (.int (0))) (.cons (.lit (.int (1))) .nil)))) .nil)) (.cons (.call 1 (.cons (.tup (.cons (.lit (.int (0))) (.cons (.lit (.int (1))) .nil))) .nil)) .nil))) [])
def lW_6 : Pv.S := (.ret (.cmp .Eq (.blt .repr (.cons (.var 4) .nil)) (.blt .repr (.cons (.lst (.cons (.call 1 (.cons (.tup (.cons (.lit (.int (4))) (.cons (.neg (.lit (.int (12)))) (.cons (.lit (.int (1))) .nil)))) .nil)) (.cons (.tup (.cons (.tup (.cons (.lit (.int (7))) (.cons (.lit (.int (4))) .nil))) (.cons (.tup (.cons (.neg (.lit (.int (1)))) (.cons (.lit (.int (8))) .nil))) .nil))) (.cons (.lit .none) .nil)))) .nil))) [4])
theorem lW_eq : ir_law = (.cons lW_1 (.cons lW_2 (.cons lW_3 (.cons lW_4 (.cons lW_5 (.cons lW_6 .nil)))))) := (rfl)
def comb (n : Nat) : List Rat → List (List Rat) → List Rat
  | a :: as, C :: Cs => List.zipWith (· + ·) (C.map (· * a)) (comb n as Cs)
  | _, _ => List.replicate n 0
/-- a told polynomial and what belongs to it -/
structure PD where
  n : Nat
  m : Nat
  ev : Bool
  P : List Rat
  Q : List Rat
  pw : List (List Rat)
def odds (n : Nat) : List Nat := (List.range n).filter fun i => i % 2 == 1
def chk (p : PD) : Bool := decide (p.P.length = p.n + 1) && decide (p.n ≤ 4) && decide (p.m ≤ p.n) && decide (p.Q.length = p.m + 1) && decide (p.pw.length = p.m + 1) && decide (p.pw[0]? = some [1]) &&
  (p.pw.all fun l => decide (l.length ≤ p.n) && l.all fun q => decide (q.den ∣ 46656) && decide (q.num.natAbs * (46656 / q.den) ≤ 2 ^ 60)) &&
  (match run p.n (p.m + p.n) (rows0 p.n p.pw.dropLast) p.m with
  | none => false
  | some B => decide (B.length = p.n) && (B.all fun b => decide (b.length = p.m + p.n) && b.all okQ) &&
    ((List.range p.n).all fun i => decide (comb p.n (p.pw.dropLast.map fun l => l[i]?.getD 0) ((B.take p.m).map fun b => b.drop p.m) = if p.ev && i % 2 == 1 then List.replicate p.n 0 else unit p.n i)) &&
    decide ((B.drop p.m).map (fun b => b.drop p.m) = if p.ev then (odds p.n).map (unit p.n) else []))
def W26 : Ss := .cons lW_2b_2 (.cons lW_2b_3 (.cons lW_2b_4 (.cons lW_2b_5 (.cons lW_2b_6 .nil))))
structure Good (T : PyData) (p : PD) : Prop where
  pre : ∀ (a0 a1 a2 a3 a5 a6 a7 a8 a9 a10 a11 a12 : Option R) (S : SS), exSs g_law W26 [a0, a1, a2, a3, some (.val (T)), a5, a6, a7, a8, a9, a10, a11, a12] S = .ok (.nx [a0, a1, a2, some (.val (po p.P)), some (.val (T)), some (.val (po p.Q)), a6, some (.val (.int p.n)), some (.val (.bool p.ev)), a9, a10, a11, a12]) S
  suf : ∀ (a0 a1 a2 a4 a6 a7 a8 a9 a10 a11 a12 : Option R) (S : SS), exS g_law lW_2b_8 [a0, a1, a2, some (.val (po p.P)), a4, some (.val (po p.Q)), a6, a7, a8, a9, a10, a11, a12] S = .ok (.nx [a0, a1, a2, some (.val (po p.P)), a4, some (.val (po p.Q)), a6, a7, a8, a9, a10, a11, a12]) S
  pows : ∀ S, sem_square_powers [.val (po p.P)] S = .ok (.own (p.pw.dropLast.map po)) S
  pws : Pows p.P p.pw
  plain : chk p = true
/-- a number with powers that the square does not reach -/
def nz (X : List Rat) : Bool := (evens X.tail).any fun q => !decide (q = 0)
section
variable {S : SS} {T : PyData} {p : PD} {X : List Rat} {B : List (List Rat)} {n m : Nat}
theorem dot_mul (a : Rat) : ∀ (c x : List Rat), dot (c.map (· * a)) x = dot c x * a
  | [], _ => (Rat.zero_mul a).symm
  | c :: cs, x => by
    show c * a * x.headD 0 + dot (cs.map (· * a)) x.tail = (c * x.headD 0 + dot cs x.tail) * a
    rw [dot_mul a cs]
    grind
theorem dot_add : ∀ (c d x : List Rat), c.length = d.length → dot (List.zipWith (· + ·) c d) x = dot c x + dot d x
  | [], [], x, _ => (Rat.add_zero 0).symm
  | c :: cs, d :: ds, x, h => by
    show (c + d) * x.headD 0 + dot (List.zipWith (· + ·) cs ds) x.tail = (c * x.headD 0 + dot cs x.tail) + (d * x.headD 0 + dot ds x.tail)
    rw [dot_add cs ds x.tail (Nat.succ.inj h)]
    grind
  | [], _ :: _, _, h => by cases h
  | _ :: _, [], _, h => by cases h
theorem comb_len : ∀ (as : List Rat) (Cs : List (List Rat)), (∀ C ∈ Cs, C.length = n) → (comb n as Cs).length = n
  | a :: as, C :: Cs, h => by
    show (List.zipWith (· + ·) (C.map (· * a)) (comb n as Cs)).length = n
    rw [List.length_zipWith, List.length_map, comb_len as Cs fun D hD => h D (List.mem_cons_of_mem _ hD), h C List.mem_cons_self, Nat.min_self]
  | [], _, _ => List.length_replicate
  | _ :: _, [], _ => List.length_replicate
theorem dot_comb (i : Nat) (x : List Rat) : ∀ (ps : List (List Rat)) (Cs : List (List Rat)), (∀ C ∈ Cs, C.length = n) → sumAt ps (Cs.map fun C => dot C x) i = dot (comb n (ps.map fun l => l[i]?.getD 0) Cs) x
  | p :: ps, C :: Cs, h => by
    show p[i]?.getD 0 * dot C x + sumAt ps (Cs.map fun C => dot C x) i = dot (List.zipWith (· + ·) (C.map (· * (p[i]?.getD 0))) (comb n (ps.map fun l => l[i]?.getD 0) Cs)) x
    have hr : ∀ D ∈ Cs, D.length = n := fun D hD => h D (List.mem_cons_of_mem _ hD)
    rw [dot_add _ _ _ (by rw [List.length_map, comb_len _ _ hr, h C List.mem_cons_self]), dot_mul, dot_comb i x ps Cs hr, Rat.mul_comm]
  | [], Cs, _ => by
    show (0 : Rat) = dot (comb n [] Cs) x
    have e : comb n [] Cs = List.replicate n 0 := by cases Cs <;> rfl
    rw [e, dot_zeros]
  | _ :: _, [], _ => (dot_zeros n x).symm
theorem sumAt_drop (i : Nat) : ∀ (ps : List (List Rat)) (rs : List Rat), rs.length < ps.length → sumAt ps rs i = sumAt ps.dropLast rs i
  | [], _, h => by simp at h
  | p :: ps, [], _ => by cases ps <;> rfl
  | p :: [], r :: rs, h => by simp at h
  | p :: q :: ps, r :: rs, h => by
    show p[i]?.getD 0 * r + sumAt (q :: ps) rs i = p[i]?.getD 0 * r + sumAt (q :: ps).dropLast rs i
    rw [sumAt_drop i (q :: ps) rs (by simpa using h)]
structure Pl (p : PD) (B : List (List Rat)) : Prop where
  hP : p.P.length = p.n + 1
  n4 : p.n ≤ 4
  mn : p.m ≤ p.n
  hQ : p.Q.length = p.m + 1
  hpw : p.pw.length = p.m + 1
  h0 : p.pw[0]? = some [1]
  bl : ∀ l ∈ p.pw, Bdl 46656 (2 ^ 60) l
  pl : ∀ l ∈ p.pw, l.length ≤ p.n
  hr : run p.n (p.m + p.n) (rows0 p.n p.pw.dropLast) p.m = some B
  hB : B.length = p.n
  hw : ∀ b ∈ B, b.length = p.m + p.n
  hq : ∀ b ∈ B, ∀ q ∈ b, okQ q = true
  hc : ∀ i, i < p.n → comb p.n (p.pw.dropLast.map fun l => l[i]?.getD 0) ((B.take p.m).map fun b => b.drop p.m) = if p.ev && i % 2 == 1 then List.replicate p.n 0 else unit p.n i
  hd : (B.drop p.m).map (fun b => b.drop p.m) = if p.ev then (odds p.n).map (unit p.n) else []
theorem pl_of (h : chk p = true) : ∃ B, Pl p B := by
  unfold chk at h
  simp only [Bool.and_eq_true, decide_eq_true_eq] at h
  obtain ⟨⟨⟨⟨⟨⟨⟨h1, h2⟩, h3⟩, h4⟩, h5⟩, h6⟩, h7⟩, h8⟩ := h
  split at h8
  · cases h8
  · rename_i B hB
    simp only [Bool.and_eq_true, decide_eq_true_eq, List.all_eq_true] at h7 h8
    obtain ⟨⟨⟨g1, g2⟩, g3⟩, g4⟩ := h8
    refine ⟨B, h1, h2, h3, h4, h5, h6, fun l hl q hq => ?_, fun l hl => (h7 l hl).1, hB, g1, fun b hb => (g2 b hb).1, fun b hb => (g2 b hb).2, fun i hi => ?_, g4⟩
    · obtain ⟨d1, d2⟩ := (h7 l hl).2 q hq
      have hb := (K07.Bd.self q).scale (46656 / q.den)
      rw [Nat.mul_div_cancel' d1] at hb
      exact hb.mono d2
    · have := g3 i (List.mem_range.mpr hi)
      rw [this]
      congr 1
      simp
theorem ev_get (X : List Rat) (k : Nat) : (evens X.tail)[k]? = X[2 * k + 1]? := by
  rw [evens_get]
  cases X with
  | nil => rfl
  | cons x xs => rfl
theorem nz_iff : nz X = false ↔ ∀ k, X[2 * k + 1]?.getD 0 = 0 := by
  unfold nz
  constructor
  · intro h k
    have h2 : ∀ q ∈ evens X.tail, q = 0 := by
      intro q hq
      have := List.any_eq_false.mp h q hq
      simpa using this
    cases e : X[2 * k + 1]? with
    | none => rfl
    | some q =>
      rw [← ev_get] at e
      exact h2 q (List.mem_of_getElem? e)
  · intro h
    rw [List.any_eq_false]
    intro q hq
    obtain ⟨k, hk, e⟩ := List.getElem_of_mem hq
    have e2 : (evens X.tail)[k]? = some q := by rw [List.getElem?_eq_getElem hk, e]
    rw [ev_get] at e2
    have := h k
    rw [e2] at this
    have hq0 : q = 0 := this
    simp [hq0]
theorem left_eq (h : Pl p B) (hX : X.length ≤ p.n) : left p.m B X = (p.ev && nz X) := by
  have e : left p.m B X = ((B.drop p.m).map fun b => b.drop p.m).any fun c => !decide (dot c X = 0) := by
    unfold left
    rw [List.any_map]
    rfl
  rw [e, h.hd]
  cases hev : p.ev with
  | false => rfl
  | true =>
    rw [if_pos rfl, Bool.true_and, List.any_map]
    cases hn : nz X with
    | false =>
      rw [nz_iff] at hn
      rw [List.any_eq_false]
      intro i hi
      have hi := List.mem_filter.mp hi
      have ho : i % 2 = 1 := by simpa using hi.2
      have hk := hn (i / 2)
      rw [show 2 * (i / 2) + 1 = i by omega] at hk
      show ¬ (!decide (dot (unit p.n i) X = 0)) = true
      rw [dot_unit, hk]
      simp
    | true =>
      have hx : ∃ k, X[2 * k + 1]?.getD 0 ≠ 0 := by
        apply Classical.byContradiction
        intro hc
        have : nz X = false := nz_iff.mpr fun k => Classical.byContradiction fun hk => hc ⟨k, hk⟩
        rw [this] at hn
        cases hn
      obtain ⟨k, hk⟩ := hx
      rw [List.any_eq_true]
      have hlt : 2 * k + 1 < X.length := by
        by_cases hl : 2 * k + 1 < X.length
        · exact hl
        · rw [List.getElem?_eq_none (by omega)] at hk
          exact absurd rfl hk
      refine ⟨2 * k + 1, List.mem_filter.mpr ⟨List.mem_range.mpr (by omega), by simp⟩, ?_⟩
      show (!decide (dot (unit p.n (2 * k + 1)) X = 0)) = true
      rw [dot_unit, decide_eq_false hk]
      rfl
theorem tr_ext {l m : List Rat} (hl : Tr l) (hm : Tr m) (h : ∀ i : Nat, l[i]?.getD 0 = m[i]?.getD 0) : l = m := by
  have key : ∀ {l m : List Rat}, Tr l → (∀ i : Nat, l[i]?.getD 0 = m[i]?.getD 0) → l.length ≤ m.length := by
    intro l m hl h
    rcases List.eq_nil_or_concat l with rfl | ⟨k, c, e⟩
    · exact Nat.zero_le _
    · rw [List.concat_eq_append] at e
      subst e
      have hc : c ≠ 0 := fun e => hl (by rw [e, List.getLast?_append]; rfl)
      have := h k.length
      rw [List.getElem?_append_right (Nat.le_refl _), Nat.sub_self] at this
      have this : c = m[k.length]?.getD 0 := this
      by_cases hlt : k.length < m.length
      · rw [List.length_append, List.length_singleton]
        omega
      · rw [List.getElem?_eq_none (by omega)] at this
        exact absurd this hc
  have e1 := key hl h
  have e2 := key hm fun i => (h i).symm
  apply List.ext_getElem?
  intro i
  by_cases hi : i < l.length
  · have h1 := h i
    rw [List.getElem?_eq_getElem hi, List.getElem?_eq_getElem (show i < m.length by omega)] at h1
    rw [List.getElem?_eq_getElem hi, List.getElem?_eq_getElem (show i < m.length by omega)]
    exact congrArg some h1
  · rw [List.getElem?_eq_none (by omega), List.getElem?_eq_none (by omega)]
theorem sol_len (h : Pl p B) : (sol p.m B X).length = p.m := by
  unfold sol
  rw [List.length_map, List.length_take, h.hB, Nat.min_eq_left h.mn]
theorem sol_ok (h : Pl p B) (hx : Bdl 12 (2 ^ 30) X) : ∀ r ∈ sol p.m B X, RowOk r := by
  intro r hr
  unfold sol at hr
  obtain ⟨b, hb, rfl⟩ := List.mem_map.mp hr
  have hb := List.mem_of_mem_take hb
  obtain ⟨D, M, b1, d1, d2, d3⟩ := dot_bd (c := b.drop p.m) (x := X) (fun q hq => h.hq b hb q (List.mem_of_mem_drop hq)) hx
  have hl : (b.drop p.m).length = p.n := by rw [List.length_drop, h.hw b hb]; omega
  have n4 := h.n4
  rw [hl] at d2 d3
  exact ⟨D, M, b1, d1, Nat.le_trans d2 (Nat.pow_le_pow_right (by decide) (by omega)), Nat.le_trans d3 (Nat.pow_le_pow_right (by decide) (by omega))⟩
theorem add_up (h : Pl p B) (hX : X.length ≤ p.n) (tX : Tr X) (hz : (p.ev && nz X) = false) : addUp p.pw (sol p.m B X) [] = X := by
  refine tr_ext (addUp_tr _ _ _ (by simp [Tr])) tX fun i => ?_
  rw [addUp_get]
  show (0 : Rat) + _ = _
  rw [Rat.zero_add]
  by_cases hi : i < p.n
  · rw [sumAt_drop i _ _ (by rw [sol_len h, h.hpw]; omega)]
    have e : sol p.m B X = ((B.take p.m).map fun b => b.drop p.m).map fun C => dot C X := by
      unfold sol
      rw [List.map_map]
      rfl
    rw [e, dot_comb (n := p.n) i X _ _ (fun C hC => by
      obtain ⟨b, hb, rfl⟩ := List.mem_map.mp hC
      rw [List.length_drop, h.hw b (List.mem_of_mem_take hb)]
      omega), h.hc i hi]
    split
    · rename_i hc
      simp only [Bool.and_eq_true, beq_iff_eq] at hc
      rw [hc.1, Bool.true_and] at hz
      have := (nz_iff.mp hz) (i / 2)
      rw [show 2 * (i / 2) + 1 = i by omega] at this
      rw [dot_zeros, this]
    · rw [dot_unit]
  · have hl := addUp_len (n := p.n) p.pw (sol p.m B X) [] h.pl (Nat.zero_le _)
    have e := addUp_get p.pw (sol p.m B X) [] i
    rw [List.getElem?_eq_none (by omega)] at e
    have e : (0 : Rat) = 0 + sumAt p.pw (sol p.m B X) i := e
    rw [Rat.zero_add] at e
    rw [← e, List.getElem?_eq_none (by omega)]
    rfl
theorem g_in (g : Good T p) (h : Pl p B) (hx : Bdl 12 (2 ^ 30) X) (hX : X.length ≤ p.n) : sem_in_squares [.val (po p.P), .val (po X)] S = .ok (.val (if p.ev && nz X then .none else po (sol p.m B X))) S := by
  have n4 := h.n4
  have mn := h.mn
  have hl : p.pw.dropLast.length = p.m := by rw [List.length_dropLast, h.hpw]; omega
  have e := s_in_squares (S := S) (X := X) (B' := B) g.pows h.hP (by omega) (by rw [hl]; exact mn) (by rw [hl]; exact h.hr) h.hB (fun b hb => by rw [hl, h.hw b hb]; omega) hx
  rw [hl, left_eq h hX] at e
  exact e
theorem g_put (g : Good T p) (h : Pl p B) (hx : Bdl 12 (2 ^ 30) X) (hX : X.length ≤ p.n) (tX : Tr X) (hz : (p.ev && nz X) = false) : sem__law_put_together [.val (po p.P), .val (po (sol p.m B X))] S = .ok (.val (po X)) S := by
  have n4 := h.n4
  have mn := h.mn
  have e := s_put (S := S) (P := p.P) (row := sol p.m B X) (n := p.n) g.pws h.h0 (by rw [sol_len h, h.hpw]) h.bl h.pl (sol_ok h hx) (by rw [sol_len h]; omega) h.hP (by omega)
  rw [add_up h hX tX hz] at e
  exact e
end
end K38

/-! N9 -/
set_option Elab.async false
set_option linter.all false
set_option maxRecDepth 100000
set_option maxHeartbeats 4000000
set_option exponentiation.threshold 100000
namespace K38
open PySem Pv K07
def p0 : PD := ⟨2, 2, false, [2, (-4), 1], [4, (-12), 1], [[1], [(-2), 4], [(-28), 48]]⟩
def t0 : PyData := .tuple [.tuple [.int 2, .int (-4), .int 1], .tuple [.int 3, .int 4]]
theorem good0 : Good t0 p0 where
  pre := fun _ _ _ _ _ _ _ _ _ _ _ _ _ => by kernel_rfl
  suf := fun _ _ _ _ _ _ _ _ _ _ _ _ => by kernel_rfl
  pows := fun _ => by kernel_rfl
  pws := fun k p q h1 h2 => by
    match k, h1, h2 with
    | 0, rfl, rfl => exact ⟨po (0 :: 0 :: [1]), fun _ => ⟨by kernel_rfl, by kernel_rfl⟩⟩
    | 1, rfl, rfl => exact ⟨po (0 :: 0 :: [(-2), 4]), fun _ => ⟨by kernel_rfl, by kernel_rfl⟩⟩
    | (_ + 2), h1, h2 => exact absurd h2 (by simp [p0])
  plain := by decide +kernel
def p1 : PD := ⟨2, 2, false, [1, (-3), 1], [1, (-7), 1], [[1], [(-1), 3], [(-8), 21]]⟩
def t1 : PyData := .tuple [.tuple [.int 1, .int (-3), .int 1], .tuple [.int 2, .int 3]]
theorem good1 : Good t1 p1 where
  pre := fun _ _ _ _ _ _ _ _ _ _ _ _ _ => by kernel_rfl
  suf := fun _ _ _ _ _ _ _ _ _ _ _ _ => by kernel_rfl
  pows := fun _ => by kernel_rfl
  pws := fun k p q h1 h2 => by
    match k, h1, h2 with
    | 0, rfl, rfl => exact ⟨po (0 :: 0 :: [1]), fun _ => ⟨by kernel_rfl, by kernel_rfl⟩⟩
    | 1, rfl, rfl => exact ⟨po (0 :: 0 :: [(-1), 3]), fun _ => ⟨by kernel_rfl, by kernel_rfl⟩⟩
    | (_ + 2), h1, h2 => exact absurd h2 (by simp [p1])
  plain := by decide +kernel
def p2 : PD := ⟨2, 1, true, [(-2), 0, 1], [(-2), 1], [[1], [2]]⟩
def t2 : PyData := .tuple [.tuple [.int (-2), .int 0, .int 1], .tuple [.int 1, .int 2]]
theorem good2 : Good t2 p2 where
  pre := fun _ _ _ _ _ _ _ _ _ _ _ _ _ => by kernel_rfl
  suf := fun _ _ _ _ _ _ _ _ _ _ _ _ => by kernel_rfl
  pows := fun _ => by kernel_rfl
  pws := fun k p q h1 h2 => by
    match k, h1, h2 with
    | 0, rfl, rfl => exact ⟨po (0 :: 0 :: [1]), fun _ => ⟨by kernel_rfl, by kernel_rfl⟩⟩
    | (_ + 1), h1, h2 => exact absurd h2 (by simp [p2])
  plain := by decide +kernel
def p3 : PD := ⟨2, 1, true, [(-3), 0, 1], [(-3), 1], [[1], [3]]⟩
def t3 : PyData := .tuple [.tuple [.int (-3), .int 0, .int 1], .tuple [.int 1, .int 2]]
theorem good3 : Good t3 p3 where
  pre := fun _ _ _ _ _ _ _ _ _ _ _ _ _ => by kernel_rfl
  suf := fun _ _ _ _ _ _ _ _ _ _ _ _ => by kernel_rfl
  pows := fun _ => by kernel_rfl
  pws := fun k p q h1 h2 => by
    match k, h1, h2 with
    | 0, rfl, rfl => exact ⟨po (0 :: 0 :: [1]), fun _ => ⟨by kernel_rfl, by kernel_rfl⟩⟩
    | (_ + 1), h1, h2 => exact absurd h2 (by simp [p3])
  plain := by decide +kernel
def p4 : PD := ⟨2, 2, false, [(-1), (-1), 1], [1, (-3), 1], [[1], [1, 1], [2, 3]]⟩
def t4 : PyData := .tuple [.tuple [.int (-1), .int (-1), .int 1], .tuple [.int 1, .int 2]]
theorem good4 : Good t4 p4 where
  pre := fun _ _ _ _ _ _ _ _ _ _ _ _ _ => by kernel_rfl
  suf := fun _ _ _ _ _ _ _ _ _ _ _ _ => by kernel_rfl
  pows := fun _ => by kernel_rfl
  pws := fun k p q h1 h2 => by
    match k, h1, h2 with
    | 0, rfl, rfl => exact ⟨po (0 :: 0 :: [1]), fun _ => ⟨by kernel_rfl, by kernel_rfl⟩⟩
    | 1, rfl, rfl => exact ⟨po (0 :: 0 :: [1, 1]), fun _ => ⟨by kernel_rfl, by kernel_rfl⟩⟩
    | (_ + 2), h1, h2 => exact absurd h2 (by simp [p4])
  plain := by decide +kernel
def p5 : PD := ⟨3, 3, false, [1, (-2), (-1), 1], [(-1), 6, (-5), 1], [[1], [0, 0, 1], [(-1), 1, 3], [(-4), 5, 9]]⟩
def t5 : PyData := .tuple [.tuple [.int 1, .int (-2), .int (-1), .int 1], .tuple [.int 1, .int 2]]
theorem good5 : Good t5 p5 where
  pre := fun _ _ _ _ _ _ _ _ _ _ _ _ _ => by kernel_rfl
  suf := fun _ _ _ _ _ _ _ _ _ _ _ _ => by kernel_rfl
  pows := fun _ => by kernel_rfl
  pws := fun k p q h1 h2 => by
    match k, h1, h2 with
    | 0, rfl, rfl => exact ⟨po (0 :: 0 :: [1]), fun _ => ⟨by kernel_rfl, by kernel_rfl⟩⟩
    | 1, rfl, rfl => exact ⟨po (0 :: 0 :: [0, 0, 1]), fun _ => ⟨by kernel_rfl, by kernel_rfl⟩⟩
    | 2, rfl, rfl => exact ⟨po (0 :: 0 :: [(-1), 1, 3]), fun _ => ⟨by kernel_rfl, by kernel_rfl⟩⟩
    | (_ + 3), h1, h2 => exact absurd h2 (by simp [p5])
  plain := by decide +kernel
def p6 : PD := ⟨3, 3, false, [(-1), 6, (-5), 1], [(-1), 26, (-13), 1], [[1], [0, 0, 1], [5, (-29), 19], [66, (-377), 221]]⟩
def t6 : PyData := .tuple [.tuple [.int (-1), .int 6, .int (-5), .int 1], .tuple [.int 0, .int 1]]
theorem good6 : Good t6 p6 where
  pre := fun _ _ _ _ _ _ _ _ _ _ _ _ _ => by kernel_rfl
  suf := fun _ _ _ _ _ _ _ _ _ _ _ _ => by kernel_rfl
  pows := fun _ => by kernel_rfl
  pws := fun k p q h1 h2 => by
    match k, h1, h2 with
    | 0, rfl, rfl => exact ⟨po (0 :: 0 :: [1]), fun _ => ⟨by kernel_rfl, by kernel_rfl⟩⟩
    | 1, rfl, rfl => exact ⟨po (0 :: 0 :: [0, 0, 1]), fun _ => ⟨by kernel_rfl, by kernel_rfl⟩⟩
    | 2, rfl, rfl => exact ⟨po (0 :: 0 :: [5, (-29), 19]), fun _ => ⟨by kernel_rfl, by kernel_rfl⟩⟩
    | (_ + 3), h1, h2 => exact absurd h2 (by simp [p6])
  plain := by decide +kernel
def p7 : PD := ⟨3, 3, false, [(-2), 0, 0, 1], [(-4), 0, 0, 1], [[1], [0, 0, 1], [0, 2], [4]]⟩
def t7 : PyData := .tuple [.tuple [.int (-2), .int 0, .int 0, .int 1], .tuple [.int 1, .int 2]]
theorem good7 : Good t7 p7 where
  pre := fun _ _ _ _ _ _ _ _ _ _ _ _ _ => by kernel_rfl
  suf := fun _ _ _ _ _ _ _ _ _ _ _ _ => by kernel_rfl
  pows := fun _ => by kernel_rfl
  pws := fun k p q h1 h2 => by
    match k, h1, h2 with
    | 0, rfl, rfl => exact ⟨po (0 :: 0 :: [1]), fun _ => ⟨by kernel_rfl, by kernel_rfl⟩⟩
    | 1, rfl, rfl => exact ⟨po (0 :: 0 :: [0, 0, 1]), fun _ => ⟨by kernel_rfl, by kernel_rfl⟩⟩
    | 2, rfl, rfl => exact ⟨po (0 :: 0 :: [0, 2]), fun _ => ⟨by kernel_rfl, by kernel_rfl⟩⟩
    | (_ + 3), h1, h2 => exact absurd h2 (by simp [p7])
  plain := by decide +kernel
def p8 : PD := ⟨1, 1, false, [(-(3 / 2) : Rat), 1], [(-(9 / 4) : Rat), 1], [[1], [(9 / 4 : Rat)]]⟩
def t8 : PyData := .tuple [.tuple [.int (-3), .int 2], .tuple [.int 1, .int 2]]
theorem good8 : Good t8 p8 where
  pre := fun _ _ _ _ _ _ _ _ _ _ _ _ _ => by kernel_rfl
  suf := fun _ _ _ _ _ _ _ _ _ _ _ _ => by kernel_rfl
  pows := fun _ => by kernel_rfl
  pws := fun k p q h1 h2 => by
    match k, h1, h2 with
    | 0, rfl, rfl => exact ⟨po (0 :: 0 :: [1]), fun _ => ⟨by kernel_rfl, by kernel_rfl⟩⟩
    | (_ + 1), h1, h2 => exact absurd h2 (by simp [p8])
  plain := by decide +kernel
def p9 : PD := ⟨2, 2, false, [1, (-4), 1], [1, (-14), 1], [[1], [(-1), 4], [(-15), 56]]⟩
def t9 : PyData := .tuple [.tuple [.int 1, .int (-4), .int 1], .tuple [.int 3, .int 4]]
theorem good9 : Good t9 p9 where
  pre := fun _ _ _ _ _ _ _ _ _ _ _ _ _ => by kernel_rfl
  suf := fun _ _ _ _ _ _ _ _ _ _ _ _ => by kernel_rfl
  pows := fun _ => by kernel_rfl
  pws := fun k p q h1 h2 => by
    match k, h1, h2 with
    | 0, rfl, rfl => exact ⟨po (0 :: 0 :: [1]), fun _ => ⟨by kernel_rfl, by kernel_rfl⟩⟩
    | 1, rfl, rfl => exact ⟨po (0 :: 0 :: [(-1), 4]), fun _ => ⟨by kernel_rfl, by kernel_rfl⟩⟩
    | (_ + 2), h1, h2 => exact absurd h2 (by simp [p9])
  plain := by decide +kernel
def p10 : PD := ⟨3, 3, false, [(-1), 3, (-4), 1], [(-1), 1, (-10), 1], [[1], [0, 0, 1], [4, (-11), 13], [41, (-110), 129]]⟩
def t10 : PyData := .tuple [.tuple [.int (-1), .int 3, .int (-4), .int 1], .tuple [.int 3, .int 4]]
theorem good10 : Good t10 p10 where
  pre := fun _ _ _ _ _ _ _ _ _ _ _ _ _ => by kernel_rfl
  suf := fun _ _ _ _ _ _ _ _ _ _ _ _ => by kernel_rfl
  pows := fun _ => by kernel_rfl
  pws := fun k p q h1 h2 => by
    match k, h1, h2 with
    | 0, rfl, rfl => exact ⟨po (0 :: 0 :: [1]), fun _ => ⟨by kernel_rfl, by kernel_rfl⟩⟩
    | 1, rfl, rfl => exact ⟨po (0 :: 0 :: [0, 0, 1]), fun _ => ⟨by kernel_rfl, by kernel_rfl⟩⟩
    | 2, rfl, rfl => exact ⟨po (0 :: 0 :: [4, (-11), 13]), fun _ => ⟨by kernel_rfl, by kernel_rfl⟩⟩
    | (_ + 3), h1, h2 => exact absurd h2 (by simp [p10])
  plain := by decide +kernel
def p11 : PD := ⟨4, 2, true, [1, 0, (-4), 0, 1], [1, (-4), 1], [[1], [0, 0, 1], [(-1), 0, 4]]⟩
def t11 : PyData := .tuple [.tuple [.int 1, .int 0, .int (-4), .int 0, .int 1], .tuple [.int 1, .int 2]]
theorem good11 : Good t11 p11 where
  pre := fun _ _ _ _ _ _ _ _ _ _ _ _ _ => by kernel_rfl
  suf := fun _ _ _ _ _ _ _ _ _ _ _ _ => by kernel_rfl
  pows := fun _ => by kernel_rfl
  pws := fun k p q h1 h2 => by
    match k, h1, h2 with
    | 0, rfl, rfl => exact ⟨po (0 :: 0 :: [1]), fun _ => ⟨by kernel_rfl, by kernel_rfl⟩⟩
    | 1, rfl, rfl => exact ⟨po (0 :: 0 :: [0, 0, 1]), fun _ => ⟨by kernel_rfl, by kernel_rfl⟩⟩
    | (_ + 2), h1, h2 => exact absurd h2 (by simp [p11])
  plain := by decide +kernel
def p12 : PD := ⟨4, 4, false, [1, (-8), 14, (-7), 1], [1, (-36), 86, (-21), 1], [[1], [0, 0, 1], [(-1), 8, (-14), 7], [(-35), 273, (-435), 155], [(-650), 5045, (-7895), 2653]]⟩
def t12 : PyData := .tuple [.tuple [.int 1, .int (-8), .int 14, .int (-7), .int 1], .tuple [.int 2, .int 3]]
theorem good12 : Good t12 p12 where
  pre := fun _ _ _ _ _ _ _ _ _ _ _ _ _ => by kernel_rfl
  suf := fun _ _ _ _ _ _ _ _ _ _ _ _ => by kernel_rfl
  pows := fun _ => by kernel_rfl
  pws := fun k p q h1 h2 => by
    match k, h1, h2 with
    | 0, rfl, rfl => exact ⟨po (0 :: 0 :: [1]), fun _ => ⟨by kernel_rfl, by kernel_rfl⟩⟩
    | 1, rfl, rfl => exact ⟨po (0 :: 0 :: [0, 0, 1]), fun _ => ⟨by kernel_rfl, by kernel_rfl⟩⟩
    | 2, rfl, rfl => exact ⟨po (0 :: 0 :: [(-1), 8, (-14), 7]), fun _ => ⟨by kernel_rfl, by kernel_rfl⟩⟩
    | 3, rfl, rfl => exact ⟨po (0 :: 0 :: [(-35), 273, (-435), 155]), fun _ => ⟨by kernel_rfl, by kernel_rfl⟩⟩
    | (_ + 4), h1, h2 => exact absurd h2 (by simp [p12])
  plain := by decide +kernel
def p13 : PD := ⟨4, 4, false, [(-1), (-1), 0, 0, 1], [1, (-1), (-2), 0, 1], [[1], [0, 0, 1], [1, 1], [0, 0, 1, 1], [1, 2, 1]]⟩
def t13 : PyData := .tuple [.tuple [.int (-1), .int (-1), .int 0, .int 0, .int 1], .tuple [.int 1, .int 2]]
theorem good13 : Good t13 p13 where
  pre := fun _ _ _ _ _ _ _ _ _ _ _ _ _ => by kernel_rfl
  suf := fun _ _ _ _ _ _ _ _ _ _ _ _ => by kernel_rfl
  pows := fun _ => by kernel_rfl
  pws := fun k p q h1 h2 => by
    match k, h1, h2 with
    | 0, rfl, rfl => exact ⟨po (0 :: 0 :: [1]), fun _ => ⟨by kernel_rfl, by kernel_rfl⟩⟩
    | 1, rfl, rfl => exact ⟨po (0 :: 0 :: [0, 0, 1]), fun _ => ⟨by kernel_rfl, by kernel_rfl⟩⟩
    | 2, rfl, rfl => exact ⟨po (0 :: 0 :: [1, 1]), fun _ => ⟨by kernel_rfl, by kernel_rfl⟩⟩
    | 3, rfl, rfl => exact ⟨po (0 :: 0 :: [0, 0, 1, 1]), fun _ => ⟨by kernel_rfl, by kernel_rfl⟩⟩
    | (_ + 4), h1, h2 => exact absurd h2 (by simp [p13])
  plain := by decide +kernel
def p14 : PD := ⟨2, 2, false, [2, (-4), 1], [4, (-12), 1], [[1], [(-2), 4], [(-28), 48]]⟩
def t14 : PyData := .tuple [.tuple [.int 2, .int (-4), .int 1], .tuple [.int 0, .int 1]]
theorem good14 : Good t14 p14 where
  pre := fun _ _ _ _ _ _ _ _ _ _ _ _ _ => by kernel_rfl
  suf := fun _ _ _ _ _ _ _ _ _ _ _ _ => by kernel_rfl
  pows := fun _ => by kernel_rfl
  pws := fun k p q h1 h2 => by
    match k, h1, h2 with
    | 0, rfl, rfl => exact ⟨po (0 :: 0 :: [1]), fun _ => ⟨by kernel_rfl, by kernel_rfl⟩⟩
    | 1, rfl, rfl => exact ⟨po (0 :: 0 :: [(-2), 4]), fun _ => ⟨by kernel_rfl, by kernel_rfl⟩⟩
    | (_ + 2), h1, h2 => exact absurd h2 (by simp [p14])
  plain := by decide +kernel
def p15 : PD := ⟨2, 2, false, [7, (-6), 1], [49, (-22), 1], [[1], [(-7), 6], [(-203), 132]]⟩
def t15 : PyData := .tuple [.tuple [.int 7, .int (-6), .int 1], .tuple [.int 0, .int 2]]
theorem good15 : Good t15 p15 where
  pre := fun _ _ _ _ _ _ _ _ _ _ _ _ _ => by kernel_rfl
  suf := fun _ _ _ _ _ _ _ _ _ _ _ _ => by kernel_rfl
  pows := fun _ => by kernel_rfl
  pws := fun k p q h1 h2 => by
    match k, h1, h2 with
    | 0, rfl, rfl => exact ⟨po (0 :: 0 :: [1]), fun _ => ⟨by kernel_rfl, by kernel_rfl⟩⟩
    | 1, rfl, rfl => exact ⟨po (0 :: 0 :: [(-7), 6]), fun _ => ⟨by kernel_rfl, by kernel_rfl⟩⟩
    | (_ + 2), h1, h2 => exact absurd h2 (by simp [p15])
  plain := by decide +kernel
def p16 : PD := ⟨2, 2, false, [(2 / 3 : Rat), (-4), 1], [(4 / 9 : Rat), (-(44 / 3) : Rat), 1], [[1], [(-(2 / 3) : Rat), 4], [(-(92 / 9) : Rat), (176 / 3 : Rat)]]⟩
def t16 : PyData := .tuple [.tuple [.int 2, .int (-12), .int 3], .tuple [.int 3, .int 4]]
theorem good16 : Good t16 p16 where
  pre := fun _ _ _ _ _ _ _ _ _ _ _ _ _ => by kernel_rfl
  suf := fun _ _ _ _ _ _ _ _ _ _ _ _ => by kernel_rfl
  pows := fun _ => by kernel_rfl
  pws := fun k p q h1 h2 => by
    match k, h1, h2 with
    | 0, rfl, rfl => exact ⟨po (0 :: 0 :: [1]), fun _ => ⟨by kernel_rfl, by kernel_rfl⟩⟩
    | 1, rfl, rfl => exact ⟨po (0 :: 0 :: [(-(2 / 3) : Rat), 4]), fun _ => ⟨by kernel_rfl, by kernel_rfl⟩⟩
    | (_ + 2), h1, h2 => exact absurd h2 (by simp [p16])
  plain := by decide +kernel
theorem goods : ∀ d ∈ [t0, t1, t2, t3, t4, t5, t6, t7, t8, t9, t10, t11, t12, t13, t14, t15, t16], ∃ p, Good d p := by
  intro d hd
  simp only [List.mem_cons, List.not_mem_nil, or_false] at hd
  rcases hd with rfl | rfl | rfl | rfl | rfl | rfl | rfl | rfl | rfl | rfl | rfl | rfl | rfl | rfl | rfl | rfl | rfl
  · exact ⟨_, good0⟩
  · exact ⟨_, good1⟩
  · exact ⟨_, good2⟩
  · exact ⟨_, good3⟩
  · exact ⟨_, good4⟩
  · exact ⟨_, good5⟩
  · exact ⟨_, good6⟩
  · exact ⟨_, good7⟩
  · exact ⟨_, good8⟩
  · exact ⟨_, good9⟩
  · exact ⟨_, good10⟩
  · exact ⟨_, good11⟩
  · exact ⟨_, good12⟩
  · exact ⟨_, good13⟩
  · exact ⟨_, good14⟩
  · exact ⟨_, good15⟩
  · exact ⟨_, good16⟩
theorem roots_ok (S : SS) : sem__law_roots [] S = .ok (.own [t0, t1, t2, t3, t4, t5, t6, t7, t8, t9, t10, t11, t12, t13, t14, t15, t16]) S := by kernel_rfl
end K38

/-! N10 -/
set_option Elab.async false
set_option linter.all false
set_option maxRecDepth 100000
set_option maxHeartbeats 4000000
set_option exponentiation.threshold 100000
namespace Pv
open PySem
/-- a comprehension whose turns move the source on -/
theorem comp_S {α β : Type} {body : PyData → M (Option PyData)} {h : α → PyData} {f : β → PyData} (P : Nat → SS → Prop) (Q : α → β → Prop) : ∀ (xs : List α) (acc : List PyData) (k : Nat) (S : SS), P k S → acc.length + xs.length ≤ line →
    (∀ (j : Nat) x S, x ∈ xs → j < k + xs.length → P j S → ∃ y S', body (h x) S = .ok (some (f y)) S' ∧ Q x y ∧ P (j + 1) S') →
    ∃ (ys : List β) (S' : SS), compLoop body (xs.map h) acc S = .ok (acc ++ ys.map f) S' ∧ ys.length = xs.length ∧ (∀ (i : Nat) (x : α) (y : β), xs[i]? = some x → ys[i]? = some y → Q x y) ∧ P (k + xs.length) S'
  | [], acc, k, S, hP, _, _ => ⟨[], S, by simp [compLoop], rfl, fun i x y h => by simp at h, hP⟩
  | x :: xs, acc, k, S, hP, hl, hb => by
    obtain ⟨y, S1, e1, q1, p1⟩ := hb k x S List.mem_cons_self (by rw [List.length_cons]; omega) hP
    rw [List.length_cons] at hl
    obtain ⟨ys, S2, e2, l2, q2, p2⟩ := comp_S P Q xs (acc ++ [f y]) (k + 1) S1 p1 (by rw [List.length_append, List.length_singleton]; omega) fun j z S hz hj => hb j z S (List.mem_cons_of_mem _ hz) (by rw [List.length_cons]; omega)
    refine ⟨y :: ys, S2, ?_, by rw [List.length_cons, l2, List.length_cons], fun i a b ha hb' => ?_, by rw [List.length_cons, show k + (xs.length + 1) = k + 1 + xs.length by omega]; exact p2⟩
    · have hlt : acc.length < line := by omega
      rw [List.map_cons, compLoop]
      simp only [mbind_eq, e1, ok_bind, if_pos hlt]
      rw [e2]
      simp
    · cases i with
      | zero => cases ha; cases hb'; exact q1
      | succ i => exact q2 i a b ha hb'
theorem Bd12 {t d : Int} {M : Nat} (hd : d = 1 ∨ d = 2 ∨ d = 3 ∨ d = 4) (ht : t.natAbs ≤ M) : Bd 12 (12 * M) (Rat.divInt t d) := by
  rcases hd with rfl | rfl | rfl | rfl
  · exact ((Bd.low (t := t) (b := 1) (by decide)).scale 12).cast (by decide) (by omega)
  · exact ((Bd.low (t := t) (b := 2) (by decide)).scale 6).cast (by decide) (by omega)
  · exact ((Bd.low (t := t) (b := 3) (by decide)).scale 4).cast (by decide) (by omega)
  · exact ((Bd.low (t := t) (b := 4) (by decide)).scale 3).cast (by decide) (by omega)
end Pv
namespace K38
open PySem Pv K07
def lN_1 : Pv.S := (.asg 3 false (.lst .nil) [])
def lN_2b_1 : Pv.S := (.app 3 (.call 1 (.cons (.bin .Sub (.call 2 (.cons (.var 0) (.cons (.bin .Add (.bin .Mult (.lit (.int (2))) (.var 2)) (.lit (.int (1)))) .nil))) (.var 2)) (.cons (.bin .Add (.lit (.int (1))) (.call 2 (.cons (.var 0) (.cons (.lit (.int (4))) .nil)))) .nil))) [])
def lN_2b : Ss := (.cons lN_2b_1 .nil)
def lN_2 : Pv.S := (.for_ (.one 4) (.rng (.cons (.var 1) .nil)) lN_2b [])
def lN_3 : Pv.S := (.ret (.call 0 (.cons (.comp [5] (.one 5) (.it (.var 3)) .nil (.ite (.cmp .Gt (.call 2 (.cons (.var 0) (.cons (.lit (.int (4))) .nil))) (.lit (.int (0)))) (.var 5) (.tup (.cons (.lit (.int (0))) (.cons (.lit (.int (1))) .nil))))) .nil)) [3])
theorem lN_eq : ir__law_number = (.cons lN_1 (.cons lN_2 (.cons lN_3 .nil))) := (rfl)
theorem l_number {many high : Nat} (hm : many ≤ 10) (hh : high ≤ 1000000) {n : Nat} {S : SS} (hS : Sk n S) (hn : n ≤ 900000) :
    ∃ (X : List Rat) (S' : SS), sem__law_number [.src, .val (.int (many : Int)), .val (.int (high : Int))] S = .ok (.val (po X)) S' ∧ Tr X ∧ X.length ≤ many ∧ Bdl 12 (2 ^ 30) X ∧ Sk (n + 100) S' := by
  obtain ⟨ρ', S2, f, l, o, rfl, hl, hb, hS2⟩ := for_invS (body := fun d ρ => M.of (bindTg (.one 4) d ρ) >>= fun ρ2 => exSs g__law_number lN_2b ρ2) (h := fun i : Nat => PyData.int (i : Int))
    (fun (pre : List Nat) ρ S => ∃ (l : List Rat) (o : Option R), ρ = [some .src, some (.val (.int (many : Int))), some (.val (.int (high : Int))), some (.own (fl l)), o, none] ∧ l.length = pre.length ∧ Bdl 12 (2 ^ 30) l ∧ Sk (n + 2 * pre.length) S) (List.range many) (ρ := [some .src, some (.val (.int (many : Int))), some (.val (.int (high : Int))), some (.own []), none, none]) (S := S)
    ⟨[], none, rfl, rfl, (by intro q hq; cases hq), hS⟩ (fun pre x post ρ S e => by
      rintro ⟨l, o, rfl, hl, hb, hS⟩
      have hpl : pre.length < many := by
        have := congrArg List.length e
        simp at this
        omega
      have k1 : mulOk 2 (high : Int) = true := mulOk_of (lt_big (show 2 < 2 ^ 40 by decide) (by decide)) (lt_big (k := 40) (by show high < _; omega) (by decide))
      obtain ⟨z, S1, ez, z0, z1, hS1⟩ := s_pick (many := 2 * (high : Int) + 1) (by omega) (up (a := 40) (by omega) (by decide)) hS (by omega)
      obtain ⟨q, S2, eq, q0, q1, hS2⟩ := s_pick (many := 4) (by decide) (lt9 (by decide)) hS1 (by omega)
      have el := K38.l_low (S := S2) (t := z - high) (b := 1 + q) (by omega) (lt9 (by omega)) (up (a := 40) (by omega) (by decide))
      have hlen : l.length < line := by show _ < 16000000; omega
      refine ⟨[some .src, some (.val (.int (many : Int))), some (.val (.int (high : Int))), some (.own (fl (l ++ [Rat.divInt (z - high) (1 + q)]))), some (.val (.int (x : Int))), none], S2, ?_, l ++ [Rat.divInt (z - high) (1 + q)], _, rfl, by simp [hl], ?_, ?_⟩
      · simp [bindTg, lN_2b, lN_2b_1, k1, ez, eq, el, hlen, fl_append, fl]
      · intro r hr
        rcases List.mem_append.mp hr with hr | hr
        · exact hb r hr
        · obtain rfl := List.mem_singleton.mp hr
          exact (Bd12 (M := 1000000) (by omega) (by omega)).mono (by decide)
      · rw [List.length_append, List.length_singleton]
        exact hS2.mono (by omega))
  rw [List.length_range] at hl hS2
  have er : rng [.int (many : Int)] = some ((List.range many).map fun i => .int ((i : Nat) : Int)) := rng_1 (n := many) (by omega)
  have ef : exS g__law_number lN_2 [some .src, some (.val (.int (many : Int))), some (.val (.int (high : Int))), some (.own []), none, none] S = .ok (.nx [some .src, some (.val (.int (many : Int))), some (.val (.int (high : Int))), some (.own (fl l)), o, none]) S2 := by
    unfold lN_2
    rw [exS_for]
    simp only [frz_nil, back_same, mbind_eq, evI_rng, evDs_cons, evDs_nil, evE_var, getV_succ, getV_zero, asD_s, mpure_eq, ok_bind, R.d_val, M.of_some, er]
    exact f
  have e1 : exS g__law_number lN_1 [some .src, some (.val (.int (many : Int))), some (.val (.int (high : Int))), none, none, none] S = .ok (.nx [some .src, some (.val (.int (many : Int))), some (.val (.int (high : Int))), some (.own []), none, none]) S := by
    have h0 : 0 ≤ line := by decide
    simp [lN_1, h0]
  generalize hE : (E.ite (.cmp .Gt (.call 2 (.cons (.var 0) (.cons (.lit (.int (4))) .nil))) (.lit (.int (0)))) (.var 5) (.tup (.cons (.lit (.int (0))) (.cons (.lit (.int (1))) .nil)))) = Ec
  obtain ⟨ys, S3, ec, hyl, hyq, hS3⟩ := comp_S (body := cbody g__law_number [5] (.one 5) .nil Ec [some .src, some (.val (.int (many : Int))), some (.val (.int (high : Int))), some (.val (.list (fl l))), o, none]) (h := fr) (f := fr) (fun k S => Sk (n + 2 * many + k) S) (fun (x y : Rat) => y = x ∨ y = 0) l [] 0 S2 hS2 (by rw [hl]; show _ ≤ 16000000; simp; omega) (fun j q S hq hjl hSj => by
    have hj : Sk (n + 2 * many + j) S := hSj
    have hjj : n + 2 * many + j ≤ 1000000 := by omega
    · obtain ⟨z, S1, ez, z0, z1, hS1⟩ := s_pick (many := 4) (by decide) (lt9 (by decide)) hj hjj
      have h2 : 2 ≤ line := by decide
      by_cases hz : 0 < z
      · refine ⟨q, S1, ?_, .inl rfl, hS1⟩
        subst hE
        unfold cbody
        refine noexc_ok ?_
        simp [bindTg, clr, ez, hz]
      · refine ⟨0, S1, ?_, .inr rfl, hS1⟩
        subst hE
        unfold cbody
        refine noexc_ok ?_
        rw [fr0]
        simp [bindTg, clr, ez, hz, h2])
  have hys : Bdl 12 (2 ^ 30) ys := by
    intro y hy
    obtain ⟨i, hi, e⟩ := List.getElem_of_mem hy
    have h1 : ys[i]? = some y := by rw [List.getElem?_eq_getElem hi, e]
    have h2 : l[i]? = some (l[i]'(by omega)) := List.getElem?_eq_getElem (by omega)
    rcases hyq i _ _ h2 h1 with h | h
    · rw [h]
      exact hb _ (List.getElem_mem _)
    · rw [h]
      exact (Bd.zero 12).mono (Nat.zero_le _)
  have et := l_cutL (S := S3) (l := ys) (by omega)
  rw [List.nil_append] at ec
  have ec : evE g__law_number (.comp [5] (.one 5) (.it (.var 3)) .nil Ec) [some .src, some (.val (.int (many : Int))), some (.val (.int (high : Int))), some (.val (.list (fl l))), o, none] S2 = .ok (.own (fl ys)) S3 := by
    rw [evE_comp]
    simp only [mbind_eq, evI_it, evE_var, getV_succ, getV_zero, M.of_some, ok_bind, items_list]
    have e0 : compLoop (cbody g__law_number [5] (.one 5) .nil Ec [some .src, some (.val (.int (many : Int))), some (.val (.int (high : Int))), some (.val (.list (fl l))), o, none]) (fl l) [] S2 = _ := ec
    rw [e0]
    rfl
  have er3 : exS g__law_number lN_3 [some .src, some (.val (.int (many : Int))), some (.val (.int (high : Int))), some (.own (fl l)), o, none] S2 = .ok (.rt (.val (po (trim ys)))) S3 := by
    unfold lN_3
    rw [hE]
    simp [frz, frzSlot, ec, et]
  refine ⟨trim ys, S3, ?_, tr_trim ys, Nat.le_trans (trim_len ys) (by omega), hys.trim, (show Sk (n + 2 * many + (0 + l.length)) S3 from hS3).mono (by omega)⟩
  show runDef g__law_number 3 6 ir__law_number [.src, .val (.int (many : Int)), .val (.int (high : Int))] S = _
  rw [runDef_eq g__law_number 3 6 ir__law_number [.src, .val (.int (many : Int)), .val (.int (high : Int))] S rfl, lN_eq]
  show (exSs g__law_number _ [some .src, some (.val (.int (many : Int))), some (.val (.int (high : Int))), none, none, none] S).bind _ = _
  rw [seq_nx e1, seq_nx ef, seq_rt er3]
  rfl
end K38

/-! N11 -/
set_option Elab.async false
set_option linter.all false
set_option maxRecDepth 100000
set_option maxHeartbeats 4000000
set_option exponentiation.threshold 100000
namespace K38
open PySem Pv K07
section
variable {S : SS} {T : PyData} {p : PD} {X : List Rat} {B : List (List Rat)} {n : Nat}
variable (a0 a1 a2 a3 a4 a5 a6 a7 a8 a9 a10 a11 a12 : Option R)
theorem lt_1 (hm : p.n ≤ 10) (hS : Sk n S) (hn : n ≤ 800000) : ∃ (X : List Rat) (S' : SS), exS g_law lW_2b_7b_1 [a0, some .src, a2, a3, a4, a5, a6, some (.val (.int p.n)), a8, a9, a10, a11, a12] S = .ok (.nx [a0, some .src, a2, a3, a4, a5, a6, some (.val (.int p.n)), a8, some (.val (po X)), a10, a11, a12]) S' ∧ Tr X ∧ X.length ≤ p.n ∧ Bdl 12 (2 ^ 30) X ∧ Sk (n + 101) S' := by
  obtain ⟨d, hd, S1, e1, hS1⟩ := l_of (xs := [.int 3, .int 9, .int 1000000]) (by simp) (by simp) hS (by omega)
  have h3 : 3 ≤ line := by decide
  have pw6 : binop .Pow (.int 10) (.int 6) = some (.val (.int 1000000)) := by simp [binop]
  have key : ∀ high : Nat, d = .int (high : Int) → high ≤ 1000000 → ∃ (X : List Rat) (S' : SS), exS g_law lW_2b_7b_1 [a0, some .src, a2, a3, a4, a5, a6, some (.val (.int p.n)), a8, a9, a10, a11, a12] S = .ok (.nx [a0, some .src, a2, a3, a4, a5, a6, some (.val (.int p.n)), a8, some (.val (po X)), a10, a11, a12]) S' ∧ Tr X ∧ X.length ≤ p.n ∧ Bdl 12 (2 ^ 30) X ∧ Sk (n + 101) S' := by
    intro high ed hh
    obtain ⟨X, S2, e2, t, l, b, hS2⟩ := l_number hm hh hS1 (by omega)
    rw [ed] at e1
    exact ⟨X, S2, by simp [lW_2b_7b_1, pw6, h3, e1, e2], t, l, b, hS2.mono (by omega)⟩
  simp only [List.mem_cons, List.not_mem_nil, or_false] at hd
  rcases hd with e | e | e
  · exact key 3 e (by decide)
  · exact key 9 e (by decide)
  · exact key 1000000 e (by decide)
theorem lt_2 (g : Good T p) (h : Pl p B) (hx : Bdl 12 (2 ^ 30) X) (hX : X.length ≤ p.n) : exS g_law lW_2b_7b_2 [a0, a1, a2, some (.val (po p.P)), a4, a5, a6, a7, a8, some (.val (po X)), a10, a11, a12] S = .ok (.nx [a0, a1, a2, some (.val (po p.P)), a4, a5, a6, a7, a8, some (.val (po X)), some (.val ((if p.ev && nz X then .none else po (sol p.m B X)))), a11, a12]) S := by
  have e := g_in (S := S) g h hx hX
  simp only [lW_2b_7b_2, exS_asg, evF_s, evE_call, evA_cons, evA_nil, evE_var, frz_nil, back_same, mbind_eq, mpure_eq, getV_succ, getV_zero, Pv.M.of_some, ok_bind, R.arg_val, gf_law_6, e, hR_true, setV_s, List.set]
theorem lt_3 (hX : X.length ≤ 800) (ev : Bool) : exS g_law lW_2b_7b_3 [a0, a1, a2, a3, a4, a5, a6, a7, some (.val (.bool ev)), some (.val (po X)), a10, a11, a12] S = .ok (.nx [a0, a1, a2, a3, a4, a5, a6, a7, some (.val (.bool ev)), some (.val (po X)), a10, some (.val (.bool (!ev || !nz X))), a12]) S := by
  have h0 : 0 ≤ line := by decide
  cases ev with
  | false => simp [lW_2b_7b_3]
  | true =>
    have es : slc (po X) (some 1) none 2 = some (.val (.tuple (fl (evens X.tail)))) := by
      unfold po
      rw [step_odd (by rw [fl_len]; omega)]
      unfold fl
      rw [← evens_map, List.map_tail]
    have c := comp_okF (Γ := g_law) (vs := [12]) (tg := .one 12) (it := .it (.slc (.var 9) (.lit (.int (1))) (.lit .none) (2))) (cs := .cons (.cmp .NotEq (.idx (.var 12) (.lit (.int (0)))) (.lit (.int (0)))) .nil) (e := .var 12) (ρ := [a0, a1, a2, a3, a4, a5, a6, a7, some (.val (.bool true)), some (.val (po X)), a10, a11, a12]) (S := S) (xs := evens X.tail) (p := fun q => !decide (q = 0)) (f := fr) (h := fr) (by simp [es, fl]) (by rw [evens_len, List.length_tail]; show _ ≤ 16000000; omega) (fun q hq => by
      have e5 : eqOp (.int q.num) (.int 0) = some (decide (q.num = 0)) := rfl
      have e6 : decide (q.num = 0) = decide (q = 0) := by rw [decide_eq_decide, Rat.num_eq_zero]
      rw [e6] at e5
      unfold cbody
      refine noexc_ok ?_
      by_cases hz : q = 0
      · have e0 : eqOp (.int 0) (.int 0) = some true := rfl
        simp [bindTg, clr, e0, hz]
      · rw [decide_eq_false hz] at e5
        simp [bindTg, clr, e5, hz])
    have e4 : eqOp (.list (((evens X.tail).filter fun q => !decide (q = 0)).map fr)) (.list []) = some (!nz X) := by
      refine Eq.trans (eq_listNil (.mono (.list (.fl _)) (by decide))) ?_
      congr 1
      unfold nz
      generalize evens X.tail = L
      induction L with
      | nil => rfl
      | cons b L ih =>
        rw [List.any_cons, List.filter_cons]
        cases hd : (!decide (b = 0)) with
        | true => rfl
        | false => simpa [hd] using ih
    simp [lW_2b_7b_3, c, e4, h0]
theorem eq_bool (a b : Bool) : eqOp (.bool a) (.bool b) = some (decide (a = b)) := rfl
theorem isnot_none (d : PyData) : cmpop .IsNot d .none = some (!Pv.isNone d) := by cases d <;> rfl
theorem lt_4 (ev z : Bool) (r : List Rat) : exS g_law lW_2b_7b_4 [a0, a1, a2, a3, a4, a5, a6, a7, a8, a9, some (.val ((if ev && z then .none else po r))), some (.val (.bool (!ev || !z))), a12] S = .ok (.nx [a0, a1, a2, a3, a4, a5, a6, a7, a8, a9, some (.val ((if ev && z then .none else po r))), some (.val (.bool (!ev || !z))), a12]) S := by
  have e : Pv.isNone (po r) = false := rfl
  have e2 : Pv.isNone .none = true := rfl
  cases ev <;> cases z <;> simp [lW_2b_7b_4, isnot_none, e, e2, eq_bool]
theorem row_sz {r : Rat} (h : RowOk r) : Sz r := by
  obtain ⟨D, M, b, d, d1, d2⟩ := h
  exact b.ss d (up' d1 (by decide)) (up' d2 (by decide))
theorem lt_5 (g : Good T p) (h : Pl p B) (hx : Bdl 12 (2 ^ 30) X) (hX : X.length ≤ p.n) (tX : Tr X) : exS g_law lW_2b_7b_5 [a0, a1, a2, some (.val (po p.P)), a4, some (.val (po p.Q)), a6, a7, a8, some (.val (po X)), some (.val ((if p.ev && nz X then .none else po (sol p.m B X)))), a11, a12] S = .ok (.nx [a0, a1, a2, some (.val (po p.P)), a4, some (.val (po p.Q)), a6, a7, a8, some (.val (po X)), some (.val ((if p.ev && nz X then .none else po (sol p.m B X)))), a11, a12]) S := by
  cases hz : p.ev && nz X with
  | true =>
    have e2 : Pv.isNone .none = true := rfl
    simp [lW_2b_7b_5, isnot_none, e2]
  | false =>
    have n4 := h.n4
    have mn := h.mn
    have e : Pv.isNone (po (sol p.m B X)) = false := rfl
    have eput := g_put (S := S) g h hx hX tX hz
    have hlen := sol_len (X := X) h
    have hok := sol_ok h hx
    generalize sol p.m B X = r at e eput hlen hok
    rw [if_neg Bool.false_ne_true]
    have elen : eqOp (.int (r.length : Int)) (.int ((p.Q.length : Int) - 1)) = some true := by
      show some (decide _) = _
      rw [decide_eq_true]
      rw [hlen, h.hQ]
      omega
    have eX : eqOp (po X) (po X) = some true := eq_same (shp_po X)
    have w1 : exS g_law lW_2b_7b_5t_1 [a0, a1, a2, some (.val (po p.P)), a4, some (.val (po p.Q)), a6, a7, a8, some (.val (po X)), some (.val (po r)), a11, a12] S = .ok (.nx [a0, a1, a2, some (.val (po p.P)), a4, some (.val (po p.Q)), a6, a7, a8, some (.val (po X)), some (.val (po r)), a11, a12]) S := by
      simp [lW_2b_7b_5t_1, len_po, elen, eput, eX]
    have c := comp_ok (Γ := g_law) (vs := [12]) (tg := .one 12) (it := .it (.var 10)) (cs := .nil) (e := .call 10 (.cons (.idx (.var 12) (.lit (.int (0)))) (.cons (.idx (.var 12) (.lit (.int (1)))) .nil))) (ρ := [a0, a1, a2, some (.val (po p.P)), a4, some (.val (po p.Q)), a6, a7, a8, some (.val (po X)), some (.val (po r)), a11, a12]) (S := S) (xs := r) (f := fr) (h := fr) (by simp [po, fl]) (by rw [hlen]; show _ ≤ 16000000; omega) (fun q hq => by
      have sz := row_sz (hok q hq)
      have el := K38.l_low (S := S) (t := q.num) (b := (q.den : Int)) (by have := q.den_pos; omega) (by rw [Int.natAbs_natCast]; exact up sz.2 (by decide)) (up sz.1 (by decide))
      have ed : Rat.divInt q.num q.den = q := by first | exact Rat.num_divInt_den q | exact Rat.divInt_self q | simp
      rw [ed] at el
      unfold cbody
      refine noexc_ok ?_
      simp [bindTg, clr, el])
    have hr : blt .repr [.list (r.map fr)] = some (.val (.str (PyData.list (r.map fr)).shown)) := by
      refine blt_repr (Rpr.list (B := 4100) (n := 1) fun x hx => ?_) (by rw [List.length_map, hlen]; omega) (by decide)
      obtain ⟨q, hq, rfl⟩ := List.mem_map.mp hx
      exact .fr (row_sz (hok q hq))
    have el : blt .list [po r] = some (.own (r.map fr)) := rfl
    have isT : isiD "tuple" (po r) = some true := rfl
    have w2 : exS g_law lW_2b_7b_5t_2 [a0, a1, a2, some (.val (po p.P)), a4, some (.val (po p.Q)), a6, a7, a8, some (.val (po X)), some (.val (po r)), a11, a12] S = .ok (.nx [a0, a1, a2, some (.val (po p.P)), a4, some (.val (po p.Q)), a6, a7, a8, some (.val (po X)), some (.val (po r)), a11, a12]) S := by
      simp [lW_2b_7b_5t_2, c, hr, el, eq_str, isT]
    have w : exSs g_law lW_2b_7b_5t [a0, a1, a2, some (.val (po p.P)), a4, some (.val (po p.Q)), a6, a7, a8, some (.val (po X)), some (.val (po r)), a11, a12] S = .ok (.nx [a0, a1, a2, some (.val (po p.P)), a4, some (.val (po p.Q)), a6, a7, a8, some (.val (po X)), some (.val (po r)), a11, a12]) S := by
      unfold lW_2b_7b_5t
      rw [seq_nx w1, seq_nx w2, exSs_nil, mpure_eq]
    simp [lW_2b_7b_5, isnot_none, e, w]
theorem lt_turn (g : Good T p) (h : Pl p B) (hS : Sk n S) (hn : n ≤ 700000) : ∃ b9 b10 b11 S', exSs g_law lW_2b_7b [a0, some .src, a2, some (.val (po p.P)), a4, some (.val (po p.Q)), a6, some (.val (.int p.n)), some (.val (.bool p.ev)), a9, a10, a11, a12] S = .ok (.nx [a0, some .src, a2, some (.val (po p.P)), a4, some (.val (po p.Q)), a6, some (.val (.int p.n)), some (.val (.bool p.ev)), b9, b10, b11, a12]) S' ∧ Sk (n + 101) S' := by
  have n4 := h.n4
  obtain ⟨X, S1, e1, tX, lX, bX, hS1⟩ := lt_1 a0 a2 (some (.val (po p.P))) a4 (some (.val (po p.Q))) a6 (some (.val (.bool p.ev))) a9 a10 a11 a12 (p := p) (by omega) hS (by omega)
  refine ⟨some (.val (po X)), some (.val (if p.ev && nz X then .none else po (sol p.m B X))), some (.val (.bool (!p.ev || !nz X))), S1, ?_, hS1⟩
  unfold lW_2b_7b
  rw [seq_nx e1, seq_nx (lt_2 (g := g) (h := h) (hx := bX) (hX := lX) ..), seq_nx (lt_3 (hX := by omega) ..), seq_nx (lt_4 ..), seq_nx (lt_5 (g := g) (h := h) (hx := bX) (hX := lX) (tX := tX) ..), exSs_nil, mpure_eq]
theorem l_7 (g : Good T p) (h : Pl p B) (hS : Sk n S) (hn : n ≤ 600000) : ∃ b6 b9 b10 b11 S', exS g_law lW_2b_7 [a0, some .src, a2, some (.val (po p.P)), a4, some (.val (po p.Q)), a6, some (.val (.int p.n)), some (.val (.bool p.ev)), a9, a10, a11, a12] S = .ok (.nx [a0, some .src, a2, some (.val (po p.P)), a4, some (.val (po p.Q)), b6, some (.val (.int p.n)), some (.val (.bool p.ev)), b9, b10, b11, a12]) S' ∧ Sk (n + 404) S' := by
  obtain ⟨ρ', S', f, b6, b9, b10, b11, rfl, hS'⟩ := for_invS (body := fun d ρ => M.of (bindTg (.one 6) d ρ) >>= fun ρ2 => exSs g_law lW_2b_7b ρ2) (h := fun i : Nat => PyData.int (i : Int))
    (fun (pre : List Nat) ρ S => ∃ b6 b9 b10 b11 : Option R, ρ = [a0, some .src, a2, some (.val (po p.P)), a4, some (.val (po p.Q)), b6, some (.val (.int p.n)), some (.val (.bool p.ev)), b9, b10, b11, a12] ∧ Sk (n + 101 * pre.length) S) (List.range 4) (ρ := [a0, some .src, a2, some (.val (po p.P)), a4, some (.val (po p.Q)), a6, some (.val (.int p.n)), some (.val (.bool p.ev)), a9, a10, a11, a12]) (S := S) ⟨a6, a9, a10, a11, rfl, hS⟩ (fun pre i post ρ S e => by
      rintro ⟨b6, b9, b10, b11, rfl, hS⟩
      have hl : pre.length < 4 := by
        have := congrArg List.length e
        simp at this
        omega
      obtain ⟨c9, c10, c11, S', e, hS'⟩ := lt_turn a0 a2 a4 (some (.val (.int (i : Int)))) b9 b10 b11 a12 g h hS (by omega)
      exact ⟨[a0, some .src, a2, some (.val (po p.P)), a4, some (.val (po p.Q)), some (.val (.int (i : Int))), some (.val (.int p.n)), some (.val (.bool p.ev)), c9, c10, c11, a12], S', by simp only [mbind_eq, bindTg, M.of_some, ok_bind, setV_s, List.set]; exact e, some (.val (.int (i : Int))), c9, c10, c11, rfl, hS'.mono (by simp; omega)⟩)
  refine ⟨b6, b9, b10, b11, S', ?_, by simpa using hS'⟩
  have er : rng [.int 4] = some ((List.range 4).map fun i => .int ((i : Nat) : Int)) := rng_1 (n := 4) (by decide)
  unfold lW_2b_7
  rw [exS_for]
  simp only [frz_nil, back_same, mbind_eq, evI_rng, evDs_cons, evDs_nil, evE_lit, asD_s, mpure_eq, ok_bind, R.d_val, M.of_some, er]
  exact f
theorem w26_split (ss : Ss) (ρ ρ' : Pv.Env) (h : exSs g_law W26 ρ S = .ok (.nx ρ') S) : exSs g_law (.cons lW_2b_2 (.cons lW_2b_3 (.cons lW_2b_4 (.cons lW_2b_5 (.cons lW_2b_6 ss))))) ρ S = exSs g_law ss ρ' S := by
  have app : ∀ (l : List Pv.S) (ss : Ss) (ρ : Pv.Env) (S : SS), exSs g_law (l.foldr Ss.cons ss) ρ S = (exSs g_law (l.foldr Ss.cons .nil) ρ S).bind fun fl S => match fl with
      | .nx ρ' => exSs g_law ss ρ' S
      | f => .ok f S := by
    intro l
    induction l with
    | nil => intro ss ρ S; rw [List.foldr_nil, List.foldr_nil, exSs_nil]; rfl
    | cons s l ih =>
      intro ss ρ S
      rw [List.foldr_cons, List.foldr_cons, exSs_cons, exSs_cons]
      simp only [mbind_eq]
      cases exS g_law s ρ S with
      | stuck => rfl
      | exc e S => rfl
      | ok fl S' =>
        cases fl with
        | nx ρ2 => exact ih ss ρ2 S'
        | rt r => rfl
        | bk ρ2 => rfl
        | ct ρ2 => rfl
  have e := app [lW_2b_2, lW_2b_3, lW_2b_4, lW_2b_5, lW_2b_6] ss ρ S
  have h : exSs g_law ([lW_2b_2, lW_2b_3, lW_2b_4, lW_2b_5, lW_2b_6].foldr Ss.cons .nil) ρ S = .ok (.nx ρ') S := h
  rw [h] at e
  exact e
end
end K38

/-! N12 -/
set_option Elab.async false
set_option linter.all false
set_option maxRecDepth 100000
set_option maxHeartbeats 4000000
set_option exponentiation.threshold 100000
namespace K38
open PySem Pv K07
section
variable {S : SS} {T : PyData} {p : PD} {X : List Rat} {B : List (List Rat)} {n : Nat}
variable (a0 a1 a2 a3 a4 a5 a6 a7 a8 a9 a10 a11 a12 : Option R)
theorem l_turn (hS : Sk n S) (hn : n ≤ 500000) : ∃ b3 b4 b5 b6 b7 b8 b9 b10 b11 S', exSs g_law lW_2b [a0, some .src, a2, a3, a4, a5, a6, a7, a8, a9, a10, a11, a12] S = .ok (.nx [a0, some .src, a2, b3, b4, b5, b6, b7, b8, b9, b10, b11, a12]) S' ∧ Sk (n + 405) S' := by
  obtain ⟨T, hT, S1, e1, hS1⟩ := l_of (xs := [t0, t1, t2, t3, t4, t5, t6, t7, t8, t9, t10, t11, t12, t13, t14, t15, t16]) (by simp) (by simp) hS (by omega)
  obtain ⟨p, g⟩ := goods T hT
  obtain ⟨B, h⟩ := pl_of g.plain
  have w1 : exS g_law lW_2b_1 [a0, some .src, a2, a3, a4, a5, a6, a7, a8, a9, a10, a11, a12] S = .ok (.nx [a0, some .src, a2, a3, some (.val (T)), a5, a6, a7, a8, a9, a10, a11, a12]) S1 := by
    have er := roots_ok S
    simp only [lW_2b_1, exS_asg, evF_s, evE_call, evA_cons, evA_nil, evE_var, frz_nil, back_same, mbind_eq, mpure_eq, getV_succ, getV_src, Pv.M.of_some, ok_bind, R.arg_src, R.arg_own, gf_law_7, er, gf_law_2, e1, hR_false, setV_s, List.set]
  obtain ⟨b6, b9, b10, b11, S2, w7, hS2⟩ := l_7 (S := S1) a0 a2 (some (.val T)) a6 a9 a10 a11 a12 g h hS1 (by omega)
  refine ⟨some (.val (po p.P)), some (.val T), some (.val (po p.Q)), b6, some (.val (.int p.n)), some (.val (.bool p.ev)), b9, b10, b11, S2, ?_, hS2⟩
  unfold lW_2b
  rw [seq_nx w1, w26_split _ _ _ (g.pre ..), seq_nx w7, seq_nx (g.suf ..), exSs_nil, mpure_eq]
end
theorem tail_ok (a0 a1 a2 a3 a4 a5 a6 a7 a8 a9 a10 a11 a12 : Option R) (S : SS) : exSs g_law (.cons lW_3 (.cons lW_4 (.cons lW_5 (.cons lW_6 .nil)))) [a0, a1, a2, a3, a4, a5, a6, a7, a8, a9, a10, a11, a12] S = .ok (.rt (.val (.bool true))) S := by kernel_rfl
theorem pure_law (ns : List Int) (h1 : ns.length ≤ 63) (h2 : ∀ z ∈ ns, Builtin.Int.intBits z ≤ 1048576) : ∃ S, sem_law [.scr ns] none = .ok (.val (.bool true)) S := by
  obtain ⟨S1, e1, hS1⟩ := l_source h1 h2
  have w1 : exS g_law lW_1 [some (.scr ns), none, none, none, none, none, none, none, none, none, none, none, none] none = .ok (.nx [some (.scr ns), some .src, none, none, none, none, none, none, none, none, none, none, none]) S1 := by
    have ea : (R.scr ns).arg = .scr ns := rfl
    simp [lW_1, e1, ea]
  obtain ⟨ρ', S2, f, c2, b3, b4, b5, b6, b7, b8, b9, b10, b11, rfl, hS2⟩ := for_invS (body := fun d ρ => M.of (bindTg (.one 2) d ρ) >>= fun ρ2 => exSs g_law lW_2b ρ2) (h := fun i : Nat => PyData.int (i : Int))
    (fun (pre : List Nat) ρ S => ∃ c2 b3 b4 b5 b6 b7 b8 b9 b10 b11 : Option R, ρ = [some (.scr ns), some .src, c2, b3, b4, b5, b6, b7, b8, b9, b10, b11, none] ∧ Sk (405 * pre.length) S) (List.range 4) (ρ := [some (.scr ns), some .src, none, none, none, none, none, none, none, none, none, none, none]) (S := S1) ⟨none, none, none, none, none, none, none, none, none, none, rfl, hS1⟩ (fun pre i post ρ S e => by
      rintro ⟨c2, b3, b4, b5, b6, b7, b8, b9, b10, b11, rfl, hS⟩
      have hl : pre.length < 4 := by
        have := congrArg List.length e
        simp at this
        omega
      obtain ⟨d3, d4, d5, d6, d7, d8, d9, d10, d11, S', e, hS'⟩ := l_turn (some (.scr ns)) (some (.val (.int (i : Int)))) b3 b4 b5 b6 b7 b8 b9 b10 b11 none hS (by omega)
      exact ⟨[some (.scr ns), some .src, some (.val (.int (i : Int))), d3, d4, d5, d6, d7, d8, d9, d10, d11, none], S', by simp only [mbind_eq, bindTg, M.of_some, ok_bind, setV_s, List.set]; exact e, some (.val (.int (i : Int))), d3, d4, d5, d6, d7, d8, d9, d10, d11, rfl, hS'.mono (by simp; omega)⟩)
  have er : rng [.int 4] = some ((List.range 4).map fun i => .int ((i : Nat) : Int)) := rng_1 (n := 4) (by decide)
  have ef : exS g_law lW_2 [some (.scr ns), some .src, none, none, none, none, none, none, none, none, none, none, none] S1 = .ok (.nx [some (.scr ns), some .src, c2, b3, b4, b5, b6, b7, b8, b9, b10, b11, none]) S2 := by
    unfold lW_2
    rw [exS_for]
    simp only [frz_nil, back_same, mbind_eq, evI_rng, evDs_cons, evDs_nil, evE_lit, asD_s, mpure_eq, ok_bind, R.d_val, M.of_some, er]
    exact f
  refine ⟨S2, ?_⟩
  show runDef g_law 1 13 ir_law [.scr ns] none = _
  rw [runDef_eq g_law 1 13 ir_law [.scr ns] none rfl, lW_eq]
  show (exSs g_law _ [some (.scr ns), none, none, none, none, none, none, none, none, none, none, none, none] none).bind _ = _
  rw [seq_nx w1, seq_nx ef, tail_ok]
  rfl
end K38

/-! K38Walk -/
set_option Elab.async false
set_option linter.all false
set_option maxRecDepth 100000
set_option maxHeartbeats 0
namespace K38
open PySem PySem.Spec PyProof.Rows L2 Pv
def top (i : Nat) : Stmt := PySem.Challenge.pw_panewebs_k38_the_squares_field.main.body.getD i (.Pass ⟨0, 0, 0, 0⟩)

theorem c_fraction_low : compSs (ccOf [] [] true) ["top", "bottom", "part"] [] 60 (defScope (top 2)) (defBody (top 2)) = some K07.ir_fraction_low := by kernel_rfl
theorem c_fractions_added : compSs (ccOf ["fraction_low"] [] false) ["one", "other"] [] 60 (defScope (top 3)) (defBody (top 3)) = some K07.ir_fractions_added := by kernel_rfl
theorem c_fractions_less : compSs (ccOf ["fraction_low"] [] false) ["one", "other"] [] 60 (defScope (top 4)) (defBody (top 4)) = some K07.ir_fractions_less := by kernel_rfl
theorem c_fractions_times : compSs (ccOf ["fraction_low"] [] false) ["one", "other"] [] 60 (defScope (top 5)) (defBody (top 5)) = some K07.ir_fractions_times := by kernel_rfl
theorem c_fractions_over : compSs (ccOf ["fraction_low"] [] false) ["one", "other"] [] 60 (defScope (top 6)) (defBody (top 6)) = some K07.ir_fractions_over := by kernel_rfl
theorem c_polynomial_of : compSs (ccOf [] ["NOTHING_polynomials"] false) ["numbers", "found"] [1] 60 (defScope (top 10)) (defBody (top 10)) = some K07.ir_polynomial_of := by kernel_rfl
theorem c_member_polynomials : compSs (ccOf [] ["NOTHING_polynomials"] false) ["one", "power"] [] 60 (defScope (top 11)) (defBody (top 11)) = some K07.ir_member := by kernel_rfl
theorem c_polynomials_added : compSs (ccOf ["polynomial_of", "fractions_added", "member_polynomials"] [] false) ["one", "other", "many", "k"] [] 60 (defScope (top 13)) (defBody (top 13)) = some K07.ir_polynomials_added := by kernel_rfl
theorem c_polynomial_scaled : compSs (ccOf ["polynomial_of", "fractions_times"] [] false) ["one", "by", "number"] [] 60 (defScope (top 14)) (defBody (top 14)) = some K07.ir_polynomial_scaled := by kernel_rfl
theorem c_polynomials_less : compSs (ccOf ["polynomials_added", "polynomial_scaled"] [] false) ["one", "other"] [] 60 (defScope (top 15)) (defBody (top 15)) = some K07.ir_polynomials_less := by kernel_rfl
theorem c_polynomials_times : compSs (ccOf ["polynomial_of", "fractions_added", "fractions_times"] ["NOTHING_polynomials"] false) ["one", "other", "found", "k", "number", "j", "late"] [2] 60 (defScope (top 16)) (defBody (top 16)) = some K07.ir_polynomials_times := by kernel_rfl
theorem c_polynomial_parted : compSs (ccOf ["fractions_over", "polynomial_of", "fractions_added", "fractions_times"] ["NOTHING_polynomials"] false) ["one", "other", "k", "rest", "found", "by", "j", "number"] [3, 4] 60 (defScope (top 17)) (defBody (top 17)) = some K07.ir_polynomial_parted := by kernel_rfl
theorem c_polynomial_first_one : compSs (ccOf ["polynomial_scaled", "fractions_over"] ["WHOLE"] false) ["one"] [] 60 (defScope (top 18)) (defBody (top 18)) = some K07.ir_polynomial_first_one := by kernel_rfl
theorem c_even_part : compSs (ccOf ["polynomial_of"] [] false) ["one"] [] 60 (defScope (top 19)) (defBody (top 19)) = some K07.ir_even_part := by kernel_rfl
theorem c_odd_part : compSs (ccOf ["polynomial_of"] [] false) ["one"] [] 60 (defScope (top 20)) (defBody (top 20)) = some K07.ir_odd_part := by kernel_rfl
theorem c_told_in : compSs (ccOfO ["polynomial_parted"] [] false []) ["polynomial", "one"] [] 60 (defScope (top 22)) (defBody (top 22)) = some ir_told_in := by kernel_rfl
theorem c_field_times : compSs (ccOfO ["told_in", "polynomials_times"] [] false []) ["polynomial", "one", "other"] [] 60 (defScope (top 23)) (defBody (top 23)) = some ir_field_times := by kernel_rfl
theorem c_squares_told : compSs (ccOfO ["polynomials_times", "polynomial_first_one", "even_part", "odd_part", "polynomials_less"] ["LETTER"] false []) ["polynomial", "late", "even", "odd"] [] 60 (defScope (top 28)) (defBody (top 28)) = some ir_squares_told := by kernel_rfl
theorem c_square_powers : compSs (ccOfO ["told_in", "polynomials_times", "field_times", "squares_told"] ["ONE", "LETTER"] false [3]) ["polynomial", "lap", "square", "found"] [3] 60 (defScope (top 29)) (defBody (top 29)) = some ir_square_powers := by kernel_rfl
theorem c_member_squarefields : compSs (ccOf [] ["NOTHING_squarefields"] false) ["one", "power"] [] 60 (defScope (top 30)) (defBody (top 30)) = some K07.ir_member := by kernel_rfl
theorem c_row_less : compSs (ccOfO ["fractions_less", "fractions_times"] [] false []) ["row", "other", "by", "one", "late"] [] 60 (defScope (top 32)) (defBody (top 32)) = some ir_row_less := by kernel_rfl
theorem c_in_squares : compSs (ccOfO ["square_powers", "member_squarefields", "fractions_over", "row_less"] ["NOTHING_squarefields"] false [3]) ["polynomial", "number", "many", "rows", "k", "powers", "degree", "j", "one", "row", "i"] [3] 60 (defScope (top 33)) (defBody (top 33)) = some ir_in_squares := by kernel_rfl
theorem c__law_source : compSs (ccOf [] [] false) ["script", "mixed", "cell"] [] 60 (defScope (top 35)) (defBody (top 35)) = some K07.ir__law_source := by kernel_rfl
theorem c__law_pick : compSs (ccOf [] [] false) ["source", "many", "left", "mixed"] [] 60 (defScope (top 36)) (defBody (top 36)) = some K07.ir__law_pick := by kernel_rfl
theorem c__law_of : compSs (ccOf ["_law_pick"] [] false) ["source", "some"] [] 60 (defScope (top 37)) (defBody (top 37)) = some K07.ir__law_of := by kernel_rfl
theorem c__law_low : compSs (ccOfO [] [] false []) ["top", "bottom", "sign", "a", "b"] [] 60 (defScope (top 38)) (defBody (top 38)) = some ir__law_low := by kernel_rfl
theorem c__law_sum : compSs (ccOfO ["_law_low"] [] false []) ["one", "other", "by"] [] 60 (defScope (top 39)) (defBody (top 39)) = some ir__law_sum := by kernel_rfl
theorem c__law_times : compSs (ccOfO ["_law_low"] [] false []) ["one", "other"] [] 60 (defScope (top 40)) (defBody (top 40)) = some ir__law_times := by kernel_rfl
theorem c__law_over : compSs (ccOfO ["_law_low"] [] false []) ["one", "other"] [] 60 (defScope (top 41)) (defBody (top 41)) = some ir__law_over := by kernel_rfl
theorem c__law_cut : compSs (ccOfO [] [] false [1]) ["line", "found"] [1] 60 (defScope (top 42)) (defBody (top 42)) = some ir__law_cut := by kernel_rfl
theorem c__law_product : compSs (ccOfO ["_law_cut", "_law_sum", "_law_times"] [] false [2]) ["one", "other", "found", "k", "a", "j", "b"] [2] 60 (defScope (top 43)) (defBody (top 43)) = some ir__law_product := by kernel_rfl
theorem c__law_both : compSs (ccOfO ["_law_cut", "_law_sum"] [] false []) ["one", "other", "by", "many", "lines", "some", "a", "b"] [] 60 (defScope (top 44)) (defBody (top 44)) = some ir__law_both := by kernel_rfl
theorem c__law_rest : compSs (ccOfO ["_law_cut", "_law_over", "_law_sum", "_law_times"] [] false [2]) ["one", "other", "rest", "lap", "by", "at", "k", "number"] [2] 60 (defScope (top 45)) (defBody (top 45)) = some ir__law_rest := by kernel_rfl
theorem c__law_numbers : compSs (ccOfO ["_law_cut"] [] false []) ["line", "number"] [] 60 (defScope (top 46)) (defBody (top 46)) = some ir__law_numbers := by kernel_rfl
theorem c__law_roots : compSs (ccOfO [] [] false []) ["some"] [] 60 (defScope (top 47)) (defBody (top 47)) = some ir__law_roots := by kernel_rfl
theorem c__law_first_one : compSs (ccOfO ["_law_over"] [] false []) ["one", "number"] [] 60 (defScope (top 48)) (defBody (top 48)) = some ir__law_first_one := by kernel_rfl
theorem c__law_squares : compSs (ccOfO ["_law_first_one", "_law_product", "_law_times"] [] false []) ["one", "turned", "number", "k"] [] 60 (defScope (top 49)) (defBody (top 49)) = some ir__law_squares := by kernel_rfl
theorem c__law_put_together : compSs (ccOfO ["_law_rest", "_law_both", "_law_cut", "_law_product", "_law_times"] [] false []) ["one", "row", "number", "square", "power", "found", "late"] [] 60 (defScope (top 50)) (defBody (top 50)) = some ir__law_put_together := by kernel_rfl
theorem c__law_number : compSs (ccOfO ["_law_cut", "_law_low", "_law_pick"] [] false [3]) ["source", "many", "far", "line", "k", "number"] [3] 60 (defScope (top 51)) (defBody (top 51)) = some ir__law_number := by kernel_rfl
theorem c_law : compSs (ccOfO ["_law_source", "_law_numbers", "_law_of", "_law_first_one", "_law_squares", "squares_told", "in_squares", "_law_roots", "_law_put_together", "_law_number", "_law_low"] [] false [4]) ["script", "source", "turn", "one", "told", "due", "lap", "n", "is_even", "number", "row", "is_there", "late"] [4] 60 (defScope (top 52)) (defBody (top 52)) = some ir_law := by kernel_rfl
theorem sc_fraction_low : FnScope ["top", "bottom", "part"] ["top", "bottom"] (defScope (top 2)) := ⟨rfl, rfl, rfl, by decide +kernel, rfl, by decide +kernel, by decide +kernel⟩
theorem sc_fractions_added : FnScope ["one", "other"] ["one", "other"] (defScope (top 3)) := ⟨rfl, rfl, rfl, by decide +kernel, rfl, by decide +kernel, by decide +kernel⟩
theorem sc_fractions_less : FnScope ["one", "other"] ["one", "other"] (defScope (top 4)) := ⟨rfl, rfl, rfl, by decide +kernel, rfl, by decide +kernel, by decide +kernel⟩
theorem sc_fractions_times : FnScope ["one", "other"] ["one", "other"] (defScope (top 5)) := ⟨rfl, rfl, rfl, by decide +kernel, rfl, by decide +kernel, by decide +kernel⟩
theorem sc_fractions_over : FnScope ["one", "other"] ["one", "other"] (defScope (top 6)) := ⟨rfl, rfl, rfl, by decide +kernel, rfl, by decide +kernel, by decide +kernel⟩
theorem sc_polynomial_of : FnScope ["numbers", "found"] ["numbers"] (defScope (top 10)) := ⟨rfl, rfl, rfl, by decide +kernel, rfl, by decide +kernel, by decide +kernel⟩
theorem sc_member_polynomials : FnScope ["one", "power"] ["one", "power"] (defScope (top 11)) := ⟨rfl, rfl, rfl, by decide +kernel, rfl, by decide +kernel, by decide +kernel⟩
theorem sc_polynomials_added : FnScope ["one", "other", "many", "k"] ["one", "other"] (defScope (top 13)) := ⟨rfl, rfl, rfl, by decide +kernel, rfl, by decide +kernel, by decide +kernel⟩
theorem sc_polynomial_scaled : FnScope ["one", "by", "number"] ["one", "by"] (defScope (top 14)) := ⟨rfl, rfl, rfl, by decide +kernel, rfl, by decide +kernel, by decide +kernel⟩
theorem sc_polynomials_less : FnScope ["one", "other"] ["one", "other"] (defScope (top 15)) := ⟨rfl, rfl, rfl, by decide +kernel, rfl, by decide +kernel, by decide +kernel⟩
theorem sc_polynomials_times : FnScope ["one", "other", "found", "k", "number", "j", "late"] ["one", "other"] (defScope (top 16)) := ⟨rfl, rfl, rfl, by decide +kernel, rfl, by decide +kernel, by decide +kernel⟩
theorem sc_polynomial_parted : FnScope ["one", "other", "k", "rest", "found", "by", "j", "number"] ["one", "other"] (defScope (top 17)) := ⟨rfl, rfl, rfl, by decide +kernel, rfl, by decide +kernel, by decide +kernel⟩
theorem sc_polynomial_first_one : FnScope ["one"] ["one"] (defScope (top 18)) := ⟨rfl, rfl, rfl, by decide +kernel, rfl, by decide +kernel, by decide +kernel⟩
theorem sc_even_part : FnScope ["one"] ["one"] (defScope (top 19)) := ⟨rfl, rfl, rfl, by decide +kernel, rfl, by decide +kernel, by decide +kernel⟩
theorem sc_odd_part : FnScope ["one"] ["one"] (defScope (top 20)) := ⟨rfl, rfl, rfl, by decide +kernel, rfl, by decide +kernel, by decide +kernel⟩
theorem sc_told_in : FnScope ["polynomial", "one"] ["polynomial", "one"] (defScope (top 22)) := ⟨rfl, rfl, rfl, by decide +kernel, rfl, by decide +kernel, by decide +kernel⟩
theorem sc_field_times : FnScope ["polynomial", "one", "other"] ["polynomial", "one", "other"] (defScope (top 23)) := ⟨rfl, rfl, rfl, by decide +kernel, rfl, by decide +kernel, by decide +kernel⟩
theorem sc_squares_told : FnScope ["polynomial", "late", "even", "odd"] ["polynomial"] (defScope (top 28)) := ⟨rfl, rfl, rfl, by decide +kernel, rfl, by decide +kernel, by decide +kernel⟩
theorem sc_square_powers : FnScope ["polynomial", "lap", "square", "found"] ["polynomial"] (defScope (top 29)) := ⟨rfl, rfl, rfl, by decide +kernel, rfl, by decide +kernel, by decide +kernel⟩
theorem sc_member_squarefields : FnScope ["one", "power"] ["one", "power"] (defScope (top 30)) := ⟨rfl, rfl, rfl, by decide +kernel, rfl, by decide +kernel, by decide +kernel⟩
theorem sc_row_less : FnScope ["row", "other", "by", "one", "late"] ["row", "other", "by"] (defScope (top 32)) := ⟨rfl, rfl, rfl, by decide +kernel, rfl, by decide +kernel, by decide +kernel⟩
theorem sc_in_squares : FnScope ["polynomial", "number", "many", "rows", "k", "powers", "degree", "j", "one", "row", "i"] ["polynomial", "number"] (defScope (top 33)) := ⟨rfl, rfl, rfl, by decide +kernel, rfl, by decide +kernel, by decide +kernel⟩
theorem sc__law_source : FnScope ["script", "mixed", "cell"] ["script"] (defScope (top 35)) := ⟨rfl, rfl, rfl, by decide +kernel, rfl, by decide +kernel, by decide +kernel⟩
theorem sc__law_pick : FnScope ["source", "many", "left", "mixed"] ["source", "many"] (defScope (top 36)) := ⟨rfl, rfl, rfl, by decide +kernel, rfl, by decide +kernel, by decide +kernel⟩
theorem sc__law_of : FnScope ["source", "some"] ["source", "some"] (defScope (top 37)) := ⟨rfl, rfl, rfl, by decide +kernel, rfl, by decide +kernel, by decide +kernel⟩
theorem sc__law_low : FnScope ["top", "bottom", "sign", "a", "b"] ["top", "bottom"] (defScope (top 38)) := ⟨rfl, rfl, rfl, by decide +kernel, rfl, by decide +kernel, by decide +kernel⟩
theorem sc__law_sum : FnScope ["one", "other", "by"] ["one", "other", "by"] (defScope (top 39)) := ⟨rfl, rfl, rfl, by decide +kernel, rfl, by decide +kernel, by decide +kernel⟩
theorem sc__law_times : FnScope ["one", "other"] ["one", "other"] (defScope (top 40)) := ⟨rfl, rfl, rfl, by decide +kernel, rfl, by decide +kernel, by decide +kernel⟩
theorem sc__law_over : FnScope ["one", "other"] ["one", "other"] (defScope (top 41)) := ⟨rfl, rfl, rfl, by decide +kernel, rfl, by decide +kernel, by decide +kernel⟩
theorem sc__law_cut : FnScope ["line", "found"] ["line"] (defScope (top 42)) := ⟨rfl, rfl, rfl, by decide +kernel, rfl, by decide +kernel, by decide +kernel⟩
theorem sc__law_product : FnScope ["one", "other", "found", "k", "a", "j", "b"] ["one", "other"] (defScope (top 43)) := ⟨rfl, rfl, rfl, by decide +kernel, rfl, by decide +kernel, by decide +kernel⟩
theorem sc__law_both : FnScope ["one", "other", "by", "many", "lines", "some", "a", "b"] ["one", "other", "by"] (defScope (top 44)) := ⟨rfl, rfl, rfl, by decide +kernel, rfl, by decide +kernel, by decide +kernel⟩
theorem sc__law_rest : FnScope ["one", "other", "rest", "lap", "by", "at", "k", "number"] ["one", "other"] (defScope (top 45)) := ⟨rfl, rfl, rfl, by decide +kernel, rfl, by decide +kernel, by decide +kernel⟩
theorem sc__law_numbers : FnScope ["line", "number"] ["line"] (defScope (top 46)) := ⟨rfl, rfl, rfl, by decide +kernel, rfl, by decide +kernel, by decide +kernel⟩
theorem sc__law_roots : FnScope ["some"] [] (defScope (top 47)) := ⟨rfl, rfl, rfl, by decide +kernel, rfl, by decide +kernel, by decide +kernel⟩
theorem sc__law_first_one : FnScope ["one", "number"] ["one"] (defScope (top 48)) := ⟨rfl, rfl, rfl, by decide +kernel, rfl, by decide +kernel, by decide +kernel⟩
theorem sc__law_squares : FnScope ["one", "turned", "number", "k"] ["one"] (defScope (top 49)) := ⟨rfl, rfl, rfl, by decide +kernel, rfl, by decide +kernel, by decide +kernel⟩
theorem sc__law_put_together : FnScope ["one", "row", "number", "square", "power", "found", "late"] ["one", "row"] (defScope (top 50)) := ⟨rfl, rfl, rfl, by decide +kernel, rfl, by decide +kernel, by decide +kernel⟩
theorem sc__law_number : FnScope ["source", "many", "far", "line", "k", "number"] ["source", "many", "far"] (defScope (top 51)) := ⟨rfl, rfl, rfl, by decide +kernel, rfl, by decide +kernel, by decide +kernel⟩
theorem sc_law : FnScope ["script", "source", "turn", "one", "told", "due", "lap", "n", "is_even", "number", "row", "is_there", "late"] ["script"] (defScope (top 52)) := ⟨rfl, rfl, rfl, by decide +kernel, rfl, by decide +kernel, by decide +kernel⟩
def d2 : He.DefD := ⟨("fraction_low", none), "fraction_low", "fraction_low", defArgs (top 2), defBody (top 2), defScope (top 2), [], []⟩
def d3 : He.DefD := ⟨("fractions_added", none), "fractions_added", "fractions_added", defArgs (top 3), defBody (top 3), defScope (top 3), [], []⟩
def d4 : He.DefD := ⟨("fractions_less", none), "fractions_less", "fractions_less", defArgs (top 4), defBody (top 4), defScope (top 4), [], []⟩
def d5 : He.DefD := ⟨("fractions_times", none), "fractions_times", "fractions_times", defArgs (top 5), defBody (top 5), defScope (top 5), [], []⟩
def d6 : He.DefD := ⟨("fractions_over", none), "fractions_over", "fractions_over", defArgs (top 6), defBody (top 6), defScope (top 6), [], []⟩
def d10 : He.DefD := ⟨("polynomial_of", none), "polynomial_of", "polynomial_of", defArgs (top 10), defBody (top 10), defScope (top 10), [], []⟩
def d11 : He.DefD := ⟨("member_polynomials", none), "member", "member", defArgs (top 11), defBody (top 11), defScope (top 11), [], []⟩
def d13 : He.DefD := ⟨("polynomials_added", none), "polynomials_added", "polynomials_added", defArgs (top 13), defBody (top 13), defScope (top 13), [], []⟩
def d14 : He.DefD := ⟨("polynomial_scaled", none), "polynomial_scaled", "polynomial_scaled", defArgs (top 14), defBody (top 14), defScope (top 14), [], []⟩
def d15 : He.DefD := ⟨("polynomials_less", none), "polynomials_less", "polynomials_less", defArgs (top 15), defBody (top 15), defScope (top 15), [], []⟩
def d16 : He.DefD := ⟨("polynomials_times", none), "polynomials_times", "polynomials_times", defArgs (top 16), defBody (top 16), defScope (top 16), [], []⟩
def d17 : He.DefD := ⟨("polynomial_parted", none), "polynomial_parted", "polynomial_parted", defArgs (top 17), defBody (top 17), defScope (top 17), [], []⟩
def d18 : He.DefD := ⟨("polynomial_first_one", none), "polynomial_first_one", "polynomial_first_one", defArgs (top 18), defBody (top 18), defScope (top 18), [], []⟩
def d19 : He.DefD := ⟨("even_part", none), "even_part", "even_part", defArgs (top 19), defBody (top 19), defScope (top 19), [], []⟩
def d20 : He.DefD := ⟨("odd_part", none), "odd_part", "odd_part", defArgs (top 20), defBody (top 20), defScope (top 20), [], []⟩
def d22 : He.DefD := ⟨("told_in", none), "told_in", "told_in", defArgs (top 22), defBody (top 22), defScope (top 22), [], []⟩
def d23 : He.DefD := ⟨("field_times", none), "field_times", "field_times", defArgs (top 23), defBody (top 23), defScope (top 23), [], []⟩
def d28 : He.DefD := ⟨("squares_told", none), "squares_told", "squares_told", defArgs (top 28), defBody (top 28), defScope (top 28), [], []⟩
def d29 : He.DefD := ⟨("square_powers", none), "square_powers", "square_powers", defArgs (top 29), defBody (top 29), defScope (top 29), [], []⟩
def d30 : He.DefD := ⟨("member_squarefields", none), "member", "member", defArgs (top 30), defBody (top 30), defScope (top 30), [], []⟩
def d32 : He.DefD := ⟨("row_less", none), "row_less", "row_less", defArgs (top 32), defBody (top 32), defScope (top 32), [], []⟩
def d33 : He.DefD := ⟨("in_squares", none), "in_squares", "in_squares", defArgs (top 33), defBody (top 33), defScope (top 33), [], []⟩
def d35 : He.DefD := ⟨("_law_source", none), "_law_source", "_law_source", defArgs (top 35), defBody (top 35), defScope (top 35), [], []⟩
def d36 : He.DefD := ⟨("_law_pick", none), "_law_pick", "_law_pick", defArgs (top 36), defBody (top 36), defScope (top 36), [], []⟩
def d37 : He.DefD := ⟨("_law_of", none), "_law_of", "_law_of", defArgs (top 37), defBody (top 37), defScope (top 37), [], []⟩
def d38 : He.DefD := ⟨("_law_low", none), "_law_low", "_law_low", defArgs (top 38), defBody (top 38), defScope (top 38), [], []⟩
def d39 : He.DefD := ⟨("_law_sum", none), "_law_sum", "_law_sum", defArgs (top 39), defBody (top 39), defScope (top 39), [], []⟩
def d40 : He.DefD := ⟨("_law_times", none), "_law_times", "_law_times", defArgs (top 40), defBody (top 40), defScope (top 40), [], []⟩
def d41 : He.DefD := ⟨("_law_over", none), "_law_over", "_law_over", defArgs (top 41), defBody (top 41), defScope (top 41), [], []⟩
def d42 : He.DefD := ⟨("_law_cut", none), "_law_cut", "_law_cut", defArgs (top 42), defBody (top 42), defScope (top 42), [], []⟩
def d43 : He.DefD := ⟨("_law_product", none), "_law_product", "_law_product", defArgs (top 43), defBody (top 43), defScope (top 43), [], []⟩
def d44 : He.DefD := ⟨("_law_both", none), "_law_both", "_law_both", defArgs (top 44), defBody (top 44), defScope (top 44), [], []⟩
def d45 : He.DefD := ⟨("_law_rest", none), "_law_rest", "_law_rest", defArgs (top 45), defBody (top 45), defScope (top 45), [], []⟩
def d46 : He.DefD := ⟨("_law_numbers", none), "_law_numbers", "_law_numbers", defArgs (top 46), defBody (top 46), defScope (top 46), [], []⟩
def d47 : He.DefD := ⟨("_law_roots", none), "_law_roots", "_law_roots", defArgs (top 47), defBody (top 47), defScope (top 47), [], []⟩
def d48 : He.DefD := ⟨("_law_first_one", none), "_law_first_one", "_law_first_one", defArgs (top 48), defBody (top 48), defScope (top 48), [], []⟩
def d49 : He.DefD := ⟨("_law_squares", none), "_law_squares", "_law_squares", defArgs (top 49), defBody (top 49), defScope (top 49), [], []⟩
def d50 : He.DefD := ⟨("_law_put_together", none), "_law_put_together", "_law_put_together", defArgs (top 50), defBody (top 50), defScope (top 50), [], []⟩
def d51 : He.DefD := ⟨("_law_number", none), "_law_number", "_law_number", defArgs (top 51), defBody (top 51), defScope (top 51), [], []⟩
def d52 : He.DefD := ⟨("law", none), "law", "law", defArgs (top 52), defBody (top 52), defScope (top 52), [], []⟩
def fn : List He.DefD := [d2, d3, d4, d5, d6, d10, d11, d13, d14, d15, d16, d17, d18, d19, d20, d22, d23, d28, d29, d30, d32, d33, d35, d36, d37, d38, d39, d40, d41, d42, d43, d44, d45, d46, d47, d48, d49, d50, d51, d52]
def fa : List He.Fa := [.glo "fraction_low", .glo "fractions_added", .glo "fractions_less", .glo "fractions_times", .glo "fractions_over", .glo "polynomial_of", .glo "member_polynomials", .glo "polynomials_added", .glo "polynomial_scaled", .glo "polynomials_less", .glo "polynomials_times", .glo "polynomial_parted", .glo "polynomial_first_one", .glo "even_part", .glo "odd_part", .glo "told_in", .glo "field_times", .glo "squares_told", .glo "square_powers", .glo "member_squarefields", .glo "row_less", .glo "in_squares", .glo "_law_source", .glo "_law_pick", .glo "_law_of", .glo "_law_low", .glo "_law_sum", .glo "_law_times", .glo "_law_over", .glo "_law_cut", .glo "_law_product", .glo "_law_both", .glo "_law_rest", .glo "_law_numbers", .glo "_law_roots", .glo "_law_first_one", .glo "_law_squares", .glo "_law_put_together", .glo "_law_number", .glo "law", .free "len", .free "list", .free "tuple", .free "abs", .free "int", .free "max", .free "min", .free "repr", .free "all", .free "any", .free "sum", .free "isinstance", .free "range", .free "enumerate", .free "zip", .free "bool", .free "str", .glo "NOTHING_polynomials", .glo "WHOLE", .glo "NOTHING_squarefields", .glo "ONE", .glo "LETTER"]
def ex (K : PySem.W.Frag) : Bool := (He.eqO (PySem.W.nsIn K mainGlobals "gcd") (some (some (.builtin "math.gcd"))) && (repB K (.tuple [.int 0, .int 1]) (.ref (He.ga K "NOTHING_polynomials")) && (repB K (.tuple [.int 1, .int 1]) (.ref (He.ga K "WHOLE")) && (repB K (.tuple [.int 0, .int 1]) (.ref (He.ga K "NOTHING_squarefields")) && (repB K (.tuple [.tuple [.int 1, .int 1]]) (.ref (He.ga K "ONE")) && (repB K (.tuple [.tuple [.int 0, .int 1], .tuple [.int 1, .int 1]]) (.ref (He.ga K "LETTER")) && true))))))
abbrev R : PySem.W.OpenRow := PySem.W.OpenLaw.row PySem.Challenge.rw_panewebs_k38_the_squares_field
abbrev hk : PySem.W.Hook := hookV 4 fa fn ex
def ob (s : PySem.W.SharedT) : He.AlD × Bool := obsV 4 fa fn ex (HandSHeadRun.getT s)
theorem ob_eq (s : PySem.W.SharedT) : ob s = hk.obs s.abs := obsV_eq (HandSHeadRun.getT_eq s)
def loose0 : List PySem.Str := ["gcd", "fraction_low", "fractions_added", "fractions_less", "fractions_times", "fractions_over", "NOTHING_polynomials", "WHOLE", "polynomial_of", "member", "member_polynomials", "polynomials_added", "polynomial_scaled", "polynomials_less", "polynomials_times", "polynomial_parted", "polynomial_first_one", "even_part", "odd_part", "told_in", "field_times", "NOTHING_squarefields", "ONE", "LETTER", "squares_told", "square_powers", "member_squarefields", "row_less", "in_squares", "_law_source"]
def loose1 : List PySem.Str := ["_law_pick", "_law_of", "_law_low", "_law_sum", "_law_times", "_law_over", "_law_cut", "_law_product", "_law_both", "_law_rest", "_law_numbers", "_law_roots", "_law_first_one", "_law_squares", "_law_put_together", "_law_number"]
def loose : List PySem.Str := loose0 ++ loose1
theorem hrun (w : World) : HandSHeadRun.RunEqI R (PySem.W.view R.prog [0, 52]) hk ob 4000 loose w := by
  unfold HandSHeadRun.RunEqI
  kernel_rfl
section
variable {P : Program} {w : World} {K : PySem.W.Frag} {mg : Str → Option Value} {base h : Heap}
theorem frees (c : He.SaysD fa fn K) (X : K.In h) (G : h.Ns mainGlobals mg) : ∀ x ∈ bltNames, mg x = none := by
  intro x hx
  unfold bltNames at hx
  simp only [List.mem_cons, List.not_mem_nil, or_false] at hx
  rcases hx with rfl | rfl | rfl | rfl | rfl | rfl | rfl | rfl | rfl | rfl | rfl | rfl | rfl | rfl | rfl | rfl | rfl
  · exact He.free_ok X G (c.fact 40 (f := .free "len") rfl)
  · exact He.free_ok X G (c.fact 41 (f := .free "list") rfl)
  · exact He.free_ok X G (c.fact 42 (f := .free "tuple") rfl)
  · exact He.free_ok X G (c.fact 43 (f := .free "abs") rfl)
  · exact He.free_ok X G (c.fact 44 (f := .free "int") rfl)
  · exact He.free_ok X G (c.fact 45 (f := .free "max") rfl)
  · exact He.free_ok X G (c.fact 46 (f := .free "min") rfl)
  · exact He.free_ok X G (c.fact 47 (f := .free "repr") rfl)
  · exact He.free_ok X G (c.fact 48 (f := .free "all") rfl)
  · exact He.free_ok X G (c.fact 49 (f := .free "any") rfl)
  · exact He.free_ok X G (c.fact 50 (f := .free "sum") rfl)
  · exact He.free_ok X G (c.fact 51 (f := .free "isinstance") rfl)
  · exact He.free_ok X G (c.fact 52 (f := .free "range") rfl)
  · exact He.free_ok X G (c.fact 53 (f := .free "enumerate") rfl)
  · exact He.free_ok X G (c.fact 54 (f := .free "zip") rfl)
  · exact He.free_ok X G (c.fact 55 (f := .free "bool") rfl)
  · exact He.free_ok X G (c.fact 56 (f := .free "str") rfl)
theorem con_NOTHING_polynomials (c : He.SaysD fa fn K) (e : ex K = true) (X : K.In h) (G : h.Ns mainGlobals mg) : ConAt K mg "NOTHING_polynomials" (.tuple [.int 0, .int 1]) :=
  con_rep (He.glo_ok X G (c.fact 57 (f := .glo "NOTHING_polynomials") rfl)) (He.ba (He.ba e).2).1
theorem con_WHOLE (c : He.SaysD fa fn K) (e : ex K = true) (X : K.In h) (G : h.Ns mainGlobals mg) : ConAt K mg "WHOLE" (.tuple [.int 1, .int 1]) :=
  con_rep (He.glo_ok X G (c.fact 58 (f := .glo "WHOLE") rfl)) (He.ba (He.ba (He.ba e).2).2).1
theorem con_NOTHING_squarefields (c : He.SaysD fa fn K) (e : ex K = true) (X : K.In h) (G : h.Ns mainGlobals mg) : ConAt K mg "NOTHING_squarefields" (.tuple [.int 0, .int 1]) :=
  con_rep (He.glo_ok X G (c.fact 59 (f := .glo "NOTHING_squarefields") rfl)) (He.ba (He.ba (He.ba (He.ba e).2).2).2).1
theorem con_ONE (c : He.SaysD fa fn K) (e : ex K = true) (X : K.In h) (G : h.Ns mainGlobals mg) : ConAt K mg "ONE" (.tuple [.tuple [.int 1, .int 1]]) :=
  con_rep (He.glo_ok X G (c.fact 60 (f := .glo "ONE") rfl)) (He.ba (He.ba (He.ba (He.ba (He.ba e).2).2).2).2).1
theorem con_LETTER (c : He.SaysD fa fn K) (e : ex K = true) (X : K.In h) (G : h.Ns mainGlobals mg) : ConAt K mg "LETTER" (.tuple [.tuple [.int 0, .int 1], .tuple [.int 1, .int 1]]) :=
  con_rep (He.glo_ok X G (c.fact 61 (f := .glo "LETTER") rfl)) (He.ba (He.ba (He.ba (He.ba (He.ba (He.ba e).2).2).2).2).2).1
theorem gcd_ok (e : ex K = true) (X : K.In h) (G : h.Ns mainGlobals mg) : mg "gcd" = some (.builtin "math.gcd") := PySem.W.mg_of X G (He.eqO_ok (He.ba e).1)
theorem has_fraction_low (c : He.SaysD fa fn K) (e : ex K = true) (X : K.In h) (G : h.Ns mainGlobals mg) : Has P w K mg base 1 "fraction_low" K07.sem_fraction_low := by
  obtain ⟨fd, F⟩ := c.def_ 0 (d := d2) rfl
  exact has_of (k := 0) F (He.glo_ok X G (c.fact 0 (f := .glo "fraction_low") rfl)) sc_fraction_low (fun _ _ _ _ _ _ us hl => match us, hl with | [_, _], _ => rfl)
    (glob_of (gcd := true) .nil .nil (frees c X G) (fun _ => gcd_ok e X G)) c_fraction_low
theorem has_fractions_added (c : He.SaysD fa fn K) (e : ex K = true) (X : K.In h) (G : h.Ns mainGlobals mg) : Has P w K mg base 2 "fractions_added" K07.sem_fractions_added := by
  obtain ⟨fd, F⟩ := c.def_ 1 (d := d3) rfl
  exact has_of (k := 1) F (He.glo_ok X G (c.fact 1 (f := .glo "fractions_added") rfl)) sc_fractions_added (fun _ _ _ _ _ _ us hl => match us, hl with | [_, _], _ => rfl)
    (glob_of (gcd := false) (.cons ((has_fraction_low c e X G).mono (by decide)) .nil) .nil (frees c X G) (fun z => Bool.noConfusion z)) c_fractions_added
theorem has_fractions_less (c : He.SaysD fa fn K) (e : ex K = true) (X : K.In h) (G : h.Ns mainGlobals mg) : Has P w K mg base 2 "fractions_less" K07.sem_fractions_less := by
  obtain ⟨fd, F⟩ := c.def_ 2 (d := d4) rfl
  exact has_of (k := 1) F (He.glo_ok X G (c.fact 2 (f := .glo "fractions_less") rfl)) sc_fractions_less (fun _ _ _ _ _ _ us hl => match us, hl with | [_, _], _ => rfl)
    (glob_of (gcd := false) (.cons ((has_fraction_low c e X G).mono (by decide)) .nil) .nil (frees c X G) (fun z => Bool.noConfusion z)) c_fractions_less
theorem has_fractions_times (c : He.SaysD fa fn K) (e : ex K = true) (X : K.In h) (G : h.Ns mainGlobals mg) : Has P w K mg base 2 "fractions_times" K07.sem_fractions_times := by
  obtain ⟨fd, F⟩ := c.def_ 3 (d := d5) rfl
  exact has_of (k := 1) F (He.glo_ok X G (c.fact 3 (f := .glo "fractions_times") rfl)) sc_fractions_times (fun _ _ _ _ _ _ us hl => match us, hl with | [_, _], _ => rfl)
    (glob_of (gcd := false) (.cons ((has_fraction_low c e X G).mono (by decide)) .nil) .nil (frees c X G) (fun z => Bool.noConfusion z)) c_fractions_times
theorem has_fractions_over (c : He.SaysD fa fn K) (e : ex K = true) (X : K.In h) (G : h.Ns mainGlobals mg) : Has P w K mg base 2 "fractions_over" K07.sem_fractions_over := by
  obtain ⟨fd, F⟩ := c.def_ 4 (d := d6) rfl
  exact has_of (k := 1) F (He.glo_ok X G (c.fact 4 (f := .glo "fractions_over") rfl)) sc_fractions_over (fun _ _ _ _ _ _ us hl => match us, hl with | [_, _], _ => rfl)
    (glob_of (gcd := false) (.cons ((has_fraction_low c e X G).mono (by decide)) .nil) .nil (frees c X G) (fun z => Bool.noConfusion z)) c_fractions_over
theorem has_polynomial_of (c : He.SaysD fa fn K) (e : ex K = true) (X : K.In h) (G : h.Ns mainGlobals mg) : Has P w K mg base 1 "polynomial_of" K07.sem_polynomial_of := by
  obtain ⟨fd, F⟩ := c.def_ 5 (d := d10) rfl
  exact has_of (k := 0) F (He.glo_ok X G (c.fact 5 (f := .glo "polynomial_of") rfl)) sc_polynomial_of (fun _ _ _ _ _ _ us hl => match us, hl with | [_], _ => rfl)
    (glob_of (gcd := false) .nil (.cons (con_NOTHING_polynomials c e X G) .nil) (frees c X G) (fun z => Bool.noConfusion z)) c_polynomial_of
theorem has_member_polynomials (c : He.SaysD fa fn K) (e : ex K = true) (X : K.In h) (G : h.Ns mainGlobals mg) : Has P w K mg base 1 "member_polynomials" K07.sem_member := by
  obtain ⟨fd, F⟩ := c.def_ 6 (d := d11) rfl
  exact has_ofG (k := 0) F (He.glo_ok X G (c.fact 6 (f := .glo "member_polynomials") rfl)) sc_member_polynomials (fun _ _ _ _ _ _ us hl => match us, hl with | [_, _], _ => rfl)
    (glob_of (gcd := false) .nil (.cons (con_NOTHING_polynomials c e X G) .nil) (frees c X G) (fun z => Bool.noConfusion z)) c_member_polynomials
theorem has_polynomials_added (c : He.SaysD fa fn K) (e : ex K = true) (X : K.In h) (G : h.Ns mainGlobals mg) : Has P w K mg base 3 "polynomials_added" K07.sem_polynomials_added := by
  obtain ⟨fd, F⟩ := c.def_ 7 (d := d13) rfl
  exact has_of (k := 2) F (He.glo_ok X G (c.fact 7 (f := .glo "polynomials_added") rfl)) sc_polynomials_added (fun _ _ _ _ _ _ us hl => match us, hl with | [_, _], _ => rfl)
    (glob_of (gcd := false) (.cons ((has_polynomial_of c e X G).mono (by decide)) (.cons ((has_fractions_added c e X G).mono (by decide)) (.cons ((has_member_polynomials c e X G).mono (by decide)) .nil))) .nil (frees c X G) (fun z => Bool.noConfusion z)) c_polynomials_added
theorem has_polynomial_scaled (c : He.SaysD fa fn K) (e : ex K = true) (X : K.In h) (G : h.Ns mainGlobals mg) : Has P w K mg base 3 "polynomial_scaled" K07.sem_polynomial_scaled := by
  obtain ⟨fd, F⟩ := c.def_ 8 (d := d14) rfl
  exact has_of (k := 2) F (He.glo_ok X G (c.fact 8 (f := .glo "polynomial_scaled") rfl)) sc_polynomial_scaled (fun _ _ _ _ _ _ us hl => match us, hl with | [_, _], _ => rfl)
    (glob_of (gcd := false) (.cons ((has_polynomial_of c e X G).mono (by decide)) (.cons ((has_fractions_times c e X G).mono (by decide)) .nil)) .nil (frees c X G) (fun z => Bool.noConfusion z)) c_polynomial_scaled
theorem has_polynomials_less (c : He.SaysD fa fn K) (e : ex K = true) (X : K.In h) (G : h.Ns mainGlobals mg) : Has P w K mg base 4 "polynomials_less" K07.sem_polynomials_less := by
  obtain ⟨fd, F⟩ := c.def_ 9 (d := d15) rfl
  exact has_of (k := 3) F (He.glo_ok X G (c.fact 9 (f := .glo "polynomials_less") rfl)) sc_polynomials_less (fun _ _ _ _ _ _ us hl => match us, hl with | [_, _], _ => rfl)
    (glob_of (gcd := false) (.cons ((has_polynomials_added c e X G).mono (by decide)) (.cons ((has_polynomial_scaled c e X G).mono (by decide)) .nil)) .nil (frees c X G) (fun z => Bool.noConfusion z)) c_polynomials_less
theorem has_polynomials_times (c : He.SaysD fa fn K) (e : ex K = true) (X : K.In h) (G : h.Ns mainGlobals mg) : Has P w K mg base 3 "polynomials_times" K07.sem_polynomials_times := by
  obtain ⟨fd, F⟩ := c.def_ 10 (d := d16) rfl
  exact has_of (k := 2) F (He.glo_ok X G (c.fact 10 (f := .glo "polynomials_times") rfl)) sc_polynomials_times (fun _ _ _ _ _ _ us hl => match us, hl with | [_, _], _ => rfl)
    (glob_of (gcd := false) (.cons ((has_polynomial_of c e X G).mono (by decide)) (.cons ((has_fractions_added c e X G).mono (by decide)) (.cons ((has_fractions_times c e X G).mono (by decide)) .nil))) (.cons (con_NOTHING_polynomials c e X G) .nil) (frees c X G) (fun z => Bool.noConfusion z)) c_polynomials_times
theorem has_polynomial_parted (c : He.SaysD fa fn K) (e : ex K = true) (X : K.In h) (G : h.Ns mainGlobals mg) : Has P w K mg base 3 "polynomial_parted" K07.sem_polynomial_parted := by
  obtain ⟨fd, F⟩ := c.def_ 11 (d := d17) rfl
  exact has_of (k := 2) F (He.glo_ok X G (c.fact 11 (f := .glo "polynomial_parted") rfl)) sc_polynomial_parted (fun _ _ _ _ _ _ us hl => match us, hl with | [_, _], _ => rfl)
    (glob_of (gcd := false) (.cons ((has_fractions_over c e X G).mono (by decide)) (.cons ((has_polynomial_of c e X G).mono (by decide)) (.cons ((has_fractions_added c e X G).mono (by decide)) (.cons ((has_fractions_times c e X G).mono (by decide)) .nil)))) (.cons (con_NOTHING_polynomials c e X G) .nil) (frees c X G) (fun z => Bool.noConfusion z)) c_polynomial_parted
theorem has_polynomial_first_one (c : He.SaysD fa fn K) (e : ex K = true) (X : K.In h) (G : h.Ns mainGlobals mg) : Has P w K mg base 4 "polynomial_first_one" K07.sem_polynomial_first_one := by
  obtain ⟨fd, F⟩ := c.def_ 12 (d := d18) rfl
  exact has_of (k := 3) F (He.glo_ok X G (c.fact 12 (f := .glo "polynomial_first_one") rfl)) sc_polynomial_first_one (fun _ _ _ _ _ _ us hl => match us, hl with | [_], _ => rfl)
    (glob_of (gcd := false) (.cons ((has_polynomial_scaled c e X G).mono (by decide)) (.cons ((has_fractions_over c e X G).mono (by decide)) .nil)) (.cons (con_WHOLE c e X G) .nil) (frees c X G) (fun z => Bool.noConfusion z)) c_polynomial_first_one
theorem has_even_part (c : He.SaysD fa fn K) (e : ex K = true) (X : K.In h) (G : h.Ns mainGlobals mg) : Has P w K mg base 2 "even_part" K07.sem_even_part := by
  obtain ⟨fd, F⟩ := c.def_ 13 (d := d19) rfl
  exact has_of (k := 1) F (He.glo_ok X G (c.fact 13 (f := .glo "even_part") rfl)) sc_even_part (fun _ _ _ _ _ _ us hl => match us, hl with | [_], _ => rfl)
    (glob_of (gcd := false) (.cons ((has_polynomial_of c e X G).mono (by decide)) .nil) .nil (frees c X G) (fun z => Bool.noConfusion z)) c_even_part
theorem has_odd_part (c : He.SaysD fa fn K) (e : ex K = true) (X : K.In h) (G : h.Ns mainGlobals mg) : Has P w K mg base 2 "odd_part" K07.sem_odd_part := by
  obtain ⟨fd, F⟩ := c.def_ 14 (d := d20) rfl
  exact has_of (k := 1) F (He.glo_ok X G (c.fact 14 (f := .glo "odd_part") rfl)) sc_odd_part (fun _ _ _ _ _ _ us hl => match us, hl with | [_], _ => rfl)
    (glob_of (gcd := false) (.cons ((has_polynomial_of c e X G).mono (by decide)) .nil) .nil (frees c X G) (fun z => Bool.noConfusion z)) c_odd_part
theorem has_told_in (c : He.SaysD fa fn K) (e : ex K = true) (X : K.In h) (G : h.Ns mainGlobals mg) : Has P w K mg base 4 "told_in" sem_told_in := by
  obtain ⟨fd, F⟩ := c.def_ 15 (d := d22) rfl
  exact has_of (k := 3) F (He.glo_ok X G (c.fact 15 (f := .glo "told_in") rfl)) sc_told_in (fun _ _ _ _ _ _ us hl => match us, hl with | [_, _], _ => rfl)
    (glob_of (gcd := false) (.cons ((has_polynomial_parted c e X G).mono (by decide)) .nil) .nil (frees c X G) (fun z => Bool.noConfusion z)) c_told_in
theorem has_field_times (c : He.SaysD fa fn K) (e : ex K = true) (X : K.In h) (G : h.Ns mainGlobals mg) : Has P w K mg base 5 "field_times" sem_field_times := by
  obtain ⟨fd, F⟩ := c.def_ 16 (d := d23) rfl
  exact has_of (k := 4) F (He.glo_ok X G (c.fact 16 (f := .glo "field_times") rfl)) sc_field_times (fun _ _ _ _ _ _ us hl => match us, hl with | [_, _, _], _ => rfl)
    (glob_of (gcd := false) (.cons ((has_told_in c e X G).mono (by decide)) (.cons ((has_polynomials_times c e X G).mono (by decide)) .nil)) .nil (frees c X G) (fun z => Bool.noConfusion z)) c_field_times
theorem has_squares_told (c : He.SaysD fa fn K) (e : ex K = true) (X : K.In h) (G : h.Ns mainGlobals mg) : Has P w K mg base 5 "squares_told" sem_squares_told := by
  obtain ⟨fd, F⟩ := c.def_ 17 (d := d28) rfl
  exact has_of (k := 4) F (He.glo_ok X G (c.fact 17 (f := .glo "squares_told") rfl)) sc_squares_told (fun _ _ _ _ _ _ us hl => match us, hl with | [_], _ => rfl)
    (glob_of (gcd := false) (.cons ((has_polynomials_times c e X G).mono (by decide)) (.cons ((has_polynomial_first_one c e X G).mono (by decide)) (.cons ((has_even_part c e X G).mono (by decide)) (.cons ((has_odd_part c e X G).mono (by decide)) (.cons ((has_polynomials_less c e X G).mono (by decide)) .nil))))) (.cons (con_LETTER c e X G) .nil) (frees c X G) (fun z => Bool.noConfusion z)) c_squares_told
theorem has_square_powers (c : He.SaysD fa fn K) (e : ex K = true) (X : K.In h) (G : h.Ns mainGlobals mg) : Has P w K mg base 6 "square_powers" sem_square_powers := by
  obtain ⟨fd, F⟩ := c.def_ 18 (d := d29) rfl
  exact has_of (k := 5) F (He.glo_ok X G (c.fact 18 (f := .glo "square_powers") rfl)) sc_square_powers (fun _ _ _ _ _ _ us hl => match us, hl with | [_], _ => rfl)
    (glob_of (gcd := false) (.cons ((has_told_in c e X G).mono (by decide)) (.cons ((has_polynomials_times c e X G).mono (by decide)) (.cons ((has_field_times c e X G).mono (by decide)) (.cons ((has_squares_told c e X G).mono (by decide)) .nil)))) (.cons (con_ONE c e X G) (.cons (con_LETTER c e X G) .nil)) (frees c X G) (fun z => Bool.noConfusion z)) c_square_powers
theorem has_member_squarefields (c : He.SaysD fa fn K) (e : ex K = true) (X : K.In h) (G : h.Ns mainGlobals mg) : Has P w K mg base 1 "member_squarefields" K07.sem_member := by
  obtain ⟨fd, F⟩ := c.def_ 19 (d := d30) rfl
  exact has_ofG (k := 0) F (He.glo_ok X G (c.fact 19 (f := .glo "member_squarefields") rfl)) sc_member_squarefields (fun _ _ _ _ _ _ us hl => match us, hl with | [_, _], _ => rfl)
    (glob_of (gcd := false) .nil (.cons (con_NOTHING_squarefields c e X G) .nil) (frees c X G) (fun z => Bool.noConfusion z)) c_member_squarefields
theorem has_row_less (c : He.SaysD fa fn K) (e : ex K = true) (X : K.In h) (G : h.Ns mainGlobals mg) : Has P w K mg base 3 "row_less" sem_row_less := by
  obtain ⟨fd, F⟩ := c.def_ 20 (d := d32) rfl
  exact has_of (k := 2) F (He.glo_ok X G (c.fact 20 (f := .glo "row_less") rfl)) sc_row_less (fun _ _ _ _ _ _ us hl => match us, hl with | [_, _, _], _ => rfl)
    (glob_of (gcd := false) (.cons ((has_fractions_less c e X G).mono (by decide)) (.cons ((has_fractions_times c e X G).mono (by decide)) .nil)) .nil (frees c X G) (fun z => Bool.noConfusion z)) c_row_less
theorem has_in_squares (c : He.SaysD fa fn K) (e : ex K = true) (X : K.In h) (G : h.Ns mainGlobals mg) : Has P w K mg base 7 "in_squares" sem_in_squares := by
  obtain ⟨fd, F⟩ := c.def_ 21 (d := d33) rfl
  exact has_of (k := 6) F (He.glo_ok X G (c.fact 21 (f := .glo "in_squares") rfl)) sc_in_squares (fun _ _ _ _ _ _ us hl => match us, hl with | [_, _], _ => rfl)
    (glob_of (gcd := false) (.cons ((has_square_powers c e X G).mono (by decide)) (.cons ((has_member_squarefields c e X G).mono (by decide)) (.cons ((has_fractions_over c e X G).mono (by decide)) (.cons ((has_row_less c e X G).mono (by decide)) .nil)))) (.cons (con_NOTHING_squarefields c e X G) .nil) (frees c X G) (fun z => Bool.noConfusion z)) c_in_squares
theorem has__law_source (c : He.SaysD fa fn K) (e : ex K = true) (X : K.In h) (G : h.Ns mainGlobals mg) : Has P w K mg base 1 "_law_source" K07.sem__law_source := by
  obtain ⟨fd, F⟩ := c.def_ 22 (d := d35) rfl
  exact has_of (k := 0) F (He.glo_ok X G (c.fact 22 (f := .glo "_law_source") rfl)) sc__law_source (fun _ _ _ _ _ _ us hl => match us, hl with | [_], _ => rfl)
    (glob_of (gcd := false) .nil .nil (frees c X G) (fun z => Bool.noConfusion z)) c__law_source
theorem has__law_pick (c : He.SaysD fa fn K) (e : ex K = true) (X : K.In h) (G : h.Ns mainGlobals mg) : Has P w K mg base 1 "_law_pick" K07.sem__law_pick := by
  obtain ⟨fd, F⟩ := c.def_ 23 (d := d36) rfl
  exact has_of (k := 0) F (He.glo_ok X G (c.fact 23 (f := .glo "_law_pick") rfl)) sc__law_pick (fun _ _ _ _ _ _ us hl => match us, hl with | [_, _], _ => rfl)
    (glob_of (gcd := false) .nil .nil (frees c X G) (fun z => Bool.noConfusion z)) c__law_pick
theorem has__law_of (c : He.SaysD fa fn K) (e : ex K = true) (X : K.In h) (G : h.Ns mainGlobals mg) : Has P w K mg base 2 "_law_of" K07.sem__law_of := by
  obtain ⟨fd, F⟩ := c.def_ 24 (d := d37) rfl
  exact has_of (k := 1) F (He.glo_ok X G (c.fact 24 (f := .glo "_law_of") rfl)) sc__law_of (fun _ _ _ _ _ _ us hl => match us, hl with | [_, _], _ => rfl)
    (glob_of (gcd := false) (.cons ((has__law_pick c e X G).mono (by decide)) .nil) .nil (frees c X G) (fun z => Bool.noConfusion z)) c__law_of
theorem has__law_low (c : He.SaysD fa fn K) (e : ex K = true) (X : K.In h) (G : h.Ns mainGlobals mg) : Has P w K mg base 1 "_law_low" sem__law_low := by
  obtain ⟨fd, F⟩ := c.def_ 25 (d := d38) rfl
  exact has_of (k := 0) F (He.glo_ok X G (c.fact 25 (f := .glo "_law_low") rfl)) sc__law_low (fun _ _ _ _ _ _ us hl => match us, hl with | [_, _], _ => rfl)
    (glob_of (gcd := false) .nil .nil (frees c X G) (fun z => Bool.noConfusion z)) c__law_low
theorem has__law_sum (c : He.SaysD fa fn K) (e : ex K = true) (X : K.In h) (G : h.Ns mainGlobals mg) : Has P w K mg base 2 "_law_sum" sem__law_sum := by
  obtain ⟨fd, F⟩ := c.def_ 26 (d := d39) rfl
  exact has_of (k := 1) F (He.glo_ok X G (c.fact 26 (f := .glo "_law_sum") rfl)) sc__law_sum (fun _ _ _ _ _ _ us hl => match us, hl with | [_, _, _], _ => rfl)
    (glob_of (gcd := false) (.cons ((has__law_low c e X G).mono (by decide)) .nil) .nil (frees c X G) (fun z => Bool.noConfusion z)) c__law_sum
theorem has__law_times (c : He.SaysD fa fn K) (e : ex K = true) (X : K.In h) (G : h.Ns mainGlobals mg) : Has P w K mg base 2 "_law_times" sem__law_times := by
  obtain ⟨fd, F⟩ := c.def_ 27 (d := d40) rfl
  exact has_of (k := 1) F (He.glo_ok X G (c.fact 27 (f := .glo "_law_times") rfl)) sc__law_times (fun _ _ _ _ _ _ us hl => match us, hl with | [_, _], _ => rfl)
    (glob_of (gcd := false) (.cons ((has__law_low c e X G).mono (by decide)) .nil) .nil (frees c X G) (fun z => Bool.noConfusion z)) c__law_times
theorem has__law_over (c : He.SaysD fa fn K) (e : ex K = true) (X : K.In h) (G : h.Ns mainGlobals mg) : Has P w K mg base 2 "_law_over" sem__law_over := by
  obtain ⟨fd, F⟩ := c.def_ 28 (d := d41) rfl
  exact has_of (k := 1) F (He.glo_ok X G (c.fact 28 (f := .glo "_law_over") rfl)) sc__law_over (fun _ _ _ _ _ _ us hl => match us, hl with | [_, _], _ => rfl)
    (glob_of (gcd := false) (.cons ((has__law_low c e X G).mono (by decide)) .nil) .nil (frees c X G) (fun z => Bool.noConfusion z)) c__law_over
theorem has__law_cut (c : He.SaysD fa fn K) (e : ex K = true) (X : K.In h) (G : h.Ns mainGlobals mg) : Has P w K mg base 1 "_law_cut" sem__law_cut := by
  obtain ⟨fd, F⟩ := c.def_ 29 (d := d42) rfl
  exact has_of (k := 0) F (He.glo_ok X G (c.fact 29 (f := .glo "_law_cut") rfl)) sc__law_cut (fun _ _ _ _ _ _ us hl => match us, hl with | [_], _ => rfl)
    (glob_of (gcd := false) .nil .nil (frees c X G) (fun z => Bool.noConfusion z)) c__law_cut
theorem has__law_product (c : He.SaysD fa fn K) (e : ex K = true) (X : K.In h) (G : h.Ns mainGlobals mg) : Has P w K mg base 3 "_law_product" sem__law_product := by
  obtain ⟨fd, F⟩ := c.def_ 30 (d := d43) rfl
  exact has_of (k := 2) F (He.glo_ok X G (c.fact 30 (f := .glo "_law_product") rfl)) sc__law_product (fun _ _ _ _ _ _ us hl => match us, hl with | [_, _], _ => rfl)
    (glob_of (gcd := false) (.cons ((has__law_cut c e X G).mono (by decide)) (.cons ((has__law_sum c e X G).mono (by decide)) (.cons ((has__law_times c e X G).mono (by decide)) .nil))) .nil (frees c X G) (fun z => Bool.noConfusion z)) c__law_product
theorem has__law_both (c : He.SaysD fa fn K) (e : ex K = true) (X : K.In h) (G : h.Ns mainGlobals mg) : Has P w K mg base 3 "_law_both" sem__law_both := by
  obtain ⟨fd, F⟩ := c.def_ 31 (d := d44) rfl
  exact has_of (k := 2) F (He.glo_ok X G (c.fact 31 (f := .glo "_law_both") rfl)) sc__law_both (fun _ _ _ _ _ _ us hl => match us, hl with | [_, _, _], _ => rfl)
    (glob_of (gcd := false) (.cons ((has__law_cut c e X G).mono (by decide)) (.cons ((has__law_sum c e X G).mono (by decide)) .nil)) .nil (frees c X G) (fun z => Bool.noConfusion z)) c__law_both
theorem has__law_rest (c : He.SaysD fa fn K) (e : ex K = true) (X : K.In h) (G : h.Ns mainGlobals mg) : Has P w K mg base 3 "_law_rest" sem__law_rest := by
  obtain ⟨fd, F⟩ := c.def_ 32 (d := d45) rfl
  exact has_of (k := 2) F (He.glo_ok X G (c.fact 32 (f := .glo "_law_rest") rfl)) sc__law_rest (fun _ _ _ _ _ _ us hl => match us, hl with | [_, _], _ => rfl)
    (glob_of (gcd := false) (.cons ((has__law_cut c e X G).mono (by decide)) (.cons ((has__law_over c e X G).mono (by decide)) (.cons ((has__law_sum c e X G).mono (by decide)) (.cons ((has__law_times c e X G).mono (by decide)) .nil)))) .nil (frees c X G) (fun z => Bool.noConfusion z)) c__law_rest
theorem has__law_numbers (c : He.SaysD fa fn K) (e : ex K = true) (X : K.In h) (G : h.Ns mainGlobals mg) : Has P w K mg base 2 "_law_numbers" sem__law_numbers := by
  obtain ⟨fd, F⟩ := c.def_ 33 (d := d46) rfl
  exact has_of (k := 1) F (He.glo_ok X G (c.fact 33 (f := .glo "_law_numbers") rfl)) sc__law_numbers (fun _ _ _ _ _ _ us hl => match us, hl with | [_], _ => rfl)
    (glob_of (gcd := false) (.cons ((has__law_cut c e X G).mono (by decide)) .nil) .nil (frees c X G) (fun z => Bool.noConfusion z)) c__law_numbers
theorem has__law_roots (c : He.SaysD fa fn K) (e : ex K = true) (X : K.In h) (G : h.Ns mainGlobals mg) : Has P w K mg base 1 "_law_roots" sem__law_roots := by
  obtain ⟨fd, F⟩ := c.def_ 34 (d := d47) rfl
  exact has_of (k := 0) F (He.glo_ok X G (c.fact 34 (f := .glo "_law_roots") rfl)) sc__law_roots (fun _ _ _ _ _ _ us hl => match us, hl with | [], _ => rfl)
    (glob_of (gcd := false) .nil .nil (frees c X G) (fun z => Bool.noConfusion z)) c__law_roots
theorem has__law_first_one (c : He.SaysD fa fn K) (e : ex K = true) (X : K.In h) (G : h.Ns mainGlobals mg) : Has P w K mg base 3 "_law_first_one" sem__law_first_one := by
  obtain ⟨fd, F⟩ := c.def_ 35 (d := d48) rfl
  exact has_of (k := 2) F (He.glo_ok X G (c.fact 35 (f := .glo "_law_first_one") rfl)) sc__law_first_one (fun _ _ _ _ _ _ us hl => match us, hl with | [_], _ => rfl)
    (glob_of (gcd := false) (.cons ((has__law_over c e X G).mono (by decide)) .nil) .nil (frees c X G) (fun z => Bool.noConfusion z)) c__law_first_one
theorem has__law_squares (c : He.SaysD fa fn K) (e : ex K = true) (X : K.In h) (G : h.Ns mainGlobals mg) : Has P w K mg base 4 "_law_squares" sem__law_squares := by
  obtain ⟨fd, F⟩ := c.def_ 36 (d := d49) rfl
  exact has_of (k := 3) F (He.glo_ok X G (c.fact 36 (f := .glo "_law_squares") rfl)) sc__law_squares (fun _ _ _ _ _ _ us hl => match us, hl with | [_], _ => rfl)
    (glob_of (gcd := false) (.cons ((has__law_first_one c e X G).mono (by decide)) (.cons ((has__law_product c e X G).mono (by decide)) (.cons ((has__law_times c e X G).mono (by decide)) .nil))) .nil (frees c X G) (fun z => Bool.noConfusion z)) c__law_squares
theorem has__law_put_together (c : He.SaysD fa fn K) (e : ex K = true) (X : K.In h) (G : h.Ns mainGlobals mg) : Has P w K mg base 4 "_law_put_together" sem__law_put_together := by
  obtain ⟨fd, F⟩ := c.def_ 37 (d := d50) rfl
  exact has_of (k := 3) F (He.glo_ok X G (c.fact 37 (f := .glo "_law_put_together") rfl)) sc__law_put_together (fun _ _ _ _ _ _ us hl => match us, hl with | [_, _], _ => rfl)
    (glob_of (gcd := false) (.cons ((has__law_rest c e X G).mono (by decide)) (.cons ((has__law_both c e X G).mono (by decide)) (.cons ((has__law_cut c e X G).mono (by decide)) (.cons ((has__law_product c e X G).mono (by decide)) (.cons ((has__law_times c e X G).mono (by decide)) .nil))))) .nil (frees c X G) (fun z => Bool.noConfusion z)) c__law_put_together
theorem has__law_number (c : He.SaysD fa fn K) (e : ex K = true) (X : K.In h) (G : h.Ns mainGlobals mg) : Has P w K mg base 2 "_law_number" sem__law_number := by
  obtain ⟨fd, F⟩ := c.def_ 38 (d := d51) rfl
  exact has_of (k := 1) F (He.glo_ok X G (c.fact 38 (f := .glo "_law_number") rfl)) sc__law_number (fun _ _ _ _ _ _ us hl => match us, hl with | [_, _, _], _ => rfl)
    (glob_of (gcd := false) (.cons ((has__law_cut c e X G).mono (by decide)) (.cons ((has__law_low c e X G).mono (by decide)) (.cons ((has__law_pick c e X G).mono (by decide)) .nil))) .nil (frees c X G) (fun z => Bool.noConfusion z)) c__law_number
theorem fin_law (c : He.SaysD fa fn K) (e : ex K = true) (X : K.In h) (G : h.Ns mainGlobals mg) : ∃ fd : FuncData, (∀ (s : Shared) (u : Value), BindsTo s fd ⟨[u], []⟩ [("script", u)]) ∧ ∀ base : Heap, K.In base → base.Ns mainGlobals mg → FnG P w K mg base 8 (He.ga K "law") fd ["script"] (spOf K mg 1 sem_law) := by
  obtain ⟨fd, F⟩ := c.def_ 39 (d := d52) rfl
  have b := FunD.bindsA (ps := ["script"]) F fun _ _ _ _ _ _ us hl => match us, hl with | [_], _ => rfl
  refine ⟨fd, fun s u => b s [u] rfl, fun base _ _ => ?_⟩
  obtain ⟨oc, od, dV, kV, doc, pm, an, cdv, ct, osl, rfl, lk, hcd, _, _⟩ := F.ex
  exact fn_G (k := 7) (ps := ["script"]) (glob_of (gcd := false) (.cons ((has__law_source c e X G).mono (by decide)) (.cons ((has__law_numbers c e X G).mono (by decide)) (.cons ((has__law_of c e X G).mono (by decide)) (.cons ((has__law_first_one c e X G).mono (by decide)) (.cons ((has__law_squares c e X G).mono (by decide)) (.cons ((has_squares_told c e X G).mono (by decide)) (.cons ((has_in_squares c e X G).mono (by decide)) (.cons ((has__law_roots c e X G).mono (by decide)) (.cons ((has__law_put_together c e X G).mono (by decide)) (.cons ((has__law_number c e X G).mono (by decide)) (.cons ((has__law_low c e X G).mono (by decide)) .nil))))))))))) .nil (frees c X G) (fun z => Bool.noConfusion z)) lk hcd sc_law c_law
end
end K38
open PySem PySem.W PySem.Calls PyProof.Rows
theorem holds_38 (pure : ∀ ns : List Int, ns.length ≤ 63 → (∀ z ∈ ns, Builtin.Int.intBits z ≤ 1048576) → ∃ S, K38.sem_law [.scr ns] none = .ok (.val (.bool true)) S) : PySem.Challenge.rw_panewebs_k38_the_squares_field.Holds := by
  w_on; o_law
  refine HandSHeadRun.head_imp (r := OpenLaw.row PySem.Challenge.rw_panewebs_k38_the_squares_field) (q := view (OpenLaw.row PySem.Challenge.rw_panewebs_k38_the_squares_field).prog [0, 52]) (H := K38.hk) (ob := K38.ob) (M := 4000) (loose := K38.loose) (d := HandSHeadRun.topDef (OpenLaw.row PySem.Challenge.rw_panewebs_k38_the_squares_field).prog 52) (kwd := []) K38.ob_eq K38.hrun
    (by kernel_rfl) (by kernel_rfl) (by kernel_rfl) (by rfl) (by first | assumption | decide +kernel) (by decide +kernel) ⟨rfl, rfl, rfl, rfl, rfl, by decide +kernel⟩ ?hw ?hc
  case hw => w_witness2
  case hc =>
    refine Pv.walk_G (l := PySem.Challenge.rw_panewebs_k38_the_squares_field) (n := 63) (k := 8) (x := "script") (sem := K38.sem_law) rfl (by decide) (by kernel_rfl) ⟨rfl, by decide, by decide⟩ ?F pure
    intro w mg fa h Y G hmg0
    obtain ⟨K, KX, c, e⟩ := Y
    have hmg : mg ("law" : PySem.Str) = some (.ref fa) := by
      have e : (HandSHeadRun.topDef (OpenLaw.row PySem.Challenge.rw_panewebs_k38_the_squares_field).prog 52).name = ("law" : PySem.Str) := by kernel_rfl
      rw [← e]
      exact hmg0
    have F := K38.fin_law (P := (PySem.Challenge.rw_panewebs_k38_the_squares_field).prog) (w := w) c e KX G
    have eq := hmg.symm.trans (He.glo_ok KX G (c.fact 39 (f := .glo "law") rfl))
    cases eq
    obtain ⟨fd, F1, F2⟩ := F
    exact ⟨K, fd, KX, F1, F2⟩

theorem PySem.Challenge.cw_panewebs_k38_the_squares_field_holds : PySem.Challenge.rw_panewebs_k38_the_squares_field.Holds := by
  exact holds_38 K38.pure_law
