import PyProof.Rows.All
import Wide.All
import OpenK.AllK
import Wide.FinOn
import HandS.ForMost
import HandS.ForExc
import HandS.Walk
import HandS.Lambda
import HandS.Nested
import HandS.EndTab
import PySem.Challenge.RW_shelfbots_k33_whole_boxes_are_kept
import HandS.Property
import HandS.GenCall
import HandS.GenList
import KE.KStateDown
import HandS.Head0
import HandS.Head1
import HandS.Head2
import HandS.HeadEnd
import HandS.HeadHook1
import HandS.HeadHook2
import HandS.HeadHook3
import HandS.HeadHook4
import HandS.HeadNt
import HandS.ClsMeth
import HandS.ExcInit
import HandS.HeadWalk
import HandS.Zip
import KE.KDictKeyed
import PyProof.RulesMatch
import HandS.Style
import KE.GoesMore
import KE.GoesEnum
import HandS.IsInst
import HandS.Star
import HandS.Strs
import HandS.TupAny
import HandS.GenYield
import HandS.WordsExc
import HandS.GenOver
import HandS.Comp
import HandS.Ends
import HandS.Small
set_option Elab.async false
set_option linter.all false
set_option maxRecDepth 100000
set_option maxHeartbeats 0
namespace Sb
open PySem PySem.Spec PyProof.Rows L2

/-! ### the data heap G within the heap H, grown by new objects alone -/
structure Ext (G H G' H' : Hp) : Prop where
  g : Same G G'
  h : Same G' H'
  n : ∀ b o, G' b = some o → G b = some o ∨ H b = none
  k : ∀ b, H' b = none → H b = none
/-- H without d -/
def wo (d : Addr) (H : Hp) : Hp := fun b => if b = d then none else H b
theorem wo_self {d : Addr} {H : Hp} : wo d H d = none := if_pos rfl
theorem wo_ne {d b : Addr} {H : Hp} (h : b ≠ d) : wo d H b = H b := if_neg h
theorem wo_some {d b : Addr} {H : Hp} {o : HO} (h : wo d H b = some o) : b ≠ d ∧ H b = some o := by
  by_cases e : b = d
  · rw [e, wo_self] at h; cases h
  · rw [wo_ne e] at h; exact ⟨e, h⟩
section
variable {G H G' H' G1 H1 G2 H2 : Hp} {d p l b : Addr} {o o' : HO}
theorem same_new (np : H p = none) : Same H (upd H p o) := fun b u e => by rw [upd_ne (ne_of_none e np)]; exact e
theorem same_up (s : Same G H) (np : H p = none) : Same (upd G p o) (upd H p o) := fun b u e => by
  by_cases h : b = p
  · subst h; rw [upd_same] at e ⊢; exact e
  · rw [upd_ne h] at e ⊢; exact s _ _ e
theorem same_put (s : Same G H) (n : G l = none) : Same G (upd H l o) := fun b u e => by rw [upd_ne (ne_of_none e n)]; exact s _ _ e
theorem same_add (s : Same G H) (h : H l = some o) : Same (upd G l o) H := fun b u e => by
  by_cases hb : b = l
  · subst hb; rw [upd_same] at e; rw [h]; exact e
  · rw [upd_ne hb] at e; exact s _ _ e
theorem Ext.refl (s : Same G H) : Ext G H G H := ⟨Same.refl G, s, fun _ _ e => .inl e, fun _ e => e⟩
theorem Ext.trans (a : Ext G H G1 H1) (b : Ext G1 H1 G2 H2) : Ext G H G2 H2 :=
  ⟨a.g.trans b.g, b.h, fun c o e => (b.n c o e).elim (fun e1 => a.n c o e1) fun e1 => .inr (a.k c e1), fun c e => a.k c (b.k c e)⟩
theorem Ext.start (a : Ext G H G' H') (s : Same G H) : Ext G H G H := Ext.refl s
/-- a new object, data -/
theorem Ext.new (a : Ext G H G1 H1) (np : H1 p = none) : Ext G H (upd G1 p o) (upd H1 p o) := by
  refine ⟨fun b u e => ?_, same_up a.h np, fun b u e => ?_, fun b e => ?_⟩
  · exact same_new (Same.free a.h np) _ _ (a.g b u e)
  · by_cases hb : b = p
    · rw [hb]; exact .inr (a.k p np)
    · rw [upd_ne hb] at e; exact a.n b u e
  · by_cases hb : b = p
    · rw [hb]; exact a.k p np
    · rw [upd_ne hb] at e; exact a.k b e
/-- a new object, not (yet) data -/
theorem Ext.lay (a : Ext G H G1 H1) (np : H1 p = none) : Ext G H G1 (upd H1 p o) := by
  refine ⟨a.g, same_put a.h (Same.free a.h np), a.n, fun b e => ?_⟩
  by_cases hb : b = p
  · rw [hb]; exact a.k p np
  · rw [upd_ne hb] at e; exact a.k b e
/-- a thing that is not data is written -/
theorem Ext.put (a : Ext G H G1 H1) (n : G1 l = none) : Ext G H G1 (upd H1 l o) := by
  refine ⟨a.g, same_put a.h n, a.n, fun b e => ?_⟩
  by_cases hb : b = l
  · rw [hb, upd_same] at e; cases e
  · rw [upd_ne hb] at e; exact a.k b e
/-- a thing made since becomes data -/
theorem Ext.freeze (a : Ext G H G1 H1) (n : H l = none) (h : H1 l = some o) : Ext G H (upd G1 l o) H1 := by
  refine ⟨fun b u e => ?_, same_add a.h h, fun b u e => ?_, a.k⟩
  · have e1 := a.g b u e
    by_cases hb : b = l
    · subst hb; rw [upd_same]; rw [← h]; exact a.h _ _ e1
    · rw [upd_ne hb]; exact e1
  · by_cases hb : b = l
    · rw [hb]; exact .inr n
    · rw [upd_ne hb] at e; exact a.n b u e
theorem Ext.out (a : Ext G H G1 H1) (g : G d = none) (h : H d = some o) : G1 d = none := by
  cases e : G1 d with
  | none => rfl
  | some u =>
    rcases a.n d u e with e1 | e1
    · rw [g] at e1; cases e1
    · rw [h] at e1; cases e1
theorem Ext.same (a : Ext G H G1 H1) : Same G H1 := a.g.trans a.h
theorem Ext.new_out (a : Ext G H G1 H1) (np : H1 p = none) : G1 p = none := Same.free a.h np
/-- the caller's wider data heap -/
theorem same_wo (s : Same G H) (g : G d = none) : Same G (wo d H) := fun b u e => by
  rw [wo_ne (ne_of_none e g)]; exact s _ _ e
end

/-! ### data -/
section
variable {K : PySem.W.Frag} {G H : Hp}
theorem Same.seqT {a : Addr} {xs : List V} (e : Same G H) (h : SqT K G a xs) : SqT K H a xs := by
  rcases h with (h | ⟨o, h⟩) | h
  · exact .inl (.inl (e _ _ h))
  · exact .inl (.inr ⟨o, e _ _ h⟩)
  · exact .inr h
mutual
theorem Dp.mono (s : Same G H) : ∀ (d : PyData) (v : V), Dp K G v d → Dp K H v d
  | _, _, .non => .non
  | _, _, .bl b => .bl b
  | _, _, .int i => .int i
  | _, _, .str x => .str x
  | .list ds, _, .lst h t => .lst (s.seq h) (Dp.monoAll s ds _ t)
  | .tuple ds, _, .tup h t => .tup (Same.seqT s h) (Dp.monoAll s ds _ t)
theorem Dp.monoAll (s : Same G H) : ∀ (ds : List PyData) (vs : List V), DpAll K G vs ds → DpAll K H vs ds
  | _, _, .nil => .nil
  | d :: ds, v :: vs, .cons h t => .cons (Dp.mono s d v h) (Dp.monoAll s ds vs t)
end
theorem DpAll.len : ∀ {vs : List V} {ds : List PyData}, DpAll K G vs ds → vs.length = ds.length
  | _, _, .nil => rfl
  | _, _, .cons _ t => congrArg (· + 1) (DpAll.len t)
theorem DpAll.get : ∀ {vs : List V} {ds : List PyData} {i : Nat} {v : V}, DpAll K G vs ds → vs[i]? = some v → ∃ d, ds[i]? = some d ∧ Dp K G v d
  | _, _, _, _, .nil, e => by simp at e
  | _, _, 0, _, .cons h _, e => by simp at e; subst e; exact ⟨_, rfl, h⟩
  | _, _, i + 1, v, .cons _ t, e => by
    obtain ⟨d, h1, h2⟩ := DpAll.get (i := i) (v := v) t (by simpa using e)
    exact ⟨d, by simpa using h1, h2⟩
theorem DpAll.at : ∀ {vs : List V} {ds : List PyData} {i : Nat} {d : PyData}, DpAll K G vs ds → ds[i]? = some d → ∃ v, vs[i]? = some v ∧ Dp K G v d
  | _, _, _, _, .nil, e => by simp at e
  | _, _, 0, _, .cons h _, e => by simp at e; subst e; exact ⟨_, rfl, h⟩
  | _, _, i + 1, v, .cons _ t, e => by
    obtain ⟨d, h1, h2⟩ := DpAll.at (i := i) t (by simpa using e)
    exact ⟨d, by simpa using h1, h2⟩
theorem DpAll.snoc : ∀ {vs : List V} {ds : List PyData} {v : V} {d : PyData}, DpAll K G vs ds → Dp K G v d → DpAll K G (vs ++ [v]) (ds ++ [d])
  | _, _, _, _, .nil, h => .cons h .nil
  | _, _, _, _, .cons h t, h' => .cons h (DpAll.snoc t h')
theorem DpAll.append : ∀ {vs us : List V} {ds es : List PyData}, DpAll K G vs ds → DpAll K G us es → DpAll K G (vs ++ us) (ds ++ es)
  | _, _, _, _, .nil, h => h
  | _, _, _, _, .cons h t, h' => .cons h (DpAll.append t h')
theorem DpAll.ints : ∀ (ns : List Int), DpAll K G (ns.map V.int) (ns.map PyData.int)
  | [] => .nil
  | n :: ns => .cons (.int n) (DpAll.ints ns)
theorem DpAll.strs : ∀ (ns : List Str), DpAll K G (ns.map V.str) (ns.map PyData.str)
  | [] => .nil
  | n :: ns => .cons (.str n) (DpAll.strs ns)
theorem Dp.int_inv {v : V} {i : Int} (h : Dp K G v (.int i)) : v = .int i := by cases h; rfl
theorem Dp.str_inv {v : V} {i : Str} (h : Dp K G v (.str i)) : v = .str i := by cases h; rfl
theorem Dp.none_inv {v : V} (h : Dp K G v .none) : v = .non := by cases h; rfl
theorem Dp.bool_inv {v : V} {b : Bool} (h : Dp K G v (.bool b)) : v = .bl b := by cases h; rfl
theorem Dp.tup_inv {v : V} {ds : List PyData} (h : Dp K G v (.tuple ds)) : ∃ a xs, v = .ref a ∧ SqT K G a xs ∧ DpAll K G xs ds := by
  cases h with
  | tup h t => exact ⟨_, _, rfl, h, t⟩
theorem Dp.lst_inv {v : V} {ds : List PyData} (h : Dp K G v (.list ds)) : ∃ a xs, v = .ref a ∧ SqL K G a xs ∧ DpAll K G xs ds := by
  cases h with
  | lst h t => exact ⟨_, _, rfl, h, t⟩
theorem DpAll.nil_inv {vs : List V} (h : DpAll K G vs []) : vs = [] := by cases h; rfl
theorem DpAll.cons_inv {vs : List V} {d : PyData} {ds : List PyData} (h : DpAll K G vs (d :: ds)) : ∃ v r, vs = v :: r ∧ Dp K G v d ∧ DpAll K G r ds := by
  cases h with
  | cons h t => exact ⟨_, _, rfl, h, t⟩
theorem DpAll.ints_inv : ∀ {ns : List Int} {vs : List V}, DpAll K G vs (ns.map PyData.int) → vs = ns.map V.int
  | [], _, .nil => rfl
  | _ :: _, _, .cons h t => by rw [Dp.int_inv h, DpAll.ints_inv t]; rfl
theorem DpAll.strs_inv : ∀ {ns : List Str} {vs : List V}, DpAll K G vs (ns.map PyData.str) → vs = ns.map V.str
  | [], _, .nil => rfl
  | _ :: _, _, .cons h t => by rw [Dp.str_inv h, DpAll.strs_inv t]; rfl
end

/-! ### fields of a new instance -/
theorem putF_new {f : Str} {v : V} : ∀ {fs : List (Str × V)}, f ∉ fs.map (·.1) → putF f v fs = fs ++ [(f, v)]
  | [], _ => rfl
  | (g, u) :: r, h => by
    have h1 : ¬ g = f := fun e => h (by simp [e])
    have h2 : f ∉ r.map (·.1) := fun e => h (by simp only [List.map_cons, List.mem_cons]; exact .inr e)
    show (if g = f then _ else (g, u) :: putF f v r) = _
    rw [if_neg h1, putF_new h2]
    rfl
theorem ite_b {c : Bool} {A B : Prop} (h1 : c = true → A) (h2 : c = false → B) : if c = true then A else B := by
  cases c with
  | true => rw [if_pos rfl]; exact h1 rfl
  | false => rw [if_neg Bool.false_ne_true]; exact h2 rfl
theorem ite_t {c : Bool} {A B : Prop} (hc : c = true) (h : A) : if c = true then A else B := by rw [if_pos hc]; exact h
theorem ite_f {c : Bool} {A B : Prop} (hc : c = false) (h : B) : if c = true then A else B := by rw [hc, if_neg Bool.false_ne_true]; exact h
theorem small {n : Nat} (m : Nat) (h : n ≤ m) (hm : m ≤ 16777216) : n ≤ sizeLine := by rw [sizeLine_eq]; omega
theorem smaller {n : Nat} (m : Nat) (h : n ≤ m) (hm : m < 16777216) : n < sizeLine := by rw [sizeLine_eq]; omega

/-! ### the source of draws: d = [seed, digits, further..] -/
structure Src (ds : List Int) : Prop where
  ex : ∃ s e r, ds = s :: e :: r ∧ 0 ≤ s ∧ 0 ≤ e ∧ (∀ x ∈ r, (0 : Int) ≤ x) ∧ r.length ≤ 63
end Sb

namespace Sb
open PySem PySem.Spec PyProof.Rows L2
/-! ### the heap with the source of draws at d, beside the data heap G -/
structure Now (d : Addr) (G H : Hp) : Prop where
  s : Same G H
  o : G d = none
  x : ∃ ds : List Int, H d = some (.lst (ds.map V.int)) ∧ Src ds
structure At (d : Addr) (G0 H0 G H : Hp) : Prop where
  now : Now d G H
  ext : Ext G0 H0 G H
  sm : Same (wo d H0) H
section
variable {d p l : Addr} {G0 H0 G H G1 H1 G2 H2 : Hp} {o : HO} {ds : List Int}
theorem Now.at (h : Now d G H) : At d G H G H := ⟨h, Ext.refl h.s, fun b o e => (wo_some e).2⟩
theorem Now.ne (h : Now d G H) (np : H p = none) : p ≠ d := by
  obtain ⟨ds, h1, _⟩ := h.x
  exact fun e => by rw [e, h1] at np; cases np
theorem At.ne (h : At d G0 H0 G H) (np : H p = none) : p ≠ d := h.now.ne np
theorem At.new (h : At d G0 H0 G H) (np : H p = none) (o : HO) : At d G0 H0 (upd G p o) (upd H p o) := by
  refine ⟨⟨same_up h.now.s np, ?_, ?_⟩, h.ext.new np, h.sm.trans (same_new np)⟩
  · rw [upd_ne (h.ne np).symm]; exact h.now.o
  · rw [upd_ne (h.ne np).symm]; exact h.now.x
theorem At.lay (h : At d G0 H0 G H) (np : H p = none) (o : HO) : At d G0 H0 G (upd H p o) := by
  refine ⟨⟨same_put h.now.s (Same.free h.now.s np), h.now.o, ?_⟩, h.ext.lay np, h.sm.trans (same_new np)⟩
  rw [upd_ne (h.ne np).symm]; exact h.now.x
theorem At.draw (h : At d G0 H0 G H) (s : Src ds) : At d G0 H0 G (upd H d (.lst (ds.map V.int))) :=
  ⟨⟨same_put h.now.s h.now.o, h.now.o, ⟨ds, upd_same, s⟩⟩, h.ext.put h.now.o, same_put h.sm wo_self⟩
/-- a thing made since, not data, is written -/
theorem At.put (h : At d G0 H0 G H) (n0 : H0 l = none) (n : G l = none) (hd : l ≠ d) (o : HO) : At d G0 H0 G (upd H l o) := by
  refine ⟨⟨same_put h.now.s n, h.now.o, ?_⟩, h.ext.put n, same_put h.sm ?_⟩
  · rw [upd_ne hd.symm]; exact h.now.x
  · rw [wo_ne hd]; exact n0
theorem At.freeze (h : At d G0 H0 G H) (n0 : H0 l = none) (hl : H l = some o) (hd : l ≠ d) : At d G0 H0 (upd G l o) H :=
  ⟨⟨same_add h.now.s hl, by rw [upd_ne hd.symm]; exact h.now.o, h.now.x⟩, h.ext.freeze n0 hl, h.sm⟩
theorem At.trans (a : At d G0 H0 G H) (b : At d G H G1 H1) : At d G0 H0 G1 H1 := by
  refine ⟨b.now, a.ext.trans b.ext, fun c o e => ?_⟩
  have e1 := a.sm c o e
  exact b.sm c o (by rw [wo_ne (wo_some e).1]; exact e1)
theorem At.g (a : At d G0 H0 G H) : Same G0 G := a.ext.g
/-- what is not the source stands through a call -/
theorem At.kept (a : At d G H G1 H1) (h : H l = some o) (hd : l ≠ d) : H1 l = some o := a.sm l o (by rw [wo_ne hd]; exact h)
/-- behind a pure call -/
theorem At.pure (a : At d G0 H0 G H) (e : Ext G H G1 H1) (s : Same H H1) : At d G0 H0 G1 H1 := by
  obtain ⟨ds, h1, h2⟩ := a.now.x
  exact ⟨⟨e.h, e.out a.now.o h1, ⟨ds, s _ _ h1, h2⟩⟩, a.ext.trans e, a.sm.trans s⟩
end

/-- what follows a statement, shown once -/
theorem seq_rest {t u : TS} {D : Ends} {σ : L2.St} {H : Hp} (P : Hp → Prop) (σ' : L2.St) (hr : ∀ H, P H → u D σ' H) (h : (∀ H, P H → u D σ' H) → t { D with nx := u D } σ H) : tSeq t u D σ H := h hr
theorem seq_restσ {t u : TS} {D : Ends} {σ : L2.St} {H : Hp} (P : L2.St → Hp → Prop) (hr : ∀ σ H, P σ H → u D σ H) (h : (∀ σ H, P σ H → u D σ H) → t { D with nx := u D } σ H) : tSeq t u D σ H := h hr

/-! ### plans -/
def wds : List Str := ["left", "right", "pick", "put", "wait", "goto", "empty", "held"]
def wS (w : Nat) : Str := wds.getD w Str.empty
structure Step where
  w : Nat
  g : Option Nat
  deriving DecidableEq
def optD : Option Nat → PyData
  | none => .none
  | some k => .int k
def natD (n : Nat) : PyData := .int n
def Step.D (s : Step) : PyData := .tuple [.str (wS s.w), optD s.g]
structure Step.Ok (n : Nat) (s : Step) : Prop where
  w8 : s.w < 8
  no : s.w < 5 → s.g = none
  yes : 5 ≤ s.w → ∃ k, s.g = some k ∧ k < n
def stepsD (l : List Step) : PyData := .list (l.map Step.D)
structure StepsOk (l : List Step) : Prop where
  pos : 1 ≤ l.length
  le : l.length ≤ 20
  all : ∀ s ∈ l, Step.Ok l.length s
structure Pl where
  shelf : List Nat
  a : Nat
  b : Nat
  p : List Step
  q : List Step
def Pl.D (x : Pl) : PyData := .tuple [.tuple (x.shelf.map natD), .tuple [natD x.a, natD x.b], .list [stepsD x.p, stepsD x.q]]
structure Pl.Ok (x : Pl) : Prop where
  c3 : 3 ≤ x.shelf.length
  c12 : x.shelf.length ≤ 12
  b3 : ∀ n ∈ x.shelf, n ≤ 3
  ha : x.a < x.shelf.length
  hb : x.b < x.shelf.length
  ne : x.a ≠ x.b
  p : StepsOk x.p
  q : StepsOk x.q
/-- a def that draws: from the heap as it stands to one with R of its value -/
def Drawn (d : Addr) (G H : Hp) (Q : VK) (R : Hp → V → Prop) : Prop := Now d G H ∧ ∀ (G' H' : Hp) (v : V), At d G H G' H' → R G' v → Q v H'
/-- a def that changes nothing that stood -/
def Pure (G H : Hp) (Q : VK) (R : Hp → V → Prop) : Prop := Same G H ∧ ∀ (G' H' : Hp) (v : V), Ext G H G' H' → Same H H' → R G' v → Q v H'
end Sb

namespace Sb
open PySem PySem.Spec PyProof.Rows L2 TL
/-! ### canonical texts, by codes -/
def mkS (l : List Nat) : Str := ⟨l.toArray⟩
theorem tl_mkS (l : List Nat) : tl (mkS l) = l := rfl
theorem mkS_tl (x : Str) : mkS (tl x) = x := mk_tl x
theorem mkS_of {x : Str} {l : List Nat} (h : tl x = l) : x = mkS l := ext_tl h
theorem len_mkS (l : List Nat) : (mkS l).length = l.length := len_tl _
theorem len_app (x y : Str) : (x ++ y).length = x.length + y.length := by rw [len_tl, tl_append, List.length_append, ← len_tl, ← len_tl]
def wL (w : Nat) : List Nat := tl (wS w)
def goalsOf (ss : List Step) : List Nat := ss.filterMap Step.g
def stepL (gs : List Nat) (k : Nat) (s : Step) : List Nat :=
  [32, 32] ++ (if k ∈ gs then [115, 97 + k, 58, 32] else []) ++ wL s.w ++ (match s.g with | none => [] | some g => [32, 115, 97 + g]) ++ [59]
def stepsL (gs : List Nat) (k : Nat) : List Step → List (List Nat)
  | [] => []
  | s :: r => stepL gs k s :: stepsL gs (k + 1) r
def robotL (n : Nat) (ss : List Step) : List (List Nat) := ([114, 111, 98, 111, 116, 32] ++ numL n ++ [32, 123]) :: (stepsL (goalsOf ss) 0 ss ++ [[125]])
def shelfL (l : List Nat) : List Nat := [115, 104, 101, 108, 102, 32] ++ joinL [32] (l.map numL) ++ [59]
def linesL (x : Pl) : List (List Nat) := shelfL x.shelf :: (robotL x.a x.p ++ robotL x.b x.q)
def textL (x : Pl) : List Nat := joinL [10] (linesL x)
def textS (x : Pl) : Str := mkS (textL x)
theorem stepsL_len (gs : List Nat) : ∀ (k : Nat) (ss : List Step), (stepsL gs k ss).length = ss.length
  | _, [] => rfl
  | k, s :: r => by show (stepsL gs (k + 1) r).length + 1 = _; rw [stepsL_len gs (k + 1) r]; rfl
theorem stepsL_snoc (gs : List Nat) : ∀ (k : Nat) (ss : List Step) (s : Step), stepsL gs k (ss ++ [s]) = stepsL gs k ss ++ [stepL gs (k + ss.length) s]
  | k, [], s => rfl
  | k, t :: r, s => by
    show stepL gs k t :: stepsL gs (k + 1) (r ++ [s]) = _
    rw [stepsL_snoc gs (k + 1) r s]
    show _ = stepL gs k t :: (stepsL gs (k + 1) r ++ [stepL gs (k + (r.length + 1)) s])
    have e : k + 1 + r.length = k + (r.length + 1) := by omega
    rw [e]
/-! lengths -/
theorem wL_len : ∀ {w : Nat}, w < 8 → (wL w).length ≤ 5 := by
  have h : ∀ w : _root_.Fin 8, (wL w.val).length ≤ 5 := by decide +kernel
  exact fun {w} hw => h ⟨w, hw⟩
theorem wS_len {w : Nat} (h : w < 8) : (wS w).length ≤ 5 := by rw [len_tl]; exact wL_len h
theorem stepL_len {gs : List Nat} {k n : Nat} {s : Step} (h : Step.Ok n s) : (stepL gs k s).length ≤ 15 := by
  have h1 := wL_len h.w8
  unfold stepL
  simp only [List.length_append]
  have h2 : (if k ∈ gs then [115, 97 + k, 58, 32] else ([] : List Nat)).length ≤ 4 := by split <;> simp
  have h3 : (match s.g with | none => ([] : List Nat) | some g => [32, 115, 97 + g]).length ≤ 3 := by split <;> simp
  have h4 : ([32, 32] : List Nat).length = 2 := rfl
  have h5 : ([59] : List Nat).length = 1 := rfl
  omega
theorem joinL_len (S : List Nat) (m : Nat) : ∀ l : List (List Nat), (∀ p ∈ l, p.length ≤ m) → (joinL S l).length ≤ l.length * (m + S.length)
  | [], _ => by simp [joinL]
  | [x], h => by
    have := h x (by simp)
    show x.length ≤ 1 * (m + S.length)
    omega
  | x :: y :: r, h => by
    have h1 := h x (by simp)
    have ih := joinL_len S m (y :: r) (fun p hp => h p (by simp only [List.mem_cons] at hp ⊢; exact .inr hp))
    show (x ++ (S ++ joinL S (y :: r))).length ≤ _
    rw [List.length_append, List.length_append]
    have e : (x :: y :: r).length = (y :: r).length + 1 := rfl
    rw [e, Nat.add_mul, Nat.one_mul]
    omega
theorem numS_tl (n : Nat) : tl (Str.ofString (toString ((n : Nat) : Int))) = numL n := tl_num n
theorem num_len {n : Nat} (h : n < 100) : (numL n).length ≤ 2 := numL_len (by decide) (by show n < 10 ^ 2; omega)
theorem numS_len {n : Nat} (h : n < 100) : (Str.ofString (toString ((n : Nat) : Int))).length ≤ 2 := by rw [len_tl, tl_num]; exact num_len h
def abc : Str := "abcdefghijklmnopqrst"
theorem abc_at : ∀ {k : Nat}, k < 20 → abc.cps.toList[k]? = some (97 + k) := by
  have h : ∀ k : _root_.Fin 20, abc.cps.toList[k.val]? = some (97 + k.val) := by decide +kernel
  exact fun {k} hk => h ⟨k, hk⟩
theorem abc_len : abc.length = 20 := by decide +kernel
theorem in_nats (k : Nat) : ∀ l : List Nat, inV (.int k) (l.map fun n : Nat => V.int n) = decide (k ∈ l)
  | [] => by simp [inV]
  | n :: r => by
    have ih := in_nats k r
    unfold inV at ih ⊢
    rw [List.map_cons, List.any_cons, ih]
    have e : eqV (.int n) (.int k) = decide (n = k) := by
      unfold eqV
      by_cases h : n = k
      · subst h; simp
      · have h2 : ¬ (n : Int) = (k : Int) := fun q => h (by exact_mod_cast q)
        simp [h, h2]
    rw [e]
    by_cases h : n = k
    · subst h; simp
    · have h' : ¬ k = n := fun q => h q.symm
      simp [h, h']
theorem nats_flat (l : List Nat) : (l.map fun n : Nat => V.int n).all flatV = true := by
  rw [List.all_eq_true]
  intro x hx
  obtain ⟨n, _, rfl⟩ := List.mem_map.mp hx
  rfl
/-! the pieces as texts -/
theorem sp2 : tl (Str.ofString "  ") = [32, 32] := by decide +kernel
theorem t_s : tl (Str.ofString "s") = [115] := by decide +kernel
theorem t_cs : tl (Str.ofString ": ") = [58, 32] := by decide +kernel
theorem t_sc : tl (Str.ofString ";") = [59] := by decide +kernel
theorem t_ss : tl (Str.ofString " s") = [32, 115] := by decide +kernel
theorem t_sp : tl (Str.ofString " ") = [32] := by decide +kernel
theorem t_nl : tl (Str.ofString "\n") = [10] := by decide +kernel
theorem t_e : tl (Str.ofString "") = [] := by decide +kernel
theorem t_rb : tl (Str.ofString "robot ") = [114, 111, 98, 111, 116, 32] := by decide +kernel
theorem t_lb : tl (Str.ofString " {") = [32, 123] := by decide +kernel
theorem t_cb : tl (Str.ofString "}") = [125] := by decide +kernel
theorem t_sh : tl (Str.ofString "shelf ") = [115, 104, 101, 108, 102, 32] := by decide +kernel
theorem lines_len {x : Pl} (h : x.Ok) : ∀ p ∈ linesL x, p.length ≤ 60 := by
  have rob : ∀ (n : Nat) (ss : List Step), n < 12 → StepsOk ss → ∀ p ∈ robotL n ss, p.length ≤ 60 := by
    intro n ss hn hs p hp
    rcases List.mem_cons.mp hp with rfl | hp
    · have := num_len (n := n) (by omega)
      simp only [List.length_append, List.length_cons, List.length_nil]
      omega
    · rcases List.mem_append.mp hp with hp | hp
      · have all : ∀ (gs : List Nat) (k : Nat) (l : List Step), (∀ s ∈ l, s ∈ ss) → ∀ p ∈ stepsL gs k l, p.length ≤ 15 := by
          intro gs k l
          induction l generalizing k with
          | nil => intro _ p hp; cases hp
          | cons s r ih =>
            intro hl p hp
            rcases List.mem_cons.mp hp with rfl | hp
            · exact stepL_len (hs.all s (hl s (by simp)))
            · exact ih (k + 1) (fun s h => hl s (by simp [h])) p hp
        have := all _ _ _ (fun s h => h) p hp
        omega
      · rw [List.mem_singleton.mp hp]
        decide
  intro p hp
  rcases List.mem_cons.mp hp with rfl | hp
  · unfold shelfL
    have h1 := joinL_len [32] 2 (x.shelf.map numL) (fun p hp => by
      obtain ⟨n, hn, rfl⟩ := List.mem_map.mp hp
      exact num_len (by have := h.b3 n hn; omega))
    have h2 := h.c12
    simp only [List.length_append, List.length_cons, List.length_nil, List.length_map] at h1 ⊢
    omega
  · rcases List.mem_append.mp hp with hp | hp
    · exact rob x.a x.p (by have := h.ha; have := h.c12; omega) h.p p hp
    · exact rob x.b x.q (by have := h.hb; have := h.c12; omega) h.q p hp
theorem robotL_len (n : Nat) (ss : List Step) : (robotL n ss).length = ss.length + 2 := by
  unfold robotL
  rw [List.length_cons, List.length_append, stepsL_len]
  rfl
theorem linesL_len {x : Pl} (h : x.Ok) : (linesL x).length ≤ 45 := by
  unfold linesL
  rw [List.length_cons, List.length_append, robotL_len, robotL_len]
  have := h.p.le
  have := h.q.le
  omega
theorem textL_len {x : Pl} (h : x.Ok) : (textL x).length ≤ 2745 := by
  have h1 := joinL_len [10] 60 (linesL x) (lines_len h)
  have h2 := linesL_len h
  have h3 : (linesL x).length * (60 + 1) ≤ 45 * 61 := Nat.mul_le_mul_right 61 h2
  exact Nat.le_trans h1 h3
end Sb

namespace Sb
open PySem PySem.Spec PyProof.Rows L2 TL
/-! ### tokens -/
inductive Kd where
  | name | number | keyword | sign | fin
  deriving DecidableEq
def kS : Kd → Str
  | .name => "name"
  | .number => "number"
  | .keyword => "keyword"
  | .sign => "sign"
  | .fin => "end"
structure Tk where
  k : Kd
  t : List Nat
  deriving DecidableEq
def sgnS : Str := ";:{}"
def digS : Str := "0123456789"
def letS : Str := "abcdefghijklmnopqrstuvwxyz"
def spcS : Str := " \n"
def kwS : List Str := ["shelf", "robot", "left", "right", "pick", "put", "wait", "goto", "empty", "held"]
def kwL : List (List Nat) := kwS.map tl
def HeadNot (S : List Nat) (r : List Nat) : Prop := ∀ c r', r = c :: r' → c ∉ S
inductive Rd : List Nat → Tk → List Nat → Prop
  | sign {c : Nat} {r : List Nat} : c ∈ tl sgnS → Rd (c :: r) ⟨.sign, [c]⟩ r
  | num {t r : List Nat} : t ≠ [] → (∀ c ∈ t, c ∈ tl digS) → t.length ≤ 2 → (1 < t.length → t.head? ≠ some 48) → HeadNot (tl digS) r → Rd (t ++ r) ⟨.number, t⟩ r
  | kw {t r : List Nat} : (∀ c ∈ t, c ∈ tl letS) → t ∈ kwL → HeadNot (tl letS) r → Rd (t ++ r) ⟨.keyword, t⟩ r
  | nm {t r : List Nat} : (∀ c ∈ t, c ∈ tl letS) → 1 ≤ t.length → t.length ≤ 8 → t ∉ kwL → HeadNot (tl letS) r → Rd (t ++ r) ⟨.name, t⟩ r
inductive Lx : List Nat → List Tk → Prop
  | nil : Lx [] []
  | sp {r : List Nat} {ts : List Tk} : Lx r ts → Lx (32 :: r) ts
  | tok {l r : List Nat} {k : Tk} {ts : List Tk} : Rd l k r → Lx r ts → Lx l (k :: ts)
/-- the tokens of all rows -/
inductive LxAll : List (List Nat) → List Tk → Prop
  | nil : LxAll [] []
  | cons {l : List Nat} {ls : List (List Nat)} {ts us : List Tk} : Lx l ts → LxAll ls us → LxAll (l :: ls) (ts ++ us)
theorem sgn_list : tl sgnS = [59, 58, 123, 125] := by decide +kernel
theorem dig_list : tl digS = [48, 49, 50, 51, 52, 53, 54, 55, 56, 57] := by decide +kernel
theorem let_list : tl letS = [97, 98, 99, 100, 101, 102, 103, 104, 105, 106, 107, 108, 109, 110, 111, 112, 113, 114, 115, 116, 117, 118, 119, 120, 121, 122] := by decide +kernel
theorem spc_list : tl spcS = [32, 10] := by decide +kernel
theorem mem_dig {c : Nat} : c ∈ tl digS ↔ 48 ≤ c ∧ c ≤ 57 := by
  rw [dig_list]; simp; omega
theorem mem_let {c : Nat} : c ∈ tl letS ↔ 97 ≤ c ∧ c ≤ 122 := by
  rw [let_list]; simp; omega
theorem mem_sgn {c : Nat} : c ∈ tl sgnS ↔ c = 59 ∨ c = 58 ∨ c = 123 ∨ c = 125 := by
  rw [sgn_list]; simp
/-- the run of signs of S at the head -/
def runL (S : List Nat) : List Nat → Nat
  | [] => 0
  | c :: r => if c ∈ S then runL S r + 1 else 0
theorem runL_app {S t r : List Nat} (h : ∀ c ∈ t, c ∈ S) (hr : HeadNot S r) : runL S (t ++ r) = t.length := by
  induction t with
  | nil =>
    cases r with
    | nil => rfl
    | cons c r => show (if c ∈ S then _ else 0) = 0; rw [if_neg (hr c r rfl)]
  | cons c t ih =>
    show (if c ∈ S then runL S (t ++ r) + 1 else 0) = _
    rw [if_pos (h c (by simp)), ih (fun c hc => h c (by simp [hc]))]
    rfl
theorem runL_le (S : List Nat) : ∀ l : List Nat, runL S l ≤ l.length
  | [] => Nat.le_refl _
  | c :: r => by
    show (if c ∈ S then runL S r + 1 else 0) ≤ r.length + 1
    have := runL_le S r
    split <;> omega
theorem cut_run {z : Str} {c n : Nat} (h : c + n ≤ (tl z).length) : tl (cutS z (some (c : Int)) (some ((c + n : Nat) : Int))) = ((tl z).drop c).take n := by
  show ((tl z).drop (HT.sIx z.length 0 (some (c : Int)))).take (HT.sIx z.length z.length (some ((c + n : Nat) : Int)) - HT.sIx z.length 0 (some (c : Int))) = _
  rw [HT.sIx_nat, HT.sIx_nat]
  have e1 : min c z.length = c := by rw [len_tl]; omega
  have e2 : min (c + n) z.length = c + n := by rw [len_tl]; omega
  rw [e1, e2, Nat.add_sub_cancel_left]
end Sb

namespace Sb
open PySem PySem.Spec PyProof.Rows L2 LamX NdefX
/-! ### a thing held still -/
def Fz (o : Obj) : HO := .frz o (.ext fun _ => True)
theorem fz_ok {P : Program} {w : World} {H : Hp} {h : Heap} {a : Addr} {o : Obj} (e : h.get? a = some o) : ObjOk P w H h a (Fz o) := ⟨e, trivial, ⟨o, e⟩, fun _ _ _ _ => trivial⟩
theorem fz_at {P : Program} {w : World} {H : Hp} {h : Heap} {a : Addr} {o : Obj} (hok : HOk P w H h) (e : H a = some (Fz o)) : h.get? a = some o := (hok a _ e).1
/-- without these -/
def cut (S : List Addr) (H : Hp) : Hp := fun b => if b ∈ S then none else H b
theorem cut_in {S : List Addr} {H : Hp} {b : Addr} (h : b ∈ S) : cut S H b = none := if_pos h
theorem cut_out {S : List Addr} {H : Hp} {b : Addr} (h : b ∉ S) : cut S H b = H b := if_neg h
theorem cut_some {S : List Addr} {H : Hp} {b : Addr} {o : HO} (h : cut S H b = some o) : b ∉ S ∧ H b = some o := by
  by_cases e : b ∈ S
  · rw [cut_in e] at h; cases h
  · rw [cut_out e] at h; exact ⟨e, h⟩
/-- H4 is H with the cells tracked -/
structure Trk (cells : List (Addr × Obj)) (H H4 : Hp) : Prop where
  out : ∀ b, b ∉ cells.map (·.1) → H4 b = H b
  was : ∀ p ∈ cells, H p.1 = none
  at_ : ∀ p ∈ cells, H4 p.1 = some (Fz p.2)
section
variable {P : Program} {w : World} {K : PySem.W.Frag} {mg : Str → Option Value} {base : Heap} {A : Around} {outer : List Env} {s s' : Shared} {H H4 : Hp} {cells : List (Addr × Obj)} {Q : VK} {u : Value}
theorem Trk.none (t : Trk cells H H4) {b : Addr} (h : b ∈ cells.map (·.1)) : H b = Option.none ∧ ∃ o, H4 b = some (Fz o) := by
  obtain ⟨p, hp, rfl⟩ := List.mem_map.mp h
  exact ⟨t.was p hp, _, t.at_ p hp⟩
theorem Trk.cut (t : Trk cells H H4) : cut (cells.map (·.1)) H4 = H := by
  funext b
  by_cases h : b ∈ cells.map (·.1)
  · rw [cut_in h, (t.none h).1]
  · rw [cut_out h, t.out b h]
theorem Trk.hok (t : Trk cells H H4) (hok : HOk P w H s.heap) (hc : ∀ p ∈ cells, s.heap.get? p.1 = some p.2) : HOk P w H4 s.heap := fun b o e => by
  by_cases h : b ∈ cells.map (·.1)
  · obtain ⟨p, hp, rfl⟩ := List.mem_map.mp h
    rw [t.at_ p hp] at e
    cases e
    exact fz_ok (hc p hp)
  · rw [t.out b h] at e
    refine (hok b o e).stay (fun _ _ _ z => z) (fun c z => ?_) fun c xs z => ?_
    · rw [t.out c fun q => by rw [(t.none q).1] at z; cases z]; exact z
    · rw [t.out c fun q => by rw [(t.none q).1] at z; cases z]; exact z
theorem Trk.env0 (t : Trk cells H H4) (e0 : Env0 P w K mg base A outer s H) (hc : ∀ p ∈ cells, s.heap.get? p.1 = some p.2) (hb : ∀ p ∈ cells, base.get? p.1 = Option.none) (hf : ∀ p ∈ cells, p.1 ∉ frs outer) : Env0 P w K mg base A outer s H4 := by
  refine ⟨e0.frames, e0.mod, fun b o e => ⟨(e0.bs b o e).1, ?_⟩, e0.bsz, e0.funs, fun b hb' => ?_, t.hok e0.hok hc, e0.bare⟩
  · rw [t.out b fun q => ?_]
    · exact (e0.bs b o e).2
    · obtain ⟨p, hp, rfl⟩ := List.mem_map.mp q
      rw [hb p hp] at e; cases e
  · rw [t.out b fun q => ?_]
    · exact e0.frf b hb'
    · obtain ⟨p, hp, rfl⟩ := List.mem_map.mp q
      exact hf p hp hb'
/-- behind a call with the cells tracked -/
theorem Trk.after (t : Trk cells H H4) (hc : ∀ p ∈ cells, s.heap.get? p.1 = some p.2) (h : CE outer P w H4 s (fun v H' => Q v (Sb.cut (cells.map (·.1)) H')) u s') : CE outer P w H s Q u s' := by
  obtain ⟨v, H5, os, bare, un, hok, r, q⟩ := h
  have fz5 : ∀ p ∈ cells, H5 p.1 = some (Fz p.2) := fun p hp => un.frzs _ _ _ (t.at_ p hp)
  have at5 : ∀ p ∈ cells, s'.heap.get? p.1 = some p.2 := fun p hp => fz_at hok (fz5 p hp)
  have nS : ∀ {b : Addr} {o : HO}, H b = some o → b ∉ cells.map (·.1) := fun {b o} e q => by rw [(t.none q).1] at e; cases e
  refine ⟨v, _, os, bare, ⟨fun b o e n nf nx => ?_, fun b o e n nf nx => ?_, fun b o e n nx => ?_, un.there, fun b xs e => ?_, fun b o u e => ?_, fun b ps e => ?_⟩, fun b o e => ?_, r, q⟩
  · by_cases h : b ∈ cells.map (·.1)
    · obtain ⟨p, hp, rfl⟩ := List.mem_map.mp h
      rw [hc p hp] at e; cases e
      exact at5 p hp
    · exact un.keep b o e (by rw [t.out b h]; exact n) nf nx
  · by_cases h : b ∈ cells.map (·.1)
    · obtain ⟨p, hp, rfl⟩ := List.mem_map.mp h
      rw [hc p hp] at e; cases e
      exact ⟨p.2.slots, at5 p hp⟩
    · exact un.slot b o e (by rw [t.out b h]; exact n) nf nx
  · by_cases h : b ∈ cells.map (·.1)
    · exact cut_in h
    · rw [cut_out h]; exact un.free b o e (by rw [t.out b h]; exact n) nx
  · rw [cut_out (nS e)]; exact un.tups b xs (by rw [t.out b (nS e)]; exact e)
  · rw [cut_out (nS e)]; exact un.frzs b o u (by rw [t.out b (nS e)]; exact e)
  · rw [cut_out (nS e)]; exact un.tbls b ps (by rw [t.out b (nS e)]; exact e)
  · obtain ⟨hb, e5⟩ := cut_some e
    refine (hok b o e5).stay (fun _ _ _ z => z) (fun c z => ?_) fun c xs z => ?_
    · rw [cut_out fun q => ?_]; exact z
      obtain ⟨p, hp, rfl⟩ := List.mem_map.mp q
      rw [fz5 p hp] at z; cases z
    · rw [cut_out fun q => ?_]; exact z
      obtain ⟨p, hp, rfl⟩ := List.mem_map.mp q
      rw [fz5 p hp] at z; cases z
/-- the other way: they are untracked through a call -/
theorem Trk.env0_cut (hF : ∀ p ∈ cells, H4 p.1 = some (Fz p.2)) (e0 : Env0 P w K mg base A outer s H4) : Env0 P w K mg base A outer s (Sb.cut (cells.map (·.1)) H4) := by
  refine ⟨e0.frames, e0.mod, fun b o e => ⟨(e0.bs b o e).1, ?_⟩, e0.bsz, e0.funs, fun b hb => ?_, fun b o e => ?_, e0.bare⟩
  · unfold Sb.cut; split; rfl; exact (e0.bs b o e).2
  · unfold Sb.cut; split; rfl; exact e0.frf b hb
  · obtain ⟨hb, e4⟩ := cut_some e
    refine (e0.hok b o e4).stay (fun _ _ _ z => z) (fun c z => ?_) fun c xs z => ?_
    · rw [cut_out fun q => ?_]; exact z
      obtain ⟨p, hp, rfl⟩ := List.mem_map.mp q
      rw [hF p hp] at z; cases z
    · rw [cut_out fun q => ?_]; exact z
      obtain ⟨p, hp, rfl⟩ := List.mem_map.mp q
      rw [hF p hp] at z; cases z
def rejoin (S : List Addr) (H H' : Hp) : Hp := fun b => if b ∈ S then H b else H' b
theorem Trk.after_cut (hF : ∀ p ∈ cells, H4 p.1 = some (Fz p.2)) (e0 : Env0 P w K mg base A outer s H4) (h : CE outer P w (Sb.cut (cells.map (·.1)) H4) s (fun v H' => Q v (rejoin (cells.map (·.1)) H4 H')) u s') : CE outer P w H4 s Q u s' := by
  obtain ⟨v, H5, os, bare, un, hok, r, q⟩ := h
  have obj : ∀ {b : Addr}, b ∈ cells.map (·.1) → ∃ o, H4 b = some (Fz o) ∧ s.heap.get? b = some o ∧ b ∉ frs outer := fun {b} h => by
    obtain ⟨p, hp, rfl⟩ := List.mem_map.mp h
    refine ⟨p.2, hF p hp, fz_at e0.hok (hF p hp), fun z => ?_⟩
    have := e0.frf _ z
    rw [hF p hp] at this; cases this
  have n5 : ∀ {b : Addr}, b ∈ cells.map (·.1) → H5 b = Option.none := fun {b} h => by
    obtain ⟨o, _, h2, _⟩ := obj h
    exact un.free b o h2 (cut_in h) (by simp)
  have rin : ∀ {b : Addr}, b ∈ cells.map (·.1) → rejoin (cells.map (·.1)) H4 H5 b = H4 b := fun h => if_pos h
  have rout : ∀ {b : Addr}, b ∉ cells.map (·.1) → rejoin (cells.map (·.1)) H4 H5 b = H5 b := fun h => if_neg h
  refine ⟨v, _, os, bare, ⟨fun b o e n nf nx => ?_, fun b o e n nf nx => ?_, fun b o e n nx => ?_, un.there, fun b xs e => ?_, fun b o u e => ?_, fun b ps e => ?_⟩, fun b o e => ?_, r, q⟩
  · refine un.keep b o e ?_ nf nx
    unfold Sb.cut; split; rfl; exact n
  · refine un.slot b o e ?_ nf nx
    unfold Sb.cut; split; rfl; exact n
  · by_cases h : b ∈ cells.map (·.1)
    · rw [rin h]; exact n
    · rw [rout h]; exact un.free b o e (by rw [cut_out h]; exact n) nx
  · by_cases h : b ∈ cells.map (·.1)
    · rw [rin h]; exact e
    · rw [rout h]; exact un.tups b xs (by rw [cut_out h]; exact e)
  · by_cases h : b ∈ cells.map (·.1)
    · rw [rin h]; exact e
    · rw [rout h]; exact un.frzs b o u (by rw [cut_out h]; exact e)
  · by_cases h : b ∈ cells.map (·.1)
    · rw [rin h]; exact ⟨#[], by rw [e]; simp⟩
    · rw [rout h]; exact un.tbls b ps (by rw [cut_out h]; exact e)
  · by_cases h : b ∈ cells.map (·.1)
    · rw [rin h] at e
      obtain ⟨o', h1, h2, h3⟩ := obj h
      rw [h1] at e; cases e
      exact fz_ok (un.keep b o' h2 (cut_in h) h3 (by simp))
    · rw [rout h] at e
      refine (hok b o e).stay (fun _ _ _ z => z) (fun c z => ?_) fun c xs z => ?_
      · rw [rout fun q => ?_]; exact z
        rw [n5 q] at z; cases z
      · rw [rout fun q => ?_]; exact z
        rw [n5 q] at z; cases z
theorem rejoin_cut {S : List Addr} {H : Hp} : rejoin S H (Sb.cut S H) = H := by
  funext b
  by_cases h : b ∈ S
  · exact if_pos h
  · show (if b ∈ S then H b else Sb.cut S H b) = H b
    rw [if_neg h, cut_out h]
end
/-! ### a lambda is made, and tracked -/
section
variable {X : Cx} {pins : List (Addr × Obj)} {σ : L2.St} {H : Hp} {s : Shared}
theorem inv_fz {o : Obj} {t' : Nat} (I : Inv X pins σ H s) (hf : o.isFreed = false) : Inv X pins σ (upd H s.heap.objs.size (Fz o)) { s with heap := s.heap.push o, toks := t' } :=
  I.laid (a := s.heap.objs.size) (fun b u e => Heap.get?_push_of_some _ e) (Nat.le_refl _) (fz_ok (Heap.get?_push_size _ hf))
theorem lam_make3 {T : List (Addr × Str)} {c P : Addr} {params : Arguments} {body : Expr} {scope : Scope} {pos : Pos} {E : Value → Shared → Prop} {Q : Value → Shared → Prop} (I : Inv X pins σ H s) (TB : TabB X.base X.mg c P) (hcode : X.env.code = .ref c)
    (hm : (P, X.env.qual ++ "<lambda>") ∈ T) (hu : ∀ p ∈ T, p.1 = P → p.2 = X.env.qual ++ "<lambda>") (hT : Tabs T H) (hdef : defaultsOf params X.env = ([], [])) (hfree : ∀ y ∈ scope.names, y.2 = .free → ∃ c, X.env.cells.lookup y.1 = some c)
    (h : ∀ (f c' : Addr) (pm ctv : Value) (H1 : Hp) (s' : Shared), Inv X pins σ H1 s' → (∀ b o, b ≠ P → H b = some o → H1 b = some o) → (∀ b, H1 b = none → H b = none) → Tabs T H1 → H f = none →
      H1 f = some (Fz (PySem.W.kla_obj "<lambda>" (X.env.qual ++ "<lambda>") params body scope (cloFrom X.env.cells scope.names []) pm c' ctv)) → H1 c' = some (CodeO c' (X.env.qual ++ "<lambda>")) → Q (.ref f) s') :
    wpAny (model X.prog X.w) X.A (eval (.Lambda params body scope pos) X.env) Q E s := by
  obtain ⟨ps, hP, ht, ha⟩ := hT _ hm
  refine PySem.W.kla_eval hdef ?_
  have bP : s.heap.BuiltinsAt X.mg P := TB.bm.keeps I.bk
  have hP' : s.heap.get? P = some { cls := .none, data := .fields ps } := I.hok P _ hP
  cases hc : codeAmong pos ps.toList with
  | none =>
    refine PySem.W.kla_makeFunction (mg := X.mg) (c := c) (P := P) (ps := ps) (closure_ok hfree) I.ok.glob (I.mod.glob.keeps I.bk) hcode (TB.code.keeps I.bk) hP' ht hc TB.gP bP fun c' ctv h' tk hx hge hlt hrec htb => ?_
    obtain ⟨c2, oc, vs, t, e2, hoc, hd, hv⟩ := hrec
    cases e2
    have hsz : s.heap.objs.size ≤ h'.objs.size := Nat.le_trans hge (Nat.le_of_lt hlt)
    have nC : H c' = none := I.hok.fresh hge
    have I1 := inv_table (t' := tk) (more := #[rawInt pos.line, rawInt pos.col, .ref c']) (h' := h') I hP (fun b o hb e => hx b o hb e) htb hge ⟨oc, vs, t, hoc, hd, hv⟩
    have hE : ExtN H (upd (upd H P (.tbl (ps ++ #[rawInt pos.line, rawInt pos.col, .ref c']))) c' (CodeO c' (X.env.qual ++ "<lambda>"))) := fun b o e n => by
      rw [upd_ne (ne_of_none e nC), upd_ne (fun z => n ps (Option.some.inj (e.symm.trans (by rw [z]; exact hP))))]
      exact e
    have eL : (ps ++ #[rawInt pos.line, rawInt pos.col, .ref c']).toList = ps.toList ++ [rawInt pos.line, rawInt pos.col, .ref c'] := by simp
    have T1 : Tabs T (upd (upd H P (.tbl (ps ++ #[rawInt pos.line, rawInt pos.col, .ref c']))) c' (CodeO c' (X.env.qual ++ "<lambda>"))) := fun p hp => by
      by_cases hb : p.1 = P
      · rw [hu p hp hb, hb]
        refine ⟨_, by rw [upd_ne (ne_of_none hP nC), upd_same], by rw [eL]; exact PySem.TriplesOk_snoc _ _ _ _ ht, fun p' cv hcv => ?_⟩
        rw [eL] at hcv
        rcases among_app _ ht hcv with z | z
        · obtain ⟨c0, e1, e2⟩ := ha p' cv z
          exact ⟨c0, e1, hE _ _ e2 codeO_ne⟩
        · exact ⟨c', z, upd_same⟩
      · obtain ⟨ps', a1, a2, a3⟩ := hT p hp
        refine ⟨ps', by rw [upd_ne (ne_of_none a1 nC), upd_ne hb]; exact a1, a2, fun p' cv hcv => ?_⟩
        obtain ⟨c0, e1, e2⟩ := a3 p' cv hcv
        exact ⟨c0, e1, hE _ _ e2 codeO_ne⟩
    have nF := I1.hok.fresh (Nat.le_refl _)
    have I2 := inv_fz (o := PySem.W.kla_obj "<lambda>" (X.env.qual ++ "<lambda>") params body scope (cloFrom X.env.cells scope.names []) ((X.mg "__name__").getD .none) c' ctv) (t' := tk) I1 rfl
    refine h h'.objs.size c' ((X.mg "__name__").getD .none) ctv _ _ I2 (fun b o n e => ?_) (fun b e => upd_none (upd_none (upd_none e))) (T1.ext fun b o e => ?_) (I.hok.fresh hsz) upd_same ?_
    · have e1 : (upd (upd H P (.tbl (ps ++ #[rawInt pos.line, rawInt pos.col, .ref c']))) c' (CodeO c' (X.env.qual ++ "<lambda>"))) b = some o := by rw [upd_ne (ne_of_none e nC), upd_ne n]; exact e
      exact (upd_ne (ne_of_none e1 nF)).trans e1
    · exact (upd_ne (ne_of_none e nF)).trans e
    · exact (upd_ne (Nat.ne_of_lt hlt)).trans upd_same
  | some cv =>
    obtain ⟨c', e, hco⟩ := ha pos cv hc
    subst e
    refine PySem.W.kla_makeFunctionHit (mg := X.mg) (c := c) (P := P) (ps := ps) (closure_ok hfree) I.ok.glob (I.mod.glob.keeps I.bk) hcode (TB.code.keeps I.bk) hP' ht hc bP fun ctv h' tk hx hsz => ?_
    have I1 : Inv X pins σ H { s with heap := h', toks := tk } := I.kept fun b o e => hx b o e
    have nF : H h'.objs.size = none := I1.hok.fresh (Nat.le_refl _)
    have I2 := inv_fz (o := PySem.W.kla_obj "<lambda>" (X.env.qual ++ "<lambda>") params body scope (cloFrom X.env.cells scope.names []) ((X.mg "__name__").getD .none) c' ctv) (t' := tk) I1 rfl
    refine h h'.objs.size c' ((X.mg "__name__").getD .none) ctv _ _ I2 (fun b o n e => ?_) (fun b e => upd_none e) (hT.ext fun b o e => ?_) nF upd_same ?_
    · exact (upd_ne (ne_of_none e nF)).trans e
    · exact (upd_ne (ne_of_none e nF)).trans e
    · exact (upd_ne (ne_of_none hco nF)).trans hco
end
/-- lambda ..: .. as a value -/
def tLamV (T : List (Addr × Str)) (P : Addr) (q : Str) (params : Arguments) (body : Expr) (scope : Scope) (cl : List (Str × Addr)) : TE := fun σ H Q => Tabs T H ∧ ∀ (f c' : Addr) (pm ctv : Value) (H1 : Hp), (∀ b o, b ≠ P → H b = some o → H1 b = some o) → (∀ b, H1 b = none → H b = none) → Tabs T H1 → H f = none →
  H1 f = some (Fz (PySem.W.kla_obj "<lambda>" q params body scope cl pm c' ctv)) → H1 c' = some (CodeO c' q) → Q (.ref f) H1
section
variable {X : Cx}
theorem pe_lamV {T : List (Addr × Str)} {c P : Addr} {params : Arguments} {body : Expr} {scope : Scope} {pos : Pos} (TB : TabB X.base X.mg c P) (hcode : X.env.code = .ref c) (hm : (P, X.env.qual ++ "<lambda>") ∈ T) (hu : ∀ p ∈ T, p.1 = P → p.2 = X.env.qual ++ "<lambda>")
    (hdef : defaultsOf params X.env = ([], [])) (hfree : ∀ y ∈ scope.names, y.2 = .free → X.env.scope.names.lookup y.1 = some .cell ∨ X.env.scope.names.lookup y.1 = some .free) :
    PE X (.Lambda params body scope pos) (tLamV T P (X.env.qual ++ "<lambda>") params body scope (cloFrom X.env.cells scope.names [])) := by
  refine ⟨fun pins s σ H Q I h => ?_⟩
  obtain ⟨hT, h⟩ := h
  refine lam_make3 I TB hcode hm hu hT hdef (fun y hy e => (hfree y hy e).elim (fun z => I.ok.has _ (.inl z)) fun z => I.ok.has _ (.inr z)) fun f c' pm ctv H1 s' I1 eN nn T1 f0 f1 c1 => ?_
  exact ⟨.ref f, H1, I1, rfl, h f c' pm ctv H1 eN nn T1 f0 f1 c1⟩
end
/-! ### a method is called, the captured cells tracked -/
structure CapT (cl : List (Str × Addr)) (fr : List Str) (ws : List (Option V)) (cells : List (Addr × Obj)) : Prop where
  len : ws.length = fr.length
  all : ∀ y c, cl.lookup y = some c → ∃ o v, (c, o) ∈ cells ∧ o.data = .cell v
  inj : ∀ x y c, cl.lookup x = some c → cl.lookup y = some c → x = y
  has : ∀ (i : Nat) (y : Str), fr[i]? = some y → ∃ c, cl.lookup y = some c ∧ ∀ v, ws[i]? = some (some v) → ∃ o u, (c, o) ∈ cells ∧ o.data = .cell (some u) ∧ L2.RelV v u
theorem capT_cells {cl : List (Str × Addr)} {fr : List Str} {ws : List (Option V)} {cells : List (Addr × Obj)} {P : Program} {w : World} {H : Hp} {h : Heap} (C : CapT cl fr ws cells) (hok : HOk P w H h) (hF : ∀ p ∈ cells, H p.1 = some (Fz p.2)) : CellsAt cl fr ws h (cut (cells.map (·.1)) H) := by
  refine ⟨C.len, fun y c e => ?_, C.inj, fun i y e => ?_⟩
  · obtain ⟨o, v, hm, hd⟩ := C.all y c e
    exact ⟨cut_in (List.mem_map.mpr ⟨_, hm, rfl⟩), v, o, fz_at hok (hF _ hm), hd⟩
  · obtain ⟨c, hc, hv⟩ := C.has i y e
    refine ⟨c, hc, fun v ev => ?_⟩
    obtain ⟨o, u, hm, hd, r⟩ := hv v ev
    exact ⟨u, r, o, fz_at hok (hF _ hm), hd⟩
def tMethT (C : Addr) (m : Str) (sp : Sp) (E : XK) (ta : TE) (t : TA) (cl : List (Str × Addr)) (fr : List Str) (js : List Nat) : TE := fun σ H Q => ta σ H fun x H1 => ∃ a dx fs, x = .ref a ∧ H1 a = some (.ins C dx fs) ∧ fs.lookup m = none ∧
  t σ H1 fun vs H3 => ∀ (cells : List (Addr × Obj)) (H4 : Hp), CapT cl fr (js.map (slotAt σ)) cells → Trk cells H3 H4 → sp (x :: vs) H4 (fun v H5 => Q v (cut (cells.map (·.1)) H5)) E
section
variable {X : Cx} {C f : Addr} {k : Nat} {fd : FuncData} {ps : List Str} {sp : Sp} {m : Str} {o e : Expr} {es : List Expr} {ta : TE} {t : TA} {pos apos : Pos} {scope : Scope} {fr : List Str} {js : List Nat}
theorem pe_methT {pl : Sem Bool} (he : PE X o ta) (c : Cls X.K C) (hm : Meth X.K C m f) (F : FnOk X.prog X.w X.K X.mg X.base CX0 k f fd ps sp) (hr : Room k X.A) (hb : Binds X.K fd ps []) (ha : PA X (e :: es) t)
    (hfn : ∀ x, X.fn x = true) (hfree : ∀ y ∈ scope.names, y.2 = .free → X.env.scope.names.lookup y.1 = some .cell ∨ X.env.scope.names.lookup y.1 = some .free) (hfr : ∀ y ∈ fr, (y, NameKind.free) ∈ scope.names) (hjs : js.map (fun j => X.N[j]?) = fr.map some)
    (hst : starEach (e :: es) X.env = (false, eval e X.env) :: starEach es X.env := by rfl) (hpl : (backTo pos (starEach es X.env)).any (·.1) = false := by rfl)
    (ht : eval (.Call (.Attribute o m apos) (e :: es) [] pos) X.env = (do
      let ov ← eval o X.env
      standAt apos.atName
      let (f, first) ← holding [ov] (getMethod ov m pl)
      callWith pos f first (backTo pos (starEach (e :: es) X.env)) (backToKw pos (keywordEach [] X.env))) := by rfl) :
    PE X (.Call (.Attribute o m apos) (e :: es) [] pos) (tMethT C m sp E0 ta t (cloFrom X.env.cells scope.names []) fr js) := by
  refine ⟨fun pins s σ H Q I h => ?_⟩
  refine PySem.W.methodCall_KW (pl := pl) (thn (he.run pins s σ H _ I h) fun u s1 ⟨x, H1, I1, rx, a, dx, fs, ex, ea, l, q⟩ => ?_) ht
  subst ex
  obtain rfl : u = Value.ref a := rx
  refine getmeth_ok I1 ea c hm l ?_
  refine PySem.W.callWith_K (first := [.ref a]) (h₀ := X.base) I.ok.mod.kin hm.kp (thn (ha.run pos pins s1 σ H1 _ I1 q) fun us s2 ⟨vs, H2, I2, r, q2⟩ => ⟨I2.kIn, ?_⟩) hst hpl
  have cp : Caps X (cloFrom X.env.cells scope.names []) fr js := Caps.made I2.ok hfree hfr hjs
  have hf : ∀ y ∈ scope.names, y.2 = .free → ∃ c, X.env.cells.lookup y.1 = some c := fun y hy e => (hfree y hy e).elim (fun z => I2.ok.has _ (.inl z)) fun z => I2.ok.has _ (.inr z)
  have CA := cells_of I2 cp
  generalize hcl : cloFrom X.env.cells scope.names [] = cl at *
  -- the cells, as they stand
  have mem : ∀ p ∈ pinsAt (cl.map (·.2)) s2.heap, ∃ y, X.env.cells.lookup y = some p.1 := fun p hp => by
    obtain ⟨h1, _⟩ := of_pinsAt hp
    obtain ⟨⟨y, b⟩, hyb, eb⟩ := List.mem_map.mp h1
    have eb : b = p.1 := eb
    rw [← hcl] at hyb
    rcases cloFrom_mem hyb with z | ⟨z1, z2⟩
    · cases z
    · obtain ⟨c1, hc1⟩ := hf _ z1 rfl
      have hc1 : X.env.cells.lookup y = some c1 := hc1
      refine ⟨y, ?_⟩
      rw [← eb, hc1]
      have z2 : b = ((X.env.cells.lookup y).getD 0) := z2
      rw [z2, hc1]
      rfl
  have hcS : ∀ p ∈ pinsAt (cl.map (·.2)) s2.heap, s2.heap.get? p.1 = some p.2 := fun p hp => (of_pinsAt hp).2
  have T4 : Trk (pinsAt (cl.map (·.2)) s2.heap) H2 (fun b => if b ∈ (pinsAt (cl.map (·.2)) s2.heap).map (·.1) then (s2.heap.get? b).map Fz else H2 b) := by
    refine ⟨fun b hb => if_neg hb, fun p hp => ?_, fun p hp => ?_⟩
    · obtain ⟨y, hy⟩ := mem p hp
      exact I2.freeC y _ hy
    · show (if p.1 ∈ _ then _ else _) = _
      rw [if_pos (List.mem_map.mpr ⟨p, hp, rfl⟩), hcS p hp]
      rfl
  have CT : CapT cl fr (js.map (slotAt σ)) (pinsAt (cl.map (·.2)) s2.heap) := by
    have inC : ∀ {y : Str} {c : Addr}, cl.lookup y = some c → c ∈ cl.map (·.2) := fun {y c} e => List.mem_map.mpr ⟨_, PySem.mem_of_lookup e, rfl⟩
    refine ⟨CA.len, fun y c e => ?_, CA.inj, fun i y e => ?_⟩
    · obtain ⟨_, v, o, ho, hd⟩ := CA.all y c e
      exact ⟨o, v, mem_pinsAt (inC e) ho, hd⟩
    · obtain ⟨c, hc, hv⟩ := CA.has i y e
      refine ⟨c, hc, fun v ev => ?_⟩
      obtain ⟨u, r, o, ho, hd⟩ := hv v ev
      exact ⟨o, u, mem_pinsAt (inC hc) ho, hd, r⟩
  have e0 := T4.env0 I2.env0 hcS (fun p hp => ?_) (fun p hp => ?_)
  · have q3 := q2 _ _ CT T4
    have r2 : Vals (V.ref a :: vs) (.ref a :: us) := .cons rfl r
    have hl : (Value.ref a :: us).length = ps.length := by rw [← r2.length]; exact F.len _ _ _ _ q3
    refine wpAny_call (codeAny_mono (F.run X.A X.stack s2 _ ⟨.ref a :: us, []⟩ (.ref a :: us) (.ref a :: vs) _ _ hr e0 ?_ r2 q3) fun r' s' hq => ?_)
    · have := hb s2 (.ref a :: us) I2.kIn (by rw [List.append_nil]; exact hl)
      rw [List.append_nil] at this
      exact this
    · cases r' with
      | error e => exact False.elim hq
      | ok fl =>
        cases fl with
        | ret u => exact I2.after (T4.after hcS hq)
        | next => exact False.elim hq
        | brk => exact False.elim hq
        | cont => exact False.elim hq
  · obtain ⟨y, hy⟩ := mem p hp
    have h1 := I2.ok.cab y _ (hfn y) hy
    cases e : X.base.get? p.1 with
    | none => rfl
    | some o => exact absurd (Nat.lt_of_lt_of_le (Heap.lt_size e) (Nat.le_trans I2.ok.bsz h1)) (Nat.lt_irrefl _)
  · obtain ⟨y, hy⟩ := mem p hp
    obtain ⟨v, o, ho, hd⟩ := I2.cell y _ hy
    intro hfrm
    rcases List.mem_cons.mp (I2.stkSub _ hfrm) with z | z
    · obtain ⟨m, hns, _⟩ := I2.loc
      obtain ⟨o2, es2, ep2, ho2, hd2, _⟩ := hns
      rw [← z, ho] at ho2; cases ho2
      rw [hd] at hd2; cases hd2
    · obtain ⟨_, o2, ho2, _⟩ := I2.ok.funs.mem z
      exact absurd (Nat.lt_of_lt_of_le (Heap.lt_size ho2) (I2.ok.cab y _ (hfn y) hy)) (Nat.lt_irrefl _)
end
/-! ### a function of one argument that gives a value and changes nothing -/
structure Lam1 (P : Program) (w : World) (K : PySem.W.Frag) (mg : Str → Option Value) (base : Heap) (k : Nat) (f : Addr) (D : Hp → Prop) (R : V → Hp → V → Prop) : Prop where
  fn : ∀ (H : Hp) (h : Heap), HOk P w H h → D H → PySem.W.FnAt f h
  run : ∀ (A : Around) (outer : List Env) (s : Shared) (H : Hp) (u : Value) (v : V) (Q : VK), Room k A → Env0 P w K mg base A outer s H → D H → L2.RelV v u → (∃ z, R v H z ∧ Q z H) →
    codeAny (model P w) A (.call (.ref f) ⟨[u], []⟩) (CR CX0 outer P w H s Q E0) s
def tCallM (P : Program) (w : World) (K : PySem.W.Frag) (mg : Str → Option Value) (base : Heap) (k i : Nat) (t : TA) : TE := fun σ H Q => ∃ f D R, Lam1 P w K mg base k f D R ∧ σ[i]? = some (some (.ref f)) ∧ D H ∧ t σ H fun vs H1 => ∃ v, vs = [v] ∧ D H1 ∧ ∃ z, R v H1 z ∧ Q z H1
section
variable {X : Cx} {i k : Nat} {x : Str} {e : Expr} {t : TA} {p pos : Pos}
theorem pe_callM (hr : Room k X.A) (hN : X.N[i]? = some x) (hv : Vis X.env.scope x) (ha : PA X [e] t) (hd : (x == ("__debug__" : Str)) = false := by decide) (hcd : (x == ("__classdict__" : Str)) = false := by decide)
    (he : starEach [e] X.env = (false, eval e X.env) :: starEach [] X.env := by rfl) : PE X (.Call (.Name x p) [e] [] pos) (tCallM X.prog X.w X.K X.mg X.base k i t) := by
  refine ⟨fun pins s σ H Q I h => ?_⟩
  obtain ⟨f, D, R, L, hs, hD, ht⟩ := h
  refine wpAny_Call_Name_kw (thn ((pe_var (pos := p) hN hv hd hcd).run pins s σ H (fun v H1 => v = .ref f ∧ H1 = H) I ⟨.ref f, hs, rfl, rfl⟩) fun u s1 ⟨v, H1, I1, r1, q1⟩ => ?_)
  obtain ⟨ev, eH⟩ := q1
  subst ev
  rw [eH] at I1
  obtain rfl : u = Value.ref f := r1
  refine PySem.W.callWith_F (first := []) (L.fn _ _ I1.hok hD) (thn (ha.run pos pins s1 σ H _ I1 ht) fun us s2 ⟨vs, H2, I2, r, v, ev, h1, q⟩ => ⟨L.fn _ _ I2.hok h1, ?_⟩) he (by rfl)
  subst ev
  cases r with
  | cons rv rr =>
    cases rr
    show wpAny _ _ (call (.ref f) _) _ _ _
    refine wpAny_call (codeAny_mono (L.run X.A X.stack s2 H2 _ v Q hr I2.env0 h1 rv q) fun r' s' hq => ?_)
    cases r' with
    | error e => exact False.elim hq
    | ok fl =>
      cases fl with
      | ret u => exact I2.after hq
      | next => exact False.elim hq
      | brk => exact False.elim hq
      | cont => exact False.elim hq
end
/-! ### a lambda of one parameter -/
abbrev lamF (q : Str) (params : Arguments) (scope : Scope) (cl : List (Str × Addr)) (c' : Addr) : NF := ⟨"<lambda>", q, params, [], scope, cl, c'⟩
def LamD (f c' : Addr) (q : Str) (o : Obj) (cells : List (Addr × Obj)) (H : Hp) : Prop := H f = some (Fz o) ∧ H c' = some (CodeO c' q) ∧ ∀ p ∈ cells, H p.1 = some (Fz p.2)
theorem lam1_of {P : Program} {w : World} {K : PySem.W.Frag} {mg : Str → Option Value} {base : Heap} {k : Nat} {N fr : List Str} {ws : List (Option V)} {cells : List (Addr × Obj)} {cl : List (Str × Addr)} {f c' : Addr} {q x : Str} {params : Arguments} {body : Expr} {scope : Scope} {pm ctv : Value} {R : V → Hp → V → Prop}
    (S : NScope N [x] fr scope) (hb : ∀ u : Value, bindArgs (PySem.W.kla_fn "<lambda>" q params body scope cl pm (.ref c') ctv) ⟨[u], []⟩ = pure [(x, u)]) (C : CapT cl fr ws cells)
    (hbody : ∀ (A : Around) (outer : List Env) (s : Shared) (H : Hp) (v z : V), Room k (A.deeper (envF (lamF q params scope cl c') f s.heap.objs.size)) → R v H z →
      ∃ t : TE, PE (ncx CX0 P w K mg base N (lamF q params scope cl c') f A outer s (cut (cells.map (·.1)) H) E0) body t ∧ ∀ Q : VK, Q z (cut (cells.map (·.1)) H) → t (startF N [v] ws) (cut (cells.map (·.1)) H) Q) :
    Lam1 P w K mg base (k + 1) f (LamD f c' q (PySem.W.kla_obj "<lambda>" q params body scope cl pm c' ctv) cells) R := by
  refine ⟨fun H h hok D => ⟨_, _, _, _, fz_at hok D.1⟩, fun A outer s H u v Q hr e0 D rv qq => ?_⟩
  obtain ⟨hf, hc, hF⟩ := D
  obtain ⟨z, hR, hQ⟩ := qq
  have e1 := Trk.env0_cut hF e0
  have CA := capT_cells C e0.hok hF
  have of := fz_at e0.hok hf
  have hcode := codeO_at e0.hok hc
  have lim : s.heap.NoLimit := e0.mod.nolimit.keeps fun b o e => (e0.bs b o e).1
  have rc : codeAny (model P w) A (.call (.ref f) ⟨[u], []⟩) (CR CX0 outer P w (cut (cells.map (·.1)) H) s (fun v H' => Q v (rejoin (cells.map (·.1)) H H')) E0) s := by
    refine PySem.W.kla_callFunE hr.depth of rfl S.co S.gen rfl hcode ?_
    rw [hb u]
    refine wpAny_pure (wpAny_newFunctionEnv S.nocell (fun y hy => ?_) (fun h₁ hns hsb => ⟨lim.fresh _ hsb, ?_⟩) S.kind)
    · rw [List.mem_singleton.mp hy]
      exact S.par x (List.mem_singleton.mpr rfl)
    show codeAny _ _ (.expr body (envF (lamF q params scope cl c') f s.heap.objs.size)) _ _
    have kp : ∀ b o, s.heap.get? b = some o → h₁.get? b = some o := fun b o e => hsb.extBut b o (Nat.ne_of_lt (Heap.lt_size e)) (Heap.get?_push_of_some _ e)
    have J : Inv (ncx CX0 P w K mg base N (lamF q params scope cl c') f A outer s (cut (cells.map (·.1)) H) E0) [] (startF N [v] ws) (cut (cells.map (·.1)) H) { s with heap := h₁, toks := s.toks + ([(x, u)] : List (Str × Value)).length } :=
      inv_startN (F := lamF q params scope cl c') (ps := [x]) (us := [u]) (vs := [v]) S hr.hd e1 rfl (.cons rv .nil) CA hns kp
    obtain ⟨t, ht, hq⟩ := hbody A outer s H v z (hr.deeper _) hR
    refine PySem.W.kla_codeExpr (wpAny_mono (ht.run [] _ _ _ (fun v H' => Q v (rejoin (cells.map (·.1)) H H')) J (hq _ (by rw [rejoin_cut]; exact hQ))) (fun v s' hq' => ?_) fun e s' hq' => hq')
    obtain ⟨w', H', J', rv', q'⟩ := hq'
    exact ⟨w', H', J'.os, J'.bare, J'.base, J'.hok, rv', q'⟩
  refine codeAny_mono rc fun r s' hq => ?_
  cases r with
  | error e => exact hq
  | ok fl =>
    cases fl with
    | ret u => exact Trk.after_cut hF e0 hq
    | next => exact hq
    | brk => exact hq
    | cont => exact hq
end Sb

namespace Sb
open PySem PySem.Spec PyProof.Rows L2
/-- the lambda that stands last among the arguments of the call that a def returns -/
def lamArg (st : Stmt) : Expr := match (defBody st).getLast? with
  | some (.Return (some (.Call _ es _ _)) _) => es.getLast?.getD (.Constant .none 0 ⟨0, 0, 0, 0⟩)
  | _ => .Constant .none 0 ⟨0, 0, 0, 0⟩
def lamScope : Expr → Scope
  | .Lambda _ _ sc _ => sc
  | _ => default
def lamPar : Expr → Arguments
  | .Lambda ps _ _ _ => ps
  | _ => default
def lamBody : Expr → Expr
  | .Lambda _ b _ _ => b
  | e => e
theorem fun_okC {P : Program} {w : World} {K : PySem.W.Frag} {mg : Str → Option Value} {base : Heap} {x qual : Str} {st : Stmt} {f c : Addr} {fd : FuncData} {N ps : List Str} {k : Nat} {sp : Sp} (F : L2.Fun K x qual st f fd) (hc : fd.code = .ref c) (S : FnScope N ps (defScope st)) (len : ∀ vs H Q E, sp vs H Q E → vs.length = ps.length)
    (hbody : ∀ (A : Around) (outer : List Env) (s : Shared) (H : Hp) (vs : List V) (Q : VK) (E : XK), Room k (A.deeper (envOfC qual (defScope st) s.heap.objs.size f (.ref c))) → sp vs H Q E →
      ∃ t, PSs (cxOf CX0 P w K mg base N qual (defScope st) f (.ref c) A outer s H E).nox (defBody st) t ∧ t { nx := fun _ H' => Q .non H', rt := Q } (start N vs) H) : FnOk P w K mg base CX0 (k + 1) f fd ps sp := by
  obtain ⟨oc, od, kV, doc, pm, an, cdv, ct, osl, rfl, lk, hcd⟩ := F.ex
  have hc' : cdv = .ref c := hc
  subst hc'
  refine fn_of lk hcd S len fun A outer s H vs Q E hr hsp => ?_
  obtain ⟨t, h, q⟩ := hbody A outer s H vs Q E hr hsp
  exact ⟨t, h.nox, q⟩
end Sb

namespace Sb
open PySem PySem.Spec PyProof.Rows L2
def topS (i : Nat) : Stmt := PySem.Challenge.pw_shelfbots_k33_whole_boxes_are_kept.main.body.getD i (.Pass ⟨0, 0, 0, 0⟩)
abbrev s_l_random : Stmt := topS 58
theorem sc_l_random : FnScope ["_law_script", "_law_salt", "_law_seed", "_law_cell"] ["_law_script", "_law_salt"] (defScope s_l_random) := ⟨rfl, rfl, rfl, by decide +kernel, rfl, by decide +kernel, by decide +kernel⟩
abbrev s_l_below : Stmt := topS 59
theorem sc_l_below : FnScope ["_law_d", "_law_limit", "_law_result"] ["_law_d", "_law_limit"] (defScope s_l_below) := ⟨rfl, rfl, rfl, by decide +kernel, rfl, by decide +kernel, by decide +kernel⟩
abbrev s_l_empty : Stmt := topS 61
theorem sc_l_empty : FnScope ["_law_plan_here"] ["_law_plan_here"] (defScope s_l_empty) := ⟨rfl, rfl, rfl, by decide +kernel, rfl, by decide +kernel, by decide +kernel⟩
abbrev s_l_act : Stmt := topS 62
theorem sc_l_act : FnScope ["_law_plan_here", "_law_state", "_law_number", "_law_places", "_law_nexts", "_law_holds", "_law_shelf", "_law_part", "_law_word", "_law_goal", "_law_here", "_law_there", "_law_jumps"] ["_law_plan_here", "_law_state", "_law_number"] (defScope s_l_act) := ⟨rfl, rfl, rfl, by decide +kernel, rfl, by decide +kernel, by decide +kernel⟩
abbrev s_l_tick : Stmt := topS 63
theorem sc_l_tick : FnScope ["_law_plan_here", "_law_state", "_law_first", "_law_second"] ["_law_plan_here", "_law_state"] (defScope s_l_tick) := ⟨rfl, rfl, rfl, by decide +kernel, rfl, by decide +kernel, by decide +kernel⟩
abbrev s_l_repeats : Stmt := topS 64
theorem sc_l_repeats : FnScope ["_law_plan_here", "_law_state", "_law_keys", "_law_tick_here", "_law_key", "_law_part"] ["_law_plan_here"] (defScope s_l_repeats) := ⟨rfl, rfl, rfl, by decide +kernel, rfl, by decide +kernel, by decide +kernel⟩
abbrev s_l_steps : Stmt := topS 60
theorem sc_l_steps : FnScope ["_law_d", "_law_most", "_law_many", "_law_words", "_law_ways", "_law_limit", "_law_found", "_law_k", "_law_word"] ["_law_d", "_law_most"] (defScope s_l_steps) := ⟨rfl, rfl, rfl, by decide +kernel, rfl, by decide +kernel, by decide +kernel⟩
abbrev s_l_plan : Stmt := topS 65
theorem sc_l_plan : FnScope ["_law_d", "_law_most", "_law_many_cells", "_law_first", "_law_second", "_law_shelf", "_law_k", "_law_plan_here"] ["_law_d", "_law_most"] (defScope s_l_plan) := ⟨rfl, rfl, rfl, by decide +kernel, rfl, by decide +kernel, by decide +kernel⟩
abbrev s_Parser_peek : Stmt := inClass (topS 34) 1
theorem sc_Parser_peek : FnScope ["self"] ["self"] (defScope s_Parser_peek) := ⟨rfl, rfl, rfl, by decide +kernel, rfl, by decide +kernel, by decide +kernel⟩
abbrev s_Token_init : Stmt := inClass (topS 23) 0
theorem sc_Token_init : FnScope ["self", "kind", "text", "line", "column"] ["self", "kind", "text", "line", "column"] (defScope s_Token_init) := ⟨rfl, rfl, rfl, by decide +kernel, rfl, by decide +kernel, by decide +kernel⟩
abbrev s_Robot_init : Stmt := inClass (topS 32) 0
theorem sc_Robot_init : FnScope ["self", "start", "steps", "names"] ["self", "start", "steps", "names"] (defScope s_Robot_init) := ⟨rfl, rfl, rfl, by decide +kernel, rfl, by decide +kernel, by decide +kernel⟩
abbrev s_Plan_init : Stmt := inClass (topS 33) 0
theorem sc_Plan_init : FnScope ["self", "shelf", "robots"] ["self", "shelf", "robots"] (defScope s_Plan_init) := ⟨rfl, rfl, rfl, by decide +kernel, rfl, by decide +kernel, by decide +kernel⟩
abbrev s_Parser_init : Stmt := inClass (topS 34) 0
theorem sc_Parser_init : FnScope ["self", "tokens"] ["self", "tokens"] (defScope s_Parser_init) := ⟨rfl, rfl, rfl, by decide +kernel, rfl, by decide +kernel, by decide +kernel⟩
abbrev s_is_int_in : Stmt := topS 41
theorem sc_is_int_in : FnScope ["value", "low", "high"] ["value", "low", "high"] (defScope s_is_int_in) := ⟨rfl, rfl, rfl, by decide +kernel, rfl, by decide +kernel, by decide +kernel⟩
abbrev s_check_tick : Stmt := topS 42
theorem sc_check_tick : FnScope ["tick"] ["tick"] (defScope s_check_tick) := ⟨rfl, rfl, rfl, by decide +kernel, rfl, by decide +kernel, by decide +kernel⟩
abbrev s_Story_size : Stmt := inClass (topS 49) 1
theorem sc_Story_size : FnScope ["self"] ["self"] (defScope s_Story_size) := ⟨rfl, rfl, rfl, by decide +kernel, rfl, by decide +kernel, by decide +kernel⟩
abbrev s_Story_happens : Stmt := inClass (topS 49) 2
theorem sc_Story_happens : FnScope ["self", "tick"] ["self", "tick"] (defScope s_Story_happens) := ⟨rfl, rfl, rfl, by decide +kernel, rfl, by decide +kernel, by decide +kernel⟩
abbrev s_first_state : Stmt := topS 45
theorem sc_first_state : FnScope ["parsed", "robot"] ["parsed"] (defScope s_first_state) := ⟨rfl, rfl, rfl, by decide +kernel, rfl, by decide +kernel, by decide +kernel⟩
abbrev s_State_key : Stmt := inClass (topS 43) 1
theorem sc_State_key : FnScope ["self"] ["self"] (defScope s_State_key) := ⟨rfl, rfl, rfl, by decide +kernel, rfl, by decide +kernel, by decide +kernel⟩
abbrev s_replaced : Stmt := topS 44
theorem sc_replaced : FnScope ["values", "place", "value"] ["values", "place", "value"] (defScope s_replaced) := ⟨rfl, rfl, rfl, by decide +kernel, rfl, by decide +kernel, by decide +kernel⟩
abbrev s_act : Stmt := topS 46
theorem sc_act : FnScope ["parsed", "state", "number", "robot", "at", "word", "goal", "cell", "held", "shelf", "later", "is_jump", "cells", "holds"] ["parsed", "state", "number"] (defScope s_act) := ⟨rfl, rfl, rfl, by decide +kernel, rfl, by decide +kernel, by decide +kernel⟩
abbrev s_Tick_init : Stmt := inClass (topS 47) 0
theorem sc_Tick_init : FnScope ["self", "words", "state"] ["self", "words", "state"] (defScope s_Tick_init) := ⟨rfl, rfl, rfl, by decide +kernel, rfl, by decide +kernel, by decide +kernel⟩
abbrev s_next_tick : Stmt := topS 48
theorem sc_next_tick : FnScope ["parsed", "state", "first", "second"] ["parsed", "state"] (defScope s_next_tick) := ⟨rfl, rfl, rfl, by decide +kernel, rfl, by decide +kernel, by decide +kernel⟩
abbrev s_Story_init : Stmt := inClass (topS 49) 0
theorem sc_Story_init : FnScope ["self", "parsed", "state", "seen"] ["self", "parsed"] (defScope s_Story_init) := ⟨rfl, rfl, rfl, by decide +kernel, rfl, by decide +kernel, by decide +kernel⟩
abbrev s_cells : Stmt := topS 50
theorem sc_cells : FnScope ["plan", "tick", "parsed"] ["plan", "tick"] (defScope s_cells) := ⟨rfl, rfl, rfl, by decide +kernel, rfl, by decide +kernel, by decide +kernel⟩
abbrev s_State_init : Stmt := inClass (topS 43) 0
theorem sc_State_init : FnScope ["self", "cells", "nexts", "holds", "shelf"] ["self", "cells", "nexts", "holds", "shelf"] (defScope s_State_init) := ⟨rfl, rfl, rfl, by decide +kernel, rfl, by decide +kernel, by decide +kernel⟩
abbrev s_Parser_fail : Stmt := inClass (topS 34) 2
theorem sc_Parser_fail : FnScope ["self", "token"] ["self"] (defScope s_Parser_fail) := ⟨rfl, rfl, rfl, by decide +kernel, rfl, by decide +kernel, by decide +kernel⟩
abbrev s_Parser_take_word : Stmt := inClass (topS 34) 5
theorem sc_Parser_take_word : FnScope ["self", "word", "token"] ["self", "word"] (defScope s_Parser_take_word) := ⟨rfl, rfl, rfl, by decide +kernel, rfl, by decide +kernel, by decide +kernel⟩
abbrev s_Parser_take : Stmt := inClass (topS 34) 4
theorem sc_Parser_take : FnScope ["self", "kind", "token"] ["self", "kind"] (defScope s_Parser_take) := ⟨rfl, rfl, rfl, by decide +kernel, rfl, by decide +kernel, by decide +kernel⟩
abbrev s_Parser_found : Stmt := inClass (topS 34) 3
theorem sc_Parser_found : FnScope ["self", "reason", "token"] ["self", "reason", "token"] (defScope s_Parser_found) := ⟨rfl, rfl, rfl, by decide +kernel, rfl, by decide +kernel, by decide +kernel⟩
abbrev s_Parser_parse_shelf : Stmt := inClass (topS 34) 6
theorem sc_Parser_parse_shelf : FnScope ["self", "keyword", "tokens", "place", "token"] ["self"] (defScope s_Parser_parse_shelf) := ⟨rfl, rfl, rfl, by decide +kernel, rfl, by decide +kernel, by decide +kernel⟩
abbrev s_Parser_parse_step : Stmt := inClass (topS 34) 7
theorem sc_Parser_parse_step : FnScope ["self", "names", "jumps", "token"] ["self", "names", "jumps"] (defScope s_Parser_parse_step) := ⟨rfl, rfl, rfl, by decide +kernel, rfl, by decide +kernel, by decide +kernel⟩
abbrev s_Parser_parse_robot : Stmt := inClass (topS 34) 8
theorem sc_Parser_parse_robot : FnScope ["self", "cells", "others", "token", "words", "names", "jumps", "steps", "word", "jump"] ["self", "cells", "others"] (defScope s_Parser_parse_robot) := ⟨rfl, rfl, rfl, by decide +kernel, rfl, by decide +kernel, by decide +kernel⟩
abbrev s_Parser_parse_plan : Stmt := inClass (topS 34) 9
theorem sc_Parser_parse_plan : FnScope ["self", "shelf", "first", "second", "line", "column", "number", "reason"] ["self"] (defScope s_Parser_parse_plan) := ⟨rfl, rfl, rfl, by decide +kernel, rfl, by decide +kernel, by decide +kernel⟩
abbrev s_run_end : Stmt := topS 24
theorem sc_run_end : FnScope ["row", "start", "letters", "end"] ["row", "start", "letters"] (defScope s_run_end) := ⟨rfl, rfl, rfl, by decide +kernel, rfl, by decide +kernel, by decide +kernel⟩
abbrev s_read_token : Stmt := topS 25
theorem sc_read_token : FnScope ["row", "line", "column", "first", "word"] ["row", "line", "column"] (defScope s_read_token) := ⟨rfl, rfl, rfl, by decide +kernel, rfl, by decide +kernel, by decide +kernel⟩
abbrev s_tokenize : Stmt := topS 26
theorem sc_tokenize : FnScope ["source", "tokens", "rows", "line", "row", "column", "token"] ["source"] (defScope s_tokenize) := ⟨rfl, rfl, rfl, by decide +kernel, rfl, by decide +kernel, by decide +kernel⟩
abbrev s_load : Stmt := topS 35
theorem sc_load : FnScope ["plan"] ["plan"] (defScope s_load) := ⟨rfl, rfl, rfl, by decide +kernel, rfl, by decide +kernel, by decide +kernel⟩
abbrev s_trace : Stmt := topS 53
theorem sc_trace : GScope ["plan", "first", "last", "parsed", "story", "tick"] ["plan", "first", "last"] (defScope s_trace) := ⟨rfl, rfl, rfl, by decide +kernel, rfl, by decide +kernel, by decide +kernel⟩
abbrev s_l_some_tick : Stmt := topS 67
theorem sc_l_some_tick : FnScope ["_law_d"] ["_law_d"] (defScope s_l_some_tick) := ⟨rfl, rfl, rfl, by decide +kernel, rfl, by decide +kernel, by decide +kernel⟩
abbrev s_l_text : Stmt := topS 66
theorem sc_l_text : FnScope ["_law_plan_here", "_law_shelf", "_law_starts", "_law_both", "_law_lines", "_law_pieces", "_law_number", "_law_goals", "_law_word", "_law_goal", "_law_k", "_law_mark", "_law_target"] ["_law_plan_here"] (defScope s_l_text) := ⟨rfl, rfl, rfl, by decide +kernel, rfl, by decide +kernel, by decide +kernel⟩
abbrev s_holding : Stmt := topS 52
theorem sc_holding : FnScope ["plan", "tick", "parsed", "number", "held"] ["plan", "tick"] (defScope s_holding) := ⟨rfl, rfl, rfl, by decide +kernel, rfl, by decide +kernel, by decide +kernel⟩
abbrev s_boxes : Stmt := topS 51
theorem sc_boxes : FnScope ["plan", "tick", "parsed"] ["plan", "tick"] (defScope s_boxes) := ⟨rfl, rfl, rfl, by decide +kernel, rfl, by decide +kernel, by decide +kernel⟩
abbrev s_check_robot : Stmt := topS 55
theorem sc_check_robot : FnScope ["number"] ["number"] (defScope s_check_robot) := ⟨rfl, rfl, rfl, by decide +kernel, rfl, by decide +kernel, by decide +kernel⟩
abbrev s_Story_count : Stmt := inClass (topS 49) 3
theorem sc_Story_count : FnScope ["self", "ticks", "measure", "known", "one", "rounds", "rest"] ["self", "ticks", "measure"] (defScope s_Story_count) := ⟨rfl, rfl, rfl, by decide +kernel, rfl, by decide +kernel, by decide +kernel⟩
abbrev s_count_done : Stmt := topS 56
theorem sc_count_done : FnScope ["plan", "number", "word", "ticks", "parsed"] ["plan", "number", "word", "ticks"] (defScope s_count_done) := ⟨rfl, rfl, rfl, by decide +kernel, rfl, by decide +kernel, by decide +kernel⟩
abbrev s_law : Stmt := topS 68
theorem sc_law : FnScope ["_law_script", "_law_d", "_law_plan_here", "_law_text_here", "_law_most", "_law_shelf", "_law_places", "_law_held", "_law_tick_here", "_law_first", "_law_second", "_law_number", "_law_word", "_law_change", "_law_last", "_law_many"] ["_law_script"] (defScope s_law) := ⟨rfl, rfl, rfl, by decide +kernel, rfl, by decide +kernel, by decide +kernel⟩
structure Ad where
  f_l_random : Addr
  d_l_random : FuncData
  f_l_below : Addr
  d_l_below : FuncData
  f_l_empty : Addr
  d_l_empty : FuncData
  f_l_act : Addr
  d_l_act : FuncData
  f_l_tick : Addr
  d_l_tick : FuncData
  f_l_repeats : Addr
  d_l_repeats : FuncData
  f_l_steps : Addr
  d_l_steps : FuncData
  f_l_plan : Addr
  d_l_plan : FuncData
  f_Parser_peek : Addr
  d_Parser_peek : FuncData
  f_Token_init : Addr
  d_Token_init : FuncData
  f_Robot_init : Addr
  d_Robot_init : FuncData
  f_Plan_init : Addr
  d_Plan_init : FuncData
  f_Parser_init : Addr
  d_Parser_init : FuncData
  f_is_int_in : Addr
  d_is_int_in : FuncData
  f_check_tick : Addr
  d_check_tick : FuncData
  f_Story_size : Addr
  d_Story_size : FuncData
  p_Story_size : Addr
  f_Story_happens : Addr
  d_Story_happens : FuncData
  f_first_state : Addr
  d_first_state : FuncData
  f_State_key : Addr
  d_State_key : FuncData
  p_State_key : Addr
  f_replaced : Addr
  d_replaced : FuncData
  f_act : Addr
  d_act : FuncData
  f_Tick_init : Addr
  d_Tick_init : FuncData
  f_next_tick : Addr
  d_next_tick : FuncData
  f_Story_init : Addr
  d_Story_init : FuncData
  f_cells : Addr
  d_cells : FuncData
  f_State_init : Addr
  d_State_init : FuncData
  f_Parser_fail : Addr
  d_Parser_fail : FuncData
  f_Parser_take_word : Addr
  d_Parser_take_word : FuncData
  f_Parser_take : Addr
  d_Parser_take : FuncData
  f_Parser_found : Addr
  d_Parser_found : FuncData
  f_Parser_parse_shelf : Addr
  d_Parser_parse_shelf : FuncData
  f_Parser_parse_step : Addr
  d_Parser_parse_step : FuncData
  f_Parser_parse_robot : Addr
  d_Parser_parse_robot : FuncData
  f_Parser_parse_plan : Addr
  d_Parser_parse_plan : FuncData
  f_run_end : Addr
  d_run_end : FuncData
  f_read_token : Addr
  d_read_token : FuncData
  f_tokenize : Addr
  d_tokenize : FuncData
  f_load : Addr
  d_load : FuncData
  f_trace : Addr
  d_trace : FuncData
  f_l_some_tick : Addr
  d_l_some_tick : FuncData
  f_l_text : Addr
  d_l_text : FuncData
  f_holding : Addr
  d_holding : FuncData
  f_boxes : Addr
  d_boxes : FuncData
  f_check_robot : Addr
  d_check_robot : FuncData
  f_Story_count : Addr
  d_Story_count : FuncData
  f_count_done : Addr
  d_count_done : FuncData
  f_law : Addr
  d_law : FuncData
  cc_count_done : Addr
  tb_count_done : Addr
  C_Token : Addr
  C_Robot : Addr
  C_Plan : Addr
  C_Parser : Addr
  C_State : Addr
  C_Tick : Addr
  C_Story : Addr
  A_MOVES : Addr
  A_JUMPS : Addr
  A_KEYWORDS : Addr
  t_LETTERS : Tok
  t_DIGITS : Tok
  t_SPACES : Tok
  t_SIGNS : Tok
  t_MAX_LETTERS : Tok
  t_MAX_DIGITS : Tok
  t_NAME : Tok
  t_NUMBER : Tok
  t_KEYWORD : Tok
  t_SIGN : Tok
  t_END : Tok
  t_MIN_CELLS : Tok
  t_MAX_CELLS : Tok
  t_MAX_BOXES : Tok
  t_MAX_STEPS : Tok
  t_MAX_TICK : Tok
  t_MAX_STATES : Tok
  t_MAX_TRACE : Tok
  t_BLOCKED : Tok
structure Txt (K : PySem.W.Frag) (mg : Str → Option Value) (a : Ad) : Prop where
  F_l_random : Fun K "_law_random" "_law_random" s_l_random a.f_l_random a.d_l_random
  m_l_random : mg "_law_random" = some (.ref a.f_l_random)
  F_l_below : Fun K "_law_below" "_law_below" s_l_below a.f_l_below a.d_l_below
  m_l_below : mg "_law_below" = some (.ref a.f_l_below)
  F_l_empty : Fun K "_law_empty" "_law_empty" s_l_empty a.f_l_empty a.d_l_empty
  m_l_empty : mg "_law_empty" = some (.ref a.f_l_empty)
  F_l_act : Fun K "_law_act" "_law_act" s_l_act a.f_l_act a.d_l_act
  m_l_act : mg "_law_act" = some (.ref a.f_l_act)
  F_l_tick : Fun K "_law_tick" "_law_tick" s_l_tick a.f_l_tick a.d_l_tick
  m_l_tick : mg "_law_tick" = some (.ref a.f_l_tick)
  F_l_repeats : Fun K "_law_repeats" "_law_repeats" s_l_repeats a.f_l_repeats a.d_l_repeats
  m_l_repeats : mg "_law_repeats" = some (.ref a.f_l_repeats)
  F_l_steps : Fun K "_law_steps" "_law_steps" s_l_steps a.f_l_steps a.d_l_steps
  m_l_steps : mg "_law_steps" = some (.ref a.f_l_steps)
  F_l_plan : Fun K "_law_plan" "_law_plan" s_l_plan a.f_l_plan a.d_l_plan
  m_l_plan : mg "_law_plan" = some (.ref a.f_l_plan)
  F_Parser_peek : Fun K "peek" "Parser.peek" s_Parser_peek a.f_Parser_peek a.d_Parser_peek
  M_Parser_peek : Meth K a.C_Parser "peek" a.f_Parser_peek
  F_Token_init : Fun K "__init__" "Token.__init__" s_Token_init a.f_Token_init a.d_Token_init
  F_Robot_init : Fun K "__init__" "Robot.__init__" s_Robot_init a.f_Robot_init a.d_Robot_init
  F_Plan_init : Fun K "__init__" "Plan.__init__" s_Plan_init a.f_Plan_init a.d_Plan_init
  F_Parser_init : Fun K "__init__" "Parser.__init__" s_Parser_init a.f_Parser_init a.d_Parser_init
  F_is_int_in : Fun K "is_int_in" "is_int_in" s_is_int_in a.f_is_int_in a.d_is_int_in
  m_is_int_in : mg "is_int_in" = some (.ref a.f_is_int_in)
  F_check_tick : Fun K "check_tick" "check_tick" s_check_tick a.f_check_tick a.d_check_tick
  m_check_tick : mg "check_tick" = some (.ref a.f_check_tick)
  F_Story_size : Fun K "size" "Story.size" s_Story_size a.f_Story_size a.d_Story_size
  P_Story_size : PropOf K a.C_Story "size" a.p_Story_size a.f_Story_size
  F_Story_happens : Fun K "happens" "Story.happens" s_Story_happens a.f_Story_happens a.d_Story_happens
  M_Story_happens : Meth K a.C_Story "happens" a.f_Story_happens
  F_first_state : Fun K "first_state" "first_state" s_first_state a.f_first_state a.d_first_state
  m_first_state : mg "first_state" = some (.ref a.f_first_state)
  F_State_key : Fun K "key" "State.key" s_State_key a.f_State_key a.d_State_key
  P_State_key : PropOf K a.C_State "key" a.p_State_key a.f_State_key
  F_replaced : Fun K "replaced" "replaced" s_replaced a.f_replaced a.d_replaced
  m_replaced : mg "replaced" = some (.ref a.f_replaced)
  F_act : Fun K "act" "act" s_act a.f_act a.d_act
  m_act : mg "act" = some (.ref a.f_act)
  F_Tick_init : Fun K "__init__" "Tick.__init__" s_Tick_init a.f_Tick_init a.d_Tick_init
  F_next_tick : Fun K "next_tick" "next_tick" s_next_tick a.f_next_tick a.d_next_tick
  m_next_tick : mg "next_tick" = some (.ref a.f_next_tick)
  F_Story_init : Fun K "__init__" "Story.__init__" s_Story_init a.f_Story_init a.d_Story_init
  F_cells : Fun K "cells" "cells" s_cells a.f_cells a.d_cells
  m_cells : mg "cells" = some (.ref a.f_cells)
  F_State_init : Fun K "__init__" "State.__init__" s_State_init a.f_State_init a.d_State_init
  F_Parser_fail : Fun K "fail" "Parser.fail" s_Parser_fail a.f_Parser_fail a.d_Parser_fail
  M_Parser_fail : Meth K a.C_Parser "fail" a.f_Parser_fail
  F_Parser_take_word : Fun K "take_word" "Parser.take_word" s_Parser_take_word a.f_Parser_take_word a.d_Parser_take_word
  M_Parser_take_word : Meth K a.C_Parser "take_word" a.f_Parser_take_word
  F_Parser_take : Fun K "take" "Parser.take" s_Parser_take a.f_Parser_take a.d_Parser_take
  M_Parser_take : Meth K a.C_Parser "take" a.f_Parser_take
  F_Parser_found : Fun K "found" "Parser.found" s_Parser_found a.f_Parser_found a.d_Parser_found
  M_Parser_found : Meth K a.C_Parser "found" a.f_Parser_found
  F_Parser_parse_shelf : Fun K "parse_shelf" "Parser.parse_shelf" s_Parser_parse_shelf a.f_Parser_parse_shelf a.d_Parser_parse_shelf
  M_Parser_parse_shelf : Meth K a.C_Parser "parse_shelf" a.f_Parser_parse_shelf
  F_Parser_parse_step : Fun K "parse_step" "Parser.parse_step" s_Parser_parse_step a.f_Parser_parse_step a.d_Parser_parse_step
  M_Parser_parse_step : Meth K a.C_Parser "parse_step" a.f_Parser_parse_step
  F_Parser_parse_robot : Fun K "parse_robot" "Parser.parse_robot" s_Parser_parse_robot a.f_Parser_parse_robot a.d_Parser_parse_robot
  M_Parser_parse_robot : Meth K a.C_Parser "parse_robot" a.f_Parser_parse_robot
  F_Parser_parse_plan : Fun K "parse_plan" "Parser.parse_plan" s_Parser_parse_plan a.f_Parser_parse_plan a.d_Parser_parse_plan
  M_Parser_parse_plan : Meth K a.C_Parser "parse_plan" a.f_Parser_parse_plan
  F_run_end : Fun K "run_end" "run_end" s_run_end a.f_run_end a.d_run_end
  m_run_end : mg "run_end" = some (.ref a.f_run_end)
  F_read_token : Fun K "read_token" "read_token" s_read_token a.f_read_token a.d_read_token
  m_read_token : mg "read_token" = some (.ref a.f_read_token)
  F_tokenize : Fun K "tokenize" "tokenize" s_tokenize a.f_tokenize a.d_tokenize
  m_tokenize : mg "tokenize" = some (.ref a.f_tokenize)
  F_load : Fun K "load" "load" s_load a.f_load a.d_load
  m_load : mg "load" = some (.ref a.f_load)
  F_trace : Fun K "trace" "trace" s_trace a.f_trace a.d_trace
  m_trace : mg "trace" = some (.ref a.f_trace)
  F_l_some_tick : Fun K "_law_some_tick" "_law_some_tick" s_l_some_tick a.f_l_some_tick a.d_l_some_tick
  m_l_some_tick : mg "_law_some_tick" = some (.ref a.f_l_some_tick)
  F_l_text : Fun K "_law_text" "_law_text" s_l_text a.f_l_text a.d_l_text
  m_l_text : mg "_law_text" = some (.ref a.f_l_text)
  F_holding : Fun K "holding" "holding" s_holding a.f_holding a.d_holding
  m_holding : mg "holding" = some (.ref a.f_holding)
  F_boxes : Fun K "boxes" "boxes" s_boxes a.f_boxes a.d_boxes
  m_boxes : mg "boxes" = some (.ref a.f_boxes)
  F_check_robot : Fun K "check_robot" "check_robot" s_check_robot a.f_check_robot a.d_check_robot
  m_check_robot : mg "check_robot" = some (.ref a.f_check_robot)
  F_Story_count : Fun K "count" "Story.count" s_Story_count a.f_Story_count a.d_Story_count
  M_Story_count : Meth K a.C_Story "count" a.f_Story_count
  F_count_done : Fun K "count_done" "count_done" s_count_done a.f_count_done a.d_count_done
  m_count_done : mg "count_done" = some (.ref a.f_count_done)
  F_law : Fun K "law" "law" s_law a.f_law a.d_law
  m_law : mg "law" = some (.ref a.f_law)
  ce_count_done : a.d_count_done.code = .ref a.cc_count_done
  tnd : [a.tb_count_done].Nodup
  m_Token : mg "Token" = some (.ref a.C_Token)
  cl_Token : Cls K a.C_Token
  mk_Token : Mk K a.C_Token a.f_Token_init
  n_Token_kind : NoAttr K a.C_Token "kind"
  n_Token_text : NoAttr K a.C_Token "text"
  n_Token_line : NoAttr K a.C_Token "line"
  n_Token_column : NoAttr K a.C_Token "column"
  m_Robot : mg "Robot" = some (.ref a.C_Robot)
  cl_Robot : Cls K a.C_Robot
  mk_Robot : Mk K a.C_Robot a.f_Robot_init
  n_Robot_start : NoAttr K a.C_Robot "start"
  n_Robot_steps : NoAttr K a.C_Robot "steps"
  n_Robot_names : NoAttr K a.C_Robot "names"
  m_Plan : mg "Plan" = some (.ref a.C_Plan)
  cl_Plan : Cls K a.C_Plan
  mk_Plan : Mk K a.C_Plan a.f_Plan_init
  n_Plan_shelf : NoAttr K a.C_Plan "shelf"
  n_Plan_robots : NoAttr K a.C_Plan "robots"
  m_Parser : mg "Parser" = some (.ref a.C_Parser)
  cl_Parser : Cls K a.C_Parser
  mk_Parser : Mk K a.C_Parser a.f_Parser_init
  n_Parser_tokens : NoAttr K a.C_Parser "tokens"
  n_Parser_at : NoAttr K a.C_Parser "at"
  n_Parser_faults : NoAttr K a.C_Parser "faults"
  m_State : mg "State" = some (.ref a.C_State)
  cl_State : Cls K a.C_State
  mk_State : Mk K a.C_State a.f_State_init
  n_State_cells : NoAttr K a.C_State "cells"
  n_State_nexts : NoAttr K a.C_State "nexts"
  n_State_holds : NoAttr K a.C_State "holds"
  n_State_shelf : NoAttr K a.C_State "shelf"
  m_Tick : mg "Tick" = some (.ref a.C_Tick)
  cl_Tick : Cls K a.C_Tick
  mk_Tick : Mk K a.C_Tick a.f_Tick_init
  n_Tick_words : NoAttr K a.C_Tick "words"
  n_Tick_state : NoAttr K a.C_Tick "state"
  m_Story : mg "Story" = some (.ref a.C_Story)
  cl_Story : Cls K a.C_Story
  mk_Story : Mk K a.C_Story a.f_Story_init
  n_Story_ticks : NoAttr K a.C_Story "ticks"
  n_Story_start : NoAttr K a.C_Story "start"
  z_len : mg "len" = none
  z_abs : mg "abs" = none
  z_range : mg "range" = none
  z_str : mg "str" = none
  z_int : mg "int" = none
  z_tuple : mg "tuple" = none
  z_list : mg "list" = none
  z_sum : mg "sum" = none
  z_isinstance : mg "isinstance" = none
  z_bool : mg "bool" = none
  z_enumerate : mg "enumerate" = none
  z_zip : mg "zip" = none
  z_min : mg "min" = none
  z_all : mg "all" = none
  z_divmod : mg "divmod" = none
  z_max : mg "max" = none
  z_dict : mg "dict" = none
  z_sorted : mg "sorted" = none
  c_MOVES : mg "MOVES" = some (.ref a.A_MOVES)
  q_MOVES : ∀ H, SqT K H a.A_MOVES (([(Str.ofString "left"), (Str.ofString "right"), (Str.ofString "pick"), (Str.ofString "put"), (Str.ofString "wait")] : List Str).map V.str)
  k_MOVES : ∃ o, K.lookup a.A_MOVES = some o ∧ o.cls = .type "tuple" ∧ o.dict = none
  c_JUMPS : mg "JUMPS" = some (.ref a.A_JUMPS)
  q_JUMPS : ∀ H, SqT K H a.A_JUMPS (([(Str.ofString "goto"), (Str.ofString "empty"), (Str.ofString "held")] : List Str).map V.str)
  k_JUMPS : ∃ o, K.lookup a.A_JUMPS = some o ∧ o.cls = .type "tuple" ∧ o.dict = none
  c_KEYWORDS : mg "KEYWORDS" = some (.ref a.A_KEYWORDS)
  q_KEYWORDS : ∀ H, SqT K H a.A_KEYWORDS (([(Str.ofString "shelf"), (Str.ofString "robot"), (Str.ofString "left"), (Str.ofString "right"), (Str.ofString "pick"), (Str.ofString "put"), (Str.ofString "wait"), (Str.ofString "goto"), (Str.ofString "empty"), (Str.ofString "held")] : List Str).map V.str)
  k_KEYWORDS : ∃ o, K.lookup a.A_KEYWORDS = some o ∧ o.cls = .type "tuple" ∧ o.dict = none
  c_LETTERS : mg "LETTERS" = some (.str (Str.ofString "abcdefghijklmnopqrstuvwxyz") a.t_LETTERS)
  c_DIGITS : mg "DIGITS" = some (.str (Str.ofString "0123456789") a.t_DIGITS)
  c_SPACES : mg "SPACES" = some (.str (Str.ofString " \n") a.t_SPACES)
  c_SIGNS : mg "SIGNS" = some (.str (Str.ofString ";:{}") a.t_SIGNS)
  c_MAX_LETTERS : mg "MAX_LETTERS" = some (.int 8 a.t_MAX_LETTERS)
  c_MAX_DIGITS : mg "MAX_DIGITS" = some (.int 2 a.t_MAX_DIGITS)
  c_NAME : mg "NAME" = some (.str (Str.ofString "name") a.t_NAME)
  c_NUMBER : mg "NUMBER" = some (.str (Str.ofString "number") a.t_NUMBER)
  c_KEYWORD : mg "KEYWORD" = some (.str (Str.ofString "keyword") a.t_KEYWORD)
  c_SIGN : mg "SIGN" = some (.str (Str.ofString "sign") a.t_SIGN)
  c_END : mg "END" = some (.str (Str.ofString "end") a.t_END)
  c_MIN_CELLS : mg "MIN_CELLS" = some (.int 3 a.t_MIN_CELLS)
  c_MAX_CELLS : mg "MAX_CELLS" = some (.int 12 a.t_MAX_CELLS)
  c_MAX_BOXES : mg "MAX_BOXES" = some (.int 3 a.t_MAX_BOXES)
  c_MAX_STEPS : mg "MAX_STEPS" = some (.int 20 a.t_MAX_STEPS)
  c_MAX_TICK : mg "MAX_TICK" = some (.int 1000000000000000000 a.t_MAX_TICK)
  c_MAX_STATES : mg "MAX_STATES" = some (.int 20000 a.t_MAX_STATES)
  c_MAX_TRACE : mg "MAX_TRACE" = some (.int 500 a.t_MAX_TRACE)
  c_BLOCKED : mg "BLOCKED" = some (.str (Str.ofString "blocked") a.t_BLOCKED)
structure Tbl (mg : Str → Option Value) (base : Heap) (a : Ad) : Prop where
  t_count_done : LamX.TabB base mg a.cc_count_done a.tb_count_done
def Ts (a : Ad) : List (Addr × Str) := [(a.tb_count_done, Str.ofString "count_done" ++ ".<locals>." ++ "<lambda>")]
def tbs (a : Ad) : List Addr := [a.tb_count_done]
def lam_count_done : Expr := lamArg s_count_done
section
variable {K : PySem.W.Frag} {mg : Str → Option Value} {a : Ad}
theorem b_l_random (T : Txt K mg a) : Binds K a.d_l_random ["_law_script", "_law_salt"] [] := T.F_l_random.binds fun _ _ _ _ _ _ us hl => match us, hl with | [_, _], _ => rfl
theorem b_l_below (T : Txt K mg a) : Binds K a.d_l_below ["_law_d", "_law_limit"] [] := T.F_l_below.binds fun _ _ _ _ _ _ us hl => match us, hl with | [_, _], _ => rfl
theorem b_l_empty (T : Txt K mg a) : Binds K a.d_l_empty ["_law_plan_here"] [] := T.F_l_empty.binds fun _ _ _ _ _ _ us hl => match us, hl with | [_], _ => rfl
theorem b_l_act (T : Txt K mg a) : Binds K a.d_l_act ["_law_plan_here", "_law_state", "_law_number"] [] := T.F_l_act.binds fun _ _ _ _ _ _ us hl => match us, hl with | [_, _, _], _ => rfl
theorem b_l_tick (T : Txt K mg a) : Binds K a.d_l_tick ["_law_plan_here", "_law_state"] [] := T.F_l_tick.binds fun _ _ _ _ _ _ us hl => match us, hl with | [_, _], _ => rfl
theorem b_l_repeats (T : Txt K mg a) : Binds K a.d_l_repeats ["_law_plan_here"] [] := T.F_l_repeats.binds fun _ _ _ _ _ _ us hl => match us, hl with | [_], _ => rfl
theorem b_l_steps (T : Txt K mg a) : Binds K a.d_l_steps ["_law_d", "_law_most"] [] := T.F_l_steps.binds fun _ _ _ _ _ _ us hl => match us, hl with | [_, _], _ => rfl
theorem b_l_plan (T : Txt K mg a) : Binds K a.d_l_plan ["_law_d", "_law_most"] [] := T.F_l_plan.binds fun _ _ _ _ _ _ us hl => match us, hl with | [_, _], _ => rfl
theorem b_Parser_peek (T : Txt K mg a) : Binds K a.d_Parser_peek ["self"] [] := T.F_Parser_peek.binds fun _ _ _ _ _ _ us hl => match us, hl with | [_], _ => rfl
theorem b_Token_init (T : Txt K mg a) : Binds K a.d_Token_init ["self", "kind", "text", "line", "column"] [] := T.F_Token_init.binds fun _ _ _ _ _ _ us hl => match us, hl with | [_, _, _, _, _], _ => rfl
theorem b_Robot_init (T : Txt K mg a) : Binds K a.d_Robot_init ["self", "start", "steps", "names"] [] := T.F_Robot_init.binds fun _ _ _ _ _ _ us hl => match us, hl with | [_, _, _, _], _ => rfl
theorem b_Plan_init (T : Txt K mg a) : Binds K a.d_Plan_init ["self", "shelf", "robots"] [] := T.F_Plan_init.binds fun _ _ _ _ _ _ us hl => match us, hl with | [_, _, _], _ => rfl
theorem b_Parser_init (T : Txt K mg a) : Binds K a.d_Parser_init ["self", "tokens"] [] := T.F_Parser_init.binds fun _ _ _ _ _ _ us hl => match us, hl with | [_, _], _ => rfl
theorem b_is_int_in (T : Txt K mg a) : Binds K a.d_is_int_in ["value", "low", "high"] [] := T.F_is_int_in.binds fun _ _ _ _ _ _ us hl => match us, hl with | [_, _, _], _ => rfl
theorem b_check_tick (T : Txt K mg a) : Binds K a.d_check_tick ["tick"] [] := T.F_check_tick.binds fun _ _ _ _ _ _ us hl => match us, hl with | [_], _ => rfl
theorem b_Story_size (T : Txt K mg a) : Binds K a.d_Story_size ["self"] [] := T.F_Story_size.binds fun _ _ _ _ _ _ us hl => match us, hl with | [_], _ => rfl
theorem b_Story_happens (T : Txt K mg a) : Binds K a.d_Story_happens ["self", "tick"] [] := T.F_Story_happens.binds fun _ _ _ _ _ _ us hl => match us, hl with | [_, _], _ => rfl
theorem b_first_state (T : Txt K mg a) : Binds K a.d_first_state ["parsed"] [] := T.F_first_state.binds fun _ _ _ _ _ _ us hl => match us, hl with | [_], _ => rfl
theorem b_State_key (T : Txt K mg a) : Binds K a.d_State_key ["self"] [] := T.F_State_key.binds fun _ _ _ _ _ _ us hl => match us, hl with | [_], _ => rfl
theorem b_replaced (T : Txt K mg a) : Binds K a.d_replaced ["values", "place", "value"] [] := T.F_replaced.binds fun _ _ _ _ _ _ us hl => match us, hl with | [_, _, _], _ => rfl
theorem b_act (T : Txt K mg a) : Binds K a.d_act ["parsed", "state", "number"] [] := T.F_act.binds fun _ _ _ _ _ _ us hl => match us, hl with | [_, _, _], _ => rfl
theorem b_Tick_init (T : Txt K mg a) : Binds K a.d_Tick_init ["self", "words", "state"] [] := T.F_Tick_init.binds fun _ _ _ _ _ _ us hl => match us, hl with | [_, _, _], _ => rfl
theorem b_next_tick (T : Txt K mg a) : Binds K a.d_next_tick ["parsed", "state"] [] := T.F_next_tick.binds fun _ _ _ _ _ _ us hl => match us, hl with | [_, _], _ => rfl
theorem b_Story_init (T : Txt K mg a) : Binds K a.d_Story_init ["self", "parsed"] [] := T.F_Story_init.binds fun _ _ _ _ _ _ us hl => match us, hl with | [_, _], _ => rfl
theorem b_cells (T : Txt K mg a) : Binds K a.d_cells ["plan", "tick"] [] := T.F_cells.binds fun _ _ _ _ _ _ us hl => match us, hl with | [_, _], _ => rfl
theorem b_State_init (T : Txt K mg a) : Binds K a.d_State_init ["self", "cells", "nexts", "holds", "shelf"] [] := T.F_State_init.binds fun _ _ _ _ _ _ us hl => match us, hl with | [_, _, _, _, _], _ => rfl
theorem b_Parser_fail (T : Txt K mg a) : Binds K a.d_Parser_fail ["self"] [] := T.F_Parser_fail.binds fun _ _ _ _ _ _ us hl => match us, hl with | [_], _ => rfl
theorem b_Parser_take_word (T : Txt K mg a) : Binds K a.d_Parser_take_word ["self", "word"] [] := T.F_Parser_take_word.binds fun _ _ _ _ _ _ us hl => match us, hl with | [_, _], _ => rfl
theorem b_Parser_take (T : Txt K mg a) : Binds K a.d_Parser_take ["self", "kind"] [] := T.F_Parser_take.binds fun _ _ _ _ _ _ us hl => match us, hl with | [_, _], _ => rfl
theorem b_Parser_found (T : Txt K mg a) : Binds K a.d_Parser_found ["self", "reason", "token"] [] := T.F_Parser_found.binds fun _ _ _ _ _ _ us hl => match us, hl with | [_, _, _], _ => rfl
theorem b_Parser_parse_shelf (T : Txt K mg a) : Binds K a.d_Parser_parse_shelf ["self"] [] := T.F_Parser_parse_shelf.binds fun _ _ _ _ _ _ us hl => match us, hl with | [_], _ => rfl
theorem b_Parser_parse_step (T : Txt K mg a) : Binds K a.d_Parser_parse_step ["self", "names", "jumps"] [] := T.F_Parser_parse_step.binds fun _ _ _ _ _ _ us hl => match us, hl with | [_, _, _], _ => rfl
theorem b_Parser_parse_robot (T : Txt K mg a) : Binds K a.d_Parser_parse_robot ["self", "cells", "others"] [] := T.F_Parser_parse_robot.binds fun _ _ _ _ _ _ us hl => match us, hl with | [_, _, _], _ => rfl
theorem b_Parser_parse_plan (T : Txt K mg a) : Binds K a.d_Parser_parse_plan ["self"] [] := T.F_Parser_parse_plan.binds fun _ _ _ _ _ _ us hl => match us, hl with | [_], _ => rfl
theorem b_run_end (T : Txt K mg a) : Binds K a.d_run_end ["row", "start", "letters"] [] := T.F_run_end.binds fun _ _ _ _ _ _ us hl => match us, hl with | [_, _, _], _ => rfl
theorem b_read_token (T : Txt K mg a) : Binds K a.d_read_token ["row", "line", "column"] [] := T.F_read_token.binds fun _ _ _ _ _ _ us hl => match us, hl with | [_, _, _], _ => rfl
theorem b_tokenize (T : Txt K mg a) : Binds K a.d_tokenize ["source"] [] := T.F_tokenize.binds fun _ _ _ _ _ _ us hl => match us, hl with | [_], _ => rfl
theorem b_load (T : Txt K mg a) : Binds K a.d_load ["plan"] [] := T.F_load.binds fun _ _ _ _ _ _ us hl => match us, hl with | [_], _ => rfl
theorem b_trace (T : Txt K mg a) : Binds K a.d_trace ["plan", "first", "last"] [] := T.F_trace.binds fun _ _ _ _ _ _ us hl => match us, hl with | [_, _, _], _ => rfl
theorem b_l_some_tick (T : Txt K mg a) : Binds K a.d_l_some_tick ["_law_d"] [] := T.F_l_some_tick.binds fun _ _ _ _ _ _ us hl => match us, hl with | [_], _ => rfl
theorem b_l_text (T : Txt K mg a) : Binds K a.d_l_text ["_law_plan_here"] [] := T.F_l_text.binds fun _ _ _ _ _ _ us hl => match us, hl with | [_], _ => rfl
theorem b_holding (T : Txt K mg a) : Binds K a.d_holding ["plan", "tick"] [] := T.F_holding.binds fun _ _ _ _ _ _ us hl => match us, hl with | [_, _], _ => rfl
theorem b_boxes (T : Txt K mg a) : Binds K a.d_boxes ["plan", "tick"] [] := T.F_boxes.binds fun _ _ _ _ _ _ us hl => match us, hl with | [_, _], _ => rfl
theorem b_check_robot (T : Txt K mg a) : Binds K a.d_check_robot ["number"] [] := T.F_check_robot.binds fun _ _ _ _ _ _ us hl => match us, hl with | [_], _ => rfl
theorem b_Story_count (T : Txt K mg a) : Binds K a.d_Story_count ["self", "ticks", "measure"] [] := T.F_Story_count.binds fun _ _ _ _ _ _ us hl => match us, hl with | [_, _, _], _ => rfl
theorem b_count_done (T : Txt K mg a) : Binds K a.d_count_done ["plan", "number", "word", "ticks"] [] := T.F_count_done.binds fun _ _ _ _ _ _ us hl => match us, hl with | [_, _, _, _], _ => rfl
end
end Sb


namespace SbH
open PySem PySem.Spec PyProof.Rows L2
/-- what an object names, its class's mro without itself -/
def refsY (o : Obj) : List Addr := (match o.dict with
  | some d => [d]
  | none => []) ++ (match o.data with
  | .seq its _ => its.toList.flatMap He.refV
  | .dict es _ => es.toList.flatMap fun e => He.refV e.val
  | .func fd => He.refV fd.code ++ He.refV fd.defaults ++ He.refV fd.kwdefaults ++ fd.closure.map (·.2)
  | .cls cd => cd.ns :: (cd.mro.drop 1).flatMap He.refV
  | .fields vs => vs.toList.flatMap He.refV
  | .cell (some v) => He.refV v
  | _ => [])
def refsA (g : Addr → Option Obj) (a : Addr) : List Addr := match g a with
  | some o => refsY o
  | none => []
/-- what is reached, level by level -/
def levY (g : Addr → Option Obj) : Nat → List Addr → List Addr
  | 0, l => l
  | n + 1, l => l ++ levY g n ((l.flatMap (refsA g)).eraseDups)
def asY (g : Addr → Option Obj) (n : Nat) : List Addr := levY g n [mainGlobals] ++ [cStatics]
abbrev AlY : Type := Bool × List He5.FnW × List (Option (List (Option (Str × Int))))
def obsK (fa : List He.Fa) (fn : List He5.DefA) (ts : List He.Tab) (tf : List He.Defn) (ex : PySem.W.Frag → Bool) (g : Addr → Option Obj) (K : PySem.W.Frag) : AlY :=
  ((fa.all fun f => f.ok K) && ((fn.all fun d => d.ok K) && (ex K && He.tabsB g tf K)), fn.map (fun d => He5.fnA K (d.at_ K)), ts.map fun t => He.dicW K (t.1 K))
def obsY (n : Nat) (fa : List He.Fa) (fn : List He5.DefA) (ts : List He.Tab) (tf : List He.Defn) (ex : PySem.W.Frag → Bool) (g : Addr → Option Obj) : AlY := obsK fa fn ts tf ex g (He.frT g (asY g n))
def valY (fn : List He5.DefA) (ts : List He.Tab) (w : World) : AlY := (true, fn.map He5.DefA.val, ts.map fun t => some (He.keysIn w.params t.2))
structure SaysY (fa : List He.Fa) (fn : List He5.DefA) (ts : List He.Tab) (tf : List He.Defn) (ex : PySem.W.Frag → Bool) (w : World) (h : Heap) (K : PySem.W.Frag) : Prop where
  fact : ∀ f ∈ fa, f.ok K = true
  defs : ∀ d ∈ fn, ∃ fd, L2.FunD K d.name d.qual d.params d.body d.scope (d.dvs K) (d.kws K) (d.at_ K) fd
  more : ex K = true
  dic : ∀ t ∈ ts, He.dicW K (t.1 K) = some (He.keysIn w.params t.2)
  hd : ∀ p ∈ tf, PySem.W.codeHdIn K (He.cT K p).1 (He.cT K p).2 = true
  out : ∀ p ∈ tf, K.lookup (He.cT K p).2 = none
  empty : ∀ p ∈ tf, h.get? (He.cT K p).2 = some { cls := .none, data := .fields #[] }
theorem map_eq_at {α β : Type} {f g : α → β} {l : List α} (h : l.map f = l.map g) : ∀ x ∈ l, f x = g x := by
  induction l with
  | nil => intro x hx; cases hx
  | cons a r ih =>
    injection h with h1 h2
    intro x hx
    rcases List.mem_cons.mp hx with rfl | hx
    · exact h1
    · exact ih h2 x hx
theorem saysY_of {n : Nat} {fa : List He.Fa} {fn : List He5.DefA} {ts : List He.Tab} {tf : List He.Defn} {ex : PySem.W.Frag → Bool} {w : World} {h : Heap} (e : obsY n fa fn ts tf ex h.get? = valY fn ts w) : SaysY fa fn ts tf ex w h (He.frT h.get? (asY h.get? n)) := by
  generalize hK : He.frT h.get? (asY h.get? n) = K at *
  have e0 : obsK fa fn ts tf ex h.get? K = valY fn ts w := by rw [← hK]; exact e
  have e1 : ((fa.all fun f => f.ok K) && ((fn.all fun d => d.ok K) && (ex K && He.tabsB h.get? tf K))) = true := congrArg (fun z : AlY => z.1) e0
  have e2 : fn.map (fun d => He5.fnA K (d.at_ K)) = fn.map He5.DefA.val := congrArg (fun z : AlY => z.2.1) e0
  have e3 : (ts.map fun t => He.dicW K (t.1 K)) = ts.map fun t => some (He.keysIn w.params t.2) := congrArg (fun z : AlY => z.2.2) e0
  obtain ⟨h1, h2⟩ := He.ba e1
  obtain ⟨h3, h4⟩ := He.ba h2
  obtain ⟨h5, h6⟩ := He.ba h4
  have key : ∀ p ∈ tf, PySem.W.codeHdIn K (He.cT K p).1 (He.cT K p).2 = true ∧ ∃ o, h.get? (He.cT K p).2 = some o ∧ He.emptyTab o = true := fun p hp => by
    obtain ⟨h7, h8⟩ := He.ba (List.all_eq_true.mp h6 p hp)
    refine ⟨h7, ?_⟩
    cases q : h.get? (He.cT K p).2 with
    | none => rw [q] at h8; cases h8
    | some o => rw [q] at h8; exact ⟨o, rfl, h8⟩
  refine ⟨fun f hf => List.all_eq_true.mp h1 f hf, fun d hd => He5.DefA.funD (map_eq_at e2 d hd) (List.all_eq_true.mp h3 d hd), h5, fun t ht => map_eq_at e3 t ht, fun p hp => (key p hp).1, fun p hp => ?_, fun p hp => ?_⟩
  · obtain ⟨_, o, q, z⟩ := key p hp
    rw [← hK] at q ⊢
    exact He.frT_none q z
  · obtain ⟨_, o, q, z⟩ := key p hp
    rw [q, He.emptyTab_eq z]
def hookY (n : Nat) (fa : List He.Fa) (fn : List He5.DefA) (ts : List He.Tab) (tf : List He.Defn) (ex : PySem.W.Frag → Bool) : PySem.W.Hook where
  α := AlY
  obs := fun s => obsY n fa fn ts tf ex s.heap.get?
  val := fun w => valY fn ts w
  says := fun w h => ∃ K : PySem.W.Frag, K.In h ∧ SaysY fa fn ts tf ex w h K
  of := fun _ _ e => ⟨_, He.frT_in, saysY_of e⟩
  keeps := fun _ _ _ ⟨K, hK, c⟩ k => ⟨K, PySem.W.Frag.In.keeps hK k, ⟨c.fact, c.defs, c.more, c.dic, c.hd, c.out, fun p hp => k _ _ (c.empty p hp)⟩⟩
theorem obsY_eq {n : Nat} {fa : List He.Fa} {fn : List He5.DefA} {ts : List He.Tab} {tf : List He.Defn} {ex : PySem.W.Frag → Bool} {g : Addr → Option Obj} {s : Shared} (h : ∀ a, g a = s.heap.get? a) : obsY n fa fn ts tf ex g = (hookY n fa fn ts tf ex).obs s := by
  have e : g = s.heap.get? := funext h
  rw [e] <;> rfl
/-! ### a classmethod -/
/-- C.__init__ read off the class C is ValueError's -/
def cinB (K : PySem.W.Frag) (C : Addr) : Bool := match PySem.W.findCls K (.ref C) (.type "type") "__init__" with
  | some (.val v) => v == .builtin "ValueError.__init__"
  | _ => false
theorem cinB_ok {K : PySem.W.Frag} {C : Addr} (q : cinB K C = true) : PySem.W.findCls K (.ref C) (.type "type") "__init__" = some (.val (.builtin "ValueError.__init__")) := by
  unfold cinB at q
  split at q
  · rename_i v e
    rw [e, eq_of_beq q]
  · cases q
/-- an exception class over ValueError that has an __init__ of its own -/
def oexB (K : PySem.W.Frag) (C : Addr) : Bool := match K.lookup C with
  | some ⟨.type "type", _, .cls cd, sl⟩ => (match cd.mro, sl.toList with
    | .ref C' :: bm, [_, _, _, _, some (.builtin n), _] => C' == C && n == "ValueError.__new__" && !cd.hasDel && cd.hasDict && PySem.HandSPX.refsVE bm
    | _, _ => false)
  | _ => false
theorem oexB_ok {K : PySem.W.Frag} {C : Addr} (q : oexB K C = true) : ∃ nm q N bs bm sn sub ab col dd k0 k1 k2 k3 k5, K.lookup C = some (excClassObj nm q C N bs bm true sn sub ab col dd k0 k1 k2 k3 k5 "ValueError.__new__") ∧ PySem.HandSPX.refsVE bm = true := by
  unfold oexB at q
  split at q
  · rename_i dd cd sl ho
    split at q
    · rename_i C' bm k0 k1 k2 k3 n k5 hm hs
      simp only [Bool.and_eq_true, beq_iff_eq, Bool.not_eq_true'] at q
      obtain ⟨⟨⟨⟨rfl, rfl⟩, hdel⟩, hdi⟩, ht⟩ := q
      obtain ⟨nm, bs, mro, ns, qn, hd, sn, sub, ab, col, del⟩ := cd
      dsimp only at hm hdel hdi
      subst hm hdel hdi
      have hsl : sl = #[k0, k1, k2, k3, some (.builtin "ValueError.__new__"), k5] := by
        obtain ⟨l⟩ := sl
        simp only at hs
        rw [hs]
      subst hsl
      exact ⟨_, _, _, _, _, _, _, _, _, _, _, _, _, _, _, ho, ht⟩
    · cases q
  · cases q
def cmB (K : PySem.W.Frag) (C f : Str) : Bool := (He5.wrapB K (He.ga K C) "classmethod" "classmethod.__get__" f && PySem.W.fnIn K (He5.wf K (He.ga K C) "classmethod" f)) && (PySem.W.readsIn K (He.ga K C) (.type "type") && He.eqO (PySem.W.specialIn K (.ref (He.ga K C)) "__getattribute__") (some (some (.builtin "type.__getattribute__"))))
theorem cmB_ok {K : PySem.W.Frag} {C f : Str} (c : cmB K C f = true) : ClX.CMet K (He.ga K C) (.type "type") f (He.ma K (He.ga K C) f) (He5.wf K (He.ga K C) "classmethod" f) ∧ ClX.CRead K (He.ga K C) (.type "type") := by
  obtain ⟨c1, c2⟩ := He.ba c
  obtain ⟨c3, c4⟩ := He.ba c1
  obtain ⟨c5, c6⟩ := He.ba c2
  exact ⟨He5.cmet_of c3 c4, ⟨c5, He.eqO_ok c6⟩⟩
/-! ### the run in pieces: each piece is one declaration's memory -/
abbrev KT (n : Nat) (s : PySem.W.SharedT) : PySem.W.Frag := He.frT (HandSHeadRun.getT s) (asY (HandSHeadRun.getT s) n)
theorem run_join {σ : Type} {n : Nat} {fa : List He.Fa} {fn : List He5.DefA} {ts : List He.Tab} {tf : List He.Defn} {ex : PySem.W.Frag → Bool} {w : World} {o : Option PySem.W.SharedT} {L : PySem.W.SharedT → Bool} {S : PySem.W.SharedT → σ} {og : σ}
    (h0 : o.map (fun s => (L s, S s, fa.all fun f => f.ok (KT n s))) = some (true, og, true))
    (h1 : o.map (fun s => (fn.all fun d => d.ok (KT n s), fn.map fun d => He5.fnA (KT n s) (d.at_ (KT n s)), ex (KT n s) && He.tabsB (HandSHeadRun.getT s) tf (KT n s), ts.map fun t => He.dicW (KT n s) (t.1 (KT n s)))) = some (true, fn.map He5.DefA.val, true, ts.map fun t => some (He.keysIn w.params t.2))) :
    o.map (fun s => (L s, S s, obsY n fa fn ts tf ex (HandSHeadRun.getT s))) = some (true, og, valY fn ts w) := by
  cases o with
  | none => cases h0
  | some s =>
    have e0 := Option.some.inj h0
    have e1 := Option.some.inj h1
    have a1 := congrArg (fun z => z.1) e0
    have a2 := congrArg (fun z => z.2.1) e0
    have a3 := congrArg (fun z => z.2.2) e0
    have b1 := congrArg (fun z => z.1) e1
    have b2 := congrArg (fun z => z.2.1) e1
    have b3 := congrArg (fun z => z.2.2.1) e1
    have b4 := congrArg (fun z => z.2.2.2) e1
    dsimp only at a1 a2 a3 b1 b2 b3 b4
    show some (L s, S s, (fa.all fun f => f.ok (KT n s)) && ((fn.all fun d => d.ok (KT n s)) && (ex (KT n s) && He.tabsB (HandSHeadRun.getT s) tf (KT n s))), fn.map (fun d => He5.fnA (KT n s) (d.at_ (KT n s))), ts.map fun t => He.dicW (KT n s) (t.1 (KT n s))) = some (true, og, true, fn.map He5.DefA.val, ts.map fun t => some (He.keysIn w.params t.2))
    rw [a1, a2, a3, b1, b2, b3, b4]
    rfl
section
variable {fa : List He.Fa} {fn : List He5.DefA} {ts : List He.Tab} {tf : List He.Defn} {ex : PySem.W.Frag → Bool} {w : World} {h : Heap} {K : PySem.W.Frag}
theorem SaysY.at_ (c : SaysY fa fn ts tf ex w h K) (i : Nat) {f : He.Fa} (e : fa[i]? = some f) : f.ok K = true := c.fact f (List.mem_of_getElem? e)
theorem SaysY.def_ (c : SaysY fa fn ts tf ex w h K) (i : Nat) {d : He5.DefA} (e : fn[i]? = some d) : ∃ fd, L2.FunD K d.name d.qual d.params d.body d.scope (d.dvs K) (d.kws K) (d.at_ K) fd := c.defs d (List.mem_of_getElem? e)
/-! properties -/
def propG (K : PySem.W.Frag) (C f : Str) : Addr := match PySem.W.recIn K (He.ma K (He.ga K C) f) "property" with
  | some (.ref g :: _) => g
  | _ => 0
def propB (K : PySem.W.Frag) (C f : Str) : Bool := He.eqO (PySem.W.findIn K (.ref (He.ga K C)) f) (some (some (.ref (He.ma K (He.ga K C) f)))) && (He.eqO (PySem.W.specialIn K (.ref (He.ma K (He.ga K C) f)) "__get__") (some (some (.builtin "property.__get__"))) && (decide (PySem.W.takesIn K (.ref (He.ma K (He.ga K C) f)) = some true) && (match PySem.W.recIn K (He.ma K (He.ga K C) f) "property" with
  | some (.ref _ :: _) => true
  | _ => false)))
theorem propB_ok {C f : Str} (c : propB K C f = true) : PropOf K (He.ga K C) f (He.ma K (He.ga K C) f) (propG K C f) := by
  obtain ⟨h1, h2⟩ := He.ba c
  obtain ⟨h3, h4⟩ := He.ba h2
  obtain ⟨h5, h6⟩ := He.ba h4
  refine ⟨He.eqO_ok h1, He.eqO_ok h3, of_decide_eq_true h5, ?_⟩
  unfold propG
  cases q : PySem.W.recIn K (He.ma K (He.ga K C) f) "property" with
  | none => rw [q] at h6; cases h6
  | some l =>
    rw [q] at h6
    cases l with
    | nil => cases h6
    | cons v r =>
      cases v with
      | ref g => exact ⟨r, rfl⟩
      | _ => cases h6
/-! tuples of texts -/
def strOfV : Value → Option Str
  | .str x _ => some x
  | _ => none
def tupB (K : PySem.W.Frag) (x : Str) (l : List Str) : Bool := match K.lookup (He.ga K x) with
  | some ⟨.type c, none, .seq its _, _⟩ => decide (c = "tuple") && decide (its.toList.map strOfV = l.map some)
  | _ => false
theorem vals_of : ∀ {us : List Value} {l : List Str}, us.map strOfV = l.map some → Vals (l.map V.str) us
  | [], [], _ => .nil
  | [], _ :: _, h => by cases h
  | _ :: _, [], h => by cases h
  | u :: us, x :: l, h => by
    have h1 : strOfV u :: us.map strOfV = some x :: l.map some := h
    injection h1 with h2 h3
    refine .cons ?_ (vals_of h3)
    cases u with
    | str y t => cases h2; exact ⟨t, rfl⟩
    | _ => cases h2
theorem tupB_ok {x : Str} {l : List Str} (c : tupB K x l = true) (hl : l.length ≤ 1000) : (∀ H, SqT K H (He.ga K x) (l.map V.str)) ∧ ∃ o, K.lookup (He.ga K x) = some o ∧ o.cls = .type "tuple" ∧ o.dict = none := by
  unfold tupB at c
  cases q : K.lookup (He.ga K x) with
  | none => rw [q] at c; cases c
  | some o =>
    obtain ⟨oc, od, dt, sl⟩ := o
    rw [q] at c
    cases oc with
    | type cn =>
      cases od with
      | none =>
        cases dt with
        | seq its n =>
          obtain ⟨c1, c2⟩ := He.ba (show (decide (cn = "tuple") && decide (its.toList.map strOfV = l.map some)) = true from c)
          have e1 : cn = "tuple" := of_decide_eq_true c1
          have e2 := of_decide_eq_true c2
          subst e1
          have v := vals_of e2
          refine ⟨fun H => .inr ⟨_, _, _, q, rfl, rfl, ?_, v⟩, _, rfl, rfl, rfl⟩
          have := v.length
          rw [List.length_map] at this
          rw [← Array.length_toList, ← this, sizeLine_eq]
          omega
        | _ => cases c
      | some d => cases dt <;> cases c
    | _ => cases od <;> cases dt <;> cases c
theorem code_of {x qual q : Str} {params : Arguments} {body : List Stmt} {scope : Scope} {dvs : List V} {kws : List (Str × V)} {fd : FuncData} (g : FunD K x qual params body scope dvs kws (He.ga K q) fd) : fd.code = .ref (He.cT K (q, none)).1 := by
  obtain ⟨oc, od, dV, kV, doc, pm, an, cdv, ct, osl, e, lk, hc, _⟩ := g.ex
  obtain ⟨c, rfl⟩ := He.codeIn_ref hc
  have e2 : fd.code = .ref c := by rw [e]
  rw [e2]
  have := He.codeOf_eq (p := (q, none)) lk e2
  exact congrArg Value.ref this.symm
theorem dct_of {a : Addr} {es : Array DictEntry} {n : Nat} {z : Str} {v : V} (kd : KDict K w a es n) (h : ∃ u, PySem.W.nsIn K a z = some (some u) ∧ RelV v u) : KDct K w a z v := by
  obtain ⟨u, h1, h2⟩ := h
  exact ⟨es, n, u, kd.at_, kd.lit, h1, h2⟩
theorem dct_sys {a : Addr} {es : Array DictEntry} {n : Nat} (kd : KDict K w a es n) : (a == sysModules) = false := kd.low
end
end SbH

namespace Sb
open PySem PySem.Spec PyProof.Rows L2
def hNm0 : List Str := [(Str.ofString "_wall"), (Str.ofString "BotError"), (Str.ofString "SyntaxFault"), (Str.ofString "CheckFault"), (Str.ofString "InvalidTick"), (Str.ofString "InvalidNumber"), (Str.ofString "TooLong"), (Str.ofString "MOVES"), (Str.ofString "JUMPS"), (Str.ofString "KEYWORDS"), (Str.ofString "LETTERS"), (Str.ofString "DIGITS"), (Str.ofString "SPACES"), (Str.ofString "SIGNS"), (Str.ofString "MAX_LETTERS"), (Str.ofString "MAX_DIGITS"), (Str.ofString "NAME"), (Str.ofString "NUMBER"), (Str.ofString "KEYWORD"), (Str.ofString "SIGN"), (Str.ofString "END"), (Str.ofString "Token"), (Str.ofString "run_end"), (Str.ofString "read_token")]
def hNm1 : List Str := [(Str.ofString "tokenize"), (Str.ofString "MIN_CELLS"), (Str.ofString "MAX_CELLS"), (Str.ofString "MAX_BOXES"), (Str.ofString "MAX_STEPS"), (Str.ofString "Robot"), (Str.ofString "Plan"), (Str.ofString "Parser"), (Str.ofString "load"), (Str.ofString "MAX_TICK"), (Str.ofString "MAX_STATES"), (Str.ofString "MAX_TRACE"), (Str.ofString "BLOCKED"), (Str.ofString "is_int_in"), (Str.ofString "check_tick"), (Str.ofString "State"), (Str.ofString "replaced"), (Str.ofString "first_state"), (Str.ofString "act"), (Str.ofString "Tick"), (Str.ofString "next_tick"), (Str.ofString "Story"), (Str.ofString "cells"), (Str.ofString "boxes")]
def hNm2 : List Str := [(Str.ofString "holding"), (Str.ofString "trace"), (Str.ofString "check_robot"), (Str.ofString "count_done"), (Str.ofString "_law_random"), (Str.ofString "_law_below"), (Str.ofString "_law_steps"), (Str.ofString "_law_empty"), (Str.ofString "_law_act"), (Str.ofString "_law_tick"), (Str.ofString "_law_repeats"), (Str.ofString "_law_plan"), (Str.ofString "_law_text"), (Str.ofString "_law_some_tick")]
def hNm : List Str := hNm0 ++ (hNm1 ++ (hNm2))
def hFaA0 : List He.Fa := [.glo (Str.ofString "_law_random"), .glo (Str.ofString "_law_below"), .glo (Str.ofString "_law_empty"), .glo (Str.ofString "_law_act"), .glo (Str.ofString "_law_tick"), .glo (Str.ofString "_law_repeats"), .glo (Str.ofString "_law_steps"), .glo (Str.ofString "_law_plan"), .meth (Str.ofString "Parser") (Str.ofString "peek"), .glo (Str.ofString "is_int_in"), .glo (Str.ofString "check_tick"), .meth (Str.ofString "Story") (Str.ofString "happens"), .glo (Str.ofString "first_state"), .glo (Str.ofString "replaced"), .glo (Str.ofString "act"), .glo (Str.ofString "next_tick"), .glo (Str.ofString "cells"), .meth (Str.ofString "Parser") (Str.ofString "fail"), .meth (Str.ofString "Parser") (Str.ofString "take_word"), .meth (Str.ofString "Parser") (Str.ofString "take"), .meth (Str.ofString "Parser") (Str.ofString "found"), .meth (Str.ofString "Parser") (Str.ofString "parse_shelf"), .meth (Str.ofString "Parser") (Str.ofString "parse_step"), .meth (Str.ofString "Parser") (Str.ofString "parse_robot")]
def hFaA1 : List He.Fa := [.meth (Str.ofString "Parser") (Str.ofString "parse_plan"), .glo (Str.ofString "run_end"), .glo (Str.ofString "read_token"), .glo (Str.ofString "tokenize"), .glo (Str.ofString "load"), .glo (Str.ofString "trace"), .glo (Str.ofString "_law_some_tick"), .glo (Str.ofString "_law_text"), .glo (Str.ofString "holding"), .glo (Str.ofString "boxes"), .glo (Str.ofString "check_robot"), .meth (Str.ofString "Story") (Str.ofString "count"), .glo (Str.ofString "count_done"), .glo (Str.ofString "law"), .glo (Str.ofString "Token"), .cls (Str.ofString "Token"), .mkr (Str.ofString "Token"), .noat (Str.ofString "Token") (Str.ofString "kind"), .noat (Str.ofString "Token") (Str.ofString "text"), .noat (Str.ofString "Token") (Str.ofString "line"), .noat (Str.ofString "Token") (Str.ofString "column"), .glo (Str.ofString "Robot"), .cls (Str.ofString "Robot"), .mkr (Str.ofString "Robot")]
def hFaA2 : List He.Fa := [.noat (Str.ofString "Robot") (Str.ofString "start"), .noat (Str.ofString "Robot") (Str.ofString "steps"), .noat (Str.ofString "Robot") (Str.ofString "names"), .glo (Str.ofString "Plan"), .cls (Str.ofString "Plan"), .mkr (Str.ofString "Plan"), .noat (Str.ofString "Plan") (Str.ofString "shelf"), .noat (Str.ofString "Plan") (Str.ofString "robots"), .glo (Str.ofString "Parser"), .cls (Str.ofString "Parser"), .mkr (Str.ofString "Parser"), .noat (Str.ofString "Parser") (Str.ofString "tokens")]
def hFaA : List He.Fa := hFaA0 ++ (hFaA1 ++ (hFaA2))
def hFaB0 : List He.Fa := [.noat (Str.ofString "Parser") (Str.ofString "at"), .noat (Str.ofString "Parser") (Str.ofString "faults"), .glo (Str.ofString "State"), .cls (Str.ofString "State"), .mkr (Str.ofString "State"), .noat (Str.ofString "State") (Str.ofString "cells"), .noat (Str.ofString "State") (Str.ofString "nexts"), .noat (Str.ofString "State") (Str.ofString "holds"), .noat (Str.ofString "State") (Str.ofString "shelf"), .glo (Str.ofString "Tick"), .cls (Str.ofString "Tick"), .mkr (Str.ofString "Tick"), .noat (Str.ofString "Tick") (Str.ofString "words"), .noat (Str.ofString "Tick") (Str.ofString "state"), .glo (Str.ofString "Story"), .cls (Str.ofString "Story"), .mkr (Str.ofString "Story"), .noat (Str.ofString "Story") (Str.ofString "ticks"), .noat (Str.ofString "Story") (Str.ofString "start"), .free (Str.ofString "len"), .free (Str.ofString "abs"), .free (Str.ofString "range"), .free (Str.ofString "str"), .free (Str.ofString "int")]
def hFaB1 : List He.Fa := [.free (Str.ofString "tuple"), .free (Str.ofString "list"), .free (Str.ofString "sum"), .free (Str.ofString "isinstance"), .free (Str.ofString "bool"), .free (Str.ofString "enumerate"), .free (Str.ofString "zip"), .free (Str.ofString "min"), .free (Str.ofString "all"), .free (Str.ofString "divmod"), .free (Str.ofString "max"), .free (Str.ofString "dict"), .free (Str.ofString "sorted"), .glo (Str.ofString "MOVES"), .glo (Str.ofString "JUMPS"), .glo (Str.ofString "KEYWORDS"), .str (Str.ofString "LETTERS") (Str.ofString "abcdefghijklmnopqrstuvwxyz"), .str (Str.ofString "DIGITS") (Str.ofString "0123456789"), .str (Str.ofString "SPACES") (Str.ofString " \n"), .str (Str.ofString "SIGNS") (Str.ofString ";:{}"), .int (Str.ofString "MAX_LETTERS") 8, .int (Str.ofString "MAX_DIGITS") 2, .str (Str.ofString "NAME") (Str.ofString "name"), .str (Str.ofString "NUMBER") (Str.ofString "number")]
def hFaB2 : List He.Fa := [.str (Str.ofString "KEYWORD") (Str.ofString "keyword"), .str (Str.ofString "SIGN") (Str.ofString "sign"), .str (Str.ofString "END") (Str.ofString "end"), .int (Str.ofString "MIN_CELLS") 3, .int (Str.ofString "MAX_CELLS") 12, .int (Str.ofString "MAX_BOXES") 3, .int (Str.ofString "MAX_STEPS") 20, .int (Str.ofString "MAX_TICK") 1000000000000000000, .int (Str.ofString "MAX_STATES") 20000, .int (Str.ofString "MAX_TRACE") 500, .str (Str.ofString "BLOCKED") (Str.ofString "blocked")]
def hFaB : List He.Fa := hFaB0 ++ (hFaB1 ++ (hFaB2))
def hFa : List He.Fa := hFaA ++ hFaB
def hFn0 : List He5.DefA := [⟨fun K => (He.ga K (Str.ofString "_law_random")), (Str.ofString "_law_random"), (Str.ofString "_law_random"), defArgs s_l_random, defBody s_l_random, defScope s_l_random, [], []⟩, ⟨fun K => (He.ga K (Str.ofString "_law_below")), (Str.ofString "_law_below"), (Str.ofString "_law_below"), defArgs s_l_below, defBody s_l_below, defScope s_l_below, [], []⟩, ⟨fun K => (He.ga K (Str.ofString "_law_empty")), (Str.ofString "_law_empty"), (Str.ofString "_law_empty"), defArgs s_l_empty, defBody s_l_empty, defScope s_l_empty, [], []⟩, ⟨fun K => (He.ga K (Str.ofString "_law_act")), (Str.ofString "_law_act"), (Str.ofString "_law_act"), defArgs s_l_act, defBody s_l_act, defScope s_l_act, [], []⟩, ⟨fun K => (He.ga K (Str.ofString "_law_tick")), (Str.ofString "_law_tick"), (Str.ofString "_law_tick"), defArgs s_l_tick, defBody s_l_tick, defScope s_l_tick, [], []⟩, ⟨fun K => (He.ga K (Str.ofString "_law_repeats")), (Str.ofString "_law_repeats"), (Str.ofString "_law_repeats"), defArgs s_l_repeats, defBody s_l_repeats, defScope s_l_repeats, [], []⟩, ⟨fun K => (He.ga K (Str.ofString "_law_steps")), (Str.ofString "_law_steps"), (Str.ofString "_law_steps"), defArgs s_l_steps, defBody s_l_steps, defScope s_l_steps, [], []⟩, ⟨fun K => (He.ga K (Str.ofString "_law_plan")), (Str.ofString "_law_plan"), (Str.ofString "_law_plan"), defArgs s_l_plan, defBody s_l_plan, defScope s_l_plan, [], []⟩, ⟨fun K => (He.ma K (He.ga K (Str.ofString "Parser")) (Str.ofString "peek")), (Str.ofString "peek"), (Str.ofString "Parser.peek"), defArgs s_Parser_peek, defBody s_Parser_peek, defScope s_Parser_peek, [], []⟩, ⟨fun K => (He.ma K (He.ga K (Str.ofString "Token")) (Str.ofString "__init__")), (Str.ofString "__init__"), (Str.ofString "Token.__init__"), defArgs s_Token_init, defBody s_Token_init, defScope s_Token_init, [], []⟩, ⟨fun K => (He.ma K (He.ga K (Str.ofString "Robot")) (Str.ofString "__init__")), (Str.ofString "__init__"), (Str.ofString "Robot.__init__"), defArgs s_Robot_init, defBody s_Robot_init, defScope s_Robot_init, [], []⟩, ⟨fun K => (He.ma K (He.ga K (Str.ofString "Plan")) (Str.ofString "__init__")), (Str.ofString "__init__"), (Str.ofString "Plan.__init__"), defArgs s_Plan_init, defBody s_Plan_init, defScope s_Plan_init, [], []⟩]
def hFn1 : List He5.DefA := [⟨fun K => (He.ma K (He.ga K (Str.ofString "Parser")) (Str.ofString "__init__")), (Str.ofString "__init__"), (Str.ofString "Parser.__init__"), defArgs s_Parser_init, defBody s_Parser_init, defScope s_Parser_init, [], []⟩, ⟨fun K => (He.ga K (Str.ofString "is_int_in")), (Str.ofString "is_int_in"), (Str.ofString "is_int_in"), defArgs s_is_int_in, defBody s_is_int_in, defScope s_is_int_in, [], []⟩, ⟨fun K => (He.ga K (Str.ofString "check_tick")), (Str.ofString "check_tick"), (Str.ofString "check_tick"), defArgs s_check_tick, defBody s_check_tick, defScope s_check_tick, [], []⟩, ⟨fun K => (SbH.propG K (Str.ofString "Story") (Str.ofString "size")), (Str.ofString "size"), (Str.ofString "Story.size"), defArgs s_Story_size, defBody s_Story_size, defScope s_Story_size, [], []⟩, ⟨fun K => (He.ma K (He.ga K (Str.ofString "Story")) (Str.ofString "happens")), (Str.ofString "happens"), (Str.ofString "Story.happens"), defArgs s_Story_happens, defBody s_Story_happens, defScope s_Story_happens, [], []⟩, ⟨fun K => (He.ga K (Str.ofString "first_state")), (Str.ofString "first_state"), (Str.ofString "first_state"), defArgs s_first_state, defBody s_first_state, defScope s_first_state, [], []⟩, ⟨fun K => (SbH.propG K (Str.ofString "State") (Str.ofString "key")), (Str.ofString "key"), (Str.ofString "State.key"), defArgs s_State_key, defBody s_State_key, defScope s_State_key, [], []⟩, ⟨fun K => (He.ga K (Str.ofString "replaced")), (Str.ofString "replaced"), (Str.ofString "replaced"), defArgs s_replaced, defBody s_replaced, defScope s_replaced, [], []⟩, ⟨fun K => (He.ga K (Str.ofString "act")), (Str.ofString "act"), (Str.ofString "act"), defArgs s_act, defBody s_act, defScope s_act, [], []⟩, ⟨fun K => (He.ma K (He.ga K (Str.ofString "Tick")) (Str.ofString "__init__")), (Str.ofString "__init__"), (Str.ofString "Tick.__init__"), defArgs s_Tick_init, defBody s_Tick_init, defScope s_Tick_init, [], []⟩, ⟨fun K => (He.ga K (Str.ofString "next_tick")), (Str.ofString "next_tick"), (Str.ofString "next_tick"), defArgs s_next_tick, defBody s_next_tick, defScope s_next_tick, [], []⟩, ⟨fun K => (He.ma K (He.ga K (Str.ofString "Story")) (Str.ofString "__init__")), (Str.ofString "__init__"), (Str.ofString "Story.__init__"), defArgs s_Story_init, defBody s_Story_init, defScope s_Story_init, [], []⟩]
def hFn2 : List He5.DefA := [⟨fun K => (He.ga K (Str.ofString "cells")), (Str.ofString "cells"), (Str.ofString "cells"), defArgs s_cells, defBody s_cells, defScope s_cells, [], []⟩, ⟨fun K => (He.ma K (He.ga K (Str.ofString "State")) (Str.ofString "__init__")), (Str.ofString "__init__"), (Str.ofString "State.__init__"), defArgs s_State_init, defBody s_State_init, defScope s_State_init, [], []⟩, ⟨fun K => (He.ma K (He.ga K (Str.ofString "Parser")) (Str.ofString "fail")), (Str.ofString "fail"), (Str.ofString "Parser.fail"), defArgs s_Parser_fail, defBody s_Parser_fail, defScope s_Parser_fail, [], []⟩, ⟨fun K => (He.ma K (He.ga K (Str.ofString "Parser")) (Str.ofString "take_word")), (Str.ofString "take_word"), (Str.ofString "Parser.take_word"), defArgs s_Parser_take_word, defBody s_Parser_take_word, defScope s_Parser_take_word, [], []⟩, ⟨fun K => (He.ma K (He.ga K (Str.ofString "Parser")) (Str.ofString "take")), (Str.ofString "take"), (Str.ofString "Parser.take"), defArgs s_Parser_take, defBody s_Parser_take, defScope s_Parser_take, [], []⟩, ⟨fun K => (He.ma K (He.ga K (Str.ofString "Parser")) (Str.ofString "found")), (Str.ofString "found"), (Str.ofString "Parser.found"), defArgs s_Parser_found, defBody s_Parser_found, defScope s_Parser_found, [], []⟩, ⟨fun K => (He.ma K (He.ga K (Str.ofString "Parser")) (Str.ofString "parse_shelf")), (Str.ofString "parse_shelf"), (Str.ofString "Parser.parse_shelf"), defArgs s_Parser_parse_shelf, defBody s_Parser_parse_shelf, defScope s_Parser_parse_shelf, [], []⟩, ⟨fun K => (He.ma K (He.ga K (Str.ofString "Parser")) (Str.ofString "parse_step")), (Str.ofString "parse_step"), (Str.ofString "Parser.parse_step"), defArgs s_Parser_parse_step, defBody s_Parser_parse_step, defScope s_Parser_parse_step, [], []⟩, ⟨fun K => (He.ma K (He.ga K (Str.ofString "Parser")) (Str.ofString "parse_robot")), (Str.ofString "parse_robot"), (Str.ofString "Parser.parse_robot"), defArgs s_Parser_parse_robot, defBody s_Parser_parse_robot, defScope s_Parser_parse_robot, [], []⟩, ⟨fun K => (He.ma K (He.ga K (Str.ofString "Parser")) (Str.ofString "parse_plan")), (Str.ofString "parse_plan"), (Str.ofString "Parser.parse_plan"), defArgs s_Parser_parse_plan, defBody s_Parser_parse_plan, defScope s_Parser_parse_plan, [], []⟩, ⟨fun K => (He.ga K (Str.ofString "run_end")), (Str.ofString "run_end"), (Str.ofString "run_end"), defArgs s_run_end, defBody s_run_end, defScope s_run_end, [], []⟩, ⟨fun K => (He.ga K (Str.ofString "read_token")), (Str.ofString "read_token"), (Str.ofString "read_token"), defArgs s_read_token, defBody s_read_token, defScope s_read_token, [], []⟩]
def hFn3 : List He5.DefA := [⟨fun K => (He.ga K (Str.ofString "tokenize")), (Str.ofString "tokenize"), (Str.ofString "tokenize"), defArgs s_tokenize, defBody s_tokenize, defScope s_tokenize, [], []⟩, ⟨fun K => (He.ga K (Str.ofString "load")), (Str.ofString "load"), (Str.ofString "load"), defArgs s_load, defBody s_load, defScope s_load, [], []⟩, ⟨fun K => (He.ga K (Str.ofString "trace")), (Str.ofString "trace"), (Str.ofString "trace"), defArgs s_trace, defBody s_trace, defScope s_trace, [], []⟩, ⟨fun K => (He.ga K (Str.ofString "_law_some_tick")), (Str.ofString "_law_some_tick"), (Str.ofString "_law_some_tick"), defArgs s_l_some_tick, defBody s_l_some_tick, defScope s_l_some_tick, [], []⟩, ⟨fun K => (He.ga K (Str.ofString "_law_text")), (Str.ofString "_law_text"), (Str.ofString "_law_text"), defArgs s_l_text, defBody s_l_text, defScope s_l_text, [], []⟩, ⟨fun K => (He.ga K (Str.ofString "holding")), (Str.ofString "holding"), (Str.ofString "holding"), defArgs s_holding, defBody s_holding, defScope s_holding, [], []⟩, ⟨fun K => (He.ga K (Str.ofString "boxes")), (Str.ofString "boxes"), (Str.ofString "boxes"), defArgs s_boxes, defBody s_boxes, defScope s_boxes, [], []⟩, ⟨fun K => (He.ga K (Str.ofString "check_robot")), (Str.ofString "check_robot"), (Str.ofString "check_robot"), defArgs s_check_robot, defBody s_check_robot, defScope s_check_robot, [], []⟩, ⟨fun K => (He.ma K (He.ga K (Str.ofString "Story")) (Str.ofString "count")), (Str.ofString "count"), (Str.ofString "Story.count"), defArgs s_Story_count, defBody s_Story_count, defScope s_Story_count, [], []⟩, ⟨fun K => (He.ga K (Str.ofString "count_done")), (Str.ofString "count_done"), (Str.ofString "count_done"), defArgs s_count_done, defBody s_count_done, defScope s_count_done, [], []⟩, ⟨fun K => (He.ga K (Str.ofString "law")), (Str.ofString "law"), (Str.ofString "law"), defArgs s_law, defBody s_law, defScope s_law, [], []⟩]
def hFn : List He5.DefA := hFn0 ++ (hFn1 ++ (hFn2 ++ (hFn3)))
def hTs : List He.Tab := []
def hTf : List He.Defn := [((Str.ofString "count_done"), none)]
def hEx (K : PySem.W.Frag) : Bool := SbH.propB K (Str.ofString "Story") (Str.ofString "size") && (SbH.propB K (Str.ofString "State") (Str.ofString "key") && (SbH.tupB K (Str.ofString "MOVES") [(Str.ofString "left"), (Str.ofString "right"), (Str.ofString "pick"), (Str.ofString "put"), (Str.ofString "wait")] && (SbH.tupB K (Str.ofString "JUMPS") [(Str.ofString "goto"), (Str.ofString "empty"), (Str.ofString "held")] && (SbH.tupB K (Str.ofString "KEYWORDS") [(Str.ofString "shelf"), (Str.ofString "robot"), (Str.ofString "left"), (Str.ofString "right"), (Str.ofString "pick"), (Str.ofString "put"), (Str.ofString "wait"), (Str.ofString "goto"), (Str.ofString "empty"), (Str.ofString "held")]))))
abbrev hHk : PySem.W.Hook := SbH.hookY 5 hFa hFn hTs hTf hEx
def hOb (s : PySem.W.SharedT) : SbH.AlY := SbH.obsY 5 hFa hFn hTs hTf hEx (HandSHeadRun.getT s)
theorem hOb_eq (s : PySem.W.SharedT) : hOb s = hHk.obs s.abs := SbH.obsY_eq (HandSHeadRun.getT_eq s)
noncomputable abbrev hEnd (w : World) (os : OsState) : Option PySem.W.SharedT := HandSHeadRun.endF (HandSHeadRun.stepQ (HandSHeadRun.denQ HandSHeadRun.tabQ) (PySem.W.OpenLaw.row PySem.Challenge.rw_shelfbots_k33_whole_boxes_are_kept).prog w) 40000 (PySem.W.OpenLaw.row PySem.Challenge.rw_shelfbots_k33_whole_boxes_are_kept).prog w os
theorem hY1F (w : World) (os : OsState) : (hEnd (w.withFollow "special-get-raises" false) os).map (fun s => (HandSHeadRun.looksF (PySem.W.OpenLaw.row PySem.Challenge.rw_shelfbots_k33_whole_boxes_are_kept).prog (PySem.W.boot_heap (World.params (w.withFollow "special-get-raises" false))) s.abs, HandSHeadRun.seenQ (PySem.W.view (PySem.W.OpenLaw.row PySem.Challenge.rw_shelfbots_k33_whole_boxes_are_kept).prog [68]) hNm (importedModules (PySem.W.OpenLaw.row PySem.Challenge.rw_shelfbots_k33_whole_boxes_are_kept).prog.main.body) (fun s => PySem.W.xlAt (PySem.W.view (PySem.W.OpenLaw.row PySem.Challenge.rw_shelfbots_k33_whole_boxes_are_kept).prog [68]) [] s && PySem.W.recOk (PySem.W.OpenLaw.row PySem.Challenge.rw_shelfbots_k33_whole_boxes_are_kept).toRowW.records s) s.abs, hFa.all fun f => f.ok (SbH.KT 5 s))) = some (true, PySem.W.openGood (PySem.W.view (PySem.W.OpenLaw.row PySem.Challenge.rw_shelfbots_k33_whole_boxes_are_kept).prog [68]) hNm, true) := by kernel_rfl
theorem hY2F (w : World) (os : OsState) : (hEnd (w.withFollow "special-get-raises" false) os).map (fun s => (hFn.all fun d => d.ok (SbH.KT 5 s), hFn.map fun d => He5.fnA (SbH.KT 5 s) (d.at_ (SbH.KT 5 s)), hEx (SbH.KT 5 s) && He.tabsB (HandSHeadRun.getT s) hTf (SbH.KT 5 s), hTs.map fun t => He.dicW (SbH.KT 5 s) (t.1 (SbH.KT 5 s)))) = some (true, hFn.map He5.DefA.val, true, hTs.map fun t => some (He.keysIn (World.params (w.withFollow "special-get-raises" false)) t.2)) := by kernel_rfl
theorem hRunF (w : World) : HandSHeadRun.RunEq (PySem.W.OpenLaw.row PySem.Challenge.rw_shelfbots_k33_whole_boxes_are_kept) (PySem.W.view (PySem.W.OpenLaw.row PySem.Challenge.rw_shelfbots_k33_whole_boxes_are_kept).prog [68]) hHk hOb 40000 hNm (w.withFollow "special-get-raises" false) := fun os => SbH.run_join (hY1F w os) (hY2F w os)
theorem hY1T (w : World) (os : OsState) : (hEnd (w.withFollow "special-get-raises" true) os).map (fun s => (HandSHeadRun.looksF (PySem.W.OpenLaw.row PySem.Challenge.rw_shelfbots_k33_whole_boxes_are_kept).prog (PySem.W.boot_heap (World.params (w.withFollow "special-get-raises" true))) s.abs, HandSHeadRun.seenQ (PySem.W.view (PySem.W.OpenLaw.row PySem.Challenge.rw_shelfbots_k33_whole_boxes_are_kept).prog [68]) hNm (importedModules (PySem.W.OpenLaw.row PySem.Challenge.rw_shelfbots_k33_whole_boxes_are_kept).prog.main.body) (fun s => PySem.W.xlAt (PySem.W.view (PySem.W.OpenLaw.row PySem.Challenge.rw_shelfbots_k33_whole_boxes_are_kept).prog [68]) [] s && PySem.W.recOk (PySem.W.OpenLaw.row PySem.Challenge.rw_shelfbots_k33_whole_boxes_are_kept).toRowW.records s) s.abs, hFa.all fun f => f.ok (SbH.KT 5 s))) = some (true, PySem.W.openGood (PySem.W.view (PySem.W.OpenLaw.row PySem.Challenge.rw_shelfbots_k33_whole_boxes_are_kept).prog [68]) hNm, true) := by kernel_rfl
theorem hY2T (w : World) (os : OsState) : (hEnd (w.withFollow "special-get-raises" true) os).map (fun s => (hFn.all fun d => d.ok (SbH.KT 5 s), hFn.map fun d => He5.fnA (SbH.KT 5 s) (d.at_ (SbH.KT 5 s)), hEx (SbH.KT 5 s) && He.tabsB (HandSHeadRun.getT s) hTf (SbH.KT 5 s), hTs.map fun t => He.dicW (SbH.KT 5 s) (t.1 (SbH.KT 5 s)))) = some (true, hFn.map He5.DefA.val, true, hTs.map fun t => some (He.keysIn (World.params (w.withFollow "special-get-raises" true)) t.2)) := by kernel_rfl
theorem hRunT (w : World) : HandSHeadRun.RunEq (PySem.W.OpenLaw.row PySem.Challenge.rw_shelfbots_k33_whole_boxes_are_kept) (PySem.W.view (PySem.W.OpenLaw.row PySem.Challenge.rw_shelfbots_k33_whole_boxes_are_kept).prog [68]) hHk hOb 40000 hNm (w.withFollow "special-get-raises" true) := fun os => SbH.run_join (hY1T w os) (hY2T w os)
theorem hRun (w : World) : HandSHeadRun.RunEq (PySem.W.OpenLaw.row PySem.Challenge.rw_shelfbots_k33_whole_boxes_are_kept) (PySem.W.view (PySem.W.OpenLaw.row PySem.Challenge.rw_shelfbots_k33_whole_boxes_are_kept).prog [68]) hHk hOb 40000 hNm w := PySem.W.byRow2 "special-get-raises" (P := fun w => HandSHeadRun.RunEq (PySem.W.OpenLaw.row PySem.Challenge.rw_shelfbots_k33_whole_boxes_are_kept) (PySem.W.view (PySem.W.OpenLaw.row PySem.Challenge.rw_shelfbots_k33_whole_boxes_are_kept).prog [68]) hHk hOb 40000 hNm w) hRunF hRunT w
end Sb

namespace Sb
open PySem PySem.Spec PyProof.Rows L2
theorem ixN_nat {n j : Nat} (h : j < n) : ixN n (j : Int) = some j := by
  unfold ixN
  rw [if_pos (Int.natCast_nonneg j), if_pos (by omega)]
  simp
theorem sq_nat {n j : Nat} (h : j < n) : seqIndex? (j : Int) n = some j := (ixN_seq (ixN_nat h)).1
theorem ix_of {n j : Nat} {z : Int} (e : z = (j : Int)) (h : j < n) : ixN n z = some j := by rw [e]; exact ixN_nat h
theorem sq_of {n j : Nat} {z : Int} (e : z = (j : Int)) (h : j < n) : seqIndex? z n = some j := by rw [e]; exact sq_nat h
theorem vint_eq {i j : Int} (h : i = j) : decide (V.int i = V.int j) = true := decide_eq_true (by rw [h])
theorem vint_ne {i j : Int} (h : ¬ i = j) : decide (V.int i = V.int j) = false := decide_eq_false (fun e => h (by injection e))

/-! ### the draws -/
def spRandom (K : PySem.W.Frag) : Sp := fun vs H Q _ => ∃ (a : Addr) (ns : List Int) (salt : Int), vs = [.ref a, .int salt] ∧ SqL K H a (ns.map V.int) ∧ ns.length ≤ 63 ∧ 0 ≤ salt ∧
  ∀ (H' : Hp) (p : Addr) (ds : List Int), Same H H' → H p = none → H' p = some (.lst (ds.map V.int)) → Src ds → Q (.ref p) H'
structure spBelow (vs : List V) (H : Hp) (Q : VK) (E : XK) : Prop where
  ex : ∃ (d : Addr) (ds : List Int) (n : Int), vs = [.ref d, .int n] ∧ H d = some (.lst (ds.map V.int)) ∧ Src ds ∧ 0 < n ∧ n < 1073741824 ∧
  ∀ (ds' : List Int) (k : Int), Src ds' → 0 ≤ k → k < n → Q (.int k) (upd H d (.lst (ds'.map V.int)))
section
variable {P : Program} {w : World} {K : PySem.W.Frag} {mg : Str → Option Value} {base : Heap} {a : Ad}
theorem ok_l_below (T : Txt K mg a) : FnOk P w K mg base CX0 1 a.f_l_below a.d_l_below ["_law_d", "_law_limit"] spBelow := by
  refine T.F_l_below.ok sc_l_below (fun vs H Q E h => ?_) (fun cdv A outer s H vs Q E hr h => ?_)
  · obtain ⟨⟨d, ds, n, rfl, _⟩⟩ := h
    rfl
  · obtain ⟨⟨d, ds, n, rfl, hd, ⟨⟨z, e, r, rfl, hz, he, hr2, hl⟩⟩, n0, n1, k⟩⟩ := h
    refine ⟨_, (pss_cons (ps_if (PW.pt (pw_and (pt_cmpR op_eq (pe_ix ix_list (pv 0) pe_int (fun _ _ => rfl)) pe_int (nomark _)) (pw_and1 (pt_cmpR op_gt (pe_callB call_len_seq (by rfl) T.z_len (by decide +kernel) (pa_cons (pv 0) pa_nil)) pe_int (nomark _))))) (pss_one (ps_asg (pe_bm PySem.F.plainAttrs_list PySem.F.slot_list_pop PySem.F.type_list_pop mt_popAt (pv 0) (pa_cons pe_int pa_nil)) (pg_sub (pv 0) pe_int set_list))) pss_nil)
      (pss_cons (ps_if (pt_cmpR op_gt (pe_ix ix_list (pv 0) pe_int (fun _ _ => rfl)) pe_int (nomark _)) (pss_cons (ps_set (i := 2) sc_l_below.nd rfl (Or.inl rfl) (pe_op op_mod (pe_ix ix_list (pv 0) pe_int (fun _ _ => rfl)) (pv 1)))
      (pss_cons (ps_asg (pe_op op_fdiv (pe_ix ix_list (pv 0) pe_int (fun _ _ => rfl)) (pv 1)) (pg_sub (pv 0) pe_int set_list))
      (pss_one (ps_ret (pv 2))))) pss_nil)
      (pss_cons (ps_asg (pe_op op_mod (pe_op op_add (pe_op op_mul (pe_ix ix_list (pv 0) pe_int (fun _ _ => rfl)) pe_int) pe_int) pe_int) (pg_sub (pv 0) pe_int set_list))
      (pss_one (ps_ret (pe_op op_mod (pe_op op_fdiv (pe_ix ix_list (pv 0) pe_int (fun _ _ => rfl)) pe_int) (pv 1))))))), ?_⟩
    -- the end: d[0] drawn on
    have last : ∀ (z : Int) (r : List Int), 0 ≤ z → (∀ x ∈ r, (0 : Int) ≤ x) → r.length ≤ 63 → Src (((z * 48271 + 11) % 2147483647) :: 0 :: r) := fun z r hz hr hl =>
      ⟨⟨_, _, _, rfl, Int.emod_nonneg _ (by decide), by decide, hr, hl⟩⟩
    have go2 : ∀ (e : Int) (r : List Int), 0 < e → (∀ x ∈ r, (0 : Int) ≤ x) → r.length ≤ 63 → Src (z :: (e / n) :: r) := fun e r he hr hl =>
      ⟨⟨_, _, _, rfl, hz, Int.ediv_nonneg (by omega) (by omega), hr, hl⟩⟩
    -- behind the first if
    have rest : ∀ (e : Int) (r : List Int) (H1 : Hp), 0 ≤ e → (∀ x ∈ r, (0 : Int) ≤ x) → r.length ≤ 63 → H1 d = some (.lst ((z :: e :: r).map V.int)) → (∀ o, upd H1 d o = upd H d o) →
        (tSeq (tIfS (tTest (tOp (rI0 fun i j => .bl (decide (j < i))) (tOp (rIxL K) (tVar 0) (tC (.int 1))) (tC (.int 0))))
          (tSeq (tAsg (tOp (rI (fun _ j => 0 < j) fun i j => .int (i % j)) (tOp (rIxL K) (tVar 0) (tC (.int 1))) (tVar 1)) (gName 2))
            (tSeq (tAsg (tOp (rI CDiv fun i j => .int (i / j)) (tOp (rIxL K) (tVar 0) (tC (.int 1))) (tVar 1)) (gSub (tVar 0) (tC (.int 1)) rSetL)) (tRet (tVar 2)))) tNext)
          (tSeq (tAsg (tOp (rI (fun _ j => 0 < j) fun i j => .int (i % j)) (tOp (rI0 fun i j => .int (i + j)) (tOp (rI CMul fun i j => .int (i * j)) (tOp (rIxL K) (tVar 0) (tC (.int 0))) (tC (.int 48271))) (tC (.int 11))) (tC (.int 2147483647))) (gSub (tVar 0) (tC (.int 0)) rSetL))
            (tRet (tOp (rI (fun _ j => 0 < j) fun i j => .int (i % j)) (tOp (rI CDiv fun i j => .int (i / j)) (tOp (rIxL K) (tVar 0) (tC (.int 0))) (tC (.int 64))) (tVar 1)))))
          { nx := fun _ H' => Q .non H', rt := Q } (start ["_law_d", "_law_limit", "_law_result"] [.ref d, .int n]) H1 := by
      intro e r H1 he hr hl h1 hu
      refine ⟨_, rfl, d, _, 1, .int e, rfl, rfl, SqL.of h1, at_of (j := 1) rfl rfl, _, _, rfl, rfl, _, rfl, ?_⟩
      refine ite2 (fun c => ?_) (fun c => ?_)
      · have he0 : 0 < e := of_decide_eq_true c
        refine ⟨_, rfl, d, _, 1, .int e, rfl, rfl, SqL.of h1, at_of (j := 1) rfl rfl, _, rfl, _, _, rfl, rfl, n0, ?_⟩
        refine ⟨_, rfl, d, _, 1, .int e, rfl, rfl, SqL.of h1, at_of (j := 1) rfl rfl, _, rfl, _, _, rfl, rfl, ⟨n0, n1⟩, ?_⟩
        refine ⟨_, rfl, d, _, 1, 1, rfl, rfl, h1, ix_of rfl (by show 1 < ((z :: e :: r).map V.int).length; rw [List.length_map]; exact Nat.succ_lt_succ (Nat.succ_pos _)), ?_⟩
        refine ⟨_, rfl, ?_⟩
        rw [hu]
        exact k (z :: (e / n) :: r) (e % n) (go2 e r he0 hr hl) (Int.emod_nonneg _ (by omega)) (Int.emod_lt_of_pos _ n0)
      · have he0 : e = 0 := by
          have h3 : ¬ (0 : Int) < e := fun q => c (decide_eq_true q)
          omega
        subst he0
        refine ⟨_, rfl, d, _, 0, .int z, rfl, rfl, SqL.of h1, at_of (j := 0) rfl rfl, _, _, rfl, rfl, .inr ⟨by decide, by decide⟩, _, _, rfl, rfl, _, _, rfl, rfl, (by show (0 : Int) < 2147483647; decide), ?_⟩
        refine ⟨_, rfl, d, _, 0, 0, rfl, rfl, h1, ix_of rfl (by show 0 < ((z :: (0 : Int) :: r).map V.int).length; rw [List.length_map]; exact Nat.succ_pos _), ?_⟩
        refine ⟨_, rfl, d, _, 0, .int ((z * 48271 + 11) % 2147483647), rfl, rfl, SqL.of upd_same, at_of (j := 0) rfl rfl, _, _, rfl, rfl, ⟨by decide, by decide⟩, _, rfl, _, _, rfl, rfl, n0, ?_⟩
        rw [hu]
        exact k (((z * 48271 + 11) % 2147483647) :: 0 :: r) _ (last z r hz hr hl) (Int.emod_nonneg _ (by omega)) (Int.emod_lt_of_pos _ n0)
    refine ⟨_, rfl, d, _, 1, .int e, rfl, rfl, SqL.of hd, at_of (j := 1) rfl rfl, rfl, _, rfl, ?_⟩
    refine ite2 (fun c => ?_) (fun c => ?_)
    · refine ⟨_, rfl, d, _, rfl, .inl (SqL.of hd), _, _, rfl, rfl, _, rfl, ?_⟩
      refine ite2 (fun c2 => ?_) (fun c2 => ?_)
      · -- there is a further one
        cases r with
        | nil =>
          have c3 := of_decide_eq_true c2
          simp at c3
        | cons y r =>
          refine ⟨_, rfl, .inl ⟨rfl, _, SqL.of hd⟩, d, _, 2, 2, .int y, rfl, rfl, hd, by decide, by decide, sq_of rfl (by simp), rfl, ?_⟩
          refine ⟨_, rfl, d, _, 1, 1, rfl, rfl, upd_same, ix_of rfl (by simp), ?_⟩
          refine rest y r _ (hr2 y List.mem_cons_self) (fun x hx => hr2 x (List.mem_cons_of_mem _ hx)) (by simp at hl; omega) ?_ ?_
          · rw [upd_same]; rfl
          · intro o
            rw [upd_upd, upd_upd]
      · exact rest e r H he hr2 hl hd (fun _ => rfl)
    · exact rest e r H he hr2 hl hd (fun _ => rfl)
end
end Sb

namespace Sb
open PySem PySem.Spec PyProof.Rows L2
section
variable {P : Program} {w : World} {K : PySem.W.Frag} {mg : Str → Option Value} {base : Heap} {a : Ad}
theorem ints_at {ns : List Int} {i : Nat} {x : V} (h : (ns.map V.int)[i]? = some x) : ∃ z, ns[i]? = some z ∧ x = V.int z := by
  rw [List.getElem?_map] at h
  cases e : ns[i]? with
  | none => rw [e] at h; cases h
  | some z => rw [e] at h; exact ⟨z, rfl, (Option.some.inj h).symm⟩
theorem take_more {α : Type} : ∀ {l : List α} {i : Nat} {x : α}, l[i]? = some x → l.take (i + 1) = l.take i ++ [x]
  | [], i, x, h => by simp at h
  | a :: l, 0, x, h => by
    have e : a = x := Option.some.inj h
    subst e
    rfl
  | a :: l, i + 1, x, h => by
    have ih := take_more (l := l) (i := i) (x := x) h
    show a :: l.take (i + 1) = a :: l.take i ++ [x]
    rw [ih]
    rfl
theorem ok_l_random (T : Txt K mg a) : FnOk P w K mg base CX0 1 a.f_l_random a.d_l_random ["_law_script", "_law_salt"] (spRandom K) := by
  refine T.F_l_random.ok sc_l_random (fun vs H Q E h => ?_) (fun cdv A outer s H vs Q E hr h => ?_)
  · obtain ⟨d, ds, n, rfl, _⟩ := h
    rfl
  · obtain ⟨l, ns, salt, rfl, hl, h63, h0, k⟩ := h
    refine ⟨_, (pss_cons (ps_set (i := 2) sc_l_random.nd rfl (Or.inl rfl) (pv 1))
      (pss_cons (ps_for PassesOwn.never rfl (pi_list (pv 0)) (pg_name (i := 3) sc_l_random.nd rfl (Or.inl rfl)) (pss_one (ps_set (i := 2) sc_l_random.nd rfl (Or.inl rfl) (pe_op op_mod (pe_op op_add (pe_op op_mul (pv 2) pe_int) (pe_callB call_abs (by rfl) T.z_abs (by decide +kernel) (pa_cons (pv 3) pa_nil))) pe_int))))
      (pss_one (ps_ret (pe_op op_cat (pe_lst (pa_cons (pv 2) (pa_cons pe_int pa_nil))) (pe_lc (own := [("_law_cell", 3)]) (g := gName 3) rfl sc_l_random.nd (pi_list (pv 0)) (blkOk_by (own := [("_law_cell", 3)]) (N := ["_law_script", "_law_salt", "_law_seed", "_law_cell"]) (sc := (defScope s_l_random)) (by decide +kernel)) (fun _ _ _ _ _ => (pg_name (i := 3) sc_l_random.nd rfl (Or.inl rfl))) (fun _ _ _ _ _ => by exact pts_one (pt_cmpR op_ge (pv 3) (pe_op op_pow pe_int pe_int) (nomark _))) (fun _ _ _ _ _ => by exact (pv 3)))))))), ?_⟩
    refine ⟨_, rfl, _, rfl, l, rfl, ⟨_, hl⟩, for_list (K := K) (a := l) (xs := ns.map V.int) (fun i σ H' => H' = H ∧ ∃ (z : Int) (v : Option V), σ = [some (.ref l), some (.int salt), some (.int z), v] ∧ 0 ≤ z)
      ⟨rfl, salt, none, rfl, h0⟩ (fun i σ H' _ ⟨e, _⟩ => by rw [e]; exact hl) ?_ ?_⟩
    · rintro i x σ H' hx ⟨rfl, z, v, rfl, hz⟩
      obtain ⟨u, hu, rfl⟩ := ints_at hx
      refine ⟨_, rfl, _, _, rfl, rfl, .inr ⟨by decide, by decide⟩, _, rfl, _, rfl, _, _, rfl, rfl, _, _, rfl, rfl, (by show (0 : Int) < 2147483647; decide), ?_⟩
      exact ⟨rfl, _, _, rfl, Int.emod_nonneg _ (by decide)⟩
    · rintro σ H' ⟨rfl, z, v, rfl, hz⟩
      refine ⟨_, rfl, (by show 2 ≤ sizeLine; decide), fun p hp => ?_⟩
      have hl1 : SqL K (upd H' p (.lst [.int z, .int 0])) l (ns.map V.int) := (same_new hp).seq hl
      refine ⟨_, rfl, l, rfl, ⟨_, hl1⟩, fun D hD => ?_⟩
      have npD : p ≠ D := fun e => by rw [← e, upd_same] at hD; cases hD
      refine lc_list (K := K) (a := l) (xs := ns.map V.int) (fun i H2 => ∃ bs : List Int, H2 = upd (upd H' p (.lst [.int z, .int 0])) D (.lst (bs.map V.int)) ∧ (∀ x ∈ bs, (0 : Int) ≤ x) ∧ bs.length ≤ i) ⟨[], rfl, (fun _ h => nomatch h), Nat.le_refl _⟩ ?_ ?_ ?_
      · rintro i H2 _ ⟨bs, rfl, _⟩
        exact (same_new hD).seq hl1
      · rintro i x H2 hx ⟨bs, rfl, hb, hbl⟩
        obtain ⟨u, hu, rfl⟩ := ints_at hx
        have hi : i < ns.length := (List.getElem?_eq_some_iff.mp hu).1
        refine ⟨rfl, _, rfl, _, _, rfl, rfl, ⟨by decide, by decide, by decide⟩, _, _, rfl, rfl, _, rfl, ?_⟩
        refine ite2 (fun c => ?_) (fun c => ?_)
        · have hu0 : (10 : Int) ^ (18 : Int).toNat ≤ u := of_decide_eq_true c
          have hu1 : (0 : Int) ≤ u := Int.le_trans (by decide) hu0
          refine ⟨_, rfl, bs.map V.int, upd_same, smaller 63 (by rw [List.length_map]; omega) (by decide), bs ++ [u], ?_, ?_, ?_⟩
          · rw [upd_upd, List.map_append]
            rfl
          · intro x hx
            rcases List.mem_append.mp hx with h | h
            · exact hb x h
            · rw [List.mem_singleton.mp h]; exact hu1
          · rw [List.length_append]; simp; omega
        · exact ⟨bs, rfl, hb, by omega⟩
      · rintro H2 ⟨bs, rfl, hb, hbl⟩
        have e1 : (upd (upd H' p (.lst [.int z, .int 0])) D (.lst (bs.map V.int))) p = some (.lst [.int z, .int 0]) := by rw [upd_ne npD, upd_same]
        rw [List.length_map] at hbl
        refine ⟨p, D, _, _, rfl, rfl, e1, upd_same, small 65 (by show 2 + (bs.map V.int).length ≤ 65; rw [List.length_map]; omega) (by decide), fun q hq => ?_⟩
        have q1 : q ≠ D := fun e => by rw [e, upd_same] at hq; cases hq
        have q2 : q ≠ p := fun e => by rw [e, e1] at hq; cases hq
        refine k _ q (z :: 0 :: bs) (((same_new hp).trans (same_new hD)).trans (same_new hq)) (by rw [upd_ne q1, upd_ne q2] at hq; exact hq) (by rw [upd_same]; rfl) ⟨⟨z, 0, bs, rfl, hz, by decide, hb, by omega⟩⟩
end
end Sb

namespace Sb
open PySem PySem.Spec PyProof.Rows L2
section
variable {K : PySem.W.Frag} {d : Addr} {G0 H0 G H : Hp} {n : Int} {Q : VK} {E : XK}
/-- a draw, used -/
theorem draw_go (h : At d G0 H0 G H) (n0 : 0 < n) (n1 : n < 1073741824) (k : ∀ (H1 : Hp) (i : Nat), At d G0 H0 G H1 → (∀ b, b ≠ d → H1 b = H b) → (i : Int) < n → Q (.int i) H1) : spBelow [.ref d, .int n] H Q E := by
  obtain ⟨ds, hd, hs⟩ := h.now.x
  refine ⟨⟨d, ds, n, rfl, hd, hs, n0, n1, fun ds' i s1 i0 i1 => ?_⟩⟩
  have e : i = (i.toNat : Int) := by omega
  rw [e]
  exact k _ i.toNat (h.draw s1) (fun b hb => upd_ne hb) (by omega)
end
theorem wds_len : wds.length = 8 := rfl
theorem wds_at {i : Nat} (h : i < 8) : (wds.map V.str)[i]? = some (.str (wS i)) := by
  rw [List.getElem?_map]
  have : wds[i]? = some (wS i) := by
    unfold wS
    rw [List.getElem?_eq_getElem (by rw [wds_len]; exact h), List.getD_eq_getElem?_getD, List.getElem?_eq_getElem (by rw [wds_len]; exact h)]
    rfl
  rw [this]
  rfl
def jmpV : List V := [.str "goto", .str "empty", .str "held"]
theorem jmp_in : ∀ {w : Nat}, w < 8 → inV (.str (wS w)) jmpV = decide (5 ≤ w) := by
  have h : ∀ w : _root_.Fin 8, inV (.str (wS w.val)) jmpV = decide (5 ≤ w.val) := by decide +kernel
  exact fun {w} hw => h ⟨w, hw⟩
theorem optD_some {K : PySem.W.Frag} {G : Hp} (k : Nat) : Dp K G (.int k) (optD (some k)) := .int k
theorem jmp_flat : jmpV.all flatV = true := by decide +kernel
structure spSteps (K : PySem.W.Frag) (vs : List V) (H : Hp) (Q : VK) (E : XK) : Prop where
  ex : ∃ (d : Addr) (G : Hp) (most : Nat), vs = [.ref d, .int most] ∧ 1 ≤ most ∧ most ≤ 20 ∧
  Drawn d G H Q fun G' v => ∃ ss : List Step, StepsOk ss ∧ Dp K G' v (stepsD ss) ∧ ss.length ≤ most
section
variable {P : Program} {w : World} {K : PySem.W.Frag} {mg : Str → Option Value} {base : Heap} {a : Ad}
theorem wS0 : wS 0 = "left" := rfl
theorem wS1 : wS 1 = "right" := rfl
theorem wS2 : wS 2 = "pick" := rfl
theorem wS3 : wS 3 = "put" := rfl
theorem stepD_no {K : PySem.W.Frag} {G : Hp} {t : Addr} {x : Nat} (h : SqT K G t [.str (wS x), .non]) : Dp K G (.ref t) (Step.D ⟨x, none⟩) := .tup h (.cons (.str _) (.cons .non .nil))
theorem ok_no {n x : Nat} (h : x < 5) : Step.Ok n ⟨x, none⟩ := ⟨by show x < 8; omega, fun _ => rfl, fun z => absurd (show 5 ≤ x from z) (by omega)⟩
theorem ok_l_steps (T : Txt K mg a) : FnOk P w K mg base CX0 2 a.f_l_steps a.d_l_steps ["_law_d", "_law_most"] (spSteps K) := by
  refine T.F_l_steps.ok sc_l_steps (fun vs H Q E h => ?_) (fun cdv A outer s H vs Q E hr h => ?_)
  · obtain ⟨⟨d, G, m, rfl, _⟩⟩ := h
    rfl
  · obtain ⟨⟨d, G, most, rfl, m1, m20, hN, k⟩⟩ := h
    refine ⟨_, (pss_cons (ps_par (i := 2) (j := 3) (by rfl) sc_l_steps.nd rfl rfl (by decide) rfl rfl (pa_cons (pe_op op_add pe_int (pe_call (ok_l_below T) (hr.mono (by decide)) rfl T.m_l_below T.F_l_below.kp (b_l_below T) .nil pass0 (pa_cons (pv 0) (pa_cons (pv 1) pa_nil)))) (pa_cons (pe_lst (pa_cons pe_str (pa_cons pe_str (pa_cons pe_str (pa_cons pe_str (pa_cons pe_str (pa_cons pe_str (pa_cons pe_str (pa_cons pe_str pa_nil))))))))) pa_nil)) (by rfl))
      (pss_cons (ps_if (PW.pt (pw_and (pt_cmpR op_gt (pv 1) pe_int (nomark _)) (pw_and1 (pt_cmpR op_eq (pe_call (ok_l_below T) (hr.mono (by decide)) rfl T.m_l_below T.F_l_below.kp (b_l_below T) .nil pass0 (pa_cons (pv 0) (pa_cons pe_int pa_nil))) pe_int (nomark _))))) (pss_cons (ps_set (i := 4) sc_l_steps.nd rfl (Or.inl rfl) (pe_ix ix_list (pe_lst (pa_cons (pe_lst (pa_cons pe_str (pa_cons pe_str pa_nil))) (pa_cons (pe_lst (pa_cons pe_str (pa_cons pe_str pa_nil))) pa_nil))) (pe_call (ok_l_below T) (hr.mono (by decide)) rfl T.m_l_below T.F_l_below.kp (b_l_below T) .nil pass0 (pa_cons (pv 0) (pa_cons pe_int pa_nil))) (fun _ _ => rfl)))
      (pss_one (ps_ret (pe_lst (pa_cons (pe_tup (pa_cons pe_str (pa_cons pe_non pa_nil))) (pa_cons (pe_tup (pa_cons (pe_ix ix_list (pv 4) pe_int (fun _ _ => rfl)) (pa_cons pe_non pa_nil))) (pa_cons (pe_tup (pa_cons pe_str (pa_cons pe_non pa_nil))) (pa_cons (pe_tup (pa_cons (pe_ix ix_list (pv 4) pe_int (fun _ _ => rfl)) (pa_cons pe_non pa_nil))) pa_nil)))))))) pss_nil)
      (pss_cons (ps_par (i := 5) (j := 6) (by rfl) sc_l_steps.nd rfl rfl (by decide) rfl rfl (pa_cons (pe_ix ix_list (pe_lst (pa_cons pe_int (pa_cons pe_int pa_nil))) (pe_call (ok_l_below T) (hr.mono (by decide)) rfl T.m_l_below T.F_l_below.kp (b_l_below T) .nil pass0 (pa_cons (pv 0) (pa_cons pe_int pa_nil))) (fun _ _ => rfl)) (pa_cons (pe_lst pa_nil) pa_nil)) (by rfl))
      (pss_cons (ps_for PassesOwn.never rfl (pi_range1 (by rfl) T.z_range (pa_cons (pv 2) pa_nil)) (pg_name (i := 7) sc_l_steps.nd rfl (Or.inl rfl)) (pss_cons (ps_set (i := 8) sc_l_steps.nd rfl (Or.inl rfl) (pe_ix ix_list (pv 3) (pe_call (ok_l_below T) (hr.mono (by decide)) rfl T.m_l_below T.F_l_below.kp (b_l_below T) .nil pass0 (pa_cons (pv 0) (pa_cons (pv 5) pa_nil))) (fun _ _ => rfl)))
      (pss_one (ps_expr (pe_bm PySem.F.plainAttrs_list PySem.F.slot_list_append PySem.F.type_list_append mt_append (pv 6) (pa_cons (pe_tup (pa_cons (pv 8) (pa_cons (pe_ifExp (pt_cmpR op_in_seq (pv 8) (pe_lst (pa_cons pe_str (pa_cons pe_str (pa_cons pe_str pa_nil)))) rfl) (pe_call (ok_l_below T) (hr.mono (by decide)) rfl T.m_l_below T.F_l_below.kp (b_l_below T) .nil pass0 (pa_cons (pv 0) (pa_cons (pv 2) pa_nil))) pe_non) pa_nil))) pa_nil))))))
      (pss_one (ps_ret (pv 6))))))), ?_⟩
    -- many, words
    refine ⟨_, rfl, _, rfl, draw_go hN.at (by omega) (by omega) fun H1 i A1 K1 hi => ?_⟩
    refine ⟨_, _, rfl, rfl, (by show 8 ≤ sizeLine; decide), fun W hW => ⟨_, _, rfl, ?_⟩⟩
    have A2 := A1.new hW (.lst (wds.map V.str))
    have hWG : SqL K (upd G W (.lst (wds.map V.str))) W (wds.map V.str) := SqL.of upd_same
    dsimp only
    -- behind the if
    refine seq_rest (fun H3 => At d G H (upd G W (.lst (wds.map V.str))) H3) [some (.ref d), some (.int most), some (.int (1 + (i : Int))), some (.ref W), none, none, none, none, none] (fun H3 A3 => ?r) (fun rest => ?m)
    case m =>
      refine ⟨_, rfl, _, _, rfl, rfl, _, rfl, ?_⟩
      refine ite2 (fun c4 => ?_) (fun c => ?_)
      · refine ⟨_, rfl, draw_go A2 (by decide) (by decide) fun H3 j A3 K3 hj => ?_⟩
        refine ⟨rfl, _, rfl, ?_⟩
        refine ite2 (fun c => ?_) (fun c => rest H3 A3)
        -- the four steps
        refine ⟨(by show 2 ≤ sizeLine; decide), fun q1 hq1 => ?_⟩
        have A4 := A3.new hq1 (.lst [.str "left", .str "right"])
        refine ⟨(by show 2 ≤ sizeLine; decide), fun q2 hq2 => ?_⟩
        have A5 := A4.new hq2 (.lst [.str "right", .str "left"])
        refine ⟨(by show 2 ≤ sizeLine; decide), fun q3 hq3 => ?_⟩
        have A6 := A5.new hq3 (.lst [.ref q1, .ref q2])
        refine ⟨_, rfl, draw_go A6 (by decide) (by decide) fun H7 m A7 K7 hm => ?_⟩
        have f1 : SqL K H7 q1 [.str "left", .str "right"] := A7.now.s.seq (SqL.of (by rw [upd_ne (ne_of_none (by rw [upd_ne (ne_of_none upd_same hq2), upd_same]) hq3), upd_ne (ne_of_none upd_same hq2), upd_same]))
        have f2 : SqL K H7 q2 [.str "right", .str "left"] := A7.now.s.seq (SqL.of (by rw [upd_ne (ne_of_none upd_same hq3), upd_same]))
        have f3 : SqL K H7 q3 [.ref q1, .ref q2] := A7.now.s.seq (SqL.of upd_same)
        obtain ⟨u, x, y, hu, hx, hy, hxy, hsq⟩ : ∃ (u : Addr) (x y : Nat), ([V.ref q1, V.ref q2] : List V)[m]? = some (.ref u) ∧ x < 5 ∧ y < 5 ∧ True ∧ SqL K H7 u [.str (wS x), .str (wS y)] := by
          match m, hm with
          | 0, _ => exact ⟨q1, 0, 1, rfl, by decide, by decide, trivial, f1⟩
          | 1, _ => exact ⟨q2, 1, 0, rfl, by decide, by decide, trivial, f2⟩
          | m + 2, h => exact absurd h (by omega)
        refine ⟨q3, _, _, .ref u, rfl, rfl, f3, atI_nat hu, ?_⟩
        refine ⟨(by show 2 ≤ sizeLine; decide), fun t1 ht1 => ?_⟩
        have B1 := A7.new ht1 (.tup [.str (wS 2), .non])
        have g1 := Same.seq (same_new ht1 (o := .tup [.str (wS 2), .non])) hsq
        refine ⟨_, rfl, u, _, 0, .str (wS x), rfl, rfl, g1, at_of (j := 0) rfl rfl, (by show 2 ≤ sizeLine; decide), fun t2 ht2 => ?_⟩
        have B2 := B1.new ht2 (.tup [.str (wS x), .non])
        refine ⟨(by show 2 ≤ sizeLine; decide), fun t3 ht3 => ?_⟩
        have B3 := B2.new ht3 (.tup [.str (wS 3), .non])
        have g3 := Same.seq (same_new ht3 (o := .tup [.str (wS 3), .non])) (Same.seq (same_new ht2 (o := .tup [.str (wS x), .non])) g1)
        refine ⟨_, rfl, u, _, 1, .str (wS y), rfl, rfl, g3, at_of (j := 1) rfl rfl, (by show 2 ≤ sizeLine; decide), fun t4 ht4 => ?_⟩
        have B4 := B3.new ht4 (.tup [.str (wS y), .non])
        refine ⟨(by show 4 ≤ sizeLine; decide), fun r hr' => ?_⟩
        have B5 := B4.new hr' (.lst [.ref t1, .ref t2, .ref t3, .ref t4])
        refine k _ _ _ B5 ⟨[⟨2, none⟩, ⟨x, none⟩, ⟨3, none⟩, ⟨y, none⟩], ⟨(by show 1 ≤ 4; decide), (by show 4 ≤ 20; decide), ?_⟩, ?_, ?_⟩
        · intro s hs
          rcases List.mem_cons.mp hs with rfl | hs
          · exact ok_no (by decide)
          rcases List.mem_cons.mp hs with rfl | hs
          · exact ok_no hx
          rcases List.mem_cons.mp hs with rfl | hs
          · exact ok_no (by decide)
          rcases List.mem_cons.mp hs with rfl | hs
          · exact ok_no hy
          · cases hs
        · have n5 := same_new (H := upd (upd (upd (upd _ t1 (.tup [.str (wS 2), .non])) t2 (.tup [.str (wS x), .non])) t3 (.tup [.str (wS 3), .non])) t4 (.tup [.str (wS y), .non])) (p := r) (o := .lst [.ref t1, .ref t2, .ref t3, .ref t4]) (Same.free B4.now.s hr')
          have n4 := same_new (H := upd (upd (upd _ t1 (.tup [.str (wS 2), .non])) t2 (.tup [.str (wS x), .non])) t3 (.tup [.str (wS 3), .non])) (p := t4) (o := .tup [.str (wS y), .non]) (Same.free B3.now.s ht4)
          have n3 := same_new (H := upd (upd _ t1 (.tup [.str (wS 2), .non])) t2 (.tup [.str (wS x), .non])) (p := t3) (o := .tup [.str (wS 3), .non]) (Same.free B2.now.s ht3)
          have n2 := same_new (H := upd _ t1 (.tup [.str (wS 2), .non])) (p := t2) (o := .tup [.str (wS x), .non]) (Same.free B1.now.s ht2)
          refine .lst (SqL.of upd_same) (.cons (stepD_no ?_) (.cons (stepD_no ?_) (.cons (stepD_no ?_) (.cons (stepD_no ?_) .nil))))
          · exact Same.seqT (((n2.trans n3).trans n4).trans n5) (SqT.of upd_same)
          · exact Same.seqT ((n3.trans n4).trans n5) (SqT.of upd_same)
          · exact Same.seqT (n4.trans n5) (SqT.of upd_same)
          · exact Same.seqT n5 (SqT.of upd_same)
        · have h3 : (3 : Int) < (most : Int) := of_decide_eq_true c4
          show 4 ≤ most
          omega
      · exact rest _ A2
    -- the loop
    refine ⟨(by show 2 ≤ sizeLine; decide), fun q hq => ?_⟩
    have A4 := A3.new hq (.lst [.int 5, .int 8])
    refine ⟨_, rfl, draw_go A4 (by decide) (by decide) fun H5 m A5 K5 hm => ?_⟩
    have f1 : SqL K H5 q [.int 5, .int 8] := A5.now.s.seq (SqL.of upd_same)
    obtain ⟨lim, hlim, l1, l8⟩ : ∃ lim : Nat, ([V.int 5, V.int 8] : List V)[m]? = some (.int lim) ∧ 0 < lim ∧ lim ≤ 8 := by
      match m, hm with
      | 0, _ => exact ⟨5, rfl, by decide, by decide⟩
      | 1, _ => exact ⟨8, rfl, by decide, by decide⟩
      | m + 2, h => exact absurd h (by omega)
    refine ⟨q, _, _, .int lim, rfl, rfl, f1, atI_nat hlim, Nat.zero_le _, fun l hl => ⟨_, _, rfl, ?_⟩⟩
    have A6 := A5.lay hl (.lst [])
    have lG : upd (upd G W (.lst (wds.map V.str))) q (.lst [.int 5, .int 8]) l = none := Same.free A5.now.s hl
    have l0 : H l = none := A5.ext.k l hl
    have ld : l ≠ d := A5.ne hl
    refine ⟨_, rfl, _, rfl, by omega, by omega, for_range (lo := 0) (n := (1 + (i : Int)).toNat) (fun j σ H' => ∃ (G' : Hp) (xs : List V) (ss : List Step) (v7 v8 : Option V), σ = [some (.ref d), some (.int most), some (.int (1 + (i : Int))), some (.ref W), none, some (.int lim), some (.ref l), v7, v8] ∧
      At d G H G' H' ∧ G' l = none ∧ H' l = some (.lst xs) ∧ SqL K G' W (wds.map V.str) ∧ DpAll K G' xs (ss.map Step.D) ∧ ss.length = j ∧ ∀ s ∈ ss, Step.Ok (1 + i) s) ?_ ?_ ?_⟩
    · exact ⟨_, [], [], none, none, rfl, A6, lG, upd_same, (same_new (Same.free A3.now.s hq)).seq hWG, .nil, rfl, fun _ h => nomatch h⟩
    · rintro j σ H' hj ⟨G', xs, ss, v7, v8, rfl, B, lG', hxs, hW', hss, hsl, hok⟩
      refine ⟨_, rfl, _, rfl, _, rfl, draw_go B (by omega) (by omega) fun H7 x B1 K1 hx => ?_⟩
      have hx8 : x < 8 := by omega
      refine ⟨W, _, _, .str (wS x), rfl, rfl, B1.now.s.seq hW', atI_nat (wds_at hx8), ?_⟩
      have hl7 : H7 l = some (.lst xs) := by rw [K1 l ld]; exact hxs
      refine ⟨_, rfl, .inl ⟨rfl, _, SqL.of hl7⟩, _, rfl, _, rfl, (by show 3 ≤ sizeLine; decide), fun q2 hq2 => ?_⟩
      have B2 := B1.lay hq2 (.lst jmpV)
      have hl8 : (upd H7 q2 (.lst jmpV)) l = some (.lst xs) := by rw [upd_ne (ne_of_none hl7 hq2)]; exact hl7
      refine ⟨q2, jmpV, rfl, .inl (SqL.of upd_same), rfl, jmp_flat, _, rfl, ?_⟩
      -- the tuple appended
      have fin : ∀ (H9 : Hp) (g : Option Nat) (v : V), At d G H G' H9 → H9 l = some (.lst xs) → (∀ G, Dp K G v (optD g)) → Step.Ok (1 + i) ⟨x, g⟩ →
          (2 ≤ sizeLine ∧ ∀ t, H9 t = none → ∃ l' ys y, (V.ref l) = .ref l' ∧ [V.ref t] = [y] ∧ (upd H9 t (.tup [.str (wS x), v])) l' = some (.lst ys) ∧ ys.length < sizeLine ∧
            (∃ (G' : Hp) (xs : List V) (ss : List Step) (v7 v8 : Option V), [some (V.ref d), some (.int most), some (.int (1 + (i : Int))), some (.ref W), none, some (.int lim), some (.ref l), some (.int (0 + (j : Int))), some (.str (wS x))] = [some (.ref d), some (.int most), some (.int (1 + (i : Int))), some (.ref W), none, some (.int lim), some (.ref l), v7, v8] ∧
              At d G H G' (upd (upd H9 t (.tup [.str (wS x), v])) l' (.lst (ys ++ [y]))) ∧ G' l = none ∧ (upd (upd H9 t (.tup [.str (wS x), v])) l' (.lst (ys ++ [y]))) l = some (.lst xs) ∧ SqL K G' W (wds.map V.str) ∧ DpAll K G' xs (ss.map Step.D) ∧ ss.length = j + 1 ∧ ∀ s ∈ ss, Step.Ok (1 + i) s)) := by
        intro H9 g v B9 h9 hv hokx
        refine ⟨by decide, fun t ht => ?_⟩
        have ntl : l ≠ t := ne_of_none h9 ht
        have B10 := B9.new ht (.tup [.str (wS x), v])
        have lG10 : upd G' t (.tup [.str (wS x), v]) l = none := by rw [upd_ne ntl]; exact lG'
        have nG := same_new (H := G') (p := t) (o := .tup [.str (wS x), v]) (Same.free B9.now.s ht)
        refine ⟨l, xs, _, rfl, rfl, by rw [upd_ne ntl]; exact h9, smaller 20 (by rw [DpAll.len hss, List.length_map]; omega) (by decide), _, xs ++ [.ref t], ss ++ [⟨x, g⟩], _, _, rfl, B10.put l0 lG10 ld _, lG10, upd_same, nG.seq hW', ?_, ?_, ?_⟩
        · rw [List.map_append]
          exact DpAll.snoc (Dp.monoAll nG _ _ hss) (.tup (SqT.of upd_same) (.cons (.str _) (.cons (hv _) .nil)))
        · rw [List.length_append, hsl]; rfl
        · intro s hs
          rcases List.mem_append.mp hs with h | h
          · exact hok s h
          · rw [List.mem_singleton.mp h]; exact hokx
      rw [if_neg Bool.false_ne_true, jmp_in hx8]
      refine ite2 (fun c => ?_) (fun c => ?_)
      · have hx5 : 5 ≤ x := of_decide_eq_true c
        refine ⟨_, rfl, _, rfl, draw_go B2 (by omega) (by omega) fun H9 g B3 K3 hg => ?_⟩
        refine fin H9 (some g) (.int g) B3 (by rw [K3 l ld]; exact hl8) (fun _ => .int g) ⟨hx8, fun z => absurd (show x < 5 from z) (by omega), fun _ => ⟨g, rfl, by omega⟩⟩
      · have hx5 : ¬ 5 ≤ x := fun z => c (decide_eq_true z)
        exact fin _ none .non B2 hl8 (fun _ => .non) (ok_no (by omega))
    · rintro σ H' ⟨G', xs, ss, v7, v8, rfl, B, lG', hxs, hW', hss, hsl, hok⟩
      refine ⟨_, rfl, ?_⟩
      have B1 := B.freeze l0 hxs ld
      have e : ss.length = 1 + i := by omega
      refine k _ _ _ B1 ⟨ss, ⟨by omega, by omega, by rw [e]; exact hok⟩, .lst (SqL.of upd_same) (Dp.monoAll ?_ _ _ hss), by omega⟩
      intro b o eb
      by_cases hb : b = l
      · rw [hb, lG'] at eb; cases eb
      · rw [upd_ne hb]; exact eb
end
end Sb

namespace Sb
open PySem PySem.Spec PyProof.Rows L2
theorem other_ne {n f s : Nat} (hf : f < n) (hs : s + 1 < n) : (f + 1 + s) % n ≠ f := by
  by_cases h : f + 1 + s < n
  · rw [Nat.mod_eq_of_lt h]; omega
  · rw [Nat.mod_eq_sub_mod (by omega), Nat.mod_eq_of_lt (by omega)]; omega
theorem other_eq (f s n : Nat) : ((f : Int) + 1 + (s : Int)) % (3 + (n : Int)) = (((f + 1 + s) % (3 + n) : Nat) : Int) := by
  rw [Int.natCast_emod]
  push_cast
  rfl
theorem nats_D (K : PySem.W.Frag) (G : Hp) (l : List Nat) : DpAll K G (l.map fun n : Nat => V.int n) (l.map natD) := by
  induction l with
  | nil => exact .nil
  | cons n l ih => exact .cons (.int _) ih
theorem draw_steps {K : PySem.W.Frag} {d : Addr} {G0 H0 G H : Hp} {most : Nat} {Q : VK} {E : XK} (h : At d G0 H0 G H) (m1 : 1 ≤ most) (m2 : most ≤ 20)
    (k : ∀ (G1 H1 : Hp) (v : V) (ss : List Step), At d G0 H0 G1 H1 → At d G H G1 H1 → StepsOk ss → Dp K G1 v (stepsD ss) → ss.length ≤ most → Q v H1) : spSteps K [.ref d, .int most] H Q E :=
  ⟨⟨d, G, most, rfl, m1, m2, h.now, fun G' H' v A ⟨ss, o, D, l⟩ => k G' H' v ss (h.trans A) A o D l⟩⟩
end Sb

namespace Sb
open PySem PySem.Spec PyProof.Rows L2 TL
theorem Ext.ofSame {G H H' : Hp} (s : Same G H) (h : Same H H') : Ext G H G H' := ⟨Same.refl G, s.trans h, fun _ _ e => .inl e, fun _ e => Same.free h e⟩
theorem log_ok {n : Nat} (h : n < 100) : ((n : Int)).natAbs.log2 < 1920 := by
  have e : ((n : Int)).natAbs = n := rfl
  have := Nat.log2_le_self n
  rw [e]
  omega
theorem at_n {α : Type} {xs : List α} {z : Int} {j : Nat} {v : α} (e : z = (j : Int)) (h : xs[j]? = some v) : atI xs z = some v := by
  rw [e]
  exact atI_nat h
theorem len1s (c : Nat) : (⟨#[c]⟩ : Str).length = 1 := rfl
theorem e_s : (Str.ofString "s").length = 1 := by decide +kernel
theorem e_cs : (Str.ofString ": ").length = 2 := by decide +kernel
theorem e_ss : (Str.ofString " s").length = 2 := by decide +kernel
theorem e_2 : (Str.ofString "  ").length = 2 := by decide +kernel
theorem addS {x y : Str} (m : Nat) (h : x.length + y.length ≤ m) (hm : m ≤ 16777216 := by decide) : x.length + y.length ≤ sizeLine := small m h hm
structure spLText (K : PySem.W.Frag) (vs : List V) (H : Hp) (Q : VK) (E : XK) : Prop where
  ex : ∃ (G : Hp) (v : V) (x : Pl), vs = [v] ∧ Same G H ∧ Dp K G v x.D ∧ x.Ok ∧ ∀ H', Same H H' → Q (.str (textS x)) H'
/-- the two robots, by number -/
def Pl.st (x : Pl) (i : Nat) : Nat := if i = 0 then x.a else x.b
def Pl.ss (x : Pl) (i : Nat) : List Step := if i = 0 then x.p else x.q
def Pl.robs (x : Pl) : Nat → List (List Nat)
  | 0 => []
  | i + 1 => Pl.robs x i ++ robotL (x.st i) (x.ss i)
theorem Pl.robs2 (x : Pl) : shelfL x.shelf :: x.robs 2 = linesL x := rfl
theorem sum_len : ∀ (l : List Str) (m : Nat), (∀ p ∈ l, p.length ≤ m) → (l.map (·.length)).sum ≤ l.length * m
  | [], _, _ => by simp
  | x :: r, m, h => by
    have h1 := h x (by simp)
    have ih := sum_len r m (fun p hp => h p (by simp [hp]))
    rw [List.map_cons, List.sum_cons, List.length_cons, Nat.add_mul, Nat.one_mul]
    omega
theorem len_of_map {l : List Str} {m : List (List Nat)} (h : l.map tl = m) : l.length = m.length := by rw [← h, List.length_map]
theorem mem_len {l : List Str} {m : List (List Nat)} {k : Nat} (h : l.map tl = m) (hm : ∀ p ∈ m, p.length ≤ k) : ∀ p ∈ l, p.length ≤ k := fun p hp => by
  rw [len_tl]
  exact hm (tl p) (by rw [← h]; exact List.mem_map.mpr ⟨p, hp, rfl⟩)
theorem robs_len {x : Pl} (h : x.Ok) : ∀ {i : Nat}, i ≤ 2 → (x.robs i).length ≤ 22 * i
  | 0, _ => by simp [Pl.robs]
  | i + 1, hi => by
    have ih := robs_len h (i := i) (by omega)
    show (x.robs i ++ robotL (x.st i) (x.ss i)).length ≤ _
    rw [List.length_append, robotL_len]
    have : (x.ss i).length ≤ 20 := by unfold Pl.ss; split; exact h.p.le; exact h.q.le
    omega
theorem join_txt {y : Str} {parts : List Str} {S : List Nat} {ps : List (List Nat)} (hy : tl y = S) (hp : parts.map tl = ps) : tl (Txt.join y parts) = joinL S ps := by
  rw [join_eq, tl_join, hy, hp]
/-- a plan's data, taken apart -/
theorem plan_inv {K : PySem.W.Frag} {G : Hp} {v : V} {x : Pl} (h : Dp K G v x.D) : ∃ t sh st bo l1 l2 xs1 xs2, v = .ref t ∧ SqT K G t [.ref sh, .ref st, .ref bo] ∧ SqT K G sh (x.shelf.map fun n : Nat => V.int n) ∧ SqT K G st [.int x.a, .int x.b] ∧
    SqL K G bo [.ref l1, .ref l2] ∧ SqL K G l1 xs1 ∧ SqL K G l2 xs2 ∧ DpAll K G xs1 (x.p.map Step.D) ∧ DpAll K G xs2 (x.q.map Step.D) := by
  obtain ⟨t, xs, rfl, ht, hx⟩ := Dp.tup_inv h
  obtain ⟨v1, r, rfl, h1, hx⟩ := DpAll.cons_inv hx
  obtain ⟨v2, r, rfl, h2, hx⟩ := DpAll.cons_inv hx
  obtain ⟨v3, r, rfl, h3, hx⟩ := DpAll.cons_inv hx
  cases DpAll.nil_inv hx
  obtain ⟨sh, ys, rfl, hsh, hy⟩ := Dp.tup_inv h1
  obtain ⟨st, zs, rfl, hst, hz⟩ := Dp.tup_inv h2
  obtain ⟨z1, r, rfl, e1, hz⟩ := DpAll.cons_inv hz
  obtain ⟨z2, r, rfl, e2, hz⟩ := DpAll.cons_inv hz
  cases DpAll.nil_inv hz
  obtain ⟨bo, ws, rfl, hbo, hw⟩ := Dp.lst_inv h3
  obtain ⟨b1, r, rfl, f1, hw⟩ := DpAll.cons_inv hw
  obtain ⟨b2, r, rfl, f2, hw⟩ := DpAll.cons_inv hw
  cases DpAll.nil_inv hw
  obtain ⟨l1, xs1, rfl, hl1, hx1⟩ := Dp.lst_inv f1
  obtain ⟨l2, xs2, rfl, hl2, hx2⟩ := Dp.lst_inv f2
  have e1' := Dp.int_inv e1
  have e2' := Dp.int_inv e2
  subst e1' e2'
  have ey : ys = x.shelf.map fun n : Nat => V.int n := by
    have : ∀ (l : List Nat) (ys : List V), DpAll K G ys (l.map natD) → ys = l.map fun n : Nat => V.int n := by
      intro l
      induction l with
      | nil => intro ys h; exact DpAll.nil_inv h
      | cons n l ih =>
        intro ys h
        obtain ⟨v, r, rfl, a, b⟩ := DpAll.cons_inv h
        rw [Dp.int_inv a, ih r b]
        rfl
    exact this _ _ hy
  subst ey
  exact ⟨t, sh, st, bo, l1, l2, xs1, xs2, rfl, ht, hsh, hst, hbo, hl1, hl2, hx1, hx2⟩
/-- a step's data -/
theorem step_inv {K : PySem.W.Frag} {G : Hp} {v : V} {s : Step} (h : Dp K G v s.D) : ∃ t g, v = .ref t ∧ SqT K G t [.str (wS s.w), g] ∧ ((s.g = none ∧ g = .non) ∨ ∃ k : Nat, s.g = some k ∧ g = .int k) := by
  obtain ⟨t, xs, rfl, ht, hx⟩ := Dp.tup_inv h
  obtain ⟨v1, r, rfl, h1, hx⟩ := DpAll.cons_inv hx
  obtain ⟨v2, r, rfl, h2, hx⟩ := DpAll.cons_inv hx
  cases DpAll.nil_inv hx
  have e1 := Dp.str_inv h1
  subst e1
  refine ⟨t, v2, rfl, ht, ?_⟩
  cases hg : s.g with
  | none =>
    rw [hg] at h2
    exact .inl ⟨rfl, Dp.none_inv h2⟩
  | some k =>
    rw [hg] at h2
    exact .inr ⟨k, rfl, Dp.int_inv h2⟩
theorem goals_take {ss : List Step} {i : Nat} {s : Step} (h : ss[i]? = some s) : goalsOf (ss.take (i + 1)) = goalsOf (ss.take i) ++ (match s.g with | none => [] | some k => [k]) := by
  unfold goalsOf
  rw [take_more h, List.filterMap_append]
  congr 1
  cases hg : s.g <;> simp [hg]
section
variable {P : Program} {w : World} {K : PySem.W.Frag} {mg : Str → Option Value} {base : Heap} {a : Ad}
theorem ok_l_text (T : Txt K mg a) : FnOk P w K mg base CX0 1 a.f_l_text a.d_l_text ["_law_plan_here"] (spLText K) := by
  refine T.F_l_text.ok sc_l_text (fun vs H Q E h => ?_) (fun cdv A outer s H vs Q E hr h => ?_)
  · obtain ⟨⟨G, v, x, rfl, _⟩⟩ := h
    rfl
  · obtain ⟨⟨G, v, x, rfl, hGH, hD, hx, k⟩⟩ := h
    obtain ⟨t, sh, st, bo, l1, l2, xs1, xs2, rfl, ht, hsh, hst, hbo, hl1, hl2, hx1, hx2⟩ := plan_inv hD
    refine ⟨_, (pss_cons (ps_asg (pv 0) (pg_tup (by rfl) (pgs_cons (pg_name (i := 1) sc_l_text.nd rfl (Or.inl rfl)) (pgs_cons (pg_name (i := 2) sc_l_text.nd rfl (Or.inl rfl)) (pgs_cons (pg_name (i := 3) sc_l_text.nd rfl (Or.inl rfl)) pgs_nil)))))
      (pss_cons (ps_set (i := 4) sc_l_text.nd rfl (Or.inl rfl) (pe_lst (pa_cons (pe_op op_add_str (pe_op op_add_str pe_str (pe_join pe_str (pe_lc (own := [("_law_pieces", 5)]) (g := gName 5) (tt := tYes) rfl sc_l_text.nd (pi_tup (pv 1)) (blkOk_by (own := [("_law_pieces", 5)]) (N := ["_law_plan_here", "_law_shelf", "_law_starts", "_law_both", "_law_lines", "_law_pieces", "_law_number", "_law_goals", "_law_word", "_law_goal", "_law_k", "_law_mark", "_law_target"]) (sc := (defScope s_l_text)) (by decide +kernel)) (fun _ _ _ _ _ => (pg_name (i := 5) sc_l_text.nd rfl (Or.inl rfl))) (fun _ _ _ _ _ => pts_nil) (fun _ _ _ _ _ => by exact (pe_callTy call_str_int (by rfl) T.z_str (by decide +kernel) (pa_cons (pv 5) pa_nil)))))) pe_str) pa_nil)))
      (pss_cons (ps_for PassesOwn.never rfl (pi_range1 (by rfl) T.z_range (pa_cons pe_int pa_nil)) (pg_name (i := 6) sc_l_text.nd rfl (Or.inl rfl)) (pss_cons (ps_expr (pe_bm PySem.F.plainAttrs_list PySem.F.slot_list_append PySem.F.type_list_append mt_append (pv 4) (pa_cons (pe_op op_add_str (pe_op op_add_str pe_str (pe_callTy call_str_int (by rfl) T.z_str (by decide +kernel) (pa_cons (pe_ix ix_tup (pv 2) (pv 6) (fun _ _ => rfl)) pa_nil))) pe_str) pa_nil)))
      (pss_cons (ps_setLc (i := 7) (own := [("_law_word", 8), ("_law_goal", 9)]) (g := gTup K 2 (gCons (gName 8) (gCons (gName 9) gNil))) rfl sc_l_text.nd rfl rfl (sw_true rfl rfl rfl (by decide +kernel)) (pi_list (pe_ix ix_list (pv 3) (pv 6) (fun _ _ => rfl))) (blkOk_by (own := [("_law_word", 8), ("_law_goal", 9)]) (N := ["_law_plan_here", "_law_shelf", "_law_starts", "_law_both", "_law_lines", "_law_pieces", "_law_number", "_law_goals", "_law_word", "_law_goal", "_law_k", "_law_mark", "_law_target"]) (sc := (defScope s_l_text)) (by decide +kernel)) (fun _ _ _ _ _ => (pg_tup (by rfl) (pgs_cons (pg_name (i := 8) sc_l_text.nd rfl (Or.inl rfl)) (pgs_cons (pg_name (i := 9) sc_l_text.nd rfl (Or.inl rfl)) pgs_nil)))) (fun _ _ _ _ _ => by exact pts_one (pt_cmpR op_notN (pv 9) pe_non (nomark _))) (fun _ _ _ _ _ => by exact (pv 9)))
      (pss_cons (ps_for PassesOwn.never rfl (pi_range1 (by rfl) T.z_range (pa_cons (pe_callB call_len_seq (by rfl) T.z_len (by decide +kernel) (pa_cons (pe_ix ix_list (pv 3) (pv 6) (fun _ _ => rfl)) pa_nil)) pa_nil)) (pg_name (i := 10) sc_l_text.nd rfl (Or.inl rfl)) (pss_cons (ps_asg (pe_ix ix_list (pe_ix ix_list (pv 3) (pv 6) (fun _ _ => rfl)) (pv 10) (fun _ _ => rfl)) (pg_tup (by rfl) (pgs_cons (pg_name (i := 8) sc_l_text.nd rfl (Or.inl rfl)) (pgs_cons (pg_name (i := 9) sc_l_text.nd rfl (Or.inl rfl)) pgs_nil))))
      (pss_cons (ps_set (i := 11) sc_l_text.nd rfl (Or.inl rfl) (pe_ifExp (pt_cmpR op_in_seq (pv 10) (pv 7) rfl) (pe_op op_add_str (pe_op op_add_str pe_str (pe_ix ix_str pe_str (pv 10) (fun _ _ => rfl))) pe_str) pe_str))
      (pss_cons (ps_set (i := 12) sc_l_text.nd rfl (Or.inl rfl) (pe_ifExp (pt_cmpR op_notN (pv 9) pe_non (nomark _)) (pe_op op_add_str pe_str (pe_ix ix_str pe_str (pv 9) (fun _ _ => rfl))) pe_str))
      (pss_one (ps_expr (pe_bm PySem.F.plainAttrs_list PySem.F.slot_list_append PySem.F.type_list_append mt_append (pv 4) (pa_cons (pe_op op_add_str (pe_op op_add_str (pe_op op_add_str (pe_op op_add_str pe_str (pv 11)) (pv 8)) (pv 12)) pe_str) pa_nil))))))))
      (pss_one (ps_expr (pe_bm PySem.F.plainAttrs_list PySem.F.slot_list_append PySem.F.type_list_append mt_append (pv 4) (pa_cons pe_str pa_nil))))))))
      (pss_one (ps_ret (pe_join pe_str (pv 4))))))), ?_⟩
    refine ⟨_, rfl, t, _, rfl, Same.seqT hGH ht, rfl, _, _, rfl, _, _, rfl, _, _, rfl, rfl, ?_⟩
    -- the shelf's line
    refine ⟨⟨_, rfl⟩, _, rfl, sh, rfl, ⟨_, Same.seqT hGH hsh⟩, fun D hD => ?_⟩
    refine lc_tup (K := K) (a := sh) (xs := x.shelf.map fun n : Nat => V.int n) (fun j H' => ∃ ls : List Str, Same H H' ∧ H' D = some (.lst (ls.map V.str)) ∧ ls.map tl = (x.shelf.take j).map numL) ⟨[], same_new hD, upd_same, rfl⟩ (fun j H' _ ⟨ls, s1, _⟩ => Same.seqT (hGH.trans s1) hsh) ?_ ?_
    · rintro j y H' hy ⟨ls, s1, h1, h2⟩
      obtain ⟨n, hn, rfl⟩ : ∃ n : Nat, x.shelf[j]? = some n ∧ y = V.int n := by
        rw [List.getElem?_map] at hy
        cases e : x.shelf[j]? with
        | none => rw [e] at hy; cases hy
        | some z => rw [e] at hy; exact ⟨z, rfl, (Option.some.inj hy).symm⟩
      have hj : j < x.shelf.length := (List.getElem?_eq_some_iff.mp hn).1
      have hn3 : n ≤ 3 := hx.b3 n (List.mem_of_getElem? hn)
      have h12 := hx.c12
      refine ⟨rfl, _, rfl, _, rfl, log_ok (by omega), _, h1, smaller 12 (by rw [List.length_map, len_of_map h2, List.length_map, List.length_take]; omega) (by decide), ls ++ [Str.ofString (toString ((n : Nat) : Int))], same_put s1 hD, ?_, ?_⟩
      · rw [upd_same, List.map_append]; rfl
      · rw [List.map_append, h2, take_more hn, List.map_append]
        show _ ++ [tl (Str.ofString (toString ((n : Nat) : Int)))] = _
        rw [tl_num]
        rfl
    rintro H1 ⟨ls0, s1, h1, h2⟩
    rw [List.length_map, List.take_length] at h2
    have ml : ∀ p ∈ ls0, p.length ≤ 2 := mem_len h2 (fun p hp => by
      obtain ⟨n, hn, rfl⟩ := List.mem_map.mp hp
      exact num_len (by have := hx.b3 n hn; omega))
    have ll : ls0.length ≤ 12 := by rw [len_of_map h2, List.length_map]; exact hx.c12
    have jl : (Txt.join (Str.ofString " ") ls0).length ≤ 36 := by
      rw [len_tl, join_txt t_sp h2]
      refine Nat.le_trans (joinL_len [32] 2 _ (fun p hp => ?_)) ?_
      · obtain ⟨n, hn, rfl⟩ := List.mem_map.mp hp
        exact num_len (by have := hx.b3 n hn; omega)
      · rw [List.length_map]
        have := hx.c12
        show _ * 3 ≤ 36
        omega
    have e6 : (Str.ofString "shelf ").length = 6 := by decide +kernel
    have e1s : (Str.ofString " ").length = 1 := by decide +kernel
    have e1 : (Str.ofString ";").length = 1 := by decide +kernel
    refine ⟨_, D, ls0, rfl, rfl, .inl (SqL.of h1), ?_, _, _, rfl, rfl, addS 42 (by rw [e6]; omega), _, _, rfl, rfl, addS 43 (by rw [len_app, e6, e1]; omega), (by show 1 ≤ sizeLine; decide), fun l hl => ?_⟩
    · have := sum_len ls0 2 ml
      rw [e1s]
      omega
    have l0 : H l = none := Same.free s1 hl
    have sl : tl (Str.ofString "shelf " ++ Txt.join (Str.ofString " ") ls0 ++ Str.ofString ";") = shelfL x.shelf := by
      rw [tl_append, tl_append, t_sh, t_sc, join_txt t_sp h2]
      rfl
    revert sl
    generalize (Str.ofString "shelf " ++ Txt.join (Str.ofString " ") ls0 ++ Str.ofString ";") = first
    intro sl
    -- the robots
    refine ⟨2, rfl, by decide, by decide, for_range (lo := 0) (n := 2) (fun i σ H' => ∃ (ls : List Str) (v5 v6 v7 v8 v9 v10 v11 v12 : Option V), σ = [some (.ref t), some (.ref sh), some (.ref st), some (.ref bo), some (.ref l), v5, v6, v7, v8, v9, v10, v11, v12] ∧
      Same H H' ∧ H' l = some (.lst (ls.map V.str)) ∧ ls.map tl = shelfL x.shelf :: x.robs i) ?_ ?_ ?_⟩
    · exact ⟨[first], none, none, none, none, none, none, none, none, rfl, s1.trans (same_new hl), upd_same, by show [tl first] = _; rw [sl]; rfl⟩
    · rintro i σ H2 hi ⟨ls, v5, v6, v7, v8, v9, v10, v11, v12, rfl, s2, hl2', hls⟩
      have hn : x.st i < 12 := by unfold Pl.st; have := hx.ha; have := hx.hb; have := hx.c12; split <;> omega
      have sti : ([V.int x.a, V.int x.b] : List V)[i]? = some (.int (x.st i)) := by
        match i, hi with
        | 0, _ => rfl
        | 1, _ => rfl
        | i + 2, h => exact absurd h (by omega)
      obtain ⟨li, xsi, hli, hsi, hdi⟩ : ∃ li xsi, ([V.ref l1, V.ref l2] : List V)[i]? = some (.ref li) ∧ SqL K G li xsi ∧ DpAll K G xsi ((x.ss i).map Step.D) := by
        match i, hi with
        | 0, _ => exact ⟨l1, xs1, rfl, hl1, hx1⟩
        | 1, _ => exact ⟨l2, xs2, rfl, hl2, hx2⟩
        | i + 2, h => exact absurd h (by omega)
      have hso : StepsOk (x.ss i) := by unfold Pl.ss; split; exact hx.p; exact hx.q
      have hsl := hso.le
      have hlen : ls.length ≤ 23 := by rw [len_of_map hls, List.length_cons]; have := robs_len hx (i := i) (by omega); omega
      have nl := numS_len (n := x.st i) (by omega)
      have e6r : (Str.ofString "robot ").length = 6 := by decide +kernel
      have e2r : (Str.ofString " {").length = 2 := by decide +kernel
      refine ⟨_, rfl, .inl ⟨rfl, _, SqL.of hl2'⟩, _, rfl, _, rfl, st, _, _, .int (x.st i), rfl, rfl, Same.seqT (hGH.trans s2) hst, at_of (j := i) (by omega) sti, _, rfl, log_ok (by omega), _, _, rfl, rfl, addS 8 (by rw [e6r]; omega), _, _, rfl, rfl, addS 10 (by rw [len_app, e6r, e2r]; omega), l, _, _, rfl, rfl, hl2', smaller 23 (by rw [List.length_map]; exact hlen) (by decide), ?_⟩
      have s3 : Same H (upd H2 l (.lst (ls.map V.str ++ [.str (Str.ofString "robot " ++ Str.ofString (toString ((x.st i : Nat) : Int)) ++ Str.ofString " {")]))) := same_put s2 l0
      have e3 : tl (Str.ofString "robot " ++ Str.ofString (toString ((x.st i : Nat) : Int)) ++ Str.ofString " {") = [114, 111, 98, 111, 116, 32] ++ numL (x.st i) ++ [32, 123] := by
        rw [tl_append, tl_append, t_rb, t_lb, tl_num]
      revert s3 e3
      generalize (Str.ofString "robot " ++ Str.ofString (toString ((x.st i : Nat) : Int)) ++ Str.ofString " {") = hd2
      intro s3 e3
      have h3 : (upd H2 l (.lst (ls.map V.str ++ [.str hd2]))) l = some (.lst ((ls ++ [hd2]).map V.str)) := by rw [upd_same, List.map_append]; rfl
      have hls3 : (ls ++ [hd2]).map tl = shelfL x.shelf :: x.robs i ++ [[114, 111, 98, 111, 116, 32] ++ numL (x.st i) ++ [32, 123]] := by
        rw [List.map_append, hls]
        show _ ++ [tl hd2] = _
        rw [e3]
      revert s3 h3
      generalize upd H2 l (.lst (ls.map V.str ++ [.str hd2])) = H3
      intro s3 h3
      -- the goals
      refine ⟨_, rfl, _, rfl, bo, _, _, .ref li, rfl, rfl, (hGH.trans s3).seq hbo, at_of (j := i) (by omega) hli, li, rfl, ⟨_, (hGH.trans s3).seq hsi⟩, fun D2 hD2 => ?_⟩
      have D20 : H D2 = none := Same.free s3 hD2
      have D2l : l ≠ D2 := ne_of_none h3 hD2
      refine lc_list (K := K) (a := li) (xs := xsi) (fun j H' => Same H H' ∧ H' l = some (.lst ((ls ++ [hd2]).map V.str)) ∧ H' D2 = some (.lst ((goalsOf ((x.ss i).take j)).map fun n : Nat => V.int n))) ⟨s3.trans (same_new hD2), by rw [upd_ne D2l]; exact h3, upd_same⟩ (fun j H' _ ⟨s4, _⟩ => (hGH.trans s4).seq hsi) ?_ ?_
      · rintro j y H' hy ⟨s4, h4, h5⟩
        obtain ⟨dd, hdd, hDd⟩ := DpAll.get hdi hy
        rw [List.getElem?_map] at hdd
        obtain ⟨sj, hsj, rfl⟩ : ∃ sj, (x.ss i)[j]? = some sj ∧ dd = sj.D := by
          cases e : (x.ss i)[j]? with
          | none => rw [e] at hdd; cases hdd
          | some z => rw [e] at hdd; exact ⟨z, rfl, (Option.some.inj hdd).symm⟩
        have hj : j < (x.ss i).length := (List.getElem?_eq_some_iff.mp hsj).1
        have gt := goals_take hsj
        have gl : (goalsOf ((x.ss i).take j)).length ≤ 20 := by
          have h1 : (goalsOf ((x.ss i).take j)).length ≤ ((x.ss i).take j).length := List.length_filterMap_le _ _
          rw [List.length_take] at h1
          omega
        obtain ⟨tt, g, rfl, htt, hg⟩ := step_inv hDd
        refine ⟨tt, _, rfl, Same.seqT (hGH.trans s4) htt, rfl, _, _, rfl, _, _, rfl, rfl, rfl, _, rfl, rfl, _, rfl, ?_⟩
        rcases hg with ⟨hg, rfl⟩ | ⟨kk, hg, rfl⟩
        · refine ite_f rfl ⟨s4, h4, ?_⟩
          rw [gt, hg, List.append_nil]
          exact h5
        · refine ite_t rfl ⟨_, rfl, _, h5, smaller 20 (by rw [List.length_map]; exact gl) (by decide), same_put s4 D20, by rw [upd_ne D2l]; exact h4, ?_⟩
          rw [upd_same, gt, hg, List.map_append]
          rfl
      rintro H4 ⟨s4, h4, h5⟩
      have exs : xsi.length = (x.ss i).length := by rw [DpAll.len hdi, List.length_map]
      rw [exs, List.take_length] at h5
      -- the steps
      refine ⟨_, rfl, _, rfl, bo, _, _, .ref li, rfl, rfl, (hGH.trans s4).seq hbo, at_of (j := i) (by omega) hli, li, _, rfl, .inl ((hGH.trans s4).seq hsi), _, rfl, by omega, by omega, for_range (lo := 0) (n := ((xsi.length : Nat) : Int).toNat) (fun j σ H' => ∃ (ls' : List Str) (v8 v9 v10 v11 v12 : Option V), σ = [some (.ref t), some (.ref sh), some (.ref st), some (.ref bo), some (.ref l), v5, some (.int (0 + (i : Int))), some (.ref D2), v8, v9, v10, v11, v12] ∧
        Same H H' ∧ H' D2 = some (.lst ((goalsOf (x.ss i)).map fun n : Nat => V.int n)) ∧ H' l = some (.lst (ls'.map V.str)) ∧ ls'.map tl = (shelfL x.shelf :: x.robs i ++ [[114, 111, 98, 111, 116, 32] ++ numL (x.st i) ++ [32, 123]]) ++ stepsL (goalsOf (x.ss i)) 0 ((x.ss i).take j)) ?_ ?_ ?_⟩
      · exact ⟨ls ++ [hd2], _, _, _, _, _, rfl, s4, h5, h4, by rw [hls3]; simp [stepsL]⟩
      · rintro j σ H5 hj ⟨ls', v8, v9, v10, v11, v12, rfl, s5, h6, h7, h8⟩
        have hj' : j < (x.ss i).length := by omega
        obtain ⟨sj, hsj⟩ : ∃ sj, (x.ss i)[j]? = some sj := ⟨_, List.getElem?_eq_getElem hj'⟩
        have hokj : Step.Ok (x.ss i).length sj := hso.all sj (List.mem_of_getElem? hsj)
        obtain ⟨y, hy, hDy⟩ := DpAll.at hdi (i := j) (d := sj.D) (by rw [List.getElem?_map, hsj]; rfl)
        obtain ⟨tt, g, rfl, htt, hg⟩ := step_inv hDy
        have hl8 : ls'.length ≤ 45 := by
          rw [len_of_map h8]
          simp only [List.length_append, List.length_cons, List.length_nil, stepsL_len, List.length_take]
          have := robs_len hx (i := i) (by omega)
          omega
        refine ⟨_, rfl, _, rfl, bo, _, _, .ref li, rfl, rfl, (hGH.trans s5).seq hbo, at_of (j := i) (by omega) hli, _, rfl, li, _, _, .ref tt, rfl, rfl, (hGH.trans s5).seq hsi, at_of (j := j) (by omega) hy, tt, _, rfl, Same.seqT (hGH.trans s5) htt, rfl, _, _, rfl, _, _, rfl, rfl, ?_⟩
        dsimp only
        -- the mark
        refine seq_restσ (fun σ H' => ∃ m : Str, σ = [some (.ref t), some (.ref sh), some (.ref st), some (.ref bo), some (.ref l), v5, some (.int (0 + (i : Int))), some (.ref D2), some (.str (wS sj.w)), some g, some (.int (0 + (j : Int))), some (.str m), v12] ∧ H5 = H' ∧ m.length ≤ 4 ∧ tl m = if j ∈ goalsOf (x.ss i) then [115, 97 + j, 58, 32] else []) (fun σ H' hm => ?r1) (fun rest1 => ?m1)
        case m1 =>
          have ej : (0 + (j : Int)) = ((j : Nat) : Int) := by omega
          refine ⟨_, rfl, _, rfl, D2, _, rfl, .inl (SqL.of h6), rfl, nats_flat _, _, rfl, ?_⟩
          rw [if_neg Bool.false_ne_true, show inV (V.int (0 + (j : Int))) ((goalsOf (x.ss i)).map fun n : Nat => V.int n) = decide (j ∈ goalsOf (x.ss i)) from by rw [ej]; exact in_nats _ _]
          refine ite2 (fun c => ?_) (fun c => ?_)
          · have c' := of_decide_eq_true c
            refine ⟨_, rfl, abc, 0 + (j : Int), 97 + j, rfl, rfl, small 20 (by rw [abc_len]; exact Nat.le_refl _) (by decide), at_n (j := j) ej (abc_at (by omega)), _, _, rfl, rfl, addS 2 (by rw [e_s, len1s]; decide), _, _, rfl, rfl, addS 4 (by rw [len_app, e_s, len1s, e_cs]; decide), rest1 _ _ ⟨_, rfl, rfl, ?_, ?_⟩⟩
            · rw [len_app, len_app, e_s, len1s, e_cs]; decide
            · rw [if_pos c', tl_append, tl_append, t_s, t_cs]; rfl
          · refine rest1 _ _ ⟨_, rfl, rfl, by decide +kernel, ?_⟩
            rw [if_neg (fun q => c (decide_eq_true q)), t_e]
        obtain ⟨m, rfl, rfl, hm4, hm⟩ := hm
        -- the target
        refine seq_restσ (fun σ H' => ∃ m2 : Str, σ = [some (.ref t), some (.ref sh), some (.ref st), some (.ref bo), some (.ref l), v5, some (.int (0 + (i : Int))), some (.ref D2), some (.str (wS sj.w)), some g, some (.int (0 + (j : Int))), some (.str m), some (.str m2)] ∧ H5 = H' ∧ m2.length ≤ 3 ∧ tl m2 = (match sj.g with | none => [] | some g => [32, 115, 97 + g])) (fun σ H' hm2 => ?r2) (fun rest2 => ?m2)
        case m2 =>
          refine ⟨_, rfl, rfl, _, rfl, ?_⟩
          rcases hg with ⟨hg, rfl⟩ | ⟨kk, hg, rfl⟩
          · refine ite_f rfl (rest2 _ _ ⟨_, rfl, rfl, by decide +kernel, ?_⟩)
            rw [hg, t_e]
          · have hk : kk < (x.ss i).length := by
              have h5 : 5 ≤ sj.w := by
                by_cases h : sj.w < 5
                · rw [hokj.no h] at hg; cases hg
                · omega
              obtain ⟨k2, e2, h2⟩ := hokj.yes h5
              rw [hg] at e2
              cases e2
              exact h2
            refine ite_t rfl ⟨_, rfl, abc, (kk : Int), 97 + kk, rfl, rfl, small 20 (by rw [abc_len]; exact Nat.le_refl _) (by decide), atI_nat (abc_at (by omega)), _, _, rfl, rfl, addS 3 (by rw [e_ss, len1s]; decide), rest2 _ _ ⟨_, rfl, rfl, ?_, ?_⟩⟩
            · rw [len_app, e_ss, len1s]; decide
            · rw [hg, tl_append, t_ss]; rfl
        obtain ⟨m2, rfl, rfl, hm23, hm2⟩ := hm2
        -- the line
        have hw5 := wS_len hokj.w8
        refine ⟨_, rfl, .inl ⟨rfl, _, SqL.of h7⟩, _, rfl, _, _, rfl, rfl, addS 6 (by rw [e_2]; omega), _, rfl, _, _, rfl, rfl, addS 11 (by rw [len_app, e_2]; omega), _, rfl, _, _, rfl, rfl, addS 14 (by rw [len_app, len_app, e_2]; omega), _, _, rfl, rfl, addS 15 (by rw [len_app, len_app, len_app, e_2, e1]; omega), l, _, _, rfl, rfl, h7, smaller 45 (by rw [List.length_map]; exact hl8) (by decide), ?_⟩
        refine ⟨ls' ++ [Str.ofString "  " ++ m ++ wS sj.w ++ m2 ++ Str.ofString ";"], _, _, _, _, _, rfl, same_put s5 l0, ?_, ?_, ?_⟩
        · rw [upd_ne D2l.symm]; exact h6
        · rw [upd_same, List.map_append]; rfl
        · rw [take_more hsj, stepsL_snoc, List.map_append, h8, ← List.append_assoc]
          congr 1
          show [tl (Str.ofString "  " ++ m ++ wS sj.w ++ m2 ++ Str.ofString ";")] = [stepL _ _ _]
          congr 1
          have e0 : 0 + ((x.ss i).take j).length = j := by rw [List.length_take]; omega
          rw [e0, tl_append, tl_append, tl_append, tl_append, sp2, hm, hm2, t_sc]
          rfl
      · rintro σ H5 ⟨ls', v8, v9, v10, v11, v12, rfl, s5, h6, h7, h8⟩
        have ej : ((xsi.length : Nat) : Int).toNat = (x.ss i).length := by omega
        rw [ej, List.take_length] at h8
        have hl8 : ls'.length ≤ 45 := by
          rw [len_of_map h8]
          simp only [List.length_append, List.length_cons, List.length_nil, stepsL_len]
          have := robs_len hx (i := i) (by omega)
          omega
        refine ⟨_, rfl, .inl ⟨rfl, _, SqL.of h7⟩, l, _, _, rfl, rfl, h7, smaller 45 (by rw [List.length_map]; exact hl8) (by decide), ?_⟩
        refine ⟨ls' ++ [Str.ofString "}"], _, _, _, _, _, _, _, _, rfl, same_put s5 l0, ?_, ?_⟩
        · rw [upd_same, List.map_append]; rfl
        · rw [List.map_append, h8]
          show _ ++ [tl (Str.ofString "}")] = shelfL x.shelf :: (x.robs i ++ robotL (x.st i) (x.ss i))
          rw [t_cb]
          unfold robotL
          simp only [List.cons_append, List.append_assoc, List.nil_append]
    · rintro σ H5 ⟨ls, v5, v6, v7, v8, v9, v10, v11, v12, rfl, s5, h6, h7⟩
      rw [Pl.robs2] at h7
      have hl8 : ls.length ≤ 45 := by rw [len_of_map h7]; exact linesL_len hx
      refine ⟨⟨_, rfl⟩, _, rfl, _, l, ls, rfl, rfl, .inl (SqL.of h6), ?_, ?_⟩
      · have := sum_len ls 60 (mem_len h7 (lines_len hx))
        have e : (Str.ofString "\n").length = 1 := by decide +kernel
        rw [e]
        omega
      · have e : Txt.join (Str.ofString "\n") ls = textS x := ext_tl (join_txt t_nl h7)
        dsimp only
        rw [e]
        exact k H5 s5
end
end Sb

namespace Sb
open PySem PySem.Spec PyProof.Rows L2 TL
section
variable {G H G0 H0 G1 H1 : Hp} {x dx : Addr} {o : HO}
theorem make_free (nx : H x = none) (ne : dx ≠ x) : upd H dx (.own x) x = none := by rw [upd_ne ne.symm]; exact nx
theorem Ext.make (e : Ext G0 H0 G H) (nx : H x = none) (nd : H dx = none) (ne : dx ≠ x) (o : HO) : Ext G0 H0 (upd (upd G dx (.own x)) x o) (upd (upd H dx (.own x)) x o) := (e.new nd).new (make_free nx ne)
theorem same_make (nx : H x = none) (nd : H dx = none) (ne : dx ≠ x) (o : HO) : Same H (upd (upd H dx (.own x)) x o) := (same_new nd).trans (same_new (make_free nx ne))
end
/-- a token in the data heap -/
def tokF (tk : Tk) (l c : Nat) : List (Str × V) := [("kind", .str (kS tk.k)), ("text", .str (mkS tk.t)), ("line", .int l), ("column", .int c)]
def TokAt (C : Addr) (G : Hp) (v : V) (tk : Tk) : Prop := ∃ (p dx : Addr) (l c : Nat), v = .ref p ∧ G p = some (.ins C dx (tokF tk l c))
theorem TokAt.mono {C : Addr} {G G' : Hp} {v : V} {tk : Tk} (s : Same G G') (h : TokAt C G v tk) : TokAt C G' v tk := by
  obtain ⟨p, dx, l, c, e, h⟩ := h
  exact ⟨p, dx, l, c, e, s _ _ h⟩
def ToksAt (C : Addr) (G : Hp) : List V → List Tk → Prop := Paired (TokAt C G)
theorem ToksAt.mono {C : Addr} {G G' : Hp} {vs : List V} {ts : List Tk} (s : Same G G') (h : ToksAt C G vs ts) : ToksAt C G' vs ts := Paired.mapP h fun _ _ => TokAt.mono s
theorem Paired.snoc {α β : Type} {F : α → β → Prop} : ∀ {l : List α} {m : List β} {x : α} {y : β}, Paired F l m → F x y → Paired F (l ++ [x]) (m ++ [y])
  | _, _, _, _, .nil, h => .cons h .nil
  | _, _, _, _, .cons r t, h => .cons r (Paired.snoc t h)
theorem Paired.app {α β : Type} {F : α → β → Prop} : ∀ {l l' : List α} {m m' : List β}, Paired F l m → Paired F l' m' → Paired F (l ++ l') (m ++ m')
  | _, _, _, _, .nil, h => h
  | _, _, _, _, .cons r t, h => .cons r (Paired.app t h)
theorem Paired.at_ {α β : Type} {F : α → β → Prop} : ∀ {l : List α} {m : List β} {i : Nat} {y : β}, Paired F l m → m[i]? = some y → ∃ x, l[i]? = some x ∧ F x y
  | _, _, _, _, .nil, e => by simp at e
  | _, _, 0, _, .cons r _, e => by simp at e; subst e; exact ⟨_, rfl, r⟩
  | _, _, i + 1, y, .cons _ t, e => by
    obtain ⟨u, h1, h2⟩ := Paired.at_ (i := i) (y := y) t (by simpa using e)
    exact ⟨u, by simpa using h1, h2⟩
theorem Paired.len {α β : Type} {F : α → β → Prop} : ∀ {l : List α} {m : List β}, Paired F l m → l.length = m.length
  | _, _, .nil => rfl
  | _, _, .cons _ t => congrArg (· + 1) (Paired.len t)
/-- the __init__ of a class that stores its arguments in fields -/
structure spInit (C : Addr) (fs : List Str) (vs : List V) (H : Hp) (Q : VK) (E : XK) : Prop where
  ex : ∃ (x dx : Addr) (us : List V), vs = .ref x :: us ∧ us.length = fs.length ∧ H x = some (.ins C dx []) ∧ Q .non (upd H x (.ins C dx (fs.zip us)))
theorem init_go {C x dx : Addr} {fs : List Str} {us : List V} {H : Hp} {Q : VK} {E : XK} (h : us.length = fs.length) (k : Q (.ref x) (upd (upd H dx (.own x)) x (.ins C dx (fs.zip us)))) :
    spInit C fs (.ref x :: us) (upd (upd H dx (.own x)) x (.ins C dx [])) (fun v H2 => v = .non ∧ Q (.ref x) H2) E :=
  ⟨⟨x, dx, us, rfl, h, upd_same, rfl, by rw [upd_upd]; exact k⟩⟩
theorem lf {f : Str} {v : V} {fs : List (Str × V)} {n : Nat} (h : fs.length ≤ n) : (putF f v fs).length ≤ n + 1 := Nat.le_trans (length_putF f v fs) (Nat.succ_le_succ h)
theorem lf1 {f : Str} {v : V} : (putF f v []).length < 1000 := Nat.lt_of_le_of_lt (lf (Nat.le_refl _)) (by decide)
theorem lf2 {f g : Str} {v u : V} : (putF f v (putF g u [])).length < 1000 := Nat.lt_of_le_of_lt (lf (lf (Nat.le_refl _))) (by decide)
theorem lf3 {f g h : Str} {v u y : V} : (putF f v (putF g u (putF h y []))).length < 1000 := Nat.lt_of_le_of_lt (lf (lf (lf (Nat.le_refl _)))) (by decide)
structure spRunEnd (vs : List V) (H : Hp) (Q : VK) (E : XK) : Prop where
  ex : ∃ (row : Str) (c : Nat) (ls : Str), vs = [.str row, .int c, .str ls] ∧ c ≤ (tl row).length ∧ (tl row).length ≤ 3000 ∧ Q (.int ((c + runL (tl ls) ((tl row).drop c) : Nat) : Int)) H
section
variable {P : Program} {w : World} {K : PySem.W.Frag} {mg : Str → Option Value} {base : Heap} {a : Ad}
theorem ok_Token_init (T : Txt K mg a) : FnOk P w K mg base CX0 1 a.f_Token_init a.d_Token_init ["self", "kind", "text", "line", "column"] (spInit a.C_Token ["kind", "text", "line", "column"]) := by
  refine T.F_Token_init.ok sc_Token_init (fun vs H Q E h => ?_) (fun cdv A outer s H vs Q E hr h => ?_)
  · obtain ⟨⟨x, dx, us, rfl, hl, _⟩⟩ := h
    exact congrArg (· + 1) hl
  · obtain ⟨⟨x, dx, us, rfl, hl, hx, k⟩⟩ := h
    match us, hl with
    | [u1, u2, u3, u4], _ =>
      refine ⟨_, (pss_cons (ps_fld (pv 0) (pv 1) rfl)
      (pss_cons (ps_fld (pv 0) (pv 2) rfl)
      (pss_cons (ps_fld (pv 0) (pv 3) rfl)
      (pss_one (ps_fld (pv 0) (pv 4) rfl))))), ?_⟩
      refine ⟨_, rfl, _, rfl, x, _, dx, _, rfl, hx, T.cl_Token, T.n_Token_kind, by decide, ?_⟩
      refine ⟨_, rfl, _, rfl, x, _, dx, _, rfl, upd_same, T.cl_Token, T.n_Token_text, lf1, ?_⟩
      refine ⟨_, rfl, _, rfl, x, _, dx, _, rfl, upd_same, T.cl_Token, T.n_Token_line, lf2, ?_⟩
      refine ⟨_, rfl, _, rfl, x, _, dx, _, rfl, upd_same, T.cl_Token, T.n_Token_column, lf3, ?_⟩
      rw [upd_upd, upd_upd, upd_upd]
      have e : putF "column" u4 (putF "line" u3 (putF "text" u2 (putF "kind" u1 []))) = (["kind", "text", "line", "column"] : List Str).zip [u1, u2, u3, u4] := by
        show putF "column" u4 (putF "line" u3 (putF "text" u2 [("kind", u1)])) = _
        rw [putF_new (fs := [("kind", u1)]) (show ("text" : Str) ∉ (["kind"] : List Str) by decide +kernel)]
        show putF "column" u4 (putF "line" u3 [("kind", u1), ("text", u2)]) = _
        rw [putF_new (fs := [("kind", u1), ("text", u2)]) (show ("line" : Str) ∉ (["kind", "text"] : List Str) by decide +kernel)]
        show putF "column" u4 [("kind", u1), ("text", u2), ("line", u3)] = _
        rw [putF_new (fs := [("kind", u1), ("text", u2), ("line", u3)]) (show ("column" : Str) ∉ (["kind", "text", "line"] : List Str) by decide +kernel)]
        rfl
      rw [e]
      exact k
theorem ok_run_end (T : Txt K mg a) : FnOk P w K mg base CX0 1 a.f_run_end a.d_run_end ["row", "start", "letters"] spRunEnd := by
  refine T.F_run_end.ok sc_run_end (fun vs H Q E h => ?_) (fun cdv A outer s H vs Q E hr h => ?_)
  · obtain ⟨⟨row, c, ls, rfl, _⟩⟩ := h
    rfl
  · obtain ⟨⟨row, c, ls, rfl, hc, hl, k⟩⟩ := h
    refine ⟨_, (pss_cons (ps_set (i := 3) sc_run_end.nd rfl (Or.inl rfl) (pv 1))
      (pss_cons (ps_while PassesOwn.never (PW.pt (pw_and (pt_cmpR op_lt (pv 3) (pe_callB call_len_str (by rfl) T.z_len (by decide +kernel) (pa_cons (pv 0) pa_nil)) (nomark _)) (pw_and1 (pt_cmpR op_in_sign (pe_ix ix_str (pv 0) (pv 3) (fun _ _ => rfl)) (pv 2) rfl)))) (pss_one (ps_aug (i := 3) sc_run_end.nd rfl (Or.inl rfl) pe_int ip_add)))
      (pss_one (ps_ret (pv 3))))), ?_⟩
    have hz : row.length ≤ sizeLine := small 3000 (by rw [len_tl]; exact hl) (by decide)
    refine ⟨_, rfl, ?_⟩
    refine while_by (fun σ H' => H' = H ∧ ∃ e : Nat, σ = [some (.str row), some (.int c), some (.str ls), some (.int e)] ∧ c ≤ e ∧ e ≤ (tl row).length ∧ e + runL (tl ls) ((tl row).drop e) = c + runL (tl ls) ((tl row).drop c))
      (fun σ _ => match σ with | [_, _, _, some (.int e)] => (tl row).length - e.toNat | _ => 0) ⟨rfl, c, rfl, Nat.le_refl _, hc, rfl⟩ ?_ ?_
    · rintro σ H' ⟨rfl, e, rfl, h1, h2, h3⟩
      refine ⟨_, rfl, _, rfl, _, rfl, hz, _, _, rfl, rfl, _, rfl, ?_⟩
      refine ite2 (fun q => ?_) (fun q => ?_)
      · have q1 : e < (tl row).length := by
          have := of_decide_eq_true q
          rw [len_tl] at this
          omega
        have q2 : (tl row)[e]? = some ((tl row)[e]) := List.getElem?_eq_getElem q1
        refine ⟨_, rfl, _, rfl, row, _, (tl row)[e], rfl, rfl, hz, atI_nat q2, _, rfl, _, _, rfl, rfl, _, rfl, ?_⟩
        have q3 : (tl row).drop e = (tl row)[e] :: (tl row).drop (e + 1) := List.drop_eq_getElem_cons q1
        refine ite2 (fun m => ?_) (fun m => ?_)
        · have m1 : (tl row)[e] ∈ tl ls := of_decide_eq_true m
          refine ⟨_, rfl, _, _, rfl, rfl, ⟨rfl, e + 1, rfl, by omega, by omega, ?_⟩, ?_⟩
          · rw [q3] at h3
            rw [← h3]
            show _ = e + (if _ then _ else _)
            rw [if_pos m1]
            omega
          · show (tl row).length - ((e : Int) + 1).toNat < (tl row).length - ((e : Int)).toNat
            omega
        · have m1 : ¬ (tl row)[e] ∈ tl ls := fun z => m (decide_eq_true z)
          refine ⟨_, rfl, ?_⟩
          have e0 : e = c + runL (tl ls) ((tl row).drop c) := by
            rw [← h3, q3]
            show _ = e + (if _ then _ else _)
            rw [if_neg m1]
            rfl
          rw [e0]
          exact k
      · have q1 : ¬ (e : Int) < ((row.length : Nat) : Int) := fun z => q (decide_eq_true z)
        rw [len_tl] at q1
        refine ⟨_, rfl, ?_⟩
        have e0 : e = c + runL (tl ls) ((tl row).drop c) := by
          rw [← h3, List.drop_eq_nil_of_le (by omega)]
          rfl
        rw [e0]
        exact k
    · intro σ H Q Q' hq h
      obtain ⟨v, hv, x, hx, z, e, hz, i, j, e1, e2, b, e3, h⟩ := h
      refine ⟨v, hv, x, hx, z, e, hz, i, j, e1, e2, b, e3, ?_⟩
      revert h
      cases b with
      | true =>
        intro h
        obtain ⟨v, hv, x, hx, z, i, c, e1, e2, hz, ha, y, hy, c', z', e3, e4, k', e5, h⟩ := h
        exact ⟨v, hv, x, hx, z, i, c, e1, e2, hz, ha, y, hy, c', z', e3, e4, k', e5, hq _ _ h⟩
      | false =>
        intro h
        exact hq _ _ h
end
end Sb

namespace Sb
open PySem PySem.Spec PyProof.Rows L2 TL
/-- a token in the data heap, with its place -/
def TokP (C : Addr) (G : Hp) (v : V) (q : Tk × Nat × Nat) : Prop := ∃ (p dx : Addr), v = .ref p ∧ G p = some (.ins C dx (tokF q.1 q.2.1 q.2.2))
theorem TokP.mono {C : Addr} {G G' : Hp} {v : V} {q : Tk × Nat × Nat} (s : Same G G') (h : TokP C G v q) : TokP C G' v q := by
  obtain ⟨p, dx, e, h⟩ := h
  exact ⟨p, dx, e, s _ _ h⟩
theorem TokP.tok {C : Addr} {G : Hp} {v : V} {q : Tk × Nat × Nat} (h : TokP C G v q) : TokAt C G v q.1 := by
  obtain ⟨p, dx, e, h⟩ := h
  exact ⟨p, dx, q.2.1, q.2.2, e, h⟩
def ToksP (C : Addr) (G : Hp) : List V → List (Tk × Nat × Nat) → Prop := Paired (TokP C G)
theorem ToksP.mono {C : Addr} {G G' : Hp} {vs : List V} {ts : List (Tk × Nat × Nat)} (s : Same G G') (h : ToksP C G vs ts) : ToksP C G' vs ts := Paired.mapP h fun _ _ => TokP.mono s
theorem ToksP.toks {C : Addr} {G : Hp} : ∀ {vs : List V} {ts : List (Tk × Nat × Nat)}, ToksP C G vs ts → ToksAt C G vs (ts.map (·.1))
  | _, _, .nil => .nil
  | _, _, .cons r t => .cons r.tok (ToksP.toks t)
structure spReadToken (C : Addr) (vs : List V) (H : Hp) (Q : VK) (E : XK) : Prop where
  ex : ∃ (row : Str) (l c : Nat) (G : Hp) (tk : Tk) (rest : List Nat), vs = [.str row, .int l, .int c] ∧ c ≤ (tl row).length ∧ (tl row).length ≤ 3000 ∧ Rd ((tl row).drop c) tk rest ∧ Pure G H Q (fun G' v => TokP C G' v (tk, l, c))
theorem in_strs (x : Str) : ∀ l : List Str, inV (.str x) (l.map V.str) = decide (x ∈ l)
  | [] => by simp [inV]
  | n :: r => by
    have ih := in_strs x r
    unfold inV at ih ⊢
    rw [List.map_cons, List.any_cons, ih]
    have e : eqV (.str n) (.str x) = decide (n = x) := by
      unfold eqV
      by_cases h : n = x
      · subst h; simp
      · simp [h]
    rw [e]
    by_cases h : n = x
    · subst h; simp
    · have h' : ¬ x = n := fun q => h q.symm
      simp [h, h']
theorem strs_flat (l : List Str) : (l.map V.str).all flatV = true := by
  rw [List.all_eq_true]
  intro x hx
  obtain ⟨n, _, rfl⟩ := List.mem_map.mp hx
  rfl
theorem mem_tl {x : Str} {l : List Str} : x ∈ l ↔ tl x ∈ l.map tl := by
  constructor
  · exact fun h => List.mem_map.mpr ⟨x, h, rfl⟩
  · intro h
    obtain ⟨y, hy, e⟩ := List.mem_map.mp h
    rw [← ext_tl e]
    exact hy
theorem kw_ne : ∀ t ∈ kwL, t ≠ [] := by decide +kernel
theorem sgn_no_dig {c : Nat} (h : c ∈ tl digS) : c ∉ tl sgnS := by rw [mem_dig] at h; rw [mem_sgn]; omega
theorem sgn_no_let {c : Nat} (h : c ∈ tl letS) : c ∉ tl sgnS := by rw [mem_let] at h; rw [mem_sgn]; omega
theorem dig_no_let {c : Nat} (h : c ∈ tl letS) : c ∉ tl digS := by rw [mem_let] at h; rw [mem_dig]; omega
theorem tok_mk {C x dx : Addr} {G : Hp} {k : Kd} {t : Str} {l c : Nat} {tk : Tk} (h1 : k = tk.k) (h2 : tl t = tk.t) : TokP C (upd (upd G dx (.own x)) x (.ins C dx ((["kind", "text", "line", "column"] : List Str).zip [.str (kS k), .str t, .int l, .int c]))) (.ref x) (tk, l, c) :=
  ⟨x, dx, rfl, by
    rw [upd_same]
    subst h1
    have e : t = mkS tk.t := mkS_of h2
    subst e
    rfl⟩
section
variable {P : Program} {w : World} {K : PySem.W.Frag} {mg : Str → Option Value} {base : Heap} {a : Ad}
theorem ok_read_token (T : Txt K mg a) : FnOk P w K mg base CX0 3 a.f_read_token a.d_read_token ["row", "line", "column"] (spReadToken a.C_Token) := by
  refine T.F_read_token.ok sc_read_token (fun vs H Q E h => ?_) (fun cdv A outer s H vs Q E hr h => ?_)
  · obtain ⟨⟨row, l, c, G, tk, rest, rfl, _⟩⟩ := h
    rfl
  · obtain ⟨⟨row, l, c, G, tk, rest, rfl, hc, hl, hR, hGH, k⟩⟩ := h
    refine ⟨_, (pss_cons (ps_set (i := 3) sc_read_token.nd rfl (Or.inl rfl) (pe_ix ix_str (pv 0) (pv 2) (fun _ _ => rfl)))
      (pss_cons (ps_if (pt_cmpR op_in_sign (pv 3) (pe_glob (v := V.str (Str.ofString ";:{}")) rfl T.c_SIGNS ⟨_, rfl⟩) rfl) (pss_one (ps_ret (pe_make T.mk_Token (ok_Token_init T) (hr.mono (by decide)) (by rfl) T.m_Token (b_Token_init T) .nil pass0 (pa_cons (pe_glob (v := V.str (Str.ofString "sign")) rfl T.c_SIGN ⟨_, rfl⟩) (pa_cons (pv 3) (pa_cons (pv 1) (pa_cons (pv 2) pa_nil))))))) pss_nil)
      (pss_cons (ps_if (pt_cmpR op_in_sign (pv 3) (pe_glob (v := V.str (Str.ofString "0123456789")) rfl T.c_DIGITS ⟨_, rfl⟩) rfl) (pss_cons (ps_set (i := 4) sc_read_token.nd rfl (Or.inl rfl) (pe_slice sl_str (pv 0) (po_some (pv 2)) (po_some (pe_call (ok_run_end T) (hr.mono (by decide)) rfl T.m_run_end T.F_run_end.kp (b_run_end T) .nil pass0 (pa_cons (pv 0) (pa_cons (pv 2) (pa_cons (pe_glob (v := V.str (Str.ofString "0123456789")) rfl T.c_DIGITS ⟨_, rfl⟩) pa_nil)))))))
      (pss_cons (ps_if (PW.pt (pw_or (pt_cmpR op_gt (pe_callB call_len_str (by rfl) T.z_len (by decide +kernel) (pa_cons (pv 4) pa_nil)) (pe_glob (v := V.int 2) rfl T.c_MAX_DIGITS ⟨_, rfl⟩) (nomark _)) (pw_or1 (PW.pt (pw_and (pt_cmpR op_gt (pe_callB call_len_str (by rfl) T.z_len (by decide +kernel) (pa_cons (pv 4) pa_nil)) pe_int (nomark _)) (pw_and1 (pt_cmpR op_eq (pv 3) pe_str (nomark _)))))))) pss_never pss_nil)
      (pss_one (ps_ret (pe_make T.mk_Token (ok_Token_init T) (hr.mono (by decide)) (by rfl) T.m_Token (b_Token_init T) .nil pass0 (pa_cons (pe_glob (v := V.str (Str.ofString "number")) rfl T.c_NUMBER ⟨_, rfl⟩) (pa_cons (pv 4) (pa_cons (pv 1) (pa_cons (pv 2) pa_nil))))))))) pss_nil)
      (pss_cons (ps_set (i := 4) sc_read_token.nd rfl (Or.inl rfl) (pe_slice sl_str (pv 0) (po_some (pv 2)) (po_some (pe_call (ok_run_end T) (hr.mono (by decide)) rfl T.m_run_end T.F_run_end.kp (b_run_end T) .nil pass0 (pa_cons (pv 0) (pa_cons (pv 2) (pa_cons (pe_glob (v := V.str (Str.ofString "abcdefghijklmnopqrstuvwxyz")) rfl T.c_LETTERS ⟨_, rfl⟩) pa_nil)))))))
      (pss_cons (ps_if (pt_cmpR op_in_seq (pv 4) (pe_glob (v := V.ref a.A_KEYWORDS) rfl T.c_KEYWORDS rfl) rfl) (pss_one (ps_ret (pe_make T.mk_Token (ok_Token_init T) (hr.mono (by decide)) (by rfl) T.m_Token (b_Token_init T) .nil pass0 (pa_cons (pe_glob (v := V.str (Str.ofString "keyword")) rfl T.c_KEYWORD ⟨_, rfl⟩) (pa_cons (pv 4) (pa_cons (pv 1) (pa_cons (pv 2) pa_nil))))))) pss_nil)
      (pss_cons (ps_if (pt_not (pt_chain op_le op_le pe_int (pe_callB call_len_str (by rfl) T.z_len (by decide +kernel) (pa_cons (pv 4) pa_nil)) (pe_glob (v := V.int 8) rfl T.c_MAX_LETTERS ⟨_, rfl⟩))) pss_never pss_nil)
      (pss_one (ps_ret (pe_make T.mk_Token (ok_Token_init T) (hr.mono (by decide)) (by rfl) T.m_Token (b_Token_init T) .nil pass0 (pa_cons (pe_glob (v := V.str (Str.ofString "name")) rfl T.c_NAME ⟨_, rfl⟩) (pa_cons (pv 4) (pa_cons (pv 1) (pa_cons (pv 2) pa_nil))))))))))))), ?_⟩
    have hz : row.length ≤ sizeLine := small 3000 (by rw [len_tl]; exact hl) (by decide)
    generalize hd : (tl row).drop c = rem at hR
    -- the first sign
    have start : ∀ ch r, rem = ch :: r → (tl row)[c]? = some ch := fun ch r e => by
      have h1 : ((tl row).drop c)[0]? = some ch := by rw [hd, e]; rfl
      rw [List.getElem?_drop] at h1
      exact h1
    -- the word that is cut
    have cut : ∀ (S : Str) (t r : List Nat), rem = t ++ r → (∀ x ∈ t, x ∈ tl S) → HeadNot (tl S) r → tl (cutS row (some (c : Int)) (some ((c + runL (tl S) ((tl row).drop c) : Nat) : Int))) = t := fun S t r e h1 h2 => by
      have e1 : runL (tl S) ((tl row).drop c) = t.length := by rw [hd, e]; exact runL_app h1 h2
      have e2 : c + t.length ≤ (tl row).length := by
        have := congrArg List.length (hd.trans e)
        rw [List.length_drop, List.length_append] at this
        omega
      rw [e1, cut_run e2, hd, e, List.take_left]
    cases hR with
    | @sign ch r hs =>
      refine ⟨_, rfl, _, rfl, row, _, ch, rfl, rfl, hz, atI_nat (start _ _ rfl), ?_⟩
      refine ⟨_, rfl, _, _, rfl, rfl, _, rfl, ite_t (decide_eq_true hs) ?_⟩
      refine ⟨_, rfl, _, rfl, _, rfl, fun x dx nx nd ne => init_go rfl ?_⟩
      exact k _ _ _ ((Ext.refl hGH).make nx nd ne _) (same_make nx nd ne _) (tok_mk (k := .sign) rfl rfl)
    | @num t r hne hdg hle h0 hr0 =>
      obtain ⟨ch, t', rfl⟩ : ∃ ch t', t = ch :: t' := by cases t with | nil => exact absurd rfl hne | cons x y => exact ⟨x, y, rfl⟩
      have hch := hdg ch (by simp)
      refine ⟨_, rfl, _, rfl, row, _, ch, rfl, rfl, hz, atI_nat (start _ _ rfl), ?_⟩
      refine ⟨_, rfl, _, _, rfl, rfl, _, rfl, ite_f (decide_eq_false (sgn_no_dig hch)) ?_⟩
      refine ⟨_, rfl, _, _, rfl, rfl, _, rfl, ite_t (decide_eq_true hch) ?_⟩
      refine ⟨_, rfl, _, rfl, _, rfl, _, rfl, _, rfl, ⟨row, c, digS, rfl, hc, hl, _, rfl, row, rfl, hz, ?_⟩⟩
      have hw := cut digS (ch :: t') rest rfl hdg hr0
      dsimp only [gName]
      revert hw
      generalize cutS row (some (c : Int)) (some ((c + runL (tl digS) ((tl row).drop c) : Nat) : Int)) = word
      intro hw
      have wl : word.length ≤ 2 := by rw [len_tl, hw]; exact hle
      have wz : word.length ≤ sizeLine := small 2 wl (by decide)
      refine ⟨_, rfl, word, rfl, wz, _, _, rfl, rfl, _, rfl, ite_f (decide_eq_false (by omega)) ?_⟩
      have fin : ∀ H' : Hp, H' = H → (tRet (tMake a.C_Token (spInit a.C_Token ["kind", "text", "line", "column"]) [] E0 (tCons (tC (.str (Str.ofString "number"))) (tCons (tVar 4) (tCons (tVar 1) (tCons (tVar 2) tNil)))))) { nx := fun _ H' => Q .non H', rt := Q } [some (.str row), some (.int l), some (.int c), some (.str ⟨#[ch]⟩), some (.str word)] H' := by
        rintro H' rfl
        refine ⟨_, rfl, _, rfl, _, rfl, fun x dx nx nd ne => init_go rfl ?_⟩
        exact k _ _ _ ((Ext.refl hGH).make nx nd ne _) (same_make nx nd ne _) (tok_mk (k := .number) rfl hw)
      refine ⟨_, rfl, word, rfl, wz, _, _, rfl, rfl, _, rfl, ?_⟩
      refine ite2 (fun q => ?_) (fun q => ?_)
      · have q1 : 1 < (ch :: t').length := by
          have := of_decide_eq_true q
          rw [len_tl, hw] at this
          exact_mod_cast this
        refine ⟨_, rfl, rfl, _, rfl, ite_f (decide_eq_false fun z => ?_) (fin H rfl)⟩
        injection z with z
        have z1 : [ch] = tl (Str.ofString "0") := by rw [← z]
        have z2 : tl (Str.ofString "0") = [48] := by decide +kernel
        rw [z2] at z1
        injection z1 with z1
        exact h0 q1 (by rw [z1]; rfl)
      · exact ite_f rfl (fin H rfl)
    | @kw t r hlt hkw hr0 =>
      obtain ⟨ch, t', rfl⟩ : ∃ ch t', t = ch :: t' := by cases t with | nil => exact absurd rfl (kw_ne _ hkw) | cons x y => exact ⟨x, y, rfl⟩
      have hch := hlt ch (by simp)
      refine ⟨_, rfl, _, rfl, row, _, ch, rfl, rfl, hz, atI_nat (start _ _ rfl), ?_⟩
      refine ⟨_, rfl, _, _, rfl, rfl, _, rfl, ite_f (decide_eq_false (sgn_no_let hch)) ?_⟩
      refine ⟨_, rfl, _, _, rfl, rfl, _, rfl, ite_f (decide_eq_false (dig_no_let hch)) ?_⟩
      refine ⟨_, rfl, _, rfl, _, rfl, _, rfl, _, rfl, ⟨row, c, letS, rfl, hc, hl, _, rfl, row, rfl, hz, ?_⟩⟩
      have hw := cut letS (ch :: t') rest rfl hlt hr0
      dsimp only [gName]
      revert hw
      generalize cutS row (some (c : Int)) (some ((c + runL (tl letS) ((tl row).drop c) : Nat) : Int)) = word
      intro hw
      have hk : word ∈ kwS := mem_tl.mpr (by rw [hw]; exact hkw)
      refine ⟨_, rfl, a.A_KEYWORDS, kwS.map V.str, rfl, .inr (T.q_KEYWORDS H), rfl, strs_flat _, _, rfl, ite_t ?_ ?_⟩
      · rw [if_neg Bool.false_ne_true, in_strs]; exact decide_eq_true hk
      refine ⟨_, rfl, _, rfl, _, rfl, fun x dx nx nd ne => init_go rfl ?_⟩
      exact k _ _ _ ((Ext.refl hGH).make nx nd ne _) (same_make nx nd ne _) (tok_mk (k := .keyword) rfl hw)
    | @nm t r hlt h1 h8 hkw hr0 =>
      obtain ⟨ch, t', rfl⟩ : ∃ ch t', t = ch :: t' := by cases t with | nil => exact absurd h1 (by decide) | cons x y => exact ⟨x, y, rfl⟩
      have hch := hlt ch (by simp)
      refine ⟨_, rfl, _, rfl, row, _, ch, rfl, rfl, hz, atI_nat (start _ _ rfl), ?_⟩
      refine ⟨_, rfl, _, _, rfl, rfl, _, rfl, ite_f (decide_eq_false (sgn_no_let hch)) ?_⟩
      refine ⟨_, rfl, _, _, rfl, rfl, _, rfl, ite_f (decide_eq_false (dig_no_let hch)) ?_⟩
      refine ⟨_, rfl, _, rfl, _, rfl, _, rfl, _, rfl, ⟨row, c, letS, rfl, hc, hl, _, rfl, row, rfl, hz, ?_⟩⟩
      have hw := cut letS (ch :: t') rest rfl hlt hr0
      dsimp only [gName]
      revert hw
      generalize cutS row (some (c : Int)) (some ((c + runL (tl letS) ((tl row).drop c) : Nat) : Int)) = word
      intro hw
      have hk : ¬ word ∈ kwS := fun z => hkw (by rw [← hw]; exact mem_tl.mp z)
      have wl : word.length ≤ 8 := by rw [len_tl, hw]; exact h8
      have wl1 : 1 ≤ word.length := by rw [len_tl, hw]; exact h1
      have wz : word.length ≤ sizeLine := small 8 wl (by decide)
      refine ⟨_, rfl, a.A_KEYWORDS, kwS.map V.str, rfl, .inr (T.q_KEYWORDS H), rfl, strs_flat _, _, rfl, ite_f ?_ ?_⟩
      · rw [if_neg Bool.false_ne_true, in_strs]; exact decide_eq_false hk
      refine ⟨_, rfl, word, rfl, wz, _, _, rfl, rfl, _, rfl, ite_t (decide_eq_true (by omega)) ⟨_, _, rfl, rfl, _, rfl, ?_⟩⟩
      refine ite_f (by rw [decide_eq_true (show ((word.length : Nat) : Int) ≤ 8 by omega)]; rfl) ?_
      refine ⟨_, rfl, _, rfl, _, rfl, fun x dx nx nd ne => init_go rfl ?_⟩
      exact k _ _ _ ((Ext.refl hGH).make nx nd ne _) (same_make nx nd ne _) (tok_mk (k := .name) rfl hw)
end
end Sb

namespace Sb
open PySem PySem.Spec PyProof.Rows L2 TL
/-! ### within a def that changes nothing that stood -/
structure Pt (G0 H0 G H : Hp) : Prop where
  ext : Ext G0 H0 G H
  sm : Same H0 H
section
variable {G0 H0 G H G1 H1 : Hp} {p l x dx : Addr} {o : HO}
theorem Pt.start (s : Same G H) : Pt G H G H := ⟨Ext.refl s, Same.refl H⟩
theorem Pt.new (a : Pt G0 H0 G H) (np : H p = none) (o : HO) : Pt G0 H0 (upd G p o) (upd H p o) := ⟨a.ext.new np, a.sm.trans (same_new np)⟩
theorem Pt.lay (a : Pt G0 H0 G H) (np : H p = none) (o : HO) : Pt G0 H0 G (upd H p o) := ⟨a.ext.lay np, a.sm.trans (same_new np)⟩
theorem Pt.put (a : Pt G0 H0 G H) (n0 : H0 l = none) (n : G l = none) (o : HO) : Pt G0 H0 G (upd H l o) := ⟨a.ext.put n, same_put a.sm n0⟩
theorem Pt.freeze (a : Pt G0 H0 G H) (n0 : H0 l = none) (h : H l = some o) : Pt G0 H0 (upd G l o) H := ⟨a.ext.freeze n0 h, a.sm⟩
theorem Pt.make (a : Pt G0 H0 G H) (nx : H x = none) (nd : H dx = none) (ne : dx ≠ x) (o : HO) : Pt G0 H0 (upd (upd G dx (.own x)) x o) (upd (upd H dx (.own x)) x o) := ⟨a.ext.make nx nd ne o, a.sm.trans (same_make nx nd ne o)⟩
theorem Pt.call (a : Pt G0 H0 G H) (e : Ext G H G1 H1) (s : Same H H1) : Pt G0 H0 G1 H1 := ⟨a.ext.trans e, a.sm.trans s⟩
theorem Pt.s (a : Pt G0 H0 G H) : Same G H := a.ext.h
theorem Pt.g (a : Pt G0 H0 G H) : Same G0 G := a.ext.g
theorem Pt.free (a : Pt G0 H0 G H) (np : H p = none) : H0 p = none := Same.free a.sm np
theorem Pt.freeG (a : Pt G0 H0 G H) (np : H p = none) : G p = none := Same.free a.ext.h np
theorem frozen (n : G l = none) : Same G (upd G l o) := same_new n
/-- what is not data stays so through a call -/
theorem out_call (e : Ext G H G1 H1) (n : G l = none) (h : H l = some o) : G1 l = none := e.out n h
end
theorem init_go2 {C x dx : Addr} {fs : List Str} {us : List V} {H : Hp} {Q : VK} {E : XK} (h : us.length = fs.length) (k : Q .non (upd (upd H dx (.own x)) x (.ins C dx (fs.zip us)))) :
    spInit C fs (.ref x :: us) (upd (upd H dx (.own x)) x (.ins C dx [])) Q E :=
  ⟨⟨x, dx, us, rfl, h, upd_same, by rw [upd_upd]; exact k⟩⟩
theorem paired_get {α β : Type} {F : α → β → Prop} : ∀ {l : List α} {m : List β} {i : Nat} {x : α}, Paired F l m → l[i]? = some x → ∃ y, m[i]? = some y ∧ F x y
  | _, _, _, _, .nil, e => by simp at e
  | _, _, 0, _, .cons r _, e => by simp at e; subst e; exact ⟨_, rfl, r⟩
  | _, _, i + 1, y, .cons _ t, e => by
    obtain ⟨u, h1, h2⟩ := paired_get (i := i) (x := y) t (by simpa using e)
    exact ⟨u, by simpa using h1, h2⟩
theorem flat_take {α : Type} {l : List (List α)} {i : Nat} {x : List α} (h : l[i]? = some x) : (l.take (i + 1)).flatten = (l.take i).flatten ++ x := by
  rw [take_more h, List.flatten_append]
  simp
theorem flat_le {α : Type} : ∀ (l : List (List α)) (i : Nat), (l.take i).flatten.length ≤ l.flatten.length
  | [], i => by simp
  | x :: r, 0 => by simp
  | x :: r, i + 1 => by
    have := flat_le r i
    simp only [List.take_succ_cons, List.flatten_cons, List.length_append]
    omega
/-- a row's tokens with their columns -/
inductive LxC : Nat → List Nat → List (Tk × Nat) → Prop
  | nil {c : Nat} : LxC c [] []
  | sp {c : Nat} {r : List Nat} {ts : List (Tk × Nat)} : LxC (c + 1) r ts → LxC c (32 :: r) ts
  | tok {c : Nat} {l r : List Nat} {tk : Tk} {ts : List (Tk × Nat)} : Rd l tk r → LxC (c + tk.t.length) r ts → LxC c l ((tk, c) :: ts)
theorem Lx.col {l : List Nat} {ts : List Tk} (h : Lx l ts) : ∀ c : Nat, ∃ qs, LxC c l qs ∧ qs.map (·.1) = ts := by
  induction h with
  | nil => exact fun c => ⟨[], .nil, rfl⟩
  | sp _ ih => exact fun c => (ih (c + 1)).imp fun qs h => ⟨.sp h.1, h.2⟩
  | tok hr _ ih => exact fun c => let ⟨qs, h1, h2⟩ := ih (c + _); ⟨_, .tok hr h1, by rw [List.map_cons, h2]⟩
def posT : Nat → List (List (Tk × Nat)) → List (Tk × Nat × Nat)
  | _, [] => []
  | i, q :: qs => q.map (fun z => (z.1, i, z.2)) ++ posT (i + 1) qs
theorem posT_take : ∀ {qss : List (List (Tk × Nat))} {i k : Nat} {q : List (Tk × Nat)}, qss[i]? = some q → posT k (qss.take (i + 1)) = posT k (qss.take i) ++ q.map (fun z => (z.1, k + i, z.2))
  | x :: r, 0, k, q, h => by
    cases h
    simp [posT]
  | x :: r, i + 1, k, q, h => by
    have ih := posT_take (qss := r) (i := i) (k := k + 1) h
    rw [List.take_succ_cons, List.take_succ_cons]
    unfold posT
    rw [ih, List.append_assoc, show k + 1 + i = k + (i + 1) from by omega]
theorem posT_fst : ∀ {qss : List (List (Tk × Nat))} {k : Nat}, (posT k qss).map (·.1) = (qss.map fun q => q.map (·.1)).flatten
  | [], _ => rfl
  | q :: qs, k => by
    unfold posT
    rw [List.map_append, List.map_cons, List.flatten_cons, posT_fst, List.map_map]
    rfl
theorem posT_le {qss : List (List (Tk × Nat))} (i : Nat) : (posT 0 (qss.take i)).length ≤ (posT 0 qss).length := by
  have e : ∀ {qs : List (List (Tk × Nat))} {k : Nat}, (posT k qs).length = ((qs.map fun q => q.map (·.1)).flatten).length := fun {qs k} => by rw [← posT_fst (k := k), List.length_map]
  rw [e, e, List.map_take]
  exact flat_le _ _
/-- .. with every token's place -/
structure spTokenizeP (C : Addr) (vs : List V) (H : Hp) (Q : VK) (E : XK) : Prop where
  ex : ∃ (src : Str) (G : Hp) (rows : List (List Nat)) (qss : List (List (Tk × Nat))), vs = [.str src] ∧ tl src = joinL [10] rows ∧ rows ≠ [] ∧ (∀ r ∈ rows, 10 ∉ r) ∧ (∀ r ∈ rows, r.length ≤ 3000) ∧ (tl src).length ≤ 3000000 ∧ Paired (LxC 0) rows qss ∧ (posT 0 qss).length ≤ 100000 ∧
    Pure G H Q (fun G' v => ∃ p vs, v = .ref p ∧ G' p = some (.lst vs) ∧ ToksP C G' vs (posT 0 qss ++ [(⟨.fin, []⟩, rows.length, 0)]))
structure spTokenize (C : Addr) (vs : List V) (H : Hp) (Q : VK) (E : XK) : Prop where
  ex : ∃ (src : Str) (G : Hp) (rows : List (List Nat)) (tss : List (List Tk)), vs = [.str src] ∧ tl src = joinL [10] rows ∧ rows ≠ [] ∧ (∀ r ∈ rows, 10 ∉ r) ∧ (∀ r ∈ rows, r.length ≤ 3000) ∧ (tl src).length ≤ 3000000 ∧ Paired Lx rows tss ∧ tss.flatten.length ≤ 100000 ∧
    Pure G H Q (fun G' v => ∃ p vs, v = .ref p ∧ G' p = some (.lst vs) ∧ ToksAt C G' vs (tss.flatten ++ [⟨.fin, []⟩]))
theorem rd_len {l r : List Nat} {k : Tk} (h : Rd l k r) : l = k.t ++ r ∧ k.t ≠ [] := by
  cases h with
  | sign h => exact ⟨rfl, by simp⟩
  | num h => exact ⟨rfl, h⟩
  | kw _ h => exact ⟨rfl, kw_ne _ h⟩
  | @nm t _ _ h => exact ⟨rfl, fun z => by cases t with | nil => exact absurd h (by decide) | cons _ _ => cases z⟩
theorem nsp_rd {c : Nat} {l r : List Nat} {k : Tk} (h : Rd (c :: l) k r) : c ∉ tl spcS := by
  have hs : c ∈ tl sgnS ∨ c ∈ tl digS ∨ c ∈ tl letS := by
    generalize e : c :: l = m at h
    cases h with
    | @sign d r h => injection e with e1 e2; subst e1; exact .inl h
    | @num t r hne h =>
      cases t with
      | nil => exact absurd rfl hne
      | cons x y => injection e with e1 e2; subst e1; exact .inr (.inl (h c (by simp)))
    | @kw t r h hk =>
      cases t with
      | nil => exact absurd rfl (kw_ne _ hk)
      | cons x y => injection e with e1 e2; subst e1; exact .inr (.inr (h c (by simp)))
    | @nm t r h h1 =>
      cases t with
      | nil => simp at h1
      | cons x y => injection e with e1 e2; subst e1; exact .inr (.inr (h c (by simp)))
  rw [mem_sgn, mem_dig, mem_let] at hs
  rw [spc_list]
  simp
  omega
section
variable {P : Program} {w : World} {K : PySem.W.Frag} {mg : Str → Option Value} {base : Heap} {a : Ad}
theorem ok_tokenizeP (T : Txt K mg a) : FnOk P w K mg base CX0 4 a.f_tokenize a.d_tokenize ["source"] (spTokenizeP a.C_Token) := by
  refine T.F_tokenize.ok sc_tokenize (fun vs H Q E h => ?_) (fun cdv A outer s H vs Q E hr h => ?_)
  · obtain ⟨⟨src, G, rows, qss, rfl, _⟩⟩ := h
    rfl
  · obtain ⟨⟨src, G, rows, qss, rfl, hsrc, hne, hno, hrl, hsl, hP, hfl, hGH, k⟩⟩ := h
    refine ⟨_, (pss_cons (ps_set (i := 1) sc_tokenize.nd rfl (Or.inl rfl) (pe_lst pa_nil))
      (pss_cons (ps_set (i := 2) sc_tokenize.nd rfl (Or.inl rfl) (pe_split (pv 0) pe_str))
      (pss_cons (ps_for PassesOwn.never rfl (pi_enum (by rfl) T.z_enumerate (pa_cons (pv 2) pa_nil)) (pg_tup (by rfl) (pgs_cons (pg_name (i := 3) sc_tokenize.nd rfl (Or.inl rfl)) (pgs_cons (pg_name (i := 4) sc_tokenize.nd rfl (Or.inl rfl)) pgs_nil))) (pss_cons (ps_set (i := 5) sc_tokenize.nd rfl (Or.inl rfl) pe_int)
      (pss_one (ps_while PassesOwn.never (pt_cmpR op_lt (pv 5) (pe_callB call_len_str (by rfl) T.z_len (by decide +kernel) (pa_cons (pv 4) pa_nil)) (nomark _)) (pss_one (ps_if (pt_cmpR op_in_sign (pe_ix ix_str (pv 4) (pv 5) (fun _ _ => rfl)) (pe_glob (v := V.str (Str.ofString " \n")) rfl T.c_SPACES ⟨_, rfl⟩) rfl) (pss_one (ps_aug (i := 5) sc_tokenize.nd rfl (Or.inl rfl) pe_int ip_add)) (pss_cons (ps_set (i := 6) sc_tokenize.nd rfl (Or.inl rfl) (pe_call (ok_read_token T) (hr.mono (by decide)) rfl T.m_read_token T.F_read_token.kp (b_read_token T) .nil pass0 (pa_cons (pv 4) (pa_cons (pv 3) (pa_cons (pv 5) pa_nil)))))
      (pss_cons (ps_expr (pe_bm PySem.F.plainAttrs_list PySem.F.slot_list_append PySem.F.type_list_append mt_append (pv 1) (pa_cons (pv 6) pa_nil)))
      (pss_one (ps_aug (i := 5) sc_tokenize.nd rfl (Or.inl rfl) (pe_callB call_len_str (by rfl) T.z_len (by decide +kernel) (pa_cons (pe_fld (pv 6) rfl) pa_nil)) ip_add))))))))))
      (pss_one (ps_ret (pe_op op_cat (pv 1) (pe_lst (pa_cons (pe_make T.mk_Token (ok_Token_init T) (hr.mono (by decide)) (by rfl) T.m_Token (b_Token_init T) .nil pass0 (pa_cons (pe_glob (v := V.str (Str.ofString "end")) rfl T.c_END ⟨_, rfl⟩) (pa_cons pe_str (pa_cons (pe_callB call_len_seq (by rfl) T.z_len (by decide +kernel) (pa_cons (pv 2) pa_nil)) (pa_cons pe_int pa_nil))))) pa_nil)))))))), ?_⟩
    refine ⟨Nat.zero_le _, fun l hl => ?_⟩
    have B1 := (Pt.start hGH).lay hl (.lst [])
    have lG : G l = none := Same.free hGH hl
    refine ⟨_, rfl, ⟨_, rfl⟩, src, _, rfl, rfl, by decide +kernel, small 3000002 (by rw [len_tl]; omega) (by decide), fun rp hrp => ?_⟩
    have hrs : (Txt.split src (Str.ofString "\n")).map tl = rows := by
      rw [split_spl _ _ (by rw [t_nl]; decide) (kind_ok (by decide +kernel)), t_nl, hsrc, spl_join hne hno]
    revert hrs
    generalize Txt.split src (Str.ofString "\n") = rs at *
    intro hrs
    have B2 := B1.new hrp (.lst (rs.map V.str))
    have lrp : l ≠ rp := ne_of_none upd_same hrp
    have hlen : rs.length = rows.length := by rw [← hrs, List.length_map]
    have hlen2 : qss.length = rows.length := (Paired.len hP).symm
    refine ⟨_, rfl, rp, _, rfl, SqL.of upd_same, for_it (walk_enum (K := K) (a := rp) (xs := rs.map V.str)) (fun i σ H' => ∃ (G' : Hp) (vs : List V) (v3 v4 v5 v6 : Option V), σ = [some (.str src), some (.ref l), some (.ref rp), v3, v4, v5, v6] ∧ Pt G H G' H' ∧ G' l = none ∧ G' rp = some (.lst (rs.map V.str)) ∧ H' l = some (.lst vs) ∧ ToksP a.C_Token G' vs (posT 0 (qss.take i))) ?_ ?_ ?_ ?_⟩
    · refine ⟨_, [], none, none, none, none, rfl, B2, ?_, upd_same, ?_, .nil⟩
      · rw [upd_ne lrp]; exact lG
      · rw [upd_ne lrp, upd_same]
    · rintro i σ H' _ ⟨G', vs, v3, v4, v5, v6, rfl, B, _, hrp', _⟩
      exact SqL.of (B.s _ _ hrp')
    · rintro i y σ H1 H2 hi ⟨G', vs, v3, v4, v5, v6, rfl, B, lG', hrp', hvs, htk⟩ ⟨T', x, z, rfl, hT', rfl, hx, hz⟩
      rw [List.length_map] at hi
      cases hx
      obtain ⟨row, hrow, rfl⟩ : ∃ row, rs[i]? = some row ∧ z = .str row := by
        have hz : (rs.map V.str)[i]? = some z := hz
        rw [List.getElem?_map] at hz
        cases e : rs[i]? with
        | none => rw [e] at hz; cases hz
        | some q => rw [e] at hz; exact ⟨q, rfl, (Option.some.inj hz).symm⟩
      have hrow2 : rows[i]? = some (tl row) := by rw [← hrs, List.getElem?_map, hrow]; rfl
      have hr30 : (tl row).length ≤ 3000 := hrl _ (List.mem_of_getElem? hrow2)
      obtain ⟨ts, hts, hLx⟩ := paired_get hP hrow2
      have hz' : row.length ≤ sizeLine := small 3000 (by rw [len_tl]; exact hr30) (by decide)
      have B3 := B.lay hT' (.tup [.int (i : Nat), .str row])
      have lT : l ≠ T' := ne_of_none hvs hT'
      refine ⟨T', _, rfl, SqT.of upd_same, rfl, _, _, rfl, _, _, rfl, rfl, ?_⟩
      -- the row
      refine while_by (fun σ H' => ∃ (c : Nat) (G' : Hp) (vs : List V) (done rem : List (Tk × Nat)) (v6 : Option V), σ = [some (.str src), some (.ref l), some (.ref rp), some (.int (i : Nat)), some (.str row), some (.int c), v6] ∧ Pt G H G' H' ∧ G' l = none ∧ G' rp = some (.lst (rs.map V.str)) ∧ H' l = some (.lst vs) ∧
          ToksP a.C_Token G' vs (posT 0 (qss.take i) ++ done.map (fun z => (z.1, i, z.2))) ∧ ts = done ++ rem ∧ c ≤ (tl row).length ∧ LxC c ((tl row).drop c) rem)
        (fun σ _ => match σ with | [_, _, _, _, _, some (.int e), _] => (tl row).length - e.toNat | _ => 0)
        ⟨0, G', vs, [], ts, _, rfl, B3, lG', hrp', by rw [upd_ne lT]; exact hvs, by rw [List.map_nil, List.append_nil]; exact htk, rfl, Nat.zero_le _, hLx⟩ ?_ ?_
      · rintro σ H3 ⟨c, G3, vs3, done, rem, w6, rfl, C3, lG3, hrp3, hvs3, htk3, hdr, hc, hL⟩
        refine ⟨_, rfl, _, rfl, row, rfl, hz', _, _, rfl, rfl, _, rfl, ?_⟩
        refine ite2 (fun q => ?_) (fun q => ?_)
        · have q1 : c < (tl row).length := by
            have := of_decide_eq_true q
            rw [len_tl] at this
            omega
          have q2 : (tl row)[c]? = some ((tl row)[c]) := List.getElem?_eq_getElem q1
          have q3 : (tl row).drop c = (tl row)[c] :: (tl row).drop (c + 1) := List.drop_eq_getElem_cons q1
          refine ⟨_, rfl, _, rfl, row, _, (tl row)[c], rfl, rfl, hz', atI_nat q2, _, _, rfl, rfl, _, rfl, ?_⟩
          have hL0 := hL
          rw [q3] at hL0
          generalize hch : (tl row)[c] = ch at hL0 q3 ⊢
          cases hL0 with
          | sp hL1 =>
            refine ite_t (decide_eq_true (show 32 ∈ tl spcS by rw [spc_list]; decide)) ?_
            refine ⟨_, rfl, _, _, rfl, rfl, ⟨c + 1, G3, vs3, done, rem, _, rfl, C3, lG3, hrp3, hvs3, htk3, hdr, by omega, hL1⟩, ?_⟩
            show (tl row).length - ((c : Int) + 1).toNat < (tl row).length - ((c : Int)).toNat
            omega
          | @tok _ _ r tk rem' hR hL1 =>
            refine ite_f (decide_eq_false (nsp_rd hR)) ?_
            obtain ⟨hsp, hnt⟩ := rd_len hR
            have hR' : Rd ((tl row).drop c) tk r := by rw [q3]; exact hR
            refine ⟨_, rfl, _, rfl, _, rfl, ⟨row, i, c, G3, tk, r, rfl, by omega, hr30, hR', C3.s, fun G4 H4 v e4 s4 htok => ?_⟩⟩
            have C4 := C3.call e4 s4
            have hvs4 : H4 l = some (.lst vs3) := s4 _ _ hvs3
            have lG4 : G4 l = none := e4.out lG3 hvs3
            obtain ⟨p, dx, rfl, hp⟩ := id htok
            have hpH : H4 p = some (.ins a.C_Token dx (tokF tk i c)) := e4.h _ _ hp
            have lp : p ≠ l := ne_of_none hp lG4
            have hsz : vs3.length ≤ 100000 := by
              rw [Paired.len htk3, List.length_append, List.length_map]
              have h1 := posT_le (qss := qss) (i + 1)
              rw [posT_take hts, List.length_append, List.length_map, hdr, List.length_append] at h1
              omega
            refine ⟨_, rfl, .inl ⟨rfl, _, SqL.of hvs4⟩, _, rfl, l, _, _, rfl, rfl, hvs4, smaller 100000 hsz (by decide), ?_⟩
            have htl : tk.t.length + c ≤ (tl row).length := by
              have := congrArg List.length (q3.trans hsp)
              rw [List.length_drop, List.length_append] at this
              omega
            have hpos : 1 ≤ tk.t.length := by
              cases e : tk.t with
              | nil => exact absurd e hnt
              | cons _ _ => simp
            have ecol : (c : Int) + ((mkS tk.t).length : Int) = ((c + tk.t.length : Nat) : Int) := by rw [len_mkS]; omega
            refine ⟨_, rfl, _, rfl, p, _, dx, _, _, rfl, by rw [upd_ne lp]; exact hpH, T.cl_Token, T.n_Token_text, (by kernel_rfl), mkS tk.t, rfl, small 3000 (by rw [len_mkS]; omega) (by decide), _, _, rfl, rfl, ?_⟩
            refine ⟨⟨c + tk.t.length, G4, vs3 ++ [.ref p], done ++ [(tk, c)], rem', some (.ref p), ?_, C4.put hl lG4 _, lG4, e4.g _ _ hrp3, upd_same, ?_, ?_, by omega, ?_⟩, ?_⟩
            · show [some (V.str src), some (.ref l), some (.ref rp), some (.int (i : Nat)), some (.str row), some (.int ((c : Int) + ((mkS tk.t).length : Int))), some (.ref p)] = _
              rw [ecol]
            · rw [List.map_append, ← List.append_assoc]
              exact Paired.snoc (ToksP.mono e4.g htk3) htok
            · rw [hdr, List.append_assoc]; rfl
            · have : (tl row).drop (c + tk.t.length) = r := by
                rw [← List.drop_drop, q3, hsp, List.drop_left]
              rw [this]
              exact hL1
            · show (tl row).length - ((c : Int) + ((mkS tk.t).length : Int)).toNat < (tl row).length - ((c : Int)).toNat
              rw [ecol]
              omega
        · have q1 : ¬ (c : Int) < ((row.length : Nat) : Int) := fun z => q (decide_eq_true z)
          rw [len_tl] at q1
          have ec : (tl row).drop c = [] := List.drop_eq_nil_of_le (by omega)
          rw [ec] at hL
          have er : rem = [] := by
            generalize e0 : ([] : List Nat) = m at hL
            cases hL with
            | nil => rfl
            | sp _ => cases e0
            | tok hR _ =>
              obtain ⟨h1, h2⟩ := rd_len hR
              rw [← e0] at h1
              exact absurd (List.append_eq_nil_iff.mp h1.symm).1 h2
          refine ⟨G3, vs3, _, _, _, _, rfl, C3, lG3, hrp3, hvs3, ?_⟩
          rw [posT_take hts, hdr, er, List.append_nil, Nat.zero_add]
          exact htk3
      · intro σ H Q Q' hq h
        obtain ⟨v, hv, x, hx, z, e, hz, i, j, e1, e2, b, e3, h⟩ := h
        exact ⟨v, hv, x, hx, z, e, hz, i, j, e1, e2, b, e3, hq _ _ h⟩
    · rintro σ H3 ⟨G3, vs3, v3, v4, v5, v6, rfl, C3, lG3, hrp3, hvs3, htk3⟩
      rw [List.length_map, hlen, ← hlen2, List.take_length] at htk3
      refine ⟨_, rfl, _, rfl, rp, _, rfl, .inl (SqL.of (C3.s _ _ hrp3)), fun x dx nx nd ne => init_go2 rfl ⟨rfl, ?_⟩⟩
      have C4 := C3.make nx nd ne (.ins a.C_Token dx ((["kind", "text", "line", "column"] : List Str).zip [.str (kS .fin), .str (Str.ofString ""), .int ((rs.map V.str).length : Nat), .int ((0 : Nat) : Int)]))
      have lx : l ≠ x := ne_of_none hvs3 nx
      have ldx : l ≠ dx := ne_of_none hvs3 nd
      refine ⟨(by show 1 ≤ sizeLine; decide), fun p1 hp1 => ?_⟩
      have C5 := C4.lay hp1 (.lst [.ref x])
      have lp1 : l ≠ p1 := fun e => by rw [← e, upd_ne lx, upd_ne ldx, hvs3] at hp1; cases hp1
      have hsz : vs3.length ≤ 100000 := by rw [Paired.len htk3]; exact hfl
      refine ⟨l, p1, vs3, _, rfl, rfl, by rw [upd_ne lp1, upd_ne lx, upd_ne ldx]; exact hvs3, upd_same, small 100001 (by show vs3.length + 1 ≤ _; omega) (by decide), fun p2 hp2 => ?_⟩
      have C6 := C5.new hp2 (.lst (vs3 ++ [.ref x]))
      refine k _ _ _ C6.ext C6.sm ⟨p2, _, rfl, upd_same, Paired.snoc (ToksP.mono ((same_make (C3.freeG nx) (C3.freeG nd) ne _).trans (same_new (C5.freeG hp2))) htk3) (by rw [← hlen, ← List.length_map (f := V.str)]; exact TokP.mono (same_new (C5.freeG hp2)) (tok_mk (c := 0) (k := .fin) rfl t_e))⟩
theorem ok_tokenize (T : Txt K mg a) : FnOk P w K mg base CX0 4 a.f_tokenize a.d_tokenize ["source"] (spTokenize a.C_Token) :=
  (ok_tokenizeP T).imp fun vs H Q E h => by
    obtain ⟨⟨src, G, rows, tss, rfl, h1, h2, h3, h4, h5, hP, hl, hGH, k⟩⟩ := h
    have cols : ∀ {rows : List (List Nat)} {tss : List (List Tk)}, Paired Lx rows tss → ∃ qss : List (List (Tk × Nat)), Paired (LxC 0) rows qss ∧ qss.map (fun q => q.map (·.1)) = tss := fun {rows tss} h => by
      induction h with
      | nil => exact ⟨[], .nil, rfl⟩
      | cons r _ ih =>
        obtain ⟨qs, z1, z2⟩ := r.col 0
        obtain ⟨qss, z3, z4⟩ := ih
        exact ⟨qs :: qss, .cons z1 z3, by rw [List.map_cons, z2, z4]⟩
    obtain ⟨qss, q1, q2⟩ := cols hP
    have e : (posT 0 qss).map (·.1) = tss.flatten := by rw [posT_fst, q2]
    refine ⟨⟨src, G, rows, qss, rfl, h1, h2, h3, h4, h5, q1, by rw [← List.length_map (f := (·.1)), e]; exact hl, hGH, fun G' H' v x s ⟨p, vs, ev, hp, hv⟩ => k G' H' v x s ⟨p, vs, ev, hp, ?_⟩⟩⟩
    have z := hv.toks
    rw [List.map_append, e] at z
    exact z
end
end Sb

namespace Sb
open PySem PySem.Spec PyProof.Rows L2
/-! ### what the robots do, in plain Lean -/
structure Sit where
  cs : List Nat
  ns : List Nat
  hs : List Bool
  sh : List Nat
  deriving DecidableEq
def stepsOf (x : Pl) (i : Nat) : List Step := if i = 0 then x.p else x.q
/-- the number of what is done: a word's, or 8 for blocked -/
def actP (x : Pl) (s : Sit) (i : Nat) : Nat × Sit :=
  let st := (stepsOf x i).getD (s.ns.getD i 0) ⟨4, none⟩
  let c := s.cs.getD i 0
  let h := s.hs.getD i false
  let b := s.sh.getD c 0
  let go (c' : Nat) (h' : Bool) (sh' : List Nat) : Nat × Sit :=
    let n' := if st.w = 5 ∨ (st.w = 6 ∧ sh'.getD c' 0 = 0) ∨ (st.w = 7 ∧ h' = true) then st.g.getD 0 else (s.ns.getD i 0 + 1) % (stepsOf x i).length
    (st.w, ⟨s.cs.set i c', s.ns.set i n', s.hs.set i h', sh'⟩)
  match st.w with
  | 0 => if c = 0 ∨ c - 1 ∈ s.cs then (8, s) else go (c - 1) h s.sh
  | 1 => if s.sh.length ≤ c + 1 ∨ c + 1 ∈ s.cs then (8, s) else go (c + 1) h s.sh
  | 2 => if h = true ∨ b = 0 then (8, s) else go c true (s.sh.set c (b - 1))
  | 3 => if h = false ∨ 3 ≤ b then (8, s) else go c false (s.sh.set c (b + 1))
  | _ => go c h s.sh
def tickP (x : Pl) (s : Sit) : (Nat × Nat) × Sit :=
  let a := actP x s 0
  let b := actP x a.2 1
  ((a.1, b.1), b.2)
def sit0 (x : Pl) : Sit := ⟨[x.a, x.b], [0, 0], [false, false], x.shelf⟩
def sitAt (x : Pl) : Nat → Sit
  | 0 => sit0 x
  | n + 1 => (tickP x (sitAt x n)).2
structure SitOk (x : Pl) (s : Sit) : Prop where
  c2 : s.cs.length = 2
  n2 : s.ns.length = 2
  h2 : s.hs.length = 2
  len : s.sh.length = x.shelf.length
  b3 : ∀ n ∈ s.sh, n ≤ 3
  cl : ∀ i, i < 2 → s.cs.getD i 0 < s.sh.length
  ne : s.cs.getD 0 0 ≠ s.cs.getD 1 0
  nl : ∀ i, i < 2 → s.ns.getD i 0 < (stepsOf x i).length
theorem sit0_ok {x : Pl} (h : x.Ok) : SitOk x (sit0 x) := by
  refine ⟨rfl, rfl, rfl, rfl, h.b3, fun i hi => ?_, h.ne, fun i hi => ?_⟩
  · match i, hi with
    | 0, _ => exact h.ha
    | 1, _ => exact h.hb
    | i + 2, hi => exact absurd hi (by omega)
  · match i, hi with
    | 0, _ => exact h.p.pos
    | 1, _ => exact h.q.pos
    | i + 2, hi => exact absurd hi (by omega)
theorem getD_set {α : Type} {l : List α} {i j : Nat} {v d : α} (hi : i < l.length) : (l.set i v).getD j d = if j = i then v else l.getD j d := by
  rw [List.getD_eq_getElem?_getD, List.getD_eq_getElem?_getD]
  by_cases h : j = i
  · subst h
    rw [if_pos rfl, List.getElem?_set_self hi]
    rfl
  · rw [if_neg h, List.getElem?_set_ne (Ne.symm h)]
theorem mem_cs {s : Sit} (h : s.cs.length = 2) {n : Nat} : n ∈ s.cs ↔ n = s.cs.getD 0 0 ∨ n = s.cs.getD 1 0 := by
  match hc : s.cs, h with
  | [a, b], _ => simp
/-- a state after a step that is done -/
theorem go_ok {x : Pl} {s : Sit} {i c' n' : Nat} {h' : Bool} {sh' : List Nat} (o : SitOk x s) (hi : i < 2) (hc : c' < s.sh.length) (hne : ∀ j, j < 2 → j ≠ i → s.cs.getD j 0 ≠ c') (hn : n' < (stepsOf x i).length) (hl : sh'.length = s.sh.length) (hb : ∀ n ∈ sh', n ≤ 3) :
    SitOk x ⟨s.cs.set i c', s.ns.set i n', s.hs.set i h', sh'⟩ := by
  have i1 : i < s.cs.length := by rw [o.c2]; exact hi
  have i2 : i < s.ns.length := by rw [o.n2]; exact hi
  refine ⟨by rw [List.length_set]; exact o.c2, by rw [List.length_set]; exact o.n2, by rw [List.length_set]; exact o.h2, hl.trans o.len, hb, fun j hj => ?_, ?_, fun j hj => ?_⟩
  · show (s.cs.set i c').getD j 0 < sh'.length
    rw [getD_set i1, hl]
    split
    · exact hc
    · exact o.cl j hj
  · show (s.cs.set i c').getD 0 0 ≠ (s.cs.set i c').getD 1 0
    rw [getD_set i1, getD_set i1]
    match i, hi with
    | 0, _ => exact fun e => hne 1 (by decide) (by decide) e.symm
    | 1, _ => exact fun e => hne 0 (by decide) (by decide) e
    | i + 2, hi => exact absurd hi (by omega)
  · show (s.ns.set i n').getD j 0 < _
    rw [getD_set i2]
    by_cases h : j = i
    · rw [if_pos h, h]; exact hn
    · rw [if_neg h]; exact o.nl j hj
theorem steps_ok {x : Pl} (h : x.Ok) (i : Nat) : StepsOk (stepsOf x i) := by
  unfold stepsOf
  split
  · exact h.p
  · exact h.q
theorem act_ok {x : Pl} {s : Sit} {i : Nat} (hx : x.Ok) (o : SitOk x s) (hi : i < 2) : SitOk x (actP x s i).2 := by
  have so := steps_ok hx i
  have nl := o.nl i hi
  have cl := o.cl i hi
  have hpos := so.pos
  have hst : (stepsOf x i).getD (s.ns.getD i 0) ⟨4, none⟩ ∈ stepsOf x i := by
    rw [List.getD_eq_getElem?_getD, List.getElem?_eq_getElem nl]
    exact List.getElem_mem _
  have ok := so.all _ hst
  unfold actP
  generalize (stepsOf x i).getD (s.ns.getD i 0) ⟨4, none⟩ = st at ok
  have hb3 : s.sh.getD (s.cs.getD i 0) 0 ≤ 3 := by
    rw [List.getD_eq_getElem?_getD, List.getElem?_eq_getElem cl]
    exact o.b3 _ (List.getElem_mem _)
  have hn : ∀ (p : Prop) [Decidable p], (p → 5 ≤ st.w) → (if p then st.g.getD 0 else (s.ns.getD i 0 + 1) % (stepsOf x i).length) < (stepsOf x i).length := fun p _ hp => by
    split
    · rename_i hp'
      obtain ⟨k, e, hk⟩ := ok.yes (hp hp')
      rw [e]
      exact hk
    · exact Nat.mod_lt _ (by omega)
  have other : ∀ j, j < 2 → j ≠ i → s.cs.getD j 0 ≠ s.cs.getD i 0 := fun j hj hji => by
    match i, hi, j, hj with
    | 0, _, 0, _ => exact absurd rfl hji
    | 0, _, 1, _ => exact fun e => o.ne e.symm
    | 1, _, 0, _ => exact o.ne
    | 1, _, 1, _ => exact absurd rfl hji
  have mem : ∀ j, j < 2 → s.cs.getD j 0 ∈ s.cs := fun j hj => by
    rw [mem_cs o.c2]
    match j, hj with
    | 0, _ => exact .inl rfl
    | 1, _ => exact .inr rfl
  have setb : ∀ v, v ≤ 3 → ∀ n ∈ s.sh.set (s.cs.getD i 0) v, n ≤ 3 := fun v hv n hn => by
    rcases List.mem_or_eq_of_mem_set hn with h | h
    · exact o.b3 n h
    · rw [h]; exact hv
  have gp : ∀ {sh' : List Nat} {c' : Nat} {h' : Bool}, (st.w = 5 ∨ (st.w = 6 ∧ sh'.getD c' 0 = 0) ∨ (st.w = 7 ∧ h' = true)) → 5 ≤ st.w := fun h => by
    rcases h with h | h | h <;> omega
  dsimp only
  split
  · split
    · exact o
    · rename_i hc
      simp only [not_or] at hc
      exact go_ok o hi (by omega) (fun j hj hji e => hc.2 (by rw [← e]; exact mem j hj)) (hn _ gp) rfl o.b3
  · split
    · exact o
    · rename_i hc
      simp only [not_or] at hc
      exact go_ok o hi (by omega) (fun j hj hji e => hc.2 (by rw [← e]; exact mem j hj)) (hn _ gp) rfl o.b3
  · split
    · exact o
    · exact go_ok o hi cl other (hn _ gp) (List.length_set ..) (setb _ (by omega))
  · split
    · exact o
    · rename_i hc
      simp only [not_or] at hc
      exact go_ok o hi cl other (hn _ gp) (List.length_set ..) (setb _ (by omega))
  · exact go_ok o hi cl other (hn _ gp) rfl o.b3
theorem tick_ok {x : Pl} {s : Sit} (hx : x.Ok) (o : SitOk x s) : SitOk x (tickP x s).2 := act_ok hx (act_ok hx o (by decide)) (by decide)
theorem sitAt_ok {x : Pl} (hx : x.Ok) : ∀ n, SitOk x (sitAt x n)
  | 0 => sit0_ok hx
  | n + 1 => tick_ok hx (sitAt_ok hx n)
end Sb

namespace Sb
open PySem PySem.Spec PyProof.Rows L2
/-! ### when a state comes again -/
theorem sit_shift {x : Pl} {i j : Nat} (h : sitAt x i = sitAt x j) : ∀ k, sitAt x (i + k) = sitAt x (j + k)
  | 0 => h
  | k + 1 => by
    show (tickP x (sitAt x (i + k))).2 = (tickP x (sitAt x (j + k))).2
    rw [sit_shift h k]
theorem sit_rounds {x : Pl} {i p : Nat} (h : sitAt x i = sitAt x (i + p)) : ∀ m, sitAt x i = sitAt x (i + p * m)
  | 0 => rfl
  | m + 1 => by
    have := sit_shift h (p * m)
    rw [Nat.mul_succ, ← sit_rounds h m] at *
    rw [this]
    congr 1
    omega
/-- from the start i on all repeats after n - i ticks -/
theorem sit_mod {x : Pl} {i n t : Nat} (hin : i < n) (h : sitAt x i = sitAt x n) (ht : i ≤ t) : sitAt x t = sitAt x (i + (t - i) % (n - i)) := by
  have h' : sitAt x i = sitAt x (i + (n - i)) := by rw [h]; congr 1; omega
  have r := sit_rounds h' ((t - i) / (n - i))
  have s := sit_shift r ((t - i) % (n - i))
  rw [s]
  congr 1
  have := Nat.div_add_mod (t - i) (n - i)
  omega
/-- the first n states differ, the n-th is the one at i -/
structure Cyc (x : Pl) (i n : Nat) : Prop where
  lt : i < n
  eq : sitAt x i = sitAt x n
  nd : ∀ j k, j < n → k < n → sitAt x j = sitAt x k → j = k
theorem Cyc.uniq {x : Pl} {i n i' n' : Nat} (a : Cyc x i n) (b : Cyc x i' n') : i = i' ∧ n = n' := by
  have hn : n = n' := by
    rcases Nat.lt_trichotomy n n' with h | h | h
    · have := b.nd i n (by have := a.lt; omega) h a.eq
      have := a.lt
      omega
    · exact h
    · have := a.nd i' n' (by have := b.lt; omega) h b.eq
      have := b.lt
      omega
  subst hn
  exact ⟨a.nd i i' a.lt b.lt (a.eq.trans b.eq.symm), rfl⟩
end Sb

namespace Sb
open PySem PySem.Spec PyProof.Rows L2
/-! ### one step, way by way -/
def stOf (x : Pl) (s : Sit) (i : Nat) : Step := (stepsOf x i).getD (s.ns.getD i 0) ⟨4, none⟩
def cOf (s : Sit) (i : Nat) : Nat := s.cs.getD i 0
abbrev jumpP (x : Pl) (s : Sit) (i : Nat) (hs' : List Bool) (sh' : List Nat) : Prop := (stOf x s i).w = 5 ∨ ((stOf x s i).w = 6 ∧ sh'.getD (cOf s i) 0 = 0) ∨ ((stOf x s i).w = 7 ∧ hs'.getD i false = true)
def nextP (x : Pl) (s : Sit) (i : Nat) (hs' : List Bool) (sh' : List Nat) : Nat := if jumpP x s i hs' sh' then (stOf x s i).g.getD 0 else (s.ns.getD i 0 + 1) % (stepsOf x i).length
def finP (x : Pl) (s : Sit) (i : Nat) (cs' : List Nat) (hs' : List Bool) (sh' : List Nat) : Nat × Sit := ((stOf x s i).w, ⟨cs', s.ns.set i (nextP x s i hs' sh'), hs', sh'⟩)
theorem set_same {α : Type} {l : List α} {i : Nat} {d : α} : l.set i (l.getD i d) = l := by
  by_cases h : i < l.length
  · rw [List.getD_eq_getElem?_getD, List.getElem?_eq_getElem h]
    exact List.set_getElem_self h
  · rw [List.set_eq_of_length_le (by omega)]
section
variable {x : Pl} {s : Sit} {i : Nat}
theorem act_left (h : (stOf x s i).w = 0) : actP x s i = if cOf s i = 0 ∨ cOf s i - 1 ∈ s.cs then (8, s) else finP x s i (s.cs.set i (cOf s i - 1)) s.hs s.sh := by
  unfold actP finP nextP jumpP cOf
  unfold stOf at h ⊢
  generalize (stepsOf x i).getD (s.ns.getD i 0) ⟨4, none⟩ = st at h ⊢
  obtain ⟨w, g⟩ := st
  dsimp only at h
  subst h
  dsimp only
  simp only [set_same, show ¬ ((0 : Nat) = 5) by decide, show ¬ ((0 : Nat) = 6) by decide, show ¬ ((0 : Nat) = 7) by decide, false_and, false_or, or_false, if_false]
theorem act_right (h : (stOf x s i).w = 1) : actP x s i = if s.sh.length ≤ cOf s i + 1 ∨ cOf s i + 1 ∈ s.cs then (8, s) else finP x s i (s.cs.set i (cOf s i + 1)) s.hs s.sh := by
  unfold actP finP nextP jumpP cOf
  unfold stOf at h ⊢
  generalize (stepsOf x i).getD (s.ns.getD i 0) ⟨4, none⟩ = st at h ⊢
  obtain ⟨w, g⟩ := st
  dsimp only at h
  subst h
  dsimp only
  simp only [set_same, show ¬ ((1 : Nat) = 5) by decide, show ¬ ((1 : Nat) = 6) by decide, show ¬ ((1 : Nat) = 7) by decide, false_and, false_or, or_false, if_false]
theorem act_pick (h : (stOf x s i).w = 2) : actP x s i = if s.hs.getD i false = true ∨ s.sh.getD (cOf s i) 0 = 0 then (8, s) else finP x s i s.cs (s.hs.set i true) (s.sh.set (cOf s i) (s.sh.getD (cOf s i) 0 - 1)) := by
  unfold actP finP nextP jumpP cOf
  unfold stOf at h ⊢
  generalize (stepsOf x i).getD (s.ns.getD i 0) ⟨4, none⟩ = st at h ⊢
  obtain ⟨w, g⟩ := st
  dsimp only at h
  subst h
  dsimp only
  simp only [set_same, show ¬ ((2 : Nat) = 5) by decide, show ¬ ((2 : Nat) = 6) by decide, show ¬ ((2 : Nat) = 7) by decide, false_and, false_or, or_false, if_false]
theorem act_put (h : (stOf x s i).w = 3) : actP x s i = if s.hs.getD i false = false ∨ 3 ≤ s.sh.getD (cOf s i) 0 then (8, s) else finP x s i s.cs (s.hs.set i false) (s.sh.set (cOf s i) (s.sh.getD (cOf s i) 0 + 1)) := by
  unfold actP finP nextP jumpP cOf
  unfold stOf at h ⊢
  generalize (stepsOf x i).getD (s.ns.getD i 0) ⟨4, none⟩ = st at h ⊢
  obtain ⟨w, g⟩ := st
  dsimp only at h
  subst h
  dsimp only
  simp only [set_same, show ¬ ((3 : Nat) = 5) by decide, show ¬ ((3 : Nat) = 6) by decide, show ¬ ((3 : Nat) = 7) by decide, false_and, false_or, or_false, if_false]
theorem act_else (h : 4 ≤ (stOf x s i).w) : actP x s i = finP x s i s.cs s.hs s.sh := by
  unfold actP finP nextP jumpP cOf
  unfold stOf at h ⊢
  dsimp only
  split
  · omega
  · omega
  · omega
  · omega
  · rw [set_same, set_same]
end
theorem st_mem {x : Pl} {s : Sit} {i : Nat} (o : SitOk x s) (hi : i < 2) : (stepsOf x i)[s.ns.getD i 0]? = some (stOf x s i) ∧ stOf x s i ∈ stepsOf x i := by
  have nl := o.nl i hi
  have e : (stepsOf x i)[s.ns.getD i 0]? = some (stOf x s i) := by
    unfold stOf
    rw [List.getD_eq_getElem?_getD (l := stepsOf x i), List.getElem?_eq_getElem nl]
    rfl
  exact ⟨e, List.mem_of_getElem? e⟩
theorem st_ok {x : Pl} {s : Sit} {i : Nat} (hx : x.Ok) (o : SitOk x s) (hi : i < 2) : Step.Ok (stepsOf x i).length (stOf x s i) := (steps_ok hx i).all _ (st_mem o hi).2
theorem next_lt {x : Pl} {s : Sit} {i : Nat} {hs' : List Bool} {sh' : List Nat} (hx : x.Ok) (o : SitOk x s) (hi : i < 2) : nextP x s i hs' sh' < (stepsOf x i).length := by
  have ok := st_ok hx o hi
  have pos := (steps_ok hx i).pos
  unfold nextP
  split
  · rename_i h
    have h5 : 5 ≤ (stOf x s i).w := by unfold jumpP at h; rcases h with h | h | h <;> omega
    obtain ⟨k, e, hk⟩ := ok.yes h5
    rw [e]; exact hk
  · exact Nat.mod_lt _ (by omega)
/-- the other robot's cell -/
theorem mem_other {x : Pl} {s : Sit} {i n : Nat} (o : SitOk x s) (hi : i < 2) (hn : n ≠ cOf s i) : n ∈ s.cs ↔ n = s.cs.getD (1 - i) 0 := by
  rw [mem_cs o.c2]
  unfold cOf at hn
  match i, hi with
  | 0, _ => exact ⟨fun h => h.resolve_left hn, .inr⟩
  | 1, _ => exact ⟨fun h => h.resolve_right hn, .inl⟩
/-! ### what is done, as a text -/
def doS (w : Nat) : Str := if w = 8 then "blocked" else wS w
theorem doS8 : doS 8 = "blocked" := rfl
theorem doS_lt {w : Nat} (h : w < 8) : doS w = wS w := if_neg (by omega)
theorem act_w {x : Pl} {s : Sit} {i : Nat} (hx : x.Ok) (o : SitOk x s) (hi : i < 2) : (actP x s i).1 ≤ 8 := by
  have w8 := (st_ok hx o hi).w8
  match h : (stOf x s i).w with
  | 0 => rw [act_left h]; split; exact Nat.le_refl 8; show (stOf x s i).w ≤ 8; omega
  | 1 => rw [act_right h]; split; exact Nat.le_refl 8; show (stOf x s i).w ≤ 8; omega
  | 2 => rw [act_pick h]; split; exact Nat.le_refl 8; show (stOf x s i).w ≤ 8; omega
  | 3 => rw [act_put h]; split; exact Nat.le_refl 8; show (stOf x s i).w ≤ 8; omega
  | n + 4 => rw [act_else (by omega)]; show (stOf x s i).w ≤ 8; omega
/-! ### a state as data of the law: four lists -/
def natsD (l : List Nat) : PyData := .list (l.map natD)
def boolsD (l : List Bool) : PyData := .list (l.map PyData.bool)
def sitL (s : Sit) : PyData := .list [natsD s.cs, natsD s.ns, boolsD s.hs, natsD s.sh]
def wordsD (w : Nat × Nat) : PyData := .tuple [.str (doS w.1), .str (doS w.2)]
abbrev nV (l : List Nat) : List V := l.map fun n : Nat => V.int n
abbrev bV (l : List Bool) : List V := l.map V.bl
section
variable {K : PySem.W.Frag} {G : Hp}
theorem bools_D (l : List Bool) : DpAll K G (bV l) (l.map PyData.bool) := by
  induction l with
  | nil => exact .nil
  | cons n l ih => exact .cons (.bl _) ih
theorem bools_inv : ∀ {l : List Bool} {vs : List V}, DpAll K G vs (l.map PyData.bool) → vs = bV l
  | [], _, .nil => rfl
  | _ :: _, _, .cons h t => by rw [Dp.bool_inv h, bools_inv t]; rfl
theorem nats_D' (l : List Nat) : DpAll K G (nV l) (l.map natD) := by
  induction l with
  | nil => exact .nil
  | cons n l ih => exact .cons (.int _) ih
theorem nats_inv' : ∀ {l : List Nat} {vs : List V}, DpAll K G vs (l.map natD) → vs = nV l
  | [], _, .nil => rfl
  | _ :: _, _, .cons h t => by rw [Dp.int_inv h, nats_inv' t]; rfl
theorem natsD_inv {l : List Nat} {v : V} (h : Dp K G v (natsD l)) : ∃ a, v = .ref a ∧ SqL K G a (nV l) := by
  obtain ⟨a, xs, e, h1, h2⟩ := Dp.lst_inv h
  rw [nats_inv' h2] at h1
  exact ⟨a, e, h1⟩
theorem boolsD_inv {l : List Bool} {v : V} (h : Dp K G v (boolsD l)) : ∃ a, v = .ref a ∧ SqL K G a (bV l) := by
  obtain ⟨a, xs, e, h1, h2⟩ := Dp.lst_inv h
  rw [bools_inv h2] at h1
  exact ⟨a, e, h1⟩
theorem sitL_inv {s : Sit} {v : V} (h : Dp K G v (sitL s)) : ∃ a c n b e, v = .ref a ∧ SqL K G a [.ref c, .ref n, .ref b, .ref e] ∧ SqL K G c (nV s.cs) ∧ SqL K G n (nV s.ns) ∧ SqL K G b (bV s.hs) ∧ SqL K G e (nV s.sh) := by
  obtain ⟨a, xs, e, h1, h2⟩ := Dp.lst_inv h
  obtain ⟨v1, r, rfl, d1, h2⟩ := DpAll.cons_inv h2
  obtain ⟨v2, r, rfl, d2, h2⟩ := DpAll.cons_inv h2
  obtain ⟨v3, r, rfl, d3, h2⟩ := DpAll.cons_inv h2
  obtain ⟨v4, r, rfl, d4, h2⟩ := DpAll.cons_inv h2
  rw [DpAll.nil_inv h2] at h1
  obtain ⟨c, rfl, c1⟩ := natsD_inv d1
  obtain ⟨n, rfl, n1⟩ := natsD_inv d2
  obtain ⟨b, rfl, b1⟩ := boolsD_inv d3
  obtain ⟨f, rfl, f1⟩ := natsD_inv d4
  exact ⟨a, c, n, b, f, e, h1, c1, n1, b1, f1⟩
theorem sitL_mk {s : Sit} {a c n b e : Addr} (h : SqL K G a [.ref c, .ref n, .ref b, .ref e]) (h1 : SqL K G c (nV s.cs)) (h2 : SqL K G n (nV s.ns)) (h3 : SqL K G b (bV s.hs)) (h4 : SqL K G e (nV s.sh)) : Dp K G (.ref a) (sitL s) :=
  .lst h (.cons (.lst h1 (nats_D' _)) (.cons (.lst h2 (nats_D' _)) (.cons (.lst h3 (bools_D _)) (.cons (.lst h4 (nats_D' _)) .nil))))
end
theorem nV_at {l : List Nat} {i : Nat} (h : i < l.length) : (nV l)[i]? = some (.int (l.getD i 0 : Nat)) := by
  rw [List.getElem?_map, List.getElem?_eq_getElem h, List.getD_eq_getElem?_getD, List.getElem?_eq_getElem h]
  rfl
theorem bV_at {l : List Bool} {i : Nat} (h : i < l.length) : (bV l)[i]? = some (.bl (l.getD i false)) := by
  rw [List.getElem?_map, List.getElem?_eq_getElem h, List.getD_eq_getElem?_getD, List.getElem?_eq_getElem h]
  rfl
theorem nV_set {l : List Nat} {i n : Nat} : (nV l).set i (.int (n : Nat)) = nV (l.set i n) := by rw [nV, nV, List.map_set]
theorem bV_set {l : List Bool} {i : Nat} {b : Bool} : (bV l).set i (.bl b) = bV (l.set i b) := by rw [bV, bV, List.map_set]
end Sb

namespace Sb
open PySem PySem.Spec PyProof.Rows L2
/-! ### dicts whose keys are nested tuples -/
mutual
inductive Nk : PyData → NestedKey → Prop
  | int (i : Int) : Nk (.int i) (.num i)
  | bool (b : Bool) : Nk (.bool b) (.num (if b = true then 1 else 0))
  | none : Nk .none .none
  | text (x : Str) : Nk (.str x) (.text x)
  | tup {ds : List PyData} {ks : List NestedKey} : NkAll ds ks → Nk (.tuple ds) (.tup ks)
inductive NkAll : List PyData → List NestedKey → Prop
  | nil : NkAll [] []
  | cons {d : PyData} {k : NestedKey} {ds : List PyData} {ks : List NestedKey} : Nk d k → NkAll ds ks → NkAll (d :: ds) (k :: ks)
end
section
variable {X : Cx} {pins : List (Addr × Obj)} {σ : L2.St} {H : Hp} {s : Shared}
mutual
theorem nk_is (I : Inv X pins σ H s) : ∀ {d : PyData} {k : NestedKey} {v : V} {u : Value}, Nk d k → Dp X.K H v d → RelV v u → NestedIs s.heap k u
  | _, _, _, _, .int i, .int _, r => by obtain ⟨t, rfl⟩ := r; exact .int i t
  | _, _, _, _, .bool b, .bl _, r => by cases r; exact .bool rfl
  | _, _, _, _, .none, .non, r => by cases r; exact .none
  | _, _, _, _, .text x, .str _, r => by obtain ⟨t, rfl⟩ := r; exact .text x t
  | _, _, _, _, .tup h, .tup hs ha, r => by
    cases r
    obtain ⟨its, rv, ⟨o, e, c, n, hd⟩, _⟩ := I.tuple hs
    exact .tup e c hd (nk_all I h ha rv)
theorem nk_all (I : Inv X pins σ H s) : ∀ {ds : List PyData} {ks : List NestedKey} {vs : List V} {us : List Value}, NkAll ds ks → DpAll X.K H vs ds → Vals vs us → NestedAll s.heap ks us
  | _, _, _, _, .nil, .nil, .nil => .nil
  | _, _, _, _, .cons h t, .cons a b, .cons r q => .cons (nk_is I h a r) (nk_all I t b q)
end
end
abbrev Ents := List (NestedKey × Addr × V)
def EntR (p : NestedKey × Addr × V) (q : NestedKey × Addr × Value) : Prop := p.1 = q.1 ∧ p.2.1 = q.2.1 ∧ RelV p.2.2 q.2.2
def dNO (P : Program) (w : World) (a : Addr) (xs : Ents) : HO := .ext fun h => (a == sysModules) = false ∧ ∃ (ys : List (NestedKey × Addr × Value)) (o : Obj) (es : Array DictEntry) (ep : Nat), Paired EntR xs ys ∧
  h.get? a = some o ∧ o.ExactDict ∧ o.data = .dict es ep ∧ es.toList = ys.map (entryOfKey (nestedKind P w)) ∧ (ys.map (·.1)).Nodup
structure DN (P : Program) (w : World) (K : PySem.W.Frag) (H : Hp) (a : Addr) (xs : Ents) : Prop where
  at_ : H a = some (dNO P w a xs)
  ks : ∀ x ∈ xs, ∃ d, Dp K H (.ref x.2.1) d ∧ Nk d x.1 ∧ x.1.depth ≤ 8
theorem ent_keys : ∀ {xs : Ents} {ys : List (NestedKey × Addr × Value)}, Paired EntR xs ys → ys.map (·.1) = xs.map (·.1) ∧ ys.map (·.2.1) = xs.map (·.2.1)
  | _, _, .nil => ⟨rfl, rfl⟩
  | _, _, .cons r t => by
    obtain ⟨h1, h2⟩ := ent_keys t
    simp only [List.map_cons]
    exact ⟨by rw [h1, r.1], by rw [h2, r.2.1]⟩
theorem ent_mem : ∀ {xs : Ents} {ys : List (NestedKey × Addr × Value)} {y : NestedKey × Addr × Value}, Paired EntR xs ys → y ∈ ys → ∃ x ∈ xs, x.1 = y.1 ∧ x.2.1 = y.2.1
  | _, _, _, .cons r t, h => by
    rcases List.mem_cons.mp h with rfl | h
    · exact ⟨_, List.mem_cons_self, r.1, r.2.1⟩
    · obtain ⟨x, hx, e⟩ := ent_mem t h
      exact ⟨x, List.mem_cons_of_mem _ hx, e⟩
theorem atKey_some (ys : List (NestedKey × Addr × Value)) (k : NestedKey) : (atKey ys k).isSome = decide (k ∈ ys.map (·.1)) := by
  unfold atKey
  rw [Option.isSome_map]
  induction ys with
  | nil => rfl
  | cons y r ih =>
    rw [List.find?_cons]
    by_cases h : y.1 = k
    · simp [h]
    · have h' : ¬ k = y.1 := fun e => h e.symm
      simp only [h, decide_false, List.map_cons, List.mem_cons, h', false_or]
      exact ih
section
variable {X : Cx} {pins : List (Addr × Obj)} {σ : L2.St} {H : Hp} {s : Shared}
theorem dn_heap {a : Addr} {xs : Ents} (I : Inv X pins σ H s) (h : DN X.prog X.w X.K H a xs) : (a == sysModules) = false ∧ ∃ ys, Paired EntR xs ys ∧ s.heap.DictOfH (nestedKind X.prog X.w) a ys := by
  obtain ⟨⟨ha, ys, o, es, ep, r, h1, h2, h3, h4, h5⟩, _⟩ := (show ObjOk X.prog X.w H s.heap a (dNO X.prog X.w a xs) from I.hok a _ h.at_)
  refine ⟨ha, ys, r, o, es, ep, h1, h2, h3, h4, fun y hy => ?_, h5⟩
  obtain ⟨x, hx, e1, e2⟩ := ent_mem r hy
  obtain ⟨d, h6, h7, h8⟩ := h.ks x hx
  rw [← e1, ← e2]
  exact ⟨nk_is I h7 h6 rfl, h8⟩
theorem dn_ok {P : Program} {w : World} {H : Hp} {h : Heap} {a : Addr} {xs : Ents} {ys : List (NestedKey × Addr × Value)} (ha : (a == sysModules) = false) (r : Paired EntR xs ys) (hd : h.DictOfH (nestedKind P w) a ys) : ObjOk P w H h a (dNO P w a xs) := by
  obtain ⟨o, es, ep, h1, h2, h3, h4, _, h5⟩ := hd
  refine ⟨⟨ha, ys, o, es, ep, r, h1, h2, h3, h4, h5⟩, ⟨o, h1⟩, fun g1 g2 z k => ?_⟩
  obtain ⟨ha, ys, o, es, ep, r, h1, h2⟩ := z
  exact ⟨ha, ys, o, es, ep, r, k o h1, h2⟩
/-- {} -/
def tDNewN (P : Program) (w : World) : TE := fun _ H Q => ∀ p, H p = none → Q (.ref p) (upd H p (dNO P w p []))
theorem pe_dnewN {pos : Pos} : PE X (.Dict [] [] pos) (tDNewN X.prog X.w) := ⟨fun pins s σ H Q I h =>
  wpAny_Dict_empty ⟨.ref s.heap.objs.size, _, I.laid (a := s.heap.objs.size) (o := dNO X.prog X.w s.heap.objs.size []) (t' := s.toks) (fun _ _ q => Heap.get?_push_of_some _ q) (Nat.le_refl _) (dn_ok (beq_eq_false_iff_ne.mpr (Ne.symm (Nat.ne_of_lt I.big))) .nil (Heap.DictOfH.new s.heap)), rfl, h _ (I.hok.fresh (Nat.le_refl _))⟩⟩
/-- key in d -/
def rInN (P : Program) (w : World) (K : PySem.W.Frag) : R2 := fun x y H Q => ∃ (a b : Addr) (xs : Ents) (d : PyData) (k : NestedKey), x = .ref b ∧ y = .ref a ∧ DN P w K H a xs ∧ Dp K H (.ref b) d ∧ Nk d k ∧ k.depth ≤ 8 ∧ Q (.bl (decide (k ∈ xs.map (·.1)))) H
theorem op_inN (hu : X.A.units + 64 < cLine) : OpR X (compareOp .In) (rInN X.prog X.w X.K) := by
  intro pins s σ H x y v u Q I rx ry h
  obtain ⟨a, b, xs, d, k, rfl, rfl, hD, hd, hk, h8, q⟩ := h
  cases rx
  cases ry
  obtain ⟨ha, ys, r, hm⟩ := dn_heap I hD
  refine wpAny_in_heap (knd := nestedKind X.prog X.w) (k := k) (by show X.A.units + 1 + 8 < cLine; omega) ⟨nk_is I hk hd rfl, h8⟩ ha hm ?_
  rw [atKey_some, (ent_keys r).1]
  exact ⟨.bl _, H, I.tok _, rfl, q⟩
/-- d[key] = v, a new key -/
def rSetN (P : Program) (w : World) (K : PySem.W.Frag) : V → V → V → Hp → (Hp → Prop) → Prop := fun o i v H Q => ∃ (a b : Addr) (xs : Ents) (d : PyData) (k : NestedKey), o = .ref a ∧ i = .ref b ∧ DN P w K H a xs ∧ Dp K H (.ref b) d ∧ Nk d k ∧ k.depth ≤ 8 ∧
  k ∉ xs.map (·.1) ∧ xs.length ≤ sizeLine ∧ Q (upd H a (dNO P w a (xs ++ [(k, b, v)])))
theorem Paired.snocN {α β : Type} {F : α → β → Prop} : ∀ {l : List α} {m : List β} {x : α} {y : β}, Paired F l m → F x y → Paired F (l ++ [x]) (m ++ [y])
  | _, _, _, _, .nil, h => .cons h .nil
  | _, _, _, _, .cons r t, h => .cons r (Paired.snocN t h)
theorem set_newN (hu : X.A.units + 64 < cLine) : PSet X (rSetN X.prog X.w X.K) := by
  intro pins s σ H o i v ov iv u Q I ro ri rv h
  obtain ⟨a, b, xs, d, k, rfl, rfl, hD, hd, hk, h8, hno, hz, q⟩ := h
  cases ro
  cases ri
  obtain ⟨ha, ys, r, hm⟩ := dn_heap I hD
  refine wpAny_setItem_heap (knd := nestedKind X.prog X.w) (k := k) (by show X.A.units + 1 + 8 < cLine; omega) ⟨nk_is I hk hd rfl, h8⟩ hm (fun h' hm' hs => ⟨_, ?_, q⟩) (by rw [← Paired.length r]; exact hz)
  have hat : atKey ys k = none := by
    have := atKey_some ys k
    rw [(ent_keys r).1, decide_eq_false hno] at this
    cases e : atKey ys k with
    | none => rfl
    | some z => rw [e] at this; cases this
  rw [storedH_new hat] at hm'
  have new : ObjOk X.prog X.w (upd H a (dNO X.prog X.w a (xs ++ [(k, b, v)]))) h' a (dNO X.prog X.w a (xs ++ [(k, b, v)])) := dn_ok ha (Paired.snocN r ⟨rfl, rfl, rv⟩) hm'
  refine I.write (x := a) (e := a) (by rw [hD.at_]; exact trivial) (.inl rfl) (fun c o hc e => (hs.2 c hc).trans e) ?_ new
  obtain ⟨o, es, ep, e, _⟩ := hm'
  exact ⟨o, e⟩
theorem ent_at : ∀ {xs : Ents} {ys : List (NestedKey × Addr × Value)} {x : NestedKey × Addr × V}, Paired EntR xs ys → (xs.map (·.1)).Nodup → x ∈ xs → ∃ p, atKey ys x.1 = some p ∧ RelV x.2.2 p.2
  | x0 :: _, y0 :: _, x, .cons r t, hn, h => by
    unfold atKey
    rw [List.find?_cons]
    by_cases e : y0.1 = x.1
    · rw [decide_eq_true e]
      refine ⟨y0.2, rfl, ?_⟩
      rcases List.mem_cons.mp h with rfl | h
      · exact r.2.2
      · exfalso
        rw [List.map_cons, List.nodup_cons] at hn
        exact hn.1 (by rw [r.1, e]; exact List.mem_map.mpr ⟨x, h, rfl⟩)
    · rw [decide_eq_false e]
      rcases List.mem_cons.mp h with rfl | h
      · exact absurd r.1.symm e
      · rw [List.map_cons, List.nodup_cons] at hn
        exact ent_at t hn.2 h
/-- d[key], a key that is there -/
def tDGetN (P : Program) (w : World) (K : PySem.W.Frag) (td ty : TE) : TE := fun σ H Q => td σ H fun x H1 => ty σ H1 fun y H2 => ∃ (a b : Addr) (xs : Ents) (d : PyData) (z : NestedKey × Addr × V), x = .ref a ∧ y = .ref b ∧ DN P w K H2 a xs ∧ Dp K H2 (.ref b) d ∧ Nk d z.1 ∧ z.1.depth ≤ 8 ∧ z ∈ xs ∧ Q z.2.2 H2
theorem pe_dgetN {o i : Expr} {td ty : TE} {pos : Pos} (hu : X.A.units + 64 < cLine) (ho : PE X o td) (hi : PE X i ty) (hs : NoSl i) : PE X (.Subscript o i pos) (tDGetN X.prog X.w X.K td ty) := by
  refine ⟨fun pins s σ H Q I h => ?_⟩
  refine subD_of PySem.F.slot_dict_getitem.lookup hs (thn (ho.run pins s σ H _ I h) fun u s1 q => ?_)
  obtain ⟨x, H1, I1, rx, q1⟩ := q
  refine thn (hi.run pins s1 σ H1 _ I1 q1) fun iv s2 q => ?_
  obtain ⟨y, H2, I2, ry, a, b, xs, d, z, ex, ey, hD, hd, hk, h8, hz, q2⟩ := q
  subst ex
  subst ey
  obtain rfl : u = Value.ref a := rx
  obtain rfl : iv = Value.ref b := ry
  obtain ⟨ha, ys, r, hm⟩ := dn_heap I2 hD
  have hn : (xs.map (·.1)).Nodup := by
    obtain ⟨_, _, _, _, _, _, _, _, hn⟩ := hm
    rw [(ent_keys r).1] at hn
    exact hn
  obtain ⟨p, hp, rp⟩ := ent_at r hn hz
  exact ⟨hm.typeIs, wpAny_getItem_heap (knd := nestedKind X.prog X.w) (k := z.1) (by show X.A.units + 1 + 8 < cLine; omega) ⟨nk_is I2 hk hd rfl, h8⟩ hm hp ⟨z.2.2, H2, I2.tok _, rp, q2⟩⟩
end
end Sb

namespace Sb
open PySem PySem.Spec PyProof.Rows L2
/-! ### match over a text: case "a" | "b": .. case "c": .. -/
/-- a pattern of written texts: whether x is one of them -/
structure PatS (X : Cx) (p : Pattern) (ls : List Str) : Prop where
  run : ∀ (pins : List (Addr × Obj)) (s : Shared) (σ : L2.St) (H : Hp) (x : Str) (t : Tok) (Q : Option (List (Str × Value)) → Shared → Prop), Inv X pins σ H s →
    (∀ s', Inv X pins σ H s' → Q (if decide (x ∈ ls) = true then some [] else none) s') → wpAny (model X.prog X.w) X.A (matchPattern p X.env (.str x t)) Q X.xe s
structure CasesS (X : Cx) (cs : List MatchCase) (tc : Str → TS) : Prop where
  run : ∀ (pins : List (Addr × Obj)) (s : Shared) (σ : L2.St) (H : Hp) (D : Ends) (x : Str) (t : Tok) (b : Bool), Inv X pins σ H s → tc x D σ H →
    wpAny (model X.prog X.w) X.A (matchCases cs X.env (.str x t) b) (SP X pins D) X.xe s
section
variable {X : Cx}
theorem pat_val {y : Str} {j : Nat} {p1 p2 : Pos} : PatS X (.MatchValue (.Constant (.str y) j p1) p2) [y] := by
  refine ⟨fun pins s σ H x t Q I h => ?_⟩
  refine wpAny_matchPattern_Value (Calls.Constant_str (P.eq_str (wpAny_truthy_bool ?_)))
  have h' := h { s with toks := s.toks + 1 } (I.tok _)
  have e : (x.cps.toList == y.cps.toList) = decide (x ∈ [y]) := by
    by_cases q : x = y
    · subst q; simp
    · have : ¬ x.cps.toList = y.cps.toList := fun z => q (TL.ext_tl z)
      simp [q]
      intro z
      exact q (TL.ext_tl (congrArg Array.toList z))
  rw [e]
  cases hd : decide (x ∈ [y]) with
  | true => rw [hd] at h'; exact h'
  | false => rw [hd] at h'; exact h'
theorem pat_or {p q : Pattern} {ls ms : List Str} {pos : Pos} (hp : PatS X p ls) (hq : PatS X q ms) (hn : namesOfAll [p] = [] := by rfl) : PatS X (.MatchOr [p, q] pos) (ls ++ ms) := by
  refine ⟨fun pins s σ H x t Q I h => wpAny_matchPattern_Or (wpAny_matchFirst_cons (hp.run pins s σ H x t _ I fun s1 I1 => ?_))⟩
  have e : ((namesOfAll ([p, q].take 1)).filterMap fun n => (([] : List (Str × Value)).lookup n).map (n, ·)) = [] := by
    show ((namesOfAll [p]).filterMap _) = []
    rw [hn]
    rfl
  by_cases hl : x ∈ ls
  · rw [if_pos (decide_eq_true hl)]
    have h' := h s1 I1
    rw [if_pos (decide_eq_true (List.mem_append_left _ hl))] at h'
    show Q (some ((namesOfAll ([p, q].take 1)).filterMap fun n => (([] : List (Str × Value)).lookup n).map (n, ·))) s1
    rw [e]
    exact h'
  · rw [if_neg (fun z => hl (of_decide_eq_true z))]
    refine wpAny_matchFirst_cons (hq.run pins s1 σ H x t _ I1 fun s2 I2 => ?_)
    have h' := h s2 I2
    by_cases hm : x ∈ ms
    · rw [if_pos (decide_eq_true hm)]
      rw [if_pos (decide_eq_true (List.mem_append_right _ hm))] at h'
      show Q (some ((namesOfAll ([p, q].take 1)).filterMap fun n => (([] : List (Str × Value)).lookup n).map (n, ·))) s2
      rw [e]
      exact h'
    · rw [if_neg (fun z => hm (of_decide_eq_true z))]
      rw [if_neg (fun z => by have := of_decide_eq_true z; rcases List.mem_append.mp this with c | c; exact hl c; exact hm c)] at h'
      exact wpAny_matchFirst_nil h'
theorem cases_nil : CasesS X [] (fun _ => tNext) := ⟨fun pins s σ H D x t b I h => wpAny_matchCases_nil ⟨σ, H, I, h⟩⟩
theorem cases_cons {p : Pattern} {ls : List Str} {body : List Stmt} {tb : TS} {cs : List MatchCase} {tc : Str → TS} (hp : PatS X p ls) (hb : PSs X body tb) (hc : CasesS X cs tc) :
    CasesS X (⟨p, none, body⟩ :: cs) (fun x D σ H => if decide (x ∈ ls) = true then tb D σ H else tc x D σ H) := by
  refine ⟨fun pins s σ H D x t b I h => wpAny_matchCases_cons (hp.run pins s σ H x t _ I fun s' I' => ?_)⟩
  cases hd : decide (x ∈ ls) with
  | true =>
    rw [hd] at h
    exact wpAny_assignInOrder_none (hb.run pins s' σ H D I' h)
  | false =>
    rw [hd] at h
    exact hc.run pins s' σ H D x t false I' h
theorem ps_matchS {e : Expr} {te : TE} {cs : List MatchCase} {tc : Str → TS} {pos : Pos} (he : PE X e te) (hc : CasesS X cs tc) :
    PS X (.Match e cs pos) (fun D σ H => te σ H fun v H1 => ∃ x, v = .str x ∧ tc x D σ H1) := by
  refine ⟨fun pins s σ H D I h => wpAny_Match (thn (he.run pins s σ H _ I h) fun v s1 q => ?_)⟩
  obtain ⟨v', H1, I1, r1, x, e1, q⟩ := q
  subst e1
  obtain ⟨t, rfl⟩ := r1
  exact hc.run pins s1 σ H1 D x t true I1 q
end
end Sb

namespace Sb
open PySem PySem.Spec PyProof.Rows L2
/-! ### a state as a key: a tuple of four tuples -/
def natsT (l : List Nat) : PyData := .tuple (l.map natD)
def boolsT (l : List Bool) : PyData := .tuple (l.map PyData.bool)
def sitT (s : Sit) : PyData := .tuple [natsT s.cs, natsT s.ns, boolsT s.hs, natsT s.sh]
def nk1 (l : List Nat) : NestedKey := .tup (l.map fun n : Nat => .num n)
def nk2 (l : List Bool) : NestedKey := .tup (l.map fun b : Bool => .num (if b = true then 1 else 0))
def nkOf (s : Sit) : NestedKey := .tup [nk1 s.cs, nk1 s.ns, nk2 s.hs, nk1 s.sh]
theorem nk_nats : ∀ l : List Nat, NkAll (l.map natD) (l.map fun n : Nat => .num n)
  | [] => .nil
  | n :: l => .cons (.int _) (nk_nats l)
theorem nk_bools : ∀ l : List Bool, NkAll (l.map PyData.bool) (l.map fun b : Bool => .num (if b = true then 1 else 0))
  | [] => .nil
  | b :: l => .cons (.bool b) (nk_bools l)
theorem nk_sit (s : Sit) : Nk (sitT s) (nkOf s) := .tup (.cons (.tup (nk_nats _)) (.cons (.tup (nk_nats _)) (.cons (.tup (nk_bools _)) (.cons (.tup (nk_nats _)) .nil))))
theorem nk1_inj : ∀ {l m : List Nat}, (l.map fun n : Nat => NestedKey.num n) = (m.map fun n : Nat => NestedKey.num n) → l = m
  | [], [], _ => rfl
  | [], _ :: _, h => by cases h
  | _ :: _, [], h => by cases h
  | a :: l, b :: m, h => by
    rw [List.map_cons, List.map_cons] at h
    injection h with h1 h2
    injection h1 with h1
    rw [nk1_inj h2, show a = b by omega]
theorem nk2_inj : ∀ {l m : List Bool}, (l.map fun b : Bool => NestedKey.num (if b = true then 1 else 0)) = (m.map fun b : Bool => NestedKey.num (if b = true then 1 else 0)) → l = m
  | [], [], _ => rfl
  | [], _ :: _, h => by cases h
  | _ :: _, [], h => by cases h
  | a :: l, b :: m, h => by
    rw [List.map_cons, List.map_cons] at h
    injection h with h1 h2
    injection h1 with h1
    rw [nk2_inj h2]
    cases a <;> cases b <;> first | rfl | (simp at h1)
theorem nkOf_inj {s t : Sit} (h : nkOf s = nkOf t) : s = t := by
  unfold nkOf nk1 nk2 at h
  injection h with h
  injection h with h1 h
  injection h with h2 h
  injection h with h3 h
  injection h with h4 h
  injection h1 with h1
  injection h2 with h2
  injection h3 with h3
  injection h4 with h4
  obtain ⟨c, n, b, e⟩ := s
  obtain ⟨c', n', b', e'⟩ := t
  dsimp only at h1 h2 h3 h4
  rw [nk1_inj h1, nk1_inj h2, nk2_inj h3, nk1_inj h4]
theorem nk_depth (s : Sit) : (nkOf s).depth ≤ 8 := by
  have a : ∀ l : List Nat, NestedKey.depthAll (l.map fun n : Nat => NestedKey.num n) ≤ 1 := by
    intro l
    induction l with
    | nil => decide
    | cons n l ih => simp only [List.map_cons, NestedKey.depthAll, NestedKey.depth]; omega
  have b : ∀ l : List Bool, NestedKey.depthAll (l.map fun b : Bool => NestedKey.num (if b = true then 1 else 0)) ≤ 1 := by
    intro l
    induction l with
    | nil => decide
    | cons n l ih => simp only [List.map_cons, NestedKey.depthAll, NestedKey.depth]; omega
  have h1 := a s.cs
  have h2 := a s.ns
  have h3 := b s.hs
  have h4 := a s.sh
  unfold nkOf nk1 nk2
  simp only [NestedKey.depth, NestedKey.depthAll]
  omega
/-! ### the dict of the states met -/
structure DK (P : Program) (w : World) (K : PySem.W.Frag) (G H : Hp) (a : Addr) (xs : Ents) : Prop where
  at_ : H a = some (dNO P w a xs)
  out : G a = none
  ks : ∀ x ∈ xs, ∃ d, Dp K G (.ref x.2.1) d ∧ Nk d x.1 ∧ x.1.depth ≤ 8
section
variable {P : Program} {w : World} {K : PySem.W.Frag} {G G' H H' : Hp} {a b p : Addr} {xs : Ents} {o : HO}
theorem DK.dn (h : DK P w K G H a xs) (s : Same G H) : DN P w K H a xs := ⟨h.at_, fun x hx => by
  obtain ⟨d, h1, h2⟩ := h.ks x hx
  exact ⟨d, Dp.mono s _ _ h1, h2⟩⟩
theorem DK.grow (h : DK P w K G H a xs) (g : Same G G') (hp : ∀ o, H a = some o → H' a = some o) (n' : G' a = none) : DK P w K G' H' a xs := ⟨hp _ h.at_, n', fun x hx => by
  obtain ⟨d, h1, h2⟩ := h.ks x hx
  exact ⟨d, Dp.mono g _ _ h1, h2⟩⟩
theorem DK.put {s : Sit} {v : V} (h : DK P w K G H a xs) (hb : Dp K G (.ref b) (sitT s)) : DK P w K G (upd H a (dNO P w a (xs ++ [(nkOf s, b, v)]))) a (xs ++ [(nkOf s, b, v)]) := by
  refine ⟨upd_same, h.out, fun x hx => ?_⟩
  rcases List.mem_append.mp hx with h1 | h1
  · exact h.ks x h1
  · rw [List.mem_singleton.mp h1]
    exact ⟨_, hb, nk_sit s, nk_depth s⟩
end
/-- the states met so far, with what is stored beside each -/
def Met (x : Pl) (xs : Ents) (n : Nat) (f : Nat → V) : Prop := xs.length = n ∧ ∀ j, j < n → ∃ b, xs[j]? = some (nkOf (sitAt x j), b, f j)
theorem Met.keys {x : Pl} {xs : Ents} {n : Nat} {f : Nat → V} (h : Met x xs n f) (s : Sit) : nkOf s ∈ xs.map (·.1) ↔ ∃ j, j < n ∧ sitAt x j = s := by
  constructor
  · intro hm
    obtain ⟨e, he, h1⟩ := List.mem_map.mp hm
    obtain ⟨j, hj⟩ := List.getElem?_of_mem he
    have hjn : j < n := by rw [← h.1]; exact (List.getElem?_eq_some_iff.mp hj).1
    obtain ⟨b, hb⟩ := h.2 j hjn
    rw [hj] at hb
    cases hb
    exact ⟨j, hjn, nkOf_inj h1⟩
  · rintro ⟨j, hj, rfl⟩
    obtain ⟨b, hb⟩ := h.2 j hj
    exact List.mem_map.mpr ⟨_, List.mem_of_getElem? hb, rfl⟩
theorem Met.snoc {x : Pl} {xs : Ents} {n : Nat} {f : Nat → V} {b : Addr} (h : Met x xs n f) : Met x (xs ++ [(nkOf (sitAt x n), b, f n)]) (n + 1) f := by
  refine ⟨by rw [List.length_append, h.1]; rfl, fun j hj => ?_⟩
  by_cases hjn : j < n
  · obtain ⟨b', hb⟩ := h.2 j hjn
    exact ⟨b', by rw [List.getElem?_append_left (by rw [h.1]; exact hjn)]; exact hb⟩
  · have : j = n := by omega
    subst this
    exact ⟨b, by rw [List.getElem?_append_right (by rw [h.1]; exact Nat.le_refl _), h.1, Nat.sub_self]; rfl⟩
theorem Met.nil {x : Pl} {f : Nat → V} : Met x [] 0 f := ⟨rfl, fun j hj => by omega⟩
/-- no state twice among the first n -/
def Nod (x : Pl) (n : Nat) : Prop := ∀ j k, j < n → k < n → sitAt x j = sitAt x k → j = k
theorem Nod.zero {x : Pl} : Nod x 0 := fun j k h => by omega
theorem Nod.succ {x : Pl} {n : Nat} (h : Nod x n) (hn : ¬ ∃ j, j < n ∧ sitAt x j = sitAt x n) : Nod x (n + 1) := fun j k hj hk e => by
  by_cases h1 : j < n
  · by_cases h2 : k < n
    · exact h j k h1 h2 e
    · have : k = n := by omega
      subst this
      exact absurd ⟨j, h1, e⟩ hn
  · have : j = n := by omega
    subst this
    by_cases h2 : k < j
    · exact absurd ⟨k, h2, e.symm⟩ hn
    · omega
/-- the plan of two waits -/
def waits (x : Pl) : Pl := ⟨x.shelf, x.a, x.b, [⟨4, none⟩], [⟨4, none⟩]⟩
theorem waits_ok {x : Pl} (h : x.Ok) : (waits x).Ok := by
  have ok : StepsOk [⟨4, none⟩] := ⟨by decide, by decide, fun s hs => by
    rw [List.mem_singleton.mp hs]
    exact ⟨by decide, fun _ => rfl, fun h => absurd h (by decide)⟩⟩
  exact ⟨h.c3, h.c12, h.b3, h.ha, h.hb, h.ne, ok, ok⟩
theorem waits_st (x : Pl) (i : Nat) (s : Sit) (h : s.ns.getD i 0 = 0) : stOf (waits x) s i = ⟨4, none⟩ := by
  unfold stOf
  rw [h]
  unfold stepsOf waits
  split <;> rfl
theorem waits_len (x : Pl) (i : Nat) : (stepsOf (waits x) i).length = 1 := by
  unfold stepsOf waits
  split <;> rfl
theorem waits_act (x : Pl) (i : Nat) (s : Sit) (h : s.ns.getD i 0 = 0) : actP (waits x) s i = (4, s) := by
  have e := waits_st x i s h
  rw [act_else (by rw [e]; decide)]
  unfold finP nextP
  rw [if_neg (by unfold jumpP; rw [e]; simp), waits_len, e, h]
  have : s.ns.set i ((0 + 1) % 1) = s.ns := by
    have h2 : (0 + 1) % 1 = s.ns.getD i 0 := h.symm
    rw [h2, set_same]
  rw [this]
theorem waits_cyc (x : Pl) : Cyc (waits x) 0 1 := ⟨by decide, by
  show sit0 (waits x) = (tickP (waits x) (sit0 (waits x))).2
  unfold tickP
  dsimp only
  rw [waits_act x 0 _ rfl]
  dsimp only
  rw [waits_act x 1 _ rfl], fun j k hj hk _ => by omega⟩
end Sb

namespace Sb
open PySem PySem.Spec PyProof.Rows L2 TL
/-! ### some things may be written: those of S -/
def wos (S : List Addr) (H : Hp) : Hp := fun b => if b ∈ S then none else H b
theorem wos_in {S : List Addr} {H : Hp} {b : Addr} (h : b ∈ S) : wos S H b = none := if_pos h
theorem wos_out {S : List Addr} {H : Hp} {b : Addr} (h : b ∉ S) : wos S H b = H b := if_neg h
theorem wos_some {S : List Addr} {H : Hp} {b : Addr} {o : HO} (h : wos S H b = some o) : b ∉ S ∧ H b = some o := by
  by_cases e : b ∈ S
  · rw [wos_in e] at h; cases h
  · rw [wos_out e] at h; exact ⟨e, h⟩
structure Mv (S : List Addr) (G0 H0 G H : Hp) : Prop where
  ext : Ext G0 H0 G H
  sm : Same (wos S H0) H
section
variable {S S' : List Addr} {G0 H0 G H G1 H1 : Hp} {p l x dx : Addr} {o : HO}
theorem Mv.start (s : Same G H) : Mv S G H G H := ⟨Ext.refl s, fun _ _ e => (wos_some e).2⟩
theorem Mv.new (a : Mv S G0 H0 G H) (np : H p = none) (o : HO) : Mv S G0 H0 (upd G p o) (upd H p o) := ⟨a.ext.new np, a.sm.trans (same_new np)⟩
theorem Mv.lay (a : Mv S G0 H0 G H) (np : H p = none) (o : HO) : Mv S G0 H0 G (upd H p o) := ⟨a.ext.lay np, a.sm.trans (same_new np)⟩
theorem Mv.put (a : Mv S G0 H0 G H) (n0 : l ∈ S ∨ H0 l = none) (n : G l = none) (o : HO) : Mv S G0 H0 G (upd H l o) := ⟨a.ext.put n, same_put a.sm (by
  rcases n0 with h | h
  · exact wos_in h
  · by_cases e : l ∈ S
    · exact wos_in e
    · rw [wos_out e]; exact h)⟩
theorem Mv.freeze (a : Mv S G0 H0 G H) (n0 : H0 l = none) (h : H l = some o) : Mv S G0 H0 (upd G l o) H := ⟨a.ext.freeze n0 h, a.sm⟩
theorem Mv.make (a : Mv S G0 H0 G H) (nx : H x = none) (nd : H dx = none) (ne : dx ≠ x) (o : HO) : Mv S G0 H0 (upd (upd G dx (.own x)) x o) (upd (upd H dx (.own x)) x o) := ⟨a.ext.make nx nd ne o, a.sm.trans (same_make nx nd ne o)⟩
theorem Mv.trans (a : Mv S G0 H0 G H) (b : Mv S G H G1 H1) : Mv S G0 H0 G1 H1 := by
  refine ⟨a.ext.trans b.ext, fun c o e => ?_⟩
  obtain ⟨h1, h2⟩ := wos_some e
  exact b.sm c o (by rw [wos_out h1]; exact a.sm c o e)
theorem Mv.mono (a : Mv S G0 H0 G H) (h : ∀ b ∈ S, b ∈ S' ∨ H0 b = none) : Mv S' G0 H0 G H := by
  refine ⟨a.ext, fun c o e => ?_⟩
  obtain ⟨h1, h2⟩ := wos_some e
  refine a.sm c o ?_
  by_cases hc : c ∈ S
  · rcases h c hc with h | h
    · exact absurd h h1
    · rw [h] at h2; cases h2
  · rw [wos_out hc]; exact h2
theorem Mv.kept (a : Mv S G0 H0 G H) (h : H0 l = some o) (n : l ∉ S) : H l = some o := a.sm l o (by rw [wos_out n]; exact h)
theorem Mv.s (a : Mv S G0 H0 G H) : Same G H := a.ext.h
theorem Mv.g (a : Mv S G0 H0 G H) : Same G0 G := a.ext.g
theorem Mv.free (a : Mv S G0 H0 G H) (np : H p = none) : H0 p = none := a.ext.k p np
theorem Mv.freeG (a : Mv S G0 H0 G H) (np : H p = none) : G p = none := Same.free a.ext.h np
theorem Mv.pt (a : Mv [] G0 H0 G H) : Pt G0 H0 G H := ⟨a.ext, fun c o e => a.sm c o (by rw [wos_out (by simp)]; exact e)⟩
theorem Mv.pure (a : Mv S G0 H0 G H) (e : Ext G H G1 H1) (s : Same H H1) : Mv S G0 H0 G1 H1 := ⟨a.ext.trans e, a.sm.trans s⟩
end
/-! ### the parser -/
def parF (tk fl : Addr) (n : Nat) : List (Str × V) := [("tokens", .ref tk), ("at", .int n), ("faults", .ref fl)]
def ParAt (a : Ad) (G H : Hp) (p : Addr) (n : Nat) (toks : List Tk) : Prop := ∃ (dx tk fl : Addr) (vs : List V), H p = some (.ins a.C_Parser dx (parF tk fl n)) ∧ G p = none ∧ G tk = some (.lst vs) ∧ ToksAt a.C_Token G vs toks ∧ G fl = some (.lst [])
theorem parF_put (tk fl : Addr) (n m : Nat) : putF "at" (.int ((n : Int) + (m : Int))) (parF tk fl n) = parF tk fl (n + m) := by
  show (if ("tokens" : Str) = "at" then _ else (("tokens" : Str), V.ref tk) :: (if ("at" : Str) = "at" then (("at" : Str), V.int ((n : Int) + (m : Int))) :: [(("faults" : Str), V.ref fl)] else _)) = _
  rw [if_neg (by decide +kernel), if_pos rfl]
  rfl
theorem ParAt.grow {a : Ad} {G G' H H' : Hp} {p : Addr} {n : Nat} {toks : List Tk} (h : ParAt a G H p n toks) (g : Same G G') (hp : ∀ o, H p = some o → H' p = some o) (n' : G' p = none) : ParAt a G' H' p n toks := by
  obtain ⟨dx, tk, fl, vs, h1, h2, h3, h4, h5⟩ := h
  exact ⟨dx, tk, fl, vs, hp _ h1, n', g _ _ h3, ToksAt.mono g h4, g _ _ h5⟩
theorem ParAt.some {a : Ad} {G H : Hp} {p : Addr} {n : Nat} {toks : List Tk} (h : ParAt a G H p n toks) : ∃ dx tk fl, H p = some (.ins a.C_Parser dx (parF tk fl n)) := by
  obtain ⟨dx, tk, fl, vs, h1, _⟩ := h
  exact ⟨dx, tk, fl, h1⟩
theorem ParAt.out {a : Ad} {G H : Hp} {p : Addr} {n : Nat} {toks : List Tk} (h : ParAt a G H p n toks) : G p = none := by
  obtain ⟨dx, tk, fl, vs, _, h1, _⟩ := h
  exact h1
/-- through a new object -/
theorem ParAt.new {a : Ad} {G H : Hp} {p q : Addr} {n : Nat} {toks : List Tk} {o : HO} (h : ParAt a G H p n toks) (s : Same G H) (nq : H q = none) : ParAt a (upd G q o) (upd H q o) p n toks := by
  obtain ⟨dx, tk, fl, h1⟩ := h.some
  have ne : p ≠ q := ne_of_none h1 nq
  exact h.grow (same_new (Same.free s nq)) (fun o e => by rw [upd_ne ne]; exact e) (by rw [upd_ne ne]; exact h.out)
theorem ParAt.lay {a : Ad} {G H : Hp} {p q : Addr} {n : Nat} {toks : List Tk} {o : HO} (h : ParAt a G H p n toks) (nq : H q = none) : ParAt a G (upd H q o) p n toks := by
  obtain ⟨dx, tk, fl, h1⟩ := h.some
  exact h.grow (Same.refl G) (fun o e => by rw [upd_ne (ne_of_none h1 nq)]; exact e) h.out
theorem ParAt.put {a : Ad} {G H : Hp} {p q : Addr} {n : Nat} {toks : List Tk} {o : HO} (h : ParAt a G H p n toks) (ne : p ≠ q) : ParAt a G (upd H q o) p n toks :=
  h.grow (Same.refl G) (fun o e => by rw [upd_ne ne]; exact e) h.out
structure spPeek (a : Ad) (vs : List V) (H : Hp) (Q : VK) (E : XK) : Prop where
  ex : ∃ (p : Addr) (G : Hp) (n : Nat) (toks : List Tk) (tk : Tk), vs = [.ref p] ∧ Same G H ∧ ParAt a G H p n toks ∧ toks[n]? = some tk ∧ ∀ v, TokAt a.C_Token G v tk → Q v H
structure spTake (a : Ad) (f : Tk → Str) (vs : List V) (H : Hp) (Q : VK) (E : XK) : Prop where
  ex : ∃ (p : Addr) (G : Hp) (n : Nat) (toks : List Tk) (tk : Tk), vs = [.ref p, .str (f tk)] ∧ Same G H ∧ ParAt a G H p n toks ∧ toks[n]? = some tk ∧ ∀ H1 v, Mv [p] G H G H1 → ParAt a G H1 p (n + 1) toks → TokAt a.C_Token G v tk → Q v H1
section
variable {P : Program} {w : World} {K : PySem.W.Frag} {mg : Str → Option Value} {base : Heap} {a : Ad}
theorem ok_Parser_peek (T : Txt K mg a) : FnOk P w K mg base CX0 1 a.f_Parser_peek a.d_Parser_peek ["self"] (spPeek a) := by
  refine T.F_Parser_peek.ok sc_Parser_peek (fun vs H Q E h => ?_) (fun cdv A outer s H vs Q E hr h => ?_)
  · obtain ⟨⟨p, G, n, toks, tk, rfl, _⟩⟩ := h
    rfl
  · obtain ⟨⟨p, G, n, toks, tk, rfl, hs, ⟨dx, ta, fl, vs, h1, h2, h3, h4, h5⟩, hn, k⟩⟩ := h
    obtain ⟨v, hv, htk⟩ := Paired.at_ h4 hn
    refine ⟨_, (pss_one (ps_ret (pe_ix ix_list (pe_fld (pv 0) rfl) (pe_fld (pv 0) rfl) (fun _ _ => rfl)))), ?_⟩
    refine ⟨_, rfl, p, _, dx, _, _, rfl, h1, T.cl_Parser, T.n_Parser_tokens, (by kernel_rfl), _, rfl, p, _, dx, _, _, rfl, h1, T.cl_Parser, T.n_Parser_at, (by kernel_rfl), ta, vs, _, v, rfl, rfl, SqL.of (hs _ _ h3), atI_nat hv, k v htk⟩
theorem peek_go {p : Addr} {G H : Hp} {n : Nat} {toks : List Tk} {tk : Tk} {Q : VK} {E : XK} (hs : Same G H) (hP : ParAt a G H p n toks) (hn : toks[n]? = some tk) (k : ∀ v, TokAt a.C_Token G v tk → Q v H) : spPeek a [.ref p] H Q E := ⟨⟨p, G, n, toks, tk, rfl, hs, hP, hn, k⟩⟩
theorem ok_Parser_take (T : Txt K mg a) : FnOk P w K mg base CX0 2 a.f_Parser_take a.d_Parser_take ["self", "kind"] (spTake a fun t => kS t.k) := by
  refine T.F_Parser_take.ok sc_Parser_take (fun vs H Q E h => ?_) (fun cdv A outer s H vs Q E hr h => ?_)
  · obtain ⟨⟨p, G, n, toks, tk, rfl, _⟩⟩ := h
    rfl
  · obtain ⟨⟨p, G, n, toks, tk, rfl, hs, hP, hn, k⟩⟩ := h
    obtain ⟨dx, ta, fl, vs, h1, h2, h3, h4, h5⟩ := id hP
    refine ⟨_, (pss_cons (ps_set (i := 2) sc_Parser_take.nd rfl (Or.inl rfl) (pe_meth0 (pv 0) T.cl_Parser T.M_Parser_peek (ok_Parser_peek T) (hr.mono (by decide)) (b_Parser_peek T) .nil pass0))
      (pss_cons (ps_if (pt_cmpR op_ne (pe_fld (pv 2) rfl) (pv 1) (nomark _)) pss_never pss_nil)
      (pss_cons (ps_fldaug (pv 0) pe_int in_add)
      (pss_one (ps_ret (pv 2)))))), ?_⟩
    refine ⟨_, rfl, p, dx, _, rfl, h1, (by kernel_rfl), peek_go hs hP hn fun v hv => ?_⟩
    obtain ⟨q, dq, l, c, rfl, hq⟩ := id hv
    refine ⟨_, rfl, q, _, dq, _, _, rfl, hs _ _ hq, T.cl_Token, T.n_Token_kind, (by kernel_rfl), _, rfl, rfl, _, rfl, ite_f (by rw [decide_eq_true rfl]; rfl) ?_⟩
    refine ⟨_, rfl, p, _, dx, _, .int n, rfl, h1, T.cl_Parser, T.n_Parser_at, (by kernel_rfl), _, _, rfl, rfl, dx, _, h1, (by show 3 < 1000; decide), ?_⟩
    refine ⟨_, rfl, k _ _ ((Mv.start hs).put (.inl (by simp)) h2 _) ⟨dx, ta, fl, vs, ?_, h2, h3, h4, h5⟩ hv⟩
    rw [upd_same]
    exact congrArg (fun z => some (HO.ins a.C_Parser dx z)) (parF_put ta fl n 1)
theorem ok_Parser_take_word (T : Txt K mg a) : FnOk P w K mg base CX0 2 a.f_Parser_take_word a.d_Parser_take_word ["self", "word"] (spTake a fun t => mkS t.t) := by
  refine T.F_Parser_take_word.ok sc_Parser_take_word (fun vs H Q E h => ?_) (fun cdv A outer s H vs Q E hr h => ?_)
  · obtain ⟨⟨p, G, n, toks, tk, rfl, _⟩⟩ := h
    rfl
  · obtain ⟨⟨p, G, n, toks, tk, rfl, hs, hP, hn, k⟩⟩ := h
    obtain ⟨dx, ta, fl, vs, h1, h2, h3, h4, h5⟩ := id hP
    refine ⟨_, (pss_cons (ps_set (i := 2) sc_Parser_take_word.nd rfl (Or.inl rfl) (pe_meth0 (pv 0) T.cl_Parser T.M_Parser_peek (ok_Parser_peek T) (hr.mono (by decide)) (b_Parser_peek T) .nil pass0))
      (pss_cons (ps_if (pt_cmpR op_ne (pe_fld (pv 2) rfl) (pv 1) (nomark _)) pss_never pss_nil)
      (pss_cons (ps_fldaug (pv 0) pe_int in_add)
      (pss_one (ps_ret (pv 2)))))), ?_⟩
    refine ⟨_, rfl, p, dx, _, rfl, h1, (by kernel_rfl), peek_go hs hP hn fun v hv => ?_⟩
    obtain ⟨q, dq, l, c, rfl, hq⟩ := id hv
    refine ⟨_, rfl, q, _, dq, _, _, rfl, hs _ _ hq, T.cl_Token, T.n_Token_text, (by kernel_rfl), _, rfl, rfl, _, rfl, ite_f (by rw [decide_eq_true rfl]; rfl) ?_⟩
    refine ⟨_, rfl, p, _, dx, _, .int n, rfl, h1, T.cl_Parser, T.n_Parser_at, (by kernel_rfl), _, _, rfl, rfl, dx, _, h1, (by show 3 < 1000; decide), ?_⟩
    refine ⟨_, rfl, k _ _ ((Mv.start hs).put (.inl (by simp)) h2 _) ⟨dx, ta, fl, vs, ?_, h2, h3, h4, h5⟩ hv⟩
    rw [upd_same]
    exact congrArg (fun z => some (HO.ins a.C_Parser dx z)) (parF_put ta fl n 1)
/-- the next token is taken, within a def that may write S -/
theorem take_go {f : Tk → Str} {z : Str} {S : List Addr} {p : Addr} {G0 H0 G H : Hp} {n : Nat} {toks : List Tk} {tk : Tk} {Q : VK} {E : XK} (hz : z = f tk) (m : Mv S G0 H0 G H) (hp : p ∈ S ∨ H0 p = none) (hP : ParAt a G H p n toks) (hn : toks[n]? = some tk)
    (k : ∀ H1 v, Mv S G0 H0 G H1 → Mv [p] G H G H1 → ParAt a G H1 p (n + 1) toks → TokAt a.C_Token G v tk → Q v H1) : spTake a f [.ref p, .str z] H Q E :=
  ⟨⟨p, G, n, toks, tk, by rw [hz], m.s, hP, hn, fun H1 v mv hP1 hv => k H1 v ⟨m.ext.trans mv.ext, fun c o e => by
    have e1 := m.sm c o e
    obtain ⟨h1, h2⟩ := wos_some e
    refine mv.sm c o ?_
    by_cases hc : c ∈ [p]
    · have : c = p := by simpa using hc
      subst this
      rcases hp with hp | hp
      · exact absurd hp h1
      · rw [hp] at h2; cases h2
    · rw [wos_out hc]; exact e1⟩ mv hP1 hv⟩⟩
end
end Sb

namespace Sb
open PySem PySem.Spec PyProof.Rows L2 TL
def numT (n : Nat) : Tk := ⟨.number, numL n⟩
def kwT (s : Str) : Tk := ⟨.keyword, tl s⟩
def sgT (c : Nat) : Tk := ⟨.sign, [c]⟩
def nmT (t : List Nat) : Tk := ⟨.name, t⟩
theorem drop_at {α : Type} {l : List α} {n : Nat} {x : α} {r : List α} (h : l.drop n = x :: r) : l[n]? = some x ∧ l.drop (n + 1) = r := by
  constructor
  · have h1 : (l.drop n)[0]? = some x := by rw [h]; rfl
    rw [List.getElem?_drop] at h1
    exact h1
  · rw [← List.drop_drop, h]
    rfl
theorem int_of {n : Nat} (h : n < 100) : intText? (mkS (numL n)) = some (n : Int) := by
  have e : Str.ofString (toString ((n : Nat) : Int)) = mkS (numL n) := mkS_of (tl_num n)
  rw [← e]
  exact int_num (by have := num_len h; omega)
theorem numT_len {n : Nat} (h : n < 100) : (mkS (numL n)).length ≤ 640 := by rw [len_mkS]; have := num_len h; omega
structure spShelf (a : Ad) (K : PySem.W.Frag) (vs : List V) (H : Hp) (Q : VK) (E : XK) : Prop where
  ex : ∃ (p : Addr) (G : Hp) (n : Nat) (toks : List Tk) (nums : List Nat) (rest : List Tk), vs = [.ref p] ∧ Same G H ∧ ParAt a G H p n toks ∧ toks.drop n = kwT "shelf" :: (nums.map numT ++ (sgT 59 :: rest)) ∧ 3 ≤ nums.length ∧ nums.length ≤ 12 ∧ (∀ x ∈ nums, x ≤ 3) ∧
    ∀ G1 H1 u, Mv [p] G H G1 H1 → ParAt a G1 H1 p (n + nums.length + 2) toks → SqT K G1 u (nums.map fun n : Nat => V.int n) → Q (.ref u) H1
section
variable {P : Program} {w : World} {K : PySem.W.Frag} {mg : Str → Option Value} {base : Heap} {a : Ad}
theorem ok_Parser_parse_shelf (T : Txt K mg a) : FnOk P w K mg base CX0 3 a.f_Parser_parse_shelf a.d_Parser_parse_shelf ["self"] (spShelf a K) := by
  refine T.F_Parser_parse_shelf.ok sc_Parser_parse_shelf (fun vs H Q E h => ?_) (fun cdv A outer s H vs Q E hr h => ?_)
  · obtain ⟨⟨p, G, n, toks, nums, rest, rfl, _⟩⟩ := h
    rfl
  · obtain ⟨⟨p, G, n, toks, nums, rest, rfl, hs, hP, hd, h3, h12, hb, k⟩⟩ := h
    refine ⟨_, (pss_cons (ps_set (i := 1) sc_Parser_parse_shelf.nd rfl (Or.inl rfl) (pe_meth (pv 0) T.cl_Parser T.M_Parser_take_word (ok_Parser_take_word T) (hr.mono (by decide)) (b_Parser_take_word T) .nil pass0 (pa_cons pe_str pa_nil)))
      (pss_cons (ps_set (i := 2) sc_Parser_parse_shelf.nd rfl (Or.inl rfl) (pe_lst (pa_cons (pe_meth (pv 0) T.cl_Parser T.M_Parser_take (ok_Parser_take T) (hr.mono (by decide)) (b_Parser_take T) .nil pass0 (pa_cons (pe_glob (v := V.str (Str.ofString "number")) rfl T.c_NUMBER ⟨_, rfl⟩) pa_nil)) pa_nil)))
      (pss_cons (ps_while PassesOwn.never (pt_cmpR op_eq (pe_fld (pe_meth0 (pv 0) T.cl_Parser T.M_Parser_peek (ok_Parser_peek T) (hr.mono (by decide)) (b_Parser_peek T) .nil pass0) rfl) (pe_glob (v := V.str (Str.ofString "number")) rfl T.c_NUMBER ⟨_, rfl⟩) (nomark _)) (pss_one (ps_expr (pe_bm PySem.F.plainAttrs_list PySem.F.slot_list_append PySem.F.type_list_append mt_append (pv 2) (pa_cons (pe_meth (pv 0) T.cl_Parser T.M_Parser_take (ok_Parser_take T) (hr.mono (by decide)) (b_Parser_take T) .nil pass0 (pa_cons (pe_glob (v := V.str (Str.ofString "number")) rfl T.c_NUMBER ⟨_, rfl⟩) pa_nil)) pa_nil)))))
      (pss_cons (ps_expr (pe_meth (pv 0) T.cl_Parser T.M_Parser_take_word (ok_Parser_take_word T) (hr.mono (by decide)) (b_Parser_take_word T) .nil pass0 (pa_cons pe_str pa_nil)))
      (pss_cons (ps_if (pt_cmpR op_lt (pe_callB call_len_seq (by rfl) T.z_len (by decide +kernel) (pa_cons (pv 2) pa_nil)) (pe_glob (v := V.int 3) rfl T.c_MIN_CELLS ⟨_, rfl⟩) (nomark _)) pss_never pss_nil)
      (pss_cons (ps_for PassesOwn.never rfl (pi_enum (by rfl) T.z_enumerate (pa_cons (pv 2) pa_nil)) (pg_tup (by rfl) (pgs_cons (pg_name (i := 3) sc_Parser_parse_shelf.nd rfl (Or.inl rfl)) (pgs_cons (pg_name (i := 4) sc_Parser_parse_shelf.nd rfl (Or.inl rfl)) pgs_nil))) (pss_one (ps_if (pt_cmpR op_eq (pv 3) (pe_glob (v := V.int 12) rfl T.c_MAX_CELLS ⟨_, rfl⟩) (nomark _)) pss_never (pss_one (ps_if (pt_cmpR op_gt (pe_callTy call_int_str (by rfl) T.z_int (by decide +kernel) (pa_cons (pe_fld (pv 4) rfl) pa_nil)) (pe_glob (v := V.int 3) rfl T.c_MAX_BOXES ⟨_, rfl⟩) (nomark _)) pss_never pss_nil)))))
      (pss_one (ps_ret (pe_callTy call_tuple_of (by rfl) T.z_tuple (by decide +kernel) (pa_cons (pe_lc (own := [("token", 4)]) (g := gName 4) (te := (tCB _ (tCons (tFld K (tVar 4) "text") tNil))) (tt := tYes) rfl sc_Parser_parse_shelf.nd (pi_list (pv 2)) (blkOk_by (own := [("token", 4)]) (N := ["self", "keyword", "tokens", "place", "token"]) (sc := (defScope s_Parser_parse_shelf)) (by decide +kernel)) (fun _ _ _ _ _ => (pg_name (i := 4) sc_Parser_parse_shelf.nd rfl (Or.inl rfl))) (fun _ _ _ _ _ => pts_nil) (fun _ _ _ _ _ => by exact (pe_callTy call_int_str (by rfl) T.z_int (by decide +kernel) (pa_cons (pe_fld (pv 4) rfl) pa_nil)))) pa_nil)))))))))), ?_⟩
    have M0 : Mv [p] G H G H := Mv.start hs
    obtain ⟨dx, ta, fl, h1⟩ := hP.some
    obtain ⟨n0, d1⟩ := drop_at hd
    -- keyword
    refine ⟨_, rfl, p, dx, _, rfl, h1, (by kernel_rfl), take_go (tk := kwT "shelf") (mkS_tl _).symm M0 (.inl (by simp)) hP n0 fun H1 v1 M1 _ P1 hv1 => ?_⟩
    obtain ⟨x0, nums', rfl⟩ : ∃ x0 nums', nums = x0 :: nums' := by cases nums with | nil => exact absurd h3 (by decide) | cons x y => exact ⟨x, y, rfl⟩
    generalize hnums : x0 :: nums' = nums at *
    have d1' : toks.drop (n + 1) = nums.map numT ++ (sgT 59 :: rest) := d1
    have at_j : ∀ j x, nums[j]? = some x → toks[n + 1 + j]? = some (numT x) := fun j x hj => by
      have hlt : j < nums.length := (List.getElem?_eq_some_iff.mp hj).1
      have e := congrArg (fun l => l[j]?) d1'
      simp only [List.getElem?_drop] at e
      rw [e, List.getElem?_append_left (by rw [List.length_map]; exact hlt), List.getElem?_map, hj]
      rfl
    have at_e : toks[n + 1 + nums.length]? = some (sgT 59) := by
      have e := congrArg (fun l => l[nums.length]?) d1'
      simp only [List.getElem?_drop] at e
      rw [e, List.getElem?_append_right (by rw [List.length_map]; exact Nat.le_refl _), List.length_map, Nat.sub_self]
      rfl
    have hx0 : nums[0]? = some x0 := by rw [← hnums]; rfl
    obtain ⟨dx1, ta1, fl1, h11⟩ := P1.some
    refine ⟨_, rfl, p, dx1, _, rfl, h11, (by kernel_rfl), take_go (tk := numT x0) rfl M1 (.inl (by simp)) P1 (at_j 0 x0 hx0) fun H2 v2 M2 _ P2 hv2 => ?_⟩
    refine ⟨(by show 1 ≤ sizeLine; decide), fun l hl => ?_⟩
    have l0 : H l = none := M2.free hl
    have lG : G l = none := M2.freeG hl
    have pl : p ≠ l := by obtain ⟨_, _, _, h⟩ := P2.some; exact ne_of_none h hl
    have M3 := M2.lay hl (.lst [v2])
    have P3 := P2.lay (o := .lst [v2]) hl
    -- the numbers
    obtain ⟨Iv, hIv⟩ : ∃ Iv : Nat → L2.St → Hp → Prop, Iv = fun j σ H' => ∃ (vs : List V), σ = [some (.ref p), some v1, some (.ref l), none, none] ∧ 1 ≤ j ∧ j ≤ nums.length ∧ Mv [p] G H G H' ∧ ParAt a G H' p (n + 1 + j) toks ∧ H' l = some (.lst vs) ∧ ToksAt a.C_Token G vs ((nums.take j).map numT) := ⟨_, rfl⟩
    dsimp only
    refine seq_restσ (fun σ H' => Iv nums.length σ H') (fun σ H' hI => ?r) (fun rest1 => ?m)
    case m =>
      refine ⟨fun m σ H' => ∃ j, m = nums.length - j ∧ Iv j σ H', ⟨_, 1, rfl, ?_⟩, ?_⟩
      · rw [hIv]
        refine ⟨[v2], rfl, Nat.le_refl _, by omega, M3, P3, upd_same, ?_⟩
        have : nums.take 1 = [x0] := by rw [← hnums]; rfl
        rw [this]
        exact .cons hv2 .nil
      · rintro m σ H' ⟨j, rfl, hI⟩
        have hI0 := hI
        rw [hIv] at hI
        obtain ⟨vs, rfl, j1, jn, M, PP, hlv, htk⟩ := hI
        obtain ⟨dx2, ta2, fl2, h12'⟩ := PP.some
        by_cases hj : j < nums.length
        · obtain ⟨y, hy⟩ : ∃ y, nums[j]? = some y := ⟨_, List.getElem?_eq_getElem hj⟩
          refine ⟨_, rfl, p, dx2, _, rfl, h12', (by kernel_rfl), peek_go M.s PP (at_j j y hy) fun v hv => ?_⟩
          obtain ⟨q, dq, lq, cq, rfl, hq⟩ := id hv
          refine ⟨q, _, dq, _, .str (kS .number), rfl, M.s _ _ hq, T.cl_Token, T.n_Token_kind, (by kernel_rfl), rfl, _, rfl, ite_t (decide_eq_true rfl) ?_⟩
          refine ⟨fun σ' H' => Iv (j + 1) σ' H', fun σ' H' hn => ⟨_, by omega, j + 1, rfl, hn⟩, ?_⟩
          refine ⟨_, rfl, .inl ⟨rfl, _, SqL.of hlv⟩, _, rfl, p, dx2, _, rfl, h12', (by kernel_rfl), take_go (tk := numT y) rfl M (.inl (by simp)) PP (at_j j y hy) fun H4 v4 M4 m4 P4 hv4 => ?_⟩
          have hl4 : H4 l = some (.lst vs) := m4.kept hlv (by simp [pl.symm])
          refine ⟨l, vs, _, rfl, rfl, hl4, smaller 12 (by rw [Paired.len htk, List.length_map, List.length_take]; omega) (by decide), ?_⟩
          rw [hIv]
          refine ⟨vs ++ [v4], rfl, by omega, by omega, M4.put (.inr l0) lG _, P4.put pl, upd_same, ?_⟩
          rw [take_more hy, List.map_append]
          exact Paired.snoc htk hv4
        · have ej : j = nums.length := by omega
          rw [ej] at PP hI0
          refine ⟨_, rfl, p, dx2, _, rfl, (by rw [ej] at h12'; exact h12'), (by kernel_rfl), peek_go M.s PP at_e fun v hv => ?_⟩
          obtain ⟨q, dq, lq, cq, rfl, hq⟩ := id hv
          refine ⟨q, _, dq, _, .str (kS .sign), rfl, M.s _ _ hq, T.cl_Token, T.n_Token_kind, (by kernel_rfl), rfl, _, rfl, ite_f (by decide +kernel) (rest1 _ _ hI0)⟩
    rw [hIv] at hI
    obtain ⟨vs, rfl, j1, jn, M, PP, hlv, htk⟩ := hI
    rw [List.take_length] at htk
    have hvl : vs.length = nums.length := by rw [Paired.len htk, List.length_map]
    obtain ⟨dx2, ta2, fl2, h12'⟩ := PP.some
    -- ;
    refine ⟨_, rfl, p, dx2, _, rfl, h12', (by kernel_rfl), take_go (tk := sgT 59) (mkS_of t_sc) M (.inl (by simp)) PP at_e fun H4 v4 M4 m4 P4 _ => ?_⟩
    have hl4 : H4 l = some (.lst vs) := m4.kept hlv (by simp [pl.symm])
    refine ⟨_, rfl, l, _, rfl, .inl (SqL.of hl4), _, _, rfl, rfl, _, rfl, ite_f (decide_eq_false (by rw [hvl]; omega)) ?_⟩
    -- the check
    refine ⟨_, rfl, l, _, rfl, SqL.of hl4, for_it (walk_enum (K := K) (a := l) (xs := vs)) (fun i σ H' => ∃ (v3 v4 : Option V), σ = [some (.ref p), some v1, some (.ref l), v3, v4] ∧ Mv [p] G H G H' ∧ ParAt a G H' p (n + 1 + nums.length + 1) toks ∧ H' l = some (.lst vs)) ⟨none, none, rfl, M4, P4, hl4⟩ (fun i σ H' _ ⟨_, _, _, _, _, h⟩ => SqL.of h) ?_ ?_⟩
    · rintro i y σ H5 H6 hi ⟨v3, v4', rfl, M5, P5, hl5⟩ ⟨T', x, z, rfl, hT', rfl, hx, hz⟩
      cases hx
      have hz : vs[i]? = some z := hz
      obtain ⟨tk, htk1, htok⟩ := paired_get htk hz
      rw [List.getElem?_map] at htk1
      obtain ⟨y, hy, rfl⟩ : ∃ y, nums[i]? = some y ∧ tk = numT y := by
        cases e : nums[i]? with
        | none => rw [e] at htk1; cases htk1
        | some q => rw [e] at htk1; exact ⟨q, rfl, (Option.some.inj htk1).symm⟩
      have hy3 : y ≤ 3 := hb y (List.mem_of_getElem? hy)
      obtain ⟨q, dq, lq, cq, rfl, hq⟩ := htok
      have M6 := M5.lay hT' (.tup [.int (i : Nat), .ref q])
      refine ⟨T', _, rfl, SqT.of upd_same, rfl, _, _, rfl, _, _, rfl, rfl, ?_⟩
      refine ⟨_, rfl, rfl, _, rfl, ite_f (vint_ne (by omega)) ?_⟩
      refine ⟨_, rfl, q, _, dq, _, .str (mkS (numL y)), rfl, M6.s _ _ hq, T.cl_Token, T.n_Token_text, (by kernel_rfl), _, (y : Int), rfl, int_of (by omega), numT_len (by omega), _, _, rfl, rfl, _, rfl, ite_f (decide_eq_false (by omega)) ?_⟩
      exact ⟨_, _, rfl, M6, P5.lay hT', by rw [upd_ne (ne_of_none hl5 hT')]; exact hl5⟩
    · rintro σ H5 ⟨v3, v4', rfl, M5, P5, hl5⟩
      refine ⟨_, rfl, l, rfl, ⟨_, SqL.of hl5⟩, fun D hD => ?_⟩
      have D0 : H D = none := M5.free hD
      have DG : G D = none := M5.freeG hD
      have lD : l ≠ D := ne_of_none hl5 hD
      have pD : p ≠ D := by obtain ⟨_, _, _, h⟩ := P5.some; exact ne_of_none h hD
      refine lc_list (K := K) (a := l) (xs := vs) (fun j H' => Mv [p] G H G H' ∧ ParAt a G H' p (n + 1 + nums.length + 1) toks ∧ H' l = some (.lst vs) ∧ H' D = some (.lst ((nums.take j).map fun n : Nat => V.int n))) ⟨M5.lay hD _, P5.lay hD, by rw [upd_ne lD]; exact hl5, upd_same⟩ (fun j H' _ ⟨_, _, h, _⟩ => SqL.of h) ?_ ?_
      · rintro j z H' hz ⟨M6, P6, hl6, hD6⟩
        obtain ⟨tk, htk1, htok⟩ := paired_get htk hz
        rw [List.getElem?_map] at htk1
        obtain ⟨y, hy, rfl⟩ : ∃ y, nums[j]? = some y ∧ tk = numT y := by
          cases e : nums[j]? with
          | none => rw [e] at htk1; cases htk1
          | some q => rw [e] at htk1; exact ⟨q, rfl, (Option.some.inj htk1).symm⟩
        have hy3 : y ≤ 3 := hb y (List.mem_of_getElem? hy)
        obtain ⟨q, dq, lq, cq, rfl, hq⟩ := htok
        refine ⟨rfl, _, rfl, q, _, dq, _, .str (mkS (numL y)), rfl, M6.s _ _ hq, T.cl_Token, T.n_Token_text, (by kernel_rfl), _, (y : Int), rfl, int_of (by omega), numT_len (by omega), _, hD6, smaller 12 (by rw [List.length_map, List.length_take]; omega) (by decide), M6.put (.inr D0) DG _, P6.put pD, by rw [upd_ne lD]; exact hl6, ?_⟩
        rw [upd_same, take_more hy, List.map_append]
        rfl
      · rintro H6 ⟨M6, P6, hl6, hD6⟩
        rw [hvl, List.take_length] at hD6
        refine ⟨D, _, rfl, .inl ⟨SqL.of hD6, fun u hu => ?_⟩⟩
        have e : n + 1 + nums.length + 1 = n + nums.length + 2 := by omega
        rw [e] at P6
        exact k _ _ u (M6.new hu _) (P6.new M6.s hu) (SqT.of upd_same)
end
end Sb

namespace Sb
open PySem PySem.Spec PyProof.Rows L2 TL
/-! ### labelled steps -/
structure LStep where
  lab : Option (List Nat)
  w : Nat
  tgt : Option (List Nat)
def labT : Option (List Nat) → List Tk
  | none => []
  | some t => [nmT t, sgT 58]
def tgtT : Option (List Nat) → List Tk
  | none => []
  | some t => [nmT t]
def stepT (s : LStep) : List Tk := labT s.lab ++ (kwT (wS s.w) :: (tgtT s.tgt ++ [sgT 59]))
def labV : Option (List Nat) → V
  | none => .non
  | some t => .str (mkS t)
structure LStep.Ok (s : LStep) : Prop where
  w8 : s.w < 8
  no : s.w < 5 → s.tgt = none
  yes : 5 ≤ s.w → ∃ t, s.tgt = some t
  lb : s.lab ≠ some [125]
def JmpAt (a : Ad) (G : Hp) (v : V) : Option (List Nat) → Prop
  | none => v = .non
  | some t => TokAt a.C_Token G v (nmT t)
theorem lab_in (x : List Nat) : ∀ l : List (Option (List Nat)), inV (.str (mkS x)) (l.map labV) = decide (some x ∈ l)
  | [] => by simp [inV]
  | n :: r => by
    have ih := lab_in x r
    unfold inV at ih ⊢
    rw [List.map_cons, List.any_cons, ih]
    have e : eqV (labV n) (.str (mkS x)) = decide (n = some x) := by
      cases n with
      | none => simp [labV, eqV]
      | some t =>
        unfold labV eqV
        by_cases h : t = x
        · subst h; simp
        · have h2 : ¬ mkS t = mkS x := fun q => h (by have := congrArg tl q; rwa [tl_mkS, tl_mkS] at this)
          simp [h, h2]
    rw [e]
    by_cases h : n = some x
    · subst h; simp
    · have h' : ¬ some x = n := fun q => h q.symm
      simp [h, h']
theorem lab_flat (l : List (Option (List Nat))) : (l.map labV).all flatV = true := by
  rw [List.all_eq_true]
  intro x hx
  obtain ⟨n, _, rfl⟩ := List.mem_map.mp hx
  cases n <;> rfl
theorem ixN_last {n : Nat} : ixN (n + 1) (-1) = some n := by
  unfold ixN
  rw [if_neg (by decide), if_pos (by omega)]
  congr 1
  omega
theorem set_last {α : Type} (l : List α) (x y : α) : (l ++ [x]).set l.length y = l ++ [y] := by simp
def movS : List Str := ["left", "right", "pick", "put", "wait"]
def jmpS : List Str := ["goto", "empty", "held"]
theorem jmpS_in : ∀ {w : Nat}, w < 8 → decide (wS w ∈ jmpS) = decide (5 ≤ w) := by
  have h : ∀ w : _root_.Fin 8, decide (wS w.val ∈ jmpS) = decide (5 ≤ w.val) := by decide +kernel
  exact fun {w} hw => h ⟨w, hw⟩
theorem movS_in : ∀ {w : Nat}, w < 8 → decide (wS w ∈ movS) = decide (w < 5) := by
  have h : ∀ w : _root_.Fin 8, decide (wS w.val ∈ movS) = decide (w.val < 5) := by decide +kernel
  exact fun {w} hw => h ⟨w, hw⟩
structure spPStep (a : Ad) (vs : List V) (H : Hp) (Q : VK) (E : XK) : Prop where
  ex : ∃ (p nl jl : Addr) (G : Hp) (n : Nat) (toks : List Tk) (s : LStep) (rest : List Tk) (labs : List (Option (List Nat))) (js : List V), vs = [.ref p, .ref nl, .ref jl] ∧ Same G H ∧ ParAt a G H p n toks ∧ G nl = none ∧ G jl = none ∧ nl ≠ jl ∧
    H nl = some (.lst (labs.map labV)) ∧ H jl = some (.lst js) ∧ toks.drop n = stepT s ++ rest ∧ s.Ok ∧ (∀ t, s.lab = some t → some t ∉ labs) ∧ labs.length ≤ 20 ∧ js.length ≤ 20 ∧
    ∀ H1 jv, Mv [p, nl, jl] G H G H1 → ParAt a G H1 p (n + (stepT s).length) toks → H1 nl = some (.lst ((labs ++ [s.lab]).map labV)) → H1 jl = some (.lst (js ++ [jv])) → JmpAt a G jv s.tgt → Q (.str (wS s.w)) H1
section
variable {P : Program} {w : World} {K : PySem.W.Frag} {mg : Str → Option Value} {base : Heap} {a : Ad}
theorem ok_Parser_parse_step (T : Txt K mg a) : FnOk P w K mg base CX0 3 a.f_Parser_parse_step a.d_Parser_parse_step ["self", "names", "jumps"] (spPStep a) := by
  refine T.F_Parser_parse_step.ok sc_Parser_parse_step (fun vs H Q E h => ?_) (fun cdv A outer s0 H vs Q E hr h => ?_)
  · obtain ⟨⟨p, nl, jl, G, n, toks, s, rest, labs, js, rfl, _⟩⟩ := h
    rfl
  · obtain ⟨⟨p, nl, jl, G, n, toks, s, rest, labs, js, rfl, hs, hP, nG, jG, nj, hn, hj, hd, ok, hdup, l20, j20, k⟩⟩ := h
    refine ⟨_, (pss_cons (ps_expr (pe_bm PySem.F.plainAttrs_list PySem.F.slot_list_append PySem.F.type_list_append mt_append (pv 1) (pa_cons pe_non pa_nil)))
      (pss_cons (ps_expr (pe_bm PySem.F.plainAttrs_list PySem.F.slot_list_append PySem.F.type_list_append mt_append (pv 2) (pa_cons pe_non pa_nil)))
      (pss_cons (ps_if (pt_cmpR op_eq (pe_fld (pe_meth0 (pv 0) T.cl_Parser T.M_Parser_peek (ok_Parser_peek T) (hr.mono (by decide)) (b_Parser_peek T) .nil pass0) rfl) (pe_glob (v := V.str (Str.ofString "name")) rfl T.c_NAME ⟨_, rfl⟩) (nomark _)) (pss_cons (ps_set (i := 3) sc_Parser_parse_step.nd rfl (Or.inl rfl) (pe_meth (pv 0) T.cl_Parser T.M_Parser_take (ok_Parser_take T) (hr.mono (by decide)) (b_Parser_take T) .nil pass0 (pa_cons (pe_glob (v := V.str (Str.ofString "name")) rfl T.c_NAME ⟨_, rfl⟩) pa_nil)))
      (pss_cons (ps_expr (pe_meth (pv 0) T.cl_Parser T.M_Parser_take_word (ok_Parser_take_word T) (hr.mono (by decide)) (b_Parser_take_word T) .nil pass0 (pa_cons pe_str pa_nil)))
      (pss_cons (ps_if (pt_cmpR op_in_seq (pe_fld (pv 3) rfl) (pv 1) rfl) pss_never pss_nil)
      (pss_one (ps_asg (pe_fld (pv 3) rfl) (pg_sub (pv 1) (pe_un un_neg pe_int) set_list)))))) pss_nil)
      (pss_cons (ps_set (i := 3) sc_Parser_parse_step.nd rfl (Or.inl rfl) (pe_meth (pv 0) T.cl_Parser T.M_Parser_take (ok_Parser_take T) (hr.mono (by decide)) (b_Parser_take T) .nil pass0 (pa_cons (pe_glob (v := V.str (Str.ofString "keyword")) rfl T.c_KEYWORD ⟨_, rfl⟩) pa_nil)))
      (pss_cons (ps_if (pt_cmpR op_in_seq (pe_fld (pv 3) rfl) (pe_glob (v := V.ref a.A_JUMPS) rfl T.c_JUMPS rfl) rfl) (pss_one (ps_asg (pe_meth (pv 0) T.cl_Parser T.M_Parser_take (ok_Parser_take T) (hr.mono (by decide)) (b_Parser_take T) .nil pass0 (pa_cons (pe_glob (v := V.str (Str.ofString "name")) rfl T.c_NAME ⟨_, rfl⟩) pa_nil)) (pg_sub (pv 2) (pe_un un_neg pe_int) set_list))) (pss_one (ps_if (pt_cmpR op_notIn_seq (pe_fld (pv 3) rfl) (pe_glob (v := V.ref a.A_MOVES) rfl T.c_MOVES rfl) rfl) pss_never pss_nil)))
      (pss_cons (ps_expr (pe_meth (pv 0) T.cl_Parser T.M_Parser_take_word (ok_Parser_take_word T) (hr.mono (by decide)) (b_Parser_take_word T) .nil pass0 (pa_cons pe_str pa_nil)))
      (pss_one (ps_ret (pe_fld (pv 3) rfl))))))))), ?_⟩
    have M0 : Mv [p, nl, jl] G H G H := Mv.start hs
    obtain ⟨dx, ta, fl, h1⟩ := hP.some
    have pn : p ≠ nl := ne_of h1 hn (by intro z; cases z)
    have pj : p ≠ jl := ne_of h1 hj (by intro z; cases z)
    refine ⟨_, rfl, .inl ⟨rfl, _, SqL.of hn⟩, nl, _, _, rfl, rfl, hn, smaller 20 (by rw [List.length_map]; exact l20) (by decide), ?_⟩
    have M1 := M0.put (l := nl) (.inl (by simp)) nG (.lst (labs.map labV ++ [.non]))
    have P1 := hP.put (o := .lst (labs.map labV ++ [.non])) pn
    have hj1 : (upd H nl (.lst (labs.map labV ++ [.non]))) jl = some (.lst js) := by rw [upd_ne nj.symm]; exact hj
    refine ⟨_, rfl, .inl ⟨rfl, _, SqL.of hj1⟩, jl, _, _, rfl, rfl, hj1, smaller 20 j20 (by decide), ?_⟩
    have M2 := M1.put (l := jl) (.inl (by simp)) jG (.lst (js ++ [.non]))
    have P2 := P1.put (o := .lst (js ++ [.non])) pj
    have hn2 : (upd (upd H nl (.lst (labs.map labV ++ [.non]))) jl (.lst (js ++ [.non]))) nl = some (.lst (labs.map labV ++ [.non])) := by rw [upd_ne nj, upd_same]
    have hj2 : (upd (upd H nl (.lst (labs.map labV ++ [.non]))) jl (.lst (js ++ [.non]))) jl = some (.lst (js ++ [.non])) := upd_same
    revert M2 P2 hn2 hj2
    generalize upd (upd H nl (.lst (labs.map labV ++ [.non]))) jl (.lst (js ++ [.non])) = H2
    intro M2 P2 hn2 hj2
    obtain ⟨dx2, ta2, fl2, h2⟩ := P2.some
    dsimp only
    -- the label
    refine seq_restσ (fun σ H' => ∃ v3 : Option V, σ = [some (.ref p), some (.ref nl), some (.ref jl), v3] ∧ Mv [p, nl, jl] G H G H' ∧ ParAt a G H' p (n + (labT s.lab).length) toks ∧ H' nl = some (.lst ((labs ++ [s.lab]).map labV)) ∧ H' jl = some (.lst (js ++ [.non]))) (fun σ H' hI => ?r) (fun rest1 => ?m)
    case m =>
      cases hlab : s.lab with
      | none =>
        rw [hlab] at rest1
        have d2 : toks.drop n = kwT (wS s.w) :: (tgtT s.tgt ++ [sgT 59] ++ rest) := by rw [hd]; unfold stepT; rw [hlab]; simp [labT]
        refine ⟨_, rfl, p, dx2, _, rfl, h2, (by kernel_rfl), peek_go M2.s P2 (drop_at d2).1 fun v hv => ?_⟩
        obtain ⟨q, dq, lq, cq, rfl, hq⟩ := id hv
        refine ⟨q, _, dq, _, .str (kS .keyword), rfl, M2.s _ _ hq, T.cl_Token, T.n_Token_kind, (by kernel_rfl), rfl, _, rfl, ite_f (by decide +kernel) ?_⟩
        exact rest1 _ _ ⟨_, rfl, M2, P2, by rw [hn2, List.map_append]; rfl, hj2⟩
      | some t =>
        rw [hlab] at rest1
        have d2 : toks.drop n = nmT t :: (sgT 58 :: (kwT (wS s.w) :: (tgtT s.tgt ++ [sgT 59] ++ rest))) := by rw [hd]; unfold stepT; rw [hlab]; simp [labT]
        obtain ⟨a0, d3⟩ := drop_at d2
        obtain ⟨a1, d4⟩ := drop_at d3
        refine ⟨_, rfl, p, dx2, _, rfl, h2, (by kernel_rfl), peek_go M2.s P2 a0 fun v hv => ?_⟩
        obtain ⟨q, dq, lq, cq, rfl, hq⟩ := id hv
        refine ⟨q, _, dq, _, .str (kS .name), rfl, M2.s _ _ hq, T.cl_Token, T.n_Token_kind, (by kernel_rfl), rfl, _, rfl, ite_t (decide_eq_true rfl) ?_⟩
        refine ⟨_, rfl, p, dx2, _, rfl, h2, (by kernel_rfl), take_go (tk := nmT t) rfl M2 (.inl (by simp)) P2 a0 fun H3 v3 M3 m3 P3 hv3 => ?_⟩
        obtain ⟨dx3, ta3, fl3, h3⟩ := P3.some
        refine ⟨_, rfl, p, dx3, _, rfl, h3, (by kernel_rfl), take_go (tk := sgT 58) (mkS_of (show tl (Str.ofString ":") = [58] by decide +kernel)) M3 (.inl (by simp)) P3 a1 fun H4 v4 M4 m4 P4 hv4 => ?_⟩
        have hn4 : H4 nl = some (.lst ((labs ++ [none]).map labV)) := by rw [List.map_append]; exact m4.kept (m3.kept hn2 (by simp [pn.symm])) (by simp [pn.symm])
        have hj4 : H4 jl = some (.lst (js ++ [.non])) := m4.kept (m3.kept hj2 (by simp [pj.symm])) (by simp [pj.symm])
        obtain ⟨q3, dq3, lq3, cq3, rfl, hq3⟩ := hv3
        refine ⟨_, rfl, q3, _, dq3, _, .str (mkS t), rfl, M4.s _ _ hq3, T.cl_Token, T.n_Token_text, (by kernel_rfl), _, rfl, nl, _, rfl, .inl (SqL.of hn4), rfl, lab_flat _, _, rfl, ite_f ?_ ?_⟩
        · rw [if_neg Bool.false_ne_true, lab_in]
          refine decide_eq_false fun z => ?_
          rcases List.mem_append.mp z with z | z
          · exact hdup t hlab z
          · simp at z
        refine ⟨_, rfl, q3, _, dq3, _, .str (mkS t), rfl, M4.s _ _ hq3, T.cl_Token, T.n_Token_text, (by kernel_rfl), _, rfl, _, rfl, nl, _, _, labs.length, rfl, rfl, hn4, (by rw [List.length_map, List.length_append]; exact ixN_last), ?_⟩
        refine rest1 _ _ ⟨_, rfl, M4.put (.inl (by simp)) nG _, P4.put pn, ?_, by rw [upd_ne nj.symm]; exact hj4⟩
        rw [upd_same, List.map_append, List.map_append]
        have := set_last (labs.map labV) (labV none) (.str (mkS t))
        rw [List.length_map] at this
        exact congrArg (fun z => some (HO.lst z)) this
    obtain ⟨v3, rfl, M5, P5, hn5, hj5⟩ := hI
    have d5 : toks.drop (n + (labT s.lab).length) = kwT (wS s.w) :: (tgtT s.tgt ++ [sgT 59] ++ rest) := by
      rw [← List.drop_drop, hd]
      unfold stepT
      rw [List.append_assoc, List.drop_left]
      simp
    obtain ⟨a5, d6⟩ := drop_at d5
    obtain ⟨dx5, ta5, fl5, h5⟩ := P5.some
    refine ⟨_, rfl, p, dx5, _, rfl, h5, (by kernel_rfl), take_go (tk := kwT (wS s.w)) rfl M5 (.inl (by simp)) P5 a5 fun H6 v6 M6 m6 P6 hv6 => ?_⟩
    have hn6 : H6 nl = some (.lst ((labs ++ [s.lab]).map labV)) := m6.kept hn5 (by simp [pn.symm])
    have hj6 : H6 jl = some (.lst (js ++ [.non])) := m6.kept hj5 (by simp [pj.symm])
    obtain ⟨q6, dq6, lq6, cq6, rfl, hq6⟩ := hv6
    obtain ⟨dx6, ta6, fl6, h6⟩ := P6.some
    dsimp only
    refine seq_restσ (fun σ H' => σ = [some (.ref p), some (.ref nl), some (.ref jl), some (.ref q6)] ∧ ∃ jv : V, Mv [p, nl, jl] G H G H' ∧ ParAt a G H' p (n + (labT s.lab).length + 1 + (tgtT s.tgt).length) toks ∧ H' nl = some (.lst ((labs ++ [s.lab]).map labV)) ∧ H' jl = some (.lst (js ++ [jv])) ∧ JmpAt a G jv s.tgt) (fun σ H' hI => ?r2) (fun rest2 => ?m2)
    case m2 =>
      have etx : mkS (tl (wS s.w)) = wS s.w := mkS_tl _
      refine ⟨_, rfl, q6, _, dq6, _, .str (mkS (tl (wS s.w))), rfl, M6.s _ _ hq6, T.cl_Token, T.n_Token_text, (by kernel_rfl), a.A_JUMPS, jmpS.map V.str, rfl, .inr (T.q_JUMPS H6), rfl, strs_flat _, _, rfl, ?_⟩
      rw [if_neg Bool.false_ne_true, in_strs, etx, jmpS_in ok.w8]
      refine ite2 (fun c => ?_) (fun c => ?_)
      · obtain ⟨t, ht⟩ := ok.yes (of_decide_eq_true c)
        rw [ht] at rest2 d6
        obtain ⟨a7, d7⟩ := drop_at (show _ = nmT t :: ([sgT 59] ++ rest) from d6)
        refine ⟨_, rfl, p, dx6, _, rfl, h6, (by kernel_rfl), take_go (tk := nmT t) rfl M6 (.inl (by simp)) P6 a7 fun H7 v7 M7 m7 P7 hv7 => ?_⟩
        have hn7 : H7 nl = some (.lst ((labs ++ [s.lab]).map labV)) := m7.kept hn6 (by simp [pn.symm])
        have hj7 : H7 jl = some (.lst (js ++ [.non])) := m7.kept hj6 (by simp [pj.symm])
        refine ⟨_, rfl, _, rfl, jl, _, _, js.length, rfl, rfl, hj7, (by rw [List.length_append]; exact ixN_last), ?_⟩
        refine rest2 _ _ ⟨rfl, v7, M7.put (.inl (by simp)) jG _, P7.put pj, by rw [upd_ne nj]; exact hn7, ?_, hv7⟩
        rw [upd_same, set_last]
      · have c' : ¬ 5 ≤ s.w := fun z => c (decide_eq_true z)
        have ht := ok.no (by omega)
        rw [ht] at rest2
        refine ⟨_, rfl, q6, _, dq6, _, .str (mkS (tl (wS s.w))), rfl, M6.s _ _ hq6, T.cl_Token, T.n_Token_text, (by kernel_rfl), a.A_MOVES, movS.map V.str, rfl, .inr (T.q_MOVES H6), rfl, strs_flat _, _, rfl, ite_f ?_ ?_⟩
        · rw [if_pos rfl, in_strs, etx, movS_in ok.w8, decide_eq_true (show s.w < 5 by omega)]
          rfl
        · exact rest2 _ _ ⟨rfl, .non, M6, P6, hn6, hj6, rfl⟩
    obtain ⟨rfl, jv, M8, P8, hn8, hj8, hjv⟩ := hI
    have d8 : toks.drop (n + (labT s.lab).length + 1 + (tgtT s.tgt).length) = sgT 59 :: rest := by
      rw [← List.drop_drop, d6, List.append_assoc, List.drop_left]
      rfl
    obtain ⟨a8, _⟩ := drop_at d8
    obtain ⟨dx8, ta8, fl8, h8⟩ := P8.some
    refine ⟨_, rfl, p, dx8, _, rfl, h8, (by kernel_rfl), take_go (tk := sgT 59) (mkS_of t_sc) M8 (.inl (by simp)) P8 a8 fun H9 v9 M9 m9 P9 _ => ?_⟩
    have hn9 := m9.kept hn8 (by simp [pn.symm])
    have hj9 := m9.kept hj8 (by simp [pj.symm])
    have el : n + (labT s.lab).length + 1 + (tgtT s.tgt).length + 1 = n + (stepT s).length := by
      unfold stepT
      simp only [List.length_append, List.length_cons, List.length_nil]
      omega
    rw [el] at P9
    refine ⟨_, rfl, q6, _, dq6, _, .str (wS s.w), rfl, M9.s _ _ hq6, T.cl_Token, T.n_Token_text, ?_, k H9 jv M9 P9 hn9 hj9 hjv⟩
    have : mkS (tl (wS s.w)) = wS s.w := mkS_tl _
    rw [← this]
    kernel_rfl
end
end Sb

namespace Sb
open PySem PySem.Spec PyProof.Rows L2 TL
theorem same_frz {G H : Hp} {l : Addr} {o : HO} (s : Same G H) (h : H l = some o) : Same G (upd G l o) := fun b u e => by
  by_cases hb : b = l
  · rw [hb, upd_same]
    rw [hb] at e
    have := s _ _ e
    rw [h] at this
    exact this
  · rw [upd_ne hb]; exact e
/-! ### shapes of data -/
theorem shaped_of {ds : List PyData} (h : ∀ d ∈ ds, d.canLay0 = true ∧ d.depth ≤ 10) : SeqAt.shaped (.list ds) = true ∧ SeqAt.shaped (.tuple ds) = true ∧ PyData.canLayAll0 ds = true ∧ PyData.depthAll ds ≤ 10 := by
  have h1 : PyData.canLayAll0 ds = true ∧ PyData.depthAll ds ≤ 10 := by
    induction ds with
    | nil => exact ⟨rfl, by show 0 ≤ 10; decide⟩
    | cons d ds ih =>
      obtain ⟨a1, a2⟩ := h d (by simp)
      obtain ⟨b1, b2⟩ := ih (fun d hd => h d (by simp [hd]))
      constructor
      · show (d.canLay0 && PyData.canLayAll0 ds) = true
        rw [a1, b1]; rfl
      · show max d.depth (PyData.depthAll ds) ≤ 10
        omega
  refine ⟨?_, ?_, h1⟩
  · show (PyData.canLayAll0 ds && decide (PyData.depthAll ds + 1 ≤ 64)) = true
    rw [h1.1, decide_eq_true (by omega)]; rfl
  · show (PyData.canLayAll0 ds && decide (PyData.depthAll ds + 1 ≤ 64)) = true
    rw [h1.1, decide_eq_true (by omega)]; rfl
theorem wS_ok : ∀ {w : Nat}, w < 8 → PyData.strOk (wS w) = true := by
  have h : ∀ w : _root_.Fin 8, PyData.strOk (wS w.val) = true := by decide +kernel
  exact fun {w} hw => h ⟨w, hw⟩
theorem str_lay {x : Str} (h : PyData.strOk x = true) : (PyData.str x).canLay0 = true ∧ (PyData.str x).depth ≤ 10 := ⟨h, by show 0 ≤ 10; decide⟩
theorem eqV_lab (n : Option (List Nat)) (x : List Nat) : eqV (labV n) (.str (mkS x)) = decide (n = some x) := by
  cases n with
  | none => simp [labV, eqV]
  | some t =>
    unfold labV eqV
    by_cases h : t = x
    · subst h; simp
    · have h2 : ¬ mkS t = mkS x := fun q => h (by have := congrArg tl q; rwa [tl_mkS, tl_mkS] at this)
      simp [h, h2]
/-! ### robots -/
def robotT (n : Nat) (ls : List LStep) : List Tk := kwT "robot" :: numT n :: sgT 123 :: (ls.flatMap stepT ++ [sgT 125])
def labsOf (ls : List LStep) : List (Option (List Nat)) := ls.map LStep.lab
structure Res (labs : List (Option (List Nat))) (s : LStep) (r : Step) : Prop where
  w : r.w = s.w
  no : s.tgt = none → r.g = none
  yes : ∀ t, s.tgt = some t → ∃ k, r.g = some k ∧ labs[k]? = some (some t) ∧ ∀ m, m < k → labs[m]? ≠ some (some t)
structure LOk (ls : List LStep) (ss : List Step) : Prop where
  pos : 1 ≤ ls.length
  le : ls.length ≤ 20
  all : ∀ s ∈ ls, s.Ok
  dup : ∀ i s t, ls[i]? = some s → s.lab = some t → some t ∉ labsOf (ls.take i)
  res : Paired (Res (labsOf ls)) ls ss
def robF (n : Nat) (sl nl : Addr) : List (Str × V) := [("start", .int n), ("steps", .ref sl), ("names", .ref nl)]
def RobAt (a : Ad) (K : PySem.W.Frag) (G : Hp) (v : V) (n : Nat) (ss : List Step) : Prop := ∃ (r dx sl nl : Addr), v = .ref r ∧ G r = some (.ins a.C_Robot dx (robF n sl nl)) ∧ Dp K G (.ref sl) (stepsD ss) ∧ ∃ nv : List V, SqL K G nl nv ∧ nv.length = ss.length
theorem RobAt.mono {a : Ad} {K : PySem.W.Frag} {G G' : Hp} {v : V} {n : Nat} {ss : List Step} (s : Same G G') (h : RobAt a K G v n ss) : RobAt a K G' v n ss := by
  obtain ⟨r, dx, sl, nl, e, h1, h2, nv, h3, h4⟩ := h
  exact ⟨r, dx, sl, nl, e, s _ _ h1, Dp.mono s _ _ h2, nv, s.seq h3, h4⟩
structure spPRobot (a : Ad) (K : PySem.W.Frag) (vs : List V) (H : Hp) (Q : VK) (E : XK) : Prop where
  ex : ∃ (p ot : Addr) (G : Hp) (pos : Nat) (toks : List Tk) (cells st : Nat) (os : List Nat) (ls : List LStep) (ss : List Step) (rest : List Tk), vs = [.ref p, .int cells, .ref ot] ∧ Same G H ∧ ParAt a G H p pos toks ∧ SqT K G ot (os.map fun n : Nat => V.int n) ∧
    toks.drop pos = robotT st ls ++ rest ∧ st < cells ∧ cells < 100 ∧ st ∉ os ∧ LOk ls ss ∧
    ∀ G1 H1 v, Mv [p] G H G1 H1 → ParAt a G1 H1 p (pos + (robotT st ls).length) toks → RobAt a K G1 v st ss → Q v H1
theorem step_head {s : LStep} (h : s.Ok) (r : List Tk) : ∃ tk r', stepT s ++ r = tk :: r' ∧ tk.t ≠ [125] := by
  unfold stepT
  cases hl : s.lab with
  | none =>
    refine ⟨kwT (wS s.w), _, rfl, ?_⟩
    have : ∀ w : _root_.Fin 8, tl (wS w.val) ≠ [125] := by decide +kernel
    exact this ⟨s.w, h.w8⟩
  | some t =>
    refine ⟨nmT t, _, rfl, fun z => ?_⟩
    have : t = [125] := z
    exact h.lb (by rw [hl, this])
theorem flat_more {α β : Type} {l : List α} {f : α → List β} {i : Nat} {x : α} (h : l[i]? = some x) : (l.take (i + 1)).flatMap f = (l.take i).flatMap f ++ f x := by
  rw [take_more h, List.flatMap_append]
  simp
theorem flat_split {α β : Type} {l : List α} {f : α → List β} {i : Nat} {x : α} (h : l[i]? = some x) : l.flatMap f = (l.take i).flatMap f ++ (f x ++ (l.drop (i + 1)).flatMap f) := by
  have hi : i < l.length := (List.getElem?_eq_some_iff.mp h).1
  have e : l = l.take i ++ (x :: l.drop (i + 1)) := by
    have h2 := List.drop_eq_getElem_cons hi
    have h3 : l[i] = x := (List.getElem?_eq_some_iff.mp h).2
    rw [h3] at h2
    rw [← h2, List.take_append_drop]
  conv => lhs; rw [e]
  rw [List.flatMap_append, List.flatMap_cons]
section
variable {P : Program} {w : World} {K : PySem.W.Frag} {mg : Str → Option Value} {base : Heap} {a : Ad}
theorem ok_Robot_init (T : Txt K mg a) : FnOk P w K mg base CX0 1 a.f_Robot_init a.d_Robot_init ["self", "start", "steps", "names"] (spInit a.C_Robot ["start", "steps", "names"]) := by
  refine T.F_Robot_init.ok sc_Robot_init (fun vs H Q E h => ?_) (fun cdv A outer s H vs Q E hr h => ?_)
  · obtain ⟨⟨x, dx, us, rfl, hl, _⟩⟩ := h
    exact congrArg (· + 1) hl
  · obtain ⟨⟨x, dx, us, rfl, hl, hx, k⟩⟩ := h
    match us, hl with
    | [u1, u2, u3], _ =>
      refine ⟨_, (pss_cons (ps_fld (pv 0) (pv 1) rfl)
      (pss_cons (ps_fld (pv 0) (pv 2) rfl)
      (pss_one (ps_fld (pv 0) (pv 3) rfl)))), ?_⟩
      refine ⟨_, rfl, _, rfl, x, _, dx, _, rfl, hx, T.cl_Robot, T.n_Robot_start, by decide, ?_⟩
      refine ⟨_, rfl, _, rfl, x, _, dx, _, rfl, upd_same, T.cl_Robot, T.n_Robot_steps, lf1, ?_⟩
      refine ⟨_, rfl, _, rfl, x, _, dx, _, rfl, upd_same, T.cl_Robot, T.n_Robot_names, lf2, ?_⟩
      rw [upd_upd, upd_upd]
      have e : putF "names" u3 (putF "steps" u2 (putF "start" u1 [])) = (["start", "steps", "names"] : List Str).zip [u1, u2, u3] := by
        show putF "names" u3 (putF "steps" u2 [("start", u1)]) = _
        rw [putF_new (fs := [("start", u1)]) (show ("steps" : Str) ∉ (["start"] : List Str) by decide +kernel)]
        show putF "names" u3 [("start", u1), ("steps", u2)] = _
        rw [putF_new (fs := [("start", u1), ("steps", u2)]) (show ("names" : Str) ∉ (["start", "steps"] : List Str) by decide +kernel)]
        rfl
      rw [e]
      exact k
theorem ok_Plan_init (T : Txt K mg a) : FnOk P w K mg base CX0 1 a.f_Plan_init a.d_Plan_init ["self", "shelf", "robots"] (spInit a.C_Plan ["shelf", "robots"]) := by
  refine T.F_Plan_init.ok sc_Plan_init (fun vs H Q E h => ?_) (fun cdv A outer s H vs Q E hr h => ?_)
  · obtain ⟨⟨x, dx, us, rfl, hl, _⟩⟩ := h
    exact congrArg (· + 1) hl
  · obtain ⟨⟨x, dx, us, rfl, hl, hx, k⟩⟩ := h
    match us, hl with
    | [u1, u2], _ =>
      refine ⟨_, (pss_cons (ps_fld (pv 0) (pv 1) rfl)
      (pss_one (ps_fld (pv 0) (pv 2) rfl))), ?_⟩
      refine ⟨_, rfl, _, rfl, x, _, dx, _, rfl, hx, T.cl_Plan, T.n_Plan_shelf, by decide, ?_⟩
      refine ⟨_, rfl, _, rfl, x, _, dx, _, rfl, upd_same, T.cl_Plan, T.n_Plan_robots, lf1, ?_⟩
      rw [upd_upd]
      have e : putF "robots" u2 (putF "shelf" u1 []) = (["shelf", "robots"] : List Str).zip [u1, u2] := by
        show putF "robots" u2 [("shelf", u1)] = _
        rw [putF_new (fs := [("shelf", u1)]) (show ("robots" : Str) ∉ (["shelf"] : List Str) by decide +kernel)]
        rfl
      rw [e]
      exact k
theorem ok_Parser_parse_robot (T : Txt K mg a) : FnOk P w K mg base CX0 4 a.f_Parser_parse_robot a.d_Parser_parse_robot ["self", "cells", "others"] (spPRobot a K) := by
  refine T.F_Parser_parse_robot.ok sc_Parser_parse_robot (fun vs H Q E h => ?_) (fun cdv A outer s0 H vs Q E hr h => ?_)
  · obtain ⟨⟨p, ot, G, pos, toks, cells, st, os, ls, ss, rest, rfl, _⟩⟩ := h
    rfl
  · obtain ⟨⟨p, ot, G, pos, toks, cells, st, os, ls, ss, rest, rfl, hs, hP, hot, hd, hst, hc, hos, ok, k⟩⟩ := h
    refine ⟨_, (pss_cons (ps_expr (pe_meth (pv 0) T.cl_Parser T.M_Parser_take_word (ok_Parser_take_word T) (hr.mono (by decide)) (b_Parser_take_word T) .nil pass0 (pa_cons pe_str pa_nil)))
      (pss_cons (ps_set (i := 3) sc_Parser_parse_robot.nd rfl (Or.inl rfl) (pe_meth (pv 0) T.cl_Parser T.M_Parser_take (ok_Parser_take T) (hr.mono (by decide)) (b_Parser_take T) .nil pass0 (pa_cons (pe_glob (v := V.str (Str.ofString "number")) rfl T.c_NUMBER ⟨_, rfl⟩) pa_nil)))
      (pss_cons (ps_if (pt_cmpR op_ge (pe_callTy call_int_str (by rfl) T.z_int (by decide +kernel) (pa_cons (pe_fld (pv 3) rfl) pa_nil)) (pv 1) (nomark _)) pss_never (pss_one (ps_if (pt_cmpR op_in_seq (pe_callTy call_int_str (by rfl) T.z_int (by decide +kernel) (pa_cons (pe_fld (pv 3) rfl) pa_nil)) (pv 2) rfl) pss_never pss_nil)))
      (pss_cons (ps_expr (pe_meth (pv 0) T.cl_Parser T.M_Parser_take_word (ok_Parser_take_word T) (hr.mono (by decide)) (b_Parser_take_word T) .nil pass0 (pa_cons pe_str pa_nil)))
      (pss_cons (ps_par3 (i := 4) (j := 5) (l := 6) (by rfl) sc_Parser_parse_robot.nd rfl rfl rfl (by decide) (by decide) (by decide) rfl rfl rfl (pa_cons (pe_lst pa_nil) (pa_cons (pe_lst pa_nil) (pa_cons (pe_lst pa_nil) pa_nil))) (by rfl))
      (pss_cons (ps_while PassesOwn.never (PW.pt (pw_or (pt_cmpR op_ne (pe_fld (pe_meth0 (pv 0) T.cl_Parser T.M_Parser_peek (ok_Parser_peek T) (hr.mono (by decide)) (b_Parser_peek T) .nil pass0) rfl) pe_str (nomark _)) (pw_or1 (pt_cmpR (op_eqD hr.units) (pv 4) (pe_lst pa_nil) (nomark _))))) (pss_cons (ps_if (pt_cmpR op_eq (pe_callB call_len_seq (by rfl) T.z_len (by decide +kernel) (pa_cons (pv 4) pa_nil)) (pe_glob (v := V.int 20) rfl T.c_MAX_STEPS ⟨_, rfl⟩) (nomark _)) pss_never pss_nil)
      (pss_one (ps_expr (pe_bm PySem.F.plainAttrs_list PySem.F.slot_list_append PySem.F.type_list_append mt_append (pv 4) (pa_cons (pe_meth (pv 0) T.cl_Parser T.M_Parser_parse_step (ok_Parser_parse_step T) (hr.mono (by decide)) (b_Parser_parse_step T) .nil pass0 (pa_cons (pv 5) (pa_cons (pv 6) pa_nil))) pa_nil))))))
      (pss_cons (ps_expr (pe_meth (pv 0) T.cl_Parser T.M_Parser_take_word (ok_Parser_take_word T) (hr.mono (by decide)) (b_Parser_take_word T) .nil pass0 (pa_cons pe_str pa_nil)))
      (pss_cons (ps_set (i := 7) sc_Parser_parse_robot.nd rfl (Or.inl rfl) (pe_lst pa_nil))
      (pss_cons (ps_for PassesOwn.never rfl (pi_zip (by rfl) T.z_zip (pa_cons (pv 4) (pa_cons (pv 6) pa_nil))) (pg_tup (by rfl) (pgs_cons (pg_name (i := 8) sc_Parser_parse_robot.nd rfl (Or.inl rfl)) (pgs_cons (pg_name (i := 9) sc_Parser_parse_robot.nd rfl (Or.inl rfl)) pgs_nil))) (pss_cons (ps_if (PW.pt (pw_and (pt_cmpR op_notN (pv 9) pe_non (nomark _)) (pw_and1 (pt_cmpR op_notIn_seq (pe_fld (pv 9) rfl) (pv 5) rfl)))) pss_never pss_nil)
      (pss_one (ps_expr (pe_bm PySem.F.plainAttrs_list PySem.F.slot_list_append PySem.F.type_list_append mt_append (pv 7) (pa_cons (pe_tup (pa_cons (pv 8) (pa_cons (pe_ifExp (PW.pt (pw_and (pt_cmpR op_notN (pv 9) pe_non (nomark _)) (pw_and1 (pt_cmpR op_in_seq (pe_fld (pv 9) rfl) (pv 5) rfl)))) (pe_bm PySem.F.plainAttrs_list PySem.F.slot_list_index PySem.F.type_list_index mt_index (pv 5) (pa_cons (pe_fld (pv 9) rfl) pa_nil)) pe_non) pa_nil))) pa_nil))))))
      (pss_one (ps_ret (pe_make T.mk_Robot (ok_Robot_init T) (hr.mono (by decide)) (by rfl) T.m_Robot (b_Robot_init T) .nil pass0 (pa_cons (pe_callTy call_int_str (by rfl) T.z_int (by decide +kernel) (pa_cons (pe_fld (pv 3) rfl) pa_nil)) (pa_cons (pv 7) (pa_cons (pv 5) pa_nil))))))))))))))), ?_⟩
    have M0 : Mv [p] G H G H := Mv.start hs
    obtain ⟨dx, ta, fl, h1⟩ := hP.some
    have d0 : toks.drop pos = kwT "robot" :: (numT st :: (sgT 123 :: (ls.flatMap stepT ++ (sgT 125 :: rest)))) := by rw [hd]; unfold robotT; simp
    obtain ⟨t0, d1⟩ := drop_at d0
    obtain ⟨t1, d2⟩ := drop_at d1
    obtain ⟨t2, d3⟩ := drop_at d2
    refine ⟨_, rfl, p, dx, _, rfl, h1, (by kernel_rfl), take_go (tk := kwT "robot") (mkS_tl _).symm M0 (.inl (by simp)) hP t0 fun H1 v1 M1 _ P1 _ => ?_⟩
    obtain ⟨dx1, ta1, fl1, h11⟩ := P1.some
    refine ⟨_, rfl, p, dx1, _, rfl, h11, (by kernel_rfl), take_go (tk := numT st) rfl M1 (.inl (by simp)) P1 t1 fun H2 v2 M2 _ P2 hv2 => ?_⟩
    obtain ⟨q2, dq2, lq2, cq2, rfl, hq2⟩ := hv2
    have io := int_of (n := st) (by omega)
    have nlen := numT_len (n := st) (by omega)
    refine ⟨_, rfl, q2, _, dq2, _, .str (mkS (numL st)), rfl, M2.s _ _ hq2, T.cl_Token, T.n_Token_text, (by kernel_rfl), _, (st : Int), rfl, io, nlen, _, rfl, _, _, rfl, rfl, _, rfl, ite_f (decide_eq_false (by omega)) ?_⟩
    refine ⟨_, rfl, q2, _, dq2, _, .str (mkS (numL st)), rfl, M2.s _ _ hq2, T.cl_Token, T.n_Token_text, (by kernel_rfl), _, (st : Int), rfl, io, nlen, _, rfl, ot, _, rfl, .inr (Same.seqT M2.s hot), rfl, nats_flat os, _, rfl, ite_f (by rw [if_neg Bool.false_ne_true, in_nats]; exact decide_eq_false hos) ?_⟩
    obtain ⟨dx2, ta2, fl2, h12⟩ := P2.some
    refine ⟨_, rfl, p, dx2, _, rfl, h12, (by kernel_rfl), take_go (tk := sgT 123) (mkS_of (show tl (Str.ofString "{") = [123] by decide +kernel)) M2 (.inl (by simp)) P2 t2 fun H3 v3 M3 _ P3 _ => ?_⟩
    -- words, names, jumps
    refine ⟨Nat.zero_le _, fun wl hw => ⟨Nat.zero_le _, fun nl hn => ⟨Nat.zero_le _, fun jl hj => ⟨_, _, _, rfl, ?_⟩⟩⟩⟩
    have M4 := ((M3.lay hw (.lst [])).lay hn (.lst [])).lay hj (.lst [])
    have P4 := ((P3.lay (o := .lst []) hw).lay (o := .lst []) hn).lay (o := .lst []) hj
    have wn : wl ≠ nl := ne_of_none upd_same hn
    have nj : nl ≠ jl := ne_of_none upd_same hj
    have wj : wl ≠ jl := ne_of_none (by rw [upd_ne wn, upd_same]) hj
    have w0 : H wl = none := M3.free hw
    have n0 : H nl = none := (M3.lay hw (.lst [])).free hn
    have j0 : H jl = none := ((M3.lay hw (.lst [])).lay hn (.lst [])).free hj
    have wG : G wl = none := M3.freeG hw
    have nG : G nl = none := (M3.lay hw (.lst [])).freeG hn
    have jG : G jl = none := ((M3.lay hw (.lst [])).lay hn (.lst [])).freeG hj
    have pw : p ≠ wl := fun e => by rw [← e, h1] at w0; cases w0
    have pn : p ≠ nl := fun e => by rw [← e, h1] at n0; cases n0
    have pj : p ≠ jl := fun e => by rw [← e, h1] at j0; cases j0
    have hw4 : (upd (upd (upd H3 wl (.lst [])) nl (.lst [])) jl (.lst [])) wl = some (.lst []) := by rw [upd_ne wj, upd_ne wn, upd_same]
    have hn4 : (upd (upd (upd H3 wl (.lst [])) nl (.lst [])) jl (.lst [])) nl = some (.lst []) := by rw [upd_ne nj, upd_same]
    have hj4 : (upd (upd (upd H3 wl (.lst [])) nl (.lst [])) jl (.lst [])) jl = some (.lst []) := upd_same
    revert M4 P4 hw4 hn4 hj4
    generalize upd (upd (upd H3 wl (.lst [])) nl (.lst [])) jl (.lst []) = H4
    intro M4 P4 hw4 hn4 hj4
    dsimp only
    -- the steps read
    obtain ⟨Iv, hIv⟩ : ∃ Iv : Nat → L2.St → Hp → Prop, Iv = fun j σ H' => ∃ (js : List V), σ = [some (.ref p), some (.int cells), some (.ref ot), some (.ref q2), some (.ref wl), some (.ref nl), some (.ref jl), none, none, none] ∧ j ≤ ls.length ∧ Mv [p] G H G H' ∧
      ParAt a G H' p (pos + 1 + 1 + 1 + ((ls.take j).flatMap stepT).length) toks ∧ H' wl = some (.lst (((ls.take j).map fun s => wS s.w).map V.str)) ∧ H' nl = some (.lst ((labsOf (ls.take j)).map labV)) ∧ H' jl = some (.lst js) ∧ Paired (JmpAt a G) js ((ls.take j).map LStep.tgt) := ⟨_, rfl⟩
    have d4 : ∀ j, j ≤ ls.length → toks.drop (pos + 1 + 1 + 1 + ((ls.take j).flatMap stepT).length) = (ls.drop j).flatMap stepT ++ (sgT 125 :: rest) := fun j hj => by
      rw [← List.drop_drop, d3]
      have e : ls.flatMap stepT = (ls.take j).flatMap stepT ++ (ls.drop j).flatMap stepT := by rw [← List.flatMap_append, List.take_append_drop]
      rw [e, List.append_assoc, List.drop_left]
    refine seq_restσ (fun σ H' => Iv ls.length σ H') (fun σ H' hI => ?r) (fun rest1 => ?m)
    case m =>
      refine ⟨fun m σ H' => ∃ j, m = ls.length - j ∧ Iv j σ H', ⟨_, 0, rfl, ?_⟩, ?_⟩
      · rw [hIv]
        exact ⟨[], rfl, Nat.zero_le _, M4, P4, hw4, hn4, hj4, .nil⟩
      · rintro m σ H' ⟨j, rfl, hI⟩
        have hI0 := hI
        rw [hIv] at hI
        obtain ⟨js, rfl, jn, M, PP, hwv, hnv, hjv, hjs⟩ := hI
        obtain ⟨dx5, ta5, fl5, h5⟩ := PP.some
        have jsl : js.length = j := by rw [Paired.len hjs, List.length_map, List.length_take]; omega
        by_cases hjl : j < ls.length
        · obtain ⟨s, hs5⟩ : ∃ s, ls[j]? = some s := ⟨_, List.getElem?_eq_getElem hjl⟩
          have oks : s.Ok := ok.all s (List.mem_of_getElem? hs5)
          have d5 : toks.drop (pos + 1 + 1 + 1 + ((ls.take j).flatMap stepT).length) = stepT s ++ ((ls.drop (j + 1)).flatMap stepT ++ (sgT 125 :: rest)) := by
            rw [d4 j jn]
            have h2 := List.drop_eq_getElem_cons hjl
            have h3 : ls[j] = s := (List.getElem?_eq_some_iff.mp hs5).2
            rw [h3] at h2
            rw [h2, List.flatMap_cons, List.append_assoc]
          obtain ⟨tk, r', e5, ne5⟩ := step_head oks ((ls.drop (j + 1)).flatMap stepT ++ (sgT 125 :: rest))
          have a5 := (drop_at (d5.trans e5)).1
          refine ⟨_, rfl, p, dx5, _, rfl, h5, (by kernel_rfl), peek_go M.s PP a5 fun v hv => ?_⟩
          obtain ⟨q, dq, lq, cq, rfl, hq⟩ := id hv
          refine ⟨q, _, dq, _, .str (mkS tk.t), rfl, M.s _ _ hq, T.cl_Token, T.n_Token_text, (by kernel_rfl), rfl, _, rfl, ite_t ?_ (ite_t rfl ?_)⟩
          · have : ¬ V.str (mkS tk.t) = V.str (Str.ofString "}") := fun z => by
              injection z with z
              have := congrArg tl z
              rw [tl_mkS, t_cb] at this
              exact ne5 this
            rw [decide_eq_false this]; rfl
          refine ⟨fun σ' H' => Iv (j + 1) σ' H', fun σ' H' hn => ⟨_, by omega, j + 1, rfl, hn⟩, ?_⟩
          have lle := ok.le
          refine ⟨_, rfl, wl, _, rfl, .inl (SqL.of hwv), rfl, _, rfl, ite_f (vint_ne (by rw [List.length_map, List.length_map, List.length_take]; omega)) ?_⟩
          refine ⟨_, rfl, .inl ⟨rfl, _, SqL.of hwv⟩, _, rfl, p, dx5, _, rfl, h5, (by kernel_rfl), _, rfl, _, rfl, ?_⟩
          refine ⟨⟨p, nl, jl, G, _, toks, s, _, labsOf (ls.take j), js, rfl, M.s, PP, nG, jG, nj, hnv, hjv, d5, oks, fun t ht => ok.dup j s t hs5 ht, ?_, by omega, fun H6 jv m6 P6 hn6 hj6 hjt => ?_⟩⟩
          · unfold labsOf; rw [List.length_map, List.length_take]; omega
          have hw6 : H6 wl = some (.lst (((ls.take j).map fun s => wS s.w).map V.str)) := m6.kept hwv (by simp [pw.symm, wn, wj])
          have M6 : Mv [p] G H G H6 := ⟨M.ext.trans m6.ext, fun c o e => by
            have e1 := M.sm c o e
            obtain ⟨h1', h2'⟩ := wos_some e
            refine m6.sm c o ?_
            rw [wos_out]
            · exact e1
            · intro hc'
              rcases List.mem_cons.mp hc' with rfl | hc'
              · exact h1' (by simp)
              rcases List.mem_cons.mp hc' with rfl | hc'
              · rw [n0] at h2'; cases h2'
              rcases List.mem_cons.mp hc' with rfl | hc'
              · rw [j0] at h2'; cases h2'
              · cases hc'⟩
          refine ⟨wl, _, _, rfl, rfl, hw6, smaller 20 (by rw [List.length_map, List.length_map, List.length_take]; omega) (by decide), ?_⟩
          rw [hIv]
          refine ⟨js ++ [jv], rfl, by omega, M6.put (.inr w0) wG _, ?_, ?_, ?_, ?_, ?_⟩
          · rw [flat_more hs5, List.length_append, ← Nat.add_assoc]
            exact P6.put pw
          · rw [upd_same, take_more hs5, List.map_append, List.map_append]; rfl
          · rw [upd_ne wn.symm, hn6]
            simp only [labsOf, take_more hs5, List.map_append]
            rfl
          · rw [upd_ne wj.symm]; exact hj6
          · rw [take_more hs5, List.map_append]
            exact Paired.snoc hjs hjt
        · have ej : j = ls.length := by omega
          subst ej
          have d6 := d4 ls.length (Nat.le_refl _)
          rw [List.drop_length] at d6
          have a6 := (drop_at (show _ = sgT 125 :: rest from d6)).1
          refine ⟨_, rfl, p, dx5, _, rfl, h5, (by kernel_rfl), peek_go M.s PP a6 fun v hv => ?_⟩
          obtain ⟨q, dq, lq, cq, rfl, hq⟩ := id hv
          refine ⟨q, _, dq, _, .str (mkS [125]), rfl, M.s _ _ hq, T.cl_Token, T.n_Token_text, (by kernel_rfl), rfl, _, rfl, ite_f (by decide +kernel) ?_⟩
          refine ⟨_, rfl, Nat.zero_le _, fun e1 he1 => ?_⟩
          have hw7 : (upd H' e1 (.lst [])) wl = some (.lst (((ls.take ls.length).map fun s => wS s.w).map V.str)) := by rw [upd_ne (ne_of_none hwv he1)]; exact hwv
          have shp := shaped_of (ds := ((ls.take ls.length).map fun s => wS s.w).map PyData.str) (fun d hd => by
            obtain ⟨x, hx, rfl⟩ := List.mem_map.mp hd
            obtain ⟨y, hy, rfl⟩ := List.mem_map.mp hx
            exact str_lay (wS_ok (ok.all y (List.mem_of_mem_take hy)).w8))
          refine ⟨.list (((ls.take ls.length).map fun s => wS s.w).map PyData.str), .list [], .lst (SqL.of hw7) (DpAll.strs _), .lst (SqL.of upd_same) .nil, shp.1, by decide, _, rfl, ite_f ?_ ?_⟩
          · have hp := ok.pos
            cases els : ls with
            | nil => rw [els] at hp; exact absurd hp (by decide)
            | cons x y => rfl
          refine rest1 _ _ ?_
          rw [hIv]
          exact ⟨js, rfl, Nat.le_refl _, M.lay he1 _, PP.lay he1, hw7, by rw [upd_ne (ne_of_none hnv he1)]; exact hnv, by rw [upd_ne (ne_of_none hjv he1)]; exact hjv, hjs⟩
    rw [hIv] at hI
    obtain ⟨js, rfl, _, M, PP, hwv, hnv, hjv, hjs⟩ := hI
    have d6 := d4 ls.length (Nat.le_refl _)
    rw [List.drop_length] at d6
    have a6 := (drop_at (show _ = sgT 125 :: rest from d6)).1
    rw [List.take_length] at PP hwv hnv hjs a6
    have lle := ok.le
    have jsl : js.length = ls.length := by rw [Paired.len hjs, List.length_map]
    have ssl : ss.length = ls.length := (Paired.len ok.res).symm
    obtain ⟨dx7, ta7, fl7, h7⟩ := PP.some
    refine ⟨_, rfl, p, dx7, _, rfl, h7, (by kernel_rfl), take_go (tk := sgT 125) (mkS_of t_cb) M (.inl (by simp)) PP a6 fun H8 v8 M8 m8 P8 _ => ?_⟩
    have hw8 := m8.kept hwv (by simp [pw.symm])
    have hn8 := m8.kept hnv (by simp [pn.symm])
    have hj8 := m8.kept hjv (by simp [pj.symm])
    refine ⟨Nat.zero_le _, fun sl hsl => ?_⟩
    have M9 := M8.lay hsl (.lst [])
    have P9 := P8.lay (o := .lst []) hsl
    have s0' : H sl = none := M8.free hsl
    have sG : G sl = none := M8.freeG hsl
    have ps : p ≠ sl := fun e => by rw [← e, h1] at s0'; cases s0'
    have sw : wl ≠ sl := ne_of_none hw8 hsl
    have sn : nl ≠ sl := ne_of_none hn8 hsl
    have sj : jl ≠ sl := ne_of_none hj8 hsl
    have hw9 : (upd H8 sl (.lst [])) wl = some (.lst ((ls.map fun s => wS s.w).map V.str)) := by rw [upd_ne sw]; exact hw8
    have hn9 : (upd H8 sl (.lst [])) nl = some (.lst ((labsOf ls).map labV)) := by rw [upd_ne sn]; exact hn8
    have hj9 : (upd H8 sl (.lst [])) jl = some (.lst js) := by rw [upd_ne sj]; exact hj8
    refine ⟨_, rfl, _, rfl, wl, jl, _, _, rfl, SqL.of hw9, SqL.of hj9, for_it (walk_zip (K := K) (a := wl) (b := jl) (xs := (ls.map fun s => wS s.w).map V.str) (ys := js) (n := ls.length) (by rw [List.length_map, List.length_map, jsl]; simp))
      (fun i σ H' => ∃ (G' : Hp) (xs : List V) (v8 v9 : Option V), σ = [some (.ref p), some (.int cells), some (.ref ot), some (.ref q2), some (.ref wl), some (.ref nl), some (.ref jl), some (.ref sl), v8, v9] ∧ Mv [p] G H G' H' ∧ ParAt a G' H' p (pos + 1 + 1 + 1 + (ls.flatMap stepT).length + 1) toks ∧
        H' wl = some (.lst ((ls.map fun s => wS s.w).map V.str)) ∧ H' nl = some (.lst ((labsOf ls).map labV)) ∧ H' jl = some (.lst js) ∧ G' sl = none ∧ H' sl = some (.lst xs) ∧ DpAll K G' xs ((ss.take i).map Step.D)) ?_ ?_ ?_ ?_⟩
    · exact ⟨G, [], none, none, rfl, M9, P9, hw9, hn9, hj9, sG, upd_same, .nil⟩
    · rintro i σ H' _ ⟨G', xs, v8, v9, rfl, _, _, hw', _, hj', _⟩
      exact ⟨SqL.of hw', SqL.of hj'⟩
    · rintro i y σ H10 H11 hi ⟨G', xs, v8', v9', rfl, M10, P10, hw10, hn10, hj10, sG10, hs10, hD10⟩ ⟨T', x, z, rfl, hT', rfl, hx, hz⟩
      have hx : ((ls.map fun s => wS s.w).map V.str)[i]? = some x := hx
      have hz : js[i]? = some z := hz
      obtain ⟨s, hsi⟩ : ∃ s, ls[i]? = some s := ⟨_, List.getElem?_eq_getElem hi⟩
      have ex : x = .str (wS s.w) := by
        rw [List.getElem?_map, List.getElem?_map, hsi] at hx
        exact (Option.some.inj hx).symm
      subst ex
      obtain ⟨r, hri, hres⟩ := paired_get ok.res hsi
      obtain ⟨tg, htg, hjt⟩ := paired_get hjs hz
      have etg : tg = s.tgt := by
        rw [List.getElem?_map, hsi] at htg
        exact (Option.some.inj htg).symm
      subst etg
      have xsl : xs.length ≤ 20 := by rw [DpAll.len hD10, List.length_map, List.length_take]; omega
      have M11 := M10.lay hT' (.tup [.str (wS s.w), z])
      have P11 := P10.lay (o := .tup [.str (wS s.w), z]) hT'
      have hw11 : (upd H10 T' (.tup [.str (wS s.w), z])) wl = _ := (upd_ne (ne_of_none hw10 hT')).trans hw10
      have hn11 : (upd H10 T' (.tup [.str (wS s.w), z])) nl = _ := (upd_ne (ne_of_none hn10 hT')).trans hn10
      have hj11 : (upd H10 T' (.tup [.str (wS s.w), z])) jl = _ := (upd_ne (ne_of_none hj10 hT')).trans hj10
      have hs11 : (upd H10 T' (.tup [.str (wS s.w), z])) sl = _ := (upd_ne (ne_of_none hs10 hT')).trans hs10
      refine ⟨T', _, rfl, SqT.of upd_same, rfl, _, _, rfl, _, _, rfl, rfl, ?_⟩
      revert M11 P11 hw11 hn11 hj11 hs11
      generalize upd H10 T' (.tup [.str (wS s.w), z]) = H11
      intro M11 P11 hw11 hn11 hj11 hs11
      -- the step appended
      have fin : ∀ (gv : V), (∀ G, Dp K G gv (optD r.g)) → (2 ≤ sizeLine ∧ ∀ t, H11 t = none → ∃ l' ys y, (V.ref sl) = .ref l' ∧ [V.ref t] = [y] ∧ (upd H11 t (.tup [.str (wS s.w), gv])) l' = some (.lst ys) ∧ ys.length < sizeLine ∧
          (∃ (G' : Hp) (xs : List V) (v8 v9 : Option V), [some (V.ref p), some (.int cells), some (.ref ot), some (.ref q2), some (.ref wl), some (.ref nl), some (.ref jl), some (.ref sl), some (.str (wS s.w)), some z] = [some (.ref p), some (.int cells), some (.ref ot), some (.ref q2), some (.ref wl), some (.ref nl), some (.ref jl), some (.ref sl), v8, v9] ∧ Mv [p] G H G' (upd (upd H11 t (.tup [.str (wS s.w), gv])) l' (.lst (ys ++ [y]))) ∧ ParAt a G' (upd (upd H11 t (.tup [.str (wS s.w), gv])) l' (.lst (ys ++ [y]))) p (pos + 1 + 1 + 1 + (ls.flatMap stepT).length + 1) toks ∧
            (upd (upd H11 t (.tup [.str (wS s.w), gv])) l' (.lst (ys ++ [y]))) wl = some (.lst ((ls.map fun s => wS s.w).map V.str)) ∧ (upd (upd H11 t (.tup [.str (wS s.w), gv])) l' (.lst (ys ++ [y]))) nl = some (.lst ((labsOf ls).map labV)) ∧ (upd (upd H11 t (.tup [.str (wS s.w), gv])) l' (.lst (ys ++ [y]))) jl = some (.lst js) ∧ G' sl = none ∧ (upd (upd H11 t (.tup [.str (wS s.w), gv])) l' (.lst (ys ++ [y]))) sl = some (.lst xs) ∧ DpAll K G' xs ((ss.take (i + 1)).map Step.D))) := by
        intro gv hgv
        refine ⟨by decide, fun t ht => ?_⟩
        have st' : sl ≠ t := ne_of_none hs11 ht
        have M12 := M11.new ht (.tup [.str (wS s.w), gv])
        have P12 := P11.new (o := .tup [.str (wS s.w), gv]) M11.s ht
        have sG12 : upd G' t (.tup [.str (wS s.w), gv]) sl = none := by rw [upd_ne st']; exact sG10
        have nGt := same_new (H := G') (p := t) (o := .tup [.str (wS s.w), gv]) (M11.freeG ht)
        refine ⟨sl, xs, _, rfl, rfl, by rw [upd_ne st']; exact hs11, smaller 20 xsl (by decide), _, xs ++ [.ref t], _, _, rfl, M12.put (.inr s0') sG12 _, P12.put ps, ?_, ?_, ?_, sG12, upd_same, ?_⟩
        · rw [upd_ne sw, upd_ne (ne_of_none hw11 ht)]; exact hw11
        · rw [upd_ne sn, upd_ne (ne_of_none hn11 ht)]; exact hn11
        · rw [upd_ne sj, upd_ne (ne_of_none hj11 ht)]; exact hj11
        · rw [take_more hri, List.map_append]
          refine DpAll.snoc (Dp.monoAll nGt _ _ hD10) (.tup (SqT.of upd_same) (.cons ?_ (.cons (hgv _) .nil)))
          rw [hres.w]
          exact .str _
      cases htg' : s.tgt with
      | none =>
        rw [htg'] at hjt
        have hz' : z = .non := hjt
        subst hz'
        refine ⟨_, rfl, rfl, _, rfl, ite_f rfl (ite_f rfl ?_)⟩
        refine ⟨_, rfl, .inl ⟨rfl, _, SqL.of hs11⟩, _, rfl, _, rfl, rfl, _, rfl, ite_f rfl (ite_f rfl ?_)⟩
        exact fin .non (fun G => by rw [hres.no htg']; exact .non)
      | some t =>
        rw [htg'] at hjt
        obtain ⟨kk, hg, hlk, hfirst⟩ := hres.yes t htg'
        obtain ⟨q, dq, lq, cq, rfl, hq⟩ := id hjt
        have hmem : some t ∈ labsOf ls := List.mem_of_getElem? hlk
        have hqH : H11 q = some (.ins a.C_Token dq (tokF (nmT t) lq cq)) := M11.s _ _ (M10.g _ _ hq)
        refine ⟨_, rfl, rfl, _, rfl, ite_t rfl ?_⟩
        refine ⟨_, rfl, q, _, dq, _, .str (mkS t), rfl, hqH, T.cl_Token, T.n_Token_text, (by kernel_rfl), _, rfl, nl, _, rfl, .inl (SqL.of hn11), rfl, lab_flat _, _, rfl, ite_f (by rw [if_pos rfl, lab_in, decide_eq_true hmem]; rfl) ?_⟩
        refine ⟨_, rfl, .inl ⟨rfl, _, SqL.of hs11⟩, _, rfl, _, rfl, rfl, _, rfl, ite_t rfl ?_⟩
        refine ⟨_, rfl, q, _, dq, _, .str (mkS t), rfl, hqH, T.cl_Token, T.n_Token_text, (by kernel_rfl), _, rfl, nl, _, rfl, .inl (SqL.of hn11), rfl, lab_flat _, _, rfl, ite_t (by rw [if_neg Bool.false_ne_true, lab_in, decide_eq_true hmem]) ?_⟩
        refine ⟨_, rfl, .inl ⟨rfl, _, SqL.of hn11⟩, _, rfl, q, _, dq, _, .str (mkS t), rfl, hqH, T.cl_Token, T.n_Token_text, (by kernel_rfl), nl, _, .str (mkS t), kk, labV (some t), rfl, rfl, SqL.of hn11, rfl, lab_flat _, (by rw [List.getElem?_map, hlk]; rfl), (by rw [eqV_lab]; exact decide_eq_true rfl), (fun m z' hm hz' => ?_), ?_⟩
        · rw [List.getElem?_map] at hz'
          cases em : (labsOf ls)[m]? with
          | none => rw [em] at hz'; cases hz'
          | some lm =>
            rw [em] at hz'
            have : z' = labV lm := (Option.some.inj hz').symm
            rw [this, eqV_lab]
            exact decide_eq_false fun e => hfirst m hm (by rw [em, e])
        · exact fin (.int kk) (fun G => by rw [hg]; exact .int kk)
    · rintro σ H10 ⟨G', xs, v8', v9', rfl, M10, P10, hw10, hn10, hj10, sG10, hs10, hD10⟩
      have ess : ss.take ls.length = ss := by rw [← ssl]; exact List.take_length
      rw [ess] at hD10
      have hq10 : H10 q2 = some (.ins a.C_Token dq2 (tokF (numT st) lq2 cq2)) := M10.s _ _ (M10.g _ _ hq2)
      refine ⟨_, rfl, q2, _, dq2, _, .str (mkS (numL st)), rfl, hq10, T.cl_Token, T.n_Token_text, (by kernel_rfl), _, (st : Int), rfl, io, nlen, _, rfl, _, rfl, fun x dx' nx nd ne => init_go2 rfl ⟨rfl, ?_⟩⟩
      have M11 := (M10.freeze s0' hs10).freeze n0 hn10
      have M12 := M11.make nx nd ne (.ins a.C_Robot dx' (robF st sl nl))
      have g1 : Same G' (upd G' sl (.lst xs)) := same_new sG10
      have M10' := M10.freeze s0' hs10
      have g2 := same_frz M10'.s hn10
      have g3 := same_make (M11.freeG nx) (M11.freeG nd) ne (.ins a.C_Robot dx' (robF st sl nl))
      have px : p ≠ x := by obtain ⟨_, _, _, h⟩ := P10.some; exact ne_of_none h nx
      have pdx : p ≠ dx' := by obtain ⟨_, _, _, h⟩ := P10.some; exact ne_of_none h nd
      refine k _ _ _ M12 ?_ ⟨x, dx', sl, nl, rfl, upd_same, .lst (SqL.of ?_) (Dp.monoAll ((g1.trans g2).trans g3) _ _ hD10), _, SqL.of (g3 _ _ upd_same), ?_⟩
      · have el : pos + 1 + 1 + 1 + (ls.flatMap stepT).length + 1 = pos + (robotT st ls).length := by
          unfold robotT
          simp only [List.length_append, List.length_cons, List.length_nil]
          omega
        rw [el] at P10
        refine P10.grow ((g1.trans g2).trans g3) (fun o e => by rw [upd_ne px, upd_ne pdx]; exact e) ?_
        rw [upd_ne px, upd_ne pdx, upd_ne pn, upd_ne ps]
        exact P10.out
      · exact (g2.trans g3) _ _ upd_same
      · rw [List.length_map, ssl]; exact List.length_map ..
end
end Sb

namespace Sb
open PySem PySem.Spec PyProof.Rows L2 TL
def planF (sh rl : Addr) : List (Str × V) := [("shelf", .ref sh), ("robots", .ref rl)]
def PlanAt (a : Ad) (K : PySem.W.Frag) (G : Hp) (v : V) (x : Pl) : Prop := ∃ (r dx sh rl : Addr) (r1 r2 : V), v = .ref r ∧ G r = some (.ins a.C_Plan dx (planF sh rl)) ∧ SqT K G sh (x.shelf.map fun n : Nat => V.int n) ∧ SqL K G rl [r1, r2] ∧ RobAt a K G r1 x.a x.p ∧ RobAt a K G r2 x.b x.q
theorem PlanAt.mono {a : Ad} {K : PySem.W.Frag} {G G' : Hp} {v : V} {x : Pl} (s : Same G G') (h : PlanAt a K G v x) : PlanAt a K G' v x := by
  obtain ⟨r, dx, sh, rl, r1, r2, e, h1, h2, h3, h4, h5⟩ := h
  exact ⟨r, dx, sh, rl, r1, r2, e, s _ _ h1, Same.seqT s h2, s.seq h3, h4.mono s, h5.mono s⟩
def planT (x : Pl) (l1 l2 : List LStep) : List Tk := kwT "shelf" :: (x.shelf.map numT ++ (sgT 59 :: (robotT x.a l1 ++ robotT x.b l2)))
/-- a text whose tokens are those of the plan x -/
structure Loads (src : Str) (x : Pl) : Prop where
  ex : ∃ (l1 l2 : List LStep) (rows : List (List Nat)) (tss : List (List Tk)), tl src = joinL [10] rows ∧ rows ≠ [] ∧ (∀ r ∈ rows, 10 ∉ r) ∧ (∀ r ∈ rows, r.length ≤ 3000) ∧ (tl src).length ≤ 3000000 ∧ Paired Lx rows tss ∧ tss.flatten = planT x l1 l2 ∧ LOk l1 x.p ∧ LOk l2 x.q
structure spParInit (C : Addr) (vs : List V) (H : Hp) (Q : VK) (E : XK) : Prop where
  ex : ∃ (x dx tk : Addr), vs = [.ref x, .ref tk] ∧ H x = some (.ins C dx []) ∧ ∀ fl, H fl = none → Q .non (upd (upd H fl (.lst [])) x (.ins C dx (parF tk fl 0)))
structure spPPlan (a : Ad) (K : PySem.W.Frag) (vs : List V) (H : Hp) (Q : VK) (E : XK) : Prop where
  ex : ∃ (p : Addr) (G : Hp) (x : Pl) (l1 l2 : List LStep), vs = [.ref p] ∧ Same G H ∧ ParAt a G H p 0 (planT x l1 l2 ++ [⟨.fin, []⟩]) ∧ x.Ok ∧ LOk l1 x.p ∧ LOk l2 x.q ∧ ∀ G1 H1 v, Mv [p] G H G1 H1 → PlanAt a K G1 v x → Q v H1
structure spLoad (a : Ad) (K : PySem.W.Frag) (vs : List V) (H : Hp) (Q : VK) (E : XK) : Prop where
  ex : ∃ (src : Str) (G : Hp) (x : Pl), vs = [.str src] ∧ Loads src x ∧ x.Ok ∧ Pure G H Q (fun G' v => PlanAt a K G' v x)
theorem upd_swap {H : Hp} {x fl : Addr} {o1 o2 o3 : HO} (ne : fl ≠ x) : upd (upd (upd H x o1) fl o2) x o3 = upd (upd H fl o2) x o3 := by
  funext b
  unfold upd
  by_cases h : b = x
  · rw [if_pos h, if_pos h]
  · rw [if_neg h, if_neg h, if_neg h]
theorem stepT_len {s : LStep} : (stepT s).length ≤ 5 := by
  unfold stepT
  simp only [List.length_append, List.length_cons, List.length_nil]
  have h1 : (labT s.lab).length ≤ 2 := by cases s.lab <;> simp [labT]
  have h2 : (tgtT s.tgt).length ≤ 1 := by cases s.tgt <;> simp [tgtT]
  omega
theorem flat_stepT : ∀ l : List LStep, (l.flatMap stepT).length ≤ 5 * l.length
  | [] => by simp
  | s :: r => by
    have := flat_stepT r
    have h := stepT_len (s := s)
    rw [List.flatMap_cons, List.length_append, List.length_cons]
    omega
theorem planT_len {x : Pl} {l1 l2 : List LStep} (h : x.shelf.length ≤ 12) (h1 : l1.length ≤ 20) (h2 : l2.length ≤ 20) : (planT x l1 l2).length ≤ 1000 := by
  have a1 := flat_stepT l1
  have a2 := flat_stepT l2
  unfold planT robotT
  simp only [List.length_append, List.length_cons, List.length_nil, List.length_map]
  omega
section
variable {P : Program} {w : World} {K : PySem.W.Frag} {mg : Str → Option Value} {base : Heap} {a : Ad}
theorem ok_Parser_init (T : Txt K mg a) : FnOk P w K mg base CX0 1 a.f_Parser_init a.d_Parser_init ["self", "tokens"] (spParInit a.C_Parser) := by
  refine T.F_Parser_init.ok sc_Parser_init (fun vs H Q E h => ?_) (fun cdv A outer s H vs Q E hr h => ?_)
  · obtain ⟨⟨x, dx, tk, rfl, _⟩⟩ := h
    rfl
  · obtain ⟨⟨x, dx, tk, rfl, hx, k⟩⟩ := h
    refine ⟨_, (pss_cons (ps_fld (pv 0) (pv 1) rfl)
      (pss_cons (ps_fld (pv 0) pe_int rfl)
      (pss_one (ps_fld (pv 0) (pe_lst pa_nil) rfl)))), ?_⟩
    refine ⟨_, rfl, _, rfl, x, _, dx, _, rfl, hx, T.cl_Parser, T.n_Parser_tokens, by decide, ?_⟩
    refine ⟨_, rfl, x, _, dx, _, rfl, upd_same, T.cl_Parser, T.n_Parser_at, lf1, ?_⟩
    rw [upd_upd]
    refine ⟨Nat.zero_le _, fun fl hfl => ?_⟩
    have ne : fl ≠ x := fun e => by rw [e, upd_same] at hfl; cases hfl
    rw [upd_ne ne] at hfl
    refine ⟨_, rfl, x, _, dx, _, rfl, by rw [upd_ne ne.symm, upd_same], T.cl_Parser, T.n_Parser_faults, lf2, ?_⟩
    rw [upd_swap ne]
    have e : putF "faults" (V.ref fl) (putF "at" (V.int 0) (putF "tokens" (V.ref tk) [])) = parF tk fl 0 := by
      show putF "faults" (V.ref fl) (putF "at" (V.int 0) [("tokens", V.ref tk)]) = _
      rw [putF_new (fs := [("tokens", V.ref tk)]) (show ("at" : Str) ∉ (["tokens"] : List Str) by decide +kernel)]
      show putF "faults" (V.ref fl) [("tokens", V.ref tk), ("at", V.int 0)] = _
      rw [putF_new (fs := [("tokens", V.ref tk), ("at", V.int 0)]) (show ("faults" : Str) ∉ (["tokens", "at"] : List Str) by decide +kernel)]
      rfl
    rw [e]
    exact k fl hfl
theorem ok_Parser_parse_plan (T : Txt K mg a) : FnOk P w K mg base CX0 5 a.f_Parser_parse_plan a.d_Parser_parse_plan ["self"] (spPPlan a K) := by
  refine T.F_Parser_parse_plan.ok sc_Parser_parse_plan (fun vs H Q E h => ?_) (fun cdv A outer s H vs Q E hr h => ?_)
  · obtain ⟨⟨p, G, x, l1, l2, rfl, _⟩⟩ := h
    rfl
  · obtain ⟨⟨p, G, x, l1, l2, rfl, hs, hP, hx, o1, o2, k⟩⟩ := h
    refine ⟨_, (pss_cons (ps_set (i := 1) sc_Parser_parse_plan.nd rfl (Or.inl rfl) (pe_meth0 (pv 0) T.cl_Parser T.M_Parser_parse_shelf (ok_Parser_parse_shelf T) (hr.mono (by decide)) (b_Parser_parse_shelf T) .nil pass0))
      (pss_cons (ps_set (i := 2) sc_Parser_parse_plan.nd rfl (Or.inl rfl) (pe_meth (pv 0) T.cl_Parser T.M_Parser_parse_robot (ok_Parser_parse_robot T) (hr.mono (by decide)) (b_Parser_parse_robot T) .nil pass0 (pa_cons (pe_callB call_len_seq (by rfl) T.z_len (by decide +kernel) (pa_cons (pv 1) pa_nil)) (pa_cons (pe_tup pa_nil) pa_nil))))
      (pss_cons (ps_set (i := 3) sc_Parser_parse_plan.nd rfl (Or.inl rfl) (pe_meth (pv 0) T.cl_Parser T.M_Parser_parse_robot (ok_Parser_parse_robot T) (hr.mono (by decide)) (b_Parser_parse_robot T) .nil pass0 (pa_cons (pe_callB call_len_seq (by rfl) T.z_len (by decide +kernel) (pa_cons (pv 1) pa_nil)) (pa_cons (pe_tup (pa_cons (pe_fld (pv 2) rfl) pa_nil)) pa_nil))))
      (pss_cons (ps_if (pt_cmpR op_ne (pe_fld (pe_meth0 (pv 0) T.cl_Parser T.M_Parser_peek (ok_Parser_peek T) (hr.mono (by decide)) (b_Parser_peek T) .nil pass0) rfl) (pe_glob (v := V.str (Str.ofString "end")) rfl T.c_END ⟨_, rfl⟩) (nomark _)) pss_never pss_nil)
      (pss_cons (ps_if (pt_cmpR (op_neD hr.units) (pe_fld (pv 0) rfl) (pe_lst pa_nil) (nomark _)) pss_never pss_nil)
      (pss_one (ps_ret (pe_make T.mk_Plan (ok_Plan_init T) (hr.mono (by decide)) (by rfl) T.m_Plan (b_Plan_init T) .nil pass0 (pa_cons (pv 1) (pa_cons (pe_lst (pa_cons (pv 2) (pa_cons (pv 3) pa_nil))) pa_nil)))))))))), ?_⟩
    obtain ⟨dx, ta, fl, h1⟩ := hP.some
    have c12 := hx.c12
    have e0 : (planT x l1 l2 ++ [⟨.fin, []⟩] : List Tk).drop 0 = kwT "shelf" :: (x.shelf.map numT ++ (sgT 59 :: (robotT x.a l1 ++ (robotT x.b l2 ++ [⟨.fin, []⟩])))) := by unfold planT; simp
    refine ⟨_, rfl, p, dx, _, rfl, h1, (by kernel_rfl), ⟨⟨p, G, 0, _, x.shelf, _, rfl, hs, hP, e0, hx.c3, hx.c12, hx.b3, fun G1 H1 u M1 P1 hu => ?_⟩⟩⟩
    obtain ⟨dx1, ta1, fl1, h11⟩ := P1.some
    have d1 : (planT x l1 l2 ++ [⟨.fin, []⟩] : List Tk).drop (0 + x.shelf.length + 2) = robotT x.a l1 ++ (robotT x.b l2 ++ [⟨.fin, []⟩]) := by
      have e : (planT x l1 l2 ++ [⟨.fin, []⟩] : List Tk) = (kwT "shelf" :: (x.shelf.map numT ++ [sgT 59])) ++ (robotT x.a l1 ++ (robotT x.b l2 ++ [⟨.fin, []⟩])) := by unfold planT; simp
      have l : 0 + x.shelf.length + 2 = (kwT "shelf" :: (x.shelf.map numT ++ [sgT 59])).length := by simp
      rw [e, l, List.drop_left]
    refine ⟨_, rfl, p, dx1, _, rfl, h11, (by kernel_rfl), _, rfl, u, _, rfl, .inr (Same.seqT M1.s hu), (by show 0 ≤ sizeLine; decide), fun t0 ht0 => ?_⟩
    have M2 := M1.new ht0 (.tup [])
    have P2 := P1.new (o := .tup []) M1.s ht0
    have el : (x.shelf.map fun n : Nat => V.int n).length = x.shelf.length := List.length_map ..
    refine ⟨⟨p, t0, _, _, _, x.shelf.length, x.a, [], l1, x.p, _, by rw [el]; rfl, M2.s, P2, SqT.of upd_same, d1, hx.ha, by omega, by simp, o1, fun G3 H3 v3 m3 P3 hr3 => ?_⟩⟩
    have M3 := M2.trans m3
    have hu3 : SqT K G3 u _ := Same.seqT ((same_new (M1.freeG ht0)).trans m3.g) hu
    obtain ⟨r3, dr3, sl3, nl3, rfl, hr3', hD3⟩ := id hr3
    obtain ⟨dx3, ta3, fl3, h13⟩ := P3.some
    refine ⟨_, rfl, p, dx3, _, rfl, h13, (by kernel_rfl), _, rfl, u, _, rfl, .inr (Same.seqT M3.s hu3), _, rfl, r3, _, dr3, _, .int x.a, rfl, M3.s _ _ hr3', T.cl_Robot, T.n_Robot_start, (by kernel_rfl), (by show 1 ≤ sizeLine; decide), fun t1 ht1 => ?_⟩
    have M4 := M3.new ht1 (.tup [.int x.a])
    have P4 := P3.new (o := .tup [.int x.a]) M3.s ht1
    have d2 : (planT x l1 l2 ++ [⟨.fin, []⟩] : List Tk).drop (0 + x.shelf.length + 2 + (robotT x.a l1).length) = robotT x.b l2 ++ [⟨.fin, []⟩] := by
      rw [← List.drop_drop, d1, List.drop_left]
    refine ⟨⟨p, t1, _, _, _, x.shelf.length, x.b, [x.a], l2, x.q, _, by rw [el]; rfl, M4.s, P4, SqT.of upd_same, d2, hx.hb, by omega, by simp [hx.ne.symm], o2, fun G5 H5 v5 m5 P5 hr5 => ?_⟩⟩
    have M5 := M4.trans m5
    have g5 := (same_new (o := .tup [.int x.a]) (M3.freeG ht1)).trans m5.g
    have d3 : (planT x l1 l2 ++ [⟨.fin, []⟩] : List Tk).drop (0 + x.shelf.length + 2 + (robotT x.a l1).length + (robotT x.b l2).length) = [⟨.fin, []⟩] := by
      rw [← List.drop_drop, d2, List.drop_left]
    obtain ⟨dx5, ta5, fl5, vs5, h15, _, _, _, hf5⟩ := id P5
    -- END
    refine ⟨_, rfl, p, dx5, _, rfl, h15, (by kernel_rfl), peek_go M5.s P5 (drop_at d3).1 fun v hv => ?_⟩
    obtain ⟨q, dq, lq, cq, rfl, hq⟩ := id hv
    refine ⟨q, _, dq, _, .str (kS .fin), rfl, M5.s _ _ hq, T.cl_Token, T.n_Token_kind, (by kernel_rfl), rfl, _, rfl, ite_f (by decide +kernel) ?_⟩
    -- no faults
    refine ⟨_, rfl, p, _, dx5, _, .ref fl5, rfl, h15, T.cl_Parser, T.n_Parser_faults, (by kernel_rfl), Nat.zero_le _, fun e1 he1 => ?_⟩
    have M6 := M5.lay he1 (.lst [])
    refine ⟨.list [], .list [], .lst (SqL.of (M6.s _ _ hf5)) .nil, .lst (SqL.of upd_same) .nil, by decide, by decide, _, rfl, ite_f (by decide) ?_⟩
    refine ⟨_, rfl, _, rfl, _, rfl, (by show 2 ≤ sizeLine; decide), fun rl hrl => ?_⟩
    have M7 := M6.new hrl (.lst [.ref r3, v5])
    intro y dy ny nd ne
    refine init_go2 rfl ⟨rfl, ?_⟩
    have M8 := M7.make ny nd ne (.ins a.C_Plan dy (planF u rl))
    have g7 := same_new (o := .lst [.ref r3, v5]) (M6.freeG hrl)
    have g8 := same_make (M7.freeG ny) (M7.freeG nd) ne (.ins a.C_Plan dy (planF u rl))
    refine k _ _ _ M8 ⟨y, dy, u, rl, _, _, rfl, upd_same, Same.seqT ((g5.trans g7).trans g8) hu3, g8.seq (SqL.of upd_same), hr3.mono ((g5.trans g7).trans g8), hr5.mono (g7.trans g8)⟩
theorem ok_load (T : Txt K mg a) : FnOk P w K mg base CX0 6 a.f_load a.d_load ["plan"] (spLoad a K) := by
  refine T.F_load.ok sc_load (fun vs H Q E h => ?_) (fun cdv A outer s H vs Q E hr h => ?_)
  · obtain ⟨⟨src, G, x, rfl, _⟩⟩ := h
    rfl
  · obtain ⟨⟨src, G, x, rfl, ⟨⟨l1, l2, rows, tss, e1, e2, e3, e4, e5, e6, e7, o1, o2⟩⟩, hx, hGH, k⟩⟩ := h
    refine ⟨_, (pss_one (ps_ret (pe_meth0 (pe_make T.mk_Parser (ok_Parser_init T) (hr.mono (by decide)) (by rfl) T.m_Parser (b_Parser_init T) .nil pass0 (pa_cons (pe_call (ok_tokenize T) (hr.mono (by decide)) rfl T.m_tokenize T.F_tokenize.kp (b_tokenize T) .nil pass0 (pa_cons (pv 0) pa_nil)) pa_nil)) T.cl_Parser T.M_Parser_parse_plan (ok_Parser_parse_plan T) (hr.mono (by decide)) (b_Parser_parse_plan T) .nil pass0))), ?_⟩
    have hl : tss.flatten.length ≤ 100000 := by rw [e7]; have := planT_len (x := x) hx.c12 o1.le o2.le; omega
    refine ⟨_, rfl, ⟨⟨src, G, rows, tss, rfl, e1, e2, e3, e4, e5, e6, hl, hGH, fun G1 H1 v x1 s1 h1 => ?_⟩⟩⟩
    obtain ⟨tk, vs, rfl, htk, hts⟩ := h1
    intro y dy ny nd ne
    refine ⟨⟨y, dy, tk, rfl, upd_same, fun fl hfl => ⟨rfl, ?_⟩⟩⟩
    have B1 := (Pt.start hGH).call x1 s1
    have ydy : y ≠ dy := ne.symm
    have fy : fl ≠ y := fun e => by rw [e, upd_same] at hfl; cases hfl
    have hfl2 : (upd H1 dy (.own y)) fl = none := by rw [upd_ne fy] at hfl; exact hfl
    rw [upd_swap fy]
    have B2 := (B1.new nd (.own y)).new hfl2 (.lst [])
    have ny2 : (upd (upd H1 dy (.own y)) fl (.lst [])) y = none := by rw [upd_ne fy.symm, upd_ne ydy]; exact ny
    have B3 := B2.lay ny2 (.ins a.C_Parser dy (parF tk fl 0))
    have yG := B2.freeG ny2
    have gg := (same_new (o := .own y) (B1.freeG nd)).trans (same_new (o := .lst []) ((B1.new nd (.own y)).freeG hfl2))
    refine ⟨y, dy, _, rfl, upd_same, (by kernel_rfl), ?_⟩
    rw [e7] at hts
    refine ⟨⟨y, _, x, l1, l2, rfl, B3.s, ⟨dy, tk, fl, vs, upd_same, yG, gg _ _ htk, hts.mono gg, upd_same⟩, hx, o1, o2, fun G5 H5 v5 m5 hp5 => ?_⟩⟩
    have y0 : H y = none := B2.free ny2
    refine k _ _ _ (B3.ext.trans m5.ext) (fun b o e => ?_) hp5
    refine m5.sm b o ?_
    rw [wos_out (by intro hb; rw [List.mem_singleton.mp hb, y0] at e; cases e)]
    exact B3.sm b o e
end
end Sb

namespace Sb
open PySem PySem.Spec PyProof.Rows L2
/-! ### enumerate(tuple) -/
theorem meets_enumerate_new1 {v : Value} {o : Obj} {H : Heap → Prop} (B : Begins v o H) :
    Meets (Builtin.«enumerate.__new__» ⟨[.type "enumerate", v], []⟩) (fun _ R s => H s.heap ∧
      R (.ok (.ret (.ref (s.heap.push o).objs.size))) { s with heap := (s.heap.push o).push { cls := .type "enumerate", data := .fields #[.none, .bool false, .ref s.heap.objs.size, rawInt 0, .none, .none] } }) :=
  .of_wp fun prog w A R s h => by
    obtain ⟨hp, g, d, tk, os⟩ := s; obtain ⟨h1, h⟩ := h
    have hsub := sub_enumerate
    have q1 : ∀ {A' : Around} {E : Value → Shared → Prop} {Q : Value → Shared → Prop}, Q (.ref hp.objs.size) ⟨hp.push o, g, d, tk, os⟩ → wpAny (model prog w) A' (pyIter v) Q E ⟨hp, g, d, tk, os⟩ :=
      fun q => B.iter prog w _ _ ⟨hp, g, d, tk, os⟩ _ h1 q
    wp_walk using q1
    refine wpAny_stack_any fun st => wpAny_pure ?_
    split
    · rename_i c _ _ _ _ _
      cases (c == Value.type "enumerate")
      · wp_walk using q1
        exact ⟨_, rfl, h⟩
      · wp_walk using q1
        exact ⟨_, rfl, h⟩
    · wp_walk using q1
      exact ⟨_, rfl, h⟩
section
variable {prog : Program} {w : World} {A : Around} {E : Value → Shared → Prop} {s : Shared}
theorem enum_begins1 {v : Value} {o : Obj} {H : Heap → Prop} {Q : Value → Shared → Prop} (B : Begins v o H) (h1 : H s.heap)
    (h : ∀ h', IsEnum h' (s.heap.objs.size + 1) s.heap.objs.size 0 .none → h'.get? s.heap.objs.size = some o → h'.objs.size = s.heap.objs.size + 2 →
      (∀ b o, s.heap.get? b = some o → h'.get? b = some o) → Q (.ref (s.heap.objs.size + 1)) { s with heap := h' }) :
    wpAny (model prog w) A (call (.type "enumerate") [v]) Q E s := by
  refine callType_new F.called_enumerate (by decide) (F.typeCall_enumerate_1 _) (F.newCall_enumerate_1 _) (fun obj => F.args_object_init_2 obj _) F.entry_enumerate_new
    (meets_enumerate_new1 B) ⟨h1, ?_⟩
  have hz : (s.heap.push o).objs.size = s.heap.objs.size + 1 := Heap.size_push ..
  show _ ∧ _
  rw [hz]
  have he : IsEnum ((s.heap.push o).push { cls := .type "enumerate", data := .fields #[.none, .bool false, .ref s.heap.objs.size, rawInt 0, .none, .none] }) (s.heap.objs.size + 1) s.heap.objs.size 0 .none := by
    have := Heap.get?_push_size (s.heap.push o) (o := { cls := .type "enumerate", data := .fields #[.none, .bool false, .ref s.heap.objs.size, rawInt 0, .none, .none] }) rfl
    rw [hz] at this; exact this
  refine ⟨⟨_, he, rfl⟩, h _ he (Heap.get?_push_of_some _ (Heap.get?_push_size _ B.free)) (by rw [Heap.size_push, hz]) fun b o x => Heap.get?_push_of_some _ (Heap.get?_push_of_some _ x)⟩
end
def IteT (K : PySem.W.Frag) (a : Addr) : It :=
  ⟨fun i H => ∃ (xs : List V) (x : V), SqT K H a xs ∧ xs[i]? = some x, fun i H v H' => ∃ T x, v = .ref T ∧ H T = none ∧ H' = upd H T (.tup [.int (i : Nat), x]) ∧ ∀ xs, SqT K H a xs → xs[i]? = some x, fun i H => ∃ xs : List V, SqT K H a xs ∧ xs.length = i⟩
theorem turn_enumT {P : Program} {w : World} {K : PySem.W.Frag} {elts : List Expr} {kk : Nat} {tpos : Pos} (a e it : Addr) :
    Turn P w K (.Tuple elts kk tpos) (IteT K a) [e, it] e (fun i h => (∃ old, IsEnum h e it ((i : Nat) : Int) old) ∧ h.IsTupleIter it a i ∧ e ≠ it) where
  mem := by simp
  obj := fun i h st b hb => by
    obtain ⟨⟨old, he⟩, ⟨o, ho, hc, hd⟩, _⟩ := st
    have e' : b = e ∨ b = it := by simpa using hb
    rcases e' with z | z
    · rw [z]; exact ⟨_, he, fun v q => nomatch q⟩
    · rw [z]; exact ⟨o, ho, fun v q => by rw [hd] at q; cases q⟩
  keep := fun i h h' st k => let ⟨⟨old, he⟩, hi, hne⟩ := st; ⟨⟨old, k e (by simp) _ he⟩, hi.at fun o q => k it (by simp) o q, hne⟩
  item := by
    intro X hP hw hK hc i pins s σ H E I hf st hg
    subst hP hw hK
    obtain ⟨⟨old, he⟩, hit, hne⟩ := st
    obtain ⟨xs, x, hq, hx⟩ := hg
    obtain ⟨its, rv, p, hz⟩ := I.tuple hq
    obtain ⟨u, hu, ru⟩ := rv.get hx
    have hel : e < s.heap.objs.size := Heap.lt_size he
    have hil : it < s.heap.objs.size := by obtain ⟨_, q, _⟩ := id hit; exact Heap.lt_size q
    have pt : s.heap.IsTuple a its.toArray := p
    have hai : a ≠ it := fun z => by
      obtain ⟨o, q1, q2, _⟩ := id hit
      obtain ⟨o', p1, p2, _⟩ := id pt
      rw [z, q1] at p1
      cases p1
      rw [q2] at p2
      injection p2 with p2
      exact absurd p2 (by decide)
    have hea : e ≠ a := fun z => by
      obtain ⟨o', p1, p2, _⟩ := id pt
      rw [← z, he] at p1
      cases p1
      have p3 : (Value.type "enumerate") = .type "tuple" := p2
      injection p3 with p3
      exact absurd p3 (by decide)
    have hi : i < its.toArray.size := by
      have := (List.getElem?_eq_some_iff.mp hu).1
      simpa using this
    have D := Draws.tuple (prog := X.prog) (w := X.w) (A := X.A.in1) (I.ok.hd hc) it a hai its.toArray
    refine wpAny_pyNext_enum_itemD D he ⟨hit, pt⟩ hi hne (by simp [hne, hea]) fun x' h' tk hPx ho hst' hT hsz hk => ?_
    have hxu : x' = u := by
      have h1 : its.toArray[i]? = some x' := hPx
      rw [List.getElem?_toArray, hu] at h1
      exact (Option.some.inj h1).symm
    subst hxu
    obtain ⟨hit', pt'⟩ := hst'
    refine ⟨_, rfl, wpAny_letOwnedTupleGo_enum (s := { s with heap := h', toks := tk + 1 }) ho fun h'' he' sb => ?_⟩
    have hT2 : h''.get? s.heap.objs.size = some { cls := .type "tuple", data := .seq #[.int i tk, x'] } := (sb.2 _ (Nat.ne_of_gt hel)).trans hT
    have new : ObjOk X.prog X.w (upd H s.heap.objs.size (.tup [.int (i : Nat), x])) h'' s.heap.objs.size (.tup [.int (i : Nat), x]) :=
      ⟨by show 2 ≤ sizeLine; decide, [.int i tk, x'], .cons ⟨_, rfl⟩ (.cons ru .nil), ⟨_, hT2, rfl, _, rfl⟩⟩
    have I1 : Inv X pins σ (upd H s.heap.objs.size (.tup [.int (i : Nat), x])) { s with heap := h'', toks := tk + 1 } :=
      I.turnedNew (ch := [e, it]) (fun b ob hb q => (sb.2 b (fun z => hb (by simp [z]))).trans (hk b ob (fun z => hb (by simp [z])) (fun z => hb (by simp [z])) q)) hf (Nat.le_refl _) new
    refine ⟨.ref s.heap.objs.size, _, I1, rfl, ⟨_, x, rfl, I.hok.fresh (Nat.le_refl _), rfl, fun ys hy => by rw [I.tuple_inj hy hq]; exact hx⟩, ⟨⟨x', ?_⟩, hit'.at fun o q => (sb.2 it (Ne.symm hne)).trans q, hne⟩, fun b hb => ?_⟩
    · have e1 : ((i + 1 : Nat) : Int) = (i : Int) + 1 := by omega
      rw [e1]; exact he'
    · have hb' : b < s.heap.objs.size := by
        have e' : b = e ∨ b = it := by simpa using hb
        rcases e' with z | z
        · rw [z]; exact hel
        · rw [z]; exact hil
      rw [upd_ne (Nat.ne_of_lt hb')]
      exact (hf b hb).1
  done := by
    intro X hP hw hK hc i pins s σ H E I hf st hg
    subst hP hw hK
    obtain ⟨⟨old, he⟩, hit, hne⟩ := st
    obtain ⟨xs, hq, hx⟩ := hg
    obtain ⟨its, rv, p, hz⟩ := I.tuple hq
    obtain ⟨f0, f1, f2, f3, f4, f5⟩ := hf it (by simp)
    have hl := rv.length
    have pt : s.heap.IsTuple a its.toArray := p
    have hai : a ≠ it := fun z => by
      obtain ⟨o, q1, q2, _⟩ := id hit
      obtain ⟨o', p1, p2, _⟩ := id pt
      rw [z, q1] at p1
      cases p1
      rw [q2] at p2
      injection p2 with p2
      exact absurd p2 (by decide)
    have D := Draws.tuple (prog := X.prog) (w := X.w) (A := X.A.in1) (I.ok.hd hc) it a hai its.toArray
    have ei : i = its.toArray.size := by simp; omega
    refine wpAny_pyNext_enum_endD D he ⟨by rw [← ei]; exact hit, pt⟩ fun h' eb => ⟨rfl, I.turned (t' := s.toks) (fun b o hb q => eb b o hb q) f0 f1 f3 f4 f5⟩
  self := fun A i s Q E st h => let ⟨⟨_, he⟩, _⟩ := st; wpAny_pyIter_enum he h
def iEnumT (K : PySem.W.Frag) (ta : TA) : TI := fun σ H R => ta σ H fun vs H1 => ∃ a xs, vs = [.ref a] ∧ SqT K H1 a xs ∧ R (IteT K a) H1
theorem pi_enumT {X : Cx} {e : Expr} {ta : TA} {p pos tpos : Pos} {elts : List Expr} {kk : Nat} (hg : Gl X "enumerate") (hm : X.mg "enumerate" = none) (ha : PA X [e] ta) (hs : starEach [e] X.env = [(false, eval e X.env)] := by rfl) :
    PI X (.Tuple elts kk tpos) (.Call (.Name "enumerate" p) [e] [] pos) (iEnumT X.K ta) := by
  refine ⟨fun pins s σ H R I h => ?_⟩
  refine Call_ (ld_blt I hg hm boot_enumerate (PyProof.Rows.callWith_type1 (thn (ha.run pos pins s σ H _ I h) fun us s1 ⟨vs, H1, I1, r1, q1⟩ => ?_) hs rfl))
  obtain ⟨a, xs, ex, hq, q⟩ := q1
  subst ex
  cases r1 with
  | cons r rr =>
    cases rr
    cases r
    obtain ⟨its, rv, p', hz⟩ := I1.tuple hq
    refine enum_begins1 (begins_tuple a its.toArray) p' fun h' he hit hsz hk => wpAny_pyIter_enum he ?_
    have I2 : Inv X pins σ H1 { s1 with heap := h' } := I1.kept (t' := s1.toks) hk
    refine ⟨s1.heap.objs.size + 1, [s1.heap.objs.size + 1, s1.heap.objs.size], _, _, H1, rfl, I2, turn_enumT a (s1.heap.objs.size + 1) s1.heap.objs.size, ⟨⟨.none, he⟩, ⟨_, hit, rfl, rfl⟩, Nat.succ_ne_self _⟩, fun b hb => ?_, q⟩
    have e' : b = s1.heap.objs.size + 1 ∨ b = s1.heap.objs.size := by simpa using hb
    have hle : s1.heap.objs.size ≤ b := by
      rcases e' with z | z
      · rw [z]; exact Nat.le_add_right _ _
      · rw [z]; exact Nat.le_refl _
    exact I1.fpOk hle (I1.hok.fresh hle)
/-- a comprehension over enumerate(tuple) -/
theorem lc_enumT {K : PySem.W.Frag} {a : Addr} {xs : List V} {g : TG} {tt : TT} {te : TE} {vs : List Nat} {σ : L2.St} {H1 : Hp} {D : Addr} {Qd : Hp → Prop} (Pv : Nat → Hp → Prop) (h0 : Pv 0 (upd H1 D (.lst []))) (hl : ∀ i H, i ≤ xs.length → Pv i H → SqT K H a xs)
    (hs : ∀ i x H T, xs[i]? = some x → Pv i H → H T = none → g (.ref T) (wipe σ vs) (upd H T (.tup [.int (i : Nat), x])) fun σ2 H2 => wipe σ2 vs = wipe σ vs ∧ tt σ2 H2 fun b H3 =>
      if b = true then te σ2 H3 fun y H4 => ∃ acc, H4 D = some (.lst acc) ∧ acc.length < sizeLine ∧ Pv (i + 1) (upd H4 D (.lst (acc ++ [y]))) else Pv (i + 1) H3) (hd : ∀ H, Pv xs.length H → Qd H) :
    ∃ W : Nat → Nat → Hp → Prop, (∃ m, W 0 m (upd H1 D (.lst []))) ∧ ∀ i m H, W i m H →
      ((IteT K a).stop i H ∧ Qd H) ∨ ((IteT K a).go i H ∧ ∃ Nx : Hp → Prop, (∀ H', Nx H' → ∃ m', m' < m ∧ W (i + 1) m' H') ∧ ∀ x H', (IteT K a).yld i H x H' → g x (wipe σ vs) H' fun σ2 H2 => wipe σ2 vs = wipe σ vs ∧ tt σ2 H2 fun b H3 =>
        if b = true then te σ2 H3 fun y H4 => ∃ acc, H4 D = some (.lst acc) ∧ acc.length < sizeLine ∧ Nx (upd H4 D (.lst (acc ++ [y]))) else Nx H3) := by
  refine ⟨fun i m H => m = xs.length - i ∧ i ≤ xs.length ∧ Pv i H, ⟨xs.length, by simp, Nat.zero_le _, h0⟩, ?_⟩
  rintro i m H ⟨rfl, hi, p⟩
  have q := hl i H hi p
  by_cases hlt : i < xs.length
  · refine .inr ⟨⟨xs, xs[i], q, by simp [hlt]⟩, Pv (i + 1), fun H' p' => ⟨xs.length - (i + 1), by omega, rfl, hlt, p'⟩, fun x H' y => ?_⟩
    obtain ⟨T, z, rfl, hT, rfl, y⟩ := y
    exact hs i z H T (y xs q) p hT
  · have e : i = xs.length := by omega
    subst e
    exact .inl ⟨⟨xs, q, rfl⟩, hd H p⟩
end Sb

namespace Sb
open PySem PySem.Spec PyProof.Rows L2 TL
/-! ### four lists of one's own, the parts of a state -/
structure Wk (G H0 H : Hp) (c n b e : Addr) (s : Sit) : Prop where
  pt : Pt G H0 G H
  gh : Same G H0
  c0 : H0 c = none
  n0 : H0 n = none
  b0 : H0 b = none
  e0 : H0 e = none
  cn : c ≠ n
  cb : c ≠ b
  ce : c ≠ e
  nb : n ≠ b
  ne : n ≠ e
  be : b ≠ e
  hc : H c = some (.lst (nV s.cs))
  hn : H n = some (.lst (nV s.ns))
  hb : H b = some (.lst (bV s.hs))
  he : H e = some (.lst (nV s.sh))
section
variable {G H0 H : Hp} {c n b e p l t : Addr} {s : Sit} {K : PySem.W.Frag}
theorem Wk.lay (h : Wk G H0 H c n b e s) (np : H p = none) (o : HO) : Wk G H0 (upd H p o) c n b e s :=
  { h with
    pt := h.pt.lay np o
    hc := by rw [upd_ne (ne_of_none h.hc np)]; exact h.hc
    hn := by rw [upd_ne (ne_of_none h.hn np)]; exact h.hn
    hb := by rw [upd_ne (ne_of_none h.hb np)]; exact h.hb
    he := by rw [upd_ne (ne_of_none h.he np)]; exact h.he }
theorem Wk.setC (h : Wk G H0 H c n b e s) (l : List Nat) : Wk G H0 (upd H c (.lst (nV l))) c n b e ⟨l, s.ns, s.hs, s.sh⟩ :=
  { h with
    pt := h.pt.put h.c0 (Same.free h.gh h.c0) _
    hc := upd_same
    hn := by rw [upd_ne h.cn.symm]; exact h.hn
    hb := by rw [upd_ne h.cb.symm]; exact h.hb
    he := by rw [upd_ne h.ce.symm]; exact h.he }
theorem Wk.setN (h : Wk G H0 H c n b e s) (l : List Nat) : Wk G H0 (upd H n (.lst (nV l))) c n b e ⟨s.cs, l, s.hs, s.sh⟩ :=
  { h with
    pt := h.pt.put h.n0 (Same.free h.gh h.n0) _
    hc := by rw [upd_ne h.cn]; exact h.hc
    hn := upd_same
    hb := by rw [upd_ne h.nb.symm]; exact h.hb
    he := by rw [upd_ne h.ne.symm]; exact h.he }
theorem Wk.setB (h : Wk G H0 H c n b e s) (l : List Bool) : Wk G H0 (upd H b (.lst (bV l))) c n b e ⟨s.cs, s.ns, l, s.sh⟩ :=
  { h with
    pt := h.pt.put h.b0 (Same.free h.gh h.b0) _
    hc := by rw [upd_ne h.cb]; exact h.hc
    hn := by rw [upd_ne h.nb]; exact h.hn
    hb := upd_same
    he := by rw [upd_ne h.be.symm]; exact h.he }
theorem Wk.setE (h : Wk G H0 H c n b e s) (l : List Nat) : Wk G H0 (upd H e (.lst (nV l))) c n b e ⟨s.cs, s.ns, s.hs, l⟩ :=
  { h with
    pt := h.pt.put h.e0 (Same.free h.gh h.e0) _
    hc := by rw [upd_ne h.ce]; exact h.hc
    hn := by rw [upd_ne h.ne]; exact h.hn
    hb := by rw [upd_ne h.be]; exact h.hb
    he := upd_same }
/-- the four become data -/
theorem Wk.data (h : Wk G H0 H c n b e s) : ∃ G1, Pt G H0 G1 H ∧ SqL K G1 c (nV s.cs) ∧ SqL K G1 n (nV s.ns) ∧ SqL K G1 b (bV s.hs) ∧ SqL K G1 e (nV s.sh) := by
  have p1 := h.pt.freeze h.c0 h.hc
  have p2 := p1.freeze h.n0 h.hn
  have p3 := p2.freeze h.b0 h.hb
  have p4 := p3.freeze h.e0 h.he
  refine ⟨_, p4, SqL.of ?_, SqL.of ?_, SqL.of ?_, SqL.of ?_⟩
  · rw [upd_ne h.ce, upd_ne h.cb, upd_ne h.cn, upd_same]
  · rw [upd_ne h.ne, upd_ne h.nb, upd_same]
  · rw [upd_ne h.be, upd_same]
  · rw [upd_same]
end
def lrV : List V := [.str "left", .str "right"]
theorem lr_in : ∀ {w : Nat}, w < 8 → inV (.str (wS w)) lrV = decide (w < 2) := by
  have h : ∀ w : _root_.Fin 8, inV (.str (wS w.val)) lrV = decide (w.val < 2) := by decide +kernel
  exact fun {w} hw => h ⟨w, hw⟩
theorem lr_flat : lrV.all flatV = true := by decide +kernel
theorem wS_eq {w k : Nat} (hw : w < 8) (hk : k < 8) : decide (V.str (wS w) = V.str (wS k)) = decide (w = k) := by
  have h : ∀ w k : _root_.Fin 8, decide (V.str (wS w.val) = V.str (wS k.val)) = decide (w.val = k.val) := by decide +kernel
  exact h ⟨w, hw⟩ ⟨k, hk⟩
theorem ite_w {w : Nat} (k : Nat) {A B : Prop} (hw : w < 8) (h1 : w = k → A) (h2 : w ≠ k → B) (hk : k < 8 := by decide) : if decide (V.str (wS w) = V.str (wS k)) = true then A else B := by
  rw [wS_eq hw hk]
  exact ite2 (fun h => h1 (of_decide_eq_true h)) (fun h => h2 fun q => h (decide_eq_true q))
structure spEmpty (K : PySem.W.Frag) (vs : List V) (H : Hp) (Q : VK) (E : XK) : Prop where
  ex : ∃ (G : Hp) (v : V) (x : Pl), vs = [v] ∧ Dp K G v x.D ∧ Pure G H Q fun G' v => Dp K G' v (sitL (sit0 x))
structure spLAct (K : PySem.W.Frag) (vs : List V) (H : Hp) (Q : VK) (E : XK) : Prop where
  ex : ∃ (G : Hp) (v u : V) (x : Pl) (s : Sit) (i : Nat), vs = [v, u, .int i] ∧ Dp K G v x.D ∧ Dp K G u (sitL s) ∧ x.Ok ∧ SitOk x s ∧ i < 2 ∧ Pure G H Q fun G' v => Dp K G' v (.tuple [.str (doS (actP x s i).1), sitL (actP x s i).2])
structure spLTick (K : PySem.W.Frag) (vs : List V) (H : Hp) (Q : VK) (E : XK) : Prop where
  ex : ∃ (G : Hp) (v u : V) (x : Pl) (s : Sit), vs = [v, u] ∧ Dp K G v x.D ∧ Dp K G u (sitL s) ∧ x.Ok ∧ SitOk x s ∧ Pure G H Q fun G' v => Dp K G' v (.tuple [wordsD (tickP x s).1, sitL (tickP x s).2])
section
variable {P : Program} {w : World} {K : PySem.W.Frag} {mg : Str → Option Value} {base : Heap} {a : Ad}
theorem ok_l_empty (T : Txt K mg a) : FnOk P w K mg base CX0 1 a.f_l_empty a.d_l_empty ["_law_plan_here"] (spEmpty K) := by
  refine T.F_l_empty.ok sc_l_empty (fun vs H Q E h => ?_) (fun cdv A outer s H vs Q E hr h => ?_)
  · obtain ⟨⟨G, v, x, rfl, _⟩⟩ := h
    rfl
  · obtain ⟨⟨G, v, x, rfl, hp, hGH, k⟩⟩ := h
    refine ⟨_, (pss_one (ps_ret (pe_lst (pa_cons (pe_callTy call_list_of (by rfl) T.z_list (by decide +kernel) (pa_cons (pe_ix ix_tup (pv 0) pe_int (fun _ _ => rfl)) pa_nil)) (pa_cons (pe_lst (pa_cons pe_int (pa_cons pe_int pa_nil))) (pa_cons (pe_lst (pa_cons pe_bl (pa_cons pe_bl pa_nil))) (pa_cons (pe_callTy call_list_of (by rfl) T.z_list (by decide +kernel) (pa_cons (pe_ix ix_tup (pv 0) pe_int (fun _ _ => rfl)) pa_nil)) pa_nil))))))), ?_⟩
    obtain ⟨t, sh, st, bo, l1, l2, xs1, xs2, rfl, ht, hsh, hst, _⟩ := plan_inv hp
    refine ⟨_, rfl, t, _, _, .ref st, rfl, rfl, Same.seqT hGH ht, at_of (j := 1) rfl rfl, st, _, rfl, .inr (Same.seqT hGH hst), fun c hc => ?_⟩
    have p1 := (Pt.start hGH).new hc (.lst [.int x.a, .int x.b])
    refine ⟨(by show 2 ≤ sizeLine; decide), fun n hn => ?_⟩
    have p2 := p1.new hn (.lst [.int 0, .int 0])
    refine ⟨(by show 2 ≤ sizeLine; decide), fun b hb => ?_⟩
    have p3 := p2.new hb (.lst [.bl false, .bl false])
    refine ⟨_, rfl, t, _, _, .ref sh, rfl, rfl, Same.seqT (p3.g.trans p3.s) ht, at_of (j := 0) rfl rfl, sh, _, rfl, .inr (Same.seqT (p3.g.trans p3.s) hsh), fun e he => ?_⟩
    have p4 := p3.new he (.lst (nV x.shelf))
    refine ⟨(by show 4 ≤ sizeLine; decide), fun l hl => ?_⟩
    have p5 := p4.new hl (.lst [.ref c, .ref n, .ref b, .ref e])
    have g2 := same_new (o := .lst [.int 0, .int 0]) (p1.freeG hn)
    have g3 := same_new (o := .lst [.bl false, .bl false]) (p2.freeG hb)
    have g4 := same_new (o := .lst (nV x.shelf)) (p3.freeG he)
    have g5 := same_new (o := .lst [.ref c, .ref n, .ref b, .ref e]) (p4.freeG hl)
    refine k _ _ _ p5.ext p5.sm (sitL_mk (s := sit0 x) (SqL.of upd_same) ?_ ?_ ?_ ?_)
    · exact (((g2.trans g3).trans g4).trans g5).seq (SqL.of upd_same)
    · exact ((g3.trans g4).trans g5).seq (SqL.of upd_same)
    · exact (g4.trans g5).seq (SqL.of upd_same)
    · exact g5.seq (SqL.of upd_same)
end
end Sb

namespace Sb
open PySem PySem.Spec PyProof.Rows L2 TL
structure spIsInt (K : PySem.W.Frag) (vs : List V) (H : Hp) (Q : VK) (E : XK) : Prop where
  ex : ∃ (v : V) (lo hi : Int), vs = [v, .int lo, .int hi] ∧ ((∃ i, v = .int i ∧ Q (.bl (decide (lo ≤ i ∧ i ≤ hi))) H) ∨ (∃ b, v = .bl b ∧ Q (.bl false) H) ∨ (∃ n, TyX K H v (.type n) ∧ PySem.W.kitOne K (.type n) (.type "int") = some false ∧ Q (.bl false) H))
section
variable {P : Program} {w : World} {K : PySem.W.Frag} {mg : Str → Option Value} {base : Heap} {a : Ad}
theorem ok_is_int_in (T : Txt K mg a) : FnOk P w K mg base CX0 1 a.f_is_int_in a.d_is_int_in ["value", "low", "high"] (spIsInt K) := by
  refine T.F_is_int_in.ok sc_is_int_in (fun vs H Q E h => ?_) (fun cdv A outer s H vs Q E hr h => ?_)
  · obtain ⟨⟨v, lo, hi, rfl, _⟩⟩ := h
    rfl
  · obtain ⟨⟨v, lo, hi, rfl, h⟩⟩ := h
    refine ⟨_, (pss_one (ps_ret (pe_and (pe_callB call_isi (by rfl) T.z_isinstance (by decide +kernel) (pa_cons (pv 0) (pa_cons (pe_bltn (v := .ty "int") (by rfl) T.z_int (by decide +kernel) rfl) pa_nil))) (pe_and (pe_not (pe_callB call_isi (by rfl) T.z_isinstance (by decide +kernel) (pa_cons (pv 0) (pa_cons (pe_bltn (v := .ty "bool") (by rfl) T.z_bool (by decide +kernel) rfl) pa_nil)))) (pe_one (pe_chain op_le op_le (pv 1) (pv 0) (pv 2))))))), ?_⟩
    rcases h with ⟨i, rfl, q⟩ | ⟨b, rfl, q⟩ | ⟨n, ty, kt, q⟩
    · refine ⟨_, rfl, _, _, _, _, true, rfl, .ty "int", .base (.int i), kit_ty (by decide +kernel), _, rfl, iteT ?_⟩
      refine ⟨_, rfl, _, _, _, _, false, rfl, .ty "bool", .base (.int i), kit_ty (by decide +kernel), _, rfl, _, rfl, ?_⟩
      refine ⟨_, rfl, _, rfl, _, _, rfl, rfl, _, rfl, ?_⟩
      refine ite2 (fun c => ?_) (fun c => ?_)
      · have c1 : lo ≤ i := of_decide_eq_true c
        refine ⟨_, rfl, _, _, rfl, rfl, ?_⟩
        have e : decide (i ≤ hi) = decide (lo ≤ i ∧ i ≤ hi) := by simp [c1]
        dsimp only
        rw [e]
        exact q
      · have c1 : ¬ lo ≤ i := fun z => c (decide_eq_true z)
        have e : decide (lo ≤ i ∧ i ≤ hi) = false := by simp [c1]
        rw [e] at q
        exact q
    · refine ⟨_, rfl, _, _, _, _, true, rfl, .ty "int", .base (.bl b), kit_ty (by decide +kernel), _, rfl, iteT ?_⟩
      exact ⟨_, rfl, _, _, _, _, true, rfl, .ty "bool", .base (.bl b), kit_ty (by decide +kernel), _, rfl, _, rfl, q⟩
    · exact ⟨_, rfl, _, _, _, _, false, rfl, .ty "int", ty, kt, _, rfl, q⟩
theorem isint_go {i lo hi : Int} {H : Hp} {Q : VK} {E : XK} (h1 : lo ≤ i) (h2 : i ≤ hi) (q : Q (.bl true) H) : spIsInt K [.int i, .int lo, .int hi] H Q E :=
  ⟨⟨.int i, lo, hi, rfl, .inl ⟨i, rfl, by rw [decide_eq_true ⟨h1, h2⟩]; exact q⟩⟩⟩
end
end Sb

namespace Sb
open PySem PySem.Spec PyProof.Rows L2 TL
section
variable {K : PySem.W.Frag} {G0 H0 G H : Hp}
theorem catA_pt {t u : Addr} {xs ys : List V} {Q : VK} (pt : Pt G0 H0 G H) (ha : SqT K G t xs) (hb : SqT K G u ys) (hz : xs.length + ys.length ≤ sizeLine)
    (k : ∀ (q : Addr) (G' H' : Hp), Pt G0 H0 G' H' → Same G G' → SqT K G' q (xs ++ ys) → Q (.ref q) H') : rCatA K (.ref t) (.ref u) H Q := by
  refine ⟨t, u, xs, ys, rfl, rfl, Same.seqT pt.s ha, Same.seqT pt.s hb, hz, fun e => ?_, fun _ e => ?_, fun _ _ p hp => ?_⟩
  · subst e
    exact k u G H pt (Same.refl G) hb
  · subst e
    exact k t G H pt (Same.refl G) (by rw [List.append_nil]; exact ha)
  · exact k p _ _ (pt.new hp _) (same_new (pt.freeG hp)) (SqT.of upd_same)
theorem slA_pt {t : Addr} {xs : List V} {lo hi : Option Int} {Q : VK} (pt : Pt G0 H0 G H) (ha : SqT K G t xs)
    (k : ∀ (q : Addr) (G' H' : Hp), Pt G0 H0 G' H' → Same G G' → SqT K G' q (cutV xs lo hi) → Q (.ref q) H') : rSlA K (.ref t) lo hi H Q := by
  refine ⟨t, xs, rfl, Same.seqT pt.s ha, fun e => ?_, fun _ p hp => ?_⟩
  · refine k t G H pt (Same.refl G) ?_
    unfold cutV
    rw [e.1, e.2, List.drop_zero, Nat.sub_zero, List.take_length]
    exact ha
  · exact k p _ _ (pt.new hp _) (same_new (pt.freeG hp)) (SqT.of upd_same)
end
theorem cut_hi {xs : List V} {i : Nat} (h : i < xs.length) : cutV xs none (some (i : Int)) = xs.take i := by
  unfold cutV
  rw [HT.sIx_none, HT.sIx_nat, List.drop_zero, Nat.sub_zero, Nat.min_eq_left (by omega)]
theorem cut_lo {xs : List V} {i : Nat} (h : i < xs.length) : cutV xs (some ((i : Int) + 1)) none = xs.drop (i + 1) := by
  unfold cutV
  rw [show ((i : Int) + 1) = ((i + 1 : Nat) : Int) by omega, HT.sIx_none, HT.sIx_nat, Nat.min_eq_left (by omega)]
  exact List.take_of_length_le (by rw [List.length_drop]; omega)
structure spReplaced (K : PySem.W.Frag) (vs : List V) (H : Hp) (Q : VK) (E : XK) : Prop where
  ex : ∃ (G : Hp) (t : Addr) (xs : List V) (i : Nat) (v : V), vs = [.ref t, .int i, v] ∧ SqT K G t xs ∧ i < xs.length ∧ xs.length ≤ 1000 ∧ Pure G H Q fun G' u => ∃ r, u = .ref r ∧ SqT K G' r (xs.set i v)
theorem replaced_go {K : PySem.W.Frag} {G0 H0 G H : Hp} {t : Addr} {xs : List V} {i : Nat} {v : V} {Q : VK} {E : XK} (pt : Pt G0 H0 G H) (ha : SqT K G t xs) (hi : i < xs.length) (hl : xs.length ≤ 1000)
    (k : ∀ (r : Addr) (G' H' : Hp), Pt G0 H0 G' H' → Same G G' → SqT K G' r (xs.set i v) → Q (.ref r) H') : spReplaced K [.ref t, .int i, v] H Q E :=
  ⟨⟨G, t, xs, i, v, rfl, ha, hi, hl, pt.s, fun G' H' u e s ⟨r, hu, hr⟩ => by subst hu; exact k r G' H' (pt.call e s) e.g hr⟩⟩
def stF (c n b e : Addr) : List (Str × V) := [("cells", .ref c), ("nexts", .ref n), ("holds", .ref b), ("shelf", .ref e)]
def StateAt (a : Ad) (K : PySem.W.Frag) (G : Hp) (v : V) (s : Sit) : Prop := ∃ (r dx c n b e : Addr), v = .ref r ∧ G r = some (.ins a.C_State dx (stF c n b e)) ∧ SqT K G c (nV s.cs) ∧ SqT K G n (nV s.ns) ∧ SqT K G b (bV s.hs) ∧ SqT K G e (nV s.sh)
theorem StateAt.mono {a : Ad} {K : PySem.W.Frag} {G G' : Hp} {v : V} {s : Sit} (m : Same G G') (h : StateAt a K G v s) : StateAt a K G' v s := by
  obtain ⟨r, dx, c, n, b, e, h0, h1, h2, h3, h4, h5⟩ := h
  exact ⟨r, dx, c, n, b, e, h0, m _ _ h1, Same.seqT m h2, Same.seqT m h3, Same.seqT m h4, Same.seqT m h5⟩
def tkF (w : Addr) (v : V) : List (Str × V) := [("words", .ref w), ("state", v)]
def TickAt (a : Ad) (K : PySem.W.Frag) (G : Hp) (v : V) (w : Nat × Nat) (s : Sit) : Prop := ∃ (r dx t : Addr) (u : V), v = .ref r ∧ G r = some (.ins a.C_Tick dx (tkF t u)) ∧ SqT K G t [.str (doS w.1), .str (doS w.2)] ∧ StateAt a K G u s
theorem TickAt.mono {a : Ad} {K : PySem.W.Frag} {G G' : Hp} {v : V} {w : Nat × Nat} {s : Sit} (m : Same G G') (h : TickAt a K G v w s) : TickAt a K G' v w s := by
  obtain ⟨r, dx, t, u, h0, h1, h2, h3⟩ := h
  exact ⟨r, dx, t, u, h0, m _ _ h1, Same.seqT m h2, h3.mono m⟩
structure spKey (a : Ad) (K : PySem.W.Frag) (vs : List V) (H : Hp) (Q : VK) (E : XK) : Prop where
  ex : ∃ (G : Hp) (v : V) (s : Sit), vs = [v] ∧ StateAt a K G v s ∧ Pure G H Q fun G' u => ∃ p, u = .ref p ∧ Dp K G' (.ref p) (sitT s)
structure spFirst (a : Ad) (K : PySem.W.Frag) (vs : List V) (H : Hp) (Q : VK) (E : XK) : Prop where
  ex : ∃ (G : Hp) (v : V) (x : Pl), vs = [v] ∧ PlanAt a K G v x ∧ Pure G H Q fun G' u => StateAt a K G' u (sit0 x)
section
variable {P : Program} {w : World} {K : PySem.W.Frag} {mg : Str → Option Value} {base : Heap} {a : Ad}
theorem ok_replaced (T : Txt K mg a) : FnOk P w K mg base CX0 1 a.f_replaced a.d_replaced ["values", "place", "value"] (spReplaced K) := by
  refine T.F_replaced.ok sc_replaced (fun vs H Q E h => ?_) (fun cdv A outer s H vs Q E hr h => ?_)
  · obtain ⟨⟨G, t, xs, i, v, rfl, _⟩⟩ := h
    rfl
  · obtain ⟨⟨G, t, xs, i, v, rfl, ht, hi, hl, hGH, k⟩⟩ := h
    refine ⟨_, (pss_one (ps_ret (pe_op op_catA (pe_op op_catA (pe_slice sl_tupA (pv 0) po_none (po_some (pv 1))) (pe_tup (pa_cons (pv 2) pa_nil))) (pe_slice sl_tupA (pv 0) (po_some (pe_op op_add (pv 1) pe_int)) po_none)))), ?_⟩
    refine ⟨_, rfl, _, rfl, _, rfl, slA_pt (Pt.start hGH) ht fun p1 G1 H1 B1 S1 h1 => ?_⟩
    rw [cut_hi hi] at h1
    refine ⟨_, rfl, (by show 1 ≤ sizeLine; decide), fun p2 hp2 => ?_⟩
    have B2 := B1.new hp2 (.tup [v])
    have S2 := same_new (o := .tup [v]) (B1.freeG hp2)
    refine catA_pt B2 (Same.seqT S2 h1) (SqT.of upd_same) (small 2000 (by rw [List.length_take, List.length_singleton]; omega) (by decide)) fun p3 G3 H3 B3 S3 h3 => ?_
    refine ⟨_, rfl, _, rfl, _, _, rfl, rfl, _, rfl, ?_⟩
    dsimp only [tNoPart]
    refine slA_pt (K := K) B3 (Same.seqT ((S1.trans S2).trans S3) ht) fun p4 G4 H4 B4 S4 h4 => ?_
    rw [cut_lo hi] at h4
    refine catA_pt B4 (Same.seqT S4 h3) h4 (small 2000 (by rw [List.length_append, List.length_take, List.length_singleton, List.length_drop]; omega) (by decide)) fun p5 G5 H5 B5 S5 h5 => ?_
    refine k _ _ _ B5.ext B5.sm ⟨p5, rfl, ?_⟩
    rw [List.set_eq_take_append_cons_drop, if_pos hi]
    rw [List.append_assoc] at h5
    exact h5
theorem ok_State_init (T : Txt K mg a) : FnOk P w K mg base CX0 1 a.f_State_init a.d_State_init ["self", "cells", "nexts", "holds", "shelf"] (spInit a.C_State ["cells", "nexts", "holds", "shelf"]) := by
  refine T.F_State_init.ok sc_State_init (fun vs H Q E h => ?_) (fun cdv A outer s H vs Q E hr h => ?_)
  · obtain ⟨⟨x, dx, us, rfl, hl, _⟩⟩ := h
    exact congrArg (· + 1) hl
  · obtain ⟨⟨x, dx, us, rfl, hl, hx, k⟩⟩ := h
    match us, hl with
    | [u1, u2, u3, u4], _ =>
      refine ⟨_, (pss_cons (ps_fld (pv 0) (pv 1) rfl)
      (pss_cons (ps_fld (pv 0) (pv 2) rfl)
      (pss_cons (ps_fld (pv 0) (pv 3) rfl)
      (pss_one (ps_fld (pv 0) (pv 4) rfl))))), ?_⟩
      refine ⟨_, rfl, _, rfl, x, _, dx, _, rfl, hx, T.cl_State, T.n_State_cells, by decide, ?_⟩
      refine ⟨_, rfl, _, rfl, x, _, dx, _, rfl, upd_same, T.cl_State, T.n_State_nexts, lf1, ?_⟩
      refine ⟨_, rfl, _, rfl, x, _, dx, _, rfl, upd_same, T.cl_State, T.n_State_holds, lf2, ?_⟩
      refine ⟨_, rfl, _, rfl, x, _, dx, _, rfl, upd_same, T.cl_State, T.n_State_shelf, lf3, ?_⟩
      rw [upd_upd, upd_upd, upd_upd]
      have e : putF "shelf" u4 (putF "holds" u3 (putF "nexts" u2 (putF "cells" u1 []))) = (["cells", "nexts", "holds", "shelf"] : List Str).zip [u1, u2, u3, u4] := by
        show putF "shelf" u4 (putF "holds" u3 (putF "nexts" u2 [("cells", u1)])) = _
        rw [putF_new (fs := [("cells", u1)]) (show ("nexts" : Str) ∉ (["cells"] : List Str) by decide +kernel)]
        show putF "shelf" u4 (putF "holds" u3 [("cells", u1), ("nexts", u2)]) = _
        rw [putF_new (fs := [("cells", u1), ("nexts", u2)]) (show ("holds" : Str) ∉ (["cells", "nexts"] : List Str) by decide +kernel)]
        show putF "shelf" u4 [("cells", u1), ("nexts", u2), ("holds", u3)] = _
        rw [putF_new (fs := [("cells", u1), ("nexts", u2), ("holds", u3)]) (show ("shelf" : Str) ∉ (["cells", "nexts", "holds"] : List Str) by decide +kernel)]
        rfl
      rw [e]
      exact k
theorem ok_Tick_init (T : Txt K mg a) : FnOk P w K mg base CX0 1 a.f_Tick_init a.d_Tick_init ["self", "words", "state"] (spInit a.C_Tick ["words", "state"]) := by
  refine T.F_Tick_init.ok sc_Tick_init (fun vs H Q E h => ?_) (fun cdv A outer s H vs Q E hr h => ?_)
  · obtain ⟨⟨x, dx, us, rfl, hl, _⟩⟩ := h
    exact congrArg (· + 1) hl
  · obtain ⟨⟨x, dx, us, rfl, hl, hx, k⟩⟩ := h
    match us, hl with
    | [u1, u2], _ =>
      refine ⟨_, (pss_cons (ps_fld (pv 0) (pv 1) rfl)
      (pss_one (ps_fld (pv 0) (pv 2) rfl))), ?_⟩
      refine ⟨_, rfl, _, rfl, x, _, dx, _, rfl, hx, T.cl_Tick, T.n_Tick_words, by decide, ?_⟩
      refine ⟨_, rfl, _, rfl, x, _, dx, _, rfl, upd_same, T.cl_Tick, T.n_Tick_state, lf1, ?_⟩
      rw [upd_upd]
      have e : putF "state" u2 (putF "words" u1 []) = (["words", "state"] : List Str).zip [u1, u2] := by
        show putF "state" u2 [("words", u1)] = _
        rw [putF_new (fs := [("words", u1)]) (show ("state" : Str) ∉ (["words"] : List Str) by decide +kernel)]
        rfl
      rw [e]
      exact k
theorem ok_State_key (T : Txt K mg a) : FnOk P w K mg base CX0 1 a.f_State_key a.d_State_key ["self"] (spKey a K) := by
  refine T.F_State_key.ok sc_State_key (fun vs H Q E h => ?_) (fun cdv A outer s H vs Q E hr h => ?_)
  · obtain ⟨⟨G, v, s, rfl, _⟩⟩ := h
    rfl
  · obtain ⟨⟨G, v, s, rfl, ⟨r, dx, c, n, b, e, rfl, h1, h2, h3, h4, h5⟩, hGH, k⟩⟩ := h
    refine ⟨_, (pss_one (ps_ret (pe_tup (pa_cons (pe_fld (pv 0) rfl) (pa_cons (pe_fld (pv 0) rfl) (pa_cons (pe_fld (pv 0) rfl) (pa_cons (pe_fld (pv 0) rfl) pa_nil))))))), ?_⟩
    have h1' := hGH _ _ h1
    refine ⟨_, rfl, r, _, dx, _, .ref c, rfl, h1', T.cl_State, T.n_State_cells, (by kernel_rfl), _, rfl, r, _, dx, _, .ref n, rfl, h1', T.cl_State, T.n_State_nexts, (by kernel_rfl), _, rfl, r, _, dx, _, .ref b, rfl, h1', T.cl_State, T.n_State_holds, (by kernel_rfl), _, rfl, r, _, dx, _, .ref e, rfl, h1', T.cl_State, T.n_State_shelf, (by kernel_rfl), (by show 4 ≤ sizeLine; decide), fun p hp => ?_⟩
    have B1 := (Pt.start hGH).new hp (.tup [.ref c, .ref n, .ref b, .ref e])
    have S1 := same_new (o := .tup [.ref c, .ref n, .ref b, .ref e]) (Same.free hGH hp)
    exact k _ _ _ B1.ext B1.sm ⟨p, rfl, .tup (SqT.of upd_same) (.cons (.tup (Same.seqT S1 h2) (nats_D' _)) (.cons (.tup (Same.seqT S1 h3) (nats_D' _)) (.cons (.tup (Same.seqT S1 h4) (bools_D _)) (.cons (.tup (Same.seqT S1 h5) (nats_D' _)) .nil))))⟩
theorem ok_first_state (T : Txt K mg a) : FnOk P w K mg base CX0 3 a.f_first_state a.d_first_state ["parsed"] (spFirst a K) := by
  refine T.F_first_state.ok sc_first_state (fun vs H Q E h => ?_) (fun cdv A outer s H vs Q E hr h => ?_)
  · obtain ⟨⟨G, v, x, rfl, _⟩⟩ := h
    rfl
  · obtain ⟨⟨G, v, x, rfl, ⟨r, dx, sh, rl, r1, r2, rfl, h1, h2, h3, h4, h5⟩, hGH, k⟩⟩ := h
    refine ⟨_, (pss_one (ps_ret (pe_make T.mk_State (ok_State_init T) (hr.mono (by decide)) (by rfl) T.m_State (b_State_init T) .nil pass0 (pa_cons (pe_callTy call_tuple_of (by rfl) T.z_tuple (by decide +kernel) (pa_cons (pe_lc (own := [("robot", 1)]) (g := gName 1) (te := (tFld K (tVar 1) "start")) (tt := tYes) rfl sc_first_state.nd (pi_list (pe_fld (pv 0) rfl)) (blkOk_by (own := [("robot", 1)]) (N := ["parsed", "robot"]) (sc := (defScope s_first_state)) (by decide +kernel)) (fun _ _ _ _ _ => (pg_name (i := 1) sc_first_state.nd rfl (Or.inl rfl))) (fun _ _ _ _ _ => pts_nil) (fun _ _ _ _ _ => by exact (pe_fld (pv 1) rfl))) pa_nil)) (pa_cons (pe_tup (pa_cons pe_int (pa_cons pe_int pa_nil))) (pa_cons (pe_tup (pa_cons pe_bl (pa_cons pe_bl pa_nil))) (pa_cons (pe_fld (pv 0) rfl) pa_nil))))))), ?_⟩
    obtain ⟨q1, dq1, sl1, nl1, rfl, hq1, _⟩ := h4
    obtain ⟨q2, dq2, sl2, nl2, rfl, hq2, _⟩ := h5
    refine ⟨_, rfl, r, _, dx, _, .ref rl, rfl, hGH _ _ h1, T.cl_Plan, T.n_Plan_robots, (by kernel_rfl), rl, rfl, ⟨_, hGH.seq h3⟩, fun D hD => ?_⟩
    refine lc_list (K := K) (a := rl) (xs := [.ref q1, .ref q2]) (fun j H' => Pt G H G H' ∧ H' D = some (.lst (([.int x.a, .int x.b] : List V).take j)))
      ⟨(Pt.start hGH).lay hD _, upd_same⟩ (fun j H' _ ⟨p1, _⟩ => (hGH.trans p1.sm).seq h3) ?_ ?_
    · rintro j y H' hy ⟨p1, hD'⟩
      match j, hy with
      | 0, hy =>
        cases hy
        refine ⟨rfl, _, rfl, q1, _, dq1, _, .int x.a, rfl, p1.sm _ _ (hGH _ _ hq1), T.cl_Robot, T.n_Robot_start, (by kernel_rfl), ?_⟩
        exact ⟨_, hD', smaller 2 (by simp) (by decide), p1.put hD (Same.free hGH hD) _, upd_same⟩
      | 1, hy =>
        cases hy
        refine ⟨rfl, _, rfl, q2, _, dq2, _, .int x.b, rfl, p1.sm _ _ (hGH _ _ hq2), T.cl_Robot, T.n_Robot_start, (by kernel_rfl), ?_⟩
        exact ⟨_, hD', smaller 2 (by simp) (by decide), p1.put hD (Same.free hGH hD) _, upd_same⟩
      | j + 2, hy => simp at hy
    rintro H1 ⟨p1, hD1⟩
    refine ⟨D, _, rfl, .inl ⟨SqL.of hD1, fun tc htc => ?_⟩⟩
    have B1 := p1.new htc (.tup [.int x.a, .int x.b])
    refine ⟨(by show 2 ≤ sizeLine; decide), fun tn htn => ?_⟩
    have B2 := B1.new htn (.tup [.int 0, .int 0])
    refine ⟨(by show 2 ≤ sizeLine; decide), fun tb htb => ?_⟩
    have B3 := B2.new htb (.tup [.bl false, .bl false])
    refine ⟨_, rfl, r, _, dx, _, .ref sh, rfl, (B3.g.trans B3.s) _ _ h1, T.cl_Plan, T.n_Plan_shelf, (by kernel_rfl), ?_⟩
    intro y dy ny nd ne
    refine init_go2 rfl ⟨rfl, ?_⟩
    have B4 := B3.make ny nd ne (.ins a.C_State dy (stF tc tn tb sh))
    have g1 := same_new (o := .tup [.int x.a, .int x.b]) (p1.freeG htc)
    have g2 := same_new (o := .tup [.int 0, .int 0]) (B1.freeG htn)
    have g3 := same_new (o := .tup [.bl false, .bl false]) (B2.freeG htb)
    have g4 := same_make (B3.freeG ny) (B3.freeG nd) ne (.ins a.C_State dy (stF tc tn tb sh))
    exact k _ _ _ B4.ext B4.sm ⟨y, dy, tc, tn, tb, sh, rfl, upd_same, Same.seqT ((g2.trans g3).trans g4) (SqT.of upd_same), Same.seqT (g3.trans g4) (SqT.of upd_same), Same.seqT g4 (SqT.of upd_same), Same.seqT (((g1.trans g2).trans g3).trans g4) h2⟩
end
end Sb

namespace Sb
open PySem PySem.Spec PyProof.Rows L2 TL
theorem lr_mem : ∀ {w : Nat}, w < 8 → decide (wS w ∈ ([Str.ofString "left"] ++ [Str.ofString "right"] : List Str)) = decide (w < 2) := by
  have h : ∀ w : _root_.Fin 8, decide (wS w.val ∈ ([Str.ofString "left"] ++ [Str.ofString "right"] : List Str)) = decide (w.val < 2) := by decide +kernel
  exact fun {w} hw => h ⟨w, hw⟩
theorem pick_mem : ∀ {w : Nat}, w < 8 → decide (wS w ∈ [Str.ofString "pick"]) = decide (w = 2) := by
  have h : ∀ w : _root_.Fin 8, decide (wS w.val ∈ [Str.ofString "pick"]) = decide (w.val = 2) := by decide +kernel
  exact fun {w} hw => h ⟨w, hw⟩
theorem put_mem : ∀ {w : Nat}, w < 8 → decide (wS w ∈ [Str.ofString "put"]) = decide (w = 3) := by
  have h : ∀ w : _root_.Fin 8, decide (wS w.val ∈ [Str.ofString "put"]) = decide (w.val = 3) := by decide +kernel
  exact fun {w} hw => h ⟨w, hw⟩
theorem nV_flat (l : List Nat) : (nV l).all flatV = true := by
  rw [List.all_eq_true]
  intro v hv
  obtain ⟨n, _, rfl⟩ := List.mem_map.mp hv
  rfl
theorem modn (n m : Nat) : ((n : Int) + 1) % (m : Int) = (((n + 1) % m : Nat) : Int) := by
  rw [Int.natCast_emod]
  push_cast
  rfl
structure spAct (a : Ad) (K : PySem.W.Frag) (vs : List V) (H : Hp) (Q : VK) (E : XK) : Prop where
  ex : ∃ (G : Hp) (v u : V) (x : Pl) (s : Sit) (i : Nat), vs = [v, u, .int i] ∧ PlanAt a K G v x ∧ StateAt a K G u s ∧ x.Ok ∧ SitOk x s ∧ i < 2 ∧ Pure G H Q fun G' v => ∃ t u', v = .ref t ∧ SqT K G' t [.str (doS (actP x s i).1), u'] ∧ StateAt a K G' u' (actP x s i).2
structure spNext (a : Ad) (K : PySem.W.Frag) (vs : List V) (H : Hp) (Q : VK) (E : XK) : Prop where
  ex : ∃ (G : Hp) (v u : V) (x : Pl) (s : Sit), vs = [v, u] ∧ PlanAt a K G v x ∧ StateAt a K G u s ∧ x.Ok ∧ SitOk x s ∧ Pure G H Q fun G' v => TickAt a K G' v (tickP x s).1 (tickP x s).2
section
variable {P : Program} {w : World} {K : PySem.W.Frag} {mg : Str → Option Value} {base : Heap} {a : Ad}
theorem ok_act (T : Txt K mg a) : FnOk P w K mg base CX0 3 a.f_act a.d_act ["parsed", "state", "number"] (spAct a K) := by
  refine T.F_act.ok sc_act (fun vs H Q E h => ?_) (fun cdv A outer s0 H vs Q E hr h => ?_)
  · obtain ⟨⟨G, v, u, x, s, i, rfl, _⟩⟩ := h
    rfl
  · obtain ⟨⟨G, v, u, x, s, i, rfl, hp, hu, hx, ho, hi, hGH, k⟩⟩ := h
    refine ⟨_, (pss_cons (ps_set (i := 3) sc_act.nd rfl (Or.inl rfl) (pe_ix ix_list (pe_fld (pv 0) rfl) (pv 2) (fun _ _ => rfl)))
      (pss_cons (ps_set (i := 4) sc_act.nd rfl (Or.inl rfl) (pe_ix ix_tup (pe_fld (pv 1) rfl) (pv 2) (fun _ _ => rfl)))
      (pss_cons (ps_asg (pe_ix ix_list (pe_fld (pv 3) rfl) (pv 4) (fun _ _ => rfl)) (pg_tup (by rfl) (pgs_cons (pg_name (i := 5) sc_act.nd rfl (Or.inl rfl)) (pgs_cons (pg_name (i := 6) sc_act.nd rfl (Or.inl rfl)) pgs_nil))))
      (pss_cons (ps_par3 (i := 7) (j := 8) (l := 9) (by rfl) sc_act.nd rfl rfl rfl (by decide) (by decide) (by decide) rfl rfl rfl (pa_cons (pe_ix ix_tup (pe_fld (pv 1) rfl) (pv 2) (fun _ _ => rfl)) (pa_cons (pe_ix ix_tup (pe_fld (pv 1) rfl) (pv 2) (fun _ _ => rfl)) (pa_cons (pe_fld (pv 1) rfl) pa_nil))) (by rfl))
      (pss_cons (ps_matchS (pv 5) (cases_cons (pat_or pat_val pat_val) (pss_cons (ps_set (i := 10) sc_act.nd rfl (Or.inl rfl) (pe_ifExp (pt_cmpR op_eq (pv 5) pe_str (nomark _)) (pe_op op_sub (pv 7) pe_int) (pe_op op_add (pv 7) pe_int)))
      (pss_cons (ps_if (PW.pt (pw_or (pt_not (pt_chain op_le op_lt pe_int (pv 10) (pe_callB call_len_seq (by rfl) T.z_len (by decide +kernel) (pa_cons (pv 9) pa_nil)))) (pw_or1 (pt_cmpR op_in_seq (pv 10) (pe_fld (pv 1) rfl) rfl)))) (pss_one (ps_ret (pe_tup (pa_cons (pe_glob (v := V.str (Str.ofString "blocked")) rfl T.c_BLOCKED ⟨_, rfl⟩) (pa_cons (pv 1) pa_nil))))) pss_nil)
      (pss_one (ps_set (i := 7) sc_act.nd rfl (Or.inl rfl) (pv 10))))) (cases_cons pat_val (pss_cons (ps_if (PW.pt (pw_or (pt_val (pv 8)) (pw_or1 (pt_cmpR op_eq (pe_ix ix_tup (pv 9) (pv 7) (fun _ _ => rfl)) pe_int (nomark _))))) (pss_one (ps_ret (pe_tup (pa_cons (pe_glob (v := V.str (Str.ofString "blocked")) rfl T.c_BLOCKED ⟨_, rfl⟩) (pa_cons (pv 1) pa_nil))))) pss_nil)
      (pss_one (ps_par (i := 8) (j := 9) (by rfl) sc_act.nd rfl rfl (by decide) rfl rfl (pa_cons pe_bl (pa_cons (pe_call (ok_replaced T) (hr.mono (by decide)) rfl T.m_replaced T.F_replaced.kp (b_replaced T) .nil pass0 (pa_cons (pv 9) (pa_cons (pv 7) (pa_cons (pe_op op_sub (pe_ix ix_tup (pv 9) (pv 7) (fun _ _ => rfl)) pe_int) pa_nil)))) pa_nil)) (by rfl)))) (cases_cons pat_val (pss_cons (ps_if (PW.pt (pw_or (pt_not (pt_val (pv 8))) (pw_or1 (pt_cmpR op_eq (pe_ix ix_tup (pv 9) (pv 7) (fun _ _ => rfl)) (pe_glob (v := V.int 3) rfl T.c_MAX_BOXES ⟨_, rfl⟩) (nomark _))))) (pss_one (ps_ret (pe_tup (pa_cons (pe_glob (v := V.str (Str.ofString "blocked")) rfl T.c_BLOCKED ⟨_, rfl⟩) (pa_cons (pv 1) pa_nil))))) pss_nil)
      (pss_one (ps_par (i := 8) (j := 9) (by rfl) sc_act.nd rfl rfl (by decide) rfl rfl (pa_cons pe_bl (pa_cons (pe_call (ok_replaced T) (hr.mono (by decide)) rfl T.m_replaced T.F_replaced.kp (b_replaced T) .nil pass0 (pa_cons (pv 9) (pa_cons (pv 7) (pa_cons (pe_op op_add (pe_ix ix_tup (pv 9) (pv 7) (fun _ _ => rfl)) pe_int) pa_nil)))) pa_nil)) (by rfl)))) cases_nil))))
      (pss_cons (ps_set (i := 11) sc_act.nd rfl (Or.inl rfl) (pe_or (pe_cmpR op_eq (pv 5) pe_str (nomark _)) (pe_or (pe_and (pe_cmpR op_eq (pv 5) pe_str (nomark _)) (pe_one (pe_cmpR op_eq (pe_ix ix_tup (pv 9) (pv 7) (fun _ _ => rfl)) pe_int (nomark _)))) (pe_one (pe_and (pe_cmpR op_eq (pv 5) pe_str (nomark _)) (pe_one (pv 8)))))))
      (pss_cons (ps_set (i := 10) sc_act.nd rfl (Or.inl rfl) (pe_ifExp (pt_val (pv 11)) (pv 6) (pe_op op_mod (pe_op op_add (pv 4) pe_int) (pe_callB call_len_seq (by rfl) T.z_len (by decide +kernel) (pa_cons (pe_fld (pv 3) rfl) pa_nil)))))
      (pss_cons (ps_par (i := 12) (j := 13) (by rfl) sc_act.nd rfl rfl (by decide) rfl rfl (pa_cons (pe_call (ok_replaced T) (hr.mono (by decide)) rfl T.m_replaced T.F_replaced.kp (b_replaced T) .nil pass0 (pa_cons (pe_fld (pv 1) rfl) (pa_cons (pv 2) (pa_cons (pv 7) pa_nil)))) (pa_cons (pe_call (ok_replaced T) (hr.mono (by decide)) rfl T.m_replaced T.F_replaced.kp (b_replaced T) .nil pass0 (pa_cons (pe_fld (pv 1) rfl) (pa_cons (pv 2) (pa_cons (pv 8) pa_nil)))) pa_nil)) (by rfl))
      (pss_one (ps_ret (pe_tup (pa_cons (pv 5) (pa_cons (pe_make T.mk_State (ok_State_init T) (hr.mono (by decide)) (by rfl) T.m_State (b_State_init T) .nil pass0 (pa_cons (pv 12) (pa_cons (pe_call (ok_replaced T) (hr.mono (by decide)) rfl T.m_replaced T.F_replaced.kp (b_replaced T) .nil pass0 (pa_cons (pe_fld (pv 1) rfl) (pa_cons (pv 2) (pa_cons (pv 10) pa_nil)))) (pa_cons (pv 13) (pa_cons (pv 9) pa_nil))))) pa_nil))))))))))))), ?_⟩
    obtain ⟨r, dx, sh, rl, r1, r2, rfl, hr1, hsh, hrl, hb1, hb2⟩ := hp
    obtain ⟨sa, ds, sc, sn, sb, se, rfl, hs0, hsc, hsn, hsb, hse⟩ := id hu
    obtain ⟨q, dq, sl, nl, hq1, hq, hsl⟩ : ∃ (q dq sl nl : Addr), ([r1, r2] : List V)[i]? = some (.ref q) ∧ (∃ n, G q = some (.ins a.C_Robot dq (robF n sl nl))) ∧ Dp K G (.ref sl) (stepsD (stepsOf x i)) := by
      match i, hi with
      | 0, _ =>
        obtain ⟨q, dq, sl, nl, rfl, h1, h2, _⟩ := hb1
        exact ⟨q, dq, sl, nl, rfl, ⟨_, h1⟩, h2⟩
      | 1, _ =>
        obtain ⟨q, dq, sl, nl, rfl, h1, h2, _⟩ := hb2
        exact ⟨q, dq, sl, nl, rfl, ⟨_, h1⟩, h2⟩
    obtain ⟨nq, hq⟩ := hq
    obtain ⟨sl', xsi, esl, hsi, hdi⟩ := Dp.lst_inv hsl
    cases esl
    obtain ⟨est, _⟩ := st_mem ho hi
    have sok := st_ok hx ho hi
    have nl' := ho.nl i hi
    have cl := ho.cl i hi
    obtain ⟨y, hy, hDy⟩ := DpAll.at hdi (i := s.ns.getD i 0) (d := (stOf x s i).D) (by rw [List.getElem?_map, est]; rfl)
    obtain ⟨tt, g, rfl, htt, hg⟩ := step_inv hDy
    have w8 := sok.w8
    have ic : i < s.cs.length := by rw [ho.c2]; exact hi
    have in_ : i < s.ns.length := by rw [ho.n2]; exact hi
    have ih : i < s.hs.length := by rw [ho.h2]; exact hi
    have l12 : s.sh.length ≤ 12 := by rw [ho.len]; exact hx.c12
    -- robot, at, word, goal
    refine ⟨_, rfl, r, _, dx, _, .ref rl, rfl, hGH _ _ hr1, T.cl_Plan, T.n_Plan_robots, (by kernel_rfl), _, rfl, rl, _, _, .ref q, rfl, rfl, hGH.seq hrl, at_of (j := i) rfl hq1, ?_⟩
    refine ⟨_, rfl, sa, _, ds, _, .ref sn, rfl, hGH _ _ hs0, T.cl_State, T.n_State_nexts, (by kernel_rfl), _, rfl, sn, _, _, .int (s.ns.getD i 0 : Nat), rfl, rfl, Same.seqT hGH hsn, at_of (j := i) rfl (nV_at in_), ?_⟩
    refine ⟨_, rfl, q, _, dq, _, .ref sl, rfl, hGH _ _ hq, T.cl_Robot, T.n_Robot_steps, (by kernel_rfl), _, rfl, sl, _, _, .ref tt, rfl, rfl, hGH.seq hsi, at_of (j := s.ns.getD i 0) rfl hy, tt, _, rfl, Same.seqT hGH htt, rfl, _, _, rfl, _, _, rfl, rfl, ?_⟩
    -- cell, held, shelf
    refine ⟨_, rfl, sa, _, ds, _, .ref sc, rfl, hGH _ _ hs0, T.cl_State, T.n_State_cells, (by kernel_rfl), _, rfl, sc, _, _, .int (cOf s i : Nat), rfl, rfl, Same.seqT hGH hsc, at_of (j := i) rfl (nV_at ic), ?_⟩
    refine ⟨_, rfl, sa, _, ds, _, .ref sb, rfl, hGH _ _ hs0, T.cl_State, T.n_State_holds, (by kernel_rfl), _, rfl, sb, _, _, .bl (s.hs.getD i false), rfl, rfl, Same.seqT hGH hsb, at_of (j := i) rfl (bV_at ih), ?_⟩
    refine ⟨_, rfl, sa, _, ds, _, .ref se, rfl, hGH _ _ hs0, T.cl_State, T.n_State_shelf, (by kernel_rfl), _, _, _, rfl, ?_⟩
    dsimp only
    have blk : actP x s i = (8, s) → ∀ G1 H', Pt G H G1 H' → (2 ≤ sizeLine ∧ ∀ p, H' p = none → Q (.ref p) (upd H' p (.tup [.str (Str.ofString "blocked"), .ref sa]))) := fun e G1 H' p' => by
      refine ⟨by decide, fun p hp' => ?_⟩
      have p2 := p'.new hp' (.tup [.str (Str.ofString "blocked"), .ref sa])
      refine k _ _ _ p2.ext p2.sm ?_
      rw [e]
      exact ⟨p, _, rfl, SqT.of upd_same, hu.mono (p'.g.trans (same_new (p'.freeG hp')))⟩
    let Pk : L2.St → Hp → Prop := fun σ H' => ∃ (v10 : Option V) (cn : Nat) (hn : Bool) (e : Addr) (sh' : List Nat) (G1 : Hp), σ = [some (.ref r), some (.ref sa), some (.int i), some (.ref q), some (.int (s.ns.getD i 0 : Nat)), some (.str (wS (stOf x s i).w)), some g, some (.int (cn : Nat)), some (.bl hn), some (.ref e), v10, none, none, none] ∧
      Pt G H G1 H' ∧ SqT K G1 e (nV sh') ∧ sh'.length = s.sh.length ∧ cn < s.sh.length ∧ (5 ≤ (stOf x s i).w → cn = cOf s i) ∧ actP x s i = finP x s i (s.cs.set i cn) (s.hs.set i hn) sh'
    have B0 := Pt.start hGH
    have hset : s.hs = s.hs.set i (s.hs.getD i false) := set_same.symm
    have cset : s.cs = s.cs.set i (cOf s i) := set_same.symm
    refine seq_restσ Pk (fun σ H' hP => ?_) (fun rest => ?m4)
    case m4 =>
      refine ⟨_, rfl, _, rfl, ?_⟩
      rw [lr_mem w8]
      refine ite2 (fun c2 => ?_) (fun c2 => ?_)
      · have hw2 : (stOf x s i).w < 2 := of_decide_eq_true c2
        refine seq_restσ (fun σ H' => ∃ (z : Int) (c' : Nat), σ = [some (.ref r), some (.ref sa), some (.int i), some (.ref q), some (.int (s.ns.getD i 0 : Nat)), some (.str (wS (stOf x s i).w)), some g, some (.int (cOf s i : Nat)), some (.bl (s.hs.getD i false)), some (.ref se), some (.int z), none, none, none] ∧ H = H' ∧
          ((z < 0 ∧ actP x s i = (8, s)) ∨ (z = (c' : Int) ∧ actP x s i = if s.sh.length ≤ c' ∨ c' ∈ s.cs then (8, s) else finP x s i (s.cs.set i c') s.hs s.sh))) (fun σ H' hz => ?r1) (fun rest1 => ?m1)
        case m1 =>
          refine ⟨_, rfl, rfl, _, rfl, ite_w 0 w8 (fun hw => ?_) (fun hw => ?_)⟩
          · refine ⟨_, rfl, _, _, rfl, rfl, rest1 _ _ ⟨_, cOf s i - 1, rfl, rfl, ?_⟩⟩
            have ea := act_left hw
            by_cases hc0 : cOf s i = 0
            · rw [if_pos (.inl hc0)] at ea
              exact .inl ⟨by omega, ea⟩
            · refine .inr ⟨by omega, ?_⟩
              rw [ea]
              have : ¬ s.sh.length ≤ cOf s i - 1 := by unfold cOf; omega
              simp only [hc0, this, false_or]
          · refine ⟨_, rfl, _, _, rfl, rfl, rest1 _ _ ⟨_, cOf s i + 1, rfl, rfl, ?_⟩⟩
            exact .inr ⟨by omega, act_right (by omega)⟩
        obtain ⟨z, c', rfl, rfl, hz⟩ := hz
        have esh : (((nV s.sh).length : Nat) : Int) = (s.sh.length : Int) := by rw [List.length_map]
        refine ⟨_, rfl, _, _, rfl, rfl, _, rfl, ite2 (fun d0 => ?_) (fun d0 => ?_)⟩
        · have d0' : (0 : Int) ≤ z := of_decide_eq_true d0
          rcases hz with ⟨hz, _⟩ | ⟨rfl, ea⟩
          · omega
          refine ⟨_, rfl, se, _, rfl, .inr (Same.seqT hGH hse), _, _, rfl, rfl, _, rfl, ?_⟩
          rw [esh]
          refine ite2 (fun d1 => ?_) (fun d1 => ?_)
          · have d1' : ¬ (c' : Int) < (s.sh.length : Int) := by simpa using d1
            rw [if_pos (.inl (by omega))] at ea
            exact ite_t rfl ⟨_, rfl, blk ea _ _ B0⟩
          · have d1' : (c' : Int) < (s.sh.length : Int) := by simpa using d1
            refine ⟨_, rfl, _, rfl, sa, _, ds, _, .ref sc, rfl, hGH _ _ hs0, T.cl_State, T.n_State_cells, (by kernel_rfl), sc, _, rfl, .inr (Same.seqT hGH hsc), rfl, nV_flat _, _, rfl, ?_⟩
            rw [if_neg Bool.false_ne_true, in_nats]
            refine ite2 (fun d2 => ?_) (fun d2 => ?_)
            · rw [if_pos (.inr (of_decide_eq_true d2))] at ea
              exact ⟨_, rfl, blk ea _ _ B0⟩
            · have d2' : ¬ c' ∈ s.cs := fun z => d2 (decide_eq_true z)
              rw [if_neg (by simp only [not_or]; exact ⟨by omega, d2'⟩), hset] at ea
              exact ⟨_, rfl, rest _ _ ⟨_, c', _, se, s.sh, G, rfl, B0, hse, rfl, by omega, fun h => by omega, ea⟩⟩
        · rcases hz with ⟨_, ea⟩ | ⟨hz, _⟩
          · exact ⟨_, rfl, ite_t rfl (ite_t rfl ⟨_, rfl, blk ea _ _ B0⟩)⟩
          · exact absurd (decide_eq_true (by omega)) d0
      have hw2 : ¬ (stOf x s i).w < 2 := fun z => c2 (decide_eq_true z)
      rw [pick_mem w8]
      refine ite2 (fun c2 => ?_) (fun c2 => ?_)
      · have hw : (stOf x s i).w = 2 := of_decide_eq_true c2
        have ea := act_pick hw
        refine ⟨_, rfl, _, rfl, ?_⟩
        refine ite_b (fun c1 => ?_) (fun c1 => ?_)
        · rw [if_pos (.inl c1)] at ea
          exact ite_t rfl ⟨_, rfl, blk ea _ _ B0⟩
        · refine ⟨_, rfl, _, rfl, se, _, _, .int (s.sh.getD (cOf s i) 0 : Nat), rfl, rfl, Same.seqT hGH hse, at_of (j := cOf s i) rfl (nV_at cl), rfl, _, rfl, ?_⟩
          refine ite2 (fun c2 => ?_) (fun c2 => ?_)
          · have c2' : s.sh.getD (cOf s i) 0 = 0 := by have := of_decide_eq_true c2; injection this; omega
            rw [if_pos (.inr c2')] at ea
            exact ⟨_, rfl, blk ea _ _ B0⟩
          · have c2' : ¬ s.sh.getD (cOf s i) 0 = 0 := fun q => c2 (decide_eq_true (by rw [q]; rfl))
            rw [if_neg (by rw [c1]; simp only [Bool.false_eq_true, false_or]; exact c2')] at ea
            refine ⟨_, rfl, _, rfl, _, rfl, _, rfl, se, _, _, .int (s.sh.getD (cOf s i) 0 : Nat), rfl, rfl, Same.seqT hGH hse, at_of (j := cOf s i) rfl (nV_at cl), _, _, rfl, rfl, ?_⟩
            refine replaced_go B0 hse (by rw [List.length_map]; exact cl) (by rw [List.length_map]; omega) fun e' G1 H1 B1 S1 h1 => ?_
            have e1 : ((s.sh.getD (cOf s i) 0 : Nat) : Int) - 1 = ((s.sh.getD (cOf s i) 0 - 1 : Nat) : Int) := by omega
            dsimp only at h1
            rw [e1, nV_set] at h1
            rw [cset] at ea
            exact ⟨_, _, rfl, rest _ _ ⟨_, cOf s i, true, e', _, G1, rfl, B1, h1, by rw [List.length_set], cl, fun _ => rfl, ea⟩⟩
      have hw3 : ¬ (stOf x s i).w = 2 := fun z => c2 (decide_eq_true z)
      rw [put_mem w8]
      refine ite2 (fun c2 => ?_) (fun c2 => ?_)
      · have hw : (stOf x s i).w = 3 := of_decide_eq_true c2
        have ea := act_put hw
        have b3 : s.sh.getD (cOf s i) 0 ≤ 3 := by
          have cl' : cOf s i < s.sh.length := cl
          rw [List.getD_eq_getElem?_getD, List.getElem?_eq_getElem cl']
          exact ho.b3 _ (List.getElem_mem _)
        refine ⟨_, rfl, _, rfl, ?_⟩
        cases c1 : s.hs.getD i false with
        | false =>
          rw [if_pos (.inl c1)] at ea
          exact ite_t rfl (ite_t rfl ⟨_, rfl, blk ea _ _ B0⟩)
        | true =>
          refine ite_f rfl ⟨_, rfl, _, rfl, se, _, _, .int (s.sh.getD (cOf s i) 0 : Nat), rfl, rfl, Same.seqT hGH hse, at_of (j := cOf s i) rfl (nV_at cl), rfl, _, rfl, ?_⟩
          refine ite2 (fun c2 => ?_) (fun c2 => ?_)
          · have c2' : s.sh.getD (cOf s i) 0 = 3 := by have := of_decide_eq_true c2; injection this; omega
            rw [if_pos (.inr (by omega))] at ea
            exact ⟨_, rfl, blk ea _ _ B0⟩
          · have c2' : ¬ s.sh.getD (cOf s i) 0 = 3 := fun q => c2 (decide_eq_true (by rw [q]; rfl))
            rw [if_neg (by rw [c1]; simp only [Bool.true_eq_false, false_or]; omega)] at ea
            refine ⟨_, rfl, _, rfl, _, rfl, _, rfl, se, _, _, .int (s.sh.getD (cOf s i) 0 : Nat), rfl, rfl, Same.seqT hGH hse, at_of (j := cOf s i) rfl (nV_at cl), _, _, rfl, rfl, ?_⟩
            refine replaced_go B0 hse (by rw [List.length_map]; exact cl) (by rw [List.length_map]; omega) fun e' G1 H1 B1 S1 h1 => ?_
            have e1 : ((s.sh.getD (cOf s i) 0 : Nat) : Int) + 1 = ((s.sh.getD (cOf s i) 0 + 1 : Nat) : Int) := by omega
            dsimp only at h1
            rw [e1, nV_set] at h1
            rw [cset] at ea
            exact ⟨_, _, rfl, rest _ _ ⟨_, cOf s i, false, e', _, G1, rfl, B1, h1, by rw [List.length_set], cl, fun _ => rfl, ea⟩⟩
      have hw4 : ¬ (stOf x s i).w = 3 := fun z => c2 (decide_eq_true z)
      have ea := act_else (x := x) (s := s) (i := i) (by omega)
      rw [cset, hset] at ea
      exact rest _ _ ⟨_, cOf s i, _, se, s.sh, G, rfl, B0, hse, rfl, cl, fun _ => rfl, ea⟩
    obtain ⟨v10, cn, hn, e, sh', G1, rfl, B1, he, hl', hcn, hc5, ea⟩ := hP
    have hcn' : cn < sh'.length := by rw [hl']; exact hcn
    have hgetD : (s.hs.set i hn).getD i false = hn := by rw [getD_set ih, if_pos rfl]
    have s1 : Same G H' := B1.g.trans B1.s
    -- is_jump
    refine seq_restσ (fun σ H1 => H' = H1 ∧ σ = [some (.ref r), some (.ref sa), some (.int i), some (.ref q), some (.int (s.ns.getD i 0 : Nat)), some (.str (wS (stOf x s i).w)), some g, some (.int (cn : Nat)), some (.bl hn), some (.ref e), v10, some (.bl (decide (jumpP x s i (s.hs.set i hn) sh'))), none, none]) (fun σ H1 hP => ?_) (fun rest => ?m7)
    case m7 =>
      have fin : ∀ bv : Bool, bv = decide (jumpP x s i (s.hs.set i hn) sh') → _ := fun bv hbv => rest ([some (.ref r), some (.ref sa), some (.int i), some (.ref q), some (.int (s.ns.getD i 0 : Nat)), some (.str (wS (stOf x s i).w)), some g, some (.int (cn : Nat)), some (.bl hn), some (.ref e), v10, some (.bl bv), none, none]) _ ⟨rfl, by rw [hbv]⟩
      refine ⟨_, rfl, rfl, _, rfl, ite_w 5 w8 (fun hw => ?_) (fun hw => ?_)⟩
      · exact fin true (decide_eq_true (show jumpP x s i (s.hs.set i hn) sh' from .inl hw)).symm
      refine ⟨_, rfl, rfl, _, rfl, ite_w 6 w8 (fun h6 => ?_) (fun h6 => ?_)⟩
      · have ecn := hc5 (by omega)
        refine ⟨_, rfl, _, rfl, e, _, _, .int (sh'.getD cn 0 : Nat), rfl, rfl, Same.seqT B1.s he, at_of (j := cn) rfl (nV_at hcn'), rfl, _, rfl, ?_⟩
        refine ite2 (fun c2 => ?_) (fun c2 => ?_)
        · have c2' : sh'.getD cn 0 = 0 := by have := of_decide_eq_true c2; injection this; omega
          exact fin true (decide_eq_true (show jumpP x s i (s.hs.set i hn) sh' from .inr (.inl ⟨h6, by rw [← ecn]; exact c2'⟩))).symm
        · have c2' : ¬ sh'.getD cn 0 = 0 := fun q => c2 (decide_eq_true (by rw [q]; rfl))
          refine ⟨_, rfl, rfl, _, rfl, ite_w 7 w8 (fun h7 => by omega) (fun h7 => ?_)⟩
          exact fin false (decide_eq_false (show ¬ jumpP x s i (s.hs.set i hn) sh' from fun z => by rcases z with z | z | z; exact hw z; exact c2' (by rw [ecn]; exact z.2); exact h7 z.1)).symm
      · refine ⟨_, rfl, ite_f rfl ⟨_, rfl, rfl, _, rfl, ite_w 7 w8 (fun h7 => ?_) (fun h7 => ?_)⟩⟩
        · refine ⟨_, rfl, fin _ ?_⟩
          have e1 : hn = decide ((s.hs.set i hn).getD i false = true) := by rw [hgetD]; simp
          exact e1.trans (decide_eq_decide.mpr ⟨fun z => .inr (.inr ⟨h7, z⟩), fun z => by rcases z with z | z | z; exact absurd z hw; exact absurd z.1 h6; exact z.2⟩)
        · exact fin false (decide_eq_false (show ¬ jumpP x s i (s.hs.set i hn) sh' from fun z => by rcases z with z | z | z; exact hw z; exact h6 z.1; exact h7 z.1)).symm
    obtain ⟨rfl, rfl⟩ := hP
    -- later
    have lx : xsi.length = (stepsOf x i).length := by rw [DpAll.len hdi, List.length_map]
    have pos := (steps_ok hx i).pos
    refine seq_restσ (fun σ H1 => H' = H1 ∧ σ = [some (.ref r), some (.ref sa), some (.int i), some (.ref q), some (.int (s.ns.getD i 0 : Nat)), some (.str (wS (stOf x s i).w)), some g, some (.int (cn : Nat)), some (.bl hn), some (.ref e), some (.int (nextP x s i (s.hs.set i hn) sh' : Nat)), some (.bl (decide (jumpP x s i (s.hs.set i hn) sh'))), none, none]) (fun σ H1 hP => ?_) (fun rest => ?m8)
    case m8 =>
      have fin : ∀ nv : Int, nv = (nextP x s i (s.hs.set i hn) sh' : Nat) → _ := fun nv hnv => rest ([some (.ref r), some (.ref sa), some (.int i), some (.ref q), some (.int (s.ns.getD i 0 : Nat)), some (.str (wS (stOf x s i).w)), some g, some (.int (cn : Nat)), some (.bl hn), some (.ref e), some (.int nv), some (.bl (decide (jumpP x s i (s.hs.set i hn) sh'))), none, none]) _ ⟨rfl, by rw [hnv]⟩
      refine ⟨_, rfl, _, rfl, ite2 (fun c1 => ?_) (fun c1 => ?_)⟩
      · have hj : jumpP x s i (s.hs.set i hn) sh' := of_decide_eq_true c1
        have h5 : 5 ≤ (stOf x s i).w := by rcases hj with h | h | h <;> omega
        obtain ⟨kk, hk, _⟩ := sok.yes h5
        rcases hg with ⟨h1, _⟩ | ⟨k2, h1, rfl⟩
        · rw [h1] at hk; cases hk
        · refine ⟨_, rfl, fin k2 ?_⟩
          unfold nextP
          rw [if_pos hj, h1]
          rfl
      · have hj : ¬ jumpP x s i (s.hs.set i hn) sh' := fun q => c1 (decide_eq_true q)
        refine ⟨_, rfl, _, _, rfl, rfl, _, rfl, q, _, dq, _, .ref sl, rfl, s1 _ _ hq, T.cl_Robot, T.n_Robot_steps, (by kernel_rfl), sl, _, rfl, .inl (s1.seq hsi), _, _, rfl, rfl, ?_, fin _ ?_⟩
        · show (0 : Int) < ((xsi.length : Nat) : Int)
          omega
        · rw [lx, modn]
          unfold nextP
          rw [if_neg hj]
    obtain ⟨rfl, rfl⟩ := hP
    -- cells, holds
    have hl2 : ∀ {α : Type} {l : List α} (f : α → V), l.length = 2 → (l.map f).length ≤ 1000 := fun {α l} f h => by rw [List.length_map]; omega
    refine ⟨_, rfl, sa, _, ds, _, .ref sc, rfl, s1 _ _ hs0, T.cl_State, T.n_State_cells, (by kernel_rfl), _, rfl, _, rfl, ?_⟩
    refine replaced_go B1 (Same.seqT B1.g hsc) (by rw [List.length_map]; exact ic) (hl2 _ ho.c2) fun c2 G2 H2 B2 S2 h2 => ?_
    rw [nV_set] at h2
    have s2 : Same G H2 := B2.g.trans B2.s
    refine ⟨_, rfl, sa, _, ds, _, .ref sb, rfl, s2 _ _ hs0, T.cl_State, T.n_State_holds, (by kernel_rfl), _, rfl, _, rfl, ?_⟩
    refine replaced_go B2 (Same.seqT B2.g hsb) (by rw [List.length_map]; exact ih) (hl2 _ ho.h2) fun c3 G3 H3 B3 S3 h3 => ?_
    rw [bV_set] at h3
    have s3 : Same G H3 := B3.g.trans B3.s
    refine ⟨_, _, rfl, ?_⟩
    dsimp only
    refine ⟨_, rfl, _, rfl, _, rfl, sa, _, ds, _, .ref sn, rfl, s3 _ _ hs0, T.cl_State, T.n_State_nexts, (by kernel_rfl), _, rfl, _, rfl, ?_⟩
    refine replaced_go B3 (Same.seqT B3.g hsn) (by rw [List.length_map]; exact in_) (hl2 _ ho.n2) fun c4 G4 H4 B4 S4 h4 => ?_
    rw [nV_set] at h4
    refine ⟨_, rfl, _, rfl, ?_⟩
    intro y dy ny nd ne
    refine init_go2 rfl ⟨rfl, ?_⟩
    have B5 := B4.make ny nd ne (.ins a.C_State dy (stF c2 c4 c3 e))
    have g5 := same_make (B4.freeG ny) (B4.freeG nd) ne (.ins a.C_State dy (stF c2 c4 c3 e))
    refine ⟨(by show 2 ≤ sizeLine; decide), fun p hp => ?_⟩
    have B6 := B5.new hp (.tup [.str (wS (stOf x s i).w), .ref y])
    have g6 := same_new (o := .tup [.str (wS (stOf x s i).w), .ref y]) (B5.freeG hp)
    refine k _ _ _ B6.ext B6.sm ?_
    have ew : (actP x s i).1 = (stOf x s i).w := by rw [ea]; rfl
    rw [ew, doS_lt w8, ea]
    exact ⟨p, .ref y, rfl, SqT.of upd_same, y, dy, c2, c4, c3, e, rfl, g6 _ _ upd_same, Same.seqT (((S3.trans S4).trans g5).trans g6) h2, Same.seqT (g5.trans g6) h4, Same.seqT ((S4.trans g5).trans g6) h3, Same.seqT ((((S2.trans S3).trans S4).trans g5).trans g6) he⟩
theorem ok_next_tick (T : Txt K mg a) : FnOk P w K mg base CX0 5 a.f_next_tick a.d_next_tick ["parsed", "state"] (spNext a K) := by
  refine T.F_next_tick.ok sc_next_tick (fun vs H Q E h => ?_) (fun cdv A outer s0 H vs Q E hr h => ?_)
  · obtain ⟨⟨G, v, u, x, s, rfl, _⟩⟩ := h
    rfl
  · obtain ⟨⟨G, v, u, x, s, rfl, hp, hu, hx, ho, hGH, k⟩⟩ := h
    refine ⟨_, (pss_cons (ps_asg (pe_call (ok_act T) (hr.mono (by decide)) rfl T.m_act T.F_act.kp (b_act T) .nil pass0 (pa_cons (pv 0) (pa_cons (pv 1) (pa_cons pe_int pa_nil)))) (pg_tup (by rfl) (pgs_cons (pg_name (i := 2) sc_next_tick.nd rfl (Or.inl rfl)) (pgs_cons (pg_name (i := 1) sc_next_tick.nd rfl (Or.inl rfl)) pgs_nil))))
      (pss_cons (ps_asg (pe_call (ok_act T) (hr.mono (by decide)) rfl T.m_act T.F_act.kp (b_act T) .nil pass0 (pa_cons (pv 0) (pa_cons (pv 1) (pa_cons pe_int pa_nil)))) (pg_tup (by rfl) (pgs_cons (pg_name (i := 3) sc_next_tick.nd rfl (Or.inl rfl)) (pgs_cons (pg_name (i := 1) sc_next_tick.nd rfl (Or.inl rfl)) pgs_nil))))
      (pss_one (ps_ret (pe_make T.mk_Tick (ok_Tick_init T) (hr.mono (by decide)) (by rfl) T.m_Tick (b_Tick_init T) .nil pass0 (pa_cons (pe_tup (pa_cons (pv 2) (pa_cons (pv 3) pa_nil))) (pa_cons (pv 1) pa_nil))))))), ?_⟩
    refine ⟨_, rfl, _, rfl, ⟨⟨G, v, u, x, s, 0, rfl, hp, hu, hx, ho, by decide, hGH, fun G1 H1 v1 x1 s1 d1 => ?_⟩⟩⟩
    obtain ⟨t1, u1, rfl, ht1, hu1⟩ := d1
    have B1 := (Pt.start hGH).call x1 s1
    refine ⟨t1, _, rfl, Same.seqT B1.s ht1, rfl, _, _, rfl, _, _, rfl, rfl, ?_⟩
    have ho1 := act_ok hx ho (i := 0) (by decide)
    refine ⟨_, rfl, _, rfl, ⟨⟨G1, v, u1, x, _, 1, rfl, hp.mono B1.g, hu1, hx, ho1, by decide, B1.s, fun G2 H2 v2 x2 s2 d2 => ?_⟩⟩⟩
    obtain ⟨t2, u2, rfl, ht2, hu2⟩ := d2
    have B2 := B1.call x2 s2
    refine ⟨t2, _, rfl, Same.seqT B2.s ht2, rfl, _, _, rfl, _, _, rfl, rfl, ?_⟩
    refine ⟨_, rfl, _, rfl, (by show 2 ≤ sizeLine; decide), fun p hp => ?_⟩
    have B3 := B2.new hp (.tup [.str (doS (actP x s 0).1), .str (doS (actP x (actP x s 0).2 1).1)])
    refine ⟨_, rfl, ?_⟩
    intro y dy ny nd ne
    refine init_go2 rfl ⟨rfl, ?_⟩
    have B4 := B3.make ny nd ne (.ins a.C_Tick dy (tkF p u2))
    have g3 := same_new (o := .tup [.str (doS (actP x s 0).1), .str (doS (actP x (actP x s 0).2 1).1)]) (B2.freeG hp)
    have g4 := same_make (B3.freeG ny) (B3.freeG nd) ne (.ins a.C_Tick dy (tkF p u2))
    exact k _ _ _ B4.ext B4.sm ⟨y, dy, p, u2, rfl, upd_same, Same.seqT g4 (SqT.of upd_same), hu2.mono (g3.trans g4)⟩
end
end Sb

namespace Sb
open PySem PySem.Spec PyProof.Rows L2 TL
def stoF (l : Addr) (st : V) : List (Str × V) := [("ticks", .ref l), ("start", st)]
def wordsAt (x : Pl) (j : Nat) : Nat × Nat := (tickP x (sitAt x j)).1
def TicksAt (a : Ad) (K : PySem.W.Frag) (G : Hp) (vs : List V) (x : Pl) (n : Nat) : Prop := vs.length = n ∧ ∀ j, j < n → ∃ u, vs[j]? = some u ∧ TickAt a K G u (wordsAt x j) (sitAt x (j + 1))
theorem TicksAt.mono {a : Ad} {K : PySem.W.Frag} {G G' : Hp} {vs : List V} {x : Pl} {n : Nat} (m : Same G G') (h : TicksAt a K G vs x n) : TicksAt a K G' vs x n := ⟨h.1, fun j hj => by
  obtain ⟨u, h1, h2⟩ := h.2 j hj
  exact ⟨u, h1, h2.mono m⟩⟩
theorem TicksAt.snoc {a : Ad} {K : PySem.W.Frag} {G : Hp} {vs : List V} {x : Pl} {n : Nat} {v : V} (h : TicksAt a K G vs x n) (hv : TickAt a K G v (wordsAt x n) (sitAt x (n + 1))) : TicksAt a K G (vs ++ [v]) x (n + 1) := by
  refine ⟨by rw [List.length_append, h.1]; rfl, fun j hj => ?_⟩
  by_cases hjn : j < n
  · obtain ⟨u, h1, h2⟩ := h.2 j hjn
    exact ⟨u, by rw [List.getElem?_append_left (by rw [h.1]; exact hjn)]; exact h1, h2⟩
  · have : j = n := by omega
    subst this
    exact ⟨v, by rw [List.getElem?_append_right (by rw [h.1]; exact Nat.le_refl _), h.1, Nat.sub_self]; rfl, hv⟩
def StoryAt (a : Ad) (K : PySem.W.Frag) (G : Hp) (v : V) (x : Pl) (i n : Nat) : Prop := ∃ (y dy l : Addr) (vs : List V), v = .ref y ∧ G y = some (.ins a.C_Story dy (stoF l (.int i))) ∧ SqL K G l vs ∧ TicksAt a K G vs x n
theorem StoryAt.mono {a : Ad} {K : PySem.W.Frag} {G G' : Hp} {v : V} {x : Pl} {i n : Nat} (m : Same G G') (h : StoryAt a K G v x i n) : StoryAt a K G' v x i n := by
  obtain ⟨y, dy, l, vs, h0, h1, h2, h3⟩ := h
  exact ⟨y, dy, l, vs, h0, m _ _ h1, m.seq h2, h3.mono m⟩
structure spStoryInit (a : Ad) (K : PySem.W.Frag) (vs : List V) (H : Hp) (Q : VK) (E : XK) : Prop where
  ex : ∃ (y dy : Addr) (G : Hp) (v : V) (x : Pl) (i n : Nat), vs = [.ref y, v] ∧ H y = some (.ins a.C_Story dy []) ∧ G y = none ∧ Same G H ∧ PlanAt a K G v x ∧ x.Ok ∧ Cyc x i n ∧ n ≤ 20000 ∧
    ∀ (G' H' : Hp) (l : Addr) (vs : List V), Mv [y] G H G' H' → G' y = none → H' y = some (.ins a.C_Story dy (stoF l (.int i))) → SqL K G' l vs → TicksAt a K G' vs x n → Q .non H'
theorem stoF_put {l : Addr} {st st' : V} : putF "start" st' (stoF l st) = stoF l st' := by
  unfold stoF
  rw [putF, if_neg (by decide +kernel), putF, if_pos rfl]
theorem cyc_found {x : Pl} {i n j : Nat} (hc : Cyc x i n) (hj : j ≤ n) (h : ∃ m, m < j ∧ sitAt x m = sitAt x j) : j = n := by
  obtain ⟨m, h1, h2⟩ := h
  by_cases e : j = n
  · exact e
  · have := hc.nd m j (by omega) (by omega) h2
    omega
section
variable {P : Program} {w : World} {K : PySem.W.Frag} {mg : Str → Option Value} {base : Heap} {a : Ad}
theorem ok_Story_init (T : Txt K mg a) : FnOk P w K mg base CX0 7 a.f_Story_init a.d_Story_init ["self", "parsed"] (spStoryInit a K) := by
  refine T.F_Story_init.ok sc_Story_init (fun vs H Q E h => ?_) (fun cdv A outer s0 H vs Q E hr h => ?_)
  · obtain ⟨⟨y, dy, G, v, x, i, n, rfl, _⟩⟩ := h
    rfl
  · obtain ⟨⟨y, dy, G, v, x, i, n, rfl, hy, hyG, hGH, hp, hx, hc, hn, k⟩⟩ := h
    refine ⟨_, (pss_cons (ps_fld (pv 0) (pe_lst pa_nil) rfl)
      (pss_cons (ps_fld (pv 0) pe_non rfl)
      (pss_cons (ps_par (i := 2) (j := 3) (by rfl) sc_Story_init.nd rfl rfl (by decide) rfl rfl (pa_cons (pe_call (ok_first_state T) (hr.mono (by decide)) rfl T.m_first_state T.F_first_state.kp (b_first_state T) .nil pass0 (pa_cons (pv 1) pa_nil)) (pa_cons pe_dnewN pa_nil)) (by rfl))
      (pss_one (ps_while PassesOwn.never (pt_cmpR op_isN (pe_fld (pv 0) rfl) pe_non (nomark _)) (pss_one (ps_if (pt_cmpR (op_inN hr.units) (pe_prop (pv 2) T.cl_State T.P_State_key (ok_State_key T) (hr.mono (by decide)) (b_State_key T) .nil pass0 rfl) (pv 3) rfl) (pss_one (ps_fld (pv 0) (pe_dgetN hr.units (pv 3) (pe_prop (pv 2) T.cl_State T.P_State_key (ok_State_key T) (hr.mono (by decide)) (b_State_key T) .nil pass0 rfl) (fun _ _ => rfl)) rfl)) (pss_cons (ps_if (pt_cmpR op_eq (pe_callB call_len_seq (by rfl) T.z_len (by decide +kernel) (pa_cons (pe_fld (pv 0) rfl) pa_nil)) (pe_glob (v := V.int 20000) rfl T.c_MAX_STATES ⟨_, rfl⟩) (nomark _)) pss_never pss_nil)
      (pss_cons (ps_asg (pe_callB call_len_seq (by rfl) T.z_len (by decide +kernel) (pa_cons (pe_fld (pv 0) rfl) pa_nil)) (pg_sub (pv 3) (pe_prop (pv 2) T.cl_State T.P_State_key (ok_State_key T) (hr.mono (by decide)) (b_State_key T) .nil pass0 rfl) (set_newN hr.units)))
      (pss_cons (ps_expr (pe_bm PySem.F.plainAttrs_list PySem.F.slot_list_append PySem.F.type_list_append mt_append (pe_fld (pv 0) rfl) (pa_cons (pe_call (ok_next_tick T) (hr.mono (by decide)) rfl T.m_next_tick T.F_next_tick.kp (b_next_tick T) .nil pass0 (pa_cons (pv 1) (pa_cons (pv 2) pa_nil))) pa_nil)))
      (pss_one (ps_set (i := 2) sc_Story_init.nd rfl (Or.inl rfl) (pe_fld (pe_ix ix_list (pe_fld (pv 0) rfl) (pe_un un_neg pe_int) (fun _ _ => rfl)) rfl))))))))))))), ?_⟩
    -- ticks, start
    refine ⟨Nat.zero_le _, fun l hl => ?_⟩
    have ly : l ≠ y := (ne_of_none hy hl).symm
    refine ⟨_, rfl, y, _, dy, _, rfl, by rw [upd_ne ly.symm]; exact hy, T.cl_Story, T.n_Story_ticks, by decide, ?_⟩
    refine ⟨_, rfl, y, _, dy, _, rfl, upd_same, T.cl_Story, T.n_Story_start, lf1, ?_⟩
    rw [upd_upd]
    have e : putF "start" V.non (putF "ticks" (V.ref l) []) = stoF l .non := by
      show putF "start" V.non [("ticks", V.ref l)] = _
      rw [putF_new (fs := [("ticks", V.ref l)]) (show ("start" : Str) ∉ (["ticks"] : List Str) by decide +kernel)]
      rfl
    rw [e]
    have M1 : Mv [y] G H G (upd (upd H l (.lst [])) y (.ins a.C_Story dy (stoF l .non))) := ((Mv.start hGH).lay hl _).put (.inl (by simp)) hyG _
    have l0 : H l = none := hl
    have hl1 : (upd (upd H l (.lst [])) y (.ins a.C_Story dy (stoF l .non))) l = some (.lst []) := by rw [upd_ne ly, upd_same]
    -- state, seen
    refine ⟨_, rfl, ⟨⟨G, v, x, rfl, hp, M1.s, fun G2 H2 sv x2 s2 h2 => ?_⟩⟩⟩
    have M2 := M1.pure x2 s2
    intro kd hkd
    have k0 : H kd = none := M2.free hkd
    have hl2 := s2 _ _ hl1
    have hy2 := s2 _ _ (upd_same (H := upd H l (.lst [])) (a := y) (o := .ins a.C_Story dy (stoF l .non)))
    have kl : kd ≠ l := (ne_of_none hl2 hkd).symm
    have ky : kd ≠ y := (ne_of_none hy2 hkd).symm
    have M3 := M2.lay hkd (dNO P w kd [])
    refine ⟨_, _, rfl, ?_⟩
    refine ⟨fun m σ H' => ∃ (j : Nat) (G' : Hp) (sv : V) (xs : Ents) (vs : List V) (st : V), σ = [some (.ref y), some v, some sv, some (.ref kd)] ∧ Mv [y] G H G' H' ∧ G' y = none ∧ H' y = some (.ins a.C_Story dy (stoF l st)) ∧ H' l = some (.lst vs) ∧ G' l = none ∧
      TicksAt a K G' vs x j ∧ StateAt a K G' sv (sitAt x j) ∧ DK P w K G' H' kd xs ∧ Met x xs j (fun m => .int m) ∧ ((st = .non ∧ j ≤ n ∧ m = n + 1 - j) ∨ (st = .int i ∧ j = n ∧ m = 0)), ⟨n + 1, 0, G2, sv, [], [], .non, rfl, M3, ?_, ?_, ?_, ?_, ?_, h2, ?_, Met.nil, .inl ⟨rfl, Nat.zero_le _, rfl⟩⟩, ?_⟩
    · exact x2.out hyG upd_same
    · rw [upd_ne ky.symm]; exact hy2
    · rw [upd_ne kl.symm]; exact hl2
    · exact x2.out (Same.free hGH l0) hl1
    · exact ⟨rfl, fun j hj => by omega⟩
    · exact ⟨upd_same, M2.freeG hkd, fun _ h => nomatch h⟩
    rintro m σ H' ⟨j, G', sv, xs, vs, st, rfl, M, yG, hy', hl', lG, hts, hst, hK, hM, hcase⟩
    refine ⟨_, rfl, y, _, dy, _, st, rfl, hy', T.cl_Story, T.n_Story_start, (by kernel_rfl), rfl, _, rfl, ite2 (fun c => ?_) (fun c => ?_)⟩
    · have c' : st = .non := of_decide_eq_true c
      subst c'
      obtain ⟨hjn, hm⟩ : j ≤ n ∧ m = n + 1 - j := by
        rcases hcase with h | h
        · exact h.2
        · cases h.1
      have so := sitAt_ok hx j
      obtain ⟨sa, ds, sc, sn, sb, se, rfl, hsa, _⟩ := id hst
      refine ⟨fun σ' H' => _, fun σ' H' h => h, ?_⟩
      -- state.key in seen
      refine ⟨_, rfl, sa, ds, _, rfl, M.s _ _ hsa, ⟨⟨G', _, _, rfl, hst, M.s, fun G3 H3 u3 x3 s3 h3 => ?_⟩⟩⟩
      obtain ⟨p3, rfl, d3⟩ := h3
      have M3 := M.pure x3 s3
      have hK3 := hK.grow x3.g (fun o ho => s3 _ _ ho) (x3.out hK.out hK.at_)
      refine ⟨_, rfl, kd, p3, xs, _, _, rfl, rfl, hK3.dn M3.s, Dp.mono M3.s _ _ d3, nk_sit _, nk_depth _, _, rfl, ite2 (fun c => ?_) (fun c => ?_)⟩
      · have c' : nkOf (sitAt x j) ∈ xs.map (·.1) := of_decide_eq_true c
        have ej : j = n := cyc_found hc hjn ((hM.keys _).mp c')
        subst ej
        have hst3 := hst.mono x3.g
        -- self.start = seen[state.key]
        refine ⟨_, rfl, _, rfl, sa, ds, _, rfl, M3.s _ _ (x3.g _ _ hsa), ⟨⟨G3, _, _, rfl, hst3, M3.s, fun G4 H4 u4 x4 s4 h4 => ?_⟩⟩⟩
        obtain ⟨p4, rfl, d4⟩ := h4
        have M4 := M3.pure x4 s4
        have hK4 := hK3.grow x4.g (fun o ho => s4 _ _ ho) (x4.out hK3.out hK3.at_)
        obtain ⟨b, hb⟩ := hM.2 i hc.lt
        rw [hc.eq] at hb
        have hy4 := s4 _ _ (s3 _ _ hy')
        have yG3 := x3.out yG hy'
        have yG4 := x4.out yG3 (s3 _ _ hy')
        refine ⟨kd, p4, xs, _, _, rfl, rfl, hK4.dn M4.s, Dp.mono M4.s _ _ d4, nk_sit _, nk_depth _, List.mem_of_getElem? hb, ?_⟩
        refine ⟨_, rfl, y, _, dy, _, rfl, hy4, T.cl_Story, T.n_Story_start, (by show 2 < 1000; decide), ?_⟩
        rw [stoF_put]
        refine ⟨0, by omega, j, G4, .ref sa, xs, vs, .int i, rfl, M4.put (.inl (by simp)) yG4 _, yG4, upd_same, ?_, ?_, hts.mono (x3.g.trans x4.g), hst3.mono x4.g, ?_, hM, .inr ⟨rfl, rfl, rfl⟩⟩
        · rw [upd_ne ly]; exact s4 _ _ (s3 _ _ hl')
        · exact x4.out (x3.out lG hl') (s3 _ _ hl')
        · exact hK4.grow (Same.refl _) (fun o ho => by rw [upd_ne ky]; exact ho) hK4.out
      · have c' : nkOf (sitAt x j) ∉ xs.map (·.1) := fun z => c (decide_eq_true z)
        have hno := fun z => c' ((hM.keys _).mpr z)
        have hjlt : j < n := by
          rcases Nat.lt_or_ge j n with h | h
          · exact h
          · exfalso
            have ej : j = n := by omega
            subst ej
            exact hno ⟨i, hc.lt, hc.eq⟩
        have hl3 := s3 _ _ hl'
        have hy3 := s3 _ _ hy'
        -- the limit
        refine ⟨_, rfl, y, _, dy, _, .ref l, rfl, hy3, T.cl_Story, T.n_Story_ticks, (by kernel_rfl), l, _, rfl, .inl (SqL.of hl3), rfl, _, rfl, ite2 (fun c => ?_) (fun _ => ?_)⟩
        · exfalso
          have := of_decide_eq_true c
          injection this with this
          have := hts.1
          omega
        -- seen[state.key] = len(self.ticks)
        refine ⟨_, rfl, y, _, dy, _, .ref l, rfl, hy3, T.cl_Story, T.n_Story_ticks, (by kernel_rfl), l, _, rfl, .inl (SqL.of hl3), ?_⟩
        have hst3 := hst.mono x3.g
        refine ⟨_, rfl, _, rfl, sa, ds, _, rfl, M3.s _ _ (x3.g _ _ hsa), ⟨⟨G3, _, _, rfl, hst3, M3.s, fun G4 H4 u4 x4 s4 h4 => ?_⟩⟩⟩
        obtain ⟨p4, rfl, d4⟩ := h4
        have M4 := M3.pure x4 s4
        have hK4 := hK3.grow x4.g (fun o ho => s4 _ _ ho) (x4.out hK3.out hK3.at_)
        refine ⟨kd, p4, xs, _, _, rfl, rfl, hK4.dn M4.s, Dp.mono M4.s _ _ d4, nk_sit _, nk_depth _, c', small 20000 (by rw [hM.1]; omega) (by decide), ?_⟩
        rw [hts.1]
        have M5 := M4.put (l := kd) (.inr k0) hK4.out (dNO P w kd (xs ++ [(nkOf (sitAt x j), p4, .int j)]))
        have K5 := hK4.put (v := .int j) d4
        have yG4 := x4.out (x3.out yG hy') hy3
        have lG4 := x4.out (x3.out lG hl') hl3
        have hy5 : (upd H4 kd (dNO P w kd (xs ++ [(nkOf (sitAt x j), p4, .int j)]))) y = some (.ins a.C_Story dy (stoF l .non)) := by rw [upd_ne ky.symm]; exact s4 _ _ hy3
        have hl5 : (upd H4 kd (dNO P w kd (xs ++ [(nkOf (sitAt x j), p4, .int j)]))) l = some (.lst vs) := by rw [upd_ne kl.symm]; exact s4 _ _ hl3
        -- append
        refine ⟨_, rfl, y, _, dy, _, .ref l, rfl, hy5, T.cl_Story, T.n_Story_ticks, (by kernel_rfl), .inl ⟨rfl, _, SqL.of hl5⟩, ?_⟩
        refine ⟨_, rfl, _, rfl, ⟨⟨G4, v, .ref sa, x, _, rfl, hp.mono M5.g, hst3.mono x4.g, hx, so, M5.s, fun G6 H6 tv x6 s6 h6 => ?_⟩⟩⟩
        have M6 := M5.pure x6 s6
        have yG6 := x6.out yG4 hy5
        have lG6 := x6.out lG4 hl5
        have K6 := K5.grow x6.g (fun o ho => s6 _ _ ho) (x6.out K5.out K5.at_)
        refine ⟨l, vs, tv, rfl, rfl, s6 _ _ hl5, smaller 20000 (by rw [hts.1]; omega) (by decide), ?_⟩
        have M7 := M6.put (l := l) (.inr l0) lG6 (.lst (vs ++ [tv]))
        have hy7 : (upd H6 l (.lst (vs ++ [tv]))) y = some (.ins a.C_Story dy (stoF l .non)) := by rw [upd_ne ly.symm]; exact s6 _ _ hy5
        have K7 := K6.grow (Same.refl _) (H' := upd H6 l (.lst (vs ++ [tv]))) (fun o ho => by rw [upd_ne kl]; exact ho) K6.out
        obtain ⟨tk, dt, tw, su, rfl, htk, htw, hsu⟩ := id h6
        have hts7 := (hts.mono ((x3.g.trans x4.g).trans x6.g)).snoc h6
        -- state = self.ticks[-1].state
        have hix : atI (vs ++ [V.ref tk]) (-1) = some (.ref tk) := by
          have := ixN_last (n := vs.length)
          unfold atI
          rw [List.length_append, List.length_singleton, this]
          simp
        refine ⟨_, rfl, y, _, dy, _, .ref l, rfl, hy7, T.cl_Story, T.n_Story_ticks, (by kernel_rfl), _, rfl, l, _, _, .ref tk, rfl, rfl, SqL.of upd_same, hix, tk, _, dt, _, su, rfl, M7.s _ _ htk, T.cl_Tick, T.n_Tick_state, (by kernel_rfl), ?_⟩
        exact ⟨n + 1 - (j + 1), by omega, j + 1, G6, su, _, _, .non, rfl, M7, yG6, hy7, upd_same, lG6, hts7, hsu, K7, hM.snoc, .inl ⟨rfl, hjlt, rfl⟩⟩
    · rcases hcase with ⟨h, _⟩ | ⟨rfl, rfl, _⟩
      · exact absurd (decide_eq_true h) c
      · have M8 := M.freeze l0 hl'
        have g8 : Same G' (upd G' l (.lst vs)) := same_new lG
        exact k _ H' l vs M8 (by rw [upd_ne ly.symm]; exact yG) hy' (SqL.of upd_same) (hts.mono g8)
/-- Story(parsed) -/
theorem story_pre {G0 H0 G H : Hp} {v : V} {x : Pl} {y dy : Addr} (pt : Pt G0 H0 G H) (hp : PlanAt a K G v x) (ny : H y = none) (nd : H dy = none) (ne : dy ≠ y) :
    (upd G dy (.own y)) y = none ∧ Same (upd G dy (.own y)) (upd (upd H dy (.own y)) y (.ins a.C_Story dy [])) ∧ PlanAt a K (upd G dy (.own y)) v x := by
  have B1 := pt.new nd (.own y)
  have ny1 : (upd H dy (.own y)) y = none := by rw [upd_ne ne.symm]; exact ny
  have B2 := B1.lay ny1 (.ins a.C_Story dy [])
  exact ⟨B1.freeG ny1, B2.s, hp.mono (same_new (o := .own y) (pt.freeG nd))⟩
theorem story_post {G0 H0 G H G' H' : Hp} {x : Pl} {i n : Nat} {y dy l : Addr} {vs : List V} (pt : Pt G0 H0 G H) (ny : H y = none) (nd : H dy = none) (ne : dy ≠ y)
    (M : Mv [y] (upd G dy (.own y)) (upd (upd H dy (.own y)) y (.ins a.C_Story dy [])) G' H') (yG' : G' y = none) (hy' : H' y = some (.ins a.C_Story dy (stoF l (.int i)))) (hl : SqL K G' l vs) (ht : TicksAt a K G' vs x n) :
    ∃ G2, Pt G0 H0 G2 H' ∧ Same G G2 ∧ StoryAt a K G2 (.ref y) x i n := by
  have B1 := pt.new nd (.own y)
  have ny1 : (upd H dy (.own y)) y = none := by rw [upd_ne ne.symm]; exact ny
  have B2 := B1.lay ny1 (.ins a.C_Story dy [])
  have g1 := same_new (o := .own y) (pt.freeG nd)
  have y0 : H0 y = none := B1.free ny1
  have B3 : Pt G0 H0 G' H' := by
    refine ⟨B2.ext.trans M.ext, fun b o e => M.sm b o ?_⟩
    rw [wos_out (by intro hb; rw [List.mem_singleton.mp hb, y0] at e; cases e)]
    exact B2.sm b o e
  have B4 := B3.freeze y0 hy'
  have g4 : Same G' (upd G' y (.ins a.C_Story dy (stoF l (.int i)))) := same_new yG'
  exact ⟨_, B4, (g1.trans M.g).trans g4, y, dy, l, vs, rfl, upd_same, g4.seq hl, ht.mono g4⟩
end
end Sb

namespace Sb
open PySem PySem.Spec PyProof.Rows L2 TL
/-! ### what happens at a tick -/
def placeP (i n t : Nat) : Nat := if t < n then t else i + (t - i) % (n - i)
theorem place_lt {x : Pl} {i n t : Nat} (h : Cyc x i n) : placeP i n t < n := by
  unfold placeP
  have := h.lt
  split
  · assumption
  · have := Nat.mod_lt (t - i) (show n - i > 0 by omega)
    omega
theorem place_sit {x : Pl} {i n t : Nat} (h : Cyc x i n) : sitAt x (placeP i n t) = sitAt x t := by
  unfold placeP
  split
  · rfl
  · have := h.lt
    exact (sit_mod h.lt h.eq (by omega)).symm
theorem place_next {x : Pl} {i n t : Nat} (h : Cyc x i n) : sitAt x (placeP i n t + 1) = sitAt x (t + 1) := by
  show (tickP x (sitAt x (placeP i n t))).2 = (tickP x (sitAt x t)).2
  rw [place_sit h]
theorem place_words {x : Pl} {i n t : Nat} (h : Cyc x i n) : wordsAt x (placeP i n t) = wordsAt x t := by
  unfold wordsAt
  rw [place_sit h]
structure spSize (a : Ad) (K : PySem.W.Frag) (vs : List V) (H : Hp) (Q : VK) (E : XK) : Prop where
  ex : ∃ (v : V) (x : Pl) (i n : Nat), vs = [v] ∧ StoryAt a K H v x i n ∧ Q (.int ((n : Int) - (i : Int))) H
structure spCheckTick (vs : List V) (H : Hp) (Q : VK) (E : XK) : Prop where
  ex : ∃ t : Nat, vs = [.int t] ∧ t ≤ 1000000000000000000 ∧ Q .non H
theorem check_go {t : Nat} {H : Hp} {Q : VK} {E : XK} (h : t ≤ 1000000000000000000) (q : Q .non H) : spCheckTick [.int t] H Q E := ⟨⟨t, rfl, h, q⟩⟩
/-- a plan's text that loads, and comes round -/
structure Told (src : Str) (x : Pl) (i n : Nat) : Prop where
  ld : Loads src x
  ok : x.Ok
  cy : Cyc x i n
  le : n ≤ 20000
section
variable {P : Program} {w : World} {K : PySem.W.Frag} {mg : Str → Option Value} {base : Heap} {a : Ad}
theorem ok_Story_size (T : Txt K mg a) : FnOk P w K mg base CX0 1 a.f_Story_size a.d_Story_size ["self"] (spSize a K) := by
  refine T.F_Story_size.ok sc_Story_size (fun vs H Q E h => ?_) (fun cdv A outer s H vs Q E hr h => ?_)
  · obtain ⟨⟨v, x, i, n, rfl, _⟩⟩ := h
    rfl
  · obtain ⟨⟨v, x, i, n, rfl, ⟨y, dy, l, vs, rfl, hy, hl, ht⟩, k⟩⟩ := h
    refine ⟨_, (pss_one (ps_ret (pe_op op_sub (pe_callB call_len_seq (by rfl) T.z_len (by decide +kernel) (pa_cons (pe_fld (pv 0) rfl) pa_nil)) (pe_fld (pv 0) rfl)))), ?_⟩
    refine ⟨_, rfl, y, _, dy, _, .ref l, rfl, hy, T.cl_Story, T.n_Story_ticks, (by kernel_rfl), l, _, rfl, .inl hl, _, rfl, y, _, dy, _, .int i, rfl, hy, T.cl_Story, T.n_Story_start, (by kernel_rfl), _, _, rfl, rfl, ?_⟩
    dsimp only
    rw [ht.1]
    exact k
theorem ok_check_tick (T : Txt K mg a) : FnOk P w K mg base CX0 2 a.f_check_tick a.d_check_tick ["tick"] spCheckTick := by
  refine T.F_check_tick.ok sc_check_tick (fun vs H Q E h => ?_) (fun cdv A outer s H vs Q E hr h => ?_)
  · obtain ⟨⟨t, rfl, _⟩⟩ := h
    rfl
  · obtain ⟨⟨t, rfl, ht, k⟩⟩ := h
    refine ⟨_, (pss_one (ps_if (pt_not (pt_val (pe_call (ok_is_int_in T) (hr.mono (by decide)) rfl T.m_is_int_in T.F_is_int_in.kp (b_is_int_in T) .nil pass0 (pa_cons (pv 0) (pa_cons pe_int (pa_cons (pe_glob (v := V.int 1000000000000000000) rfl T.c_MAX_TICK ⟨_, rfl⟩) pa_nil)))))) pss_never pss_nil)), ?_⟩
    exact ⟨_, rfl, isint_go (by omega) (by omega) ⟨_, rfl, ite_f rfl k⟩⟩
end
end Sb

namespace Sb
open PySem PySem.Spec PyProof.Rows L2
/-! ### sums over ticks -/
def cntF (f : Nat → Nat) (t : Nat) : Nat := ((List.range t).map f).sum
theorem cntF_succ (f : Nat → Nat) (t : Nat) : cntF f (t + 1) = cntF f t + f t := by
  unfold cntF
  rw [List.range_succ, List.map_append, List.sum_append]
  simp
theorem cntF_mono (f : Nat → Nat) (a k : Nat) : cntF f a ≤ cntF f (a + k) := by
  induction k with
  | zero => exact Nat.le_refl _
  | succ k ih => rw [show a + (k + 1) = (a + k) + 1 by omega, cntF_succ]; omega
theorem cntF_shift {f : Nat → Nat} {i p : Nat} (h : ∀ t, i ≤ t → f (t + p) = f t) (k : Nat) : cntF f (i + k + p) = cntF f (i + k) + (cntF f (i + p) - cntF f i) := by
  induction k with
  | zero =>
    have := cntF_mono f i p
    show cntF f (i + p) = cntF f i + _
    omega
  | succ k ih =>
    rw [show i + (k + 1) + p = (i + k + p) + 1 by omega, cntF_succ, ih, show i + (k + 1) = (i + k) + 1 by omega, cntF_succ, h (i + k) (by omega)]
    omega
theorem cntF_rounds {f : Nat → Nat} {i p : Nat} (h : ∀ t, i ≤ t → f (t + p) = f t) (q r : Nat) : cntF f (i + q + r * p) = cntF f (i + q) + r * (cntF f (i + p) - cntF f i) := by
  induction r with
  | zero => simp
  | succ r ih =>
    have := cntF_shift h (q + r * p)
    rw [show i + q + (r + 1) * p = i + (q + r * p) + p by rw [Nat.succ_mul]; omega, this, show i + (q + r * p) = i + q + r * p by omega, ih, Nat.succ_mul]
    omega
/-- by the tick at the beginning, and what is left of a round -/
theorem cntF_far {f : Nat → Nat} {i n t : Nat} (h : ∀ t, i ≤ t → f (t + (n - i)) = f t) (hin : i < n) (ht : i ≤ t) : cntF f t = cntF f (i + (t - i) % (n - i)) + ((t - i) / (n - i)) * (cntF f n - cntF f i) := by
  have e := cntF_rounds h ((t - i) % (n - i)) ((t - i) / (n - i))
  rw [show i + (n - i) = n by omega] at e
  rw [← e]
  congr 1
  have := Nat.div_add_mod (t - i) (n - i)
  rw [Nat.mul_comm] at this
  omega
theorem take_range {α : Type} (f : Nat → α) {n k : Nat} (h : k ≤ n) : ((List.range n).map f).take k = (List.range k).map f := by
  rw [← List.map_take, List.take_range, Nat.min_eq_left h]
theorem sum_drop (f : Nat → Nat) {n i : Nat} (h : i ≤ n) : (((List.range n).map f).drop i).sum = cntF f n - cntF f i := by
  have e : ((List.range n).map f).sum = (((List.range n).map f).take i).sum + (((List.range n).map f).drop i).sum := by
    rw [← List.sum_append, List.take_append_drop]
  rw [take_range f h] at e
  unfold cntF
  omega
theorem range_more {α : Type} (f : Nat → α) (j : Nat) : (List.range (j + 1)).map f = (List.range j).map f ++ [f j] := by rw [List.range_succ, List.map_append]; rfl
theorem filt_succ (f : Nat → Bool) (j : Nat) : (List.range (j + 1)).filter f = (List.range j).filter f ++ (if f j = true then [j] else []) := by
  rw [List.range_succ, List.filter_append]
  congr 1
  by_cases h : f j = true
  · rw [if_pos h, List.filter_cons_of_pos h]; rfl
  · rw [if_neg h, List.filter_cons_of_neg h]; rfl
theorem int_sum (l : List Nat) : (l.map fun n : Nat => (n : Int)).sum = ((l.sum : Nat) : Int) := by
  induction l with
  | nil => rfl
  | cons a l ih => simp only [List.map_cons, List.sum_cons, ih]; push_cast; rfl
/-- from the start i on what is done comes again -/
theorem words_per {x : Pl} {i n : Nat} (h : Cyc x i n) (t : Nat) (ht : i ≤ t) : (tickP x (sitAt x (t + (n - i)))).1 = (tickP x (sitAt x t)).1 := by
  have lt := h.lt
  have e : sitAt x i = sitAt x (i + (n - i)) := by rw [h.eq]; congr 1; omega
  have := sit_shift e (t - i)
  rw [show i + (t - i) = t by omega, show i + (n - i) + (t - i) = t + (n - i) by omega] at this
  rw [this]
end Sb

namespace Sb
open PySem PySem.Spec PyProof.Rows L2 TL LamX
theorem cutL_hi {xs : List V} {i : Nat} (h : i ≤ xs.length) : cutV xs none (some (i : Int)) = xs.take i := by
  unfold cutV
  rw [HT.sIx_none, HT.sIx_nat, List.drop_zero, Nat.sub_zero, Nat.min_eq_left h]
theorem cutL_lo {xs : List V} {i : Nat} (h : i ≤ xs.length) : cutV xs (some (i : Int)) none = xs.drop i := by
  unfold cutV
  rw [HT.sIx_none, HT.sIx_nat, Nat.min_eq_left h]
  exact List.take_of_length_le (by rw [List.length_drop]; omega)
theorem nV_int (l : List Nat) : nV l = (l.map fun n : Nat => (n : Int)).map V.int := by rw [List.map_map]; rfl
/-- a number of each tick, by what is done in it -/
abbrev phiAt (x : Pl) (φ : Nat × Nat → Nat) (j : Nat) : Nat := φ (wordsAt x j)
theorem phi_per {x : Pl} {i n : Nat} {φ : Nat × Nat → Nat} (h : Cyc x i n) (t : Nat) (ht : i ≤ t) : phiAt x φ (t + (n - i)) = phiAt x φ t := by
  unfold phiAt wordsAt
  rw [words_per h t ht]
theorem cntF_le {f : Nat → Nat} (h : ∀ j, f j ≤ 1) (t : Nat) : cntF f t ≤ t := by
  induction t with
  | zero => exact Nat.le_refl _
  | succ t ih => rw [cntF_succ]; have := h t; omega
def TickR (a : Ad) (K : PySem.W.Frag) (S : List Addr) (φ : Nat × Nat → Nat) : V → Hp → V → Prop := fun v H z => ∃ w s, TickAt a K (cut S H) v w s ∧ z = .int (φ w)
structure spCount (P : Program) (w : World) (mg : Str → Option Value) (base : Heap) (a : Ad) (K : PySem.W.Frag) (vs : List V) (H : Hp) (Q : VK) (E : XK) : Prop where
  ex : ∃ (G : Hp) (v : V) (x : Pl) (i n t : Nat) (f : Addr) (D : Hp → Prop) (φ : Nat × Nat → Nat) (S : List Addr), vs = [v, .int t, .ref f] ∧ StoryAt a K G v x i n ∧ Cyc x i n ∧ n ≤ 20000 ∧ t ≤ 1000000000000000000 ∧ (∀ w, φ w ≤ 1) ∧ Same G H ∧ (∀ b ∈ S, G b = none ∧ H b ≠ none) ∧
    Lam1 P w K mg base 2 f D (TickR a K S φ) ∧ D H ∧ (∀ H', Same H H' → D H') ∧ ∀ G' H', Ext G H G' H' → Same H H' → Q (.int (cntF (phiAt x φ) t : Nat)) H'
section
variable {P : Program} {w : World} {K : PySem.W.Frag} {mg : Str → Option Value} {base : Heap} {a : Ad}
theorem ok_Story_count (T : Txt K mg a) : FnOk P w K mg base CX0 4 a.f_Story_count a.d_Story_count ["self", "ticks", "measure"] (spCount P w mg base a K) := by
  refine T.F_Story_count.ok sc_Story_count (fun vs H Q E h => ?_) (fun cdv A outer s H vs Q E hr h => ?_)
  · obtain ⟨⟨G, v, x, i, n, t, f, D, φ, S, rfl, _⟩⟩ := h
    rfl
  · obtain ⟨⟨G, v, x, i, n, t, f, D, φ, S, rfl, hS, hc, hn, ht18, h1, hGH, hSG, hL, hD, hDm, k⟩⟩ := h
    refine ⟨_, (pss_cons (ps_setLc (i := 3) (own := [("one", 4)]) (g := gName 4) (te := (tCallM P w K mg base 2 2 (tCons (tVar 4) tNil))) (tt := tYes) rfl sc_Story_count.nd rfl rfl (sw_true rfl rfl rfl (by decide +kernel)) (pi_list (pe_fld (pv 0) rfl)) (blkOk_by (own := [("one", 4)]) (N := ["self", "ticks", "measure", "known", "one", "rounds", "rest"]) (sc := (defScope s_Story_count)) (by decide +kernel)) (fun _ _ _ _ _ => (pg_name (i := 4) sc_Story_count.nd rfl (Or.inl rfl))) (fun _ _ _ _ _ => pts_nil) (fun _ _ _ _ _ => by exact (pe_callM (i := 2) (k := 2) (hr.mono (by decide)) rfl (by first | exact Or.inl rfl | exact Or.inr (Or.inl rfl) | exact Or.inr (Or.inr rfl)) (pa_cons (pv 4) pa_nil))))
      (pss_cons (ps_if (pt_cmpR op_le (pv 1) (pe_callB call_len_seq (by rfl) T.z_len (by decide +kernel) (pa_cons (pv 3) pa_nil)) (nomark _)) (pss_one (ps_ret (pe_callB (cr_sum rfl) (by rfl) T.z_sum (by decide +kernel) (pa_cons (pe_slice sl_list (pv 3) po_none (po_some (pv 1))) pa_nil)))) pss_nil)
      (pss_cons (ps_asg (pe_callB call_divmod (by rfl) T.z_divmod (by decide +kernel) (pa_cons (pe_op op_sub (pv 1) (pe_fld (pv 0) rfl)) (pa_cons (pe_prop (pv 0) T.cl_Story T.P_Story_size (ok_Story_size T) (hr.mono (by decide)) (b_Story_size T) .nil pass0 rfl) pa_nil))) (pg_tup (by rfl) (pgs_cons (pg_name (i := 5) sc_Story_count.nd rfl (Or.inl rfl)) (pgs_cons (pg_name (i := 6) sc_Story_count.nd rfl (Or.inl rfl)) pgs_nil))))
      (pss_one (ps_ret (pe_op op_add (pe_callB (cr_sum rfl) (by rfl) T.z_sum (by decide +kernel) (pa_cons (pe_slice sl_list (pv 3) po_none (po_some (pe_op op_add (pe_fld (pv 0) rfl) (pv 6)))) pa_nil)) (pe_op op_mul (pv 5) (pe_callB (cr_sum rfl) (by rfl) T.z_sum (by decide +kernel) (pa_cons (pe_slice sl_list (pv 3) (po_some (pe_fld (pv 0) rfl)) po_none) pa_nil))))))))), ?_⟩
    have hS' := hS.mono hGH
    obtain ⟨y, dy, l, vs, rfl, hy, hl, ht⟩ := hS
    have lt := hc.lt
    have hy' := hGH _ _ hy
    -- known
    refine ⟨_, rfl, y, _, dy, _, .ref l, rfl, hy', T.cl_Story, T.n_Story_ticks, (by kernel_rfl), l, rfl, ⟨_, hGH.seq hl⟩, fun E1 hE1 => ?_⟩
    have E0' : G E1 = none := Same.free hGH hE1
    refine lc_list (K := K) (a := l) (xs := vs) (fun j H' => Pt G H G H' ∧ H' E1 = some (.lst (nV ((List.range j).map (phiAt x φ))))) ⟨(Pt.start hGH).lay hE1 _, upd_same⟩ (fun j H' _ ⟨p1, _⟩ => p1.s.seq hl) ?_ ?_
    · rintro j u H' hu ⟨p1, hE'⟩
      have hj : j < n := by rw [← ht.1]; exact (List.getElem?_eq_some_iff.mp hu).1
      obtain ⟨u', hu', hT⟩ := ht.2 j hj
      rw [hu] at hu'
      cases hu'
      have sm : Same H H' := p1.sm
      have gc : Same G (cut S H') := fun b o e => by
        have nb : b ∉ S := fun z => by rw [(hSG b z).1] at e; cases e
        rw [cut_out nb]
        exact p1.s _ _ e
      refine ⟨rfl, f, D, TickR a K S φ, hL, rfl, hDm H' sm, _, rfl, u, rfl, hDm H' sm, _, ⟨_, _, hT.mono gc, rfl⟩, _, hE', smaller 20000 ?_ (by decide), p1.put hE1 E0' _, ?_⟩
      · rw [List.length_map, List.length_map, List.length_range]; omega
      · rw [upd_same, range_more, nV, nV, List.map_append]
        rfl
    rintro H1 ⟨p1, hE'⟩
    rw [ht.1] at hE'
    have hkn : (nV ((List.range n).map (phiAt x φ))).length = n := by rw [List.length_map, List.length_map, List.length_range]
    -- ticks <= len(known)
    refine ⟨_, rfl, _, rfl, E1, _, rfl, .inl (SqL.of hE'), _, _, rfl, rfl, _, rfl, ?_⟩
    rw [hkn]
    refine ite2 (fun c => ?_) (fun c => ?_)
    · have c' : t ≤ n := by have := of_decide_eq_true c; omega
      refine ⟨_, rfl, _, rfl, _, rfl, E1, _, rfl, SqL.of hE', fun q hq => ?_⟩
      rw [cutL_hi (by rw [hkn]; exact c'), nV, ← List.map_take, take_range _ c', ← nV] at *
      have p2 := p1.lay hq (.lst (nV ((List.range t).map (phiAt x φ))))
      refine ⟨q, ((List.range t).map (phiAt x φ)).map (fun n : Nat => (n : Int)), rfl, by rw [← nV_int]; exact SqL.of upd_same, ?_⟩
      rw [int_sum]
      exact k _ _ p2.ext p2.sm
    · have c' : ¬ t ≤ n := fun z => c (decide_eq_true (by omega))
      have hy1 := p1.sm _ _ hy'
      -- divmod
      refine ⟨_, rfl, _, rfl, y, _, dy, _, .int i, rfl, hy1, T.cl_Story, T.n_Story_start, (by kernel_rfl), _, _, rfl, rfl, _, rfl, y, dy, _, rfl, hy1, ⟨⟨_, x, i, n, rfl, hS'.mono p1.sm, ?_⟩⟩⟩
      refine ⟨_, _, rfl, ⟨by show (0 : Int) < (n : Int) - (i : Int); omega, by show (n : Int) - (i : Int) < 1073741824; omega⟩, fun q hq => ?_⟩
      have p2 := p1.lay hq (.tup [.int (((t : Int) - (i : Int)) / ((n : Int) - (i : Int))), .int (((t : Int) - (i : Int)) % ((n : Int) - (i : Int)))])
      refine ⟨q, _, rfl, SqT.of upd_same, rfl, _, _, rfl, _, _, rfl, rfl, ?_⟩
      have hE2 : (upd H1 q (.tup [.int (((t : Int) - (i : Int)) / ((n : Int) - (i : Int))), .int (((t : Int) - (i : Int)) % ((n : Int) - (i : Int)))])) E1 = some (.lst (nV ((List.range n).map (phiAt x φ)))) := by rw [upd_ne (ne_of_none hE' hq)]; exact hE'
      have e1 : ((t : Int) - (i : Int)) / ((n : Int) - (i : Int)) = (((t - i) / (n - i) : Nat) : Int) := by
        rw [show (t : Int) - (i : Int) = ((t - i : Nat) : Int) by omega, show (n : Int) - (i : Int) = ((n - i : Nat) : Int) by omega]; push_cast; rfl
      have e2 : ((t : Int) - (i : Int)) % ((n : Int) - (i : Int)) = (((t - i) % (n - i) : Nat) : Int) := by
        rw [show (t : Int) - (i : Int) = ((t - i : Nat) : Int) by omega, show (n : Int) - (i : Int) = ((n - i : Nat) : Int) by omega]; push_cast; rfl
      have hy2 := p2.sm _ _ hy'
      have hmod := Nat.mod_lt (t - i) (show n - i > 0 by omega)
      -- the sums
      refine ⟨_, rfl, _, rfl, y, _, dy, _, .int i, rfl, hy2, T.cl_Story, T.n_Story_start, (by kernel_rfl), _, rfl, _, _, rfl, rfl, _, rfl, E1, _, rfl, SqL.of hE2, fun q2 hq2 => ?_⟩
      have e3 : (i : Int) + ((t : Int) - (i : Int)) % ((n : Int) - (i : Int)) = ((i + (t - i) % (n - i) : Nat) : Int) := by rw [e2]; push_cast; rfl
      have e4 : cutV (nV ((List.range n).map (phiAt x φ))) none (some ((i : Int) + ((t : Int) - (i : Int)) % ((n : Int) - (i : Int)))) = nV ((List.range (i + (t - i) % (n - i))).map (phiAt x φ)) := by
        rw [e3, cutL_hi (by rw [hkn]; omega), nV, ← List.map_take, take_range _ (by omega)]
      dsimp only
      rw [e4]
      have p3 := p2.lay hq2 (.lst (nV ((List.range (i + (t - i) % (n - i))).map (phiAt x φ))))
      refine ⟨q2, ((List.range (i + (t - i) % (n - i))).map (phiAt x φ)).map (fun n : Nat => (n : Int)), rfl, by rw [← nV_int]; exact SqL.of upd_same, ?_⟩
      rw [int_sum]
      have hE3 : (upd (upd H1 q (.tup [.int (((t : Int) - (i : Int)) / ((n : Int) - (i : Int))), .int (((t : Int) - (i : Int)) % ((n : Int) - (i : Int)))])) q2 (.lst (nV ((List.range (i + (t - i) % (n - i))).map (phiAt x φ))))) E1 = some (.lst (nV ((List.range n).map (phiAt x φ)))) := by rw [upd_ne (ne_of_none hE2 hq2)]; exact hE2
      refine ⟨_, rfl, _, rfl, _, rfl, y, _, dy, _, .int i, rfl, p3.sm _ _ hy', T.cl_Story, T.n_Story_start, (by kernel_rfl), _, rfl, E1, _, rfl, SqL.of hE3, fun q3 hq3 => ?_⟩
      have e5 : cutV (nV ((List.range n).map (phiAt x φ))) (some (i : Int)) none = nV (((List.range n).map (phiAt x φ)).drop i) := by
        rw [cutL_lo (by rw [hkn]; omega), nV, nV, List.map_drop]
      rw [e5]
      have p4 := p3.lay hq3 (.lst (nV (((List.range n).map (phiAt x φ)).drop i)))
      refine ⟨q3, (((List.range n).map (phiAt x φ)).drop i).map (fun n : Nat => (n : Int)), rfl, by rw [← nV_int]; exact SqL.of upd_same, ?_⟩
      rw [int_sum, sum_drop _ (by omega)]
      have hdv : (t - i) / (n - i) ≤ 1000000000000000000 := Nat.le_trans (Nat.div_le_self _ _) (by omega)
      have hcn := cntF_le (f := phiAt x φ) (fun j => h1 _) n
      refine ⟨_, _, rfl, rfl, ?_, ?_⟩
      · rw [e1]
        revert hdv
        generalize (t - i) / (n - i) = z
        intro hdv
        exact .inl ⟨by omega, by omega⟩
      refine ⟨_, _, rfl, rfl, ?_⟩
      have far := cntF_far (f := phiAt x φ) (t := t) (fun t h => phi_per hc t h) lt (by omega)
      have e6 : ((((List.range (i + (t - i) % (n - i))).map (phiAt x φ)).sum : Nat) : Int) + ((t : Int) - (i : Int)) / ((n : Int) - (i : Int)) * ((cntF (phiAt x φ) n - cntF (phiAt x φ) i : Nat) : Int) = ((cntF (phiAt x φ) t : Nat) : Int) := by
        rw [e1, far]
        show ((cntF (phiAt x φ) (i + (t - i) % (n - i)) : Nat) : Int) + _ = _
        push_cast
        rfl
      dsimp only
      rw [e6]
      exact k _ _ p4.ext p4.sm
end
end Sb

namespace Sb
open PySem PySem.Spec PyProof.Rows L2 TL LamX NdefX
structure spCheckRobot (vs : List V) (H : Hp) (Q : VK) (E : XK) : Prop where
  ex : ∃ t : Nat, vs = [.int t] ∧ t < 2 ∧ Q .non H
theorem robot_go {t : Nat} {H : Hp} {Q : VK} {E : XK} (h : t < 2) (q : Q .non H) : spCheckRobot [.int t] H Q E := ⟨⟨t, rfl, h, q⟩⟩
theorem key_uniq {l : List (Addr × Str)} (nd : (l.map (·.1)).Nodup) {p q : Addr × Str} (h : p ∈ l) (h' : q ∈ l) (e : p.1 = q.1) : p = q := by
  induction l with
  | nil => cases h
  | cons x r ih =>
    rw [List.map_cons, List.nodup_cons] at nd
    rcases List.mem_cons.mp h with e1 | h1 <;> rcases List.mem_cons.mp h' with e2 | h2
    · rw [e1, e2]
    · exact (nd.1 (List.mem_map.mpr ⟨q, h2, by rw [← e, e1]⟩)).elim
    · exact (nd.1 (List.mem_map.mpr ⟨p, h1, by rw [e, e2]⟩)).elim
    · exact ih nd.2 h1 h2
/-- what the robot of a number does -/
def wdN (w : Nat × Nat) (num : Nat) : Nat := if num = 0 then w.1 else w.2
def phiS (num : Nat) (word : Str) (w : Nat × Nat) : Nat := if doS (wdN w num) = word then 1 else 0
/-! ### behind a lambda and the call that got it -/
theorem lam_post {T : List (Addr × Str)} {P : Addr} {tb : List Addr} {G H G2 H2 H3 H4 G' H' : Hp} {cells : List (Addr × Obj)} (B : Pt G H G2 H2) (hP : P ∈ tb) (hPG : G2 P = none) (h3 : ∀ b o, b ≠ P → H2 b = some o → H3 b = some o) (nn : ∀ b, H3 b = none → H2 b = none) (t3 : Tabs T H3) (tr : Trk cells H3 H4)
    (e : Ext G2 H4 G' H') (sm : Same H4 H') : Ext G H G' (cut (cells.map (·.1)) H') ∧ Same (wos tb H) (cut (cells.map (·.1)) H') ∧ Tabs T (cut (cells.map (·.1)) H') := by
  have up : ∀ b o, H3 b = some o → cut (cells.map (·.1)) H' b = some o := fun b o q => by
    have nb : b ∉ cells.map (·.1) := fun z => by rw [(tr.none z).1] at q; cases q
    rw [cut_out nb]
    exact sm _ _ (by rw [tr.out b nb]; exact q)
  have inS : ∀ b, b ∈ cells.map (·.1) → H b = none := fun b z => B.ext.k _ (nn b (tr.none z).1)
  refine ⟨⟨B.g.trans e.g, fun b o q => ?_, fun b o q => ?_, fun b q => ?_⟩, fun b o q => ?_, t3.ext up⟩
  · have nb : b ∉ cells.map (·.1) := fun z => by
      obtain ⟨z1, o', z2⟩ := tr.none z
      rcases e.n b o q with q1 | q1
      · have : H2 b = some o := B.s _ _ q1
        rw [nn b z1] at this; cases this
      · rw [z2] at q1; cases q1
    rw [cut_out nb]
    exact e.h _ _ q
  · rcases e.n b o q with q1 | q1
    · exact B.ext.n b o q1
    · refine .inr (B.ext.k b (nn b ?_))
      by_cases z : b ∈ cells.map (·.1)
      · exact (tr.none z).1
      · rw [← tr.out b z]; exact q1
  · by_cases z : b ∈ cells.map (·.1)
    · exact inS b z
    · rw [cut_out z] at q
      have := e.k b q
      rw [tr.out b z] at this
      exact B.ext.k b (nn b this)
  · obtain ⟨nb, q⟩ := wos_some q
    exact up b o (h3 b o (fun z => nb (by rw [z]; exact hP)) (B.sm _ _ q))
/-- .. and ahead of it -/
theorem lam_pre {P : Addr} {G2 H2 H3 H4 : Hp} {cells : List (Addr × Obj)} (s2 : Same G2 H2) (hPG : G2 P = none) (h3 : ∀ b o, b ≠ P → H2 b = some o → H3 b = some o) (nn : ∀ b, H3 b = none → H2 b = none) (tr : Trk cells H3 H4) :
    Same G2 H4 ∧ ∀ b ∈ cells.map (·.1), G2 b = none ∧ H4 b ≠ none := by
  refine ⟨fun b o q => ?_, fun b z => ?_⟩
  · have q3 := h3 b o (fun z => by rw [z, hPG] at q; cases q) (s2 _ _ q)
    rw [tr.out b fun z => by rw [(tr.none z).1] at q3; cases q3]
    exact q3
  · obtain ⟨z1, o, z2⟩ := tr.none z
    refine ⟨?_, by rw [z2]; exact Option.some_ne_none _⟩
    cases q : G2 b with
    | none => rfl
    | some u =>
      have := s2 _ _ q
      rw [nn b z1] at this; cases this
theorem phiS_le {num : Nat} {word : Str} : ∀ w, phiS num word w ≤ 1 := fun w => by unfold phiS; split <;> decide
structure spCountD (a : Ad) (K : PySem.W.Frag) (vs : List V) (H : Hp) (Q : VK) (E : XK) : Prop where
  ex : ∃ (src word : Str) (G : Hp) (x : Pl) (i n num t : Nat), vs = [.str src, .int num, .str word, .int t] ∧ Told src x i n ∧ num < 2 ∧ t ≤ 1000000000000000000 ∧ Same G H ∧ (∀ b ∈ tbs a, G b = none) ∧ Tabs (Ts a) H ∧
    ∀ G' H', Ext G H G' H' → Same (wos (tbs a) H) H' → Tabs (Ts a) H' → Q (.int (cntF (phiAt x (phiS num word)) t : Nat)) H'
theorem wd_at {w : Nat × Nat} {num : Nat} (h : num < 2) : ([V.str (doS w.1), V.str (doS w.2)] : List V)[num]? = some (.str (doS (wdN w num))) := by
  match num, h with
  | 0, _ => rfl
  | 1, _ => rfl
theorem lamD_mono {f c' : Addr} {q : Str} {o : Obj} {cells : List (Addr × Obj)} {H H' : Hp} (s : Same H H') (h : LamD f c' q o cells H) : LamD f c' q o cells H' := ⟨s _ _ h.1, s _ _ h.2.1, fun p hp => s _ _ (h.2.2 p hp)⟩
section
variable {P : Program} {w : World} {K : PySem.W.Frag} {mg : Str → Option Value} {base : Heap} {a : Ad}
theorem ok_check_robot (T : Txt K mg a) : FnOk P w K mg base CX0 2 a.f_check_robot a.d_check_robot ["number"] spCheckRobot := by
  refine T.F_check_robot.ok sc_check_robot (fun vs H Q E h => ?_) (fun cdv A outer s H vs Q E hr h => ?_)
  · obtain ⟨⟨t, rfl, _⟩⟩ := h
    rfl
  · obtain ⟨⟨t, rfl, ht, k⟩⟩ := h
    refine ⟨_, (pss_one (ps_if (pt_not (pt_val (pe_call (ok_is_int_in T) (hr.mono (by decide)) rfl T.m_is_int_in T.F_is_int_in.kp (b_is_int_in T) .nil pass0 (pa_cons (pv 0) (pa_cons pe_int (pa_cons pe_int pa_nil)))))) pss_never pss_nil)), ?_⟩
    exact ⟨_, rfl, isint_go (by omega) (by omega) ⟨_, rfl, ite_f rfl k⟩⟩
theorem ok_count_done (T : Txt K mg a) (TB : Tbl mg base a) : FnOk P w K mg base CX0 10 a.f_count_done a.d_count_done ["plan", "number", "word", "ticks"] (spCountD a K) := by
  refine fun_okC T.F_count_done T.ce_count_done sc_count_done (fun vs H Q E h => ?_) (fun A outer s H vs Q E hr h => ?_)
  · obtain ⟨⟨src, word, G, x, i, n, num, t, rfl, _⟩⟩ := h
    rfl
  · obtain ⟨⟨src, word, G, x, i, n, num, t, rfl, ⟨ld, ok, cy, le⟩, hnum, ht, hGH, hGT, hT, k⟩⟩ := h
    have hu_count_done : ∀ p ∈ Ts a, p.1 = a.tb_count_done → p.2 = Str.ofString "count_done" ++ ".<locals>." ++ "<lambda>" := fun p hp e => by
      have nd := T.tnd
      have hp0 := hp
      simp only [Ts, List.mem_cons, List.not_mem_nil, or_false] at hp
      first
        | exact congrArg Prod.snd (key_uniq (l := Ts a) T.tnd hp0 (show (a.tb_count_done, Str.ofString "count_done" ++ ".<locals>." ++ "<lambda>") ∈ Ts a from by first | exact List.mem_cons_of_mem _ List.mem_cons_self | exact List.mem_cons_self) e)
        | (subst hp; rfl)
        | (rcases hp with rfl | rfl
           · simp only [List.nodup_cons, List.mem_singleton] at nd
             exact absurd e nd.1
           · rfl)
    refine ⟨_, (pss_cons (ps_set (i := 4) sc_count_done.nd rfl (Or.inl rfl) (pe_call (ok_load T) (hr.mono (by decide)) rfl T.m_load T.F_load.kp (b_load T) .nil pass0 (pa_cons (pv 0) pa_nil)))
      (pss_cons (ps_expr (pe_call (ok_check_robot T) (hr.mono (by decide)) rfl T.m_check_robot T.F_check_robot.kp (b_check_robot T) .nil pass0 (pa_cons (pv 1) pa_nil)))
      (pss_cons (ps_expr (pe_call (ok_check_tick T) (hr.mono (by decide)) rfl T.m_check_tick T.F_check_tick.kp (b_check_tick T) .nil pass0 (pa_cons (pv 3) pa_nil)))
      (pss_one (ps_ret (pe_methT (scope := lamScope lam_count_done) (fr := ["word", "number"]) (js := [2, 1]) (pe_make T.mk_Story (ok_Story_init T) (hr.mono (by decide)) (by rfl) T.m_Story (b_Story_init T) .nil pass0 (pa_cons (pv 4) pa_nil)) T.cl_Story T.M_Story_count (ok_Story_count T) (hr.mono (by decide)) (b_Story_count T) (pa_cons (pv 3) (pa_cons (pe_lamV (T := Ts a) TB.t_count_done rfl (by first | exact List.mem_cons_self | exact List.mem_cons_of_mem _ List.mem_cons_self | exact List.mem_cons_of_mem _ (List.mem_cons_of_mem _ List.mem_cons_self)) hu_count_done rfl (NdefX.ndef_free (sc := defScope s_count_done) (nsc := lamScope lam_count_done) (fr := ["word", "number"]) (by decide +kernel))) pa_nil)) (fun _ => rfl) (NdefX.ndef_free (sc := defScope s_count_done) (nsc := lamScope lam_count_done) (fr := ["word", "number"]) (by decide +kernel)) (NdefX.ndef_fr (sc := defScope s_count_done) (nsc := lamScope lam_count_done) (fr := ["word", "number"]) (by decide +kernel)) rfl)))))), ?_⟩
    refine ⟨_, rfl, ⟨⟨src, G, x, rfl, ld, ok, hGH, fun G1 H1 v1 x1 s1 h1 => ?_⟩⟩⟩
    have B1 := (Pt.start hGH).call x1 s1
    refine ⟨_, rfl, robot_go hnum ?_⟩
    refine ⟨_, rfl, check_go ht ?_⟩
    refine ⟨_, rfl, ?_⟩
    intro y dy ny nd ne
    obtain ⟨yG, sS, hp2⟩ := story_pre B1 h1 ny nd ne
    refine ⟨⟨y, dy, _, _, x, i, n, rfl, upd_same, yG, sS, hp2, ok, cy, le, fun G' H2 l0 vs0 M yG' hy' hl0 ht0 => ⟨rfl, ?_⟩⟩⟩
    obtain ⟨G2, B2, S2, hS⟩ := story_post B1 ny nd ne M yG' hy' hl0 ht0
    obtain ⟨y', dy2, l, vs, eY, hy, hl, hts⟩ := id hS
    cases eY
    have hPG : G2 a.tb_count_done = none := by
      obtain ⟨ps, e1, _⟩ := hT (a.tb_count_done, Str.ofString "count_done" ++ ".<locals>." ++ "<lambda>") (by first | exact List.mem_cons_of_mem _ List.mem_cons_self | exact List.mem_cons_self)
      exact B2.ext.out (hGT _ (by simp [tbs])) e1
    refine ⟨y, dy2, _, rfl, B2.s _ _ hy, (by kernel_rfl), _, rfl, hT.ext B2.sm, fun f c' pm ctv H3 h3 nn t3 f0 f1 c1 cells H4 cap tr => ?_⟩
    obtain ⟨gH4, gS⟩ := lam_pre B2.s hPG h3 nn tr
    have nS : ∀ {b : Addr} {o : HO}, H3 b = some o → b ∉ cells.map (·.1) := fun {b o} e z => by rw [(tr.none z).1] at e; cases e
    refine ⟨⟨G2, .ref y, x, i, n, t, f, _, phiS num word, cells.map (·.1), rfl, hS, cy, le, ht, phiS_le, gH4, gS, lam1_of (x := "one") (scope := lamScope lam_count_done) (N := ["one", "word", "number"]) (S := nscope_by (by decide +kernel)) (fun u => rfl) cap ?L, ⟨by rw [tr.out f (nS f1)]; exact f1, by rw [tr.out c' (nS c1)]; exact c1, tr.at_⟩, fun H' s => lamD_mono s ⟨by rw [tr.out f (nS f1)]; exact f1, by rw [tr.out c' (nS c1)]; exact c1, tr.at_⟩, fun G' H' e sm => ?_⟩⟩
    case L =>
      rintro A1 outer1 s1 H1 v z hr1 ⟨ww, st, ⟨r, dr, tw, su, rfl, hr2, hr3, _⟩, rfl⟩
      refine ⟨_, (pe_callTy call_int1 (by rfl) T.z_int (by decide +kernel) (pa_cons (pe_cmpR op_eq (pe_ix ix_tup (pe_fld (pv 0) rfl) (pv 2) (fun _ _ => rfl)) (pv 1) (nomark _)) pa_nil)), fun Q1 q1 => ?_⟩
      refine ⟨_, rfl, r, _, dr, _, .ref tw, rfl, hr2, T.cl_Tick, T.n_Tick_words, (by kernel_rfl), _, rfl, tw, _, _, _, rfl, rfl, hr3, at_of (j := num) rfl (wd_at hnum), _, rfl, rfl, .inr ⟨_, rfl, ?_⟩⟩
      unfold phiS at q1
      by_cases hw : doS (wdN ww num) = word
      · rw [if_pos hw] at q1
        rw [decide_eq_true (by rw [hw])]
        exact q1
      · rw [if_neg hw] at q1
        rw [decide_eq_false (fun z => hw (by injection z))]
        exact q1
    obtain ⟨e1, e2, e3⟩ := lam_post B2 (tb := tbs a) (by simp [tbs]) hPG h3 nn t3 tr e sm
    exact k _ _ e1 e2 e3
end
end Sb

namespace Sb
open PySem PySem.Spec PyProof.Rows L2 TL
structure spHappens (a : Ad) (K : PySem.W.Frag) (vs : List V) (H : Hp) (Q : VK) (E : XK) : Prop where
  ex : ∃ (G : Hp) (v : V) (x : Pl) (i n t : Nat), vs = [v, .int t] ∧ StoryAt a K G v x i n ∧ Cyc x i n ∧ Same G H ∧ ∀ u, TickAt a K G u (wordsAt x t) (sitAt x (t + 1)) → Q u H
section
variable {P : Program} {w : World} {K : PySem.W.Frag} {mg : Str → Option Value} {base : Heap} {a : Ad}
theorem ok_Story_happens (T : Txt K mg a) : FnOk P w K mg base CX0 3 a.f_Story_happens a.d_Story_happens ["self", "tick"] (spHappens a K) := by
  refine T.F_Story_happens.ok sc_Story_happens (fun vs H Q E h => ?_) (fun cdv A outer s H vs Q E hr h => ?_)
  · obtain ⟨⟨G, v, x, i, n, t, rfl, _⟩⟩ := h
    rfl
  · obtain ⟨⟨G, v, x, i, n, t, rfl, hS, hc, hGH, k⟩⟩ := h
    refine ⟨_, (pss_one (ps_ret (pe_ix ix_list (pe_fld (pv 0) rfl) (pe_ifExp (pt_cmpR op_lt (pv 1) (pe_callB call_len_seq (by rfl) T.z_len (by decide +kernel) (pa_cons (pe_fld (pv 0) rfl) pa_nil)) (nomark _)) (pv 1) (pe_op op_add (pe_fld (pv 0) rfl) (pe_op op_mod (pe_op op_sub (pv 1) (pe_fld (pv 0) rfl)) (pe_prop (pv 0) T.cl_Story T.P_Story_size (ok_Story_size T) (hr.mono (by decide)) (b_Story_size T) .nil pass0 rfl)))) (fun _ _ => rfl)))), ?_⟩
    have hS' := hS.mono hGH
    obtain ⟨y, dy, l, vs, rfl, hy, hl, ht⟩ := hS
    have hy' := hGH _ _ hy
    have lt := hc.lt
    obtain ⟨u, hu, hT⟩ := ht.2 _ (place_lt (t := t) hc)
    rw [place_words hc, place_next hc] at hT
    refine ⟨_, rfl, y, _, dy, _, .ref l, rfl, hy', T.cl_Story, T.n_Story_ticks, (by kernel_rfl), ?_⟩
    refine ⟨_, rfl, _, rfl, y, _, dy, _, .ref l, rfl, hy', T.cl_Story, T.n_Story_ticks, (by kernel_rfl), l, _, rfl, .inl (hGH.seq hl), _, _, rfl, rfl, _, rfl, ?_⟩
    rw [ht.1]
    refine ite2 (fun c => ?_) (fun c => ?_)
    · have c' : t < n := by have := of_decide_eq_true c; omega
      have e : placeP i n t = t := if_pos c'
      rw [e] at hu
      exact ⟨_, rfl, l, _, _, u, rfl, rfl, hGH.seq hl, at_of (j := t) rfl hu, k u hT⟩
    · have c' : ¬ t < n := fun z => c (decide_eq_true (by omega))
      have e : placeP i n t = i + (t - i) % (n - i) := if_neg c'
      rw [e] at hu
      refine ⟨_, rfl, y, _, dy, _, .int i, rfl, hy', T.cl_Story, T.n_Story_start, (by kernel_rfl), ?_⟩
      refine ⟨_, rfl, _, rfl, y, _, dy, _, .int i, rfl, hy', T.cl_Story, T.n_Story_start, (by kernel_rfl), _, _, rfl, rfl, ?_⟩
      refine ⟨_, rfl, y, dy, _, rfl, hy', ⟨⟨_, x, i, n, rfl, hS', ?_⟩⟩⟩
      refine ⟨_, _, rfl, rfl, (by show (0 : Int) < (n : Int) - (i : Int); omega), _, _, rfl, rfl, l, _, _, u, rfl, rfl, hGH.seq hl, at_of (j := i + (t - i) % (n - i)) ?_ hu, k u hT⟩
      rw [show (t : Int) - (i : Int) = ((t - i : Nat) : Int) by omega, show (n : Int) - (i : Int) = ((n - i : Nat) : Int) by omega]
      push_cast
      rfl
end
end Sb

namespace Sb
open PySem PySem.Spec PyProof.Rows L2 TL
structure spCells (K : PySem.W.Frag) (vs : List V) (H : Hp) (Q : VK) (E : XK) : Prop where
  ex : ∃ (src : Str) (G : Hp) (x : Pl) (i n t : Nat), vs = [.str src, .int t] ∧ Told src x i n ∧ t ≤ 1000000000000000000 ∧ Pure G H Q fun G' v => Dp K G' v (natsT (sitAt x (t + 1)).cs)
section
variable {P : Program} {w : World} {K : PySem.W.Frag} {mg : Str → Option Value} {base : Heap} {a : Ad}
theorem ok_cells (T : Txt K mg a) : FnOk P w K mg base CX0 9 a.f_cells a.d_cells ["plan", "tick"] (spCells K) := by
  refine T.F_cells.ok sc_cells (fun vs H Q E h => ?_) (fun cdv A outer s H vs Q E hr h => ?_)
  · obtain ⟨⟨src, G, x, i, n, t, rfl, _⟩⟩ := h
    rfl
  · obtain ⟨⟨src, G, x, i, n, t, rfl, ⟨ld, ok, cy, le⟩, ht, hGH, k⟩⟩ := h
    refine ⟨_, (pss_cons (ps_set (i := 2) sc_cells.nd rfl (Or.inl rfl) (pe_call (ok_load T) (hr.mono (by decide)) rfl T.m_load T.F_load.kp (b_load T) .nil pass0 (pa_cons (pv 0) pa_nil)))
      (pss_cons (ps_expr (pe_call (ok_check_tick T) (hr.mono (by decide)) rfl T.m_check_tick T.F_check_tick.kp (b_check_tick T) .nil pass0 (pa_cons (pv 1) pa_nil)))
      (pss_one (ps_ret (pe_fld (pe_fld (pe_meth (pe_make T.mk_Story (ok_Story_init T) (hr.mono (by decide)) (by rfl) T.m_Story (b_Story_init T) .nil pass0 (pa_cons (pv 2) pa_nil)) T.cl_Story T.M_Story_happens (ok_Story_happens T) (hr.mono (by decide)) (b_Story_happens T) .nil pass0 (pa_cons (pv 1) pa_nil)) rfl) rfl))))), ?_⟩
    refine ⟨_, rfl, ⟨⟨src, G, x, rfl, ld, ok, hGH, fun G1 H1 v1 x1 s1 h1 => ?_⟩⟩⟩
    have B1 := (Pt.start hGH).call x1 s1
    refine ⟨_, rfl, check_go ht ?_⟩
    refine ⟨_, rfl, ?_⟩
    intro y dy ny nd ne
    obtain ⟨yG, sS, hp2⟩ := story_pre B1 h1 ny nd ne
    refine ⟨⟨y, dy, _, _, x, i, n, rfl, upd_same, yG, sS, hp2, ok, cy, le, fun G' H2 l0 vs0 M yG' hy' hl0 ht0 => ⟨rfl, ?_⟩⟩⟩
    obtain ⟨G2, B2, S2, hS⟩ := story_post B1 ny nd ne M yG' hy' hl0 ht0
    obtain ⟨y', dy2, l, vs, eY, hy, hl, hts⟩ := id hS
    cases eY
    refine ⟨y, dy2, _, rfl, B2.s _ _ hy, (by kernel_rfl), _, rfl, ⟨⟨G2, _, x, i, n, t, rfl, hS, cy, B2.s, fun u hu => ?_⟩⟩⟩
    obtain ⟨r, dr, tw, su, rfl, hr1, hr2, ⟨sa, ds, c, nn, b, e, rfl, h3, h4, _⟩⟩ := hu
    refine ⟨r, _, dr, _, .ref sa, rfl, B2.s _ _ hr1, T.cl_Tick, T.n_Tick_state, (by kernel_rfl), sa, _, ds, _, .ref c, rfl, B2.s _ _ h3, T.cl_State, T.n_State_cells, (by kernel_rfl), ?_⟩
    exact k _ _ _ B2.ext B2.sm (.tup h4 (nats_D' _))
end
end Sb

namespace Sb
open PySem PySem.Spec PyProof.Rows L2 TL
structure spBoxes (K : PySem.W.Frag) (vs : List V) (H : Hp) (Q : VK) (E : XK) : Prop where
  ex : ∃ (src : Str) (G : Hp) (x : Pl) (i n t : Nat), vs = [.str src, .int t] ∧ Told src x i n ∧ t ≤ 1000000000000000000 ∧ Same G H ∧ ∀ G1 H1 p, Pt G H G1 H1 → H1 p = none → Q (.ref p) (upd H1 p (.lst (nV (sitAt x (t + 1)).sh)))
section
variable {P : Program} {w : World} {K : PySem.W.Frag} {mg : Str → Option Value} {base : Heap} {a : Ad}
theorem ok_boxes (T : Txt K mg a) : FnOk P w K mg base CX0 9 a.f_boxes a.d_boxes ["plan", "tick"] (spBoxes K) := by
  refine T.F_boxes.ok sc_boxes (fun vs H Q E h => ?_) (fun cdv A outer s H vs Q E hr h => ?_)
  · obtain ⟨⟨src, G, x, i, n, t, rfl, _⟩⟩ := h
    rfl
  · obtain ⟨⟨src, G, x, i, n, t, rfl, ⟨ld, ok, cy, le⟩, ht, hGH, k⟩⟩ := h
    refine ⟨_, (pss_cons (ps_set (i := 2) sc_boxes.nd rfl (Or.inl rfl) (pe_call (ok_load T) (hr.mono (by decide)) rfl T.m_load T.F_load.kp (b_load T) .nil pass0 (pa_cons (pv 0) pa_nil)))
      (pss_cons (ps_expr (pe_call (ok_check_tick T) (hr.mono (by decide)) rfl T.m_check_tick T.F_check_tick.kp (b_check_tick T) .nil pass0 (pa_cons (pv 1) pa_nil)))
      (pss_one (ps_ret (pe_callTy call_list_of (by rfl) T.z_list (by decide +kernel) (pa_cons (pe_fld (pe_fld (pe_meth (pe_make T.mk_Story (ok_Story_init T) (hr.mono (by decide)) (by rfl) T.m_Story (b_Story_init T) .nil pass0 (pa_cons (pv 2) pa_nil)) T.cl_Story T.M_Story_happens (ok_Story_happens T) (hr.mono (by decide)) (b_Story_happens T) .nil pass0 (pa_cons (pv 1) pa_nil)) rfl) rfl) pa_nil)))))), ?_⟩
    refine ⟨_, rfl, ⟨⟨src, G, x, rfl, ld, ok, hGH, fun G1 H1 v1 x1 s1 h1 => ?_⟩⟩⟩
    have B1 := (Pt.start hGH).call x1 s1
    refine ⟨_, rfl, check_go ht ?_⟩
    refine ⟨_, rfl, ?_⟩
    intro y dy ny nd ne
    obtain ⟨yG, sS, hp2⟩ := story_pre B1 h1 ny nd ne
    refine ⟨⟨y, dy, _, _, x, i, n, rfl, upd_same, yG, sS, hp2, ok, cy, le, fun G' H2 l0 vs0 M yG' hy' hl0 ht0 => ⟨rfl, ?_⟩⟩⟩
    obtain ⟨G2, B2, S2, hS⟩ := story_post B1 ny nd ne M yG' hy' hl0 ht0
    obtain ⟨y', dy2, l, vs, eY, hy, hl, hts⟩ := id hS
    cases eY
    refine ⟨y, dy2, _, rfl, B2.s _ _ hy, (by kernel_rfl), _, rfl, ⟨⟨G2, _, x, i, n, t, rfl, hS, cy, B2.s, fun u hu => ?_⟩⟩⟩
    obtain ⟨r, dr, tw, su, rfl, hr1, hr2, ⟨sa, ds, c, nn, b, e, rfl, h3, h4, h5, h6, h7⟩⟩ := hu
    refine ⟨r, _, dr, _, .ref sa, rfl, B2.s _ _ hr1, T.cl_Tick, T.n_Tick_state, (by kernel_rfl), sa, _, ds, _, .ref e, rfl, B2.s _ _ h3, T.cl_State, T.n_State_shelf, (by kernel_rfl), ?_⟩
    exact ⟨e, _, rfl, .inr (Same.seqT B2.s h7), fun p hp => k _ _ p B2 hp⟩
end
end Sb

namespace Sb
open PySem PySem.Spec PyProof.Rows L2 TL
def holdL (hs : List Bool) : List Nat := (List.range 2).filter fun k => hs.getD k false
structure spHolding (K : PySem.W.Frag) (vs : List V) (H : Hp) (Q : VK) (E : XK) : Prop where
  ex : ∃ (src : Str) (G : Hp) (x : Pl) (i n t : Nat), vs = [.str src, .int t] ∧ Told src x i n ∧ t ≤ 1000000000000000000 ∧ Pure G H Q fun G' v => ∃ p, v = .ref p ∧ G' p = some (.lst (nV (holdL (sitAt x (t + 1)).hs)))
section
variable {P : Program} {w : World} {K : PySem.W.Frag} {mg : Str → Option Value} {base : Heap} {a : Ad}
theorem ok_holding (T : Txt K mg a) : FnOk P w K mg base CX0 9 a.f_holding a.d_holding ["plan", "tick"] (spHolding K) := by
  refine T.F_holding.ok sc_holding (fun vs H Q E h => ?_) (fun cdv A outer s H vs Q E hr h => ?_)
  · obtain ⟨⟨src, G, x, i, n, t, rfl, _⟩⟩ := h
    rfl
  · obtain ⟨⟨src, G, x, i, n, t, rfl, ⟨ld, ok, cy, le⟩, ht, hGH, k⟩⟩ := h
    refine ⟨_, (pss_cons (ps_set (i := 2) sc_holding.nd rfl (Or.inl rfl) (pe_call (ok_load T) (hr.mono (by decide)) rfl T.m_load T.F_load.kp (b_load T) .nil pass0 (pa_cons (pv 0) pa_nil)))
      (pss_cons (ps_expr (pe_call (ok_check_tick T) (hr.mono (by decide)) rfl T.m_check_tick T.F_check_tick.kp (b_check_tick T) .nil pass0 (pa_cons (pv 1) pa_nil)))
      (pss_one (ps_ret (pe_lc (own := [("number", 3), ("held", 4)]) (g := gTup K 2 (gCons (gName 3) (gCons (gName 4) gNil))) rfl sc_holding.nd (pi_enumT (by rfl) T.z_enumerate (pa_cons (pe_fld (pe_fld (pe_meth (pe_make T.mk_Story (ok_Story_init T) (hr.mono (by decide)) (by rfl) T.m_Story (b_Story_init T) .nil pass0 (pa_cons (pv 2) pa_nil)) T.cl_Story T.M_Story_happens (ok_Story_happens T) (hr.mono (by decide)) (b_Story_happens T) .nil pass0 (pa_cons (pv 1) pa_nil)) rfl) rfl) pa_nil)) (blkOk_by (own := [("number", 3), ("held", 4)]) (N := ["plan", "tick", "parsed", "number", "held"]) (sc := (defScope s_holding)) (by decide +kernel)) (fun _ _ _ _ _ => (pg_tup (by rfl) (pgs_cons (pg_name (i := 3) sc_holding.nd rfl (Or.inl rfl)) (pgs_cons (pg_name (i := 4) sc_holding.nd rfl (Or.inl rfl)) pgs_nil)))) (fun _ _ _ _ _ => by exact pts_one (pt_val (pv 4))) (fun _ _ _ _ _ => by exact (pv 3))))))), ?_⟩
    refine ⟨_, rfl, ⟨⟨src, G, x, rfl, ld, ok, hGH, fun G1 H1 v1 x1 s1 h1 => ?_⟩⟩⟩
    have B1 := (Pt.start hGH).call x1 s1
    refine ⟨_, rfl, check_go ht ?_⟩
    refine ⟨_, rfl, ?_⟩
    intro y dy ny nd ne
    obtain ⟨yG, sS, hp2⟩ := story_pre B1 h1 ny nd ne
    refine ⟨⟨y, dy, _, _, x, i, n, rfl, upd_same, yG, sS, hp2, ok, cy, le, fun G' H2 l0 vs0 M yG' hy' hl0 ht0 => ⟨rfl, ?_⟩⟩⟩
    obtain ⟨G2, B2, S2, hS⟩ := story_post B1 ny nd ne M yG' hy' hl0 ht0
    obtain ⟨y', dy2, l, vs, eY, hy, hl, hts⟩ := id hS
    cases eY
    refine ⟨y, dy2, _, rfl, B2.s _ _ hy, (by kernel_rfl), _, rfl, ⟨⟨G2, _, x, i, n, t, rfl, hS, cy, B2.s, fun u hu => ?_⟩⟩⟩
    obtain ⟨r, dr, tw, su, rfl, hr1, hr2, ⟨sa, ds, c, nn, b, e, rfl, h3, h4, h5, h6, h7⟩⟩ := hu
    have so := sitAt_ok ok (t + 1)
    generalize sitAt x (t + 1) = st at *
    refine ⟨r, _, dr, _, .ref sa, rfl, B2.s _ _ hr1, T.cl_Tick, T.n_Tick_state, (by kernel_rfl), sa, _, ds, _, .ref b, rfl, B2.s _ _ h3, T.cl_State, T.n_State_holds, (by kernel_rfl), ?_⟩
    refine ⟨b, _, rfl, Same.seqT B2.s h6, fun D hD => ?_⟩
    have D0 : H D = none := B2.free hD
    have DG := B2.freeG hD
    refine lc_enumT (K := K) (a := b) (xs := bV st.hs) (fun j H' => Pt G H G2 H' ∧ H' D = some (.lst (nV ((List.range j).filter fun k => st.hs.getD k false)))) ⟨B2.lay hD _, upd_same⟩ (fun j H' _ ⟨p1, _⟩ => Same.seqT p1.s h6) ?_ ?_
    · rintro j v H' Tt hv ⟨p1, hD'⟩ hTt
      have hj : j < st.hs.length := by have := (List.getElem?_eq_some_iff.mp hv).1; simpa using this
      rw [bV_at hj] at hv
      cases hv
      have Dt : D ≠ Tt := ne_of_none hD' hTt
      have p3 := p1.lay hTt (.tup [.int (j : Nat), .bl (st.hs.getD j false)])
      refine ⟨Tt, _, rfl, SqT.of upd_same, rfl, _, _, rfl, _, _, rfl, rfl, rfl, _, rfl, _, rfl, ?_⟩
      have er : (List.range (j + 1)).filter (fun k => st.hs.getD k false) = (List.range j).filter (fun k => st.hs.getD k false) ++ (if st.hs.getD j false = true then [j] else []) := by
        exact filt_succ _ j
      refine ite_b (fun c => ?_) (fun c => ?_)
      · refine ⟨_, rfl, _, by rw [upd_ne Dt]; exact hD', smaller 2 ?_ (by decide), p3.put D0 DG _, ?_⟩
        · rw [List.length_map]
          have := List.length_filter_le (fun k => st.hs.getD k false) (List.range j)
          rw [List.length_range] at this
          have := so.h2
          omega
        · rw [upd_same, er, if_pos c, nV, nV, List.map_append]
          rfl
      · refine ⟨p3, ?_⟩
        rw [upd_ne Dt, er, c]
        simpa using hD'
    rintro H3 ⟨p3, hD3⟩
    have p4 := p3.freeze D0 hD3
    refine k _ _ _ p4.ext p4.sm ⟨D, rfl, ?_⟩
    have el : (bV st.hs).length = 2 := by rw [List.length_map]; exact so.h2
    rw [upd_same, el]
    rfl
end
end Sb

namespace Sb
open PySem PySem.Spec PyProof.Rows L2 GenW
/-! ### for within a generator def -/
section
variable {M : Model} {A : Around} {R : GenEnd} {Y : Protocol} {n : Nat} {s₀ : Shared} {c : Code} {fs : List Frame} {s : Shared} {env : Env}
  {K : Flow → Sem PySem.Fin} {J : Value → Sem PySem.Fin} {gd : Bool → Bool} {lv : List Value → List Value}
theorem seg_For {tg iter : Expr} {body orelse : List Stmt} {pos : Pos}
    (h : wpAny M (A.over c fs) (eval iter env) (fun x s₁ => wpAny M (A.over c fs) (pyIter x) (fun it s₂ =>
      ∀ p, Seg M A R Y n s₀ (.forLoop tg it body orelse env) (M.den (.forLoop tg it body orelse env))
        (.ret (fun r => ((match r with | .ok f => (.pure f : Sem Flow) | .error e => .raise e).onRaise (cameBack env)).wrap K J gd lv) none (gd false) (lv []) c p [] :: fs) s₂)
        (fun x s' => Seg M A R Y n s₀ c (J x) fs s') s₁) (fun x s' => Seg M A R Y n s₀ c (J x) fs s') s)
    (hs : ∀ x, foldedSetIterable iter env x = pure x := by intro _; rfl) :
    Seg M A R Y n s₀ c ((exec (.For tg iter body orelse pos) env).wrap K J gd lv) fs s := by
  rw [exec_For]
  refine seg_bind_wrap (wpAny_standAt ?_)
  refine seg_bind_wrap (wpAny_mono h (fun x s₁ h₁ => ?_) fun _ _ z => z)
  refine seg_bind_wrap (wpAny_of_eq (hs x) ?_)
  refine seg_bind_wrap (wpAny_standAt ?_)
  refine seg_bind_wrap (wpAny_holding (wpAny_mono h₁ (fun it s₂ h₂ => ?_) fun _ _ z => z))
  exact seg_call h₂
end
section
variable {prog : Program} {w : World} {A : Around} {R : GenEnd} {Y : Protocol} {n : Nat} {s₀ : Shared} {fs : List Frame} {s : Shared} {env : Env}
abbrev errT (env : Env) (e : Value) : Sem PySem.Fin := (do noteFrame e env; theTreesLotGoes e : Sem Unit).wrap (fun _ => .raise e) .raise id id
theorem seg_forLoop {tg : Expr} {it : Value} {body orelse : List Stmt}
    (h : wpAny (model prog w) (A.over (.forLoop tg it body orelse env) fs) (pyNext it) (fun r s₁ => match r with
      | none => Seg (model prog w) A R Y n s₀ (.forLoop tg it body orelse env) (.pure (.again (.block orelse env))) fs s₁
      | some v => wpAny (model prog w) (A.over (.forLoop tg it body orelse env) fs) (letOwnedTupleGo tg it v) (fun _ s₂ =>
          wpAny (model prog w) (A.over (.forLoop tg it body orelse env) fs) (assign tg env v) (fun _ s₃ =>
            Seg (model prog w) A R Y n s₀ (.forLoop tg it body orelse env) ((execs body env).wrap (fun f => match f with
              | .next | .cont => .pure (.again (.forLoop tg it body orelse env))
              | .brk => .pure (.done .next)
              | .ret v => .pure (.done (.ret v))) (errT env) id id) fs s₃)
            (fun x s' => Seg (model prog w) A R Y n s₀ (.forLoop tg it body orelse env) (errT env x) fs s') s₂)
          (fun x s' => Seg (model prog w) A R Y n s₀ (.forLoop tg it body orelse env) (errT env x) fs s') s₁)
      (fun x s' => Seg (model prog w) A R Y n s₀ (.forLoop tg it body orelse env) (errT env x) fs s') s) :
    Seg (model prog w) A R Y n s₀ (.forLoop tg it body orelse env) ((model prog w).den (.forLoop tg it body orelse env)) fs s := by
  show Seg _ A R Y n s₀ _ ((forTurn tg it body orelse env).onRaise (fun x => do noteFrame x env; theTreesLotGoes x)) fs s
  have ee : ∀ x s', Seg (model prog w) A R Y n s₀ (.forLoop tg it body orelse env) (errT env x) fs s' → Seg (model prog w) A R Y n s₀ (.forLoop tg it body orelse env) ((do noteFrame x env; theTreesLotGoes x : Sem Unit).bind fun _ => .raise x) fs s' := fun x s' h => by
    rw [Sem.bind_eq_wrap]; exact h
  unfold forTurn
  rw [Sem.onRaise_eq_wrap]
  refine seg_bind_wrap (wpAny_standAt ?_)
  refine seg_bind_wrap (wpAny_onRaise (wpAny_mono h (fun r s₁ h₁ => ?_) fun x s' z => wpAny_standAt (ee x s' z)))
  cases r with
  | none => exact h₁
  | some v =>
    refine seg_bind_wrap (wpAny_mono h₁ (fun _ s₂ h₂ => ?_) fun x s' z => ee x s' z)
    refine seg_bind_wrap (wpAny_mono h₂ (fun _ s₃ h₃ => ?_) fun x s' z => ee x s' z)
    show Seg _ A R Y n s₀ _ (Sem.wrap _ _ _ _ (execs body env >>= _)) fs s₃
    rw [Sem.bind_eq_wrap', Sem.wrap_wrap]
    rw [Sem.wrap_congr (execs body env) _ _ (K' := fun f => match f with
            | .next | .cont => .pure (.again (.forLoop tg it body orelse env))
            | .brk => .pure (.done .next)
            | .ret v => .pure (.done (.ret v))) (H' := errT env)
        (fun f => by cases f <;> rfl)
        (fun e => by first | exact Sem.bind_eq_wrap _ _ | (show (do noteFrame e env; theTreesLotGoes e : Sem Unit).bind (fun _ => .raise e) = _; rw [Sem.bind_eq_wrap]))]
    exact h₃
end
section
variable {X : Cx} {tg : Expr}
def tGFor (wi : TI) (g : TG) (tb : TGn) : TGn := fun D ys σ H => wi σ H fun J H1 => ∃ W : Nat → Nat → List V → L2.St → Hp → Prop, (∃ m, W 0 m ys σ H1) ∧ ∀ i m ys σ H, W i m ys σ H →
  (J.stop i H ∧ D.nx ys σ H) ∨ (J.go i H ∧ ∃ N : List V → L2.St → Hp → Prop, (∀ ys' σ' H', N ys' σ' H' → ∃ m', m' < m ∧ W (i + 1) m' ys' σ' H') ∧ ∀ x H', J.yld i H x H' → g x σ H' fun σ2 H2 => tb { D with nx := N, ct := N, bk := D.nx } ys σ2 H2)
theorem gs_for {iter : Expr} {body : List Stmt} {wi : TI} {g : TG} {tb : TGn} {pos : Pos} (hp : PassesOwn (model X.prog X.w) X.A X.env X.xe) (hc : X.calm = true) (hi : PI X tg iter wi) (hg : PG X tg g) (hb : GSs X body tb)
    (hs : ∀ x, foldedSetIterable iter X.env x = pure x := by intro _; rfl) : GS X (.For tg iter body [] pos) (tGFor wi g tb) := by
  refine ⟨fun A S ip R n ys s₀ c fs K J gd lv s σ H D gc hn k hI ht => ?_⟩
  obtain ⟨acc0, cc0, r0, I0⟩ := hI
  refine seg_For ?_ hs
  rw [gc.over]
  refine wpAny_mono (hi.run _ s σ H _ I0 ht) (fun v s1 h1 => wpAny_mono h1 (fun itv s2 h2 => ?_) fun x s' hx => k.exc n s₀ x s' hx) fun x s' hx => k.exc n s₀ x s' hx
  intro p
  obtain ⟨it, fp, tn, JJ, H2, e, I2, T, st2, f2, W, ⟨m0, w0⟩, turn⟩ := h2
  subst e
  have gl := fun (kk : Result → Sem PySem.Fin) => gc_loop (k := kk) (c' := .forLoop tg (.ref it) body [] X.env) (l := lv []) (kp := []) (p := p) gc rfl rfl
  have stat : ∀ {H' : Hp} {acc : Array Value} {cc : Nat}, (∀ b ∈ fp, H' b = none) → ∀ b ∈ fp, FpOk X ((S, lstObj acc cc) :: ip) H' b := fun {H' acc cc} hn b hb => by
    obtain ⟨f0, f1, f3, f4, f5, f6⟩ := f2 b hb
    refine ⟨hn b hb, f1, f3, f4, f5, fun q hq => ?_⟩
    rcases List.mem_append.mp hq with hq | hq
    · exact f6 q (List.mem_append_left _ hq)
    · rcases List.mem_cons.mp hq with hq | hq
      · rw [hq]; exact f6 (S, lstObj acc0 cc0) (List.mem_append_right _ List.mem_cons_self)
      · exact f6 q (List.mem_append_right _ (List.mem_cons_of_mem _ hq))
  have fpS : ∀ b ∈ fp, b ≠ S := fun b hb e => by
    obtain ⟨_, _, _, _, _, f6⟩ := f2 b hb
    exact f6 (S, lstObj acc0 cc0) (List.mem_append_right _ List.mem_cons_self) e.symm
  have loop : ∀ (m i n : Nat) (ys : List V) (s₀ s : Shared) (σ : L2.St) (H : Hp), n + ys.length = sizeLine → W i m ys σ H → GI X S ip ys σ H s → tn i s.heap → (∀ b ∈ fp, H b = none) →
      Seg (model X.prog X.w) A R (GY X S) n s₀ (.forLoop tg (.ref it) body [] X.env) ((model X.prog X.w).den (.forLoop tg (.ref it) body [] X.env))
        (.ret (fun r => ((match r with | .ok f => (.pure f : Sem Flow) | .error e => .raise e).onRaise (cameBack X.env)).wrap K J gd lv) none (gd false) (lv []) c p [] :: fs) s := by
    intro m
    induction m using Nat.strongRecOn with
    | ind m ih =>
      intro i n ys s₀ s σ H hn w hI st fr
      have ee : ∀ (n : Nat) (s₀ : Shared) (x : Value) (s' : Shared), X.xe x s' → Seg (model X.prog X.w) A R (GY X S) n s₀ (.forLoop tg (.ref it) body [] X.env)
          (errT X.env x)
          (.ret (fun r => ((match r with | .ok f => (.pure f : Sem Flow) | .error e => .raise e).onRaise (cameBack X.env)).wrap K J gd lv) none (gd false) (lv []) c p [] :: fs) s' := fun n s₀ x s' hx => by
        refine seg_wrap ?_
        rw [(gl _).over]
        refine wpAny_bind (wpAny_mono (hp x s' hx) (fun _ s'' hcb => wpAny_theTreesLotGoes ?_) fun y s'' hcb => ?_)
        · exact seg_leaf (.error x) (seg_cameBack gc k hcb)
        · exact seg_leaf (.error y) (seg_cameBack gc k hcb)
      refine seg_forLoop ?_
      rw [(gl _).over]
      obtain ⟨acc, cc, r, I⟩ := hI
      rcases turn i m ys σ H w with ⟨stop, qn⟩ | ⟨go, N, hN, step⟩
      · refine wpAny_mono (T.done X rfl rfl rfl hc i _ s σ H X.xe I (stat fr) st stop) (fun r' s4 ⟨hr, I4⟩ => ?_) fun x s' hx => ee n s₀ x s' hx
        subst hr
        refine seg_again rfl ?_
        exact seg_leaf (.ok .next) (k.ok n ys s₀ s4 .next hn ⟨σ, H, ⟨acc, cc, r, I4⟩, qn⟩)
      · refine wpAny_mono (T.item X rfl rfl rfl hc i _ s σ H X.xe I (stat fr) st go) (fun r' s4 ⟨u, hr, h4⟩ => ?_) fun x s' hx => ee n s₀ x s' hx
        subst hr
        refine wpAny_mono h4 (fun _ s5 ⟨x, H5, I5, r5, y5, st5, fr5⟩ => ?_) fun x s' hx => ee n s₀ x s' hx
        have I5' := I5.pinned (stat fr5) (T.obj _ _ st5)
        refine wpAny_mono (hg.run _ s5 σ H5 x u _ I5' r5 (step x H5 y5)) (fun _ s6 ⟨σ6, H6, I6, q6⟩ => ?_) fun x s' hx => ee n s₀ x s' hx
        have ipf : ∀ q ∈ ip ++ pinsAt fp s5.heap, q.1 ≠ S := fun q hq => by
          rcases List.mem_append.mp hq with hq | hq
          · exact gc.ip q hq
          · exact fpS _ (of_pinsAt hq).1
        have gl' : GC X S (ip ++ pinsAt fp s5.heap) A (.forLoop tg (.ref it) body [] X.env) (.ret (fun r => ((match r with | .ok f => (.pure f : Sem Flow) | .error e => .raise e).onRaise (cameBack X.env)).wrap K J gd lv) none (gd false) (lv []) c p [] :: fs) id :=
          { gl _ with ip := ipf }
        have again : ∀ {n' : Nat} {ys' : List V} {s₀' s7 : Shared} {σ7 : L2.St} {H7 : Hp}, n' + ys'.length = sizeLine → GI X S (ip ++ pinsAt fp s5.heap) ys' σ7 H7 s7 → N ys' σ7 H7 →
            Seg (model X.prog X.w) A R (GY X S) n' s₀' (.forLoop tg (.ref it) body [] X.env) (.pure (.again (.forLoop tg (.ref it) body [] X.env)))
              (.ret (fun r => ((match r with | .ok f => (.pure f : Sem Flow) | .error e => .raise e).onRaise (cameBack X.env)).wrap K J gd lv) none (gd false) (lv []) c p [] :: fs) s7 := fun {n' ys' s₀' s7 σ7 H7} hn' I7 n7 => by
          obtain ⟨m', hm, w7⟩ := hN ys' σ7 H7 n7
          obtain ⟨acc7, cc7, r7, I7⟩ := I7
          have pin : ∀ b ∈ fp, ∀ o, s5.heap.get? b = some o → s7.heap.get? b = some o ∧ H7 b = none := fun b hb o e => by
            have := I7.pin (b, o) (List.mem_append_right _ (List.mem_cons_of_mem _ (List.mem_append_right _ (mem_pinsAt hb e))))
            exact ⟨this.1, this.2.1⟩
          refine seg_again rfl (ih m' hm (i + 1) n' ys' s₀' s7 σ7 H7 hn' w7 ⟨acc7, cc7, r7, Inv.unpinned (pins := (S, lstObj acc7 cc7) :: ip) I7⟩ (T.keep _ _ _ st5 fun b hb o e => (pin b hb o e).1) fun b hb => ?_)
          obtain ⟨o, e, _⟩ := T.obj _ _ st5 b hb
          exact (pin b hb o e).2
        have un : ∀ {ys' : List V} {s7 : Shared} {σ7 : L2.St} {H7 : Hp}, GI X S (ip ++ pinsAt fp s5.heap) ys' σ7 H7 s7 → GI X S ip ys' σ7 H7 s7 := fun {ys' s7 σ7 H7} I7 => by
          obtain ⟨acc7, cc7, r7, I7⟩ := I7
          exact ⟨acc7, cc7, r7, Inv.unpinned (pins := (S, lstObj acc7 cc7) :: ip) I7⟩
        refine hb.run A S _ R n ys s₀ _ _ _ _ id id s6 σ6 H6 { D with nx := N, ct := N, bk := D.nx } gl' hn ⟨fun n' ys' s₀' s7 f hn' q7 => ?_, fun n' s₀' x s7 hx => ee n' s₀' x s7 hx⟩ ⟨acc, cc, r, I6⟩ q6
        cases f with
        | next => obtain ⟨σ7, H7, I7, n7⟩ := q7; exact again hn' I7 n7
        | cont => obtain ⟨σ7, H7, I7, n7⟩ := q7; exact again hn' I7 n7
        | brk => obtain ⟨σ7, H7, I7, q7⟩ := q7; exact seg_leaf (.ok .next) (k.ok n' ys' s₀' s7 .next hn' ⟨σ7, H7, un I7, q7⟩)
        | ret v => obtain ⟨x7, σ7, H7, I7, r7, q7⟩ := q7; exact seg_leaf (.ok (.ret v)) (k.ok n' ys' s₀' s7 (.ret v) hn' ⟨x7, σ7, H7, un I7, r7, q7⟩)
  exact loop m0 0 n ys s₀ s2 σ H2 hn w0 ⟨acc0, cc0, r0, I2⟩ st2 fun b hb => (f2 b hb).1
/-- over a range -/
theorem gfor_range {lo : Int} {n : Nat} {g : TG} {tb : TGn} {D : GEnds} {ys : List V} {σ : L2.St} {H : Hp} (Pv : Nat → List V → L2.St → Hp → Prop) (h0 : Pv 0 ys σ H)
    (hs : ∀ i ys σ H, i < n → Pv i ys σ H → g (.int (lo + i)) σ H fun σ2 H2 => tb { D with nx := Pv (i + 1), ct := Pv (i + 1), bk := D.nx } ys σ2 H2) (hd : ∀ ys σ H, Pv n ys σ H → D.nx ys σ H) :
    ∃ W : Nat → Nat → List V → L2.St → Hp → Prop, (∃ m, W 0 m ys σ H) ∧ ∀ i m ys σ H, W i m ys σ H →
      ((Itr lo n).stop i H ∧ D.nx ys σ H) ∨ ((Itr lo n).go i H ∧ ∃ N : List V → L2.St → Hp → Prop, (∀ ys' σ' H', N ys' σ' H' → ∃ m', m' < m ∧ W (i + 1) m' ys' σ' H') ∧ ∀ x H', (Itr lo n).yld i H x H' → g x σ H' fun σ2 H2 => tb { D with nx := N, ct := N, bk := D.nx } ys σ2 H2) := by
  refine ⟨fun i m ys σ H => m = n - i ∧ i ≤ n ∧ Pv i ys σ H, ⟨n, by simp, Nat.zero_le _, h0⟩, ?_⟩
  rintro i m ys σ H ⟨rfl, hi, p⟩
  by_cases hlt : i < n
  · refine .inr ⟨hlt, Pv (i + 1), fun ys' σ' H' p' => ⟨n - (i + 1), by omega, rfl, hlt, p'⟩, fun x H' y => ?_⟩
    obtain ⟨e, e'⟩ := y
    subst e
    subst e'
    exact hs i ys σ _ hlt p
  · have e : i = n := by omega
    subst e
    exact .inl ⟨Nat.le_refl _, hd ys σ H p⟩
end
end Sb

namespace Sb
open PySem PySem.Spec PyProof.Rows L2 TL
/-! ### a generator def -/
section
variable {P : Program} {w : World} {K : PySem.W.Frag} {mg : Str → Option Value} {base : Heap}
theorem fun_gok {x qual : Str} {st : Stmt} {f : Addr} {fd : FuncData} {N ps : List Str} {k : Nat} {sp : SpG} (F : L2.Fun K x qual st f fd) (S : GScope N ps (defScope st)) (len : ∀ vs H Q E, sp vs H Q E → vs.length = ps.length)
    (hbody : ∀ (cdv : Value) (A : Around) (outer : List Env) (s : Shared) (H : Hp) (vs : List V) (Q : List V → Hp → Prop) (E : XK) (pn : List (Addr × Obj)), Room k (A.deeper (envOfC qual (defScope st) s.heap.objs.size f cdv)) → sp vs H Q E →
      ∃ t, GSs (gcxOf P w K mg base N qual (defScope st) f cdv A outer s H E pn) (defBody st) t ∧ t { nx := fun ys _ H' => Q ys H', rt := fun ys v H' => v = .non ∧ Q ys H' } [] (start N vs) H) : GFn P w K mg base (k + 1) f fd ps sp := by
  obtain ⟨oc, od, kV, doc, pm, an, cdv, ct, osl, rfl, lk, hcd⟩ := F.ex
  exact gfn_of lk hcd S len fun A outer s H vs Q E pn hr hsp => hbody cdv A outer s H vs Q E pn hr hsp
end
def rowD (x : Pl) (t : Nat) : PyData := .tuple [natD t, .str (doS (wordsAt x t).1), .str (doS (wordsAt x t).2)]
structure spTrace (K : PySem.W.Frag) (vs : List V) (H : Hp) (Q : List V → Hp → Prop) (E : XK) : Prop where
  ex : ∃ (src : Str) (G : Hp) (x : Pl) (i n t m : Nat), vs = [.str src, .int t, .int ((t : Int) + (m : Int) - 1)] ∧ Told src x i n ∧ t ≤ 1000000000000000000 ∧ m ≤ 500 ∧ t + m ≤ 1000000000000000001 ∧ Same G H ∧
    ∀ (G' H' : Hp) (ys : List V), Pt G H G' H' → DpAll K G' ys ((List.range m).map fun k => rowD x (t + k)) → Q ys H'
section
variable {P : Program} {w : World} {K : PySem.W.Frag} {mg : Str → Option Value} {base : Heap} {a : Ad}
theorem ok_trace (T : Txt K mg a) : GFn P w K mg base 9 a.f_trace a.d_trace ["plan", "first", "last"] (spTrace K) := by
  refine fun_gok T.F_trace sc_trace (fun vs H Q E h => ?_) (fun cdv A outer s H vs Q E pn hr h => ?_)
  · obtain ⟨⟨src, G, x, i, n, t, m, rfl, _⟩⟩ := h
    rfl
  · obtain ⟨⟨src, G, x, i, n, t, m, rfl, ⟨ld, ok, cy, le⟩, ht, hm, htm, hGH, k⟩⟩ := h
    refine ⟨_, (gss_cons (gs_ps (ps_set (i := 3) sc_trace.nd rfl (Or.inl rfl) (pe_call (ok_load T) (hr.mono (by decide)) rfl T.m_load T.F_load.kp (b_load T) .nil pass0 (pa_cons (pv 0) pa_nil))))
      (gss_cons (gs_ps (ps_expr (pe_call (ok_check_tick T) (hr.mono (by decide)) rfl T.m_check_tick T.F_check_tick.kp (b_check_tick T) .nil pass0 (pa_cons (pv 1) pa_nil))))
      (gss_cons (gs_ps (ps_if (pt_not (pt_val (pe_call (ok_is_int_in T) (hr.mono (by decide)) rfl T.m_is_int_in T.F_is_int_in.kp (b_is_int_in T) .nil pass0 (pa_cons (pv 2) (pa_cons (pe_op op_sub (pv 1) pe_int) (pa_cons (pe_callB (call_min2 rfl) (by rfl) T.z_min (by decide +kernel) (pa_cons (pe_glob (v := V.int 1000000000000000000) rfl T.c_MAX_TICK ⟨_, rfl⟩) (pa_cons (pe_op op_sub (pe_op op_add (pv 1) (pe_glob (v := V.int 500) rfl T.c_MAX_TRACE ⟨_, rfl⟩)) pe_int) pa_nil))) pa_nil)))))) pss_never pss_nil))
      (gss_cons (gs_ps (ps_set (i := 4) sc_trace.nd rfl (Or.inl rfl) (pe_make T.mk_Story (ok_Story_init T) (hr.mono (by decide)) (by rfl) T.m_Story (b_Story_init T) .nil pass0 (pa_cons (pv 3) pa_nil))))
      (gss_cons (gs_for owns_gcx rfl (pi_range2 (by rfl) T.z_range (pa_cons (pv 1) (pa_cons (pe_op op_add (pv 2) pe_int) pa_nil))) (pg_name (i := 5) sc_trace.nd rfl (Or.inl rfl)) (gss_cons (gs_yield (pe_tup (pa_cons (pv 5) (StX.pa_star (pe_fld (pe_meth (pv 4) T.cl_Story T.M_Story_happens (ok_Story_happens T) (hr.mono (by decide)) (b_Story_happens T) .nil pass0 (pa_cons (pv 5) pa_nil)) rfl) pa_nil))))
      gss_nil))
      gss_nil))))), ?_⟩
    refine ⟨_, rfl, ⟨⟨src, G, x, rfl, ld, ok, hGH, fun G1 H1 v1 x1 s1 h1 => ?_⟩⟩⟩
    have B1 := (Pt.start hGH).call x1 s1
    refine ⟨_, rfl, check_go ht ?_⟩
    refine ⟨_, rfl, _, rfl, _, _, rfl, rfl, _, rfl, _, _, rfl, rfl, _, _, rfl, rfl, _, _, rfl, ?_⟩
    refine isint_go (by omega) ?_ ⟨_, rfl, ite_f rfl ?_⟩
    · split <;> omega
    refine ⟨_, rfl, ?_⟩
    intro y dy ny nd ne
    obtain ⟨yG, sS, hp2⟩ := story_pre B1 h1 ny nd ne
    refine ⟨⟨y, dy, _, _, x, i, n, rfl, upd_same, yG, sS, hp2, ok, cy, le, fun G' H2 l0 vs0 M yG' hy' hl0 ht0 => ⟨rfl, ?_⟩⟩⟩
    obtain ⟨G2, B2, S2, hS⟩ := story_post B1 ny nd ne M yG' hy' hl0 ht0
    refine ⟨_, rfl, _, rfl, _, _, rfl, rfl, _, _, rfl, ⟨by omega, by omega, by omega, by omega⟩, ?_⟩
    have em : ((t : Int) + (m : Int) - 1 + 1 - (t : Int)).toNat = m := by omega
    rw [em]
    refine gfor_range (lo := (t : Int)) (n := m) (fun j ys σ H' => ∃ (G' : Hp) (v5 : Option V), σ = [some (.str src), some (.int t), some (.int ((t : Int) + (m : Int) - 1)), some v1, some (.ref y), v5] ∧ Pt G H G' H' ∧ StoryAt a K G' (.ref y) x i n ∧ ys.length = j ∧ DpAll K G' ys ((List.range j).map fun k => rowD x (t + k))) ?_ ?_ ?_
    · exact ⟨G2, none, rfl, B2, hS, rfl, .nil⟩
    · rintro j ys σ H' hj ⟨G', v5, rfl, B3, hS3, hys, hD⟩
      obtain ⟨y', dy2, l, vs, eY, hy, hl, hts⟩ := id hS3
      cases eY
      refine ⟨smaller 500 (by omega) (by decide), ?_⟩
      refine ⟨_, rfl, _, rfl, y, dy2, _, rfl, B3.s _ _ hy, (by kernel_rfl), _, rfl, ⟨⟨G', _, x, i, n, t + j, by push_cast; rfl, hS3, cy, B3.s, fun u hu => ?_⟩⟩⟩
      obtain ⟨r, dr, tw, su, rfl, hr1, hr2, _⟩ := hu
      refine ⟨r, _, dr, _, .ref tw, rfl, B3.s _ _ hr1, T.cl_Tick, T.n_Tick_words, (by kernel_rfl), tw, _, rfl, .inl (Same.seqT B3.s hr2), (by show 3 ≤ sizeLine; decide), fun p hp => ?_⟩
      have B4 := B3.new hp (.tup [.int ((t : Int) + (j : Int)), .str (doS (wordsAt x (t + j)).1), .str (doS (wordsAt x (t + j)).2)])
      have g4 := same_new (o := .tup [.int ((t : Int) + (j : Int)), .str (doS (wordsAt x (t + j)).1), .str (doS (wordsAt x (t + j)).2)]) (B3.freeG hp)
      refine ⟨_, _, rfl, B4, hS3.mono g4, by rw [List.length_append, hys]; rfl, ?_⟩
      rw [range_more]
      refine DpAll.snoc (Dp.monoAll g4 _ _ hD) (.tup (SqT.of upd_same) (.cons ?_ (.cons (.str _) (.cons (.str _) .nil))))
      have e : natD (t + j) = .int ((t : Int) + (j : Int)) := by unfold natD; push_cast; rfl
      rw [e]
      exact .int _
    · rintro ys σ H' ⟨G', v5, rfl, B3, hS3, hys, hD⟩
      exact k G' H' ys B3 hD
end
end Sb

namespace Sb
open PySem GenW
open Sem (wp)
/-! ### a run that cannot wake what sleeps goes alike when the sleepers are put back -/
def stuckK : Resume → Sem PySem.Fin := fun _ => .unsupported ""
def frzG : GenState → GenState
  | .suspended _ l c p fs cl => .suspended stuckK l c p fs cl
  | x => x
def RetF : Frame → Prop
  | .ret .. => True
  | .gen .. => False
def RetFs (fs : List Frame) : Prop := ∀ F ∈ fs, RetF F
def RetSt : GenState → Prop
  | .suspended _ _ _ _ fs _ => RetFs fs
  | _ => True
def RetEnd : End → Prop
  | .susp _ _ _ _ _ _ fs => RetFs fs
  | .ret _ => True
theorem RetEnd.st {e : End} (h : RetEnd e) : RetSt e.genState := by
  cases e with
  | ret _ => trivial
  | susp v g l k c p fs => exact h
theorem splitAtGen_ret : ∀ {fs : List Frame}, RetFs fs → splitAtGen fs = none
  | [], _ => rfl
  | .ret _ _ _ _ _ _ _ :: fs, h => by
    show (splitAtGen fs).map _ = none
    rw [splitAtGen_ret fun F hF => h F (List.mem_cons_of_mem _ hF)]
    rfl
  | .gen _ _ _ _ _ :: fs, h => (h _ List.mem_cons_self).elim
theorem no_unsup0 {M : Model} {Γ : Ctx} {p : Pos} {m : String} {s s' : Shared} {e : End} (h : Runs M Γ p (.unsupported m) [] s e s') : False := by
  cases h
theorem no_unsup {M : Model} {Γ : Ctx} {p : Pos} {m : String} {fs : List Frame} {s s' : Shared} {e : End} (h : Runs M Γ p (.unsupported m) fs s e s') : False := by
  cases h with
  | segRet h _ => exact no_unsup0 h
  | segGen h _ => exact no_unsup0 h
  | segSuspOut _ h => exact no_unsup0 h
  | segSuspGen _ h _ _ => exact no_unsup0 h
structure SRel (S : Nat → Prop) (og A B : Array GenState) : Prop where
  size : B.size = A.size
  ins : ∀ i, S i → ∃ k l c p fs cl, og[i]? = some (.suspended k l c p fs cl) ∧ B[i]? = some (.suspended k l c p fs cl) ∧ A[i]? = some (.suspended stuckK l c p fs cl)
  out : ∀ i, ¬ S i → A[i]? = B[i]? ∧ ∀ x, A[i]? = some x → RetSt x
section
variable {S : Nat → Prop} {og A B : Array GenState}
theorem SRel.set (h : SRel S og A B) {g : Nat} (hg : ¬ S g) {x : GenState} (hx : RetSt x) : SRel S og (A.setIfInBounds g x) (B.setIfInBounds g x) := by
  refine ⟨by simp [h.size], fun i hi => ?_, fun i hi => ?_⟩
  · have ne : g ≠ i := fun z => hg (z ▸ hi)
    obtain ⟨k, l, c, p, fs, cl, h1, h2, h3⟩ := h.ins i hi
    exact ⟨k, l, c, p, fs, cl, h1, by rw [Array.getElem?_setIfInBounds_ne ne]; exact h2, by rw [Array.getElem?_setIfInBounds_ne ne]; exact h3⟩
  · obtain ⟨h1, h2⟩ := h.out i hi
    by_cases e : g = i
    · subst e
      rw [Array.getElem?_setIfInBounds_self, Array.getElem?_setIfInBounds_self, h.size]
      refine ⟨rfl, fun y hy => ?_⟩
      split at hy
      · cases hy; exact hx
      · cases hy
    · rw [Array.getElem?_setIfInBounds_ne e, Array.getElem?_setIfInBounds_ne e]
      exact ⟨h1, h2⟩
theorem SRel.push (h : SRel S og A B) (c : Code) : SRel S og (A.push (.fresh c)) (B.push (.fresh c)) := by
  have lt : ∀ {X : Array GenState} {i : Nat} {x : GenState}, X[i]? = some x → i < X.size := fun e => (Array.getElem?_eq_some_iff.mp e).1
  refine ⟨by rw [Array.size_push, Array.size_push, h.size], fun i hi => ?_, fun i hi => ?_⟩
  · obtain ⟨k, l, c, p, fs, cl, h1, h2, h3⟩ := h.ins i hi
    exact ⟨k, l, c, p, fs, cl, h1, by rw [Array.getElem?_push, if_neg (Nat.ne_of_lt (lt h2))]; exact h2, by rw [Array.getElem?_push, if_neg (Nat.ne_of_lt (lt h3))]; exact h3⟩
  · obtain ⟨h1, h2⟩ := h.out i hi
    rw [Array.getElem?_push, Array.getElem?_push, h.size]
    refine ⟨by rw [h1], fun y hy => ?_⟩
    split at hy
    · cases hy; trivial
    · exact h2 y hy
theorem SRel.seen (h : SRel S og A B) {g : Nat} {st : GenState} (e : A[g]? = some st) : ∃ st', B[g]? = some st' ∧ st'.seen = st.seen := by
  by_cases hg : S g
  · obtain ⟨k, l, c, p, fs, cl, h1, h2, h3⟩ := h.ins g hg
    rw [h3] at e
    cases e
    exact ⟨_, h2, rfl⟩
  · have := (h.out g hg).1
    rw [e] at this
    exact ⟨st, this.symm, rfl⟩
theorem SRel.awake (h : SRel S og A B) {g : Nat} {st : GenState} (e : A[g]? = some st) (hn : ∀ l c p fs cl, st ≠ .suspended stuckK l c p fs cl) : ¬ S g ∧ B[g]? = some st ∧ RetSt st := by
  by_cases hg : S g
  · obtain ⟨k, l, c, p, fs, cl, h1, h2, h3⟩ := h.ins g hg
    rw [h3] at e
    cases e
    exact absurd rfl (hn l c p fs cl)
  · obtain ⟨h1, h2⟩ := h.out g hg
    exact ⟨hg, by rw [← h1]; exact e, h2 st e⟩
end
theorem retFs_nil : RetFs [] := fun F h => nomatch h
theorem runs_rel {M : Model} {S : Nat → Prop} {og : Array GenState} {Γ : Ctx} {p : Pos} {t : Sem PySem.Fin} {fs : List Frame} {A A' : Shared} {e : End} (h : Runs M Γ p t fs A e A') :
    RetFs fs → ∀ B, SRel S og A.gens B → ∃ B', Runs M Γ p t fs { A with gens := B } e { A' with gens := B' } ∧ SRel S og A'.gens B' ∧ RetEnd e := by
  induction h with
  | done => exact fun _ B hB => ⟨B, .done, hB, trivial⟩
  | raise => exact fun _ B hB => ⟨B, .raise, hB, trivial⟩
  | again hq _ ih => exact fun hf B hB => let ⟨B', r, h1, h2⟩ := ih hf B hB; ⟨B', .again hq r, h1, h2⟩
  | rule _ ih => exact fun hf B hB => let ⟨B', r, h1, h2⟩ := ih hf B hB; ⟨B', .rule r, h1, h2⟩
  | «at» _ ih => exact fun hf B hB => let ⟨B', r, h1, h2⟩ := ih hf B hB; ⟨B', .at r, h1, h2⟩
  | load ho _ ih => exact fun hf B hB => let ⟨B', r, h1, h2⟩ := ih hf B hB; ⟨B', .load ho r, h1, h2⟩
  | update ho _ ih => exact fun hf B hB => let ⟨B', r, h1, h2⟩ := ih hf B hB; ⟨B', .update ho r, h1, h2⟩
  | loadIfAlive _ ih => exact fun hf B hB => let ⟨B', r, h1, h2⟩ := ih hf B hB; ⟨B', .loadIfAlive r, h1, h2⟩
  | point _ ih => exact fun hf B hB => let ⟨B', r, h1, h2⟩ := ih hf B hB; ⟨B', .point r, h1, h2⟩
  | alloc _ ih => exact fun hf B hB => let ⟨B', r, h1, h2⟩ := ih hf B hB; ⟨B', .alloc r, h1, h2⟩
  | fresh _ ih => exact fun hf B hB => let ⟨B', r, h1, h2⟩ := ih hf B hB; ⟨B', .fresh r, h1, h2⟩
  | ask _ ih => exact fun hf B hB => let ⟨B', r, h1, h2⟩ := ih hf B hB; ⟨B', .ask r, h1, h2⟩
  | choose hn _ ih => exact fun hf B hB => let ⟨B', r, h1, h2⟩ := ih hf B hB; ⟨B', .choose hn r, h1, h2⟩
  | os _ ih => exact fun hf B hB => let ⟨B', r, h1, h2⟩ := ih hf B hB; ⟨B', .os r, h1, h2⟩
  | handled _ ih => exact fun hf B hB => let ⟨B', r, h1, h2⟩ := ih hf B hB; ⟨B', .handled r, h1, h2⟩
  | genState hg _ ih =>
    intro hf B hB
    obtain ⟨st', e1, e2⟩ := hB.seen hg
    obtain ⟨B', r, h1, h2⟩ := ih hf B hB
    exact ⟨B', .genState e1 (by rw [e2]; exact r), h1, h2⟩
  | stack _ ih => exact fun hf B hB => let ⟨B', r, h1, h2⟩ := ih hf B hB; ⟨B', .stack r, h1, h2⟩
  | thread _ ih => exact fun hf B hB => let ⟨B', r, h1, h2⟩ := ih hf B hB; ⟨B', .thread r, h1, h2⟩
  | newGen _ ih =>
    intro hf B hB
    obtain ⟨B', r, h1, h2⟩ := ih hf _ (hB.push _)
    refine ⟨B', .newGen ?_, h1, h2⟩
    rw [← hB.size] at r
    exact r
  | call _ _ ih1 ih2 =>
    intro hf B hB
    obtain ⟨B1, r1, h1, _⟩ := ih1 retFs_nil B hB
    obtain ⟨B2, r2, h2, h3⟩ := ih2 retFs_nil B1 h1
    exact ⟨B2, .call r1 r2, h2, h3⟩
  | callSusp _ ih =>
    intro hf B hB
    obtain ⟨B1, r1, h1, h2⟩ := ih retFs_nil B hB
    refine ⟨B1, .callSusp r1, h1, fun F hF => ?_⟩
    rcases List.mem_append.mp hF with hF | hF
    · exact h2 F hF
    · rw [List.mem_singleton.mp hF]; trivial
  | yield => exact fun _ B hB => ⟨B, .yield, hB, retFs_nil⟩
  | resumeFresh hg _ hq _ ih1 ih2 =>
    intro hf B hB
    obtain ⟨ns, hb, _⟩ := hB.awake hg (fun _ _ _ _ _ z => by cases z)
    obtain ⟨B1, r1, h1, e1⟩ := ih1 retFs_nil _ (hB.set ns (x := .running) trivial)
    obtain ⟨B2, r2, h2, e2⟩ := ih2 retFs_nil _ (h1.set ns e1.st)
    exact ⟨B2, .resumeFresh hb r1 hq r2, h2, e2⟩
  | @resumeSuspended _ _ g _ _ _ s k₀ l₀ c₀ p₀ fs cl _ _ _ _ hg hr hq _ ih1 ih2 =>
    intro hf B hB
    have ns : ¬ S g := fun z => by
      obtain ⟨k, l, c, p, fs, cl, q1, q2, q3⟩ := hB.ins g z
      rw [q3] at hg
      cases hg
      exact no_unsup hr
    obtain ⟨q1, q2⟩ := hB.out g ns
    have hfs : RetFs fs := q2 _ hg
    obtain ⟨B1, r1, h1, e1⟩ := ih1 hfs _ (hB.set ns (x := .running) trivial)
    obtain ⟨B2, r2, h2, e2⟩ := ih2 retFs_nil _ (h1.set ns e1.st)
    exact ⟨B2, .resumeSuspended (by rw [← q1]; exact hg) r1 hq r2, h2, e2⟩
  | resumeJustStarted hg hv _ ih =>
    intro hf B hB
    obtain ⟨ns, hb, _⟩ := hB.awake hg (fun _ _ _ _ _ z => by cases z)
    obtain ⟨B', r, h1, h2⟩ := ih hf B hB
    exact ⟨B', .resumeJustStarted hb hv r, h1, h2⟩
  | resumeThrowFresh hg _ ih =>
    intro hf B hB
    obtain ⟨ns, hb, _⟩ := hB.awake hg (fun _ _ _ _ _ z => by cases z)
    obtain ⟨B', r, h1, h2⟩ := ih hf _ (hB.set ns (x := .finished) trivial)
    exact ⟨B', .resumeThrowFresh hb r, h1, h2⟩
  | resumeRunning hg _ ih =>
    intro hf B hB
    obtain ⟨ns, hb, _⟩ := hB.awake hg (fun _ _ _ _ _ z => by cases z)
    obtain ⟨B', r, h1, h2⟩ := ih hf B hB
    exact ⟨B', .resumeRunning hb r, h1, h2⟩
  | resumeFinished hg _ ih =>
    intro hf B hB
    obtain ⟨ns, hb, _⟩ := hB.awake hg (fun _ _ _ _ _ z => by cases z)
    obtain ⟨B', r, h1, h2⟩ := ih hf B hB
    exact ⟨B', .resumeFinished hb r, h1, h2⟩
  | segRet _ _ ih1 ih2 =>
    intro hf B hB
    obtain ⟨B1, r1, h1, _⟩ := ih1 retFs_nil B hB
    obtain ⟨B2, r2, h2, h3⟩ := ih2 (fun F hF => hf F (List.mem_cons_of_mem _ hF)) B1 h1
    exact ⟨B2, .segRet r1 r2, h2, h3⟩
  | segGen _ _ _ _ => exact fun hf => (hf _ List.mem_cons_self).elim
  | segSuspOut hs _ ih =>
    intro hf B hB
    obtain ⟨B1, r1, h1, h2⟩ := ih retFs_nil B hB
    refine ⟨B1, .segSuspOut hs r1, h1, fun F hF => ?_⟩
    rcases List.mem_append.mp hF with hF | hF
    · exact h2 F hF
    · exact hf F hF
  | segSuspGen hs _ _ _ _ _ =>
    intro hf
    rw [splitAtGen_ret hf] at hs
    cases hs
theorem wakes_rel {M : Model} {S : Nat → Prop} {og B : Array GenState} {Γ : Ctx} {p : Pos} {g : Nat} {r : Resume} {A A' : Shared} {res : GenResult} (h : Wakes M Γ p g r A res A') (hB : SRel S og A.gens B) :
    ∃ B', Wakes M Γ p g r { A with gens := B } res { A' with gens := B' } ∧ SRel S og A'.gens B' := by
  unfold Wakes at h
  cases hg : A.gens[g]? with
  | none => rw [hg] at h; exact h.elim
  | some st =>
    rw [hg] at h
    cases st with
    | fresh c =>
      obtain ⟨ns, hb, _⟩ := hB.awake hg (fun _ _ _ _ _ z => by cases z)
      have hb' : ({ A with gens := B } : Shared).gens[g]? = some (.fresh c) := hb
      dsimp only at h
      split at h
      · obtain ⟨e₁, s₁, hr, hq, rfl, rfl⟩ := h
        obtain ⟨B1, r1, h1, e1⟩ := runs_rel hr retFs_nil _ (hB.set ns (x := .running) trivial)
        refine ⟨_, ?_, h1.set ns e1.st⟩
        unfold Wakes
        rw [hb']
        exact ⟨e₁, _, r1, hq, rfl, rfl⟩
      · obtain ⟨rfl, rfl⟩ := h
        refine ⟨B, ?_, hB⟩
        unfold Wakes
        rw [hb']
        rename_i v hv
        cases v with
        | none => exact (hv rfl).elim
        | _ => exact ⟨rfl, rfl⟩
      · obtain ⟨rfl, rfl⟩ := h
        refine ⟨_, ?_, hB.set ns (x := .finished) trivial⟩
        unfold Wakes
        rw [hb']
        exact ⟨rfl, rfl⟩
    | suspended k₀ l₀ c₀ p₀ fs cl =>
      obtain ⟨e₁, s₁, hr, hq, rfl, rfl⟩ := h
      have ns : ¬ S g := fun z => by
        obtain ⟨k, l, c, p, fs, cl, q1, q2, q3⟩ := hB.ins g z
        rw [q3] at hg
        cases hg
        exact no_unsup hr
      obtain ⟨q1, q2⟩ := hB.out g ns
      obtain ⟨B1, r1, h1, e1⟩ := runs_rel hr (q2 _ hg) _ (hB.set ns (x := .running) trivial)
      refine ⟨_, ?_, h1.set ns e1.st⟩
      unfold Wakes
      rw [show ({ A with gens := B } : Shared).gens[g]? = some (.suspended k₀ l₀ c₀ p₀ fs cl) from by rw [← q1]; exact hg]
      exact ⟨e₁, _, r1, hq, rfl, rfl⟩
    | running =>
      obtain ⟨ns, hb, _⟩ := hB.awake hg (fun _ _ _ _ _ z => by cases z)
      obtain ⟨rfl, rfl⟩ := h
      refine ⟨B, ?_, hB⟩
      unfold Wakes
      rw [show ({ A' with gens := B } : Shared).gens[g]? = some .running from hb]
      exact ⟨rfl, rfl⟩
    | finished =>
      obtain ⟨ns, hb, _⟩ := hB.awake hg (fun _ _ _ _ _ z => by cases z)
      obtain ⟨rfl, rfl⟩ := h
      refine ⟨B, ?_, hB⟩
      unfold Wakes
      rw [show ({ A' with gens := B } : Shared).gens[g]? = some .finished from hb]
      exact ⟨rfl, rfl⟩
theorem wp_rel {α : Type} (M : Model) (Γ : Ctx) (S : Nat → Prop) (og : Array GenState) (t : Sem α) : ∀ (Q : α → Pos → Shared → Prop) (E : Value → Pos → Shared → Prop) (p : Pos) (A : Shared) (B : Array GenState), SRel S og A.gens B → wp M Γ t Q E p A →
    wp M Γ t (fun a p' s' => ∃ A', s' = { A' with gens := s'.gens } ∧ SRel S og A'.gens s'.gens ∧ Q a p' A') (fun e p' s' => ∃ A', s' = { A' with gens := s'.gens } ∧ SRel S og A'.gens s'.gens ∧ E e p' A') p { A with gens := B } := by
  induction t with
  | pure a => intro Q E p A B hB h; exact ⟨A, rfl, hB, h⟩
  | raise e => intro Q E p A B hB h; exact ⟨A, rfl, hB, h⟩
  | unsupported _ => intro Q E p A B _ h; exact h
  | finish _ => intro Q E p A B _ h; exact h
  | rule _ k ih => intro Q E p A B hB h; exact ih () Q E p A B hB h
  | «at» p' k ih => intro Q E p A B hB h; exact ih () Q E p' A B hB h
  | load a _ k ih => intro Q E p A B hB h; obtain ⟨o, ho, h⟩ := h; exact ⟨o, ho, ih o Q E p A B hB h⟩
  | update a _ f k ih => intro Q E p A B hB h; exact ⟨h.1, ih () Q E p { A with heap := A.heap.update a f } B hB h.2⟩
  | loadIfAlive a k ih => intro Q E p A B hB h; exact ih _ Q E p A B hB h
  | point _ k ih => intro Q E p A B hB h; exact ih () Q E p A B hB h
  | register _ _ => intro Q E p A B _ h; exact h
  | alloc o k ih => intro Q E p A B hB h; exact ih _ Q E p { A with heap := A.heap.push o } B hB h
  | fresh k ih => intro Q E p A B hB h; exact ih _ Q E p { A with toks := A.toks + 1 } B hB h
  | ask k ih => intro Q E p A B hB h; exact ih _ Q E p A B hB h
  | choose src m k ih => intro Q E p A B hB h; exact ⟨h.1, ih _ Q E p { A with drawn := A.drawn.bump src } B hB h.2⟩
  | os q _ k ih => intro Q E p A B hB h; exact ih _ Q E p { A with os := (Os.step A.os q).1 } B hB h
  | call c hd _ _ k ih =>
    intro Q E p A B hB h
    obtain ⟨r, s', hr, h⟩ := h
    obtain ⟨B', r1, h1, _⟩ := runs_rel hr retFs_nil B hB
    exact ⟨r, _, r1, ih r Q E p s' B' h1 h⟩
  | handled own k ih => intro Q E p A B hB h; exact ih _ Q E p A B hB h
  | genState g k ih =>
    intro Q E p A B hB h
    obtain ⟨st, hs, h⟩ := h
    obtain ⟨st', e1, e2⟩ := hB.seen hs
    exact ⟨st', e1, by rw [e2]; exact ih _ Q E p A B hB h⟩
  | newGen c k ih =>
    intro Q E p A B hB h
    have := ih _ Q E p _ _ (hB.push c) h
    rw [← hB.size] at this
    exact this
  | resume g r _ k ih =>
    intro Q E p A B hB h
    obtain ⟨res, s', hw, h⟩ := h
    obtain ⟨B', w1, h1⟩ := wakes_rel hw hB
    exact ⟨res, _, w1, ih res Q E p s' B' h1 h⟩
  | yield _ _ _ _ => intro Q E p A B _ h; exact h
  | stack k ih => intro Q E p A B hB h; exact ih _ Q E p A B hB h
  | fork _ _ => intro Q E p A B _ h; exact h
  | thread k ih => intro Q E p A B hB h; exact ih _ Q E p A B hB h
  | await _ _ _ _ _ => intro Q E p A B _ h; exact h
/-- the sleepers' state, put aside -/
def frzS (s : Shared) : Shared := { s with gens := s.gens.map frzG }
def SleepS (s : Shared) (i : Nat) : Prop := ∃ k l c p fs cl, s.gens[i]? = some (.suspended k l c p fs cl)
theorem srel_frz (s : Shared) : SRel (SleepS s) s.gens (frzS s).gens s.gens := by
  refine ⟨(Array.size_map).symm, fun i hi => ?_, fun i hi => ?_⟩
  · obtain ⟨k, l, c, p, fs, cl, h⟩ := hi
    refine ⟨k, l, c, p, fs, cl, h, h, ?_⟩
    show (s.gens.map frzG)[i]? = _
    rw [Array.getElem?_map, h]
    rfl
  · show (s.gens.map frzG)[i]? = _ ∧ ∀ x, (s.gens.map frzG)[i]? = some x → _
    rw [Array.getElem?_map]
    cases e : s.gens[i]? with
    | none => exact ⟨rfl, fun x hx => by cases hx⟩
    | some y =>
      cases y with
      | suspended k l c p fs cl => exact absurd ⟨k, l, c, p, fs, cl, e⟩ hi
      | fresh c => exact ⟨rfl, fun x hx => by cases hx; trivial⟩
      | running => exact ⟨rfl, fun x hx => by cases hx; trivial⟩
      | finished => exact ⟨rfl, fun x hx => by cases hx; trivial⟩
/-- what holds of a run in which nothing that sleeps can wake, holds with the sleepers as they are, and they stay so -/
theorem wpAny_sleep {α : Type} {M : Model} {A : Around} {s : Shared} {t : Sem α} {Q : α → Shared → Prop} {E : Value → Shared → Prop}
    (h : wpAny M A t (fun a (s' : Shared) => ∀ s2 : Shared, s2 = { s' with gens := s2.gens } → SRel (SleepS s) s.gens s'.gens s2.gens → Q a s2) (fun e (s' : Shared) => ∀ s2 : Shared, s2 = { s' with gens := s2.gens } → SRel (SleepS s) s.gens s'.gens s2.gens → E e s2) (frzS s)) : wpAny M A t Q E s :=
  wpAny_mono (fun Γ p hΓ => wp_rel M Γ (SleepS s) s.gens t _ _ p (frzS s) s.gens (srel_frz s) (h Γ p hΓ) : wpAny M A t (fun a (s' : Shared) => ∃ A' : Shared, s' = { A' with gens := s'.gens } ∧ SRel (SleepS s) s.gens A'.gens s'.gens ∧ (∀ s2 : Shared, s2 = { A' with gens := s2.gens } → SRel (SleepS s) s.gens A'.gens s2.gens → Q a s2)) (fun e (s' : Shared) => ∃ A' : Shared, s' = { A' with gens := s'.gens } ∧ SRel (SleepS s) s.gens A'.gens s'.gens ∧ (∀ s2 : Shared, s2 = { A' with gens := s2.gens } → SRel (SleepS s) s.gens A'.gens s2.gens → E e s2)) s)
    (fun _ _ ⟨_, e, r, q⟩ => q _ e r) fun _ _ ⟨_, e, r, q⟩ => q _ e r
end Sb

namespace Sb
open PySem PySem.Spec PyProof.Rows L2 GenW
/-! ### a generator def whose consumer is a block of its own: between two turns the block may change what is its own -/
def truncH (n : Nat) (h : Heap) : Heap := { objs := h.objs.extract 0 n, life := h.life }
def truncS (n : Nat) (s : Shared) : Shared := { s with heap := truncH n s.heap }
theorem truncH_lt {n : Nat} {h : Heap} {b : Addr} (hb : b < n) : (truncH n h).get? b = h.get? b := by
  unfold truncH Heap.get?
  have : (h.objs.extract 0 n)[b]? = h.objs[b]? := by
    rw [Array.getElem?_extract]
    split
    · rw [Nat.zero_add]
    · rename_i hn
      refine (Array.getElem?_eq_none (Nat.le_of_not_lt fun h2 => hn ?_)).symm
      exact Nat.lt_min.mpr ⟨hb, h2⟩
  rw [this]
theorem truncH_ge {n : Nat} {h : Heap} {b : Addr} {o : Obj} (e : (truncH n h).get? b = some o) : b < n ∧ h.get? b = some o := by
  have h1 := Heap.lt_size e
  have h2 : (truncH n h).objs.size ≤ n := by
    show (h.objs.extract 0 n).size ≤ n
    rw [Array.size_extract]
    omega
  have hb : b < n := Nat.lt_of_lt_of_le h1 h2
  exact ⟨hb, by rw [← truncH_lt hb]; exact e⟩
theorem truncH_size {n : Nat} {h : Heap} (hn : n ≤ h.objs.size) : (truncH n h).objs.size = n := by
  show (h.objs.extract 0 n).size = n
  rw [Array.size_extract]
  omega
theorem truncH_le {n : Nat} {h : Heap} : (truncH n h).objs.size ≤ n := by
  show (h.objs.extract 0 n).size ≤ n
  rw [Array.size_extract]
  omega
abbrev Pnj := List (Addr × Obj)
abbrev Tau := Nat × L2.St
/-- the context as it is from the last turn on -/
def atJ (X : Cx) (s : Shared) (H : Hp) : Cx := { X with s_0 := truncS X.s_0.heap.objs.size s, H_0 := H }
/-- what the consumer must have kept when it wakes the generator -/
structure Back (X : Cx) (s : Shared) (H : Hp) : Prop where
  os : s.os = X.s_0.os
  bare : AllBare s.gens
  bs : ∀ b o, X.base.get? b = some o → s.heap.get? b = some o ∧ H b = none
  funs : s.heap.FunFrames X.base X.outer
  frf : ∀ b ∈ X.fs, H b = none
  hok : HOk X.prog X.w H s.heap
  sz : X.s_0.heap.objs.size ≤ s.heap.objs.size
structure KeptJ (X : Cx) (ip : Pnj) (s s' : Shared) (H : Hp) : Prop where
  loc : ∀ o, s.heap.get? X.env.locals = some o → s'.heap.get? X.env.locals = some o
  free : H X.env.locals = none
  pin : ∀ p ∈ X.pn ++ ip, s'.heap.get? p.1 = some p.2 ∧ H p.1 = none
/-- the context's own facts, that do not change -/
structure FamOk (X : Cx) : Prop where
  ok : X.Ok
  nocell : ∀ x c, X.env.cells.lookup x ≠ some c
  ex : X.ex = []
  xe : X.xe = fun _ _ => False
section
variable {X : Cx} {ip : Pnj} {σ : L2.St} {H H' H0 : Hp} {s s' s0 : Shared}
theorem funs_trunc {n : Nat} {base h g : Heap} : ∀ {l : List Env}, h.FunFrames base l → g.FunFrames base l → g.objs.size ≤ n → (truncH n h).FunFrames base l
  | [], _, _, _ => trivial
  | env :: r, ⟨hk, ⟨L, o, hf, hn, ho, hd⟩, hr⟩, ⟨_, ⟨L', o', hf', _, ho', _⟩, hr'⟩, hsz => by
    have eL : L' = L := by rw [hf] at hf'; exact (Option.some.inj hf').symm
    have hlt : L < n := Nat.lt_of_lt_of_le (by rw [← eL]; exact Heap.lt_size ho') hsz
    exact ⟨hk, ⟨L, o, hf, hn, by rw [truncH_lt hlt]; exact ho, hd⟩, funs_trunc hr hr' hsz⟩
theorem atJ_ok (F : FamOk X) (B : Back X s H) : (atJ X s H).Ok := by
  have hsz := B.sz
  have k := F.ok
  refine ⟨k.mod, k.kind, k.glob, k.blt, Nat.le_trans truncH_le k.above, k.inj, k.has, fun x c _ e => absurd e (F.nocell x c), k.hd, k.frames, k.stk, k.exf, fun b o e => ?_, ?_, k.noex, k.exfs, ?_, B.frf⟩
  · have hb : b < X.s_0.heap.objs.size := Heap.lt_size (k.bs b o e).1
    exact ⟨by show (truncH _ s.heap).get? b = _; rw [truncH_lt hb]; exact (B.bs b o e).1, (B.bs b o e).2⟩
  · show X.base.objs.size ≤ (truncH _ s.heap).objs.size
    rw [truncH_size hsz]
    exact k.bsz
  · exact funs_trunc B.funs k.funs (Nat.le_refl _)
theorem un_trunc {fs : List Addr} {n : Nat} {h : Heap} {H : Hp} : Un fs [] H H (truncH n h) h where
  keep := fun b o e _ _ _ => (truncH_ge e).2
  slot := fun b o e _ _ _ => ⟨o.slots, (truncH_ge e).2⟩
  free := fun b o _ hn _ => hn
  there := fun b o e _ => ⟨o, (truncH_ge e).2⟩
  tups := fun _ _ e => e
  frzs := fun _ _ _ e => e
  tbls := fun b ps e => ⟨#[], by rw [e]; simp⟩
theorem Inv.wakeJ (F : FamOk X) (I : Inv (atJ X s0 H0) ip σ H s) (B : Back X s' H') (K : KeptJ X ip s s' H') : Inv (atJ X s' H') ip σ H' s' := by
  obtain ⟨m, ⟨o, es, ep, ho, r⟩, hl⟩ := id I.loc
  have ho' : s'.heap.get? X.env.locals = some o := K.loc o ho
  have noc : ∀ x c, (atJ X s0 H0).env.cells.lookup x ≠ some c := F.nocell
  refine ⟨atJ_ok F B, rfl, B.bare, ?_, ⟨m, ⟨o, es, ep, ho', r⟩, fun i x v e1 e2 e3 => ?_⟩, fun x c e => absurd e (F.nocell x c), K.free, fun x c e => absurd e (F.nocell x c), fun p hp => ?_, B.hok, I.len⟩
  · show Un X.fs X.ex H' H' (truncH _ s'.heap) s'.heap
    rw [F.ex]
    exact un_trunc
  · obtain ⟨u, ru, l⟩ := hl i x v e1 e2 e3
    rcases l with l | ⟨_, c, e, _⟩
    · exact ⟨u, ru, .inl l⟩
    · exact absurd e (noc x c)
  · obtain ⟨q1, q2, q3, q4, q5⟩ := I.pin p hp
    exact ⟨(K.pin p hp).1, (K.pin p hp).2, q3, q4, q5⟩
end
abbrev YL := Tau → V → Hp → (Tau → Hp → Prop) → Prop
abbrev CSj := Tau → Shared → Hp → Prop
structure JEnds where
  nx : Tau → L2.St → Hp → Prop
  rt : Tau → VK
  bk : Tau → L2.St → Hp → Prop := fun _ _ _ => False
  ct : Tau → L2.St → Hp → Prop := fun _ _ _ => False
abbrev TJ := YL → JEnds → Tau → L2.St → Hp → Prop
def JEnds.at (D : JEnds) (τ : Tau) : Ends := { nx := D.nx τ, rt := D.rt τ, bk := D.bk τ, ct := D.ct τ }
def JI (X : Cx) (CS : CSj) (ip : Pnj) (τ : Tau) (s₀ : Shared) (σ : L2.St) (H : Hp) (s : Shared) : Prop := ∃ H₀, CS τ s₀ H₀ ∧ Inv (atJ X s₀ H₀) ip σ H s
/-- the generator hands out a row and sleeps -/
def JY (X : Cx) (CS : CSj) (yl : YL) : Protocol := fun n s₀ v s kap =>
  ∃ (τ : Tau) (x : V) (ip : Pnj) (σ : L2.St) (H₀ H : Hp) (k : Tau → Hp → Prop), n + 1 + τ.1 = sizeLine ∧ RelV x v ∧ CS τ s₀ H₀ ∧ Inv (atJ X s₀ H₀) ip σ H s ∧ yl τ x H k ∧
    ∀ (τ' : Tau) (H' : Hp) (s' : Shared), τ'.1 = τ.1 + 1 → k τ' H' → CS τ' s' H' → KeptJ X ip s s' H' → kap (.send .none) s'
def JSP (X : Cx) (CS : CSj) (ip : Pnj) (D : JEnds) (τ : Tau) (s₀ : Shared) (f : Flow) (s : Shared) : Prop :=
  match f with
  | .next => ∃ σ H, JI X CS ip τ s₀ σ H s ∧ D.nx τ σ H
  | .brk => ∃ σ H, JI X CS ip τ s₀ σ H s ∧ D.bk τ σ H
  | .cont => ∃ σ H, JI X CS ip τ s₀ σ H s ∧ D.ct τ σ H
  | .ret u => ∃ v σ H, JI X CS ip τ s₀ σ H s ∧ RelV v u ∧ D.rt τ v H
structure JC (X : Cx) (A : Around) (c : Code) (fs : List Frame) (gd : Bool → Bool) : Prop where
  over : A.over c fs = X.A
  split : splitAtGen fs = none
  guard : fs.any Frame.guarded = false
  gd : gd false = false
def JK (X : Cx) (CS : CSj) (yl : YL) (ip : Pnj) (A : Around) (R : GenEnd) (c : Code) (fs : List Frame) (K : Flow → Sem PySem.Fin) (D : JEnds) : Prop :=
  ∀ (n : Nat) (τ : Tau) (s₀ s : Shared) (f : Flow), n + τ.1 = sizeLine → JSP X CS ip D τ s₀ f s → Seg (model X.prog X.w) A R (JY X CS yl) n s₀ c (K f) fs s
structure JS (X : Cx) (st : Stmt) (t : TJ) : Prop where
  run : ∀ (CS : CSj) (yl : YL) (A : Around) (ip : Pnj) (R : GenEnd) (n : Nat) (τ : Tau) (s₀ : Shared) (c : Code) (fs : List Frame) (K : Flow → Sem PySem.Fin) (J : Value → Sem PySem.Fin) (gd : Bool → Bool) (lv : List Value → List Value) (s : Shared) (σ : L2.St) (H : Hp) (D : JEnds),
    FamOk X → (∀ τ s H, CS τ s H → Back X s H) → JC X A c fs gd → n + τ.1 = sizeLine → JK X CS yl ip A R c fs K D → JI X CS ip τ s₀ σ H s → t yl D τ σ H → Seg (model X.prog X.w) A R (JY X CS yl) n s₀ c ((exec st X.env).wrap K J gd lv) fs s
structure JSs (X : Cx) (st : List Stmt) (t : TJ) : Prop where
  run : ∀ (CS : CSj) (yl : YL) (A : Around) (ip : Pnj) (R : GenEnd) (n : Nat) (τ : Tau) (s₀ : Shared) (c : Code) (fs : List Frame) (K : Flow → Sem PySem.Fin) (J : Value → Sem PySem.Fin) (gd : Bool → Bool) (lv : List Value → List Value) (s : Shared) (σ : L2.St) (H : Hp) (D : JEnds),
    FamOk X → (∀ τ s H, CS τ s H → Back X s H) → JC X A c fs gd → n + τ.1 = sizeLine → JK X CS yl ip A R c fs K D → JI X CS ip τ s₀ σ H s → t yl D τ σ H → Seg (model X.prog X.w) A R (JY X CS yl) n s₀ c ((execs st X.env).wrap K J gd lv) fs s
section
variable {X : Cx} {st : Stmt} {rest : List Stmt}
def tJPlain (t : TS) : TJ := fun _ D τ σ H => t (D.at τ) σ H
theorem sp_jsp {CS : CSj} {ip : Pnj} {s s₀ : Shared} {H₀ : Hp} {D : JEnds} {τ : Tau} {f : Flow} (hc : CS τ s₀ H₀) (h : SP (atJ X s₀ H₀) ip (D.at τ) f s) : JSP X CS ip D τ s₀ f s := by
  cases f with
  | next => obtain ⟨σ, H, I, q⟩ := h; exact ⟨σ, H, ⟨H₀, hc, I⟩, q⟩
  | brk => obtain ⟨σ, H, I, q⟩ := h; exact ⟨σ, H, ⟨H₀, hc, I⟩, q⟩
  | cont => obtain ⟨σ, H, I, q⟩ := h; exact ⟨σ, H, ⟨H₀, hc, I⟩, q⟩
  | ret u => obtain ⟨v, σ, H, I, r1, q⟩ := h; exact ⟨v, σ, H, ⟨H₀, hc, I⟩, r1, q⟩
theorem js_ps {t : TS} (h : ∀ (s₀ : Shared) (H₀ : Hp), PS (atJ X s₀ H₀) st t) : JS X st (tJPlain t) := by
  refine ⟨fun CS yl A ip R n τ s₀ c fs K J gd lv s σ H D F hCS g hn k hI ht => ?_⟩
  obtain ⟨H₀, hc, I⟩ := hI
  refine seg_wrap ?_
  rw [g.over]
  refine wpAny_mono ((h s₀ H₀).run _ s σ H (D.at τ) I ht) (fun f s' hs => k n τ s₀ s' f hn (sp_jsp hc hs)) fun x s' hx => ?_
  have hx : X.xe x s' := hx
  rw [F.xe] at hx
  exact hx.elim
def tJ0 : TJ := fun _ D τ σ H => D.nx τ σ H
theorem jss_nil : JSs X [] tJ0 := by
  refine ⟨fun CS yl A ip R n τ s₀ c fs K J gd lv s σ H D F hCS g hn k hI ht => ?_⟩
  exact seg_execs_nil (k n τ s₀ s .next hn ⟨σ, H, hI, ht⟩)
def tJThen (t u : TJ) : TJ := fun yl D τ σ H => t yl { D with nx := fun τ' σ' H' => u yl D τ' σ' H' } τ σ H
theorem jss_cons {t u : TJ} (a : JS X st t) (b : JSs X rest u) : JSs X (st :: rest) (tJThen t u) := by
  refine ⟨fun CS yl A ip R n τ s₀ c fs K J gd lv s σ H D F hCS g hn k hI ht => ?_⟩
  refine seg_execs_cons ?_
  refine a.run CS yl A ip R n τ s₀ c fs _ J gd lv s σ H { D with nx := fun τ' σ' H' => u yl D τ' σ' H' } F hCS g hn (fun n' τ' s₀' s' f hn' hs => ?_) hI ht
  cases f with
  | next =>
    obtain ⟨σ', H', I', q⟩ := hs
    exact b.run CS yl A ip R n' τ' s₀' c fs K J gd lv s' σ' H' D F hCS g hn' k I' q
  | brk => exact k n' τ' s₀' s' .brk hn' hs
  | cont => exact k n' τ' s₀' s' .cont hn' hs
  | ret u => exact k n' τ' s₀' s' (.ret u) hn' hs
/-- yield -/
def tJYield (te : TE) : TJ := fun yl D τ σ H => τ.1 < sizeLine ∧ te σ H fun x H1 => yl τ x H1 fun τ' H2 => D.nx τ' σ H2
theorem js_yield {e : Expr} {yp pos : Pos} {te : TE} (he : ∀ (s₀ : Shared) (H₀ : Hp), PE (atJ X s₀ H₀) e te) (hco : X.env.scope.isCoroutine = false := by rfl) (hi : interactive X.env = false := by rfl) : JS X (.Expr (.Yield (some e) yp) pos) (tJYield te) := by
  refine ⟨fun CS yl A ip R n τ s₀ c fs K J gd lv s σ H D F hCS g hn k hI ht => ?_⟩
  obtain ⟨hlt, ht⟩ := ht
  obtain ⟨n, rfl⟩ : ∃ m, n = m + 1 := ⟨n - 1, by omega⟩
  obtain ⟨H₀, hc, I⟩ := hI
  refine seg_Expr_Yield g.split g.gd g.guard ?_ hco hi
  rw [g.over]
  refine wpAny_mono ((he s₀ H₀).run _ s σ H _ I ht) (fun v s' hv => ?_) fun x s' hx => ?_
  · obtain ⟨x, H1, I1, rv, q⟩ := hv
    intro kap hk
    refine ⟨τ, x, ip, σ, H₀, H1, _, hn, rv, hc, I1, q, fun τ' H' s'' e1 q' hc' kp => hk .none s'' ?_⟩
    exact k n τ' s'' s'' .next (by omega) ⟨σ, H', ⟨H', hc', Inv.wakeJ F I1 (hCS _ _ _ hc') kp⟩, q'⟩
  · have hx : X.xe x s' := hx
    rw [F.xe] at hx
    exact hx.elim
end
end Sb

namespace Sb
open PySem PySem.Spec PyProof.Rows L2 GenW
section
variable {X : Cx} {A : Around} {c c' : Code} {fs : List Frame} {gd : Bool → Bool}
theorem jc_loop {k : Result → Sem PySem.Fin} {l kp : List Value} {p : Pos} (g : JC X A c fs gd) (hw : c'.weight = 0) (hu : c'.cUnits = 0) : JC X A c' (.ret k none (gd false) l c p kp :: fs) id := by
  refine ⟨(over_loop hw hu).trans g.over, ?_, ?_, rfl⟩
  · show (splitAtGen fs).map _ = none
    rw [g.split]
    rfl
  · show (gd false || fs.any Frame.guarded) = false
    rw [g.gd, g.guard]
    rfl
end
section
variable {X : Cx} {tg : Expr}
def tJFor (wi : TI) (g : TG) (tb : TJ) : TJ := fun yl D τ σ H => wi σ H fun J H1 => ∃ W : Nat → Nat → Tau → L2.St → Hp → Prop, (∃ m, W 0 m τ σ H1) ∧ ∀ i m τ σ H, W i m τ σ H →
  (J.stop i H ∧ D.nx τ σ H) ∨ (J.go i H ∧ ∃ N : Tau → L2.St → Hp → Prop, (∀ τ' σ' H', N τ' σ' H' → ∃ m', m' < m ∧ W (i + 1) m' τ' σ' H') ∧ ∀ x H', J.yld i H x H' → g x σ H' fun σ2 H2 => tb yl { D with nx := N, ct := N, bk := D.nx } τ σ2 H2)
theorem js_for {iter : Expr} {body : List Stmt} {wi : TI} {g : TG} {tb : TJ} {pos : Pos} (hc : X.calm = true) (hi : ∀ (s₀ : Shared) (H₀ : Hp), PI (atJ X s₀ H₀) tg iter wi) (hg : ∀ (s₀ : Shared) (H₀ : Hp), PG (atJ X s₀ H₀) tg g) (hb : JSs X body tb)
    (hs : ∀ x, foldedSetIterable iter X.env x = pure x := by intro _; rfl) : JS X (.For tg iter body [] pos) (tJFor wi g tb) := by
  refine ⟨fun CS yl A ip R n τ s₀ c fs K J gd lv s σ H D F hCS gc hn k hI ht => ?_⟩
  obtain ⟨H₀, hc0, I0⟩ := hI
  have noE : ∀ {s₀ : Shared} {H₀ : Hp} {P : Prop} {x : Value} {s' : Shared}, (atJ X s₀ H₀).xe x s' → P := fun {s₀ H₀ P x s'} hx => by
    have hx : X.xe x s' := hx
    rw [F.xe] at hx
    exact hx.elim
  refine seg_For ?_ hs
  rw [gc.over]
  refine wpAny_mono ((hi s₀ H₀).run _ s σ H _ I0 ht) (fun v s1 h1 => wpAny_mono h1 (fun itv s2 h2 => ?_) fun x s' hx => noE hx) fun x s' hx => noE hx
  intro p
  obtain ⟨it, fp, tn, JJ, H2, e, I2, T, st2, f2, W, ⟨m0, w0⟩, turn⟩ := h2
  subst e
  have gl := fun (kk : Result → Sem PySem.Fin) => jc_loop (k := kk) (c' := .forLoop tg (.ref it) body [] X.env) (l := lv []) (kp := []) (p := p) gc rfl rfl
  have far : ∀ b ∈ fp, X.s_0.heap.objs.size ≤ b := fun b hb => by
    rcases (f2 b hb).2.2.2.1 with z | z
    · have z : b ∈ X.ex := z
      rw [F.ex] at z
      cases z
    · have z : (truncH X.s_0.heap.objs.size s₀.heap).objs.size ≤ b := z
      rw [truncH_size (hCS _ _ _ hc0).sz] at z
      exact z
  have loop : ∀ (m i n : Nat) (τ : Tau) (s₀ : Shared) (H₀ : Hp) (s : Shared) (σ : L2.St) (H : Hp), n + τ.1 = sizeLine → W i m τ σ H → CS τ s₀ H₀ → Inv (atJ X s₀ H₀) ip σ H s → tn i s.heap → (∀ b ∈ fp, H b = none) →
      Seg (model X.prog X.w) A R (JY X CS yl) n s₀ (.forLoop tg (.ref it) body [] X.env) ((model X.prog X.w).den (.forLoop tg (.ref it) body [] X.env))
        (.ret (fun r => ((match r with | .ok f => (.pure f : Sem Flow) | .error e => .raise e).onRaise (cameBack X.env)).wrap K J gd lv) none (gd false) (lv []) c p [] :: fs) s := by
    intro m
    induction m using Nat.strongRecOn with
    | ind m ih =>
      intro i n τ s₀ H₀ s σ H hn w hcs I st fr
      have stat : ∀ {H' : Hp}, (∀ b ∈ fp, H' b = none) → ∀ b ∈ fp, FpOk (atJ X s₀ H₀) ip H' b := fun {H'} hn b hb => by
        obtain ⟨f0, f1, f3, f4, f5, f6⟩ := f2 b hb
        exact ⟨hn b hb, f1, f3, .inr (Nat.le_trans truncH_le (far b hb)), f5, f6⟩
      refine seg_forLoop ?_
      rw [(gl _).over]
      rcases turn i m τ σ H w with ⟨stop, qn⟩ | ⟨go, N, hN, step⟩
      · refine wpAny_mono (T.done (atJ X s₀ H₀) rfl rfl rfl hc i _ s σ H (fun _ _ => False) I (stat fr) st stop) (fun r' s4 ⟨hr, I4⟩ => ?_) fun x s' hx => hx.elim
        subst hr
        refine seg_again rfl ?_
        exact seg_leaf (.ok .next) (k n τ s₀ s4 .next hn ⟨σ, H, ⟨H₀, hcs, I4⟩, qn⟩)
      · refine wpAny_mono (T.item (atJ X s₀ H₀) rfl rfl rfl hc i _ s σ H (fun _ _ => False) I (stat fr) st go) (fun r' s4 ⟨u, hr, h4⟩ => ?_) fun x s' hx => hx.elim
        subst hr
        refine wpAny_mono h4 (fun _ s5 ⟨x, H5, I5, r5, y5, st5, fr5⟩ => ?_) fun x s' hx => hx.elim
        have I5' := I5.pinned (stat fr5) (T.obj _ _ st5)
        refine wpAny_mono ((hg s₀ H₀).run _ s5 σ H5 x u _ I5' r5 (step x H5 y5)) (fun _ s6 ⟨σ6, H6, I6, q6⟩ => ?_) fun x s' hx => noE hx
        have un : ∀ {τ' : Tau} {s₀' s7 : Shared} {σ7 : L2.St} {H7 : Hp}, JI X CS (ip ++ pinsAt fp s5.heap) τ' s₀' σ7 H7 s7 → JI X CS ip τ' s₀' σ7 H7 s7 := fun {τ' s₀' s7 σ7 H7} ⟨H₀', c7, I7⟩ => by
          refine ⟨H₀', c7, I7.pins_of fun q hq => I7.pin q ?_⟩
          exact List.mem_append_right _ (List.mem_append_left _ hq)
        have again : ∀ {n' : Nat} {τ' : Tau} {s₀' s7 : Shared} {σ7 : L2.St} {H7 : Hp}, n' + τ'.1 = sizeLine → JI X CS (ip ++ pinsAt fp s5.heap) τ' s₀' σ7 H7 s7 → N τ' σ7 H7 →
            Seg (model X.prog X.w) A R (JY X CS yl) n' s₀' (.forLoop tg (.ref it) body [] X.env) (.pure (.again (.forLoop tg (.ref it) body [] X.env)))
              (.ret (fun r => ((match r with | .ok f => (.pure f : Sem Flow) | .error e => .raise e).onRaise (cameBack X.env)).wrap K J gd lv) none (gd false) (lv []) c p [] :: fs) s7 := fun {n' τ' s₀' s7 σ7 H7} hn' h7 n7 => by
          obtain ⟨m', hm, w7⟩ := hN τ' σ7 H7 n7
          obtain ⟨H₀', c7, I7⟩ := id h7
          have pin : ∀ b ∈ fp, ∀ o, s5.heap.get? b = some o → s7.heap.get? b = some o ∧ H7 b = none := fun b hb o e => by
            have z := I7.pin (b, o) (List.mem_append_right _ (List.mem_append_right _ (mem_pinsAt hb e)))
            exact ⟨z.1, z.2.1⟩
          refine seg_again rfl (ih m' hm (i + 1) n' τ' s₀' H₀' s7 σ7 H7 hn' w7 c7 (I7.pins_of fun q hq => I7.pin q (List.mem_append_right _ (List.mem_append_left _ hq))) (T.keep _ _ _ st5 fun b hb o e => (pin b hb o e).1) fun b hb => ?_)
          obtain ⟨o, e, _⟩ := T.obj _ _ st5 b hb
          exact (pin b hb o e).2
        refine hb.run CS yl A _ R n τ s₀ _ _ _ _ id id s6 σ6 H6 { D with nx := N, ct := N, bk := D.nx } F hCS (gl _) hn (fun n' τ' s₀' s7 f hn' q7 => ?_) ⟨H₀, hcs, I6⟩ q6
        cases f with
        | next => obtain ⟨σ7, H7, I7, n7⟩ := q7; exact again hn' I7 n7
        | cont => obtain ⟨σ7, H7, I7, n7⟩ := q7; exact again hn' I7 n7
        | brk => obtain ⟨σ7, H7, I7, q7⟩ := q7; exact seg_leaf (.ok .next) (k n' τ' s₀' s7 .next hn' ⟨σ7, H7, un I7, q7⟩)
        | ret v => obtain ⟨x7, σ7, H7, I7, r7, q7⟩ := q7; exact seg_leaf (.ok (.ret v)) (k n' τ' s₀' s7 (.ret v) hn' ⟨x7, σ7, H7, un I7, r7, q7⟩)
  exact loop m0 0 n τ s₀ H₀ s2 σ H2 hn w0 hc0 I2 st2 fun b hb => (f2 b hb).1
theorem jfor_range {lo : Int} {n : Nat} {g : TG} {tb : TJ} {yl : YL} {D : JEnds} {τ : Tau} {σ : L2.St} {H : Hp} (Pv : Nat → Tau → L2.St → Hp → Prop) (h0 : Pv 0 τ σ H)
    (hs : ∀ i τ σ H, i < n → Pv i τ σ H → g (.int (lo + i)) σ H fun σ2 H2 => tb yl { D with nx := Pv (i + 1), ct := Pv (i + 1), bk := D.nx } τ σ2 H2) (hd : ∀ τ σ H, Pv n τ σ H → D.nx τ σ H) :
    ∃ W : Nat → Nat → Tau → L2.St → Hp → Prop, (∃ m, W 0 m τ σ H) ∧ ∀ i m τ σ H, W i m τ σ H →
      ((Itr lo n).stop i H ∧ D.nx τ σ H) ∨ ((Itr lo n).go i H ∧ ∃ N : Tau → L2.St → Hp → Prop, (∀ τ' σ' H', N τ' σ' H' → ∃ m', m' < m ∧ W (i + 1) m' τ' σ' H') ∧ ∀ x H', (Itr lo n).yld i H x H' → g x σ H' fun σ2 H2 => tb yl { D with nx := N, ct := N, bk := D.nx } τ σ2 H2) := by
  refine ⟨fun i m τ σ H => m = n - i ∧ i ≤ n ∧ Pv i τ σ H, ⟨n, by simp, Nat.zero_le _, h0⟩, ?_⟩
  rintro i m τ σ H ⟨rfl, hi, p⟩
  by_cases hlt : i < n
  · refine .inr ⟨hlt, Pv (i + 1), fun τ' σ' H' p' => ⟨n - (i + 1), by omega, rfl, hlt, p'⟩, fun x H' y => ?_⟩
    obtain ⟨e, e'⟩ := y
    subst e
    subst e'
    exact hs i τ σ _ hlt p
  · have e : i = n := by omega
    subst e
    exact .inl ⟨Nat.le_refl _, hd τ σ H p⟩
end
end Sb

namespace Sb
open PySem PySem.Spec PyProof.Rows L2 GenW
open Sem (wp)
/-! ### next of a generator: what it leaves behind sleeps -/
def Susp (x : GenState) : Prop := ∃ k l c p fs cl, x = .suspended k l c p fs cl
abbrev NapK (M : Model) (A : Around) (R : GenEnd) (Y : Protocol) (n : Nat) (x : GenState) : Resume → Shared → Prop := fun r s => match n with | 0 => False | m + 1 => x.Goes M A R Y m r s
section
variable {M : Model} {A : Around} {R : GenEnd} {Y : Protocol} {n g : Nat} {E : Value → Shared → Prop} {s : Shared} {gs : GenState} {r : Resume} {l : List Value} {α : Type} {k : GenResult → Sem α} {Q : α → Shared → Prop}
theorem resumeS (hg : s.gens[g]? = some gs) (hgo : gs.Goes M A R Y n r (s.setGen g .running)) (hR : ∀ x s₁, R n (s.setGen g .running) x s₁ → wpAny M A (k (End.ret x).result) Q E (s₁.setGen g .finished))
    (hY : ∀ v s₁ x, x.bare = true → Susp x → Y (n - 1) (s.setGen g .running) v s₁ (NapK M A R Y n x) → wpAny M A (k (.yielded v)) Q E (s₁.setGen g x)) : wpAny M A (.resume g r l k) Q E s := by
  intro Γ p hΓ
  rw [Sem.wp_resume]
  have key : ∀ (c : Code) (p' : Pos) (t : Sem PySem.Fin) (fs : List Frame), Seg M A R Y n (s.setGen g .running) c t fs (s.setGen g .running) →
      ∃ e s₁, Runs M (Γ.wake c p) p' t fs (s.setGen g .running) e s₁ ∧ e.quiet = true ∧ wp M Γ (k e.result) (fun a _ s' => Q a s') (fun e _ s' => E e s') p (s₁.setGen g e.genState) := fun c p' t fs hs => by
    obtain ⟨e, s₁, hr, he⟩ := seg_iff.mp hs (Γ.wake c p) p' rfl (hΓ.wake c p)
    refine ⟨e, s₁, hr, ?_⟩
    cases e with
    | ret x => exact ⟨rfl, hR x s₁ he Γ p hΓ⟩
    | susp v a b c d e f =>
      have ht : Y (n - 1) (s.setGen g .running) v s₁ (NapK M A R Y n (End.susp v a b c d e f).genState) := by cases n <;> exact he.2
      exact ⟨he.1, hY v s₁ _ (End.bare_of_quiet he.1) ⟨_, _, _, _, _, _, rfl⟩ ht Γ p hΓ⟩
  cases gs with
  | running => exact hgo.elim
  | finished => exact hgo.elim
  | fresh c =>
    obtain ⟨rfl, hs⟩ := hgo
    obtain ⟨e, s₁, hr, hq, hw⟩ := key c p _ _ hs
    exact ⟨_, _, (by unfold Wakes; rw [hg]; exact ⟨e, s₁, hr, hq, rfl, rfl⟩), hw⟩
  | suspended k₀ l₀ c₀ p₀ fs₀ cl =>
    obtain ⟨e, s₁, hr, hq, hw⟩ := key c₀ p₀ _ _ hgo
    exact ⟨_, _, (by unfold Wakes; rw [hg]; exact ⟨e, s₁, hr, hq, rfl, rfl⟩), hw⟩
end
section
variable {P : Program} {w : World} {A : Around} {E : Value → Shared → Prop} {s : Shared} {a : Addr} {g n : Nat} {gs : GenState} {F : Nat → Shared → Shared → Prop} {Y : Protocol} {Q : Option Value → Shared → Prop}
abbrev EndR (F : Nat → Shared → Shared → Prop) : GenEnd := fun n s₀ r s₁ => (r = .ok (.ret .none) ∨ r = .ok .next) ∧ F n s₀ s₁
theorem nextS (hh : A.handled = none) (hl : s.heap.NoLimit) (hd : A.depth < recursionLimit) (hg : s.heap.IsGen a g) (hgs : s.gens[g]? = some gs) (hgo : gs.Goes (model P w) A.in1 (EndR F) Y n (.send .none) (s.setGen g .running))
    (hY : ∀ v s₁ x, x.bare = true → Susp x → Y (n - 1) (s.setGen g .running) v s₁ (NapK (model P w) A.in1 (EndR F) Y n x) → Q (some v) (s₁.setGen g x))
    (hP : ∀ s₁, F n (s.setGen g .running) s₁ → ∀ h', (∀ b o, s₁.heap.get? b = some o → h'.get? b = some o) → Q none { s₁.setGen g .finished with heap := h' }) : wpAny (model P w) A (pyNext (.ref a)) Q E s := by
  unfold pyNext
  refine wpAny_bind (wpAny_attempt (wpAny_callSpecial?_slot (name := Str.ofString "__next__") hg.typeIs slot_gen_next (wpAny_call_entry slot_gen_next hg.typeIs entry_gen_next ?_ (args_gen_next _))))
  show wpAny (model P w) A.in1 (Builtin.Generator.genWake (.ref a) (.send .none)) _ _ s
  unfold Builtin.Generator.genWake
  refine wpAny_bind (wpAny_holding (wpAny_genNumber hg (wpAny_bind (wpAny_genState (st := gs) hgs ?_))))
  cases gs with
  | running => exact False.elim hgo
  | finished => exact False.elim hgo
  | _ =>
    refine wpAny_bind (wpAny_roomToWake (s := s) hl hd ?_)
    show wpAny (model P w) A.in1 (.resume g (.send .none) [] _) _ _ s
    refine resumeS hgs hgo (fun x s₁ ⟨hr, hp⟩ => ?_) (fun v s₁ x hb hx hv => wpAny_pure ⟨v, rfl, wpAny_pure (hY v s₁ x hb hx hv)⟩)
    have er : End.result (.ret x) = .returned .none := by rcases hr with hr | hr <;> (rw [hr]; rfl)
    first | rw [er] | simp only [er]
    show wpAny (model P w) A.in1 (newExc (.type "StopIteration") [] >>= _) _ _ _
    refine wpAny_bind ?_
    simp only [newExc, newTuple]
    refine wpAny_bind (wpAny_newObj_type (E := _) ?_ (by size_fits))
    refine wpAny_bind (m := firstArgMember _ _) (wpAny_of_eq (a := Value.none) (by first | (simp only [firstArgMember]; rfl) | rfl) ?_)
    refine wpAny_newObj_type (E := _) ?_ (by size_fits)
    simp only [raiseNew]
    refine wpAny_bind (wpAny_bind (wpAny_handled (E := _) ?_))
    first | rw [hh] | rw [show A.in1.handled = none from hh]
    refine wpAny_throw (Q := _) ?_
    refine wpAny_bind (wpAny_isInstance (T := "StopIteration") (b := true) ⟨_, Heap.get?_push_size _ rfl, rfl⟩ isSubtype_stop (wpAny_pure ?_))
    exact hP s₁ hp _ fun b o e => Heap.get?_push_of_some _ (Heap.get?_push_of_some _ e)
end
end Sb

namespace Sb
open PySem PySem.Spec PyProof.Rows L2 GenW
/-! ### a generator def, called -/
def gcxJ (P : Program) (w : World) (K : PySem.W.Frag) (mg : Str → Option Value) (base : Heap) (N : List Str) (qual : Str) (scope : Scope) (f : Addr) (cd : Value) (A : Around) (outer : List Env) (s : Shared) (H : Hp) (pn : Pnj) : Cx :=
  { gcxOf P w K mg base N qual scope f cd A outer s H (fun _ _ _ => False) pn with xe := fun _ _ => False }
theorem Inv.toJ {X : Cx} {ip : Pnj} {σ : L2.St} {H : Hp} {s : Shared} (F : FamOk X) (I : Inv X ip σ H s) (B : Back X s H) : Inv (atJ X s H) ip σ H s := by
  refine ⟨atJ_ok F B, rfl, B.bare, ?_, I.loc, I.cell, I.free, I.freeC, I.pin, I.hok, I.len⟩
  show Un X.fs X.ex H H (truncH _ s.heap) s.heap
  rw [F.ex]
  exact un_trunc
abbrev SpJ := List V → Hp → YL → (Tau → Hp → Prop) → Tau → Prop
abbrev JPr := YL → (Tau → Hp → Prop) → Tau → Prop
def JFin (X : Cx) (CS : CSj) (fin : Tau → Hp → Prop) : Nat → Shared → Shared → Prop := fun _ s₀ s => ∃ (τ : Tau) (ip : Pnj) (σ : L2.St) (H : Hp), JI X CS ip τ s₀ σ H s ∧ fin τ H
structure JX (P : Program) (w : World) (base : Heap) (outer : List Env) (sc : Shared) (a : Addr) (go : Obj) (X : Cx) : Prop where
  prog : X.prog = P
  w : X.w = w
  base : X.base = base
  outer : X.outer = outer
  s0 : X.s_0 = sc
  pn : X.pn = [(a, go)]
  fam : FamOk X
def JMade (P : Program) (w : World) (base : Heap) (k : Nat) (outer : List Env) (H : Hp) (s : Shared) (pr : JPr) (u : Value) (s' : Shared) : Prop :=
  ∃ (a : Addr) (g : Nat) (c : Code) (go : Obj) (nm qn : Value), u = .ref a ∧ s.heap.objs.size ≤ a ∧ s'.heap.get? a = some go ∧ (go.cls = .type "generator" ∧ go.data = .fields #[.int g 0, nm, qn] ∧ go.slots = #[]) ∧ s'.gens[g]? = some (.fresh c) ∧ s'.os = s.os ∧ AllBare s'.gens ∧ s'.heap.NoLimit ∧ (∀ b o, s.heap.get? b = some o → s'.heap.get? b = some o) ∧
    ∀ (A : Around) (CS : CSj) (yl : YL) (fin : Tau → Hp → Prop) (τ : Tau), Room k A → A.frames = some outer → τ.1 = 0 → pr yl fin τ → CS τ (s'.setGen g .running) H →
      ∃ X, JX P w base outer s a go X ∧ ((∀ τ s H, CS τ s H → Back X s H) → Seg (model P w) A (EndR (JFin X CS fin)) (JY X CS yl) sizeLine (s'.setGen g .running) c ((model P w).den c) [] (s'.setGen g .running))
structure JFn (P : Program) (w : World) (K : PySem.W.Frag) (mg : Str → Option Value) (base : Heap) (k : Nat) (f : Addr) (fd : FuncData) (ps : List Str) (sp : SpJ) : Prop where
  run : ∀ (A : Around) (outer : List Env) (s : Shared) (H : Hp) (args : Args) (us : List Value) (vs : List V), Room k A → Env0 P w K mg base A outer s H → BindsTo s fd args (ps.zip us) → Vals vs us → vs.length = ps.length →
    codeAny (model P w) A (.call (.ref f) args) (fun r s' => match r with | .ok (.ret u) => JMade P w base k outer H s (sp vs H) u s' | _ => False) s
theorem cellsFrom_none : ∀ {l : List (Str × NameKind)} (n : Nat), (∀ y ∈ l, y.2 ≠ .cell) → cellsFrom n l [] = []
  | [], _, _ => rfl
  | (x, k) :: r, n, h => by
    have hk : k ≠ .cell := h (x, k) List.mem_cons_self
    show (if k == .cell then _ else cellsFrom n r []) = []
    rw [if_neg (by simpa using hk)]
    exact cellsFrom_none n fun y hy => h y (List.mem_cons_of_mem _ hy)
theorem jfn_of {P : Program} {w : World} {K : PySem.W.Frag} {mg : Str → Option Value} {base : Heap} {k : Nat} {f : Addr} {name qual : Str} {params : Arguments} {body : List Stmt} {scope : Scope} {dV kV doc pm cdv ct oc : Value} {an od : Option Addr}
    {osl : Array (Option Value)} {N ps : List Str} {sp : SpJ} (lk : K.lookup f = some ⟨oc, od, .func (PySem.W.fnOf name qual params body scope dV kV doc pm an cdv ct), osl⟩) (hcd : PySem.W.codeIn K cdv qual = true) (S : GScope N ps scope) (hnc : ∀ y ∈ scope.names, y.2 ≠ .cell)
    (hbody : ∀ (A : Around) (outer : List Env) (s : Shared) (H : Hp) (vs : List V) (yl : YL) (fin : Tau → Hp → Prop) (τ : Tau) (pn : Pnj), Room k (A.deeper (envOfC qual scope s.heap.objs.size f cdv)) → τ.1 = 0 → sp vs H yl fin τ →
      ∃ t, JSs (gcxJ P w K mg base N qual scope f cdv A outer s H pn) body t ∧ t yl { nx := fun τ _ H' => fin τ H', rt := fun τ v H' => v = .non ∧ fin τ H' } τ (start N vs) H) :
    JFn P w K mg base (k + 1) f (PySem.W.fnOf name qual params body scope dV kV doc pm an cdv ct) ps sp := by
  refine ⟨fun A outer s H args us vs hr e0 hb r hl => ?_⟩
  have inK : K.In s.heap := e0.mod.kin.keeps fun b o e => (e0.bs b o e).1
  have lim : s.heap.NoLimit := e0.mod.nolimit.keeps fun b o e => (e0.bs b o e).1
  refine codeAny_call_generator hr.depth (inK _ _ lk) rfl S.co S.gen rfl (PySem.W.codeRec_of inK hcd) (hb _ _ _ _ ?_)
  refine wpAny_newFunctionEnv_cells S.kind (fun ⟨n, v⟩ hy => ?_) fun env he s1 x => ?_
  · rcases S.par n (List.of_mem_zip hy).1 with q | q
    · exact .inl q
    · exact .inr ⟨q, PySem.W.cellsFrom_some _ _ _ (.inl q)⟩
  subst he
  have lim1 : s1.heap.NoLimit := lim.keeps x.toInCall.keep
  refine ⟨lim1, ?_⟩
  obtain ⟨h1, tk, es1, hk1⟩ := x.done
  have os1 : s1.os = s.os := by rw [es1]
  have gen1 : s1.gens = s.gens := by rw [es1]
  have lt1 : s.heap.objs.size < s1.heap.objs.size := x.toInCall.ns.lt
  have main : ∀ (go : Obj) (nm qn : Value) (tk2 : Nat), go.cls = .type "generator" → go.data = .fields #[.int s1.gens.size 0, nm, qn] → go.slots = #[] → (∀ h : Heap, (h.push go).get? h.objs.size = some go) →
      JMade P w base (k + 1) outer H s (sp vs H) (.ref s1.heap.objs.size) { s1 with gens := s1.gens.push (.fresh (.func body (envOfC qual scope s.heap.objs.size f cdv))), toks := tk2, heap := s1.heap.push go } := by
    intro go nm qn tk2 hgc hgd0 hgs hgp
    refine ⟨s1.heap.objs.size, s1.gens.size, _, go, nm, qn, rfl, Nat.le_of_lt lt1, hgp _, ⟨hgc, hgd0, hgs⟩, Array.getElem?_push_size .., os1, AllBare.push (by rw [gen1]; exact e0.bare) rfl, lim1.keeps fun b o e => Heap.get?_push_of_some _ e, fun b o e => Heap.get?_push_of_some _ (x.toInCall.keep b o e), ?_⟩
    intro Aw CS yl fin τ hrw hfr hτ hpr hcs
    have e0w : Env0 P w K mg base Aw outer s H := ⟨hfr, e0.mod, e0.bs, e0.bsz, e0.funs, e0.frf, e0.hok, e0.bare⟩
    have I1 : Inv (gcxOf P w K mg base N qual scope f cdv Aw outer s H (fun _ _ _ => False) []) [] (start N vs) H s1 := inv_startG S hrw.hd e0w hl r x
    generalize hs2 : ({ s1 with gens := s1.gens.push (.fresh (.func body (envOfC qual scope s.heap.objs.size f cdv))), toks := tk2, heap := s1.heap.push go } : Shared).setGen s1.gens.size .running = s2 at hcs
    have h2 : s2.heap = s1.heap.push go := by rw [← hs2]; rfl
    have o2 : s2.os = s1.os := by rw [← hs2]; rfl
    have b2 : AllBare s2.gens := by
      rw [← hs2]
      exact allBare_setGen (s := { s1 with gens := s1.gens.push (.fresh (.func body (envOfC qual scope s.heap.objs.size f cdv))), toks := tk2, heap := s1.heap.push go }) (AllBare.push (by rw [gen1]; exact e0.bare) rfl) rfl
    have kp2 : ∀ b o, s1.heap.get? b = some o → s2.heap.get? b = some o := fun b o e => by rw [h2]; exact Heap.get?_push_of_some _ e
    have I2 : Inv (gcxOf P w K mg base N qual scope f cdv Aw outer s H (fun _ _ _ => False) []) [] (start N vs) H s2 :=
      I1.call' (ch := []) o2 (Un.kept kp2) (I1.hok.kept kp2) b2 fun b z => by simp at z
    have hgo : ∀ v, go.data ≠ .cell v := fun v q => by rw [hgd0] at q; cases q
    have fresh1 : H s1.heap.objs.size = none := I1.hok.fresh (Nat.le_refl _)
    have I3 := Inv.pinnedG (pn := [(s1.heap.objs.size, go)]) (pins := []) I2 fun p hp => by
      rw [List.append_nil] at hp
      rw [List.mem_singleton.mp hp]
      exact ⟨by rw [h2]; exact hgp _, fresh1, Nat.ne_of_gt lt1, I1.nofs (Nat.le_refl _), hgo⟩
    let X := gcxJ P w K mg base N qual scope f cdv Aw outer s H [(s1.heap.objs.size, go)]
    have I4 : Inv X [] (start N vs) H s2 := ⟨⟨I3.ok.mod, I3.ok.kind, I3.ok.glob, I3.ok.blt, I3.ok.above, I3.ok.inj, I3.ok.has, I3.ok.cab, I3.ok.hd, I3.ok.frames, I3.ok.stk, I3.ok.exf, I3.ok.bs, I3.ok.bsz, I3.ok.noex, I3.ok.exfs, I3.ok.funs, I3.ok.frf⟩, I3.os, I3.bare, I3.base, I3.loc, I3.cell, I3.free, I3.freeC, I3.pin, I3.hok, I3.len⟩
    have nc : ∀ y c, X.env.cells.lookup y ≠ some c := fun y c e => by
      have e : (cellsFrom (s.heap.objs.size + 1) scope.names []).lookup y = some c := e
      rw [cellsFrom_none _ hnc] at e
      cases e
    have F : FamOk X := ⟨I4.ok, nc, rfl, rfl⟩
    refine ⟨X, ⟨rfl, rfl, rfl, rfl, rfl, rfl, F⟩, fun hCS => ?_⟩
    have B := hCS _ _ _ hcs
    obtain ⟨t, ht, hq⟩ := hbody Aw outer s H vs yl fin τ [(s1.heap.objs.size, go)] (hrw.deeper _) hτ hpr
    refine seg_func ?_
    refine ht.run CS yl Aw [] _ sizeLine τ s2 _ [] _ _ id id s2 (start N vs) H _ F hCS ⟨over_func, rfl, rfl, rfl⟩ (by rw [hτ]; rfl) (fun n τ' s₀ s' fl hn hs => ?_) ⟨H, hcs, Inv.toJ F I4 B⟩ hq
    cases fl with
    | next =>
      obtain ⟨σ', H', hI, hQ⟩ := hs
      exact seg_end (.ok (.ret .none)) ⟨.inl rfl, τ', [], σ', H', hI, hQ⟩
    | brk => obtain ⟨_, _, _, q⟩ := hs; exact q.elim
    | cont => obtain ⟨_, _, _, q⟩ := hs; exact q.elim
    | ret u =>
      obtain ⟨v, σ', H', hI, rv, ev, hQ⟩ := hs
      subst ev
      have eu : u = Value.none := rv
      subst eu
      exact seg_end (.ok (.ret .none)) ⟨.inl rfl, τ', [], σ', H', hI, hQ⟩
  exact main _ _ _ _ rfl rfl rfl fun h => Heap.get?_push_size _ rfl
end Sb

namespace Sb
open PySem PySem.Spec PyProof.Rows L2 GenW
/-! ### for .. in g(..): a block of statements over a generator of the program's own -/
abbrev TJen := L2.St → Hp → (Hp → JPr → Prop) → Prop
structure PJen (X : Cx) (k : Nat) (e : Expr) (tj : TJen) : Prop where
  run : ∀ (pins : Pnj) (s : Shared) (σ : L2.St) (H : Hp) (cont : Hp → JPr → Prop), Inv X pins σ H s → tj σ H cont → wpAny (model X.prog X.w) X.A (eval e X.env)
    (fun u s' => ∃ H1 sc pr, Inv X pins σ H1 sc ∧ cont H1 pr ∧ JMade X.prog X.w X.base k X.stack H1 sc pr u s') X.xe s
def tCallJ (n : Nat) (sp : SpJ) (t : TA) : TJen := fun σ H cont => t σ H fun vs H1 => vs.length = n ∧ cont H1 (sp vs H1)
section
variable {X : Cx} {k : Nat} {f : Addr} {fd : FuncData} {ps : List Str} {sp : SpJ}
theorem pjen_call {x : Str} {e : Expr} {es : List Expr} {p pos' : Pos} {t : TA} (F : JFn X.prog X.w X.K X.mg X.base k f fd ps sp) (hr : Room k X.A) (hg : Gl X x) (hm : X.mg x = some (.ref f)) (hk : PySem.W.keepIn X.K (.ref f) = true) (hb : Binds X.K fd ps [])
    (ha : PA X (e :: es) t) (hdb : (x == ("__debug__" : Str)) = false := by decide) (he : starEach (e :: es) X.env = (false, eval e X.env) :: starEach es X.env := by rfl) (hpl : (backTo pos' (starEach es X.env)).any (·.1) = false := by rfl) :
    PJen X k (.Call (.Name x p) (e :: es) [] pos') (tCallJ ps.length sp t) := by
  refine ⟨fun pins s σ H cont I h => ?_⟩
  refine wpAny_Call_Name_kw (ld_glob I hg hm ?_ hdb)
  refine PySem.W.callWith_K (h₀ := X.base) I.ok.mod.kin hk (thn (ha.run pos' pins s σ H _ I h) fun us s1 ⟨vs, H1, I1, r, hl, q⟩ => ⟨I1.kIn, ?_⟩) he hpl
  have hl2 : us.length = ps.length := by rw [← r.length]; exact hl
  have hb' := hb s1 us I1.kIn (by rw [List.append_nil]; exact hl2)
  rw [List.append_nil] at hb'
  refine wpAny_call (codeAny_mono (F.run X.A X.stack s1 H1 ⟨us, []⟩ us vs hr I1.env0 hb' r hl) fun r s' hq => ?_)
  cases r with
  | error e => exact hq.elim
  | ok fl =>
    cases fl with
    | ret u => exact ⟨H1, s1, _, I1, q, hq⟩
    | next => exact hq.elim
    | brk => exact hq.elim
    | cont => exact hq.elim
end
theorem Inv.gens {X : Cx} {pins : Pnj} {σ : L2.St} {H : Hp} {s s' : Shared} (I : Inv X pins σ H s) (e : s' = { s with gens := s'.gens }) (hb : AllBare s'.gens) : Inv X pins σ H s' := by
  have hh : s'.heap = s.heap := by rw [e]
  have ho : s'.os = s.os := by rw [e]
  refine ⟨I.ok, by rw [ho]; exact I.os, hb, by rw [hh]; exact I.base, by rw [hh]; exact I.loc, by rw [hh]; exact I.cell, I.free, I.freeC, by rw [hh]; exact I.pin, by rw [hh]; exact I.hok, I.len⟩
theorem frz_bare {s : Shared} (h : AllBare s.gens) : AllBare (frzS s).gens := fun y hy => by
  have hy : y ∈ s.gens.map frzG := hy
  obtain ⟨x, hx, rfl⟩ := Array.mem_map.mp hy
  have := h x hx
  cases x with
  | suspended k l c p fs cl => exact this
  | _ => rfl
theorem srel_bare {S : Nat → Prop} {og A B : Array GenState} (h : SRel S og A B) (ha : AllBare A) (ho : AllBare og) : AllBare B := fun y hy => by
  obtain ⟨i, hi, e⟩ := Array.getElem_of_mem hy
  have e : B[i]? = some y := by rw [Array.getElem?_eq_getElem hi, e]
  by_cases hs : S i
  · obtain ⟨k, l, c, p, fs, cl, h1, h2, _⟩ := h.ins i hs
    rw [h2] at e
    exact ho y (by rw [← Option.some.inj e]; exact Array.mem_of_getElem? h1)
  · have := (h.out i hs).1
    rw [← this] at e
    exact ha y (Array.mem_of_getElem? e)
theorem srel_at {s : Shared} {g : Nat} {x : GenState} {A B : Array GenState} (hs : s.gens[g]? = some x) (hx : Susp x) (h : SRel (SleepS s) s.gens A B) : B[g]? = some x := by
  obtain ⟨k, l, c, p, fs, cl, rfl⟩ := hx
  obtain ⟨k', l', c', p', fs', cl', h1, h2, _⟩ := h.ins g ⟨k, l, c, p, fs, cl, hs⟩
  rw [hs] at h1
  cases h1
  exact h2
section
variable {C X : Cx} {pins ip : Pnj} {σc σg : L2.St} {H₀ H1 : Hp} {s₀ s₁ : Shared}
/-- the consumer's invariant behind the generator's turn -/
theorem Inv.afterJ (Ic : Inv C pins σc H₀ s₀) (Ig : Inv (atJ X s₀ H₀) ip σg H1 s₁) (hprog : X.prog = C.prog) (hw : X.w = C.w) (hfs : X.outer = C.stack) (hex : X.ex = []) (h0 : C.s_0.heap.objs.size ≤ X.s_0.heap.objs.size) (hL : C.env.locals < X.s_0.heap.objs.size)
    (hcell : ∀ x c, C.env.cells.lookup x = some c → c < X.s_0.heap.objs.size) (hpin : ∀ p ∈ C.pn ++ pins, p.1 < X.s_0.heap.objs.size) (ho : s₁.os = s₀.os) : Inv C pins σc H1 s₁ := by
  have n0 : Nat := X.s_0.heap.objs.size
  have base : Un (frs C.stack) [] H₀ H1 (truncH X.s_0.heap.objs.size s₀.heap) s₁.heap := by
    have := Ig.base
    have e1 : (atJ X s₀ H₀).fs = frs C.stack := by show frs X.outer = _; rw [hfs]
    have e2 : (atJ X s₀ H₀).ex = [] := hex
    rw [e1, e2] at this
    exact this
  have low : ∀ {b : Addr} {o : Obj}, s₀.heap.get? b = some o → b ∉ (List.range s₀.heap.objs.size).filter (fun b => decide (X.s_0.heap.objs.size ≤ b)) → (truncH X.s_0.heap.objs.size s₀.heap).get? b = some o := fun {b o} e hb => by
    have h1 : b < s₀.heap.objs.size := Heap.lt_size e
    have h2 : b < X.s_0.heap.objs.size := Nat.lt_of_not_le fun z => hb (List.mem_filter.mpr ⟨List.mem_range.mpr h1, decide_eq_true z⟩)
    rw [truncH_lt h2]
    exact e
  have high : ∀ {b : Addr}, b ∈ (List.range s₀.heap.objs.size).filter (fun b => decide (X.s_0.heap.objs.size ≤ b)) → X.s_0.heap.objs.size ≤ b := fun hb => of_decide_eq_true (List.mem_filter.mp hb).2
  have noex : ∀ b : Addr, b ∉ ([] : List Addr) := fun b z => by cases z
  obtain ⟨m, ⟨o, es, ep, hoL, r⟩, _⟩ := id Ic.loc
  have lowL : (truncH X.s_0.heap.objs.size s₀.heap).get? C.env.locals = some o := by rw [truncH_lt hL]; exact hoL
  obtain ⟨sl, hL1⟩ := base.any lowL Ic.free (noex _)
  obtain ⟨hh, g, d, t, os⟩ := s₁
  obtain rfl : os = s₀.os := ho
  refine Ic.step (g' := g) (t' := t) (d' := d) (ch := (List.range s₀.heap.objs.size).filter (fun b => decide (X.s_0.heap.objs.size ≤ b))) (fun b hb => ⟨.inr (Nat.le_trans h0 (high hb)), fun z => ?_, fun x c e z => ?_, fun p hp z => ?_⟩)
    (fun b o hL' hb hc e n => base.keep b o (low e hc) n (fun z => (List.mem_cons.mp (Ic.stkSub b z)).elim hL' hb) (noex _)) (fun b o _ _ hc e n => base.any (low e hc) n (noex _)) (fun b o hc e n => base.free b o (low e hc) n (noex _)) (fun b o hc e => base.there b o (low e hc) (noex _)) base.tups base.frzs base.tbls (fun m' hm => ?_) ?_ Ig.bare
  · have := high hb
    rw [z] at this
    exact absurd (Nat.lt_of_lt_of_le hL this) (Nat.lt_irrefl _)
  · have := high hb
    rw [← z] at this
    exact absurd (Nat.lt_of_lt_of_le (hcell x c e) this) (Nat.lt_irrefl _)
  · have := high hb
    rw [← z] at this
    exact absurd (Nat.lt_of_lt_of_le (hpin p hp) this) (Nat.lt_irrefl _)
  · obtain ⟨o', es', ep', ho', r'⟩ := hm
    rw [hoL] at ho'; cases ho'
    exact ⟨_, es', ep', hL1, r'⟩
  · have := Ig.hok
    have e1 : (atJ X s₀ H₀).prog = C.prog := hprog
    have e2 : (atJ X s₀ H₀).w = C.w := hw
    rw [e1, e2] at this
    exact this
end
end Sb

namespace Sb
open PySem PySem.Spec PyProof.Rows L2 GenW
def tForJ (tj : TJen) (g : TG) (tb : TS) : TS := fun D σ H => tj σ H fun H1 pr =>
  pr (fun τ x H2 k => g x τ.2 H2 fun σ3 H3 => tb { D with nx := fun σ' H' => k (τ.1 + 1, σ') H', ct := fun σ' H' => k (τ.1 + 1, σ') H', bk := D.nx } σ3 H3) (fun τ H' => D.nx τ.2 H') (0, σ)
section
variable {C : Cx} {k : Nat} {iter tg : Expr} {body : List Stmt} {tj : TJen} {g : TG} {tb : TS} {pos : Pos}
theorem ps_forJ (hxe : C.xe = fun _ _ => False) (hc : C.calm = true) (hst : C.stack = C.env :: C.outer) (hfr : C.env.frame = some C.env.locals) (hr : Room (k + 1) C.A) (h : PJen C k iter tj) (hg : PG C tg g) (hb : PSs C body tb)
    (hs : ∀ x, foldedSetIterable iter C.env x = pure x := by intro _; rfl) : PS C (.For tg iter body [] pos) (tForJ tj g tb) := by
  refine ⟨fun pins s σ H D I ht => ?_⟩
  have hp : PassesOwn (model C.prog C.w) C.A C.env C.xe := by rw [hxe]; exact PassesOwn.never
  refine wpAny_For (thn (h.run pins s σ H _ I ht) fun u s1 hu => ?_) hs
  obtain ⟨H1, sc, pr, Isc, hpr, a, g₀, c, go, nm, qn, rfl, ha, hgo, ⟨hg1, hg2, hg3⟩, hgs, hos, hba, hlim, hkp, wake⟩ := hu
  have isg : ∀ h : Heap, h.get? a = some go → h.IsGen a g₀ := fun h e => ⟨go, nm, qn, e, hg1, hg2, hg3⟩
  have hgoc : ∀ v, go.data ≠ .cell v := fun v z => by rw [hg2] at z; cases z
  refine wpAny_pyIter_gen (isg _ hgo) ?_
  have hh : C.A.handled = none := Isc.ok.hd hc
  have hdep : C.A.depth < recursionLimit := by have := hr.dp; omega
  generalize hyl : (fun (τ : Tau) (x : V) (H2 : Hp) (k : Tau → Hp → Prop) => g x τ.2 H2 fun σ3 H3 => tb { D with nx := fun σ' H' => k (τ.1 + 1, σ') H', ct := fun σ' H' => k (τ.1 + 1, σ') H', bk := D.nx } σ3 H3) = yl at hpr
  generalize hfin : (fun (τ : Tau) (H' : Hp) => D.nx τ.2 H') = fin at hpr
  let CS : CSj := fun τ s H => Inv C pins τ.2 H s ∧ s.heap.get? a = some go
  have I1 : Inv C pins σ H1 s1 := Isc.call' (ch := []) hos (Un.kept hkp) (Isc.hok.kept hkp) hba fun b z => by simp at z
  have I1' : Inv C pins σ H1 (s1.setGen g₀ .running) := Inv.gens I1 rfl (allBare_setGen hba rfl)
  obtain ⟨X, jx, wake2⟩ := wake C.A.in1 CS yl fin (0, σ) ⟨hr.hd, (by have := hr.dp; show C.A.depth + 3 * k + 5 < _; omega), (by have := hr.un; show C.A.units + 1 + 16 * k + 200 < _; omega)⟩ Isc.ok.frames rfl hpr ⟨I1', hgo⟩
  have ha0 : a < s1.heap.objs.size := Heap.lt_size hgo
  have hCS : ∀ τ s H, CS τ s H → Back X s H := fun τ s H ⟨Ic, hgo'⟩ => by
    have e0 := Ic.env0
    refine ⟨by rw [Ic.os, jx.s0, Isc.os], Ic.bare, by rw [jx.base]; exact e0.bs, by rw [jx.base, jx.outer]; exact e0.funs, ?_, by rw [jx.prog, jx.w]; exact e0.hok, ?_⟩
    · show ∀ b ∈ frs X.outer, _
      rw [jx.outer]
      exact e0.frf
    · rw [jx.s0]
      exact Nat.le_of_lt (Nat.lt_of_le_of_lt ha (Heap.lt_size hgo'))
  have seg := wake2 hCS
  -- what is older than the generator
  obtain ⟨m, ⟨oL, es, ep, hoL, r⟩, _⟩ := id Isc.loc
  have hL : C.env.locals < X.s_0.heap.objs.size := by rw [jx.s0]; exact Heap.lt_size hoL
  have h0 : C.s_0.heap.objs.size ≤ X.s_0.heap.objs.size := by rw [jx.s0]; exact Isc.sz
  have hcell : ∀ x c, C.env.cells.lookup x = some c → c < X.s_0.heap.objs.size := fun x c e => by
    obtain ⟨v, o, ho, _⟩ := Isc.cell x c e
    rw [jx.s0]
    exact Heap.lt_size ho
  have hpin : ∀ p ∈ C.pn ++ pins, p.1 < X.s_0.heap.objs.size := fun p hp => by
    rw [jx.s0]
    exact Heap.lt_size (Isc.pin p hp).1
  have hLfs : C.env.locals ∈ frs C.stack := by
    rw [hst]
    unfold frs
    rw [List.filterMap_cons, hfr]
    exact List.mem_cons_self
  have hsub : ∀ b, b ∈ C.fs → b ∈ frs C.stack := fun b hb => by
    rw [hst]
    unfold frs
    rw [List.filterMap_cons, hfr]
    exact List.mem_cons_of_mem _ hb
  have noX : ∀ {P : Prop} {e : Value} {s : Shared}, C.xe e s → P := fun {P e s} z => by rw [hxe] at z; exact z.elim
  refine codeAny_forLoop_any (fun n s' => s'.heap.get? a = some go ∧ s'.heap.NoLimit ∧ ∃ gs, s'.gens[g₀]? = some gs ∧ gs.Goes (model C.prog C.w) C.A.in1 (EndR (JFin X CS fin)) (JY X CS yl) n (.send .none) (s'.setGen g₀ .running)) ?_ sizeLine ⟨hgo, hlim, .fresh c, hgs, rfl, seg⟩
  rintro n s' ⟨hgo', nl, gs, hgs', hgoes⟩
  have hgl : g₀ < s'.gens.size := (Array.getElem?_eq_some_iff.mp hgs').1
  refine wpAny_gsz (n := g₀ + 1) hgl (nextS hh nl hdep (isg _ hgo') hgs' hgoes (fun v s₁ x hb' hx hv => ?_) (fun s₁ hf h' hk => ?_))
  · intro hsz
    obtain ⟨τ, xv, ip, σg, H₀, H2, kk, hn, rv, ⟨Ic, hgo0⟩, Ig, hy, hk⟩ := hv
    have hsz1 : g₀ < s₁.gens.size := by
      have q : (s₁.setGen g₀ x).gens.size = s₁.gens.size := setGen_size _ _ _
      have hsz' : g₀ + 1 ≤ (s₁.setGen g₀ x).gens.size := hsz
      omega
    have os1 : s₁.os = (s'.setGen g₀ .running).os := Ig.os.trans rfl
    have Ia := Inv.afterJ Ic Ig jx.prog jx.w jx.outer jx.fam.ex h0 hL hcell hpin os1
    have pinG : ∀ p ∈ X.pn ++ ip, s₁.heap.get? p.1 = some p.2 ∧ H2 p.1 = none ∧ p.1 ∉ frs C.stack ∧ ∀ v, p.2.data ≠ .cell v := fun p hp => by
      obtain ⟨q1, q2, q3, q4, q5⟩ := Ig.pin p hp
      have q4 : p.1 ∉ frs X.outer := q4
      rw [jx.outer] at q4
      exact ⟨q1, q2, q4, q5⟩
    have hgo1 : s₁.heap.get? a = some go := (pinG (a, go) (List.mem_append_left _ (by rw [jx.pn]; exact List.mem_cons_self))).1
    obtain ⟨mg, ⟨og, esg, epg, hog, rg, _⟩, _⟩ := id Ig.loc
    have hog : s₁.heap.get? X.env.locals = some og := hog
    have locFs : X.env.locals ∉ frs C.stack := fun z => by
      have e1 := (Isc.env0.funs.mem z).2
      obtain ⟨o, ho, _⟩ := e1
      have h2 := jx.fam.ok.above
      rw [jx.s0] at h2
      exact absurd (Nat.lt_of_lt_of_le (Heap.lt_size ho) h2) (Nat.lt_irrefl _)
    let gp : Pnj := (X.env.locals, og) :: (X.pn ++ ip)
    have gpOk : ∀ p ∈ gp, s₁.heap.get? p.1 = some p.2 ∧ H2 p.1 = none ∧ p.1 ∉ frs C.stack ∧ ∀ v, p.2.data ≠ .cell v := fun p hp => by
      rcases List.mem_cons.mp hp with rfl | hp
      · exact ⟨hog, Ig.free, locFs, fun v z => by rw [rg] at z; cases z⟩
      · exact pinG p hp
    have b1 : AllBare (s₁.setGen g₀ x).gens := allBare_setGen Ig.bare hb'
    have I2 : Inv C (pins ++ gp) τ.2 H2 (s₁.setGen g₀ x) := by
      refine (Inv.gens Ia (s' := s₁.setGen g₀ x) rfl b1).pins_of fun p hp => ?_
      rcases List.mem_append.mp hp with hp | hp
      · obtain ⟨q1, q2, q3, q4, q5⟩ := Ia.pin p (List.mem_append_right _ hp)
        exact ⟨q1, q2, q3, q4, q5⟩
      · obtain ⟨q1, q2, q3, q4⟩ := gpOk p hp
        exact ⟨q1, q2, fun z => q3 (by rw [z]; exact hLfs), fun z => q3 (hsub _ z), q4⟩
    refine go_of (s := s₁.setGen g₀ x) (n := "generator") hgo1 hg1 hg2 (by decide) ?_
    have hgx : (s₁.setGen g₀ x).gens[g₀]? = some x := setGen_at hsz1
    generalize hs2 : s₁.setGen g₀ x = s2 at I2 b1 hgx ⊢
    have hh2 : s2.heap = s₁.heap := by rw [← hs2]; rfl
    subst hyl
    refine wpAny_passesOwn hp (wpAny_sleep (wpAny_mono (hg.run _ (frzS s2) τ.2 H2 xv v _ (Inv.gens I2 rfl (frz_bare b1)) rv hy) (fun _ s3 ⟨σ3, H3, I3, q3⟩ s4 e4 r4 => ?_) fun _ _ z => noX z))
    have b4 : AllBare s4.gens := srel_bare r4 I3.bare b1
    have I4 : Inv C (pins ++ gp) σ3 H3 s4 := Inv.gens I3 e4 b4
    have g4 : s4.gens[g₀]? = some x := srel_at hgx hx r4
    refine wpAny_passesOwn hp (wpAny_sleep (wpAny_mono (hb.run _ (frzS s4) σ3 H3 _ (Inv.gens I4 rfl (frz_bare b4)) q3) (fun f s5 hf s6 e6 r6 => ?_) fun _ _ z => noX z))
    have weak : ∀ {σ' : L2.St} {H' : Hp} {s : Shared}, Inv C (pins ++ gp) σ' H' s → Inv C pins σ' H' s := fun {σ' H' s} J => J.pins_of fun p hp => J.pin p (List.mem_append_right _ (List.mem_append_left _ hp))
    have again : ∀ {σ' : L2.St} {H' : Hp}, Inv C (pins ++ gp) σ' H' s5 → kk (τ.1 + 1, σ') H' → ∃ m, m < n ∧ (s6.heap.get? a = some go ∧ s6.heap.NoLimit ∧ ∃ gs, s6.gens[g₀]? = some gs ∧ gs.Goes (model C.prog C.w) C.A.in1 (EndR (JFin X CS fin)) (JY X CS _) m (.send .none) (s6.setGen g₀ .running)) := fun {σ' H'} I5 q5 => by
      have b6 : AllBare s6.gens := srel_bare r6 I5.bare b4
      have I6 : Inv C (pins ++ gp) σ' H' s6 := Inv.gens I5 e6 b6
      have g6 : s6.gens[g₀]? = some x := srel_at g4 hx r6
      have pin6 : ∀ p ∈ gp, s6.heap.get? p.1 = some p.2 ∧ H' p.1 = none := fun p hp => by
        have z := I6.pin p (List.mem_append_right _ (List.mem_append_right _ hp))
        exact ⟨z.1, z.2.1⟩
      have hgo6 : s6.heap.get? a = some go := (pin6 (a, go) (List.mem_cons_of_mem _ (List.mem_append_left _ (by rw [jx.pn]; exact List.mem_cons_self)))).1
      have I7 : Inv C pins σ' H' (s6.setGen g₀ .running) := Inv.gens (weak I6) rfl (allBare_setGen b6 rfl)
      have hk' := hk (τ.1 + 1, σ') H' (s6.setGen g₀ .running) rfl q5 ⟨I7, hgo6⟩ ⟨fun o e => by
        rw [hog] at e
        cases e
        exact (pin6 _ List.mem_cons_self).1, (pin6 _ List.mem_cons_self).2, fun p hp => pin6 p (List.mem_cons_of_mem _ hp)⟩
      cases n with
      | zero => exact hk'.elim
      | succ m => exact ⟨m, Nat.lt_succ_self _, hgo6, I6.nolimit, x, g6, hk'⟩
    cases f with
    | next => obtain ⟨σ', H', I5, q5⟩ := hf; exact again I5 q5
    | cont => obtain ⟨σ', H', I5, q5⟩ := hf; exact again I5 q5
    | brk =>
      obtain ⟨σ', H', I5, q5⟩ := hf
      exact ⟨σ', H', weak (Inv.gens I5 e6 (srel_bare r6 I5.bare b4)), q5⟩
    | ret u =>
      obtain ⟨y, σ', H', I5, r5, q5⟩ := hf
      exact ⟨y, σ', H', weak (Inv.gens I5 e6 (srel_bare r6 I5.bare b4)), r5, q5⟩
  · intro hsz
    obtain ⟨τ, ip, σg, H3, ⟨H₀, ⟨Ic, hgo0⟩, Ig⟩, hq⟩ := hf
    have os1 : s₁.os = (s'.setGen g₀ .running).os := Ig.os.trans rfl
    have Ia := Inv.afterJ Ic Ig jx.prog jx.w jx.outer jx.fam.ex h0 hL hcell hpin os1
    have Ib : Inv C pins τ.2 H3 { s₁.setGen g₀ .finished with heap := h' } := Ia.call' (ch := []) rfl (Un.kept hk) (Ia.hok.kept hk) (allBare_setGen Ig.bare rfl) fun b z => by simp at z
    subst hfin
    exact wpAny_execs_nil ⟨τ.2, H3, Ib, hq⟩
end
end Sb

namespace Sb
open PySem PySem.Spec PyProof.Rows L2 TL
section
variable {P : Program} {w : World} {K : PySem.W.Frag} {mg : Str → Option Value} {base : Heap}
theorem fun_jok {x qual : Str} {st : Stmt} {f : Addr} {fd : FuncData} {N ps : List Str} {k : Nat} {sp : SpJ} (F : L2.Fun K x qual st f fd) (S : GScope N ps (defScope st)) (hnc : ∀ y ∈ (defScope st).names, y.2 ≠ .cell)
    (hbody : ∀ (cdv : Value) (A : Around) (outer : List Env) (s : Shared) (H : Hp) (vs : List V) (yl : YL) (fin : Tau → Hp → Prop) (τ : Tau) (pn : Pnj), Room k (A.deeper (envOfC qual (defScope st) s.heap.objs.size f cdv)) → τ.1 = 0 → sp vs H yl fin τ →
      ∃ t, JSs (gcxJ P w K mg base N qual (defScope st) f cdv A outer s H pn) (defBody st) t ∧ t yl { nx := fun τ _ H' => fin τ H', rt := fun τ v H' => v = .non ∧ fin τ H' } τ (start N vs) H) : JFn P w K mg base (k + 1) f fd ps sp := by
  obtain ⟨oc, od, kV, doc, pm, an, cdv, ct, osl, rfl, lk, hcd⟩ := F.ex
  exact jfn_of lk hcd S hnc fun A outer s H vs yl fin τ pn hr hτ hsp => hbody cdv A outer s H vs yl fin τ pn hr hτ hsp
end
def rowV (x : Pl) (t : Nat) : List V := [.int t, .str (doS (wordsAt x t).1), .str (doS (wordsAt x t).2)]
def KeepL (L : List Addr) (H H' : Hp) : Prop := ∀ b o, b ∉ L → H b = some o → H' b = some o
theorem KeepL.refl {L : List Addr} {H : Hp} : KeepL L H H := fun _ _ _ e => e
theorem KeepL.trans {L : List Addr} {H H1 H2 : Hp} (a : KeepL L H H1) (b : KeepL L H1 H2) : KeepL L H H2 := fun c o n e => b c o n (a c o n e)
theorem KeepL.same {L : List Addr} {H H' : Hp} (s : Same H H') : KeepL L H H' := fun b o _ e => s b o e
theorem KeepL.put {L : List Addr} {H : Hp} {b : Addr} {o : HO} (h : b ∈ L) : KeepL L H (upd H b o) := fun c o n e => (upd_ne (fun z => n (by first | (rw [z]; exact h) | (rw [← z]; exact h)))).trans e
theorem KeepL.data {L : List Addr} {G H H' : Hp} (s : Same G H) (hL : ∀ b ∈ L, G b = none) (k : KeepL L H H') : Same G H' := fun b o e => k b o (fun z => by rw [hL b z] at e; cases e) (s b o e)
structure spTraceJ (K : PySem.W.Frag) (vs : List V) (H : Hp) (yl : YL) (fin : Tau → Hp → Prop) (τ0 : Tau) : Prop where
  ex : ∃ (src : Str) (G : Hp) (x : Pl) (i n t m : Nat) (L : List Addr) (I : Nat → Tau → Hp → Prop), vs = [.str src, .int t, .int ((t : Int) + (m : Int) - 1)] ∧ Told src x i n ∧ t ≤ 1000000000000000000 ∧ m ≤ 500 ∧ t + m ≤ 1000000000000000001 ∧ Same G H ∧ (∀ b ∈ L, G b = none ∧ ∃ o, H b = some o) ∧
    (∀ (H' : Hp), Same H H' → I 0 τ0 H') ∧ (∀ j τ H', I j τ H' → τ.1 = j) ∧
    (∀ j τ H' p, j < m → I j τ H' → H' p = none → ∀ k : Tau → Hp → Prop, (∀ τ' H'', KeepL L (upd H' p (.tup (rowV x (t + j)))) H'' → I (j + 1) τ' H'' → k τ' H'') → yl τ (.ref p) (upd H' p (.tup (rowV x (t + j)))) k) ∧
    ∀ τ H', I m τ H' → fin τ H'
section
variable {P : Program} {w : World} {K : PySem.W.Frag} {mg : Str → Option Value} {base : Heap} {a : Ad}
theorem pa_starJ {X : Cx} {e : Expr} {es : List Expr} {te : TE} {t : TA} {p : Pos} {K : PySem.W.Frag} (hK : X.K = K) (he : PE X e te) (hr : PA X es t) (hs : starEach (.Starred e p :: es) X.env = (true, eval e X.env) :: starEach es X.env := by rfl) : PA X (.Starred e p :: es) (StX.tStar K te t) := by
  subst hK
  exact StX.pa_star he hr hs
theorem pe_fldJ {X : Cx} {e : Expr} {f : Str} {ta : TE} {pos : Pos} {K : PySem.W.Frag} (hK : X.K = K) (he : PE X e ta) (hb : attributeBase e f X.env (eval e X.env) = eval e X.env) : PE X (.Attribute e f pos) (tFld K ta f) := by
  subst hK
  exact pe_fld he hb
theorem ok_traceJ (T : Txt K mg a) : JFn P w K mg base 9 a.f_trace a.d_trace ["plan", "first", "last"] (spTraceJ K) := by
  refine fun_jok T.F_trace sc_trace (by decide +kernel) (fun cdv A outer s H vs yl fin τ pn hr hτ h => ?_)
  obtain ⟨⟨src, G, x, i, n, t, m, L, I, rfl, ⟨ld, ok, cy, le⟩, ht, hm, htm, hGH, hL, hI0, hIτ, hIs, hIe⟩⟩ := h
  refine ⟨_, (jss_cons (js_ps (fun _ _ => ps_set (i := 3) sc_trace.nd rfl (Or.inl rfl) (pe_call (ok_load T) (hr.mono (by decide)) rfl T.m_load T.F_load.kp (b_load T) .nil pass0 (pa_cons (pv 0) pa_nil))))
      (jss_cons (js_ps (fun _ _ => ps_expr (pe_call (ok_check_tick T) (hr.mono (by decide)) rfl T.m_check_tick T.F_check_tick.kp (b_check_tick T) .nil pass0 (pa_cons (pv 1) pa_nil))))
      (jss_cons (js_ps (fun _ _ => ps_if (pt_not (pt_val (pe_call (ok_is_int_in T) (hr.mono (by decide)) rfl T.m_is_int_in T.F_is_int_in.kp (b_is_int_in T) .nil pass0 (pa_cons (pv 2) (pa_cons (pe_op op_sub (pv 1) pe_int) (pa_cons (pe_callB (call_min2 rfl) (by rfl) T.z_min (by decide +kernel) (pa_cons (pe_glob (v := V.int 1000000000000000000) rfl T.c_MAX_TICK ⟨_, rfl⟩) (pa_cons (pe_op op_sub (pe_op op_add (pv 1) (pe_glob (v := V.int 500) rfl T.c_MAX_TRACE ⟨_, rfl⟩)) pe_int) pa_nil))) pa_nil)))))) pss_never pss_nil))
      (jss_cons (js_ps (fun _ _ => ps_set (i := 4) sc_trace.nd rfl (Or.inl rfl) (pe_make T.mk_Story (ok_Story_init T) (hr.mono (by decide)) (by rfl) T.m_Story (b_Story_init T) .nil pass0 (pa_cons (pv 3) pa_nil))))
      (jss_cons (js_for rfl (fun _ _ => pi_range2 (by rfl) T.z_range (pa_cons (pv 1) (pa_cons (pe_op op_add (pv 2) pe_int) pa_nil))) (fun _ _ => pg_name (i := 5) sc_trace.nd rfl (Or.inl rfl)) (jss_cons (js_yield (fun _ _ => pe_tup (pa_cons (pv 5) (pa_starJ (K := K) rfl (pe_fldJ (K := K) rfl (pe_meth (pv 4) T.cl_Story T.M_Story_happens (ok_Story_happens T) (hr.mono (by decide)) (b_Story_happens T) .nil pass0 (pa_cons (pv 5) pa_nil)) rfl) pa_nil))))
      jss_nil))
      jss_nil))))), ?_⟩
  refine ⟨_, rfl, ⟨⟨src, G, x, rfl, ld, ok, hGH, fun G1 H1 v1 x1 s1 h1 => ?_⟩⟩⟩
  have B1 := (Pt.start hGH).call x1 s1
  refine ⟨_, rfl, check_go ht ?_⟩
  refine ⟨_, rfl, _, rfl, _, _, rfl, rfl, _, rfl, _, _, rfl, rfl, _, _, rfl, rfl, _, _, rfl, ?_⟩
  refine isint_go (by omega) ?_ ⟨_, rfl, ite_f rfl ?_⟩
  · split <;> omega
  refine ⟨_, rfl, ?_⟩
  intro y dy ny nd ne
  obtain ⟨yG, sS, hp2⟩ := story_pre B1 h1 ny nd ne
  refine ⟨⟨y, dy, _, _, x, i, n, rfl, upd_same, yG, sS, hp2, ok, cy, le, fun G' H2 l0 vs0 M yG' hy' hl0 ht0 => ⟨rfl, ?_⟩⟩⟩
  obtain ⟨G2, B2, S2, hS⟩ := story_post B1 ny nd ne M yG' hy' hl0 ht0
  refine ⟨_, rfl, _, rfl, _, _, rfl, rfl, _, _, rfl, ⟨by omega, by omega, by omega, by omega⟩, ?_⟩
  have em : ((t : Int) + (m : Int) - 1 + 1 - (t : Int)).toNat = m := by omega
  rw [em]
  have hL2 : ∀ b ∈ L, G2 b = none := fun b hb => by
    obtain ⟨h1, o, h2⟩ := hL b hb
    exact B2.ext.out h1 h2
  refine jfor_range (lo := (t : Int)) (n := m) (fun j τ σ H' => ∃ (v5 : Option V), σ = [some (.str src), some (.int t), some (.int ((t : Int) + (m : Int) - 1)), some v1, some (.ref y), v5] ∧ Same G2 H' ∧ I j τ H') ?_ ?_ ?_
  · exact ⟨none, rfl, B2.s, hI0 _ B2.sm⟩
  · rintro j τ σ H' hj ⟨v5, rfl, s3, hI⟩
    have eτ := hIτ _ _ _ hI
    obtain ⟨y', dy2, l, vs, eY, hy, hl, hts⟩ := id hS
    cases eY
    refine ⟨by rw [eτ]; exact smaller 500 (by omega) (by decide), ?_⟩
    refine ⟨_, rfl, _, rfl, y, dy2, _, rfl, s3 _ _ hy, (by kernel_rfl), _, rfl, ⟨⟨G2, _, x, i, n, t + j, by push_cast; rfl, hS, cy, s3, fun u hu => ?_⟩⟩⟩
    obtain ⟨r, dr, tw, su, rfl, hr1, hr2, _⟩ := hu
    refine ⟨r, _, dr, _, .ref tw, rfl, s3 _ _ hr1, T.cl_Tick, T.n_Tick_words, (by kernel_rfl), tw, _, rfl, .inl (Same.seqT s3 hr2), (by show 3 ≤ sizeLine; decide), fun p hp => ?_⟩
    have e : ((t + j : Nat) : Int) = (t : Int) + (j : Int) := by push_cast; rfl
    have er : ([V.int ((t : Int) + (j : Int)), .str (doS (wordsAt x (t + j)).1), .str (doS (wordsAt x (t + j)).2)] : List V) = rowV x (t + j) := by
      unfold rowV
      rw [e]
    have s4 : Same G2 (upd H' p (.tup (rowV x (t + j)))) := s3.trans (same_new hp)
    refine cast (congrArg (fun z => yl τ (.ref p) (upd H' p (.tup z)) _) er.symm) (hIs j τ H' p hj hI hp _ fun τ' H'' kk h' => ?_)
    exact ⟨_, rfl, KeepL.data s4 hL2 kk, h'⟩
  · rintro τ σ H' ⟨v5, rfl, s3, hI⟩
    exact hIe _ _ hI
end
end Sb

namespace Sb
open PySem PySem.Spec PyProof.Rows L2
/-! ### the law in plain Lean: what one word does to the shelf, the places and the hands -/
inductive Eff (s s' : Sit) (i : Nat) : Nat → Prop
  | left : 1 ≤ s.cs.getD i 0 → s'.cs = s.cs.set i (s.cs.getD i 0 - 1) → s'.hs = s.hs → s'.sh = s.sh → Eff s s' i 0
  | right : s'.cs = s.cs.set i (s.cs.getD i 0 + 1) → s'.hs = s.hs → s'.sh = s.sh → Eff s s' i 1
  | pick : s'.cs = s.cs → s.hs.getD i false = false → s'.hs = s.hs.set i true → 1 ≤ s.sh.getD (s.cs.getD i 0) 0 → s'.sh = s.sh.set (s.cs.getD i 0) (s.sh.getD (s.cs.getD i 0) 0 - 1) → Eff s s' i 2
  | put : s'.cs = s.cs → s.hs.getD i false = true → s'.hs = s.hs.set i false → s'.sh = s.sh.set (s.cs.getD i 0) (s.sh.getD (s.cs.getD i 0) 0 + 1) → Eff s s' i 3
  | none (w : Nat) : 4 ≤ w → w ≤ 8 → s'.cs = s.cs → s'.hs = s.hs → s'.sh = s.sh → Eff s s' i w
theorem act_eff {x : Pl} {s : Sit} {i : Nat} (hx : x.Ok) (o : SitOk x s) (hi : i < 2) : Eff s (actP x s i).2 i (actP x s i).1 := by
  have w8 := (st_ok hx o hi).w8
  match h : (stOf x s i).w with
  | 0 =>
    rw [act_left h]
    split
    · exact .none 8 (by decide) (by decide) rfl rfl rfl
    · rename_i c
      simp only [not_or] at c
      show Eff s _ i (stOf x s i).w
      rw [h]
      exact .left (by have := c.1; unfold cOf at this; omega) rfl rfl rfl
  | 1 =>
    rw [act_right h]
    split
    · exact .none 8 (by decide) (by decide) rfl rfl rfl
    · show Eff s _ i (stOf x s i).w
      rw [h]
      exact .right rfl rfl rfl
  | 2 =>
    rw [act_pick h]
    split
    · exact .none 8 (by decide) (by decide) rfl rfl rfl
    · rename_i c
      simp only [not_or] at c
      show Eff s _ i (stOf x s i).w
      rw [h]
      exact .pick rfl (by simpa using c.1) rfl (by have := c.2; unfold cOf at this; omega) rfl
  | 3 =>
    rw [act_put h]
    split
    · exact .none 8 (by decide) (by decide) rfl rfl rfl
    · rename_i c
      simp only [not_or] at c
      show Eff s _ i (stOf x s i).w
      rw [h]
      exact .put rfl (by simpa using c.1) rfl rfl
  | n + 4 =>
    rw [act_else (by omega)]
    show Eff s _ i (stOf x s i).w
    exact .none _ (by omega) (by omega) rfl rfl rfl
/-! ### nothing is lost -/
theorem sum_set : ∀ {l : List Nat} {i v : Nat}, i < l.length → (l.set i v).sum + l.getD i 0 = l.sum + v
  | [], _, _, h => absurd h (Nat.not_lt_zero _)
  | a :: l, 0, v, _ => by simp only [List.set_cons_zero, List.sum_cons, List.getD_cons_zero]; omega
  | a :: l, i + 1, v, h => by
    have := sum_set (l := l) (i := i) (v := v) (by simpa using h)
    simp only [List.set_cons_succ, List.sum_cons, List.getD_cons_succ]
    omega
def heldN (hs : List Bool) : Nat := (holdL hs).length
theorem heldN_two (a b : Bool) : heldN [a, b] = a.toNat + b.toNat := by cases a <;> cases b <;> rfl
def totalS (s : Sit) : Nat := s.sh.sum + heldN s.hs
theorem eff_total {x : Pl} {s s' : Sit} {i w : Nat} (o : SitOk x s) (hi : i < 2) (e : Eff s s' i w) : totalS s' = totalS s := by
  have cl := o.cl i hi
  unfold totalS
  cases e with
  | left _ h1 h2 h3 => rw [h2, h3]
  | right h1 h2 h3 => rw [h2, h3]
  | none _ _ _ h1 h2 h3 => rw [h2, h3]
  | pick h1 h2 h3 h4 h5 =>
    rw [h3, h5]
    have q := sum_set (v := s.sh.getD (s.cs.getD i 0) 0 - 1) cl
    match hs : s.hs, o.h2 with
    | [a, b], _ =>
      rw [hs] at h2
      match i, hi with
      | 0, _ =>
        have ea : a = false := h2
        subst ea
        show _ + heldN [true, b] = _
        rw [heldN_two, heldN_two]
        simp only [Bool.toNat_true, Bool.toNat_false]
        omega
      | 1, _ =>
        have ea : b = false := h2
        subst ea
        show _ + heldN [a, true] = _
        rw [heldN_two, heldN_two]
        simp only [Bool.toNat_true, Bool.toNat_false]
        omega
  | put h1 h2 h3 h5 =>
    rw [h3, h5]
    have q := sum_set (v := s.sh.getD (s.cs.getD i 0) 0 + 1) cl
    match hs : s.hs, o.h2 with
    | [a, b], _ =>
      rw [hs] at h2
      match i, hi with
      | 0, _ =>
        have ea : a = true := h2
        subst ea
        show _ + heldN [false, b] = _
        rw [heldN_two, heldN_two]
        simp only [Bool.toNat_true, Bool.toNat_false]
        omega
      | 1, _ =>
        have ea : b = true := h2
        subst ea
        show _ + heldN [a, false] = _
        rw [heldN_two, heldN_two]
        simp only [Bool.toNat_true, Bool.toNat_false]
        omega
theorem total_at {x : Pl} (hx : x.Ok) : ∀ n, totalS (sitAt x n) = x.shelf.sum
  | 0 => by show _ + heldN [false, false] = _; rw [heldN_two]; rfl
  | n + 1 => by
    have o := sitAt_ok hx n
    have o1 := act_ok hx o (i := 0) (by decide)
    show totalS (actP x (actP x (sitAt x n) 0).2 1).2 = _
    rw [eff_total o1 (by decide) (act_eff hx o1 (by decide)), eff_total o (by decide) (act_eff hx o (by decide)), total_at hx n]
/-! ### the number of each word -/
theorem cntF_add (f g : Nat → Nat) (t : Nat) : cntF (fun j => f j + g j) t = cntF f t + cntF g t := by
  induction t with
  | zero => rfl
  | succ t ih => rw [cntF_succ, cntF_succ, cntF_succ, ih]; omega
theorem cntF_one (t : Nat) : cntF (fun _ => 1) t = t := by
  induction t with
  | zero => rfl
  | succ t ih => rw [cntF_succ, ih]
def nineS : List Str := ["pick", "put", "left", "right", "wait", "goto", "empty", "held", "blocked"]
theorem nine_one {w : Nat} (h : w ≤ 8) : ((nineS.map fun k => if doS w = k then 1 else 0).sum : Nat) = 1 := by
  have : ∀ w : _root_.Fin 9, ((nineS.map fun k => if doS w.val = k then 1 else 0).sum : Nat) = 1 := by decide +kernel
  exact this ⟨w, by omega⟩
theorem cntF_sum (l : List Str) (f : Str → Nat → Nat) (t : Nat) : (l.map fun k => cntF (f k) t).sum = cntF (fun j => (l.map fun k => f k j).sum) t := by
  induction l with
  | nil =>
    show 0 = _
    induction t with
    | zero => rfl
    | succ t ih => rw [cntF_succ, ← ih]; rfl
  | cons a l ih =>
    simp only [List.map_cons, List.sum_cons]
    rw [ih, cntF_add]
theorem wdN_le {x : Pl} (hx : x.Ok) (j num : Nat) : wdN (wordsAt x j) num ≤ 8 := by
  have o := sitAt_ok hx j
  have o1 := act_ok hx o (i := 0) (by decide)
  unfold wdN
  split
  · exact act_w hx o (by decide)
  · exact act_w hx o1 (by decide)
theorem nine_sum {x : Pl} (hx : x.Ok) (num t : Nat) : (nineS.map fun k => cntF (phiAt x (phiS num k)) t).sum = t := by
  rw [cntF_sum]
  have : (fun j => (nineS.map fun k => phiAt x (phiS num k) j).sum) = fun _ => 1 := funext fun j => nine_one (wdN_le hx j num)
  rw [this, cntF_one]
theorem eff_hand {s s' : Sit} {i w j : Nat} (o : s.hs.length = 2) (hi : i < 2) (e : Eff s s' i w) : (s'.hs.getD j false).toNat + (if j = i ∧ w = 3 then 1 else 0) = (s.hs.getD j false).toNat + (if j = i ∧ w = 2 then 1 else 0) := by
  have il : i < s.hs.length := by omega
  cases e with
  | left _ h1 h2 h3 => rw [h2]; simp
  | right h1 h2 h3 => rw [h2]; simp
  | none _ h4 _ h1 h2 h3 =>
    rw [h2, if_neg (by omega), if_neg (by omega)]
  | pick h1 h2 h3 h4 h5 =>
    rw [h3, getD_set il]
    by_cases e : j = i
    · subst e
      rw [if_pos rfl, if_neg (by omega), if_pos ⟨rfl, rfl⟩, h2]
      rfl
    · rw [if_neg e, if_neg (by omega), if_neg (by omega)]
  | put h1 h2 h3 h5 =>
    rw [h3, getD_set il]
    by_cases e : j = i
    · subst e
      rw [if_pos rfl, if_pos ⟨rfl, rfl⟩, if_neg (by omega), h2]
      rfl
    · rw [if_neg e, if_neg (by omega), if_neg (by omega)]
theorem doS_inj2 {w : Nat} (h : w ≤ 8) : (doS w = "pick" ↔ w = 2) ∧ (doS w = "put" ↔ w = 3) := by
  have : ∀ w : _root_.Fin 9, (doS w.val = "pick" ↔ w.val = 2) ∧ (doS w.val = "put" ↔ w.val = 3) := by decide +kernel
  exact this ⟨w, by omega⟩
theorem pick_put {x : Pl} (hx : x.Ok) {num : Nat} (hn : num < 2) : ∀ t, cntF (phiAt x (phiS num "pick")) t = cntF (phiAt x (phiS num "put")) t + ((sitAt x t).hs.getD num false).toNat
  | 0 => by
    match num, hn with
    | 0, _ => rfl
    | 1, _ => rfl
  | t + 1 => by
    have ih := pick_put hx hn t
    have o := sitAt_ok hx t
    have o1 := act_ok hx o (i := 0) (by decide)
    have a := eff_hand (j := num) o.h2 (by decide) (act_eff hx o (i := 0) (by decide))
    have b := eff_hand (j := num) o1.h2 (by decide) (act_eff hx o1 (i := 1) (by decide))
    have w8 := wdN_le hx t num
    have d := doS_inj2 w8
    rw [cntF_succ, cntF_succ]
    show _ + (if doS (wdN (wordsAt x t) num) = "pick" then 1 else 0) = _ + (if doS (wdN (wordsAt x t) num) = "put" then 1 else 0) + ((actP x (actP x (sitAt x t) 0).2 1).2.hs.getD num false).toNat
    simp only [d.1, d.2]
    match num, hn with
    | 0, _ =>
      have ew : wdN (wordsAt x t) 0 = (actP x (sitAt x t) 0).1 := rfl
      rw [ew]
      simp only [show ¬ ((0 : Nat) = 1) by decide, false_and, if_false, true_and] at a b
      omega
    | 1, _ =>
      have ew : wdN (wordsAt x t) 1 = (actP x (actP x (sitAt x t) 0).2 1).1 := rfl
      rw [ew]
      simp only [show ¬ ((1 : Nat) = 0) by decide, false_and, if_false, true_and] at a b
      omega
/-! ### the ranges -/
theorem SitOk.places {x : Pl} {s : Sit} (o : SitOk x s) : ∃ a b, s.cs = [a, b] ∧ a < x.shelf.length ∧ b < x.shelf.length ∧ a ≠ b := by
  match h : s.cs, o.c2 with
  | [a, b], _ =>
    refine ⟨a, b, rfl, ?_, ?_, ?_⟩
    · have := o.cl 0 (by decide); rw [h, o.len] at this; exact this
    · have := o.cl 1 (by decide); rw [h, o.len] at this; exact this
    · have := o.ne; rw [h] at this; exact this
def midP (x : Pl) (j : Nat) : Nat → Sit
  | 0 => sitAt x j
  | 1 => (actP x (sitAt x j) 0).2
  | _ => sitAt x (j + 1)
theorem mid_ok {x : Pl} (hx : x.Ok) (j : Nat) : ∀ i, SitOk x (midP x j i)
  | 0 => sitAt_ok hx j
  | 1 => act_ok hx (sitAt_ok hx j) (by decide)
  | _ + 2 => sitAt_ok hx (j + 1)
theorem mid_eff {x : Pl} (hx : x.Ok) (j : Nat) {i : Nat} (hi : i < 2) : Eff (midP x j i) (midP x j (i + 1)) i (wdN (wordsAt x j) i) := by
  match i, hi with
  | 0, _ => exact act_eff hx (sitAt_ok hx j) (by decide)
  | 1, _ => exact act_eff hx (act_ok hx (sitAt_ok hx j) (by decide)) (by decide)
def hV (hs : List Bool) : List V := hs.map fun b => V.int (b.toNat : Nat)
theorem hV_len (hs : List Bool) : (hV hs).length = hs.length := List.length_map _
theorem hV_at {l : List Bool} {i : Nat} (h : i < l.length) : (hV l)[i]? = some (.int ((l.getD i false).toNat : Nat)) := by
  unfold hV
  rw [List.getElem?_map, List.getElem?_eq_getElem h, List.getD_eq_getElem?_getD, List.getElem?_eq_getElem h]
  rfl
theorem hV_set {l : List Bool} {i : Nat} {b : Bool} : (hV l).set i (.int (b.toNat : Nat)) = hV (l.set i b) := by unfold hV; rw [List.map_set]
structure Tri (a b c : Addr) (s : Sit) (H : Hp) : Prop where
  sh : H a = some (.lst (nV s.sh))
  cs : H b = some (.lst (nV s.cs))
  hs : H c = some (.lst (hV s.hs))
theorem Tri.same {a b c : Addr} {s : Sit} {H H' : Hp} (t : Tri a b c s H) (m : Same H H') : Tri a b c s H' := ⟨m _ _ t.sh, m _ _ t.cs, m _ _ t.hs⟩
theorem Tri.lay {a b c q : Addr} {s : Sit} {H : Hp} {o : HO} (t : Tri a b c s H) (h : H q = none) : Tri a b c s (upd H q o) := t.same (same_new h)
theorem Tri.setB {a b c : Addr} {s s' : Sit} {H : Hp} {xs : List V} (t : Tri a b c s H) (ab : a ≠ b) (bc : b ≠ c) (e1 : s'.sh = s.sh) (e2 : s'.hs = s.hs) (e3 : xs = nV s'.cs) : Tri a b c s' (upd H b (.lst xs)) :=
  ⟨by rw [upd_ne ab, e1]; exact t.sh, by rw [e3]; exact upd_same, by rw [upd_ne bc.symm, e2]; exact t.hs⟩
theorem Tri.setAC {a b c : Addr} {s s' : Sit} {H : Hp} {xs ys : List V} (t : Tri a b c s H) (ab : a ≠ b) (ac : a ≠ c) (bc : b ≠ c) (e1 : s'.cs = s.cs) (e2 : ys = nV s'.sh) (e3 : xs = hV s'.hs) : Tri a b c s' (upd (upd H c (.lst xs)) a (.lst ys)) :=
  ⟨by rw [e2]; exact upd_same, by rw [upd_ne ab.symm, upd_ne bc, e1]; exact t.cs, by rw [upd_ne ac.symm, e3]; exact upd_same⟩
theorem Tri.cast {a b c : Addr} {s s' : Sit} {H : Hp} (t : Tri a b c s H) (e1 : s'.cs = s.cs) (e2 : s'.hs = s.hs) (e3 : s'.sh = s.sh) : Tri a b c s' H := ⟨by rw [e3]; exact t.sh, by rw [e1]; exact t.cs, by rw [e2]; exact t.hs⟩
theorem in_none {w : Nat} (h1 : 4 ≤ w) (h2 : w ≤ 8) : inV (.str (doS w)) [.str "left", .str "right"] = false ∧ inV (.str (doS w)) [.str "pick", .str "put"] = false := by
  have : ∀ w : _root_.Fin 9, 4 ≤ w.val → inV (.str (doS w.val)) [.str "left", .str "right"] = false ∧ inV (.str (doS w.val)) [.str "pick", .str "put"] = false := by decide +kernel
  exact this ⟨w, by omega⟩ h1
theorem nV_len (l : List Nat) : (nV l).length = l.length := List.length_map _
theorem hV_int (l : List Bool) : hV l = (l.map fun b : Bool => ((b.toNat : Nat) : Int)).map V.int := by unfold hV; rw [List.map_map]; rfl
end Sb

namespace Sb
open PySem PySem.Spec PyProof.Rows L2 TL
def partsV (s : Sit) : List (List V) := [nV s.cs, nV s.ns, bV s.hs, nV s.sh]
theorem mod_nat (n m : Nat) : ((n : Int) + 1) % (m : Int) = (((n + 1) % m : Nat) : Int) := by
  rw [Int.natCast_emod]
  push_cast
  rfl
section
variable {P : Program} {w : World} {K : PySem.W.Frag} {mg : Str → Option Value} {base : Heap} {a : Ad}
theorem ok_l_act (T : Txt K mg a) : FnOk P w K mg base CX0 1 a.f_l_act a.d_l_act ["_law_plan_here", "_law_state", "_law_number"] (spLAct K) := by
  refine T.F_l_act.ok sc_l_act (fun vs H Q E h => ?_) (fun cdv A outer s0 H vs Q E hr h => ?_)
  · obtain ⟨⟨G, v, u, x, s, i, rfl, _⟩⟩ := h
    rfl
  · obtain ⟨⟨G, v, u, x, s, i, rfl, hp, hu, hx, ho, hi, hGH, k⟩⟩ := h
    refine ⟨_, (pss_cons (ps_asg (pe_lc (own := [("_law_part", 7)]) (g := gName 7) (te := (tCB (fun xs H Q => ∃ p ys, xs = [.ref p] ∧ (SqL K H p ys ∨ SqT K H p ys) ∧ ∀ l, H l = none → Q (.ref l) (upd H l (.lst ys))) (tCons (tVar 7) tNil))) (tt := tYes) rfl sc_l_act.nd (pi_list (pv 1)) (blkOk_by (own := [("_law_part", 7)]) (N := ["_law_plan_here", "_law_state", "_law_number", "_law_places", "_law_nexts", "_law_holds", "_law_shelf", "_law_part", "_law_word", "_law_goal", "_law_here", "_law_there", "_law_jumps"]) (sc := (defScope s_l_act)) (by decide +kernel)) (fun _ _ _ _ _ => (pg_name (i := 7) sc_l_act.nd rfl (Or.inl rfl))) (fun _ _ _ _ _ => pts_nil) (fun _ _ _ _ _ => by exact (pe_callTy call_list_of (by rfl) T.z_list (by decide +kernel) (pa_cons (pv 7) pa_nil)))) (pg_lst (by rfl) (pgs_cons (pg_name (i := 3) sc_l_act.nd rfl (Or.inl rfl)) (pgs_cons (pg_name (i := 4) sc_l_act.nd rfl (Or.inl rfl)) (pgs_cons (pg_name (i := 5) sc_l_act.nd rfl (Or.inl rfl)) (pgs_cons (pg_name (i := 6) sc_l_act.nd rfl (Or.inl rfl)) pgs_nil))))))
      (pss_cons (ps_asg (pe_ix ix_list (pe_ix ix_list (pe_ix ix_tup (pv 0) pe_int (fun _ _ => rfl)) (pv 2) (fun _ _ => rfl)) (pe_ix ix_list (pv 4) (pv 2) (fun _ _ => rfl)) (fun _ _ => rfl)) (pg_tup (by rfl) (pgs_cons (pg_name (i := 8) sc_l_act.nd rfl (Or.inl rfl)) (pgs_cons (pg_name (i := 9) sc_l_act.nd rfl (Or.inl rfl)) pgs_nil))))
      (pss_cons (ps_set (i := 10) sc_l_act.nd rfl (Or.inl rfl) (pe_ix ix_list (pv 3) (pv 2) (fun _ _ => rfl)))
      (pss_cons (ps_if (pt_cmpR op_in_seq (pv 8) (pe_lst (pa_cons pe_str (pa_cons pe_str pa_nil))) rfl) (pss_cons (ps_set (i := 11) sc_l_act.nd rfl (Or.inl rfl) (pe_op op_add (pv 10) (pe_ifExp (pt_cmpR op_eq (pv 8) pe_str (nomark _)) pe_int (pe_op op_sub pe_int pe_int))))
      (pss_cons (ps_if (PW.pt (pw_or (pt_not (pt_chain op_le op_lt pe_int (pv 11) (pe_callB call_len_seq (by rfl) T.z_len (by decide +kernel) (pa_cons (pv 6) pa_nil)))) (pw_or1 (pt_cmpR op_eq (pv 11) (pe_ix ix_list (pv 3) (pe_op op_sub pe_int (pv 2)) (fun _ _ => rfl)) (nomark _))))) (pss_one (ps_ret (pe_tup (pa_cons pe_str (pa_cons (pv 1) pa_nil))))) pss_nil)
      (pss_one (ps_asg (pv 11) (pg_sub (pv 3) (pv 2) set_list))))) pss_nil)
      (pss_cons (ps_if (pt_cmpR op_eq (pv 8) pe_str (nomark _)) (pss_cons (ps_if (PW.pt (pw_or (pt_val (pe_ix ix_list (pv 5) (pv 2) (fun _ _ => rfl))) (pw_or1 (pt_cmpR op_eq (pe_ix ix_list (pv 6) (pv 10) (fun _ _ => rfl)) pe_int (nomark _))))) (pss_one (ps_ret (pe_tup (pa_cons pe_str (pa_cons (pv 1) pa_nil))))) pss_nil)
      (pss_one (ps_asg (pe_tup (pa_cons pe_bl (pa_cons (pe_op op_sub (pe_ix ix_list (pv 6) (pv 10) (fun _ _ => rfl)) pe_int) pa_nil))) (pg_tup (by rfl) (pgs_cons (pg_sub (pv 5) (pv 2) set_list) (pgs_cons (pg_sub (pv 6) (pv 10) set_list) pgs_nil)))))) pss_nil)
      (pss_cons (ps_if (pt_cmpR op_eq (pv 8) pe_str (nomark _)) (pss_cons (ps_if (PW.pt (pw_or (pt_not (pt_val (pe_ix ix_list (pv 5) (pv 2) (fun _ _ => rfl)))) (pw_or1 (pt_cmpR op_gt (pe_ix ix_list (pv 6) (pv 10) (fun _ _ => rfl)) pe_int (nomark _))))) (pss_one (ps_ret (pe_tup (pa_cons pe_str (pa_cons (pv 1) pa_nil))))) pss_nil)
      (pss_one (ps_asg (pe_tup (pa_cons pe_bl (pa_cons (pe_op op_add (pe_ix ix_list (pv 6) (pv 10) (fun _ _ => rfl)) pe_int) pa_nil))) (pg_tup (by rfl) (pgs_cons (pg_sub (pv 5) (pv 2) set_list) (pgs_cons (pg_sub (pv 6) (pv 10) set_list) pgs_nil)))))) pss_nil)
      (pss_cons (ps_set (i := 12) sc_l_act.nd rfl (Or.inl rfl) (pe_or (pe_cmpR op_eq (pv 8) pe_str (nomark _)) (pe_or (pe_and (pe_cmpR op_eq (pv 8) pe_str (nomark _)) (pe_one (pe_cmpR op_eq (pe_ix ix_list (pv 6) (pv 10) (fun _ _ => rfl)) pe_int (nomark _)))) (pe_one (pe_and (pe_cmpR op_eq (pv 8) pe_str (nomark _)) (pe_one (pe_ix ix_list (pv 5) (pv 2) (fun _ _ => rfl))))))))
      (pss_cons (ps_asg (pe_ifExp (pt_val (pv 12)) (pv 9) (pe_op op_mod (pe_op op_add (pe_ix ix_list (pv 4) (pv 2) (fun _ _ => rfl)) pe_int) (pe_callB call_len_seq (by rfl) T.z_len (by decide +kernel) (pa_cons (pe_ix ix_list (pe_ix ix_tup (pv 0) pe_int (fun _ _ => rfl)) (pv 2) (fun _ _ => rfl)) pa_nil)))) (pg_sub (pv 4) (pv 2) set_list))
      (pss_one (ps_ret (pe_tup (pa_cons (pv 8) (pa_cons (pe_lst (pa_cons (pv 3) (pa_cons (pv 4) (pa_cons (pv 5) (pa_cons (pv 6) pa_nil))))) pa_nil))))))))))))), ?_⟩
    obtain ⟨t, sh, st, bo, l1, l2, xs1, xs2, rfl, ht, hsh, hst, hbo, hl1, hl2, hx1, hx2⟩ := plan_inv hp
    obtain ⟨ua, uc, un, ub, ue, rfl, hua, huc, hun, hub, hue⟩ := sitL_inv hu
    obtain ⟨li, xsi, hli, hsi, hdi⟩ : ∃ li xsi, ([V.ref l1, V.ref l2] : List V)[i]? = some (.ref li) ∧ SqL K G li xsi ∧ DpAll K G xsi ((stepsOf x i).map Step.D) := by
      match i, hi with
      | 0, _ => exact ⟨l1, xs1, rfl, hl1, hx1⟩
      | 1, _ => exact ⟨l2, xs2, rfl, hl2, hx2⟩
    obtain ⟨est, _⟩ := st_mem ho hi
    have sok := st_ok hx ho hi
    have nl := ho.nl i hi
    have cl := ho.cl i hi
    obtain ⟨y, hy, hDy⟩ := DpAll.at hdi (i := s.ns.getD i 0) (d := (stOf x s i).D) (by rw [List.getElem?_map, est]; rfl)
    obtain ⟨tt, g, rfl, htt, hg⟩ := step_inv hDy
    have w8 := sok.w8
    have ic : i < s.cs.length := by rw [ho.c2]; exact hi
    have in_ : i < s.ns.length := by rw [ho.n2]; exact hi
    have ih : i < s.hs.length := by rw [ho.h2]; exact hi
    have ic1 : 1 - i < s.cs.length := by rw [ho.c2]; omega
    -- the copies
    refine ⟨_, rfl, ua, rfl, ⟨_, hGH.seq hua⟩, fun D hD => ?_⟩
    have D0 := hD
    refine lc_list (K := K) (a := ua) (xs := [.ref uc, .ref un, .ref ub, .ref ue]) (fun j H' => ∃ ps : List Addr, ps.length = j ∧ Pt G H G H' ∧ H' D = some (.lst (ps.map V.ref)) ∧ ps.Nodup ∧ D ∉ ps ∧ ∀ (m : Nat) (p : Addr), ps[m]? = some p → H p = none ∧ ∃ it, (partsV s)[m]? = some it ∧ H' p = some (.lst it))
      ⟨[], rfl, (Pt.start hGH).lay hD _, upd_same, List.nodup_nil, by simp, fun m p e => by simp at e⟩ (fun j H' _ ⟨ps, _, p1, _⟩ => (hGH.trans p1.sm).seq hua) ?_ ?_
    · rintro j y H' hy ⟨ps, hj, p1, hD', hnd, hDn, hps⟩
      obtain ⟨q, it, rfl, hit, hq⟩ : ∃ q it, y = .ref q ∧ (partsV s)[j]? = some it ∧ SqL K G q it := by
        match j, hy with
        | 0, hy => exact ⟨uc, _, (Option.some.inj hy).symm, rfl, huc⟩
        | 1, hy => exact ⟨un, _, (Option.some.inj hy).symm, rfl, hun⟩
        | 2, hy => exact ⟨ub, _, (Option.some.inj hy).symm, rfl, hub⟩
        | 3, hy => exact ⟨ue, _, (Option.some.inj hy).symm, rfl, hue⟩
        | m + 4, hy => simp at hy
      have hj4 : j < 4 := (List.getElem?_eq_some_iff.mp hy).1
      refine ⟨rfl, _, rfl, q, it, rfl, .inl ((hGH.trans p1.sm).seq hq), fun l hl => ?_⟩
      have Dl : D ≠ l := ne_of_none hD' hl
      have l0 : H l = none := p1.free hl
      refine ⟨_, by rw [upd_ne Dl]; exact hD', smaller 4 (by rw [List.length_map]; omega) (by decide), ps ++ [l], by rw [List.length_append, hj]; rfl, (p1.lay hl _).put D0 (Same.free hGH D0) _, by rw [upd_same, List.map_append]; rfl, ?_, ?_, ?_⟩
      · refine List.nodup_append.mpr ⟨hnd, by simp, fun p hp q hq e => ?_⟩
        rw [List.mem_singleton.mp hq] at e
        subst e
        obtain ⟨m, hm⟩ := List.getElem?_of_mem hp
        obtain ⟨_, it', _, h'⟩ := hps m p hm
        rw [h'] at hl
        cases hl
      · intro h
        rcases List.mem_append.mp h with h | h
        · exact hDn h
        · exact Dl (List.mem_singleton.mp h)
      · intro m p hm
        by_cases hmj : m < ps.length
        · rw [List.getElem?_append_left hmj] at hm
          obtain ⟨h1, it', h2, h3⟩ := hps m p hm
          have hpD : p ≠ D := fun e => hDn (by rw [← e]; exact List.mem_of_getElem? hm)
          refine ⟨h1, it', h2, ?_⟩
          rw [upd_ne hpD, upd_ne (ne_of_none h3 hl)]
          exact h3
        · rw [List.getElem?_append_right (by omega)] at hm
          have hm0 : m - ps.length = 0 := by
            cases e : m - ps.length with
            | zero => rfl
            | succ z => rw [e] at hm; simp at hm
          rw [hm0] at hm
          have : l = p := by simpa using hm
          subst this
          have : m = j := by omega
          subst this
          refine ⟨l0, it, hit, ?_⟩
          rw [upd_ne Dl.symm, upd_same]
    rintro H1 ⟨ps, hj, p1, hD1, hnd, hDn, hps⟩
    match ps, hj with
    | [c, n, b, e], _ =>
    have W1 : Wk G H H1 c n b e s := by
      obtain ⟨c0, _, q1, q2⟩ := hps 0 c rfl; cases q1
      obtain ⟨n0, _, q3, q4⟩ := hps 1 n rfl; cases q3
      obtain ⟨b0, _, q5, q6⟩ := hps 2 b rfl; cases q5
      obtain ⟨e0, _, q7, q8⟩ := hps 3 e rfl; cases q7
      simp only [List.nodup_cons, List.mem_cons, List.mem_singleton, List.not_mem_nil, or_false, not_or] at hnd
      exact ⟨p1, hGH, c0, n0, b0, e0, hnd.1.1, hnd.1.2.1, hnd.1.2.2, hnd.2.1.1, hnd.2.1.2, hnd.2.2.1, q2, q4, q6, q8⟩
    refine ⟨D, _, rfl, SqL.of hD1, rfl, _, _, rfl, _, _, rfl, _, _, rfl, _, _, rfl, rfl, ?_⟩
    -- word, goal
    refine ⟨_, rfl, t, _, _, .ref bo, rfl, rfl, Same.seqT (hGH.trans W1.pt.sm) ht, at_of (j := 2) rfl rfl, _, rfl, bo, _, _, .ref li, rfl, rfl, (hGH.trans W1.pt.sm).seq hbo, at_of (j := i) rfl hli, _, rfl, _, rfl, n, _, _, .int (s.ns.getD i 0 : Nat), rfl, rfl, SqL.of W1.hn, at_of (j := i) rfl (nV_at in_), li, _, _, .ref tt, rfl, rfl, (hGH.trans W1.pt.sm).seq hsi, at_of (j := s.ns.getD i 0) rfl hy, ?_⟩
    refine ⟨tt, _, rfl, Same.seqT (hGH.trans W1.pt.sm) htt, rfl, _, _, rfl, _, _, rfl, rfl, ?_⟩
    -- here
    refine ⟨_, rfl, _, rfl, c, _, _, .int (cOf s i : Nat), rfl, rfl, SqL.of W1.hc, at_of (j := i) rfl (nV_at ic), ?_⟩
    dsimp only
    have blk : actP x s i = (8, s) → ∀ H', Pt G H G H' → (2 ≤ sizeLine ∧ ∀ p, H' p = none → Q (.ref p) (upd H' p (.tup [.str "blocked", .ref ua]))) := fun e H' p' => by
      refine ⟨by decide, fun p hp' => ?_⟩
      have p2 := p'.new hp' (.tup [.str "blocked", .ref ua])
      refine k _ _ _ p2.ext p2.sm ?_
      rw [e]
      exact .tup (SqT.of upd_same) (.cons (.str _) (.cons (Dp.mono (same_new (p'.freeG hp')) _ _ hu) .nil))
    let Pk : Nat → L2.St → Hp → Prop := fun m σ H' => ∃ (v11 : Option V) (s' : Sit), σ = [some (.ref t), some (.ref ua), some (.int i), some (.ref c), some (.ref n), some (.ref b), some (.ref e), none, some (.str (wS (stOf x s i).w)), some g, some (.int (cOf s i : Nat)), v11, none] ∧
      Wk G H H' c n b e s' ∧ s'.ns = s.ns ∧ ((m ≤ (stOf x s i).w ∧ s' = s) ∨ ((stOf x s i).w < m ∧ s'.hs.length = 2 ∧ s'.sh.length = s.sh.length ∧ actP x s i = finP x s i s'.cs s'.hs s'.sh))
    refine seq_restσ (Pk 2) (fun σ H' hP => ?_) (fun rest => ?m4)
    case m4 =>
      refine ⟨_, rfl, (by show 2 ≤ sizeLine; decide), fun q hq => ?_⟩
      have W2 := W1.lay hq (.lst lrV)
      refine ⟨q, lrV, rfl, .inl (SqL.of upd_same), rfl, lr_flat, _, rfl, ?_⟩
      rw [if_neg Bool.false_ne_true, lr_in w8]
      refine ite2 (fun c2 => ?_) (fun c2 => rest _ _ ⟨none, s, rfl, W2, rfl, .inl ⟨by have : ¬ (stOf x s i).w < 2 := fun z => c2 (decide_eq_true z); omega, rfl⟩⟩)
      have hw2 : (stOf x s i).w < 2 := of_decide_eq_true c2
      refine seq_restσ (fun σ H' => ∃ (z : Int) (c' : Nat), σ = [some (.ref t), some (.ref ua), some (.int i), some (.ref c), some (.ref n), some (.ref b), some (.ref e), none, some (.str (wS (stOf x s i).w)), some g, some (.int (cOf s i : Nat)), some (.int z), none] ∧ upd H1 q (.lst lrV) = H' ∧
        ((¬ (0 ≤ z ∧ z < (s.sh.length : Int)) ∨ z = (s.cs.getD (1 - i) 0 : Nat)) ∧ actP x s i = (8, s) ∨ (0 ≤ z ∧ z < (s.sh.length : Int)) ∧ z ≠ (s.cs.getD (1 - i) 0 : Nat) ∧ z = (c' : Int) ∧ actP x s i = finP x s i (s.cs.set i c') s.hs s.sh)) (fun σ H' hz => ?r1) (fun rest1 => ?m1)
      case m1 =>
        refine ⟨_, rfl, _, rfl, rfl, _, rfl, ite_w 1 w8 (fun hw => ?_) (fun hw => ?_)⟩
        · refine ⟨_, _, rfl, rfl, rest1 _ _ ⟨_, cOf s i + 1, rfl, rfl, ?_⟩⟩
          have ea := act_right hw
          have mo := mem_other (n := cOf s i + 1) ho hi (by omega)
          unfold cOf at *
          by_cases hb : s.sh.length ≤ s.cs.getD i 0 + 1 ∨ s.cs.getD i 0 + 1 ∈ s.cs
          · rw [if_pos hb] at ea
            refine .inl ⟨?_, ea⟩
            rw [mo] at hb
            omega
          · rw [if_neg hb] at ea
            rw [mo] at hb
            exact .inr ⟨by omega, by omega, by omega, ea⟩
        · have hw0 : (stOf x s i).w = 0 := by omega
          refine ⟨_, _, rfl, rfl, _, _, rfl, rfl, rest1 _ _ ⟨_, cOf s i - 1, rfl, rfl, ?_⟩⟩
          have ea := act_left hw0
          unfold cOf at *
          by_cases hc0 : s.cs.getD i 0 = 0
          · rw [if_pos (.inl hc0)] at ea
            exact .inl ⟨.inl (by omega), ea⟩
          · have mo := mem_other (n := s.cs.getD i 0 - 1) ho hi (by unfold cOf; omega)
            by_cases hb : s.cs.getD i 0 - 1 ∈ s.cs
            · rw [if_pos (.inr hb)] at ea
              rw [mo] at hb
              exact .inl ⟨.inr (by omega), ea⟩
            · rw [if_neg (by simp only [not_or]; exact ⟨hc0, hb⟩)] at ea
              rw [mo] at hb
              exact .inr ⟨by omega, by omega, by omega, ea⟩
      obtain ⟨z, c', rfl, rfl, hz⟩ := hz
      have esh : (((nV s.sh).length : Nat) : Int) = (s.sh.length : Int) := by rw [List.length_map]
      have yes : (¬ (0 ≤ z ∧ z < (s.sh.length : Int)) ∨ z = (s.cs.getD (1 - i) 0 : Nat)) → actP x s i = (8, s) := fun h => by
        rcases hz with ⟨_, h1⟩ | ⟨h1, h2, _⟩
        · exact h1
        · rcases h with h | h
          · exact absurd h1 h
          · exact absurd h h2
      refine ⟨_, rfl, _, _, rfl, rfl, _, rfl, ite2 (fun d0 => ?_) (fun d0 => ?_)⟩
      · have d0' : (0 : Int) ≤ z := of_decide_eq_true d0
        refine ⟨_, rfl, e, _, rfl, .inl (SqL.of W2.he), _, _, rfl, rfl, _, rfl, ?_⟩
        rw [esh]
        refine ite2 (fun d1 => ?_) (fun d1 => ?_)
        · have d1' : ¬ z < (s.sh.length : Int) := by simpa using d1
          exact ite_t rfl ⟨_, rfl, blk (yes (.inl (by omega))) _ W2.pt⟩
        · have d1' : z < (s.sh.length : Int) := by simpa using d1
          refine ⟨_, rfl, _, rfl, _, rfl, _, _, rfl, rfl, c, _, _, .int (s.cs.getD (1 - i) 0 : Nat), rfl, rfl, SqL.of W2.hc, at_of (j := 1 - i) (by omega) (nV_at ic1), rfl, _, rfl, ?_⟩
          refine ite2 (fun d2 => ?_) (fun d2 => ?_)
          · have d2' : z = (s.cs.getD (1 - i) 0 : Nat) := by have := of_decide_eq_true d2; injection this
            exact ⟨_, rfl, blk (yes (.inr d2')) _ W2.pt⟩
          · have d2' : ¬ z = (s.cs.getD (1 - i) 0 : Nat) := fun q => d2 (decide_eq_true (by rw [q]))
            rcases hz with ⟨h1, _⟩ | ⟨_, _, h3, h4⟩
            · omega
            · refine ⟨_, rfl, _, rfl, _, rfl, c, _, _, i, rfl, rfl, W2.hc, ix_of rfl (by rw [List.length_map]; exact ic), ?_⟩
              rw [h3, nV_set]
              exact rest _ _ ⟨_, _, rfl, W2.setC _, rfl, .inr ⟨hw2, ho.h2, rfl, h4⟩⟩
      · exact ⟨_, rfl, ite_t rfl (ite_t rfl ⟨_, rfl, blk (yes (.inl (fun q => d0 (decide_eq_true q.1)))) _ W2.pt⟩)⟩
    obtain ⟨v11, s', rfl, W4, ens, hs4⟩ := hP
    -- pick
    refine seq_restσ (Pk 3) (fun σ H' hP => ?_) (fun rest => ?m5)
    case m5 =>
      refine ⟨_, rfl, rfl, _, rfl, ite_w 2 w8 (fun hw => ?_) (fun hw => rest _ _ ⟨_, _, rfl, W4, ens, ?_⟩)⟩
      · obtain ⟨_, rfl⟩ : 2 ≤ (stOf x s i).w ∧ s' = s := by
          rcases hs4 with h | ⟨h, _⟩
          · exact h
          · omega
        have ea := act_pick hw
        refine ⟨_, rfl, _, rfl, b, _, _, .bl (s'.hs.getD i false), rfl, rfl, SqL.of W4.hb, at_of (j := i) rfl (bV_at ih), _, rfl, ?_⟩
        refine ite_b (fun c1 => ?_) (fun c1 => ?_)
        · rw [if_pos (.inl c1)] at ea
          exact ite_t rfl ⟨_, rfl, blk ea _ W4.pt⟩
        · refine ⟨_, rfl, _, rfl, e, _, _, .int (s'.sh.getD (cOf s' i) 0 : Nat), rfl, rfl, SqL.of W4.he, at_of (j := cOf s' i) rfl (nV_at cl), rfl, _, rfl, ?_⟩
          refine ite2 (fun c2 => ?_) (fun c2 => ?_)
          · have c2' : s'.sh.getD (cOf s' i) 0 = 0 := by have := of_decide_eq_true c2; injection this; omega
            rw [if_pos (.inr c2')] at ea
            exact ⟨_, rfl, blk ea _ W4.pt⟩
          · have c2' : ¬ s'.sh.getD (cOf s' i) 0 = 0 := fun q => c2 (decide_eq_true (by rw [q]; rfl))
            rw [if_neg (by rw [c1]; simp only [Bool.false_eq_true, false_or]; exact c2')] at ea
            refine ⟨_, rfl, _, rfl, e, _, _, .int (s'.sh.getD (cOf s' i) 0 : Nat), rfl, rfl, SqL.of W4.he, at_of (j := cOf s' i) rfl (nV_at cl), _, _, rfl, rfl, (by show 2 ≤ sizeLine; decide), fun q hq => ?_⟩
            have W5 := W4.lay hq (.tup [.bl true, .int ((s'.sh.getD (cOf s' i) 0 : Nat) - 1)])
            refine ⟨q, _, rfl, SqT.of upd_same, rfl, _, _, rfl, _, rfl, _, rfl, b, _, _, i, rfl, rfl, W5.hb, ix_of rfl (by rw [List.length_map]; exact ih), ?_⟩
            rw [bV_set]
            have W6 := W5.setB (s'.hs.set i true)
            refine ⟨_, _, rfl, _, rfl, _, rfl, e, _, _, cOf s' i, rfl, rfl, W6.he, ix_of rfl (by rw [List.length_map]; exact cl), rfl, ?_⟩
            have e1 : ((s'.sh.getD (cOf s' i) 0 : Nat) : Int) - 1 = ((s'.sh.getD (cOf s' i) 0 - 1 : Nat) : Int) := by omega
            have W7 := W6.setE (s'.sh.set (cOf s' i) (s'.sh.getD (cOf s' i) 0 - 1))
            rw [← nV_set, ← e1] at W7
            exact rest _ _ ⟨_, _, rfl, W7, rfl, .inr ⟨by omega, by show (s'.hs.set i true).length = 2; rw [List.length_set]; exact ho.h2, by show (s'.sh.set _ _).length = _; rw [List.length_set], ea⟩⟩
      · rcases hs4 with ⟨h1, h2⟩ | ⟨h1, h2⟩
        · exact .inl ⟨by omega, h2⟩
        · exact .inr ⟨by omega, h2⟩
    clear ens hs4 W4
    obtain ⟨v11, s', rfl, W4, ens, hs4⟩ := hP
    -- put
    refine seq_restσ (Pk 4) (fun σ H' hP => ?_) (fun rest => ?m6)
    case m6 =>
      refine ⟨_, rfl, rfl, _, rfl, ite_w 3 w8 (fun hw => ?_) (fun hw => rest _ _ ⟨_, _, rfl, W4, ens, ?_⟩)⟩
      · obtain ⟨_, rfl⟩ : 3 ≤ (stOf x s i).w ∧ s' = s := by
          rcases hs4 with h | ⟨h, _⟩
          · exact h
          · omega
        have ea := act_put hw
        refine ⟨_, rfl, _, rfl, b, _, _, .bl (s'.hs.getD i false), rfl, rfl, SqL.of W4.hb, at_of (j := i) rfl (bV_at ih), _, rfl, ?_⟩
        cases c1 : s'.hs.getD i false with
        | false =>
          rw [if_pos (.inl c1)] at ea
          exact ite_t rfl (ite_t rfl ⟨_, rfl, blk ea _ W4.pt⟩)
        | true =>
          refine ite_f rfl ⟨_, rfl, _, rfl, e, _, _, .int (s'.sh.getD (cOf s' i) 0 : Nat), rfl, rfl, SqL.of W4.he, at_of (j := cOf s' i) rfl (nV_at cl), _, _, rfl, rfl, _, rfl, ?_⟩
          refine ite2 (fun c2 => ?_) (fun c2 => ?_)
          · have c2' : 3 ≤ s'.sh.getD (cOf s' i) 0 := by have := of_decide_eq_true c2; omega
            rw [if_pos (.inr c2')] at ea
            exact ⟨_, rfl, blk ea _ W4.pt⟩
          · have c2' : ¬ 3 ≤ s'.sh.getD (cOf s' i) 0 := fun q => c2 (decide_eq_true (by omega))
            rw [if_neg (by rw [c1]; simp only [Bool.true_eq_false, false_or]; exact c2')] at ea
            refine ⟨_, rfl, _, rfl, e, _, _, .int (s'.sh.getD (cOf s' i) 0 : Nat), rfl, rfl, SqL.of W4.he, at_of (j := cOf s' i) rfl (nV_at cl), _, _, rfl, rfl, (by show 2 ≤ sizeLine; decide), fun q hq => ?_⟩
            have W5 := W4.lay hq (.tup [.bl false, .int ((s'.sh.getD (cOf s' i) 0 : Nat) + 1)])
            refine ⟨q, _, rfl, SqT.of upd_same, rfl, _, _, rfl, _, rfl, _, rfl, b, _, _, i, rfl, rfl, W5.hb, ix_of rfl (by rw [List.length_map]; exact ih), ?_⟩
            rw [bV_set]
            have W6 := W5.setB (s'.hs.set i false)
            refine ⟨_, _, rfl, _, rfl, _, rfl, e, _, _, cOf s' i, rfl, rfl, W6.he, ix_of rfl (by rw [List.length_map]; exact cl), rfl, ?_⟩
            have e1 : ((s'.sh.getD (cOf s' i) 0 : Nat) : Int) + 1 = ((s'.sh.getD (cOf s' i) 0 + 1 : Nat) : Int) := by omega
            have W7 := W6.setE (s'.sh.set (cOf s' i) (s'.sh.getD (cOf s' i) 0 + 1))
            rw [← nV_set, ← e1] at W7
            exact rest _ _ ⟨_, _, rfl, W7, rfl, .inr ⟨by omega, by show (s'.hs.set i false).length = 2; rw [List.length_set]; exact ho.h2, by show (s'.sh.set _ _).length = _; rw [List.length_set], ea⟩⟩
      · rcases hs4 with ⟨h1, h2⟩ | ⟨h1, h2⟩
        · exact .inl ⟨by omega, h2⟩
        · exact .inr ⟨by omega, h2⟩
    clear ens hs4 W4
    obtain ⟨v11, s', rfl, W4, ens, hs4⟩ := hP
    have hfin : s'.hs.length = 2 ∧ s'.sh.length = s.sh.length ∧ actP x s i = finP x s i s'.cs s'.hs s'.sh := by
      rcases hs4 with ⟨h1, h2⟩ | ⟨_, h2⟩
      · rw [h2]; exact ⟨ho.h2, rfl, act_else h1⟩
      · exact h2
    clear hs4
    obtain ⟨h2', hsl', hfin⟩ := hfin
    have ih' : i < s'.hs.length := by rw [h2']; exact hi
    have cl' : cOf s i < s'.sh.length := by rw [hsl']; exact cl
    -- jumps
    refine seq_restσ (fun σ H' => W4.hc = W4.hc ∧ σ = [some (.ref t), some (.ref ua), some (.int i), some (.ref c), some (.ref n), some (.ref b), some (.ref e), none, some (.str (wS (stOf x s i).w)), some g, some (.int (cOf s i : Nat)), v11, some (.bl (decide (jumpP x s i s'.hs s'.sh)))] ∧ Wk G H H' c n b e s') (fun σ H' hP => ?_) (fun rest => ?m7)
    case m7 =>
      refine ⟨_, rfl, rfl, _, rfl, ite_w 5 w8 (fun hw => ?_) (fun hw => ?_)⟩
      · refine rest _ _ ⟨rfl, ?_, W4⟩
        rw [decide_eq_true (show jumpP x s i s'.hs s'.sh from .inl hw)]
        rfl
      have fin : ∀ bv : Bool, bv = decide (jumpP x s i s'.hs s'.sh) → _ := fun bv hbv => rest ([some (.ref t), some (.ref ua), some (.int i), some (.ref c), some (.ref n), some (.ref b), some (.ref e), none, some (.str (wS (stOf x s i).w)), some g, some (.int (cOf s i : Nat)), v11, some (.bl bv)]) _ ⟨rfl, by rw [hbv], W4⟩
      refine ⟨_, rfl, rfl, _, rfl, ite_w 6 w8 (fun h6 => ?_) (fun h6 => ?_)⟩
      · refine ⟨_, rfl, _, rfl, e, _, _, .int (s'.sh.getD (cOf s i) 0 : Nat), rfl, rfl, SqL.of W4.he, at_of (j := cOf s i) rfl (nV_at cl'), rfl, _, rfl, ?_⟩
        refine ite2 (fun c2 => ?_) (fun c2 => ?_)
        · have c2' : s'.sh.getD (cOf s i) 0 = 0 := by have := of_decide_eq_true c2; injection this; omega
          exact fin true (decide_eq_true (show jumpP x s i s'.hs s'.sh from .inr (.inl ⟨h6, c2'⟩))).symm
        · have c2' : ¬ s'.sh.getD (cOf s i) 0 = 0 := fun q => c2 (decide_eq_true (by rw [q]; rfl))
          refine ⟨_, rfl, rfl, _, rfl, ite_w 7 w8 (fun h7 => by omega) (fun h7 => ?_)⟩
          exact fin false (decide_eq_false (show ¬ jumpP x s i s'.hs s'.sh from fun z => by rcases z with z | z | z; exact hw z; exact c2' z.2; exact h7 z.1)).symm
      · refine ⟨_, rfl, ite_f rfl ⟨_, rfl, rfl, _, rfl, ite_w 7 w8 (fun h7 => ?_) (fun h7 => ?_)⟩⟩
        · refine ⟨_, rfl, _, rfl, b, _, _, .bl (s'.hs.getD i false), rfl, rfl, SqL.of W4.hb, at_of (j := i) rfl (bV_at ih'), fin _ ?_⟩
          have e1 : s'.hs.getD i false = decide (s'.hs.getD i false = true) := by simp
          exact e1.trans (decide_eq_decide.mpr ⟨fun z => .inr (.inr ⟨h7, z⟩), fun z => by rcases z with z | z | z; exact absurd z hw; exact absurd z.1 h6; exact z.2⟩)
        · exact fin false (decide_eq_false (show ¬ jumpP x s i s'.hs s'.sh from fun z => by rcases z with z | z | z; exact hw z; exact h6 z.1; exact h7 z.1)).symm
    obtain ⟨_, rfl, W4⟩ := hP
    -- the next step
    have in' : i < s'.ns.length := by rw [ens]; exact in_
    have lx : xsi.length = (stepsOf x i).length := by rw [DpAll.len hdi, List.length_map]
    have pos := (steps_ok hx i).pos
    refine seq_restσ (fun σ H' => σ = [some (.ref t), some (.ref ua), some (.int i), some (.ref c), some (.ref n), some (.ref b), some (.ref e), none, some (.str (wS (stOf x s i).w)), some g, some (.int (cOf s i : Nat)), v11, some (.bl (decide (jumpP x s i s'.hs s'.sh)))] ∧ Wk G H H' c n b e (actP x s i).2) (fun σ H' hP => ?_) (fun rest => ?m8)
    case m8 =>
      have put : ∀ nv : Int, nv = (nextP x s i s'.hs s'.sh : Nat) → Wk G H (upd H' n (.lst ((nV s'.ns).set i (.int nv)))) c n b e (actP x s i).2 := fun nv hnv => by
        rw [hnv, nV_set]
        have W5 := W4.setN (s'.ns.set i (nextP x s i s'.hs s'.sh))
        rw [hfin]
        rw [ens] at W5 ⊢
        exact W5
      have ixn : ixN (nV s'.ns).length (i : Int) = some i := ix_of rfl (by rw [List.length_map]; exact in')
      refine ⟨_, rfl, _, rfl, ite2 (fun c1 => ?_) (fun c1 => ?_)⟩
      · have hj : jumpP x s i s'.hs s'.sh := of_decide_eq_true c1
        have h5 : 5 ≤ (stOf x s i).w := by rcases hj with h | h | h <;> omega
        obtain ⟨kk, hk, _⟩ := sok.yes h5
        rcases hg with ⟨h1, _⟩ | ⟨k2, h1, rfl⟩
        · rw [h1] at hk; cases hk
        · refine ⟨_, rfl, _, rfl, _, rfl, n, _, _, i, rfl, rfl, W4.hn, ixn, rest _ _ ⟨rfl, put k2 ?_⟩⟩
          unfold nextP
          rw [if_pos hj, h1]
          rfl
      · have hj : ¬ jumpP x s i s'.hs s'.sh := fun q => c1 (decide_eq_true q)
        refine ⟨_, rfl, _, rfl, n, _, _, .int (s.ns.getD i 0 : Nat), rfl, rfl, SqL.of W4.hn, at_of (j := i) rfl (by rw [ens]; exact nV_at in_), _, _, rfl, rfl, ?_⟩
        refine ⟨_, rfl, t, _, _, .ref bo, rfl, rfl, Same.seqT (hGH.trans W4.pt.sm) ht, at_of (j := 2) rfl rfl, _, rfl, bo, _, _, .ref li, rfl, rfl, (hGH.trans W4.pt.sm).seq hbo, at_of (j := i) rfl hli, li, _, rfl, .inl ((hGH.trans W4.pt.sm).seq hsi), _, _, rfl, rfl, ?_, _, rfl, _, rfl, n, _, _, i, rfl, rfl, W4.hn, ixn, rest _ _ ⟨rfl, put _ ?_⟩⟩
        · show (0 : Int) < ((xsi.length : Nat) : Int)
          omega
        · rw [lx, mod_nat]
          unfold nextP
          rw [if_neg hj]
    obtain ⟨rfl, W5⟩ := hP
    -- the end
    obtain ⟨G1, p1, q1, q2, q3, q4⟩ := W5.data (K := K)
    refine ⟨_, rfl, _, rfl, _, rfl, _, rfl, _, rfl, (by show 4 ≤ sizeLine; decide), fun l hl => ?_⟩
    have p2 := p1.new hl (.lst [.ref c, .ref n, .ref b, .ref e])
    refine ⟨(by show 2 ≤ sizeLine; decide), fun r hr' => ?_⟩
    have p3 := p2.new hr' (.tup [.str (wS (stOf x s i).w), .ref l])
    have g2 := same_new (o := .lst [.ref c, .ref n, .ref b, .ref e]) (p1.freeG hl)
    have g3 := same_new (o := .tup [.str (wS (stOf x s i).w), .ref l]) (p2.freeG hr')
    refine k _ _ _ p3.ext p3.sm (.tup (SqT.of upd_same) (.cons ?_ (.cons (sitL_mk (g3.seq (SqL.of upd_same)) ((g2.trans g3).seq q1) ((g2.trans g3).seq q2) ((g2.trans g3).seq q3) ((g2.trans g3).seq q4)) .nil)))
    have ew : (actP x s i).1 = (stOf x s i).w := by rw [hfin]; rfl
    rw [ew, doS_lt w8]
    exact .str _
theorem ok_l_tick (T : Txt K mg a) : FnOk P w K mg base CX0 2 a.f_l_tick a.d_l_tick ["_law_plan_here", "_law_state"] (spLTick K) := by
  refine T.F_l_tick.ok sc_l_tick (fun vs H Q E h => ?_) (fun cdv A outer s0 H vs Q E hr h => ?_)
  · obtain ⟨⟨G, v, u, x, s, rfl, _⟩⟩ := h
    rfl
  · obtain ⟨⟨G, v, u, x, s, rfl, hp, hu, hx, ho, hGH, k⟩⟩ := h
    refine ⟨_, (pss_cons (ps_asg (pe_call (ok_l_act T) (hr.mono (by decide)) rfl T.m_l_act T.F_l_act.kp (b_l_act T) .nil pass0 (pa_cons (pv 0) (pa_cons (pv 1) (pa_cons pe_int pa_nil)))) (pg_tup (by rfl) (pgs_cons (pg_name (i := 2) sc_l_tick.nd rfl (Or.inl rfl)) (pgs_cons (pg_name (i := 1) sc_l_tick.nd rfl (Or.inl rfl)) pgs_nil))))
      (pss_cons (ps_asg (pe_call (ok_l_act T) (hr.mono (by decide)) rfl T.m_l_act T.F_l_act.kp (b_l_act T) .nil pass0 (pa_cons (pv 0) (pa_cons (pv 1) (pa_cons pe_int pa_nil)))) (pg_tup (by rfl) (pgs_cons (pg_name (i := 3) sc_l_tick.nd rfl (Or.inl rfl)) (pgs_cons (pg_name (i := 1) sc_l_tick.nd rfl (Or.inl rfl)) pgs_nil))))
      (pss_one (ps_ret (pe_tup (pa_cons (pe_tup (pa_cons (pv 2) (pa_cons (pv 3) pa_nil))) (pa_cons (pv 1) pa_nil))))))), ?_⟩
    refine ⟨_, rfl, _, rfl, ⟨⟨G, v, u, x, s, 0, rfl, hp, hu, hx, ho, by decide, hGH, fun G1 H1 v1 x1 s1 d1 => ?_⟩⟩⟩
    have p1 := (Pt.start hGH).call x1 s1
    obtain ⟨t1, ys1, rfl, ht1, hy1⟩ := Dp.tup_inv d1
    obtain ⟨u1, r1, rfl, e1, hy1⟩ := DpAll.cons_inv hy1
    obtain ⟨u2, r2, rfl, e2, hy1⟩ := DpAll.cons_inv hy1
    cases DpAll.nil_inv hy1
    cases Dp.str_inv e1
    refine ⟨t1, _, rfl, Same.seqT p1.s ht1, rfl, _, _, rfl, _, _, rfl, rfl, ?_⟩
    have ho1 := act_ok hx ho (i := 0) (by decide)
    refine ⟨_, rfl, _, rfl, ⟨⟨G1, v, u2, x, _, 1, rfl, Dp.mono p1.g _ _ hp, e2, hx, ho1, by decide, p1.s, fun G2 H2 v2 x2 s2 d2 => ?_⟩⟩⟩
    have p2 := p1.call x2 s2
    obtain ⟨t2, ys2, rfl, ht2, hy2⟩ := Dp.tup_inv d2
    obtain ⟨u3, r3, rfl, e3, hy2⟩ := DpAll.cons_inv hy2
    obtain ⟨u4, r4, rfl, e4, hy2⟩ := DpAll.cons_inv hy2
    cases DpAll.nil_inv hy2
    cases Dp.str_inv e3
    refine ⟨t2, _, rfl, Same.seqT p2.s ht2, rfl, _, _, rfl, _, _, rfl, rfl, ?_⟩
    refine ⟨_, rfl, _, rfl, (by show 2 ≤ sizeLine; decide), fun q hq => ?_⟩
    have p3 := p2.new hq (.tup [.str (doS (actP x s 0).1), .str (doS (actP x (actP x s 0).2 1).1)])
    refine ⟨_, rfl, (by show 2 ≤ sizeLine; decide), fun r hr' => ?_⟩
    have p4 := p3.new hr' (.tup [.ref q, u4])
    have g3 := same_new (o := .tup [.str (doS (actP x s 0).1), .str (doS (actP x (actP x s 0).2 1).1)]) (p2.freeG hq)
    have g4 := same_new (o := .tup [.ref q, u4]) (p3.freeG hr')
    refine k _ _ _ p4.ext p4.sm (.tup (SqT.of upd_same) (.cons (.tup (Same.seqT g4 (SqT.of upd_same)) (.cons (.str _) (.cons (.str _) .nil))) (.cons (Dp.mono (g3.trans g4) _ _ e4) .nil)))
end
end Sb

namespace Sb
open PySem PySem.Spec PyProof.Rows L2 TL
structure spRep (K : PySem.W.Frag) (vs : List V) (H : Hp) (Q : VK) (E : XK) : Prop where
  ex : ∃ (G : Hp) (v : V) (x : Pl), vs = [v] ∧ Dp K G v x.D ∧ x.Ok ∧ Pure G H Q fun G' v => ∃ r : Bool, v = .bl r ∧ (r = true → ∃ i n, Cyc x i n ∧ n < 4000)
section
variable {P : Program} {w : World} {K : PySem.W.Frag} {mg : Str → Option Value} {base : Heap} {a : Ad}
theorem ok_l_repeats (T : Txt K mg a) : FnOk P w K mg base CX0 3 a.f_l_repeats a.d_l_repeats ["_law_plan_here"] (spRep K) := by
  refine T.F_l_repeats.ok sc_l_repeats (fun vs H Q E h => ?_) (fun cdv A outer s0 H vs Q E hr h => ?_)
  · obtain ⟨⟨G, v, x, rfl, _⟩⟩ := h
    rfl
  · obtain ⟨⟨G, v, x, rfl, hp, hx, hGH, k⟩⟩ := h
    refine ⟨_, (pss_cons (ps_par (i := 1) (j := 2) (by rfl) sc_l_repeats.nd rfl rfl (by decide) rfl rfl (pa_cons (pe_call (ok_l_empty T) (hr.mono (by decide)) rfl T.m_l_empty T.F_l_empty.kp (b_l_empty T) .nil pass0 (pa_cons (pv 0) pa_nil)) (pa_cons pe_dnewN pa_nil)) (by rfl))
      (pss_cons (ps_for PassesOwn.never rfl (pi_range1 (by rfl) T.z_range (pa_cons pe_int pa_nil)) (pg_name (i := 3) sc_l_repeats.nd rfl (Or.inl rfl)) (pss_cons (ps_set (i := 4) sc_l_repeats.nd rfl (Or.inl rfl) (pe_callTy call_tuple_of (by rfl) T.z_tuple (by decide +kernel) (pa_cons (pe_lc (own := [("_law_part", 5)]) (g := gName 5) (te := (tCB (fun xs H Q => ∃ p ys, xs = [.ref p] ∧ ((SqL K H p ys ∧ ∀ l, H l = none → Q (.ref l) (upd H l (.tup ys))) ∨ (SqT K H p ys ∧ Q (.ref p) H))) (tCons (tVar 5) tNil))) (tt := tYes) rfl sc_l_repeats.nd (pi_list (pv 1)) (blkOk_by (own := [("_law_part", 5)]) (N := ["_law_plan_here", "_law_state", "_law_keys", "_law_tick_here", "_law_key", "_law_part"]) (sc := (defScope s_l_repeats)) (by decide +kernel)) (fun _ _ _ _ _ => (pg_name (i := 5) sc_l_repeats.nd rfl (Or.inl rfl))) (fun _ _ _ _ _ => pts_nil) (fun _ _ _ _ _ => by exact (pe_callTy call_tuple_of (by rfl) T.z_tuple (by decide +kernel) (pa_cons (pv 5) pa_nil)))) pa_nil)))
      (pss_cons (ps_if (pt_cmpR (op_inN hr.units) (pv 4) (pv 2) rfl) (pss_one (ps_ret pe_bl)) pss_nil)
      (pss_one (ps_asg (pe_tup (pa_cons pe_bl (pa_cons (pe_ix ix_tup (pe_call (ok_l_tick T) (hr.mono (by decide)) rfl T.m_l_tick T.F_l_tick.kp (b_l_tick T) .nil pass0 (pa_cons (pv 0) (pa_cons (pv 1) pa_nil))) pe_int (fun _ _ => rfl)) pa_nil))) (pg_tup (by rfl) (pgs_cons (pg_sub (pv 2) (pv 4) (set_newN hr.units)) (pgs_cons (pg_name (i := 1) sc_l_repeats.nd rfl (Or.inl rfl)) pgs_nil))))))))
      (pss_one (ps_ret pe_bl)))), ?_⟩
    refine ⟨_, rfl, ⟨⟨G, v, x, rfl, hp, hGH, fun G1 H1 u x1 s1 d1 => ?_⟩⟩⟩
    have p1 := (Pt.start hGH).call x1 s1
    intro kd hkd
    have kd0 : H kd = none := p1.free hkd
    refine ⟨_, _, rfl, ?_⟩
    refine ⟨4000, rfl, by decide, by decide, for_range (lo := 0) (n := 4000) (fun j σ H' => ∃ (G' : Hp) (u : V) (xs : Ents) (v3 v4 : Option V), σ = [some v, some u, some (.ref kd), v3, v4, none] ∧ Pt G H G' H' ∧ Dp K G' v x.D ∧ Dp K G' u (sitL (sitAt x j)) ∧ DK P w K G' H' kd xs ∧ Met x xs j (fun _ => .bl true) ∧ Nod x j) ?_ ?_ ?_⟩
    · exact ⟨G1, u, [], none, none, rfl, p1.lay hkd _, Dp.mono p1.g _ _ hp, d1, ⟨upd_same, p1.freeG hkd, fun _ h => nomatch h⟩, Met.nil, Nod.zero⟩
    · rintro j σ H' hj ⟨G', u, xs, v3, v4, rfl, B, hp', du, hK, hM, hN⟩
      have so := sitAt_ok hx j
      obtain ⟨ua, uc, un, ub, ue, rfl, hua, huc, hun, hub, hue⟩ := sitL_inv du
      -- the key
      refine ⟨_, rfl, ua, rfl, ⟨_, B.s.seq hua⟩, fun D hD => ?_⟩
      have D0 := B.free hD
      have DG := B.freeG hD
      have kD : kd ≠ D := ne_of_none hK.at_ hD
      refine lc_list (K := K) (a := ua) (xs := [.ref uc, .ref un, .ref ub, .ref ue]) (fun m H2 => ∃ (G2 : Hp) (us : List V), us.length = m ∧ Pt G H G2 H2 ∧ Same G' G2 ∧ H2 D = some (.lst us) ∧ G2 D = none ∧ DK P w K G2 H2 kd xs ∧ DpAll K G2 us (([natsT (sitAt x j).cs, natsT (sitAt x j).ns, boolsT (sitAt x j).hs, natsT (sitAt x j).sh] : List PyData).take m))
        ⟨G', [], rfl, B.lay hD _, Same.refl _, upd_same, DG, hK.grow (Same.refl _) (fun o ho => by rw [upd_ne kD]; exact ho) hK.out, .nil⟩ (fun m H2 _ ⟨G2, us, _, q1, q2, _⟩ => (q2.trans q1.s).seq hua) ?_ ?_
      · rintro m y H2 hy ⟨G2, us, hm, q1, q2, hD2, DG2, K2, hus⟩
        obtain ⟨q, it, dd, rfl, hq, hd, hit⟩ : ∃ (q : Addr) (it : List V) (dd : List PyData), y = .ref q ∧ SqL K G' q it ∧ ([natsT (sitAt x j).cs, natsT (sitAt x j).ns, boolsT (sitAt x j).hs, natsT (sitAt x j).sh] : List PyData)[m]? = some (.tuple dd) ∧ ∀ G, DpAll K G it dd := by
          match m, hy with
          | 0, hy => exact ⟨uc, _, _, (Option.some.inj hy).symm, huc, rfl, fun _ => nats_D' _⟩
          | 1, hy => exact ⟨un, _, _, (Option.some.inj hy).symm, hun, rfl, fun _ => nats_D' _⟩
          | 2, hy => exact ⟨ub, _, _, (Option.some.inj hy).symm, hub, rfl, fun _ => bools_D _⟩
          | 3, hy => exact ⟨ue, _, _, (Option.some.inj hy).symm, hue, rfl, fun _ => nats_D' _⟩
          | m + 4, hy => simp at hy
        have hm4 : m < 4 := (List.getElem?_eq_some_iff.mp hy).1
        refine ⟨rfl, _, rfl, q, it, rfl, .inl ⟨(q2.trans q1.s).seq hq, fun l hl => ?_⟩⟩
        have Dl : D ≠ l := ne_of_none hD2 hl
        have kl : kd ≠ l := ne_of_none K2.at_ hl
        have r1 := q1.new hl (.tup it)
        have gl := same_new (o := .tup it) (q1.freeG hl)
        refine ⟨_, by rw [upd_ne Dl]; exact hD2, smaller 4 (by omega) (by decide), upd G2 l (.tup it), us ++ [.ref l], by rw [List.length_append, hm]; rfl, r1.put D0 (by rw [upd_ne Dl]; exact DG2) _, q2.trans gl, upd_same, by rw [upd_ne Dl]; exact DG2, ?_, ?_⟩
        · exact K2.grow gl (fun o ho => by rw [upd_ne kD, upd_ne kl]; exact ho) (by rw [upd_ne kl]; exact K2.out)
        · rw [take_more hd]
          exact DpAll.snoc (Dp.monoAll gl _ _ hus) (.tup (SqT.of upd_same) (hit _))
      rintro H2 ⟨G2, us, hm, q1, q2, hD2, DG2, K2, hus⟩
      refine ⟨D, _, rfl, .inl ⟨SqL.of hD2, fun ky hky => ?_⟩⟩
      have r1 := q1.new hky (.tup us)
      have g3 := same_new (o := .tup us) (q1.freeG hky)
      have kk : kd ≠ ky := ne_of_none K2.at_ hky
      have K3 : DK P w K (upd G2 ky (.tup us)) (upd H2 ky (.tup us)) kd xs := K2.grow g3 (fun o ho => by rw [upd_ne kk]; exact ho) (by rw [upd_ne kk]; exact K2.out)
      have dky : Dp K (upd G2 ky (.tup us)) (.ref ky) (sitT (sitAt x j)) := .tup (SqT.of upd_same) (Dp.monoAll g3 _ _ hus)
      -- in
      refine ⟨_, rfl, _, rfl, kd, ky, xs, _, _, rfl, rfl, K3.dn r1.s, Dp.mono r1.s _ _ dky, nk_sit _, nk_depth _, _, rfl, ite2 (fun c => ?_) (fun c => ?_)⟩
      · have c' : nkOf (sitAt x j) ∈ xs.map (·.1) := of_decide_eq_true c
        obtain ⟨i, hi, e⟩ := (hM.keys _).mp c'
        exact k _ _ _ r1.ext r1.sm ⟨true, rfl, fun _ => ⟨i, j, ⟨hi, e, hN⟩, by omega⟩⟩
      · have c' : nkOf (sitAt x j) ∉ xs.map (·.1) := fun z => c (decide_eq_true z)
        have hno := fun z => c' ((hM.keys _).mpr z)
        have du3 : Dp K (upd G2 ky (.tup us)) (.ref ua) (sitL (sitAt x j)) := Dp.mono (q2.trans g3) _ _ du
        refine ⟨_, rfl, _, rfl, ⟨⟨_, v, .ref ua, x, _, rfl, Dp.mono (q2.trans g3) _ _ hp', du3, hx, so, r1.s, fun G4 H4 z x4 s4 d4 => ?_⟩⟩⟩
        have r2 := r1.call x4 s4
        have K4 := K3.grow x4.g (fun o ho => s4 _ _ ho) (x4.out K3.out K3.at_)
        obtain ⟨t4, ys4, rfl, ht4, hy4⟩ := Dp.tup_inv d4
        obtain ⟨z1, r4, rfl, e1, hy4⟩ := DpAll.cons_inv hy4
        obtain ⟨z2, r5, rfl, e2, hy4⟩ := DpAll.cons_inv hy4
        cases DpAll.nil_inv hy4
        refine ⟨t4, _, _, z2, rfl, rfl, Same.seqT r2.s ht4, at_of (j := 1) rfl rfl, (by show 2 ≤ sizeLine; decide), fun tp htp => ?_⟩
        have r3 := r2.new htp (.tup [.bl true, z2])
        have g5 := same_new (o := .tup [.bl true, z2]) (r2.freeG htp)
        have kt : kd ≠ tp := ne_of_none K4.at_ htp
        have K5 : DK P w K (upd G4 tp (.tup [.bl true, z2])) (upd H4 tp (.tup [.bl true, z2])) kd xs := K4.grow g5 (fun o ho => by rw [upd_ne kt]; exact ho) (by rw [upd_ne kt]; exact K4.out)
        have dky5 := Dp.mono (x4.g.trans g5) _ _ dky
        refine ⟨tp, _, rfl, SqT.of upd_same, rfl, _, _, rfl, _, rfl, _, rfl, kd, ky, xs, _, _, rfl, rfl, K5.dn r3.s, Dp.mono r3.s _ _ dky5, nk_sit _, nk_depth _, c', small 4000 (by rw [hM.1]; omega) (by decide), _, _, rfl, rfl, ?_⟩
        exact ⟨_, z2, _, _, _, rfl, r3.put kd0 K5.out _, Dp.mono (((q2.trans g3).trans x4.g).trans g5) _ _ hp', Dp.mono g5 _ _ e2, K5.put dky5, hM.snoc, hN.succ hno⟩
    · rintro σ H' ⟨G', u, xs, v3, v4, rfl, B, _⟩
      exact k _ _ _ B.ext B.sm ⟨false, rfl, fun h => by cases h⟩
end
end Sb

namespace Sb
open PySem PySem.Spec PyProof.Rows L2 TL
/-- a plan that comes round -/
structure Rnd (x : Pl) : Prop where
  ex : ∃ i n, Cyc x i n ∧ n < 4000
structure spPlan (K : PySem.W.Frag) (vs : List V) (H : Hp) (Q : VK) (E : XK) : Prop where
  ex : ∃ (d : Addr) (G : Hp) (most : Nat), vs = [.ref d, .int most] ∧ 1 ≤ most ∧ most ≤ 20 ∧
    Drawn d G H Q fun G' v => ∃ x : Pl, x.Ok ∧ Rnd x ∧ x.shelf.length ≤ 8 ∧ Dp K G' v x.D ∧ x.p.length ≤ most ∧ x.q.length ≤ most
theorem draw_plan {K : PySem.W.Frag} {d : Addr} {G0 H0 G H : Hp} {most : Nat} {Q : VK} {E : XK} (h : At d G0 H0 G H) (m1 : 1 ≤ most) (m2 : most ≤ 20)
    (k : ∀ (G1 H1 : Hp) (v : V) (x : Pl), At d G0 H0 G1 H1 → At d G H G1 H1 → x.Ok → Rnd x → x.shelf.length ≤ 8 → Dp K G1 v x.D → x.p.length ≤ most → x.q.length ≤ most → Q v H1) : spPlan K [.ref d, .int most] H Q E :=
  ⟨⟨d, G, most, rfl, m1, m2, h.now, fun G' H' v A ⟨ss, o, rn, o8, D, l1, l2⟩ => k G' H' v ss (h.trans A) A o rn o8 D l1 l2⟩⟩
section
variable {P : Program} {w : World} {K : PySem.W.Frag} {mg : Str → Option Value} {base : Heap} {a : Ad}
theorem ok_l_plan (T : Txt K mg a) : FnOk P w K mg base CX0 4 a.f_l_plan a.d_l_plan ["_law_d", "_law_most"] (spPlan K) := by
  refine T.F_l_plan.ok sc_l_plan (fun vs H Q E h => ?_) (fun cdv A outer s H vs Q E hr h => ?_)
  · obtain ⟨⟨d, G, m, rfl, _⟩⟩ := h
    rfl
  · obtain ⟨⟨d, G, most, rfl, m1, m20, hN, k⟩⟩ := h
    refine ⟨_, (pss_cons (ps_set (i := 2) sc_l_plan.nd rfl (Or.inl rfl) (pe_op op_add pe_int (pe_call (ok_l_below T) (hr.mono (by decide)) rfl T.m_l_below T.F_l_below.kp (b_l_below T) .nil pass0 (pa_cons (pv 0) (pa_cons (pe_ix ix_list (pe_lst (pa_cons pe_int (pa_cons pe_int pa_nil))) (pe_call (ok_l_below T) (hr.mono (by decide)) rfl T.m_l_below T.F_l_below.kp (b_l_below T) .nil pass0 (pa_cons (pv 0) (pa_cons pe_int pa_nil))) (fun _ _ => rfl)) pa_nil)))))
      (pss_cons (ps_set (i := 3) sc_l_plan.nd rfl (Or.inl rfl) (pe_call (ok_l_below T) (hr.mono (by decide)) rfl T.m_l_below T.F_l_below.kp (b_l_below T) .nil pass0 (pa_cons (pv 0) (pa_cons (pv 2) pa_nil))))
      (pss_cons (ps_set (i := 4) sc_l_plan.nd rfl (Or.inl rfl) (pe_op op_mod (pe_op op_add (pe_op op_add (pv 3) pe_int) (pe_call (ok_l_below T) (hr.mono (by decide)) rfl T.m_l_below T.F_l_below.kp (b_l_below T) .nil pass0 (pa_cons (pv 0) (pa_cons (pe_op op_sub (pv 2) pe_int) pa_nil)))) (pv 2)))
      (pss_cons (ps_set (i := 5) sc_l_plan.nd rfl (Or.inl rfl) (pe_callTy call_tuple_of (by rfl) T.z_tuple (by decide +kernel) (pa_cons (pe_lc (own := [("_law_k", 6)]) (g := gName 6) (tt := tYes) rfl sc_l_plan.nd (pi_range1 (by rfl) T.z_range (pa_cons (pv 2) pa_nil)) (blkOk_by (own := [("_law_k", 6)]) (N := ["_law_d", "_law_most", "_law_many_cells", "_law_first", "_law_second", "_law_shelf", "_law_k", "_law_plan_here"]) (sc := (defScope s_l_plan)) (by decide +kernel)) (fun _ _ _ _ _ => (pg_name (i := 6) sc_l_plan.nd rfl (Or.inl rfl))) (fun _ _ _ _ _ => pts_nil) (fun _ _ _ _ _ => by exact (pe_call (ok_l_below T) (hr.mono (by decide)) rfl T.m_l_below T.F_l_below.kp (b_l_below T) .nil pass0 (pa_cons (pv 0) (pa_cons pe_int pa_nil))))) pa_nil)))
      (pss_cons (ps_set (i := 7) sc_l_plan.nd rfl (Or.inl rfl) (pe_tup (pa_cons (pv 5) (pa_cons (pe_tup (pa_cons (pv 3) (pa_cons (pv 4) pa_nil))) (pa_cons (pe_lst (pa_cons (pe_call (ok_l_steps T) (hr.mono (by decide)) rfl T.m_l_steps T.F_l_steps.kp (b_l_steps T) .nil pass0 (pa_cons (pv 0) (pa_cons (pv 1) pa_nil))) (pa_cons (pe_call (ok_l_steps T) (hr.mono (by decide)) rfl T.m_l_steps T.F_l_steps.kp (b_l_steps T) .nil pass0 (pa_cons (pv 0) (pa_cons (pv 1) pa_nil))) pa_nil))) pa_nil)))))
      (pss_one (ps_ret (pe_ifExp (pt_val (pe_call (ok_l_repeats T) (hr.mono (by decide)) rfl T.m_l_repeats T.F_l_repeats.kp (b_l_repeats T) .nil pass0 (pa_cons (pv 7) pa_nil))) (pv 7) (pe_tup (pa_cons (pv 5) (pa_cons (pe_tup (pa_cons (pv 3) (pa_cons (pv 4) pa_nil))) (pa_cons (pe_lst (pa_cons (pe_lst (pa_cons (pe_tup (pa_cons pe_str (pa_cons pe_non pa_nil))) pa_nil)) (pa_cons (pe_lst (pa_cons (pe_tup (pa_cons pe_str (pa_cons pe_non pa_nil))) pa_nil)) pa_nil))) pa_nil)))))))))))), ?_⟩
    refine ⟨_, rfl, (by show 2 ≤ sizeLine; decide), fun q hq => ?_⟩
    have A1 := hN.at.new hq (.lst [.int 3, .int 6])
    refine ⟨_, rfl, draw_go A1 (by decide) (by decide) fun H2 m A2 K2 hm => ?_⟩
    obtain ⟨lim, hlim, l1, l6⟩ : ∃ lim : Nat, ([V.int 3, V.int 6] : List V)[m]? = some (.int lim) ∧ 0 < lim ∧ lim ≤ 6 := by
      match m, hm with
      | 0, _ => exact ⟨3, rfl, by decide, by decide⟩
      | 1, _ => exact ⟨6, rfl, by decide, by decide⟩
      | m + 2, h => exact absurd h (by omega)
    refine ⟨q, _, _, .int lim, rfl, rfl, A2.now.s.seq (SqL.of upd_same), atI_nat hlim, draw_go A2 (by omega) (by omega) fun H3 i A3 K3 hi => ?_⟩
    refine ⟨_, _, rfl, rfl, ?_⟩
    -- first
    refine ⟨_, rfl, _, rfl, draw_go A3 (by omega) (by omega) fun H4 f A4 K4 hf => ?_⟩
    -- second
    refine ⟨_, rfl, _, _, rfl, rfl, _, rfl, _, rfl, _, _, rfl, rfl, draw_go A4 (by omega) (by omega) fun H5 t A5 K5 ht => ?_⟩
    refine ⟨_, _, rfl, rfl, _, rfl, _, _, rfl, rfl, (by show (0 : Int) < 3 + (i : Int); omega), ?_⟩
    dsimp only
    rw [other_eq f t i]
    have hb : (f + 1 + t) % (3 + i) < 3 + i := Nat.mod_lt _ (by omega)
    have hne : f ≠ (f + 1 + t) % (3 + i) := (other_ne (by omega) (by omega)).symm
    generalize (f + 1 + t) % (3 + i) = b at hb hne ⊢
    -- the shelf
    refine ⟨_, rfl, _, rfl, by omega, by omega, fun D hD => ?_⟩
    have D0 : H D = none := A5.ext.k D hD
    have Dd : D ≠ d := A5.ne hD
    have DG := A5.ext.new_out hD
    refine lc_range (lo := 0) (n := (3 + (i : Int)).toNat) (fun j H' => ∃ l : List Nat, At d G H (upd G q (.lst [.int 3, .int 6])) H' ∧ H' D = some (.lst (l.map fun n : Nat => V.int n)) ∧ l.length = j ∧ ∀ n ∈ l, n ≤ 3) ⟨[], A5.lay hD _, upd_same, rfl, fun _ h => nomatch h⟩ ?_ ?_
    · rintro j H' hj ⟨l, B, hl, hlj, h3⟩
      refine ⟨rfl, _, rfl, draw_go B (by decide) (by decide) fun H6 x B1 K1 hx => ?_⟩
      refine ⟨_, (by rw [K1 D Dd]; exact hl), smaller 9 (by rw [List.length_map]; omega) (by decide), l ++ [x], B1.put D0 DG Dd _, ?_, ?_, ?_⟩
      · rw [upd_same, List.map_append]; rfl
      · rw [List.length_append, hlj]; rfl
      · intro n hn
        rcases List.mem_append.mp hn with h | h
        · exact h3 n h
        · rw [List.mem_singleton.mp h]; omega
    · rintro H6 ⟨l, B, hl, hlj, h3⟩
      refine ⟨D, _, rfl, .inl ⟨SqL.of hl, fun u hu => ?_⟩⟩
      have B1 := B.new hu (.tup (l.map fun n : Nat => V.int n))
      have s1 : SqT K (upd (upd G q (.lst [.int 3, .int 6])) u (.tup (l.map fun n : Nat => V.int n))) u (l.map fun n : Nat => V.int n) := SqT.of upd_same
      -- the plan
      refine ⟨_, rfl, _, rfl, _, rfl, (by show 2 ≤ sizeLine; decide), fun st hst => ?_⟩
      have B2 := B1.new hst (.tup [.int f, .int b])
      refine ⟨_, rfl, _, rfl, draw_steps B2 m1 m20 fun G7 H7 v1 ss1 B7 B7' o1 D1 le1 => ?_⟩
      refine ⟨_, rfl, _, rfl, draw_steps B7 m1 m20 fun G8 H8 v2 ss2 B8 B8' o2 D2 le2 => ?_⟩
      refine ⟨(by show 2 ≤ sizeLine; decide), fun r hr' => ?_⟩
      have B9 := B8.new hr' (.lst [v1, v2])
      refine ⟨(by show 3 ≤ sizeLine; decide), fun z hz => ?_⟩
      have B10 := B9.new hz (.tup [.ref u, .ref st, .ref r])
      have n1 := same_new (H := G8) (p := r) (o := .lst [v1, v2]) (B8.ext.new_out hr')
      have n2 := same_new (H := upd G8 r (.lst [v1, v2])) (p := z) (o := .tup [.ref u, .ref st, .ref r]) (B9.ext.new_out hz)
      have g8 : Same _ G8 := B7'.g.trans B8'.g
      have dx : Dp K (upd (upd G8 r (.lst [v1, v2])) z (.tup [.ref u, .ref st, .ref r])) (.ref z) (⟨l, f, b, ss1, ss2⟩ : Pl).D := by
        refine .tup (SqT.of upd_same) (.cons (.tup ?_ (nats_D _ _ l)) (.cons (.tup ?_ (.cons (.int _) (.cons (.int _) .nil))) (.cons (.lst (xs := [v1, v2]) ?_ (.cons ?_ (.cons ?_ .nil))) .nil)))
        · exact Same.seqT ((g8.trans n1).trans n2) (Same.seqT (same_new (B1.ext.new_out hst)) s1)
        · exact Same.seqT ((g8.trans n1).trans n2) (SqT.of upd_same)
        · exact n2.seq (SqL.of upd_same)
        · exact Dp.mono ((B8'.g.trans n1).trans n2) _ _ D1
        · exact Dp.mono (n1.trans n2) _ _ D2
      have ok : (⟨l, f, b, ss1, ss2⟩ : Pl).Ok := ⟨by show 3 ≤ l.length; omega, by show l.length ≤ 12; omega, h3, by show f < l.length; omega, by show b < l.length; omega, hne, o1, o2⟩
      -- the filter
      refine ⟨_, rfl, ⟨⟨_, _, _, rfl, dx, ok, B10.now.s, fun G9 H9 rv x9 s9 h9 => ?_⟩⟩⟩
      obtain ⟨rb, rfl, hrb⟩ := h9
      have C1 := B10.pure x9 s9
      refine ⟨_, rfl, ite_b (fun c => ?_) (fun c => ?_)⟩
      · exact ⟨_, rfl, k _ _ _ C1 ⟨_, ok, ⟨hrb c⟩, by show l.length ≤ 8; omega, Dp.mono x9.g _ _ dx, le1, le2⟩⟩
      · refine ⟨_, rfl, _, rfl, _, rfl, (by show 2 ≤ sizeLine; decide), fun t1 ht1 => ?_⟩
        have C2 := C1.new ht1 (.tup [.int f, .int b])
        refine ⟨(by show 2 ≤ sizeLine; decide), fun t2 ht2 => ?_⟩
        have C3 := C2.new ht2 (.tup [.str (wS 4), .non])
        refine ⟨(by show 1 ≤ sizeLine; decide), fun t3 ht3 => ?_⟩
        have C4 := C3.new ht3 (.lst [.ref t2])
        refine ⟨(by show 2 ≤ sizeLine; decide), fun t4 ht4 => ?_⟩
        have C5 := C4.new ht4 (.tup [.str (wS 4), .non])
        refine ⟨(by show 1 ≤ sizeLine; decide), fun t5 ht5 => ?_⟩
        have C6 := C5.new ht5 (.lst [.ref t4])
        refine ⟨(by show 2 ≤ sizeLine; decide), fun t6 ht6 => ?_⟩
        have C7 := C6.new ht6 (.lst [.ref t3, .ref t5])
        refine ⟨(by show 3 ≤ sizeLine; decide), fun t7 ht7 => ?_⟩
        have C8 := C7.new ht7 (.tup [.ref u, .ref t1, .ref t6])
        have e2 := same_new (o := .tup [.str (wS 4), .non]) (C2.ext.new_out ht2)
        have e3 := same_new (o := .lst [.ref t2]) (C3.ext.new_out ht3)
        have e4 := same_new (o := .tup [.str (wS 4), .non]) (C4.ext.new_out ht4)
        have e5 := same_new (o := .lst [.ref t4]) (C5.ext.new_out ht5)
        have e6 := same_new (o := .lst [.ref t3, .ref t5]) (C6.ext.new_out ht6)
        have e7 := same_new (o := .tup [.ref u, .ref t1, .ref t6]) (C7.ext.new_out ht7)
        have e1 := same_new (o := .tup [.int f, .int b]) (C1.ext.new_out ht1)
        have su : SqT K G9 u (l.map fun n : Nat => V.int n) := Same.seqT x9.g (Same.seqT ((g8.trans n1).trans n2) (Same.seqT (same_new (B1.ext.new_out hst)) s1))
        refine k _ _ _ C8 ⟨waits ⟨l, f, b, ss1, ss2⟩, waits_ok ok, ⟨_, _, waits_cyc _, by decide⟩, by show l.length ≤ 8; omega, ?_, m1, m1⟩
        refine .tup (SqT.of upd_same) (.cons (.tup ?_ (nats_D _ _ l)) (.cons (.tup ?_ (.cons (.int _) (.cons (.int _) .nil))) (.cons (.lst (xs := [.ref t3, .ref t5]) ?_ (.cons (.lst (xs := [.ref t2]) ?_ (.cons (stepD_no ?_) .nil)) (.cons (.lst (xs := [.ref t4]) ?_ (.cons (stepD_no ?_) .nil)) .nil))) .nil)))
        · exact Same.seqT ((((((e1.trans e2).trans e3).trans e4).trans e5).trans e6).trans e7) su
        · exact Same.seqT (((((e2.trans e3).trans e4).trans e5).trans e6).trans e7) (SqT.of upd_same)
        · exact e7.seq (SqL.of upd_same)
        · exact (((e4.trans e5).trans e6).trans e7).seq (SqL.of upd_same)
        · exact Same.seqT ((((e3.trans e4).trans e5).trans e6).trans e7) (SqT.of upd_same)
        · exact (e6.trans e7).seq (SqL.of upd_same)
        · exact Same.seqT ((e5.trans e6).trans e7) (SqT.of upd_same)
end
end Sb

namespace Sb
open PySem PySem.Spec PyProof.Rows L2 TL
/-! ### the canonical text loads -/
theorem headNot_cons {S : List Nat} {c : Nat} {r : List Nat} (h : c ∉ S) : HeadNot S (c :: r) := fun d r' e => by injection e with e1 e2; rw [← e1]; exact h
theorem headNot_nil {S : List Nat} : HeadNot S [] := fun _ _ e => nomatch e
theorem no_let32 : 32 ∉ tl letS := by rw [mem_let]; omega
theorem no_let59 : 59 ∉ tl letS := by rw [mem_let]; omega
theorem no_let58 : 58 ∉ tl letS := by rw [mem_let]; omega
theorem no_dig32 : 32 ∉ tl digS := by rw [mem_dig]; omega
theorem no_dig59 : 59 ∉ tl digS := by rw [mem_dig]; omega
theorem kw_let : ∀ t ∈ kwL, ∀ c ∈ t, c ∈ tl letS := by decide +kernel
theorem kw_len : ∀ t ∈ kwL, 3 ≤ t.length := by decide +kernel
theorem lx_kw {s : Str} {r : List Nat} {ts : List Tk} (hs : s ∈ kwS) (hr : HeadNot (tl letS) r) (h : Lx r ts) : Lx (tl s ++ r) (kwT s :: ts) :=
  .tok (.kw (kw_let _ (mem_tl.mp hs)) (mem_tl.mp hs) hr) h
theorem lx_num {n : Nat} {r : List Nat} {ts : List Tk} (hn : n < 100) (hr : HeadNot (tl digS) r) (h : Lx r ts) : Lx (numL n ++ r) (numT n :: ts) := by
  refine .tok (.num (numL_ne n) (fun c hc => ?_) (num_len hn) (fun h1 => ?_) hr) h
  · by_cases h48 : 48 ≤ c ∧ c ≤ 57
    · exact mem_dig.mpr h48
    · exact absurd hc (numL_free (by omega))
  · by_cases h10 : n < 10
    · rw [numL_lt h10] at h1
      exact absurd h1 (by simp)
    · rw [numL_step (by omega), numL_lt (by omega)]
      show some (48 + n / 10) ≠ some 48
      intro e
      injection e with e
      omega
theorem lx_sg {c : Nat} {r : List Nat} {ts : List Tk} (hc : c ∈ tl sgnS) (h : Lx r ts) : Lx (c :: r) (sgT c :: ts) := .tok (.sign hc) h
theorem lx_nm {t r : List Nat} {ts : List Tk} (h1 : ∀ c ∈ t, c ∈ tl letS) (h2 : 1 ≤ t.length) (h3 : t.length ≤ 8) (h4 : t ∉ kwL) (hr : HeadNot (tl letS) r) (h : Lx r ts) : Lx (t ++ r) (nmT t :: ts) := .tok (.nm h1 h2 h3 h4 hr) h
theorem lx_lab {k : Nat} {r : List Nat} {ts : List Tk} (hk : k < 20) (hr : HeadNot (tl letS) r) (h : Lx r ts) : Lx (115 :: (97 + k) :: r) (nmT [115, 97 + k] :: ts) := by
  refine lx_nm (t := [115, 97 + k]) (fun c hc => ?_) (by decide +revert) (by decide +revert) (fun z => ?_) hr h
  · rcases List.mem_cons.mp hc with rfl | hc
    · rw [mem_let]; omega
    · rw [List.mem_singleton.mp hc, mem_let]; omega
  · have := kw_len _ z
    simp at this
theorem sg59 : 59 ∈ tl sgnS := by rw [mem_sgn]; omega
theorem sg58 : 58 ∈ tl sgnS := by rw [mem_sgn]; omega
theorem sg123 : 123 ∈ tl sgnS := by rw [mem_sgn]; omega
theorem sg125 : 125 ∈ tl sgnS := by rw [mem_sgn]; omega
theorem lx_nums : ∀ (l : List Nat), l ≠ [] → (∀ n ∈ l, n < 100) → Lx (joinL [32] (l.map numL) ++ [59]) (l.map numT ++ [sgT 59])
  | [], h, _ => absurd rfl h
  | [n], _, h => lx_num (h n (by simp)) (headNot_cons no_dig59) (lx_sg sg59 .nil)
  | n :: m :: r, _, h => by
    have ih := lx_nums (m :: r) (by simp) (fun x hx => h x (by simp only [List.mem_cons] at hx ⊢; exact .inr hx))
    show Lx ((numL n ++ ([32] ++ joinL [32] ((m :: r).map numL))) ++ [59]) _
    rw [List.append_assoc, List.append_assoc]
    exact lx_num (h n (by simp)) (headNot_cons no_dig32) (.sp ih)
theorem shelf_kw : Str.ofString "shelf" ∈ kwS := by decide +kernel
theorem robot_kw : Str.ofString "robot" ∈ kwS := by decide +kernel
theorem w_kw : ∀ {w : Nat}, w < 8 → wS w ∈ kwS := by
  have h : ∀ w : _root_.Fin 8, wS w.val ∈ kwS := by decide +kernel
  exact fun {w} hw => h ⟨w, hw⟩
theorem lx_shelf {l : List Nat} (h : l ≠ []) (hl : ∀ n ∈ l, n ≤ 3) : Lx (shelfL l) (kwT "shelf" :: (l.map numT ++ [sgT 59])) := by
  have e : shelfL l = tl (Str.ofString "shelf") ++ (32 :: (joinL [32] (l.map numL) ++ [59])) := by
    have e1 : tl (Str.ofString "shelf") = [115, 104, 101, 108, 102] := by decide +kernel
    rw [e1]
    unfold shelfL
    simp
  rw [e]
  exact lx_kw shelf_kw (headNot_cons no_let32) (.sp (lx_nums l h (fun n hn => by have := hl n hn; omega)))
theorem lx_robot {n : Nat} (h : n < 100) : Lx ([114, 111, 98, 111, 116, 32] ++ numL n ++ [32, 123]) [kwT "robot", numT n, sgT 123] := by
  have e : [114, 111, 98, 111, 116, 32] ++ numL n ++ [32, 123] = tl (Str.ofString "robot") ++ (32 :: (numL n ++ [32, 123])) := by
    have e1 : tl (Str.ofString "robot") = [114, 111, 98, 111, 116] := by decide +kernel
    rw [e1]
    simp
  rw [e]
  exact lx_kw robot_kw (headNot_cons no_let32) (.sp (lx_num h (headNot_cons no_dig32) (.sp (lx_sg sg123 .nil))))
def canL (gs : List Nat) (k : Nat) (s : Step) : LStep := ⟨if k ∈ gs then some [115, 97 + k] else none, s.w, s.g.map fun g => [115, 97 + g]⟩
def cans (gs : List Nat) (k : Nat) : List Step → List LStep
  | [] => []
  | s :: r => canL gs k s :: cans gs (k + 1) r
theorem lx_step {gs : List Nat} {k n : Nat} {s : Step} (hk : k < 20) (hn : n ≤ 20) (h : Step.Ok n s) : Lx (stepL gs k s) (stepT (canL gs k s)) := by
  have tail : Lx ((match s.g with | none => [] | some g => [32, 115, 97 + g]) ++ [59]) (tgtT (s.g.map fun g => [115, 97 + g]) ++ [sgT 59]) ∧ HeadNot (tl letS) ((match s.g with | none => [] | some g => [32, 115, 97 + g]) ++ [59]) := by
    cases hg : s.g with
    | none => exact ⟨lx_sg sg59 .nil, headNot_cons no_let59⟩
    | some g =>
      have hgn : g < 20 := by
        have h5 : 5 ≤ s.w := by
          by_cases h5 : s.w < 5
          · rw [h.no h5] at hg; cases hg
          · omega
        obtain ⟨k2, e2, h2⟩ := h.yes h5
        rw [hg] at e2
        cases e2
        omega
      exact ⟨.sp (lx_lab hgn (headNot_cons no_let59) (lx_sg sg59 .nil)), headNot_cons no_let32⟩
  have word : Lx (wL s.w ++ ((match s.g with | none => [] | some g => [32, 115, 97 + g]) ++ [59])) (kwT (wS s.w) :: (tgtT (s.g.map fun g => [115, 97 + g]) ++ [sgT 59])) := lx_kw (w_kw h.w8) tail.2 tail.1
  have e : stepL gs k s = 32 :: 32 :: ((if k ∈ gs then [115, 97 + k, 58, 32] else []) ++ (wL s.w ++ ((match s.g with | none => [] | some g => [32, 115, 97 + g]) ++ [59]))) := by
    unfold stepL
    cases s.g <;> simp
  rw [e]
  unfold stepT canL
  refine .sp (.sp ?_)
  by_cases hm : k ∈ gs
  · rw [if_pos hm, if_pos hm]
    exact lx_lab hk (headNot_cons no_let58) (lx_sg sg58 (.sp word))
  · rw [if_neg hm, if_neg hm]
    exact word
theorem lx_steps {gs : List Nat} {n : Nat} (hn : n ≤ 20) : ∀ (k : Nat) (ss : List Step), k + ss.length ≤ 20 → (∀ s ∈ ss, Step.Ok n s) → Paired Lx (stepsL gs k ss) ((cans gs k ss).map stepT)
  | _, [], _, _ => .nil
  | k, s :: r, h, ho => .cons (lx_step (by simp at h; omega) hn (ho s (by simp))) (lx_steps hn (k + 1) r (by simp at h; omega) (fun s hs => ho s (by simp [hs])))
theorem cans_len (gs : List Nat) : ∀ (k : Nat) (ss : List Step), (cans gs k ss).length = ss.length
  | _, [] => rfl
  | k, s :: r => congrArg (· + 1) (cans_len gs (k + 1) r)
theorem cans_at (gs : List Nat) : ∀ (k : Nat) (ss : List Step) (i : Nat), (cans gs k ss)[i]? = (ss[i]?).map (canL gs (k + i))
  | _, [], i => by simp [cans]
  | k, s :: r, 0 => rfl
  | k, s :: r, i + 1 => by
    show (cans gs (k + 1) r)[i]? = _
    rw [cans_at gs (k + 1) r i]
    have e : k + 1 + i = k + (i + 1) := by omega
    rw [e]
    rfl
theorem paired_of {α β : Type} {F : α → β → Prop} : ∀ {l : List α} {m : List β}, l.length = m.length → (∀ (i : Nat) (x : α) (y : β), l[i]? = some x → m[i]? = some y → F x y) → Paired F l m
  | [], [], _, _ => .nil
  | [], _ :: _, h, _ => nomatch h
  | _ :: _, [], h, _ => nomatch h
  | x :: l, y :: m, h, f => .cons (f 0 x y rfl rfl) (paired_of (by simpa using h) (fun i a b h1 h2 => f (i + 1) a b (by simpa using h1) (by simpa using h2)))
theorem labs_at (gs : List Nat) (ss : List Step) (i : Nat) : (labsOf (cans gs 0 ss))[i]? = (ss[i]?).map fun _ => if i ∈ gs then some [115, 97 + i] else none := by
  unfold labsOf
  rw [List.getElem?_map, cans_at]
  cases ss[i]? with
  | none => rfl
  | some s => show some (canL gs (0 + i) s).lab = _; rw [Nat.zero_add]; rfl
theorem cans_ok {ss : List Step} (h : StepsOk ss) : LOk (cans (goalsOf ss) 0 ss) ss := by
  refine ⟨by rw [cans_len]; exact h.pos, by rw [cans_len]; exact h.le, ?_, ?_, ?_⟩
  · intro s hs
    obtain ⟨i, hi⟩ := List.getElem?_of_mem hs
    rw [cans_at] at hi
    cases e : ss[i]? with
    | none => rw [e] at hi; cases hi
    | some s0 =>
      rw [e] at hi
      have es : canL (goalsOf ss) (0 + i) s0 = s := Option.some.inj hi
      subst es
      have ok := h.all s0 (List.mem_of_getElem? e)
      refine ⟨ok.w8, fun h5 => ?_, fun h5 => ?_, fun z => ?_⟩
      · show s0.g.map _ = none
        rw [ok.no h5]; rfl
      · obtain ⟨k, hk, _⟩ := ok.yes h5
        exact ⟨[115, 97 + k], by show s0.g.map _ = _; rw [hk]; rfl⟩
      · have z' : (if 0 + i ∈ goalsOf ss then some [115, 97 + (0 + i)] else none) = some [125] := z
        split at z'
        · injection z' with z'
          injection z' with z1 z2
          exact absurd z1 (by decide)
        · cases z'
  · intro i s t hi ht hm
    obtain ⟨m, hm⟩ := List.getElem?_of_mem hm
    unfold labsOf at hm
    rw [List.getElem?_map, List.getElem?_take] at hm
    by_cases hmi : m < i
    · rw [if_pos hmi, cans_at] at hm
      rw [cans_at] at hi
      cases e : ss[i]? with
      | none => rw [e] at hi; cases hi
      | some s0 =>
        rw [e] at hi
        have es : canL (goalsOf ss) (0 + i) s0 = s := Option.some.inj hi
        subst es
        cases e2 : ss[m]? with
        | none => rw [e2] at hm; cases hm
        | some s1 =>
          rw [e2] at hm
          have em : (canL (goalsOf ss) (0 + m) s1).lab = some t := Option.some.inj hm
          have h1 : (if 0 + i ∈ goalsOf ss then some [115, 97 + (0 + i)] else none) = some t := ht
          have h2 : (if 0 + m ∈ goalsOf ss then some [115, 97 + (0 + m)] else none) = some t := em
          split at h1
          · split at h2
            · rw [← h1] at h2
              injection h2 with h2
              injection h2 with _ h2
              injection h2 with h2 _
              omega
            · cases h2
          · cases h1
    · rw [if_neg hmi] at hm; cases hm
  · refine paired_of (cans_len _ _ _) fun i x y hx hy => ?_
    rw [cans_at, hy] at hx
    have es : canL (goalsOf ss) (0 + i) y = x := Option.some.inj hx
    subst es
    have ok := h.all y (List.mem_of_getElem? hy)
    refine ⟨rfl, fun hn => ?_, fun t ht => ?_⟩
    · have hn' : y.g.map (fun g => [115, 97 + g]) = none := hn
      cases hg : y.g with
      | none => rfl
      | some g => rw [hg] at hn'; cases hn'
    · have ht' : y.g.map (fun g => [115, 97 + g]) = some t := ht
      cases hg : y.g with
      | none => rw [hg] at ht'; cases ht'
      | some g =>
        rw [hg] at ht'
        have et : [115, 97 + g] = t := Option.some.inj ht'
        subst et
        have hgm : g ∈ goalsOf ss := List.mem_filterMap.mpr ⟨y, List.mem_of_getElem? hy, hg⟩
        have hgl : g < ss.length := by
          have h5 : 5 ≤ y.w := by
            by_cases h5 : y.w < 5
            · rw [ok.no h5] at hg; cases hg
            · omega
          obtain ⟨k2, e2, h2⟩ := ok.yes h5
          rw [hg] at e2
          cases e2
          exact h2
        refine ⟨g, rfl, ?_, fun m hm e => ?_⟩
        · rw [labs_at, List.getElem?_eq_getElem hgl]
          show some (if g ∈ goalsOf ss then _ else _) = _
          rw [if_pos hgm]
        · rw [labs_at] at e
          cases e2 : ss[m]? with
          | none => rw [e2] at e; cases e
          | some s1 =>
            rw [e2] at e
            have e3 : (if m ∈ goalsOf ss then some [115, 97 + m] else none) = some [115, 97 + g] := Option.some.inj e
            split at e3
            · injection e3 with e3
              injection e3 with _ e3
              injection e3 with e3 _
              omega
            · cases e3
theorem robot_lx {n : Nat} {ss : List Step} (hn : n < 100) (h : StepsOk ss) : ∃ tss, Paired Lx (robotL n ss) tss ∧ tss.flatten = robotT n (cans (goalsOf ss) 0 ss) := by
  refine ⟨[kwT "robot", numT n, sgT 123] :: ((cans (goalsOf ss) 0 ss).map stepT ++ [[sgT 125]]), .cons (lx_robot hn) (Paired.snoc (lx_steps h.le 0 ss (by have := h.le; omega) h.all) (lx_sg sg125 .nil)), ?_⟩
  unfold robotT
  simp [List.flatMap_def]
theorem no10_steps {gs : List Nat} {n : Nat} : ∀ (k : Nat) (ss : List Step), (∀ s ∈ ss, Step.Ok n s) → ∀ p ∈ stepsL gs k ss, 10 ∉ p
  | _, [], _, p, hp => nomatch hp
  | k, s :: r, ho, p, hp => by
    rcases List.mem_cons.mp hp with rfl | hp
    · have hw : ∀ w : _root_.Fin 8, 10 ∉ wL w.val := by decide +kernel
      have h1 := hw ⟨s.w, (ho s (by simp)).w8⟩
      unfold stepL
      intro hm
      simp only [List.mem_append] at hm
      rcases hm with (((hm | hm) | hm) | hm) | hm
      · simp at hm
      · split at hm
        · simp at hm; omega
        · cases hm
      · exact h1 hm
      · split at hm
        · cases hm
        · simp at hm; omega
      · simp at hm
    · exact no10_steps (k + 1) r (fun s hs => ho s (by simp [hs])) p hp
theorem no10_robot {n : Nat} {ss : List Step} (h : StepsOk ss) : ∀ p ∈ robotL n ss, 10 ∉ p := by
  intro p hp
  rcases List.mem_cons.mp hp with rfl | hp
  · intro hm
    simp only [List.mem_append] at hm
    rcases hm with (hm | hm) | hm
    · simp at hm
    · exact numL_free (by omega) hm
    · simp at hm
  · rcases List.mem_append.mp hp with hp | hp
    · exact no10_steps 0 ss h.all p hp
    · rw [List.mem_singleton.mp hp]; decide
theorem no10_join : ∀ (l : List Nat), 10 ∉ joinL [32] (l.map numL)
  | [] => by simp [joinL]
  | [n] => numL_free (by omega)
  | n :: m :: r => by
    have ih := no10_join (m :: r)
    show 10 ∉ (numL n ++ ([32] ++ joinL [32] ((m :: r).map numL)))
    simp only [List.mem_append, not_or]
    exact ⟨numL_free (by omega), by decide, ih⟩
theorem no10_shelf (l : List Nat) : 10 ∉ shelfL l := by
  unfold shelfL
  simp only [List.mem_append, not_or]
  exact ⟨⟨by decide, no10_join l⟩, by decide⟩
theorem loads_text {x : Pl} (h : x.Ok) : Loads (textS x) x := by
  have hne : x.shelf ≠ [] := fun e => by have := h.c3; rw [e] at this; exact absurd this (by decide)
  have c12 := h.c12
  obtain ⟨t1, p1, e1⟩ := robot_lx (n := x.a) (by have := h.ha; omega) h.p
  obtain ⟨t2, p2, e2⟩ := robot_lx (n := x.b) (by have := h.hb; omega) h.q
  refine ⟨⟨_, _, linesL x, (kwT "shelf" :: (x.shelf.map numT ++ [sgT 59])) :: (t1 ++ t2), rfl, by unfold linesL; simp, ?_, fun r hr => ?_, ?_, .cons (lx_shelf hne h.b3) (Paired.app p1 p2), ?_, cans_ok h.p, cans_ok h.q⟩⟩
  · intro r hr
    rcases List.mem_cons.mp hr with rfl | hr
    · exact no10_shelf _
    · rcases List.mem_append.mp hr with hr | hr
      · exact no10_robot h.p r hr
      · exact no10_robot h.q r hr
  · have := lines_len h r hr; omega
  · have := textL_len h
    show (textL x).length ≤ _
    omega
  · rw [List.flatten_cons, List.flatten_append, e1, e2]
    unfold planT
    simp
end Sb

namespace Sb
open PySem PySem.Spec PyProof.Rows L2 TL
/-! ### equal data are told equal -/
mutual
def okD : PyData → Bool
  | .none | .bool _ | .int _ | .str _ => true
  | .list xs | .tuple xs => decide (xs.length ≤ 1000000) && okAll xs
  | .dict _ => false
def okAll : List PyData → Bool
  | [] => true
  | x :: xs => okD x && okAll xs
end
theorem okAll_at : ∀ {xs : List PyData} {i : Nat} {d : PyData}, okAll xs = true → xs[i]? = some d → okD d = true
  | [], _, _, _, e => by simp at e
  | x :: xs, 0, d, h, e => by
    simp at e; subst e
    have h' : (okD x && okAll xs) = true := h
    rw [Bool.and_eq_true] at h'
    exact h'.1
  | x :: xs, i + 1, d, h, e => by
    have h' : (okD x && okAll xs) = true := h
    rw [Bool.and_eq_true] at h'
    exact okAll_at (i := i) h'.2 (by simpa using e)
theorem depthAll_at : ∀ {xs : List PyData} {i : Nat} {d : PyData}, xs[i]? = some d → d.depth ≤ PyData.depthAll xs
  | [], _, _, e => by simp at e
  | x :: xs, 0, d, e => by
    simp at e; subst e
    show x.depth ≤ max x.depth (PyData.depthAll xs)
    omega
  | x :: xs, i + 1, d, e => by
    have := depthAll_at (xs := xs) (i := i) (d := d) (by simpa using e)
    show d.depth ≤ max x.depth (PyData.depthAll xs)
    omega
theorem SqL.ty {K : PySem.W.Frag} {H : Hp} {p : Addr} {xs : List V} (h : SqL K H p xs) : TyX K H (.ref p) (.type "list") := by
  rcases h with (h | ⟨o, h⟩) | ⟨o, its, n, h1, h2, _⟩
  · exact .base (.lst h)
  · exact .base (.frz h)
  · exact .kList h1 h2
theorem SqT.ty {K : PySem.W.Frag} {H : Hp} {p : Addr} {xs : List V} (h : SqT K H p xs) : TyX K H (.ref p) (.type "tuple") := by
  rcases h with (h | ⟨o, h⟩) | ⟨o, its, n, h1, h2, _⟩
  · exact .base (.tup h)
  · exact .fTuple h
  · exact .kTuple h1 h2
structure spEqual (K : PySem.W.Frag) (n : Nat) (vs : List V) (H : Hp) (Q : VK) (E : XK) : Prop where
  ex : ∃ (v u : V) (d : PyData), vs = [v, u] ∧ Dp K H v d ∧ Dp K H u d ∧ d.depth ≤ n ∧ okD d = true ∧ ∀ H', Same H H' → Q (.bl true) H'
theorem kf {K : PySem.W.Frag} {x y : String} {b : Bool} (h : kitB x y = some b) : PySem.W.kitOne K (.type x) (.type y) = some b := kit_ty h
section
variable {P : Program} {w : World} {K : PySem.W.Frag} {mg : Str → Option Value} {base : Heap} {a : Ad}
end
end Sb

namespace Sb
open PySem PySem.Spec PyProof.Rows L2 TL
/-! ### data that _law_equal walks -/
structure Fine (n : Nat) (d : PyData) : Prop where
  ok : okD d = true
  dep : d.depth ≤ n
theorem okAll_of : ∀ {ds : List PyData}, (∀ d ∈ ds, okD d = true) → okAll ds = true
  | [], _ => rfl
  | d :: ds, h => by
    show (okD d && okAll ds) = true
    rw [h d List.mem_cons_self, okAll_of fun e he => h e (List.mem_cons_of_mem _ he)]
    rfl
theorem depthAll_of {n : Nat} : ∀ {ds : List PyData}, (∀ d ∈ ds, d.depth ≤ n) → PyData.depthAll ds ≤ n
  | [], _ => Nat.zero_le _
  | d :: ds, h => by
    show max d.depth (PyData.depthAll ds) ≤ n
    exact Nat.max_le.mpr ⟨h d List.mem_cons_self, depthAll_of fun e he => h e (List.mem_cons_of_mem _ he)⟩
theorem Fine.list {n : Nat} {ds : List PyData} (h : ∀ d ∈ ds, Fine n d) (l : ds.length ≤ 1000000) : Fine (n + 1) (.list ds) := by
  refine ⟨?_, ?_⟩
  · show (decide (ds.length ≤ 1000000) && okAll ds) = true
    rw [decide_eq_true l, okAll_of fun d hd => (h d hd).ok]
    rfl
  · show PyData.depthAll ds + 1 ≤ n + 1
    exact Nat.succ_le_succ (depthAll_of fun d hd => (h d hd).dep)
theorem Fine.tuple {n : Nat} {ds : List PyData} (h : ∀ d ∈ ds, Fine n d) (l : ds.length ≤ 1000000) : Fine (n + 1) (.tuple ds) := by
  refine ⟨?_, ?_⟩
  · show (decide (ds.length ≤ 1000000) && okAll ds) = true
    rw [decide_eq_true l, okAll_of fun d hd => (h d hd).ok]
    rfl
  · show PyData.depthAll ds + 1 ≤ n + 1
    exact Nat.succ_le_succ (depthAll_of fun d hd => (h d hd).dep)
theorem Fine.mono {n m : Nat} {d : PyData} (h : Fine n d) (l : n ≤ m) : Fine m d := ⟨h.ok, Nat.le_trans h.dep l⟩
theorem Fine.int {n : Nat} (i : Int) : Fine n (.int i) := ⟨rfl, Nat.zero_le _⟩
theorem Fine.str {n : Nat} (i : Str) : Fine n (.str i) := ⟨rfl, Nat.zero_le _⟩
theorem Fine.bool {n : Nat} (i : Bool) : Fine n (.bool i) := ⟨rfl, Nat.zero_le _⟩
theorem Fine.none {n : Nat} : Fine n .none := ⟨rfl, Nat.zero_le _⟩
theorem fine_natsD {n : Nat} {l : List Nat} (h : l.length ≤ 1000000) : Fine (n + 1) (natsD l) := Fine.list (fun d hd => by obtain ⟨k, _, rfl⟩ := List.mem_map.mp hd; exact .int _) (by rw [List.length_map]; exact h)
theorem fine_natsT {n : Nat} {l : List Nat} (h : l.length ≤ 1000000) : Fine (n + 1) (natsT l) := Fine.tuple (fun d hd => by obtain ⟨k, _, rfl⟩ := List.mem_map.mp hd; exact .int _) (by rw [List.length_map]; exact h)
theorem fine2 {n : Nat} {P : PyData → Prop} {a b : PyData} (ha : P a) (hb : P b) : ∀ d ∈ [a, b], P d := fun d hd => by
  rcases List.mem_cons.mp hd with rfl | hd
  · exact ha
  · rw [List.mem_singleton.mp hd]; exact hb
theorem fine3 {n : Nat} {P : PyData → Prop} {a b c : PyData} (ha : P a) (hb : P b) (hc : P c) : ∀ d ∈ [a, b, c], P d := fun d hd => by
  rcases List.mem_cons.mp hd with rfl | hd
  · exact ha
  · exact fine2 (n := 0) hb hc d hd
theorem equal_go {K : PySem.W.Frag} {n : Nat} {v u : V} {d : PyData} {H : Hp} {Q : VK} {E : XK} (hv : Dp K H v d) (hu : Dp K H u d) (f : Fine n d) (k : ∀ H', Same H H' → Q (.bl true) H') : spEqual K n [v, u] H Q E := ⟨⟨v, u, d, rfl, hv, hu, f.dep, f.ok, k⟩⟩
/-! ### the days -/
def dayD (x : Pl) (j : Nat) : PyData := .tuple [wordsD (wordsAt x j), sitL (sitAt x (j + 1))]
theorem last_at {xs : List V} {v : V} : atI (xs ++ [v]) (-1) = some v := by
  have := ixN_last (n := xs.length)
  unfold atI
  rw [List.length_append, List.length_singleton, this]
  simp
end Sb

namespace Sb
open PySem PySem.Spec PyProof.Rows L2 TL
structure spSomeTick (vs : List V) (H : Hp) (Q : VK) (E : XK) : Prop where
  ex : ∃ (d : Addr) (G : Hp), vs = [.ref d] ∧ Drawn d G H Q fun _ v => ∃ t : Nat, v = .int t ∧ t ≤ 1000000000000000000
structure spLPlace (K : PySem.W.Frag) (vs : List V) (H : Hp) (Q : VK) (E : XK) : Prop where
  ex : ∃ (G : Hp) (v : V) (ds : List PyData) (i n t : Nat), vs = [v, .int t] ∧ Dp K G v (.tuple [.list ds, natD i]) ∧ ds.length = n ∧ i < n ∧ Same G H ∧ Q (.int (placeP i n t : Nat)) H
section
variable {P : Program} {w : World} {K : PySem.W.Frag} {mg : Str → Option Value} {base : Heap} {a : Ad}
theorem ok_l_some_tick (T : Txt K mg a) : FnOk P w K mg base CX0 3 a.f_l_some_tick a.d_l_some_tick ["_law_d"] spSomeTick := by
  refine T.F_l_some_tick.ok sc_l_some_tick (fun vs H Q E h => ?_) (fun cdv A outer s H vs Q E hr h => ?_)
  · obtain ⟨⟨d, G, rfl, _⟩⟩ := h
    rfl
  · obtain ⟨⟨d, G, rfl, hN, k⟩⟩ := h
    refine ⟨_, (pss_one (ps_ret (pe_ix ix_list (pe_lst (pa_cons (pe_call (ok_l_below T) (hr.mono (by decide)) rfl T.m_l_below T.F_l_below.kp (b_l_below T) .nil pass0 (pa_cons (pv 0) (pa_cons pe_int pa_nil))) (pa_cons (pe_op op_sub (pe_op op_pow pe_int pe_int) (pe_call (ok_l_below T) (hr.mono (by decide)) rfl T.m_l_below T.F_l_below.kp (b_l_below T) .nil pass0 (pa_cons (pv 0) (pa_cons (pe_op op_pow pe_int pe_int) pa_nil)))) pa_nil))) (pe_call (ok_l_below T) (hr.mono (by decide)) rfl T.m_l_below T.F_l_below.kp (b_l_below T) .nil pass0 (pa_cons (pv 0) (pa_cons pe_int pa_nil))) (fun _ _ => rfl)))), ?_⟩
    refine ⟨_, rfl, draw_go hN.at (by decide) (by decide) fun H1 t1 B1 K1 h1 => ?_⟩
    refine ⟨_, _, rfl, rfl, (by unfold CPow; decide +kernel), _, rfl, _, _, rfl, rfl, (by unfold CPow; decide +kernel), ?_⟩
    refine draw_go B1 (by decide +kernel) (by decide +kernel) fun H2 t2 B2 K2 h2 => ⟨_, _, rfl, rfl, ?_⟩
    refine ⟨(by show 2 ≤ sizeLine; decide), fun q hq => ?_⟩
    have B3 := B2.new hq (.lst [.int t1, .int ((10 : Int) ^ 18 - t2)])
    refine ⟨_, rfl, draw_go B3 (by decide) (by decide) fun H4 m B4 K4 hm => ?_⟩
    have h2' : t2 < 1000000 := by
      have : (t2 : Int) < 1000000 := h2
      omega
    obtain ⟨t, ht, h18⟩ : ∃ t : Nat, ([V.int t1, V.int ((10 : Int) ^ 18 - t2)] : List V)[m]? = some (.int t) ∧ t ≤ 1000000000000000000 := by
      match m, hm with
      | 0, _ => exact ⟨t1, rfl, by omega⟩
      | 1, _ => exact ⟨1000000000000000000 - t2, by
          have : (10 : Int) ^ 18 - (t2 : Int) = ((1000000000000000000 - t2 : Nat) : Int) := by
            rw [show (10 : Int) ^ 18 = 1000000000000000000 by decide]; omega
          rw [this]; rfl, by omega⟩
      | m + 2, h => exact absurd h (by omega)
    exact ⟨q, _, _, .int t, rfl, rfl, B4.now.s.seq (SqL.of upd_same), atI_nat ht, k _ _ _ B4 ⟨t, rfl, h18⟩⟩
end
end Sb

namespace Sb
open PySem PySem.Spec PyProof.Rows L2 TL LamX NdefX
theorem units1 {A : Around} (h : A.units + 64 < cLine) : A.units + 1 < cLine := by omega
/-! ### `in` of a dict with ints as keys -/
def rInK : R2 := fun x y H Q => ∃ a o, y = .ref a ∧ DGet H a x o ∧ Q (.bl o.isSome) H
def rNotInK : R2 := fun x y H Q => ∃ a o, y = .ref a ∧ DGet H a x o ∧ Q (.bl (!o.isSome)) H
theorem op_inK {X : Cx} (hu : X.A.units + 1 < cLine) : OpR X (compareOp .In) rInK := by
  intro pins s σ H x y v u Q I rx ry h
  obtain ⟨a, o, rfl, g, q⟩ := h
  cases ry
  exact d_in hu I g rx fun s' I' => ⟨.bl o.isSome, H, I', rfl, q⟩
theorem op_notInK {X : Cx} (hu : X.A.units + 1 < cLine) : OpR X (compareOp .NotIn) rNotInK := by
  intro pins s σ H x y v u Q I rx ry h
  obtain ⟨a, o, rfl, g, q⟩ := h
  cases ry
  exact d_notIn hu I g rx fun s' I' => ⟨.bl (!o.isSome), H, I', rfl, q⟩
/-! ### robots that are blocked -/
def blkAt (x : Pl) (num j : Nat) : Bool := decide (doS (wdN (wordsAt x j) num) = "blocked")
def stuckB (x : Pl) (i n num : Nat) : Bool := ((List.range n).drop i).all fun j => blkAt x num j
def stuckL (x : Pl) (i n : Nat) : List Nat := (List.range 2).filter fun k => stuckB x i n k
def blkD : PyData := .tuple [.str "blocked", .str "blocked"]
def lockP (x : Pl) (i : Nat) : Option Nat := if PyData.eqv (wordsD (wordsAt x i)) blkD = true then some i else none
def downP (f : Nat → Bool) : Nat → Nat
  | 0 => 0
  | m + 1 => if f m = true then downP f m else m + 1
def fromP (x : Pl) (i n num : Nat) : Option Nat := if num ∈ stuckL x i n then some (downP (blkAt x num) i) else none
def nsAt (x : Pl) (num j : Nat) : Nat := (sitAt x j).ns.getD num 0
def usedB (x : Pl) (n num k : Nat) : Bool := (List.range n).any fun j => !blkAt x num j && decide (nsAt x num j = k)
def unusedL (x : Pl) (n num : Nat) : List Nat := (List.range (stepsOf x num).length).filter fun k => !usedB x n num k
theorem words_shaped (w : Nat × Nat) (h1 : w.1 ≤ 8) (h2 : w.2 ≤ 8) : SeqAt.shaped (wordsD w) = true := by
  have h : ∀ a b : _root_.Fin 9, SeqAt.shaped (wordsD (a.val, b.val)) = true := by decide +kernel
  exact h ⟨w.1, by omega⟩ ⟨w.2, by omega⟩
theorem words_le {x : Pl} (hx : x.Ok) (j : Nat) : (wordsAt x j).1 ≤ 8 ∧ (wordsAt x j).2 ≤ 8 := by
  have so := sitAt_ok hx j
  exact ⟨act_w hx so (i := 0) (by decide), act_w hx (act_ok hx so (i := 0) (by decide)) (i := 1) (by decide)⟩
structure spLockOf (a : Ad) (K : PySem.W.Frag) (vs : List V) (H : Hp) (Q : VK) (E : XK) : Prop where
  ex : ∃ (G : Hp) (v : V) (x : Pl) (i n : Nat), vs = [v] ∧ StoryAt a K G v x i n ∧ x.Ok ∧ Cyc x i n ∧ Pure G H Q fun G' v => Dp K G' v (optD (lockP x i))
structure spStuckIn (a : Ad) (K : PySem.W.Frag) (vs : List V) (H : Hp) (Q : VK) (E : XK) : Prop where
  ex : ∃ (G : Hp) (v : V) (x : Pl) (i n : Nat), vs = [v] ∧ StoryAt a K G v x i n ∧ Cyc x i n ∧ n ≤ 20000 ∧ Same G H ∧ ∀ G1 H1 p, Pt G H G1 H1 → G1 p = none → H p = none → H1 p = some (.lst (nV (stuckL x i n))) → Q (.ref p) H1
structure spLockTick (K : PySem.W.Frag) (vs : List V) (H : Hp) (Q : VK) (E : XK) : Prop where
  ex : ∃ (src : Str) (G : Hp) (x : Pl) (i n : Nat), vs = [.str src] ∧ Told src x i n ∧ Pure G H Q fun G' v => Dp K G' v (optD (lockP x i))
structure spStuckRobots (K : PySem.W.Frag) (vs : List V) (H : Hp) (Q : VK) (E : XK) : Prop where
  ex : ∃ (src : Str) (G : Hp) (x : Pl) (i n : Nat), vs = [.str src] ∧ Told src x i n ∧ Same G H ∧ ∀ G1 H1 p, Pt G H G1 H1 → G1 p = none → H p = none → H1 p = some (.lst (nV (stuckL x i n))) → Q (.ref p) H1
structure spStuckFrom (K : PySem.W.Frag) (vs : List V) (H : Hp) (Q : VK) (E : XK) : Prop where
  ex : ∃ (src : Str) (G : Hp) (x : Pl) (i n num : Nat), vs = [.str src, .int num] ∧ Told src x i n ∧ num < 2 ∧ Pure G H Q fun G' v => Dp K G' v (optD (fromP x i n num))
structure spUnused (K : PySem.W.Frag) (vs : List V) (H : Hp) (Q : VK) (E : XK) : Prop where
  ex : ∃ (src : Str) (G : Hp) (x : Pl) (i n num : Nat), vs = [.str src, .int num] ∧ Told src x i n ∧ num < 2 ∧ Pure G H Q fun G' v => ∃ p, v = .ref p ∧ G' p = some (.lst (nV (unusedL x n num)))
theorem ite_bl {x : Pl} {num j : Nat} {A B : Prop} (h1 : blkAt x num j = true → A) (h2 : blkAt x num j = false → B) : if decide (V.str (doS (wdN (wordsAt x j) num)) = V.str "blocked") = true then A else B := by
  have e : decide (V.str (doS (wdN (wordsAt x j) num)) = V.str "blocked") = blkAt x num j := by
    unfold blkAt
    exact decide_eq_decide.mpr ⟨fun z => by injection z, fun z => by rw [z]⟩
  rw [e]
  exact ite_b h1 h2
theorem blk_V (x : Pl) (num j : Nat) : decide (V.str (doS (wdN (wordsAt x j) num)) = V.str "blocked") = blkAt x num j := by
  unfold blkAt
  exact decide_eq_decide.mpr ⟨fun z => by injection z, fun z => by rw [z]⟩
theorem drop_map_range {α : Type} (f : Nat → α) (n i : Nat) : ((List.range n).map f).drop i = ((List.range n).drop i).map f := by rw [List.map_drop]
section
variable {P : Program} {w : World} {K : PySem.W.Frag} {mg : Str → Option Value} {base : Heap} {a : Ad}
end
end Sb

namespace Sb
open PySem PySem.Spec PyProof.Rows L2 TL LamX NdefX
/-! ### data that == walks -/
structure Lay (n : Nat) (d : PyData) : Prop where
  lay : d.canLay0 = true
  dep : d.depth ≤ n
theorem layAll_of : ∀ {ds : List PyData}, (∀ d ∈ ds, d.canLay0 = true) → PyData.canLayAll0 ds = true
  | [], _ => rfl
  | d :: ds, h => by
    show (d.canLay0 && PyData.canLayAll0 ds) = true
    rw [h d List.mem_cons_self, layAll_of fun e he => h e (List.mem_cons_of_mem _ he)]
    rfl
theorem Lay.list {n : Nat} {ds : List PyData} (h : ∀ d ∈ ds, Lay n d) : Lay (n + 1) (.list ds) := ⟨layAll_of fun d hd => (h d hd).lay, Nat.succ_le_succ (depthAll_of fun d hd => (h d hd).dep)⟩
theorem Lay.tuple {n : Nat} {ds : List PyData} (h : ∀ d ∈ ds, Lay n d) : Lay (n + 1) (.tuple ds) := ⟨layAll_of fun d hd => (h d hd).lay, Nat.succ_le_succ (depthAll_of fun d hd => (h d hd).dep)⟩
theorem Lay.mono {n m : Nat} {d : PyData} (h : Lay n d) (l : n ≤ m) : Lay m d := ⟨h.lay, Nat.le_trans h.dep l⟩
theorem Lay.int {n : Nat} (i : Int) : Lay n (.int i) := ⟨rfl, Nat.zero_le _⟩
theorem Lay.bool {n : Nat} (i : Bool) : Lay n (.bool i) := ⟨rfl, Nat.zero_le _⟩
theorem Lay.none {n : Nat} : Lay n .none := ⟨rfl, Nat.zero_le _⟩
theorem Lay.str {n : Nat} {x : Str} (h : PyData.strOk x = true) : Lay n (.str x) := ⟨h, Nat.zero_le _⟩
theorem Lay.shaped {n : Nat} {ds : List PyData} (h : Lay n (.list ds)) (hn : n ≤ 64) : SeqAt.shaped (.list ds) = true := by
  have h1 : PyData.canLayAll0 ds = true := h.lay
  have h2 : PyData.depthAll ds + 1 ≤ n := h.dep
  show (PyData.canLayAll0 ds && decide (PyData.depthAll ds + 1 ≤ 64)) = true
  rw [h1, decide_eq_true (by omega)]; rfl
theorem Lay.shapedT {n : Nat} {ds : List PyData} (h : Lay n (.tuple ds)) (hn : n ≤ 64) : SeqAt.shaped (.tuple ds) = true := by
  have h1 : PyData.canLayAll0 ds = true := h.lay
  have h2 : PyData.depthAll ds + 1 ≤ n := h.dep
  show (PyData.canLayAll0 ds && decide (PyData.depthAll ds + 1 ≤ 64)) = true
  rw [h1, decide_eq_true (by omega)]; rfl
theorem lay_nats {n : Nat} (l : List Nat) : Lay (n + 1) (natsD l) := Lay.list fun d hd => by obtain ⟨k, _, rfl⟩ := List.mem_map.mp hd; exact .int _
theorem lay_natsT {n : Nat} (l : List Nat) : Lay (n + 1) (natsT l) := Lay.tuple fun d hd => by obtain ⟨k, _, rfl⟩ := List.mem_map.mp hd; exact .int _
theorem lay_bools {n : Nat} (l : List Bool) : Lay (n + 1) (boolsD l) := Lay.list fun d hd => by obtain ⟨k, _, rfl⟩ := List.mem_map.mp hd; exact .bool _
theorem doS_ok {w : Nat} (h : w ≤ 8) : PyData.strOk (doS w) = true := by
  have h' : ∀ w : _root_.Fin 9, PyData.strOk (doS w.val) = true := by decide +kernel
  exact h' ⟨w, by omega⟩
theorem lay2 {P : PyData → Prop} {a b : PyData} (ha : P a) (hb : P b) : ∀ d ∈ [a, b], P d := fine2 (n := 0) ha hb
theorem lay4 {P : PyData → Prop} {a b c e : PyData} (ha : P a) (hb : P b) (hc : P c) (he : P e) : ∀ d ∈ [a, b, c, e], P d := fun d hd => by
  rcases List.mem_cons.mp hd with rfl | hd
  · exact ha
  · exact fine3 (n := 0) hb hc he d hd
theorem lay_words {n : Nat} {w : Nat × Nat} (h1 : w.1 ≤ 8) (h2 : w.2 ≤ 8) : Lay (n + 1) (wordsD w) := Lay.tuple (lay2 (.str (doS_ok h1)) (.str (doS_ok h2)))
theorem lay_sit (s : Sit) : Lay 2 (sitL s) := Lay.list (lay4 (lay_nats _) (lay_nats _) (lay_bools _) (lay_nats _))
theorem lay_day {x : Pl} (hx : x.Ok) (j : Nat) : Lay 3 (dayD x j) := Lay.tuple (lay2 ((lay_words (n := 0) (words_le hx j).1 (words_le hx j).2).mono (by decide)) (lay_sit _))
theorem eqv_nil (ds : List PyData) : PyData.eqv (.list ds) (.list []) = ds.isEmpty := by cases ds <;> rfl
theorem filt_empty {α : Type} (l : List Nat) (b : Nat → Bool) (f : Nat → α) : ((l.filter fun j => !b j).map f).isEmpty = l.all b := by
  induction l with
  | nil => rfl
  | cons a l ih =>
    rw [List.filter_cons]
    cases h : b a with
    | true => simpa [h] using ih
    | false => simp [h]
theorem filt_more {α : Type} {l : List α} {t : Nat} {x : α} (p : α → Bool) (h : l[t]? = some x) : (l.take (t + 1)).filter p = (l.take t).filter p ++ (if p x = true then [x] else []) := by
  rw [take_more h, List.filter_append]
  congr 1
  by_cases q : p x = true
  · rw [if_pos q, List.filter_cons_of_pos q]; rfl
  · rw [if_neg q, List.filter_cons_of_neg q]; rfl
theorem sum_mid (f : Nat → Nat) {n i q : Nat} (h : i + q ≤ n) : ((((List.range n).map f).drop i).take q).sum = cntF f (i + q) - cntF f i := by
  have e : (((List.range n).map f).drop i).take q = (((List.range n).map f).take (i + q)).drop i := by
    rw [List.drop_take, show i + q - i = q by omega]
  rw [e, take_range f h, sum_drop f (by omega)]
/-! ### the draws, with the tables of the code objects -/
structure NowT (a : Ad) (d : Addr) (G H : Hp) : Prop where
  now : Now d G H
  tb : Tabs (Ts a) H
  gt : ∀ b ∈ tbs a, G b = none
theorem tbs_at {a : Ad} {H : Hp} (t : Tabs (Ts a) H) {b : Addr} (hb : b ∈ tbs a) : ∃ ps, H b = some (.tbl ps) := by
  simp only [tbs, List.mem_cons, List.not_mem_nil, or_false] at hb
  first
    | (subst hb
       obtain ⟨ps, h, _⟩ := t _ (List.mem_cons_self)
       exact ⟨ps, h⟩)
    | (rcases hb with rfl | rfl
       · obtain ⟨ps, h, _⟩ := t _ (List.mem_cons_self)
         exact ⟨ps, h⟩
       · obtain ⟨ps, h, _⟩ := t _ (List.mem_cons_of_mem _ List.mem_cons_self)
         exact ⟨ps, h⟩)
theorem NowT.of_at {a : Ad} {d : Addr} {G0 H0 G H : Hp} (n : NowT a d G0 H0) (b : At d G0 H0 G H) : NowT a d G H := by
  obtain ⟨ds, hd, _⟩ := n.now.x
  refine ⟨b.now, fun p hp => ?_, fun c hc => ?_⟩
  · obtain ⟨ps, h1, h2, h3⟩ := n.tb p hp
    have e1 : p.1 ≠ d := fun z => by rw [z, hd] at h1; cases h1
    refine ⟨ps, b.kept h1 e1, h2, fun pos cv hcv => ?_⟩
    obtain ⟨c, ec, hc⟩ := h3 pos cv hcv
    exact ⟨c, ec, b.kept hc fun z => by rw [z, hd] at hc; unfold CodeO at hc; cases hc⟩
  · obtain ⟨ps, h1⟩ := tbs_at n.tb hc
    exact b.ext.out (n.gt c hc) h1
theorem NowT.kept {a : Ad} {d : Addr} {G H H' : Hp} (n : NowT a d G H) (s : Same (wos (tbs a) H) H') {p : Addr} {o : HO} (hp : H p = some o) (ho : ∀ ps, o ≠ .tbl ps) : H' p = some o :=
  s _ _ (by rw [wos_out fun z => by obtain ⟨ps, h⟩ := tbs_at n.tb z; rw [hp] at h; cases h; exact ho ps rfl]; exact hp)
theorem NowT.step {a : Ad} {d : Addr} {G H G' H' : Hp} (n : NowT a d G H) (e : Ext G H G' H') (s : Same (wos (tbs a) H) H') (t : Tabs (Ts a) H') : NowT a d G' H' := by
  obtain ⟨ds, hd, hs⟩ := n.now.x
  refine ⟨⟨e.h, e.out n.now.o hd, ds, n.kept s hd (fun ps z => by cases z), hs⟩, t, fun c hc => ?_⟩
  obtain ⟨ps, h1⟩ := tbs_at n.tb hc
  exact e.out (n.gt c hc) h1
/-! ### the law's own words on blocked robots -/
structure spLStuck (K : PySem.W.Frag) (vs : List V) (H : Hp) (Q : VK) (E : XK) : Prop where
  ex : ∃ (G : Hp) (v : V) (x : Pl) (i n : Nat), vs = [v] ∧ Dp K G v (.tuple [.list ((List.range n).map (dayD x)), natD i]) ∧ x.Ok ∧ i < n ∧ n ≤ 20000 ∧ Pure G H Q fun G' v => Dp K G' v (natsD (stuckL x i n))
structure spLSum (K : PySem.W.Frag) (vs : List V) (H : Hp) (Q : VK) (E : XK) : Prop where
  ex : ∃ (G : Hp) (v : V) (l : Addr) (d0 : PyData) (f : Nat → Nat) (i n t : Nat), vs = [v, .ref l, .int t] ∧ Dp K G v (.tuple [d0, natD i]) ∧ Same G H ∧ H l = some (.lst (nV ((List.range n).map f))) ∧ i < n ∧ n ≤ 20000 ∧ t ≤ 1000000000000000000 ∧ (∀ t, i ≤ t → f (t + (n - i)) = f t) ∧ (∀ j, f j ≤ 1) ∧
    ∀ H', Same H H' → Q (.int (cntF f t : Nat)) H'
section
variable {P : Program} {w : World} {K : PySem.W.Frag} {mg : Str → Option Value} {base : Heap} {a : Ad}
end
end Sb

namespace Sb
open PySem PySem.Spec PyProof.Rows L2 TL LamX NdefX
def spLaw (a : Ad) (K : PySem.W.Frag) : Sp := fun vs H Q _ => ∃ (sc : Addr) (ns : List Int), vs = [.ref sc] ∧ SqL K H sc (ns.map V.int) ∧ ns.length ≤ 63 ∧ Tabs (Ts a) H ∧ ∀ H', Q (.bl true) H'
theorem Rnd.told {x : Pl} (hr : Rnd x) (hx : x.Ok) : ∃ i n, Told (textS x) x i n := by
  obtain ⟨i, n, hc, hn⟩ := hr.ex
  exact ⟨i, n, ⟨loads_text hx, hx, hc, by omega⟩⟩
def sixS : List Str := ["pick", "put", "left", "right", "wait", "goto"]
def threeS : List Str := ["empty", "held", "blocked"]
def cntV (x : Pl) (num t : Nat) (k : Str) : V := .int (cntF (phiAt x (phiS num k)) t : Nat)
theorem take_get {α : Type} {l : List α} {j : Nat} {y : α} (h : l[j]? = some y) : l.take (j + 1) = l.take j ++ [y] := by
  rw [List.take_succ, h]; rfl
def rSumT (K : PySem.W.Frag) : List V → Hp → VK → Prop := fun vs H Q => ∃ (a : Addr) (ns : List Int), vs = [V.ref a] ∧ SqT K H a (ns.map V.int) ∧ Q (.int ns.sum) H
theorem cr_sumT {X : Cx} (hc : X.calm = true) : CallR X (.builtin "sum") (rSumT X.K) := by
  intro pins s σ H vs us Q I r h
  obtain ⟨a, ns, rfl, hs, q⟩ := h
  obtain ⟨its, rv, hl, _⟩ := I.tuple hs
  rw [Vals.ref1 r]
  have hi := rv.ints
  obtain ⟨xs, e⟩ := hi.allInts.items
  have hn : numsOf (intItems xs).toList = ns := by rw [← e]; exact hi.numsOf
  rw [nums_intItems] at hn
  obtain ⟨o, ho, hcl, n, hd⟩ := hl
  rw [e] at hd
  refine PySem.W.ktm_sumG (I.ok.hd hc) ⟨o, ho, hcl, n, hd⟩ fun h' tk t' hk => ?_
  rw [preSum_eq, List.take_of_length_le (by simp), hn]
  exact ⟨.int _, H, I.kept hk, ⟨_, rfl⟩, q⟩
theorem NowT.keepL {a : Ad} {d : Addr} {G H H' : Hp} {L : List Addr} (n : NowT a d G H) (k : KeepL L H H') (hL : ∀ b ∈ L, G b = none ∧ b ≠ d ∧ ∃ xs, H b = some (.lst xs)) : NowT a d G H' := by
  obtain ⟨ds, hd, hs⟩ := n.now.x
  refine ⟨⟨KeepL.data n.now.s (fun b hb => (hL b hb).1) k, n.now.o, ds, k d _ (fun z => (hL d z).2.1 rfl) hd, hs⟩, fun p hp => ?_, n.gt⟩
  obtain ⟨ps, h1, h2, h3⟩ := n.tb p hp
  refine ⟨ps, k _ _ (fun z => ?_) h1, h2, fun pos cv hcv => ?_⟩
  · obtain ⟨_, _, xs, e⟩ := hL _ z
    rw [h1] at e
    cases e
  · obtain ⟨c, ec, hc⟩ := h3 pos cv hcv
    refine ⟨c, ec, k _ _ (fun z => ?_) hc⟩
    obtain ⟨_, _, xs, e⟩ := hL _ z
    rw [hc] at e
    unfold CodeO at e
    cases e
section
variable {P : Program} {w : World} {K : PySem.W.Frag} {mg : Str → Option Value} {base : Heap} {a : Ad}
theorem ok_law (T : Txt K mg a) (TB : Tbl mg base a) : FnOk P w K mg base CX0 20 a.f_law a.d_law ["_law_script"] (spLaw a K) := by
  refine T.F_law.ok sc_law (fun vs H Q E h => ?_) (fun cdv A outer s H vs Q E hr h => ?_)
  · obtain ⟨sc, ns, rfl, _⟩ := h
    rfl
  · obtain ⟨sc, ns, rfl, hsc, hns, hTab, k⟩ := h
    refine ⟨_, (pss_cons (ps_set (i := 1) sc_law.nd rfl (Or.inl rfl) (pe_call (ok_l_random T) (hr.mono (by decide)) rfl T.m_l_random T.F_l_random.kp (b_l_random T) .nil pass0 (pa_cons (pv 0) (pa_cons pe_int pa_nil))))
      (pss_cons (ps_set (i := 2) sc_law.nd rfl (Or.inl rfl) (pe_call (ok_l_plan T) (hr.mono (by decide)) rfl T.m_l_plan T.F_l_plan.kp (b_l_plan T) .nil pass0 (pa_cons (pv 1) (pa_cons (pe_ix ix_list (pe_lst (pa_cons pe_int (pa_cons pe_int pa_nil))) (pe_call (ok_l_below T) (hr.mono (by decide)) rfl T.m_l_below T.F_l_below.kp (b_l_below T) .nil pass0 (pa_cons (pv 1) (pa_cons pe_int pa_nil))) (fun _ _ => rfl)) pa_nil))))
      (pss_cons (ps_asg (pe_tup (pa_cons (pe_call (ok_l_text T) (hr.mono (by decide)) rfl T.m_l_text T.F_l_text.kp (b_l_text T) .nil pass0 (pa_cons (pv 2) pa_nil)) (pa_cons (pe_op op_add pe_int (pe_call (ok_l_below T) (hr.mono (by decide)) rfl T.m_l_below T.F_l_below.kp (b_l_below T) .nil pass0 (pa_cons (pv 1) (pa_cons pe_int pa_nil)))) pa_nil))) (pg_tup (by rfl) (pgs_cons (pg_name (i := 3) sc_law.nd rfl (Or.inr rfl)) (pgs_cons (pg_name (i := 4) sc_law.nd rfl (Or.inl rfl)) pgs_nil))))
      (pss_cons (ps_asg (pe_tup (pa_cons (pe_callTy call_list_of (by rfl) T.z_list (by decide +kernel) (pa_cons (pe_ix ix_tup (pv 2) pe_int (fun _ _ => rfl)) pa_nil)) (pa_cons (pe_callTy call_list_of (by rfl) T.z_list (by decide +kernel) (pa_cons (pe_ix ix_tup (pv 2) pe_int (fun _ _ => rfl)) pa_nil)) (pa_cons (pe_lst (pa_cons pe_int (pa_cons pe_int pa_nil))) pa_nil)))) (pg_tup (by rfl) (pgs_cons (pg_name (i := 5) sc_law.nd rfl (Or.inl rfl)) (pgs_cons (pg_name (i := 6) sc_law.nd rfl (Or.inl rfl)) (pgs_cons (pg_name (i := 7) sc_law.nd rfl (Or.inr rfl)) pgs_nil)))))
      (pss_cons (ps_forJ rfl rfl rfl rfl (hr.mono (by decide)) (pjen_call (ok_traceJ T) (hr.mono (by decide)) rfl T.m_trace T.F_trace.kp (b_trace T) (pa_cons (pv 3) (pa_cons pe_int (pa_cons (pe_op op_sub (pv 4) pe_int) pa_nil)))) (pg_tup (by rfl) (pgs_cons (pg_name (i := 8) sc_law.nd rfl (Or.inr rfl)) (pgs_cons (pg_name (i := 9) sc_law.nd rfl (Or.inl rfl)) (pgs_cons (pg_name (i := 10) sc_law.nd rfl (Or.inl rfl)) pgs_nil)))) (pss_cons (ps_for PassesOwn.never rfl (pi_range1 (by rfl) T.z_range (pa_cons pe_int pa_nil)) (pg_name (i := 11) sc_law.nd rfl (Or.inr rfl)) (pss_cons (ps_set (i := 12) sc_law.nd rfl (Or.inl rfl) (pe_ix ix_tup (pe_tup (pa_cons (pv 9) (pa_cons (pv 10) pa_nil))) (pv 11) (fun _ _ => rfl)))
      (pss_cons (ps_if (pt_cmpR op_in_seq (pv 12) (pe_lst (pa_cons pe_str (pa_cons pe_str pa_nil))) rfl) (pss_one (ps_asg (pe_op op_add (pe_ix ix_list (pv 6) (pv 11) (fun _ _ => rfl)) (pe_ifExp (pt_cmpR op_eq (pv 12) pe_str (nomark _)) pe_int (pe_op op_sub pe_int pe_int))) (pg_sub (pv 6) (pv 11) set_list))) pss_nil)
      (pss_one (ps_if (pt_cmpR op_in_seq (pv 12) (pe_lst (pa_cons pe_str (pa_cons pe_str pa_nil))) rfl) (pss_cons (ps_set (i := 13) sc_law.nd rfl (Or.inl rfl) (pe_ifExp (pt_cmpR op_eq (pv 12) pe_str (nomark _)) pe_int (pe_op op_sub pe_int pe_int)))
      (pss_cons (ps_asg (pe_op op_add (pe_ix ix_list (pv 7) (pv 11) (fun _ _ => rfl)) (pv 13)) (pg_sub (pv 7) (pv 11) set_list))
      (pss_one (ps_asg (pe_op op_sub (pe_ix ix_list (pv 5) (pe_ix ix_list (pv 6) (pv 11) (fun _ _ => rfl)) (fun _ _ => rfl)) (pv 13)) (pg_sub (pv 5) (pe_ix ix_list (pv 6) (pv 11) (fun _ _ => rfl)) set_list))))) pss_nil)))))
      (pss_cons (ps_if (PW.pt (pw_or (pt_cmpR op_lt (pe_callB (cr_min rfl) (by rfl) T.z_min (by decide +kernel) (pa_cons (pv 5) pa_nil)) pe_int (nomark _)) (pw_or (pt_cmpR op_gt (pe_callB (cr_max rfl) (by rfl) T.z_max (by decide +kernel) (pa_cons (pv 5) pa_nil)) pe_int (nomark _)) (pw_or (pt_cmpR op_eq (pe_ix ix_list (pv 6) pe_int (fun _ _ => rfl)) (pe_ix ix_list (pv 6) pe_int (fun _ _ => rfl)) (nomark _)) (pw_or (pt_cmpR op_lt (pe_callB (cr_min rfl) (by rfl) T.z_min (by decide +kernel) (pa_cons (pv 7) pa_nil)) pe_int (nomark _)) (pw_or1 (pt_cmpR op_gt (pe_callB (cr_max rfl) (by rfl) T.z_max (by decide +kernel) (pa_cons (pv 7) pa_nil)) pe_int (nomark _)))))))) (pss_one (ps_ret pe_bl)) pss_nil)
      (pss_one (ps_if (PW.pt (pw_or (pt_cmpR op_lt (pe_callB (cr_min rfl) (by rfl) T.z_min (by decide +kernel) (pa_cons (pv 6) pa_nil)) pe_int (nomark _)) (pw_or1 (pt_cmpR op_ge (pe_callB (cr_max rfl) (by rfl) T.z_max (by decide +kernel) (pa_cons (pv 6) pa_nil)) (pe_callB call_len_seq (by rfl) T.z_len (by decide +kernel) (pa_cons (pv 5) pa_nil)) (nomark _))))) (pss_one (ps_ret pe_bl)) pss_nil)))))
      (pss_cons (ps_set (i := 14) sc_law.nd rfl (Or.inl rfl) (pe_op op_sub (pv 4) pe_int))
      (pss_cons (ps_if (PW.pt (pw_or (pt_cmpR (op_neD hr.units) (pe_call (ok_boxes T) (hr.mono (by decide)) rfl T.m_boxes T.F_boxes.kp (b_boxes T) .nil pass0 (pa_cons (pv 3) (pa_cons (pv 14) pa_nil))) (pv 5) (nomark _)) (pw_or1 (pt_cmpR (op_neD hr.units) (pe_call (ok_cells T) (hr.mono (by decide)) rfl T.m_cells T.F_cells.kp (b_cells T) .nil pass0 (pa_cons (pv 3) (pa_cons (pv 14) pa_nil))) (pe_callTy call_tuple_of (by rfl) T.z_tuple (by decide +kernel) (pa_cons (pv 6) pa_nil)) (nomark _))))) (pss_one (ps_ret pe_bl)) pss_nil)
      (pss_cons (ps_if (pt_cmpR (op_neD hr.units) (pe_call (ok_holding T) (hr.mono (by decide)) rfl T.m_holding T.F_holding.kp (b_holding T) .nil pass0 (pa_cons (pv 3) (pa_cons (pv 14) pa_nil))) (pe_lc (own := [("_law_number", 11)]) (g := gName 11) (tt := (tTest (tOp rEq (tOp (rIxL K) (tVar 7) (tVar 11)) (tC (.int 1))))) rfl sc_law.nd (pi_range1 (by rfl) T.z_range (pa_cons pe_int pa_nil)) (blkOk_by (own := [("_law_number", 11)]) (N := ["_law_script", "_law_d", "_law_plan_here", "_law_text_here", "_law_most", "_law_shelf", "_law_places", "_law_held", "_law_tick_here", "_law_first", "_law_second", "_law_number", "_law_word", "_law_change", "_law_last", "_law_many"]) (sc := (defScope s_law)) (by decide +kernel)) (fun _ _ _ _ _ => (pg_name (i := 11) sc_law.nd rfl (Or.inl rfl))) (fun _ _ _ _ _ => by exact pts_one (pt_cmpR op_eq (pe_ix ix_list (pv 7) (pv 11) (fun _ _ => rfl)) pe_int (nomark _))) (fun _ _ _ _ _ => by exact (pv 11))) (nomark _)) (pss_one (ps_ret pe_bl)) pss_nil)
      (pss_cons (ps_set (i := 8) sc_law.nd rfl (Or.inr rfl) (pe_call (ok_l_some_tick T) (hr.mono (by decide)) rfl T.m_l_some_tick T.F_l_some_tick.kp (b_l_some_tick T) .nil pass0 (pa_cons (pv 1) pa_nil)))
      (pss_cons (ps_if (pt_cmpR op_ne (pe_op op_add (pe_callB (cr_sum rfl) (by rfl) T.z_sum (by decide +kernel) (pa_cons (pe_call (ok_boxes T) (hr.mono (by decide)) rfl T.m_boxes T.F_boxes.kp (b_boxes T) .nil pass0 (pa_cons (pv 3) (pa_cons (pv 8) pa_nil))) pa_nil)) (pe_callB call_len_seq (by rfl) T.z_len (by decide +kernel) (pa_cons (pe_call (ok_holding T) (hr.mono (by decide)) rfl T.m_holding T.F_holding.kp (b_holding T) .nil pass0 (pa_cons (pv 3) (pa_cons (pv 8) pa_nil))) pa_nil))) (pe_callB (cr_sumT rfl) (by rfl) T.z_sum (by decide +kernel) (pa_cons (pe_ix ix_tup (pv 2) pe_int (fun _ _ => rfl)) pa_nil)) (nomark _)) (pss_one (ps_ret pe_bl)) pss_nil)
      (pss_cons (ps_for PassesOwn.never rfl (pi_range1 (by rfl) T.z_range (pa_cons pe_int pa_nil)) (pg_name (i := 11) sc_law.nd rfl (Or.inr rfl)) (pss_cons (ps_setLc (i := 15) (own := [("_law_word", 12)]) (g := gName 12) (tt := tYes) rfl sc_law.nd rfl rfl (sw_true rfl rfl rfl (by decide +kernel)) (pi_list (pe_lst (pa_cons pe_str (pa_cons pe_str (pa_cons pe_str (pa_cons pe_str (pa_cons pe_str (pa_cons pe_str pa_nil)))))))) (blkOk_by (own := [("_law_word", 12)]) (N := ["_law_script", "_law_d", "_law_plan_here", "_law_text_here", "_law_most", "_law_shelf", "_law_places", "_law_held", "_law_tick_here", "_law_first", "_law_second", "_law_number", "_law_word", "_law_change", "_law_last", "_law_many"]) (sc := (defScope s_law)) (by decide +kernel)) (fun _ _ _ _ _ => (pg_name (i := 12) sc_law.nd rfl (Or.inl rfl))) (fun _ _ _ _ _ => pts_nil) (fun _ _ _ _ _ => by exact (pe_call (ok_count_done T TB) (hr.mono (by decide)) rfl T.m_count_done T.F_count_done.kp (b_count_done T) .nil pass0 (pa_cons (pv 3) (pa_cons (pv 11) (pa_cons (pv 12) (pa_cons (pv 8) pa_nil)))))))
      (pss_cons (ps_set (i := 15) sc_law.nd rfl (Or.inl rfl) (pe_op op_cat (pv 15) (pe_lc (own := [("_law_word", 12)]) (g := gName 12) (tt := tYes) rfl sc_law.nd (pi_list (pe_lst (pa_cons pe_str (pa_cons pe_str (pa_cons pe_str pa_nil))))) (blkOk_by (own := [("_law_word", 12)]) (N := ["_law_script", "_law_d", "_law_plan_here", "_law_text_here", "_law_most", "_law_shelf", "_law_places", "_law_held", "_law_tick_here", "_law_first", "_law_second", "_law_number", "_law_word", "_law_change", "_law_last", "_law_many"]) (sc := (defScope s_law)) (by decide +kernel)) (fun _ _ _ _ _ => (pg_name (i := 12) sc_law.nd rfl (Or.inl rfl))) (fun _ _ _ _ _ => pts_nil) (fun _ _ _ _ _ => by exact (pe_call (ok_count_done T TB) (hr.mono (by decide)) rfl T.m_count_done T.F_count_done.kp (b_count_done T) .nil pass0 (pa_cons (pv 3) (pa_cons (pv 11) (pa_cons (pv 12) (pa_cons (pv 8) pa_nil)))))))))
      (pss_one (ps_if (PW.pt (pw_or (pt_cmpR op_ne (pe_callB (cr_sum rfl) (by rfl) T.z_sum (by decide +kernel) (pa_cons (pv 15) pa_nil)) (pv 8) (nomark _)) (pw_or1 (pt_not (pt_chain op_le op_le pe_int (pe_op op_sub (pe_ix ix_list (pv 15) pe_int (fun _ _ => rfl)) (pe_ix ix_list (pv 15) pe_int (fun _ _ => rfl))) pe_int))))) (pss_one (ps_ret pe_bl)) pss_nil)))))
      (pss_one (ps_ret pe_bl))))))))))))), ?_⟩
    refine ⟨_, rfl, sc, ns, 33, rfl, hsc, hns, by decide, fun H1 d ds s1 d0 hd hsrc => ?_⟩
    have NT : NowT a d (fun _ => none) H1 := ⟨⟨(fun _ _ e => nomatch e), rfl, ds, hd, hsrc⟩, hTab.ext s1, fun _ _ => rfl⟩
    -- the plan
    refine ⟨_, rfl, (by show 2 ≤ sizeLine; decide), fun q hq => ?_⟩
    have B3 := NT.now.at.new hq (.lst [.int 6, .int 14])
    refine ⟨_, rfl, draw_go B3 (by decide) (by decide) fun H4 m B4 K4 hm => ?_⟩
    obtain ⟨most, hmost, m1, m20⟩ : ∃ most : Nat, ([V.int 6, V.int 14] : List V)[m]? = some (.int most) ∧ 1 ≤ most ∧ most ≤ 20 := by
      match m, hm with
      | 0, _ => exact ⟨6, rfl, by decide, by decide⟩
      | 1, _ => exact ⟨14, rfl, by decide, by decide⟩
      | m + 2, h => exact absurd h (by omega)
    refine ⟨q, _, _, .int most, rfl, rfl, B4.now.s.seq (SqL.of upd_same), atI_nat hmost, draw_plan B4 m1 m20 fun G5 H5 v x B5 B5' hx hrn hx8 hD _ _ => ?_⟩
    obtain ⟨ci, cn, told⟩ := hrn.told hx
    -- the text, most
    refine ⟨_, rfl, ⟨⟨G5, v, x, rfl, B5.now.s, hD, hx, fun H6 s6 => ?_⟩⟩⟩
    have B6 := B5.pure (Ext.ofSame B5.now.s s6) s6
    refine ⟨_, rfl, draw_go B6 (by decide) (by decide) fun H7 mb B7 K7 hmb => ⟨_, _, rfl, rfl, ?_⟩⟩
    refine ⟨(by show 2 ≤ sizeLine; decide), fun tq htq => ?_⟩
    dsimp only at htq ⊢
    have em : (1 : Int) + (mb : Int) = ((1 + mb : Nat) : Int) := by omega
    rw [em]
    obtain ⟨ms, ems, hms1, hms2⟩ : ∃ ms, 1 + mb = ms ∧ 1 ≤ ms ∧ ms ≤ 120 := ⟨_, rfl, by omega, by omega⟩
    rw [ems]
    have B8 := B7.lay htq (.tup [.str (textS x), .int ms])
    refine ⟨tq, _, rfl, SqT.of upd_same, rfl, _, _, rfl, _, _, rfl, rfl, ?_⟩
    revert B8
    generalize upd H7 tq (.tup [.str (textS x), .int ms]) = H8
    intro B8
    -- shelf, places, held
    obtain ⟨pv', ps', rfl, hpv, hps⟩ := Dp.tup_inv hD
    obtain ⟨v1, r1, rfl, e1, hps⟩ := DpAll.cons_inv hps
    obtain ⟨v2, r2, rfl, e2, hps⟩ := DpAll.cons_inv hps
    obtain ⟨v3, r3, rfl, e3, hps⟩ := DpAll.cons_inv hps
    cases DpAll.nil_inv hps
    obtain ⟨u1, l1, rfl, hu1, hl1⟩ := Dp.tup_inv e1
    obtain ⟨u2, l2, rfl, hu2, hl2⟩ := Dp.tup_inv e2
    rw [nats_inv' (l := x.shelf) hl1] at hu1
    rw [nats_inv' (l := [x.a, x.b]) hl2] at hu2
    have s8 := B8.now.s
    refine ⟨_, rfl, pv', _, _, .ref u1, rfl, rfl, Same.seqT s8 hpv, at_of (j := 0) rfl rfl, u1, _, rfl, .inr (Same.seqT s8 hu1), fun lsh hlsh => ?_⟩
    have B9 := B8.lay hlsh (.lst (nV x.shelf))
    have s9 := B9.now.s
    refine ⟨_, rfl, pv', _, _, .ref u2, rfl, rfl, Same.seqT s9 hpv, at_of (j := 1) rfl rfl, u2, _, rfl, .inr (Same.seqT s9 hu2), fun lpl hlpl => ?_⟩
    have B10 := B9.lay hlpl (.lst (nV [x.a, x.b]))
    refine ⟨(by show 2 ≤ sizeLine; decide), fun lhe hlhe => ?_⟩
    have B11 := B10.lay hlhe (.lst [.int 0, .int 0])
    refine ⟨(by show 3 ≤ sizeLine; decide), fun tq2 htq2 => ?_⟩
    have B12 := B11.lay htq2 (.tup [.ref lsh, .ref lpl, .ref lhe])
    refine ⟨tq2, _, rfl, SqT.of upd_same, rfl, _, _, rfl, _, _, rfl, _, _, rfl, rfl, ?_⟩
    have L1 : lsh ≠ lpl := ne_of_none upd_same hlpl
    have hshA : (upd (upd H8 lsh (.lst (nV x.shelf))) lpl (.lst (nV [x.a, x.b]))) lsh = some (.lst (nV x.shelf)) := by rw [upd_ne L1, upd_same]
    have hplA : (upd (upd H8 lsh (.lst (nV x.shelf))) lpl (.lst (nV [x.a, x.b]))) lpl = some (.lst (nV [x.a, x.b])) := upd_same
    have L2' : lsh ≠ lhe := ne_of_none hshA hlhe
    have L3 : lpl ≠ lhe := ne_of_none hplA hlhe
    have tri : Tri lsh lpl lhe (sitAt x 0) (upd (upd (upd (upd H8 lsh (.lst (nV x.shelf))) lpl (.lst (nV [x.a, x.b]))) lhe (.lst [.int 0, .int 0])) tq2 (.tup [.ref lsh, .ref lpl, .ref lhe])) :=
      Tri.lay ⟨by rw [upd_ne L2']; exact hshA, by rw [upd_ne L3]; exact hplA, upd_same⟩ htq2
    have gsh := B8.ext.new_out hlsh
    have gpl := B9.ext.new_out hlpl
    have ghe := B10.ext.new_out hlhe
    have dsh := B8.ne hlsh
    have dpl := B9.ne hlpl
    have dhe := B10.ne hlhe
    revert B12 tri
    generalize (upd (upd (upd (upd H8 lsh (.lst (nV x.shelf))) lpl (.lst (nV [x.a, x.b]))) lhe (.lst [.int 0, .int 0])) tq2 (.tup [.ref lsh, .ref lpl, .ref lhe])) = H0
    intro B12 tri
    have hL : ∀ b ∈ [lsh, lpl, lhe], G5 b = none ∧ ∃ o, H0 b = some o := fun b hb => by
      simp only [List.mem_cons, List.not_mem_nil, or_false] at hb
      rcases hb with rfl | rfl | rfl
      · exact ⟨gsh, _, tri.sh⟩
      · exact ⟨gpl, _, tri.cs⟩
      · exact ⟨ghe, _, tri.hs⟩
    have N12 := NT.of_at B12
    dsimp only [gName, List.set_cons_succ, List.set_cons_zero]
    refine seq_restσ (fun σ H' => ∃ (v8 v9 v10 v11 v12 v13 : Option V), σ = [some (.ref sc), some (.ref d), some (.ref pv'), some (.str (textS x)), some (.int ms), some (.ref lsh), some (.ref lpl), some (.ref lhe), v8, v9, v10, v11, v12, v13, none, none] ∧ KeepL [lsh, lpl, lhe] H0 H' ∧ Tri lsh lpl lhe (sitAt x ms) H') (fun σ H' hI => ?rest) (fun rest => ?main)
    case main =>
      refine ⟨_, rfl, _, rfl, _, _, rfl, rfl, rfl, ⟨⟨textS x, G5, x, ci, cn, 0, ms, [lsh, lpl, lhe], fun j τ H' => τ.1 = j ∧ ∃ (v8 v9 v10 v11 v12 v13 : Option V), τ.2 = [some (.ref sc), some (.ref d), some (.ref pv'), some (.str (textS x)), some (.int ms), some (.ref lsh), some (.ref lpl), some (.ref lhe), v8, v9, v10, v11, v12, v13, none, none] ∧ KeepL [lsh, lpl, lhe] H0 H' ∧ Tri lsh lpl lhe (sitAt x j) H', ?_, told, by omega, by omega, by omega, B12.now.s, hL, ?_, ?_, ?_, ?_⟩⟩⟩
      · show [V.str (textS x), V.int 0, V.int ((ms : Int) - 1)] = [V.str (textS x), V.int 0, V.int (0 + (ms : Int) - 1)]
        rw [Int.zero_add]
      · exact fun H' s' => ⟨rfl, _, _, _, _, _, _, rfl, KeepL.same s', tri.same s'⟩
      · exact fun j τ H' h => h.1
      · rintro j ⟨τ1, τ2⟩ H' p hj ⟨h1, v8, v9, v10, v11, v12, v13, h2, kp, tr⟩ hp kk hkk
        dsimp only at h1 h2
        subst h1 h2
        rw [Nat.zero_add]
        refine ⟨p, _, rfl, SqT.of upd_same, rfl, _, _, rfl, _, _, rfl, _, _, rfl, rfl, ?_⟩
        have kp1 : KeepL [lsh, lpl, lhe] H0 (upd H' p (.tup (rowV x τ1))) := kp.trans (KeepL.same (same_new hp))
        have tr1 := tr.lay (o := .tup (rowV x τ1)) hp
        have hkk' := fun τ' H'' (z : KeepL [lsh, lpl, lhe] (upd H' p (.tup (rowV x τ1))) H'') q => hkk τ' H'' (by rw [Nat.zero_add]; exact z) q
        revert kp1 tr1 hkk'
        generalize upd H' p (.tup (rowV x τ1)) = Hb
        intro kp1 tr1 hkk'
        dsimp only [gName, List.set_cons_succ, List.set_cons_zero]
        refine seq_restσ (fun σ H2 => ∃ (v11 v12 v13 : Option V), σ = [some (.ref sc), some (.ref d), some (.ref pv'), some (.str (textS x)), some (.int ms), some (.ref lsh), some (.ref lpl), some (.ref lhe), some (.int (τ1 : Nat)), some (.str (doS (wordsAt x τ1).1)), some (.str (doS (wordsAt x τ1).2)), v11, v12, v13, none, none] ∧ KeepL [lsh, lpl, lhe] Hb H2 ∧ Tri lsh lpl lhe (sitAt x (τ1 + 1)) H2) (fun σ H2 hI => ?rest1) (fun rest1 => ?main1)
        case main1 =>
          refine ⟨2, rfl, by decide, by decide, for_range (lo := 0) (n := 2) (fun i σ H2 => ∃ (v11 v12 v13 : Option V), σ = [some (.ref sc), some (.ref d), some (.ref pv'), some (.str (textS x)), some (.int ms), some (.ref lsh), some (.ref lpl), some (.ref lhe), some (.int (τ1 : Nat)), some (.str (doS (wordsAt x τ1).1)), some (.str (doS (wordsAt x τ1).2)), v11, v12, v13, none, none] ∧ KeepL [lsh, lpl, lhe] Hb H2 ∧ Tri lsh lpl lhe (midP x τ1 i) H2) ⟨_, _, _, rfl, KeepL.refl, tr1⟩ ?_ fun σ H2 h => rest1 _ _ h⟩
          rintro i σ H2 hi ⟨v11, v12, v13, rfl, kp2, tr2⟩
          have en : (0 : Int) + (i : Int) = ((i : Nat) : Int) := by omega
          rw [en]
          have so := mid_ok hx τ1 i
          have ef := mid_eff hx τ1 hi
          have wle := wdN_le hx τ1 i
          refine ⟨_, rfl, _, rfl, (by show 2 ≤ sizeLine; decide), fun q hq => ?_⟩
          have kp3 := kp2.trans (KeepL.same (same_new (o := .tup [.str (doS (wordsAt x τ1).1), .str (doS (wordsAt x τ1).2)]) hq))
          have tr3 := tr2.lay (o := .tup [.str (doS (wordsAt x τ1).1), .str (doS (wordsAt x τ1).2)]) hq
          refine ⟨_, rfl, q, _, _, _, rfl, rfl, SqT.of upd_same, at_of (j := i) rfl (wd_at hi), ?_⟩
          revert kp3 tr3
          generalize upd H2 q (.tup [.str (doS (wordsAt x τ1).1), .str (doS (wordsAt x τ1).2)]) = H3
          intro kp3 tr3
          have nxt : ∀ (H4 : Hp) (v13' : Option V), KeepL [lsh, lpl, lhe] Hb H4 → Tri lsh lpl lhe (midP x τ1 (i + 1)) H4 → ∃ (v11 v12 v13 : Option V), [some (.ref sc), some (.ref d), some (.ref pv'), some (.str (textS x)), some (.int ms), some (.ref lsh), some (.ref lpl), some (.ref lhe), some (.int (τ1 : Nat)), some (.str (doS (wordsAt x τ1).1)), some (.str (doS (wordsAt x τ1).2)), some (.int (i : Nat)), some (.str (doS (wdN (wordsAt x τ1) i))), v13', none, none] = [some (.ref sc), some (.ref d), some (.ref pv'), some (.str (textS x)), some (.int ms), some (.ref lsh), some (.ref lpl), some (.ref lhe), some (.int (τ1 : Nat)), some (.str (doS (wordsAt x τ1).1)), some (.str (doS (wordsAt x τ1).2)), v11, v12, v13, none, none] ∧ KeepL [lsh, lpl, lhe] Hb H4 ∧ Tri lsh lpl lhe (midP x τ1 (i + 1)) H4 := fun H4 v13' a b => ⟨_, _, _, rfl, a, b⟩
          revert ef wle nxt
          generalize wdN (wordsAt x τ1) i = ww
          intro ef wle nxt
          refine ⟨_, rfl, (by show 2 ≤ sizeLine; decide), fun q1 hq1 => ⟨q1, _, rfl, .inl (SqL.of upd_same), rfl, rfl, _, rfl, ?_⟩⟩
          have kp4 := kp3.trans (KeepL.same (same_new (o := .lst [.str "left", .str "right"]) hq1))
          have tr4 := tr3.lay (o := .lst [.str "left", .str "right"]) hq1
          revert kp4 tr4
          generalize upd H3 q1 (.lst [.str "left", .str "right"]) = H4
          intro kp4 tr4
          have ic : i < (midP x τ1 i).cs.length := by rw [so.c2]; exact hi
          have ih : i < (midP x τ1 i).hs.length := by rw [so.h2]; exact hi
          have icl := so.cl i hi
          cases ef with
          | left c1 c2 c3 c4 =>
            refine ite_t (by decide +kernel) ?_
            refine ⟨_, rfl, _, rfl, lpl, _, _, _, rfl, rfl, SqL.of tr4.cs, at_of (j := i) rfl (nV_at ic), ?_⟩
            refine ⟨_, rfl, rfl, _, rfl, ite_f (by decide +kernel) ⟨_, _, rfl, rfl, _, _, rfl, rfl, ?_⟩⟩
            refine ⟨_, rfl, _, rfl, lpl, _, _, i, rfl, rfl, tr4.cs, ixN_nat (by rw [nV_len]; exact ic), ?_⟩
            have kp5 := kp4.trans (KeepL.put (L := [lsh, lpl, lhe]) (b := lpl) (o := .lst ((nV (midP x τ1 i).cs).set i (.int ((((midP x τ1 i).cs.getD i 0 : Nat) : Int) + (0 - 1))))) (by simp))
            have tr5 : Tri lsh lpl lhe (midP x τ1 (i + 1)) (upd H4 lpl (.lst ((nV (midP x τ1 i).cs).set i (.int ((((midP x τ1 i).cs.getD i 0 : Nat) : Int) + (0 - 1)))))) := tr4.setB L1 L3 c4 c3 (by
              rw [c2, ← nV_set]
              exact congrArg (fun z : Int => List.set _ _ (V.int z)) (by omega))
            revert kp5 tr5
            generalize upd H4 lpl (.lst ((nV (midP x τ1 i).cs).set i (.int ((((midP x τ1 i).cs.getD i 0 : Nat) : Int) + (0 - 1))))) = H5'
            intro kp5 tr5
            refine ⟨_, rfl, (by show 2 ≤ sizeLine; decide), fun q2 hq2 => ⟨q2, _, rfl, .inl (SqL.of upd_same), rfl, rfl, _, rfl, ite_f (by decide +kernel) (nxt _ _ (kp5.trans (KeepL.same (same_new hq2))) (tr5.lay hq2))⟩⟩
          | right c2 c3 c4 =>
            refine ite_t (by decide +kernel) ?_
            refine ⟨_, rfl, _, rfl, lpl, _, _, _, rfl, rfl, SqL.of tr4.cs, at_of (j := i) rfl (nV_at ic), ?_⟩
            refine ⟨_, rfl, rfl, _, rfl, ite_t (by decide +kernel) ⟨_, _, rfl, rfl, ?_⟩⟩
            refine ⟨_, rfl, _, rfl, lpl, _, _, i, rfl, rfl, tr4.cs, ixN_nat (by rw [nV_len]; exact ic), ?_⟩
            have kp5 := kp4.trans (KeepL.put (L := [lsh, lpl, lhe]) (b := lpl) (o := .lst ((nV (midP x τ1 i).cs).set i (.int ((((midP x τ1 i).cs.getD i 0 : Nat) : Int) + 1)))) (by simp))
            have tr5 : Tri lsh lpl lhe (midP x τ1 (i + 1)) (upd H4 lpl (.lst ((nV (midP x τ1 i).cs).set i (.int ((((midP x τ1 i).cs.getD i 0 : Nat) : Int) + 1))))) := tr4.setB L1 L3 c4 c3 (by
              rw [c2, ← nV_set]
              exact congrArg (fun z : Int => List.set _ _ (V.int z)) (by omega))
            revert kp5 tr5
            generalize upd H4 lpl (.lst ((nV (midP x τ1 i).cs).set i (.int ((((midP x τ1 i).cs.getD i 0 : Nat) : Int) + 1)))) = H5'
            intro kp5 tr5
            refine ⟨_, rfl, (by show 2 ≤ sizeLine; decide), fun q2 hq2 => ⟨q2, _, rfl, .inl (SqL.of upd_same), rfl, rfl, _, rfl, ite_f (by decide +kernel) (nxt _ _ (kp5.trans (KeepL.same (same_new hq2))) (tr5.lay hq2))⟩⟩
          | pick c1 c2 c3 c4 c5 =>
            refine ite_f (by decide +kernel) ?_
            refine ⟨_, rfl, (by show 2 ≤ sizeLine; decide), fun q2 hq2 => ⟨q2, _, rfl, .inl (SqL.of upd_same), rfl, rfl, _, rfl, ite_t (by decide +kernel) ?_⟩⟩
            have kp5 := kp4.trans (KeepL.same (same_new (o := .lst [.str "pick", .str "put"]) hq2))
            have tr5 := tr4.lay (o := .lst [.str "pick", .str "put"]) hq2
            revert kp5 tr5
            generalize upd H4 q2 (.lst [.str "pick", .str "put"]) = H5'
            intro kp5 tr5
            refine ⟨_, rfl, rfl, _, rfl, ite_t (by decide +kernel) ?_⟩
            have kp6 := kp5.trans (KeepL.put (L := [lsh, lpl, lhe]) (b := lhe) (o := .lst ((hV (midP x τ1 i).hs).set i (.int (((((midP x τ1 i).hs.getD i false).toNat : Nat) : Int) + 1)))) (by simp))
            have tcs : (upd H5' lhe (.lst ((hV (midP x τ1 i).hs).set i (.int (((((midP x τ1 i).hs.getD i false).toNat : Nat) : Int) + 1))))) lpl = some (.lst (nV (midP x τ1 i).cs)) := by rw [upd_ne L3]; exact tr5.cs
            have tsh : (upd H5' lhe (.lst ((hV (midP x τ1 i).hs).set i (.int (((((midP x τ1 i).hs.getD i false).toNat : Nat) : Int) + 1))))) lsh = some (.lst (nV (midP x τ1 i).sh)) := by rw [upd_ne L2']; exact tr5.sh
            refine ⟨_, rfl, _, rfl, lhe, _, _, _, rfl, rfl, SqL.of tr5.hs, at_of (j := i) rfl (hV_at ih), _, rfl, _, _, rfl, rfl, _, rfl, _, rfl, lhe, _, _, i, rfl, rfl, tr5.hs, ixN_nat (by rw [hV_len]; exact ih), ?_⟩
            refine ⟨_, rfl, _, rfl, _, rfl, lpl, _, _, _, rfl, rfl, SqL.of tcs, at_of (j := i) rfl (nV_at ic), lsh, _, _, _, rfl, rfl, SqL.of tsh, at_of (j := (midP x τ1 i).cs.getD i 0) rfl (nV_at icl), _, rfl, _, _, rfl, rfl, _, rfl, _, rfl, _, rfl, lpl, _, _, _, rfl, rfl, SqL.of tcs, at_of (j := i) rfl (nV_at ic), lsh, _, _, (midP x τ1 i).cs.getD i 0, rfl, rfl, tsh, ixN_nat (by rw [nV_len]; exact icl), ?_⟩
            exact nxt _ _ (kp6.trans (KeepL.put (L := [lsh, lpl, lhe]) (b := lsh) (by simp))) (tr5.setAC L1 L2' L3 c1 (by
              rw [c5, ← nV_set]
              exact congrArg (fun z : Int => List.set _ _ (V.int z)) (by omega)) (by
              rw [c3, ← hV_set, c2]
              rfl))
          | put c1 c2 c3 c4 =>
            refine ite_f (by decide +kernel) ?_
            refine ⟨_, rfl, (by show 2 ≤ sizeLine; decide), fun q2 hq2 => ⟨q2, _, rfl, .inl (SqL.of upd_same), rfl, rfl, _, rfl, ite_t (by decide +kernel) ?_⟩⟩
            have kp5 := kp4.trans (KeepL.same (same_new (o := .lst [.str "pick", .str "put"]) hq2))
            have tr5 := tr4.lay (o := .lst [.str "pick", .str "put"]) hq2
            revert kp5 tr5
            generalize upd H4 q2 (.lst [.str "pick", .str "put"]) = H5'
            intro kp5 tr5
            refine ⟨_, rfl, rfl, _, rfl, ite_f (by decide +kernel) ⟨_, _, rfl, rfl, ?_⟩⟩
            have kp6 := kp5.trans (KeepL.put (L := [lsh, lpl, lhe]) (b := lhe) (o := .lst ((hV (midP x τ1 i).hs).set i (.int (((((midP x τ1 i).hs.getD i false).toNat : Nat) : Int) + (0 - 1))))) (by simp))
            have tcs : (upd H5' lhe (.lst ((hV (midP x τ1 i).hs).set i (.int (((((midP x τ1 i).hs.getD i false).toNat : Nat) : Int) + (0 - 1)))))) lpl = some (.lst (nV (midP x τ1 i).cs)) := by rw [upd_ne L3]; exact tr5.cs
            have tsh : (upd H5' lhe (.lst ((hV (midP x τ1 i).hs).set i (.int (((((midP x τ1 i).hs.getD i false).toNat : Nat) : Int) + (0 - 1)))))) lsh = some (.lst (nV (midP x τ1 i).sh)) := by rw [upd_ne L2']; exact tr5.sh
            refine ⟨_, rfl, _, rfl, lhe, _, _, _, rfl, rfl, SqL.of tr5.hs, at_of (j := i) rfl (hV_at ih), _, rfl, _, _, rfl, rfl, _, rfl, _, rfl, lhe, _, _, i, rfl, rfl, tr5.hs, ixN_nat (by rw [hV_len]; exact ih), ?_⟩
            refine ⟨_, rfl, _, rfl, _, rfl, lpl, _, _, _, rfl, rfl, SqL.of tcs, at_of (j := i) rfl (nV_at ic), lsh, _, _, _, rfl, rfl, SqL.of tsh, at_of (j := (midP x τ1 i).cs.getD i 0) rfl (nV_at icl), _, rfl, _, _, rfl, rfl, _, rfl, _, rfl, _, rfl, lpl, _, _, _, rfl, rfl, SqL.of tcs, at_of (j := i) rfl (nV_at ic), lsh, _, _, (midP x τ1 i).cs.getD i 0, rfl, rfl, tsh, ixN_nat (by rw [nV_len]; exact icl), ?_⟩
            exact nxt _ _ (kp6.trans (KeepL.put (L := [lsh, lpl, lhe]) (b := lsh) (by simp))) (tr5.setAC L1 L2' L3 c1 (by
              rw [c4, ← nV_set]
              exact congrArg (fun z : Int => List.set _ _ (V.int z)) (by omega)) (by
              rw [c3, ← hV_set, c2]
              rfl))
          | none _ c1 c2 c3 c4 c5 =>
            refine ite_f (in_none c1 c2).1 ?_
            refine ⟨_, rfl, (by show 2 ≤ sizeLine; decide), fun q2 hq2 => ⟨q2, _, rfl, .inl (SqL.of upd_same), rfl, rfl, _, rfl, ite_f (in_none c1 c2).2 (nxt _ _ (kp4.trans (KeepL.same (same_new hq2))) ((tr4.cast c3 c4 c5).lay hq2))⟩⟩
        case rest1 =>
          obtain ⟨v11, v12, v13, rfl, kp2, tr2⟩ := hI
          have so := sitAt_ok hx (τ1 + 1)
          have hsh := tr2.sh
          have hcs := tr2.cs
          have hhs := tr2.hs
          obtain ⟨pa, pb, ecs, ha, hb, hne⟩ := so.places
          rw [nV_int] at hsh
          rw [hV_int] at hhs
          have hhl := so.h2
          refine ⟨_, rfl, lsh, _, rfl, SqL.of hsh, by rw [List.length_map, so.len]; have := hx.c3; omega, fun mn mn1 _ => ⟨_, _, rfl, rfl, _, rfl, ite_f (decide_eq_false ?_) ?_⟩⟩
          · obtain ⟨n, _, rfl⟩ := List.mem_map.mp mn1
            omega
          refine ⟨_, rfl, lsh, _, rfl, SqL.of hsh, by rw [List.length_map, so.len]; have := hx.c3; omega, fun mx mx1 _ => ⟨_, _, rfl, rfl, _, rfl, ite_f (decide_eq_false ?_) ?_⟩⟩
          · obtain ⟨n, hn, rfl⟩ := List.mem_map.mp mx1
            have := so.b3 n hn
            omega
          rw [ecs] at hcs
          refine ⟨_, rfl, lpl, _, _, .int (pa : Nat), rfl, rfl, SqL.of hcs, at_of (j := 0) rfl rfl, _, rfl, lpl, _, _, .int (pb : Nat), rfl, rfl, SqL.of hcs, at_of (j := 1) rfl rfl, rfl, _, rfl, ite_f (decide_eq_false fun z => ?_) ?_⟩
          · have : (pa : Int) = (pb : Int) := by injection z
            omega
          refine ⟨_, rfl, lhe, _, rfl, SqL.of hhs, by rw [List.length_map, hhl]; decide, fun mn mn1 _ => ⟨_, _, rfl, rfl, _, rfl, ite_f (decide_eq_false ?_) ?_⟩⟩
          · obtain ⟨n, _, rfl⟩ := List.mem_map.mp mn1
            omega
          refine ⟨_, rfl, lhe, _, rfl, SqL.of hhs, by rw [List.length_map, hhl]; decide, fun mx mx1 _ => ⟨_, _, rfl, rfl, _, rfl, ite_f (decide_eq_false ?_) ?_⟩⟩
          · obtain ⟨n, hn, rfl⟩ := List.mem_map.mp mx1
            cases n <;> decide
          have hcs' : H2 lpl = some (.lst ([(pa : Int), (pb : Int)].map V.int)) := hcs
          refine ⟨_, rfl, lpl, _, rfl, SqL.of hcs', (by show 0 < 2; decide), fun mn mn1 _ => ⟨_, _, rfl, rfl, _, rfl, ite_f (decide_eq_false ?_) ?_⟩⟩
          · simp only [List.mem_cons, List.not_mem_nil, or_false] at mn1
            omega
          refine ⟨_, rfl, lpl, _, rfl, SqL.of hcs', (by show 0 < 2; decide), fun mx mx1 _ => ⟨_, rfl, lsh, _, rfl, .inl (SqL.of hsh), _, _, rfl, rfl, _, rfl, ite_f (decide_eq_false ?_) ?_⟩⟩
          · simp only [List.mem_cons, List.not_mem_nil, or_false] at mx1
            rw [List.length_map, List.length_map, so.len]
            omega
          exact hkk' _ _ kp2 ⟨rfl, _, _, _, _, _, _, rfl, kp1.trans kp2, tr2⟩
      · rintro ⟨τ1, τ2⟩ H' ⟨h1, v8, v9, v10, v11, v12, v13, h2, kp, tr⟩
        dsimp only at h1 h2
        subst h1 h2
        exact rest _ _ ⟨v8, v9, v10, v11, v12, v13, rfl, kp, tr⟩
    case rest =>
      obtain ⟨v8, v9, v10, v11, v12, v13, rfl, kp, tr⟩ := hI
      have NR : NowT a d G5 H' := N12.keepL kp fun b hb => by
        simp only [List.mem_cons, List.not_mem_nil, or_false] at hb
        rcases hb with rfl | rfl | rfl
        · exact ⟨gsh, dsh, _, tri.sh⟩
        · exact ⟨gpl, dpl, _, tri.cs⟩
        · exact ⟨ghe, dhe, _, tri.hs⟩
      refine ⟨_, rfl, _, _, rfl, rfl, ?_⟩
      have el : (ms : Int) - 1 = ((ms - 1 : Nat) : Int) := by omega
      dsimp only
      rw [el]
      have E1 := NR.now.at
      have so := sitAt_ok hx ms
      have lsy := (lay_nats (n := 1) (sitAt x ms).sh)
      have lcy := (lay_natsT (n := 1) (sitAt x ms).cs)
      have lhy := (lay_nats (n := 1) (holdL (sitAt x ms).hs))
      have em1 : ms - 1 + 1 = ms := by omega
      -- boxes, cells
      refine ⟨_, rfl, _, rfl, ⟨⟨textS x, G5, x, ci, cn, ms - 1, rfl, told, by omega, E1.now.s, fun G6 H6 p6 pt6 hp6 => ?_⟩⟩⟩
      rw [em1]
      have E2 := (E1.pure pt6.ext pt6.sm).lay hp6 (.lst (nV (sitAt x ms).sh))
      have t2 := (tr.same pt6.sm).lay (o := .lst (nV (sitAt x ms).sh)) hp6
      have hp62 : (upd H6 p6 (.lst (nV (sitAt x ms).sh))) p6 = some (.lst (nV (sitAt x ms).sh)) := upd_same
      revert E2 t2 hp62
      generalize upd H6 p6 (.lst (nV (sitAt x ms).sh)) = H7'
      intro E2 t2 hp62
      refine ⟨_, rfl, natsD (sitAt x ms).sh, natsD (sitAt x ms).sh, .lst (SqL.of hp62) (nats_D' _), .lst (SqL.of t2.sh) (nats_D' _), lsy.shaped (by decide), lsy.shaped (by decide), _, rfl, ite_f (by rw [SeqAt.eqv_refl _ lsy.lay]; rfl) ?_⟩
      refine ⟨_, rfl, _, rfl, ⟨⟨textS x, G6, x, ci, cn, ms - 1, rfl, told, by omega, E2.now.s, fun G7 H8' cv x7 s7 d7 => ?_⟩⟩⟩
      rw [em1] at d7
      have E3 := E2.pure x7 s7
      have t3 := t2.same s7
      refine ⟨_, rfl, lpl, _, rfl, .inl ⟨SqL.of t3.cs, fun tc htc => ?_⟩⟩
      have E4 := E3.lay htc (.tup (nV (sitAt x ms).cs))
      have t4 := t3.lay (o := .tup (nV (sitAt x ms).cs)) htc
      refine ⟨natsT (sitAt x ms).cs, natsT (sitAt x ms).cs, Dp.mono E4.now.s _ _ d7, .tup (SqT.of upd_same) (nats_D' _), lcy.shapedT (by decide), lcy.shapedT (by decide), _, rfl, ite_f (by rw [SeqAt.eqv_refl _ lcy.lay]; rfl) ?_⟩
      revert E4 t4
      generalize upd H8' tc (.tup (nV (sitAt x ms).cs)) = H9'
      intro E4 t4
      -- holding
      refine ⟨_, rfl, _, rfl, ⟨⟨textS x, G7, x, ci, cn, ms - 1, rfl, told, by omega, E4.now.s, fun G8 H10 hv x8 s8' ⟨p8, e8, hp8⟩ => ?_⟩⟩⟩
      subst e8
      rw [em1] at hp8
      have E5 := E4.pure x8 s8'
      have t5 := t4.same s8'
      refine ⟨2, rfl, by decide, by decide, fun D hD => ?_⟩
      have D0 : H' D = none := E5.ext.k _ hD
      have DG : G8 D = none := Same.free E5.now.s hD
      have Dd : D ≠ d := E5.ne hD
      refine lc_range (lo := 0) (n := 2) (fun m H20 => At d G5 H' G8 H20 ∧ Tri lsh lpl lhe (sitAt x ms) H20 ∧ H20 D = some (.lst (nV ((List.range m).filter fun k => (sitAt x ms).hs.getD k false)))) ⟨E5.lay hD _, t5.lay hD, upd_same⟩ ?_ ?_
      · rintro m H20 hm ⟨C, tt, hDl⟩
        have e1 : (0 : Int) + (m : Int) = ((m : Nat) : Int) := by omega
        have hm2 : m < (sitAt x ms).hs.length := by rw [so.h2]; omega
        refine ⟨rfl, _, rfl, _, rfl, lhe, _, _, _, rfl, rfl, SqL.of tt.hs, at_of (j := m) e1 (hV_at hm2), rfl, _, rfl, ?_⟩
        have er := filt_succ (fun k => (sitAt x ms).hs.getD k false) m
        have nl : lhe ≠ D := fun z => by
          have q := tt.hs
          rw [z, hDl] at q
          have := t5.hs
          rw [z, hD] at this
          cases this
        have nl2 : lpl ≠ D := fun z => by
          have := t5.cs
          rw [z, hD] at this
          cases this
        have nl3 : lsh ≠ D := fun z => by
          have := t5.sh
          rw [z, hD] at this
          cases this
        cases c : (sitAt x ms).hs.getD m false with
        | true =>
          refine ite_t (by decide +kernel) ?_
          refine ⟨_, rfl, _, hDl, smaller 2 ?_ (by decide), C.put D0 DG Dd _, ⟨by rw [upd_ne nl3]; exact tt.sh, by rw [upd_ne nl2]; exact tt.cs, by rw [upd_ne nl]; exact tt.hs⟩, ?_⟩
          · rw [List.length_map]
            have := List.length_filter_le (fun k => (sitAt x ms).hs.getD k false) (List.range m)
            rw [List.length_range] at this
            omega
          · rw [upd_same, er, if_pos c, nV, nV, List.map_append, e1]
            rfl
        | false =>
          refine ite_f (by decide +kernel) ⟨C, tt, ?_⟩
          rw [er, c]
          simpa using hDl
      rintro H20 ⟨C20, t20, hD20⟩
      refine ⟨natsD (holdL (sitAt x ms).hs), natsD (holdL (sitAt x ms).hs), .lst (C20.now.s.seq (SqL.of hp8)) (nats_D' _), .lst (SqL.of hD20) (nats_D' _), lhy.shaped (by decide), lhy.shaped (by decide), _, rfl, ite_f (by rw [SeqAt.eqv_refl _ lhy.lay]; rfl) ?_⟩
      have N20 := NR.of_at C20
      -- some tick
      refine ⟨_, rfl, ⟨⟨d, G8, rfl, C20.now, fun G9 H21 tv A9 ⟨t, etv, ht⟩ => ?_⟩⟩⟩
      subst etv
      have N21 := N20.of_at A9
      have F1 := N21.now.at
      have S9 : Same G5 G9 := pt6.g.trans (x7.g.trans (x8.g.trans A9.ext.g))
      -- sum
      refine ⟨_, rfl, _, rfl, ⟨⟨textS x, G9, x, ci, cn, t, rfl, told, ht, F1.now.s, fun G10 H22 p10 pt10 hp10 => ?_⟩⟩⟩
      have F2 := (F1.pure pt10.ext pt10.sm).lay hp10 (.lst (nV (sitAt x (t + 1)).sh))
      have hp102 : (upd H22 p10 (.lst (nV (sitAt x (t + 1)).sh))) p10 = some (.lst (nV (sitAt x (t + 1)).sh)) := upd_same
      revert F2 hp102
      generalize upd H22 p10 (.lst (nV (sitAt x (t + 1)).sh)) = H23
      intro F2 hp102
      rw [nV_int] at hp102
      refine ⟨p10, _, rfl, SqL.of hp102, ?_⟩
      rw [int_sum]
      refine ⟨_, rfl, _, rfl, ⟨⟨textS x, G10, x, ci, cn, t, rfl, told, ht, F2.now.s, fun G11 H24 hv x11 s11 ⟨p11, e11, hp11⟩ => ?_⟩⟩⟩
      subst e11
      have F3 := F2.pure x11 s11
      refine ⟨p11, _, rfl, .inl (F3.now.s.seq (SqL.of hp11)), _, _, rfl, rfl, ?_⟩
      have S11 : Same G5 G11 := S9.trans (pt10.g.trans x11.g)
      refine ⟨_, rfl, pv', _, _, .ref u1, rfl, rfl, Same.seqT (S11.trans F3.now.s) hpv, at_of (j := 0) rfl rfl, u1, x.shelf.map (fun n : Nat => (n : Int)), rfl, by rw [← nV_int]; exact Same.seqT (S11.trans F3.now.s) hu1, ?_⟩
      rw [int_sum]
      have tot := total_at hx (t + 1)
      refine ⟨rfl, _, rfl, ite_f ?_ ?_⟩
      · have e2 : V.int (((sitAt x (t + 1)).sh.sum : Nat) + ((nV (holdL (sitAt x (t + 1)).hs)).length : Nat) : Int) = V.int ((x.shelf.sum : Nat) : Int) := by
          rw [← tot, nV_len]
          unfold totalS heldN
          push_cast
          rfl
        exact congrArg (fun b => !b) (decide_eq_true e2)
      have N24 := N21.of_at F3
      -- the robots
      refine ⟨2, rfl, by decide, by decide, for_range (lo := 0) (n := 2) (fun i σ H2 => ∃ (G' : Hp) (v11 v12 v15 : Option V), σ = [some (.ref sc), some (.ref d), some (.ref pv'), some (.str (textS x)), some (.int ms), some (.ref lsh), some (.ref lpl), some (.ref lhe), some (.int t), v9, v10, v11, v12, v13, some (.int (ms - 1 : Nat)), v15] ∧ NowT a d G' H2) ⟨_, _, _, _, rfl, N24⟩ ?_ fun σ H2 _ => k _⟩
      rintro num σ H25 hnum ⟨G25, w11, w12, w15, rfl, N25⟩
      have en : (0 : Int) + (num : Int) = ((num : Nat) : Int) := by omega
      rw [en]
      refine ⟨(by show 6 ≤ sizeLine; decide), fun q1 hq1 => ?_⟩
      have NH26 := N25.of_at (N25.now.at.lay hq1 (.lst [.str "pick", .str "put", .str "left", .str "right", .str "wait", .str "goto"]))
      have gq1 : (upd H25 q1 (.lst [.str "pick", .str "put", .str "left", .str "right", .str "wait", .str "goto"])) q1 = some (.lst (sixS.map V.str)) := upd_same
      revert NH26 gq1
      generalize upd H25 q1 (.lst [.str "pick", .str "put", .str "left", .str "right", .str "wait", .str "goto"]) = H26
      intro NH26 gq1
      refine ⟨q1, rfl, ⟨_, SqL.of gq1⟩, fun D1 hD1 => ?_⟩
      have D1q : q1 ≠ D1 := ne_of_none gq1 hD1
      have D1G := Same.free NH26.now.s hD1
      have D1d := NH26.now.at.ne hD1
      refine lc_list (K := K) (a := q1) (xs := sixS.map V.str) (fun j H' => ∃ G', NowT a d G' H' ∧ H' q1 = some (.lst (sixS.map V.str)) ∧ G' D1 = none ∧ H' D1 = some (.lst ((sixS.take j).map (cntV x num t)))) ⟨_, NH26.of_at (NH26.now.at.lay hD1 (.lst [])), by rw [upd_ne D1q]; exact gq1, D1G, upd_same⟩ (fun j H' _ ⟨_, _, h, _⟩ => SqL.of h) ?_ ?_
      · rintro j z H' hz ⟨G', N, hq, DG', hDl⟩
        obtain ⟨wd, hwd, rfl⟩ : ∃ wd, sixS[j]? = some wd ∧ z = .str wd := by
          rw [List.getElem?_map] at hz
          cases e : sixS[j]? with
          | none => rw [e] at hz; cases hz
          | some wd => rw [e] at hz; cases hz; exact ⟨wd, rfl, rfl⟩
        have hj : j < 6 := (List.getElem?_eq_some_iff.mp hwd).1
        refine ⟨rfl, _, rfl, _, rfl, _, rfl, _, rfl, ⟨⟨textS x, wd, G', x, ci, cn, num, t, rfl, told, hnum, ht, N.now.s, N.gt, N.tb, fun G2 H2 e2 s2 t2 => ?_⟩⟩⟩
        have N2 := N.step e2 s2 t2
        have hq2 := N.kept s2 hq (fun ps z => by cases z)
        have hDn := N.kept s2 hDl (fun ps z => by cases z)
        have DG2 : G2 D1 = none := e2.out DG' hDl
        refine ⟨_, hDn, smaller 10 (by rw [List.length_map, List.length_take]; omega) (by decide), G2, N2.keepL (KeepL.put (L := [D1]) (by simp)) (fun b hb => by
          obtain rfl := List.mem_singleton.mp hb
          exact ⟨DG2, D1d, _, hDn⟩), by rw [upd_ne D1q]; exact hq2, DG2, ?_⟩
        rw [upd_same, take_get hwd, List.map_append]
        rfl
      rintro H27 ⟨GH27, NH27, _, _, hH27D⟩
      have tkH27 : sixS.take (sixS.map V.str).length = sixS := rfl
      rw [tkH27] at hH27D
      refine ⟨_, rfl, ?_⟩
      refine ⟨(by show 3 ≤ sizeLine; decide), fun q2 hq2 => ?_⟩
      have NH28 := NH27.of_at (NH27.now.at.lay hq2 (.lst [.str "empty", .str "held", .str "blocked"]))
      have gq2 : (upd H27 q2 (.lst [.str "empty", .str "held", .str "blocked"])) q2 = some (.lst (threeS.map V.str)) := upd_same
      have kD1q2 : (upd H27 q2 (.lst [.str "empty", .str "held", .str "blocked"])) D1 = some (.lst (sixS.map (cntV x num t))) := by rw [upd_ne (ne_of_none hH27D hq2)]; exact hH27D
      revert NH28 gq2 kD1q2
      generalize upd H27 q2 (.lst [.str "empty", .str "held", .str "blocked"]) = H28
      intro NH28 gq2 kD1q2
      refine ⟨q2, rfl, ⟨_, SqL.of gq2⟩, fun D2 hD2 => ?_⟩
      have D2q : q2 ≠ D2 := ne_of_none gq2 hD2
      have D2G := Same.free NH28.now.s hD2
      have D2d := NH28.now.at.ne hD2
      refine lc_list (K := K) (a := q2) (xs := threeS.map V.str) (fun j H' => ∃ G', NowT a d G' H' ∧ H' q2 = some (.lst (threeS.map V.str)) ∧ G' D2 = none ∧ H' D2 = some (.lst ((threeS.take j).map (cntV x num t))) ∧ H' D1 = some (.lst (sixS.map (cntV x num t)))) ⟨_, NH28.of_at (NH28.now.at.lay hD2 (.lst [])), by rw [upd_ne D2q]; exact gq2, D2G, upd_same, by rw [upd_ne (ne_of_none kD1q2 hD2)]; exact kD1q2⟩ (fun j H' _ ⟨_, _, h, _⟩ => SqL.of h) ?_ ?_
      · rintro j z H' hz ⟨G', N, hq, DG', hDl, xD1⟩
        obtain ⟨wd, hwd, rfl⟩ : ∃ wd, threeS[j]? = some wd ∧ z = .str wd := by
          rw [List.getElem?_map] at hz
          cases e : threeS[j]? with
          | none => rw [e] at hz; cases hz
          | some wd => rw [e] at hz; cases hz; exact ⟨wd, rfl, rfl⟩
        have hj : j < 3 := (List.getElem?_eq_some_iff.mp hwd).1
        refine ⟨rfl, _, rfl, _, rfl, _, rfl, _, rfl, ⟨⟨textS x, wd, G', x, ci, cn, num, t, rfl, told, hnum, ht, N.now.s, N.gt, N.tb, fun G2 H2 e2 s2 t2 => ?_⟩⟩⟩
        have N2 := N.step e2 s2 t2
        have hq2 := N.kept s2 hq (fun ps z => by cases z)
        have hDn := N.kept s2 hDl (fun ps z => by cases z)
        have yD1 := N.kept s2 xD1 (fun ps z => by cases z)
        have DG2 : G2 D2 = none := e2.out DG' hDl
        refine ⟨_, hDn, smaller 10 (by rw [List.length_map, List.length_take]; omega) (by decide), G2, N2.keepL (KeepL.put (L := [D2]) (by simp)) (fun b hb => by
          obtain rfl := List.mem_singleton.mp hb
          exact ⟨DG2, D2d, _, hDn⟩), by rw [upd_ne D2q]; exact hq2, DG2, ?_, by rw [upd_ne (ne_of_none kD1q2 hD2)]; exact yD1⟩
        rw [upd_same, take_get hwd, List.map_append]
        rfl
      rintro H29 ⟨GH29, NH29, _, _, hH29D, hH29D1⟩
      have tkH29 : threeS.take (threeS.map V.str).length = threeS := rfl
      rw [tkH29] at hH29D
      refine ⟨D1, D2, _, _, rfl, rfl, hH29D1, hH29D, (by show 9 ≤ sizeLine; decide), fun D3 hD3 => ?_⟩
      have N30 := NH29.of_at (NH29.now.at.lay hD3 (.lst (sixS.map (cntV x num t) ++ threeS.map (cntV x num t))))
      have h30 : (upd H29 D3 (.lst (sixS.map (cntV x num t) ++ threeS.map (cntV x num t)))) D3 = some (.lst ((nineS.map fun k => ((cntF (phiAt x (phiS num k)) t : Nat) : Int)).map V.int)) := upd_same
      revert N30 h30
      generalize upd H29 D3 (.lst (sixS.map (cntV x num t) ++ threeS.map (cntV x num t))) = H30
      intro N30 h30
      have pp := pick_put hx hnum t
      have sm : (nineS.map fun k => ((cntF (phiAt x (phiS num k)) t : Nat) : Int)).sum = (t : Int) := by
        have e : (nineS.map fun k => ((cntF (phiAt x (phiS num k)) t : Nat) : Int)) = (nineS.map fun k => cntF (phiAt x (phiS num k)) t).map fun n : Nat => (n : Int) := by rw [List.map_map]; rfl
        rw [e, int_sum, nine_sum hx]
      have tb1 : ((sitAt x t).hs.getD num false).toNat ≤ 1 := by cases (sitAt x t).hs.getD num false <;> decide
      refine ⟨_, rfl, D3, _, rfl, SqL.of h30, _, rfl, rfl, _, rfl, ite_f ?_ ?_⟩
      · rw [sm]
        exact congrArg (fun b => !b) (decide_eq_true rfl)
      refine ⟨_, rfl, D3, _, _, cntV x num t "pick", rfl, rfl, SqL.of h30, at_of (j := 0) rfl rfl, _, rfl, D3, _, _, cntV x num t "put", rfl, rfl, SqL.of h30, at_of (j := 1) rfl rfl, _, _, rfl, rfl, _, _, rfl, rfl, _, rfl, ite_t (decide_eq_true ?_) ⟨_, _, rfl, rfl, _, rfl, ite_f ?_ ?_⟩⟩
      · omega
      · rw [decide_eq_true (by omega)]
        rfl
      exact ⟨_, _, _, _, rfl, N30⟩
end
end Sb

namespace Sb
open PySem PySem.Spec PyProof.Rows L2
theorem hAll {l : PySem.W.OpenLaw} {w : World} {K : PySem.W.Frag} {h : Heap} {mg : Str → Option Value} {fa : Addr} (X : K.In h) (G : h.Ns mainGlobals mg) (hfa : mg "law" = some (.ref fa)) (c : SbH.SaysY hFa hFn hTs hTf hEx w h K) : LamX.LawAtS l w K CX0 20 63 "_law_script" mg fa h := by
  have e := hfa.symm.trans (He.glo_ok X G (c.at_ 37 (f := .glo (Str.ofString "law")) rfl))
  injection e with e
  injection e with e
  rw [e]
  have hx := c.more
  obtain ⟨hx_P_Story_size, hx0⟩ := He.ba (show (SbH.propB K (Str.ofString "Story") (Str.ofString "size") && _) = true from hx)
  obtain ⟨hx_P_State_key, hx1⟩ := He.ba (show (SbH.propB K (Str.ofString "State") (Str.ofString "key") && _) = true from hx0)
  obtain ⟨hx_tup_MOVES, hx2⟩ := He.ba (show (SbH.tupB K (Str.ofString "MOVES") [(Str.ofString "left"), (Str.ofString "right"), (Str.ofString "pick"), (Str.ofString "put"), (Str.ofString "wait")] && _) = true from hx1)
  obtain ⟨hx_tup_JUMPS, hx3⟩ := He.ba (show (SbH.tupB K (Str.ofString "JUMPS") [(Str.ofString "goto"), (Str.ofString "empty"), (Str.ofString "held")] && _) = true from hx2)
  have hx_tup_KEYWORDS : SbH.tupB K (Str.ofString "KEYWORDS") [(Str.ofString "shelf"), (Str.ofString "robot"), (Str.ofString "left"), (Str.ofString "right"), (Str.ofString "pick"), (Str.ofString "put"), (Str.ofString "wait"), (Str.ofString "goto"), (Str.ofString "empty"), (Str.ofString "held")] = true := hx3
  obtain ⟨d_l_random, g_l_random⟩ := c.def_ 0 (d := ⟨fun K => (He.ga K (Str.ofString "_law_random")), (Str.ofString "_law_random"), (Str.ofString "_law_random"), defArgs s_l_random, defBody s_l_random, defScope s_l_random, [], []⟩) rfl
  obtain ⟨d_l_below, g_l_below⟩ := c.def_ 1 (d := ⟨fun K => (He.ga K (Str.ofString "_law_below")), (Str.ofString "_law_below"), (Str.ofString "_law_below"), defArgs s_l_below, defBody s_l_below, defScope s_l_below, [], []⟩) rfl
  obtain ⟨d_l_empty, g_l_empty⟩ := c.def_ 2 (d := ⟨fun K => (He.ga K (Str.ofString "_law_empty")), (Str.ofString "_law_empty"), (Str.ofString "_law_empty"), defArgs s_l_empty, defBody s_l_empty, defScope s_l_empty, [], []⟩) rfl
  obtain ⟨d_l_act, g_l_act⟩ := c.def_ 3 (d := ⟨fun K => (He.ga K (Str.ofString "_law_act")), (Str.ofString "_law_act"), (Str.ofString "_law_act"), defArgs s_l_act, defBody s_l_act, defScope s_l_act, [], []⟩) rfl
  obtain ⟨d_l_tick, g_l_tick⟩ := c.def_ 4 (d := ⟨fun K => (He.ga K (Str.ofString "_law_tick")), (Str.ofString "_law_tick"), (Str.ofString "_law_tick"), defArgs s_l_tick, defBody s_l_tick, defScope s_l_tick, [], []⟩) rfl
  obtain ⟨d_l_repeats, g_l_repeats⟩ := c.def_ 5 (d := ⟨fun K => (He.ga K (Str.ofString "_law_repeats")), (Str.ofString "_law_repeats"), (Str.ofString "_law_repeats"), defArgs s_l_repeats, defBody s_l_repeats, defScope s_l_repeats, [], []⟩) rfl
  obtain ⟨d_l_steps, g_l_steps⟩ := c.def_ 6 (d := ⟨fun K => (He.ga K (Str.ofString "_law_steps")), (Str.ofString "_law_steps"), (Str.ofString "_law_steps"), defArgs s_l_steps, defBody s_l_steps, defScope s_l_steps, [], []⟩) rfl
  obtain ⟨d_l_plan, g_l_plan⟩ := c.def_ 7 (d := ⟨fun K => (He.ga K (Str.ofString "_law_plan")), (Str.ofString "_law_plan"), (Str.ofString "_law_plan"), defArgs s_l_plan, defBody s_l_plan, defScope s_l_plan, [], []⟩) rfl
  obtain ⟨d_Parser_peek, g_Parser_peek⟩ := c.def_ 8 (d := ⟨fun K => (He.ma K (He.ga K (Str.ofString "Parser")) (Str.ofString "peek")), (Str.ofString "peek"), (Str.ofString "Parser.peek"), defArgs s_Parser_peek, defBody s_Parser_peek, defScope s_Parser_peek, [], []⟩) rfl
  obtain ⟨d_Token_init, g_Token_init⟩ := c.def_ 9 (d := ⟨fun K => (He.ma K (He.ga K (Str.ofString "Token")) (Str.ofString "__init__")), (Str.ofString "__init__"), (Str.ofString "Token.__init__"), defArgs s_Token_init, defBody s_Token_init, defScope s_Token_init, [], []⟩) rfl
  obtain ⟨d_Robot_init, g_Robot_init⟩ := c.def_ 10 (d := ⟨fun K => (He.ma K (He.ga K (Str.ofString "Robot")) (Str.ofString "__init__")), (Str.ofString "__init__"), (Str.ofString "Robot.__init__"), defArgs s_Robot_init, defBody s_Robot_init, defScope s_Robot_init, [], []⟩) rfl
  obtain ⟨d_Plan_init, g_Plan_init⟩ := c.def_ 11 (d := ⟨fun K => (He.ma K (He.ga K (Str.ofString "Plan")) (Str.ofString "__init__")), (Str.ofString "__init__"), (Str.ofString "Plan.__init__"), defArgs s_Plan_init, defBody s_Plan_init, defScope s_Plan_init, [], []⟩) rfl
  obtain ⟨d_Parser_init, g_Parser_init⟩ := c.def_ 12 (d := ⟨fun K => (He.ma K (He.ga K (Str.ofString "Parser")) (Str.ofString "__init__")), (Str.ofString "__init__"), (Str.ofString "Parser.__init__"), defArgs s_Parser_init, defBody s_Parser_init, defScope s_Parser_init, [], []⟩) rfl
  obtain ⟨d_is_int_in, g_is_int_in⟩ := c.def_ 13 (d := ⟨fun K => (He.ga K (Str.ofString "is_int_in")), (Str.ofString "is_int_in"), (Str.ofString "is_int_in"), defArgs s_is_int_in, defBody s_is_int_in, defScope s_is_int_in, [], []⟩) rfl
  obtain ⟨d_check_tick, g_check_tick⟩ := c.def_ 14 (d := ⟨fun K => (He.ga K (Str.ofString "check_tick")), (Str.ofString "check_tick"), (Str.ofString "check_tick"), defArgs s_check_tick, defBody s_check_tick, defScope s_check_tick, [], []⟩) rfl
  obtain ⟨d_Story_size, g_Story_size⟩ := c.def_ 15 (d := ⟨fun K => (SbH.propG K (Str.ofString "Story") (Str.ofString "size")), (Str.ofString "size"), (Str.ofString "Story.size"), defArgs s_Story_size, defBody s_Story_size, defScope s_Story_size, [], []⟩) rfl
  obtain ⟨d_Story_happens, g_Story_happens⟩ := c.def_ 16 (d := ⟨fun K => (He.ma K (He.ga K (Str.ofString "Story")) (Str.ofString "happens")), (Str.ofString "happens"), (Str.ofString "Story.happens"), defArgs s_Story_happens, defBody s_Story_happens, defScope s_Story_happens, [], []⟩) rfl
  obtain ⟨d_first_state, g_first_state⟩ := c.def_ 17 (d := ⟨fun K => (He.ga K (Str.ofString "first_state")), (Str.ofString "first_state"), (Str.ofString "first_state"), defArgs s_first_state, defBody s_first_state, defScope s_first_state, [], []⟩) rfl
  obtain ⟨d_State_key, g_State_key⟩ := c.def_ 18 (d := ⟨fun K => (SbH.propG K (Str.ofString "State") (Str.ofString "key")), (Str.ofString "key"), (Str.ofString "State.key"), defArgs s_State_key, defBody s_State_key, defScope s_State_key, [], []⟩) rfl
  obtain ⟨d_replaced, g_replaced⟩ := c.def_ 19 (d := ⟨fun K => (He.ga K (Str.ofString "replaced")), (Str.ofString "replaced"), (Str.ofString "replaced"), defArgs s_replaced, defBody s_replaced, defScope s_replaced, [], []⟩) rfl
  obtain ⟨d_act, g_act⟩ := c.def_ 20 (d := ⟨fun K => (He.ga K (Str.ofString "act")), (Str.ofString "act"), (Str.ofString "act"), defArgs s_act, defBody s_act, defScope s_act, [], []⟩) rfl
  obtain ⟨d_Tick_init, g_Tick_init⟩ := c.def_ 21 (d := ⟨fun K => (He.ma K (He.ga K (Str.ofString "Tick")) (Str.ofString "__init__")), (Str.ofString "__init__"), (Str.ofString "Tick.__init__"), defArgs s_Tick_init, defBody s_Tick_init, defScope s_Tick_init, [], []⟩) rfl
  obtain ⟨d_next_tick, g_next_tick⟩ := c.def_ 22 (d := ⟨fun K => (He.ga K (Str.ofString "next_tick")), (Str.ofString "next_tick"), (Str.ofString "next_tick"), defArgs s_next_tick, defBody s_next_tick, defScope s_next_tick, [], []⟩) rfl
  obtain ⟨d_Story_init, g_Story_init⟩ := c.def_ 23 (d := ⟨fun K => (He.ma K (He.ga K (Str.ofString "Story")) (Str.ofString "__init__")), (Str.ofString "__init__"), (Str.ofString "Story.__init__"), defArgs s_Story_init, defBody s_Story_init, defScope s_Story_init, [], []⟩) rfl
  obtain ⟨d_cells, g_cells⟩ := c.def_ 24 (d := ⟨fun K => (He.ga K (Str.ofString "cells")), (Str.ofString "cells"), (Str.ofString "cells"), defArgs s_cells, defBody s_cells, defScope s_cells, [], []⟩) rfl
  obtain ⟨d_State_init, g_State_init⟩ := c.def_ 25 (d := ⟨fun K => (He.ma K (He.ga K (Str.ofString "State")) (Str.ofString "__init__")), (Str.ofString "__init__"), (Str.ofString "State.__init__"), defArgs s_State_init, defBody s_State_init, defScope s_State_init, [], []⟩) rfl
  obtain ⟨d_Parser_fail, g_Parser_fail⟩ := c.def_ 26 (d := ⟨fun K => (He.ma K (He.ga K (Str.ofString "Parser")) (Str.ofString "fail")), (Str.ofString "fail"), (Str.ofString "Parser.fail"), defArgs s_Parser_fail, defBody s_Parser_fail, defScope s_Parser_fail, [], []⟩) rfl
  obtain ⟨d_Parser_take_word, g_Parser_take_word⟩ := c.def_ 27 (d := ⟨fun K => (He.ma K (He.ga K (Str.ofString "Parser")) (Str.ofString "take_word")), (Str.ofString "take_word"), (Str.ofString "Parser.take_word"), defArgs s_Parser_take_word, defBody s_Parser_take_word, defScope s_Parser_take_word, [], []⟩) rfl
  obtain ⟨d_Parser_take, g_Parser_take⟩ := c.def_ 28 (d := ⟨fun K => (He.ma K (He.ga K (Str.ofString "Parser")) (Str.ofString "take")), (Str.ofString "take"), (Str.ofString "Parser.take"), defArgs s_Parser_take, defBody s_Parser_take, defScope s_Parser_take, [], []⟩) rfl
  obtain ⟨d_Parser_found, g_Parser_found⟩ := c.def_ 29 (d := ⟨fun K => (He.ma K (He.ga K (Str.ofString "Parser")) (Str.ofString "found")), (Str.ofString "found"), (Str.ofString "Parser.found"), defArgs s_Parser_found, defBody s_Parser_found, defScope s_Parser_found, [], []⟩) rfl
  obtain ⟨d_Parser_parse_shelf, g_Parser_parse_shelf⟩ := c.def_ 30 (d := ⟨fun K => (He.ma K (He.ga K (Str.ofString "Parser")) (Str.ofString "parse_shelf")), (Str.ofString "parse_shelf"), (Str.ofString "Parser.parse_shelf"), defArgs s_Parser_parse_shelf, defBody s_Parser_parse_shelf, defScope s_Parser_parse_shelf, [], []⟩) rfl
  obtain ⟨d_Parser_parse_step, g_Parser_parse_step⟩ := c.def_ 31 (d := ⟨fun K => (He.ma K (He.ga K (Str.ofString "Parser")) (Str.ofString "parse_step")), (Str.ofString "parse_step"), (Str.ofString "Parser.parse_step"), defArgs s_Parser_parse_step, defBody s_Parser_parse_step, defScope s_Parser_parse_step, [], []⟩) rfl
  obtain ⟨d_Parser_parse_robot, g_Parser_parse_robot⟩ := c.def_ 32 (d := ⟨fun K => (He.ma K (He.ga K (Str.ofString "Parser")) (Str.ofString "parse_robot")), (Str.ofString "parse_robot"), (Str.ofString "Parser.parse_robot"), defArgs s_Parser_parse_robot, defBody s_Parser_parse_robot, defScope s_Parser_parse_robot, [], []⟩) rfl
  obtain ⟨d_Parser_parse_plan, g_Parser_parse_plan⟩ := c.def_ 33 (d := ⟨fun K => (He.ma K (He.ga K (Str.ofString "Parser")) (Str.ofString "parse_plan")), (Str.ofString "parse_plan"), (Str.ofString "Parser.parse_plan"), defArgs s_Parser_parse_plan, defBody s_Parser_parse_plan, defScope s_Parser_parse_plan, [], []⟩) rfl
  obtain ⟨d_run_end, g_run_end⟩ := c.def_ 34 (d := ⟨fun K => (He.ga K (Str.ofString "run_end")), (Str.ofString "run_end"), (Str.ofString "run_end"), defArgs s_run_end, defBody s_run_end, defScope s_run_end, [], []⟩) rfl
  obtain ⟨d_read_token, g_read_token⟩ := c.def_ 35 (d := ⟨fun K => (He.ga K (Str.ofString "read_token")), (Str.ofString "read_token"), (Str.ofString "read_token"), defArgs s_read_token, defBody s_read_token, defScope s_read_token, [], []⟩) rfl
  obtain ⟨d_tokenize, g_tokenize⟩ := c.def_ 36 (d := ⟨fun K => (He.ga K (Str.ofString "tokenize")), (Str.ofString "tokenize"), (Str.ofString "tokenize"), defArgs s_tokenize, defBody s_tokenize, defScope s_tokenize, [], []⟩) rfl
  obtain ⟨d_load, g_load⟩ := c.def_ 37 (d := ⟨fun K => (He.ga K (Str.ofString "load")), (Str.ofString "load"), (Str.ofString "load"), defArgs s_load, defBody s_load, defScope s_load, [], []⟩) rfl
  obtain ⟨d_trace, g_trace⟩ := c.def_ 38 (d := ⟨fun K => (He.ga K (Str.ofString "trace")), (Str.ofString "trace"), (Str.ofString "trace"), defArgs s_trace, defBody s_trace, defScope s_trace, [], []⟩) rfl
  obtain ⟨d_l_some_tick, g_l_some_tick⟩ := c.def_ 39 (d := ⟨fun K => (He.ga K (Str.ofString "_law_some_tick")), (Str.ofString "_law_some_tick"), (Str.ofString "_law_some_tick"), defArgs s_l_some_tick, defBody s_l_some_tick, defScope s_l_some_tick, [], []⟩) rfl
  obtain ⟨d_l_text, g_l_text⟩ := c.def_ 40 (d := ⟨fun K => (He.ga K (Str.ofString "_law_text")), (Str.ofString "_law_text"), (Str.ofString "_law_text"), defArgs s_l_text, defBody s_l_text, defScope s_l_text, [], []⟩) rfl
  obtain ⟨d_holding, g_holding⟩ := c.def_ 41 (d := ⟨fun K => (He.ga K (Str.ofString "holding")), (Str.ofString "holding"), (Str.ofString "holding"), defArgs s_holding, defBody s_holding, defScope s_holding, [], []⟩) rfl
  obtain ⟨d_boxes, g_boxes⟩ := c.def_ 42 (d := ⟨fun K => (He.ga K (Str.ofString "boxes")), (Str.ofString "boxes"), (Str.ofString "boxes"), defArgs s_boxes, defBody s_boxes, defScope s_boxes, [], []⟩) rfl
  obtain ⟨d_check_robot, g_check_robot⟩ := c.def_ 43 (d := ⟨fun K => (He.ga K (Str.ofString "check_robot")), (Str.ofString "check_robot"), (Str.ofString "check_robot"), defArgs s_check_robot, defBody s_check_robot, defScope s_check_robot, [], []⟩) rfl
  obtain ⟨d_Story_count, g_Story_count⟩ := c.def_ 44 (d := ⟨fun K => (He.ma K (He.ga K (Str.ofString "Story")) (Str.ofString "count")), (Str.ofString "count"), (Str.ofString "Story.count"), defArgs s_Story_count, defBody s_Story_count, defScope s_Story_count, [], []⟩) rfl
  obtain ⟨d_count_done, g_count_done⟩ := c.def_ 45 (d := ⟨fun K => (He.ga K (Str.ofString "count_done")), (Str.ofString "count_done"), (Str.ofString "count_done"), defArgs s_count_done, defBody s_count_done, defScope s_count_done, [], []⟩) rfl
  obtain ⟨d_law, g_law⟩ := c.def_ 46 (d := ⟨fun K => (He.ga K (Str.ofString "law")), (Str.ofString "law"), (Str.ofString "law"), defArgs s_law, defBody s_law, defScope s_law, [], []⟩) rfl
  obtain ⟨t_LETTERS, e_LETTERS⟩ := He.str_ok X G (c.at_ 100 (f := .str (Str.ofString "LETTERS") (Str.ofString "abcdefghijklmnopqrstuvwxyz")) rfl)
  obtain ⟨t_DIGITS, e_DIGITS⟩ := He.str_ok X G (c.at_ 101 (f := .str (Str.ofString "DIGITS") (Str.ofString "0123456789")) rfl)
  obtain ⟨t_SPACES, e_SPACES⟩ := He.str_ok X G (c.at_ 102 (f := .str (Str.ofString "SPACES") (Str.ofString " \n")) rfl)
  obtain ⟨t_SIGNS, e_SIGNS⟩ := He.str_ok X G (c.at_ 103 (f := .str (Str.ofString "SIGNS") (Str.ofString ";:{}")) rfl)
  obtain ⟨t_MAX_LETTERS, e_MAX_LETTERS⟩ := He.int_ok X G (c.at_ 104 (f := .int (Str.ofString "MAX_LETTERS") 8) rfl)
  obtain ⟨t_MAX_DIGITS, e_MAX_DIGITS⟩ := He.int_ok X G (c.at_ 105 (f := .int (Str.ofString "MAX_DIGITS") 2) rfl)
  obtain ⟨t_NAME, e_NAME⟩ := He.str_ok X G (c.at_ 106 (f := .str (Str.ofString "NAME") (Str.ofString "name")) rfl)
  obtain ⟨t_NUMBER, e_NUMBER⟩ := He.str_ok X G (c.at_ 107 (f := .str (Str.ofString "NUMBER") (Str.ofString "number")) rfl)
  obtain ⟨t_KEYWORD, e_KEYWORD⟩ := He.str_ok X G (c.at_ 108 (f := .str (Str.ofString "KEYWORD") (Str.ofString "keyword")) rfl)
  obtain ⟨t_SIGN, e_SIGN⟩ := He.str_ok X G (c.at_ 109 (f := .str (Str.ofString "SIGN") (Str.ofString "sign")) rfl)
  obtain ⟨t_END, e_END⟩ := He.str_ok X G (c.at_ 110 (f := .str (Str.ofString "END") (Str.ofString "end")) rfl)
  obtain ⟨t_MIN_CELLS, e_MIN_CELLS⟩ := He.int_ok X G (c.at_ 111 (f := .int (Str.ofString "MIN_CELLS") 3) rfl)
  obtain ⟨t_MAX_CELLS, e_MAX_CELLS⟩ := He.int_ok X G (c.at_ 112 (f := .int (Str.ofString "MAX_CELLS") 12) rfl)
  obtain ⟨t_MAX_BOXES, e_MAX_BOXES⟩ := He.int_ok X G (c.at_ 113 (f := .int (Str.ofString "MAX_BOXES") 3) rfl)
  obtain ⟨t_MAX_STEPS, e_MAX_STEPS⟩ := He.int_ok X G (c.at_ 114 (f := .int (Str.ofString "MAX_STEPS") 20) rfl)
  obtain ⟨t_MAX_TICK, e_MAX_TICK⟩ := He.int_ok X G (c.at_ 115 (f := .int (Str.ofString "MAX_TICK") 1000000000000000000) rfl)
  obtain ⟨t_MAX_STATES, e_MAX_STATES⟩ := He.int_ok X G (c.at_ 116 (f := .int (Str.ofString "MAX_STATES") 20000) rfl)
  obtain ⟨t_MAX_TRACE, e_MAX_TRACE⟩ := He.int_ok X G (c.at_ 117 (f := .int (Str.ofString "MAX_TRACE") 500) rfl)
  obtain ⟨t_BLOCKED, e_BLOCKED⟩ := He.str_ok X G (c.at_ 118 (f := .str (Str.ofString "BLOCKED") (Str.ofString "blocked")) rfl)
  let ad : Ad := { f_l_random := (He.ga K (Str.ofString "_law_random")), d_l_random := d_l_random, f_l_below := (He.ga K (Str.ofString "_law_below")), d_l_below := d_l_below, f_l_empty := (He.ga K (Str.ofString "_law_empty")), d_l_empty := d_l_empty, f_l_act := (He.ga K (Str.ofString "_law_act")), d_l_act := d_l_act, f_l_tick := (He.ga K (Str.ofString "_law_tick")), d_l_tick := d_l_tick, f_l_repeats := (He.ga K (Str.ofString "_law_repeats")), d_l_repeats := d_l_repeats, f_l_steps := (He.ga K (Str.ofString "_law_steps")), d_l_steps := d_l_steps, f_l_plan := (He.ga K (Str.ofString "_law_plan")), d_l_plan := d_l_plan, f_Parser_peek := (He.ma K (He.ga K (Str.ofString "Parser")) (Str.ofString "peek")), d_Parser_peek := d_Parser_peek, f_Token_init := (He.ma K (He.ga K (Str.ofString "Token")) (Str.ofString "__init__")), d_Token_init := d_Token_init, f_Robot_init := (He.ma K (He.ga K (Str.ofString "Robot")) (Str.ofString "__init__")), d_Robot_init := d_Robot_init, f_Plan_init := (He.ma K (He.ga K (Str.ofString "Plan")) (Str.ofString "__init__")), d_Plan_init := d_Plan_init, f_Parser_init := (He.ma K (He.ga K (Str.ofString "Parser")) (Str.ofString "__init__")), d_Parser_init := d_Parser_init, f_is_int_in := (He.ga K (Str.ofString "is_int_in")), d_is_int_in := d_is_int_in, f_check_tick := (He.ga K (Str.ofString "check_tick")), d_check_tick := d_check_tick, f_Story_size := (SbH.propG K (Str.ofString "Story") (Str.ofString "size")), d_Story_size := d_Story_size, p_Story_size := (He.ma K (He.ga K (Str.ofString "Story")) (Str.ofString "size")), f_Story_happens := (He.ma K (He.ga K (Str.ofString "Story")) (Str.ofString "happens")), d_Story_happens := d_Story_happens, f_first_state := (He.ga K (Str.ofString "first_state")), d_first_state := d_first_state, f_State_key := (SbH.propG K (Str.ofString "State") (Str.ofString "key")), d_State_key := d_State_key, p_State_key := (He.ma K (He.ga K (Str.ofString "State")) (Str.ofString "key")), f_replaced := (He.ga K (Str.ofString "replaced")), d_replaced := d_replaced, f_act := (He.ga K (Str.ofString "act")), d_act := d_act, f_Tick_init := (He.ma K (He.ga K (Str.ofString "Tick")) (Str.ofString "__init__")), d_Tick_init := d_Tick_init, f_next_tick := (He.ga K (Str.ofString "next_tick")), d_next_tick := d_next_tick, f_Story_init := (He.ma K (He.ga K (Str.ofString "Story")) (Str.ofString "__init__")), d_Story_init := d_Story_init, f_cells := (He.ga K (Str.ofString "cells")), d_cells := d_cells, f_State_init := (He.ma K (He.ga K (Str.ofString "State")) (Str.ofString "__init__")), d_State_init := d_State_init, f_Parser_fail := (He.ma K (He.ga K (Str.ofString "Parser")) (Str.ofString "fail")), d_Parser_fail := d_Parser_fail, f_Parser_take_word := (He.ma K (He.ga K (Str.ofString "Parser")) (Str.ofString "take_word")), d_Parser_take_word := d_Parser_take_word, f_Parser_take := (He.ma K (He.ga K (Str.ofString "Parser")) (Str.ofString "take")), d_Parser_take := d_Parser_take, f_Parser_found := (He.ma K (He.ga K (Str.ofString "Parser")) (Str.ofString "found")), d_Parser_found := d_Parser_found, f_Parser_parse_shelf := (He.ma K (He.ga K (Str.ofString "Parser")) (Str.ofString "parse_shelf")), d_Parser_parse_shelf := d_Parser_parse_shelf, f_Parser_parse_step := (He.ma K (He.ga K (Str.ofString "Parser")) (Str.ofString "parse_step")), d_Parser_parse_step := d_Parser_parse_step, f_Parser_parse_robot := (He.ma K (He.ga K (Str.ofString "Parser")) (Str.ofString "parse_robot")), d_Parser_parse_robot := d_Parser_parse_robot, f_Parser_parse_plan := (He.ma K (He.ga K (Str.ofString "Parser")) (Str.ofString "parse_plan")), d_Parser_parse_plan := d_Parser_parse_plan, f_run_end := (He.ga K (Str.ofString "run_end")), d_run_end := d_run_end, f_read_token := (He.ga K (Str.ofString "read_token")), d_read_token := d_read_token, f_tokenize := (He.ga K (Str.ofString "tokenize")), d_tokenize := d_tokenize, f_load := (He.ga K (Str.ofString "load")), d_load := d_load, f_trace := (He.ga K (Str.ofString "trace")), d_trace := d_trace, f_l_some_tick := (He.ga K (Str.ofString "_law_some_tick")), d_l_some_tick := d_l_some_tick, f_l_text := (He.ga K (Str.ofString "_law_text")), d_l_text := d_l_text, f_holding := (He.ga K (Str.ofString "holding")), d_holding := d_holding, f_boxes := (He.ga K (Str.ofString "boxes")), d_boxes := d_boxes, f_check_robot := (He.ga K (Str.ofString "check_robot")), d_check_robot := d_check_robot, f_Story_count := (He.ma K (He.ga K (Str.ofString "Story")) (Str.ofString "count")), d_Story_count := d_Story_count, f_count_done := (He.ga K (Str.ofString "count_done")), d_count_done := d_count_done, f_law := (He.ga K (Str.ofString "law")), d_law := d_law, cc_count_done := (He.cT K ((Str.ofString "count_done"), none)).1, tb_count_done := (He.cT K ((Str.ofString "count_done"), none)).2, C_Token := (He.ga K (Str.ofString "Token")), C_Robot := (He.ga K (Str.ofString "Robot")), C_Plan := (He.ga K (Str.ofString "Plan")), C_Parser := (He.ga K (Str.ofString "Parser")), C_State := (He.ga K (Str.ofString "State")), C_Tick := (He.ga K (Str.ofString "Tick")), C_Story := (He.ga K (Str.ofString "Story")), A_MOVES := (He.ga K (Str.ofString "MOVES")), A_JUMPS := (He.ga K (Str.ofString "JUMPS")), A_KEYWORDS := (He.ga K (Str.ofString "KEYWORDS")), t_LETTERS := t_LETTERS, t_DIGITS := t_DIGITS, t_SPACES := t_SPACES, t_SIGNS := t_SIGNS, t_MAX_LETTERS := t_MAX_LETTERS, t_MAX_DIGITS := t_MAX_DIGITS, t_NAME := t_NAME, t_NUMBER := t_NUMBER, t_KEYWORD := t_KEYWORD, t_SIGN := t_SIGN, t_END := t_END, t_MIN_CELLS := t_MIN_CELLS, t_MAX_CELLS := t_MAX_CELLS, t_MAX_BOXES := t_MAX_BOXES, t_MAX_STEPS := t_MAX_STEPS, t_MAX_TICK := t_MAX_TICK, t_MAX_STATES := t_MAX_STATES, t_MAX_TRACE := t_MAX_TRACE, t_BLOCKED := t_BLOCKED }
  have T : Txt K mg ad := { F_l_random := He5.fun_of (st := s_l_random) g_l_random, m_l_random := He.glo_ok X G (c.at_ 0 (f := .glo (Str.ofString "_law_random")) rfl), F_l_below := He5.fun_of (st := s_l_below) g_l_below, m_l_below := He.glo_ok X G (c.at_ 1 (f := .glo (Str.ofString "_law_below")) rfl), F_l_empty := He5.fun_of (st := s_l_empty) g_l_empty, m_l_empty := He.glo_ok X G (c.at_ 2 (f := .glo (Str.ofString "_law_empty")) rfl), F_l_act := He5.fun_of (st := s_l_act) g_l_act, m_l_act := He.glo_ok X G (c.at_ 3 (f := .glo (Str.ofString "_law_act")) rfl), F_l_tick := He5.fun_of (st := s_l_tick) g_l_tick, m_l_tick := He.glo_ok X G (c.at_ 4 (f := .glo (Str.ofString "_law_tick")) rfl), F_l_repeats := He5.fun_of (st := s_l_repeats) g_l_repeats, m_l_repeats := He.glo_ok X G (c.at_ 5 (f := .glo (Str.ofString "_law_repeats")) rfl), F_l_steps := He5.fun_of (st := s_l_steps) g_l_steps, m_l_steps := He.glo_ok X G (c.at_ 6 (f := .glo (Str.ofString "_law_steps")) rfl), F_l_plan := He5.fun_of (st := s_l_plan) g_l_plan, m_l_plan := He.glo_ok X G (c.at_ 7 (f := .glo (Str.ofString "_law_plan")) rfl), F_Parser_peek := He5.fun_of (st := s_Parser_peek) g_Parser_peek, M_Parser_peek := He.meth_ok (c.at_ 8 (f := .meth (Str.ofString "Parser") (Str.ofString "peek")) rfl), F_Token_init := He5.fun_of (st := s_Token_init) g_Token_init, F_Robot_init := He5.fun_of (st := s_Robot_init) g_Robot_init, F_Plan_init := He5.fun_of (st := s_Plan_init) g_Plan_init, F_Parser_init := He5.fun_of (st := s_Parser_init) g_Parser_init, F_is_int_in := He5.fun_of (st := s_is_int_in) g_is_int_in, m_is_int_in := He.glo_ok X G (c.at_ 9 (f := .glo (Str.ofString "is_int_in")) rfl), F_check_tick := He5.fun_of (st := s_check_tick) g_check_tick, m_check_tick := He.glo_ok X G (c.at_ 10 (f := .glo (Str.ofString "check_tick")) rfl), F_Story_size := He5.fun_of (st := s_Story_size) g_Story_size, F_Story_happens := He5.fun_of (st := s_Story_happens) g_Story_happens, M_Story_happens := He.meth_ok (c.at_ 11 (f := .meth (Str.ofString "Story") (Str.ofString "happens")) rfl), F_first_state := He5.fun_of (st := s_first_state) g_first_state, m_first_state := He.glo_ok X G (c.at_ 12 (f := .glo (Str.ofString "first_state")) rfl), F_State_key := He5.fun_of (st := s_State_key) g_State_key, F_replaced := He5.fun_of (st := s_replaced) g_replaced, m_replaced := He.glo_ok X G (c.at_ 13 (f := .glo (Str.ofString "replaced")) rfl), F_act := He5.fun_of (st := s_act) g_act, m_act := He.glo_ok X G (c.at_ 14 (f := .glo (Str.ofString "act")) rfl), F_Tick_init := He5.fun_of (st := s_Tick_init) g_Tick_init, F_next_tick := He5.fun_of (st := s_next_tick) g_next_tick, m_next_tick := He.glo_ok X G (c.at_ 15 (f := .glo (Str.ofString "next_tick")) rfl), F_Story_init := He5.fun_of (st := s_Story_init) g_Story_init, F_cells := He5.fun_of (st := s_cells) g_cells, m_cells := He.glo_ok X G (c.at_ 16 (f := .glo (Str.ofString "cells")) rfl), F_State_init := He5.fun_of (st := s_State_init) g_State_init, F_Parser_fail := He5.fun_of (st := s_Parser_fail) g_Parser_fail, M_Parser_fail := He.meth_ok (c.at_ 17 (f := .meth (Str.ofString "Parser") (Str.ofString "fail")) rfl), F_Parser_take_word := He5.fun_of (st := s_Parser_take_word) g_Parser_take_word, M_Parser_take_word := He.meth_ok (c.at_ 18 (f := .meth (Str.ofString "Parser") (Str.ofString "take_word")) rfl), F_Parser_take := He5.fun_of (st := s_Parser_take) g_Parser_take, M_Parser_take := He.meth_ok (c.at_ 19 (f := .meth (Str.ofString "Parser") (Str.ofString "take")) rfl), F_Parser_found := He5.fun_of (st := s_Parser_found) g_Parser_found, M_Parser_found := He.meth_ok (c.at_ 20 (f := .meth (Str.ofString "Parser") (Str.ofString "found")) rfl), F_Parser_parse_shelf := He5.fun_of (st := s_Parser_parse_shelf) g_Parser_parse_shelf, M_Parser_parse_shelf := He.meth_ok (c.at_ 21 (f := .meth (Str.ofString "Parser") (Str.ofString "parse_shelf")) rfl), F_Parser_parse_step := He5.fun_of (st := s_Parser_parse_step) g_Parser_parse_step, M_Parser_parse_step := He.meth_ok (c.at_ 22 (f := .meth (Str.ofString "Parser") (Str.ofString "parse_step")) rfl), F_Parser_parse_robot := He5.fun_of (st := s_Parser_parse_robot) g_Parser_parse_robot, M_Parser_parse_robot := He.meth_ok (c.at_ 23 (f := .meth (Str.ofString "Parser") (Str.ofString "parse_robot")) rfl), F_Parser_parse_plan := He5.fun_of (st := s_Parser_parse_plan) g_Parser_parse_plan, M_Parser_parse_plan := He.meth_ok (c.at_ 24 (f := .meth (Str.ofString "Parser") (Str.ofString "parse_plan")) rfl), F_run_end := He5.fun_of (st := s_run_end) g_run_end, m_run_end := He.glo_ok X G (c.at_ 25 (f := .glo (Str.ofString "run_end")) rfl), F_read_token := He5.fun_of (st := s_read_token) g_read_token, m_read_token := He.glo_ok X G (c.at_ 26 (f := .glo (Str.ofString "read_token")) rfl), F_tokenize := He5.fun_of (st := s_tokenize) g_tokenize, m_tokenize := He.glo_ok X G (c.at_ 27 (f := .glo (Str.ofString "tokenize")) rfl), F_load := He5.fun_of (st := s_load) g_load, m_load := He.glo_ok X G (c.at_ 28 (f := .glo (Str.ofString "load")) rfl), F_trace := He5.fun_of (st := s_trace) g_trace, m_trace := He.glo_ok X G (c.at_ 29 (f := .glo (Str.ofString "trace")) rfl), F_l_some_tick := He5.fun_of (st := s_l_some_tick) g_l_some_tick, m_l_some_tick := He.glo_ok X G (c.at_ 30 (f := .glo (Str.ofString "_law_some_tick")) rfl), F_l_text := He5.fun_of (st := s_l_text) g_l_text, m_l_text := He.glo_ok X G (c.at_ 31 (f := .glo (Str.ofString "_law_text")) rfl), F_holding := He5.fun_of (st := s_holding) g_holding, m_holding := He.glo_ok X G (c.at_ 32 (f := .glo (Str.ofString "holding")) rfl), F_boxes := He5.fun_of (st := s_boxes) g_boxes, m_boxes := He.glo_ok X G (c.at_ 33 (f := .glo (Str.ofString "boxes")) rfl), F_check_robot := He5.fun_of (st := s_check_robot) g_check_robot, m_check_robot := He.glo_ok X G (c.at_ 34 (f := .glo (Str.ofString "check_robot")) rfl), F_Story_count := He5.fun_of (st := s_Story_count) g_Story_count, M_Story_count := He.meth_ok (c.at_ 35 (f := .meth (Str.ofString "Story") (Str.ofString "count")) rfl), F_count_done := He5.fun_of (st := s_count_done) g_count_done, m_count_done := He.glo_ok X G (c.at_ 36 (f := .glo (Str.ofString "count_done")) rfl), F_law := He5.fun_of (st := s_law) g_law, m_law := He.glo_ok X G (c.at_ 37 (f := .glo (Str.ofString "law")) rfl), ce_count_done := SbH.code_of g_count_done, tnd := (by simp), m_Token := He.glo_ok X G (c.at_ 38 (f := .glo (Str.ofString "Token")) rfl), cl_Token := He.cls_ok (c.at_ 39 (f := .cls (Str.ofString "Token")) rfl), mk_Token := He.mkr_ok (c.at_ 40 (f := .mkr (Str.ofString "Token")) rfl), n_Token_kind := He.noat_ok (c.at_ 41 (f := .noat (Str.ofString "Token") (Str.ofString "kind")) rfl), n_Token_text := He.noat_ok (c.at_ 42 (f := .noat (Str.ofString "Token") (Str.ofString "text")) rfl), n_Token_line := He.noat_ok (c.at_ 43 (f := .noat (Str.ofString "Token") (Str.ofString "line")) rfl), n_Token_column := He.noat_ok (c.at_ 44 (f := .noat (Str.ofString "Token") (Str.ofString "column")) rfl), m_Robot := He.glo_ok X G (c.at_ 45 (f := .glo (Str.ofString "Robot")) rfl), cl_Robot := He.cls_ok (c.at_ 46 (f := .cls (Str.ofString "Robot")) rfl), mk_Robot := He.mkr_ok (c.at_ 47 (f := .mkr (Str.ofString "Robot")) rfl), n_Robot_start := He.noat_ok (c.at_ 48 (f := .noat (Str.ofString "Robot") (Str.ofString "start")) rfl), n_Robot_steps := He.noat_ok (c.at_ 49 (f := .noat (Str.ofString "Robot") (Str.ofString "steps")) rfl), n_Robot_names := He.noat_ok (c.at_ 50 (f := .noat (Str.ofString "Robot") (Str.ofString "names")) rfl), m_Plan := He.glo_ok X G (c.at_ 51 (f := .glo (Str.ofString "Plan")) rfl), cl_Plan := He.cls_ok (c.at_ 52 (f := .cls (Str.ofString "Plan")) rfl), mk_Plan := He.mkr_ok (c.at_ 53 (f := .mkr (Str.ofString "Plan")) rfl), n_Plan_shelf := He.noat_ok (c.at_ 54 (f := .noat (Str.ofString "Plan") (Str.ofString "shelf")) rfl), n_Plan_robots := He.noat_ok (c.at_ 55 (f := .noat (Str.ofString "Plan") (Str.ofString "robots")) rfl), m_Parser := He.glo_ok X G (c.at_ 56 (f := .glo (Str.ofString "Parser")) rfl), cl_Parser := He.cls_ok (c.at_ 57 (f := .cls (Str.ofString "Parser")) rfl), mk_Parser := He.mkr_ok (c.at_ 58 (f := .mkr (Str.ofString "Parser")) rfl), n_Parser_tokens := He.noat_ok (c.at_ 59 (f := .noat (Str.ofString "Parser") (Str.ofString "tokens")) rfl), n_Parser_at := He.noat_ok (c.at_ 60 (f := .noat (Str.ofString "Parser") (Str.ofString "at")) rfl), n_Parser_faults := He.noat_ok (c.at_ 61 (f := .noat (Str.ofString "Parser") (Str.ofString "faults")) rfl), m_State := He.glo_ok X G (c.at_ 62 (f := .glo (Str.ofString "State")) rfl), cl_State := He.cls_ok (c.at_ 63 (f := .cls (Str.ofString "State")) rfl), mk_State := He.mkr_ok (c.at_ 64 (f := .mkr (Str.ofString "State")) rfl), n_State_cells := He.noat_ok (c.at_ 65 (f := .noat (Str.ofString "State") (Str.ofString "cells")) rfl), n_State_nexts := He.noat_ok (c.at_ 66 (f := .noat (Str.ofString "State") (Str.ofString "nexts")) rfl), n_State_holds := He.noat_ok (c.at_ 67 (f := .noat (Str.ofString "State") (Str.ofString "holds")) rfl), n_State_shelf := He.noat_ok (c.at_ 68 (f := .noat (Str.ofString "State") (Str.ofString "shelf")) rfl), m_Tick := He.glo_ok X G (c.at_ 69 (f := .glo (Str.ofString "Tick")) rfl), cl_Tick := He.cls_ok (c.at_ 70 (f := .cls (Str.ofString "Tick")) rfl), mk_Tick := He.mkr_ok (c.at_ 71 (f := .mkr (Str.ofString "Tick")) rfl), n_Tick_words := He.noat_ok (c.at_ 72 (f := .noat (Str.ofString "Tick") (Str.ofString "words")) rfl), n_Tick_state := He.noat_ok (c.at_ 73 (f := .noat (Str.ofString "Tick") (Str.ofString "state")) rfl), m_Story := He.glo_ok X G (c.at_ 74 (f := .glo (Str.ofString "Story")) rfl), cl_Story := He.cls_ok (c.at_ 75 (f := .cls (Str.ofString "Story")) rfl), mk_Story := He.mkr_ok (c.at_ 76 (f := .mkr (Str.ofString "Story")) rfl), n_Story_ticks := He.noat_ok (c.at_ 77 (f := .noat (Str.ofString "Story") (Str.ofString "ticks")) rfl), n_Story_start := He.noat_ok (c.at_ 78 (f := .noat (Str.ofString "Story") (Str.ofString "start")) rfl), z_len := He.free_ok X G (c.at_ 79 (f := .free (Str.ofString "len")) rfl), z_abs := He.free_ok X G (c.at_ 80 (f := .free (Str.ofString "abs")) rfl), z_range := He.free_ok X G (c.at_ 81 (f := .free (Str.ofString "range")) rfl), z_str := He.free_ok X G (c.at_ 82 (f := .free (Str.ofString "str")) rfl), z_int := He.free_ok X G (c.at_ 83 (f := .free (Str.ofString "int")) rfl), z_tuple := He.free_ok X G (c.at_ 84 (f := .free (Str.ofString "tuple")) rfl), z_list := He.free_ok X G (c.at_ 85 (f := .free (Str.ofString "list")) rfl), z_sum := He.free_ok X G (c.at_ 86 (f := .free (Str.ofString "sum")) rfl), z_isinstance := He.free_ok X G (c.at_ 87 (f := .free (Str.ofString "isinstance")) rfl), z_bool := He.free_ok X G (c.at_ 88 (f := .free (Str.ofString "bool")) rfl), z_enumerate := He.free_ok X G (c.at_ 89 (f := .free (Str.ofString "enumerate")) rfl), z_zip := He.free_ok X G (c.at_ 90 (f := .free (Str.ofString "zip")) rfl), z_min := He.free_ok X G (c.at_ 91 (f := .free (Str.ofString "min")) rfl), z_all := He.free_ok X G (c.at_ 92 (f := .free (Str.ofString "all")) rfl), z_divmod := He.free_ok X G (c.at_ 93 (f := .free (Str.ofString "divmod")) rfl), z_max := He.free_ok X G (c.at_ 94 (f := .free (Str.ofString "max")) rfl), z_dict := He.free_ok X G (c.at_ 95 (f := .free (Str.ofString "dict")) rfl), z_sorted := He.free_ok X G (c.at_ 96 (f := .free (Str.ofString "sorted")) rfl), c_MOVES := He.glo_ok X G (c.at_ 97 (f := .glo (Str.ofString "MOVES")) rfl), q_MOVES := (SbH.tupB_ok hx_tup_MOVES (by decide)).1, k_MOVES := (SbH.tupB_ok hx_tup_MOVES (by decide)).2, c_JUMPS := He.glo_ok X G (c.at_ 98 (f := .glo (Str.ofString "JUMPS")) rfl), q_JUMPS := (SbH.tupB_ok hx_tup_JUMPS (by decide)).1, k_JUMPS := (SbH.tupB_ok hx_tup_JUMPS (by decide)).2, c_KEYWORDS := He.glo_ok X G (c.at_ 99 (f := .glo (Str.ofString "KEYWORDS")) rfl), q_KEYWORDS := (SbH.tupB_ok hx_tup_KEYWORDS (by decide)).1, k_KEYWORDS := (SbH.tupB_ok hx_tup_KEYWORDS (by decide)).2, c_LETTERS := e_LETTERS, c_DIGITS := e_DIGITS, c_SPACES := e_SPACES, c_SIGNS := e_SIGNS, c_MAX_LETTERS := e_MAX_LETTERS, c_MAX_DIGITS := e_MAX_DIGITS, c_NAME := e_NAME, c_NUMBER := e_NUMBER, c_KEYWORD := e_KEYWORD, c_SIGN := e_SIGN, c_END := e_END, c_MIN_CELLS := e_MIN_CELLS, c_MAX_CELLS := e_MAX_CELLS, c_MAX_BOXES := e_MAX_BOXES, c_MAX_STEPS := e_MAX_STEPS, c_MAX_TICK := e_MAX_TICK, c_MAX_STATES := e_MAX_STATES, c_MAX_TRACE := e_MAX_TRACE, c_BLOCKED := e_BLOCKED, P_Story_size := SbH.propB_ok hx_P_Story_size, P_State_key := SbH.propB_ok hx_P_State_key }
  have bl := FunD.bindsA (ps := ["_law_script"]) g_law fun _ _ _ _ _ _ us hl => match us, hl with | [_], _ => rfl
  refine ⟨ad.d_law, hTf.map fun p => He.cT K p, spLaw ad K, fun p hp => ?_, fun p hp => ?_, fun p hp => ?_, fun s v => bl s [v] rfl, fun H a ns hl _ hH hS => ⟨a, ns, rfl, hS, hl, fun p hp => ?_, fun _ => rfl⟩, fun base _ _ hTB => ok_law T { t_count_done := hTB _ (List.mem_map.mpr ⟨((Str.ofString "count_done"), none), by simp [hTf], rfl⟩) }⟩
  · obtain ⟨q, hq, rfl⟩ := List.mem_map.mp hp; exact c.empty q hq
  · obtain ⟨q, hq, rfl⟩ := List.mem_map.mp hp; exact c.out q hq
  · obtain ⟨q, hq, rfl⟩ := List.mem_map.mp hp; exact PySem.W.codeHd_of_K X (c.hd q hq)
  rcases List.mem_cons.mp hp with rfl | hp
  · exact LamX.TabS.nil (hH _ (List.mem_map.mpr ⟨((Str.ofString "count_done"), none), by simp [hTf], rfl⟩))
  exact absurd hp (by simp)
end Sb
open PySem PySem.W PySem.Calls PyProof.Rows in
set_option maxRecDepth 100000 in
set_option maxHeartbeats 0 in
theorem PySem.Challenge.cw_shelfbots_k33_whole_boxes_are_kept_holds : PySem.Challenge.rw_shelfbots_k33_whole_boxes_are_kept.Holds := by
  w_on; o_law
  refine HandSHeadRun.head_any (r := OpenLaw.row PySem.Challenge.rw_shelfbots_k33_whole_boxes_are_kept) (q := view (OpenLaw.row PySem.Challenge.rw_shelfbots_k33_whole_boxes_are_kept).prog [68]) (H := Sb.hHk) (ob := Sb.hOb) (M := 40000) (loose := Sb.hNm) (d := HandSHeadRun.topDef (OpenLaw.row PySem.Challenge.rw_shelfbots_k33_whole_boxes_are_kept).prog 68) (kwd := []) Sb.hOb_eq
    (by kernel_rfl) (fun s => by kernel_rfl) Sb.hRun (by kernel_rfl) (by kernel_rfl) (by kernel_rfl) (by rfl) (by first | assumption | decide +kernel) (by decide +kernel) ⟨rfl, rfl, rfl, rfl, rfl, by decide +kernel⟩ ?hw ?hc
  case hw => w_witness2
  case hc =>
    refine LamX.walk_ofTsE (l := PySem.Challenge.rw_shelfbots_k33_whole_boxes_are_kept) (n := 63) (k := 20) (x := "_law_script") (CX := fun _ => L2.CX0) rfl (by decide) (by kernel_rfl) ⟨rfl, by decide, by decide⟩ ?F (fun _ _ _ _ _ z => z)
    intro w mg fa h Y G hmg0
    obtain ⟨K, KX, c⟩ := Y
    have hmg : mg ("law" : PySem.Str) = some (.ref fa) := by
      have e : (HandSHeadRun.topDef (OpenLaw.row PySem.Challenge.rw_shelfbots_k33_whole_boxes_are_kept).prog 68).name = ("law" : PySem.Str) := by kernel_rfl
      rw [← e]
      exact hmg0
    exact ⟨K, KX, Sb.hAll KX G hmg c⟩


