import PyProof.Rows.All
import Wide.All
import OpenK.AllK
import Wide.FinOn
import HandS.ForMost
import HandS.ForExc
import PySem.Challenge.RW_shelfbots_k03_canonical_plans
import HandS.Walk
import HandS.Zip
import HandS.Style
import HandS.IsInst
import HandS.Star
import HandS.Strs
import HandS.Replace
import HandS.ReplaceList
import HandS.TryOnly
set_option Elab.async false
set_option linter.all false
set_option maxRecDepth 100000
set_option maxHeartbeats 0
namespace Sb
open PySem PySem.Spec PyProof.Rows L2

/-! ### the data heap G within the heap H, grown by new objects alone -/
structure Ext (G H G' H' : Hp) : Prop where
  g : Same G G'
  h : Same G' H'
  n : ∀ b o, G' b = some o → G b = some o ∨ H b = none
  k : ∀ b, H' b = none → H b = none
/-- H without d -/
def wo (d : Addr) (H : Hp) : Hp := fun b => if b = d then none else H b
theorem wo_self {d : Addr} {H : Hp} : wo d H d = none := if_pos rfl
theorem wo_ne {d b : Addr} {H : Hp} (h : b ≠ d) : wo d H b = H b := if_neg h
theorem wo_some {d b : Addr} {H : Hp} {o : HO} (h : wo d H b = some o) : b ≠ d ∧ H b = some o := by
  by_cases e : b = d
  · rw [e, wo_self] at h; cases h
  · rw [wo_ne e] at h; exact ⟨e, h⟩
section
variable {G H G' H' G1 H1 G2 H2 : Hp} {d p l b : Addr} {o o' : HO}
theorem same_new (np : H p = none) : Same H (upd H p o) := fun b u e => by rw [upd_ne (ne_of_none e np)]; exact e
theorem same_up (s : Same G H) (np : H p = none) : Same (upd G p o) (upd H p o) := fun b u e => by
  by_cases h : b = p
  · subst h; rw [upd_same] at e ⊢; exact e
  · rw [upd_ne h] at e ⊢; exact s _ _ e
theorem same_put (s : Same G H) (n : G l = none) : Same G (upd H l o) := fun b u e => by rw [upd_ne (ne_of_none e n)]; exact s _ _ e
theorem same_add (s : Same G H) (h : H l = some o) : Same (upd G l o) H := fun b u e => by
  by_cases hb : b = l
  · subst hb; rw [upd_same] at e; rw [h]; exact e
  · rw [upd_ne hb] at e; exact s _ _ e
theorem Ext.refl (s : Same G H) : Ext G H G H := ⟨Same.refl G, s, fun _ _ e => .inl e, fun _ e => e⟩
theorem Ext.trans (a : Ext G H G1 H1) (b : Ext G1 H1 G2 H2) : Ext G H G2 H2 :=
  ⟨a.g.trans b.g, b.h, fun c o e => (b.n c o e).elim (fun e1 => a.n c o e1) fun e1 => .inr (a.k c e1), fun c e => a.k c (b.k c e)⟩
theorem Ext.start (a : Ext G H G' H') (s : Same G H) : Ext G H G H := Ext.refl s
/-- a new object, data -/
theorem Ext.new (a : Ext G H G1 H1) (np : H1 p = none) : Ext G H (upd G1 p o) (upd H1 p o) := by
  refine ⟨fun b u e => ?_, same_up a.h np, fun b u e => ?_, fun b e => ?_⟩
  · exact same_new (Same.free a.h np) _ _ (a.g b u e)
  · by_cases hb : b = p
    · rw [hb]; exact .inr (a.k p np)
    · rw [upd_ne hb] at e; exact a.n b u e
  · by_cases hb : b = p
    · rw [hb]; exact a.k p np
    · rw [upd_ne hb] at e; exact a.k b e
/-- a new object, not (yet) data -/
theorem Ext.lay (a : Ext G H G1 H1) (np : H1 p = none) : Ext G H G1 (upd H1 p o) := by
  refine ⟨a.g, same_put a.h (Same.free a.h np), a.n, fun b e => ?_⟩
  by_cases hb : b = p
  · rw [hb]; exact a.k p np
  · rw [upd_ne hb] at e; exact a.k b e
/-- a thing that is not data is written -/
theorem Ext.put (a : Ext G H G1 H1) (n : G1 l = none) : Ext G H G1 (upd H1 l o) := by
  refine ⟨a.g, same_put a.h n, a.n, fun b e => ?_⟩
  by_cases hb : b = l
  · rw [hb, upd_same] at e; cases e
  · rw [upd_ne hb] at e; exact a.k b e
/-- a thing made since becomes data -/
theorem Ext.freeze (a : Ext G H G1 H1) (n : H l = none) (h : H1 l = some o) : Ext G H (upd G1 l o) H1 := by
  refine ⟨fun b u e => ?_, same_add a.h h, fun b u e => ?_, a.k⟩
  · have e1 := a.g b u e
    by_cases hb : b = l
    · subst hb; rw [upd_same]; rw [← h]; exact a.h _ _ e1
    · rw [upd_ne hb]; exact e1
  · by_cases hb : b = l
    · rw [hb]; exact .inr n
    · rw [upd_ne hb] at e; exact a.n b u e
theorem Ext.out (a : Ext G H G1 H1) (g : G d = none) (h : H d = some o) : G1 d = none := by
  cases e : G1 d with
  | none => rfl
  | some u =>
    rcases a.n d u e with e1 | e1
    · rw [g] at e1; cases e1
    · rw [h] at e1; cases e1
theorem Ext.same (a : Ext G H G1 H1) : Same G H1 := a.g.trans a.h
theorem Ext.new_out (a : Ext G H G1 H1) (np : H1 p = none) : G1 p = none := Same.free a.h np
/-- the caller's wider data heap -/
theorem same_wo (s : Same G H) (g : G d = none) : Same G (wo d H) := fun b u e => by
  rw [wo_ne (ne_of_none e g)]; exact s _ _ e
end

/-! ### data -/
section
variable {K : PySem.W.Frag} {G H : Hp}
theorem Same.seqT {a : Addr} {xs : List V} (e : Same G H) (h : SqT K G a xs) : SqT K H a xs := by
  rcases h with (h | ⟨o, h⟩) | h
  · exact .inl (.inl (e _ _ h))
  · exact .inl (.inr ⟨o, e _ _ h⟩)
  · exact .inr h
mutual
theorem Dp.mono (s : Same G H) : ∀ (d : PyData) (v : V), Dp K G v d → Dp K H v d
  | _, _, .non => .non
  | _, _, .bl b => .bl b
  | _, _, .int i => .int i
  | _, _, .str x => .str x
  | .list ds, _, .lst h t => .lst (s.seq h) (Dp.monoAll s ds _ t)
  | .tuple ds, _, .tup h t => .tup (Same.seqT s h) (Dp.monoAll s ds _ t)
theorem Dp.monoAll (s : Same G H) : ∀ (ds : List PyData) (vs : List V), DpAll K G vs ds → DpAll K H vs ds
  | _, _, .nil => .nil
  | d :: ds, v :: vs, .cons h t => .cons (Dp.mono s d v h) (Dp.monoAll s ds vs t)
end
theorem DpAll.len : ∀ {vs : List V} {ds : List PyData}, DpAll K G vs ds → vs.length = ds.length
  | _, _, .nil => rfl
  | _, _, .cons _ t => congrArg (· + 1) (DpAll.len t)
theorem DpAll.get : ∀ {vs : List V} {ds : List PyData} {i : Nat} {v : V}, DpAll K G vs ds → vs[i]? = some v → ∃ d, ds[i]? = some d ∧ Dp K G v d
  | _, _, _, _, .nil, e => by simp at e
  | _, _, 0, _, .cons h _, e => by simp at e; subst e; exact ⟨_, rfl, h⟩
  | _, _, i + 1, v, .cons _ t, e => by
    obtain ⟨d, h1, h2⟩ := DpAll.get (i := i) (v := v) t (by simpa using e)
    exact ⟨d, by simpa using h1, h2⟩
theorem DpAll.at : ∀ {vs : List V} {ds : List PyData} {i : Nat} {d : PyData}, DpAll K G vs ds → ds[i]? = some d → ∃ v, vs[i]? = some v ∧ Dp K G v d
  | _, _, _, _, .nil, e => by simp at e
  | _, _, 0, _, .cons h _, e => by simp at e; subst e; exact ⟨_, rfl, h⟩
  | _, _, i + 1, v, .cons _ t, e => by
    obtain ⟨d, h1, h2⟩ := DpAll.at (i := i) t (by simpa using e)
    exact ⟨d, by simpa using h1, h2⟩
theorem DpAll.snoc : ∀ {vs : List V} {ds : List PyData} {v : V} {d : PyData}, DpAll K G vs ds → Dp K G v d → DpAll K G (vs ++ [v]) (ds ++ [d])
  | _, _, _, _, .nil, h => .cons h .nil
  | _, _, _, _, .cons h t, h' => .cons h (DpAll.snoc t h')
theorem DpAll.append : ∀ {vs us : List V} {ds es : List PyData}, DpAll K G vs ds → DpAll K G us es → DpAll K G (vs ++ us) (ds ++ es)
  | _, _, _, _, .nil, h => h
  | _, _, _, _, .cons h t, h' => .cons h (DpAll.append t h')
theorem DpAll.ints : ∀ (ns : List Int), DpAll K G (ns.map V.int) (ns.map PyData.int)
  | [] => .nil
  | n :: ns => .cons (.int n) (DpAll.ints ns)
theorem DpAll.strs : ∀ (ns : List Str), DpAll K G (ns.map V.str) (ns.map PyData.str)
  | [] => .nil
  | n :: ns => .cons (.str n) (DpAll.strs ns)
theorem Dp.int_inv {v : V} {i : Int} (h : Dp K G v (.int i)) : v = .int i := by cases h; rfl
theorem Dp.str_inv {v : V} {i : Str} (h : Dp K G v (.str i)) : v = .str i := by cases h; rfl
theorem Dp.none_inv {v : V} (h : Dp K G v .none) : v = .non := by cases h; rfl
theorem Dp.bool_inv {v : V} {b : Bool} (h : Dp K G v (.bool b)) : v = .bl b := by cases h; rfl
theorem Dp.tup_inv {v : V} {ds : List PyData} (h : Dp K G v (.tuple ds)) : ∃ a xs, v = .ref a ∧ SqT K G a xs ∧ DpAll K G xs ds := by
  cases h with
  | tup h t => exact ⟨_, _, rfl, h, t⟩
theorem Dp.lst_inv {v : V} {ds : List PyData} (h : Dp K G v (.list ds)) : ∃ a xs, v = .ref a ∧ SqL K G a xs ∧ DpAll K G xs ds := by
  cases h with
  | lst h t => exact ⟨_, _, rfl, h, t⟩
theorem DpAll.nil_inv {vs : List V} (h : DpAll K G vs []) : vs = [] := by cases h; rfl
theorem DpAll.cons_inv {vs : List V} {d : PyData} {ds : List PyData} (h : DpAll K G vs (d :: ds)) : ∃ v r, vs = v :: r ∧ Dp K G v d ∧ DpAll K G r ds := by
  cases h with
  | cons h t => exact ⟨_, _, rfl, h, t⟩
theorem DpAll.ints_inv : ∀ {ns : List Int} {vs : List V}, DpAll K G vs (ns.map PyData.int) → vs = ns.map V.int
  | [], _, .nil => rfl
  | _ :: _, _, .cons h t => by rw [Dp.int_inv h, DpAll.ints_inv t]; rfl
theorem DpAll.strs_inv : ∀ {ns : List Str} {vs : List V}, DpAll K G vs (ns.map PyData.str) → vs = ns.map V.str
  | [], _, .nil => rfl
  | _ :: _, _, .cons h t => by rw [Dp.str_inv h, DpAll.strs_inv t]; rfl
end

/-! ### fields of a new instance -/
theorem putF_new {f : Str} {v : V} : ∀ {fs : List (Str × V)}, f ∉ fs.map (·.1) → putF f v fs = fs ++ [(f, v)]
  | [], _ => rfl
  | (g, u) :: r, h => by
    have h1 : ¬ g = f := fun e => h (by simp [e])
    have h2 : f ∉ r.map (·.1) := fun e => h (by simp only [List.map_cons, List.mem_cons]; exact .inr e)
    show (if g = f then _ else (g, u) :: putF f v r) = _
    rw [if_neg h1, putF_new h2]
    rfl
theorem ite_b {c : Bool} {A B : Prop} (h1 : c = true → A) (h2 : c = false → B) : if c = true then A else B := by
  cases c with
  | true => rw [if_pos rfl]; exact h1 rfl
  | false => rw [if_neg Bool.false_ne_true]; exact h2 rfl
theorem ite_t {c : Bool} {A B : Prop} (hc : c = true) (h : A) : if c = true then A else B := by rw [if_pos hc]; exact h
theorem ite_f {c : Bool} {A B : Prop} (hc : c = false) (h : B) : if c = true then A else B := by rw [hc, if_neg Bool.false_ne_true]; exact h
theorem small {n : Nat} (m : Nat) (h : n ≤ m) (hm : m ≤ 16777216) : n ≤ sizeLine := by rw [sizeLine_eq]; omega
theorem smaller {n : Nat} (m : Nat) (h : n ≤ m) (hm : m < 16777216) : n < sizeLine := by rw [sizeLine_eq]; omega

/-! ### the source of draws: d = [seed, digits, further..] -/
structure Src (ds : List Int) : Prop where
  ex : ∃ s e r, ds = s :: e :: r ∧ 0 ≤ s ∧ 0 ≤ e ∧ (∀ x ∈ r, (0 : Int) ≤ x) ∧ r.length ≤ 63
end Sb

namespace Sb
open PySem PySem.Spec PyProof.Rows L2
/-! ### the heap with the source of draws at d, beside the data heap G -/
structure Now (d : Addr) (G H : Hp) : Prop where
  s : Same G H
  o : G d = none
  x : ∃ ds : List Int, H d = some (.lst (ds.map V.int)) ∧ Src ds
structure At (d : Addr) (G0 H0 G H : Hp) : Prop where
  now : Now d G H
  ext : Ext G0 H0 G H
  sm : Same (wo d H0) H
section
variable {d p l : Addr} {G0 H0 G H G1 H1 G2 H2 : Hp} {o : HO} {ds : List Int}
theorem Now.at (h : Now d G H) : At d G H G H := ⟨h, Ext.refl h.s, fun b o e => (wo_some e).2⟩
theorem Now.ne (h : Now d G H) (np : H p = none) : p ≠ d := by
  obtain ⟨ds, h1, _⟩ := h.x
  exact fun e => by rw [e, h1] at np; cases np
theorem At.ne (h : At d G0 H0 G H) (np : H p = none) : p ≠ d := h.now.ne np
theorem At.new (h : At d G0 H0 G H) (np : H p = none) (o : HO) : At d G0 H0 (upd G p o) (upd H p o) := by
  refine ⟨⟨same_up h.now.s np, ?_, ?_⟩, h.ext.new np, h.sm.trans (same_new np)⟩
  · rw [upd_ne (h.ne np).symm]; exact h.now.o
  · rw [upd_ne (h.ne np).symm]; exact h.now.x
theorem At.lay (h : At d G0 H0 G H) (np : H p = none) (o : HO) : At d G0 H0 G (upd H p o) := by
  refine ⟨⟨same_put h.now.s (Same.free h.now.s np), h.now.o, ?_⟩, h.ext.lay np, h.sm.trans (same_new np)⟩
  rw [upd_ne (h.ne np).symm]; exact h.now.x
theorem At.draw (h : At d G0 H0 G H) (s : Src ds) : At d G0 H0 G (upd H d (.lst (ds.map V.int))) :=
  ⟨⟨same_put h.now.s h.now.o, h.now.o, ⟨ds, upd_same, s⟩⟩, h.ext.put h.now.o, same_put h.sm wo_self⟩
/-- a thing made since, not data, is written -/
theorem At.put (h : At d G0 H0 G H) (n0 : H0 l = none) (n : G l = none) (hd : l ≠ d) (o : HO) : At d G0 H0 G (upd H l o) := by
  refine ⟨⟨same_put h.now.s n, h.now.o, ?_⟩, h.ext.put n, same_put h.sm ?_⟩
  · rw [upd_ne hd.symm]; exact h.now.x
  · rw [wo_ne hd]; exact n0
theorem At.freeze (h : At d G0 H0 G H) (n0 : H0 l = none) (hl : H l = some o) (hd : l ≠ d) : At d G0 H0 (upd G l o) H :=
  ⟨⟨same_add h.now.s hl, by rw [upd_ne hd.symm]; exact h.now.o, h.now.x⟩, h.ext.freeze n0 hl, h.sm⟩
theorem At.trans (a : At d G0 H0 G H) (b : At d G H G1 H1) : At d G0 H0 G1 H1 := by
  refine ⟨b.now, a.ext.trans b.ext, fun c o e => ?_⟩
  have e1 := a.sm c o e
  exact b.sm c o (by rw [wo_ne (wo_some e).1]; exact e1)
theorem At.g (a : At d G0 H0 G H) : Same G0 G := a.ext.g
/-- what is not the source stands through a call -/
theorem At.kept (a : At d G H G1 H1) (h : H l = some o) (hd : l ≠ d) : H1 l = some o := a.sm l o (by rw [wo_ne hd]; exact h)
/-- behind a pure call -/
theorem At.pure (a : At d G0 H0 G H) (e : Ext G H G1 H1) (s : Same H H1) : At d G0 H0 G1 H1 := by
  obtain ⟨ds, h1, h2⟩ := a.now.x
  exact ⟨⟨e.h, e.out a.now.o h1, ⟨ds, s _ _ h1, h2⟩⟩, a.ext.trans e, a.sm.trans s⟩
end

/-- what follows a statement, shown once -/
theorem seq_rest {t u : TS} {D : Ends} {σ : L2.St} {H : Hp} (P : Hp → Prop) (σ' : L2.St) (hr : ∀ H, P H → u D σ' H) (h : (∀ H, P H → u D σ' H) → t { D with nx := u D } σ H) : tSeq t u D σ H := h hr
theorem seq_restσ {t u : TS} {D : Ends} {σ : L2.St} {H : Hp} (P : L2.St → Hp → Prop) (hr : ∀ σ H, P σ H → u D σ H) (h : (∀ σ H, P σ H → u D σ H) → t { D with nx := u D } σ H) : tSeq t u D σ H := h hr

/-! ### plans -/
def wds : List Str := ["left", "right", "pick", "put", "wait", "goto", "empty", "held"]
def wS (w : Nat) : Str := wds.getD w Str.empty
structure Step where
  w : Nat
  g : Option Nat
  deriving DecidableEq
def optD : Option Nat → PyData
  | none => .none
  | some k => .int k
def natD (n : Nat) : PyData := .int n
def Step.D (s : Step) : PyData := .tuple [.str (wS s.w), optD s.g]
structure Step.Ok (n : Nat) (s : Step) : Prop where
  w8 : s.w < 8
  no : s.w < 5 → s.g = none
  yes : 5 ≤ s.w → ∃ k, s.g = some k ∧ k < n
def stepsD (l : List Step) : PyData := .list (l.map Step.D)
structure StepsOk (l : List Step) : Prop where
  pos : 1 ≤ l.length
  le : l.length ≤ 20
  all : ∀ s ∈ l, Step.Ok l.length s
structure Pl where
  shelf : List Nat
  a : Nat
  b : Nat
  p : List Step
  q : List Step
def Pl.D (x : Pl) : PyData := .tuple [.tuple (x.shelf.map natD), .tuple [natD x.a, natD x.b], .list [stepsD x.p, stepsD x.q]]
structure Pl.Ok (x : Pl) : Prop where
  c3 : 3 ≤ x.shelf.length
  c12 : x.shelf.length ≤ 12
  b3 : ∀ n ∈ x.shelf, n ≤ 3
  ha : x.a < x.shelf.length
  hb : x.b < x.shelf.length
  ne : x.a ≠ x.b
  p : StepsOk x.p
  q : StepsOk x.q
/-- a def that draws: from the heap as it stands to one with R of its value -/
def Drawn (d : Addr) (G H : Hp) (Q : VK) (R : Hp → V → Prop) : Prop := Now d G H ∧ ∀ (G' H' : Hp) (v : V), At d G H G' H' → R G' v → Q v H'
/-- a def that changes nothing that stood -/
def Pure (G H : Hp) (Q : VK) (R : Hp → V → Prop) : Prop := Same G H ∧ ∀ (G' H' : Hp) (v : V), Ext G H G' H' → Same H H' → R G' v → Q v H'
end Sb

namespace Sb
open PySem PySem.Spec PyProof.Rows L2 TL
/-! ### canonical texts, by codes -/
def mkS (l : List Nat) : Str := ⟨l.toArray⟩
theorem tl_mkS (l : List Nat) : tl (mkS l) = l := rfl
theorem mkS_tl (x : Str) : mkS (tl x) = x := mk_tl x
theorem mkS_of {x : Str} {l : List Nat} (h : tl x = l) : x = mkS l := ext_tl h
theorem len_mkS (l : List Nat) : (mkS l).length = l.length := len_tl _
theorem len_app (x y : Str) : (x ++ y).length = x.length + y.length := by rw [len_tl, tl_append, List.length_append, ← len_tl, ← len_tl]
def wL (w : Nat) : List Nat := tl (wS w)
def goalsOf (ss : List Step) : List Nat := ss.filterMap Step.g
def stepL (gs : List Nat) (k : Nat) (s : Step) : List Nat :=
  [32, 32] ++ (if k ∈ gs then [115, 97 + k, 58, 32] else []) ++ wL s.w ++ (match s.g with | none => [] | some g => [32, 115, 97 + g]) ++ [59]
def stepsL (gs : List Nat) (k : Nat) : List Step → List (List Nat)
  | [] => []
  | s :: r => stepL gs k s :: stepsL gs (k + 1) r
def robotL (n : Nat) (ss : List Step) : List (List Nat) := ([114, 111, 98, 111, 116, 32] ++ numL n ++ [32, 123]) :: (stepsL (goalsOf ss) 0 ss ++ [[125]])
def shelfL (l : List Nat) : List Nat := [115, 104, 101, 108, 102, 32] ++ joinL [32] (l.map numL) ++ [59]
def linesL (x : Pl) : List (List Nat) := shelfL x.shelf :: (robotL x.a x.p ++ robotL x.b x.q)
def textL (x : Pl) : List Nat := joinL [10] (linesL x)
def textS (x : Pl) : Str := mkS (textL x)
theorem stepsL_len (gs : List Nat) : ∀ (k : Nat) (ss : List Step), (stepsL gs k ss).length = ss.length
  | _, [] => rfl
  | k, s :: r => by show (stepsL gs (k + 1) r).length + 1 = _; rw [stepsL_len gs (k + 1) r]; rfl
theorem stepsL_snoc (gs : List Nat) : ∀ (k : Nat) (ss : List Step) (s : Step), stepsL gs k (ss ++ [s]) = stepsL gs k ss ++ [stepL gs (k + ss.length) s]
  | k, [], s => rfl
  | k, t :: r, s => by
    show stepL gs k t :: stepsL gs (k + 1) (r ++ [s]) = _
    rw [stepsL_snoc gs (k + 1) r s]
    show _ = stepL gs k t :: (stepsL gs (k + 1) r ++ [stepL gs (k + (r.length + 1)) s])
    have e : k + 1 + r.length = k + (r.length + 1) := by omega
    rw [e]
/-! lengths -/
theorem wL_len : ∀ {w : Nat}, w < 8 → (wL w).length ≤ 5 := by
  have h : ∀ w : _root_.Fin 8, (wL w.val).length ≤ 5 := by decide +kernel
  exact fun {w} hw => h ⟨w, hw⟩
theorem wS_len {w : Nat} (h : w < 8) : (wS w).length ≤ 5 := by rw [len_tl]; exact wL_len h
theorem stepL_len {gs : List Nat} {k n : Nat} {s : Step} (h : Step.Ok n s) : (stepL gs k s).length ≤ 15 := by
  have h1 := wL_len h.w8
  unfold stepL
  simp only [List.length_append]
  have h2 : (if k ∈ gs then [115, 97 + k, 58, 32] else ([] : List Nat)).length ≤ 4 := by split <;> simp
  have h3 : (match s.g with | none => ([] : List Nat) | some g => [32, 115, 97 + g]).length ≤ 3 := by split <;> simp
  have h4 : ([32, 32] : List Nat).length = 2 := rfl
  have h5 : ([59] : List Nat).length = 1 := rfl
  omega
theorem joinL_len (S : List Nat) (m : Nat) : ∀ l : List (List Nat), (∀ p ∈ l, p.length ≤ m) → (joinL S l).length ≤ l.length * (m + S.length)
  | [], _ => by simp [joinL]
  | [x], h => by
    have := h x (by simp)
    show x.length ≤ 1 * (m + S.length)
    omega
  | x :: y :: r, h => by
    have h1 := h x (by simp)
    have ih := joinL_len S m (y :: r) (fun p hp => h p (by simp only [List.mem_cons] at hp ⊢; exact .inr hp))
    show (x ++ (S ++ joinL S (y :: r))).length ≤ _
    rw [List.length_append, List.length_append]
    have e : (x :: y :: r).length = (y :: r).length + 1 := rfl
    rw [e, Nat.add_mul, Nat.one_mul]
    omega
theorem numS_tl (n : Nat) : tl (Str.ofString (toString ((n : Nat) : Int))) = numL n := tl_num n
theorem num_len {n : Nat} (h : n < 100) : (numL n).length ≤ 2 := numL_len (by decide) (by show n < 10 ^ 2; omega)
theorem numS_len {n : Nat} (h : n < 100) : (Str.ofString (toString ((n : Nat) : Int))).length ≤ 2 := by rw [len_tl, tl_num]; exact num_len h
def abc : Str := "abcdefghijklmnopqrst"
theorem abc_at : ∀ {k : Nat}, k < 20 → abc.cps.toList[k]? = some (97 + k) := by
  have h : ∀ k : _root_.Fin 20, abc.cps.toList[k.val]? = some (97 + k.val) := by decide +kernel
  exact fun {k} hk => h ⟨k, hk⟩
theorem abc_len : abc.length = 20 := by decide +kernel
theorem in_nats (k : Nat) : ∀ l : List Nat, inV (.int k) (l.map fun n : Nat => V.int n) = decide (k ∈ l)
  | [] => by simp [inV]
  | n :: r => by
    have ih := in_nats k r
    unfold inV at ih ⊢
    rw [List.map_cons, List.any_cons, ih]
    have e : eqV (.int n) (.int k) = decide (n = k) := by
      unfold eqV
      by_cases h : n = k
      · subst h; simp
      · have h2 : ¬ (n : Int) = (k : Int) := fun q => h (by exact_mod_cast q)
        simp [h, h2]
    rw [e]
    by_cases h : n = k
    · subst h; simp
    · have h' : ¬ k = n := fun q => h q.symm
      simp [h, h']
theorem nats_flat (l : List Nat) : (l.map fun n : Nat => V.int n).all flatV = true := by
  rw [List.all_eq_true]
  intro x hx
  obtain ⟨n, _, rfl⟩ := List.mem_map.mp hx
  rfl
/-! the pieces as texts -/
theorem sp2 : tl (Str.ofString "  ") = [32, 32] := by decide +kernel
theorem t_s : tl (Str.ofString "s") = [115] := by decide +kernel
theorem t_cs : tl (Str.ofString ": ") = [58, 32] := by decide +kernel
theorem t_sc : tl (Str.ofString ";") = [59] := by decide +kernel
theorem t_ss : tl (Str.ofString " s") = [32, 115] := by decide +kernel
theorem t_sp : tl (Str.ofString " ") = [32] := by decide +kernel
theorem t_nl : tl (Str.ofString "\n") = [10] := by decide +kernel
theorem t_e : tl (Str.ofString "") = [] := by decide +kernel
theorem t_rb : tl (Str.ofString "robot ") = [114, 111, 98, 111, 116, 32] := by decide +kernel
theorem t_lb : tl (Str.ofString " {") = [32, 123] := by decide +kernel
theorem t_cb : tl (Str.ofString "}") = [125] := by decide +kernel
theorem t_sh : tl (Str.ofString "shelf ") = [115, 104, 101, 108, 102, 32] := by decide +kernel
theorem lines_len {x : Pl} (h : x.Ok) : ∀ p ∈ linesL x, p.length ≤ 60 := by
  have rob : ∀ (n : Nat) (ss : List Step), n < 12 → StepsOk ss → ∀ p ∈ robotL n ss, p.length ≤ 60 := by
    intro n ss hn hs p hp
    rcases List.mem_cons.mp hp with rfl | hp
    · have := num_len (n := n) (by omega)
      simp only [List.length_append, List.length_cons, List.length_nil]
      omega
    · rcases List.mem_append.mp hp with hp | hp
      · have all : ∀ (gs : List Nat) (k : Nat) (l : List Step), (∀ s ∈ l, s ∈ ss) → ∀ p ∈ stepsL gs k l, p.length ≤ 15 := by
          intro gs k l
          induction l generalizing k with
          | nil => intro _ p hp; cases hp
          | cons s r ih =>
            intro hl p hp
            rcases List.mem_cons.mp hp with rfl | hp
            · exact stepL_len (hs.all s (hl s (by simp)))
            · exact ih (k + 1) (fun s h => hl s (by simp [h])) p hp
        have := all _ _ _ (fun s h => h) p hp
        omega
      · rw [List.mem_singleton.mp hp]
        decide
  intro p hp
  rcases List.mem_cons.mp hp with rfl | hp
  · unfold shelfL
    have h1 := joinL_len [32] 2 (x.shelf.map numL) (fun p hp => by
      obtain ⟨n, hn, rfl⟩ := List.mem_map.mp hp
      exact num_len (by have := h.b3 n hn; omega))
    have h2 := h.c12
    simp only [List.length_append, List.length_cons, List.length_nil, List.length_map] at h1 ⊢
    omega
  · rcases List.mem_append.mp hp with hp | hp
    · exact rob x.a x.p (by have := h.ha; have := h.c12; omega) h.p p hp
    · exact rob x.b x.q (by have := h.hb; have := h.c12; omega) h.q p hp
theorem robotL_len (n : Nat) (ss : List Step) : (robotL n ss).length = ss.length + 2 := by
  unfold robotL
  rw [List.length_cons, List.length_append, stepsL_len]
  rfl
theorem linesL_len {x : Pl} (h : x.Ok) : (linesL x).length ≤ 45 := by
  unfold linesL
  rw [List.length_cons, List.length_append, robotL_len, robotL_len]
  have := h.p.le
  have := h.q.le
  omega
theorem textL_len {x : Pl} (h : x.Ok) : (textL x).length ≤ 2745 := by
  have h1 := joinL_len [10] 60 (linesL x) (lines_len h)
  have h2 := linesL_len h
  have h3 : (linesL x).length * (60 + 1) ≤ 45 * 61 := Nat.mul_le_mul_right 61 h2
  exact Nat.le_trans h1 h3
end Sb

namespace Sb
open PySem PySem.Spec PyProof.Rows L2 TL
/-! ### tokens -/
inductive Kd where
  | name | number | keyword | sign | fin
  deriving DecidableEq
def kS : Kd → Str
  | .name => "name"
  | .number => "number"
  | .keyword => "keyword"
  | .sign => "sign"
  | .fin => "end"
structure Tk where
  k : Kd
  t : List Nat
  deriving DecidableEq
def sgnS : Str := ";:{}"
def digS : Str := "0123456789"
def letS : Str := "abcdefghijklmnopqrstuvwxyz"
def spcS : Str := " \n"
def kwS : List Str := ["shelf", "robot", "left", "right", "pick", "put", "wait", "goto", "empty", "held"]
def kwL : List (List Nat) := kwS.map tl
def HeadNot (S : List Nat) (r : List Nat) : Prop := ∀ c r', r = c :: r' → c ∉ S
inductive Rd : List Nat → Tk → List Nat → Prop
  | sign {c : Nat} {r : List Nat} : c ∈ tl sgnS → Rd (c :: r) ⟨.sign, [c]⟩ r
  | num {t r : List Nat} : t ≠ [] → (∀ c ∈ t, c ∈ tl digS) → t.length ≤ 2 → (1 < t.length → t.head? ≠ some 48) → HeadNot (tl digS) r → Rd (t ++ r) ⟨.number, t⟩ r
  | kw {t r : List Nat} : (∀ c ∈ t, c ∈ tl letS) → t ∈ kwL → HeadNot (tl letS) r → Rd (t ++ r) ⟨.keyword, t⟩ r
  | nm {t r : List Nat} : (∀ c ∈ t, c ∈ tl letS) → 1 ≤ t.length → t.length ≤ 8 → t ∉ kwL → HeadNot (tl letS) r → Rd (t ++ r) ⟨.name, t⟩ r
inductive Lx : List Nat → List Tk → Prop
  | nil : Lx [] []
  | sp {r : List Nat} {ts : List Tk} : Lx r ts → Lx (32 :: r) ts
  | tok {l r : List Nat} {k : Tk} {ts : List Tk} : Rd l k r → Lx r ts → Lx l (k :: ts)
/-- the tokens of all rows -/
inductive LxAll : List (List Nat) → List Tk → Prop
  | nil : LxAll [] []
  | cons {l : List Nat} {ls : List (List Nat)} {ts us : List Tk} : Lx l ts → LxAll ls us → LxAll (l :: ls) (ts ++ us)
theorem sgn_list : tl sgnS = [59, 58, 123, 125] := by decide +kernel
theorem dig_list : tl digS = [48, 49, 50, 51, 52, 53, 54, 55, 56, 57] := by decide +kernel
theorem let_list : tl letS = [97, 98, 99, 100, 101, 102, 103, 104, 105, 106, 107, 108, 109, 110, 111, 112, 113, 114, 115, 116, 117, 118, 119, 120, 121, 122] := by decide +kernel
theorem spc_list : tl spcS = [32, 10] := by decide +kernel
theorem mem_dig {c : Nat} : c ∈ tl digS ↔ 48 ≤ c ∧ c ≤ 57 := by
  rw [dig_list]; simp; omega
theorem mem_let {c : Nat} : c ∈ tl letS ↔ 97 ≤ c ∧ c ≤ 122 := by
  rw [let_list]; simp; omega
theorem mem_sgn {c : Nat} : c ∈ tl sgnS ↔ c = 59 ∨ c = 58 ∨ c = 123 ∨ c = 125 := by
  rw [sgn_list]; simp
/-- the run of signs of S at the head -/
def runL (S : List Nat) : List Nat → Nat
  | [] => 0
  | c :: r => if c ∈ S then runL S r + 1 else 0
theorem runL_app {S t r : List Nat} (h : ∀ c ∈ t, c ∈ S) (hr : HeadNot S r) : runL S (t ++ r) = t.length := by
  induction t with
  | nil =>
    cases r with
    | nil => rfl
    | cons c r => show (if c ∈ S then _ else 0) = 0; rw [if_neg (hr c r rfl)]
  | cons c t ih =>
    show (if c ∈ S then runL S (t ++ r) + 1 else 0) = _
    rw [if_pos (h c (by simp)), ih (fun c hc => h c (by simp [hc]))]
    rfl
theorem runL_le (S : List Nat) : ∀ l : List Nat, runL S l ≤ l.length
  | [] => Nat.le_refl _
  | c :: r => by
    show (if c ∈ S then runL S r + 1 else 0) ≤ r.length + 1
    have := runL_le S r
    split <;> omega
theorem cut_run {z : Str} {c n : Nat} (h : c + n ≤ (tl z).length) : tl (cutS z (some (c : Int)) (some ((c + n : Nat) : Int))) = ((tl z).drop c).take n := by
  show ((tl z).drop (HT.sIx z.length 0 (some (c : Int)))).take (HT.sIx z.length z.length (some ((c + n : Nat) : Int)) - HT.sIx z.length 0 (some (c : Int))) = _
  rw [HT.sIx_nat, HT.sIx_nat]
  have e1 : min c z.length = c := by rw [len_tl]; omega
  have e2 : min (c + n) z.length = c + n := by rw [len_tl]; omega
  rw [e1, e2, Nat.add_sub_cancel_left]
end Sb

namespace Sb
open PySem PySem.Spec PyProof.Rows L2
def topS (i : Nat) : Stmt := PySem.Challenge.pw_shelfbots_k03_canonical_plans.main.body.getD i (.Pass ⟨0, 0, 0, 0⟩)
abbrev s_l_random : Stmt := topS 40
theorem sc_l_random : FnScope ["_law_script", "_law_salt", "_law_seed", "_law_cell"] ["_law_script", "_law_salt"] (defScope s_l_random) := ⟨rfl, rfl, rfl, by decide +kernel, rfl, by decide +kernel, by decide +kernel⟩
abbrev s_l_below : Stmt := topS 41
theorem sc_l_below : FnScope ["_law_d", "_law_limit", "_law_result"] ["_law_d", "_law_limit"] (defScope s_l_below) := ⟨rfl, rfl, rfl, by decide +kernel, rfl, by decide +kernel, by decide +kernel⟩
abbrev s_l_steps : Stmt := topS 42
theorem sc_l_steps : FnScope ["_law_d", "_law_most", "_law_many", "_law_words", "_law_ways", "_law_limit", "_law_found", "_law_k", "_law_word"] ["_law_d", "_law_most"] (defScope s_l_steps) := ⟨rfl, rfl, rfl, by decide +kernel, rfl, by decide +kernel, by decide +kernel⟩
abbrev s_l_plan : Stmt := topS 43
theorem sc_l_plan : FnScope ["_law_d", "_law_most", "_law_many_cells", "_law_first", "_law_second", "_law_shelf", "_law_k"] ["_law_d", "_law_most"] (defScope s_l_plan) := ⟨rfl, rfl, rfl, by decide +kernel, rfl, by decide +kernel, by decide +kernel⟩
abbrev s_l_text : Stmt := topS 44
theorem sc_l_text : FnScope ["_law_plan_here", "_law_shelf", "_law_starts", "_law_both", "_law_lines", "_law_pieces", "_law_number", "_law_goals", "_law_word", "_law_goal", "_law_k", "_law_mark", "_law_target"] ["_law_plan_here"] (defScope s_l_text) := ⟨rfl, rfl, rfl, by decide +kernel, rfl, by decide +kernel, by decide +kernel⟩
abbrev s_l_shuffled : Stmt := topS 45
theorem sc_l_shuffled : FnScope ["_law_d", "_law_items", "_law_pool", "_law_result"] ["_law_d", "_law_items"] (defScope s_l_shuffled) := ⟨rfl, rfl, rfl, by decide +kernel, rfl, by decide +kernel, by decide +kernel⟩
abbrev s_l_equal : Stmt := topS 46
theorem sc_l_equal : FnScope ["_law_actual", "_law_expected", "_law_k"] ["_law_actual", "_law_expected"] (defScope s_l_equal) := ⟨rfl, rfl, rfl, by decide +kernel, rfl, by decide +kernel, by decide +kernel⟩
abbrev s_Parser_peek : Stmt := inClass (topS 31) 1
theorem sc_Parser_peek : FnScope ["self"] ["self"] (defScope s_Parser_peek) := ⟨rfl, rfl, rfl, by decide +kernel, rfl, by decide +kernel, by decide +kernel⟩
abbrev s_Token_init : Stmt := inClass (topS 20) 0
theorem sc_Token_init : FnScope ["self", "kind", "text", "line", "column"] ["self", "kind", "text", "line", "column"] (defScope s_Token_init) := ⟨rfl, rfl, rfl, by decide +kernel, rfl, by decide +kernel, by decide +kernel⟩
abbrev s_Robot_init : Stmt := inClass (topS 29) 0
theorem sc_Robot_init : FnScope ["self", "start", "steps", "names"] ["self", "start", "steps", "names"] (defScope s_Robot_init) := ⟨rfl, rfl, rfl, by decide +kernel, rfl, by decide +kernel, by decide +kernel⟩
abbrev s_Plan_init : Stmt := inClass (topS 30) 0
theorem sc_Plan_init : FnScope ["self", "shelf", "robots"] ["self", "shelf", "robots"] (defScope s_Plan_init) := ⟨rfl, rfl, rfl, by decide +kernel, rfl, by decide +kernel, by decide +kernel⟩
abbrev s_Parser_init : Stmt := inClass (topS 31) 0
theorem sc_Parser_init : FnScope ["self", "tokens"] ["self", "tokens"] (defScope s_Parser_init) := ⟨rfl, rfl, rfl, by decide +kernel, rfl, by decide +kernel, by decide +kernel⟩
abbrev s_Parser_fail : Stmt := inClass (topS 31) 2
theorem sc_Parser_fail : FnScope ["self", "token"] ["self"] (defScope s_Parser_fail) := ⟨rfl, rfl, rfl, by decide +kernel, rfl, by decide +kernel, by decide +kernel⟩
abbrev s_Parser_take_word : Stmt := inClass (topS 31) 5
theorem sc_Parser_take_word : FnScope ["self", "word", "token"] ["self", "word"] (defScope s_Parser_take_word) := ⟨rfl, rfl, rfl, by decide +kernel, rfl, by decide +kernel, by decide +kernel⟩
abbrev s_Parser_take : Stmt := inClass (topS 31) 4
theorem sc_Parser_take : FnScope ["self", "kind", "token"] ["self", "kind"] (defScope s_Parser_take) := ⟨rfl, rfl, rfl, by decide +kernel, rfl, by decide +kernel, by decide +kernel⟩
abbrev s_Parser_found : Stmt := inClass (topS 31) 3
theorem sc_Parser_found : FnScope ["self", "reason", "token"] ["self", "reason", "token"] (defScope s_Parser_found) := ⟨rfl, rfl, rfl, by decide +kernel, rfl, by decide +kernel, by decide +kernel⟩
abbrev s_Parser_parse_shelf : Stmt := inClass (topS 31) 6
theorem sc_Parser_parse_shelf : FnScope ["self", "keyword", "tokens", "place", "token"] ["self"] (defScope s_Parser_parse_shelf) := ⟨rfl, rfl, rfl, by decide +kernel, rfl, by decide +kernel, by decide +kernel⟩
abbrev s_Parser_parse_step : Stmt := inClass (topS 31) 7
theorem sc_Parser_parse_step : FnScope ["self", "names", "jumps", "token"] ["self", "names", "jumps"] (defScope s_Parser_parse_step) := ⟨rfl, rfl, rfl, by decide +kernel, rfl, by decide +kernel, by decide +kernel⟩
abbrev s_Parser_parse_robot : Stmt := inClass (topS 31) 8
theorem sc_Parser_parse_robot : FnScope ["self", "cells", "others", "token", "words", "names", "jumps", "steps", "word", "jump"] ["self", "cells", "others"] (defScope s_Parser_parse_robot) := ⟨rfl, rfl, rfl, by decide +kernel, rfl, by decide +kernel, by decide +kernel⟩
abbrev s_Parser_parse_plan : Stmt := inClass (topS 31) 9
theorem sc_Parser_parse_plan : FnScope ["self", "shelf", "first", "second", "line", "column", "number", "reason"] ["self"] (defScope s_Parser_parse_plan) := ⟨rfl, rfl, rfl, by decide +kernel, rfl, by decide +kernel, by decide +kernel⟩
abbrev s_run_end : Stmt := topS 21
theorem sc_run_end : FnScope ["row", "start", "letters", "end"] ["row", "start", "letters"] (defScope s_run_end) := ⟨rfl, rfl, rfl, by decide +kernel, rfl, by decide +kernel, by decide +kernel⟩
abbrev s_read_token : Stmt := topS 22
theorem sc_read_token : FnScope ["row", "line", "column", "first", "word"] ["row", "line", "column"] (defScope s_read_token) := ⟨rfl, rfl, rfl, by decide +kernel, rfl, by decide +kernel, by decide +kernel⟩
abbrev s_tokenize : Stmt := topS 23
theorem sc_tokenize : FnScope ["source", "tokens", "rows", "line", "row", "column", "token"] ["source"] (defScope s_tokenize) := ⟨rfl, rfl, rfl, by decide +kernel, rfl, by decide +kernel, by decide +kernel⟩
abbrev s_load : Stmt := topS 32
theorem sc_load : FnScope ["plan"] ["plan"] (defScope s_load) := ⟨rfl, rfl, rfl, by decide +kernel, rfl, by decide +kernel, by decide +kernel⟩
abbrev s_count_steps : Stmt := topS 38
theorem sc_count_steps : FnScope ["plan", "first", "second"] ["plan"] (defScope s_count_steps) := ⟨rfl, rfl, rfl, by decide +kernel, rfl, by decide +kernel, by decide +kernel⟩
abbrev s_label : Stmt := topS 34
theorem sc_label : FnScope ["number"] ["number"] (defScope s_label) := ⟨rfl, rfl, rfl, by decide +kernel, rfl, by decide +kernel, by decide +kernel⟩
abbrev s_format_robot : Stmt := topS 35
theorem sc_format_robot : FnScope ["robot", "goals", "word", "goal", "lines", "number", "before"] ["robot"] (defScope s_format_robot) := ⟨rfl, rfl, rfl, by decide +kernel, rfl, by decide +kernel, by decide +kernel⟩
abbrev s_format_parsed : Stmt := topS 36
theorem sc_format_parsed : FnScope ["parsed", "lines", "boxes", "robot"] ["parsed"] (defScope s_format_parsed) := ⟨rfl, rfl, rfl, by decide +kernel, rfl, by decide +kernel, by decide +kernel⟩
abbrev s_format_plan : Stmt := topS 37
theorem sc_format_plan : FnScope ["plan"] ["plan"] (defScope s_format_plan) := ⟨rfl, rfl, rfl, by decide +kernel, rfl, by decide +kernel, by decide +kernel⟩
abbrev s_law : Stmt := topS 47
theorem sc_law : FnScope ["_law_script", "_law_d", "_law_step", "_law_plan_here", "_law_text_here", "_law_names", "_law_lines", "_law_pieces", "_law_number", "_law_steps_here", "_law_goals", "_law_word", "_law_goal", "_law_k", "_law_has", "_law_target", "_law_loose", "_law_sign", "_law_other", "_law_part"] ["_law_script"] (defScope s_law) := ⟨rfl, rfl, rfl, by decide +kernel, rfl, by decide +kernel, by decide +kernel⟩
structure Ad where
  f_l_random : Addr
  d_l_random : FuncData
  f_l_below : Addr
  d_l_below : FuncData
  f_l_steps : Addr
  d_l_steps : FuncData
  f_l_plan : Addr
  d_l_plan : FuncData
  f_l_text : Addr
  d_l_text : FuncData
  f_l_shuffled : Addr
  d_l_shuffled : FuncData
  f_l_equal : Addr
  d_l_equal : FuncData
  f_Parser_peek : Addr
  d_Parser_peek : FuncData
  f_Token_init : Addr
  d_Token_init : FuncData
  f_Robot_init : Addr
  d_Robot_init : FuncData
  f_Plan_init : Addr
  d_Plan_init : FuncData
  f_Parser_init : Addr
  d_Parser_init : FuncData
  f_Parser_fail : Addr
  d_Parser_fail : FuncData
  f_Parser_take_word : Addr
  d_Parser_take_word : FuncData
  f_Parser_take : Addr
  d_Parser_take : FuncData
  f_Parser_found : Addr
  d_Parser_found : FuncData
  f_Parser_parse_shelf : Addr
  d_Parser_parse_shelf : FuncData
  f_Parser_parse_step : Addr
  d_Parser_parse_step : FuncData
  f_Parser_parse_robot : Addr
  d_Parser_parse_robot : FuncData
  f_Parser_parse_plan : Addr
  d_Parser_parse_plan : FuncData
  f_run_end : Addr
  d_run_end : FuncData
  f_read_token : Addr
  d_read_token : FuncData
  f_tokenize : Addr
  d_tokenize : FuncData
  f_load : Addr
  d_load : FuncData
  f_count_steps : Addr
  d_count_steps : FuncData
  f_label : Addr
  d_label : FuncData
  f_format_robot : Addr
  d_format_robot : FuncData
  f_format_parsed : Addr
  d_format_parsed : FuncData
  f_format_plan : Addr
  d_format_plan : FuncData
  f_law : Addr
  d_law : FuncData
  C_Token : Addr
  C_Robot : Addr
  C_Plan : Addr
  C_Parser : Addr
  A_MOVES : Addr
  A_JUMPS : Addr
  A_KEYWORDS : Addr
  t_LETTERS : Tok
  t_DIGITS : Tok
  t_SPACES : Tok
  t_SIGNS : Tok
  t_MAX_LETTERS : Tok
  t_MAX_DIGITS : Tok
  t_NAME : Tok
  t_NUMBER : Tok
  t_KEYWORD : Tok
  t_SIGN : Tok
  t_END : Tok
  t_MIN_CELLS : Tok
  t_MAX_CELLS : Tok
  t_MAX_BOXES : Tok
  t_MAX_STEPS : Tok
structure Txt (K : PySem.W.Frag) (mg : Str → Option Value) (a : Ad) : Prop where
  F_l_random : Fun K "_law_random" "_law_random" s_l_random a.f_l_random a.d_l_random
  m_l_random : mg "_law_random" = some (.ref a.f_l_random)
  F_l_below : Fun K "_law_below" "_law_below" s_l_below a.f_l_below a.d_l_below
  m_l_below : mg "_law_below" = some (.ref a.f_l_below)
  F_l_steps : Fun K "_law_steps" "_law_steps" s_l_steps a.f_l_steps a.d_l_steps
  m_l_steps : mg "_law_steps" = some (.ref a.f_l_steps)
  F_l_plan : Fun K "_law_plan" "_law_plan" s_l_plan a.f_l_plan a.d_l_plan
  m_l_plan : mg "_law_plan" = some (.ref a.f_l_plan)
  F_l_text : Fun K "_law_text" "_law_text" s_l_text a.f_l_text a.d_l_text
  m_l_text : mg "_law_text" = some (.ref a.f_l_text)
  F_l_shuffled : Fun K "_law_shuffled" "_law_shuffled" s_l_shuffled a.f_l_shuffled a.d_l_shuffled
  m_l_shuffled : mg "_law_shuffled" = some (.ref a.f_l_shuffled)
  F_l_equal : Fun K "_law_equal" "_law_equal" s_l_equal a.f_l_equal a.d_l_equal
  m_l_equal : mg "_law_equal" = some (.ref a.f_l_equal)
  F_Parser_peek : Fun K "peek" "Parser.peek" s_Parser_peek a.f_Parser_peek a.d_Parser_peek
  M_Parser_peek : Meth K a.C_Parser "peek" a.f_Parser_peek
  F_Token_init : Fun K "__init__" "Token.__init__" s_Token_init a.f_Token_init a.d_Token_init
  F_Robot_init : Fun K "__init__" "Robot.__init__" s_Robot_init a.f_Robot_init a.d_Robot_init
  F_Plan_init : Fun K "__init__" "Plan.__init__" s_Plan_init a.f_Plan_init a.d_Plan_init
  F_Parser_init : Fun K "__init__" "Parser.__init__" s_Parser_init a.f_Parser_init a.d_Parser_init
  F_Parser_fail : Fun K "fail" "Parser.fail" s_Parser_fail a.f_Parser_fail a.d_Parser_fail
  M_Parser_fail : Meth K a.C_Parser "fail" a.f_Parser_fail
  F_Parser_take_word : Fun K "take_word" "Parser.take_word" s_Parser_take_word a.f_Parser_take_word a.d_Parser_take_word
  M_Parser_take_word : Meth K a.C_Parser "take_word" a.f_Parser_take_word
  F_Parser_take : Fun K "take" "Parser.take" s_Parser_take a.f_Parser_take a.d_Parser_take
  M_Parser_take : Meth K a.C_Parser "take" a.f_Parser_take
  F_Parser_found : Fun K "found" "Parser.found" s_Parser_found a.f_Parser_found a.d_Parser_found
  M_Parser_found : Meth K a.C_Parser "found" a.f_Parser_found
  F_Parser_parse_shelf : Fun K "parse_shelf" "Parser.parse_shelf" s_Parser_parse_shelf a.f_Parser_parse_shelf a.d_Parser_parse_shelf
  M_Parser_parse_shelf : Meth K a.C_Parser "parse_shelf" a.f_Parser_parse_shelf
  F_Parser_parse_step : Fun K "parse_step" "Parser.parse_step" s_Parser_parse_step a.f_Parser_parse_step a.d_Parser_parse_step
  M_Parser_parse_step : Meth K a.C_Parser "parse_step" a.f_Parser_parse_step
  F_Parser_parse_robot : Fun K "parse_robot" "Parser.parse_robot" s_Parser_parse_robot a.f_Parser_parse_robot a.d_Parser_parse_robot
  M_Parser_parse_robot : Meth K a.C_Parser "parse_robot" a.f_Parser_parse_robot
  F_Parser_parse_plan : Fun K "parse_plan" "Parser.parse_plan" s_Parser_parse_plan a.f_Parser_parse_plan a.d_Parser_parse_plan
  M_Parser_parse_plan : Meth K a.C_Parser "parse_plan" a.f_Parser_parse_plan
  F_run_end : Fun K "run_end" "run_end" s_run_end a.f_run_end a.d_run_end
  m_run_end : mg "run_end" = some (.ref a.f_run_end)
  F_read_token : Fun K "read_token" "read_token" s_read_token a.f_read_token a.d_read_token
  m_read_token : mg "read_token" = some (.ref a.f_read_token)
  F_tokenize : Fun K "tokenize" "tokenize" s_tokenize a.f_tokenize a.d_tokenize
  m_tokenize : mg "tokenize" = some (.ref a.f_tokenize)
  F_load : Fun K "load" "load" s_load a.f_load a.d_load
  m_load : mg "load" = some (.ref a.f_load)
  F_count_steps : Fun K "count_steps" "count_steps" s_count_steps a.f_count_steps a.d_count_steps
  m_count_steps : mg "count_steps" = some (.ref a.f_count_steps)
  F_label : Fun K "label" "label" s_label a.f_label a.d_label
  m_label : mg "label" = some (.ref a.f_label)
  F_format_robot : Fun K "format_robot" "format_robot" s_format_robot a.f_format_robot a.d_format_robot
  m_format_robot : mg "format_robot" = some (.ref a.f_format_robot)
  F_format_parsed : Fun K "format_parsed" "format_parsed" s_format_parsed a.f_format_parsed a.d_format_parsed
  m_format_parsed : mg "format_parsed" = some (.ref a.f_format_parsed)
  F_format_plan : Fun K "format_plan" "format_plan" s_format_plan a.f_format_plan a.d_format_plan
  m_format_plan : mg "format_plan" = some (.ref a.f_format_plan)
  F_law : Fun K "law" "law" s_law a.f_law a.d_law
  m_law : mg "law" = some (.ref a.f_law)
  m_Token : mg "Token" = some (.ref a.C_Token)
  cl_Token : Cls K a.C_Token
  mk_Token : Mk K a.C_Token a.f_Token_init
  n_Token_kind : NoAttr K a.C_Token "kind"
  n_Token_text : NoAttr K a.C_Token "text"
  n_Token_line : NoAttr K a.C_Token "line"
  n_Token_column : NoAttr K a.C_Token "column"
  m_Robot : mg "Robot" = some (.ref a.C_Robot)
  cl_Robot : Cls K a.C_Robot
  mk_Robot : Mk K a.C_Robot a.f_Robot_init
  n_Robot_start : NoAttr K a.C_Robot "start"
  n_Robot_steps : NoAttr K a.C_Robot "steps"
  n_Robot_names : NoAttr K a.C_Robot "names"
  m_Plan : mg "Plan" = some (.ref a.C_Plan)
  cl_Plan : Cls K a.C_Plan
  mk_Plan : Mk K a.C_Plan a.f_Plan_init
  n_Plan_shelf : NoAttr K a.C_Plan "shelf"
  n_Plan_robots : NoAttr K a.C_Plan "robots"
  m_Parser : mg "Parser" = some (.ref a.C_Parser)
  cl_Parser : Cls K a.C_Parser
  mk_Parser : Mk K a.C_Parser a.f_Parser_init
  n_Parser_tokens : NoAttr K a.C_Parser "tokens"
  n_Parser_at : NoAttr K a.C_Parser "at"
  n_Parser_faults : NoAttr K a.C_Parser "faults"
  z_len : mg "len" = none
  z_abs : mg "abs" = none
  z_range : mg "range" = none
  z_str : mg "str" = none
  z_int : mg "int" = none
  z_tuple : mg "tuple" = none
  z_list : mg "list" = none
  z_sum : mg "sum" = none
  z_isinstance : mg "isinstance" = none
  z_bool : mg "bool" = none
  z_enumerate : mg "enumerate" = none
  z_zip : mg "zip" = none
  z_min : mg "min" = none
  z_all : mg "all" = none
  c_MOVES : mg "MOVES" = some (.ref a.A_MOVES)
  q_MOVES : ∀ H, SqT K H a.A_MOVES (([(Str.ofString "left"), (Str.ofString "right"), (Str.ofString "pick"), (Str.ofString "put"), (Str.ofString "wait")] : List Str).map V.str)
  k_MOVES : ∃ o, K.lookup a.A_MOVES = some o ∧ o.cls = .type "tuple" ∧ o.dict = none
  c_JUMPS : mg "JUMPS" = some (.ref a.A_JUMPS)
  q_JUMPS : ∀ H, SqT K H a.A_JUMPS (([(Str.ofString "goto"), (Str.ofString "empty"), (Str.ofString "held")] : List Str).map V.str)
  k_JUMPS : ∃ o, K.lookup a.A_JUMPS = some o ∧ o.cls = .type "tuple" ∧ o.dict = none
  c_KEYWORDS : mg "KEYWORDS" = some (.ref a.A_KEYWORDS)
  q_KEYWORDS : ∀ H, SqT K H a.A_KEYWORDS (([(Str.ofString "shelf"), (Str.ofString "robot"), (Str.ofString "left"), (Str.ofString "right"), (Str.ofString "pick"), (Str.ofString "put"), (Str.ofString "wait"), (Str.ofString "goto"), (Str.ofString "empty"), (Str.ofString "held")] : List Str).map V.str)
  k_KEYWORDS : ∃ o, K.lookup a.A_KEYWORDS = some o ∧ o.cls = .type "tuple" ∧ o.dict = none
  c_LETTERS : mg "LETTERS" = some (.str (Str.ofString "abcdefghijklmnopqrstuvwxyz") a.t_LETTERS)
  c_DIGITS : mg "DIGITS" = some (.str (Str.ofString "0123456789") a.t_DIGITS)
  c_SPACES : mg "SPACES" = some (.str (Str.ofString " \n") a.t_SPACES)
  c_SIGNS : mg "SIGNS" = some (.str (Str.ofString ";:{}") a.t_SIGNS)
  c_MAX_LETTERS : mg "MAX_LETTERS" = some (.int 8 a.t_MAX_LETTERS)
  c_MAX_DIGITS : mg "MAX_DIGITS" = some (.int 2 a.t_MAX_DIGITS)
  c_NAME : mg "NAME" = some (.str (Str.ofString "name") a.t_NAME)
  c_NUMBER : mg "NUMBER" = some (.str (Str.ofString "number") a.t_NUMBER)
  c_KEYWORD : mg "KEYWORD" = some (.str (Str.ofString "keyword") a.t_KEYWORD)
  c_SIGN : mg "SIGN" = some (.str (Str.ofString "sign") a.t_SIGN)
  c_END : mg "END" = some (.str (Str.ofString "end") a.t_END)
  c_MIN_CELLS : mg "MIN_CELLS" = some (.int 3 a.t_MIN_CELLS)
  c_MAX_CELLS : mg "MAX_CELLS" = some (.int 12 a.t_MAX_CELLS)
  c_MAX_BOXES : mg "MAX_BOXES" = some (.int 3 a.t_MAX_BOXES)
  c_MAX_STEPS : mg "MAX_STEPS" = some (.int 20 a.t_MAX_STEPS)
section
variable {K : PySem.W.Frag} {mg : Str → Option Value} {a : Ad}
theorem b_l_random (T : Txt K mg a) : Binds K a.d_l_random ["_law_script", "_law_salt"] [] := T.F_l_random.binds fun _ _ _ _ _ _ us hl => match us, hl with | [_, _], _ => rfl
theorem b_l_below (T : Txt K mg a) : Binds K a.d_l_below ["_law_d", "_law_limit"] [] := T.F_l_below.binds fun _ _ _ _ _ _ us hl => match us, hl with | [_, _], _ => rfl
theorem b_l_steps (T : Txt K mg a) : Binds K a.d_l_steps ["_law_d", "_law_most"] [] := T.F_l_steps.binds fun _ _ _ _ _ _ us hl => match us, hl with | [_, _], _ => rfl
theorem b_l_plan (T : Txt K mg a) : Binds K a.d_l_plan ["_law_d", "_law_most"] [] := T.F_l_plan.binds fun _ _ _ _ _ _ us hl => match us, hl with | [_, _], _ => rfl
theorem b_l_text (T : Txt K mg a) : Binds K a.d_l_text ["_law_plan_here"] [] := T.F_l_text.binds fun _ _ _ _ _ _ us hl => match us, hl with | [_], _ => rfl
theorem b_l_shuffled (T : Txt K mg a) : Binds K a.d_l_shuffled ["_law_d", "_law_items"] [] := T.F_l_shuffled.binds fun _ _ _ _ _ _ us hl => match us, hl with | [_, _], _ => rfl
theorem b_l_equal (T : Txt K mg a) : Binds K a.d_l_equal ["_law_actual", "_law_expected"] [] := T.F_l_equal.binds fun _ _ _ _ _ _ us hl => match us, hl with | [_, _], _ => rfl
theorem b_Parser_peek (T : Txt K mg a) : Binds K a.d_Parser_peek ["self"] [] := T.F_Parser_peek.binds fun _ _ _ _ _ _ us hl => match us, hl with | [_], _ => rfl
theorem b_Token_init (T : Txt K mg a) : Binds K a.d_Token_init ["self", "kind", "text", "line", "column"] [] := T.F_Token_init.binds fun _ _ _ _ _ _ us hl => match us, hl with | [_, _, _, _, _], _ => rfl
theorem b_Robot_init (T : Txt K mg a) : Binds K a.d_Robot_init ["self", "start", "steps", "names"] [] := T.F_Robot_init.binds fun _ _ _ _ _ _ us hl => match us, hl with | [_, _, _, _], _ => rfl
theorem b_Plan_init (T : Txt K mg a) : Binds K a.d_Plan_init ["self", "shelf", "robots"] [] := T.F_Plan_init.binds fun _ _ _ _ _ _ us hl => match us, hl with | [_, _, _], _ => rfl
theorem b_Parser_init (T : Txt K mg a) : Binds K a.d_Parser_init ["self", "tokens"] [] := T.F_Parser_init.binds fun _ _ _ _ _ _ us hl => match us, hl with | [_, _], _ => rfl
theorem b_Parser_fail (T : Txt K mg a) : Binds K a.d_Parser_fail ["self"] [] := T.F_Parser_fail.binds fun _ _ _ _ _ _ us hl => match us, hl with | [_], _ => rfl
theorem b_Parser_take_word (T : Txt K mg a) : Binds K a.d_Parser_take_word ["self", "word"] [] := T.F_Parser_take_word.binds fun _ _ _ _ _ _ us hl => match us, hl with | [_, _], _ => rfl
theorem b_Parser_take (T : Txt K mg a) : Binds K a.d_Parser_take ["self", "kind"] [] := T.F_Parser_take.binds fun _ _ _ _ _ _ us hl => match us, hl with | [_, _], _ => rfl
theorem b_Parser_found (T : Txt K mg a) : Binds K a.d_Parser_found ["self", "reason", "token"] [] := T.F_Parser_found.binds fun _ _ _ _ _ _ us hl => match us, hl with | [_, _, _], _ => rfl
theorem b_Parser_parse_shelf (T : Txt K mg a) : Binds K a.d_Parser_parse_shelf ["self"] [] := T.F_Parser_parse_shelf.binds fun _ _ _ _ _ _ us hl => match us, hl with | [_], _ => rfl
theorem b_Parser_parse_step (T : Txt K mg a) : Binds K a.d_Parser_parse_step ["self", "names", "jumps"] [] := T.F_Parser_parse_step.binds fun _ _ _ _ _ _ us hl => match us, hl with | [_, _, _], _ => rfl
theorem b_Parser_parse_robot (T : Txt K mg a) : Binds K a.d_Parser_parse_robot ["self", "cells", "others"] [] := T.F_Parser_parse_robot.binds fun _ _ _ _ _ _ us hl => match us, hl with | [_, _, _], _ => rfl
theorem b_Parser_parse_plan (T : Txt K mg a) : Binds K a.d_Parser_parse_plan ["self"] [] := T.F_Parser_parse_plan.binds fun _ _ _ _ _ _ us hl => match us, hl with | [_], _ => rfl
theorem b_run_end (T : Txt K mg a) : Binds K a.d_run_end ["row", "start", "letters"] [] := T.F_run_end.binds fun _ _ _ _ _ _ us hl => match us, hl with | [_, _, _], _ => rfl
theorem b_read_token (T : Txt K mg a) : Binds K a.d_read_token ["row", "line", "column"] [] := T.F_read_token.binds fun _ _ _ _ _ _ us hl => match us, hl with | [_, _, _], _ => rfl
theorem b_tokenize (T : Txt K mg a) : Binds K a.d_tokenize ["source"] [] := T.F_tokenize.binds fun _ _ _ _ _ _ us hl => match us, hl with | [_], _ => rfl
theorem b_load (T : Txt K mg a) : Binds K a.d_load ["plan"] [] := T.F_load.binds fun _ _ _ _ _ _ us hl => match us, hl with | [_], _ => rfl
theorem b_count_steps (T : Txt K mg a) : Binds K a.d_count_steps ["plan"] [] := T.F_count_steps.binds fun _ _ _ _ _ _ us hl => match us, hl with | [_], _ => rfl
theorem b_label (T : Txt K mg a) : Binds K a.d_label ["number"] [] := T.F_label.binds fun _ _ _ _ _ _ us hl => match us, hl with | [_], _ => rfl
theorem b_format_robot (T : Txt K mg a) : Binds K a.d_format_robot ["robot"] [] := T.F_format_robot.binds fun _ _ _ _ _ _ us hl => match us, hl with | [_], _ => rfl
theorem b_format_parsed (T : Txt K mg a) : Binds K a.d_format_parsed ["parsed"] [] := T.F_format_parsed.binds fun _ _ _ _ _ _ us hl => match us, hl with | [_], _ => rfl
theorem b_format_plan (T : Txt K mg a) : Binds K a.d_format_plan ["plan"] [] := T.F_format_plan.binds fun _ _ _ _ _ _ us hl => match us, hl with | [_], _ => rfl
end
end Sb


namespace Sb
open PySem PySem.Spec PyProof.Rows L2
theorem ixN_nat {n j : Nat} (h : j < n) : ixN n (j : Int) = some j := by
  unfold ixN
  rw [if_pos (Int.natCast_nonneg j), if_pos (by omega)]
  simp
theorem sq_nat {n j : Nat} (h : j < n) : seqIndex? (j : Int) n = some j := (ixN_seq (ixN_nat h)).1
theorem ix_of {n j : Nat} {z : Int} (e : z = (j : Int)) (h : j < n) : ixN n z = some j := by rw [e]; exact ixN_nat h
theorem sq_of {n j : Nat} {z : Int} (e : z = (j : Int)) (h : j < n) : seqIndex? z n = some j := by rw [e]; exact sq_nat h
theorem vint_eq {i j : Int} (h : i = j) : decide (V.int i = V.int j) = true := decide_eq_true (by rw [h])
theorem vint_ne {i j : Int} (h : ¬ i = j) : decide (V.int i = V.int j) = false := decide_eq_false (fun e => h (by injection e))

/-! ### the draws -/
def spRandom (K : PySem.W.Frag) : Sp := fun vs H Q _ => ∃ (a : Addr) (ns : List Int) (salt : Int), vs = [.ref a, .int salt] ∧ SqL K H a (ns.map V.int) ∧ ns.length ≤ 63 ∧ 0 ≤ salt ∧
  ∀ (H' : Hp) (p : Addr) (ds : List Int), Same H H' → H p = none → H' p = some (.lst (ds.map V.int)) → Src ds → Q (.ref p) H'
structure spBelow (vs : List V) (H : Hp) (Q : VK) (E : XK) : Prop where
  ex : ∃ (d : Addr) (ds : List Int) (n : Int), vs = [.ref d, .int n] ∧ H d = some (.lst (ds.map V.int)) ∧ Src ds ∧ 0 < n ∧ n < 1073741824 ∧
  ∀ (ds' : List Int) (k : Int), Src ds' → 0 ≤ k → k < n → Q (.int k) (upd H d (.lst (ds'.map V.int)))
section
variable {P : Program} {w : World} {K : PySem.W.Frag} {mg : Str → Option Value} {base : Heap} {a : Ad}
theorem ok_l_below (T : Txt K mg a) : FnOk P w K mg base CX0 1 a.f_l_below a.d_l_below ["_law_d", "_law_limit"] spBelow := by
  refine T.F_l_below.ok sc_l_below (fun vs H Q E h => ?_) (fun cdv A outer s H vs Q E hr h => ?_)
  · obtain ⟨⟨d, ds, n, rfl, _⟩⟩ := h
    rfl
  · obtain ⟨⟨d, ds, n, rfl, hd, ⟨⟨z, e, r, rfl, hz, he, hr2, hl⟩⟩, n0, n1, k⟩⟩ := h
    refine ⟨_, (pss_cons (ps_if (PW.pt (pw_and (pt_cmpR op_eq (pe_ix ix_list (pv 0) pe_int (fun _ _ => rfl)) pe_int (nomark _)) (pw_and1 (pt_cmpR op_gt (pe_callB call_len_seq (by rfl) T.z_len (by decide +kernel) (pa_cons (pv 0) pa_nil)) pe_int (nomark _))))) (pss_one (ps_asg (pe_bm PySem.F.plainAttrs_list PySem.F.slot_list_pop PySem.F.type_list_pop mt_popAt (pv 0) (pa_cons pe_int pa_nil)) (pg_sub (pv 0) pe_int set_list))) pss_nil)
      (pss_cons (ps_if (pt_cmpR op_gt (pe_ix ix_list (pv 0) pe_int (fun _ _ => rfl)) pe_int (nomark _)) (pss_cons (ps_set (i := 2) sc_l_below.nd rfl (Or.inl rfl) (pe_op op_mod (pe_ix ix_list (pv 0) pe_int (fun _ _ => rfl)) (pv 1)))
      (pss_cons (ps_asg (pe_op op_fdiv (pe_ix ix_list (pv 0) pe_int (fun _ _ => rfl)) (pv 1)) (pg_sub (pv 0) pe_int set_list))
      (pss_one (ps_ret (pv 2))))) pss_nil)
      (pss_cons (ps_asg (pe_op op_mod (pe_op op_add (pe_op op_mul (pe_ix ix_list (pv 0) pe_int (fun _ _ => rfl)) pe_int) pe_int) pe_int) (pg_sub (pv 0) pe_int set_list))
      (pss_one (ps_ret (pe_op op_mod (pe_op op_fdiv (pe_ix ix_list (pv 0) pe_int (fun _ _ => rfl)) pe_int) (pv 1))))))), ?_⟩
    -- the end: d[0] drawn on
    have last : ∀ (z : Int) (r : List Int), 0 ≤ z → (∀ x ∈ r, (0 : Int) ≤ x) → r.length ≤ 63 → Src (((z * 48271 + 11) % 2147483647) :: 0 :: r) := fun z r hz hr hl =>
      ⟨⟨_, _, _, rfl, Int.emod_nonneg _ (by decide), by decide, hr, hl⟩⟩
    have go2 : ∀ (e : Int) (r : List Int), 0 < e → (∀ x ∈ r, (0 : Int) ≤ x) → r.length ≤ 63 → Src (z :: (e / n) :: r) := fun e r he hr hl =>
      ⟨⟨_, _, _, rfl, hz, Int.ediv_nonneg (by omega) (by omega), hr, hl⟩⟩
    -- behind the first if
    have rest : ∀ (e : Int) (r : List Int) (H1 : Hp), 0 ≤ e → (∀ x ∈ r, (0 : Int) ≤ x) → r.length ≤ 63 → H1 d = some (.lst ((z :: e :: r).map V.int)) → (∀ o, upd H1 d o = upd H d o) →
        (tSeq (tIfS (tTest (tOp (rI0 fun i j => .bl (decide (j < i))) (tOp (rIxL K) (tVar 0) (tC (.int 1))) (tC (.int 0))))
          (tSeq (tAsg (tOp (rI (fun _ j => 0 < j) fun i j => .int (i % j)) (tOp (rIxL K) (tVar 0) (tC (.int 1))) (tVar 1)) (gName 2))
            (tSeq (tAsg (tOp (rI CDiv fun i j => .int (i / j)) (tOp (rIxL K) (tVar 0) (tC (.int 1))) (tVar 1)) (gSub (tVar 0) (tC (.int 1)) rSetL)) (tRet (tVar 2)))) tNext)
          (tSeq (tAsg (tOp (rI (fun _ j => 0 < j) fun i j => .int (i % j)) (tOp (rI0 fun i j => .int (i + j)) (tOp (rI CMul fun i j => .int (i * j)) (tOp (rIxL K) (tVar 0) (tC (.int 0))) (tC (.int 48271))) (tC (.int 11))) (tC (.int 2147483647))) (gSub (tVar 0) (tC (.int 0)) rSetL))
            (tRet (tOp (rI (fun _ j => 0 < j) fun i j => .int (i % j)) (tOp (rI CDiv fun i j => .int (i / j)) (tOp (rIxL K) (tVar 0) (tC (.int 0))) (tC (.int 64))) (tVar 1)))))
          { nx := fun _ H' => Q .non H', rt := Q } (start ["_law_d", "_law_limit", "_law_result"] [.ref d, .int n]) H1 := by
      intro e r H1 he hr hl h1 hu
      refine ⟨_, rfl, d, _, 1, .int e, rfl, rfl, SqL.of h1, at_of (j := 1) rfl rfl, _, _, rfl, rfl, _, rfl, ?_⟩
      refine ite2 (fun c => ?_) (fun c => ?_)
      · have he0 : 0 < e := of_decide_eq_true c
        refine ⟨_, rfl, d, _, 1, .int e, rfl, rfl, SqL.of h1, at_of (j := 1) rfl rfl, _, rfl, _, _, rfl, rfl, n0, ?_⟩
        refine ⟨_, rfl, d, _, 1, .int e, rfl, rfl, SqL.of h1, at_of (j := 1) rfl rfl, _, rfl, _, _, rfl, rfl, ⟨n0, n1⟩, ?_⟩
        refine ⟨_, rfl, d, _, 1, 1, rfl, rfl, h1, ix_of rfl (by show 1 < ((z :: e :: r).map V.int).length; rw [List.length_map]; exact Nat.succ_lt_succ (Nat.succ_pos _)), ?_⟩
        refine ⟨_, rfl, ?_⟩
        rw [hu]
        exact k (z :: (e / n) :: r) (e % n) (go2 e r he0 hr hl) (Int.emod_nonneg _ (by omega)) (Int.emod_lt_of_pos _ n0)
      · have he0 : e = 0 := by
          have h3 : ¬ (0 : Int) < e := fun q => c (decide_eq_true q)
          omega
        subst he0
        refine ⟨_, rfl, d, _, 0, .int z, rfl, rfl, SqL.of h1, at_of (j := 0) rfl rfl, _, _, rfl, rfl, .inr ⟨by decide, by decide⟩, _, _, rfl, rfl, _, _, rfl, rfl, (by show (0 : Int) < 2147483647; decide), ?_⟩
        refine ⟨_, rfl, d, _, 0, 0, rfl, rfl, h1, ix_of rfl (by show 0 < ((z :: (0 : Int) :: r).map V.int).length; rw [List.length_map]; exact Nat.succ_pos _), ?_⟩
        refine ⟨_, rfl, d, _, 0, .int ((z * 48271 + 11) % 2147483647), rfl, rfl, SqL.of upd_same, at_of (j := 0) rfl rfl, _, _, rfl, rfl, ⟨by decide, by decide⟩, _, rfl, _, _, rfl, rfl, n0, ?_⟩
        rw [hu]
        exact k (((z * 48271 + 11) % 2147483647) :: 0 :: r) _ (last z r hz hr hl) (Int.emod_nonneg _ (by omega)) (Int.emod_lt_of_pos _ n0)
    refine ⟨_, rfl, d, _, 1, .int e, rfl, rfl, SqL.of hd, at_of (j := 1) rfl rfl, rfl, _, rfl, ?_⟩
    refine ite2 (fun c => ?_) (fun c => ?_)
    · refine ⟨_, rfl, d, _, rfl, .inl (SqL.of hd), _, _, rfl, rfl, _, rfl, ?_⟩
      refine ite2 (fun c2 => ?_) (fun c2 => ?_)
      · -- there is a further one
        cases r with
        | nil =>
          have c3 := of_decide_eq_true c2
          simp at c3
        | cons y r =>
          refine ⟨_, rfl, .inl ⟨rfl, _, SqL.of hd⟩, d, _, 2, 2, .int y, rfl, rfl, hd, by decide, by decide, sq_of rfl (by simp), rfl, ?_⟩
          refine ⟨_, rfl, d, _, 1, 1, rfl, rfl, upd_same, ix_of rfl (by simp), ?_⟩
          refine rest y r _ (hr2 y List.mem_cons_self) (fun x hx => hr2 x (List.mem_cons_of_mem _ hx)) (by simp at hl; omega) ?_ ?_
          · rw [upd_same]; rfl
          · intro o
            rw [upd_upd, upd_upd]
      · exact rest e r H he hr2 hl hd (fun _ => rfl)
    · exact rest e r H he hr2 hl hd (fun _ => rfl)
end
end Sb

namespace Sb
open PySem PySem.Spec PyProof.Rows L2
section
variable {P : Program} {w : World} {K : PySem.W.Frag} {mg : Str → Option Value} {base : Heap} {a : Ad}
theorem ints_at {ns : List Int} {i : Nat} {x : V} (h : (ns.map V.int)[i]? = some x) : ∃ z, ns[i]? = some z ∧ x = V.int z := by
  rw [List.getElem?_map] at h
  cases e : ns[i]? with
  | none => rw [e] at h; cases h
  | some z => rw [e] at h; exact ⟨z, rfl, (Option.some.inj h).symm⟩
theorem take_more {α : Type} : ∀ {l : List α} {i : Nat} {x : α}, l[i]? = some x → l.take (i + 1) = l.take i ++ [x]
  | [], i, x, h => by simp at h
  | a :: l, 0, x, h => by
    have e : a = x := Option.some.inj h
    subst e
    rfl
  | a :: l, i + 1, x, h => by
    have ih := take_more (l := l) (i := i) (x := x) h
    show a :: l.take (i + 1) = a :: l.take i ++ [x]
    rw [ih]
    rfl
theorem ok_l_random (T : Txt K mg a) : FnOk P w K mg base CX0 1 a.f_l_random a.d_l_random ["_law_script", "_law_salt"] (spRandom K) := by
  refine T.F_l_random.ok sc_l_random (fun vs H Q E h => ?_) (fun cdv A outer s H vs Q E hr h => ?_)
  · obtain ⟨d, ds, n, rfl, _⟩ := h
    rfl
  · obtain ⟨l, ns, salt, rfl, hl, h63, h0, k⟩ := h
    refine ⟨_, (pss_cons (ps_set (i := 2) sc_l_random.nd rfl (Or.inl rfl) (pv 1))
      (pss_cons (ps_for PassesOwn.never rfl (pi_list (pv 0)) (pg_name (i := 3) sc_l_random.nd rfl (Or.inl rfl)) (pss_one (ps_set (i := 2) sc_l_random.nd rfl (Or.inl rfl) (pe_op op_mod (pe_op op_add (pe_op op_mul (pv 2) pe_int) (pe_callB call_abs (by rfl) T.z_abs (by decide +kernel) (pa_cons (pv 3) pa_nil))) pe_int))))
      (pss_one (ps_ret (pe_op op_cat (pe_lst (pa_cons (pv 2) (pa_cons pe_int pa_nil))) (pe_lc (own := [("_law_cell", 3)]) (g := gName 3) rfl sc_l_random.nd (pi_list (pv 0)) (blkOk_by (own := [("_law_cell", 3)]) (N := ["_law_script", "_law_salt", "_law_seed", "_law_cell"]) (sc := defScope s_l_random) (by decide +kernel)) (fun _ _ _ _ _ => (pg_name (i := 3) sc_l_random.nd rfl (Or.inl rfl))) (fun _ _ _ _ _ => by exact pts_one (pt_cmpR op_ge (pv 3) (pe_op op_pow pe_int pe_int) (nomark _))) (fun _ _ _ _ _ => by exact (pv 3)))))))), ?_⟩
    refine ⟨_, rfl, _, rfl, l, rfl, ⟨_, hl⟩, for_list (K := K) (a := l) (xs := ns.map V.int) (fun i σ H' => H' = H ∧ ∃ (z : Int) (v : Option V), σ = [some (.ref l), some (.int salt), some (.int z), v] ∧ 0 ≤ z)
      ⟨rfl, salt, none, rfl, h0⟩ (fun i σ H' _ ⟨e, _⟩ => by rw [e]; exact hl) ?_ ?_⟩
    · rintro i x σ H' hx ⟨rfl, z, v, rfl, hz⟩
      obtain ⟨u, hu, rfl⟩ := ints_at hx
      refine ⟨_, rfl, _, _, rfl, rfl, .inr ⟨by decide, by decide⟩, _, rfl, _, rfl, _, _, rfl, rfl, _, _, rfl, rfl, (by show (0 : Int) < 2147483647; decide), ?_⟩
      exact ⟨rfl, _, _, rfl, Int.emod_nonneg _ (by decide)⟩
    · rintro σ H' ⟨rfl, z, v, rfl, hz⟩
      refine ⟨_, rfl, (by show 2 ≤ sizeLine; decide), fun p hp => ?_⟩
      have hl1 : SqL K (upd H' p (.lst [.int z, .int 0])) l (ns.map V.int) := (same_new hp).seq hl
      refine ⟨_, rfl, l, rfl, ⟨_, hl1⟩, fun D hD => ?_⟩
      have npD : p ≠ D := fun e => by rw [← e, upd_same] at hD; cases hD
      refine lc_list (K := K) (a := l) (xs := ns.map V.int) (fun i H2 => ∃ bs : List Int, H2 = upd (upd H' p (.lst [.int z, .int 0])) D (.lst (bs.map V.int)) ∧ (∀ x ∈ bs, (0 : Int) ≤ x) ∧ bs.length ≤ i) ⟨[], rfl, (fun _ h => nomatch h), Nat.le_refl _⟩ ?_ ?_ ?_
      · rintro i H2 _ ⟨bs, rfl, _⟩
        exact (same_new hD).seq hl1
      · rintro i x H2 hx ⟨bs, rfl, hb, hbl⟩
        obtain ⟨u, hu, rfl⟩ := ints_at hx
        have hi : i < ns.length := (List.getElem?_eq_some_iff.mp hu).1
        refine ⟨rfl, _, rfl, _, _, rfl, rfl, ⟨by decide, by decide, by decide⟩, _, _, rfl, rfl, _, rfl, ?_⟩
        refine ite2 (fun c => ?_) (fun c => ?_)
        · have hu0 : (10 : Int) ^ (18 : Int).toNat ≤ u := of_decide_eq_true c
          have hu1 : (0 : Int) ≤ u := Int.le_trans (by decide) hu0
          refine ⟨_, rfl, bs.map V.int, upd_same, smaller 63 (by rw [List.length_map]; omega) (by decide), bs ++ [u], ?_, ?_, ?_⟩
          · rw [upd_upd, List.map_append]
            rfl
          · intro x hx
            rcases List.mem_append.mp hx with h | h
            · exact hb x h
            · rw [List.mem_singleton.mp h]; exact hu1
          · rw [List.length_append]; simp; omega
        · exact ⟨bs, rfl, hb, by omega⟩
      · rintro H2 ⟨bs, rfl, hb, hbl⟩
        have e1 : (upd (upd H' p (.lst [.int z, .int 0])) D (.lst (bs.map V.int))) p = some (.lst [.int z, .int 0]) := by rw [upd_ne npD, upd_same]
        rw [List.length_map] at hbl
        refine ⟨p, D, _, _, rfl, rfl, e1, upd_same, small 65 (by show 2 + (bs.map V.int).length ≤ 65; rw [List.length_map]; omega) (by decide), fun q hq => ?_⟩
        have q1 : q ≠ D := fun e => by rw [e, upd_same] at hq; cases hq
        have q2 : q ≠ p := fun e => by rw [e, e1] at hq; cases hq
        refine k _ q (z :: 0 :: bs) (((same_new hp).trans (same_new hD)).trans (same_new hq)) (by rw [upd_ne q1, upd_ne q2] at hq; exact hq) (by rw [upd_same]; rfl) ⟨⟨z, 0, bs, rfl, hz, by decide, hb, by omega⟩⟩
end
end Sb

namespace Sb
open PySem PySem.Spec PyProof.Rows L2
section
variable {K : PySem.W.Frag} {d : Addr} {G0 H0 G H : Hp} {n : Int} {Q : VK} {E : XK}
/-- a draw, used -/
theorem draw_go (h : At d G0 H0 G H) (n0 : 0 < n) (n1 : n < 1073741824) (k : ∀ (H1 : Hp) (i : Nat), At d G0 H0 G H1 → (∀ b, b ≠ d → H1 b = H b) → (i : Int) < n → Q (.int i) H1) : spBelow [.ref d, .int n] H Q E := by
  obtain ⟨ds, hd, hs⟩ := h.now.x
  refine ⟨⟨d, ds, n, rfl, hd, hs, n0, n1, fun ds' i s1 i0 i1 => ?_⟩⟩
  have e : i = (i.toNat : Int) := by omega
  rw [e]
  exact k _ i.toNat (h.draw s1) (fun b hb => upd_ne hb) (by omega)
end
theorem wds_len : wds.length = 8 := rfl
theorem wds_at {i : Nat} (h : i < 8) : (wds.map V.str)[i]? = some (.str (wS i)) := by
  rw [List.getElem?_map]
  have : wds[i]? = some (wS i) := by
    unfold wS
    rw [List.getElem?_eq_getElem (by rw [wds_len]; exact h), List.getD_eq_getElem?_getD, List.getElem?_eq_getElem (by rw [wds_len]; exact h)]
    rfl
  rw [this]
  rfl
def jmpV : List V := [.str "goto", .str "empty", .str "held"]
theorem jmp_in : ∀ {w : Nat}, w < 8 → inV (.str (wS w)) jmpV = decide (5 ≤ w) := by
  have h : ∀ w : _root_.Fin 8, inV (.str (wS w.val)) jmpV = decide (5 ≤ w.val) := by decide +kernel
  exact fun {w} hw => h ⟨w, hw⟩
theorem optD_some {K : PySem.W.Frag} {G : Hp} (k : Nat) : Dp K G (.int k) (optD (some k)) := .int k
theorem jmp_flat : jmpV.all flatV = true := by decide +kernel
structure spSteps (K : PySem.W.Frag) (vs : List V) (H : Hp) (Q : VK) (E : XK) : Prop where
  ex : ∃ (d : Addr) (G : Hp) (most : Nat), vs = [.ref d, .int most] ∧ 1 ≤ most ∧ most ≤ 20 ∧
  Drawn d G H Q fun G' v => ∃ ss : List Step, StepsOk ss ∧ Dp K G' v (stepsD ss) ∧ ss.length ≤ most
section
variable {P : Program} {w : World} {K : PySem.W.Frag} {mg : Str → Option Value} {base : Heap} {a : Ad}
theorem wS0 : wS 0 = "left" := rfl
theorem wS1 : wS 1 = "right" := rfl
theorem wS2 : wS 2 = "pick" := rfl
theorem wS3 : wS 3 = "put" := rfl
theorem stepD_no {K : PySem.W.Frag} {G : Hp} {t : Addr} {x : Nat} (h : SqT K G t [.str (wS x), .non]) : Dp K G (.ref t) (Step.D ⟨x, none⟩) := .tup h (.cons (.str _) (.cons .non .nil))
theorem ok_no {n x : Nat} (h : x < 5) : Step.Ok n ⟨x, none⟩ := ⟨by show x < 8; omega, fun _ => rfl, fun z => absurd (show 5 ≤ x from z) (by omega)⟩
theorem ok_l_steps (T : Txt K mg a) : FnOk P w K mg base CX0 2 a.f_l_steps a.d_l_steps ["_law_d", "_law_most"] (spSteps K) := by
  refine T.F_l_steps.ok sc_l_steps (fun vs H Q E h => ?_) (fun cdv A outer s H vs Q E hr h => ?_)
  · obtain ⟨⟨d, G, m, rfl, _⟩⟩ := h
    rfl
  · obtain ⟨⟨d, G, most, rfl, m1, m20, hN, k⟩⟩ := h
    refine ⟨_, (pss_cons (ps_par (i := 2) (j := 3) (by rfl) sc_l_steps.nd rfl rfl (by decide) rfl rfl (pa_cons (pe_op op_add pe_int (pe_call (ok_l_below T) (hr.mono (by decide)) rfl T.m_l_below T.F_l_below.kp (b_l_below T) .nil pass0 (pa_cons (pv 0) (pa_cons (pv 1) pa_nil)))) (pa_cons (pe_lst (pa_cons pe_str (pa_cons pe_str (pa_cons pe_str (pa_cons pe_str (pa_cons pe_str (pa_cons pe_str (pa_cons pe_str (pa_cons pe_str pa_nil))))))))) pa_nil)) (by rfl))
      (pss_cons (ps_if (PW.pt (pw_and (pt_cmpR op_gt (pv 1) pe_int (nomark _)) (pw_and1 (pt_cmpR op_eq (pe_call (ok_l_below T) (hr.mono (by decide)) rfl T.m_l_below T.F_l_below.kp (b_l_below T) .nil pass0 (pa_cons (pv 0) (pa_cons pe_int pa_nil))) pe_int (nomark _))))) (pss_cons (ps_set (i := 4) sc_l_steps.nd rfl (Or.inl rfl) (pe_ix ix_list (pe_lst (pa_cons (pe_lst (pa_cons pe_str (pa_cons pe_str pa_nil))) (pa_cons (pe_lst (pa_cons pe_str (pa_cons pe_str pa_nil))) pa_nil))) (pe_call (ok_l_below T) (hr.mono (by decide)) rfl T.m_l_below T.F_l_below.kp (b_l_below T) .nil pass0 (pa_cons (pv 0) (pa_cons pe_int pa_nil))) (fun _ _ => rfl)))
      (pss_one (ps_ret (pe_lst (pa_cons (pe_tup (pa_cons pe_str (pa_cons pe_non pa_nil))) (pa_cons (pe_tup (pa_cons (pe_ix ix_list (pv 4) pe_int (fun _ _ => rfl)) (pa_cons pe_non pa_nil))) (pa_cons (pe_tup (pa_cons pe_str (pa_cons pe_non pa_nil))) (pa_cons (pe_tup (pa_cons (pe_ix ix_list (pv 4) pe_int (fun _ _ => rfl)) (pa_cons pe_non pa_nil))) pa_nil)))))))) pss_nil)
      (pss_cons (ps_par (i := 5) (j := 6) (by rfl) sc_l_steps.nd rfl rfl (by decide) rfl rfl (pa_cons (pe_ix ix_list (pe_lst (pa_cons pe_int (pa_cons pe_int pa_nil))) (pe_call (ok_l_below T) (hr.mono (by decide)) rfl T.m_l_below T.F_l_below.kp (b_l_below T) .nil pass0 (pa_cons (pv 0) (pa_cons pe_int pa_nil))) (fun _ _ => rfl)) (pa_cons (pe_lst pa_nil) pa_nil)) (by rfl))
      (pss_cons (ps_for PassesOwn.never rfl (pi_range1 (by rfl) T.z_range (pa_cons (pv 2) pa_nil)) (pg_name (i := 7) sc_l_steps.nd rfl (Or.inl rfl)) (pss_cons (ps_set (i := 8) sc_l_steps.nd rfl (Or.inl rfl) (pe_ix ix_list (pv 3) (pe_call (ok_l_below T) (hr.mono (by decide)) rfl T.m_l_below T.F_l_below.kp (b_l_below T) .nil pass0 (pa_cons (pv 0) (pa_cons (pv 5) pa_nil))) (fun _ _ => rfl)))
      (pss_one (ps_expr (pe_bm PySem.F.plainAttrs_list PySem.F.slot_list_append PySem.F.type_list_append mt_append (pv 6) (pa_cons (pe_tup (pa_cons (pv 8) (pa_cons (pe_ifExp (pt_cmpR op_in_seq (pv 8) (pe_lst (pa_cons pe_str (pa_cons pe_str (pa_cons pe_str pa_nil)))) rfl) (pe_call (ok_l_below T) (hr.mono (by decide)) rfl T.m_l_below T.F_l_below.kp (b_l_below T) .nil pass0 (pa_cons (pv 0) (pa_cons (pv 2) pa_nil))) pe_non) pa_nil))) pa_nil))))))
      (pss_one (ps_ret (pv 6))))))), ?_⟩
    -- many, words
    refine ⟨_, rfl, _, rfl, draw_go hN.at (by omega) (by omega) fun H1 i A1 K1 hi => ?_⟩
    refine ⟨_, _, rfl, rfl, (by show 8 ≤ sizeLine; decide), fun W hW => ⟨_, _, rfl, ?_⟩⟩
    have A2 := A1.new hW (.lst (wds.map V.str))
    have hWG : SqL K (upd G W (.lst (wds.map V.str))) W (wds.map V.str) := SqL.of upd_same
    dsimp only
    -- behind the if
    refine seq_rest (fun H3 => At d G H (upd G W (.lst (wds.map V.str))) H3) [some (.ref d), some (.int most), some (.int (1 + (i : Int))), some (.ref W), none, none, none, none, none] (fun H3 A3 => ?r) (fun rest => ?m)
    case m =>
      refine ⟨_, rfl, _, _, rfl, rfl, _, rfl, ?_⟩
      refine ite2 (fun c4 => ?_) (fun c => ?_)
      · refine ⟨_, rfl, draw_go A2 (by decide) (by decide) fun H3 j A3 K3 hj => ?_⟩
        refine ⟨rfl, _, rfl, ?_⟩
        refine ite2 (fun c => ?_) (fun c => rest H3 A3)
        -- the four steps
        refine ⟨(by show 2 ≤ sizeLine; decide), fun q1 hq1 => ?_⟩
        have A4 := A3.new hq1 (.lst [.str "left", .str "right"])
        refine ⟨(by show 2 ≤ sizeLine; decide), fun q2 hq2 => ?_⟩
        have A5 := A4.new hq2 (.lst [.str "right", .str "left"])
        refine ⟨(by show 2 ≤ sizeLine; decide), fun q3 hq3 => ?_⟩
        have A6 := A5.new hq3 (.lst [.ref q1, .ref q2])
        refine ⟨_, rfl, draw_go A6 (by decide) (by decide) fun H7 m A7 K7 hm => ?_⟩
        have f1 : SqL K H7 q1 [.str "left", .str "right"] := A7.now.s.seq (SqL.of (by rw [upd_ne (ne_of_none (by rw [upd_ne (ne_of_none upd_same hq2), upd_same]) hq3), upd_ne (ne_of_none upd_same hq2), upd_same]))
        have f2 : SqL K H7 q2 [.str "right", .str "left"] := A7.now.s.seq (SqL.of (by rw [upd_ne (ne_of_none upd_same hq3), upd_same]))
        have f3 : SqL K H7 q3 [.ref q1, .ref q2] := A7.now.s.seq (SqL.of upd_same)
        obtain ⟨u, x, y, hu, hx, hy, hxy, hsq⟩ : ∃ (u : Addr) (x y : Nat), ([V.ref q1, V.ref q2] : List V)[m]? = some (.ref u) ∧ x < 5 ∧ y < 5 ∧ True ∧ SqL K H7 u [.str (wS x), .str (wS y)] := by
          match m, hm with
          | 0, _ => exact ⟨q1, 0, 1, rfl, by decide, by decide, trivial, f1⟩
          | 1, _ => exact ⟨q2, 1, 0, rfl, by decide, by decide, trivial, f2⟩
          | m + 2, h => exact absurd h (by omega)
        refine ⟨q3, _, _, .ref u, rfl, rfl, f3, atI_nat hu, ?_⟩
        refine ⟨(by show 2 ≤ sizeLine; decide), fun t1 ht1 => ?_⟩
        have B1 := A7.new ht1 (.tup [.str (wS 2), .non])
        have g1 := Same.seq (same_new ht1 (o := .tup [.str (wS 2), .non])) hsq
        refine ⟨_, rfl, u, _, 0, .str (wS x), rfl, rfl, g1, at_of (j := 0) rfl rfl, (by show 2 ≤ sizeLine; decide), fun t2 ht2 => ?_⟩
        have B2 := B1.new ht2 (.tup [.str (wS x), .non])
        refine ⟨(by show 2 ≤ sizeLine; decide), fun t3 ht3 => ?_⟩
        have B3 := B2.new ht3 (.tup [.str (wS 3), .non])
        have g3 := Same.seq (same_new ht3 (o := .tup [.str (wS 3), .non])) (Same.seq (same_new ht2 (o := .tup [.str (wS x), .non])) g1)
        refine ⟨_, rfl, u, _, 1, .str (wS y), rfl, rfl, g3, at_of (j := 1) rfl rfl, (by show 2 ≤ sizeLine; decide), fun t4 ht4 => ?_⟩
        have B4 := B3.new ht4 (.tup [.str (wS y), .non])
        refine ⟨(by show 4 ≤ sizeLine; decide), fun r hr' => ?_⟩
        have B5 := B4.new hr' (.lst [.ref t1, .ref t2, .ref t3, .ref t4])
        refine k _ _ _ B5 ⟨[⟨2, none⟩, ⟨x, none⟩, ⟨3, none⟩, ⟨y, none⟩], ⟨(by show 1 ≤ 4; decide), (by show 4 ≤ 20; decide), ?_⟩, ?_, ?_⟩
        · intro s hs
          rcases List.mem_cons.mp hs with rfl | hs
          · exact ok_no (by decide)
          rcases List.mem_cons.mp hs with rfl | hs
          · exact ok_no hx
          rcases List.mem_cons.mp hs with rfl | hs
          · exact ok_no (by decide)
          rcases List.mem_cons.mp hs with rfl | hs
          · exact ok_no hy
          · cases hs
        · have n5 := same_new (H := upd (upd (upd (upd _ t1 (.tup [.str (wS 2), .non])) t2 (.tup [.str (wS x), .non])) t3 (.tup [.str (wS 3), .non])) t4 (.tup [.str (wS y), .non])) (p := r) (o := .lst [.ref t1, .ref t2, .ref t3, .ref t4]) (Same.free B4.now.s hr')
          have n4 := same_new (H := upd (upd (upd _ t1 (.tup [.str (wS 2), .non])) t2 (.tup [.str (wS x), .non])) t3 (.tup [.str (wS 3), .non])) (p := t4) (o := .tup [.str (wS y), .non]) (Same.free B3.now.s ht4)
          have n3 := same_new (H := upd (upd _ t1 (.tup [.str (wS 2), .non])) t2 (.tup [.str (wS x), .non])) (p := t3) (o := .tup [.str (wS 3), .non]) (Same.free B2.now.s ht3)
          have n2 := same_new (H := upd _ t1 (.tup [.str (wS 2), .non])) (p := t2) (o := .tup [.str (wS x), .non]) (Same.free B1.now.s ht2)
          refine .lst (SqL.of upd_same) (.cons (stepD_no ?_) (.cons (stepD_no ?_) (.cons (stepD_no ?_) (.cons (stepD_no ?_) .nil))))
          · exact Same.seqT (((n2.trans n3).trans n4).trans n5) (SqT.of upd_same)
          · exact Same.seqT ((n3.trans n4).trans n5) (SqT.of upd_same)
          · exact Same.seqT (n4.trans n5) (SqT.of upd_same)
          · exact Same.seqT n5 (SqT.of upd_same)
        · have h3 : (3 : Int) < (most : Int) := of_decide_eq_true c4
          show 4 ≤ most
          omega
      · exact rest _ A2
    -- the loop
    refine ⟨(by show 2 ≤ sizeLine; decide), fun q hq => ?_⟩
    have A4 := A3.new hq (.lst [.int 5, .int 8])
    refine ⟨_, rfl, draw_go A4 (by decide) (by decide) fun H5 m A5 K5 hm => ?_⟩
    have f1 : SqL K H5 q [.int 5, .int 8] := A5.now.s.seq (SqL.of upd_same)
    obtain ⟨lim, hlim, l1, l8⟩ : ∃ lim : Nat, ([V.int 5, V.int 8] : List V)[m]? = some (.int lim) ∧ 0 < lim ∧ lim ≤ 8 := by
      match m, hm with
      | 0, _ => exact ⟨5, rfl, by decide, by decide⟩
      | 1, _ => exact ⟨8, rfl, by decide, by decide⟩
      | m + 2, h => exact absurd h (by omega)
    refine ⟨q, _, _, .int lim, rfl, rfl, f1, atI_nat hlim, Nat.zero_le _, fun l hl => ⟨_, _, rfl, ?_⟩⟩
    have A6 := A5.lay hl (.lst [])
    have lG : upd (upd G W (.lst (wds.map V.str))) q (.lst [.int 5, .int 8]) l = none := Same.free A5.now.s hl
    have l0 : H l = none := A5.ext.k l hl
    have ld : l ≠ d := A5.ne hl
    refine ⟨_, rfl, _, rfl, by omega, by omega, for_range (lo := 0) (n := (1 + (i : Int)).toNat) (fun j σ H' => ∃ (G' : Hp) (xs : List V) (ss : List Step) (v7 v8 : Option V), σ = [some (.ref d), some (.int most), some (.int (1 + (i : Int))), some (.ref W), none, some (.int lim), some (.ref l), v7, v8] ∧
      At d G H G' H' ∧ G' l = none ∧ H' l = some (.lst xs) ∧ SqL K G' W (wds.map V.str) ∧ DpAll K G' xs (ss.map Step.D) ∧ ss.length = j ∧ ∀ s ∈ ss, Step.Ok (1 + i) s) ?_ ?_ ?_⟩
    · exact ⟨_, [], [], none, none, rfl, A6, lG, upd_same, (same_new (Same.free A3.now.s hq)).seq hWG, .nil, rfl, fun _ h => nomatch h⟩
    · rintro j σ H' hj ⟨G', xs, ss, v7, v8, rfl, B, lG', hxs, hW', hss, hsl, hok⟩
      refine ⟨_, rfl, _, rfl, _, rfl, draw_go B (by omega) (by omega) fun H7 x B1 K1 hx => ?_⟩
      have hx8 : x < 8 := by omega
      refine ⟨W, _, _, .str (wS x), rfl, rfl, B1.now.s.seq hW', atI_nat (wds_at hx8), ?_⟩
      have hl7 : H7 l = some (.lst xs) := by rw [K1 l ld]; exact hxs
      refine ⟨_, rfl, .inl ⟨rfl, _, SqL.of hl7⟩, _, rfl, _, rfl, (by show 3 ≤ sizeLine; decide), fun q2 hq2 => ?_⟩
      have B2 := B1.lay hq2 (.lst jmpV)
      have hl8 : (upd H7 q2 (.lst jmpV)) l = some (.lst xs) := by rw [upd_ne (ne_of_none hl7 hq2)]; exact hl7
      refine ⟨q2, jmpV, rfl, .inl (SqL.of upd_same), rfl, jmp_flat, _, rfl, ?_⟩
      -- the tuple appended
      have fin : ∀ (H9 : Hp) (g : Option Nat) (v : V), At d G H G' H9 → H9 l = some (.lst xs) → (∀ G, Dp K G v (optD g)) → Step.Ok (1 + i) ⟨x, g⟩ →
          (2 ≤ sizeLine ∧ ∀ t, H9 t = none → ∃ l' ys y, (V.ref l) = .ref l' ∧ [V.ref t] = [y] ∧ (upd H9 t (.tup [.str (wS x), v])) l' = some (.lst ys) ∧ ys.length < sizeLine ∧
            (∃ (G' : Hp) (xs : List V) (ss : List Step) (v7 v8 : Option V), [some (V.ref d), some (.int most), some (.int (1 + (i : Int))), some (.ref W), none, some (.int lim), some (.ref l), some (.int (0 + (j : Int))), some (.str (wS x))] = [some (.ref d), some (.int most), some (.int (1 + (i : Int))), some (.ref W), none, some (.int lim), some (.ref l), v7, v8] ∧
              At d G H G' (upd (upd H9 t (.tup [.str (wS x), v])) l' (.lst (ys ++ [y]))) ∧ G' l = none ∧ (upd (upd H9 t (.tup [.str (wS x), v])) l' (.lst (ys ++ [y]))) l = some (.lst xs) ∧ SqL K G' W (wds.map V.str) ∧ DpAll K G' xs (ss.map Step.D) ∧ ss.length = j + 1 ∧ ∀ s ∈ ss, Step.Ok (1 + i) s)) := by
        intro H9 g v B9 h9 hv hokx
        refine ⟨by decide, fun t ht => ?_⟩
        have ntl : l ≠ t := ne_of_none h9 ht
        have B10 := B9.new ht (.tup [.str (wS x), v])
        have lG10 : upd G' t (.tup [.str (wS x), v]) l = none := by rw [upd_ne ntl]; exact lG'
        have nG := same_new (H := G') (p := t) (o := .tup [.str (wS x), v]) (Same.free B9.now.s ht)
        refine ⟨l, xs, _, rfl, rfl, by rw [upd_ne ntl]; exact h9, smaller 20 (by rw [DpAll.len hss, List.length_map]; omega) (by decide), _, xs ++ [.ref t], ss ++ [⟨x, g⟩], _, _, rfl, B10.put l0 lG10 ld _, lG10, upd_same, nG.seq hW', ?_, ?_, ?_⟩
        · rw [List.map_append]
          exact DpAll.snoc (Dp.monoAll nG _ _ hss) (.tup (SqT.of upd_same) (.cons (.str _) (.cons (hv _) .nil)))
        · rw [List.length_append, hsl]; rfl
        · intro s hs
          rcases List.mem_append.mp hs with h | h
          · exact hok s h
          · rw [List.mem_singleton.mp h]; exact hokx
      rw [if_neg Bool.false_ne_true, jmp_in hx8]
      refine ite2 (fun c => ?_) (fun c => ?_)
      · have hx5 : 5 ≤ x := of_decide_eq_true c
        refine ⟨_, rfl, _, rfl, draw_go B2 (by omega) (by omega) fun H9 g B3 K3 hg => ?_⟩
        refine fin H9 (some g) (.int g) B3 (by rw [K3 l ld]; exact hl8) (fun _ => .int g) ⟨hx8, fun z => absurd (show x < 5 from z) (by omega), fun _ => ⟨g, rfl, by omega⟩⟩
      · have hx5 : ¬ 5 ≤ x := fun z => c (decide_eq_true z)
        exact fin _ none .non B2 hl8 (fun _ => .non) (ok_no (by omega))
    · rintro σ H' ⟨G', xs, ss, v7, v8, rfl, B, lG', hxs, hW', hss, hsl, hok⟩
      refine ⟨_, rfl, ?_⟩
      have B1 := B.freeze l0 hxs ld
      have e : ss.length = 1 + i := by omega
      refine k _ _ _ B1 ⟨ss, ⟨by omega, by omega, by rw [e]; exact hok⟩, .lst (SqL.of upd_same) (Dp.monoAll ?_ _ _ hss), by omega⟩
      intro b o eb
      by_cases hb : b = l
      · rw [hb, lG'] at eb; cases eb
      · rw [upd_ne hb]; exact eb
end
end Sb

namespace Sb
open PySem PySem.Spec PyProof.Rows L2
structure spPlan (K : PySem.W.Frag) (vs : List V) (H : Hp) (Q : VK) (E : XK) : Prop where
  ex : ∃ (d : Addr) (G : Hp) (most : Nat), vs = [.ref d, .int most] ∧ 1 ≤ most ∧ most ≤ 20 ∧
    Drawn d G H Q fun G' v => ∃ x : Pl, x.Ok ∧ x.shelf.length ≤ 8 ∧ Dp K G' v x.D ∧ x.p.length ≤ most ∧ x.q.length ≤ most
theorem other_ne {n f s : Nat} (hf : f < n) (hs : s + 1 < n) : (f + 1 + s) % n ≠ f := by
  by_cases h : f + 1 + s < n
  · rw [Nat.mod_eq_of_lt h]; omega
  · rw [Nat.mod_eq_sub_mod (by omega), Nat.mod_eq_of_lt (by omega)]; omega
theorem other_eq (f s n : Nat) : ((f : Int) + 1 + (s : Int)) % (3 + (n : Int)) = (((f + 1 + s) % (3 + n) : Nat) : Int) := by
  rw [Int.natCast_emod]
  push_cast
  rfl
theorem nats_D (K : PySem.W.Frag) (G : Hp) (l : List Nat) : DpAll K G (l.map fun n : Nat => V.int n) (l.map natD) := by
  induction l with
  | nil => exact .nil
  | cons n l ih => exact .cons (.int _) ih
theorem draw_steps {K : PySem.W.Frag} {d : Addr} {G0 H0 G H : Hp} {most : Nat} {Q : VK} {E : XK} (h : At d G0 H0 G H) (m1 : 1 ≤ most) (m2 : most ≤ 20)
    (k : ∀ (G1 H1 : Hp) (v : V) (ss : List Step), At d G0 H0 G1 H1 → At d G H G1 H1 → StepsOk ss → Dp K G1 v (stepsD ss) → ss.length ≤ most → Q v H1) : spSteps K [.ref d, .int most] H Q E :=
  ⟨⟨d, G, most, rfl, m1, m2, h.now, fun G' H' v A ⟨ss, o, D, l⟩ => k G' H' v ss (h.trans A) A o D l⟩⟩
theorem draw_plan {K : PySem.W.Frag} {d : Addr} {G0 H0 G H : Hp} {most : Nat} {Q : VK} {E : XK} (h : At d G0 H0 G H) (m1 : 1 ≤ most) (m2 : most ≤ 20)
    (k : ∀ (G1 H1 : Hp) (v : V) (x : Pl), At d G0 H0 G1 H1 → At d G H G1 H1 → x.Ok → x.shelf.length ≤ 8 → Dp K G1 v x.D → Q v H1) : spPlan K [.ref d, .int most] H Q E :=
  ⟨⟨d, G, most, rfl, m1, m2, h.now, fun G' H' v A ⟨ss, o, o8, D, _⟩ => k G' H' v ss (h.trans A) A o o8 D⟩⟩
theorem draw_plan2 {K : PySem.W.Frag} {d : Addr} {G0 H0 G H : Hp} {most : Nat} {Q : VK} {E : XK} (h : At d G0 H0 G H) (m1 : 1 ≤ most) (m2 : most ≤ 20)
    (k : ∀ (G1 H1 : Hp) (v : V) (x : Pl), At d G0 H0 G1 H1 → At d G H G1 H1 → x.Ok → x.shelf.length ≤ 8 → Dp K G1 v x.D → x.p.length ≤ most → x.q.length ≤ most → Q v H1) : spPlan K [.ref d, .int most] H Q E :=
  ⟨⟨d, G, most, rfl, m1, m2, h.now, fun G' H' v A ⟨ss, o, o8, D, l1, l2⟩ => k G' H' v ss (h.trans A) A o o8 D l1 l2⟩⟩
section
variable {P : Program} {w : World} {K : PySem.W.Frag} {mg : Str → Option Value} {base : Heap} {a : Ad}
theorem ok_l_plan (T : Txt K mg a) : FnOk P w K mg base CX0 3 a.f_l_plan a.d_l_plan ["_law_d", "_law_most"] (spPlan K) := by
  refine T.F_l_plan.ok sc_l_plan (fun vs H Q E h => ?_) (fun cdv A outer s H vs Q E hr h => ?_)
  · obtain ⟨⟨d, G, m, rfl, _⟩⟩ := h
    rfl
  · obtain ⟨⟨d, G, most, rfl, m1, m20, hN, k⟩⟩ := h
    refine ⟨_, (pss_cons (ps_set (i := 2) sc_l_plan.nd rfl (Or.inl rfl) (pe_op op_add pe_int (pe_call (ok_l_below T) (hr.mono (by decide)) rfl T.m_l_below T.F_l_below.kp (b_l_below T) .nil pass0 (pa_cons (pv 0) (pa_cons (pe_ix ix_list (pe_lst (pa_cons pe_int (pa_cons pe_int pa_nil))) (pe_call (ok_l_below T) (hr.mono (by decide)) rfl T.m_l_below T.F_l_below.kp (b_l_below T) .nil pass0 (pa_cons (pv 0) (pa_cons pe_int pa_nil))) (fun _ _ => rfl)) pa_nil)))))
      (pss_cons (ps_set (i := 3) sc_l_plan.nd rfl (Or.inl rfl) (pe_call (ok_l_below T) (hr.mono (by decide)) rfl T.m_l_below T.F_l_below.kp (b_l_below T) .nil pass0 (pa_cons (pv 0) (pa_cons (pv 2) pa_nil))))
      (pss_cons (ps_set (i := 4) sc_l_plan.nd rfl (Or.inl rfl) (pe_op op_mod (pe_op op_add (pe_op op_add (pv 3) pe_int) (pe_call (ok_l_below T) (hr.mono (by decide)) rfl T.m_l_below T.F_l_below.kp (b_l_below T) .nil pass0 (pa_cons (pv 0) (pa_cons (pe_op op_sub (pv 2) pe_int) pa_nil)))) (pv 2)))
      (pss_cons (ps_set (i := 5) sc_l_plan.nd rfl (Or.inl rfl) (pe_callTy call_tuple_of (by rfl) T.z_tuple (by decide +kernel) (pa_cons (pe_lc (own := [("_law_k", 6)]) (g := gName 6) (tt := tYes) rfl sc_l_plan.nd (pi_range1 (by rfl) T.z_range (pa_cons (pv 2) pa_nil)) (blkOk_by (own := [("_law_k", 6)]) (N := ["_law_d", "_law_most", "_law_many_cells", "_law_first", "_law_second", "_law_shelf", "_law_k"]) (sc := defScope s_l_plan) (by decide +kernel)) (fun _ _ _ _ _ => (pg_name (i := 6) sc_l_plan.nd rfl (Or.inl rfl))) (fun _ _ _ _ _ => pts_nil) (fun _ _ _ _ _ => by exact (pe_call (ok_l_below T) (hr.mono (by decide)) rfl T.m_l_below T.F_l_below.kp (b_l_below T) .nil pass0 (pa_cons (pv 0) (pa_cons pe_int pa_nil))))) pa_nil)))
      (pss_one (ps_ret (pe_tup (pa_cons (pv 5) (pa_cons (pe_tup (pa_cons (pv 3) (pa_cons (pv 4) pa_nil))) (pa_cons (pe_lst (pa_cons (pe_call (ok_l_steps T) (hr.mono (by decide)) rfl T.m_l_steps T.F_l_steps.kp (b_l_steps T) .nil pass0 (pa_cons (pv 0) (pa_cons (pv 1) pa_nil))) (pa_cons (pe_call (ok_l_steps T) (hr.mono (by decide)) rfl T.m_l_steps T.F_l_steps.kp (b_l_steps T) .nil pass0 (pa_cons (pv 0) (pa_cons (pv 1) pa_nil))) pa_nil))) pa_nil)))))))))), ?_⟩
    refine ⟨_, rfl, (by show 2 ≤ sizeLine; decide), fun q hq => ?_⟩
    have A1 := hN.at.new hq (.lst [.int 3, .int 6])
    refine ⟨_, rfl, draw_go A1 (by decide) (by decide) fun H2 m A2 K2 hm => ?_⟩
    obtain ⟨lim, hlim, l1, l6⟩ : ∃ lim : Nat, ([V.int 3, V.int 6] : List V)[m]? = some (.int lim) ∧ 0 < lim ∧ lim ≤ 6 := by
      match m, hm with
      | 0, _ => exact ⟨3, rfl, by decide, by decide⟩
      | 1, _ => exact ⟨6, rfl, by decide, by decide⟩
      | m + 2, h => exact absurd h (by omega)
    refine ⟨q, _, _, .int lim, rfl, rfl, A2.now.s.seq (SqL.of upd_same), atI_nat hlim, draw_go A2 (by omega) (by omega) fun H3 i A3 K3 hi => ?_⟩
    refine ⟨_, _, rfl, rfl, ?_⟩
    -- first
    refine ⟨_, rfl, _, rfl, draw_go A3 (by omega) (by omega) fun H4 f A4 K4 hf => ?_⟩
    -- second
    refine ⟨_, rfl, _, _, rfl, rfl, _, rfl, _, rfl, _, _, rfl, rfl, draw_go A4 (by omega) (by omega) fun H5 t A5 K5 ht => ?_⟩
    refine ⟨_, _, rfl, rfl, _, rfl, _, _, rfl, rfl, (by show (0 : Int) < 3 + (i : Int); omega), ?_⟩
    dsimp only
    rw [other_eq f t i]
    have hb : (f + 1 + t) % (3 + i) < 3 + i := Nat.mod_lt _ (by omega)
    have hne : f ≠ (f + 1 + t) % (3 + i) := (other_ne (by omega) (by omega)).symm
    generalize (f + 1 + t) % (3 + i) = b at hb hne ⊢
    -- the shelf
    refine ⟨_, rfl, _, rfl, by omega, by omega, fun D hD => ?_⟩
    have D0 : H D = none := A5.ext.k D hD
    have Dd : D ≠ d := A5.ne hD
    have DG := A5.ext.new_out hD
    refine lc_range (lo := 0) (n := (3 + (i : Int)).toNat) (fun j H' => ∃ l : List Nat, At d G H (upd G q (.lst [.int 3, .int 6])) H' ∧ H' D = some (.lst (l.map fun n : Nat => V.int n)) ∧ l.length = j ∧ ∀ n ∈ l, n ≤ 3) ⟨[], A5.lay hD _, upd_same, rfl, fun _ h => nomatch h⟩ ?_ ?_
    · rintro j H' hj ⟨l, B, hl, hlj, h3⟩
      refine ⟨rfl, _, rfl, draw_go B (by decide) (by decide) fun H6 x B1 K1 hx => ?_⟩
      refine ⟨_, (by rw [K1 D Dd]; exact hl), smaller 9 (by rw [List.length_map]; omega) (by decide), l ++ [x], B1.put D0 DG Dd _, ?_, ?_, ?_⟩
      · rw [upd_same, List.map_append]; rfl
      · rw [List.length_append, hlj]; rfl
      · intro n hn
        rcases List.mem_append.mp hn with h | h
        · exact h3 n h
        · rw [List.mem_singleton.mp h]; omega
    · rintro H6 ⟨l, B, hl, hlj, h3⟩
      refine ⟨D, _, rfl, .inl ⟨SqL.of hl, fun u hu => ?_⟩⟩
      have B1 := B.new hu (.tup (l.map fun n : Nat => V.int n))
      have s1 : SqT K (upd (upd G q (.lst [.int 3, .int 6])) u (.tup (l.map fun n : Nat => V.int n))) u (l.map fun n : Nat => V.int n) := SqT.of upd_same
      -- the plan
      refine ⟨_, rfl, _, rfl, _, rfl, (by show 2 ≤ sizeLine; decide), fun st hst => ?_⟩
      have B2 := B1.new hst (.tup [.int f, .int b])
      refine ⟨_, rfl, _, rfl, draw_steps B2 m1 m20 fun G7 H7 v1 ss1 B7 B7' o1 D1 le1 => ?_⟩
      refine ⟨_, rfl, _, rfl, draw_steps B7 m1 m20 fun G8 H8 v2 ss2 B8 B8' o2 D2 le2 => ?_⟩
      refine ⟨(by show 2 ≤ sizeLine; decide), fun r hr' => ?_⟩
      have B9 := B8.new hr' (.lst [v1, v2])
      refine ⟨(by show 3 ≤ sizeLine; decide), fun z hz => ?_⟩
      have B10 := B9.new hz (.tup [.ref u, .ref st, .ref r])
      have n1 := same_new (H := G8) (p := r) (o := .lst [v1, v2]) (B8.ext.new_out hr')
      have n2 := same_new (H := upd G8 r (.lst [v1, v2])) (p := z) (o := .tup [.ref u, .ref st, .ref r]) (B9.ext.new_out hz)
      have g8 : Same _ G8 := B7'.g.trans B8'.g
      refine k _ _ _ B10 ⟨⟨l, f, b, ss1, ss2⟩, ⟨?_, ?_, h3, ?_, ?_, hne, o1, o2⟩, ?_, ?_, le1, le2⟩
      · show 3 ≤ l.length; omega
      · show l.length ≤ 12; omega
      · show f < l.length; omega
      · show b < l.length; omega
      · show l.length ≤ 8; omega
      · refine .tup (SqT.of upd_same) (.cons (.tup ?_ (nats_D _ _ l)) (.cons (.tup ?_ (.cons (.int _) (.cons (.int _) .nil))) (.cons (.lst (xs := [v1, v2]) ?_ (.cons ?_ (.cons ?_ .nil))) .nil)))
        · exact Same.seqT ((g8.trans n1).trans n2) (Same.seqT (same_new (B1.ext.new_out hst)) s1)
        · exact Same.seqT ((g8.trans n1).trans n2) (SqT.of upd_same)
        · exact n2.seq (SqL.of upd_same)
        · exact Dp.mono ((B8'.g.trans n1).trans n2) _ _ D1
        · exact Dp.mono (n1.trans n2) _ _ D2
end
end Sb

namespace Sb
open PySem PySem.Spec PyProof.Rows L2 TL
theorem Ext.ofSame {G H H' : Hp} (s : Same G H) (h : Same H H') : Ext G H G H' := ⟨Same.refl G, s.trans h, fun _ _ e => .inl e, fun _ e => Same.free h e⟩
theorem log_ok {n : Nat} (h : n < 100) : ((n : Int)).natAbs.log2 < 1920 := by
  have e : ((n : Int)).natAbs = n := rfl
  have := Nat.log2_le_self n
  rw [e]
  omega
theorem at_n {α : Type} {xs : List α} {z : Int} {j : Nat} {v : α} (e : z = (j : Int)) (h : xs[j]? = some v) : atI xs z = some v := by
  rw [e]
  exact atI_nat h
theorem len1s (c : Nat) : (⟨#[c]⟩ : Str).length = 1 := rfl
theorem e_s : (Str.ofString "s").length = 1 := by decide +kernel
theorem e_cs : (Str.ofString ": ").length = 2 := by decide +kernel
theorem e_ss : (Str.ofString " s").length = 2 := by decide +kernel
theorem e_2 : (Str.ofString "  ").length = 2 := by decide +kernel
theorem addS {x y : Str} (m : Nat) (h : x.length + y.length ≤ m) (hm : m ≤ 16777216 := by decide) : x.length + y.length ≤ sizeLine := small m h hm
structure spLText (K : PySem.W.Frag) (vs : List V) (H : Hp) (Q : VK) (E : XK) : Prop where
  ex : ∃ (G : Hp) (v : V) (x : Pl), vs = [v] ∧ Same G H ∧ Dp K G v x.D ∧ x.Ok ∧ ∀ H', Same H H' → Q (.str (textS x)) H'
/-- the two robots, by number -/
def Pl.st (x : Pl) (i : Nat) : Nat := if i = 0 then x.a else x.b
def Pl.ss (x : Pl) (i : Nat) : List Step := if i = 0 then x.p else x.q
def Pl.robs (x : Pl) : Nat → List (List Nat)
  | 0 => []
  | i + 1 => Pl.robs x i ++ robotL (x.st i) (x.ss i)
theorem Pl.robs2 (x : Pl) : shelfL x.shelf :: x.robs 2 = linesL x := rfl
theorem sum_len : ∀ (l : List Str) (m : Nat), (∀ p ∈ l, p.length ≤ m) → (l.map (·.length)).sum ≤ l.length * m
  | [], _, _ => by simp
  | x :: r, m, h => by
    have h1 := h x (by simp)
    have ih := sum_len r m (fun p hp => h p (by simp [hp]))
    rw [List.map_cons, List.sum_cons, List.length_cons, Nat.add_mul, Nat.one_mul]
    omega
theorem len_of_map {l : List Str} {m : List (List Nat)} (h : l.map tl = m) : l.length = m.length := by rw [← h, List.length_map]
theorem mem_len {l : List Str} {m : List (List Nat)} {k : Nat} (h : l.map tl = m) (hm : ∀ p ∈ m, p.length ≤ k) : ∀ p ∈ l, p.length ≤ k := fun p hp => by
  rw [len_tl]
  exact hm (tl p) (by rw [← h]; exact List.mem_map.mpr ⟨p, hp, rfl⟩)
theorem robs_len {x : Pl} (h : x.Ok) : ∀ {i : Nat}, i ≤ 2 → (x.robs i).length ≤ 22 * i
  | 0, _ => by simp [Pl.robs]
  | i + 1, hi => by
    have ih := robs_len h (i := i) (by omega)
    show (x.robs i ++ robotL (x.st i) (x.ss i)).length ≤ _
    rw [List.length_append, robotL_len]
    have : (x.ss i).length ≤ 20 := by unfold Pl.ss; split; exact h.p.le; exact h.q.le
    omega
theorem join_txt {y : Str} {parts : List Str} {S : List Nat} {ps : List (List Nat)} (hy : tl y = S) (hp : parts.map tl = ps) : tl (Txt.join y parts) = joinL S ps := by
  rw [join_eq, tl_join, hy, hp]
/-- a plan's data, taken apart -/
theorem plan_inv {K : PySem.W.Frag} {G : Hp} {v : V} {x : Pl} (h : Dp K G v x.D) : ∃ t sh st bo l1 l2 xs1 xs2, v = .ref t ∧ SqT K G t [.ref sh, .ref st, .ref bo] ∧ SqT K G sh (x.shelf.map fun n : Nat => V.int n) ∧ SqT K G st [.int x.a, .int x.b] ∧
    SqL K G bo [.ref l1, .ref l2] ∧ SqL K G l1 xs1 ∧ SqL K G l2 xs2 ∧ DpAll K G xs1 (x.p.map Step.D) ∧ DpAll K G xs2 (x.q.map Step.D) := by
  obtain ⟨t, xs, rfl, ht, hx⟩ := Dp.tup_inv h
  obtain ⟨v1, r, rfl, h1, hx⟩ := DpAll.cons_inv hx
  obtain ⟨v2, r, rfl, h2, hx⟩ := DpAll.cons_inv hx
  obtain ⟨v3, r, rfl, h3, hx⟩ := DpAll.cons_inv hx
  cases DpAll.nil_inv hx
  obtain ⟨sh, ys, rfl, hsh, hy⟩ := Dp.tup_inv h1
  obtain ⟨st, zs, rfl, hst, hz⟩ := Dp.tup_inv h2
  obtain ⟨z1, r, rfl, e1, hz⟩ := DpAll.cons_inv hz
  obtain ⟨z2, r, rfl, e2, hz⟩ := DpAll.cons_inv hz
  cases DpAll.nil_inv hz
  obtain ⟨bo, ws, rfl, hbo, hw⟩ := Dp.lst_inv h3
  obtain ⟨b1, r, rfl, f1, hw⟩ := DpAll.cons_inv hw
  obtain ⟨b2, r, rfl, f2, hw⟩ := DpAll.cons_inv hw
  cases DpAll.nil_inv hw
  obtain ⟨l1, xs1, rfl, hl1, hx1⟩ := Dp.lst_inv f1
  obtain ⟨l2, xs2, rfl, hl2, hx2⟩ := Dp.lst_inv f2
  have e1' := Dp.int_inv e1
  have e2' := Dp.int_inv e2
  subst e1' e2'
  have ey : ys = x.shelf.map fun n : Nat => V.int n := by
    have : ∀ (l : List Nat) (ys : List V), DpAll K G ys (l.map natD) → ys = l.map fun n : Nat => V.int n := by
      intro l
      induction l with
      | nil => intro ys h; exact DpAll.nil_inv h
      | cons n l ih =>
        intro ys h
        obtain ⟨v, r, rfl, a, b⟩ := DpAll.cons_inv h
        rw [Dp.int_inv a, ih r b]
        rfl
    exact this _ _ hy
  subst ey
  exact ⟨t, sh, st, bo, l1, l2, xs1, xs2, rfl, ht, hsh, hst, hbo, hl1, hl2, hx1, hx2⟩
/-- a step's data -/
theorem step_inv {K : PySem.W.Frag} {G : Hp} {v : V} {s : Step} (h : Dp K G v s.D) : ∃ t g, v = .ref t ∧ SqT K G t [.str (wS s.w), g] ∧ ((s.g = none ∧ g = .non) ∨ ∃ k : Nat, s.g = some k ∧ g = .int k) := by
  obtain ⟨t, xs, rfl, ht, hx⟩ := Dp.tup_inv h
  obtain ⟨v1, r, rfl, h1, hx⟩ := DpAll.cons_inv hx
  obtain ⟨v2, r, rfl, h2, hx⟩ := DpAll.cons_inv hx
  cases DpAll.nil_inv hx
  have e1 := Dp.str_inv h1
  subst e1
  refine ⟨t, v2, rfl, ht, ?_⟩
  cases hg : s.g with
  | none =>
    rw [hg] at h2
    exact .inl ⟨rfl, Dp.none_inv h2⟩
  | some k =>
    rw [hg] at h2
    exact .inr ⟨k, rfl, Dp.int_inv h2⟩
theorem goals_take {ss : List Step} {i : Nat} {s : Step} (h : ss[i]? = some s) : goalsOf (ss.take (i + 1)) = goalsOf (ss.take i) ++ (match s.g with | none => [] | some k => [k]) := by
  unfold goalsOf
  rw [take_more h, List.filterMap_append]
  congr 1
  cases hg : s.g <;> simp [hg]
section
variable {P : Program} {w : World} {K : PySem.W.Frag} {mg : Str → Option Value} {base : Heap} {a : Ad}
theorem ok_l_text (T : Txt K mg a) : FnOk P w K mg base CX0 1 a.f_l_text a.d_l_text ["_law_plan_here"] (spLText K) := by
  refine T.F_l_text.ok sc_l_text (fun vs H Q E h => ?_) (fun cdv A outer s H vs Q E hr h => ?_)
  · obtain ⟨⟨G, v, x, rfl, _⟩⟩ := h
    rfl
  · obtain ⟨⟨G, v, x, rfl, hGH, hD, hx, k⟩⟩ := h
    obtain ⟨t, sh, st, bo, l1, l2, xs1, xs2, rfl, ht, hsh, hst, hbo, hl1, hl2, hx1, hx2⟩ := plan_inv hD
    refine ⟨_, (pss_cons (ps_asg (pv 0) (pg_tup (by rfl) (pgs_cons (pg_name (i := 1) sc_l_text.nd rfl (Or.inl rfl)) (pgs_cons (pg_name (i := 2) sc_l_text.nd rfl (Or.inl rfl)) (pgs_cons (pg_name (i := 3) sc_l_text.nd rfl (Or.inl rfl)) pgs_nil)))))
      (pss_cons (ps_set (i := 4) sc_l_text.nd rfl (Or.inl rfl) (pe_lst (pa_cons (pe_op op_add_str (pe_op op_add_str pe_str (pe_join pe_str (pe_lc (own := [("_law_pieces", 5)]) (g := gName 5) (tt := tYes) rfl sc_l_text.nd (pi_tup (pv 1)) (blkOk_by (own := [("_law_pieces", 5)]) (N := ["_law_plan_here", "_law_shelf", "_law_starts", "_law_both", "_law_lines", "_law_pieces", "_law_number", "_law_goals", "_law_word", "_law_goal", "_law_k", "_law_mark", "_law_target"]) (sc := defScope s_l_text) (by decide +kernel)) (fun _ _ _ _ _ => (pg_name (i := 5) sc_l_text.nd rfl (Or.inl rfl))) (fun _ _ _ _ _ => pts_nil) (fun _ _ _ _ _ => by exact (pe_callTy call_str_int (by rfl) T.z_str (by decide +kernel) (pa_cons (pv 5) pa_nil)))))) pe_str) pa_nil)))
      (pss_cons (ps_for PassesOwn.never rfl (pi_range1 (by rfl) T.z_range (pa_cons pe_int pa_nil)) (pg_name (i := 6) sc_l_text.nd rfl (Or.inl rfl)) (pss_cons (ps_expr (pe_bm PySem.F.plainAttrs_list PySem.F.slot_list_append PySem.F.type_list_append mt_append (pv 4) (pa_cons (pe_op op_add_str (pe_op op_add_str pe_str (pe_callTy call_str_int (by rfl) T.z_str (by decide +kernel) (pa_cons (pe_ix ix_tup (pv 2) (pv 6) (fun _ _ => rfl)) pa_nil))) pe_str) pa_nil)))
      (pss_cons (ps_setLc (i := 7) (own := [("_law_word", 8), ("_law_goal", 9)]) (g := gTup K 2 (gCons (gName 8) (gCons (gName 9) gNil))) rfl sc_l_text.nd rfl rfl (sw_true rfl rfl rfl (by decide +kernel)) (pi_list (pe_ix ix_list (pv 3) (pv 6) (fun _ _ => rfl))) (blkOk_by (own := [("_law_word", 8), ("_law_goal", 9)]) (N := ["_law_plan_here", "_law_shelf", "_law_starts", "_law_both", "_law_lines", "_law_pieces", "_law_number", "_law_goals", "_law_word", "_law_goal", "_law_k", "_law_mark", "_law_target"]) (sc := defScope s_l_text) (by decide +kernel)) (fun _ _ _ _ _ => (pg_tup (by rfl) (pgs_cons (pg_name (i := 8) sc_l_text.nd rfl (Or.inl rfl)) (pgs_cons (pg_name (i := 9) sc_l_text.nd rfl (Or.inl rfl)) pgs_nil)))) (fun _ _ _ _ _ => by exact pts_one (pt_cmpR op_notN (pv 9) pe_non (nomark _))) (fun _ _ _ _ _ => by exact (pv 9)))
      (pss_cons (ps_for PassesOwn.never rfl (pi_range1 (by rfl) T.z_range (pa_cons (pe_callB call_len_seq (by rfl) T.z_len (by decide +kernel) (pa_cons (pe_ix ix_list (pv 3) (pv 6) (fun _ _ => rfl)) pa_nil)) pa_nil)) (pg_name (i := 10) sc_l_text.nd rfl (Or.inl rfl)) (pss_cons (ps_asg (pe_ix ix_list (pe_ix ix_list (pv 3) (pv 6) (fun _ _ => rfl)) (pv 10) (fun _ _ => rfl)) (pg_tup (by rfl) (pgs_cons (pg_name (i := 8) sc_l_text.nd rfl (Or.inl rfl)) (pgs_cons (pg_name (i := 9) sc_l_text.nd rfl (Or.inl rfl)) pgs_nil))))
      (pss_cons (ps_set (i := 11) sc_l_text.nd rfl (Or.inl rfl) (pe_ifExp (pt_cmpR op_in_seq (pv 10) (pv 7) rfl) (pe_op op_add_str (pe_op op_add_str pe_str (pe_ix ix_str pe_str (pv 10) (fun _ _ => rfl))) pe_str) pe_str))
      (pss_cons (ps_set (i := 12) sc_l_text.nd rfl (Or.inl rfl) (pe_ifExp (pt_cmpR op_notN (pv 9) pe_non (nomark _)) (pe_op op_add_str pe_str (pe_ix ix_str pe_str (pv 9) (fun _ _ => rfl))) pe_str))
      (pss_one (ps_expr (pe_bm PySem.F.plainAttrs_list PySem.F.slot_list_append PySem.F.type_list_append mt_append (pv 4) (pa_cons (pe_op op_add_str (pe_op op_add_str (pe_op op_add_str (pe_op op_add_str pe_str (pv 11)) (pv 8)) (pv 12)) pe_str) pa_nil))))))))
      (pss_one (ps_expr (pe_bm PySem.F.plainAttrs_list PySem.F.slot_list_append PySem.F.type_list_append mt_append (pv 4) (pa_cons pe_str pa_nil))))))))
      (pss_one (ps_ret (pe_join pe_str (pv 4))))))), ?_⟩
    refine ⟨_, rfl, t, _, rfl, Same.seqT hGH ht, rfl, _, _, rfl, _, _, rfl, _, _, rfl, rfl, ?_⟩
    -- the shelf's line
    refine ⟨⟨_, rfl⟩, _, rfl, sh, rfl, ⟨_, Same.seqT hGH hsh⟩, fun D hD => ?_⟩
    refine lc_tup (K := K) (a := sh) (xs := x.shelf.map fun n : Nat => V.int n) (fun j H' => ∃ ls : List Str, Same H H' ∧ H' D = some (.lst (ls.map V.str)) ∧ ls.map tl = (x.shelf.take j).map numL) ⟨[], same_new hD, upd_same, rfl⟩ (fun j H' _ ⟨ls, s1, _⟩ => Same.seqT (hGH.trans s1) hsh) ?_ ?_
    · rintro j y H' hy ⟨ls, s1, h1, h2⟩
      obtain ⟨n, hn, rfl⟩ : ∃ n : Nat, x.shelf[j]? = some n ∧ y = V.int n := by
        rw [List.getElem?_map] at hy
        cases e : x.shelf[j]? with
        | none => rw [e] at hy; cases hy
        | some z => rw [e] at hy; exact ⟨z, rfl, (Option.some.inj hy).symm⟩
      have hj : j < x.shelf.length := (List.getElem?_eq_some_iff.mp hn).1
      have hn3 : n ≤ 3 := hx.b3 n (List.mem_of_getElem? hn)
      have h12 := hx.c12
      refine ⟨rfl, _, rfl, _, rfl, log_ok (by omega), _, h1, smaller 12 (by rw [List.length_map, len_of_map h2, List.length_map, List.length_take]; omega) (by decide), ls ++ [Str.ofString (toString ((n : Nat) : Int))], same_put s1 hD, ?_, ?_⟩
      · rw [upd_same, List.map_append]; rfl
      · rw [List.map_append, h2, take_more hn, List.map_append]
        show _ ++ [tl (Str.ofString (toString ((n : Nat) : Int)))] = _
        rw [tl_num]
        rfl
    rintro H1 ⟨ls0, s1, h1, h2⟩
    rw [List.length_map, List.take_length] at h2
    have ml : ∀ p ∈ ls0, p.length ≤ 2 := mem_len h2 (fun p hp => by
      obtain ⟨n, hn, rfl⟩ := List.mem_map.mp hp
      exact num_len (by have := hx.b3 n hn; omega))
    have ll : ls0.length ≤ 12 := by rw [len_of_map h2, List.length_map]; exact hx.c12
    have jl : (Txt.join (Str.ofString " ") ls0).length ≤ 36 := by
      rw [len_tl, join_txt t_sp h2]
      refine Nat.le_trans (joinL_len [32] 2 _ (fun p hp => ?_)) ?_
      · obtain ⟨n, hn, rfl⟩ := List.mem_map.mp hp
        exact num_len (by have := hx.b3 n hn; omega)
      · rw [List.length_map]
        have := hx.c12
        show _ * 3 ≤ 36
        omega
    have e6 : (Str.ofString "shelf ").length = 6 := by decide +kernel
    have e1s : (Str.ofString " ").length = 1 := by decide +kernel
    have e1 : (Str.ofString ";").length = 1 := by decide +kernel
    refine ⟨_, D, ls0, rfl, rfl, .inl (SqL.of h1), ?_, _, _, rfl, rfl, addS 42 (by rw [e6]; omega), _, _, rfl, rfl, addS 43 (by rw [len_app, e6, e1]; omega), (by show 1 ≤ sizeLine; decide), fun l hl => ?_⟩
    · have := sum_len ls0 2 ml
      rw [e1s]
      omega
    have l0 : H l = none := Same.free s1 hl
    have sl : tl (Str.ofString "shelf " ++ Txt.join (Str.ofString " ") ls0 ++ Str.ofString ";") = shelfL x.shelf := by
      rw [tl_append, tl_append, t_sh, t_sc, join_txt t_sp h2]
      rfl
    revert sl
    generalize (Str.ofString "shelf " ++ Txt.join (Str.ofString " ") ls0 ++ Str.ofString ";") = first
    intro sl
    -- the robots
    refine ⟨2, rfl, by decide, by decide, for_range (lo := 0) (n := 2) (fun i σ H' => ∃ (ls : List Str) (v5 v6 v7 v8 v9 v10 v11 v12 : Option V), σ = [some (.ref t), some (.ref sh), some (.ref st), some (.ref bo), some (.ref l), v5, v6, v7, v8, v9, v10, v11, v12] ∧
      Same H H' ∧ H' l = some (.lst (ls.map V.str)) ∧ ls.map tl = shelfL x.shelf :: x.robs i) ?_ ?_ ?_⟩
    · exact ⟨[first], none, none, none, none, none, none, none, none, rfl, s1.trans (same_new hl), upd_same, by show [tl first] = _; rw [sl]; rfl⟩
    · rintro i σ H2 hi ⟨ls, v5, v6, v7, v8, v9, v10, v11, v12, rfl, s2, hl2', hls⟩
      have hn : x.st i < 12 := by unfold Pl.st; have := hx.ha; have := hx.hb; have := hx.c12; split <;> omega
      have sti : ([V.int x.a, V.int x.b] : List V)[i]? = some (.int (x.st i)) := by
        match i, hi with
        | 0, _ => rfl
        | 1, _ => rfl
        | i + 2, h => exact absurd h (by omega)
      obtain ⟨li, xsi, hli, hsi, hdi⟩ : ∃ li xsi, ([V.ref l1, V.ref l2] : List V)[i]? = some (.ref li) ∧ SqL K G li xsi ∧ DpAll K G xsi ((x.ss i).map Step.D) := by
        match i, hi with
        | 0, _ => exact ⟨l1, xs1, rfl, hl1, hx1⟩
        | 1, _ => exact ⟨l2, xs2, rfl, hl2, hx2⟩
        | i + 2, h => exact absurd h (by omega)
      have hso : StepsOk (x.ss i) := by unfold Pl.ss; split; exact hx.p; exact hx.q
      have hsl := hso.le
      have hlen : ls.length ≤ 23 := by rw [len_of_map hls, List.length_cons]; have := robs_len hx (i := i) (by omega); omega
      have nl := numS_len (n := x.st i) (by omega)
      have e6r : (Str.ofString "robot ").length = 6 := by decide +kernel
      have e2r : (Str.ofString " {").length = 2 := by decide +kernel
      refine ⟨_, rfl, .inl ⟨rfl, _, SqL.of hl2'⟩, _, rfl, _, rfl, st, _, _, .int (x.st i), rfl, rfl, Same.seqT (hGH.trans s2) hst, at_of (j := i) (by omega) sti, _, rfl, log_ok (by omega), _, _, rfl, rfl, addS 8 (by rw [e6r]; omega), _, _, rfl, rfl, addS 10 (by rw [len_app, e6r, e2r]; omega), l, _, _, rfl, rfl, hl2', smaller 23 (by rw [List.length_map]; exact hlen) (by decide), ?_⟩
      have s3 : Same H (upd H2 l (.lst (ls.map V.str ++ [.str (Str.ofString "robot " ++ Str.ofString (toString ((x.st i : Nat) : Int)) ++ Str.ofString " {")]))) := same_put s2 l0
      have e3 : tl (Str.ofString "robot " ++ Str.ofString (toString ((x.st i : Nat) : Int)) ++ Str.ofString " {") = [114, 111, 98, 111, 116, 32] ++ numL (x.st i) ++ [32, 123] := by
        rw [tl_append, tl_append, t_rb, t_lb, tl_num]
      revert s3 e3
      generalize (Str.ofString "robot " ++ Str.ofString (toString ((x.st i : Nat) : Int)) ++ Str.ofString " {") = hd2
      intro s3 e3
      have h3 : (upd H2 l (.lst (ls.map V.str ++ [.str hd2]))) l = some (.lst ((ls ++ [hd2]).map V.str)) := by rw [upd_same, List.map_append]; rfl
      have hls3 : (ls ++ [hd2]).map tl = shelfL x.shelf :: x.robs i ++ [[114, 111, 98, 111, 116, 32] ++ numL (x.st i) ++ [32, 123]] := by
        rw [List.map_append, hls]
        show _ ++ [tl hd2] = _
        rw [e3]
      revert s3 h3
      generalize upd H2 l (.lst (ls.map V.str ++ [.str hd2])) = H3
      intro s3 h3
      -- the goals
      refine ⟨_, rfl, _, rfl, bo, _, _, .ref li, rfl, rfl, (hGH.trans s3).seq hbo, at_of (j := i) (by omega) hli, li, rfl, ⟨_, (hGH.trans s3).seq hsi⟩, fun D2 hD2 => ?_⟩
      have D20 : H D2 = none := Same.free s3 hD2
      have D2l : l ≠ D2 := ne_of_none h3 hD2
      refine lc_list (K := K) (a := li) (xs := xsi) (fun j H' => Same H H' ∧ H' l = some (.lst ((ls ++ [hd2]).map V.str)) ∧ H' D2 = some (.lst ((goalsOf ((x.ss i).take j)).map fun n : Nat => V.int n))) ⟨s3.trans (same_new hD2), by rw [upd_ne D2l]; exact h3, upd_same⟩ (fun j H' _ ⟨s4, _⟩ => (hGH.trans s4).seq hsi) ?_ ?_
      · rintro j y H' hy ⟨s4, h4, h5⟩
        obtain ⟨dd, hdd, hDd⟩ := DpAll.get hdi hy
        rw [List.getElem?_map] at hdd
        obtain ⟨sj, hsj, rfl⟩ : ∃ sj, (x.ss i)[j]? = some sj ∧ dd = sj.D := by
          cases e : (x.ss i)[j]? with
          | none => rw [e] at hdd; cases hdd
          | some z => rw [e] at hdd; exact ⟨z, rfl, (Option.some.inj hdd).symm⟩
        have hj : j < (x.ss i).length := (List.getElem?_eq_some_iff.mp hsj).1
        have gt := goals_take hsj
        have gl : (goalsOf ((x.ss i).take j)).length ≤ 20 := by
          have h1 : (goalsOf ((x.ss i).take j)).length ≤ ((x.ss i).take j).length := List.length_filterMap_le _ _
          rw [List.length_take] at h1
          omega
        obtain ⟨tt, g, rfl, htt, hg⟩ := step_inv hDd
        refine ⟨tt, _, rfl, Same.seqT (hGH.trans s4) htt, rfl, _, _, rfl, _, _, rfl, rfl, rfl, _, rfl, rfl, _, rfl, ?_⟩
        rcases hg with ⟨hg, rfl⟩ | ⟨kk, hg, rfl⟩
        · refine ite_f rfl ⟨s4, h4, ?_⟩
          rw [gt, hg, List.append_nil]
          exact h5
        · refine ite_t rfl ⟨_, rfl, _, h5, smaller 20 (by rw [List.length_map]; exact gl) (by decide), same_put s4 D20, by rw [upd_ne D2l]; exact h4, ?_⟩
          rw [upd_same, gt, hg, List.map_append]
          rfl
      rintro H4 ⟨s4, h4, h5⟩
      have exs : xsi.length = (x.ss i).length := by rw [DpAll.len hdi, List.length_map]
      rw [exs, List.take_length] at h5
      -- the steps
      refine ⟨_, rfl, _, rfl, bo, _, _, .ref li, rfl, rfl, (hGH.trans s4).seq hbo, at_of (j := i) (by omega) hli, li, _, rfl, .inl ((hGH.trans s4).seq hsi), _, rfl, by omega, by omega, for_range (lo := 0) (n := ((xsi.length : Nat) : Int).toNat) (fun j σ H' => ∃ (ls' : List Str) (v8 v9 v10 v11 v12 : Option V), σ = [some (.ref t), some (.ref sh), some (.ref st), some (.ref bo), some (.ref l), v5, some (.int (0 + (i : Int))), some (.ref D2), v8, v9, v10, v11, v12] ∧
        Same H H' ∧ H' D2 = some (.lst ((goalsOf (x.ss i)).map fun n : Nat => V.int n)) ∧ H' l = some (.lst (ls'.map V.str)) ∧ ls'.map tl = (shelfL x.shelf :: x.robs i ++ [[114, 111, 98, 111, 116, 32] ++ numL (x.st i) ++ [32, 123]]) ++ stepsL (goalsOf (x.ss i)) 0 ((x.ss i).take j)) ?_ ?_ ?_⟩
      · exact ⟨ls ++ [hd2], _, _, _, _, _, rfl, s4, h5, h4, by rw [hls3]; simp [stepsL]⟩
      · rintro j σ H5 hj ⟨ls', v8, v9, v10, v11, v12, rfl, s5, h6, h7, h8⟩
        have hj' : j < (x.ss i).length := by omega
        obtain ⟨sj, hsj⟩ : ∃ sj, (x.ss i)[j]? = some sj := ⟨_, List.getElem?_eq_getElem hj'⟩
        have hokj : Step.Ok (x.ss i).length sj := hso.all sj (List.mem_of_getElem? hsj)
        obtain ⟨y, hy, hDy⟩ := DpAll.at hdi (i := j) (d := sj.D) (by rw [List.getElem?_map, hsj]; rfl)
        obtain ⟨tt, g, rfl, htt, hg⟩ := step_inv hDy
        have hl8 : ls'.length ≤ 45 := by
          rw [len_of_map h8]
          simp only [List.length_append, List.length_cons, List.length_nil, stepsL_len, List.length_take]
          have := robs_len hx (i := i) (by omega)
          omega
        refine ⟨_, rfl, _, rfl, bo, _, _, .ref li, rfl, rfl, (hGH.trans s5).seq hbo, at_of (j := i) (by omega) hli, _, rfl, li, _, _, .ref tt, rfl, rfl, (hGH.trans s5).seq hsi, at_of (j := j) (by omega) hy, tt, _, rfl, Same.seqT (hGH.trans s5) htt, rfl, _, _, rfl, _, _, rfl, rfl, ?_⟩
        dsimp only
        -- the mark
        refine seq_restσ (fun σ H' => ∃ m : Str, σ = [some (.ref t), some (.ref sh), some (.ref st), some (.ref bo), some (.ref l), v5, some (.int (0 + (i : Int))), some (.ref D2), some (.str (wS sj.w)), some g, some (.int (0 + (j : Int))), some (.str m), v12] ∧ H5 = H' ∧ m.length ≤ 4 ∧ tl m = if j ∈ goalsOf (x.ss i) then [115, 97 + j, 58, 32] else []) (fun σ H' hm => ?r1) (fun rest1 => ?m1)
        case m1 =>
          have ej : (0 + (j : Int)) = ((j : Nat) : Int) := by omega
          refine ⟨_, rfl, _, rfl, D2, _, rfl, .inl (SqL.of h6), rfl, nats_flat _, _, rfl, ?_⟩
          rw [if_neg Bool.false_ne_true, show inV (V.int (0 + (j : Int))) ((goalsOf (x.ss i)).map fun n : Nat => V.int n) = decide (j ∈ goalsOf (x.ss i)) from by rw [ej]; exact in_nats _ _]
          refine ite2 (fun c => ?_) (fun c => ?_)
          · have c' := of_decide_eq_true c
            refine ⟨_, rfl, abc, 0 + (j : Int), 97 + j, rfl, rfl, small 20 (by rw [abc_len]; exact Nat.le_refl _) (by decide), at_n (j := j) ej (abc_at (by omega)), _, _, rfl, rfl, addS 2 (by rw [e_s, len1s]; decide), _, _, rfl, rfl, addS 4 (by rw [len_app, e_s, len1s, e_cs]; decide), rest1 _ _ ⟨_, rfl, rfl, ?_, ?_⟩⟩
            · rw [len_app, len_app, e_s, len1s, e_cs]; decide
            · rw [if_pos c', tl_append, tl_append, t_s, t_cs]; rfl
          · refine rest1 _ _ ⟨_, rfl, rfl, by decide +kernel, ?_⟩
            rw [if_neg (fun q => c (decide_eq_true q)), t_e]
        obtain ⟨m, rfl, rfl, hm4, hm⟩ := hm
        -- the target
        refine seq_restσ (fun σ H' => ∃ m2 : Str, σ = [some (.ref t), some (.ref sh), some (.ref st), some (.ref bo), some (.ref l), v5, some (.int (0 + (i : Int))), some (.ref D2), some (.str (wS sj.w)), some g, some (.int (0 + (j : Int))), some (.str m), some (.str m2)] ∧ H5 = H' ∧ m2.length ≤ 3 ∧ tl m2 = (match sj.g with | none => [] | some g => [32, 115, 97 + g])) (fun σ H' hm2 => ?r2) (fun rest2 => ?m2)
        case m2 =>
          refine ⟨_, rfl, rfl, _, rfl, ?_⟩
          rcases hg with ⟨hg, rfl⟩ | ⟨kk, hg, rfl⟩
          · refine ite_f rfl (rest2 _ _ ⟨_, rfl, rfl, by decide +kernel, ?_⟩)
            rw [hg, t_e]
          · have hk : kk < (x.ss i).length := by
              have h5 : 5 ≤ sj.w := by
                by_cases h : sj.w < 5
                · rw [hokj.no h] at hg; cases hg
                · omega
              obtain ⟨k2, e2, h2⟩ := hokj.yes h5
              rw [hg] at e2
              cases e2
              exact h2
            refine ite_t rfl ⟨_, rfl, abc, (kk : Int), 97 + kk, rfl, rfl, small 20 (by rw [abc_len]; exact Nat.le_refl _) (by decide), atI_nat (abc_at (by omega)), _, _, rfl, rfl, addS 3 (by rw [e_ss, len1s]; decide), rest2 _ _ ⟨_, rfl, rfl, ?_, ?_⟩⟩
            · rw [len_app, e_ss, len1s]; decide
            · rw [hg, tl_append, t_ss]; rfl
        obtain ⟨m2, rfl, rfl, hm23, hm2⟩ := hm2
        -- the line
        have hw5 := wS_len hokj.w8
        refine ⟨_, rfl, .inl ⟨rfl, _, SqL.of h7⟩, _, rfl, _, _, rfl, rfl, addS 6 (by rw [e_2]; omega), _, rfl, _, _, rfl, rfl, addS 11 (by rw [len_app, e_2]; omega), _, rfl, _, _, rfl, rfl, addS 14 (by rw [len_app, len_app, e_2]; omega), _, _, rfl, rfl, addS 15 (by rw [len_app, len_app, len_app, e_2, e1]; omega), l, _, _, rfl, rfl, h7, smaller 45 (by rw [List.length_map]; exact hl8) (by decide), ?_⟩
        refine ⟨ls' ++ [Str.ofString "  " ++ m ++ wS sj.w ++ m2 ++ Str.ofString ";"], _, _, _, _, _, rfl, same_put s5 l0, ?_, ?_, ?_⟩
        · rw [upd_ne D2l.symm]; exact h6
        · rw [upd_same, List.map_append]; rfl
        · rw [take_more hsj, stepsL_snoc, List.map_append, h8, ← List.append_assoc]
          congr 1
          show [tl (Str.ofString "  " ++ m ++ wS sj.w ++ m2 ++ Str.ofString ";")] = [stepL _ _ _]
          congr 1
          have e0 : 0 + ((x.ss i).take j).length = j := by rw [List.length_take]; omega
          rw [e0, tl_append, tl_append, tl_append, tl_append, sp2, hm, hm2, t_sc]
          rfl
      · rintro σ H5 ⟨ls', v8, v9, v10, v11, v12, rfl, s5, h6, h7, h8⟩
        have ej : ((xsi.length : Nat) : Int).toNat = (x.ss i).length := by omega
        rw [ej, List.take_length] at h8
        have hl8 : ls'.length ≤ 45 := by
          rw [len_of_map h8]
          simp only [List.length_append, List.length_cons, List.length_nil, stepsL_len]
          have := robs_len hx (i := i) (by omega)
          omega
        refine ⟨_, rfl, .inl ⟨rfl, _, SqL.of h7⟩, l, _, _, rfl, rfl, h7, smaller 45 (by rw [List.length_map]; exact hl8) (by decide), ?_⟩
        refine ⟨ls' ++ [Str.ofString "}"], _, _, _, _, _, _, _, _, rfl, same_put s5 l0, ?_, ?_⟩
        · rw [upd_same, List.map_append]; rfl
        · rw [List.map_append, h8]
          show _ ++ [tl (Str.ofString "}")] = shelfL x.shelf :: (x.robs i ++ robotL (x.st i) (x.ss i))
          rw [t_cb]
          unfold robotL
          simp only [List.cons_append, List.append_assoc, List.nil_append]
    · rintro σ H5 ⟨ls, v5, v6, v7, v8, v9, v10, v11, v12, rfl, s5, h6, h7⟩
      rw [Pl.robs2] at h7
      have hl8 : ls.length ≤ 45 := by rw [len_of_map h7]; exact linesL_len hx
      refine ⟨⟨_, rfl⟩, _, rfl, _, l, ls, rfl, rfl, .inl (SqL.of h6), ?_, ?_⟩
      · have := sum_len ls 60 (mem_len h7 (lines_len hx))
        have e : (Str.ofString "\n").length = 1 := by decide +kernel
        rw [e]
        omega
      · have e : Txt.join (Str.ofString "\n") ls = textS x := ext_tl (join_txt t_nl h7)
        dsimp only
        rw [e]
        exact k H5 s5
end
end Sb

namespace Sb
open PySem PySem.Spec PyProof.Rows L2 TL
section
variable {G H G0 H0 G1 H1 : Hp} {x dx : Addr} {o : HO}
theorem make_free (nx : H x = none) (ne : dx ≠ x) : upd H dx (.own x) x = none := by rw [upd_ne ne.symm]; exact nx
theorem Ext.make (e : Ext G0 H0 G H) (nx : H x = none) (nd : H dx = none) (ne : dx ≠ x) (o : HO) : Ext G0 H0 (upd (upd G dx (.own x)) x o) (upd (upd H dx (.own x)) x o) := (e.new nd).new (make_free nx ne)
theorem same_make (nx : H x = none) (nd : H dx = none) (ne : dx ≠ x) (o : HO) : Same H (upd (upd H dx (.own x)) x o) := (same_new nd).trans (same_new (make_free nx ne))
end
/-- a token in the data heap -/
def tokF (tk : Tk) (l c : Nat) : List (Str × V) := [("kind", .str (kS tk.k)), ("text", .str (mkS tk.t)), ("line", .int l), ("column", .int c)]
def TokAt (C : Addr) (G : Hp) (v : V) (tk : Tk) : Prop := ∃ (p dx : Addr) (l c : Nat), v = .ref p ∧ G p = some (.ins C dx (tokF tk l c))
theorem TokAt.mono {C : Addr} {G G' : Hp} {v : V} {tk : Tk} (s : Same G G') (h : TokAt C G v tk) : TokAt C G' v tk := by
  obtain ⟨p, dx, l, c, e, h⟩ := h
  exact ⟨p, dx, l, c, e, s _ _ h⟩
def ToksAt (C : Addr) (G : Hp) : List V → List Tk → Prop := Paired (TokAt C G)
theorem ToksAt.mono {C : Addr} {G G' : Hp} {vs : List V} {ts : List Tk} (s : Same G G') (h : ToksAt C G vs ts) : ToksAt C G' vs ts := Paired.mapP h fun _ _ => TokAt.mono s
theorem Paired.snoc {α β : Type} {F : α → β → Prop} : ∀ {l : List α} {m : List β} {x : α} {y : β}, Paired F l m → F x y → Paired F (l ++ [x]) (m ++ [y])
  | _, _, _, _, .nil, h => .cons h .nil
  | _, _, _, _, .cons r t, h => .cons r (Paired.snoc t h)
theorem Paired.app {α β : Type} {F : α → β → Prop} : ∀ {l l' : List α} {m m' : List β}, Paired F l m → Paired F l' m' → Paired F (l ++ l') (m ++ m')
  | _, _, _, _, .nil, h => h
  | _, _, _, _, .cons r t, h => .cons r (Paired.app t h)
theorem Paired.at_ {α β : Type} {F : α → β → Prop} : ∀ {l : List α} {m : List β} {i : Nat} {y : β}, Paired F l m → m[i]? = some y → ∃ x, l[i]? = some x ∧ F x y
  | _, _, _, _, .nil, e => by simp at e
  | _, _, 0, _, .cons r _, e => by simp at e; subst e; exact ⟨_, rfl, r⟩
  | _, _, i + 1, y, .cons _ t, e => by
    obtain ⟨u, h1, h2⟩ := Paired.at_ (i := i) (y := y) t (by simpa using e)
    exact ⟨u, by simpa using h1, h2⟩
theorem Paired.len {α β : Type} {F : α → β → Prop} : ∀ {l : List α} {m : List β}, Paired F l m → l.length = m.length
  | _, _, .nil => rfl
  | _, _, .cons _ t => congrArg (· + 1) (Paired.len t)
/-- the __init__ of a class that stores its arguments in fields -/
structure spInit (C : Addr) (fs : List Str) (vs : List V) (H : Hp) (Q : VK) (E : XK) : Prop where
  ex : ∃ (x dx : Addr) (us : List V), vs = .ref x :: us ∧ us.length = fs.length ∧ H x = some (.ins C dx []) ∧ Q .non (upd H x (.ins C dx (fs.zip us)))
theorem init_go {C x dx : Addr} {fs : List Str} {us : List V} {H : Hp} {Q : VK} {E : XK} (h : us.length = fs.length) (k : Q (.ref x) (upd (upd H dx (.own x)) x (.ins C dx (fs.zip us)))) :
    spInit C fs (.ref x :: us) (upd (upd H dx (.own x)) x (.ins C dx [])) (fun v H2 => v = .non ∧ Q (.ref x) H2) E :=
  ⟨⟨x, dx, us, rfl, h, upd_same, rfl, by rw [upd_upd]; exact k⟩⟩
theorem lf {f : Str} {v : V} {fs : List (Str × V)} {n : Nat} (h : fs.length ≤ n) : (putF f v fs).length ≤ n + 1 := Nat.le_trans (length_putF f v fs) (Nat.succ_le_succ h)
theorem lf1 {f : Str} {v : V} : (putF f v []).length < 1000 := Nat.lt_of_le_of_lt (lf (Nat.le_refl _)) (by decide)
theorem lf2 {f g : Str} {v u : V} : (putF f v (putF g u [])).length < 1000 := Nat.lt_of_le_of_lt (lf (lf (Nat.le_refl _))) (by decide)
theorem lf3 {f g h : Str} {v u y : V} : (putF f v (putF g u (putF h y []))).length < 1000 := Nat.lt_of_le_of_lt (lf (lf (lf (Nat.le_refl _)))) (by decide)
structure spRunEnd (vs : List V) (H : Hp) (Q : VK) (E : XK) : Prop where
  ex : ∃ (row : Str) (c : Nat) (ls : Str), vs = [.str row, .int c, .str ls] ∧ c ≤ (tl row).length ∧ (tl row).length ≤ 3000 ∧ Q (.int ((c + runL (tl ls) ((tl row).drop c) : Nat) : Int)) H
section
variable {P : Program} {w : World} {K : PySem.W.Frag} {mg : Str → Option Value} {base : Heap} {a : Ad}
theorem ok_Token_init (T : Txt K mg a) : FnOk P w K mg base CX0 1 a.f_Token_init a.d_Token_init ["self", "kind", "text", "line", "column"] (spInit a.C_Token ["kind", "text", "line", "column"]) := by
  refine T.F_Token_init.ok sc_Token_init (fun vs H Q E h => ?_) (fun cdv A outer s H vs Q E hr h => ?_)
  · obtain ⟨⟨x, dx, us, rfl, hl, _⟩⟩ := h
    exact congrArg (· + 1) hl
  · obtain ⟨⟨x, dx, us, rfl, hl, hx, k⟩⟩ := h
    match us, hl with
    | [u1, u2, u3, u4], _ =>
      refine ⟨_, (pss_cons (ps_fld (pv 0) (pv 1) rfl)
      (pss_cons (ps_fld (pv 0) (pv 2) rfl)
      (pss_cons (ps_fld (pv 0) (pv 3) rfl)
      (pss_one (ps_fld (pv 0) (pv 4) rfl))))), ?_⟩
      refine ⟨_, rfl, _, rfl, x, _, dx, _, rfl, hx, T.cl_Token, T.n_Token_kind, by decide, ?_⟩
      refine ⟨_, rfl, _, rfl, x, _, dx, _, rfl, upd_same, T.cl_Token, T.n_Token_text, lf1, ?_⟩
      refine ⟨_, rfl, _, rfl, x, _, dx, _, rfl, upd_same, T.cl_Token, T.n_Token_line, lf2, ?_⟩
      refine ⟨_, rfl, _, rfl, x, _, dx, _, rfl, upd_same, T.cl_Token, T.n_Token_column, lf3, ?_⟩
      rw [upd_upd, upd_upd, upd_upd]
      have e : putF "column" u4 (putF "line" u3 (putF "text" u2 (putF "kind" u1 []))) = (["kind", "text", "line", "column"] : List Str).zip [u1, u2, u3, u4] := by
        show putF "column" u4 (putF "line" u3 (putF "text" u2 [("kind", u1)])) = _
        rw [putF_new (fs := [("kind", u1)]) (show ("text" : Str) ∉ (["kind"] : List Str) by decide +kernel)]
        show putF "column" u4 (putF "line" u3 [("kind", u1), ("text", u2)]) = _
        rw [putF_new (fs := [("kind", u1), ("text", u2)]) (show ("line" : Str) ∉ (["kind", "text"] : List Str) by decide +kernel)]
        show putF "column" u4 [("kind", u1), ("text", u2), ("line", u3)] = _
        rw [putF_new (fs := [("kind", u1), ("text", u2), ("line", u3)]) (show ("column" : Str) ∉ (["kind", "text", "line"] : List Str) by decide +kernel)]
        rfl
      rw [e]
      exact k
theorem ok_run_end (T : Txt K mg a) : FnOk P w K mg base CX0 1 a.f_run_end a.d_run_end ["row", "start", "letters"] spRunEnd := by
  refine T.F_run_end.ok sc_run_end (fun vs H Q E h => ?_) (fun cdv A outer s H vs Q E hr h => ?_)
  · obtain ⟨⟨row, c, ls, rfl, _⟩⟩ := h
    rfl
  · obtain ⟨⟨row, c, ls, rfl, hc, hl, k⟩⟩ := h
    refine ⟨_, (pss_cons (ps_set (i := 3) sc_run_end.nd rfl (Or.inl rfl) (pv 1))
      (pss_cons (ps_while PassesOwn.never (PW.pt (pw_and (pt_cmpR op_lt (pv 3) (pe_callB call_len_str (by rfl) T.z_len (by decide +kernel) (pa_cons (pv 0) pa_nil)) (nomark _)) (pw_and1 (pt_cmpR op_in_sign (pe_ix ix_str (pv 0) (pv 3) (fun _ _ => rfl)) (pv 2) rfl)))) (pss_one (ps_aug (i := 3) sc_run_end.nd rfl (Or.inl rfl) pe_int ip_add)))
      (pss_one (ps_ret (pv 3))))), ?_⟩
    have hz : row.length ≤ sizeLine := small 3000 (by rw [len_tl]; exact hl) (by decide)
    refine ⟨_, rfl, ?_⟩
    refine while_by (fun σ H' => H' = H ∧ ∃ e : Nat, σ = [some (.str row), some (.int c), some (.str ls), some (.int e)] ∧ c ≤ e ∧ e ≤ (tl row).length ∧ e + runL (tl ls) ((tl row).drop e) = c + runL (tl ls) ((tl row).drop c))
      (fun σ _ => match σ with | [_, _, _, some (.int e)] => (tl row).length - e.toNat | _ => 0) ⟨rfl, c, rfl, Nat.le_refl _, hc, rfl⟩ ?_ ?_
    · rintro σ H' ⟨rfl, e, rfl, h1, h2, h3⟩
      refine ⟨_, rfl, _, rfl, _, rfl, hz, _, _, rfl, rfl, _, rfl, ?_⟩
      refine ite2 (fun q => ?_) (fun q => ?_)
      · have q1 : e < (tl row).length := by
          have := of_decide_eq_true q
          rw [len_tl] at this
          omega
        have q2 : (tl row)[e]? = some ((tl row)[e]) := List.getElem?_eq_getElem q1
        refine ⟨_, rfl, _, rfl, row, _, (tl row)[e], rfl, rfl, hz, atI_nat q2, _, rfl, _, _, rfl, rfl, _, rfl, ?_⟩
        have q3 : (tl row).drop e = (tl row)[e] :: (tl row).drop (e + 1) := List.drop_eq_getElem_cons q1
        refine ite2 (fun m => ?_) (fun m => ?_)
        · have m1 : (tl row)[e] ∈ tl ls := of_decide_eq_true m
          refine ⟨_, rfl, _, _, rfl, rfl, ⟨rfl, e + 1, rfl, by omega, by omega, ?_⟩, ?_⟩
          · rw [q3] at h3
            rw [← h3]
            show _ = e + (if _ then _ else _)
            rw [if_pos m1]
            omega
          · show (tl row).length - ((e : Int) + 1).toNat < (tl row).length - ((e : Int)).toNat
            omega
        · have m1 : ¬ (tl row)[e] ∈ tl ls := fun z => m (decide_eq_true z)
          refine ⟨_, rfl, ?_⟩
          have e0 : e = c + runL (tl ls) ((tl row).drop c) := by
            rw [← h3, q3]
            show _ = e + (if _ then _ else _)
            rw [if_neg m1]
            rfl
          rw [e0]
          exact k
      · have q1 : ¬ (e : Int) < ((row.length : Nat) : Int) := fun z => q (decide_eq_true z)
        rw [len_tl] at q1
        refine ⟨_, rfl, ?_⟩
        have e0 : e = c + runL (tl ls) ((tl row).drop c) := by
          rw [← h3, List.drop_eq_nil_of_le (by omega)]
          rfl
        rw [e0]
        exact k
    · intro σ H Q Q' hq h
      obtain ⟨v, hv, x, hx, z, e, hz, i, j, e1, e2, b, e3, h⟩ := h
      refine ⟨v, hv, x, hx, z, e, hz, i, j, e1, e2, b, e3, ?_⟩
      revert h
      cases b with
      | true =>
        intro h
        obtain ⟨v, hv, x, hx, z, i, c, e1, e2, hz, ha, y, hy, c', z', e3, e4, k', e5, h⟩ := h
        exact ⟨v, hv, x, hx, z, i, c, e1, e2, hz, ha, y, hy, c', z', e3, e4, k', e5, hq _ _ h⟩
      | false =>
        intro h
        exact hq _ _ h
end
end Sb

namespace Sb
open PySem PySem.Spec PyProof.Rows L2 TL
structure spReadToken (C : Addr) (vs : List V) (H : Hp) (Q : VK) (E : XK) : Prop where
  ex : ∃ (row : Str) (l c : Nat) (G : Hp) (tk : Tk) (rest : List Nat), vs = [.str row, .int l, .int c] ∧ c ≤ (tl row).length ∧ (tl row).length ≤ 3000 ∧ Rd ((tl row).drop c) tk rest ∧ Pure G H Q (fun G' v => TokAt C G' v tk)
theorem in_strs (x : Str) : ∀ l : List Str, inV (.str x) (l.map V.str) = decide (x ∈ l)
  | [] => by simp [inV]
  | n :: r => by
    have ih := in_strs x r
    unfold inV at ih ⊢
    rw [List.map_cons, List.any_cons, ih]
    have e : eqV (.str n) (.str x) = decide (n = x) := by
      unfold eqV
      by_cases h : n = x
      · subst h; simp
      · simp [h]
    rw [e]
    by_cases h : n = x
    · subst h; simp
    · have h' : ¬ x = n := fun q => h q.symm
      simp [h, h']
theorem strs_flat (l : List Str) : (l.map V.str).all flatV = true := by
  rw [List.all_eq_true]
  intro x hx
  obtain ⟨n, _, rfl⟩ := List.mem_map.mp hx
  rfl
theorem mem_tl {x : Str} {l : List Str} : x ∈ l ↔ tl x ∈ l.map tl := by
  constructor
  · exact fun h => List.mem_map.mpr ⟨x, h, rfl⟩
  · intro h
    obtain ⟨y, hy, e⟩ := List.mem_map.mp h
    rw [← ext_tl e]
    exact hy
theorem kw_ne : ∀ t ∈ kwL, t ≠ [] := by decide +kernel
theorem sgn_no_dig {c : Nat} (h : c ∈ tl digS) : c ∉ tl sgnS := by rw [mem_dig] at h; rw [mem_sgn]; omega
theorem sgn_no_let {c : Nat} (h : c ∈ tl letS) : c ∉ tl sgnS := by rw [mem_let] at h; rw [mem_sgn]; omega
theorem dig_no_let {c : Nat} (h : c ∈ tl letS) : c ∉ tl digS := by rw [mem_let] at h; rw [mem_dig]; omega
theorem tok_mk {C x dx : Addr} {G : Hp} {k : Kd} {t : Str} {l c : Nat} {tk : Tk} (h1 : k = tk.k) (h2 : tl t = tk.t) : TokAt C (upd (upd G dx (.own x)) x (.ins C dx ((["kind", "text", "line", "column"] : List Str).zip [.str (kS k), .str t, .int l, .int c]))) (.ref x) tk :=
  ⟨x, dx, l, c, rfl, by
    rw [upd_same]
    subst h1
    have e : t = mkS tk.t := mkS_of h2
    subst e
    rfl⟩
section
variable {P : Program} {w : World} {K : PySem.W.Frag} {mg : Str → Option Value} {base : Heap} {a : Ad}
theorem ok_read_token (T : Txt K mg a) : FnOk P w K mg base CX0 3 a.f_read_token a.d_read_token ["row", "line", "column"] (spReadToken a.C_Token) := by
  refine T.F_read_token.ok sc_read_token (fun vs H Q E h => ?_) (fun cdv A outer s H vs Q E hr h => ?_)
  · obtain ⟨⟨row, l, c, G, tk, rest, rfl, _⟩⟩ := h
    rfl
  · obtain ⟨⟨row, l, c, G, tk, rest, rfl, hc, hl, hR, hGH, k⟩⟩ := h
    refine ⟨_, (pss_cons (ps_set (i := 3) sc_read_token.nd rfl (Or.inl rfl) (pe_ix ix_str (pv 0) (pv 2) (fun _ _ => rfl)))
      (pss_cons (ps_if (pt_cmpR op_in_sign (pv 3) (pe_glob (v := V.str (Str.ofString ";:{}")) rfl T.c_SIGNS ⟨_, rfl⟩) rfl) (pss_one (ps_ret (pe_make T.mk_Token (ok_Token_init T) (hr.mono (by decide)) (by rfl) T.m_Token (b_Token_init T) .nil pass0 (pa_cons (pe_glob (v := V.str (Str.ofString "sign")) rfl T.c_SIGN ⟨_, rfl⟩) (pa_cons (pv 3) (pa_cons (pv 1) (pa_cons (pv 2) pa_nil))))))) pss_nil)
      (pss_cons (ps_if (pt_cmpR op_in_sign (pv 3) (pe_glob (v := V.str (Str.ofString "0123456789")) rfl T.c_DIGITS ⟨_, rfl⟩) rfl) (pss_cons (ps_set (i := 4) sc_read_token.nd rfl (Or.inl rfl) (pe_slice sl_str (pv 0) (po_some (pv 2)) (po_some (pe_call (ok_run_end T) (hr.mono (by decide)) rfl T.m_run_end T.F_run_end.kp (b_run_end T) .nil pass0 (pa_cons (pv 0) (pa_cons (pv 2) (pa_cons (pe_glob (v := V.str (Str.ofString "0123456789")) rfl T.c_DIGITS ⟨_, rfl⟩) pa_nil)))))))
      (pss_cons (ps_if (PW.pt (pw_or (pt_cmpR op_gt (pe_callB call_len_str (by rfl) T.z_len (by decide +kernel) (pa_cons (pv 4) pa_nil)) (pe_glob (v := V.int 2) rfl T.c_MAX_DIGITS ⟨_, rfl⟩) (nomark _)) (pw_or1 (PW.pt (pw_and (pt_cmpR op_gt (pe_callB call_len_str (by rfl) T.z_len (by decide +kernel) (pa_cons (pv 4) pa_nil)) pe_int (nomark _)) (pw_and1 (pt_cmpR op_eq (pv 3) pe_str (nomark _)))))))) pss_never pss_nil)
      (pss_one (ps_ret (pe_make T.mk_Token (ok_Token_init T) (hr.mono (by decide)) (by rfl) T.m_Token (b_Token_init T) .nil pass0 (pa_cons (pe_glob (v := V.str (Str.ofString "number")) rfl T.c_NUMBER ⟨_, rfl⟩) (pa_cons (pv 4) (pa_cons (pv 1) (pa_cons (pv 2) pa_nil))))))))) pss_nil)
      (pss_cons (ps_set (i := 4) sc_read_token.nd rfl (Or.inl rfl) (pe_slice sl_str (pv 0) (po_some (pv 2)) (po_some (pe_call (ok_run_end T) (hr.mono (by decide)) rfl T.m_run_end T.F_run_end.kp (b_run_end T) .nil pass0 (pa_cons (pv 0) (pa_cons (pv 2) (pa_cons (pe_glob (v := V.str (Str.ofString "abcdefghijklmnopqrstuvwxyz")) rfl T.c_LETTERS ⟨_, rfl⟩) pa_nil)))))))
      (pss_cons (ps_if (pt_cmpR op_in_seq (pv 4) (pe_glob (v := V.ref a.A_KEYWORDS) rfl T.c_KEYWORDS rfl) rfl) (pss_one (ps_ret (pe_make T.mk_Token (ok_Token_init T) (hr.mono (by decide)) (by rfl) T.m_Token (b_Token_init T) .nil pass0 (pa_cons (pe_glob (v := V.str (Str.ofString "keyword")) rfl T.c_KEYWORD ⟨_, rfl⟩) (pa_cons (pv 4) (pa_cons (pv 1) (pa_cons (pv 2) pa_nil))))))) pss_nil)
      (pss_cons (ps_if (pt_not (pt_chain op_le op_le pe_int (pe_callB call_len_str (by rfl) T.z_len (by decide +kernel) (pa_cons (pv 4) pa_nil)) (pe_glob (v := V.int 8) rfl T.c_MAX_LETTERS ⟨_, rfl⟩))) pss_never pss_nil)
      (pss_one (ps_ret (pe_make T.mk_Token (ok_Token_init T) (hr.mono (by decide)) (by rfl) T.m_Token (b_Token_init T) .nil pass0 (pa_cons (pe_glob (v := V.str (Str.ofString "name")) rfl T.c_NAME ⟨_, rfl⟩) (pa_cons (pv 4) (pa_cons (pv 1) (pa_cons (pv 2) pa_nil))))))))))))), ?_⟩
    have hz : row.length ≤ sizeLine := small 3000 (by rw [len_tl]; exact hl) (by decide)
    generalize hd : (tl row).drop c = rem at hR
    -- the first sign
    have start : ∀ ch r, rem = ch :: r → (tl row)[c]? = some ch := fun ch r e => by
      have h1 : ((tl row).drop c)[0]? = some ch := by rw [hd, e]; rfl
      rw [List.getElem?_drop] at h1
      exact h1
    -- the word that is cut
    have cut : ∀ (S : Str) (t r : List Nat), rem = t ++ r → (∀ x ∈ t, x ∈ tl S) → HeadNot (tl S) r → tl (cutS row (some (c : Int)) (some ((c + runL (tl S) ((tl row).drop c) : Nat) : Int))) = t := fun S t r e h1 h2 => by
      have e1 : runL (tl S) ((tl row).drop c) = t.length := by rw [hd, e]; exact runL_app h1 h2
      have e2 : c + t.length ≤ (tl row).length := by
        have := congrArg List.length (hd.trans e)
        rw [List.length_drop, List.length_append] at this
        omega
      rw [e1, cut_run e2, hd, e, List.take_left]
    cases hR with
    | @sign ch r hs =>
      refine ⟨_, rfl, _, rfl, row, _, ch, rfl, rfl, hz, atI_nat (start _ _ rfl), ?_⟩
      refine ⟨_, rfl, _, _, rfl, rfl, _, rfl, ite_t (decide_eq_true hs) ?_⟩
      refine ⟨_, rfl, _, rfl, _, rfl, fun x dx nx nd ne => init_go rfl ?_⟩
      exact k _ _ _ ((Ext.refl hGH).make nx nd ne _) (same_make nx nd ne _) (tok_mk (k := .sign) rfl rfl)
    | @num t r hne hdg hle h0 hr0 =>
      obtain ⟨ch, t', rfl⟩ : ∃ ch t', t = ch :: t' := by cases t with | nil => exact absurd rfl hne | cons x y => exact ⟨x, y, rfl⟩
      have hch := hdg ch (by simp)
      refine ⟨_, rfl, _, rfl, row, _, ch, rfl, rfl, hz, atI_nat (start _ _ rfl), ?_⟩
      refine ⟨_, rfl, _, _, rfl, rfl, _, rfl, ite_f (decide_eq_false (sgn_no_dig hch)) ?_⟩
      refine ⟨_, rfl, _, _, rfl, rfl, _, rfl, ite_t (decide_eq_true hch) ?_⟩
      refine ⟨_, rfl, _, rfl, _, rfl, _, rfl, _, rfl, ⟨row, c, digS, rfl, hc, hl, _, rfl, row, rfl, hz, ?_⟩⟩
      have hw := cut digS (ch :: t') rest rfl hdg hr0
      dsimp only [gName]
      revert hw
      generalize cutS row (some (c : Int)) (some ((c + runL (tl digS) ((tl row).drop c) : Nat) : Int)) = word
      intro hw
      have wl : word.length ≤ 2 := by rw [len_tl, hw]; exact hle
      have wz : word.length ≤ sizeLine := small 2 wl (by decide)
      refine ⟨_, rfl, word, rfl, wz, _, _, rfl, rfl, _, rfl, ite_f (decide_eq_false (by omega)) ?_⟩
      have fin : ∀ H' : Hp, H' = H → (tRet (tMake a.C_Token (spInit a.C_Token ["kind", "text", "line", "column"]) [] E0 (tCons (tC (.str (Str.ofString "number"))) (tCons (tVar 4) (tCons (tVar 1) (tCons (tVar 2) tNil)))))) { nx := fun _ H' => Q .non H', rt := Q } [some (.str row), some (.int l), some (.int c), some (.str ⟨#[ch]⟩), some (.str word)] H' := by
        rintro H' rfl
        refine ⟨_, rfl, _, rfl, _, rfl, fun x dx nx nd ne => init_go rfl ?_⟩
        exact k _ _ _ ((Ext.refl hGH).make nx nd ne _) (same_make nx nd ne _) (tok_mk (k := .number) rfl hw)
      refine ⟨_, rfl, word, rfl, wz, _, _, rfl, rfl, _, rfl, ?_⟩
      refine ite2 (fun q => ?_) (fun q => ?_)
      · have q1 : 1 < (ch :: t').length := by
          have := of_decide_eq_true q
          rw [len_tl, hw] at this
          exact_mod_cast this
        refine ⟨_, rfl, rfl, _, rfl, ite_f (decide_eq_false fun z => ?_) (fin H rfl)⟩
        injection z with z
        have z1 : [ch] = tl (Str.ofString "0") := by rw [← z]
        have z2 : tl (Str.ofString "0") = [48] := by decide +kernel
        rw [z2] at z1
        injection z1 with z1
        exact h0 q1 (by rw [z1]; rfl)
      · exact ite_f rfl (fin H rfl)
    | @kw t r hlt hkw hr0 =>
      obtain ⟨ch, t', rfl⟩ : ∃ ch t', t = ch :: t' := by cases t with | nil => exact absurd rfl (kw_ne _ hkw) | cons x y => exact ⟨x, y, rfl⟩
      have hch := hlt ch (by simp)
      refine ⟨_, rfl, _, rfl, row, _, ch, rfl, rfl, hz, atI_nat (start _ _ rfl), ?_⟩
      refine ⟨_, rfl, _, _, rfl, rfl, _, rfl, ite_f (decide_eq_false (sgn_no_let hch)) ?_⟩
      refine ⟨_, rfl, _, _, rfl, rfl, _, rfl, ite_f (decide_eq_false (dig_no_let hch)) ?_⟩
      refine ⟨_, rfl, _, rfl, _, rfl, _, rfl, _, rfl, ⟨row, c, letS, rfl, hc, hl, _, rfl, row, rfl, hz, ?_⟩⟩
      have hw := cut letS (ch :: t') rest rfl hlt hr0
      dsimp only [gName]
      revert hw
      generalize cutS row (some (c : Int)) (some ((c + runL (tl letS) ((tl row).drop c) : Nat) : Int)) = word
      intro hw
      have hk : word ∈ kwS := mem_tl.mpr (by rw [hw]; exact hkw)
      refine ⟨_, rfl, a.A_KEYWORDS, kwS.map V.str, rfl, .inr (T.q_KEYWORDS H), rfl, strs_flat _, _, rfl, ite_t ?_ ?_⟩
      · rw [if_neg Bool.false_ne_true, in_strs]; exact decide_eq_true hk
      refine ⟨_, rfl, _, rfl, _, rfl, fun x dx nx nd ne => init_go rfl ?_⟩
      exact k _ _ _ ((Ext.refl hGH).make nx nd ne _) (same_make nx nd ne _) (tok_mk (k := .keyword) rfl hw)
    | @nm t r hlt h1 h8 hkw hr0 =>
      obtain ⟨ch, t', rfl⟩ : ∃ ch t', t = ch :: t' := by cases t with | nil => exact absurd h1 (by decide) | cons x y => exact ⟨x, y, rfl⟩
      have hch := hlt ch (by simp)
      refine ⟨_, rfl, _, rfl, row, _, ch, rfl, rfl, hz, atI_nat (start _ _ rfl), ?_⟩
      refine ⟨_, rfl, _, _, rfl, rfl, _, rfl, ite_f (decide_eq_false (sgn_no_let hch)) ?_⟩
      refine ⟨_, rfl, _, _, rfl, rfl, _, rfl, ite_f (decide_eq_false (dig_no_let hch)) ?_⟩
      refine ⟨_, rfl, _, rfl, _, rfl, _, rfl, _, rfl, ⟨row, c, letS, rfl, hc, hl, _, rfl, row, rfl, hz, ?_⟩⟩
      have hw := cut letS (ch :: t') rest rfl hlt hr0
      dsimp only [gName]
      revert hw
      generalize cutS row (some (c : Int)) (some ((c + runL (tl letS) ((tl row).drop c) : Nat) : Int)) = word
      intro hw
      have hk : ¬ word ∈ kwS := fun z => hkw (by rw [← hw]; exact mem_tl.mp z)
      have wl : word.length ≤ 8 := by rw [len_tl, hw]; exact h8
      have wl1 : 1 ≤ word.length := by rw [len_tl, hw]; exact h1
      have wz : word.length ≤ sizeLine := small 8 wl (by decide)
      refine ⟨_, rfl, a.A_KEYWORDS, kwS.map V.str, rfl, .inr (T.q_KEYWORDS H), rfl, strs_flat _, _, rfl, ite_f ?_ ?_⟩
      · rw [if_neg Bool.false_ne_true, in_strs]; exact decide_eq_false hk
      refine ⟨_, rfl, word, rfl, wz, _, _, rfl, rfl, _, rfl, ite_t (decide_eq_true (by omega)) ⟨_, _, rfl, rfl, _, rfl, ?_⟩⟩
      refine ite_f (by rw [decide_eq_true (show ((word.length : Nat) : Int) ≤ 8 by omega)]; rfl) ?_
      refine ⟨_, rfl, _, rfl, _, rfl, fun x dx nx nd ne => init_go rfl ?_⟩
      exact k _ _ _ ((Ext.refl hGH).make nx nd ne _) (same_make nx nd ne _) (tok_mk (k := .name) rfl hw)
end
end Sb

namespace Sb
open PySem PySem.Spec PyProof.Rows L2 TL
/-! ### within a def that changes nothing that stood -/
structure Pt (G0 H0 G H : Hp) : Prop where
  ext : Ext G0 H0 G H
  sm : Same H0 H
section
variable {G0 H0 G H G1 H1 : Hp} {p l x dx : Addr} {o : HO}
theorem Pt.start (s : Same G H) : Pt G H G H := ⟨Ext.refl s, Same.refl H⟩
theorem Pt.new (a : Pt G0 H0 G H) (np : H p = none) (o : HO) : Pt G0 H0 (upd G p o) (upd H p o) := ⟨a.ext.new np, a.sm.trans (same_new np)⟩
theorem Pt.lay (a : Pt G0 H0 G H) (np : H p = none) (o : HO) : Pt G0 H0 G (upd H p o) := ⟨a.ext.lay np, a.sm.trans (same_new np)⟩
theorem Pt.put (a : Pt G0 H0 G H) (n0 : H0 l = none) (n : G l = none) (o : HO) : Pt G0 H0 G (upd H l o) := ⟨a.ext.put n, same_put a.sm n0⟩
theorem Pt.freeze (a : Pt G0 H0 G H) (n0 : H0 l = none) (h : H l = some o) : Pt G0 H0 (upd G l o) H := ⟨a.ext.freeze n0 h, a.sm⟩
theorem Pt.make (a : Pt G0 H0 G H) (nx : H x = none) (nd : H dx = none) (ne : dx ≠ x) (o : HO) : Pt G0 H0 (upd (upd G dx (.own x)) x o) (upd (upd H dx (.own x)) x o) := ⟨a.ext.make nx nd ne o, a.sm.trans (same_make nx nd ne o)⟩
theorem Pt.call (a : Pt G0 H0 G H) (e : Ext G H G1 H1) (s : Same H H1) : Pt G0 H0 G1 H1 := ⟨a.ext.trans e, a.sm.trans s⟩
theorem Pt.s (a : Pt G0 H0 G H) : Same G H := a.ext.h
theorem Pt.g (a : Pt G0 H0 G H) : Same G0 G := a.ext.g
theorem Pt.free (a : Pt G0 H0 G H) (np : H p = none) : H0 p = none := Same.free a.sm np
theorem Pt.freeG (a : Pt G0 H0 G H) (np : H p = none) : G p = none := Same.free a.ext.h np
theorem frozen (n : G l = none) : Same G (upd G l o) := same_new n
/-- what is not data stays so through a call -/
theorem out_call (e : Ext G H G1 H1) (n : G l = none) (h : H l = some o) : G1 l = none := e.out n h
end
theorem init_go2 {C x dx : Addr} {fs : List Str} {us : List V} {H : Hp} {Q : VK} {E : XK} (h : us.length = fs.length) (k : Q .non (upd (upd H dx (.own x)) x (.ins C dx (fs.zip us)))) :
    spInit C fs (.ref x :: us) (upd (upd H dx (.own x)) x (.ins C dx [])) Q E :=
  ⟨⟨x, dx, us, rfl, h, upd_same, by rw [upd_upd]; exact k⟩⟩
structure spTokenize (C : Addr) (vs : List V) (H : Hp) (Q : VK) (E : XK) : Prop where
  ex : ∃ (src : Str) (G : Hp) (rows : List (List Nat)) (tss : List (List Tk)), vs = [.str src] ∧ tl src = joinL [10] rows ∧ rows ≠ [] ∧ (∀ r ∈ rows, 10 ∉ r) ∧ (∀ r ∈ rows, r.length ≤ 3000) ∧ (tl src).length ≤ 3000000 ∧ Paired Lx rows tss ∧ tss.flatten.length ≤ 100000 ∧
    Pure G H Q (fun G' v => ∃ p vs, v = .ref p ∧ G' p = some (.lst vs) ∧ ToksAt C G' vs (tss.flatten ++ [⟨.fin, []⟩]))
theorem paired_get {α β : Type} {F : α → β → Prop} : ∀ {l : List α} {m : List β} {i : Nat} {x : α}, Paired F l m → l[i]? = some x → ∃ y, m[i]? = some y ∧ F x y
  | _, _, _, _, .nil, e => by simp at e
  | _, _, 0, _, .cons r _, e => by simp at e; subst e; exact ⟨_, rfl, r⟩
  | _, _, i + 1, y, .cons _ t, e => by
    obtain ⟨u, h1, h2⟩ := paired_get (i := i) (x := y) t (by simpa using e)
    exact ⟨u, by simpa using h1, h2⟩
theorem flat_take {α : Type} {l : List (List α)} {i : Nat} {x : List α} (h : l[i]? = some x) : (l.take (i + 1)).flatten = (l.take i).flatten ++ x := by
  rw [take_more h, List.flatten_append]
  simp
theorem flat_le {α : Type} : ∀ (l : List (List α)) (i : Nat), (l.take i).flatten.length ≤ l.flatten.length
  | [], i => by simp
  | x :: r, 0 => by simp
  | x :: r, i + 1 => by
    have := flat_le r i
    simp only [List.take_succ_cons, List.flatten_cons, List.length_append]
    omega
theorem rd_len {l r : List Nat} {k : Tk} (h : Rd l k r) : l = k.t ++ r ∧ k.t ≠ [] := by
  cases h with
  | sign h => exact ⟨rfl, by simp⟩
  | num h => exact ⟨rfl, h⟩
  | kw _ h => exact ⟨rfl, kw_ne _ h⟩
  | @nm t _ _ h => exact ⟨rfl, fun z => by cases t with | nil => exact absurd h (by decide) | cons _ _ => cases z⟩
theorem nsp_rd {c : Nat} {l r : List Nat} {k : Tk} (h : Rd (c :: l) k r) : c ∉ tl spcS := by
  have hs : c ∈ tl sgnS ∨ c ∈ tl digS ∨ c ∈ tl letS := by
    generalize e : c :: l = m at h
    cases h with
    | @sign d r h => injection e with e1 e2; subst e1; exact .inl h
    | @num t r hne h =>
      cases t with
      | nil => exact absurd rfl hne
      | cons x y => injection e with e1 e2; subst e1; exact .inr (.inl (h c (by simp)))
    | @kw t r h hk =>
      cases t with
      | nil => exact absurd rfl (kw_ne _ hk)
      | cons x y => injection e with e1 e2; subst e1; exact .inr (.inr (h c (by simp)))
    | @nm t r h h1 =>
      cases t with
      | nil => simp at h1
      | cons x y => injection e with e1 e2; subst e1; exact .inr (.inr (h c (by simp)))
  rw [mem_sgn, mem_dig, mem_let] at hs
  rw [spc_list]
  simp
  omega
section
variable {P : Program} {w : World} {K : PySem.W.Frag} {mg : Str → Option Value} {base : Heap} {a : Ad}
theorem ok_tokenize (T : Txt K mg a) : FnOk P w K mg base CX0 4 a.f_tokenize a.d_tokenize ["source"] (spTokenize a.C_Token) := by
  refine T.F_tokenize.ok sc_tokenize (fun vs H Q E h => ?_) (fun cdv A outer s H vs Q E hr h => ?_)
  · obtain ⟨⟨src, G, rows, tss, rfl, _⟩⟩ := h
    rfl
  · obtain ⟨⟨src, G, rows, tss, rfl, hsrc, hne, hno, hrl, hsl, hP, hfl, hGH, k⟩⟩ := h
    refine ⟨_, (pss_cons (ps_set (i := 1) sc_tokenize.nd rfl (Or.inl rfl) (pe_lst pa_nil))
      (pss_cons (ps_set (i := 2) sc_tokenize.nd rfl (Or.inl rfl) (pe_split (pv 0) pe_str))
      (pss_cons (ps_for PassesOwn.never rfl (pi_enum (by rfl) T.z_enumerate (pa_cons (pv 2) pa_nil)) (pg_tup (by rfl) (pgs_cons (pg_name (i := 3) sc_tokenize.nd rfl (Or.inl rfl)) (pgs_cons (pg_name (i := 4) sc_tokenize.nd rfl (Or.inl rfl)) pgs_nil))) (pss_cons (ps_set (i := 5) sc_tokenize.nd rfl (Or.inl rfl) pe_int)
      (pss_one (ps_while PassesOwn.never (pt_cmpR op_lt (pv 5) (pe_callB call_len_str (by rfl) T.z_len (by decide +kernel) (pa_cons (pv 4) pa_nil)) (nomark _)) (pss_one (ps_if (pt_cmpR op_in_sign (pe_ix ix_str (pv 4) (pv 5) (fun _ _ => rfl)) (pe_glob (v := V.str (Str.ofString " \n")) rfl T.c_SPACES ⟨_, rfl⟩) rfl) (pss_one (ps_aug (i := 5) sc_tokenize.nd rfl (Or.inl rfl) pe_int ip_add)) (pss_cons (ps_set (i := 6) sc_tokenize.nd rfl (Or.inl rfl) (pe_call (ok_read_token T) (hr.mono (by decide)) rfl T.m_read_token T.F_read_token.kp (b_read_token T) .nil pass0 (pa_cons (pv 4) (pa_cons (pv 3) (pa_cons (pv 5) pa_nil)))))
      (pss_cons (ps_expr (pe_bm PySem.F.plainAttrs_list PySem.F.slot_list_append PySem.F.type_list_append mt_append (pv 1) (pa_cons (pv 6) pa_nil)))
      (pss_one (ps_aug (i := 5) sc_tokenize.nd rfl (Or.inl rfl) (pe_callB call_len_str (by rfl) T.z_len (by decide +kernel) (pa_cons (pe_fld (pv 6) rfl) pa_nil)) ip_add))))))))))
      (pss_one (ps_ret (pe_op op_cat (pv 1) (pe_lst (pa_cons (pe_make T.mk_Token (ok_Token_init T) (hr.mono (by decide)) (by rfl) T.m_Token (b_Token_init T) .nil pass0 (pa_cons (pe_glob (v := V.str (Str.ofString "end")) rfl T.c_END ⟨_, rfl⟩) (pa_cons pe_str (pa_cons (pe_callB call_len_seq (by rfl) T.z_len (by decide +kernel) (pa_cons (pv 2) pa_nil)) (pa_cons pe_int pa_nil))))) pa_nil)))))))), ?_⟩
    refine ⟨Nat.zero_le _, fun l hl => ?_⟩
    have B1 := (Pt.start hGH).lay hl (.lst [])
    have lG : G l = none := Same.free hGH hl
    refine ⟨_, rfl, ⟨_, rfl⟩, src, _, rfl, rfl, by decide +kernel, small 3000002 (by rw [len_tl]; omega) (by decide), fun rp hrp => ?_⟩
    have hrs : (Txt.split src (Str.ofString "\n")).map tl = rows := by
      rw [split_spl _ _ (by rw [t_nl]; decide) (kind_ok (by decide +kernel)), t_nl, hsrc, spl_join hne hno]
    revert hrs
    generalize Txt.split src (Str.ofString "\n") = rs at *
    intro hrs
    have B2 := B1.new hrp (.lst (rs.map V.str))
    have lrp : l ≠ rp := ne_of_none upd_same hrp
    have hlen : rs.length = rows.length := by rw [← hrs, List.length_map]
    have hlen2 : tss.length = rows.length := (Paired.len hP).symm
    refine ⟨_, rfl, rp, _, rfl, SqL.of upd_same, for_it (walk_enum (K := K) (a := rp) (xs := rs.map V.str)) (fun i σ H' => ∃ (G' : Hp) (vs : List V) (v3 v4 v5 v6 : Option V), σ = [some (.str src), some (.ref l), some (.ref rp), v3, v4, v5, v6] ∧ Pt G H G' H' ∧ G' l = none ∧ G' rp = some (.lst (rs.map V.str)) ∧ H' l = some (.lst vs) ∧ ToksAt a.C_Token G' vs ((tss.take i).flatten)) ?_ ?_ ?_ ?_⟩
    · refine ⟨_, [], none, none, none, none, rfl, B2, ?_, upd_same, ?_, .nil⟩
      · rw [upd_ne lrp]; exact lG
      · rw [upd_ne lrp, upd_same]
    · rintro i σ H' _ ⟨G', vs, v3, v4, v5, v6, rfl, B, _, hrp', _⟩
      exact SqL.of (B.s _ _ hrp')
    · rintro i y σ H1 H2 hi ⟨G', vs, v3, v4, v5, v6, rfl, B, lG', hrp', hvs, htk⟩ ⟨T', x, z, rfl, hT', rfl, hx, hz⟩
      rw [List.length_map] at hi
      cases hx
      obtain ⟨row, hrow, rfl⟩ : ∃ row, rs[i]? = some row ∧ z = .str row := by
        have hz : (rs.map V.str)[i]? = some z := hz
        rw [List.getElem?_map] at hz
        cases e : rs[i]? with
        | none => rw [e] at hz; cases hz
        | some q => rw [e] at hz; exact ⟨q, rfl, (Option.some.inj hz).symm⟩
      have hrow2 : rows[i]? = some (tl row) := by rw [← hrs, List.getElem?_map, hrow]; rfl
      have hr30 : (tl row).length ≤ 3000 := hrl _ (List.mem_of_getElem? hrow2)
      obtain ⟨ts, hts, hLx⟩ := paired_get hP hrow2
      have hz' : row.length ≤ sizeLine := small 3000 (by rw [len_tl]; exact hr30) (by decide)
      have B3 := B.lay hT' (.tup [.int (i : Nat), .str row])
      have lT : l ≠ T' := ne_of_none hvs hT'
      refine ⟨T', _, rfl, SqT.of upd_same, rfl, _, _, rfl, _, _, rfl, rfl, ?_⟩
      -- the row
      refine while_by (fun σ H' => ∃ (c : Nat) (G' : Hp) (vs : List V) (done rem : List Tk) (v6 : Option V), σ = [some (.str src), some (.ref l), some (.ref rp), some (.int (i : Nat)), some (.str row), some (.int c), v6] ∧ Pt G H G' H' ∧ G' l = none ∧ G' rp = some (.lst (rs.map V.str)) ∧ H' l = some (.lst vs) ∧
          ToksAt a.C_Token G' vs ((tss.take i).flatten ++ done) ∧ ts = done ++ rem ∧ c ≤ (tl row).length ∧ Lx ((tl row).drop c) rem)
        (fun σ _ => match σ with | [_, _, _, _, _, some (.int e), _] => (tl row).length - e.toNat | _ => 0)
        ⟨0, G', vs, [], ts, _, rfl, B3, lG', hrp', by rw [upd_ne lT]; exact hvs, by rw [List.append_nil]; exact htk, rfl, Nat.zero_le _, hLx⟩ ?_ ?_
      · rintro σ H3 ⟨c, G3, vs3, done, rem, w6, rfl, C3, lG3, hrp3, hvs3, htk3, hdr, hc, hL⟩
        refine ⟨_, rfl, _, rfl, row, rfl, hz', _, _, rfl, rfl, _, rfl, ?_⟩
        refine ite2 (fun q => ?_) (fun q => ?_)
        · have q1 : c < (tl row).length := by
            have := of_decide_eq_true q
            rw [len_tl] at this
            omega
          have q2 : (tl row)[c]? = some ((tl row)[c]) := List.getElem?_eq_getElem q1
          have q3 : (tl row).drop c = (tl row)[c] :: (tl row).drop (c + 1) := List.drop_eq_getElem_cons q1
          refine ⟨_, rfl, _, rfl, row, _, (tl row)[c], rfl, rfl, hz', atI_nat q2, _, _, rfl, rfl, _, rfl, ?_⟩
          have hL0 := hL
          rw [q3] at hL0
          generalize hch : (tl row)[c] = ch at hL0 q3 ⊢
          cases hL0 with
          | sp hL1 =>
            refine ite_t (decide_eq_true (show 32 ∈ tl spcS by rw [spc_list]; decide)) ?_
            refine ⟨_, rfl, _, _, rfl, rfl, ⟨c + 1, G3, vs3, done, rem, _, rfl, C3, lG3, hrp3, hvs3, htk3, hdr, by omega, hL1⟩, ?_⟩
            show (tl row).length - ((c : Int) + 1).toNat < (tl row).length - ((c : Int)).toNat
            omega
          | @tok _ r tk rem' hR hL1 =>
            refine ite_f (decide_eq_false (nsp_rd hR)) ?_
            obtain ⟨hsp, hnt⟩ := rd_len hR
            have hR' : Rd ((tl row).drop c) tk r := by rw [q3]; exact hR
            refine ⟨_, rfl, _, rfl, _, rfl, ⟨row, i, c, G3, tk, r, rfl, by omega, hr30, hR', C3.s, fun G4 H4 v e4 s4 htok => ?_⟩⟩
            have C4 := C3.call e4 s4
            have hvs4 : H4 l = some (.lst vs3) := s4 _ _ hvs3
            have lG4 : G4 l = none := e4.out lG3 hvs3
            obtain ⟨p, dx, tl1, tc1, rfl, hp⟩ := id htok
            have hpH : H4 p = some (.ins a.C_Token dx (tokF tk tl1 tc1)) := e4.h _ _ hp
            have lp : p ≠ l := ne_of_none hp lG4
            have hsz : vs3.length ≤ 100000 := by
              rw [Paired.len htk3, List.length_append]
              have h1 := flat_le tss (i + 1)
              rw [flat_take hts, List.length_append, hdr, List.length_append] at h1
              omega
            refine ⟨_, rfl, .inl ⟨rfl, _, SqL.of hvs4⟩, _, rfl, l, _, _, rfl, rfl, hvs4, smaller 100000 hsz (by decide), ?_⟩
            have htl : tk.t.length + c ≤ (tl row).length := by
              have := congrArg List.length (q3.trans hsp)
              rw [List.length_drop, List.length_append] at this
              omega
            have hpos : 1 ≤ tk.t.length := by
              cases e : tk.t with
              | nil => exact absurd e hnt
              | cons _ _ => simp
            have ecol : (c : Int) + ((mkS tk.t).length : Int) = ((c + tk.t.length : Nat) : Int) := by rw [len_mkS]; omega
            refine ⟨_, rfl, _, rfl, p, _, dx, _, _, rfl, by rw [upd_ne lp]; exact hpH, T.cl_Token, T.n_Token_text, (by kernel_rfl), mkS tk.t, rfl, small 3000 (by rw [len_mkS]; omega) (by decide), _, _, rfl, rfl, ?_⟩
            refine ⟨⟨c + tk.t.length, G4, vs3 ++ [.ref p], done ++ [tk], rem', some (.ref p), ?_, C4.put hl lG4 _, lG4, e4.g _ _ hrp3, upd_same, ?_, ?_, by omega, ?_⟩, ?_⟩
            · show [some (V.str src), some (.ref l), some (.ref rp), some (.int (i : Nat)), some (.str row), some (.int ((c : Int) + ((mkS tk.t).length : Int))), some (.ref p)] = _
              rw [ecol]
            · rw [← List.append_assoc]
              exact Paired.snoc (ToksAt.mono e4.g htk3) htok
            · rw [hdr, List.append_assoc]; rfl
            · have : (tl row).drop (c + tk.t.length) = r := by
                rw [← List.drop_drop, q3, hsp, List.drop_left]
              rw [this]
              exact hL1
            · show (tl row).length - ((c : Int) + ((mkS tk.t).length : Int)).toNat < (tl row).length - ((c : Int)).toNat
              rw [ecol]
              omega
        · have q1 : ¬ (c : Int) < ((row.length : Nat) : Int) := fun z => q (decide_eq_true z)
          rw [len_tl] at q1
          have ec : (tl row).drop c = [] := List.drop_eq_nil_of_le (by omega)
          rw [ec] at hL
          have er : rem = [] := by
            generalize e0 : ([] : List Nat) = m at hL
            cases hL with
            | nil => rfl
            | sp _ => cases e0
            | tok hR _ =>
              obtain ⟨h1, h2⟩ := rd_len hR
              rw [← e0] at h1
              exact absurd (List.append_eq_nil_iff.mp h1.symm).1 h2
          refine ⟨G3, vs3, _, _, _, _, rfl, C3, lG3, hrp3, hvs3, ?_⟩
          rw [flat_take hts, hdr, er, List.append_nil]
          exact htk3
      · intro σ H Q Q' hq h
        obtain ⟨v, hv, x, hx, z, e, hz, i, j, e1, e2, b, e3, h⟩ := h
        exact ⟨v, hv, x, hx, z, e, hz, i, j, e1, e2, b, e3, hq _ _ h⟩
    · rintro σ H3 ⟨G3, vs3, v3, v4, v5, v6, rfl, C3, lG3, hrp3, hvs3, htk3⟩
      rw [List.length_map, hlen, ← hlen2, List.take_length] at htk3
      refine ⟨_, rfl, _, rfl, rp, _, rfl, .inl (SqL.of (C3.s _ _ hrp3)), fun x dx nx nd ne => init_go2 rfl ⟨rfl, ?_⟩⟩
      have C4 := C3.make nx nd ne (.ins a.C_Token dx ((["kind", "text", "line", "column"] : List Str).zip [.str (kS .fin), .str (Str.ofString ""), .int ((rs.map V.str).length : Nat), .int ((0 : Nat) : Int)]))
      have lx : l ≠ x := ne_of_none hvs3 nx
      have ldx : l ≠ dx := ne_of_none hvs3 nd
      refine ⟨(by show 1 ≤ sizeLine; decide), fun p1 hp1 => ?_⟩
      have C5 := C4.lay hp1 (.lst [.ref x])
      have lp1 : l ≠ p1 := fun e => by rw [← e, upd_ne lx, upd_ne ldx, hvs3] at hp1; cases hp1
      have hsz : vs3.length ≤ 100000 := by rw [Paired.len htk3]; exact hfl
      refine ⟨l, p1, vs3, _, rfl, rfl, by rw [upd_ne lp1, upd_ne lx, upd_ne ldx]; exact hvs3, upd_same, small 100001 (by show vs3.length + 1 ≤ _; omega) (by decide), fun p2 hp2 => ?_⟩
      have C6 := C5.new hp2 (.lst (vs3 ++ [.ref x]))
      refine k _ _ _ C6.ext C6.sm ⟨p2, _, rfl, upd_same, Paired.snoc (ToksAt.mono ((same_make (C3.freeG nx) (C3.freeG nd) ne _).trans (same_new (C5.freeG hp2))) htk3) (TokAt.mono (same_new (C5.freeG hp2)) (tok_mk (k := .fin) rfl t_e))⟩
end
end Sb

namespace Sb
open PySem PySem.Spec PyProof.Rows L2 TL
/-! ### some things may be written: those of S -/
def wos (S : List Addr) (H : Hp) : Hp := fun b => if b ∈ S then none else H b
theorem wos_in {S : List Addr} {H : Hp} {b : Addr} (h : b ∈ S) : wos S H b = none := if_pos h
theorem wos_out {S : List Addr} {H : Hp} {b : Addr} (h : b ∉ S) : wos S H b = H b := if_neg h
theorem wos_some {S : List Addr} {H : Hp} {b : Addr} {o : HO} (h : wos S H b = some o) : b ∉ S ∧ H b = some o := by
  by_cases e : b ∈ S
  · rw [wos_in e] at h; cases h
  · rw [wos_out e] at h; exact ⟨e, h⟩
structure Mv (S : List Addr) (G0 H0 G H : Hp) : Prop where
  ext : Ext G0 H0 G H
  sm : Same (wos S H0) H
section
variable {S S' : List Addr} {G0 H0 G H G1 H1 : Hp} {p l x dx : Addr} {o : HO}
theorem Mv.start (s : Same G H) : Mv S G H G H := ⟨Ext.refl s, fun _ _ e => (wos_some e).2⟩
theorem Mv.new (a : Mv S G0 H0 G H) (np : H p = none) (o : HO) : Mv S G0 H0 (upd G p o) (upd H p o) := ⟨a.ext.new np, a.sm.trans (same_new np)⟩
theorem Mv.lay (a : Mv S G0 H0 G H) (np : H p = none) (o : HO) : Mv S G0 H0 G (upd H p o) := ⟨a.ext.lay np, a.sm.trans (same_new np)⟩
theorem Mv.put (a : Mv S G0 H0 G H) (n0 : l ∈ S ∨ H0 l = none) (n : G l = none) (o : HO) : Mv S G0 H0 G (upd H l o) := ⟨a.ext.put n, same_put a.sm (by
  rcases n0 with h | h
  · exact wos_in h
  · by_cases e : l ∈ S
    · exact wos_in e
    · rw [wos_out e]; exact h)⟩
theorem Mv.freeze (a : Mv S G0 H0 G H) (n0 : H0 l = none) (h : H l = some o) : Mv S G0 H0 (upd G l o) H := ⟨a.ext.freeze n0 h, a.sm⟩
theorem Mv.make (a : Mv S G0 H0 G H) (nx : H x = none) (nd : H dx = none) (ne : dx ≠ x) (o : HO) : Mv S G0 H0 (upd (upd G dx (.own x)) x o) (upd (upd H dx (.own x)) x o) := ⟨a.ext.make nx nd ne o, a.sm.trans (same_make nx nd ne o)⟩
theorem Mv.trans (a : Mv S G0 H0 G H) (b : Mv S G H G1 H1) : Mv S G0 H0 G1 H1 := by
  refine ⟨a.ext.trans b.ext, fun c o e => ?_⟩
  obtain ⟨h1, h2⟩ := wos_some e
  exact b.sm c o (by rw [wos_out h1]; exact a.sm c o e)
theorem Mv.mono (a : Mv S G0 H0 G H) (h : ∀ b ∈ S, b ∈ S' ∨ H0 b = none) : Mv S' G0 H0 G H := by
  refine ⟨a.ext, fun c o e => ?_⟩
  obtain ⟨h1, h2⟩ := wos_some e
  refine a.sm c o ?_
  by_cases hc : c ∈ S
  · rcases h c hc with h | h
    · exact absurd h h1
    · rw [h] at h2; cases h2
  · rw [wos_out hc]; exact h2
theorem Mv.kept (a : Mv S G0 H0 G H) (h : H0 l = some o) (n : l ∉ S) : H l = some o := a.sm l o (by rw [wos_out n]; exact h)
theorem Mv.s (a : Mv S G0 H0 G H) : Same G H := a.ext.h
theorem Mv.g (a : Mv S G0 H0 G H) : Same G0 G := a.ext.g
theorem Mv.free (a : Mv S G0 H0 G H) (np : H p = none) : H0 p = none := a.ext.k p np
theorem Mv.freeG (a : Mv S G0 H0 G H) (np : H p = none) : G p = none := Same.free a.ext.h np
theorem Mv.pt (a : Mv [] G0 H0 G H) : Pt G0 H0 G H := ⟨a.ext, fun c o e => a.sm c o (by rw [wos_out (by simp)]; exact e)⟩
theorem Mv.pure (a : Mv S G0 H0 G H) (e : Ext G H G1 H1) (s : Same H H1) : Mv S G0 H0 G1 H1 := ⟨a.ext.trans e, a.sm.trans s⟩
end
/-! ### the parser -/
def parF (tk fl : Addr) (n : Nat) : List (Str × V) := [("tokens", .ref tk), ("at", .int n), ("faults", .ref fl)]
def ParAt (a : Ad) (G H : Hp) (p : Addr) (n : Nat) (toks : List Tk) : Prop := ∃ (dx tk fl : Addr) (vs : List V), H p = some (.ins a.C_Parser dx (parF tk fl n)) ∧ G p = none ∧ G tk = some (.lst vs) ∧ ToksAt a.C_Token G vs toks ∧ G fl = some (.lst [])
theorem parF_put (tk fl : Addr) (n m : Nat) : putF "at" (.int ((n : Int) + (m : Int))) (parF tk fl n) = parF tk fl (n + m) := by
  show (if ("tokens" : Str) = "at" then _ else (("tokens" : Str), V.ref tk) :: (if ("at" : Str) = "at" then (("at" : Str), V.int ((n : Int) + (m : Int))) :: [(("faults" : Str), V.ref fl)] else _)) = _
  rw [if_neg (by decide +kernel), if_pos rfl]
  rfl
theorem ParAt.grow {a : Ad} {G G' H H' : Hp} {p : Addr} {n : Nat} {toks : List Tk} (h : ParAt a G H p n toks) (g : Same G G') (hp : ∀ o, H p = some o → H' p = some o) (n' : G' p = none) : ParAt a G' H' p n toks := by
  obtain ⟨dx, tk, fl, vs, h1, h2, h3, h4, h5⟩ := h
  exact ⟨dx, tk, fl, vs, hp _ h1, n', g _ _ h3, ToksAt.mono g h4, g _ _ h5⟩
theorem ParAt.some {a : Ad} {G H : Hp} {p : Addr} {n : Nat} {toks : List Tk} (h : ParAt a G H p n toks) : ∃ dx tk fl, H p = some (.ins a.C_Parser dx (parF tk fl n)) := by
  obtain ⟨dx, tk, fl, vs, h1, _⟩ := h
  exact ⟨dx, tk, fl, h1⟩
theorem ParAt.out {a : Ad} {G H : Hp} {p : Addr} {n : Nat} {toks : List Tk} (h : ParAt a G H p n toks) : G p = none := by
  obtain ⟨dx, tk, fl, vs, _, h1, _⟩ := h
  exact h1
/-- through a new object -/
theorem ParAt.new {a : Ad} {G H : Hp} {p q : Addr} {n : Nat} {toks : List Tk} {o : HO} (h : ParAt a G H p n toks) (s : Same G H) (nq : H q = none) : ParAt a (upd G q o) (upd H q o) p n toks := by
  obtain ⟨dx, tk, fl, h1⟩ := h.some
  have ne : p ≠ q := ne_of_none h1 nq
  exact h.grow (same_new (Same.free s nq)) (fun o e => by rw [upd_ne ne]; exact e) (by rw [upd_ne ne]; exact h.out)
theorem ParAt.lay {a : Ad} {G H : Hp} {p q : Addr} {n : Nat} {toks : List Tk} {o : HO} (h : ParAt a G H p n toks) (nq : H q = none) : ParAt a G (upd H q o) p n toks := by
  obtain ⟨dx, tk, fl, h1⟩ := h.some
  exact h.grow (Same.refl G) (fun o e => by rw [upd_ne (ne_of_none h1 nq)]; exact e) h.out
theorem ParAt.put {a : Ad} {G H : Hp} {p q : Addr} {n : Nat} {toks : List Tk} {o : HO} (h : ParAt a G H p n toks) (ne : p ≠ q) : ParAt a G (upd H q o) p n toks :=
  h.grow (Same.refl G) (fun o e => by rw [upd_ne ne]; exact e) h.out
structure spPeek (a : Ad) (vs : List V) (H : Hp) (Q : VK) (E : XK) : Prop where
  ex : ∃ (p : Addr) (G : Hp) (n : Nat) (toks : List Tk) (tk : Tk), vs = [.ref p] ∧ Same G H ∧ ParAt a G H p n toks ∧ toks[n]? = some tk ∧ ∀ v, TokAt a.C_Token G v tk → Q v H
structure spTake (a : Ad) (f : Tk → Str) (vs : List V) (H : Hp) (Q : VK) (E : XK) : Prop where
  ex : ∃ (p : Addr) (G : Hp) (n : Nat) (toks : List Tk) (tk : Tk), vs = [.ref p, .str (f tk)] ∧ Same G H ∧ ParAt a G H p n toks ∧ toks[n]? = some tk ∧ ∀ H1 v, Mv [p] G H G H1 → ParAt a G H1 p (n + 1) toks → TokAt a.C_Token G v tk → Q v H1
section
variable {P : Program} {w : World} {K : PySem.W.Frag} {mg : Str → Option Value} {base : Heap} {a : Ad}
theorem ok_Parser_peek (T : Txt K mg a) : FnOk P w K mg base CX0 1 a.f_Parser_peek a.d_Parser_peek ["self"] (spPeek a) := by
  refine T.F_Parser_peek.ok sc_Parser_peek (fun vs H Q E h => ?_) (fun cdv A outer s H vs Q E hr h => ?_)
  · obtain ⟨⟨p, G, n, toks, tk, rfl, _⟩⟩ := h
    rfl
  · obtain ⟨⟨p, G, n, toks, tk, rfl, hs, ⟨dx, ta, fl, vs, h1, h2, h3, h4, h5⟩, hn, k⟩⟩ := h
    obtain ⟨v, hv, htk⟩ := Paired.at_ h4 hn
    refine ⟨_, (pss_one (ps_ret (pe_ix ix_list (pe_fld (pv 0) rfl) (pe_fld (pv 0) rfl) (fun _ _ => rfl)))), ?_⟩
    refine ⟨_, rfl, p, _, dx, _, _, rfl, h1, T.cl_Parser, T.n_Parser_tokens, (by kernel_rfl), _, rfl, p, _, dx, _, _, rfl, h1, T.cl_Parser, T.n_Parser_at, (by kernel_rfl), ta, vs, _, v, rfl, rfl, SqL.of (hs _ _ h3), atI_nat hv, k v htk⟩
theorem peek_go {p : Addr} {G H : Hp} {n : Nat} {toks : List Tk} {tk : Tk} {Q : VK} {E : XK} (hs : Same G H) (hP : ParAt a G H p n toks) (hn : toks[n]? = some tk) (k : ∀ v, TokAt a.C_Token G v tk → Q v H) : spPeek a [.ref p] H Q E := ⟨⟨p, G, n, toks, tk, rfl, hs, hP, hn, k⟩⟩
theorem ok_Parser_take (T : Txt K mg a) : FnOk P w K mg base CX0 2 a.f_Parser_take a.d_Parser_take ["self", "kind"] (spTake a fun t => kS t.k) := by
  refine T.F_Parser_take.ok sc_Parser_take (fun vs H Q E h => ?_) (fun cdv A outer s H vs Q E hr h => ?_)
  · obtain ⟨⟨p, G, n, toks, tk, rfl, _⟩⟩ := h
    rfl
  · obtain ⟨⟨p, G, n, toks, tk, rfl, hs, hP, hn, k⟩⟩ := h
    obtain ⟨dx, ta, fl, vs, h1, h2, h3, h4, h5⟩ := id hP
    refine ⟨_, (pss_cons (ps_set (i := 2) sc_Parser_take.nd rfl (Or.inl rfl) (pe_meth0 (pv 0) T.cl_Parser T.M_Parser_peek (ok_Parser_peek T) (hr.mono (by decide)) (b_Parser_peek T) .nil pass0))
      (pss_cons (ps_if (pt_cmpR op_ne (pe_fld (pv 2) rfl) (pv 1) (nomark _)) pss_never pss_nil)
      (pss_cons (ps_fldaug (pv 0) pe_int in_add)
      (pss_one (ps_ret (pv 2)))))), ?_⟩
    refine ⟨_, rfl, p, dx, _, rfl, h1, (by kernel_rfl), peek_go hs hP hn fun v hv => ?_⟩
    obtain ⟨q, dq, l, c, rfl, hq⟩ := id hv
    refine ⟨_, rfl, q, _, dq, _, _, rfl, hs _ _ hq, T.cl_Token, T.n_Token_kind, (by kernel_rfl), _, rfl, rfl, _, rfl, ite_f (by rw [decide_eq_true rfl]; rfl) ?_⟩
    refine ⟨_, rfl, p, _, dx, _, .int n, rfl, h1, T.cl_Parser, T.n_Parser_at, (by kernel_rfl), _, _, rfl, rfl, dx, _, h1, (by show 3 < 1000; decide), ?_⟩
    refine ⟨_, rfl, k _ _ ((Mv.start hs).put (.inl (by simp)) h2 _) ⟨dx, ta, fl, vs, ?_, h2, h3, h4, h5⟩ hv⟩
    rw [upd_same]
    exact congrArg (fun z => some (HO.ins a.C_Parser dx z)) (parF_put ta fl n 1)
theorem ok_Parser_take_word (T : Txt K mg a) : FnOk P w K mg base CX0 2 a.f_Parser_take_word a.d_Parser_take_word ["self", "word"] (spTake a fun t => mkS t.t) := by
  refine T.F_Parser_take_word.ok sc_Parser_take_word (fun vs H Q E h => ?_) (fun cdv A outer s H vs Q E hr h => ?_)
  · obtain ⟨⟨p, G, n, toks, tk, rfl, _⟩⟩ := h
    rfl
  · obtain ⟨⟨p, G, n, toks, tk, rfl, hs, hP, hn, k⟩⟩ := h
    obtain ⟨dx, ta, fl, vs, h1, h2, h3, h4, h5⟩ := id hP
    refine ⟨_, (pss_cons (ps_set (i := 2) sc_Parser_take_word.nd rfl (Or.inl rfl) (pe_meth0 (pv 0) T.cl_Parser T.M_Parser_peek (ok_Parser_peek T) (hr.mono (by decide)) (b_Parser_peek T) .nil pass0))
      (pss_cons (ps_if (pt_cmpR op_ne (pe_fld (pv 2) rfl) (pv 1) (nomark _)) pss_never pss_nil)
      (pss_cons (ps_fldaug (pv 0) pe_int in_add)
      (pss_one (ps_ret (pv 2)))))), ?_⟩
    refine ⟨_, rfl, p, dx, _, rfl, h1, (by kernel_rfl), peek_go hs hP hn fun v hv => ?_⟩
    obtain ⟨q, dq, l, c, rfl, hq⟩ := id hv
    refine ⟨_, rfl, q, _, dq, _, _, rfl, hs _ _ hq, T.cl_Token, T.n_Token_text, (by kernel_rfl), _, rfl, rfl, _, rfl, ite_f (by rw [decide_eq_true rfl]; rfl) ?_⟩
    refine ⟨_, rfl, p, _, dx, _, .int n, rfl, h1, T.cl_Parser, T.n_Parser_at, (by kernel_rfl), _, _, rfl, rfl, dx, _, h1, (by show 3 < 1000; decide), ?_⟩
    refine ⟨_, rfl, k _ _ ((Mv.start hs).put (.inl (by simp)) h2 _) ⟨dx, ta, fl, vs, ?_, h2, h3, h4, h5⟩ hv⟩
    rw [upd_same]
    exact congrArg (fun z => some (HO.ins a.C_Parser dx z)) (parF_put ta fl n 1)
/-- the next token is taken, within a def that may write S -/
theorem take_go {f : Tk → Str} {z : Str} {S : List Addr} {p : Addr} {G0 H0 G H : Hp} {n : Nat} {toks : List Tk} {tk : Tk} {Q : VK} {E : XK} (hz : z = f tk) (m : Mv S G0 H0 G H) (hp : p ∈ S ∨ H0 p = none) (hP : ParAt a G H p n toks) (hn : toks[n]? = some tk)
    (k : ∀ H1 v, Mv S G0 H0 G H1 → Mv [p] G H G H1 → ParAt a G H1 p (n + 1) toks → TokAt a.C_Token G v tk → Q v H1) : spTake a f [.ref p, .str z] H Q E :=
  ⟨⟨p, G, n, toks, tk, by rw [hz], m.s, hP, hn, fun H1 v mv hP1 hv => k H1 v ⟨m.ext.trans mv.ext, fun c o e => by
    have e1 := m.sm c o e
    obtain ⟨h1, h2⟩ := wos_some e
    refine mv.sm c o ?_
    by_cases hc : c ∈ [p]
    · have : c = p := by simpa using hc
      subst this
      rcases hp with hp | hp
      · exact absurd hp h1
      · rw [hp] at h2; cases h2
    · rw [wos_out hc]; exact e1⟩ mv hP1 hv⟩⟩
end
end Sb

namespace Sb
open PySem PySem.Spec PyProof.Rows L2 TL
def numT (n : Nat) : Tk := ⟨.number, numL n⟩
def kwT (s : Str) : Tk := ⟨.keyword, tl s⟩
def sgT (c : Nat) : Tk := ⟨.sign, [c]⟩
def nmT (t : List Nat) : Tk := ⟨.name, t⟩
theorem drop_at {α : Type} {l : List α} {n : Nat} {x : α} {r : List α} (h : l.drop n = x :: r) : l[n]? = some x ∧ l.drop (n + 1) = r := by
  constructor
  · have h1 : (l.drop n)[0]? = some x := by rw [h]; rfl
    rw [List.getElem?_drop] at h1
    exact h1
  · rw [← List.drop_drop, h]
    rfl
theorem int_of {n : Nat} (h : n < 100) : intText? (mkS (numL n)) = some (n : Int) := by
  have e : Str.ofString (toString ((n : Nat) : Int)) = mkS (numL n) := mkS_of (tl_num n)
  rw [← e]
  exact int_num (by have := num_len h; omega)
theorem numT_len {n : Nat} (h : n < 100) : (mkS (numL n)).length ≤ 640 := by rw [len_mkS]; have := num_len h; omega
structure spShelf (a : Ad) (K : PySem.W.Frag) (vs : List V) (H : Hp) (Q : VK) (E : XK) : Prop where
  ex : ∃ (p : Addr) (G : Hp) (n : Nat) (toks : List Tk) (nums : List Nat) (rest : List Tk), vs = [.ref p] ∧ Same G H ∧ ParAt a G H p n toks ∧ toks.drop n = kwT "shelf" :: (nums.map numT ++ (sgT 59 :: rest)) ∧ 3 ≤ nums.length ∧ nums.length ≤ 12 ∧ (∀ x ∈ nums, x ≤ 3) ∧
    ∀ G1 H1 u, Mv [p] G H G1 H1 → ParAt a G1 H1 p (n + nums.length + 2) toks → SqT K G1 u (nums.map fun n : Nat => V.int n) → Q (.ref u) H1
section
variable {P : Program} {w : World} {K : PySem.W.Frag} {mg : Str → Option Value} {base : Heap} {a : Ad}
theorem ok_Parser_parse_shelf (T : Txt K mg a) : FnOk P w K mg base CX0 3 a.f_Parser_parse_shelf a.d_Parser_parse_shelf ["self"] (spShelf a K) := by
  refine T.F_Parser_parse_shelf.ok sc_Parser_parse_shelf (fun vs H Q E h => ?_) (fun cdv A outer s H vs Q E hr h => ?_)
  · obtain ⟨⟨p, G, n, toks, nums, rest, rfl, _⟩⟩ := h
    rfl
  · obtain ⟨⟨p, G, n, toks, nums, rest, rfl, hs, hP, hd, h3, h12, hb, k⟩⟩ := h
    refine ⟨_, (pss_cons (ps_set (i := 1) sc_Parser_parse_shelf.nd rfl (Or.inl rfl) (pe_meth (pv 0) T.cl_Parser T.M_Parser_take_word (ok_Parser_take_word T) (hr.mono (by decide)) (b_Parser_take_word T) .nil pass0 (pa_cons pe_str pa_nil)))
      (pss_cons (ps_set (i := 2) sc_Parser_parse_shelf.nd rfl (Or.inl rfl) (pe_lst (pa_cons (pe_meth (pv 0) T.cl_Parser T.M_Parser_take (ok_Parser_take T) (hr.mono (by decide)) (b_Parser_take T) .nil pass0 (pa_cons (pe_glob (v := V.str (Str.ofString "number")) rfl T.c_NUMBER ⟨_, rfl⟩) pa_nil)) pa_nil)))
      (pss_cons (ps_while PassesOwn.never (pt_cmpR op_eq (pe_fld (pe_meth0 (pv 0) T.cl_Parser T.M_Parser_peek (ok_Parser_peek T) (hr.mono (by decide)) (b_Parser_peek T) .nil pass0) rfl) (pe_glob (v := V.str (Str.ofString "number")) rfl T.c_NUMBER ⟨_, rfl⟩) (nomark _)) (pss_one (ps_expr (pe_bm PySem.F.plainAttrs_list PySem.F.slot_list_append PySem.F.type_list_append mt_append (pv 2) (pa_cons (pe_meth (pv 0) T.cl_Parser T.M_Parser_take (ok_Parser_take T) (hr.mono (by decide)) (b_Parser_take T) .nil pass0 (pa_cons (pe_glob (v := V.str (Str.ofString "number")) rfl T.c_NUMBER ⟨_, rfl⟩) pa_nil)) pa_nil)))))
      (pss_cons (ps_expr (pe_meth (pv 0) T.cl_Parser T.M_Parser_take_word (ok_Parser_take_word T) (hr.mono (by decide)) (b_Parser_take_word T) .nil pass0 (pa_cons pe_str pa_nil)))
      (pss_cons (ps_if (pt_cmpR op_lt (pe_callB call_len_seq (by rfl) T.z_len (by decide +kernel) (pa_cons (pv 2) pa_nil)) (pe_glob (v := V.int 3) rfl T.c_MIN_CELLS ⟨_, rfl⟩) (nomark _)) pss_never pss_nil)
      (pss_cons (ps_for PassesOwn.never rfl (pi_enum (by rfl) T.z_enumerate (pa_cons (pv 2) pa_nil)) (pg_tup (by rfl) (pgs_cons (pg_name (i := 3) sc_Parser_parse_shelf.nd rfl (Or.inl rfl)) (pgs_cons (pg_name (i := 4) sc_Parser_parse_shelf.nd rfl (Or.inl rfl)) pgs_nil))) (pss_one (ps_if (pt_cmpR op_eq (pv 3) (pe_glob (v := V.int 12) rfl T.c_MAX_CELLS ⟨_, rfl⟩) (nomark _)) pss_never (pss_one (ps_if (pt_cmpR op_gt (pe_callTy call_int_str (by rfl) T.z_int (by decide +kernel) (pa_cons (pe_fld (pv 4) rfl) pa_nil)) (pe_glob (v := V.int 3) rfl T.c_MAX_BOXES ⟨_, rfl⟩) (nomark _)) pss_never pss_nil)))))
      (pss_one (ps_ret (pe_callTy call_tuple_of (by rfl) T.z_tuple (by decide +kernel) (pa_cons (pe_lc (own := [("token", 4)]) (g := gName 4) (te := (tCB _ (tCons (tFld K (tVar 4) "text") tNil))) (tt := tYes) rfl sc_Parser_parse_shelf.nd (pi_list (pv 2)) (blkOk_by (own := [("token", 4)]) (N := ["self", "keyword", "tokens", "place", "token"]) (sc := defScope s_Parser_parse_shelf) (by decide +kernel)) (fun _ _ _ _ _ => (pg_name (i := 4) sc_Parser_parse_shelf.nd rfl (Or.inl rfl))) (fun _ _ _ _ _ => pts_nil) (fun _ _ _ _ _ => by exact (pe_callTy call_int_str (by rfl) T.z_int (by decide +kernel) (pa_cons (pe_fld (pv 4) rfl) pa_nil)))) pa_nil)))))))))), ?_⟩
    have M0 : Mv [p] G H G H := Mv.start hs
    obtain ⟨dx, ta, fl, h1⟩ := hP.some
    obtain ⟨n0, d1⟩ := drop_at hd
    -- keyword
    refine ⟨_, rfl, p, dx, _, rfl, h1, (by kernel_rfl), take_go (tk := kwT "shelf") (mkS_tl _).symm M0 (.inl (by simp)) hP n0 fun H1 v1 M1 _ P1 hv1 => ?_⟩
    obtain ⟨x0, nums', rfl⟩ : ∃ x0 nums', nums = x0 :: nums' := by cases nums with | nil => exact absurd h3 (by decide) | cons x y => exact ⟨x, y, rfl⟩
    generalize hnums : x0 :: nums' = nums at *
    have d1' : toks.drop (n + 1) = nums.map numT ++ (sgT 59 :: rest) := d1
    have at_j : ∀ j x, nums[j]? = some x → toks[n + 1 + j]? = some (numT x) := fun j x hj => by
      have hlt : j < nums.length := (List.getElem?_eq_some_iff.mp hj).1
      have e := congrArg (fun l => l[j]?) d1'
      simp only [List.getElem?_drop] at e
      rw [e, List.getElem?_append_left (by rw [List.length_map]; exact hlt), List.getElem?_map, hj]
      rfl
    have at_e : toks[n + 1 + nums.length]? = some (sgT 59) := by
      have e := congrArg (fun l => l[nums.length]?) d1'
      simp only [List.getElem?_drop] at e
      rw [e, List.getElem?_append_right (by rw [List.length_map]; exact Nat.le_refl _), List.length_map, Nat.sub_self]
      rfl
    have hx0 : nums[0]? = some x0 := by rw [← hnums]; rfl
    obtain ⟨dx1, ta1, fl1, h11⟩ := P1.some
    refine ⟨_, rfl, p, dx1, _, rfl, h11, (by kernel_rfl), take_go (tk := numT x0) rfl M1 (.inl (by simp)) P1 (at_j 0 x0 hx0) fun H2 v2 M2 _ P2 hv2 => ?_⟩
    refine ⟨(by show 1 ≤ sizeLine; decide), fun l hl => ?_⟩
    have l0 : H l = none := M2.free hl
    have lG : G l = none := M2.freeG hl
    have pl : p ≠ l := by obtain ⟨_, _, _, h⟩ := P2.some; exact ne_of_none h hl
    have M3 := M2.lay hl (.lst [v2])
    have P3 := P2.lay (o := .lst [v2]) hl
    -- the numbers
    obtain ⟨Iv, hIv⟩ : ∃ Iv : Nat → L2.St → Hp → Prop, Iv = fun j σ H' => ∃ (vs : List V), σ = [some (.ref p), some v1, some (.ref l), none, none] ∧ 1 ≤ j ∧ j ≤ nums.length ∧ Mv [p] G H G H' ∧ ParAt a G H' p (n + 1 + j) toks ∧ H' l = some (.lst vs) ∧ ToksAt a.C_Token G vs ((nums.take j).map numT) := ⟨_, rfl⟩
    dsimp only
    refine seq_restσ (fun σ H' => Iv nums.length σ H') (fun σ H' hI => ?r) (fun rest1 => ?m)
    case m =>
      refine ⟨fun m σ H' => ∃ j, m = nums.length - j ∧ Iv j σ H', ⟨_, 1, rfl, ?_⟩, ?_⟩
      · rw [hIv]
        refine ⟨[v2], rfl, Nat.le_refl _, by omega, M3, P3, upd_same, ?_⟩
        have : nums.take 1 = [x0] := by rw [← hnums]; rfl
        rw [this]
        exact .cons hv2 .nil
      · rintro m σ H' ⟨j, rfl, hI⟩
        have hI0 := hI
        rw [hIv] at hI
        obtain ⟨vs, rfl, j1, jn, M, PP, hlv, htk⟩ := hI
        obtain ⟨dx2, ta2, fl2, h12'⟩ := PP.some
        by_cases hj : j < nums.length
        · obtain ⟨y, hy⟩ : ∃ y, nums[j]? = some y := ⟨_, List.getElem?_eq_getElem hj⟩
          refine ⟨_, rfl, p, dx2, _, rfl, h12', (by kernel_rfl), peek_go M.s PP (at_j j y hy) fun v hv => ?_⟩
          obtain ⟨q, dq, lq, cq, rfl, hq⟩ := id hv
          refine ⟨q, _, dq, _, .str (kS .number), rfl, M.s _ _ hq, T.cl_Token, T.n_Token_kind, (by kernel_rfl), rfl, _, rfl, ite_t (decide_eq_true rfl) ?_⟩
          refine ⟨fun σ' H' => Iv (j + 1) σ' H', fun σ' H' hn => ⟨_, by omega, j + 1, rfl, hn⟩, ?_⟩
          refine ⟨_, rfl, .inl ⟨rfl, _, SqL.of hlv⟩, _, rfl, p, dx2, _, rfl, h12', (by kernel_rfl), take_go (tk := numT y) rfl M (.inl (by simp)) PP (at_j j y hy) fun H4 v4 M4 m4 P4 hv4 => ?_⟩
          have hl4 : H4 l = some (.lst vs) := m4.kept hlv (by simp [pl.symm])
          refine ⟨l, vs, _, rfl, rfl, hl4, smaller 12 (by rw [Paired.len htk, List.length_map, List.length_take]; omega) (by decide), ?_⟩
          rw [hIv]
          refine ⟨vs ++ [v4], rfl, by omega, by omega, M4.put (.inr l0) lG _, P4.put pl, upd_same, ?_⟩
          rw [take_more hy, List.map_append]
          exact Paired.snoc htk hv4
        · have ej : j = nums.length := by omega
          rw [ej] at PP hI0
          refine ⟨_, rfl, p, dx2, _, rfl, (by rw [ej] at h12'; exact h12'), (by kernel_rfl), peek_go M.s PP at_e fun v hv => ?_⟩
          obtain ⟨q, dq, lq, cq, rfl, hq⟩ := id hv
          refine ⟨q, _, dq, _, .str (kS .sign), rfl, M.s _ _ hq, T.cl_Token, T.n_Token_kind, (by kernel_rfl), rfl, _, rfl, ite_f (by decide +kernel) (rest1 _ _ hI0)⟩
    rw [hIv] at hI
    obtain ⟨vs, rfl, j1, jn, M, PP, hlv, htk⟩ := hI
    rw [List.take_length] at htk
    have hvl : vs.length = nums.length := by rw [Paired.len htk, List.length_map]
    obtain ⟨dx2, ta2, fl2, h12'⟩ := PP.some
    -- ;
    refine ⟨_, rfl, p, dx2, _, rfl, h12', (by kernel_rfl), take_go (tk := sgT 59) (mkS_of t_sc) M (.inl (by simp)) PP at_e fun H4 v4 M4 m4 P4 _ => ?_⟩
    have hl4 : H4 l = some (.lst vs) := m4.kept hlv (by simp [pl.symm])
    refine ⟨_, rfl, l, _, rfl, .inl (SqL.of hl4), _, _, rfl, rfl, _, rfl, ite_f (decide_eq_false (by rw [hvl]; omega)) ?_⟩
    -- the check
    refine ⟨_, rfl, l, _, rfl, SqL.of hl4, for_it (walk_enum (K := K) (a := l) (xs := vs)) (fun i σ H' => ∃ (v3 v4 : Option V), σ = [some (.ref p), some v1, some (.ref l), v3, v4] ∧ Mv [p] G H G H' ∧ ParAt a G H' p (n + 1 + nums.length + 1) toks ∧ H' l = some (.lst vs)) ⟨none, none, rfl, M4, P4, hl4⟩ (fun i σ H' _ ⟨_, _, _, _, _, h⟩ => SqL.of h) ?_ ?_⟩
    · rintro i y σ H5 H6 hi ⟨v3, v4', rfl, M5, P5, hl5⟩ ⟨T', x, z, rfl, hT', rfl, hx, hz⟩
      cases hx
      have hz : vs[i]? = some z := hz
      obtain ⟨tk, htk1, htok⟩ := paired_get htk hz
      rw [List.getElem?_map] at htk1
      obtain ⟨y, hy, rfl⟩ : ∃ y, nums[i]? = some y ∧ tk = numT y := by
        cases e : nums[i]? with
        | none => rw [e] at htk1; cases htk1
        | some q => rw [e] at htk1; exact ⟨q, rfl, (Option.some.inj htk1).symm⟩
      have hy3 : y ≤ 3 := hb y (List.mem_of_getElem? hy)
      obtain ⟨q, dq, lq, cq, rfl, hq⟩ := htok
      have M6 := M5.lay hT' (.tup [.int (i : Nat), .ref q])
      refine ⟨T', _, rfl, SqT.of upd_same, rfl, _, _, rfl, _, _, rfl, rfl, ?_⟩
      refine ⟨_, rfl, rfl, _, rfl, ite_f (vint_ne (by omega)) ?_⟩
      refine ⟨_, rfl, q, _, dq, _, .str (mkS (numL y)), rfl, M6.s _ _ hq, T.cl_Token, T.n_Token_text, (by kernel_rfl), _, (y : Int), rfl, int_of (by omega), numT_len (by omega), _, _, rfl, rfl, _, rfl, ite_f (decide_eq_false (by omega)) ?_⟩
      exact ⟨_, _, rfl, M6, P5.lay hT', by rw [upd_ne (ne_of_none hl5 hT')]; exact hl5⟩
    · rintro σ H5 ⟨v3, v4', rfl, M5, P5, hl5⟩
      refine ⟨_, rfl, l, rfl, ⟨_, SqL.of hl5⟩, fun D hD => ?_⟩
      have D0 : H D = none := M5.free hD
      have DG : G D = none := M5.freeG hD
      have lD : l ≠ D := ne_of_none hl5 hD
      have pD : p ≠ D := by obtain ⟨_, _, _, h⟩ := P5.some; exact ne_of_none h hD
      refine lc_list (K := K) (a := l) (xs := vs) (fun j H' => Mv [p] G H G H' ∧ ParAt a G H' p (n + 1 + nums.length + 1) toks ∧ H' l = some (.lst vs) ∧ H' D = some (.lst ((nums.take j).map fun n : Nat => V.int n))) ⟨M5.lay hD _, P5.lay hD, by rw [upd_ne lD]; exact hl5, upd_same⟩ (fun j H' _ ⟨_, _, h, _⟩ => SqL.of h) ?_ ?_
      · rintro j z H' hz ⟨M6, P6, hl6, hD6⟩
        obtain ⟨tk, htk1, htok⟩ := paired_get htk hz
        rw [List.getElem?_map] at htk1
        obtain ⟨y, hy, rfl⟩ : ∃ y, nums[j]? = some y ∧ tk = numT y := by
          cases e : nums[j]? with
          | none => rw [e] at htk1; cases htk1
          | some q => rw [e] at htk1; exact ⟨q, rfl, (Option.some.inj htk1).symm⟩
        have hy3 : y ≤ 3 := hb y (List.mem_of_getElem? hy)
        obtain ⟨q, dq, lq, cq, rfl, hq⟩ := htok
        refine ⟨rfl, _, rfl, q, _, dq, _, .str (mkS (numL y)), rfl, M6.s _ _ hq, T.cl_Token, T.n_Token_text, (by kernel_rfl), _, (y : Int), rfl, int_of (by omega), numT_len (by omega), _, hD6, smaller 12 (by rw [List.length_map, List.length_take]; omega) (by decide), M6.put (.inr D0) DG _, P6.put pD, by rw [upd_ne lD]; exact hl6, ?_⟩
        rw [upd_same, take_more hy, List.map_append]
        rfl
      · rintro H6 ⟨M6, P6, hl6, hD6⟩
        rw [hvl, List.take_length] at hD6
        refine ⟨D, _, rfl, .inl ⟨SqL.of hD6, fun u hu => ?_⟩⟩
        have e : n + 1 + nums.length + 1 = n + nums.length + 2 := by omega
        rw [e] at P6
        exact k _ _ u (M6.new hu _) (P6.new M6.s hu) (SqT.of upd_same)
end
end Sb

namespace Sb
open PySem PySem.Spec PyProof.Rows L2 TL
/-! ### labelled steps -/
structure LStep where
  lab : Option (List Nat)
  w : Nat
  tgt : Option (List Nat)
def labT : Option (List Nat) → List Tk
  | none => []
  | some t => [nmT t, sgT 58]
def tgtT : Option (List Nat) → List Tk
  | none => []
  | some t => [nmT t]
def stepT (s : LStep) : List Tk := labT s.lab ++ (kwT (wS s.w) :: (tgtT s.tgt ++ [sgT 59]))
def labV : Option (List Nat) → V
  | none => .non
  | some t => .str (mkS t)
structure LStep.Ok (s : LStep) : Prop where
  w8 : s.w < 8
  no : s.w < 5 → s.tgt = none
  yes : 5 ≤ s.w → ∃ t, s.tgt = some t
  lb : s.lab ≠ some [125]
def JmpAt (a : Ad) (G : Hp) (v : V) : Option (List Nat) → Prop
  | none => v = .non
  | some t => TokAt a.C_Token G v (nmT t)
theorem lab_in (x : List Nat) : ∀ l : List (Option (List Nat)), inV (.str (mkS x)) (l.map labV) = decide (some x ∈ l)
  | [] => by simp [inV]
  | n :: r => by
    have ih := lab_in x r
    unfold inV at ih ⊢
    rw [List.map_cons, List.any_cons, ih]
    have e : eqV (labV n) (.str (mkS x)) = decide (n = some x) := by
      cases n with
      | none => simp [labV, eqV]
      | some t =>
        unfold labV eqV
        by_cases h : t = x
        · subst h; simp
        · have h2 : ¬ mkS t = mkS x := fun q => h (by have := congrArg tl q; rwa [tl_mkS, tl_mkS] at this)
          simp [h, h2]
    rw [e]
    by_cases h : n = some x
    · subst h; simp
    · have h' : ¬ some x = n := fun q => h q.symm
      simp [h, h']
theorem lab_flat (l : List (Option (List Nat))) : (l.map labV).all flatV = true := by
  rw [List.all_eq_true]
  intro x hx
  obtain ⟨n, _, rfl⟩ := List.mem_map.mp hx
  cases n <;> rfl
theorem ixN_last {n : Nat} : ixN (n + 1) (-1) = some n := by
  unfold ixN
  rw [if_neg (by decide), if_pos (by omega)]
  congr 1
  omega
theorem set_last {α : Type} (l : List α) (x y : α) : (l ++ [x]).set l.length y = l ++ [y] := by simp
def movS : List Str := ["left", "right", "pick", "put", "wait"]
def jmpS : List Str := ["goto", "empty", "held"]
theorem jmpS_in : ∀ {w : Nat}, w < 8 → decide (wS w ∈ jmpS) = decide (5 ≤ w) := by
  have h : ∀ w : _root_.Fin 8, decide (wS w.val ∈ jmpS) = decide (5 ≤ w.val) := by decide +kernel
  exact fun {w} hw => h ⟨w, hw⟩
theorem movS_in : ∀ {w : Nat}, w < 8 → decide (wS w ∈ movS) = decide (w < 5) := by
  have h : ∀ w : _root_.Fin 8, decide (wS w.val ∈ movS) = decide (w.val < 5) := by decide +kernel
  exact fun {w} hw => h ⟨w, hw⟩
structure spPStep (a : Ad) (vs : List V) (H : Hp) (Q : VK) (E : XK) : Prop where
  ex : ∃ (p nl jl : Addr) (G : Hp) (n : Nat) (toks : List Tk) (s : LStep) (rest : List Tk) (labs : List (Option (List Nat))) (js : List V), vs = [.ref p, .ref nl, .ref jl] ∧ Same G H ∧ ParAt a G H p n toks ∧ G nl = none ∧ G jl = none ∧ nl ≠ jl ∧
    H nl = some (.lst (labs.map labV)) ∧ H jl = some (.lst js) ∧ toks.drop n = stepT s ++ rest ∧ s.Ok ∧ (∀ t, s.lab = some t → some t ∉ labs) ∧ labs.length ≤ 20 ∧ js.length ≤ 20 ∧
    ∀ H1 jv, Mv [p, nl, jl] G H G H1 → ParAt a G H1 p (n + (stepT s).length) toks → H1 nl = some (.lst ((labs ++ [s.lab]).map labV)) → H1 jl = some (.lst (js ++ [jv])) → JmpAt a G jv s.tgt → Q (.str (wS s.w)) H1
section
variable {P : Program} {w : World} {K : PySem.W.Frag} {mg : Str → Option Value} {base : Heap} {a : Ad}
theorem ok_Parser_parse_step (T : Txt K mg a) : FnOk P w K mg base CX0 3 a.f_Parser_parse_step a.d_Parser_parse_step ["self", "names", "jumps"] (spPStep a) := by
  refine T.F_Parser_parse_step.ok sc_Parser_parse_step (fun vs H Q E h => ?_) (fun cdv A outer s0 H vs Q E hr h => ?_)
  · obtain ⟨⟨p, nl, jl, G, n, toks, s, rest, labs, js, rfl, _⟩⟩ := h
    rfl
  · obtain ⟨⟨p, nl, jl, G, n, toks, s, rest, labs, js, rfl, hs, hP, nG, jG, nj, hn, hj, hd, ok, hdup, l20, j20, k⟩⟩ := h
    refine ⟨_, (pss_cons (ps_expr (pe_bm PySem.F.plainAttrs_list PySem.F.slot_list_append PySem.F.type_list_append mt_append (pv 1) (pa_cons pe_non pa_nil)))
      (pss_cons (ps_expr (pe_bm PySem.F.plainAttrs_list PySem.F.slot_list_append PySem.F.type_list_append mt_append (pv 2) (pa_cons pe_non pa_nil)))
      (pss_cons (ps_if (pt_cmpR op_eq (pe_fld (pe_meth0 (pv 0) T.cl_Parser T.M_Parser_peek (ok_Parser_peek T) (hr.mono (by decide)) (b_Parser_peek T) .nil pass0) rfl) (pe_glob (v := V.str (Str.ofString "name")) rfl T.c_NAME ⟨_, rfl⟩) (nomark _)) (pss_cons (ps_set (i := 3) sc_Parser_parse_step.nd rfl (Or.inl rfl) (pe_meth (pv 0) T.cl_Parser T.M_Parser_take (ok_Parser_take T) (hr.mono (by decide)) (b_Parser_take T) .nil pass0 (pa_cons (pe_glob (v := V.str (Str.ofString "name")) rfl T.c_NAME ⟨_, rfl⟩) pa_nil)))
      (pss_cons (ps_expr (pe_meth (pv 0) T.cl_Parser T.M_Parser_take_word (ok_Parser_take_word T) (hr.mono (by decide)) (b_Parser_take_word T) .nil pass0 (pa_cons pe_str pa_nil)))
      (pss_cons (ps_if (pt_cmpR op_in_seq (pe_fld (pv 3) rfl) (pv 1) rfl) pss_never pss_nil)
      (pss_one (ps_asg (pe_fld (pv 3) rfl) (pg_sub (pv 1) (pe_un un_neg pe_int) set_list)))))) pss_nil)
      (pss_cons (ps_set (i := 3) sc_Parser_parse_step.nd rfl (Or.inl rfl) (pe_meth (pv 0) T.cl_Parser T.M_Parser_take (ok_Parser_take T) (hr.mono (by decide)) (b_Parser_take T) .nil pass0 (pa_cons (pe_glob (v := V.str (Str.ofString "keyword")) rfl T.c_KEYWORD ⟨_, rfl⟩) pa_nil)))
      (pss_cons (ps_if (pt_cmpR op_in_seq (pe_fld (pv 3) rfl) (pe_glob (v := V.ref a.A_JUMPS) rfl T.c_JUMPS rfl) rfl) (pss_one (ps_asg (pe_meth (pv 0) T.cl_Parser T.M_Parser_take (ok_Parser_take T) (hr.mono (by decide)) (b_Parser_take T) .nil pass0 (pa_cons (pe_glob (v := V.str (Str.ofString "name")) rfl T.c_NAME ⟨_, rfl⟩) pa_nil)) (pg_sub (pv 2) (pe_un un_neg pe_int) set_list))) (pss_one (ps_if (pt_cmpR op_notIn_seq (pe_fld (pv 3) rfl) (pe_glob (v := V.ref a.A_MOVES) rfl T.c_MOVES rfl) rfl) pss_never pss_nil)))
      (pss_cons (ps_expr (pe_meth (pv 0) T.cl_Parser T.M_Parser_take_word (ok_Parser_take_word T) (hr.mono (by decide)) (b_Parser_take_word T) .nil pass0 (pa_cons pe_str pa_nil)))
      (pss_one (ps_ret (pe_fld (pv 3) rfl))))))))), ?_⟩
    have M0 : Mv [p, nl, jl] G H G H := Mv.start hs
    obtain ⟨dx, ta, fl, h1⟩ := hP.some
    have pn : p ≠ nl := ne_of h1 hn (by intro z; cases z)
    have pj : p ≠ jl := ne_of h1 hj (by intro z; cases z)
    refine ⟨_, rfl, .inl ⟨rfl, _, SqL.of hn⟩, nl, _, _, rfl, rfl, hn, smaller 20 (by rw [List.length_map]; exact l20) (by decide), ?_⟩
    have M1 := M0.put (l := nl) (.inl (by simp)) nG (.lst (labs.map labV ++ [.non]))
    have P1 := hP.put (o := .lst (labs.map labV ++ [.non])) pn
    have hj1 : (upd H nl (.lst (labs.map labV ++ [.non]))) jl = some (.lst js) := by rw [upd_ne nj.symm]; exact hj
    refine ⟨_, rfl, .inl ⟨rfl, _, SqL.of hj1⟩, jl, _, _, rfl, rfl, hj1, smaller 20 j20 (by decide), ?_⟩
    have M2 := M1.put (l := jl) (.inl (by simp)) jG (.lst (js ++ [.non]))
    have P2 := P1.put (o := .lst (js ++ [.non])) pj
    have hn2 : (upd (upd H nl (.lst (labs.map labV ++ [.non]))) jl (.lst (js ++ [.non]))) nl = some (.lst (labs.map labV ++ [.non])) := by rw [upd_ne nj, upd_same]
    have hj2 : (upd (upd H nl (.lst (labs.map labV ++ [.non]))) jl (.lst (js ++ [.non]))) jl = some (.lst (js ++ [.non])) := upd_same
    revert M2 P2 hn2 hj2
    generalize upd (upd H nl (.lst (labs.map labV ++ [.non]))) jl (.lst (js ++ [.non])) = H2
    intro M2 P2 hn2 hj2
    obtain ⟨dx2, ta2, fl2, h2⟩ := P2.some
    dsimp only
    -- the label
    refine seq_restσ (fun σ H' => ∃ v3 : Option V, σ = [some (.ref p), some (.ref nl), some (.ref jl), v3] ∧ Mv [p, nl, jl] G H G H' ∧ ParAt a G H' p (n + (labT s.lab).length) toks ∧ H' nl = some (.lst ((labs ++ [s.lab]).map labV)) ∧ H' jl = some (.lst (js ++ [.non]))) (fun σ H' hI => ?r) (fun rest1 => ?m)
    case m =>
      cases hlab : s.lab with
      | none =>
        rw [hlab] at rest1
        have d2 : toks.drop n = kwT (wS s.w) :: (tgtT s.tgt ++ [sgT 59] ++ rest) := by rw [hd]; unfold stepT; rw [hlab]; simp [labT]
        refine ⟨_, rfl, p, dx2, _, rfl, h2, (by kernel_rfl), peek_go M2.s P2 (drop_at d2).1 fun v hv => ?_⟩
        obtain ⟨q, dq, lq, cq, rfl, hq⟩ := id hv
        refine ⟨q, _, dq, _, .str (kS .keyword), rfl, M2.s _ _ hq, T.cl_Token, T.n_Token_kind, (by kernel_rfl), rfl, _, rfl, ite_f (by decide +kernel) ?_⟩
        exact rest1 _ _ ⟨_, rfl, M2, P2, by rw [hn2, List.map_append]; rfl, hj2⟩
      | some t =>
        rw [hlab] at rest1
        have d2 : toks.drop n = nmT t :: (sgT 58 :: (kwT (wS s.w) :: (tgtT s.tgt ++ [sgT 59] ++ rest))) := by rw [hd]; unfold stepT; rw [hlab]; simp [labT]
        obtain ⟨a0, d3⟩ := drop_at d2
        obtain ⟨a1, d4⟩ := drop_at d3
        refine ⟨_, rfl, p, dx2, _, rfl, h2, (by kernel_rfl), peek_go M2.s P2 a0 fun v hv => ?_⟩
        obtain ⟨q, dq, lq, cq, rfl, hq⟩ := id hv
        refine ⟨q, _, dq, _, .str (kS .name), rfl, M2.s _ _ hq, T.cl_Token, T.n_Token_kind, (by kernel_rfl), rfl, _, rfl, ite_t (decide_eq_true rfl) ?_⟩
        refine ⟨_, rfl, p, dx2, _, rfl, h2, (by kernel_rfl), take_go (tk := nmT t) rfl M2 (.inl (by simp)) P2 a0 fun H3 v3 M3 m3 P3 hv3 => ?_⟩
        obtain ⟨dx3, ta3, fl3, h3⟩ := P3.some
        refine ⟨_, rfl, p, dx3, _, rfl, h3, (by kernel_rfl), take_go (tk := sgT 58) (mkS_of (show tl (Str.ofString ":") = [58] by decide +kernel)) M3 (.inl (by simp)) P3 a1 fun H4 v4 M4 m4 P4 hv4 => ?_⟩
        have hn4 : H4 nl = some (.lst ((labs ++ [none]).map labV)) := by rw [List.map_append]; exact m4.kept (m3.kept hn2 (by simp [pn.symm])) (by simp [pn.symm])
        have hj4 : H4 jl = some (.lst (js ++ [.non])) := m4.kept (m3.kept hj2 (by simp [pj.symm])) (by simp [pj.symm])
        obtain ⟨q3, dq3, lq3, cq3, rfl, hq3⟩ := hv3
        refine ⟨_, rfl, q3, _, dq3, _, .str (mkS t), rfl, M4.s _ _ hq3, T.cl_Token, T.n_Token_text, (by kernel_rfl), _, rfl, nl, _, rfl, .inl (SqL.of hn4), rfl, lab_flat _, _, rfl, ite_f ?_ ?_⟩
        · rw [if_neg Bool.false_ne_true, lab_in]
          refine decide_eq_false fun z => ?_
          rcases List.mem_append.mp z with z | z
          · exact hdup t hlab z
          · simp at z
        refine ⟨_, rfl, q3, _, dq3, _, .str (mkS t), rfl, M4.s _ _ hq3, T.cl_Token, T.n_Token_text, (by kernel_rfl), _, rfl, _, rfl, nl, _, _, labs.length, rfl, rfl, hn4, (by rw [List.length_map, List.length_append]; exact ixN_last), ?_⟩
        refine rest1 _ _ ⟨_, rfl, M4.put (.inl (by simp)) nG _, P4.put pn, ?_, by rw [upd_ne nj.symm]; exact hj4⟩
        rw [upd_same, List.map_append, List.map_append]
        have := set_last (labs.map labV) (labV none) (.str (mkS t))
        rw [List.length_map] at this
        exact congrArg (fun z => some (HO.lst z)) this
    obtain ⟨v3, rfl, M5, P5, hn5, hj5⟩ := hI
    have d5 : toks.drop (n + (labT s.lab).length) = kwT (wS s.w) :: (tgtT s.tgt ++ [sgT 59] ++ rest) := by
      rw [← List.drop_drop, hd]
      unfold stepT
      rw [List.append_assoc, List.drop_left]
      simp
    obtain ⟨a5, d6⟩ := drop_at d5
    obtain ⟨dx5, ta5, fl5, h5⟩ := P5.some
    refine ⟨_, rfl, p, dx5, _, rfl, h5, (by kernel_rfl), take_go (tk := kwT (wS s.w)) rfl M5 (.inl (by simp)) P5 a5 fun H6 v6 M6 m6 P6 hv6 => ?_⟩
    have hn6 : H6 nl = some (.lst ((labs ++ [s.lab]).map labV)) := m6.kept hn5 (by simp [pn.symm])
    have hj6 : H6 jl = some (.lst (js ++ [.non])) := m6.kept hj5 (by simp [pj.symm])
    obtain ⟨q6, dq6, lq6, cq6, rfl, hq6⟩ := hv6
    obtain ⟨dx6, ta6, fl6, h6⟩ := P6.some
    dsimp only
    refine seq_restσ (fun σ H' => σ = [some (.ref p), some (.ref nl), some (.ref jl), some (.ref q6)] ∧ ∃ jv : V, Mv [p, nl, jl] G H G H' ∧ ParAt a G H' p (n + (labT s.lab).length + 1 + (tgtT s.tgt).length) toks ∧ H' nl = some (.lst ((labs ++ [s.lab]).map labV)) ∧ H' jl = some (.lst (js ++ [jv])) ∧ JmpAt a G jv s.tgt) (fun σ H' hI => ?r2) (fun rest2 => ?m2)
    case m2 =>
      have etx : mkS (tl (wS s.w)) = wS s.w := mkS_tl _
      refine ⟨_, rfl, q6, _, dq6, _, .str (mkS (tl (wS s.w))), rfl, M6.s _ _ hq6, T.cl_Token, T.n_Token_text, (by kernel_rfl), a.A_JUMPS, jmpS.map V.str, rfl, .inr (T.q_JUMPS H6), rfl, strs_flat _, _, rfl, ?_⟩
      rw [if_neg Bool.false_ne_true, in_strs, etx, jmpS_in ok.w8]
      refine ite2 (fun c => ?_) (fun c => ?_)
      · obtain ⟨t, ht⟩ := ok.yes (of_decide_eq_true c)
        rw [ht] at rest2 d6
        obtain ⟨a7, d7⟩ := drop_at (show _ = nmT t :: ([sgT 59] ++ rest) from d6)
        refine ⟨_, rfl, p, dx6, _, rfl, h6, (by kernel_rfl), take_go (tk := nmT t) rfl M6 (.inl (by simp)) P6 a7 fun H7 v7 M7 m7 P7 hv7 => ?_⟩
        have hn7 : H7 nl = some (.lst ((labs ++ [s.lab]).map labV)) := m7.kept hn6 (by simp [pn.symm])
        have hj7 : H7 jl = some (.lst (js ++ [.non])) := m7.kept hj6 (by simp [pj.symm])
        refine ⟨_, rfl, _, rfl, jl, _, _, js.length, rfl, rfl, hj7, (by rw [List.length_append]; exact ixN_last), ?_⟩
        refine rest2 _ _ ⟨rfl, v7, M7.put (.inl (by simp)) jG _, P7.put pj, by rw [upd_ne nj]; exact hn7, ?_, hv7⟩
        rw [upd_same, set_last]
      · have c' : ¬ 5 ≤ s.w := fun z => c (decide_eq_true z)
        have ht := ok.no (by omega)
        rw [ht] at rest2
        refine ⟨_, rfl, q6, _, dq6, _, .str (mkS (tl (wS s.w))), rfl, M6.s _ _ hq6, T.cl_Token, T.n_Token_text, (by kernel_rfl), a.A_MOVES, movS.map V.str, rfl, .inr (T.q_MOVES H6), rfl, strs_flat _, _, rfl, ite_f ?_ ?_⟩
        · rw [if_pos rfl, in_strs, etx, movS_in ok.w8, decide_eq_true (show s.w < 5 by omega)]
          rfl
        · exact rest2 _ _ ⟨rfl, .non, M6, P6, hn6, hj6, rfl⟩
    obtain ⟨rfl, jv, M8, P8, hn8, hj8, hjv⟩ := hI
    have d8 : toks.drop (n + (labT s.lab).length + 1 + (tgtT s.tgt).length) = sgT 59 :: rest := by
      rw [← List.drop_drop, d6, List.append_assoc, List.drop_left]
      rfl
    obtain ⟨a8, _⟩ := drop_at d8
    obtain ⟨dx8, ta8, fl8, h8⟩ := P8.some
    refine ⟨_, rfl, p, dx8, _, rfl, h8, (by kernel_rfl), take_go (tk := sgT 59) (mkS_of t_sc) M8 (.inl (by simp)) P8 a8 fun H9 v9 M9 m9 P9 _ => ?_⟩
    have hn9 := m9.kept hn8 (by simp [pn.symm])
    have hj9 := m9.kept hj8 (by simp [pj.symm])
    have el : n + (labT s.lab).length + 1 + (tgtT s.tgt).length + 1 = n + (stepT s).length := by
      unfold stepT
      simp only [List.length_append, List.length_cons, List.length_nil]
      omega
    rw [el] at P9
    refine ⟨_, rfl, q6, _, dq6, _, .str (wS s.w), rfl, M9.s _ _ hq6, T.cl_Token, T.n_Token_text, ?_, k H9 jv M9 P9 hn9 hj9 hjv⟩
    have : mkS (tl (wS s.w)) = wS s.w := mkS_tl _
    rw [← this]
    kernel_rfl
end
end Sb

namespace Sb
open PySem PySem.Spec PyProof.Rows L2 TL
theorem same_frz {G H : Hp} {l : Addr} {o : HO} (s : Same G H) (h : H l = some o) : Same G (upd G l o) := fun b u e => by
  by_cases hb : b = l
  · rw [hb, upd_same]
    rw [hb] at e
    have := s _ _ e
    rw [h] at this
    exact this
  · rw [upd_ne hb]; exact e
/-! ### shapes of data -/
theorem shaped_of {ds : List PyData} (h : ∀ d ∈ ds, d.canLay0 = true ∧ d.depth ≤ 10) : SeqAt.shaped (.list ds) = true ∧ SeqAt.shaped (.tuple ds) = true ∧ PyData.canLayAll0 ds = true ∧ PyData.depthAll ds ≤ 10 := by
  have h1 : PyData.canLayAll0 ds = true ∧ PyData.depthAll ds ≤ 10 := by
    induction ds with
    | nil => exact ⟨rfl, by show 0 ≤ 10; decide⟩
    | cons d ds ih =>
      obtain ⟨a1, a2⟩ := h d (by simp)
      obtain ⟨b1, b2⟩ := ih (fun d hd => h d (by simp [hd]))
      constructor
      · show (d.canLay0 && PyData.canLayAll0 ds) = true
        rw [a1, b1]; rfl
      · show max d.depth (PyData.depthAll ds) ≤ 10
        omega
  refine ⟨?_, ?_, h1⟩
  · show (PyData.canLayAll0 ds && decide (PyData.depthAll ds + 1 ≤ 64)) = true
    rw [h1.1, decide_eq_true (by omega)]; rfl
  · show (PyData.canLayAll0 ds && decide (PyData.depthAll ds + 1 ≤ 64)) = true
    rw [h1.1, decide_eq_true (by omega)]; rfl
theorem wS_ok : ∀ {w : Nat}, w < 8 → PyData.strOk (wS w) = true := by
  have h : ∀ w : _root_.Fin 8, PyData.strOk (wS w.val) = true := by decide +kernel
  exact fun {w} hw => h ⟨w, hw⟩
theorem str_lay {x : Str} (h : PyData.strOk x = true) : (PyData.str x).canLay0 = true ∧ (PyData.str x).depth ≤ 10 := ⟨h, by show 0 ≤ 10; decide⟩
theorem eqV_lab (n : Option (List Nat)) (x : List Nat) : eqV (labV n) (.str (mkS x)) = decide (n = some x) := by
  cases n with
  | none => simp [labV, eqV]
  | some t =>
    unfold labV eqV
    by_cases h : t = x
    · subst h; simp
    · have h2 : ¬ mkS t = mkS x := fun q => h (by have := congrArg tl q; rwa [tl_mkS, tl_mkS] at this)
      simp [h, h2]
/-! ### robots -/
def robotT (n : Nat) (ls : List LStep) : List Tk := kwT "robot" :: numT n :: sgT 123 :: (ls.flatMap stepT ++ [sgT 125])
def labsOf (ls : List LStep) : List (Option (List Nat)) := ls.map LStep.lab
structure Res (labs : List (Option (List Nat))) (s : LStep) (r : Step) : Prop where
  w : r.w = s.w
  no : s.tgt = none → r.g = none
  yes : ∀ t, s.tgt = some t → ∃ k, r.g = some k ∧ labs[k]? = some (some t) ∧ ∀ m, m < k → labs[m]? ≠ some (some t)
structure LOk (ls : List LStep) (ss : List Step) : Prop where
  pos : 1 ≤ ls.length
  le : ls.length ≤ 20
  all : ∀ s ∈ ls, s.Ok
  dup : ∀ i s t, ls[i]? = some s → s.lab = some t → some t ∉ labsOf (ls.take i)
  res : Paired (Res (labsOf ls)) ls ss
def robF (n : Nat) (sl nl : Addr) : List (Str × V) := [("start", .int n), ("steps", .ref sl), ("names", .ref nl)]
def RobAt (a : Ad) (K : PySem.W.Frag) (G : Hp) (v : V) (n : Nat) (ss : List Step) : Prop := ∃ (r dx sl nl : Addr), v = .ref r ∧ G r = some (.ins a.C_Robot dx (robF n sl nl)) ∧ Dp K G (.ref sl) (stepsD ss)
theorem RobAt.mono {a : Ad} {K : PySem.W.Frag} {G G' : Hp} {v : V} {n : Nat} {ss : List Step} (s : Same G G') (h : RobAt a K G v n ss) : RobAt a K G' v n ss := by
  obtain ⟨r, dx, sl, nl, e, h1, h2⟩ := h
  exact ⟨r, dx, sl, nl, e, s _ _ h1, Dp.mono s _ _ h2⟩
structure spPRobot (a : Ad) (K : PySem.W.Frag) (vs : List V) (H : Hp) (Q : VK) (E : XK) : Prop where
  ex : ∃ (p ot : Addr) (G : Hp) (pos : Nat) (toks : List Tk) (cells st : Nat) (os : List Nat) (ls : List LStep) (ss : List Step) (rest : List Tk), vs = [.ref p, .int cells, .ref ot] ∧ Same G H ∧ ParAt a G H p pos toks ∧ SqT K G ot (os.map fun n : Nat => V.int n) ∧
    toks.drop pos = robotT st ls ++ rest ∧ st < cells ∧ cells < 100 ∧ st ∉ os ∧ LOk ls ss ∧
    ∀ G1 H1 v, Mv [p] G H G1 H1 → ParAt a G1 H1 p (pos + (robotT st ls).length) toks → RobAt a K G1 v st ss → Q v H1
theorem step_head {s : LStep} (h : s.Ok) (r : List Tk) : ∃ tk r', stepT s ++ r = tk :: r' ∧ tk.t ≠ [125] := by
  unfold stepT
  cases hl : s.lab with
  | none =>
    refine ⟨kwT (wS s.w), _, rfl, ?_⟩
    have : ∀ w : _root_.Fin 8, tl (wS w.val) ≠ [125] := by decide +kernel
    exact this ⟨s.w, h.w8⟩
  | some t =>
    refine ⟨nmT t, _, rfl, fun z => ?_⟩
    have : t = [125] := z
    exact h.lb (by rw [hl, this])
theorem flat_more {α β : Type} {l : List α} {f : α → List β} {i : Nat} {x : α} (h : l[i]? = some x) : (l.take (i + 1)).flatMap f = (l.take i).flatMap f ++ f x := by
  rw [take_more h, List.flatMap_append]
  simp
theorem flat_split {α β : Type} {l : List α} {f : α → List β} {i : Nat} {x : α} (h : l[i]? = some x) : l.flatMap f = (l.take i).flatMap f ++ (f x ++ (l.drop (i + 1)).flatMap f) := by
  have hi : i < l.length := (List.getElem?_eq_some_iff.mp h).1
  have e : l = l.take i ++ (x :: l.drop (i + 1)) := by
    have h2 := List.drop_eq_getElem_cons hi
    have h3 : l[i] = x := (List.getElem?_eq_some_iff.mp h).2
    rw [h3] at h2
    rw [← h2, List.take_append_drop]
  conv => lhs; rw [e]
  rw [List.flatMap_append, List.flatMap_cons]
section
variable {P : Program} {w : World} {K : PySem.W.Frag} {mg : Str → Option Value} {base : Heap} {a : Ad}
theorem ok_Robot_init (T : Txt K mg a) : FnOk P w K mg base CX0 1 a.f_Robot_init a.d_Robot_init ["self", "start", "steps", "names"] (spInit a.C_Robot ["start", "steps", "names"]) := by
  refine T.F_Robot_init.ok sc_Robot_init (fun vs H Q E h => ?_) (fun cdv A outer s H vs Q E hr h => ?_)
  · obtain ⟨⟨x, dx, us, rfl, hl, _⟩⟩ := h
    exact congrArg (· + 1) hl
  · obtain ⟨⟨x, dx, us, rfl, hl, hx, k⟩⟩ := h
    match us, hl with
    | [u1, u2, u3], _ =>
      refine ⟨_, (pss_cons (ps_fld (pv 0) (pv 1) rfl)
      (pss_cons (ps_fld (pv 0) (pv 2) rfl)
      (pss_one (ps_fld (pv 0) (pv 3) rfl)))), ?_⟩
      refine ⟨_, rfl, _, rfl, x, _, dx, _, rfl, hx, T.cl_Robot, T.n_Robot_start, by decide, ?_⟩
      refine ⟨_, rfl, _, rfl, x, _, dx, _, rfl, upd_same, T.cl_Robot, T.n_Robot_steps, lf1, ?_⟩
      refine ⟨_, rfl, _, rfl, x, _, dx, _, rfl, upd_same, T.cl_Robot, T.n_Robot_names, lf2, ?_⟩
      rw [upd_upd, upd_upd]
      have e : putF "names" u3 (putF "steps" u2 (putF "start" u1 [])) = (["start", "steps", "names"] : List Str).zip [u1, u2, u3] := by
        show putF "names" u3 (putF "steps" u2 [("start", u1)]) = _
        rw [putF_new (fs := [("start", u1)]) (show ("steps" : Str) ∉ (["start"] : List Str) by decide +kernel)]
        show putF "names" u3 [("start", u1), ("steps", u2)] = _
        rw [putF_new (fs := [("start", u1), ("steps", u2)]) (show ("names" : Str) ∉ (["start", "steps"] : List Str) by decide +kernel)]
        rfl
      rw [e]
      exact k
theorem ok_Plan_init (T : Txt K mg a) : FnOk P w K mg base CX0 1 a.f_Plan_init a.d_Plan_init ["self", "shelf", "robots"] (spInit a.C_Plan ["shelf", "robots"]) := by
  refine T.F_Plan_init.ok sc_Plan_init (fun vs H Q E h => ?_) (fun cdv A outer s H vs Q E hr h => ?_)
  · obtain ⟨⟨x, dx, us, rfl, hl, _⟩⟩ := h
    exact congrArg (· + 1) hl
  · obtain ⟨⟨x, dx, us, rfl, hl, hx, k⟩⟩ := h
    match us, hl with
    | [u1, u2], _ =>
      refine ⟨_, (pss_cons (ps_fld (pv 0) (pv 1) rfl)
      (pss_one (ps_fld (pv 0) (pv 2) rfl))), ?_⟩
      refine ⟨_, rfl, _, rfl, x, _, dx, _, rfl, hx, T.cl_Plan, T.n_Plan_shelf, by decide, ?_⟩
      refine ⟨_, rfl, _, rfl, x, _, dx, _, rfl, upd_same, T.cl_Plan, T.n_Plan_robots, lf1, ?_⟩
      rw [upd_upd]
      have e : putF "robots" u2 (putF "shelf" u1 []) = (["shelf", "robots"] : List Str).zip [u1, u2] := by
        show putF "robots" u2 [("shelf", u1)] = _
        rw [putF_new (fs := [("shelf", u1)]) (show ("robots" : Str) ∉ (["shelf"] : List Str) by decide +kernel)]
        rfl
      rw [e]
      exact k
theorem ok_Parser_parse_robot (T : Txt K mg a) : FnOk P w K mg base CX0 4 a.f_Parser_parse_robot a.d_Parser_parse_robot ["self", "cells", "others"] (spPRobot a K) := by
  refine T.F_Parser_parse_robot.ok sc_Parser_parse_robot (fun vs H Q E h => ?_) (fun cdv A outer s0 H vs Q E hr h => ?_)
  · obtain ⟨⟨p, ot, G, pos, toks, cells, st, os, ls, ss, rest, rfl, _⟩⟩ := h
    rfl
  · obtain ⟨⟨p, ot, G, pos, toks, cells, st, os, ls, ss, rest, rfl, hs, hP, hot, hd, hst, hc, hos, ok, k⟩⟩ := h
    refine ⟨_, (pss_cons (ps_expr (pe_meth (pv 0) T.cl_Parser T.M_Parser_take_word (ok_Parser_take_word T) (hr.mono (by decide)) (b_Parser_take_word T) .nil pass0 (pa_cons pe_str pa_nil)))
      (pss_cons (ps_set (i := 3) sc_Parser_parse_robot.nd rfl (Or.inl rfl) (pe_meth (pv 0) T.cl_Parser T.M_Parser_take (ok_Parser_take T) (hr.mono (by decide)) (b_Parser_take T) .nil pass0 (pa_cons (pe_glob (v := V.str (Str.ofString "number")) rfl T.c_NUMBER ⟨_, rfl⟩) pa_nil)))
      (pss_cons (ps_if (pt_cmpR op_ge (pe_callTy call_int_str (by rfl) T.z_int (by decide +kernel) (pa_cons (pe_fld (pv 3) rfl) pa_nil)) (pv 1) (nomark _)) pss_never (pss_one (ps_if (pt_cmpR op_in_seq (pe_callTy call_int_str (by rfl) T.z_int (by decide +kernel) (pa_cons (pe_fld (pv 3) rfl) pa_nil)) (pv 2) rfl) pss_never pss_nil)))
      (pss_cons (ps_expr (pe_meth (pv 0) T.cl_Parser T.M_Parser_take_word (ok_Parser_take_word T) (hr.mono (by decide)) (b_Parser_take_word T) .nil pass0 (pa_cons pe_str pa_nil)))
      (pss_cons (ps_par3 (i := 4) (j := 5) (l := 6) (by rfl) sc_Parser_parse_robot.nd rfl rfl rfl (by decide) (by decide) (by decide) rfl rfl rfl (pa_cons (pe_lst pa_nil) (pa_cons (pe_lst pa_nil) (pa_cons (pe_lst pa_nil) pa_nil))) (by rfl))
      (pss_cons (ps_while PassesOwn.never (PW.pt (pw_or (pt_cmpR op_ne (pe_fld (pe_meth0 (pv 0) T.cl_Parser T.M_Parser_peek (ok_Parser_peek T) (hr.mono (by decide)) (b_Parser_peek T) .nil pass0) rfl) pe_str (nomark _)) (pw_or1 (pt_cmpR (op_eqD hr.units) (pv 4) (pe_lst pa_nil) (nomark _))))) (pss_cons (ps_if (pt_cmpR op_eq (pe_callB call_len_seq (by rfl) T.z_len (by decide +kernel) (pa_cons (pv 4) pa_nil)) (pe_glob (v := V.int 20) rfl T.c_MAX_STEPS ⟨_, rfl⟩) (nomark _)) pss_never pss_nil)
      (pss_one (ps_expr (pe_bm PySem.F.plainAttrs_list PySem.F.slot_list_append PySem.F.type_list_append mt_append (pv 4) (pa_cons (pe_meth (pv 0) T.cl_Parser T.M_Parser_parse_step (ok_Parser_parse_step T) (hr.mono (by decide)) (b_Parser_parse_step T) .nil pass0 (pa_cons (pv 5) (pa_cons (pv 6) pa_nil))) pa_nil))))))
      (pss_cons (ps_expr (pe_meth (pv 0) T.cl_Parser T.M_Parser_take_word (ok_Parser_take_word T) (hr.mono (by decide)) (b_Parser_take_word T) .nil pass0 (pa_cons pe_str pa_nil)))
      (pss_cons (ps_set (i := 7) sc_Parser_parse_robot.nd rfl (Or.inl rfl) (pe_lst pa_nil))
      (pss_cons (ps_for PassesOwn.never rfl (pi_zip (by rfl) T.z_zip (pa_cons (pv 4) (pa_cons (pv 6) pa_nil))) (pg_tup (by rfl) (pgs_cons (pg_name (i := 8) sc_Parser_parse_robot.nd rfl (Or.inl rfl)) (pgs_cons (pg_name (i := 9) sc_Parser_parse_robot.nd rfl (Or.inl rfl)) pgs_nil))) (pss_cons (ps_if (PW.pt (pw_and (pt_cmpR op_notN (pv 9) pe_non (nomark _)) (pw_and1 (pt_cmpR op_notIn_seq (pe_fld (pv 9) rfl) (pv 5) rfl)))) pss_never pss_nil)
      (pss_one (ps_expr (pe_bm PySem.F.plainAttrs_list PySem.F.slot_list_append PySem.F.type_list_append mt_append (pv 7) (pa_cons (pe_tup (pa_cons (pv 8) (pa_cons (pe_ifExp (PW.pt (pw_and (pt_cmpR op_notN (pv 9) pe_non (nomark _)) (pw_and1 (pt_cmpR op_in_seq (pe_fld (pv 9) rfl) (pv 5) rfl)))) (pe_bm PySem.F.plainAttrs_list PySem.F.slot_list_index PySem.F.type_list_index mt_index (pv 5) (pa_cons (pe_fld (pv 9) rfl) pa_nil)) pe_non) pa_nil))) pa_nil))))))
      (pss_one (ps_ret (pe_make T.mk_Robot (ok_Robot_init T) (hr.mono (by decide)) (by rfl) T.m_Robot (b_Robot_init T) .nil pass0 (pa_cons (pe_callTy call_int_str (by rfl) T.z_int (by decide +kernel) (pa_cons (pe_fld (pv 3) rfl) pa_nil)) (pa_cons (pv 7) (pa_cons (pv 5) pa_nil))))))))))))))), ?_⟩
    have M0 : Mv [p] G H G H := Mv.start hs
    obtain ⟨dx, ta, fl, h1⟩ := hP.some
    have d0 : toks.drop pos = kwT "robot" :: (numT st :: (sgT 123 :: (ls.flatMap stepT ++ (sgT 125 :: rest)))) := by rw [hd]; unfold robotT; simp
    obtain ⟨t0, d1⟩ := drop_at d0
    obtain ⟨t1, d2⟩ := drop_at d1
    obtain ⟨t2, d3⟩ := drop_at d2
    refine ⟨_, rfl, p, dx, _, rfl, h1, (by kernel_rfl), take_go (tk := kwT "robot") (mkS_tl _).symm M0 (.inl (by simp)) hP t0 fun H1 v1 M1 _ P1 _ => ?_⟩
    obtain ⟨dx1, ta1, fl1, h11⟩ := P1.some
    refine ⟨_, rfl, p, dx1, _, rfl, h11, (by kernel_rfl), take_go (tk := numT st) rfl M1 (.inl (by simp)) P1 t1 fun H2 v2 M2 _ P2 hv2 => ?_⟩
    obtain ⟨q2, dq2, lq2, cq2, rfl, hq2⟩ := hv2
    have io := int_of (n := st) (by omega)
    have nlen := numT_len (n := st) (by omega)
    refine ⟨_, rfl, q2, _, dq2, _, .str (mkS (numL st)), rfl, M2.s _ _ hq2, T.cl_Token, T.n_Token_text, (by kernel_rfl), _, (st : Int), rfl, io, nlen, _, rfl, _, _, rfl, rfl, _, rfl, ite_f (decide_eq_false (by omega)) ?_⟩
    refine ⟨_, rfl, q2, _, dq2, _, .str (mkS (numL st)), rfl, M2.s _ _ hq2, T.cl_Token, T.n_Token_text, (by kernel_rfl), _, (st : Int), rfl, io, nlen, _, rfl, ot, _, rfl, .inr (Same.seqT M2.s hot), rfl, nats_flat os, _, rfl, ite_f (by rw [if_neg Bool.false_ne_true, in_nats]; exact decide_eq_false hos) ?_⟩
    obtain ⟨dx2, ta2, fl2, h12⟩ := P2.some
    refine ⟨_, rfl, p, dx2, _, rfl, h12, (by kernel_rfl), take_go (tk := sgT 123) (mkS_of (show tl (Str.ofString "{") = [123] by decide +kernel)) M2 (.inl (by simp)) P2 t2 fun H3 v3 M3 _ P3 _ => ?_⟩
    -- words, names, jumps
    refine ⟨Nat.zero_le _, fun wl hw => ⟨Nat.zero_le _, fun nl hn => ⟨Nat.zero_le _, fun jl hj => ⟨_, _, _, rfl, ?_⟩⟩⟩⟩
    have M4 := ((M3.lay hw (.lst [])).lay hn (.lst [])).lay hj (.lst [])
    have P4 := ((P3.lay (o := .lst []) hw).lay (o := .lst []) hn).lay (o := .lst []) hj
    have wn : wl ≠ nl := ne_of_none upd_same hn
    have nj : nl ≠ jl := ne_of_none upd_same hj
    have wj : wl ≠ jl := ne_of_none (by rw [upd_ne wn, upd_same]) hj
    have w0 : H wl = none := M3.free hw
    have n0 : H nl = none := (M3.lay hw (.lst [])).free hn
    have j0 : H jl = none := ((M3.lay hw (.lst [])).lay hn (.lst [])).free hj
    have wG : G wl = none := M3.freeG hw
    have nG : G nl = none := (M3.lay hw (.lst [])).freeG hn
    have jG : G jl = none := ((M3.lay hw (.lst [])).lay hn (.lst [])).freeG hj
    have pw : p ≠ wl := fun e => by rw [← e, h1] at w0; cases w0
    have pn : p ≠ nl := fun e => by rw [← e, h1] at n0; cases n0
    have pj : p ≠ jl := fun e => by rw [← e, h1] at j0; cases j0
    have hw4 : (upd (upd (upd H3 wl (.lst [])) nl (.lst [])) jl (.lst [])) wl = some (.lst []) := by rw [upd_ne wj, upd_ne wn, upd_same]
    have hn4 : (upd (upd (upd H3 wl (.lst [])) nl (.lst [])) jl (.lst [])) nl = some (.lst []) := by rw [upd_ne nj, upd_same]
    have hj4 : (upd (upd (upd H3 wl (.lst [])) nl (.lst [])) jl (.lst [])) jl = some (.lst []) := upd_same
    revert M4 P4 hw4 hn4 hj4
    generalize upd (upd (upd H3 wl (.lst [])) nl (.lst [])) jl (.lst []) = H4
    intro M4 P4 hw4 hn4 hj4
    dsimp only
    -- the steps read
    obtain ⟨Iv, hIv⟩ : ∃ Iv : Nat → L2.St → Hp → Prop, Iv = fun j σ H' => ∃ (js : List V), σ = [some (.ref p), some (.int cells), some (.ref ot), some (.ref q2), some (.ref wl), some (.ref nl), some (.ref jl), none, none, none] ∧ j ≤ ls.length ∧ Mv [p] G H G H' ∧
      ParAt a G H' p (pos + 1 + 1 + 1 + ((ls.take j).flatMap stepT).length) toks ∧ H' wl = some (.lst (((ls.take j).map fun s => wS s.w).map V.str)) ∧ H' nl = some (.lst ((labsOf (ls.take j)).map labV)) ∧ H' jl = some (.lst js) ∧ Paired (JmpAt a G) js ((ls.take j).map LStep.tgt) := ⟨_, rfl⟩
    have d4 : ∀ j, j ≤ ls.length → toks.drop (pos + 1 + 1 + 1 + ((ls.take j).flatMap stepT).length) = (ls.drop j).flatMap stepT ++ (sgT 125 :: rest) := fun j hj => by
      rw [← List.drop_drop, d3]
      have e : ls.flatMap stepT = (ls.take j).flatMap stepT ++ (ls.drop j).flatMap stepT := by rw [← List.flatMap_append, List.take_append_drop]
      rw [e, List.append_assoc, List.drop_left]
    refine seq_restσ (fun σ H' => Iv ls.length σ H') (fun σ H' hI => ?r) (fun rest1 => ?m)
    case m =>
      refine ⟨fun m σ H' => ∃ j, m = ls.length - j ∧ Iv j σ H', ⟨_, 0, rfl, ?_⟩, ?_⟩
      · rw [hIv]
        exact ⟨[], rfl, Nat.zero_le _, M4, P4, hw4, hn4, hj4, .nil⟩
      · rintro m σ H' ⟨j, rfl, hI⟩
        have hI0 := hI
        rw [hIv] at hI
        obtain ⟨js, rfl, jn, M, PP, hwv, hnv, hjv, hjs⟩ := hI
        obtain ⟨dx5, ta5, fl5, h5⟩ := PP.some
        have jsl : js.length = j := by rw [Paired.len hjs, List.length_map, List.length_take]; omega
        by_cases hjl : j < ls.length
        · obtain ⟨s, hs5⟩ : ∃ s, ls[j]? = some s := ⟨_, List.getElem?_eq_getElem hjl⟩
          have oks : s.Ok := ok.all s (List.mem_of_getElem? hs5)
          have d5 : toks.drop (pos + 1 + 1 + 1 + ((ls.take j).flatMap stepT).length) = stepT s ++ ((ls.drop (j + 1)).flatMap stepT ++ (sgT 125 :: rest)) := by
            rw [d4 j jn]
            have h2 := List.drop_eq_getElem_cons hjl
            have h3 : ls[j] = s := (List.getElem?_eq_some_iff.mp hs5).2
            rw [h3] at h2
            rw [h2, List.flatMap_cons, List.append_assoc]
          obtain ⟨tk, r', e5, ne5⟩ := step_head oks ((ls.drop (j + 1)).flatMap stepT ++ (sgT 125 :: rest))
          have a5 := (drop_at (d5.trans e5)).1
          refine ⟨_, rfl, p, dx5, _, rfl, h5, (by kernel_rfl), peek_go M.s PP a5 fun v hv => ?_⟩
          obtain ⟨q, dq, lq, cq, rfl, hq⟩ := id hv
          refine ⟨q, _, dq, _, .str (mkS tk.t), rfl, M.s _ _ hq, T.cl_Token, T.n_Token_text, (by kernel_rfl), rfl, _, rfl, ite_t ?_ (ite_t rfl ?_)⟩
          · have : ¬ V.str (mkS tk.t) = V.str (Str.ofString "}") := fun z => by
              injection z with z
              have := congrArg tl z
              rw [tl_mkS, t_cb] at this
              exact ne5 this
            rw [decide_eq_false this]; rfl
          refine ⟨fun σ' H' => Iv (j + 1) σ' H', fun σ' H' hn => ⟨_, by omega, j + 1, rfl, hn⟩, ?_⟩
          have lle := ok.le
          refine ⟨_, rfl, wl, _, rfl, .inl (SqL.of hwv), rfl, _, rfl, ite_f (vint_ne (by rw [List.length_map, List.length_map, List.length_take]; omega)) ?_⟩
          refine ⟨_, rfl, .inl ⟨rfl, _, SqL.of hwv⟩, _, rfl, p, dx5, _, rfl, h5, (by kernel_rfl), _, rfl, _, rfl, ?_⟩
          refine ⟨⟨p, nl, jl, G, _, toks, s, _, labsOf (ls.take j), js, rfl, M.s, PP, nG, jG, nj, hnv, hjv, d5, oks, fun t ht => ok.dup j s t hs5 ht, ?_, by omega, fun H6 jv m6 P6 hn6 hj6 hjt => ?_⟩⟩
          · unfold labsOf; rw [List.length_map, List.length_take]; omega
          have hw6 : H6 wl = some (.lst (((ls.take j).map fun s => wS s.w).map V.str)) := m6.kept hwv (by simp [pw.symm, wn, wj])
          have M6 : Mv [p] G H G H6 := ⟨M.ext.trans m6.ext, fun c o e => by
            have e1 := M.sm c o e
            obtain ⟨h1', h2'⟩ := wos_some e
            refine m6.sm c o ?_
            rw [wos_out]
            · exact e1
            · intro hc'
              rcases List.mem_cons.mp hc' with rfl | hc'
              · exact h1' (by simp)
              rcases List.mem_cons.mp hc' with rfl | hc'
              · rw [n0] at h2'; cases h2'
              rcases List.mem_cons.mp hc' with rfl | hc'
              · rw [j0] at h2'; cases h2'
              · cases hc'⟩
          refine ⟨wl, _, _, rfl, rfl, hw6, smaller 20 (by rw [List.length_map, List.length_map, List.length_take]; omega) (by decide), ?_⟩
          rw [hIv]
          refine ⟨js ++ [jv], rfl, by omega, M6.put (.inr w0) wG _, ?_, ?_, ?_, ?_, ?_⟩
          · rw [flat_more hs5, List.length_append, ← Nat.add_assoc]
            exact P6.put pw
          · rw [upd_same, take_more hs5, List.map_append, List.map_append]; rfl
          · rw [upd_ne wn.symm, hn6]
            simp only [labsOf, take_more hs5, List.map_append]
            rfl
          · rw [upd_ne wj.symm]; exact hj6
          · rw [take_more hs5, List.map_append]
            exact Paired.snoc hjs hjt
        · have ej : j = ls.length := by omega
          subst ej
          have d6 := d4 ls.length (Nat.le_refl _)
          rw [List.drop_length] at d6
          have a6 := (drop_at (show _ = sgT 125 :: rest from d6)).1
          refine ⟨_, rfl, p, dx5, _, rfl, h5, (by kernel_rfl), peek_go M.s PP a6 fun v hv => ?_⟩
          obtain ⟨q, dq, lq, cq, rfl, hq⟩ := id hv
          refine ⟨q, _, dq, _, .str (mkS [125]), rfl, M.s _ _ hq, T.cl_Token, T.n_Token_text, (by kernel_rfl), rfl, _, rfl, ite_f (by decide +kernel) ?_⟩
          refine ⟨_, rfl, Nat.zero_le _, fun e1 he1 => ?_⟩
          have hw7 : (upd H' e1 (.lst [])) wl = some (.lst (((ls.take ls.length).map fun s => wS s.w).map V.str)) := by rw [upd_ne (ne_of_none hwv he1)]; exact hwv
          have shp := shaped_of (ds := ((ls.take ls.length).map fun s => wS s.w).map PyData.str) (fun d hd => by
            obtain ⟨x, hx, rfl⟩ := List.mem_map.mp hd
            obtain ⟨y, hy, rfl⟩ := List.mem_map.mp hx
            exact str_lay (wS_ok (ok.all y (List.mem_of_mem_take hy)).w8))
          refine ⟨.list (((ls.take ls.length).map fun s => wS s.w).map PyData.str), .list [], .lst (SqL.of hw7) (DpAll.strs _), .lst (SqL.of upd_same) .nil, shp.1, by decide, _, rfl, ite_f ?_ ?_⟩
          · have hp := ok.pos
            cases els : ls with
            | nil => rw [els] at hp; exact absurd hp (by decide)
            | cons x y => rfl
          refine rest1 _ _ ?_
          rw [hIv]
          exact ⟨js, rfl, Nat.le_refl _, M.lay he1 _, PP.lay he1, hw7, by rw [upd_ne (ne_of_none hnv he1)]; exact hnv, by rw [upd_ne (ne_of_none hjv he1)]; exact hjv, hjs⟩
    rw [hIv] at hI
    obtain ⟨js, rfl, _, M, PP, hwv, hnv, hjv, hjs⟩ := hI
    have d6 := d4 ls.length (Nat.le_refl _)
    rw [List.drop_length] at d6
    have a6 := (drop_at (show _ = sgT 125 :: rest from d6)).1
    rw [List.take_length] at PP hwv hnv hjs a6
    have lle := ok.le
    have jsl : js.length = ls.length := by rw [Paired.len hjs, List.length_map]
    have ssl : ss.length = ls.length := (Paired.len ok.res).symm
    obtain ⟨dx7, ta7, fl7, h7⟩ := PP.some
    refine ⟨_, rfl, p, dx7, _, rfl, h7, (by kernel_rfl), take_go (tk := sgT 125) (mkS_of t_cb) M (.inl (by simp)) PP a6 fun H8 v8 M8 m8 P8 _ => ?_⟩
    have hw8 := m8.kept hwv (by simp [pw.symm])
    have hn8 := m8.kept hnv (by simp [pn.symm])
    have hj8 := m8.kept hjv (by simp [pj.symm])
    refine ⟨Nat.zero_le _, fun sl hsl => ?_⟩
    have M9 := M8.lay hsl (.lst [])
    have P9 := P8.lay (o := .lst []) hsl
    have s0' : H sl = none := M8.free hsl
    have sG : G sl = none := M8.freeG hsl
    have ps : p ≠ sl := fun e => by rw [← e, h1] at s0'; cases s0'
    have sw : wl ≠ sl := ne_of_none hw8 hsl
    have sn : nl ≠ sl := ne_of_none hn8 hsl
    have sj : jl ≠ sl := ne_of_none hj8 hsl
    have hw9 : (upd H8 sl (.lst [])) wl = some (.lst ((ls.map fun s => wS s.w).map V.str)) := by rw [upd_ne sw]; exact hw8
    have hn9 : (upd H8 sl (.lst [])) nl = some (.lst ((labsOf ls).map labV)) := by rw [upd_ne sn]; exact hn8
    have hj9 : (upd H8 sl (.lst [])) jl = some (.lst js) := by rw [upd_ne sj]; exact hj8
    refine ⟨_, rfl, _, rfl, wl, jl, _, _, rfl, SqL.of hw9, SqL.of hj9, for_it (walk_zip (K := K) (a := wl) (b := jl) (xs := (ls.map fun s => wS s.w).map V.str) (ys := js) (n := ls.length) (by rw [List.length_map, List.length_map, jsl]; simp))
      (fun i σ H' => ∃ (G' : Hp) (xs : List V) (v8 v9 : Option V), σ = [some (.ref p), some (.int cells), some (.ref ot), some (.ref q2), some (.ref wl), some (.ref nl), some (.ref jl), some (.ref sl), v8, v9] ∧ Mv [p] G H G' H' ∧ ParAt a G' H' p (pos + 1 + 1 + 1 + (ls.flatMap stepT).length + 1) toks ∧
        H' wl = some (.lst ((ls.map fun s => wS s.w).map V.str)) ∧ H' nl = some (.lst ((labsOf ls).map labV)) ∧ H' jl = some (.lst js) ∧ G' sl = none ∧ H' sl = some (.lst xs) ∧ DpAll K G' xs ((ss.take i).map Step.D)) ?_ ?_ ?_ ?_⟩
    · exact ⟨G, [], none, none, rfl, M9, P9, hw9, hn9, hj9, sG, upd_same, .nil⟩
    · rintro i σ H' _ ⟨G', xs, v8, v9, rfl, _, _, hw', _, hj', _⟩
      exact ⟨SqL.of hw', SqL.of hj'⟩
    · rintro i y σ H10 H11 hi ⟨G', xs, v8', v9', rfl, M10, P10, hw10, hn10, hj10, sG10, hs10, hD10⟩ ⟨T', x, z, rfl, hT', rfl, hx, hz⟩
      have hx : ((ls.map fun s => wS s.w).map V.str)[i]? = some x := hx
      have hz : js[i]? = some z := hz
      obtain ⟨s, hsi⟩ : ∃ s, ls[i]? = some s := ⟨_, List.getElem?_eq_getElem hi⟩
      have ex : x = .str (wS s.w) := by
        rw [List.getElem?_map, List.getElem?_map, hsi] at hx
        exact (Option.some.inj hx).symm
      subst ex
      obtain ⟨r, hri, hres⟩ := paired_get ok.res hsi
      obtain ⟨tg, htg, hjt⟩ := paired_get hjs hz
      have etg : tg = s.tgt := by
        rw [List.getElem?_map, hsi] at htg
        exact (Option.some.inj htg).symm
      subst etg
      have xsl : xs.length ≤ 20 := by rw [DpAll.len hD10, List.length_map, List.length_take]; omega
      have M11 := M10.lay hT' (.tup [.str (wS s.w), z])
      have P11 := P10.lay (o := .tup [.str (wS s.w), z]) hT'
      have hw11 : (upd H10 T' (.tup [.str (wS s.w), z])) wl = _ := (upd_ne (ne_of_none hw10 hT')).trans hw10
      have hn11 : (upd H10 T' (.tup [.str (wS s.w), z])) nl = _ := (upd_ne (ne_of_none hn10 hT')).trans hn10
      have hj11 : (upd H10 T' (.tup [.str (wS s.w), z])) jl = _ := (upd_ne (ne_of_none hj10 hT')).trans hj10
      have hs11 : (upd H10 T' (.tup [.str (wS s.w), z])) sl = _ := (upd_ne (ne_of_none hs10 hT')).trans hs10
      refine ⟨T', _, rfl, SqT.of upd_same, rfl, _, _, rfl, _, _, rfl, rfl, ?_⟩
      revert M11 P11 hw11 hn11 hj11 hs11
      generalize upd H10 T' (.tup [.str (wS s.w), z]) = H11
      intro M11 P11 hw11 hn11 hj11 hs11
      -- the step appended
      have fin : ∀ (gv : V), (∀ G, Dp K G gv (optD r.g)) → (2 ≤ sizeLine ∧ ∀ t, H11 t = none → ∃ l' ys y, (V.ref sl) = .ref l' ∧ [V.ref t] = [y] ∧ (upd H11 t (.tup [.str (wS s.w), gv])) l' = some (.lst ys) ∧ ys.length < sizeLine ∧
          (∃ (G' : Hp) (xs : List V) (v8 v9 : Option V), [some (V.ref p), some (.int cells), some (.ref ot), some (.ref q2), some (.ref wl), some (.ref nl), some (.ref jl), some (.ref sl), some (.str (wS s.w)), some z] = [some (.ref p), some (.int cells), some (.ref ot), some (.ref q2), some (.ref wl), some (.ref nl), some (.ref jl), some (.ref sl), v8, v9] ∧ Mv [p] G H G' (upd (upd H11 t (.tup [.str (wS s.w), gv])) l' (.lst (ys ++ [y]))) ∧ ParAt a G' (upd (upd H11 t (.tup [.str (wS s.w), gv])) l' (.lst (ys ++ [y]))) p (pos + 1 + 1 + 1 + (ls.flatMap stepT).length + 1) toks ∧
            (upd (upd H11 t (.tup [.str (wS s.w), gv])) l' (.lst (ys ++ [y]))) wl = some (.lst ((ls.map fun s => wS s.w).map V.str)) ∧ (upd (upd H11 t (.tup [.str (wS s.w), gv])) l' (.lst (ys ++ [y]))) nl = some (.lst ((labsOf ls).map labV)) ∧ (upd (upd H11 t (.tup [.str (wS s.w), gv])) l' (.lst (ys ++ [y]))) jl = some (.lst js) ∧ G' sl = none ∧ (upd (upd H11 t (.tup [.str (wS s.w), gv])) l' (.lst (ys ++ [y]))) sl = some (.lst xs) ∧ DpAll K G' xs ((ss.take (i + 1)).map Step.D))) := by
        intro gv hgv
        refine ⟨by decide, fun t ht => ?_⟩
        have st' : sl ≠ t := ne_of_none hs11 ht
        have M12 := M11.new ht (.tup [.str (wS s.w), gv])
        have P12 := P11.new (o := .tup [.str (wS s.w), gv]) M11.s ht
        have sG12 : upd G' t (.tup [.str (wS s.w), gv]) sl = none := by rw [upd_ne st']; exact sG10
        have nGt := same_new (H := G') (p := t) (o := .tup [.str (wS s.w), gv]) (M11.freeG ht)
        refine ⟨sl, xs, _, rfl, rfl, by rw [upd_ne st']; exact hs11, smaller 20 xsl (by decide), _, xs ++ [.ref t], _, _, rfl, M12.put (.inr s0') sG12 _, P12.put ps, ?_, ?_, ?_, sG12, upd_same, ?_⟩
        · rw [upd_ne sw, upd_ne (ne_of_none hw11 ht)]; exact hw11
        · rw [upd_ne sn, upd_ne (ne_of_none hn11 ht)]; exact hn11
        · rw [upd_ne sj, upd_ne (ne_of_none hj11 ht)]; exact hj11
        · rw [take_more hri, List.map_append]
          refine DpAll.snoc (Dp.monoAll nGt _ _ hD10) (.tup (SqT.of upd_same) (.cons ?_ (.cons (hgv _) .nil)))
          rw [hres.w]
          exact .str _
      cases htg' : s.tgt with
      | none =>
        rw [htg'] at hjt
        have hz' : z = .non := hjt
        subst hz'
        refine ⟨_, rfl, rfl, _, rfl, ite_f rfl (ite_f rfl ?_)⟩
        refine ⟨_, rfl, .inl ⟨rfl, _, SqL.of hs11⟩, _, rfl, _, rfl, rfl, _, rfl, ite_f rfl (ite_f rfl ?_)⟩
        exact fin .non (fun G => by rw [hres.no htg']; exact .non)
      | some t =>
        rw [htg'] at hjt
        obtain ⟨kk, hg, hlk, hfirst⟩ := hres.yes t htg'
        obtain ⟨q, dq, lq, cq, rfl, hq⟩ := id hjt
        have hmem : some t ∈ labsOf ls := List.mem_of_getElem? hlk
        have hqH : H11 q = some (.ins a.C_Token dq (tokF (nmT t) lq cq)) := M11.s _ _ (M10.g _ _ hq)
        refine ⟨_, rfl, rfl, _, rfl, ite_t rfl ?_⟩
        refine ⟨_, rfl, q, _, dq, _, .str (mkS t), rfl, hqH, T.cl_Token, T.n_Token_text, (by kernel_rfl), _, rfl, nl, _, rfl, .inl (SqL.of hn11), rfl, lab_flat _, _, rfl, ite_f (by rw [if_pos rfl, lab_in, decide_eq_true hmem]; rfl) ?_⟩
        refine ⟨_, rfl, .inl ⟨rfl, _, SqL.of hs11⟩, _, rfl, _, rfl, rfl, _, rfl, ite_t rfl ?_⟩
        refine ⟨_, rfl, q, _, dq, _, .str (mkS t), rfl, hqH, T.cl_Token, T.n_Token_text, (by kernel_rfl), _, rfl, nl, _, rfl, .inl (SqL.of hn11), rfl, lab_flat _, _, rfl, ite_t (by rw [if_neg Bool.false_ne_true, lab_in, decide_eq_true hmem]) ?_⟩
        refine ⟨_, rfl, .inl ⟨rfl, _, SqL.of hn11⟩, _, rfl, q, _, dq, _, .str (mkS t), rfl, hqH, T.cl_Token, T.n_Token_text, (by kernel_rfl), nl, _, .str (mkS t), kk, labV (some t), rfl, rfl, SqL.of hn11, rfl, lab_flat _, (by rw [List.getElem?_map, hlk]; rfl), (by rw [eqV_lab]; exact decide_eq_true rfl), (fun m z' hm hz' => ?_), ?_⟩
        · rw [List.getElem?_map] at hz'
          cases em : (labsOf ls)[m]? with
          | none => rw [em] at hz'; cases hz'
          | some lm =>
            rw [em] at hz'
            have : z' = labV lm := (Option.some.inj hz').symm
            rw [this, eqV_lab]
            exact decide_eq_false fun e => hfirst m hm (by rw [em, e])
        · exact fin (.int kk) (fun G => by rw [hg]; exact .int kk)
    · rintro σ H10 ⟨G', xs, v8', v9', rfl, M10, P10, hw10, hn10, hj10, sG10, hs10, hD10⟩
      have ess : ss.take ls.length = ss := by rw [← ssl]; exact List.take_length
      rw [ess] at hD10
      have hq10 : H10 q2 = some (.ins a.C_Token dq2 (tokF (numT st) lq2 cq2)) := M10.s _ _ (M10.g _ _ hq2)
      refine ⟨_, rfl, q2, _, dq2, _, .str (mkS (numL st)), rfl, hq10, T.cl_Token, T.n_Token_text, (by kernel_rfl), _, (st : Int), rfl, io, nlen, _, rfl, _, rfl, fun x dx' nx nd ne => init_go2 rfl ⟨rfl, ?_⟩⟩
      have M11 := (M10.freeze s0' hs10).freeze n0 hn10
      have M12 := M11.make nx nd ne (.ins a.C_Robot dx' (robF st sl nl))
      have g1 : Same G' (upd G' sl (.lst xs)) := same_new sG10
      have M10' := M10.freeze s0' hs10
      have g2 := same_frz M10'.s hn10
      have g3 := same_make (M11.freeG nx) (M11.freeG nd) ne (.ins a.C_Robot dx' (robF st sl nl))
      have px : p ≠ x := by obtain ⟨_, _, _, h⟩ := P10.some; exact ne_of_none h nx
      have pdx : p ≠ dx' := by obtain ⟨_, _, _, h⟩ := P10.some; exact ne_of_none h nd
      refine k _ _ _ M12 ?_ ⟨x, dx', sl, nl, rfl, upd_same, .lst (SqL.of ?_) (Dp.monoAll ((g1.trans g2).trans g3) _ _ hD10)⟩
      · have el : pos + 1 + 1 + 1 + (ls.flatMap stepT).length + 1 = pos + (robotT st ls).length := by
          unfold robotT
          simp only [List.length_append, List.length_cons, List.length_nil]
          omega
        rw [el] at P10
        refine P10.grow ((g1.trans g2).trans g3) (fun o e => by rw [upd_ne px, upd_ne pdx]; exact e) ?_
        rw [upd_ne px, upd_ne pdx, upd_ne pn, upd_ne ps]
        exact P10.out
      · exact (g2.trans g3) _ _ upd_same
end
end Sb

namespace Sb
open PySem PySem.Spec PyProof.Rows L2 TL
def planF (sh rl : Addr) : List (Str × V) := [("shelf", .ref sh), ("robots", .ref rl)]
def PlanAt (a : Ad) (K : PySem.W.Frag) (G : Hp) (v : V) (x : Pl) : Prop := ∃ (r dx sh rl : Addr) (r1 r2 : V), v = .ref r ∧ G r = some (.ins a.C_Plan dx (planF sh rl)) ∧ SqT K G sh (x.shelf.map fun n : Nat => V.int n) ∧ SqL K G rl [r1, r2] ∧ RobAt a K G r1 x.a x.p ∧ RobAt a K G r2 x.b x.q
theorem PlanAt.mono {a : Ad} {K : PySem.W.Frag} {G G' : Hp} {v : V} {x : Pl} (s : Same G G') (h : PlanAt a K G v x) : PlanAt a K G' v x := by
  obtain ⟨r, dx, sh, rl, r1, r2, e, h1, h2, h3, h4, h5⟩ := h
  exact ⟨r, dx, sh, rl, r1, r2, e, s _ _ h1, Same.seqT s h2, s.seq h3, h4.mono s, h5.mono s⟩
def planT (x : Pl) (l1 l2 : List LStep) : List Tk := kwT "shelf" :: (x.shelf.map numT ++ (sgT 59 :: (robotT x.a l1 ++ robotT x.b l2)))
/-- a text whose tokens are those of the plan x -/
structure Loads (src : Str) (x : Pl) : Prop where
  ex : ∃ (l1 l2 : List LStep) (rows : List (List Nat)) (tss : List (List Tk)), tl src = joinL [10] rows ∧ rows ≠ [] ∧ (∀ r ∈ rows, 10 ∉ r) ∧ (∀ r ∈ rows, r.length ≤ 3000) ∧ (tl src).length ≤ 3000000 ∧ Paired Lx rows tss ∧ tss.flatten = planT x l1 l2 ∧ LOk l1 x.p ∧ LOk l2 x.q
structure spParInit (C : Addr) (vs : List V) (H : Hp) (Q : VK) (E : XK) : Prop where
  ex : ∃ (x dx tk : Addr), vs = [.ref x, .ref tk] ∧ H x = some (.ins C dx []) ∧ ∀ fl, H fl = none → Q .non (upd (upd H fl (.lst [])) x (.ins C dx (parF tk fl 0)))
structure spPPlan (a : Ad) (K : PySem.W.Frag) (vs : List V) (H : Hp) (Q : VK) (E : XK) : Prop where
  ex : ∃ (p : Addr) (G : Hp) (x : Pl) (l1 l2 : List LStep), vs = [.ref p] ∧ Same G H ∧ ParAt a G H p 0 (planT x l1 l2 ++ [⟨.fin, []⟩]) ∧ x.Ok ∧ LOk l1 x.p ∧ LOk l2 x.q ∧ ∀ G1 H1 v, Mv [p] G H G1 H1 → PlanAt a K G1 v x → Q v H1
structure spLoad (a : Ad) (K : PySem.W.Frag) (vs : List V) (H : Hp) (Q : VK) (E : XK) : Prop where
  ex : ∃ (src : Str) (G : Hp) (x : Pl), vs = [.str src] ∧ Loads src x ∧ x.Ok ∧ Pure G H Q (fun G' v => PlanAt a K G' v x)
theorem upd_swap {H : Hp} {x fl : Addr} {o1 o2 o3 : HO} (ne : fl ≠ x) : upd (upd (upd H x o1) fl o2) x o3 = upd (upd H fl o2) x o3 := by
  funext b
  unfold upd
  by_cases h : b = x
  · rw [if_pos h, if_pos h]
  · rw [if_neg h, if_neg h, if_neg h]
theorem stepT_len {s : LStep} : (stepT s).length ≤ 5 := by
  unfold stepT
  simp only [List.length_append, List.length_cons, List.length_nil]
  have h1 : (labT s.lab).length ≤ 2 := by cases s.lab <;> simp [labT]
  have h2 : (tgtT s.tgt).length ≤ 1 := by cases s.tgt <;> simp [tgtT]
  omega
theorem flat_stepT : ∀ l : List LStep, (l.flatMap stepT).length ≤ 5 * l.length
  | [] => by simp
  | s :: r => by
    have := flat_stepT r
    have h := stepT_len (s := s)
    rw [List.flatMap_cons, List.length_append, List.length_cons]
    omega
theorem planT_len {x : Pl} {l1 l2 : List LStep} (h : x.shelf.length ≤ 12) (h1 : l1.length ≤ 20) (h2 : l2.length ≤ 20) : (planT x l1 l2).length ≤ 1000 := by
  have a1 := flat_stepT l1
  have a2 := flat_stepT l2
  unfold planT robotT
  simp only [List.length_append, List.length_cons, List.length_nil, List.length_map]
  omega
section
variable {P : Program} {w : World} {K : PySem.W.Frag} {mg : Str → Option Value} {base : Heap} {a : Ad}
theorem ok_Parser_init (T : Txt K mg a) : FnOk P w K mg base CX0 1 a.f_Parser_init a.d_Parser_init ["self", "tokens"] (spParInit a.C_Parser) := by
  refine T.F_Parser_init.ok sc_Parser_init (fun vs H Q E h => ?_) (fun cdv A outer s H vs Q E hr h => ?_)
  · obtain ⟨⟨x, dx, tk, rfl, _⟩⟩ := h
    rfl
  · obtain ⟨⟨x, dx, tk, rfl, hx, k⟩⟩ := h
    refine ⟨_, (pss_cons (ps_fld (pv 0) (pv 1) rfl)
      (pss_cons (ps_fld (pv 0) pe_int rfl)
      (pss_one (ps_fld (pv 0) (pe_lst pa_nil) rfl)))), ?_⟩
    refine ⟨_, rfl, _, rfl, x, _, dx, _, rfl, hx, T.cl_Parser, T.n_Parser_tokens, by decide, ?_⟩
    refine ⟨_, rfl, x, _, dx, _, rfl, upd_same, T.cl_Parser, T.n_Parser_at, lf1, ?_⟩
    rw [upd_upd]
    refine ⟨Nat.zero_le _, fun fl hfl => ?_⟩
    have ne : fl ≠ x := fun e => by rw [e, upd_same] at hfl; cases hfl
    rw [upd_ne ne] at hfl
    refine ⟨_, rfl, x, _, dx, _, rfl, by rw [upd_ne ne.symm, upd_same], T.cl_Parser, T.n_Parser_faults, lf2, ?_⟩
    rw [upd_swap ne]
    have e : putF "faults" (V.ref fl) (putF "at" (V.int 0) (putF "tokens" (V.ref tk) [])) = parF tk fl 0 := by
      show putF "faults" (V.ref fl) (putF "at" (V.int 0) [("tokens", V.ref tk)]) = _
      rw [putF_new (fs := [("tokens", V.ref tk)]) (show ("at" : Str) ∉ (["tokens"] : List Str) by decide +kernel)]
      show putF "faults" (V.ref fl) [("tokens", V.ref tk), ("at", V.int 0)] = _
      rw [putF_new (fs := [("tokens", V.ref tk), ("at", V.int 0)]) (show ("faults" : Str) ∉ (["tokens", "at"] : List Str) by decide +kernel)]
      rfl
    rw [e]
    exact k fl hfl
theorem ok_Parser_parse_plan (T : Txt K mg a) : FnOk P w K mg base CX0 5 a.f_Parser_parse_plan a.d_Parser_parse_plan ["self"] (spPPlan a K) := by
  refine T.F_Parser_parse_plan.ok sc_Parser_parse_plan (fun vs H Q E h => ?_) (fun cdv A outer s H vs Q E hr h => ?_)
  · obtain ⟨⟨p, G, x, l1, l2, rfl, _⟩⟩ := h
    rfl
  · obtain ⟨⟨p, G, x, l1, l2, rfl, hs, hP, hx, o1, o2, k⟩⟩ := h
    refine ⟨_, (pss_cons (ps_set (i := 1) sc_Parser_parse_plan.nd rfl (Or.inl rfl) (pe_meth0 (pv 0) T.cl_Parser T.M_Parser_parse_shelf (ok_Parser_parse_shelf T) (hr.mono (by decide)) (b_Parser_parse_shelf T) .nil pass0))
      (pss_cons (ps_set (i := 2) sc_Parser_parse_plan.nd rfl (Or.inl rfl) (pe_meth (pv 0) T.cl_Parser T.M_Parser_parse_robot (ok_Parser_parse_robot T) (hr.mono (by decide)) (b_Parser_parse_robot T) .nil pass0 (pa_cons (pe_callB call_len_seq (by rfl) T.z_len (by decide +kernel) (pa_cons (pv 1) pa_nil)) (pa_cons (pe_tup pa_nil) pa_nil))))
      (pss_cons (ps_set (i := 3) sc_Parser_parse_plan.nd rfl (Or.inl rfl) (pe_meth (pv 0) T.cl_Parser T.M_Parser_parse_robot (ok_Parser_parse_robot T) (hr.mono (by decide)) (b_Parser_parse_robot T) .nil pass0 (pa_cons (pe_callB call_len_seq (by rfl) T.z_len (by decide +kernel) (pa_cons (pv 1) pa_nil)) (pa_cons (pe_tup (pa_cons (pe_fld (pv 2) rfl) pa_nil)) pa_nil))))
      (pss_cons (ps_if (pt_cmpR op_ne (pe_fld (pe_meth0 (pv 0) T.cl_Parser T.M_Parser_peek (ok_Parser_peek T) (hr.mono (by decide)) (b_Parser_peek T) .nil pass0) rfl) (pe_glob (v := V.str (Str.ofString "end")) rfl T.c_END ⟨_, rfl⟩) (nomark _)) pss_never pss_nil)
      (pss_cons (ps_if (pt_cmpR (op_neD hr.units) (pe_fld (pv 0) rfl) (pe_lst pa_nil) (nomark _)) pss_never pss_nil)
      (pss_one (ps_ret (pe_make T.mk_Plan (ok_Plan_init T) (hr.mono (by decide)) (by rfl) T.m_Plan (b_Plan_init T) .nil pass0 (pa_cons (pv 1) (pa_cons (pe_lst (pa_cons (pv 2) (pa_cons (pv 3) pa_nil))) pa_nil)))))))))), ?_⟩
    obtain ⟨dx, ta, fl, h1⟩ := hP.some
    have c12 := hx.c12
    have e0 : (planT x l1 l2 ++ [⟨.fin, []⟩] : List Tk).drop 0 = kwT "shelf" :: (x.shelf.map numT ++ (sgT 59 :: (robotT x.a l1 ++ (robotT x.b l2 ++ [⟨.fin, []⟩])))) := by unfold planT; simp
    refine ⟨_, rfl, p, dx, _, rfl, h1, (by kernel_rfl), ⟨⟨p, G, 0, _, x.shelf, _, rfl, hs, hP, e0, hx.c3, hx.c12, hx.b3, fun G1 H1 u M1 P1 hu => ?_⟩⟩⟩
    obtain ⟨dx1, ta1, fl1, h11⟩ := P1.some
    have d1 : (planT x l1 l2 ++ [⟨.fin, []⟩] : List Tk).drop (0 + x.shelf.length + 2) = robotT x.a l1 ++ (robotT x.b l2 ++ [⟨.fin, []⟩]) := by
      have e : (planT x l1 l2 ++ [⟨.fin, []⟩] : List Tk) = (kwT "shelf" :: (x.shelf.map numT ++ [sgT 59])) ++ (robotT x.a l1 ++ (robotT x.b l2 ++ [⟨.fin, []⟩])) := by unfold planT; simp
      have l : 0 + x.shelf.length + 2 = (kwT "shelf" :: (x.shelf.map numT ++ [sgT 59])).length := by simp
      rw [e, l, List.drop_left]
    refine ⟨_, rfl, p, dx1, _, rfl, h11, (by kernel_rfl), _, rfl, u, _, rfl, .inr (Same.seqT M1.s hu), (by show 0 ≤ sizeLine; decide), fun t0 ht0 => ?_⟩
    have M2 := M1.new ht0 (.tup [])
    have P2 := P1.new (o := .tup []) M1.s ht0
    have el : (x.shelf.map fun n : Nat => V.int n).length = x.shelf.length := List.length_map ..
    refine ⟨⟨p, t0, _, _, _, x.shelf.length, x.a, [], l1, x.p, _, by rw [el]; rfl, M2.s, P2, SqT.of upd_same, d1, hx.ha, by omega, by simp, o1, fun G3 H3 v3 m3 P3 hr3 => ?_⟩⟩
    have M3 := M2.trans m3
    have hu3 : SqT K G3 u _ := Same.seqT ((same_new (M1.freeG ht0)).trans m3.g) hu
    obtain ⟨r3, dr3, sl3, nl3, rfl, hr3', hD3⟩ := id hr3
    obtain ⟨dx3, ta3, fl3, h13⟩ := P3.some
    refine ⟨_, rfl, p, dx3, _, rfl, h13, (by kernel_rfl), _, rfl, u, _, rfl, .inr (Same.seqT M3.s hu3), _, rfl, r3, _, dr3, _, .int x.a, rfl, M3.s _ _ hr3', T.cl_Robot, T.n_Robot_start, (by kernel_rfl), (by show 1 ≤ sizeLine; decide), fun t1 ht1 => ?_⟩
    have M4 := M3.new ht1 (.tup [.int x.a])
    have P4 := P3.new (o := .tup [.int x.a]) M3.s ht1
    have d2 : (planT x l1 l2 ++ [⟨.fin, []⟩] : List Tk).drop (0 + x.shelf.length + 2 + (robotT x.a l1).length) = robotT x.b l2 ++ [⟨.fin, []⟩] := by
      rw [← List.drop_drop, d1, List.drop_left]
    refine ⟨⟨p, t1, _, _, _, x.shelf.length, x.b, [x.a], l2, x.q, _, by rw [el]; rfl, M4.s, P4, SqT.of upd_same, d2, hx.hb, by omega, by simp [hx.ne.symm], o2, fun G5 H5 v5 m5 P5 hr5 => ?_⟩⟩
    have M5 := M4.trans m5
    have g5 := (same_new (o := .tup [.int x.a]) (M3.freeG ht1)).trans m5.g
    have d3 : (planT x l1 l2 ++ [⟨.fin, []⟩] : List Tk).drop (0 + x.shelf.length + 2 + (robotT x.a l1).length + (robotT x.b l2).length) = [⟨.fin, []⟩] := by
      rw [← List.drop_drop, d2, List.drop_left]
    obtain ⟨dx5, ta5, fl5, vs5, h15, _, _, _, hf5⟩ := id P5
    -- END
    refine ⟨_, rfl, p, dx5, _, rfl, h15, (by kernel_rfl), peek_go M5.s P5 (drop_at d3).1 fun v hv => ?_⟩
    obtain ⟨q, dq, lq, cq, rfl, hq⟩ := id hv
    refine ⟨q, _, dq, _, .str (kS .fin), rfl, M5.s _ _ hq, T.cl_Token, T.n_Token_kind, (by kernel_rfl), rfl, _, rfl, ite_f (by decide +kernel) ?_⟩
    -- no faults
    refine ⟨_, rfl, p, _, dx5, _, .ref fl5, rfl, h15, T.cl_Parser, T.n_Parser_faults, (by kernel_rfl), Nat.zero_le _, fun e1 he1 => ?_⟩
    have M6 := M5.lay he1 (.lst [])
    refine ⟨.list [], .list [], .lst (SqL.of (M6.s _ _ hf5)) .nil, .lst (SqL.of upd_same) .nil, by decide, by decide, _, rfl, ite_f (by decide) ?_⟩
    refine ⟨_, rfl, _, rfl, _, rfl, (by show 2 ≤ sizeLine; decide), fun rl hrl => ?_⟩
    have M7 := M6.new hrl (.lst [.ref r3, v5])
    intro y dy ny nd ne
    refine init_go2 rfl ⟨rfl, ?_⟩
    have M8 := M7.make ny nd ne (.ins a.C_Plan dy (planF u rl))
    have g7 := same_new (o := .lst [.ref r3, v5]) (M6.freeG hrl)
    have g8 := same_make (M7.freeG ny) (M7.freeG nd) ne (.ins a.C_Plan dy (planF u rl))
    refine k _ _ _ M8 ⟨y, dy, u, rl, _, _, rfl, upd_same, Same.seqT ((g5.trans g7).trans g8) hu3, g8.seq (SqL.of upd_same), hr3.mono ((g5.trans g7).trans g8), hr5.mono (g7.trans g8)⟩
theorem ok_load (T : Txt K mg a) : FnOk P w K mg base CX0 6 a.f_load a.d_load ["plan"] (spLoad a K) := by
  refine T.F_load.ok sc_load (fun vs H Q E h => ?_) (fun cdv A outer s H vs Q E hr h => ?_)
  · obtain ⟨⟨src, G, x, rfl, _⟩⟩ := h
    rfl
  · obtain ⟨⟨src, G, x, rfl, ⟨⟨l1, l2, rows, tss, e1, e2, e3, e4, e5, e6, e7, o1, o2⟩⟩, hx, hGH, k⟩⟩ := h
    refine ⟨_, (pss_one (ps_ret (pe_meth0 (pe_make T.mk_Parser (ok_Parser_init T) (hr.mono (by decide)) (by rfl) T.m_Parser (b_Parser_init T) .nil pass0 (pa_cons (pe_call (ok_tokenize T) (hr.mono (by decide)) rfl T.m_tokenize T.F_tokenize.kp (b_tokenize T) .nil pass0 (pa_cons (pv 0) pa_nil)) pa_nil)) T.cl_Parser T.M_Parser_parse_plan (ok_Parser_parse_plan T) (hr.mono (by decide)) (b_Parser_parse_plan T) .nil pass0))), ?_⟩
    have hl : tss.flatten.length ≤ 100000 := by rw [e7]; have := planT_len (x := x) hx.c12 o1.le o2.le; omega
    refine ⟨_, rfl, ⟨⟨src, G, rows, tss, rfl, e1, e2, e3, e4, e5, e6, hl, hGH, fun G1 H1 v x1 s1 h1 => ?_⟩⟩⟩
    obtain ⟨tk, vs, rfl, htk, hts⟩ := h1
    intro y dy ny nd ne
    refine ⟨⟨y, dy, tk, rfl, upd_same, fun fl hfl => ⟨rfl, ?_⟩⟩⟩
    have B1 := (Pt.start hGH).call x1 s1
    have ydy : y ≠ dy := ne.symm
    have fy : fl ≠ y := fun e => by rw [e, upd_same] at hfl; cases hfl
    have hfl2 : (upd H1 dy (.own y)) fl = none := by rw [upd_ne fy] at hfl; exact hfl
    rw [upd_swap fy]
    have B2 := (B1.new nd (.own y)).new hfl2 (.lst [])
    have ny2 : (upd (upd H1 dy (.own y)) fl (.lst [])) y = none := by rw [upd_ne fy.symm, upd_ne ydy]; exact ny
    have B3 := B2.lay ny2 (.ins a.C_Parser dy (parF tk fl 0))
    have yG := B2.freeG ny2
    have gg := (same_new (o := .own y) (B1.freeG nd)).trans (same_new (o := .lst []) ((B1.new nd (.own y)).freeG hfl2))
    refine ⟨y, dy, _, rfl, upd_same, (by kernel_rfl), ?_⟩
    rw [e7] at hts
    refine ⟨⟨y, _, x, l1, l2, rfl, B3.s, ⟨dy, tk, fl, vs, upd_same, yG, gg _ _ htk, hts.mono gg, upd_same⟩, hx, o1, o2, fun G5 H5 v5 m5 hp5 => ?_⟩⟩
    have y0 : H y = none := B2.free ny2
    refine k _ _ _ (B3.ext.trans m5.ext) (fun b o e => ?_) hp5
    refine m5.sm b o ?_
    rw [wos_out (by intro hb; rw [List.mem_singleton.mp hb, y0] at e; cases e)]
    exact B3.sm b o e
end
end Sb

namespace Sb
open PySem PySem.Spec PyProof.Rows L2 TL
/-! ### the canonical text loads -/
theorem headNot_cons {S : List Nat} {c : Nat} {r : List Nat} (h : c ∉ S) : HeadNot S (c :: r) := fun d r' e => by injection e with e1 e2; rw [← e1]; exact h
theorem headNot_nil {S : List Nat} : HeadNot S [] := fun _ _ e => nomatch e
theorem no_let32 : 32 ∉ tl letS := by rw [mem_let]; omega
theorem no_let59 : 59 ∉ tl letS := by rw [mem_let]; omega
theorem no_let58 : 58 ∉ tl letS := by rw [mem_let]; omega
theorem no_dig32 : 32 ∉ tl digS := by rw [mem_dig]; omega
theorem no_dig59 : 59 ∉ tl digS := by rw [mem_dig]; omega
theorem kw_let : ∀ t ∈ kwL, ∀ c ∈ t, c ∈ tl letS := by decide +kernel
theorem kw_len : ∀ t ∈ kwL, 3 ≤ t.length := by decide +kernel
theorem lx_kw {s : Str} {r : List Nat} {ts : List Tk} (hs : s ∈ kwS) (hr : HeadNot (tl letS) r) (h : Lx r ts) : Lx (tl s ++ r) (kwT s :: ts) :=
  .tok (.kw (kw_let _ (mem_tl.mp hs)) (mem_tl.mp hs) hr) h
theorem lx_num {n : Nat} {r : List Nat} {ts : List Tk} (hn : n < 100) (hr : HeadNot (tl digS) r) (h : Lx r ts) : Lx (numL n ++ r) (numT n :: ts) := by
  refine .tok (.num (numL_ne n) (fun c hc => ?_) (num_len hn) (fun h1 => ?_) hr) h
  · by_cases h48 : 48 ≤ c ∧ c ≤ 57
    · exact mem_dig.mpr h48
    · exact absurd hc (numL_free (by omega))
  · by_cases h10 : n < 10
    · rw [numL_lt h10] at h1
      exact absurd h1 (by simp)
    · rw [numL_step (by omega), numL_lt (by omega)]
      show some (48 + n / 10) ≠ some 48
      intro e
      injection e with e
      omega
theorem lx_sg {c : Nat} {r : List Nat} {ts : List Tk} (hc : c ∈ tl sgnS) (h : Lx r ts) : Lx (c :: r) (sgT c :: ts) := .tok (.sign hc) h
theorem lx_nm {t r : List Nat} {ts : List Tk} (h1 : ∀ c ∈ t, c ∈ tl letS) (h2 : 1 ≤ t.length) (h3 : t.length ≤ 8) (h4 : t ∉ kwL) (hr : HeadNot (tl letS) r) (h : Lx r ts) : Lx (t ++ r) (nmT t :: ts) := .tok (.nm h1 h2 h3 h4 hr) h
theorem lx_lab {k : Nat} {r : List Nat} {ts : List Tk} (hk : k < 20) (hr : HeadNot (tl letS) r) (h : Lx r ts) : Lx (115 :: (97 + k) :: r) (nmT [115, 97 + k] :: ts) := by
  refine lx_nm (t := [115, 97 + k]) (fun c hc => ?_) (by decide +revert) (by decide +revert) (fun z => ?_) hr h
  · rcases List.mem_cons.mp hc with rfl | hc
    · rw [mem_let]; omega
    · rw [List.mem_singleton.mp hc, mem_let]; omega
  · have := kw_len _ z
    simp at this
theorem sg59 : 59 ∈ tl sgnS := by rw [mem_sgn]; omega
theorem sg58 : 58 ∈ tl sgnS := by rw [mem_sgn]; omega
theorem sg123 : 123 ∈ tl sgnS := by rw [mem_sgn]; omega
theorem sg125 : 125 ∈ tl sgnS := by rw [mem_sgn]; omega
theorem lx_nums : ∀ (l : List Nat), l ≠ [] → (∀ n ∈ l, n < 100) → Lx (joinL [32] (l.map numL) ++ [59]) (l.map numT ++ [sgT 59])
  | [], h, _ => absurd rfl h
  | [n], _, h => lx_num (h n (by simp)) (headNot_cons no_dig59) (lx_sg sg59 .nil)
  | n :: m :: r, _, h => by
    have ih := lx_nums (m :: r) (by simp) (fun x hx => h x (by simp only [List.mem_cons] at hx ⊢; exact .inr hx))
    show Lx ((numL n ++ ([32] ++ joinL [32] ((m :: r).map numL))) ++ [59]) _
    rw [List.append_assoc, List.append_assoc]
    exact lx_num (h n (by simp)) (headNot_cons no_dig32) (.sp ih)
theorem shelf_kw : Str.ofString "shelf" ∈ kwS := by decide +kernel
theorem robot_kw : Str.ofString "robot" ∈ kwS := by decide +kernel
theorem w_kw : ∀ {w : Nat}, w < 8 → wS w ∈ kwS := by
  have h : ∀ w : _root_.Fin 8, wS w.val ∈ kwS := by decide +kernel
  exact fun {w} hw => h ⟨w, hw⟩
theorem lx_shelf {l : List Nat} (h : l ≠ []) (hl : ∀ n ∈ l, n ≤ 3) : Lx (shelfL l) (kwT "shelf" :: (l.map numT ++ [sgT 59])) := by
  have e : shelfL l = tl (Str.ofString "shelf") ++ (32 :: (joinL [32] (l.map numL) ++ [59])) := by
    have e1 : tl (Str.ofString "shelf") = [115, 104, 101, 108, 102] := by decide +kernel
    rw [e1]
    unfold shelfL
    simp
  rw [e]
  exact lx_kw shelf_kw (headNot_cons no_let32) (.sp (lx_nums l h (fun n hn => by have := hl n hn; omega)))
theorem lx_robot {n : Nat} (h : n < 100) : Lx ([114, 111, 98, 111, 116, 32] ++ numL n ++ [32, 123]) [kwT "robot", numT n, sgT 123] := by
  have e : [114, 111, 98, 111, 116, 32] ++ numL n ++ [32, 123] = tl (Str.ofString "robot") ++ (32 :: (numL n ++ [32, 123])) := by
    have e1 : tl (Str.ofString "robot") = [114, 111, 98, 111, 116] := by decide +kernel
    rw [e1]
    simp
  rw [e]
  exact lx_kw robot_kw (headNot_cons no_let32) (.sp (lx_num h (headNot_cons no_dig32) (.sp (lx_sg sg123 .nil))))
def canL (gs : List Nat) (k : Nat) (s : Step) : LStep := ⟨if k ∈ gs then some [115, 97 + k] else none, s.w, s.g.map fun g => [115, 97 + g]⟩
def cans (gs : List Nat) (k : Nat) : List Step → List LStep
  | [] => []
  | s :: r => canL gs k s :: cans gs (k + 1) r
theorem lx_step {gs : List Nat} {k n : Nat} {s : Step} (hk : k < 20) (hn : n ≤ 20) (h : Step.Ok n s) : Lx (stepL gs k s) (stepT (canL gs k s)) := by
  have tail : Lx ((match s.g with | none => [] | some g => [32, 115, 97 + g]) ++ [59]) (tgtT (s.g.map fun g => [115, 97 + g]) ++ [sgT 59]) ∧ HeadNot (tl letS) ((match s.g with | none => [] | some g => [32, 115, 97 + g]) ++ [59]) := by
    cases hg : s.g with
    | none => exact ⟨lx_sg sg59 .nil, headNot_cons no_let59⟩
    | some g =>
      have hgn : g < 20 := by
        have h5 : 5 ≤ s.w := by
          by_cases h5 : s.w < 5
          · rw [h.no h5] at hg; cases hg
          · omega
        obtain ⟨k2, e2, h2⟩ := h.yes h5
        rw [hg] at e2
        cases e2
        omega
      exact ⟨.sp (lx_lab hgn (headNot_cons no_let59) (lx_sg sg59 .nil)), headNot_cons no_let32⟩
  have word : Lx (wL s.w ++ ((match s.g with | none => [] | some g => [32, 115, 97 + g]) ++ [59])) (kwT (wS s.w) :: (tgtT (s.g.map fun g => [115, 97 + g]) ++ [sgT 59])) := lx_kw (w_kw h.w8) tail.2 tail.1
  have e : stepL gs k s = 32 :: 32 :: ((if k ∈ gs then [115, 97 + k, 58, 32] else []) ++ (wL s.w ++ ((match s.g with | none => [] | some g => [32, 115, 97 + g]) ++ [59]))) := by
    unfold stepL
    cases s.g <;> simp
  rw [e]
  unfold stepT canL
  refine .sp (.sp ?_)
  by_cases hm : k ∈ gs
  · rw [if_pos hm, if_pos hm]
    exact lx_lab hk (headNot_cons no_let58) (lx_sg sg58 (.sp word))
  · rw [if_neg hm, if_neg hm]
    exact word
theorem lx_steps {gs : List Nat} {n : Nat} (hn : n ≤ 20) : ∀ (k : Nat) (ss : List Step), k + ss.length ≤ 20 → (∀ s ∈ ss, Step.Ok n s) → Paired Lx (stepsL gs k ss) ((cans gs k ss).map stepT)
  | _, [], _, _ => .nil
  | k, s :: r, h, ho => .cons (lx_step (by simp at h; omega) hn (ho s (by simp))) (lx_steps hn (k + 1) r (by simp at h; omega) (fun s hs => ho s (by simp [hs])))
theorem cans_len (gs : List Nat) : ∀ (k : Nat) (ss : List Step), (cans gs k ss).length = ss.length
  | _, [] => rfl
  | k, s :: r => congrArg (· + 1) (cans_len gs (k + 1) r)
theorem cans_at (gs : List Nat) : ∀ (k : Nat) (ss : List Step) (i : Nat), (cans gs k ss)[i]? = (ss[i]?).map (canL gs (k + i))
  | _, [], i => by simp [cans]
  | k, s :: r, 0 => rfl
  | k, s :: r, i + 1 => by
    show (cans gs (k + 1) r)[i]? = _
    rw [cans_at gs (k + 1) r i]
    have e : k + 1 + i = k + (i + 1) := by omega
    rw [e]
    rfl
theorem paired_of {α β : Type} {F : α → β → Prop} : ∀ {l : List α} {m : List β}, l.length = m.length → (∀ (i : Nat) (x : α) (y : β), l[i]? = some x → m[i]? = some y → F x y) → Paired F l m
  | [], [], _, _ => .nil
  | [], _ :: _, h, _ => nomatch h
  | _ :: _, [], h, _ => nomatch h
  | x :: l, y :: m, h, f => .cons (f 0 x y rfl rfl) (paired_of (by simpa using h) (fun i a b h1 h2 => f (i + 1) a b (by simpa using h1) (by simpa using h2)))
theorem labs_at (gs : List Nat) (ss : List Step) (i : Nat) : (labsOf (cans gs 0 ss))[i]? = (ss[i]?).map fun _ => if i ∈ gs then some [115, 97 + i] else none := by
  unfold labsOf
  rw [List.getElem?_map, cans_at]
  cases ss[i]? with
  | none => rfl
  | some s => show some (canL gs (0 + i) s).lab = _; rw [Nat.zero_add]; rfl
theorem cans_ok {ss : List Step} (h : StepsOk ss) : LOk (cans (goalsOf ss) 0 ss) ss := by
  refine ⟨by rw [cans_len]; exact h.pos, by rw [cans_len]; exact h.le, ?_, ?_, ?_⟩
  · intro s hs
    obtain ⟨i, hi⟩ := List.getElem?_of_mem hs
    rw [cans_at] at hi
    cases e : ss[i]? with
    | none => rw [e] at hi; cases hi
    | some s0 =>
      rw [e] at hi
      have es : canL (goalsOf ss) (0 + i) s0 = s := Option.some.inj hi
      subst es
      have ok := h.all s0 (List.mem_of_getElem? e)
      refine ⟨ok.w8, fun h5 => ?_, fun h5 => ?_, fun z => ?_⟩
      · show s0.g.map _ = none
        rw [ok.no h5]; rfl
      · obtain ⟨k, hk, _⟩ := ok.yes h5
        exact ⟨[115, 97 + k], by show s0.g.map _ = _; rw [hk]; rfl⟩
      · have z' : (if 0 + i ∈ goalsOf ss then some [115, 97 + (0 + i)] else none) = some [125] := z
        split at z'
        · injection z' with z'
          injection z' with z1 z2
          exact absurd z1 (by decide)
        · cases z'
  · intro i s t hi ht hm
    obtain ⟨m, hm⟩ := List.getElem?_of_mem hm
    unfold labsOf at hm
    rw [List.getElem?_map, List.getElem?_take] at hm
    by_cases hmi : m < i
    · rw [if_pos hmi, cans_at] at hm
      rw [cans_at] at hi
      cases e : ss[i]? with
      | none => rw [e] at hi; cases hi
      | some s0 =>
        rw [e] at hi
        have es : canL (goalsOf ss) (0 + i) s0 = s := Option.some.inj hi
        subst es
        cases e2 : ss[m]? with
        | none => rw [e2] at hm; cases hm
        | some s1 =>
          rw [e2] at hm
          have em : (canL (goalsOf ss) (0 + m) s1).lab = some t := Option.some.inj hm
          have h1 : (if 0 + i ∈ goalsOf ss then some [115, 97 + (0 + i)] else none) = some t := ht
          have h2 : (if 0 + m ∈ goalsOf ss then some [115, 97 + (0 + m)] else none) = some t := em
          split at h1
          · split at h2
            · rw [← h1] at h2
              injection h2 with h2
              injection h2 with _ h2
              injection h2 with h2 _
              omega
            · cases h2
          · cases h1
    · rw [if_neg hmi] at hm; cases hm
  · refine paired_of (cans_len _ _ _) fun i x y hx hy => ?_
    rw [cans_at, hy] at hx
    have es : canL (goalsOf ss) (0 + i) y = x := Option.some.inj hx
    subst es
    have ok := h.all y (List.mem_of_getElem? hy)
    refine ⟨rfl, fun hn => ?_, fun t ht => ?_⟩
    · have hn' : y.g.map (fun g => [115, 97 + g]) = none := hn
      cases hg : y.g with
      | none => rfl
      | some g => rw [hg] at hn'; cases hn'
    · have ht' : y.g.map (fun g => [115, 97 + g]) = some t := ht
      cases hg : y.g with
      | none => rw [hg] at ht'; cases ht'
      | some g =>
        rw [hg] at ht'
        have et : [115, 97 + g] = t := Option.some.inj ht'
        subst et
        have hgm : g ∈ goalsOf ss := List.mem_filterMap.mpr ⟨y, List.mem_of_getElem? hy, hg⟩
        have hgl : g < ss.length := by
          have h5 : 5 ≤ y.w := by
            by_cases h5 : y.w < 5
            · rw [ok.no h5] at hg; cases hg
            · omega
          obtain ⟨k2, e2, h2⟩ := ok.yes h5
          rw [hg] at e2
          cases e2
          exact h2
        refine ⟨g, rfl, ?_, fun m hm e => ?_⟩
        · rw [labs_at, List.getElem?_eq_getElem hgl]
          show some (if g ∈ goalsOf ss then _ else _) = _
          rw [if_pos hgm]
        · rw [labs_at] at e
          cases e2 : ss[m]? with
          | none => rw [e2] at e; cases e
          | some s1 =>
            rw [e2] at e
            have e3 : (if m ∈ goalsOf ss then some [115, 97 + m] else none) = some [115, 97 + g] := Option.some.inj e
            split at e3
            · injection e3 with e3
              injection e3 with _ e3
              injection e3 with e3 _
              omega
            · cases e3
theorem robot_lx {n : Nat} {ss : List Step} (hn : n < 100) (h : StepsOk ss) : ∃ tss, Paired Lx (robotL n ss) tss ∧ tss.flatten = robotT n (cans (goalsOf ss) 0 ss) := by
  refine ⟨[kwT "robot", numT n, sgT 123] :: ((cans (goalsOf ss) 0 ss).map stepT ++ [[sgT 125]]), .cons (lx_robot hn) (Paired.snoc (lx_steps h.le 0 ss (by have := h.le; omega) h.all) (lx_sg sg125 .nil)), ?_⟩
  unfold robotT
  simp [List.flatMap_def]
theorem no10_steps {gs : List Nat} {n : Nat} : ∀ (k : Nat) (ss : List Step), (∀ s ∈ ss, Step.Ok n s) → ∀ p ∈ stepsL gs k ss, 10 ∉ p
  | _, [], _, p, hp => nomatch hp
  | k, s :: r, ho, p, hp => by
    rcases List.mem_cons.mp hp with rfl | hp
    · have hw : ∀ w : _root_.Fin 8, 10 ∉ wL w.val := by decide +kernel
      have h1 := hw ⟨s.w, (ho s (by simp)).w8⟩
      unfold stepL
      intro hm
      simp only [List.mem_append] at hm
      rcases hm with (((hm | hm) | hm) | hm) | hm
      · simp at hm
      · split at hm
        · simp at hm; omega
        · cases hm
      · exact h1 hm
      · split at hm
        · cases hm
        · simp at hm; omega
      · simp at hm
    · exact no10_steps (k + 1) r (fun s hs => ho s (by simp [hs])) p hp
theorem no10_robot {n : Nat} {ss : List Step} (h : StepsOk ss) : ∀ p ∈ robotL n ss, 10 ∉ p := by
  intro p hp
  rcases List.mem_cons.mp hp with rfl | hp
  · intro hm
    simp only [List.mem_append] at hm
    rcases hm with (hm | hm) | hm
    · simp at hm
    · exact numL_free (by omega) hm
    · simp at hm
  · rcases List.mem_append.mp hp with hp | hp
    · exact no10_steps 0 ss h.all p hp
    · rw [List.mem_singleton.mp hp]; decide
theorem no10_join : ∀ (l : List Nat), 10 ∉ joinL [32] (l.map numL)
  | [] => by simp [joinL]
  | [n] => numL_free (by omega)
  | n :: m :: r => by
    have ih := no10_join (m :: r)
    show 10 ∉ (numL n ++ ([32] ++ joinL [32] ((m :: r).map numL)))
    simp only [List.mem_append, not_or]
    exact ⟨numL_free (by omega), by decide, ih⟩
theorem no10_shelf (l : List Nat) : 10 ∉ shelfL l := by
  unfold shelfL
  simp only [List.mem_append, not_or]
  exact ⟨⟨by decide, no10_join l⟩, by decide⟩
theorem loads_text {x : Pl} (h : x.Ok) : Loads (textS x) x := by
  have hne : x.shelf ≠ [] := fun e => by have := h.c3; rw [e] at this; exact absurd this (by decide)
  have c12 := h.c12
  obtain ⟨t1, p1, e1⟩ := robot_lx (n := x.a) (by have := h.ha; omega) h.p
  obtain ⟨t2, p2, e2⟩ := robot_lx (n := x.b) (by have := h.hb; omega) h.q
  refine ⟨⟨_, _, linesL x, (kwT "shelf" :: (x.shelf.map numT ++ [sgT 59])) :: (t1 ++ t2), rfl, by unfold linesL; simp, ?_, fun r hr => ?_, ?_, .cons (lx_shelf hne h.b3) (Paired.app p1 p2), ?_, cans_ok h.p, cans_ok h.q⟩⟩
  · intro r hr
    rcases List.mem_cons.mp hr with rfl | hr
    · exact no10_shelf _
    · rcases List.mem_append.mp hr with hr | hr
      · exact no10_robot h.p r hr
      · exact no10_robot h.q r hr
  · have := lines_len h r hr; omega
  · have := textL_len h
    show (textL x).length ≤ _
    omega
  · rw [List.flatten_cons, List.flatten_append, e1, e2]
    unfold planT
    simp
end Sb

namespace Sb
open PySem PySem.Spec PyProof.Rows L2 TL
structure spLabel (vs : List V) (H : Hp) (Q : VK) (E : XK) : Prop where
  ex : ∃ k : Nat, vs = [.int k] ∧ k < 20 ∧ Q (.str (mkS [115, 97 + k])) H
structure spFmtRobot (a : Ad) (K : PySem.W.Frag) (vs : List V) (H : Hp) (Q : VK) (E : XK) : Prop where
  ex : ∃ (G : Hp) (v : V) (n : Nat) (ss : List Step), vs = [v] ∧ Same G H ∧ RobAt a K G v n ss ∧ StepsOk ss ∧ n < 100 ∧ ∀ (H' : Hp) (p : Addr) (ls : List Str), Same H H' → H p = none → H' p = some (.lst (ls.map V.str)) → ls.map tl = robotL n ss → Q (.ref p) H'
structure spFmt (a : Ad) (K : PySem.W.Frag) (vs : List V) (H : Hp) (Q : VK) (E : XK) : Prop where
  ex : ∃ (G : Hp) (v : V) (x : Pl), vs = [v] ∧ Same G H ∧ PlanAt a K G v x ∧ x.Ok ∧ ∀ H', Same H H' → Q (.str (textS x)) H'
theorem label_go {k : Nat} {H : Hp} {Q : VK} {E : XK} (hk : k < 20) (q : Q (.str (mkS [115, 97 + k])) H) : spLabel [.int k] H Q E := ⟨⟨k, rfl, hk, q⟩⟩
theorem e1c : (Str.ofString ";").length = 1 := by decide +kernel
theorem e_sp : (Str.ofString " ").length = 1 := by decide +kernel
section
variable {P : Program} {w : World} {K : PySem.W.Frag} {mg : Str → Option Value} {base : Heap} {a : Ad}
theorem ok_label (T : Txt K mg a) : FnOk P w K mg base CX0 1 a.f_label a.d_label ["number"] spLabel := by
  refine T.F_label.ok sc_label (fun vs H Q E h => ?_) (fun cdv A outer s H vs Q E hr h => ?_)
  · obtain ⟨⟨k, rfl, _⟩⟩ := h
    rfl
  · obtain ⟨⟨k, rfl, hk, q⟩⟩ := h
    refine ⟨_, (pss_one (ps_ret (pe_op op_add_str pe_str (pe_ix ix_str pe_str (pv 0) (fun _ _ => rfl))))), ?_⟩
    refine ⟨_, rfl, abc, _, 97 + k, rfl, rfl, small 20 (by rw [abc_len]; exact Nat.le_refl _) (by decide), atI_nat (abc_at hk), _, _, rfl, rfl, addS 2 (by rw [e_s, len1s]; decide), ?_⟩
    have e : (Str.ofString "s" ++ (⟨#[97 + k]⟩ : Str)) = mkS [115, 97 + k] := mkS_of (by rw [tl_append, t_s]; rfl)
    dsimp only
    rw [e]
    exact q
theorem ok_format_robot (T : Txt K mg a) : FnOk P w K mg base CX0 2 a.f_format_robot a.d_format_robot ["robot"] (spFmtRobot a K) := by
  refine T.F_format_robot.ok sc_format_robot (fun vs H Q E h => ?_) (fun cdv A outer s H vs Q E hr h => ?_)
  · obtain ⟨⟨G, v, n, ss, rfl, _⟩⟩ := h
    rfl
  · obtain ⟨⟨G, v, n, ss, rfl, hGH, hR, hso, hn, k⟩⟩ := h
    obtain ⟨r, dr, sl, nl, rfl, hr1, hD⟩ := hR
    obtain ⟨sl', xs, e, hsl, hDx⟩ := Dp.lst_inv hD
    cases e
    have hsle := hso.le
    have xsl : xs.length = ss.length := by rw [DpAll.len hDx, List.length_map]
    refine ⟨_, (pss_cons (ps_setLc (i := 1) (own := [("word", 2), ("goal", 3)]) (g := gTup K 2 (gCons (gName 2) (gCons (gName 3) gNil))) rfl sc_format_robot.nd rfl rfl (sw_true rfl rfl rfl (by decide +kernel)) (pi_list (pe_fld (pv 0) rfl)) (blkOk_by (own := [("word", 2), ("goal", 3)]) (N := ["robot", "goals", "word", "goal", "lines", "number", "before"]) (sc := defScope s_format_robot) (by decide +kernel)) (fun _ _ _ _ _ => (pg_tup (by rfl) (pgs_cons (pg_name (i := 2) sc_format_robot.nd rfl (Or.inl rfl)) (pgs_cons (pg_name (i := 3) sc_format_robot.nd rfl (Or.inl rfl)) pgs_nil)))) (fun _ _ _ _ _ => by exact pts_one (pt_cmpR op_notN (pv 3) pe_non (nomark _))) (fun _ _ _ _ _ => by exact (pv 3)))
      (pss_cons (ps_set (i := 4) sc_format_robot.nd rfl (Or.inl rfl) (pe_lst (pa_cons (pe_op op_add_str (pe_op op_add_str pe_str (pe_callTy call_str_int (by rfl) T.z_str (by decide +kernel) (pa_cons (pe_fld (pv 0) rfl) pa_nil))) pe_str) pa_nil)))
      (pss_cons (ps_for PassesOwn.never rfl (pi_enum (by rfl) T.z_enumerate (pa_cons (pe_fld (pv 0) rfl) pa_nil)) (pg_tup (by rfl) (pgs_cons (pg_name (i := 5) sc_format_robot.nd rfl (Or.inl rfl)) (pgs_cons (pg_tup (by rfl) (pgs_cons (pg_name (i := 2) sc_format_robot.nd rfl (Or.inl rfl)) (pgs_cons (pg_name (i := 3) sc_format_robot.nd rfl (Or.inl rfl)) pgs_nil))) pgs_nil))) (pss_cons (ps_set (i := 6) sc_format_robot.nd rfl (Or.inl rfl) (pe_ifExp (pt_cmpR op_in_seq (pv 5) (pv 1) rfl) (pe_op op_add_str (pe_call (ok_label T) (hr.mono (by decide)) rfl T.m_label T.F_label.kp (b_label T) .nil pass0 (pa_cons (pv 5) pa_nil)) pe_str) pe_str))
      (pss_one (ps_expr (pe_bm PySem.F.plainAttrs_list PySem.F.slot_list_append PySem.F.type_list_append mt_append (pv 4) (pa_cons (pe_op op_add_str (pe_op op_add_str (pe_op op_add_str (pe_op op_add_str pe_str (pv 6)) (pv 2)) (pe_ifExp (pt_cmpR op_notN (pv 3) pe_non (nomark _)) (pe_op op_add_str pe_str (pe_call (ok_label T) (hr.mono (by decide)) rfl T.m_label T.F_label.kp (b_label T) .nil pass0 (pa_cons (pv 3) pa_nil))) pe_str)) pe_str) pa_nil))))))
      (pss_one (ps_ret (pe_op op_cat (pv 4) (pe_lst (pa_cons pe_str pa_nil)))))))), ?_⟩
    -- the goals
    refine ⟨_, rfl, r, _, dr, _, .ref sl, rfl, hGH _ _ hr1, T.cl_Robot, T.n_Robot_steps, (by kernel_rfl), sl, rfl, ⟨_, hGH.seq hsl⟩, fun D hD0 => ?_⟩
    refine lc_list (K := K) (a := sl) (xs := xs) (fun j H' => Same H H' ∧ H' D = some (.lst ((goalsOf (ss.take j)).map fun n : Nat => V.int n))) ⟨same_new hD0, upd_same⟩ (fun j H' _ ⟨s1, _⟩ => (hGH.trans s1).seq hsl) ?_ ?_
    · rintro j y H' hy ⟨s4, h5⟩
      obtain ⟨dd, hdd, hDd⟩ := DpAll.get hDx hy
      rw [List.getElem?_map] at hdd
      obtain ⟨sj, hsj, rfl⟩ : ∃ sj, ss[j]? = some sj ∧ dd = sj.D := by
        cases e : ss[j]? with
        | none => rw [e] at hdd; cases hdd
        | some z => rw [e] at hdd; exact ⟨z, rfl, (Option.some.inj hdd).symm⟩
      have gt := goals_take hsj
      have gl : (goalsOf (ss.take j)).length ≤ 20 := by
        have h1 : (goalsOf (ss.take j)).length ≤ (ss.take j).length := List.length_filterMap_le _ _
        rw [List.length_take] at h1
        omega
      obtain ⟨tt, g, rfl, htt, hg⟩ := step_inv hDd
      refine ⟨tt, _, rfl, Same.seqT (hGH.trans s4) htt, rfl, _, _, rfl, _, _, rfl, rfl, rfl, _, rfl, rfl, _, rfl, ?_⟩
      rcases hg with ⟨hg, rfl⟩ | ⟨kk, hg, rfl⟩
      · refine ite_f rfl ⟨s4, ?_⟩
        rw [gt, hg, List.append_nil]
        exact h5
      · refine ite_t rfl ⟨_, rfl, _, h5, smaller 20 (by rw [List.length_map]; exact gl) (by decide), same_put s4 hD0, ?_⟩
        rw [upd_same, gt, hg, List.map_append]
        rfl
    rintro H1 ⟨s1, h1⟩
    rw [xsl, List.take_length] at h1
    -- the head
    have nl2 := numS_len (n := n) hn
    have e6r : (Str.ofString "robot ").length = 6 := by decide +kernel
    have e2r : (Str.ofString " {").length = 2 := by decide +kernel
    refine ⟨_, rfl, r, _, dr, _, .int n, rfl, s1 _ _ (hGH _ _ hr1), T.cl_Robot, T.n_Robot_start, (by kernel_rfl), _, rfl, log_ok hn, _, _, rfl, rfl, addS 8 (by rw [e6r]; omega), _, _, rfl, rfl, addS 10 (by rw [len_app, e6r, e2r]; omega), (by show 1 ≤ sizeLine; decide), fun l hl => ?_⟩
    have l0 : H l = none := Same.free s1 hl
    have lD : D ≠ l := ne_of_none h1 hl
    have e3 : tl (Str.ofString "robot " ++ Str.ofString (toString ((n : Nat) : Int)) ++ Str.ofString " {") = [114, 111, 98, 111, 116, 32] ++ numL n ++ [32, 123] := by
      rw [tl_append, tl_append, t_rb, t_lb, tl_num]
    revert e3
    generalize (Str.ofString "robot " ++ Str.ofString (toString ((n : Nat) : Int)) ++ Str.ofString " {") = hd2
    intro e3
    have s2 := s1.trans (same_new (o := .lst [.str hd2]) hl)
    -- the steps
    refine ⟨_, rfl, r, _, dr, _, .ref sl, rfl, s2 _ _ (hGH _ _ hr1), T.cl_Robot, T.n_Robot_steps, (by kernel_rfl), sl, _, rfl, (hGH.trans s2).seq hsl, for_it (walk_enum (K := K) (a := sl) (xs := xs)) (fun j σ H' => ∃ (ls : List Str) (v2 v3 v5 v6 : Option V), σ = [some (.ref r), some (.ref D), v2, v3, some (.ref l), v5, v6] ∧
      Same H H' ∧ H' D = some (.lst ((goalsOf ss).map fun n : Nat => V.int n)) ∧ H' l = some (.lst (ls.map V.str)) ∧ ls.map tl = ([114, 111, 98, 111, 116, 32] ++ numL n ++ [32, 123]) :: stepsL (goalsOf ss) 0 (ss.take j)) ?_ ?_ ?_ ?_⟩
    · exact ⟨[hd2], none, none, none, none, rfl, s2, by rw [upd_ne lD]; exact h1, upd_same, by show [tl hd2] = _; rw [e3]; rfl⟩
    · rintro j σ H' _ ⟨ls, v2, v3, v5, v6, rfl, s5, _⟩
      exact (hGH.trans s5).seq hsl
    · rintro j y σ H5 H6 hj ⟨ls, v2, v3, v5, v6, rfl, s5, h6, h7, h8⟩ ⟨T', x, z, rfl, hT', rfl, hx, hz⟩
      cases hx
      have hz : xs[j]? = some z := hz
      rw [xsl] at hj
      obtain ⟨dd, hdd, hDd⟩ := DpAll.get hDx hz
      rw [List.getElem?_map] at hdd
      obtain ⟨sj, hsj, rfl⟩ : ∃ sj, ss[j]? = some sj ∧ dd = sj.D := by
        cases e : ss[j]? with
        | none => rw [e] at hdd; cases hdd
        | some z => rw [e] at hdd; exact ⟨z, rfl, (Option.some.inj hdd).symm⟩
      have hokj : Step.Ok ss.length sj := hso.all sj (List.mem_of_getElem? hsj)
      obtain ⟨tt, g, rfl, htt, hg⟩ := step_inv hDd
      have hl8 : ls.length ≤ 45 := by
        rw [len_of_map h8]
        simp only [List.length_cons, stepsL_len, List.length_take]
        omega
      have s6 := s5.trans (same_new (o := .tup [.int (j : Nat), .ref tt]) hT')
      have h6' : (upd H5 T' (.tup [.int (j : Nat), .ref tt])) D = _ := (upd_ne (ne_of_none h6 hT')).trans h6
      have h7' : (upd H5 T' (.tup [.int (j : Nat), .ref tt])) l = _ := (upd_ne (ne_of_none h7 hT')).trans h7
      refine ⟨T', _, rfl, SqT.of upd_same, rfl, _, _, rfl, _, _, rfl, tt, _, rfl, Same.seqT (hGH.trans s6) htt, rfl, _, _, rfl, _, _, rfl, rfl, rfl, ?_⟩
      revert s6 h6' h7'
      generalize upd H5 T' (.tup [.int (j : Nat), .ref tt]) = H7
      intro s6 h6' h7'
      dsimp only
      refine seq_restσ (fun σ H' => ∃ m : Str, σ = [some (.ref r), some (.ref D), some (.str (wS sj.w)), some g, some (.ref l), some (.int (j : Nat)), some (.str m)] ∧ H7 = H' ∧ m.length ≤ 4 ∧ tl m = if j ∈ goalsOf ss then [115, 97 + j, 58, 32] else []) (fun σ H' hm => ?r1) (fun rest1 => ?m1)
      case m1 =>
        refine ⟨_, rfl, _, rfl, D, _, rfl, .inl (SqL.of h6'), rfl, nats_flat _, _, rfl, ?_⟩
        rw [if_neg Bool.false_ne_true, in_nats]
        refine ite2 (fun c => ?_) (fun c => ?_)
        · have c' := of_decide_eq_true c
          refine ⟨_, rfl, label_go (by omega) ?_⟩
          refine ⟨_, _, rfl, rfl, addS 4 (by rw [len_mkS, e_cs]; simp), rest1 _ _ ⟨_, rfl, rfl, ?_, ?_⟩⟩
          · rw [len_app, len_mkS, e_cs]; simp
          · rw [if_pos c', tl_append, tl_mkS, t_cs]; rfl
        · refine rest1 _ _ ⟨_, rfl, rfl, by decide +kernel, ?_⟩
          rw [if_neg (fun q => c (decide_eq_true q)), t_e]
      obtain ⟨m, rfl, rfl, hm4, hm⟩ := hm
      have hw5 := wS_len hokj.w8
      -- the line appended
      have fin : ∀ (m2 : Str), m2.length ≤ 3 → tl m2 = (match sj.g with | none => [] | some g => [32, 115, 97 + g]) →
          (∃ i j', V.str (Str.ofString "  " ++ m ++ wS sj.w) = .str i ∧ V.str m2 = .str j' ∧ i.length + j'.length ≤ sizeLine ∧ ∃ i2 j2, V.str (i ++ j') = .str i2 ∧ V.str (Str.ofString ";") = .str j2 ∧ i2.length + j2.length ≤ sizeLine ∧
            ∃ l' ys y, V.ref l = .ref l' ∧ [V.str (i2 ++ j2)] = [y] ∧ H7 l' = some (.lst ys) ∧ ys.length < sizeLine ∧ ∃ (ls : List Str) (v2 v3 v5 v6 : Option V), [some (V.ref r), some (.ref D), some (.str (wS sj.w)), some g, some (.ref l), some (.int (j : Nat)), some (.str m)] = [some (.ref r), some (.ref D), v2, v3, some (.ref l), v5, v6] ∧
              Same H (upd H7 l' (.lst (ys ++ [y]))) ∧ (upd H7 l' (.lst (ys ++ [y]))) D = some (.lst ((goalsOf ss).map fun n : Nat => V.int n)) ∧ (upd H7 l' (.lst (ys ++ [y]))) l = some (.lst (ls.map V.str)) ∧ ls.map tl = ([114, 111, 98, 111, 116, 32] ++ numL n ++ [32, 123]) :: stepsL (goalsOf ss) 0 (ss.take (j + 1))) := by
        intro m2 hm23 hm2
        refine ⟨_, _, rfl, rfl, addS 14 (by rw [len_app, len_app, e_2]; omega), _, _, rfl, rfl, addS 15 (by rw [len_app, len_app, len_app, e_2, e1c]; omega), l, _, _, rfl, rfl, h7', smaller 45 (by rw [List.length_map]; exact hl8) (by decide), ls ++ [Str.ofString "  " ++ m ++ wS sj.w ++ m2 ++ Str.ofString ";"], _, _, _, _, rfl, same_put s6 l0, ?_, ?_, ?_⟩
        · rw [upd_ne lD]; exact h6'
        · rw [upd_same, List.map_append]; rfl
        · rw [take_more hsj, stepsL_snoc, List.map_append, h8]
          show _ :: _ ++ [tl (Str.ofString "  " ++ m ++ wS sj.w ++ m2 ++ Str.ofString ";")] = _
          rw [List.cons_append]
          congr 2
          congr 1
          have e0 : 0 + (ss.take j).length = j := by rw [List.length_take]; omega
          rw [e0, tl_append, tl_append, tl_append, tl_append, sp2, hm, hm2, t_sc]
          rfl
      refine ⟨_, rfl, .inl ⟨rfl, _, SqL.of h7'⟩, _, rfl, _, _, rfl, rfl, addS 6 (by rw [e_2]; omega), _, rfl, _, _, rfl, rfl, addS 11 (by rw [len_app, e_2]; omega), _, rfl, rfl, _, rfl, ?_⟩
      rcases hg with ⟨hg, rfl⟩ | ⟨kk, hg, rfl⟩
      · exact ite_f rfl (fin (Str.ofString "") (by decide +kernel) (by rw [hg, t_e]))
      · have hk : kk < ss.length := by
          have h5 : 5 ≤ sj.w := by
            by_cases h : sj.w < 5
            · rw [hokj.no h] at hg; cases hg
            · omega
          obtain ⟨k2, e2, h2⟩ := hokj.yes h5
          rw [hg] at e2
          cases e2
          exact h2
        refine ite_t rfl ⟨_, rfl, label_go (by omega) ?_⟩
        refine ⟨_, _, rfl, rfl, addS 3 (by rw [e_sp, len_mkS]; simp), fin _ (by rw [len_app, e_sp, len_mkS]; simp) (by rw [hg, tl_append, t_sp, tl_mkS]; rfl)⟩
    · rintro σ H5 ⟨ls, v2, v3, v5, v6, rfl, s5, h6, h7, h8⟩
      rw [xsl, List.take_length] at h8
      have hl8 : ls.length ≤ 45 := by
        rw [len_of_map h8]
        simp only [List.length_cons, stepsL_len]
        omega
      refine ⟨_, rfl, (by show 1 ≤ sizeLine; decide), fun p1 hp1 => ?_⟩
      have h7' : (upd H5 p1 (.lst [.str (Str.ofString "}")])) l = _ := (upd_ne (ne_of_none h7 hp1)).trans h7
      refine ⟨l, p1, _, _, rfl, rfl, h7', upd_same, small 46 (by rw [List.length_map]; show ls.length + 1 ≤ 46; omega) (by decide), fun p2 hp2 => ?_⟩
      have s6 := s5.trans (same_new (o := .lst [.str (Str.ofString "}")]) hp1)
      refine k _ p2 (ls ++ [Str.ofString "}"]) (s6.trans (same_new hp2)) (Same.free s6 hp2) (by rw [upd_same, List.map_append]; rfl) ?_
      rw [List.map_append, h8]
      show _ ++ [tl (Str.ofString "}")] = _
      rw [t_cb]
      rfl
end
end Sb

namespace Sb
open PySem PySem.Spec PyProof.Rows L2 TL
section
variable {P : Program} {w : World} {K : PySem.W.Frag} {mg : Str → Option Value} {base : Heap} {a : Ad}
theorem ok_format_parsed (T : Txt K mg a) : FnOk P w K mg base CX0 3 a.f_format_parsed a.d_format_parsed ["parsed"] (spFmt a K) := by
  refine T.F_format_parsed.ok sc_format_parsed (fun vs H Q E h => ?_) (fun cdv A outer s H vs Q E hr h => ?_)
  · obtain ⟨⟨G, v, x, rfl, _⟩⟩ := h
    rfl
  · obtain ⟨⟨G, v, x, rfl, hGH, hP, hx, k⟩⟩ := h
    obtain ⟨r, dr, sh, rl, r1, r2, rfl, hr1, hsh, hrl, hR1, hR2⟩ := hP
    refine ⟨_, (pss_cons (ps_set (i := 1) sc_format_parsed.nd rfl (Or.inl rfl) (pe_lst (pa_cons (pe_op op_add_str (pe_op op_add_str pe_str (pe_join pe_str (pe_lc (own := [("boxes", 2)]) (g := gName 2) (tt := tYes) rfl sc_format_parsed.nd (pi_tup (pe_fld (pv 0) rfl)) (blkOk_by (own := [("boxes", 2)]) (N := ["parsed", "lines", "boxes", "robot"]) (sc := defScope s_format_parsed) (by decide +kernel)) (fun _ _ _ _ _ => (pg_name (i := 2) sc_format_parsed.nd rfl (Or.inl rfl))) (fun _ _ _ _ _ => pts_nil) (fun _ _ _ _ _ => by exact (pe_callTy call_str_int (by rfl) T.z_str (by decide +kernel) (pa_cons (pv 2) pa_nil)))))) pe_str) pa_nil)))
      (pss_cons (ps_for PassesOwn.never rfl (pi_list (pe_fld (pv 0) rfl)) (pg_name (i := 3) sc_format_parsed.nd rfl (Or.inl rfl)) (pss_one (ps_expr (pe_bm PySem.F.plainAttrs_list PySem.F.slot_list_extend PySem.F.type_list_extend mt_extend (pv 1) (pa_cons (pe_call (ok_format_robot T) (hr.mono (by decide)) rfl T.m_format_robot T.F_format_robot.kp (b_format_robot T) .nil pass0 (pa_cons (pv 3) pa_nil)) pa_nil)))))
      (pss_one (ps_ret (pe_join pe_str (pv 1)))))), ?_⟩
    refine ⟨⟨_, rfl⟩, _, rfl, r, _, dr, _, .ref sh, rfl, hGH _ _ hr1, T.cl_Plan, T.n_Plan_shelf, (by kernel_rfl), sh, rfl, ⟨_, Same.seqT hGH hsh⟩, fun D hD => ?_⟩
    refine lc_tup (K := K) (a := sh) (xs := x.shelf.map fun n : Nat => V.int n) (fun j H' => ∃ ls : List Str, Same H H' ∧ H' D = some (.lst (ls.map V.str)) ∧ ls.map tl = (x.shelf.take j).map numL) ⟨[], same_new hD, upd_same, rfl⟩ (fun j H' _ ⟨ls, s1, _⟩ => Same.seqT (hGH.trans s1) hsh) ?_ ?_
    · rintro j y H' hy ⟨ls, s1, h1, h2⟩
      obtain ⟨n, hn, rfl⟩ : ∃ n : Nat, x.shelf[j]? = some n ∧ y = V.int n := by
        rw [List.getElem?_map] at hy
        cases e : x.shelf[j]? with
        | none => rw [e] at hy; cases hy
        | some z => rw [e] at hy; exact ⟨z, rfl, (Option.some.inj hy).symm⟩
      have hj : j < x.shelf.length := (List.getElem?_eq_some_iff.mp hn).1
      have hn3 : n ≤ 3 := hx.b3 n (List.mem_of_getElem? hn)
      have h12 := hx.c12
      refine ⟨rfl, _, rfl, _, rfl, log_ok (by omega), _, h1, smaller 12 (by rw [List.length_map, len_of_map h2, List.length_map, List.length_take]; omega) (by decide), ls ++ [Str.ofString (toString ((n : Nat) : Int))], same_put s1 hD, ?_, ?_⟩
      · rw [upd_same, List.map_append]; rfl
      · rw [List.map_append, h2, take_more hn, List.map_append]
        show _ ++ [tl (Str.ofString (toString ((n : Nat) : Int)))] = _
        rw [tl_num]
        rfl
    rintro H1 ⟨ls0, s1, h1, h2⟩
    rw [List.length_map, List.take_length] at h2
    have ml : ∀ p ∈ ls0, p.length ≤ 2 := mem_len h2 (fun p hp => by
      obtain ⟨n, hn, rfl⟩ := List.mem_map.mp hp
      exact num_len (by have := hx.b3 n hn; omega))
    have ll : ls0.length ≤ 12 := by rw [len_of_map h2, List.length_map]; exact hx.c12
    have jl : (Txt.join (Str.ofString " ") ls0).length ≤ 36 := by
      rw [len_tl, join_txt t_sp h2]
      refine Nat.le_trans (joinL_len [32] 2 _ (fun p hp => ?_)) ?_
      · obtain ⟨n, hn, rfl⟩ := List.mem_map.mp hp
        exact num_len (by have := hx.b3 n hn; omega)
      · rw [List.length_map]
        have := hx.c12
        show _ * 3 ≤ 36
        omega
    have e6 : (Str.ofString "shelf ").length = 6 := by decide +kernel
    refine ⟨_, D, ls0, rfl, rfl, .inl (SqL.of h1), ?_, _, _, rfl, rfl, addS 42 (by rw [e6]; omega), _, _, rfl, rfl, addS 43 (by rw [len_app, e6, e1c]; omega), (by show 1 ≤ sizeLine; decide), fun l hl => ?_⟩
    · have := sum_len ls0 2 ml
      rw [e_sp]
      omega
    have l0 : H l = none := Same.free s1 hl
    have sl : tl (Str.ofString "shelf " ++ Txt.join (Str.ofString " ") ls0 ++ Str.ofString ";") = shelfL x.shelf := by
      rw [tl_append, tl_append, t_sh, t_sc, join_txt t_sp h2]
      rfl
    revert sl
    generalize (Str.ofString "shelf " ++ Txt.join (Str.ofString " ") ls0 ++ Str.ofString ";") = first
    intro sl
    have s2 := s1.trans (same_new (o := .lst [.str first]) hl)
    refine ⟨_, rfl, r, _, dr, _, .ref rl, rfl, s2 _ _ (hGH _ _ hr1), T.cl_Plan, T.n_Plan_robots, (by kernel_rfl), rl, rfl, ⟨_, (hGH.trans s2).seq hrl⟩, for_list (K := K) (a := rl) (xs := [r1, r2]) (fun i σ H' => ∃ (ls : List Str) (v3 : Option V), σ = [some (.ref r), some (.ref l), none, v3] ∧ Same H H' ∧ H' l = some (.lst (ls.map V.str)) ∧ ls.map tl = shelfL x.shelf :: x.robs i)
      ⟨[first], none, rfl, s2, upd_same, by show [tl first] = _; rw [sl]; rfl⟩ (fun i σ H' _ ⟨_, _, _, s3, _⟩ => (hGH.trans s3).seq hrl) ?_ ?_⟩
    · rintro i y σ H2 hy ⟨ls, v3, rfl, s3, hl3, hls⟩
      have hi : i < 2 := (List.getElem?_eq_some_iff.mp hy).1
      have hRi : RobAt a K G y (x.st i) (x.ss i) := by
        match i, hi with
        | 0, _ => cases hy; exact hR1
        | 1, _ => cases hy; exact hR2
        | i + 2, h => exact absurd h (by omega)
      have hn : x.st i < 12 := by unfold Pl.st; have := hx.ha; have := hx.hb; have := hx.c12; split <;> omega
      have hso : StepsOk (x.ss i) := by unfold Pl.ss; split; exact hx.p; exact hx.q
      have hlen : ls.length ≤ 23 := by rw [len_of_map hls, List.length_cons]; have := robs_len hx (i := i) (by omega); omega
      refine ⟨_, rfl, .inl ⟨rfl, _, SqL.of hl3⟩, _, rfl, ⟨⟨G, y, x.st i, x.ss i, rfl, hGH.trans s3, hRi, hso, by omega, fun H4 p ls4 s4 hp4 h4 e4 => ?_⟩⟩⟩
      have hl4 := s4 _ _ hl3
      have l4 : ls4.length ≤ 22 := by rw [len_of_map e4, robotL_len]; have := hso.le; omega
      refine ⟨l, p, _, _, rfl, rfl, hl4, h4, small 45 (by rw [List.length_map, List.length_map]; omega) (by decide), ?_⟩
      refine ⟨ls ++ ls4, _, rfl, same_put (s3.trans s4) l0, by rw [upd_same, List.map_append], ?_⟩
      rw [List.map_append, hls, e4]
      rfl
    · rintro σ H5 ⟨ls, v3, rfl, s5, h6, h7⟩
      have h7 : ls.map tl = shelfL x.shelf :: x.robs 2 := h7
      rw [Pl.robs2] at h7
      have hl8 : ls.length ≤ 45 := by rw [len_of_map h7]; exact linesL_len hx
      refine ⟨⟨_, rfl⟩, _, rfl, _, l, ls, rfl, rfl, .inl (SqL.of h6), ?_, ?_⟩
      · have := sum_len ls 60 (mem_len h7 (lines_len hx))
        have e : (Str.ofString "\n").length = 1 := by decide +kernel
        rw [e]
        omega
      · have e : Txt.join (Str.ofString "\n") ls = textS x := ext_tl (join_txt t_nl h7)
        dsimp only
        rw [e]
        exact k H5 s5
end
end Sb

namespace Sb
open PySem PySem.Spec PyProof.Rows L2 TL
/-! ### equal data are told equal -/
mutual
def okD : PyData → Bool
  | .none | .bool _ | .int _ | .str _ => true
  | .list xs | .tuple xs => decide (xs.length ≤ 1000000) && okAll xs
  | .dict _ => false
def okAll : List PyData → Bool
  | [] => true
  | x :: xs => okD x && okAll xs
end
theorem okAll_at : ∀ {xs : List PyData} {i : Nat} {d : PyData}, okAll xs = true → xs[i]? = some d → okD d = true
  | [], _, _, _, e => by simp at e
  | x :: xs, 0, d, h, e => by
    simp at e; subst e
    have h' : (okD x && okAll xs) = true := h
    rw [Bool.and_eq_true] at h'
    exact h'.1
  | x :: xs, i + 1, d, h, e => by
    have h' : (okD x && okAll xs) = true := h
    rw [Bool.and_eq_true] at h'
    exact okAll_at (i := i) h'.2 (by simpa using e)
theorem depthAll_at : ∀ {xs : List PyData} {i : Nat} {d : PyData}, xs[i]? = some d → d.depth ≤ PyData.depthAll xs
  | [], _, _, e => by simp at e
  | x :: xs, 0, d, e => by
    simp at e; subst e
    show x.depth ≤ max x.depth (PyData.depthAll xs)
    omega
  | x :: xs, i + 1, d, e => by
    have := depthAll_at (xs := xs) (i := i) (d := d) (by simpa using e)
    show d.depth ≤ max x.depth (PyData.depthAll xs)
    omega
theorem SqL.ty {K : PySem.W.Frag} {H : Hp} {p : Addr} {xs : List V} (h : SqL K H p xs) : TyX K H (.ref p) (.type "list") := by
  rcases h with (h | ⟨o, h⟩) | ⟨o, its, n, h1, h2, _⟩
  · exact .base (.lst h)
  · exact .base (.frz h)
  · exact .kList h1 h2
theorem SqT.ty {K : PySem.W.Frag} {H : Hp} {p : Addr} {xs : List V} (h : SqT K H p xs) : TyX K H (.ref p) (.type "tuple") := by
  rcases h with (h | ⟨o, h⟩) | ⟨o, its, n, h1, h2, _⟩
  · exact .base (.tup h)
  · exact .fTuple h
  · exact .kTuple h1 h2
structure spEqual (K : PySem.W.Frag) (n : Nat) (vs : List V) (H : Hp) (Q : VK) (E : XK) : Prop where
  ex : ∃ (v u : V) (d : PyData), vs = [v, u] ∧ Dp K H v d ∧ Dp K H u d ∧ d.depth ≤ n ∧ okD d = true ∧ ∀ H', Same H H' → Q (.bl true) H'
theorem kf {K : PySem.W.Frag} {x y : String} {b : Bool} (h : kitB x y = some b) : PySem.W.kitOne K (.type x) (.type y) = some b := kit_ty h
section
variable {P : Program} {w : World} {K : PySem.W.Frag} {mg : Str → Option Value} {base : Heap} {a : Ad}
theorem ok_l_equal (T : Txt K mg a) : ∀ n : Nat, FnOk P w K mg base CX0 (n + 1) a.f_l_equal a.d_l_equal ["_law_actual", "_law_expected"] (spEqual K n) := by
  intro n
  induction n with
  | zero =>
    refine T.F_l_equal.ok sc_l_equal (fun vs H Q E h => ?_) (fun cdv A outer s H vs Q E hr h => ?_)
    · obtain ⟨⟨v, u, d, rfl, _⟩⟩ := h
      rfl
    · obtain ⟨⟨v, u, d, rfl, hv, hu, hdep, hok, k⟩⟩ := h
      refine ⟨_, (pss_cons (ps_if (pt_cmpR op_isN (pv 1) pe_non (nomark _)) (pss_one (ps_ret (pe_cmpR op_isN (pv 0) pe_non (nomark _)))) pss_nil)
      (pss_cons (ps_if (pt_val (pe_callB call_isi (by rfl) T.z_isinstance (by decide +kernel) (pa_cons (pv 1) (pa_cons (pe_bltn (v := .ty "bool") (by rfl) T.z_bool (by decide +kernel) rfl) pa_nil)))) (pss_one (ps_ret (pe_and (pe_callB call_isi (by rfl) T.z_isinstance (by decide +kernel) (pa_cons (pv 0) (pa_cons (pe_bltn (v := .ty "bool") (by rfl) T.z_bool (by decide +kernel) rfl) pa_nil))) (pe_one (pe_cmpR op_eq (pv 0) (pv 1) (nomark _)))))) pss_nil)
      (pss_cons (ps_if (pt_val (pe_callB call_isi (by rfl) T.z_isinstance (by decide +kernel) (pa_cons (pv 1) (pa_cons (pe_bltn (v := .ty "int") (by rfl) T.z_int (by decide +kernel) rfl) pa_nil)))) (pss_one (ps_ret (pe_and (pe_callB call_isi (by rfl) T.z_isinstance (by decide +kernel) (pa_cons (pv 0) (pa_cons (pe_bltn (v := .ty "int") (by rfl) T.z_int (by decide +kernel) rfl) pa_nil))) (pe_and (pe_not (pe_callB call_isi (by rfl) T.z_isinstance (by decide +kernel) (pa_cons (pv 0) (pa_cons (pe_bltn (v := .ty "bool") (by rfl) T.z_bool (by decide +kernel) rfl) pa_nil)))) (pe_one (pe_cmpR op_eq (pv 0) (pv 1) (nomark _))))))) pss_nil)
      (pss_cons (ps_if (pt_val (pe_callB call_isi (by rfl) T.z_isinstance (by decide +kernel) (pa_cons (pv 1) (pa_cons (pe_bltn (v := .ty "str") (by rfl) T.z_str (by decide +kernel) rfl) pa_nil)))) (pss_one (ps_ret (pe_and (pe_callB call_isi (by rfl) T.z_isinstance (by decide +kernel) (pa_cons (pv 0) (pa_cons (pe_bltn (v := .ty "str") (by rfl) T.z_str (by decide +kernel) rfl) pa_nil))) (pe_one (pe_cmpR op_eq (pv 0) (pv 1) (nomark _)))))) pss_nil)
      pss_never)))), ?_⟩
      cases d with
      | none =>
        cases hv; cases hu
        exact ⟨_, rfl, rfl, _, rfl, ite_t rfl ⟨_, rfl, rfl, k H (Same.refl H)⟩⟩
      | bool b =>
        cases hv; cases hu
        refine ⟨_, rfl, rfl, _, rfl, ite_f rfl ?_⟩
        refine ⟨_, rfl, _, _, _, _, true, rfl, .ty "bool", .base (.bl b), kf (by decide +kernel), _, rfl, iteT ?_⟩
        refine ⟨_, rfl, _, _, _, _, true, rfl, .ty "bool", .base (.bl b), kf (by decide +kernel), _, rfl, iteT ⟨_, rfl, _, rfl, rfl, ?_⟩⟩
        rw [decide_eq_true rfl]
        exact k H (Same.refl H)
      | int i =>
        cases hv; cases hu
        refine ⟨_, rfl, rfl, _, rfl, ite_f rfl ?_⟩
        refine ⟨_, rfl, _, _, _, _, false, rfl, .ty "bool", .base (.int i), kf (by decide +kernel), _, rfl, iteF ?_⟩
        refine ⟨_, rfl, _, _, _, _, true, rfl, .ty "int", .base (.int i), kf (by decide +kernel), _, rfl, iteT ?_⟩
        refine ⟨_, rfl, _, _, _, _, true, rfl, .ty "int", .base (.int i), kf (by decide +kernel), _, rfl, iteT ?_⟩
        refine ⟨_, rfl, _, _, _, _, false, rfl, .ty "bool", .base (.int i), kf (by decide +kernel), _, rfl, _, rfl, iteT ⟨_, rfl, _, rfl, rfl, ?_⟩⟩
        rw [decide_eq_true rfl]
        exact k H (Same.refl H)
      | str z =>
        cases hv; cases hu
        refine ⟨_, rfl, rfl, _, rfl, ite_f rfl ?_⟩
        refine ⟨_, rfl, _, _, _, _, false, rfl, .ty "bool", .base (.str z), kf (by decide +kernel), _, rfl, iteF ?_⟩
        refine ⟨_, rfl, _, _, _, _, false, rfl, .ty "int", .base (.str z), kf (by decide +kernel), _, rfl, iteF ?_⟩
        refine ⟨_, rfl, _, _, _, _, true, rfl, .ty "str", .base (.str z), kf (by decide +kernel), _, rfl, iteT ?_⟩
        refine ⟨_, rfl, _, _, _, _, true, rfl, .ty "str", .base (.str z), kf (by decide +kernel), _, rfl, iteT ⟨_, rfl, _, rfl, rfl, ?_⟩⟩
        rw [decide_eq_true rfl]
        exact k H (Same.refl H)
      | dict _ => exact absurd hok (by simp [okD])
      | list ds =>
        have : PyData.depthAll ds + 1 ≤ 0 := hdep
        omega
      | tuple ds =>
        have : PyData.depthAll ds + 1 ≤ 0 := hdep
        omega
  | succ n IH =>
    refine T.F_l_equal.ok sc_l_equal (fun vs H Q E h => ?_) (fun cdv A outer s H vs Q E hr h => ?_)
    · obtain ⟨⟨v, u, d, rfl, _⟩⟩ := h
      rfl
    · obtain ⟨⟨v, u, d, rfl, hv, hu, hdep, hok, k⟩⟩ := h
      refine ⟨_, (pss_cons (ps_if (pt_cmpR op_isN (pv 1) pe_non (nomark _)) (pss_one (ps_ret (pe_cmpR op_isN (pv 0) pe_non (nomark _)))) pss_nil)
      (pss_cons (ps_if (pt_val (pe_callB call_isi (by rfl) T.z_isinstance (by decide +kernel) (pa_cons (pv 1) (pa_cons (pe_bltn (v := .ty "bool") (by rfl) T.z_bool (by decide +kernel) rfl) pa_nil)))) (pss_one (ps_ret (pe_and (pe_callB call_isi (by rfl) T.z_isinstance (by decide +kernel) (pa_cons (pv 0) (pa_cons (pe_bltn (v := .ty "bool") (by rfl) T.z_bool (by decide +kernel) rfl) pa_nil))) (pe_one (pe_cmpR op_eq (pv 0) (pv 1) (nomark _)))))) pss_nil)
      (pss_cons (ps_if (pt_val (pe_callB call_isi (by rfl) T.z_isinstance (by decide +kernel) (pa_cons (pv 1) (pa_cons (pe_bltn (v := .ty "int") (by rfl) T.z_int (by decide +kernel) rfl) pa_nil)))) (pss_one (ps_ret (pe_and (pe_callB call_isi (by rfl) T.z_isinstance (by decide +kernel) (pa_cons (pv 0) (pa_cons (pe_bltn (v := .ty "int") (by rfl) T.z_int (by decide +kernel) rfl) pa_nil))) (pe_and (pe_not (pe_callB call_isi (by rfl) T.z_isinstance (by decide +kernel) (pa_cons (pv 0) (pa_cons (pe_bltn (v := .ty "bool") (by rfl) T.z_bool (by decide +kernel) rfl) pa_nil)))) (pe_one (pe_cmpR op_eq (pv 0) (pv 1) (nomark _))))))) pss_nil)
      (pss_cons (ps_if (pt_val (pe_callB call_isi (by rfl) T.z_isinstance (by decide +kernel) (pa_cons (pv 1) (pa_cons (pe_bltn (v := .ty "str") (by rfl) T.z_str (by decide +kernel) rfl) pa_nil)))) (pss_one (ps_ret (pe_and (pe_callB call_isi (by rfl) T.z_isinstance (by decide +kernel) (pa_cons (pv 0) (pa_cons (pe_bltn (v := .ty "str") (by rfl) T.z_str (by decide +kernel) rfl) pa_nil))) (pe_one (pe_cmpR op_eq (pv 0) (pv 1) (nomark _)))))) pss_nil)
      (pss_cons (ps_if (pt_cmpR op_ne (pe_callB call_isi (by rfl) T.z_isinstance (by decide +kernel) (pa_cons (pv 1) (pa_cons (pe_bltn (v := .ty "tuple") (by rfl) T.z_tuple (by decide +kernel) rfl) pa_nil))) (pe_callB call_isi (by rfl) T.z_isinstance (by decide +kernel) (pa_cons (pv 0) (pa_cons (pe_bltn (v := .ty "tuple") (by rfl) T.z_tuple (by decide +kernel) rfl) pa_nil))) (nomark _)) (pss_one (ps_ret pe_bl)) pss_nil)
      (pss_cons (ps_if (pt_cmpR op_ne (pe_callB call_isi (by rfl) T.z_isinstance (by decide +kernel) (pa_cons (pv 1) (pa_cons (pe_bltn (v := .ty "list") (by rfl) T.z_list (by decide +kernel) rfl) pa_nil))) (pe_callB call_isi (by rfl) T.z_isinstance (by decide +kernel) (pa_cons (pv 0) (pa_cons (pe_bltn (v := .ty "list") (by rfl) T.z_list (by decide +kernel) rfl) pa_nil))) (nomark _)) (pss_one (ps_ret pe_bl)) pss_nil)
      (pss_cons (ps_if (pt_cmpR op_ne (pe_callB call_len_seq (by rfl) T.z_len (by decide +kernel) (pa_cons (pv 0) pa_nil)) (pe_callB call_len_seq (by rfl) T.z_len (by decide +kernel) (pa_cons (pv 1) pa_nil)) (nomark _)) (pss_one (ps_ret pe_bl)) pss_nil)
      (pss_one (ps_ret (pe_callB (cr_all rfl) (by rfl) T.z_all (by decide +kernel) (pa_cons (pe_lc (own := [("_law_k", 2)]) (g := gName 2) (te := (tCall _ [] E0 (tCons (tOp (rIx K) (tVar 0) (tVar 2)) (tCons (tOp (rIx K) (tVar 1) (tVar 2)) tNil)))) (tt := tYes) rfl sc_l_equal.nd (pi_range1 (by rfl) T.z_range (pa_cons (pe_callB call_len_seq (by rfl) T.z_len (by decide +kernel) (pa_cons (pv 1) pa_nil)) pa_nil)) (blkOk_by (own := [("_law_k", 2)]) (N := ["_law_actual", "_law_expected", "_law_k"]) (sc := defScope s_l_equal) (by decide +kernel)) (fun _ _ _ _ _ => (pg_name (i := 2) sc_l_equal.nd rfl (Or.inl rfl))) (fun _ _ _ _ _ => pts_nil) (fun _ _ _ _ _ => by exact (pe_call IH hr rfl T.m_l_equal T.F_l_equal.kp (b_l_equal T) .nil pass0 (pa_cons (pe_ix ix_seq (pv 0) (pv 2) (fun _ _ => rfl)) (pa_cons (pe_ix ix_seq (pv 1) (pv 2) (fun _ _ => rfl)) pa_nil))))) pa_nil))))))))))), ?_⟩
      cases d with
      | none =>
        cases hv; cases hu
        exact ⟨_, rfl, rfl, _, rfl, ite_t rfl ⟨_, rfl, rfl, k H (Same.refl H)⟩⟩
      | bool b =>
        cases hv; cases hu
        refine ⟨_, rfl, rfl, _, rfl, ite_f rfl ?_⟩
        refine ⟨_, rfl, _, _, _, _, true, rfl, .ty "bool", .base (.bl b), kf (by decide +kernel), _, rfl, iteT ?_⟩
        refine ⟨_, rfl, _, _, _, _, true, rfl, .ty "bool", .base (.bl b), kf (by decide +kernel), _, rfl, iteT ⟨_, rfl, _, rfl, rfl, ?_⟩⟩
        rw [decide_eq_true rfl]
        exact k H (Same.refl H)
      | int i =>
        cases hv; cases hu
        refine ⟨_, rfl, rfl, _, rfl, ite_f rfl ?_⟩
        refine ⟨_, rfl, _, _, _, _, false, rfl, .ty "bool", .base (.int i), kf (by decide +kernel), _, rfl, iteF ?_⟩
        refine ⟨_, rfl, _, _, _, _, true, rfl, .ty "int", .base (.int i), kf (by decide +kernel), _, rfl, iteT ?_⟩
        refine ⟨_, rfl, _, _, _, _, true, rfl, .ty "int", .base (.int i), kf (by decide +kernel), _, rfl, iteT ?_⟩
        refine ⟨_, rfl, _, _, _, _, false, rfl, .ty "bool", .base (.int i), kf (by decide +kernel), _, rfl, _, rfl, iteT ⟨_, rfl, _, rfl, rfl, ?_⟩⟩
        rw [decide_eq_true rfl]
        exact k H (Same.refl H)
      | str z =>
        cases hv; cases hu
        refine ⟨_, rfl, rfl, _, rfl, ite_f rfl ?_⟩
        refine ⟨_, rfl, _, _, _, _, false, rfl, .ty "bool", .base (.str z), kf (by decide +kernel), _, rfl, iteF ?_⟩
        refine ⟨_, rfl, _, _, _, _, false, rfl, .ty "int", .base (.str z), kf (by decide +kernel), _, rfl, iteF ?_⟩
        refine ⟨_, rfl, _, _, _, _, true, rfl, .ty "str", .base (.str z), kf (by decide +kernel), _, rfl, iteT ?_⟩
        refine ⟨_, rfl, _, _, _, _, true, rfl, .ty "str", .base (.str z), kf (by decide +kernel), _, rfl, iteT ⟨_, rfl, _, rfl, rfl, ?_⟩⟩
        rw [decide_eq_true rfl]
        exact k H (Same.refl H)
      | dict _ => exact absurd hok (by simp [okD])
      | list ds =>
        obtain ⟨p, xs, rfl, hp, hxs⟩ := Dp.lst_inv hv
        obtain ⟨q, ys, rfl, hq, hys⟩ := Dp.lst_inv hu
        have hok' : decide (ds.length ≤ 1000000) = true ∧ okAll ds = true := by
          have : (decide (ds.length ≤ 1000000) && okAll ds) = true := hok
          rw [Bool.and_eq_true] at this
          exact this
        have hl : ds.length ≤ 1000000 := of_decide_eq_true hok'.1
        have hdep' : PyData.depthAll ds ≤ n := by
          have : PyData.depthAll ds + 1 ≤ n + 1 := hdep
          omega
        have xl : xs.length = ds.length := DpAll.len hxs
        have yl : ys.length = ds.length := DpAll.len hys
        have ty1 := SqL.ty hp
        have ty2 := SqL.ty hq
        refine ⟨_, rfl, rfl, _, rfl, ite_f rfl ?_⟩
        refine ⟨_, rfl, _, _, _, _, false, rfl, .ty "bool", ty2, kf (by decide +kernel), _, rfl, iteF ?_⟩
        refine ⟨_, rfl, _, _, _, _, false, rfl, .ty "int", ty2, kf (by decide +kernel), _, rfl, iteF ?_⟩
        refine ⟨_, rfl, _, _, _, _, false, rfl, .ty "str", ty2, kf (by decide +kernel), _, rfl, iteF ?_⟩
        refine ⟨_, rfl, _, _, _, _, false, rfl, .ty "tuple", ty2, kf (by decide +kernel), _, rfl, _, _, _, _, false, rfl, .ty "tuple", ty1, kf (by decide +kernel), rfl, _, rfl, ite_f (by decide) ?_⟩
        refine ⟨_, rfl, _, _, _, _, true, rfl, .ty "list", ty2, kf (by decide +kernel), _, rfl, _, _, _, _, true, rfl, .ty "list", ty1, kf (by decide +kernel), rfl, _, rfl, ite_f (by decide) ?_⟩
        refine ⟨_, rfl, p, _, rfl, .inl hp, _, rfl, q, _, rfl, .inl hq, rfl, _, rfl, ite_f (by rw [xl, yl, decide_eq_true rfl]; rfl) ?_⟩
        refine ⟨_, rfl, q, _, rfl, .inl hq, _, rfl, by omega, by omega, fun D hD => ?_⟩
        refine lc_range (lo := 0) (n := ((ys.length : Nat) : Int).toNat) (fun j H' => Same H H' ∧ H' D = some (.lst ((List.replicate j true).map V.bl))) ⟨same_new hD, upd_same⟩ ?_ ?_
        · rintro j H' hj ⟨s1, h1⟩
          have hj' : j < ds.length := by omega
          obtain ⟨dj, hdj⟩ : ∃ dj, ds[j]? = some dj := ⟨_, List.getElem?_eq_getElem hj'⟩
          obtain ⟨x1, hx1, e1⟩ := DpAll.at hxs hdj
          obtain ⟨y1, hy1, e2⟩ := DpAll.at hys hdj
          have ej : (0 + (j : Int)) = ((j : Nat) : Int) := by omega
          refine ⟨rfl, _, rfl, _, rfl, .inl ⟨p, xs, _, x1, rfl, rfl, s1.seq hp, at_n (j := j) ej hx1, _, rfl, _, rfl, .inl ⟨q, ys, _, y1, rfl, rfl, s1.seq hq, at_n (j := j) ej hy1, ?_⟩⟩⟩
          refine ⟨⟨x1, y1, dj, rfl, Dp.mono s1 _ _ e1, Dp.mono s1 _ _ e2, Nat.le_trans (depthAll_at hdj) hdep', okAll_at hok'.2 hdj, fun H2 s2 => ?_⟩⟩
          have h2 := s2 _ _ h1
          refine ⟨_, h2, smaller 1000000 (by rw [List.length_map, List.length_replicate]; omega) (by decide), same_put (s1.trans s2) hD, ?_⟩
          rw [upd_same, List.replicate_succ', List.map_append]
          rfl
        · rintro H' ⟨s1, h1⟩
          refine ⟨D, List.replicate ((ys.length : Nat) : Int).toNat true, rfl, SqL.of h1, ?_⟩
          have e : (List.replicate ((ys.length : Nat) : Int).toNat true).all id = true := by simp
          rw [e]
          exact k H' s1
      | tuple ds =>
        obtain ⟨p, xs, rfl, hp, hxs⟩ := Dp.tup_inv hv
        obtain ⟨q, ys, rfl, hq, hys⟩ := Dp.tup_inv hu
        have hok' : decide (ds.length ≤ 1000000) = true ∧ okAll ds = true := by
          have : (decide (ds.length ≤ 1000000) && okAll ds) = true := hok
          rw [Bool.and_eq_true] at this
          exact this
        have hl : ds.length ≤ 1000000 := of_decide_eq_true hok'.1
        have hdep' : PyData.depthAll ds ≤ n := by
          have : PyData.depthAll ds + 1 ≤ n + 1 := hdep
          omega
        have xl : xs.length = ds.length := DpAll.len hxs
        have yl : ys.length = ds.length := DpAll.len hys
        have ty1 := SqT.ty hp
        have ty2 := SqT.ty hq
        refine ⟨_, rfl, rfl, _, rfl, ite_f rfl ?_⟩
        refine ⟨_, rfl, _, _, _, _, false, rfl, .ty "bool", ty2, kf (by decide +kernel), _, rfl, iteF ?_⟩
        refine ⟨_, rfl, _, _, _, _, false, rfl, .ty "int", ty2, kf (by decide +kernel), _, rfl, iteF ?_⟩
        refine ⟨_, rfl, _, _, _, _, false, rfl, .ty "str", ty2, kf (by decide +kernel), _, rfl, iteF ?_⟩
        refine ⟨_, rfl, _, _, _, _, true, rfl, .ty "tuple", ty2, kf (by decide +kernel), _, rfl, _, _, _, _, true, rfl, .ty "tuple", ty1, kf (by decide +kernel), rfl, _, rfl, ite_f (by decide) ?_⟩
        refine ⟨_, rfl, _, _, _, _, false, rfl, .ty "list", ty2, kf (by decide +kernel), _, rfl, _, _, _, _, false, rfl, .ty "list", ty1, kf (by decide +kernel), rfl, _, rfl, ite_f (by decide) ?_⟩
        refine ⟨_, rfl, p, _, rfl, .inr hp, _, rfl, q, _, rfl, .inr hq, rfl, _, rfl, ite_f (by rw [xl, yl, decide_eq_true rfl]; rfl) ?_⟩
        refine ⟨_, rfl, q, _, rfl, .inr hq, _, rfl, by omega, by omega, fun D hD => ?_⟩
        refine lc_range (lo := 0) (n := ((ys.length : Nat) : Int).toNat) (fun j H' => Same H H' ∧ H' D = some (.lst ((List.replicate j true).map V.bl))) ⟨same_new hD, upd_same⟩ ?_ ?_
        · rintro j H' hj ⟨s1, h1⟩
          have hj' : j < ds.length := by omega
          obtain ⟨dj, hdj⟩ : ∃ dj, ds[j]? = some dj := ⟨_, List.getElem?_eq_getElem hj'⟩
          obtain ⟨x1, hx1, e1⟩ := DpAll.at hxs hdj
          obtain ⟨y1, hy1, e2⟩ := DpAll.at hys hdj
          have ej : (0 + (j : Int)) = ((j : Nat) : Int) := by omega
          refine ⟨rfl, _, rfl, _, rfl, .inr (.inl ⟨p, xs, _, x1, rfl, rfl, Same.seqT s1 hp, at_n (j := j) ej hx1, _, rfl, _, rfl, .inr (.inl ⟨q, ys, _, y1, rfl, rfl, Same.seqT s1 hq, at_n (j := j) ej hy1, ?_⟩)⟩)⟩
          refine ⟨⟨x1, y1, dj, rfl, Dp.mono s1 _ _ e1, Dp.mono s1 _ _ e2, Nat.le_trans (depthAll_at hdj) hdep', okAll_at hok'.2 hdj, fun H2 s2 => ?_⟩⟩
          have h2 := s2 _ _ h1
          refine ⟨_, h2, smaller 1000000 (by rw [List.length_map, List.length_replicate]; omega) (by decide), same_put (s1.trans s2) hD, ?_⟩
          rw [upd_same, List.replicate_succ', List.map_append]
          rfl
        · rintro H' ⟨s1, h1⟩
          refine ⟨D, List.replicate ((ys.length : Nat) : Int).toNat true, rfl, SqL.of h1, ?_⟩
          have e : (List.replicate ((ys.length : Nat) : Int).toNat true).all id = true := by simp
          rw [e]
          exact k H' s1
end
end Sb

namespace Sb
open PySem PySem.Spec PyProof.Rows L2 TL
/-! ### for sign in "..": text = text.replace(sign, a + sign + b) -/
def rep1 (y1 y2 : Str) (c : Nat) (x : Str) : Str := Txt.replace x ⟨#[c]⟩ (y1 ++ ⟨#[c]⟩ ++ y2)
def repN (y1 y2 : Str) (cs : List Nat) (x : Str) : Str := cs.foldl (fun x c => rep1 y1 y2 c x) x
def tRepl (lo sg : Nat) (y1 y2 lit : Str) : TS := fun D σ H => ∃ x : Str, σ[lo]? = some (some (.str x)) ∧ x.length ≤ 10000 ∧
  ∀ (v : Option V) (rep : Str), rep = repN y1 y2 (tl lit) x → D.nx ((σ.set sg v).set lo (some (.str rep))) H
theorem repN_snoc (y1 y2 : Str) (cs : List Nat) (c : Nat) (x : Str) : repN y1 y2 (cs ++ [c]) x = rep1 y1 y2 c (repN y1 y2 cs x) := by
  unfold repN
  rw [List.foldl_append]
  rfl
theorem take_one {α : Type} : ∀ {l : List α} {i : Nat} {x : α}, l[i]? = some x → l.take (i + 1) = l.take i ++ [x]
  | y :: r, 0, x, h => by simp at h; simp [h]
  | y :: r, i + 1, x, h => by
    have := take_one (l := r) (i := i) (x := x) (by simpa using h)
    simp [this]
section
variable {X : Cx} {pins : List (Addr × Obj)} {σ : L2.St} {H : Hp} {s : Shared}
theorem keep_store {M : Model} {A : Around} {E : Value → Shared → Prop} {i : Nat} {x : Str} {v : V} {u : Value} {Q : Unit → Shared → Prop} {m : Str → Option Value} (I : Inv X pins σ H s) (hn : s.heap.Ns X.env.locals m)
    (hl : ∀ (i : Nat) (x : Str) (v : V), X.N[i]? = some x → σ[i]? = some (some v) → Vis X.env.scope x → ∃ u, RelV v u ∧ Look X.env s.heap m x u)
    (hN : X.N.Nodup) (hi : X.N[i]? = some x) (hk : X.env.kindOf x = some .local) (r : RelV v u)
    (h : ∀ h', Inv X pins (σ.set i (some v)) H { s with heap := h', toks := s.toks + 1 } → Heap.SameBut X.env.locals s.heap h' → h'.Ns X.env.locals (fun y => if y = x then some u else m y) → Q () { s with heap := h', toks := s.toks + 1 }) :
    wpAny M A (storeName X.env x u) Q E s := by
  refine wpAny_storeName_local hk hn (fun g hn' hs => h g ?_ hs hn') (by rw [I.ok.kind]; rfl)
  have low : ∀ {b : Addr} {o : Obj}, X.s_0.heap.get? b = some o → g.get? b = s.heap.get? b := fun e => hs.2 _ (Nat.ne_of_lt (Nat.lt_of_lt_of_le (Heap.lt_size e) I.ok.above))
  have is : i < σ.length := by rw [I.len]; exact (List.getElem?_eq_some_iff.mp hi).1
  refine { ok := I.ok, os := I.os, bare := I.bare, base := ?base, loc := ⟨_, hn', ?loc⟩, cell := ?cell, free := I.free, freeC := I.freeC, pin := ?pin, hok := ?hok, len := ?len }
  case base =>
    exact { keep := fun b o e n f z => (low e).trans (I.base.keep b o e n f z)
            slot := fun b o e n f z => (I.base.slot b o e n f z).imp fun _ q => (low e).trans q
            free := I.base.free
            there := fun b o e z => (I.base.there b o e z).imp fun _ q => (low e).trans q
            tups := I.base.tups, frzs := I.base.frzs, tbls := I.base.tbls }
  case loc =>
    intro j y w hj hw hv
    rcases Nat.decEq j i with ne | rfl
    · rw [List.getElem?_set_ne (Ne.symm ne)] at hw
      obtain ⟨u1, r1, q1⟩ := hl j y w hj hw hv
      refine ⟨u1, r1, ?_⟩
      rcases q1 with ⟨k1, e1⟩ | ⟨k1, c, e1, z1⟩
      · have yx : y ≠ x := fun z => ne (nodup_ix hN hj (by rw [z]; exact hi))
        exact Or.inl ⟨k1, (if_neg yx).trans e1⟩
      · exact Or.inr ⟨k1, c, e1, z1.sameBut hs (I.cne y c e1)⟩
    · rw [List.getElem?_set_self is] at hw
      rw [hi] at hj
      cases hj
      cases hw
      exact ⟨u, r, Or.inl ⟨hk, if_pos rfl⟩⟩
  case cell =>
    intro y c e
    obtain ⟨w, z⟩ := I.cell y c e
    exact ⟨w, z.sameBut hs (I.cne y c e)⟩
  case pin =>
    intro p hp
    obtain ⟨e, n, ne, rest⟩ := I.pin p hp
    exact ⟨(hs.2 p.1 ne).trans e, n, ne, rest⟩
  case hok =>
    intro b ob e
    refine (I.hok b ob e).stay (fun c w hc q => (hs.2 c fun z => ?_).trans q) (fun _ q => q) (fun _ _ q => q)
    have fr := I.free
    rw [← z] at fr
    rcases hc with rfl | hc
    · rw [fr] at e; cases e
    · rw [fr] at hc; cases hc
  case len => rw [List.length_set]; exact I.len
theorem set_mid {α : Type} {l : List α} {i j : Nat} {u v w : α} (h : i ≠ j) : ((l.set j u).set i v).set j w = (l.set j w).set i v := by
  rw [List.set_comm _ _ h, List.set_set]
theorem ps_repl {lo sg : Nat} {xl xs y1 y2 lit : Str} {j j1 j2 : Nat} {p1 p2 p3 p4 p5 cp c1 c2 b1 b2 ap cpos apos pos : Pos} (hp : PassesOwn (model X.prog X.w) X.A X.env X.xe) (hc : X.calm = true) (hN : X.N.Nodup)
    (hl : X.N[lo]? = some xl) (hs : X.N[sg]? = some xs) (hne : lo ≠ sg) (kl : X.env.scope.names.lookup xl = some .local) (ks : X.env.scope.names.lookup xs = some .local)
    (ha : lit.cps.all (· < 128) = true) (h4 : lit.length ≤ 4) (l1 : y1.length = 1) (l2 : y2.length = 1)
    (hd1 : (xl == ("__debug__" : Str)) = false := by decide) (hd2 : (xs == ("__debug__" : Str)) = false := by decide) (hcd : (xl == ("__classdict__" : Str)) = false := by decide)
    (hsw : ∀ v, swapsWith v (some (.Name xl p2)) apos.line X.env = pure false → True := by intros; trivial)
    (hst : starEach [.Name xs p4, .BinOp (.BinOp (.Constant (.str y1) j1 c1) .Add (.Name xs p5) b1) .Add (.Constant (.str y2) j2 c2) b2] X.env = [(false, eval (.Name xs p4) X.env), (false, eval (.BinOp (.BinOp (.Constant (.str y1) j1 c1) .Add (.Name xs p5) b1) .Add (.Constant (.str y2) j2 c2) b2) X.env)] := by rfl)
    (hbase : attributeBase (.Name xl p3) "replace" X.env (eval (.Name xl p3) X.env) = eval (.Name xl p3) X.env := by rfl) (hline : (ap.endLine == cpos.line) = true := by rfl)
    (hsp : swapsWith (.Call (.Attribute (.Name xl p3) "replace" ap) [.Name xs p4, .BinOp (.BinOp (.Constant (.str y1) j1 c1) .Add (.Name xs p5) b1) .Add (.Constant (.str y2) j2 c2) b2] [] cpos) (some (.Name xl p2)) apos.line X.env = pure false := by rfl) :
    PS X (.For (.Name xs p1) (.Constant (.str lit) j cp) [.Assign [.Name xl p2] (.Call (.Attribute (.Name xl p3) "replace" ap) [.Name xs p4, .BinOp (.BinOp (.Constant (.str y1) j1 c1) .Add (.Name xs p5) b1) .Add (.Constant (.str y2) j2 c2) b2] [] cpos) apos] [] pos) (tRepl lo sg y1 y2 lit) := by
  refine ⟨fun pins s σ H D I h => ?_⟩
  obtain ⟨x, hx, hx1, fin⟩ := h
  refine wpAny_For (Calls.Constant_str (wpAny_pyIter_ascii ha ?_)) (fun _ => rfl)
  generalize hs1 : ({ s with toks := s.toks + 1 } : Shared) = s1
  have I1 : Inv X pins σ H s1 := by rw [← hs1]; exact I.tok _
  have t1 : 1 ≤ s1.toks := by rw [← hs1]; show 1 ≤ s.toks + 1; omega
  have hit0 : (s1.heap.push { cls := .type "str_ascii_iterator", data := .fields #[.str lit s.toks, .int 0 0] }).IsStrIter s1.heap.objs.size "str_ascii_iterator" lit s.toks 0 := ⟨_, Heap.get?_push_size _ rfl, rfl, rfl⟩
  have fp : FpOk X pins H s1.heap.objs.size := I1.fpOk (Nat.le_refl _) (I1.hok.fresh (Nat.le_refl _))
  have I2 : Inv X pins σ H { s1 with heap := s1.heap.push { cls := .type "str_ascii_iterator", data := .fields #[.str lit s.toks, .int 0 0] } } := I1.kept (t' := s1.toks) fun b o e => Heap.get?_push_of_some _ e
  generalize s1.heap.objs.size = it at fp hit0 ⊢
  generalize htk : s.toks = tk at hit0 I2 ⊢
  obtain ⟨f0, f1, f2, f3, f4, f5⟩ := fp
  have loσ : lo < σ.length := by rw [I.len]; exact (List.getElem?_eq_some_iff.mp hl).1
  have sgσ : sg < σ.length := by rw [I.len]; exact (List.getElem?_eq_some_iff.mp hs).1
  refine codeAny_forLoop_any (fun n s' => ∃ (i : Nat) (v : Option V), n = lit.length - i ∧ i ≤ lit.length ∧ Inv X pins ((σ.set sg v).set lo (some (.str (repN y1 y2 ((tl lit).take i) x)))) H s' ∧ s'.heap.IsStrIter it "str_ascii_iterator" lit tk i ∧ 1 ≤ s'.toks ∧
    (repN y1 y2 ((tl lit).take i) x).length + 1 ≤ 10001 * 4 ^ i) ?_ lit.length ⟨0, σ[sg], rfl, Nat.zero_le _, ?_, hit0, t1, ?_⟩
  · rintro n s3 ⟨i, v, rfl, hi, I3, it3, t3, len3⟩
    have hsz : lit.length = (tl lit).length := len_tl lit
    by_cases go : i < lit.length
    · have ic : (tl lit)[i]? = some ((tl lit)[i]'(by omega)) := List.getElem?_eq_getElem _
      generalize (tl lit)[i]'(by omega) = c at ic
      have ic' : lit.cps[i]? = some c := by rw [← ic]; exact (Array.getElem?_toList).symm
      refine wpAny_passesOwn hp (wpAny_pyNext_ascii_item it3 ic' fun h4 it4 sb4 => ?_)
      have I4 : Inv X pins _ H { s3 with heap := h4, toks := s3.toks + 1 } := I3.turned (t' := s3.toks + 1) (fun b o hb e => (sb4.2 b hb).trans e) f0 f1 f3 f4 f5
      obtain ⟨oi, oe, oc, od⟩ := id it4
      refine wpAny_passesOwn hp (go_of (s := { s3 with heap := h4, toks := s3.toks + 1 }) oe oc od (by decide) ?_)
      obtain ⟨m4, n4, l4⟩ := id I4.loc
      refine wpAny_passesOwn hp (wpAny_assign_Name (keep_store (v := .str ⟨#[c]⟩) I4 n4 l4 hN hs ks ⟨_, rfl⟩ fun h5 I5 sb5 n5 => ?_))
      have it5 : h5.IsStrIter it "str_ascii_iterator" lit tk (i + 1) := ⟨oi, (sb5.2 it f1).trans oe, oc, od⟩
      rw [set_mid hne] at I5
      have lk : (((σ.set sg (some (V.str ⟨#[c]⟩))).set lo (some (.str (repN y1 y2 ((tl lit).take i) x)))))[lo]? = some (some (.str (repN y1 y2 ((tl lit).take i) x))) := List.getElem?_set_self (by rw [List.length_set]; exact loσ)
      refine wpAny_passesOwn hp (wpAny_execs_cons (wpAny_Assign_Name ?_ hsp))
      refine PySem.Call_method2 hbase hst hline (raw_name hl (Or.inl kl) I5 lk (fun u ru => ?_) hd1 hcd)
      obtain ⟨tx, rfl⟩ := ru
      refine ⟨"str", _, F.plainAttrs_str, F.slot_str_replace, F.type_str_replace, typeIs_str _ _ _, (fun _ e => nomatch e), Calls.callWith_builtin rfl (Calls.evalArgs_plain (Calls.spliced_cons ?_))⟩
      have get : ∀ {E : Value → Shared → Prop} {Q : Value → Shared → Prop} {k : Nat} {p : Pos}, Q (.str ⟨#[c]⟩ s3.toks) { s3 with heap := h5, toks := k } → wpAny (model X.prog X.w) X.A (eval (.Name xs p) X.env) Q E { s3 with heap := h5, toks := k } := fun {E Q k p} q =>
        wpAny_Name (wpAny_loadName_local (s := { s3 with heap := h5, toks := k }) I5.ok.kind ks n5 (if_pos rfl) q) hd2
      refine get (Calls.spliced_cons (wpAny_BinOp (wpAny_BinOp (Calls.Constant_str (get (P.add_str ?_))))))
      have y10 : (y1.length == 0) = false := by rw [l1]; rfl
      have y20 : (y2.length == 0) = false := by rw [l2]; rfl
      have c0 : ((⟨#[c]⟩ : Str).length == 0) = false := rfl
      rw [y10, c0]
      have le1 : (y1 ++ (⟨#[c]⟩ : Str)).length = 2 := by rw [len_app, l1]; rfl
      have le2 : (y1 ++ (⟨#[c]⟩ : Str) ++ y2).length = 3 := by rw [len_app, le1, l2]
      refine ⟨small 2 (by rw [le1]; decide) (by decide), Calls.Constant_str (P.add_str ?_)⟩
      have q0 : ((y1 ++ (⟨#[c]⟩ : Str)).length == 0) = false := by rw [le1]; rfl
      rw [q0, y20]
      refine ⟨small 3 (by rw [le2]; decide) (by decide), Calls.spliced_nil ?_⟩
      have pw : 4 ^ i ≤ 64 := by
        have : i ≤ 3 := by omega
        exact Nat.le_trans (Nat.pow_le_pow_right (by decide) this) (by decide)
      refine SC.replace (by show s3.toks ≠ 0; omega) (by show s3.toks + 1 + 1 + 1 + 1 + 1 ≠ 0; omega) (by show s3.toks ≠ s3.toks + 1 + 1 + 1 + 1 + 1; omega) ?_ ?_ fun t' k => ?_
      · by_cases e : (⟨#[c]⟩ : Str) = y1 ++ ⟨#[c]⟩ ++ y2
        · have := congrArg Str.length e
          rw [le2] at this
          exact absurd this (show ¬ (1 = 3) by decide)
        · exact beq_eq_false_iff_ne.mpr e
      · rw [le2]; omega
      · have I6 := I5.tok k
        obtain ⟨m6, n6, l6⟩ := id I6.loc
        have ts : (tl lit).take (i + 1) = (tl lit).take i ++ [c] := take_one ic
        have re : Txt.replace (repN y1 y2 ((tl lit).take i) x) ⟨#[c]⟩ (y1 ++ ⟨#[c]⟩ ++ y2) = repN y1 y2 ((tl lit).take (i + 1)) x := by rw [ts, repN_snoc]; rfl
        have rl := TK.replace_len (repN y1 y2 ((tl lit).take i) x) ⟨#[c]⟩ (y1 ++ ⟨#[c]⟩ ++ y2)
        rw [le2] at rl
        rw [re] at rl ⊢
        clear re ts
        generalize hR : repN y1 y2 ((tl lit).take (i + 1)) x = R at rl ⊢
        refine keep_store (v := .str R) I6 n6 l6 hN hl kl ⟨t', rfl⟩ (fun h7 I7 sb7 n7 => ?_)
        have it7 : h7.IsStrIter it "str_ascii_iterator" lit tk (i + 1) := ⟨oi, (sb7.2 it f1).trans ((sb5.2 it f1).trans oe), oc, od⟩
        rw [List.set_set] at I7
        refine wpAny_execs_nil ⟨lit.length - (i + 1), by omega, i + 1, some (.str ⟨#[c]⟩), rfl, go, ?_, it7, by show 1 ≤ k + 1; omega, ?_⟩
        · rw [hR]
          exact I7
        · rw [hR, Nat.pow_succ]
          omega
    · have e : lit.cps[i]? = none := Array.getElem?_eq_none (by show lit.length ≤ i; omega)
      refine wpAny_passesOwn hp (wpAny_pyNext_ascii_end (I3.ok.hd hc) it3 e fun h4 eb => ?_)
      have I4 : Inv X pins _ H { s3 with heap := h4, toks := s3.toks } := I3.turned (t' := s3.toks) (fun b o hb e => eb b o hb e) f0 f1 f3 f4 f5
      refine wpAny_passesOwn hp (wpAny_execs_nil ⟨_, H, I4, ?_⟩)
      have e2 : (tl lit).take i = tl lit := List.take_of_length_le (by omega)
      rw [e2]
      exact fin v _ rfl
  · have e0 : (σ.set sg σ[sg]).set lo (some (.str (repN y1 y2 ((tl lit).take 0) x))) = σ := by
      rw [List.set_getElem_self]
      show σ.set lo (some (.str x)) = σ
      have e1 : σ[lo] = some (.str x) := by
        rw [List.getElem?_eq_getElem loσ] at hx
        exact Option.some.inj hx
      rw [← e1, List.set_getElem_self]
    rw [e0]
    exact I2
  · show x.length + 1 ≤ 10001 * 1
    omega
end
end Sb

namespace Sb
open PySem PySem.Spec PyProof.Rows L2 TL
/-! ### the signs set apart, the words -/
def set1 (c d : Nat) : List Nat := if d = c then [32, c, 32] else [d]
theorem rep1_list (c : Nat) (x : Str) : tl (rep1 " " " " c x) = (tl x).flatMap (set1 c) := by
  have e : tl ((" " : Str) ++ ⟨#[c]⟩ ++ " ") = [32, c, 32] := by
    rw [tl_append, tl_append]
    have : tl (" " : Str) = [32] := t_sp
    rw [this]
    rfl
  have h : tl (Txt.replace x ⟨#[c]⟩ ((" " : Str) ++ ⟨#[c]⟩ ++ " ")) = StrLaws.replL [c] [32, c, 32] (tl x) := by
    rw [← e]
    exact StrLaws.replace_list (show 1 ≤ 1 by decide)
  unfold rep1
  rw [h]
  generalize tl x = l
  induction l with
  | nil => rw [StrLaws.replL_nil]; rfl
  | cons d r ih =>
    by_cases hd : d = c
    · subst hd
      rw [StrLaws.replL_hit (by simp) (by simp)]
      show [32, d, 32] ++ StrLaws.replL [d] [32, d, 32] r = set1 d d ++ r.flatMap (set1 d)
      rw [ih]
      unfold set1
      rw [if_pos rfl]
    · rw [StrLaws.replL_miss (by simpa using hd), ih]
      show _ = set1 c d ++ r.flatMap (set1 c)
      have : set1 c d = [d] := if_neg hd
      rw [this]
      rfl
def spread (d : Nat) : List Nat := if d ∈ tl sgnS then [32, d, 32] else [d]
theorem repN_list (x : Str) : tl (repN " " " " (tl sgnS) x) = (tl x).flatMap spread := by
  rw [sgn_list]
  show tl (rep1 " " " " 125 (rep1 " " " " 123 (rep1 " " " " 58 (rep1 " " " " 59 x)))) = _
  rw [rep1_list, rep1_list, rep1_list, rep1_list, List.flatMap_assoc, List.flatMap_assoc, List.flatMap_assoc]
  congr 1
  funext d
  unfold spread
  rw [sgn_list]
  by_cases h1 : d = 59
  · subst h1; rfl
  by_cases h2 : d = 58
  · subst h2; rfl
  by_cases h3 : d = 123
  · subst h3; rfl
  by_cases h4 : d = 125
  · subst h4; rfl
  rw [if_neg (by simp; omega)]
  simp [set1, h1, h2, h3, h4]
/-- a text that splits at blanks and signs into these words, clean at its end -/
inductive Wd : List Nat → List (List Nat) → Prop
  | nil : Wd [] []
  | sp {r : List Nat} {ts : List (List Nat)} : Wd r ts → Wd (32 :: r) ts
  | nl {r : List Nat} {ts : List (List Nat)} : Wd r ts → Wd (10 :: r) ts
  | sg {c : Nat} {r : List Nat} {ts : List (List Nat)} : c ∈ tl sgnS → Wd r ts → Wd (c :: r) ([c] :: ts)
  | ws {w r : List Nat} {ts : List (List Nat)} : w ≠ [] → (∀ c ∈ w, c ∈ tl letS ∨ c ∈ tl digS) → Wd r ts → Wd (w ++ 32 :: r) (w :: ts)
  | wg {w r : List Nat} {c : Nat} {ts : List (List Nat)} : w ≠ [] → (∀ c ∈ w, c ∈ tl letS ∨ c ∈ tl digS) → c ∈ tl sgnS → Wd r ts → Wd (w ++ c :: r) (w :: [c] :: ts)
theorem Wd.app {a b : List Nat} {ts us : List (List Nat)} (h : Wd a ts) (k : Wd b us) : Wd (a ++ b) (ts ++ us) := by
  induction h with
  | nil => exact k
  | sp _ ih => exact .sp ih
  | nl _ ih => exact .nl ih
  | sg hc _ ih => exact .sg hc ih
  | ws h1 h2 _ ih => rw [List.append_assoc]; exact .ws h1 h2 ih
  | wg h1 h2 h3 _ ih => rw [List.append_assoc]; exact .wg h1 h2 h3 ih
theorem low_space : ∀ c : _root_.Fin 128, Unicode.isSpace c.val = (c.val == 32 || decide (9 ≤ c.val ∧ c.val ≤ 13) || decide (28 ≤ c.val ∧ c.val ≤ 31)) := by decide +kernel
theorem no_space {c : Nat} (h1 : 33 ≤ c) (h2 : c ≤ 126) : Unicode.isSpace c = false := by
  have := low_space ⟨c, by omega⟩
  simp only at this
  rw [this]
  simp
  omega
theorem sp32 : Unicode.isSpace 32 = true := by decide +kernel
theorem sp10 : Unicode.isSpace 10 = true := by decide +kernel
theorem word_spread : ∀ {w : List Nat}, (∀ c ∈ w, c ∈ tl letS ∨ c ∈ tl digS) → w.flatMap spread = w ∧ ∀ c ∈ w, Unicode.isSpace c = false
  | [], _ => ⟨rfl, fun _ h => nomatch h⟩
  | c :: r, h => by
    obtain ⟨h1, h2⟩ := word_spread (w := r) (fun d hd => h d (by simp [hd]))
    have hc := h c (by simp)
    rw [mem_let, mem_dig] at hc
    refine ⟨?_, fun d hd => ?_⟩
    · show spread c ++ r.flatMap spread = _
      rw [h1]
      have : spread c = [c] := if_neg (by rw [mem_sgn]; omega)
      rw [this]
      rfl
    · rcases List.mem_cons.mp hd with rfl | hd
      · exact no_space (by omega) (by omega)
      · exact h2 d hd
theorem fold_gap {ws : List (List Nat)} {w : List Nat} {c : Nat} {r : List Nat} (hw : w ≠ []) (hc : Unicode.isSpace c = true) : (c :: r).foldl wstep (ws, w) = r.foldl wstep (ws ++ [w], []) := by
  show r.foldl wstep (wstep (ws, w) c) = _
  unfold wstep
  rw [if_pos hc, if_neg hw]
theorem fold_gap0 {ws : List (List Nat)} {c : Nat} {r : List Nat} (hc : Unicode.isSpace c = true) : (c :: r).foldl wstep (ws, []) = r.foldl wstep (ws, []) := by
  show r.foldl wstep (wstep (ws, []) c) = _
  unfold wstep
  rw [if_pos hc, if_pos rfl]
theorem fold_sign {ws : List (List Nat)} {c : Nat} {r : List Nat} (hc : c ∈ tl sgnS) : (spread c ++ r).foldl wstep (ws, []) = r.foldl wstep (ws ++ [[c]], []) := by
  have e : spread c = [32, c, 32] := if_pos hc
  rw [e]
  show (32 :: c :: 32 :: r).foldl wstep (ws, []) = _
  rw [fold_gap0 sp32]
  rw [mem_sgn] at hc
  have hn : Unicode.isSpace c = false := no_space (by omega) (by omega)
  show (32 :: r).foldl wstep (wstep (ws, []) c) = _
  have e2 : wstep (ws, []) c = (ws, [c]) := by unfold wstep; rw [if_neg (by rw [hn]; decide)]; rfl
  rw [e2, fold_gap (by simp) sp32]
theorem Wd.fold {l : List Nat} {ts : List (List Nat)} (h : Wd l ts) : ∀ ws, (l.flatMap spread).foldl wstep (ws, []) = (ws ++ ts, []) := by
  have s32 : spread 32 = [32] := by unfold spread; rw [if_neg (by rw [mem_sgn]; omega)]
  have s10 : spread 10 = [10] := by unfold spread; rw [if_neg (by rw [mem_sgn]; omega)]
  induction h with
  | nil => intro ws; rw [List.append_nil]; rfl
  | @sp r ts _ ih =>
    intro ws
    show (spread 32 ++ r.flatMap spread).foldl wstep (ws, []) = _
    rw [s32]
    exact (fold_gap0 sp32).trans (ih ws)
  | @nl r ts _ ih =>
    intro ws
    show (spread 10 ++ r.flatMap spread).foldl wstep (ws, []) = _
    rw [s10]
    exact (fold_gap0 sp10).trans (ih ws)
  | @sg c r ts hc _ ih =>
    intro ws
    show (spread c ++ r.flatMap spread).foldl wstep (ws, []) = _
    rw [fold_sign hc, ih, List.append_assoc]
    rfl
  | @ws w r ts h1 h2 _ ih =>
    intro ws
    obtain ⟨e1, e2⟩ := word_spread h2
    rw [List.flatMap_append, e1]
    show (w ++ (spread 32 ++ r.flatMap spread)).foldl wstep (ws, []) = _
    rw [s32, List.foldl_append, wfold_word w ws [] e2]
    show (32 :: r.flatMap spread).foldl wstep (ws, w) = _
    rw [fold_gap h1 sp32, ih, List.append_assoc]
    rfl
  | @wg w r c ts h1 h2 h3 _ ih =>
    intro ws
    obtain ⟨e1, e2⟩ := word_spread h2
    rw [List.flatMap_append, e1]
    show (w ++ (spread c ++ r.flatMap spread)).foldl wstep (ws, []) = _
    rw [List.foldl_append, wfold_word w ws [] e2]
    have e : spread c = [32, c, 32] := if_pos h3
    have f := fold_sign (ws := ws ++ [w]) (r := r.flatMap spread) h3
    rw [e] at f ⊢
    have f0 : ([32, c, 32] ++ r.flatMap spread).foldl wstep (ws, [] ++ w) = (c :: 32 :: r.flatMap spread).foldl wstep (ws ++ [w], []) := fold_gap h1 sp32
    have f1 : ([32, c, 32] ++ r.flatMap spread).foldl wstep (ws ++ [w], []) = (c :: 32 :: r.flatMap spread).foldl wstep (ws ++ [w], []) := fold_gap0 sp32
    rw [f0, ← f1, f, ih, List.append_assoc, List.append_assoc]
    rfl
theorem loose_words {x : Str} {ts : List (List Nat)} (h : Wd (tl x) ts) : (Txt.words (repN " " " " (tl sgnS) x)).map tl = ts := by
  rw [words_tl, repN_list, h.fold []]
  rfl
theorem Wd.join : ∀ {ls : List (List Nat)} {tss : List (List (List Nat))}, Paired Wd ls tss → Wd (joinL [10] ls) tss.flatten
  | _, _, .nil => .nil
  | _, _, .cons h .nil => by
    have := h.app .nil
    rw [List.append_nil] at this
    simpa [joinL] using this
  | _, _, .cons h (.cons k r) => by
    have := h.app (.nl (Wd.join (.cons k r)))
    exact this
end Sb

namespace Sb
open PySem PySem.Spec PyProof.Rows L2 TL
/-! ### tokens with gaps between -/
structure TkOk (t : Tk) : Prop where
  rd : ∀ r, (r = [] ∨ ∃ r', r = 32 :: r') → Rd (t.t ++ r) t r
  no10 : 10 ∉ t.t
  len : t.t.length ≤ 8
theorem head32 {S : List Nat} {r : List Nat} (h : 32 ∉ S) (hr : r = [] ∨ ∃ r', r = 32 :: r') : HeadNot S r := by
  rcases hr with rfl | ⟨r', rfl⟩
  · exact headNot_nil
  · exact headNot_cons h
theorem kw_no10 : ∀ t ∈ kwL, 10 ∉ t := by decide +kernel
theorem kw_len8 : ∀ t ∈ kwL, t.length ≤ 8 := by decide +kernel
theorem tk_kw {s : Str} (hs : s ∈ kwS) : TkOk (kwT s) := ⟨fun r hr => .kw (kw_let _ (mem_tl.mp hs)) (mem_tl.mp hs) (head32 no_let32 hr), kw_no10 _ (mem_tl.mp hs), kw_len8 _ (mem_tl.mp hs)⟩
theorem num_dig {n c : Nat} (hc : c ∈ numL n) : c ∈ tl digS := by
  by_cases h48 : 48 ≤ c ∧ c ≤ 57
  · exact mem_dig.mpr h48
  · exact absurd hc (numL_free (by omega))
theorem tk_num {n : Nat} (hn : n < 100) : TkOk (numT n) := by
  refine ⟨fun r hr => .num (numL_ne n) (fun c hc => num_dig hc) (num_len hn) (fun h1 => ?_) (head32 no_dig32 hr), numL_free (by omega), Nat.le_trans (num_len hn) (by decide)⟩
  have h1 : 1 < (numL n).length := h1
  show (numL n).head? ≠ some 48
  by_cases h10 : n < 10
  · rw [numL_lt h10] at h1
    exact absurd h1 (by simp)
  · rw [numL_step (by omega), numL_lt (by omega)]
    show some (48 + n / 10) ≠ some 48
    intro e
    injection e with e
    omega
theorem tk_sg {c : Nat} (hc : c ∈ tl sgnS) : TkOk (sgT c) := ⟨fun r _ => .sign hc, (by rw [mem_sgn] at hc; show 10 ∉ [c]; simp; omega), by show 1 ≤ 8; decide⟩
structure NmOk (t : List Nat) : Prop where
  l : ∀ c ∈ t, c ∈ tl letS
  h1 : 1 ≤ t.length
  h8 : t.length ≤ 8
  nk : t ∉ kwL
theorem tk_nm {t : List Nat} (h : NmOk t) : TkOk (nmT t) := ⟨fun r hr => .nm h.l h.h1 h.h8 h.nk (head32 no_let32 hr), fun z => by have := h.l _ z; rw [mem_let] at this; omega, h.h8⟩
def Gap (g : List Nat) : Prop := g = [32] ∨ g = [32, 32] ∨ g = [10] ∨ g = [10, 32]
theorem Gap.len {g : List Nat} (h : Gap g) : g.length ≤ 2 := by
  rcases h with rfl | rfl | rfl | rfl <;> decide
/-- a text of gaps and words -/
inductive Gt : List Nat → List (List Nat) → Prop
  | nil : Gt [] []
  | cons {g t r : List Nat} {ts : List (List Nat)} : Gap g → Gt r ts → Gt (g ++ (t ++ r)) (t :: ts)
theorem Gt.snoc {r : List Nat} {ts : List (List Nat)} {g t : List Nat} (h : Gt r ts) (hg : Gap g) : Gt (r ++ g ++ t) (ts ++ [t]) := by
  induction h with
  | nil => have := Gt.cons (t := t) hg .nil; simpa using this
  | @cons g' t' r' ts' h1 _ ih =>
    have := Gt.cons (t := t') h1 ih
    simpa [List.append_assoc] using this
theorem Gt.len {r : List Nat} {ts : List (List Nat)} (h : Gt r ts) (h8 : ∀ t ∈ ts, t.length ≤ 8) : r.length ≤ 10 * ts.length := by
  induction h with
  | nil => exact Nat.le_refl _
  | @cons g' t' r' ts' h1 _ ih =>
    have a := ih (fun t ht => h8 t (by simp [ht]))
    have b := h8 t' (by simp)
    have c := h1.len
    simp only [List.length_append, List.length_cons]
    omega
theorem join_on (g r0 : List Nat) : ∀ rows : List (List Nat), g ++ joinL [10] (r0 :: rows) = joinL [10] ((g ++ r0) :: rows)
  | [] => rfl
  | q :: r => by show g ++ (r0 ++ _) = (g ++ r0) ++ _; rw [List.append_assoc]
theorem gap_rows {r : List Nat} {ws : List (List Nat)} (h : Gt r ws) : ∀ ts : List Tk, ws = ts.map Tk.t → (∀ t ∈ ts, TkOk t) →
    ∃ (r0 : List Nat) (rows : List (List Nat)) (t0 : List Tk) (tss : List (List Tk)), r = joinL [10] (r0 :: rows) ∧ (r0 = [] ∨ ∃ r', r0 = 32 :: r') ∧ (∀ p ∈ r0 :: rows, 10 ∉ p) ∧ Lx r0 t0 ∧ Paired Lx rows tss ∧ t0 ++ tss.flatten = ts := by
  induction h with
  | nil =>
    intro ts e _
    cases ts with
    | nil => exact ⟨[], [], [], [], rfl, .inl rfl, (fun p hp => by simp at hp; rw [hp]; simp), .nil, .nil, rfl⟩
    | cons _ _ => cases e
  | @cons g t r ws hg _ ih =>
    intro ts e ho
    cases ts with
    | nil => cases e
    | cons tk ts =>
      injection e with e1 e2
      subst e1
      obtain ⟨r0, rows, t0, tss, h1, h2, h3, h4, h5, h6⟩ := ih ts e2 (fun t ht => ho t (by simp [ht]))
      have hk := ho tk (by simp)
      have base : Lx (tk.t ++ r0) (tk :: t0) := .tok (hk.rd r0 h2) h4
      have n0 : 10 ∉ tk.t ++ r0 := by simp only [List.mem_append, not_or]; exact ⟨hk.no10, h3 r0 (by simp)⟩
      rw [h1, join_on]
      rcases hg with rfl | rfl | rfl | rfl
      · refine ⟨32 :: (tk.t ++ r0), rows, tk :: t0, tss, join_on [32] _ _, .inr ⟨_, rfl⟩, fun p hp => ?_, .sp base, h5, by rw [List.cons_append, h6]⟩
        rcases List.mem_cons.mp hp with rfl | hp
        · simp only [List.mem_cons, not_or]; exact ⟨by decide, n0⟩
        · exact h3 p (by simp [hp])
      · refine ⟨32 :: 32 :: (tk.t ++ r0), rows, tk :: t0, tss, join_on [32, 32] _ _, .inr ⟨_, rfl⟩, fun p hp => ?_, .sp (.sp base), h5, by rw [List.cons_append, h6]⟩
        rcases List.mem_cons.mp hp with rfl | hp
        · simp only [List.mem_cons, not_or]; exact ⟨by decide, by decide, n0⟩
        · exact h3 p (by simp [hp])
      · refine ⟨[], (tk.t ++ r0) :: rows, [], (tk :: t0) :: tss, rfl, .inl rfl, fun p hp => ?_, .nil, .cons base h5, by rw [List.flatten_cons, List.nil_append, List.cons_append, h6]⟩
        rcases List.mem_cons.mp hp with rfl | hp
        · simp
        · rcases List.mem_cons.mp hp with rfl | hp
          · exact n0
          · exact h3 p (by simp [hp])
      · refine ⟨[], (32 :: (tk.t ++ r0)) :: rows, [], (tk :: t0) :: tss, ?_, .inl rfl, fun p hp => ?_, .nil, .cons (.sp base) h5, by rw [List.flatten_cons, List.nil_append, List.cons_append, h6]⟩
        · show [10] ++ ([32] ++ joinL [10] ((tk.t ++ r0) :: rows)) = [] ++ ([10] ++ joinL [10] ((32 :: (tk.t ++ r0)) :: rows))
          rw [join_on]
          rfl
        · rcases List.mem_cons.mp hp with rfl | hp
          · simp
          · rcases List.mem_cons.mp hp with rfl | hp
            · simp only [List.mem_cons, not_or]; exact ⟨by decide, n0⟩
            · exact h3 p (by simp [hp])
theorem join_part (S : List Nat) : ∀ (l : List (List Nat)) (p : List Nat), p ∈ l → p.length ≤ (joinL S l).length
  | [q], p, h => by rw [List.mem_singleton.mp h]; exact Nat.le_refl _
  | q :: q2 :: r, p, h => by
    have ih := join_part S (q2 :: r)
    show _ ≤ (q ++ (S ++ joinL S (q2 :: r))).length
    simp only [List.length_append]
    rcases List.mem_cons.mp h with rfl | h
    · omega
    · have := ih p h; omega
/-! ### labels -/
structure LNm (ls : LStep) : Prop where
  w8 : ls.w < 8
  lab : ∀ t, ls.lab = some t → NmOk t
  tgt : ∀ t, ls.tgt = some t → NmOk t
theorem step_tks {ls : LStep} (h : LNm ls) : ∀ t ∈ stepT ls, TkOk t := by
  intro t ht
  unfold stepT at ht
  rcases List.mem_append.mp ht with ht | ht
  · cases e : ls.lab with
    | none => rw [e] at ht; cases ht
    | some u =>
      rw [e] at ht
      rcases List.mem_cons.mp ht with rfl | ht
      · exact tk_nm (h.lab u e)
      · rw [List.mem_singleton.mp ht]; exact tk_sg sg58
  · rcases List.mem_cons.mp ht with rfl | ht
    · exact tk_kw (w_kw h.w8)
    · rcases List.mem_append.mp ht with ht | ht
      · cases e : ls.tgt with
        | none => rw [e] at ht; cases ht
        | some u => rw [e] at ht; rw [List.mem_singleton.mp ht]; exact tk_nm (h.tgt u e)
      · rw [List.mem_singleton.mp ht]; exact tk_sg sg59
theorem robot_tks {n : Nat} {l : List LStep} (hn : n < 100) (h : ∀ s ∈ l, LNm s) : ∀ t ∈ robotT n l, TkOk t := by
  intro t ht
  unfold robotT at ht
  rcases List.mem_cons.mp ht with rfl | ht
  · exact tk_kw robot_kw
  rcases List.mem_cons.mp ht with rfl | ht
  · exact tk_num hn
  rcases List.mem_cons.mp ht with rfl | ht
  · exact tk_sg sg123
  rcases List.mem_append.mp ht with ht | ht
  · obtain ⟨s, hs, ht⟩ := List.mem_flatMap.mp ht
    exact step_tks (h s hs) t ht
  · rw [List.mem_singleton.mp ht]; exact tk_sg sg125
theorem plan_tks {x : Pl} {l1 l2 : List LStep} (hx : x.Ok) (h1 : ∀ s ∈ l1, LNm s) (h2 : ∀ s ∈ l2, LNm s) : ∀ t ∈ planT x l1 l2, TkOk t := by
  intro t ht
  have c12 := hx.c12
  have ha := hx.ha
  have hb := hx.hb
  unfold planT at ht
  rcases List.mem_cons.mp ht with rfl | ht
  · exact tk_kw shelf_kw
  rcases List.mem_append.mp ht with ht | ht
  · obtain ⟨n, hn, rfl⟩ := List.mem_map.mp ht
    have := hx.b3 n hn
    exact tk_num (by omega)
  rcases List.mem_cons.mp ht with rfl | ht
  · exact tk_sg sg59
  rcases List.mem_append.mp ht with ht | ht
  · exact robot_tks (by omega) h1 t ht
  · exact robot_tks (by omega) h2 t ht
theorem planT_len2 {x : Pl} {l1 l2 : List LStep} (h : x.shelf.length ≤ 12) (h1 : l1.length ≤ 20) (h2 : l2.length ≤ 20) : (planT x l1 l2).length ≤ 222 := by
  have a := flat_stepT l1
  have b := flat_stepT l2
  unfold planT robotT
  simp only [List.length_cons, List.length_append, List.length_map, List.length_nil]
  omega
theorem loads_gap {x : Pl} {l1 l2 : List LStep} {src : Str} (hx : x.Ok) (o1 : LOk l1 x.p) (o2 : LOk l2 x.q) (h1 : ∀ s ∈ l1, LNm s) (h2 : ∀ s ∈ l2, LNm s) (h : Gt (tl src) ((planT x l1 l2).map Tk.t)) : Loads src x := by
  have tk := plan_tks hx h1 h2
  obtain ⟨r0, rows, t0, tss, e1, e2, e3, e4, e5, e6⟩ := gap_rows h _ rfl tk
  have hl := h.len (fun t ht => by obtain ⟨k, hk, rfl⟩ := List.mem_map.mp ht; exact (tk k hk).len)
  rw [List.length_map] at hl
  have pl := planT_len2 hx.c12 o1.le o2.le
  refine ⟨⟨l1, l2, r0 :: rows, t0 :: tss, e1, by simp, e3, fun r hr => ?_, by omega, .cons e4 e5, e6, o1, o2⟩⟩
  have := join_part [10] _ r hr
  rw [← e1] at this
  omega
/-! ### the loose lines -/
def labX : Option (List Nat) → List Nat
  | none => []
  | some t => t ++ [58, 32]
def tgtX : Option (List Nat) → List Nat
  | none => []
  | some t => 32 :: t
def lineL (ls : LStep) : List Nat := labX ls.lab ++ wL ls.w ++ tgtX ls.tgt ++ [59]
def lrobL (n : Nat) (l : List LStep) : List (List Nat) := ([114, 111, 98, 111, 116, 32] ++ numL n ++ [32, 123]) :: (l.map lineL ++ [[125]])
def lookL (x : Pl) (l1 l2 : List LStep) : List (List Nat) := shelfL x.shelf :: (lrobL x.a l1 ++ lrobL x.b l2)
theorem nm_word {t : List Nat} (h : NmOk t) : t ≠ [] ∧ ∀ c ∈ t, c ∈ tl letS ∨ c ∈ tl digS :=
  ⟨fun e => by have := h.h1; rw [e] at this; exact absurd this (by decide), fun c hc => .inl (h.l c hc)⟩
theorem kw_word {s : Str} (h : s ∈ kwS) : tl s ≠ [] ∧ ∀ c ∈ tl s, c ∈ tl letS ∨ c ∈ tl digS :=
  ⟨fun e => by have := kw_len _ (mem_tl.mp h); rw [e] at this; exact absurd this (by decide), fun c hc => .inl (kw_let _ (mem_tl.mp h) c hc)⟩
theorem num_word (n : Nat) : numL n ≠ [] ∧ ∀ c ∈ numL n, c ∈ tl letS ∨ c ∈ tl digS := ⟨numL_ne n, fun c hc => .inr (num_dig hc)⟩
theorem wd_line {ls : LStep} (h : LNm ls) : Wd (lineL ls) ((stepT ls).map Tk.t) := by
  have kw := kw_word (w_kw h.w8)
  have tail : Wd (wL ls.w ++ (tgtX ls.tgt ++ [59])) ((kwT (wS ls.w) :: (tgtT ls.tgt ++ [sgT 59])).map Tk.t) := by
    cases e : ls.tgt with
    | none => exact .wg kw.1 kw.2 sg59 .nil
    | some t =>
      have nw := nm_word (h.tgt t e)
      exact .ws kw.1 kw.2 (.wg nw.1 nw.2 sg59 .nil)
  unfold lineL stepT
  rw [List.append_assoc, List.append_assoc]
  cases e : ls.lab with
  | none => exact tail
  | some t =>
    have nw := nm_word (h.lab t e)
    have := Wd.wg nw.1 nw.2 sg58 (.sp tail)
    simpa [List.append_assoc, labT, labX, nmT, sgT] using this
theorem wd_nums : ∀ (l : List Nat), l ≠ [] → Wd (joinL [32] (l.map numL) ++ [59]) ((l.map numT ++ [sgT 59]).map Tk.t)
  | [], h => absurd rfl h
  | [n], _ => .wg (num_word n).1 (num_word n).2 sg59 .nil
  | n :: m :: r, _ => by
    have ih := wd_nums (m :: r) (by simp)
    show Wd ((numL n ++ ([32] ++ joinL [32] ((m :: r).map numL))) ++ [59]) _
    rw [List.append_assoc, List.append_assoc]
    exact .ws (num_word n).1 (num_word n).2 ih
theorem wd_shelf {l : List Nat} (h : l ≠ []) : Wd (shelfL l) ((kwT "shelf" :: (l.map numT ++ [sgT 59])).map Tk.t) := by
  have e : shelfL l = tl (Str.ofString "shelf") ++ (32 :: (joinL [32] (l.map numL) ++ [59])) := by
    have e1 : tl (Str.ofString "shelf") = [115, 104, 101, 108, 102] := by decide +kernel
    rw [e1]
    unfold shelfL
    simp
  rw [e]
  exact .ws (kw_word shelf_kw).1 (kw_word shelf_kw).2 (wd_nums l h)
theorem wd_head (n : Nat) : Wd ([114, 111, 98, 111, 116, 32] ++ numL n ++ [32, 123]) ([kwT "robot", numT n, sgT 123].map Tk.t) := by
  have e : [114, 111, 98, 111, 116, 32] ++ numL n ++ [32, 123] = tl (Str.ofString "robot") ++ (32 :: (numL n ++ (32 :: [123]))) := by
    have e1 : tl (Str.ofString "robot") = [114, 111, 98, 111, 116] := by decide +kernel
    rw [e1]
    simp
  rw [e]
  exact .ws (kw_word robot_kw).1 (kw_word robot_kw).2 (.ws (num_word n).1 (num_word n).2 (.sg sg123 .nil))
theorem wd_lines : ∀ {l : List LStep}, (∀ s ∈ l, LNm s) → Paired Wd (l.map lineL) (l.map fun s => (stepT s).map Tk.t)
  | [], _ => .nil
  | s :: r, h => .cons (wd_line (h s (by simp))) (wd_lines fun t ht => h t (by simp [ht]))
theorem wd_robot {n : Nat} {l : List LStep} (h : ∀ s ∈ l, LNm s) : ∃ tss, Paired Wd (lrobL n l) tss ∧ tss.flatten = (robotT n l).map Tk.t := by
  refine ⟨_, .cons (wd_head n) (Paired.snoc (wd_lines h) (.sg sg125 .nil)), ?_⟩
  unfold robotT
  simp [List.flatMap_def, List.map_flatten, Function.comp_def, sgT]
theorem wd_plan {x : Pl} {l1 l2 : List LStep} (hx : x.Ok) (h1 : ∀ s ∈ l1, LNm s) (h2 : ∀ s ∈ l2, LNm s) : Wd (joinL [10] (lookL x l1 l2)) ((planT x l1 l2).map Tk.t) := by
  have hne : x.shelf ≠ [] := fun e => by have := hx.c3; rw [e] at this; exact absurd this (by decide)
  obtain ⟨t1, p1, e1⟩ := wd_robot (n := x.a) h1
  obtain ⟨t2, p2, e2⟩ := wd_robot (n := x.b) h2
  have := Wd.join (.cons (wd_shelf hne) (Paired.app p1 p2))
  rw [List.flatten_cons, List.flatten_append, e1, e2] at this
  unfold lookL planT
  simpa [List.append_assoc] using this
end Sb

namespace Sb
open PySem PySem.Spec PyProof.Rows L2 TL
/-! ### labels by names -/
structure Lab (ns : List (List Nat)) (gs : List Nat) (k : Nat) (s : Step) (l : LStep) : Prop where
  w : l.w = s.w
  tgt : l.tgt = s.g.map fun g => ns.getD g []
  lab : l.lab = some (ns.getD k []) ∨ (l.lab = none ∧ k ∉ gs)
structure Labs (ns : List (List Nat)) (ss : List Step) (ls : List LStep) : Prop where
  len : ls.length = ss.length
  at_ : ∀ i s l, ss[i]? = some s → ls[i]? = some l → Lab ns (goalsOf ss) i s l
structure Nms (ns : List (List Nat)) : Prop where
  len : ns.length = 8
  nd : ns.Nodup
  ok : ∀ n ∈ ns, NmOk n
theorem Nms.get {ns : List (List Nat)} (h : Nms ns) {i : Nat} (hi : i < 8) : ns[i]? = some (ns.getD i []) ∧ NmOk (ns.getD i []) := by
  have hl := h.len
  have e : ns[i]? = some (ns[i]'(by omega)) := List.getElem?_eq_getElem _
  have e2 : ns.getD i [] = ns[i]'(by omega) := by rw [List.getD_eq_getElem?_getD, e]; rfl
  rw [e2]
  exact ⟨e, h.ok _ (List.getElem_mem _)⟩
theorem Nms.inj {ns : List (List Nat)} (h : Nms ns) {i j : Nat} (hi : i < 8) (hj : j < 8) (e : ns.getD i [] = ns.getD j []) : i = j := by
  have hl := h.len
  have a := (h.get hi).1
  have b := (h.get hj).1
  rw [e] at a
  obtain ⟨h1, e1⟩ := List.getElem?_eq_some_iff.mp a
  obtain ⟨h2, e2⟩ := List.getElem?_eq_some_iff.mp b
  exact (List.getElem_inj h.nd).mp (e1.trans e2.symm)
theorem labs_ok {ns : List (List Nat)} {ss : List Step} {ls : List LStep} (hn : Nms ns) (h : StepsOk ss) (h8 : ss.length ≤ 8) (hL : Labs ns ss ls) : LOk ls ss ∧ ∀ l ∈ ls, LNm l := by
  have get : ∀ {i : Nat} {l : LStep}, ls[i]? = some l → ∃ s, ss[i]? = some s ∧ Lab ns (goalsOf ss) i s l ∧ i < 8 ∧ Step.Ok ss.length s := fun {i l} e => by
    have hi := (List.getElem?_eq_some_iff.mp e).1
    have hi2 : i < ss.length := by rw [← hL.len]; exact hi
    have e2 : ss[i]? = some ss[i] := List.getElem?_eq_getElem hi2
    exact ⟨_, e2, hL.at_ i _ l e2 e, by omega, h.all _ (List.getElem_mem _)⟩
  have goal : ∀ {s : Step} {g : Nat}, s ∈ ss → s.g = some g → g < ss.length := fun {s g} hs hg => by
    have ok := h.all s hs
    have h5 : 5 ≤ s.w := by
      by_cases h5 : s.w < 5
      · rw [ok.no h5] at hg; cases hg
      · omega
    obtain ⟨k2, e2, h2⟩ := ok.yes h5
    rw [hg] at e2
    cases e2
    exact h2
  refine ⟨⟨by rw [hL.len]; exact h.pos, by rw [hL.len]; exact h.le, ?_, ?_, ?_⟩, ?_⟩
  · intro l hl
    obtain ⟨i, hi⟩ := List.getElem?_of_mem hl
    obtain ⟨s, hs, L, i8, ok⟩ := get hi
    refine ⟨by rw [L.w]; exact ok.w8, fun h5 => ?_, fun h5 => ?_, fun z => ?_⟩
    · rw [L.tgt, ok.no (by rw [← L.w]; exact h5)]; rfl
    · obtain ⟨k, hk, _⟩ := ok.yes (by rw [← L.w]; exact h5)
      exact ⟨_, by rw [L.tgt, hk]; rfl⟩
    · rcases L.lab with e | ⟨e, _⟩
      · rw [e] at z
        injection z with z
        have := (hn.get i8).2.l 125 (by rw [z]; simp)
        rw [mem_let] at this
        omega
      · rw [e] at z; cases z
  · intro i l t hi ht hm
    obtain ⟨m, hm⟩ := List.getElem?_of_mem hm
    unfold labsOf at hm
    rw [List.getElem?_map, List.getElem?_take] at hm
    by_cases hmi : m < i
    · rw [if_pos hmi] at hm
      cases e2 : ls[m]? with
      | none => rw [e2] at hm; cases hm
      | some l2 =>
        rw [e2] at hm
        have em : l2.lab = some t := Option.some.inj hm
        obtain ⟨s1, _, L1, i1, _⟩ := get hi
        obtain ⟨s2, _, L2, i2, _⟩ := get e2
        rcases L1.lab with a | ⟨a, _⟩
        · rcases L2.lab with b | ⟨b, _⟩
          · rw [ht] at a
            rw [em] at b
            have := hn.inj i1 i2 (Option.some.inj (a.symm.trans b))
            omega
          · rw [em] at b; cases b
        · rw [ht] at a; cases a
    · rw [if_neg hmi] at hm; cases hm
  · refine paired_of hL.len fun i l s hl hs => ?_
    have L := hL.at_ i s l hs hl
    refine ⟨L.w.symm, fun hnn => ?_, fun t ht => ?_⟩
    · rw [L.tgt] at hnn
      cases hg : s.g with
      | none => rfl
      | some g => rw [hg] at hnn; cases hnn
    · rw [L.tgt] at ht
      cases hg : s.g with
      | none => rw [hg] at ht; cases ht
      | some g =>
        rw [hg] at ht
        have et : ns.getD g [] = t := Option.some.inj ht
        subst et
        have hgl := goal (List.mem_of_getElem? hs) hg
        have hgm : g ∈ goalsOf ss := List.mem_filterMap.mpr ⟨s, List.mem_of_getElem? hs, hg⟩
        refine ⟨g, rfl, ?_, fun m hm e => ?_⟩
        · have e1 : ls[g]? = some (ls[g]'(by rw [hL.len]; exact hgl)) := List.getElem?_eq_getElem _
          obtain ⟨s2, _, L2, _, _⟩ := get e1
          unfold labsOf
          rw [List.getElem?_map, e1]
          rcases L2.lab with b | ⟨_, b⟩
          · show some _ = _
            rw [b]
          · exact absurd hgm b
        · unfold labsOf at e
          rw [List.getElem?_map] at e
          cases e2 : ls[m]? with
          | none => rw [e2] at e; cases e
          | some l2 =>
            rw [e2] at e
            have em : l2.lab = some (ns.getD g []) := Option.some.inj e
            obtain ⟨s2, _, L2, i2, _⟩ := get e2
            rcases L2.lab with b | ⟨b, _⟩
            · rw [em] at b
              have := hn.inj (i := g) (by omega) i2 (Option.some.inj b)
              omega
            · rw [em] at b; cases b
  · intro l hl
    obtain ⟨i, hi⟩ := List.getElem?_of_mem hl
    obtain ⟨s, hs, L, i8, ok⟩ := get hi
    refine ⟨by rw [L.w]; exact ok.w8, fun t ht => ?_, fun t ht => ?_⟩
    · rcases L.lab with e | ⟨e, _⟩
      · rw [e] at ht
        rw [← Option.some.inj ht]
        exact (hn.get i8).2
      · rw [e] at ht; cases ht
    · rw [L.tgt] at ht
      cases hg : s.g with
      | none => rw [hg] at ht; cases ht
      | some g =>
        rw [hg] at ht
        have et : ns.getD g [] = t := Option.some.inj ht
        rw [← et]
        have := goal (List.mem_of_getElem? hs) hg
        exact (hn.get (by omega)).2
def nms8 : List Str := ["a", "bb", "abcdefgh", "x", "sa", "sb", "sc", "y"]
theorem nms_perm {ys : List Str} (h : ys.Perm nms8) : Nms (ys.map tl) := by
  have hp : (ys.map tl).Perm (nms8.map tl) := h.map tl
  refine ⟨by rw [hp.length_eq]; rfl, hp.nodup_iff.mpr (by decide +kernel), fun n hn => ?_⟩
  have hm := hp.mem_iff.mp hn
  have all : ∀ n ∈ nms8.map tl, (∀ c ∈ n, c ∈ tl letS) ∧ 1 ≤ n.length ∧ n.length ≤ 8 ∧ n ∉ kwL := by decide +kernel
  obtain ⟨a, b, c, d⟩ := all n hm
  exact ⟨a, b, c, d⟩
theorem perm_out {α : Type} : ∀ {l : List α} {k : Nat} {y : α}, l[k]? = some y → (y :: l.eraseIdx k).Perm l
  | z :: r, 0, y, h => by
    have e : z = y := by simpa using h
    subst e
    exact .refl _
  | z :: r, k + 1, y, h => by
    have ih := perm_out (l := r) (k := k) (y := y) (by simpa using h)
    exact (List.Perm.swap z y _).trans (List.Perm.cons z ih)
theorem perm_take {α : Type} {l done : List α} {full : List α} {k : Nat} {y : α} (h : (done ++ l).Perm full) (hy : l[k]? = some y) : ((done ++ [y]) ++ l.eraseIdx k).Perm full := by
  rw [List.append_assoc]
  exact (List.Perm.append_left done (perm_out hy)).trans h
/-! ### the items in another order -/
structure spShuf (K : PySem.W.Frag) (vs : List V) (H : Hp) (Q : VK) (E : XK) : Prop where
  ex : ∃ (d p : Addr) (G : Hp) (xs : List Str), vs = [.ref d, .ref p] ∧ SqL K G p (xs.map V.str) ∧ xs.length ≤ 100 ∧ (∀ x ∈ xs, PyData.strOk x = true) ∧
    Drawn d G H Q fun G' v => ∃ (q : Addr) (ys : List Str), v = .ref q ∧ SqL K G' q (ys.map V.str) ∧ ys.Perm xs
theorem shuf_go {K : PySem.W.Frag} {d p : Addr} {xs : List Str} {G0 H0 G H : Hp} {Q : VK} {E : XK} (h : At d G0 H0 G H) (hp : SqL K G p (xs.map V.str)) (hl : xs.length ≤ 100) (ho : ∀ x ∈ xs, PyData.strOk x = true)
    (k : ∀ (G1 H1 : Hp) (q : Addr) (ys : List Str), At d G0 H0 G1 H1 → At d G H G1 H1 → SqL K G1 q (ys.map V.str) → ys.Perm xs → Q (.ref q) H1) : spShuf K [.ref d, .ref p] H Q E :=
  ⟨⟨d, p, G, xs, rfl, hp, hl, ho, h.now, fun G' H' v A ⟨q, ys, e, hq, hy⟩ => by subst e; exact k G' H' q ys (h.trans A) A hq hy⟩⟩
theorem eraseIdx_map {α β : Type} (f : α → β) : ∀ (l : List α) (i : Nat), (l.map f).eraseIdx i = (l.eraseIdx i).map f
  | [], i => by simp
  | x :: r, 0 => rfl
  | x :: r, i + 1 => by simp [eraseIdx_map f r i]
section
variable {P : Program} {w : World} {K : PySem.W.Frag} {mg : Str → Option Value} {base : Heap} {a : Ad}
theorem ok_l_shuffled (T : Txt K mg a) : FnOk P w K mg base CX0 2 a.f_l_shuffled a.d_l_shuffled ["_law_d", "_law_items"] (spShuf K) := by
  refine T.F_l_shuffled.ok sc_l_shuffled (fun vs H Q E h => ?_) (fun cdv A outer s H vs Q E hr h => ?_)
  · obtain ⟨⟨d, p, G, m, rfl, _⟩⟩ := h
    rfl
  · obtain ⟨⟨d, p, G, xs, rfl, hp, hxl, hok, hN, k⟩⟩ := h
    refine ⟨_, (pss_cons (ps_set (i := 2) sc_l_shuffled.nd rfl (Or.inl rfl) (pe_callTy call_list_of (by rfl) T.z_list (by decide +kernel) (pa_cons (pv 1) pa_nil)))
      (pss_cons (ps_set (i := 3) sc_l_shuffled.nd rfl (Or.inl rfl) (pe_lst pa_nil))
      (pss_cons (ps_while PassesOwn.never (pt_cmpR (op_neD hr.units) (pv 2) (pe_lst pa_nil) (nomark _)) (pss_one (ps_expr (pe_bm PySem.F.plainAttrs_list PySem.F.slot_list_append PySem.F.type_list_append mt_append (pv 3) (pa_cons (pe_bm PySem.F.plainAttrs_list PySem.F.slot_list_pop PySem.F.type_list_pop mt_popAt (pv 2) (pa_cons (pe_call (ok_l_below T) (hr.mono (by decide)) rfl T.m_l_below T.F_l_below.kp (b_l_below T) .nil pass0 (pa_cons (pv 0) (pa_cons (pe_callB call_len_seq (by rfl) T.z_len (by decide +kernel) (pa_cons (pv 2) pa_nil)) pa_nil))) pa_nil)) pa_nil)))))
      (pss_one (ps_ret (pv 3)))))), ?_⟩
    refine ⟨_, rfl, p, _, rfl, .inl (hN.s.seq hp), fun l hl => ?_⟩
    have A1 := hN.at.lay hl (.lst (xs.map V.str))
    have lG : G l = none := Same.free hN.s hl
    have ld : l ≠ d := hN.ne hl
    refine ⟨Nat.zero_le _, fun r hr' => ?_⟩
    have A2 := A1.lay hr' (.lst [])
    have rl : l ≠ r := ne_of_none upd_same hr'
    have r0 : H r = none := by rw [← hr']; exact (upd_ne rl.symm).symm
    have rG : G r = none := Same.free hN.s r0
    have rd : r ≠ d := hN.ne r0
    refine while_by (fun σ H' => ∃ (done pool : List Str), σ = [some (.ref d), some (.ref p), some (.ref l), some (.ref r)] ∧ At d G H G H' ∧ H' l = some (.lst (pool.map V.str)) ∧ H' r = some (.lst (done.map V.str)) ∧ (done ++ pool).Perm xs)
      (fun σ H' => match H' l with | some (.lst ys) => ys.length | _ => 0) ⟨[], xs, rfl, A2, by rw [upd_ne rl, upd_same], upd_same, .refl _⟩ ?_ ?_
    · rintro σ H1 ⟨done, pool, rfl, B, h1, h2, hperm⟩
      have pl : done.length + pool.length ≤ 100 := by rw [← List.length_append, hperm.length_eq]; exact hxl
      have shp := shaped_of (ds := pool.map PyData.str) (fun d hd => by
        obtain ⟨x, hx, rfl⟩ := List.mem_map.mp hd
        exact str_lay (hok x (hperm.mem_iff.mp (List.mem_append_right _ hx))))
      refine ⟨_, rfl, Nat.zero_le _, fun e1 he1 => ?_⟩
      have B1 := B.lay he1 (.lst [])
      have h1' : (upd H1 e1 (.lst [])) l = some (.lst (pool.map V.str)) := by rw [upd_ne (ne_of_none h1 he1)]; exact h1
      have h2' : (upd H1 e1 (.lst [])) r = some (.lst (done.map V.str)) := by rw [upd_ne (ne_of_none h2 he1)]; exact h2
      refine ⟨.list (pool.map PyData.str), .list [], .lst (SqL.of h1') (DpAll.strs _), .lst (SqL.of upd_same) .nil, shp.1, by decide, _, rfl, ?_⟩
      revert B1 h1' h2'
      generalize upd H1 e1 (.lst []) = H2
      intro B1 h1' h2'
      cases pool with
      | nil =>
        refine ite_f rfl ?_
        refine ⟨_, rfl, ?_⟩
        have B2 := B1.freeze r0 h2' rd
        rw [List.append_nil] at hperm
        exact k _ _ _ B2 ⟨r, done, rfl, SqL.of upd_same, hperm⟩
      | cons y0 pr =>
        refine ite_t rfl ?_
        have pz : ((y0 :: pr).map V.str).length = pr.length + 1 := by rw [List.length_map]; rfl
        have pl2 : done.length + (pr.length + 1) ≤ 100 := pl
        refine ⟨_, rfl, .inl ⟨rfl, _, SqL.of h2'⟩, _, rfl, .inl ⟨rfl, _, SqL.of h1'⟩, _, rfl, _, rfl, l, _, rfl, .inl (SqL.of h1'), draw_go B1 (by rw [pz]; omega) (by rw [pz]; omega) fun H3 i B3 K3 hi => ?_⟩
        rw [pz] at hi
        have hi2 : i < (y0 :: pr).length := by show i < pr.length + 1; omega
        have h1'' : H3 l = some (.lst ((y0 :: pr).map V.str)) := by rw [K3 l ld]; exact h1'
        have h2'' : H3 r = some (.lst (done.map V.str)) := by rw [K3 r rd]; exact h2'
        have hy : (y0 :: pr)[i]? = some (y0 :: pr)[i] := List.getElem?_eq_getElem hi2
        generalize (y0 :: pr)[i] = y at hy
        have hyV : ((y0 :: pr).map V.str)[i]? = some (.str y) := by rw [List.getElem?_map, hy]; rfl
        refine ⟨l, _, (i : Int), i, .str y, rfl, rfl, h1'', by omega, by omega, sq_nat (by rw [pz]; omega), hyV, ?_⟩
        have B4 := B3.put hl lG ld (.lst (((y0 :: pr).map V.str).eraseIdx i))
        have h4 : (upd H3 l (.lst (((y0 :: pr).map V.str).eraseIdx i))) r = some (.lst (done.map V.str)) := by rw [upd_ne rl.symm]; exact h2''
        refine ⟨r, _, _, rfl, rfl, h4, smaller 100 (by rw [List.length_map]; omega) (by decide), ?_, ?_⟩
        · refine ⟨done ++ [y], (y0 :: pr).eraseIdx i, rfl, B4.put r0 rG rd _, ?_, ?_, perm_take hperm hy⟩
          · rw [upd_ne rl, upd_same, eraseIdx_map]
          · rw [upd_same, List.map_append]; rfl
        · have e1 : (upd (upd H3 l (.lst (((y0 :: pr).map V.str).eraseIdx i))) r (.lst (done.map V.str ++ [.str y]))) l = some (.lst (((y0 :: pr).map V.str).eraseIdx i)) := by rw [upd_ne rl, upd_same]
          show (match (upd (upd H3 l (.lst (((y0 :: pr).map V.str).eraseIdx i))) r (.lst (done.map V.str ++ [.str y]))) l with | some (.lst ys) => ys.length | _ => 0) < (match H1 l with | some (.lst ys) => ys.length | _ => 0)
          rw [e1, h1]
          show (((y0 :: pr).map V.str).eraseIdx i).length < ((y0 :: pr).map V.str).length
          rw [List.length_eraseIdx_of_lt (by rw [pz]; omega), pz]
          omega
    · intro σ H Q Q' hq h
      obtain ⟨v, hv, z, h⟩ := h
      refine ⟨v, hv, z, fun l hl => ?_⟩
      obtain ⟨d1, d2, a1, a2, a3, a4, b, e, h⟩ := h l hl
      exact ⟨d1, d2, a1, a2, a3, a4, b, e, hq _ _ h⟩
end
end Sb

namespace Sb
open PySem PySem.Spec PyProof.Rows L2 TL
theorem load_go {a : Ad} {K : PySem.W.Frag} {src : Str} {H : Hp} {x : Pl} {Q : VK} {E : XK} (hl : Loads src x) (hx : x.Ok) (k : ∀ (G' H' : Hp) (v : V), Same G' H' → Same H H' → PlanAt a K G' v x → Q v H') : spLoad a K [.str src] H Q E :=
  ⟨⟨src, H, x, rfl, hl, hx, Same.refl H, fun G' H' v e s h => k G' H' v e.h s h⟩⟩
structure spFmtPlan (vs : List V) (H : Hp) (Q : VK) (E : XK) : Prop where
  ex : ∃ (src : Str) (x : Pl), vs = [.str src] ∧ Loads src x ∧ x.Ok ∧ ∀ H', Same H H' → Q (.str (textS x)) H'
structure spCount (vs : List V) (H : Hp) (Q : VK) (E : XK) : Prop where
  ex : ∃ (src : Str) (x : Pl), vs = [.str src] ∧ Loads src x ∧ x.Ok ∧ ∀ (H' : Hp) (p : Addr), Same H H' → H' p = some (.tup [.int x.p.length, .int x.q.length]) → Q (.ref p) H'
section
variable {P : Program} {w : World} {K : PySem.W.Frag} {mg : Str → Option Value} {base : Heap} {a : Ad}
theorem ok_format_plan (T : Txt K mg a) : FnOk P w K mg base CX0 8 a.f_format_plan a.d_format_plan ["plan"] spFmtPlan := by
  refine T.F_format_plan.ok sc_format_plan (fun vs H Q E h => ?_) (fun cdv A outer s H vs Q E hr h => ?_)
  · obtain ⟨⟨src, x, rfl, _⟩⟩ := h
    rfl
  · obtain ⟨⟨src, x, rfl, hL, hx, k⟩⟩ := h
    refine ⟨_, (pss_one (ps_ret (pe_call (ok_format_parsed T) (hr.mono (by decide)) rfl T.m_format_parsed T.F_format_parsed.kp (b_format_parsed T) .nil pass0 (pa_cons (pe_call (ok_load T) (hr.mono (by decide)) rfl T.m_load T.F_load.kp (b_load T) .nil pass0 (pa_cons (pv 0) pa_nil)) pa_nil)))), ?_⟩
    exact ⟨_, rfl, load_go hL hx fun G H1 v hGH s1 hP => ⟨⟨G, v, x, rfl, hGH, hP, hx, fun H' s2 => k H' (s1.trans s2)⟩⟩⟩
theorem ok_count_steps (T : Txt K mg a) : FnOk P w K mg base CX0 8 a.f_count_steps a.d_count_steps ["plan"] spCount := by
  refine T.F_count_steps.ok sc_count_steps (fun vs H Q E h => ?_) (fun cdv A outer s H vs Q E hr h => ?_)
  · obtain ⟨⟨src, x, rfl, _⟩⟩ := h
    rfl
  · obtain ⟨⟨src, x, rfl, hL, hx, k⟩⟩ := h
    refine ⟨_, (pss_cons (ps_asg (pe_fld (pe_call (ok_load T) (hr.mono (by decide)) rfl T.m_load T.F_load.kp (b_load T) .nil pass0 (pa_cons (pv 0) pa_nil)) rfl) (pg_lst (by rfl) (pgs_cons (pg_name (i := 1) sc_count_steps.nd rfl (Or.inl rfl)) (pgs_cons (pg_name (i := 2) sc_count_steps.nd rfl (Or.inl rfl)) pgs_nil))))
      (pss_one (ps_ret (pe_tup (pa_cons (pe_callB call_len_seq (by rfl) T.z_len (by decide +kernel) (pa_cons (pe_fld (pv 1) rfl) pa_nil)) (pa_cons (pe_callB call_len_seq (by rfl) T.z_len (by decide +kernel) (pa_cons (pe_fld (pv 2) rfl) pa_nil)) pa_nil)))))), ?_⟩
    refine ⟨_, rfl, load_go hL hx fun G H1 v hGH s1 hP => ?_⟩
    obtain ⟨r, dr, sh, rl, r1, r2, rfl, hr1, hsh, hrl, hR1, hR2⟩ := hP
    obtain ⟨q1, d1, sl1, nl1, rfl, hq1, hD1⟩ := hR1
    obtain ⟨q2, d2, sl2, nl2, rfl, hq2, hD2⟩ := hR2
    obtain ⟨sl1', xs1, e1, hs1, hx1⟩ := Dp.lst_inv hD1
    obtain ⟨sl2', xs2, e2, hs2, hx2⟩ := Dp.lst_inv hD2
    cases e1
    cases e2
    have l1 : xs1.length = x.p.length := by rw [DpAll.len hx1, List.length_map]
    have l2 : xs2.length = x.q.length := by rw [DpAll.len hx2, List.length_map]
    refine ⟨r, _, dr, _, .ref rl, rfl, hGH _ _ hr1, T.cl_Plan, T.n_Plan_robots, (by kernel_rfl), ?_⟩
    have s1H := hGH.seq hs1
    have s2H := hGH.seq hs2
    refine ⟨rl, _, rfl, hGH.seq hrl, rfl, _, _, rfl, _, _, rfl, rfl, ?_⟩
    refine ⟨_, rfl, q1, _, d1, _, .ref sl1, rfl, hGH _ _ hq1, T.cl_Robot, T.n_Robot_steps, (by kernel_rfl), sl1, _, rfl, .inl s1H, _, rfl, q2, _, d2, _, .ref sl2, rfl, hGH _ _ hq2, T.cl_Robot, T.n_Robot_steps, (by kernel_rfl), sl2, _, rfl, .inl s2H, (by show 2 ≤ sizeLine; decide), fun p hp => ?_⟩
    refine k _ p (s1.trans (same_new hp)) ?_
    rw [upd_same, l1, l2]
end
end Sb

namespace Sb
open PySem PySem.Spec PyProof.Rows L2 TL
def spLaw (K : PySem.W.Frag) : Sp := fun vs H Q _ => ∃ (a : Addr) (ns : List Int), vs = [.ref a] ∧ SqL K H a (ns.map V.int) ∧ ns.length ≤ 63 ∧ ∀ H', Q (.bl true) H'
structure LabP (ns : List (List Nat)) (gs : List Nat) (ss : List Step) (j : Nat) (ls : List LStep) : Prop where
  len : ls.length = j
  at_ : ∀ i s l, ss[i]? = some s → ls[i]? = some l → Lab ns gs i s l
theorem LabP.snoc {ns : List (List Nat)} {gs : List Nat} {ss : List Step} {j : Nat} {ls : List LStep} {s : Step} {l : LStep} (h : LabP ns gs ss j ls) (hs : ss[j]? = some s) (hl : Lab ns gs j s l) : LabP ns gs ss (j + 1) (ls ++ [l]) := by
  have hj := h.len
  refine ⟨by rw [List.length_append, hj]; rfl, fun i s' l' h1 h2 => ?_⟩
  by_cases hi : i < j
  · rw [List.getElem?_append_left (by omega)] at h2
    exact h.at_ i s' l' h1 h2
  · rw [List.getElem?_append_right (by omega)] at h2
    have e : i = j := by
      by_cases e : i = j
      · exact e
      · rw [List.getElem?_eq_none (by simp; omega)] at h2; cases h2
    subst e
    rw [hj, Nat.sub_self] at h2
    cases h2
    rw [hs] at h1
    cases h1
    exact hl
def lrobs (x : Pl) (L : Nat → List LStep) : Nat → List (List Nat)
  | 0 => []
  | i + 1 => lrobs x L i ++ lrobL (x.st i) (L i)
theorem lrobs_same {x : Pl} {L L' : Nat → List LStep} : ∀ {i : Nat}, (∀ m, m < i → L m = L' m) → lrobs x L i = lrobs x L' i
  | 0, _ => rfl
  | i + 1, h => by
    show lrobs x L i ++ lrobL (x.st i) (L i) = lrobs x L' i ++ lrobL (x.st i) (L' i)
    rw [lrobs_same (fun m hm => h m (by omega)), h i (by omega)]
theorem lineL_len {l : LStep} (h : LNm l) : (lineL l).length ≤ 25 := by
  have hw := wL_len h.w8
  unfold lineL
  have a : (labX l.lab).length ≤ 10 := by
    cases e : l.lab with
    | none => exact Nat.zero_le _
    | some t => have := (h.lab t e).h8; show (t ++ [58, 32]).length ≤ 10; rw [List.length_append]; show _ + 2 ≤ 10; omega
  have b : (tgtX l.tgt).length ≤ 9 := by
    cases e : l.tgt with
    | none => exact Nat.zero_le _
    | some t => have := (h.tgt t e).h8; show t.length + 1 ≤ 9; omega
  simp only [List.length_append]
  show _ + _ + _ + 1 ≤ 25
  omega
theorem lrobL_mem {n : Nat} {l : List LStep} (hn : n < 100) (h : ∀ s ∈ l, LNm s) : ∀ p ∈ lrobL n l, p.length ≤ 60 := by
  intro p hp
  rcases List.mem_cons.mp hp with rfl | hp
  · have := num_len hn
    simp only [List.length_append]
    show 6 + _ + 2 ≤ 60
    omega
  · rcases List.mem_append.mp hp with hp | hp
    · obtain ⟨s, hs, rfl⟩ := List.mem_map.mp hp
      have := lineL_len (h s hs)
      omega
    · rw [List.mem_singleton.mp hp]; decide
theorem lrobs_mem {x : Pl} {L : Nat → List LStep} : ∀ {i : Nat}, (∀ m, m < i → x.st m < 100 ∧ ∀ s ∈ L m, LNm s) → ∀ p ∈ lrobs x L i, p.length ≤ 60
  | 0, _, p, hp => nomatch hp
  | i + 1, h, p, hp => by
    rcases List.mem_append.mp hp with hp | hp
    · exact lrobs_mem (fun m hm => h m (by omega)) p hp
    · exact lrobL_mem (h i (by omega)).1 (h i (by omega)).2 p hp
theorem lrobs_len {x : Pl} {L : Nat → List LStep} : ∀ {i : Nat}, (∀ m, m < i → (L m).length ≤ 8) → (lrobs x L i).length ≤ 10 * i
  | 0, _ => Nat.le_refl _
  | i + 1, h => by
    have ih := lrobs_len (x := x) (L := L) (i := i) (fun m hm => h m (by omega))
    have := h i (by omega)
    show (lrobs x L i ++ lrobL (x.st i) (L i)).length ≤ _
    unfold lrobL
    simp only [List.length_append, List.length_cons, List.length_map, List.length_nil]
    omega
theorem shelfL_len {l : List Nat} (h : l.length ≤ 12) (h3 : ∀ n ∈ l, n ≤ 3) : (shelfL l).length ≤ 60 := by
  have := joinL_len [32] 2 (l.map numL) (fun p hp => by
    obtain ⟨n, hn, rfl⟩ := List.mem_map.mp hp
    exact num_len (by have := h3 n hn; omega))
  rw [List.length_map] at this
  unfold shelfL
  simp only [List.length_append]
  show 6 + _ + 1 ≤ 60
  have e : (2 + [32].length) = 3 := rfl
  rw [e] at this
  omega
theorem spread_len : ∀ l : List Nat, (l.flatMap spread).length ≤ 3 * l.length
  | [] => Nat.le_refl _
  | c :: r => by
    have ih := spread_len r
    have h : (spread c).length ≤ 3 := by unfold spread; split; exact Nat.le_refl _; show 1 ≤ 3; decide
    show (spread c ++ r.flatMap spread).length ≤ 3 * (r.length + 1)
    rw [List.length_append]
    omega
theorem e_0 : (Str.ofString "").length = 0 := by decide +kernel
def gaps : List Str := [" ", "  ", "\n", "\n "]
theorem gap_at {m : Nat} (h : m < 4) : ∃ g : Str, (gaps.map V.str)[m]? = some (.str g) ∧ Gap (tl g) := by
  match m, h with
  | 0, _ => exact ⟨" ", rfl, .inl t_sp⟩
  | 1, _ => exact ⟨"  ", rfl, .inr (.inl sp2)⟩
  | 2, _ => exact ⟨"\n", rfl, .inr (.inr (.inl t_nl))⟩
  | 3, _ => exact ⟨"\n ", rfl, .inr (.inr (.inr (by decide +kernel)))⟩
theorem name_at {ys : List Str} (h : Nms (ys.map tl)) {g : Nat} (hg : g < 8) : ∃ z : Str, (ys.map V.str)[g]? = some (.str z) ∧ tl z = (ys.map tl).getD g [] ∧ z.length ≤ 8 := by
  obtain ⟨h1, h2⟩ := h.get hg
  rw [List.getElem?_map] at h1
  cases e : ys[g]? with
  | none => rw [e] at h1; cases h1
  | some z =>
    rw [e] at h1
    have e1 : tl z = (ys.map tl).getD g [] := Option.some.inj h1
    refine ⟨z, by rw [List.getElem?_map, e]; rfl, e1, ?_⟩
    rw [len_tl, e1]
    exact h2.h8
theorem nms8_ok : ∀ x ∈ nms8, PyData.strOk x = true := by decide +kernel
section
variable {P : Program} {w : World} {K : PySem.W.Frag} {mg : Str → Option Value} {base : Heap} {a : Ad}
theorem ok_law (T : Txt K mg a) : FnOk P w K mg base CX0 20 a.f_law a.d_law ["_law_script"] (spLaw K) := by
  refine T.F_law.ok sc_law (fun vs H Q E h => ?_) (fun cdv A outer s H vs Q E hr h => ?_)
  · obtain ⟨sc, ns, rfl, _⟩ := h
    rfl
  · obtain ⟨sc, ns, rfl, hsc, hns, k⟩ := h
    refine ⟨_, (pss_cons (ps_set (i := 1) sc_law.nd rfl (Or.inl rfl) (pe_call (ok_l_random T) (hr.mono (by decide)) rfl T.m_l_random T.F_l_random.kp (b_l_random T) .nil pass0 (pa_cons (pv 0) (pa_cons pe_int pa_nil))))
      (pss_cons (ps_for PassesOwn.never rfl (pi_range1 (by rfl) T.z_range (pa_cons pe_int pa_nil)) (pg_name (i := 2) sc_law.nd rfl (Or.inl rfl)) (pss_cons (ps_set (i := 3) sc_law.nd rfl (Or.inl rfl) (pe_call (ok_l_plan T) (hr.mono (by decide)) rfl T.m_l_plan T.F_l_plan.kp (b_l_plan T) .nil pass0 (pa_cons (pv 1) (pa_cons pe_int pa_nil))))
      (pss_cons (ps_set (i := 4) sc_law.nd rfl (Or.inl rfl) (pe_call (ok_l_text T) (hr.mono (by decide)) rfl T.m_l_text T.F_l_text.kp (b_l_text T) .nil pass0 (pa_cons (pv 3) pa_nil)))
      (pss_cons (ps_set (i := 5) sc_law.nd rfl (Or.inl rfl) (pe_call (ok_l_shuffled T) (hr.mono (by decide)) rfl T.m_l_shuffled T.F_l_shuffled.kp (b_l_shuffled T) .nil pass0 (pa_cons (pv 1) (pa_cons (pe_lst (pa_cons pe_str (pa_cons pe_str (pa_cons pe_str (pa_cons pe_str (pa_cons pe_str (pa_cons pe_str (pa_cons pe_str (pa_cons pe_str pa_nil))))))))) pa_nil))))
      (pss_cons (ps_set (i := 6) sc_law.nd rfl (Or.inl rfl) (pe_lst (pa_cons (pe_op op_add_str (pe_op op_add_str pe_str (pe_join pe_str (pe_lc (own := [("_law_pieces", 7)]) (g := gName 7) (tt := tYes) rfl sc_law.nd (pi_tup (pe_ix ix_tup (pv 3) pe_int (fun _ _ => rfl))) (blkOk_by (own := [("_law_pieces", 7)]) (N := ["_law_script", "_law_d", "_law_step", "_law_plan_here", "_law_text_here", "_law_names", "_law_lines", "_law_pieces", "_law_number", "_law_steps_here", "_law_goals", "_law_word", "_law_goal", "_law_k", "_law_has", "_law_target", "_law_loose", "_law_sign", "_law_other", "_law_part"]) (sc := defScope s_law) (by decide +kernel)) (fun _ _ _ _ _ => (pg_name (i := 7) sc_law.nd rfl (Or.inl rfl))) (fun _ _ _ _ _ => pts_nil) (fun _ _ _ _ _ => by exact (pe_callTy call_str_int (by rfl) T.z_str (by decide +kernel) (pa_cons (pv 7) pa_nil)))))) pe_str) pa_nil)))
      (pss_cons (ps_for PassesOwn.never rfl (pi_range1 (by rfl) T.z_range (pa_cons pe_int pa_nil)) (pg_name (i := 8) sc_law.nd rfl (Or.inl rfl)) (pss_cons (ps_expr (pe_bm PySem.F.plainAttrs_list PySem.F.slot_list_append PySem.F.type_list_append mt_append (pv 6) (pa_cons (pe_op op_add_str (pe_op op_add_str pe_str (pe_callTy call_str_int (by rfl) T.z_str (by decide +kernel) (pa_cons (pe_ix ix_tup (pe_ix ix_tup (pv 3) pe_int (fun _ _ => rfl)) (pv 8) (fun _ _ => rfl)) pa_nil))) pe_str) pa_nil)))
      (pss_cons (ps_set (i := 9) sc_law.nd rfl (Or.inl rfl) (pe_ix ix_list (pe_ix ix_tup (pv 3) pe_int (fun _ _ => rfl)) (pv 8) (fun _ _ => rfl)))
      (pss_cons (ps_setLc (i := 10) (own := [("_law_word", 11), ("_law_goal", 12)]) (g := gTup K 2 (gCons (gName 11) (gCons (gName 12) gNil))) rfl sc_law.nd rfl rfl (sw_true rfl rfl rfl (by decide +kernel)) (pi_list (pv 9)) (blkOk_by (own := [("_law_word", 11), ("_law_goal", 12)]) (N := ["_law_script", "_law_d", "_law_step", "_law_plan_here", "_law_text_here", "_law_names", "_law_lines", "_law_pieces", "_law_number", "_law_steps_here", "_law_goals", "_law_word", "_law_goal", "_law_k", "_law_has", "_law_target", "_law_loose", "_law_sign", "_law_other", "_law_part"]) (sc := defScope s_law) (by decide +kernel)) (fun _ _ _ _ _ => (pg_tup (by rfl) (pgs_cons (pg_name (i := 11) sc_law.nd rfl (Or.inl rfl)) (pgs_cons (pg_name (i := 12) sc_law.nd rfl (Or.inl rfl)) pgs_nil)))) (fun _ _ _ _ _ => by exact pts_one (pt_cmpR op_notN (pv 12) pe_non (nomark _))) (fun _ _ _ _ _ => by exact (pv 12)))
      (pss_cons (ps_for PassesOwn.never rfl (pi_range1 (by rfl) T.z_range (pa_cons (pe_callB call_len_seq (by rfl) T.z_len (by decide +kernel) (pa_cons (pv 9) pa_nil)) pa_nil)) (pg_name (i := 13) sc_law.nd rfl (Or.inl rfl)) (pss_cons (ps_set (i := 14) sc_law.nd rfl (Or.inl rfl) (pe_or (pe_cmpR op_in_seq (pv 13) (pv 10) rfl) (pe_one (pe_cmpR op_eq (pe_call (ok_l_below T) (hr.mono (by decide)) rfl T.m_l_below T.F_l_below.kp (b_l_below T) .nil pass0 (pa_cons (pv 1) (pa_cons pe_int pa_nil))) pe_int (nomark _)))))
      (pss_cons (ps_set (i := 15) sc_law.nd rfl (Or.inl rfl) (pe_ifExp (pt_cmpR op_notN (pe_ix ix_tup (pe_ix ix_list (pv 9) (pv 13) (fun _ _ => rfl)) pe_int (fun _ _ => rfl)) pe_non (nomark _)) (pe_op op_add_str pe_str (pe_ix ix_list (pv 5) (pe_ix ix_tup (pe_ix ix_list (pv 9) (pv 13) (fun _ _ => rfl)) pe_int (fun _ _ => rfl)) (fun _ _ => rfl))) pe_str))
      (pss_one (ps_expr (pe_bm PySem.F.plainAttrs_list PySem.F.slot_list_append PySem.F.type_list_append mt_append (pv 6) (pa_cons (pe_op op_add_str (pe_op op_add_str (pe_op op_add_str (pe_ifExp (pt_val (pv 14)) (pe_op op_add_str (pe_ix ix_list (pv 5) (pv 13) (fun _ _ => rfl)) pe_str) pe_str) (pe_ix ix_tup (pe_ix ix_list (pv 9) (pv 13) (fun _ _ => rfl)) pe_int (fun _ _ => rfl))) (pv 15)) pe_str) pa_nil)))))))
      (pss_one (ps_expr (pe_bm PySem.F.plainAttrs_list PySem.F.slot_list_append PySem.F.type_list_append mt_append (pv 6) (pa_cons pe_str pa_nil)))))))))
      (pss_cons (ps_set (i := 16) sc_law.nd rfl (Or.inl rfl) (pe_join pe_str (pv 6)))
      (pss_cons (ps_repl (lo := 16) (sg := 17) PassesOwn.never rfl sc_law.nd rfl rfl (by decide) rfl rfl (by decide +kernel) (by decide +kernel) (by decide +kernel) (by decide +kernel))
      (pss_cons (ps_set (i := 18) sc_law.nd rfl (Or.inl rfl) pe_str)
      (pss_cons (ps_for PassesOwn.never rfl (pi_list (pe_words (pv 16))) (pg_name (i := 19) sc_law.nd rfl (Or.inl rfl)) (pss_one (ps_set (i := 18) sc_law.nd rfl (Or.inl rfl) (pe_op op_add_str (pe_op op_add_str (pv 18) (pe_ix ix_list (pe_lst (pa_cons pe_str (pa_cons pe_str (pa_cons pe_str (pa_cons pe_str pa_nil))))) (pe_call (ok_l_below T) (hr.mono (by decide)) rfl T.m_l_below T.F_l_below.kp (b_l_below T) .nil pass0 (pa_cons (pv 1) (pa_cons pe_int pa_nil))) (fun _ _ => rfl))) (pv 19)))))
      (pss_cons (ps_if (pt_not (pt_val (pe_call (ok_l_equal T 5) (hr.mono (by decide)) rfl T.m_l_equal T.F_l_equal.kp (b_l_equal T) .nil pass0 (pa_cons (pe_lst (pa_cons (pe_call (ok_format_plan T) (hr.mono (by decide)) rfl T.m_format_plan T.F_format_plan.kp (b_format_plan T) .nil pass0 (pa_cons (pv 4) pa_nil)) (pa_cons (pe_call (ok_format_plan T) (hr.mono (by decide)) rfl T.m_format_plan T.F_format_plan.kp (b_format_plan T) .nil pass0 (pa_cons (pv 18) pa_nil)) pa_nil))) (pa_cons (pe_lst (pa_cons (pv 4) (pa_cons (pv 4) pa_nil))) pa_nil))))) (pss_one (ps_ret pe_bl)) pss_nil)
      (pss_one (ps_if (pt_not (pt_val (pe_call (ok_l_equal T 5) (hr.mono (by decide)) rfl T.m_l_equal T.F_l_equal.kp (b_l_equal T) .nil pass0 (pa_cons (pe_call (ok_count_steps T) (hr.mono (by decide)) rfl T.m_count_steps T.F_count_steps.kp (b_count_steps T) .nil pass0 (pa_cons (pv 18) pa_nil)) (pa_cons (pe_tup (pa_cons (pe_callB call_len_seq (by rfl) T.z_len (by decide +kernel) (pa_cons (pe_ix ix_list (pe_ix ix_tup (pv 3) pe_int (fun _ _ => rfl)) pe_int (fun _ _ => rfl)) pa_nil)) (pa_cons (pe_callB call_len_seq (by rfl) T.z_len (by decide +kernel) (pa_cons (pe_ix ix_list (pe_ix ix_tup (pv 3) pe_int (fun _ _ => rfl)) pe_int (fun _ _ => rfl)) pa_nil)) pa_nil))) pa_nil))))) (pss_one (ps_ret pe_bl)) pss_nil)))))))))))))
      (pss_one (ps_ret pe_bl)))), ?_⟩
    refine ⟨_, rfl, sc, ns, 3, rfl, hsc, hns, by decide, fun H1 d ds s1 d0 hd hsrc => ?_⟩
    have N0 : Now d (fun _ => none) H1 := ⟨(fun _ _ e => nomatch e), rfl, ds, hd, hsrc⟩
    refine ⟨3, rfl, by decide, by decide, for_range (lo := 0) (n := 3) (fun i σ H' => ∃ (G' : Hp) (us : List (Option V)), us.length = 18 ∧ σ = some (.ref sc) :: some (.ref d) :: us ∧ At d (fun _ => none) H1 G' H') ?_ ?_ ?_⟩
    · exact ⟨_, _, rfl, rfl, N0.at⟩
    · rintro i0 σ H2 hi0 ⟨G2, us, hus, rfl, B2⟩
      match us, hus with
      | [v2, v3, v4, v5, v6, v7, v8, v9, v10, v11, v12, v13, v14, v15, v16, v17, v18, v19], _ =>
      refine ⟨_, rfl, draw_plan2 B2 (by decide) (by decide) fun G3 H3 v x B3 B3' hx hx8 hD hp8 hq8 => ?_⟩
      obtain ⟨t, sh, st, bo, l1, l2, xs1, xs2, rfl, ht, hsh, hst, hbo, hl1, hl2, hx1, hx2⟩ := plan_inv hD
      have c12 := hx.c12
      -- the text, the names
      refine ⟨_, rfl, ⟨⟨G3, .ref t, x, rfl, B3.now.s, hD, hx, fun H4 s4 => ?_⟩⟩⟩
      have B4 := B3.pure (Ext.ofSame B3.now.s s4) s4
      refine ⟨_, rfl, (by show 8 ≤ sizeLine; decide), fun np hnp => ?_⟩
      have B5 := B4.new hnp (.lst (nms8.map V.str))
      refine shuf_go B5 (xs := nms8) (SqL.of upd_same) (by decide) nms8_ok fun G6 H6 nm ys B6 B6' hnm hperm => ?_
      have hN := nms_perm hperm
      have g36 : Same G3 G6 := (same_new (B4.ext.new_out hnp)).trans B6'.g
      have ht6 := Same.seqT g36 ht
      have hsh6 := Same.seqT g36 hsh
      have hst6 := Same.seqT g36 hst
      have hbo6 := g36.seq hbo
      have hl16 := g36.seq hl1
      have hl26 := g36.seq hl2
      have hx16 := Dp.monoAll g36 _ _ hx1
      have hx26 := Dp.monoAll g36 _ _ hx2
      -- the shelf's line
      refine ⟨⟨_, rfl⟩, _, rfl, t, _, 0, .ref sh, rfl, rfl, Same.seqT B6.now.s ht6, at_of (j := 0) rfl rfl, sh, rfl, ⟨_, Same.seqT B6.now.s hsh6⟩, fun D hDn => ?_⟩
      have D0 : H1 D = none := B6.ext.k D hDn
      have DG : G6 D = none := B6.ext.new_out hDn
      have Dd : D ≠ d := B6.ne hDn
      refine lc_tup (K := K) (a := sh) (xs := x.shelf.map fun n : Nat => V.int n) (fun j H' => ∃ ls : List Str, At d (fun _ => none) H1 G6 H' ∧ H' D = some (.lst (ls.map V.str)) ∧ ls.map tl = (x.shelf.take j).map numL) ⟨[], B6.lay hDn _, upd_same, rfl⟩ (fun j H' _ ⟨ls, b1, _⟩ => Same.seqT b1.now.s hsh6) ?_ ?_
      · rintro j y H' hy ⟨ls, b1, h1, h2⟩
        obtain ⟨n, hn, rfl⟩ : ∃ n : Nat, x.shelf[j]? = some n ∧ y = V.int n := by
          rw [List.getElem?_map] at hy
          cases e : x.shelf[j]? with
          | none => rw [e] at hy; cases hy
          | some z => rw [e] at hy; exact ⟨z, rfl, (Option.some.inj hy).symm⟩
        have hj : j < x.shelf.length := (List.getElem?_eq_some_iff.mp hn).1
        have hn3 : n ≤ 3 := hx.b3 n (List.mem_of_getElem? hn)
        refine ⟨rfl, _, rfl, _, rfl, log_ok (by omega), _, h1, smaller 12 (by rw [List.length_map, len_of_map h2, List.length_map, List.length_take]; omega) (by decide), ls ++ [Str.ofString (toString ((n : Nat) : Int))], b1.put D0 DG Dd _, ?_, ?_⟩
        · rw [upd_same, List.map_append]; rfl
        · rw [List.map_append, h2, take_more hn, List.map_append]
          show _ ++ [tl (Str.ofString (toString ((n : Nat) : Int)))] = _
          rw [tl_num]
          rfl
      rintro H7 ⟨ls0, B7, h1, h2⟩
      rw [List.length_map, List.take_length] at h2
      have ml : ∀ p ∈ ls0, p.length ≤ 2 := mem_len h2 (fun p hp => by
        obtain ⟨n, hn, rfl⟩ := List.mem_map.mp hp
        exact num_len (by have := hx.b3 n hn; omega))
      have ll : ls0.length ≤ 12 := by rw [len_of_map h2, List.length_map]; exact hx.c12
      have jl : (Txt.join (Str.ofString " ") ls0).length ≤ 36 := by
        rw [len_tl, join_txt t_sp h2]
        refine Nat.le_trans (joinL_len [32] 2 _ (fun p hp => ?_)) ?_
        · obtain ⟨n, hn, rfl⟩ := List.mem_map.mp hp
          exact num_len (by have := hx.b3 n hn; omega)
        · rw [List.length_map]
          show _ * 3 ≤ 36
          omega
      have e6 : (Str.ofString "shelf ").length = 6 := by decide +kernel
      have e1s : (Str.ofString " ").length = 1 := by decide +kernel
      have e1 : (Str.ofString ";").length = 1 := by decide +kernel
      refine ⟨_, D, ls0, rfl, rfl, .inl (SqL.of h1), ?_, _, _, rfl, rfl, addS 42 (by rw [e6]; omega), _, _, rfl, rfl, addS 43 (by rw [len_app, e6, e1]; omega), (by show 1 ≤ sizeLine; decide), fun l hl => ?_⟩
      · have := sum_len ls0 2 ml
        rw [e1s]
        omega
      have l0 : H1 l = none := B7.ext.k l hl
      have lG : G6 l = none := B7.ext.new_out hl
      have ld : l ≠ d := B7.ne hl
      have sl : tl (Str.ofString "shelf " ++ Txt.join (Str.ofString " ") ls0 ++ Str.ofString ";") = shelfL x.shelf := by
        rw [tl_append, tl_append, t_sh, t_sc, join_txt t_sp h2]
        rfl
      revert sl
      generalize (Str.ofString "shelf " ++ Txt.join (Str.ofString " ") ls0 ++ Str.ofString ";") = first
      intro sl
      have hss : ∀ m, StepsOk (x.ss m) ∧ (x.ss m).length ≤ 8 := fun m => by unfold Pl.ss; split; exact ⟨hx.p, hp8⟩; exact ⟨hx.q, hq8⟩
      have hst12 : ∀ m, x.st m < 12 := fun m => by unfold Pl.st; have := hx.ha; have := hx.hb; split <;> omega
      -- the robots
      refine ⟨2, rfl, by decide, by decide, for_range (lo := 0) (n := 2) (fun i σ H' => ∃ (ls : List Str) (L : Nat → List LStep) (v7 v8 v9 v10 v11 v12 v13 v14 v15 : Option V), σ = [some (.ref sc), some (.ref d), some (.int (0 + (i0 : Int))), some (.ref t), some (.str (textS x)), some (.ref nm), some (.ref l), v7, v8, v9, v10, v11, v12, v13, v14, v15, v16, v17, v18, v19] ∧
        At d (fun _ => none) H1 G6 H' ∧ H' l = some (.lst (ls.map V.str)) ∧ (∀ m, m < i → Labs (ys.map tl) (x.ss m) (L m)) ∧ ls.map tl = shelfL x.shelf :: lrobs x L i) ?_ ?_ ?_⟩
      · exact ⟨[first], fun _ => [], _, _, _, _, _, _, _, _, _, rfl, B7.lay hl _, upd_same, (fun m hm => absurd hm (by omega)), by show [tl first] = _; rw [sl]; rfl⟩
      · rintro i σ H8 hi ⟨ls, L, w7, w8, w9, w10, w11, w12, w13, w14, w15, rfl, B8, hl8, hL, hls⟩
        have ei : (0 + (i : Int)) = ((i : Nat) : Int) := by omega
        have hn := hst12 i
        have sti : ([V.int x.a, V.int x.b] : List V)[i]? = some (.int (x.st i)) := by
          match i, hi with
          | 0, _ => rfl
          | 1, _ => rfl
          | i + 2, h => exact absurd h (by omega)
        obtain ⟨li, xsi, hli, hsi, hdi⟩ : ∃ li xsi, ([V.ref l1, V.ref l2] : List V)[i]? = some (.ref li) ∧ SqL K G6 li xsi ∧ DpAll K G6 xsi ((x.ss i).map Step.D) := by
          match i, hi with
          | 0, _ => exact ⟨l1, xs1, rfl, hl16, hx16⟩
          | 1, _ => exact ⟨l2, xs2, rfl, hl26, hx26⟩
          | i + 2, h => exact absurd h (by omega)
        obtain ⟨hso, hs8⟩ := hss i
        have exs : xsi.length = (x.ss i).length := by rw [DpAll.len hdi, List.length_map]
        have hrl := lrobs_len (x := x) (L := L) (i := i) (fun m hm => by rw [(hL m hm).len]; exact (hss m).2)
        have hlen : ls.length ≤ 21 := by rw [len_of_map hls, List.length_cons]; omega
        have nl := numS_len (n := x.st i) (by omega)
        have e6r : (Str.ofString "robot ").length = 6 := by decide +kernel
        have e2r : (Str.ofString " {").length = 2 := by decide +kernel
        refine ⟨_, rfl, .inl ⟨rfl, _, SqL.of hl8⟩, _, rfl, t, _, 1, .ref st, rfl, rfl, Same.seqT B8.now.s ht6, at_of (j := 1) rfl rfl, _, rfl, st, _, _, .int (x.st i), rfl, rfl, Same.seqT B8.now.s hst6, at_of (j := i) ei sti, _, rfl, log_ok (by omega), _, _, rfl, rfl, addS 8 (by rw [e6r]; omega), _, _, rfl, rfl, addS 10 (by rw [len_app, e6r, e2r]; omega), l, _, _, rfl, rfl, hl8, smaller 23 (by rw [List.length_map]; omega) (by decide), ?_⟩
        have B9 := B8.put l0 lG ld (.lst (ls.map V.str ++ [.str (Str.ofString "robot " ++ Str.ofString (toString ((x.st i : Nat) : Int)) ++ Str.ofString " {")]))
        have e3 : tl (Str.ofString "robot " ++ Str.ofString (toString ((x.st i : Nat) : Int)) ++ Str.ofString " {") = [114, 111, 98, 111, 116, 32] ++ numL (x.st i) ++ [32, 123] := by
          rw [tl_append, tl_append, t_rb, t_lb, tl_num]
        revert B9 e3
        generalize (Str.ofString "robot " ++ Str.ofString (toString ((x.st i : Nat) : Int)) ++ Str.ofString " {") = hd2
        intro B9 e3
        have h3 : (upd H8 l (.lst (ls.map V.str ++ [.str hd2]))) l = some (.lst ((ls ++ [hd2]).map V.str)) := by rw [upd_same, List.map_append]; rfl
        have hls3 : (ls ++ [hd2]).map tl = shelfL x.shelf :: lrobs x L i ++ [[114, 111, 98, 111, 116, 32] ++ numL (x.st i) ++ [32, 123]] := by
          rw [List.map_append, hls]
          show _ ++ [tl hd2] = _
          rw [e3]
        revert B9 h3
        generalize upd H8 l (.lst (ls.map V.str ++ [.str hd2])) = H9
        intro B9 h3
        -- the steps, the goals
        refine ⟨_, rfl, t, _, 2, .ref bo, rfl, rfl, Same.seqT B9.now.s ht6, at_of (j := 2) rfl rfl, _, rfl, bo, _, _, .ref li, rfl, rfl, B9.now.s.seq hbo6, at_of (j := i) ei hli, ?_⟩
        refine ⟨_, rfl, li, rfl, ⟨_, B9.now.s.seq hsi⟩, fun D2 hD2 => ?_⟩
        have D20 : H1 D2 = none := B9.ext.k D2 hD2
        have D2G : G6 D2 = none := B9.ext.new_out hD2
        have D2d : D2 ≠ d := B9.ne hD2
        have D2l : l ≠ D2 := ne_of_none h3 hD2
        refine lc_list (K := K) (a := li) (xs := xsi) (fun j H' => At d (fun _ => none) H1 G6 H' ∧ H' l = some (.lst ((ls ++ [hd2]).map V.str)) ∧ H' D2 = some (.lst ((goalsOf ((x.ss i).take j)).map fun n : Nat => V.int n))) ⟨B9.lay hD2 _, by rw [upd_ne D2l]; exact h3, upd_same⟩ (fun j H' _ ⟨b4, _⟩ => b4.now.s.seq hsi) ?_ ?_
        · rintro j y H' hy ⟨b4, h4, h5⟩
          obtain ⟨dd, hdd, hDd⟩ := DpAll.get hdi hy
          rw [List.getElem?_map] at hdd
          obtain ⟨sj, hsj, rfl⟩ : ∃ sj, (x.ss i)[j]? = some sj ∧ dd = sj.D := by
            cases e : (x.ss i)[j]? with
            | none => rw [e] at hdd; cases hdd
            | some z => rw [e] at hdd; exact ⟨z, rfl, (Option.some.inj hdd).symm⟩
          have hj : j < (x.ss i).length := (List.getElem?_eq_some_iff.mp hsj).1
          have gt := goals_take hsj
          have gl : (goalsOf ((x.ss i).take j)).length ≤ 20 := by
            have h1 : (goalsOf ((x.ss i).take j)).length ≤ ((x.ss i).take j).length := List.length_filterMap_le _ _
            rw [List.length_take] at h1
            omega
          obtain ⟨tt, g, rfl, htt, hg⟩ := step_inv hDd
          refine ⟨tt, _, rfl, Same.seqT b4.now.s htt, rfl, _, _, rfl, _, _, rfl, rfl, rfl, _, rfl, rfl, _, rfl, ?_⟩
          rcases hg with ⟨hg, rfl⟩ | ⟨kk, hg, rfl⟩
          · refine ite_f rfl ⟨b4, h4, ?_⟩
            rw [gt, hg, List.append_nil]
            exact h5
          · refine ite_t rfl ⟨_, rfl, _, h5, smaller 20 (by rw [List.length_map]; exact gl) (by decide), b4.put D20 D2G D2d _, by rw [upd_ne D2l]; exact h4, ?_⟩
            rw [upd_same, gt, hg, List.map_append]
            rfl
        rintro H10 ⟨B10, h4, h5⟩
        rw [exs, List.take_length] at h5
        -- step by step
        refine ⟨_, rfl, li, _, rfl, .inl (B10.now.s.seq hsi), _, rfl, by omega, by omega, for_range (lo := 0) (n := ((xsi.length : Nat) : Int).toNat) (fun j σ H' => ∃ (ls' : List Str) (l' : List LStep) (v11 v12 v13 v14 v15 : Option V), σ = [some (.ref sc), some (.ref d), some (.int (0 + (i0 : Int))), some (.ref t), some (.str (textS x)), some (.ref nm), some (.ref l), w7, some (.int (0 + (i : Int))), some (.ref li), some (.ref D2), v11, v12, v13, v14, v15, v16, v17, v18, v19] ∧
          At d (fun _ => none) H1 G6 H' ∧ H' D2 = some (.lst ((goalsOf (x.ss i)).map fun n : Nat => V.int n)) ∧ H' l = some (.lst (ls'.map V.str)) ∧ LabP (ys.map tl) (goalsOf (x.ss i)) (x.ss i) j l' ∧ ls'.map tl = (shelfL x.shelf :: lrobs x L i ++ [[114, 111, 98, 111, 116, 32] ++ numL (x.st i) ++ [32, 123]]) ++ l'.map lineL) ?_ ?_ ?_⟩
        · exact ⟨ls ++ [hd2], [], _, _, _, _, _, rfl, B10, h5, h4, ⟨rfl, fun _ _ _ _ h => by simp at h⟩, by rw [hls3]; simp⟩
        · rintro j σ H11 hj ⟨ls', l', u11, u12, u13, u14, u15, rfl, B11, h6, h7, hP, h8⟩
          have ej : (0 + (j : Int)) = ((j : Nat) : Int) := by omega
          have hj' : j < (x.ss i).length := by omega
          obtain ⟨sj, hsj⟩ : ∃ sj, (x.ss i)[j]? = some sj := ⟨_, List.getElem?_eq_getElem hj'⟩
          have hokj : Step.Ok (x.ss i).length sj := hso.all sj (List.mem_of_getElem? hsj)
          obtain ⟨y, hy, hDy⟩ := DpAll.at hdi (i := j) (d := sj.D) (by rw [List.getElem?_map, hsj]; rfl)
          obtain ⟨tt, g, rfl, htt, hg⟩ := step_inv hDy
          have hl45 : ls'.length ≤ 45 := by
            rw [len_of_map h8]
            simp only [List.length_append, List.length_cons, List.length_nil, List.length_map, hP.len]
            omega
          dsimp only
          -- whether it has a label
          refine seq_restσ (fun σ H' => ∃ b : Bool, σ = [some (.ref sc), some (.ref d), some (.int (0 + (i0 : Int))), some (.ref t), some (.str (textS x)), some (.ref nm), some (.ref l), w7, some (.int (0 + (i : Int))), some (.ref li), some (.ref D2), u11, u12, some (.int (0 + (j : Int))), some (.bl b), u15, v16, v17, v18, v19] ∧ At d (fun _ => none) H1 G6 H' ∧ H' D2 = some (.lst ((goalsOf (x.ss i)).map fun n : Nat => V.int n)) ∧ H' l = some (.lst (ls'.map V.str)) ∧ (b = false → j ∉ goalsOf (x.ss i))) (fun σ H' hm => ?r1) (fun rest1 => ?m1)
          case m1 =>
            refine ⟨_, rfl, _, rfl, D2, _, rfl, .inl (SqL.of h6), rfl, nats_flat _, _, rfl, ?_⟩
            rw [if_neg Bool.false_ne_true, show inV (V.int (0 + (j : Int))) ((goalsOf (x.ss i)).map fun n : Nat => V.int n) = decide (j ∈ goalsOf (x.ss i)) from by rw [ej]; exact in_nats _ _]
            refine ite2 (fun c => ?_) (fun c => ?_)
            · exact rest1 _ _ ⟨true, rfl, B11, h6, h7, fun e => nomatch e⟩
            · refine ⟨_, rfl, draw_go B11 (by decide) (by decide) fun H12 z B12 K12 hz => ⟨rfl, rest1 _ _ ⟨_, rfl, B12, by rw [K12 D2 D2d]; exact h6, by rw [K12 l ld]; exact h7, fun _ q => c (decide_eq_true q)⟩⟩⟩
          obtain ⟨b, rfl, B12, h6, h7, hb⟩ := hm
          -- the target
          refine seq_restσ (fun σ H'' => ∃ m2 : Str, σ = [some (.ref sc), some (.ref d), some (.int (0 + (i0 : Int))), some (.ref t), some (.str (textS x)), some (.ref nm), some (.ref l), w7, some (.int (0 + (i : Int))), some (.ref li), some (.ref D2), u11, u12, some (.int (0 + (j : Int))), some (.bl b), some (.str m2), v16, v17, v18, v19] ∧ H' = H'' ∧ m2.length ≤ 9 ∧ tl m2 = tgtX (sj.g.map fun g => (ys.map tl).getD g [])) (fun σ H'' hm2 => ?r2) (fun rest2 => ?m2)
          case m2 =>
            refine ⟨_, rfl, _, rfl, li, _, _, .ref tt, rfl, rfl, B12.now.s.seq hsi, at_of (j := j) ej hy, tt, _, 1, g, rfl, rfl, Same.seqT B12.now.s htt, at_of (j := 1) rfl rfl, rfl, _, rfl, ?_⟩
            rcases hg with ⟨hg, rfl⟩ | ⟨kk, hg, rfl⟩
            · refine ite_f rfl (rest2 _ _ ⟨_, rfl, rfl, by decide +kernel, ?_⟩)
              rw [hg, t_e]
              rfl
            · have hk : kk < (x.ss i).length := by
                have h5 : 5 ≤ sj.w := by
                  by_cases h : sj.w < 5
                  · rw [hokj.no h] at hg; cases hg
                  · omega
                obtain ⟨k2, e2, h2⟩ := hokj.yes h5
                rw [hg] at e2
                cases e2
                exact h2
              obtain ⟨z, hz, hz1, hz8⟩ := name_at hN (g := kk) (by omega)
              refine ite_t rfl ⟨_, rfl, _, rfl, _, rfl, li, _, _, .ref tt, rfl, rfl, B12.now.s.seq hsi, at_of (j := j) ej hy, tt, _, 1, .int kk, rfl, rfl, Same.seqT B12.now.s htt, at_of (j := 1) rfl rfl, nm, _, _, .str z, rfl, rfl, B12.now.s.seq hnm, atI_nat hz, _, _, rfl, rfl, addS 9 (by rw [e1s]; omega), rest2 _ _ ⟨_, rfl, rfl, ?_, ?_⟩⟩
              · rw [len_app, e1s]; omega
              · rw [hg, tl_append, t_sp, hz1]; rfl
          obtain ⟨m2, rfl, rfl, hm29, hm2⟩ := hm2
          -- the line
          have hw5 := wS_len hokj.w8
          obtain ⟨z, hz, hz1, hz8⟩ := name_at hN (g := j) (by omega)
          refine ⟨_, rfl, .inl ⟨rfl, _, SqL.of h7⟩, _, rfl, _, rfl, ?_⟩
          cases b with
          | true =>
              refine ite_t rfl ?_
              refine ⟨_, rfl, _, rfl, nm, _, _, .str z, rfl, rfl, B12.now.s.seq hnm, at_of (j := j) ej hz, _, _, rfl, rfl, addS 10 (by rw [e_cs]; omega), ?_⟩
              refine ⟨_, rfl, _, rfl, li, _, _, .ref tt, rfl, rfl, B12.now.s.seq hsi, at_of (j := j) ej hy, tt, _, 0, .str (wS sj.w), rfl, rfl, Same.seqT B12.now.s htt, at_of (j := 0) rfl rfl, _, _, rfl, rfl, addS 15 (by simp only [len_app, e_cs]; omega), _, rfl, _, _, rfl, rfl, addS 24 (by rw [len_app]; simp only [len_app, e_cs]; omega), _, _, rfl, rfl, addS 25 (by rw [len_app, len_app, e1]; simp only [len_app, e_cs]; omega), l, _, _, rfl, rfl, h7, smaller 45 (by rw [List.length_map]; exact hl45) (by decide), ?_⟩
              refine ⟨ls' ++ [(z ++ Str.ofString ": ") ++ wS sj.w ++ m2 ++ Str.ofString ";"], l' ++ [⟨some ((ys.map tl).getD j []), sj.w, sj.g.map fun g => (ys.map tl).getD g []⟩], _, _, _, _, _, rfl, B12.put l0 lG ld _, by rw [upd_ne D2l.symm]; exact h6, by rw [upd_same, List.map_append]; rfl, hP.snoc hsj ⟨rfl, rfl, .inl rfl⟩, ?_⟩
              rw [List.map_append, h8, List.map_append, ← List.append_assoc]
              congr 1
              show [tl ((z ++ Str.ofString ": ") ++ wS sj.w ++ m2 ++ Str.ofString ";")] = [lineL _]
              congr 1
              unfold lineL
              rw [tl_append, tl_append, tl_append, hm2, t_sc]
              rw [tl_append, t_cs, hz1]
              rfl
          | false =>
              refine ite_f rfl ?_
              refine ⟨_, rfl, _, rfl, li, _, _, .ref tt, rfl, rfl, B12.now.s.seq hsi, at_of (j := j) ej hy, tt, _, 0, .str (wS sj.w), rfl, rfl, Same.seqT B12.now.s htt, at_of (j := 0) rfl rfl, _, _, rfl, rfl, addS 15 (by simp only [len_app, e_0]; omega), _, rfl, _, _, rfl, rfl, addS 24 (by rw [len_app]; simp only [len_app, e_0]; omega), _, _, rfl, rfl, addS 25 (by rw [len_app, len_app, e1]; simp only [len_app, e_0]; omega), l, _, _, rfl, rfl, h7, smaller 45 (by rw [List.length_map]; exact hl45) (by decide), ?_⟩
              refine ⟨ls' ++ [Str.ofString "" ++ wS sj.w ++ m2 ++ Str.ofString ";"], l' ++ [⟨none, sj.w, sj.g.map fun g => (ys.map tl).getD g []⟩], _, _, _, _, _, rfl, B12.put l0 lG ld _, by rw [upd_ne D2l.symm]; exact h6, by rw [upd_same, List.map_append]; rfl, hP.snoc hsj ⟨rfl, rfl, .inr ⟨rfl, hb rfl⟩⟩, ?_⟩
              rw [List.map_append, h8, List.map_append, ← List.append_assoc]
              congr 1
              show [tl (Str.ofString "" ++ wS sj.w ++ m2 ++ Str.ofString ";")] = [lineL _]
              congr 1
              unfold lineL
              rw [tl_append, tl_append, tl_append, hm2, t_sc]
              rw [t_e]
              rfl
        · rintro σ H11 ⟨ls', l', u11, u12, u13, u14, u15, rfl, B11, h6, h7, hP, h8⟩
          have ej : ((xsi.length : Nat) : Int).toNat = (x.ss i).length := by omega
          rw [ej] at hP
          have hl45 : ls'.length ≤ 45 := by
            rw [len_of_map h8]
            simp only [List.length_append, List.length_cons, List.length_nil, List.length_map, hP.len]
            omega
          refine ⟨_, rfl, .inl ⟨rfl, _, SqL.of h7⟩, l, _, _, rfl, rfl, h7, smaller 45 (by rw [List.length_map]; exact hl45) (by decide), ?_⟩
          refine ⟨ls' ++ [Str.ofString "}"], fun m => if m = i then l' else L m, _, _, _, _, _, _, _, _, _, rfl, B11.put l0 lG ld _, by rw [upd_same, List.map_append]; rfl, fun m hm => ?_, ?_⟩
          · by_cases hmi : m = i
            · subst hmi
              show Labs _ _ (if m = m then l' else L m)
              rw [if_pos rfl]
              exact ⟨hP.len, hP.at_⟩
            · show Labs _ _ (if m = i then l' else L m)
              rw [if_neg hmi]
              exact hL m (by omega)
          · rw [List.map_append, h8]
            show _ ++ [tl (Str.ofString "}")] = shelfL x.shelf :: (lrobs x (fun m => if m = i then l' else L m) i ++ lrobL (x.st i) (if i = i then l' else L i))
            rw [t_cb, if_pos rfl, lrobs_same (L' := L) (fun m hm => if_neg (by omega))]
            unfold lrobL
            simp only [List.cons_append, List.append_assoc, List.nil_append]
      · rintro σ H8 ⟨ls, L, w7, w8, w9, w10, w11, w12, w13, w14, w15, rfl, B8, hl8, hL, hls⟩
        obtain ⟨o1, n1⟩ := labs_ok hN (hss 0).1 (hss 0).2 (hL 0 (by decide))
        obtain ⟨o2, n2⟩ := labs_ok hN (hss 1).1 (hss 1).2 (hL 1 (by decide))
        have hls : ls.map tl = lookL x (L 0) (L 1) := hls
        have hmem : ∀ p ∈ lookL x (L 0) (L 1), p.length ≤ 60 := fun p hp => by
          rcases List.mem_cons.mp hp with rfl | hp
          · exact shelfL_len hx.c12 hx.b3
          · rcases List.mem_append.mp hp with hp | hp
            · exact lrobL_mem (by have := hx.ha; omega) n1 p hp
            · exact lrobL_mem (by have := hx.hb; omega) n2 p hp
        have hll : (lookL x (L 0) (L 1)).length ≤ 45 := by
          have a := (hL 0 (by decide)).len
          have b := (hL 1 (by decide)).len
          have c := (hss 0).2
          have e := (hss 1).2
          unfold lookL lrobL
          simp only [List.length_append, List.length_cons, List.length_map, List.length_nil]
          omega
        refine ⟨⟨_, rfl⟩, _, rfl, _, l, ls, rfl, rfl, .inl (SqL.of hl8), ?_, ?_⟩
        · have := sum_len ls 60 (mem_len hls hmem)
          have e : (Str.ofString "\n").length = 1 := by decide +kernel
          have := len_of_map hls
          rw [e]
          omega
        have hjoin : tl (Txt.join (Str.ofString "\n") ls) = joinL [10] (lookL x (L 0) (L 1)) := join_txt t_nl hls
        revert hjoin
        dsimp only
        generalize Txt.join (Str.ofString "\n") ls = loose
        intro hjoin
        have hlo : (tl loose).length ≤ 2745 := by
          rw [hjoin]
          refine Nat.le_trans (joinL_len [10] 60 _ hmem) ?_
          show _ * 61 ≤ _
          omega
        have hwd := wd_plan hx n1 n2
        rw [← hjoin] at hwd
        refine ⟨loose, rfl, by rw [len_tl]; omega, fun v rep hrep => ?_⟩
        have hrep : rep = repN " " " " (tl sgnS) loose := hrep
        have hws := loose_words hwd
        have hsl : (tl (repN " " " " (tl sgnS) loose)).length ≤ 8235 := by
          rw [repN_list]
          have := spread_len (tl loose)
          omega
        rw [← hrep] at hws hsl
        clear hrep
        refine ⟨_, rfl, ⟨_, rfl⟩, rep, rfl, rfl, small 8237 (by rw [len_tl]; omega) (by decide), fun wp hwp => ?_⟩
        generalize Txt.words rep = ws at hws hwp ⊢
        have B9 := B8.new hwp (.lst (ws.map V.str))
        have tks := plan_tks hx n1 n2
        have w8' : ∀ z ∈ ws, (tl z).length ≤ 8 := fun z hz => by
          have : tl z ∈ (planT x (L 0) (L 1)).map Tk.t := by rw [← hws]; exact List.mem_map.mpr ⟨z, hz, rfl⟩
          obtain ⟨tk, htk, e⟩ := List.mem_map.mp this
          rw [← e]
          exact (tks tk htk).len
        have wl : ws.length ≤ 222 := by
          rw [len_of_map hws, List.length_map]
          exact planT_len2 hx.c12 o1.le o2.le
        refine ⟨wp, rfl, ⟨_, SqL.of upd_same⟩, for_list (K := K) (a := wp) (xs := ws.map V.str) (fun i σ H' => ∃ (ot : Str) (v19 : Option V), σ = [some (.ref sc), some (.ref d), some (.int (0 + (i0 : Int))), some (.ref t), some (.str (textS x)), some (.ref nm), some (.ref l), w7, w8, w9, w10, w11, w12, w13, w14, w15, some (.str rep), v, some (.str ot), v19] ∧ At d (fun _ => none) H1 (upd G6 wp (.lst (ws.map V.str))) H' ∧ Gt (tl ot) ((ws.take i).map tl))
          ⟨_, _, rfl, B9, by rw [t_e]; exact .nil⟩ (fun i σ H' _ ⟨_, _, _, b, _⟩ => b.now.s.seq (SqL.of upd_same)) ?_ ?_⟩
        · rintro i y σ H10 hy ⟨ot, u19, rfl, B10, hgt⟩
          obtain ⟨z, hz, rfl⟩ : ∃ z : Str, ws[i]? = some z ∧ y = V.str z := by
            rw [List.getElem?_map] at hy
            cases e : ws[i]? with
            | none => rw [e] at hy; cases hy
            | some z => rw [e] at hy; exact ⟨z, rfl, (Option.some.inj hy).symm⟩
          have z8 := w8' z (List.mem_of_getElem? hz)
          have olen : (tl ot).length ≤ 2220 := by
            have := hgt.len (fun p hp => by
              obtain ⟨q, hq, rfl⟩ := List.mem_map.mp hp
              exact w8' q (List.mem_of_mem_take hq))
            rw [List.length_map, List.length_take] at this
            omega
          refine ⟨_, rfl, (by show 4 ≤ sizeLine; decide), fun q hq => ?_⟩
          have B11 := B10.lay hq (.lst (gaps.map V.str))
          have qd : q ≠ d := B10.ne hq
          refine ⟨_, rfl, draw_go B11 (by decide) (by decide) fun H12 m B12 K12 hm => ?_⟩
          obtain ⟨g, hg, hgap⟩ := gap_at (m := m) (by omega)
          have hq12 : H12 q = some (.lst (gaps.map V.str)) := by rw [K12 q qd, upd_same]; rfl
          have gl := hgap.len
          refine ⟨q, _, _, .str g, rfl, rfl, SqL.of hq12, atI_nat hg, _, _, rfl, rfl, addS 2222 (by rw [len_tl, len_tl]; omega), _, rfl, _, _, rfl, rfl, addS 2230 (by rw [len_app, len_tl, len_tl, len_tl]; omega), ?_⟩
          refine ⟨_, _, rfl, B12, ?_⟩
          rw [tl_append, tl_append, take_more hz, List.map_append]
          exact hgt.snoc hgap
        · rintro σ H10 ⟨ot, u19, rfl, B10, hgt⟩
          rw [List.length_map, List.take_length, hws] at hgt
          have hLo : Loads ot x := loads_gap hx o1 o2 n1 n2 hgt
          refine ⟨_, rfl, ⟨⟨textS x, x, rfl, loads_text hx, hx, fun H11 s11 => ?_⟩⟩⟩
          refine ⟨_, rfl, ⟨⟨ot, x, rfl, hLo, hx, fun H12 s12 => ?_⟩⟩⟩
          have B12 := B10.pure (Ext.ofSame B10.now.s (s11.trans s12)) (s11.trans s12)
          refine ⟨(by show 2 ≤ sizeLine; decide), fun e1 he1 => ?_⟩
          have B13 := B12.lay he1 (.lst [.str (textS x), .str (textS x)])
          refine ⟨_, rfl, _, rfl, (by show 2 ≤ sizeLine; decide), fun e2 he2 => ?_⟩
          have B14 := B13.lay he2 (.lst [.str (textS x), .str (textS x)])
          refine ⟨⟨.ref e1, .ref e2, .list [.str (textS x), .str (textS x)], rfl, .lst (SqL.of (by rw [upd_ne (ne_of_none upd_same he2), upd_same])) (.cons (.str _) (.cons (.str _) .nil)), .lst (SqL.of upd_same) (.cons (.str _) (.cons (.str _) .nil)), (by show 1 ≤ 5; decide), rfl, fun H15 s15 => ⟨_, rfl, ite_f rfl ?_⟩⟩⟩
          have B15 := B14.pure (Ext.ofSame B14.now.s s15) s15
          refine ⟨_, rfl, ⟨⟨ot, x, rfl, hLo, hx, fun H16 p s16 hp => ?_⟩⟩⟩
          have B16 := B15.pure (Ext.ofSame B15.now.s s16) s16
          have gg : Same G6 (upd G6 wp (.lst (ws.map V.str))) := same_new (B8.ext.new_out hwp)
          have hl1H := B16.now.s.seq (gg.seq hl16)
          have hl2H := B16.now.s.seq (gg.seq hl26)
          have htH := Same.seqT B16.now.s (Same.seqT gg ht6)
          have hboH := B16.now.s.seq (gg.seq hbo6)
          refine ⟨_, rfl, t, _, 2, .ref bo, rfl, rfl, htH, at_of (j := 2) rfl rfl, bo, _, 0, .ref l1, rfl, rfl, hboH, at_of (j := 0) rfl rfl, l1, _, rfl, .inl hl1H, ?_⟩
          refine ⟨_, rfl, t, _, 2, .ref bo, rfl, rfl, htH, at_of (j := 2) rfl rfl, bo, _, 1, .ref l2, rfl, rfl, hboH, at_of (j := 1) rfl rfl, l2, _, rfl, .inl hl2H, (by show 2 ≤ sizeLine; decide), fun e3 he3 => ?_⟩
          have x1 : xs1.length = x.p.length := by rw [DpAll.len hx1, List.length_map]
          have x2 : xs2.length = x.q.length := by rw [DpAll.len hx2, List.length_map]
          have B17 := B16.lay he3 (.tup [.int (xs1.length : Nat), .int (xs2.length : Nat)])
          refine ⟨⟨.ref p, .ref e3, .tuple [natD x.p.length, natD x.q.length], rfl, .tup (SqT.of (by rw [upd_ne (ne_of_none hp he3)]; exact hp)) (.cons (.int _) (.cons (.int _) .nil)), .tup (SqT.of (by rw [upd_same, x1, x2])) (.cons (.int _) (.cons (.int _) .nil)), (by show 1 ≤ 5; decide), rfl, fun H18 s18 => ⟨_, rfl, ite_f rfl ?_⟩⟩⟩
          have B18 := B17.pure (Ext.ofSame B17.now.s s18) s18
          exact ⟨_, _, rfl, rfl, B18⟩
    · rintro σ H2 ⟨G2, us, _, rfl, B2⟩
      exact k H2
end
end Sb

section
open PySem PySem.W PyProof.Rows
open_top hd for PySem.Challenge.rw_shelfbots_k03_canonical_plans

end

namespace Sb
open PySem PySem.Spec PyProof.Rows L2
theorem all_mk {l : PySem.W.OpenLaw} {w : World} {K : PySem.W.Frag} {h : Heap} {mg : Str → Option Value} {fa : Addr} (X : K.In h) (G : h.Ns mainGlobals mg) (hfa : mg "law" = some (.ref fa)) {C_Token C_Robot C_Plan C_Parser f_l_random f_l_below f_l_steps f_l_plan f_l_text f_l_shuffled f_l_equal f_Parser_peek f_Token_init f_Robot_init f_Plan_init f_Parser_init f_Parser_fail f_Parser_take_word f_Parser_take f_Parser_found f_Parser_parse_shelf f_Parser_parse_step f_Parser_parse_robot f_Parser_parse_plan f_run_end f_read_token f_tokenize f_load f_count_steps f_label f_format_robot f_format_parsed f_format_plan f_law A_MOVES A_JUMPS A_KEYWORDS : Addr}
    {oc_l_random kV_l_random dc_l_random pm_l_random cd_l_random ct_l_random : Value} {od_l_random an_l_random : Option Addr} {sl_l_random : Array (Option Value)}
    {oc_l_below kV_l_below dc_l_below pm_l_below cd_l_below ct_l_below : Value} {od_l_below an_l_below : Option Addr} {sl_l_below : Array (Option Value)}
    {oc_l_steps kV_l_steps dc_l_steps pm_l_steps cd_l_steps ct_l_steps : Value} {od_l_steps an_l_steps : Option Addr} {sl_l_steps : Array (Option Value)}
    {oc_l_plan kV_l_plan dc_l_plan pm_l_plan cd_l_plan ct_l_plan : Value} {od_l_plan an_l_plan : Option Addr} {sl_l_plan : Array (Option Value)}
    {oc_l_text kV_l_text dc_l_text pm_l_text cd_l_text ct_l_text : Value} {od_l_text an_l_text : Option Addr} {sl_l_text : Array (Option Value)}
    {oc_l_shuffled kV_l_shuffled dc_l_shuffled pm_l_shuffled cd_l_shuffled ct_l_shuffled : Value} {od_l_shuffled an_l_shuffled : Option Addr} {sl_l_shuffled : Array (Option Value)}
    {oc_l_equal kV_l_equal dc_l_equal pm_l_equal cd_l_equal ct_l_equal : Value} {od_l_equal an_l_equal : Option Addr} {sl_l_equal : Array (Option Value)}
    {oc_Parser_peek kV_Parser_peek dc_Parser_peek pm_Parser_peek cd_Parser_peek ct_Parser_peek : Value} {od_Parser_peek an_Parser_peek : Option Addr} {sl_Parser_peek : Array (Option Value)}
    {oc_Token_init kV_Token_init dc_Token_init pm_Token_init cd_Token_init ct_Token_init : Value} {od_Token_init an_Token_init : Option Addr} {sl_Token_init : Array (Option Value)}
    {oc_Robot_init kV_Robot_init dc_Robot_init pm_Robot_init cd_Robot_init ct_Robot_init : Value} {od_Robot_init an_Robot_init : Option Addr} {sl_Robot_init : Array (Option Value)}
    {oc_Plan_init kV_Plan_init dc_Plan_init pm_Plan_init cd_Plan_init ct_Plan_init : Value} {od_Plan_init an_Plan_init : Option Addr} {sl_Plan_init : Array (Option Value)}
    {oc_Parser_init kV_Parser_init dc_Parser_init pm_Parser_init cd_Parser_init ct_Parser_init : Value} {od_Parser_init an_Parser_init : Option Addr} {sl_Parser_init : Array (Option Value)}
    {oc_Parser_fail kV_Parser_fail dc_Parser_fail pm_Parser_fail cd_Parser_fail ct_Parser_fail : Value} {od_Parser_fail an_Parser_fail : Option Addr} {sl_Parser_fail : Array (Option Value)}
    {oc_Parser_take_word kV_Parser_take_word dc_Parser_take_word pm_Parser_take_word cd_Parser_take_word ct_Parser_take_word : Value} {od_Parser_take_word an_Parser_take_word : Option Addr} {sl_Parser_take_word : Array (Option Value)}
    {oc_Parser_take kV_Parser_take dc_Parser_take pm_Parser_take cd_Parser_take ct_Parser_take : Value} {od_Parser_take an_Parser_take : Option Addr} {sl_Parser_take : Array (Option Value)}
    {oc_Parser_found kV_Parser_found dc_Parser_found pm_Parser_found cd_Parser_found ct_Parser_found : Value} {od_Parser_found an_Parser_found : Option Addr} {sl_Parser_found : Array (Option Value)}
    {oc_Parser_parse_shelf kV_Parser_parse_shelf dc_Parser_parse_shelf pm_Parser_parse_shelf cd_Parser_parse_shelf ct_Parser_parse_shelf : Value} {od_Parser_parse_shelf an_Parser_parse_shelf : Option Addr} {sl_Parser_parse_shelf : Array (Option Value)}
    {oc_Parser_parse_step kV_Parser_parse_step dc_Parser_parse_step pm_Parser_parse_step cd_Parser_parse_step ct_Parser_parse_step : Value} {od_Parser_parse_step an_Parser_parse_step : Option Addr} {sl_Parser_parse_step : Array (Option Value)}
    {oc_Parser_parse_robot kV_Parser_parse_robot dc_Parser_parse_robot pm_Parser_parse_robot cd_Parser_parse_robot ct_Parser_parse_robot : Value} {od_Parser_parse_robot an_Parser_parse_robot : Option Addr} {sl_Parser_parse_robot : Array (Option Value)}
    {oc_Parser_parse_plan kV_Parser_parse_plan dc_Parser_parse_plan pm_Parser_parse_plan cd_Parser_parse_plan ct_Parser_parse_plan : Value} {od_Parser_parse_plan an_Parser_parse_plan : Option Addr} {sl_Parser_parse_plan : Array (Option Value)}
    {oc_run_end kV_run_end dc_run_end pm_run_end cd_run_end ct_run_end : Value} {od_run_end an_run_end : Option Addr} {sl_run_end : Array (Option Value)}
    {oc_read_token kV_read_token dc_read_token pm_read_token cd_read_token ct_read_token : Value} {od_read_token an_read_token : Option Addr} {sl_read_token : Array (Option Value)}
    {oc_tokenize kV_tokenize dc_tokenize pm_tokenize cd_tokenize ct_tokenize : Value} {od_tokenize an_tokenize : Option Addr} {sl_tokenize : Array (Option Value)}
    {oc_load kV_load dc_load pm_load cd_load ct_load : Value} {od_load an_load : Option Addr} {sl_load : Array (Option Value)}
    {oc_count_steps kV_count_steps dc_count_steps pm_count_steps cd_count_steps ct_count_steps : Value} {od_count_steps an_count_steps : Option Addr} {sl_count_steps : Array (Option Value)}
    {oc_label kV_label dc_label pm_label cd_label ct_label : Value} {od_label an_label : Option Addr} {sl_label : Array (Option Value)}
    {oc_format_robot kV_format_robot dc_format_robot pm_format_robot cd_format_robot ct_format_robot : Value} {od_format_robot an_format_robot : Option Addr} {sl_format_robot : Array (Option Value)}
    {oc_format_parsed kV_format_parsed dc_format_parsed pm_format_parsed cd_format_parsed ct_format_parsed : Value} {od_format_parsed an_format_parsed : Option Addr} {sl_format_parsed : Array (Option Value)}
    {oc_format_plan kV_format_plan dc_format_plan pm_format_plan cd_format_plan ct_format_plan : Value} {od_format_plan an_format_plan : Option Addr} {sl_format_plan : Array (Option Value)}
    {oc_law kV_law dc_law pm_law cd_law ct_law : Value} {od_law an_law : Option Addr} {sl_law : Array (Option Value)}
    {t0_MOVES t1_MOVES t2_MOVES t3_MOVES t4_MOVES : Tok} {sl_MOVES : Array (Option Value)} {nn_MOVES : Nat}
    {t0_JUMPS t1_JUMPS t2_JUMPS : Tok} {sl_JUMPS : Array (Option Value)} {nn_JUMPS : Nat}
    {t0_KEYWORDS t1_KEYWORDS t2_KEYWORDS t3_KEYWORDS t4_KEYWORDS t5_KEYWORDS t6_KEYWORDS t7_KEYWORDS t8_KEYWORDS t9_KEYWORDS : Tok} {sl_KEYWORDS : Array (Option Value)} {nn_KEYWORDS : Nat}
    {t_LETTERS : Tok}
    {t_DIGITS : Tok}
    {t_SPACES : Tok}
    {t_SIGNS : Tok}
    {t_MAX_LETTERS : Tok}
    {t_MAX_DIGITS : Tok}
    {t_NAME : Tok}
    {t_NUMBER : Tok}
    {t_KEYWORD : Tok}
    {t_SIGN : Tok}
    {t_END : Tok}
    {t_MIN_CELLS : Tok}
    {t_MAX_CELLS : Tok}
    {t_MAX_BOXES : Tok}
    {t_MAX_STEPS : Tok}
    (aC_Token : PySem.W.nsIn K mainGlobals "Token" = some (some (.ref C_Token)))
    (aC_Robot : PySem.W.nsIn K mainGlobals "Robot" = some (some (.ref C_Robot)))
    (aC_Plan : PySem.W.nsIn K mainGlobals "Plan" = some (some (.ref C_Plan)))
    (aC_Parser : PySem.W.nsIn K mainGlobals "Parser" = some (some (.ref C_Parser)))
    (a_l_random : PySem.W.nsIn K mainGlobals "_law_random" = some (some (.ref f_l_random)))
    (l_l_random : K.lookup f_l_random = some ⟨oc_l_random, od_l_random, .func (PySem.W.fnOf "_law_random" "_law_random" (defArgs s_l_random) (defBody s_l_random) (defScope s_l_random) .none kV_l_random dc_l_random pm_l_random an_l_random cd_l_random ct_l_random), sl_l_random⟩)
    (c_l_random : PySem.W.codeIn K cd_l_random "_law_random" = true)
    (k_l_random : PySem.W.keepIn K (.ref f_l_random) = true)
    (a_l_below : PySem.W.nsIn K mainGlobals "_law_below" = some (some (.ref f_l_below)))
    (l_l_below : K.lookup f_l_below = some ⟨oc_l_below, od_l_below, .func (PySem.W.fnOf "_law_below" "_law_below" (defArgs s_l_below) (defBody s_l_below) (defScope s_l_below) .none kV_l_below dc_l_below pm_l_below an_l_below cd_l_below ct_l_below), sl_l_below⟩)
    (c_l_below : PySem.W.codeIn K cd_l_below "_law_below" = true)
    (k_l_below : PySem.W.keepIn K (.ref f_l_below) = true)
    (a_l_steps : PySem.W.nsIn K mainGlobals "_law_steps" = some (some (.ref f_l_steps)))
    (l_l_steps : K.lookup f_l_steps = some ⟨oc_l_steps, od_l_steps, .func (PySem.W.fnOf "_law_steps" "_law_steps" (defArgs s_l_steps) (defBody s_l_steps) (defScope s_l_steps) .none kV_l_steps dc_l_steps pm_l_steps an_l_steps cd_l_steps ct_l_steps), sl_l_steps⟩)
    (c_l_steps : PySem.W.codeIn K cd_l_steps "_law_steps" = true)
    (k_l_steps : PySem.W.keepIn K (.ref f_l_steps) = true)
    (a_l_plan : PySem.W.nsIn K mainGlobals "_law_plan" = some (some (.ref f_l_plan)))
    (l_l_plan : K.lookup f_l_plan = some ⟨oc_l_plan, od_l_plan, .func (PySem.W.fnOf "_law_plan" "_law_plan" (defArgs s_l_plan) (defBody s_l_plan) (defScope s_l_plan) .none kV_l_plan dc_l_plan pm_l_plan an_l_plan cd_l_plan ct_l_plan), sl_l_plan⟩)
    (c_l_plan : PySem.W.codeIn K cd_l_plan "_law_plan" = true)
    (k_l_plan : PySem.W.keepIn K (.ref f_l_plan) = true)
    (a_l_text : PySem.W.nsIn K mainGlobals "_law_text" = some (some (.ref f_l_text)))
    (l_l_text : K.lookup f_l_text = some ⟨oc_l_text, od_l_text, .func (PySem.W.fnOf "_law_text" "_law_text" (defArgs s_l_text) (defBody s_l_text) (defScope s_l_text) .none kV_l_text dc_l_text pm_l_text an_l_text cd_l_text ct_l_text), sl_l_text⟩)
    (c_l_text : PySem.W.codeIn K cd_l_text "_law_text" = true)
    (k_l_text : PySem.W.keepIn K (.ref f_l_text) = true)
    (a_l_shuffled : PySem.W.nsIn K mainGlobals "_law_shuffled" = some (some (.ref f_l_shuffled)))
    (l_l_shuffled : K.lookup f_l_shuffled = some ⟨oc_l_shuffled, od_l_shuffled, .func (PySem.W.fnOf "_law_shuffled" "_law_shuffled" (defArgs s_l_shuffled) (defBody s_l_shuffled) (defScope s_l_shuffled) .none kV_l_shuffled dc_l_shuffled pm_l_shuffled an_l_shuffled cd_l_shuffled ct_l_shuffled), sl_l_shuffled⟩)
    (c_l_shuffled : PySem.W.codeIn K cd_l_shuffled "_law_shuffled" = true)
    (k_l_shuffled : PySem.W.keepIn K (.ref f_l_shuffled) = true)
    (a_l_equal : PySem.W.nsIn K mainGlobals "_law_equal" = some (some (.ref f_l_equal)))
    (l_l_equal : K.lookup f_l_equal = some ⟨oc_l_equal, od_l_equal, .func (PySem.W.fnOf "_law_equal" "_law_equal" (defArgs s_l_equal) (defBody s_l_equal) (defScope s_l_equal) .none kV_l_equal dc_l_equal pm_l_equal an_l_equal cd_l_equal ct_l_equal), sl_l_equal⟩)
    (c_l_equal : PySem.W.codeIn K cd_l_equal "_law_equal" = true)
    (k_l_equal : PySem.W.keepIn K (.ref f_l_equal) = true)
    (a_Parser_peek : PySem.W.findIn K (.ref C_Parser) "peek" = some (some (.ref f_Parser_peek)))
    (i_Parser_peek : PySem.W.isFn K (.ref f_Parser_peek) = true)
    (l_Parser_peek : K.lookup f_Parser_peek = some ⟨oc_Parser_peek, od_Parser_peek, .func (PySem.W.fnOf "peek" "Parser.peek" (defArgs s_Parser_peek) (defBody s_Parser_peek) (defScope s_Parser_peek) .none kV_Parser_peek dc_Parser_peek pm_Parser_peek an_Parser_peek cd_Parser_peek ct_Parser_peek), sl_Parser_peek⟩)
    (c_Parser_peek : PySem.W.codeIn K cd_Parser_peek "Parser.peek" = true)
    (k_Parser_peek : PySem.W.keepIn K (.ref f_Parser_peek) = true)
    (a_Token_init : PySem.W.findIn K (.ref C_Token) "__init__" = some (some (.ref f_Token_init)))
    (i_Token_init : PySem.W.isFn K (.ref f_Token_init) = true)
    (l_Token_init : K.lookup f_Token_init = some ⟨oc_Token_init, od_Token_init, .func (PySem.W.fnOf "__init__" "Token.__init__" (defArgs s_Token_init) (defBody s_Token_init) (defScope s_Token_init) .none kV_Token_init dc_Token_init pm_Token_init an_Token_init cd_Token_init ct_Token_init), sl_Token_init⟩)
    (c_Token_init : PySem.W.codeIn K cd_Token_init "Token.__init__" = true)
    (k_Token_init : PySem.W.keepIn K (.ref f_Token_init) = true)
    (a_Robot_init : PySem.W.findIn K (.ref C_Robot) "__init__" = some (some (.ref f_Robot_init)))
    (i_Robot_init : PySem.W.isFn K (.ref f_Robot_init) = true)
    (l_Robot_init : K.lookup f_Robot_init = some ⟨oc_Robot_init, od_Robot_init, .func (PySem.W.fnOf "__init__" "Robot.__init__" (defArgs s_Robot_init) (defBody s_Robot_init) (defScope s_Robot_init) .none kV_Robot_init dc_Robot_init pm_Robot_init an_Robot_init cd_Robot_init ct_Robot_init), sl_Robot_init⟩)
    (c_Robot_init : PySem.W.codeIn K cd_Robot_init "Robot.__init__" = true)
    (k_Robot_init : PySem.W.keepIn K (.ref f_Robot_init) = true)
    (a_Plan_init : PySem.W.findIn K (.ref C_Plan) "__init__" = some (some (.ref f_Plan_init)))
    (i_Plan_init : PySem.W.isFn K (.ref f_Plan_init) = true)
    (l_Plan_init : K.lookup f_Plan_init = some ⟨oc_Plan_init, od_Plan_init, .func (PySem.W.fnOf "__init__" "Plan.__init__" (defArgs s_Plan_init) (defBody s_Plan_init) (defScope s_Plan_init) .none kV_Plan_init dc_Plan_init pm_Plan_init an_Plan_init cd_Plan_init ct_Plan_init), sl_Plan_init⟩)
    (c_Plan_init : PySem.W.codeIn K cd_Plan_init "Plan.__init__" = true)
    (k_Plan_init : PySem.W.keepIn K (.ref f_Plan_init) = true)
    (a_Parser_init : PySem.W.findIn K (.ref C_Parser) "__init__" = some (some (.ref f_Parser_init)))
    (i_Parser_init : PySem.W.isFn K (.ref f_Parser_init) = true)
    (l_Parser_init : K.lookup f_Parser_init = some ⟨oc_Parser_init, od_Parser_init, .func (PySem.W.fnOf "__init__" "Parser.__init__" (defArgs s_Parser_init) (defBody s_Parser_init) (defScope s_Parser_init) .none kV_Parser_init dc_Parser_init pm_Parser_init an_Parser_init cd_Parser_init ct_Parser_init), sl_Parser_init⟩)
    (c_Parser_init : PySem.W.codeIn K cd_Parser_init "Parser.__init__" = true)
    (k_Parser_init : PySem.W.keepIn K (.ref f_Parser_init) = true)
    (a_Parser_fail : PySem.W.findIn K (.ref C_Parser) "fail" = some (some (.ref f_Parser_fail)))
    (i_Parser_fail : PySem.W.isFn K (.ref f_Parser_fail) = true)
    (l_Parser_fail : K.lookup f_Parser_fail = some ⟨oc_Parser_fail, od_Parser_fail, .func (PySem.W.fnOf "fail" "Parser.fail" (defArgs s_Parser_fail) (defBody s_Parser_fail) (defScope s_Parser_fail) .none kV_Parser_fail dc_Parser_fail pm_Parser_fail an_Parser_fail cd_Parser_fail ct_Parser_fail), sl_Parser_fail⟩)
    (c_Parser_fail : PySem.W.codeIn K cd_Parser_fail "Parser.fail" = true)
    (k_Parser_fail : PySem.W.keepIn K (.ref f_Parser_fail) = true)
    (a_Parser_take_word : PySem.W.findIn K (.ref C_Parser) "take_word" = some (some (.ref f_Parser_take_word)))
    (i_Parser_take_word : PySem.W.isFn K (.ref f_Parser_take_word) = true)
    (l_Parser_take_word : K.lookup f_Parser_take_word = some ⟨oc_Parser_take_word, od_Parser_take_word, .func (PySem.W.fnOf "take_word" "Parser.take_word" (defArgs s_Parser_take_word) (defBody s_Parser_take_word) (defScope s_Parser_take_word) .none kV_Parser_take_word dc_Parser_take_word pm_Parser_take_word an_Parser_take_word cd_Parser_take_word ct_Parser_take_word), sl_Parser_take_word⟩)
    (c_Parser_take_word : PySem.W.codeIn K cd_Parser_take_word "Parser.take_word" = true)
    (k_Parser_take_word : PySem.W.keepIn K (.ref f_Parser_take_word) = true)
    (a_Parser_take : PySem.W.findIn K (.ref C_Parser) "take" = some (some (.ref f_Parser_take)))
    (i_Parser_take : PySem.W.isFn K (.ref f_Parser_take) = true)
    (l_Parser_take : K.lookup f_Parser_take = some ⟨oc_Parser_take, od_Parser_take, .func (PySem.W.fnOf "take" "Parser.take" (defArgs s_Parser_take) (defBody s_Parser_take) (defScope s_Parser_take) .none kV_Parser_take dc_Parser_take pm_Parser_take an_Parser_take cd_Parser_take ct_Parser_take), sl_Parser_take⟩)
    (c_Parser_take : PySem.W.codeIn K cd_Parser_take "Parser.take" = true)
    (k_Parser_take : PySem.W.keepIn K (.ref f_Parser_take) = true)
    (a_Parser_found : PySem.W.findIn K (.ref C_Parser) "found" = some (some (.ref f_Parser_found)))
    (i_Parser_found : PySem.W.isFn K (.ref f_Parser_found) = true)
    (l_Parser_found : K.lookup f_Parser_found = some ⟨oc_Parser_found, od_Parser_found, .func (PySem.W.fnOf "found" "Parser.found" (defArgs s_Parser_found) (defBody s_Parser_found) (defScope s_Parser_found) .none kV_Parser_found dc_Parser_found pm_Parser_found an_Parser_found cd_Parser_found ct_Parser_found), sl_Parser_found⟩)
    (c_Parser_found : PySem.W.codeIn K cd_Parser_found "Parser.found" = true)
    (k_Parser_found : PySem.W.keepIn K (.ref f_Parser_found) = true)
    (a_Parser_parse_shelf : PySem.W.findIn K (.ref C_Parser) "parse_shelf" = some (some (.ref f_Parser_parse_shelf)))
    (i_Parser_parse_shelf : PySem.W.isFn K (.ref f_Parser_parse_shelf) = true)
    (l_Parser_parse_shelf : K.lookup f_Parser_parse_shelf = some ⟨oc_Parser_parse_shelf, od_Parser_parse_shelf, .func (PySem.W.fnOf "parse_shelf" "Parser.parse_shelf" (defArgs s_Parser_parse_shelf) (defBody s_Parser_parse_shelf) (defScope s_Parser_parse_shelf) .none kV_Parser_parse_shelf dc_Parser_parse_shelf pm_Parser_parse_shelf an_Parser_parse_shelf cd_Parser_parse_shelf ct_Parser_parse_shelf), sl_Parser_parse_shelf⟩)
    (c_Parser_parse_shelf : PySem.W.codeIn K cd_Parser_parse_shelf "Parser.parse_shelf" = true)
    (k_Parser_parse_shelf : PySem.W.keepIn K (.ref f_Parser_parse_shelf) = true)
    (a_Parser_parse_step : PySem.W.findIn K (.ref C_Parser) "parse_step" = some (some (.ref f_Parser_parse_step)))
    (i_Parser_parse_step : PySem.W.isFn K (.ref f_Parser_parse_step) = true)
    (l_Parser_parse_step : K.lookup f_Parser_parse_step = some ⟨oc_Parser_parse_step, od_Parser_parse_step, .func (PySem.W.fnOf "parse_step" "Parser.parse_step" (defArgs s_Parser_parse_step) (defBody s_Parser_parse_step) (defScope s_Parser_parse_step) .none kV_Parser_parse_step dc_Parser_parse_step pm_Parser_parse_step an_Parser_parse_step cd_Parser_parse_step ct_Parser_parse_step), sl_Parser_parse_step⟩)
    (c_Parser_parse_step : PySem.W.codeIn K cd_Parser_parse_step "Parser.parse_step" = true)
    (k_Parser_parse_step : PySem.W.keepIn K (.ref f_Parser_parse_step) = true)
    (a_Parser_parse_robot : PySem.W.findIn K (.ref C_Parser) "parse_robot" = some (some (.ref f_Parser_parse_robot)))
    (i_Parser_parse_robot : PySem.W.isFn K (.ref f_Parser_parse_robot) = true)
    (l_Parser_parse_robot : K.lookup f_Parser_parse_robot = some ⟨oc_Parser_parse_robot, od_Parser_parse_robot, .func (PySem.W.fnOf "parse_robot" "Parser.parse_robot" (defArgs s_Parser_parse_robot) (defBody s_Parser_parse_robot) (defScope s_Parser_parse_robot) .none kV_Parser_parse_robot dc_Parser_parse_robot pm_Parser_parse_robot an_Parser_parse_robot cd_Parser_parse_robot ct_Parser_parse_robot), sl_Parser_parse_robot⟩)
    (c_Parser_parse_robot : PySem.W.codeIn K cd_Parser_parse_robot "Parser.parse_robot" = true)
    (k_Parser_parse_robot : PySem.W.keepIn K (.ref f_Parser_parse_robot) = true)
    (a_Parser_parse_plan : PySem.W.findIn K (.ref C_Parser) "parse_plan" = some (some (.ref f_Parser_parse_plan)))
    (i_Parser_parse_plan : PySem.W.isFn K (.ref f_Parser_parse_plan) = true)
    (l_Parser_parse_plan : K.lookup f_Parser_parse_plan = some ⟨oc_Parser_parse_plan, od_Parser_parse_plan, .func (PySem.W.fnOf "parse_plan" "Parser.parse_plan" (defArgs s_Parser_parse_plan) (defBody s_Parser_parse_plan) (defScope s_Parser_parse_plan) .none kV_Parser_parse_plan dc_Parser_parse_plan pm_Parser_parse_plan an_Parser_parse_plan cd_Parser_parse_plan ct_Parser_parse_plan), sl_Parser_parse_plan⟩)
    (c_Parser_parse_plan : PySem.W.codeIn K cd_Parser_parse_plan "Parser.parse_plan" = true)
    (k_Parser_parse_plan : PySem.W.keepIn K (.ref f_Parser_parse_plan) = true)
    (a_run_end : PySem.W.nsIn K mainGlobals "run_end" = some (some (.ref f_run_end)))
    (l_run_end : K.lookup f_run_end = some ⟨oc_run_end, od_run_end, .func (PySem.W.fnOf "run_end" "run_end" (defArgs s_run_end) (defBody s_run_end) (defScope s_run_end) .none kV_run_end dc_run_end pm_run_end an_run_end cd_run_end ct_run_end), sl_run_end⟩)
    (c_run_end : PySem.W.codeIn K cd_run_end "run_end" = true)
    (k_run_end : PySem.W.keepIn K (.ref f_run_end) = true)
    (a_read_token : PySem.W.nsIn K mainGlobals "read_token" = some (some (.ref f_read_token)))
    (l_read_token : K.lookup f_read_token = some ⟨oc_read_token, od_read_token, .func (PySem.W.fnOf "read_token" "read_token" (defArgs s_read_token) (defBody s_read_token) (defScope s_read_token) .none kV_read_token dc_read_token pm_read_token an_read_token cd_read_token ct_read_token), sl_read_token⟩)
    (c_read_token : PySem.W.codeIn K cd_read_token "read_token" = true)
    (k_read_token : PySem.W.keepIn K (.ref f_read_token) = true)
    (a_tokenize : PySem.W.nsIn K mainGlobals "tokenize" = some (some (.ref f_tokenize)))
    (l_tokenize : K.lookup f_tokenize = some ⟨oc_tokenize, od_tokenize, .func (PySem.W.fnOf "tokenize" "tokenize" (defArgs s_tokenize) (defBody s_tokenize) (defScope s_tokenize) .none kV_tokenize dc_tokenize pm_tokenize an_tokenize cd_tokenize ct_tokenize), sl_tokenize⟩)
    (c_tokenize : PySem.W.codeIn K cd_tokenize "tokenize" = true)
    (k_tokenize : PySem.W.keepIn K (.ref f_tokenize) = true)
    (a_load : PySem.W.nsIn K mainGlobals "load" = some (some (.ref f_load)))
    (l_load : K.lookup f_load = some ⟨oc_load, od_load, .func (PySem.W.fnOf "load" "load" (defArgs s_load) (defBody s_load) (defScope s_load) .none kV_load dc_load pm_load an_load cd_load ct_load), sl_load⟩)
    (c_load : PySem.W.codeIn K cd_load "load" = true)
    (k_load : PySem.W.keepIn K (.ref f_load) = true)
    (a_count_steps : PySem.W.nsIn K mainGlobals "count_steps" = some (some (.ref f_count_steps)))
    (l_count_steps : K.lookup f_count_steps = some ⟨oc_count_steps, od_count_steps, .func (PySem.W.fnOf "count_steps" "count_steps" (defArgs s_count_steps) (defBody s_count_steps) (defScope s_count_steps) .none kV_count_steps dc_count_steps pm_count_steps an_count_steps cd_count_steps ct_count_steps), sl_count_steps⟩)
    (c_count_steps : PySem.W.codeIn K cd_count_steps "count_steps" = true)
    (k_count_steps : PySem.W.keepIn K (.ref f_count_steps) = true)
    (a_label : PySem.W.nsIn K mainGlobals "label" = some (some (.ref f_label)))
    (l_label : K.lookup f_label = some ⟨oc_label, od_label, .func (PySem.W.fnOf "label" "label" (defArgs s_label) (defBody s_label) (defScope s_label) .none kV_label dc_label pm_label an_label cd_label ct_label), sl_label⟩)
    (c_label : PySem.W.codeIn K cd_label "label" = true)
    (k_label : PySem.W.keepIn K (.ref f_label) = true)
    (a_format_robot : PySem.W.nsIn K mainGlobals "format_robot" = some (some (.ref f_format_robot)))
    (l_format_robot : K.lookup f_format_robot = some ⟨oc_format_robot, od_format_robot, .func (PySem.W.fnOf "format_robot" "format_robot" (defArgs s_format_robot) (defBody s_format_robot) (defScope s_format_robot) .none kV_format_robot dc_format_robot pm_format_robot an_format_robot cd_format_robot ct_format_robot), sl_format_robot⟩)
    (c_format_robot : PySem.W.codeIn K cd_format_robot "format_robot" = true)
    (k_format_robot : PySem.W.keepIn K (.ref f_format_robot) = true)
    (a_format_parsed : PySem.W.nsIn K mainGlobals "format_parsed" = some (some (.ref f_format_parsed)))
    (l_format_parsed : K.lookup f_format_parsed = some ⟨oc_format_parsed, od_format_parsed, .func (PySem.W.fnOf "format_parsed" "format_parsed" (defArgs s_format_parsed) (defBody s_format_parsed) (defScope s_format_parsed) .none kV_format_parsed dc_format_parsed pm_format_parsed an_format_parsed cd_format_parsed ct_format_parsed), sl_format_parsed⟩)
    (c_format_parsed : PySem.W.codeIn K cd_format_parsed "format_parsed" = true)
    (k_format_parsed : PySem.W.keepIn K (.ref f_format_parsed) = true)
    (a_format_plan : PySem.W.nsIn K mainGlobals "format_plan" = some (some (.ref f_format_plan)))
    (l_format_plan : K.lookup f_format_plan = some ⟨oc_format_plan, od_format_plan, .func (PySem.W.fnOf "format_plan" "format_plan" (defArgs s_format_plan) (defBody s_format_plan) (defScope s_format_plan) .none kV_format_plan dc_format_plan pm_format_plan an_format_plan cd_format_plan ct_format_plan), sl_format_plan⟩)
    (c_format_plan : PySem.W.codeIn K cd_format_plan "format_plan" = true)
    (k_format_plan : PySem.W.keepIn K (.ref f_format_plan) = true)
    (a_law : PySem.W.nsIn K mainGlobals "law" = some (some (.ref f_law)))
    (l_law : K.lookup f_law = some ⟨oc_law, od_law, .func (PySem.W.fnOf "law" "law" (defArgs s_law) (defBody s_law) (defScope s_law) .none kV_law dc_law pm_law an_law cd_law ct_law), sl_law⟩)
    (c_law : PySem.W.codeIn K cd_law "law" = true)
    (k_law : PySem.W.keepIn K (.ref f_law) = true)
    (pg_Token : PySem.W.plainGet K C_Token Str.empty = true)
    (hd_Token : PySem.W.hasDictIn K C_Token = true)
    (po_Token : PySem.W.plainOver K C_Token = true)
    (sa_Token : PySem.W.findIn K (.ref C_Token) "__setattr__" = some (some (.builtin "object.__setattr__")))
    (mk_Token : PySem.W.makesIn K C_Token = true)
    (kc_Token : PySem.W.keepIn K (.ref C_Token) = true)
    (n_Token_kind : PySem.W.findIn K (.ref C_Token) "kind" = some none)
    (n_Token_text : PySem.W.findIn K (.ref C_Token) "text" = some none)
    (n_Token_line : PySem.W.findIn K (.ref C_Token) "line" = some none)
    (n_Token_column : PySem.W.findIn K (.ref C_Token) "column" = some none)
    (pg_Robot : PySem.W.plainGet K C_Robot Str.empty = true)
    (hd_Robot : PySem.W.hasDictIn K C_Robot = true)
    (po_Robot : PySem.W.plainOver K C_Robot = true)
    (sa_Robot : PySem.W.findIn K (.ref C_Robot) "__setattr__" = some (some (.builtin "object.__setattr__")))
    (mk_Robot : PySem.W.makesIn K C_Robot = true)
    (kc_Robot : PySem.W.keepIn K (.ref C_Robot) = true)
    (n_Robot_start : PySem.W.findIn K (.ref C_Robot) "start" = some none)
    (n_Robot_steps : PySem.W.findIn K (.ref C_Robot) "steps" = some none)
    (n_Robot_names : PySem.W.findIn K (.ref C_Robot) "names" = some none)
    (pg_Plan : PySem.W.plainGet K C_Plan Str.empty = true)
    (hd_Plan : PySem.W.hasDictIn K C_Plan = true)
    (po_Plan : PySem.W.plainOver K C_Plan = true)
    (sa_Plan : PySem.W.findIn K (.ref C_Plan) "__setattr__" = some (some (.builtin "object.__setattr__")))
    (mk_Plan : PySem.W.makesIn K C_Plan = true)
    (kc_Plan : PySem.W.keepIn K (.ref C_Plan) = true)
    (n_Plan_shelf : PySem.W.findIn K (.ref C_Plan) "shelf" = some none)
    (n_Plan_robots : PySem.W.findIn K (.ref C_Plan) "robots" = some none)
    (pg_Parser : PySem.W.plainGet K C_Parser Str.empty = true)
    (hd_Parser : PySem.W.hasDictIn K C_Parser = true)
    (po_Parser : PySem.W.plainOver K C_Parser = true)
    (sa_Parser : PySem.W.findIn K (.ref C_Parser) "__setattr__" = some (some (.builtin "object.__setattr__")))
    (mk_Parser : PySem.W.makesIn K C_Parser = true)
    (kc_Parser : PySem.W.keepIn K (.ref C_Parser) = true)
    (n_Parser_tokens : PySem.W.findIn K (.ref C_Parser) "tokens" = some none)
    (n_Parser_at : PySem.W.findIn K (.ref C_Parser) "at" = some none)
    (n_Parser_faults : PySem.W.findIn K (.ref C_Parser) "faults" = some none)
    (z_len : PySem.W.nsIn K mainGlobals "len" = some none)
    (z_abs : PySem.W.nsIn K mainGlobals "abs" = some none)
    (z_range : PySem.W.nsIn K mainGlobals "range" = some none)
    (z_str : PySem.W.nsIn K mainGlobals "str" = some none)
    (z_int : PySem.W.nsIn K mainGlobals "int" = some none)
    (z_tuple : PySem.W.nsIn K mainGlobals "tuple" = some none)
    (z_list : PySem.W.nsIn K mainGlobals "list" = some none)
    (z_sum : PySem.W.nsIn K mainGlobals "sum" = some none)
    (z_isinstance : PySem.W.nsIn K mainGlobals "isinstance" = some none)
    (z_bool : PySem.W.nsIn K mainGlobals "bool" = some none)
    (z_enumerate : PySem.W.nsIn K mainGlobals "enumerate" = some none)
    (z_zip : PySem.W.nsIn K mainGlobals "zip" = some none)
    (z_min : PySem.W.nsIn K mainGlobals "min" = some none)
    (z_all : PySem.W.nsIn K mainGlobals "all" = some none)
    (a_MOVES : PySem.W.nsIn K mainGlobals "MOVES" = some (some (.ref A_MOVES)))
    (l_MOVES : K.lookup A_MOVES = some ⟨.type "tuple", none, .seq #[.str (Str.ofString "left") t0_MOVES, .str (Str.ofString "right") t1_MOVES, .str (Str.ofString "pick") t2_MOVES, .str (Str.ofString "put") t3_MOVES, .str (Str.ofString "wait") t4_MOVES] nn_MOVES, sl_MOVES⟩)
    (a_JUMPS : PySem.W.nsIn K mainGlobals "JUMPS" = some (some (.ref A_JUMPS)))
    (l_JUMPS : K.lookup A_JUMPS = some ⟨.type "tuple", none, .seq #[.str (Str.ofString "goto") t0_JUMPS, .str (Str.ofString "empty") t1_JUMPS, .str (Str.ofString "held") t2_JUMPS] nn_JUMPS, sl_JUMPS⟩)
    (a_KEYWORDS : PySem.W.nsIn K mainGlobals "KEYWORDS" = some (some (.ref A_KEYWORDS)))
    (l_KEYWORDS : K.lookup A_KEYWORDS = some ⟨.type "tuple", none, .seq #[.str (Str.ofString "shelf") t0_KEYWORDS, .str (Str.ofString "robot") t1_KEYWORDS, .str (Str.ofString "left") t2_KEYWORDS, .str (Str.ofString "right") t3_KEYWORDS, .str (Str.ofString "pick") t4_KEYWORDS, .str (Str.ofString "put") t5_KEYWORDS, .str (Str.ofString "wait") t6_KEYWORDS, .str (Str.ofString "goto") t7_KEYWORDS, .str (Str.ofString "empty") t8_KEYWORDS, .str (Str.ofString "held") t9_KEYWORDS] nn_KEYWORDS, sl_KEYWORDS⟩)
    (a_LETTERS : PySem.W.nsIn K mainGlobals "LETTERS" = some (some (.str (Str.ofString "abcdefghijklmnopqrstuvwxyz") t_LETTERS)))
    (a_DIGITS : PySem.W.nsIn K mainGlobals "DIGITS" = some (some (.str (Str.ofString "0123456789") t_DIGITS)))
    (a_SPACES : PySem.W.nsIn K mainGlobals "SPACES" = some (some (.str (Str.ofString " \n") t_SPACES)))
    (a_SIGNS : PySem.W.nsIn K mainGlobals "SIGNS" = some (some (.str (Str.ofString ";:{}") t_SIGNS)))
    (a_MAX_LETTERS : PySem.W.nsIn K mainGlobals "MAX_LETTERS" = some (some (.int 8 t_MAX_LETTERS)))
    (a_MAX_DIGITS : PySem.W.nsIn K mainGlobals "MAX_DIGITS" = some (some (.int 2 t_MAX_DIGITS)))
    (a_NAME : PySem.W.nsIn K mainGlobals "NAME" = some (some (.str (Str.ofString "name") t_NAME)))
    (a_NUMBER : PySem.W.nsIn K mainGlobals "NUMBER" = some (some (.str (Str.ofString "number") t_NUMBER)))
    (a_KEYWORD : PySem.W.nsIn K mainGlobals "KEYWORD" = some (some (.str (Str.ofString "keyword") t_KEYWORD)))
    (a_SIGN : PySem.W.nsIn K mainGlobals "SIGN" = some (some (.str (Str.ofString "sign") t_SIGN)))
    (a_END : PySem.W.nsIn K mainGlobals "END" = some (some (.str (Str.ofString "end") t_END)))
    (a_MIN_CELLS : PySem.W.nsIn K mainGlobals "MIN_CELLS" = some (some (.int 3 t_MIN_CELLS)))
    (a_MAX_CELLS : PySem.W.nsIn K mainGlobals "MAX_CELLS" = some (some (.int 12 t_MAX_CELLS)))
    (a_MAX_BOXES : PySem.W.nsIn K mainGlobals "MAX_BOXES" = some (some (.int 3 t_MAX_BOXES)))
    (a_MAX_STEPS : PySem.W.nsIn K mainGlobals "MAX_STEPS" = some (some (.int 20 t_MAX_STEPS)))
    : ∃ fd : FuncData, (∀ (s : Shared) (v : Value), BindsTo s fd ⟨[v], []⟩ [("_law_script", v)]) ∧ ∀ base : Heap, K.In base → base.Ns mainGlobals mg → FnOk l.prog w K mg base CX0 20 fa fd ["_law_script"] (spLaw K) := by
  have e := hfa.symm.trans (PySem.W.mg_of X G a_law)
  injection e with e
  injection e with e
  rw [e]
  let ad : Ad := { f_l_random := f_l_random, d_l_random := PySem.W.fnOf "_law_random" "_law_random" (defArgs s_l_random) (defBody s_l_random) (defScope s_l_random) .none kV_l_random dc_l_random pm_l_random an_l_random cd_l_random ct_l_random, f_l_below := f_l_below, d_l_below := PySem.W.fnOf "_law_below" "_law_below" (defArgs s_l_below) (defBody s_l_below) (defScope s_l_below) .none kV_l_below dc_l_below pm_l_below an_l_below cd_l_below ct_l_below, f_l_steps := f_l_steps, d_l_steps := PySem.W.fnOf "_law_steps" "_law_steps" (defArgs s_l_steps) (defBody s_l_steps) (defScope s_l_steps) .none kV_l_steps dc_l_steps pm_l_steps an_l_steps cd_l_steps ct_l_steps, f_l_plan := f_l_plan, d_l_plan := PySem.W.fnOf "_law_plan" "_law_plan" (defArgs s_l_plan) (defBody s_l_plan) (defScope s_l_plan) .none kV_l_plan dc_l_plan pm_l_plan an_l_plan cd_l_plan ct_l_plan, f_l_text := f_l_text, d_l_text := PySem.W.fnOf "_law_text" "_law_text" (defArgs s_l_text) (defBody s_l_text) (defScope s_l_text) .none kV_l_text dc_l_text pm_l_text an_l_text cd_l_text ct_l_text, f_l_shuffled := f_l_shuffled, d_l_shuffled := PySem.W.fnOf "_law_shuffled" "_law_shuffled" (defArgs s_l_shuffled) (defBody s_l_shuffled) (defScope s_l_shuffled) .none kV_l_shuffled dc_l_shuffled pm_l_shuffled an_l_shuffled cd_l_shuffled ct_l_shuffled, f_l_equal := f_l_equal, d_l_equal := PySem.W.fnOf "_law_equal" "_law_equal" (defArgs s_l_equal) (defBody s_l_equal) (defScope s_l_equal) .none kV_l_equal dc_l_equal pm_l_equal an_l_equal cd_l_equal ct_l_equal, f_Parser_peek := f_Parser_peek, d_Parser_peek := PySem.W.fnOf "peek" "Parser.peek" (defArgs s_Parser_peek) (defBody s_Parser_peek) (defScope s_Parser_peek) .none kV_Parser_peek dc_Parser_peek pm_Parser_peek an_Parser_peek cd_Parser_peek ct_Parser_peek, f_Token_init := f_Token_init, d_Token_init := PySem.W.fnOf "__init__" "Token.__init__" (defArgs s_Token_init) (defBody s_Token_init) (defScope s_Token_init) .none kV_Token_init dc_Token_init pm_Token_init an_Token_init cd_Token_init ct_Token_init, f_Robot_init := f_Robot_init, d_Robot_init := PySem.W.fnOf "__init__" "Robot.__init__" (defArgs s_Robot_init) (defBody s_Robot_init) (defScope s_Robot_init) .none kV_Robot_init dc_Robot_init pm_Robot_init an_Robot_init cd_Robot_init ct_Robot_init, f_Plan_init := f_Plan_init, d_Plan_init := PySem.W.fnOf "__init__" "Plan.__init__" (defArgs s_Plan_init) (defBody s_Plan_init) (defScope s_Plan_init) .none kV_Plan_init dc_Plan_init pm_Plan_init an_Plan_init cd_Plan_init ct_Plan_init, f_Parser_init := f_Parser_init, d_Parser_init := PySem.W.fnOf "__init__" "Parser.__init__" (defArgs s_Parser_init) (defBody s_Parser_init) (defScope s_Parser_init) .none kV_Parser_init dc_Parser_init pm_Parser_init an_Parser_init cd_Parser_init ct_Parser_init, f_Parser_fail := f_Parser_fail, d_Parser_fail := PySem.W.fnOf "fail" "Parser.fail" (defArgs s_Parser_fail) (defBody s_Parser_fail) (defScope s_Parser_fail) .none kV_Parser_fail dc_Parser_fail pm_Parser_fail an_Parser_fail cd_Parser_fail ct_Parser_fail, f_Parser_take_word := f_Parser_take_word, d_Parser_take_word := PySem.W.fnOf "take_word" "Parser.take_word" (defArgs s_Parser_take_word) (defBody s_Parser_take_word) (defScope s_Parser_take_word) .none kV_Parser_take_word dc_Parser_take_word pm_Parser_take_word an_Parser_take_word cd_Parser_take_word ct_Parser_take_word, f_Parser_take := f_Parser_take, d_Parser_take := PySem.W.fnOf "take" "Parser.take" (defArgs s_Parser_take) (defBody s_Parser_take) (defScope s_Parser_take) .none kV_Parser_take dc_Parser_take pm_Parser_take an_Parser_take cd_Parser_take ct_Parser_take, f_Parser_found := f_Parser_found, d_Parser_found := PySem.W.fnOf "found" "Parser.found" (defArgs s_Parser_found) (defBody s_Parser_found) (defScope s_Parser_found) .none kV_Parser_found dc_Parser_found pm_Parser_found an_Parser_found cd_Parser_found ct_Parser_found, f_Parser_parse_shelf := f_Parser_parse_shelf, d_Parser_parse_shelf := PySem.W.fnOf "parse_shelf" "Parser.parse_shelf" (defArgs s_Parser_parse_shelf) (defBody s_Parser_parse_shelf) (defScope s_Parser_parse_shelf) .none kV_Parser_parse_shelf dc_Parser_parse_shelf pm_Parser_parse_shelf an_Parser_parse_shelf cd_Parser_parse_shelf ct_Parser_parse_shelf, f_Parser_parse_step := f_Parser_parse_step, d_Parser_parse_step := PySem.W.fnOf "parse_step" "Parser.parse_step" (defArgs s_Parser_parse_step) (defBody s_Parser_parse_step) (defScope s_Parser_parse_step) .none kV_Parser_parse_step dc_Parser_parse_step pm_Parser_parse_step an_Parser_parse_step cd_Parser_parse_step ct_Parser_parse_step, f_Parser_parse_robot := f_Parser_parse_robot, d_Parser_parse_robot := PySem.W.fnOf "parse_robot" "Parser.parse_robot" (defArgs s_Parser_parse_robot) (defBody s_Parser_parse_robot) (defScope s_Parser_parse_robot) .none kV_Parser_parse_robot dc_Parser_parse_robot pm_Parser_parse_robot an_Parser_parse_robot cd_Parser_parse_robot ct_Parser_parse_robot, f_Parser_parse_plan := f_Parser_parse_plan, d_Parser_parse_plan := PySem.W.fnOf "parse_plan" "Parser.parse_plan" (defArgs s_Parser_parse_plan) (defBody s_Parser_parse_plan) (defScope s_Parser_parse_plan) .none kV_Parser_parse_plan dc_Parser_parse_plan pm_Parser_parse_plan an_Parser_parse_plan cd_Parser_parse_plan ct_Parser_parse_plan, f_run_end := f_run_end, d_run_end := PySem.W.fnOf "run_end" "run_end" (defArgs s_run_end) (defBody s_run_end) (defScope s_run_end) .none kV_run_end dc_run_end pm_run_end an_run_end cd_run_end ct_run_end, f_read_token := f_read_token, d_read_token := PySem.W.fnOf "read_token" "read_token" (defArgs s_read_token) (defBody s_read_token) (defScope s_read_token) .none kV_read_token dc_read_token pm_read_token an_read_token cd_read_token ct_read_token, f_tokenize := f_tokenize, d_tokenize := PySem.W.fnOf "tokenize" "tokenize" (defArgs s_tokenize) (defBody s_tokenize) (defScope s_tokenize) .none kV_tokenize dc_tokenize pm_tokenize an_tokenize cd_tokenize ct_tokenize, f_load := f_load, d_load := PySem.W.fnOf "load" "load" (defArgs s_load) (defBody s_load) (defScope s_load) .none kV_load dc_load pm_load an_load cd_load ct_load, f_count_steps := f_count_steps, d_count_steps := PySem.W.fnOf "count_steps" "count_steps" (defArgs s_count_steps) (defBody s_count_steps) (defScope s_count_steps) .none kV_count_steps dc_count_steps pm_count_steps an_count_steps cd_count_steps ct_count_steps, f_label := f_label, d_label := PySem.W.fnOf "label" "label" (defArgs s_label) (defBody s_label) (defScope s_label) .none kV_label dc_label pm_label an_label cd_label ct_label, f_format_robot := f_format_robot, d_format_robot := PySem.W.fnOf "format_robot" "format_robot" (defArgs s_format_robot) (defBody s_format_robot) (defScope s_format_robot) .none kV_format_robot dc_format_robot pm_format_robot an_format_robot cd_format_robot ct_format_robot, f_format_parsed := f_format_parsed, d_format_parsed := PySem.W.fnOf "format_parsed" "format_parsed" (defArgs s_format_parsed) (defBody s_format_parsed) (defScope s_format_parsed) .none kV_format_parsed dc_format_parsed pm_format_parsed an_format_parsed cd_format_parsed ct_format_parsed, f_format_plan := f_format_plan, d_format_plan := PySem.W.fnOf "format_plan" "format_plan" (defArgs s_format_plan) (defBody s_format_plan) (defScope s_format_plan) .none kV_format_plan dc_format_plan pm_format_plan an_format_plan cd_format_plan ct_format_plan, f_law := f_law, d_law := PySem.W.fnOf "law" "law" (defArgs s_law) (defBody s_law) (defScope s_law) .none kV_law dc_law pm_law an_law cd_law ct_law, C_Token := C_Token, C_Robot := C_Robot, C_Plan := C_Plan, C_Parser := C_Parser, A_MOVES := A_MOVES, A_JUMPS := A_JUMPS, A_KEYWORDS := A_KEYWORDS, t_LETTERS := t_LETTERS, t_DIGITS := t_DIGITS, t_SPACES := t_SPACES, t_SIGNS := t_SIGNS, t_MAX_LETTERS := t_MAX_LETTERS, t_MAX_DIGITS := t_MAX_DIGITS, t_NAME := t_NAME, t_NUMBER := t_NUMBER, t_KEYWORD := t_KEYWORD, t_SIGN := t_SIGN, t_END := t_END, t_MIN_CELLS := t_MIN_CELLS, t_MAX_CELLS := t_MAX_CELLS, t_MAX_BOXES := t_MAX_BOXES, t_MAX_STEPS := t_MAX_STEPS }
  have T : Txt K mg ad := { F_l_random := fun_mk (st := s_l_random) l_l_random c_l_random k_l_random, m_l_random := PySem.W.mg_of X G a_l_random, F_l_below := fun_mk (st := s_l_below) l_l_below c_l_below k_l_below, m_l_below := PySem.W.mg_of X G a_l_below, F_l_steps := fun_mk (st := s_l_steps) l_l_steps c_l_steps k_l_steps, m_l_steps := PySem.W.mg_of X G a_l_steps, F_l_plan := fun_mk (st := s_l_plan) l_l_plan c_l_plan k_l_plan, m_l_plan := PySem.W.mg_of X G a_l_plan, F_l_text := fun_mk (st := s_l_text) l_l_text c_l_text k_l_text, m_l_text := PySem.W.mg_of X G a_l_text, F_l_shuffled := fun_mk (st := s_l_shuffled) l_l_shuffled c_l_shuffled k_l_shuffled, m_l_shuffled := PySem.W.mg_of X G a_l_shuffled, F_l_equal := fun_mk (st := s_l_equal) l_l_equal c_l_equal k_l_equal, m_l_equal := PySem.W.mg_of X G a_l_equal, F_Parser_peek := fun_mk (st := s_Parser_peek) l_Parser_peek c_Parser_peek k_Parser_peek, M_Parser_peek := ⟨a_Parser_peek, i_Parser_peek, k_Parser_peek⟩, F_Token_init := fun_mk (st := s_Token_init) l_Token_init c_Token_init k_Token_init, F_Robot_init := fun_mk (st := s_Robot_init) l_Robot_init c_Robot_init k_Robot_init, F_Plan_init := fun_mk (st := s_Plan_init) l_Plan_init c_Plan_init k_Plan_init, F_Parser_init := fun_mk (st := s_Parser_init) l_Parser_init c_Parser_init k_Parser_init, F_Parser_fail := fun_mk (st := s_Parser_fail) l_Parser_fail c_Parser_fail k_Parser_fail, M_Parser_fail := ⟨a_Parser_fail, i_Parser_fail, k_Parser_fail⟩, F_Parser_take_word := fun_mk (st := s_Parser_take_word) l_Parser_take_word c_Parser_take_word k_Parser_take_word, M_Parser_take_word := ⟨a_Parser_take_word, i_Parser_take_word, k_Parser_take_word⟩, F_Parser_take := fun_mk (st := s_Parser_take) l_Parser_take c_Parser_take k_Parser_take, M_Parser_take := ⟨a_Parser_take, i_Parser_take, k_Parser_take⟩, F_Parser_found := fun_mk (st := s_Parser_found) l_Parser_found c_Parser_found k_Parser_found, M_Parser_found := ⟨a_Parser_found, i_Parser_found, k_Parser_found⟩, F_Parser_parse_shelf := fun_mk (st := s_Parser_parse_shelf) l_Parser_parse_shelf c_Parser_parse_shelf k_Parser_parse_shelf, M_Parser_parse_shelf := ⟨a_Parser_parse_shelf, i_Parser_parse_shelf, k_Parser_parse_shelf⟩, F_Parser_parse_step := fun_mk (st := s_Parser_parse_step) l_Parser_parse_step c_Parser_parse_step k_Parser_parse_step, M_Parser_parse_step := ⟨a_Parser_parse_step, i_Parser_parse_step, k_Parser_parse_step⟩, F_Parser_parse_robot := fun_mk (st := s_Parser_parse_robot) l_Parser_parse_robot c_Parser_parse_robot k_Parser_parse_robot, M_Parser_parse_robot := ⟨a_Parser_parse_robot, i_Parser_parse_robot, k_Parser_parse_robot⟩, F_Parser_parse_plan := fun_mk (st := s_Parser_parse_plan) l_Parser_parse_plan c_Parser_parse_plan k_Parser_parse_plan, M_Parser_parse_plan := ⟨a_Parser_parse_plan, i_Parser_parse_plan, k_Parser_parse_plan⟩, F_run_end := fun_mk (st := s_run_end) l_run_end c_run_end k_run_end, m_run_end := PySem.W.mg_of X G a_run_end, F_read_token := fun_mk (st := s_read_token) l_read_token c_read_token k_read_token, m_read_token := PySem.W.mg_of X G a_read_token, F_tokenize := fun_mk (st := s_tokenize) l_tokenize c_tokenize k_tokenize, m_tokenize := PySem.W.mg_of X G a_tokenize, F_load := fun_mk (st := s_load) l_load c_load k_load, m_load := PySem.W.mg_of X G a_load, F_count_steps := fun_mk (st := s_count_steps) l_count_steps c_count_steps k_count_steps, m_count_steps := PySem.W.mg_of X G a_count_steps, F_label := fun_mk (st := s_label) l_label c_label k_label, m_label := PySem.W.mg_of X G a_label, F_format_robot := fun_mk (st := s_format_robot) l_format_robot c_format_robot k_format_robot, m_format_robot := PySem.W.mg_of X G a_format_robot, F_format_parsed := fun_mk (st := s_format_parsed) l_format_parsed c_format_parsed k_format_parsed, m_format_parsed := PySem.W.mg_of X G a_format_parsed, F_format_plan := fun_mk (st := s_format_plan) l_format_plan c_format_plan k_format_plan, m_format_plan := PySem.W.mg_of X G a_format_plan, F_law := fun_mk (st := s_law) l_law c_law k_law, m_law := PySem.W.mg_of X G a_law, m_Token := PySem.W.mg_of X G aC_Token, cl_Token := ⟨pg_Token, hd_Token, po_Token, sa_Token⟩, mk_Token := ⟨mk_Token, a_Token_init, i_Token_init, kc_Token⟩, n_Token_kind := n_Token_kind, n_Token_text := n_Token_text, n_Token_line := n_Token_line, n_Token_column := n_Token_column, m_Robot := PySem.W.mg_of X G aC_Robot, cl_Robot := ⟨pg_Robot, hd_Robot, po_Robot, sa_Robot⟩, mk_Robot := ⟨mk_Robot, a_Robot_init, i_Robot_init, kc_Robot⟩, n_Robot_start := n_Robot_start, n_Robot_steps := n_Robot_steps, n_Robot_names := n_Robot_names, m_Plan := PySem.W.mg_of X G aC_Plan, cl_Plan := ⟨pg_Plan, hd_Plan, po_Plan, sa_Plan⟩, mk_Plan := ⟨mk_Plan, a_Plan_init, i_Plan_init, kc_Plan⟩, n_Plan_shelf := n_Plan_shelf, n_Plan_robots := n_Plan_robots, m_Parser := PySem.W.mg_of X G aC_Parser, cl_Parser := ⟨pg_Parser, hd_Parser, po_Parser, sa_Parser⟩, mk_Parser := ⟨mk_Parser, a_Parser_init, i_Parser_init, kc_Parser⟩, n_Parser_tokens := n_Parser_tokens, n_Parser_at := n_Parser_at, n_Parser_faults := n_Parser_faults, z_len := PySem.W.mg_none_of X G z_len, z_abs := PySem.W.mg_none_of X G z_abs, z_range := PySem.W.mg_none_of X G z_range, z_str := PySem.W.mg_none_of X G z_str, z_int := PySem.W.mg_none_of X G z_int, z_tuple := PySem.W.mg_none_of X G z_tuple, z_list := PySem.W.mg_none_of X G z_list, z_sum := PySem.W.mg_none_of X G z_sum, z_isinstance := PySem.W.mg_none_of X G z_isinstance, z_bool := PySem.W.mg_none_of X G z_bool, z_enumerate := PySem.W.mg_none_of X G z_enumerate, z_zip := PySem.W.mg_none_of X G z_zip, z_min := PySem.W.mg_none_of X G z_min, z_all := PySem.W.mg_none_of X G z_all, c_MOVES := PySem.W.mg_of X G a_MOVES, k_MOVES := ⟨_, l_MOVES, rfl, rfl⟩, q_MOVES := fun H => .inr ⟨_, _, _, l_MOVES, rfl, rfl, (small 5 (Nat.le_refl _) (by decide)), .cons ⟨_, rfl⟩ (.cons ⟨_, rfl⟩ (.cons ⟨_, rfl⟩ (.cons ⟨_, rfl⟩ (.cons ⟨_, rfl⟩ (.nil)))))⟩, c_JUMPS := PySem.W.mg_of X G a_JUMPS, k_JUMPS := ⟨_, l_JUMPS, rfl, rfl⟩, q_JUMPS := fun H => .inr ⟨_, _, _, l_JUMPS, rfl, rfl, (small 3 (Nat.le_refl _) (by decide)), .cons ⟨_, rfl⟩ (.cons ⟨_, rfl⟩ (.cons ⟨_, rfl⟩ (.nil)))⟩, c_KEYWORDS := PySem.W.mg_of X G a_KEYWORDS, k_KEYWORDS := ⟨_, l_KEYWORDS, rfl, rfl⟩, q_KEYWORDS := fun H => .inr ⟨_, _, _, l_KEYWORDS, rfl, rfl, (small 10 (Nat.le_refl _) (by decide)), .cons ⟨_, rfl⟩ (.cons ⟨_, rfl⟩ (.cons ⟨_, rfl⟩ (.cons ⟨_, rfl⟩ (.cons ⟨_, rfl⟩ (.cons ⟨_, rfl⟩ (.cons ⟨_, rfl⟩ (.cons ⟨_, rfl⟩ (.cons ⟨_, rfl⟩ (.cons ⟨_, rfl⟩ (.nil))))))))))⟩, c_LETTERS := PySem.W.mg_of X G a_LETTERS, c_DIGITS := PySem.W.mg_of X G a_DIGITS, c_SPACES := PySem.W.mg_of X G a_SPACES, c_SIGNS := PySem.W.mg_of X G a_SIGNS, c_MAX_LETTERS := PySem.W.mg_of X G a_MAX_LETTERS, c_MAX_DIGITS := PySem.W.mg_of X G a_MAX_DIGITS, c_NAME := PySem.W.mg_of X G a_NAME, c_NUMBER := PySem.W.mg_of X G a_NUMBER, c_KEYWORD := PySem.W.mg_of X G a_KEYWORD, c_SIGN := PySem.W.mg_of X G a_SIGN, c_END := PySem.W.mg_of X G a_END, c_MIN_CELLS := PySem.W.mg_of X G a_MIN_CELLS, c_MAX_CELLS := PySem.W.mg_of X G a_MAX_CELLS, c_MAX_BOXES := PySem.W.mg_of X G a_MAX_BOXES, c_MAX_STEPS := PySem.W.mg_of X G a_MAX_STEPS }
  exact ⟨ad.d_law, fun s v => .of_eq rfl, fun base _ _ => ok_law T⟩
theorem walk {l : PySem.W.OpenLaw} {q : Program} {loose : List Str} {XP : (Str → Option Value) → Heap → Prop} {YP : World → Heap → Prop} {d : DefRec} {K : Params → PySem.W.Frag} (hn : l.most = some 63) (hdf : d.params.defaults = [])
    (hY : ∀ (w : World) (h : Heap), YP w h → (K w.params).In h)
    (F : ∀ (w : World) (mg : Str → Option Value) (fa : Addr) (h : Heap), (K w.params).In h → h.Ns mainGlobals mg → mg d.name = some (.ref fa) →
      ∃ fd : FuncData, (∀ (s : Shared) (u : Value), BindsTo s fd ⟨[u], []⟩ [("_law_script", u)]) ∧ ∀ base : Heap, (K w.params).In base → base.Ns mainGlobals mg → FnOk l.prog w (K w.params) mg base CX0 20 fa fd ["_law_script"] (spLaw (K w.params))) :
    PySem.W.WalkO q loose XP YP l.row.toRowW d [] (fun f vs => PySem.call f vs) :=
  L2.walk_of (n := 63) (k := 20) (x := "_law_script") (CX := fun _ => CX0) (sp := fun w => spLaw (K w.params)) hn (by decide) hdf ⟨rfl, by decide, by decide⟩ hY F (fun _ _ a ns hl _ hS => ⟨a, ns, rfl, hS, hl, fun _ => rfl⟩) fun _ _ _ _ _ z => z
end Sb
open PySem PySem.W PyProof.Rows in
set_option maxRecDepth 100000 in
set_option maxHeartbeats 0 in
theorem PySem.Challenge.cw_shelfbots_k03_canonical_plans_holds : PySem.Challenge.rw_shelfbots_k03_canonical_plans.Holds := by
  refine hd ?_
  k_fill
  refine Sb.walk (l := PySem.Challenge.rw_shelfbots_k03_canonical_plans) rfl rfl (fun w h Y => PySem.W.kIn_of Y) ?F
  case F =>
    intro w mg fa h KX G hmg
    refine' Sb.all_mk KX G hmg ?aC_Token ?aC_Robot ?aC_Plan ?aC_Parser ?a_l_random ?l_l_random ?c_l_random ?k_l_random ?a_l_below ?l_l_below ?c_l_below ?k_l_below ?a_l_steps ?l_l_steps ?c_l_steps ?k_l_steps ?a_l_plan ?l_l_plan ?c_l_plan ?k_l_plan ?a_l_text ?l_l_text ?c_l_text ?k_l_text ?a_l_shuffled ?l_l_shuffled ?c_l_shuffled ?k_l_shuffled ?a_l_equal ?l_l_equal ?c_l_equal ?k_l_equal ?a_Parser_peek ?i_Parser_peek ?l_Parser_peek ?c_Parser_peek ?k_Parser_peek ?a_Token_init ?i_Token_init ?l_Token_init ?c_Token_init ?k_Token_init ?a_Robot_init ?i_Robot_init ?l_Robot_init ?c_Robot_init ?k_Robot_init ?a_Plan_init ?i_Plan_init ?l_Plan_init ?c_Plan_init ?k_Plan_init ?a_Parser_init ?i_Parser_init ?l_Parser_init ?c_Parser_init ?k_Parser_init ?a_Parser_fail ?i_Parser_fail ?l_Parser_fail ?c_Parser_fail ?k_Parser_fail ?a_Parser_take_word ?i_Parser_take_word ?l_Parser_take_word ?c_Parser_take_word ?k_Parser_take_word ?a_Parser_take ?i_Parser_take ?l_Parser_take ?c_Parser_take ?k_Parser_take ?a_Parser_found ?i_Parser_found ?l_Parser_found ?c_Parser_found ?k_Parser_found ?a_Parser_parse_shelf ?i_Parser_parse_shelf ?l_Parser_parse_shelf ?c_Parser_parse_shelf ?k_Parser_parse_shelf ?a_Parser_parse_step ?i_Parser_parse_step ?l_Parser_parse_step ?c_Parser_parse_step ?k_Parser_parse_step ?a_Parser_parse_robot ?i_Parser_parse_robot ?l_Parser_parse_robot ?c_Parser_parse_robot ?k_Parser_parse_robot ?a_Parser_parse_plan ?i_Parser_parse_plan ?l_Parser_parse_plan ?c_Parser_parse_plan ?k_Parser_parse_plan ?a_run_end ?l_run_end ?c_run_end ?k_run_end ?a_read_token ?l_read_token ?c_read_token ?k_read_token ?a_tokenize ?l_tokenize ?c_tokenize ?k_tokenize ?a_load ?l_load ?c_load ?k_load ?a_count_steps ?l_count_steps ?c_count_steps ?k_count_steps ?a_label ?l_label ?c_label ?k_label ?a_format_robot ?l_format_robot ?c_format_robot ?k_format_robot ?a_format_parsed ?l_format_parsed ?c_format_parsed ?k_format_parsed ?a_format_plan ?l_format_plan ?c_format_plan ?k_format_plan ?a_law ?l_law ?c_law ?k_law ?pg_Token ?hd_Token ?po_Token ?sa_Token ?mk_Token ?kc_Token ?n_Token_kind ?n_Token_text ?n_Token_line ?n_Token_column ?pg_Robot ?hd_Robot ?po_Robot ?sa_Robot ?mk_Robot ?kc_Robot ?n_Robot_start ?n_Robot_steps ?n_Robot_names ?pg_Plan ?hd_Plan ?po_Plan ?sa_Plan ?mk_Plan ?kc_Plan ?n_Plan_shelf ?n_Plan_robots ?pg_Parser ?hd_Parser ?po_Parser ?sa_Parser ?mk_Parser ?kc_Parser ?n_Parser_tokens ?n_Parser_at ?n_Parser_faults ?z_len ?z_abs ?z_range ?z_str ?z_int ?z_tuple ?z_list ?z_sum ?z_isinstance ?z_bool ?z_enumerate ?z_zip ?z_min ?z_all ?a_MOVES ?l_MOVES ?a_JUMPS ?l_JUMPS ?a_KEYWORDS ?l_KEYWORDS ?a_LETTERS ?a_DIGITS ?a_SPACES ?a_SIGNS ?a_MAX_LETTERS ?a_MAX_DIGITS ?a_NAME ?a_NUMBER ?a_KEYWORD ?a_SIGN ?a_END ?a_MIN_CELLS ?a_MAX_CELLS ?a_MAX_BOXES ?a_MAX_STEPS
    (case aC_Token => first | k_is | fail "EC aC_Token")
    (case aC_Robot => first | k_is | fail "EC aC_Robot")
    (case aC_Plan => first | k_is | fail "EC aC_Plan")
    (case aC_Parser => first | k_is | fail "EC aC_Parser")
    (case a_l_random => first | k_is | fail "EC a_l_random")
    (case l_l_random => first | k_is | fail "EC l_l_random")
    (case c_l_random => first | k_is | fail "EC c_l_random")
    (case k_l_random => first | k_is | fail "EC k_l_random")
    (case a_l_below => first | k_is | fail "EC a_l_below")
    (case l_l_below => first | k_is | fail "EC l_l_below")
    (case c_l_below => first | k_is | fail "EC c_l_below")
    (case k_l_below => first | k_is | fail "EC k_l_below")
    (case a_l_steps => first | k_is | fail "EC a_l_steps")
    (case l_l_steps => first | k_is | fail "EC l_l_steps")
    (case c_l_steps => first | k_is | fail "EC c_l_steps")
    (case k_l_steps => first | k_is | fail "EC k_l_steps")
    (case a_l_plan => first | k_is | fail "EC a_l_plan")
    (case l_l_plan => first | k_is | fail "EC l_l_plan")
    (case c_l_plan => first | k_is | fail "EC c_l_plan")
    (case k_l_plan => first | k_is | fail "EC k_l_plan")
    (case a_l_text => first | k_is | fail "EC a_l_text")
    (case l_l_text => first | k_is | fail "EC l_l_text")
    (case c_l_text => first | k_is | fail "EC c_l_text")
    (case k_l_text => first | k_is | fail "EC k_l_text")
    (case a_l_shuffled => first | k_is | fail "EC a_l_shuffled")
    (case l_l_shuffled => first | k_is | fail "EC l_l_shuffled")
    (case c_l_shuffled => first | k_is | fail "EC c_l_shuffled")
    (case k_l_shuffled => first | k_is | fail "EC k_l_shuffled")
    (case a_l_equal => first | k_is | fail "EC a_l_equal")
    (case l_l_equal => first | k_is | fail "EC l_l_equal")
    (case c_l_equal => first | k_is | fail "EC c_l_equal")
    (case k_l_equal => first | k_is | fail "EC k_l_equal")
    (case a_Parser_peek => first | k_is | fail "EC a_Parser_peek")
    (case i_Parser_peek => first | k_is | fail "EC i_Parser_peek")
    (case l_Parser_peek => first | k_is | fail "EC l_Parser_peek")
    (case c_Parser_peek => first | k_is | fail "EC c_Parser_peek")
    (case k_Parser_peek => first | k_is | fail "EC k_Parser_peek")
    (case a_Token_init => first | k_is | fail "EC a_Token_init")
    (case i_Token_init => first | k_is | fail "EC i_Token_init")
    (case l_Token_init => first | k_is | fail "EC l_Token_init")
    (case c_Token_init => first | k_is | fail "EC c_Token_init")
    (case k_Token_init => first | k_is | fail "EC k_Token_init")
    (case a_Robot_init => first | k_is | fail "EC a_Robot_init")
    (case i_Robot_init => first | k_is | fail "EC i_Robot_init")
    (case l_Robot_init => first | k_is | fail "EC l_Robot_init")
    (case c_Robot_init => first | k_is | fail "EC c_Robot_init")
    (case k_Robot_init => first | k_is | fail "EC k_Robot_init")
    (case a_Plan_init => first | k_is | fail "EC a_Plan_init")
    (case i_Plan_init => first | k_is | fail "EC i_Plan_init")
    (case l_Plan_init => first | k_is | fail "EC l_Plan_init")
    (case c_Plan_init => first | k_is | fail "EC c_Plan_init")
    (case k_Plan_init => first | k_is | fail "EC k_Plan_init")
    (case a_Parser_init => first | k_is | fail "EC a_Parser_init")
    (case i_Parser_init => first | k_is | fail "EC i_Parser_init")
    (case l_Parser_init => first | k_is | fail "EC l_Parser_init")
    (case c_Parser_init => first | k_is | fail "EC c_Parser_init")
    (case k_Parser_init => first | k_is | fail "EC k_Parser_init")
    (case a_Parser_fail => first | k_is | fail "EC a_Parser_fail")
    (case i_Parser_fail => first | k_is | fail "EC i_Parser_fail")
    (case l_Parser_fail => first | k_is | fail "EC l_Parser_fail")
    (case c_Parser_fail => first | k_is | fail "EC c_Parser_fail")
    (case k_Parser_fail => first | k_is | fail "EC k_Parser_fail")
    (case a_Parser_take_word => first | k_is | fail "EC a_Parser_take_word")
    (case i_Parser_take_word => first | k_is | fail "EC i_Parser_take_word")
    (case l_Parser_take_word => first | k_is | fail "EC l_Parser_take_word")
    (case c_Parser_take_word => first | k_is | fail "EC c_Parser_take_word")
    (case k_Parser_take_word => first | k_is | fail "EC k_Parser_take_word")
    (case a_Parser_take => first | k_is | fail "EC a_Parser_take")
    (case i_Parser_take => first | k_is | fail "EC i_Parser_take")
    (case l_Parser_take => first | k_is | fail "EC l_Parser_take")
    (case c_Parser_take => first | k_is | fail "EC c_Parser_take")
    (case k_Parser_take => first | k_is | fail "EC k_Parser_take")
    (case a_Parser_found => first | k_is | fail "EC a_Parser_found")
    (case i_Parser_found => first | k_is | fail "EC i_Parser_found")
    (case l_Parser_found => first | k_is | fail "EC l_Parser_found")
    (case c_Parser_found => first | k_is | fail "EC c_Parser_found")
    (case k_Parser_found => first | k_is | fail "EC k_Parser_found")
    (case a_Parser_parse_shelf => first | k_is | fail "EC a_Parser_parse_shelf")
    (case i_Parser_parse_shelf => first | k_is | fail "EC i_Parser_parse_shelf")
    (case l_Parser_parse_shelf => first | k_is | fail "EC l_Parser_parse_shelf")
    (case c_Parser_parse_shelf => first | k_is | fail "EC c_Parser_parse_shelf")
    (case k_Parser_parse_shelf => first | k_is | fail "EC k_Parser_parse_shelf")
    (case a_Parser_parse_step => first | k_is | fail "EC a_Parser_parse_step")
    (case i_Parser_parse_step => first | k_is | fail "EC i_Parser_parse_step")
    (case l_Parser_parse_step => first | k_is | fail "EC l_Parser_parse_step")
    (case c_Parser_parse_step => first | k_is | fail "EC c_Parser_parse_step")
    (case k_Parser_parse_step => first | k_is | fail "EC k_Parser_parse_step")
    (case a_Parser_parse_robot => first | k_is | fail "EC a_Parser_parse_robot")
    (case i_Parser_parse_robot => first | k_is | fail "EC i_Parser_parse_robot")
    (case l_Parser_parse_robot => first | k_is | fail "EC l_Parser_parse_robot")
    (case c_Parser_parse_robot => first | k_is | fail "EC c_Parser_parse_robot")
    (case k_Parser_parse_robot => first | k_is | fail "EC k_Parser_parse_robot")
    (case a_Parser_parse_plan => first | k_is | fail "EC a_Parser_parse_plan")
    (case i_Parser_parse_plan => first | k_is | fail "EC i_Parser_parse_plan")
    (case l_Parser_parse_plan => first | k_is | fail "EC l_Parser_parse_plan")
    (case c_Parser_parse_plan => first | k_is | fail "EC c_Parser_parse_plan")
    (case k_Parser_parse_plan => first | k_is | fail "EC k_Parser_parse_plan")
    (case a_run_end => first | k_is | fail "EC a_run_end")
    (case l_run_end => first | k_is | fail "EC l_run_end")
    (case c_run_end => first | k_is | fail "EC c_run_end")
    (case k_run_end => first | k_is | fail "EC k_run_end")
    (case a_read_token => first | k_is | fail "EC a_read_token")
    (case l_read_token => first | k_is | fail "EC l_read_token")
    (case c_read_token => first | k_is | fail "EC c_read_token")
    (case k_read_token => first | k_is | fail "EC k_read_token")
    (case a_tokenize => first | k_is | fail "EC a_tokenize")
    (case l_tokenize => first | k_is | fail "EC l_tokenize")
    (case c_tokenize => first | k_is | fail "EC c_tokenize")
    (case k_tokenize => first | k_is | fail "EC k_tokenize")
    (case a_load => first | k_is | fail "EC a_load")
    (case l_load => first | k_is | fail "EC l_load")
    (case c_load => first | k_is | fail "EC c_load")
    (case k_load => first | k_is | fail "EC k_load")
    (case a_count_steps => first | k_is | fail "EC a_count_steps")
    (case l_count_steps => first | k_is | fail "EC l_count_steps")
    (case c_count_steps => first | k_is | fail "EC c_count_steps")
    (case k_count_steps => first | k_is | fail "EC k_count_steps")
    (case a_label => first | k_is | fail "EC a_label")
    (case l_label => first | k_is | fail "EC l_label")
    (case c_label => first | k_is | fail "EC c_label")
    (case k_label => first | k_is | fail "EC k_label")
    (case a_format_robot => first | k_is | fail "EC a_format_robot")
    (case l_format_robot => first | k_is | fail "EC l_format_robot")
    (case c_format_robot => first | k_is | fail "EC c_format_robot")
    (case k_format_robot => first | k_is | fail "EC k_format_robot")
    (case a_format_parsed => first | k_is | fail "EC a_format_parsed")
    (case l_format_parsed => first | k_is | fail "EC l_format_parsed")
    (case c_format_parsed => first | k_is | fail "EC c_format_parsed")
    (case k_format_parsed => first | k_is | fail "EC k_format_parsed")
    (case a_format_plan => first | k_is | fail "EC a_format_plan")
    (case l_format_plan => first | k_is | fail "EC l_format_plan")
    (case c_format_plan => first | k_is | fail "EC c_format_plan")
    (case k_format_plan => first | k_is | fail "EC k_format_plan")
    (case a_law => first | k_is | fail "EC a_law")
    (case l_law => first | k_is | fail "EC l_law")
    (case c_law => first | k_is | fail "EC c_law")
    (case k_law => first | k_is | fail "EC k_law")
    (case pg_Token => first | k_is | fail "EC pg_Token")
    (case hd_Token => first | k_is | fail "EC hd_Token")
    (case po_Token => first | k_is | fail "EC po_Token")
    (case sa_Token => first | k_is | fail "EC sa_Token")
    (case mk_Token => first | k_is | fail "EC mk_Token")
    (case kc_Token => first | k_is | fail "EC kc_Token")
    (case n_Token_kind => first | k_is | fail "EC n_Token_kind")
    (case n_Token_text => first | k_is | fail "EC n_Token_text")
    (case n_Token_line => first | k_is | fail "EC n_Token_line")
    (case n_Token_column => first | k_is | fail "EC n_Token_column")
    (case pg_Robot => first | k_is | fail "EC pg_Robot")
    (case hd_Robot => first | k_is | fail "EC hd_Robot")
    (case po_Robot => first | k_is | fail "EC po_Robot")
    (case sa_Robot => first | k_is | fail "EC sa_Robot")
    (case mk_Robot => first | k_is | fail "EC mk_Robot")
    (case kc_Robot => first | k_is | fail "EC kc_Robot")
    (case n_Robot_start => first | k_is | fail "EC n_Robot_start")
    (case n_Robot_steps => first | k_is | fail "EC n_Robot_steps")
    (case n_Robot_names => first | k_is | fail "EC n_Robot_names")
    (case pg_Plan => first | k_is | fail "EC pg_Plan")
    (case hd_Plan => first | k_is | fail "EC hd_Plan")
    (case po_Plan => first | k_is | fail "EC po_Plan")
    (case sa_Plan => first | k_is | fail "EC sa_Plan")
    (case mk_Plan => first | k_is | fail "EC mk_Plan")
    (case kc_Plan => first | k_is | fail "EC kc_Plan")
    (case n_Plan_shelf => first | k_is | fail "EC n_Plan_shelf")
    (case n_Plan_robots => first | k_is | fail "EC n_Plan_robots")
    (case pg_Parser => first | k_is | fail "EC pg_Parser")
    (case hd_Parser => first | k_is | fail "EC hd_Parser")
    (case po_Parser => first | k_is | fail "EC po_Parser")
    (case sa_Parser => first | k_is | fail "EC sa_Parser")
    (case mk_Parser => first | k_is | fail "EC mk_Parser")
    (case kc_Parser => first | k_is | fail "EC kc_Parser")
    (case n_Parser_tokens => first | k_is | fail "EC n_Parser_tokens")
    (case n_Parser_at => first | k_is | fail "EC n_Parser_at")
    (case n_Parser_faults => first | k_is | fail "EC n_Parser_faults")
    (case z_len => first | k_is | fail "EC z_len")
    (case z_abs => first | k_is | fail "EC z_abs")
    (case z_range => first | k_is | fail "EC z_range")
    (case z_str => first | k_is | fail "EC z_str")
    (case z_int => first | k_is | fail "EC z_int")
    (case z_tuple => first | k_is | fail "EC z_tuple")
    (case z_list => first | k_is | fail "EC z_list")
    (case z_sum => first | k_is | fail "EC z_sum")
    (case z_isinstance => first | k_is | fail "EC z_isinstance")
    (case z_bool => first | k_is | fail "EC z_bool")
    (case z_enumerate => first | k_is | fail "EC z_enumerate")
    (case z_zip => first | k_is | fail "EC z_zip")
    (case z_min => first | k_is | fail "EC z_min")
    (case z_all => first | k_is | fail "EC z_all")
    (case a_MOVES => first | k_is | fail "EC a_MOVES")
    (case l_MOVES => first | k_is | fail "EC l_MOVES")
    (case a_JUMPS => first | k_is | fail "EC a_JUMPS")
    (case l_JUMPS => first | k_is | fail "EC l_JUMPS")
    (case a_KEYWORDS => first | k_is | fail "EC a_KEYWORDS")
    (case l_KEYWORDS => first | k_is | fail "EC l_KEYWORDS")
    (case a_LETTERS => first | k_is | fail "EC a_LETTERS")
    (case a_DIGITS => first | k_is | fail "EC a_DIGITS")
    (case a_SPACES => first | k_is | fail "EC a_SPACES")
    (case a_SIGNS => first | k_is | fail "EC a_SIGNS")
    (case a_MAX_LETTERS => first | k_is | fail "EC a_MAX_LETTERS")
    (case a_MAX_DIGITS => first | k_is | fail "EC a_MAX_DIGITS")
    (case a_NAME => first | k_is | fail "EC a_NAME")
    (case a_NUMBER => first | k_is | fail "EC a_NUMBER")
    (case a_KEYWORD => first | k_is | fail "EC a_KEYWORD")
    (case a_SIGN => first | k_is | fail "EC a_SIGN")
    (case a_END => first | k_is | fail "EC a_END")
    (case a_MIN_CELLS => first | k_is | fail "EC a_MIN_CELLS")
    (case a_MAX_CELLS => first | k_is | fail "EC a_MAX_CELLS")
    (case a_MAX_BOXES => first | k_is | fail "EC a_MAX_BOXES")
    (case a_MAX_STEPS => first | k_is | fail "EC a_MAX_STEPS")


