import PyProof.Rows.All
import Wide.All
import OpenK.AllK
import Wide.FinOn
import HandS.ForMost
import HandS.ForExc
import HandS.Walk
import HandS.Lambda
import HandS.Nested
import HandS.EndTab
import PySem.Challenge.RW_shelfbots_k40_whole_plans_compared
import HandS.Property
import HandS.GenCall
import HandS.GenList
import HandS.Zip
import KE.KDictKeyed
import PyProof.RulesMatch
import HandS.Style
import HandS.IsInst
import HandS.Star
import HandS.Strs
import KE.GoesMore
import KE.GoesEnum
import HandS.TupAny
import HandS.GenYield
import HandS.WordsExc
import HandS.Comp
import HandS.Ends
import HandS.List
import HandS.Small
import KE.DataCmp
set_option Elab.async false
set_option linter.all false
set_option maxRecDepth 100000
set_option maxHeartbeats 0
namespace Sb
open PySem PySem.Spec PyProof.Rows L2

/-! ### the data heap G within the heap H, grown by new objects alone -/
structure Ext (G H G' H' : Hp) : Prop where
  g : Same G G'
  h : Same G' H'
  n : ∀ b o, G' b = some o → G b = some o ∨ H b = none
  k : ∀ b, H' b = none → H b = none
/-- H without d -/
def wo (d : Addr) (H : Hp) : Hp := fun b => if b = d then none else H b
theorem wo_self {d : Addr} {H : Hp} : wo d H d = none := if_pos rfl
theorem wo_ne {d b : Addr} {H : Hp} (h : b ≠ d) : wo d H b = H b := if_neg h
theorem wo_some {d b : Addr} {H : Hp} {o : HO} (h : wo d H b = some o) : b ≠ d ∧ H b = some o := by
  by_cases e : b = d
  · rw [e, wo_self] at h; cases h
  · rw [wo_ne e] at h; exact ⟨e, h⟩
section
variable {G H G' H' G1 H1 G2 H2 : Hp} {d p l b : Addr} {o o' : HO}
theorem same_new (np : H p = none) : Same H (upd H p o) := fun b u e => by rw [upd_ne (ne_of_none e np)]; exact e
theorem same_up (s : Same G H) (np : H p = none) : Same (upd G p o) (upd H p o) := fun b u e => by
  by_cases h : b = p
  · subst h; rw [upd_same] at e ⊢; exact e
  · rw [upd_ne h] at e ⊢; exact s _ _ e
theorem same_put (s : Same G H) (n : G l = none) : Same G (upd H l o) := fun b u e => by rw [upd_ne (ne_of_none e n)]; exact s _ _ e
theorem same_add (s : Same G H) (h : H l = some o) : Same (upd G l o) H := fun b u e => by
  by_cases hb : b = l
  · subst hb; rw [upd_same] at e; rw [h]; exact e
  · rw [upd_ne hb] at e; exact s _ _ e
theorem Ext.refl (s : Same G H) : Ext G H G H := ⟨Same.refl G, s, fun _ _ e => .inl e, fun _ e => e⟩
theorem Ext.trans (a : Ext G H G1 H1) (b : Ext G1 H1 G2 H2) : Ext G H G2 H2 :=
  ⟨a.g.trans b.g, b.h, fun c o e => (b.n c o e).elim (fun e1 => a.n c o e1) fun e1 => .inr (a.k c e1), fun c e => a.k c (b.k c e)⟩
theorem Ext.start (a : Ext G H G' H') (s : Same G H) : Ext G H G H := Ext.refl s
/-- a new object, data -/
theorem Ext.new (a : Ext G H G1 H1) (np : H1 p = none) : Ext G H (upd G1 p o) (upd H1 p o) := by
  refine ⟨fun b u e => ?_, same_up a.h np, fun b u e => ?_, fun b e => ?_⟩
  · exact same_new (Same.free a.h np) _ _ (a.g b u e)
  · by_cases hb : b = p
    · rw [hb]; exact .inr (a.k p np)
    · rw [upd_ne hb] at e; exact a.n b u e
  · by_cases hb : b = p
    · rw [hb]; exact a.k p np
    · rw [upd_ne hb] at e; exact a.k b e
/-- a new object, not (yet) data -/
theorem Ext.lay (a : Ext G H G1 H1) (np : H1 p = none) : Ext G H G1 (upd H1 p o) := by
  refine ⟨a.g, same_put a.h (Same.free a.h np), a.n, fun b e => ?_⟩
  by_cases hb : b = p
  · rw [hb]; exact a.k p np
  · rw [upd_ne hb] at e; exact a.k b e
/-- a thing that is not data is written -/
theorem Ext.put (a : Ext G H G1 H1) (n : G1 l = none) : Ext G H G1 (upd H1 l o) := by
  refine ⟨a.g, same_put a.h n, a.n, fun b e => ?_⟩
  by_cases hb : b = l
  · rw [hb, upd_same] at e; cases e
  · rw [upd_ne hb] at e; exact a.k b e
/-- a thing made since becomes data -/
theorem Ext.freeze (a : Ext G H G1 H1) (n : H l = none) (h : H1 l = some o) : Ext G H (upd G1 l o) H1 := by
  refine ⟨fun b u e => ?_, same_add a.h h, fun b u e => ?_, a.k⟩
  · have e1 := a.g b u e
    by_cases hb : b = l
    · subst hb; rw [upd_same]; rw [← h]; exact a.h _ _ e1
    · rw [upd_ne hb]; exact e1
  · by_cases hb : b = l
    · rw [hb]; exact .inr n
    · rw [upd_ne hb] at e; exact a.n b u e
theorem Ext.out (a : Ext G H G1 H1) (g : G d = none) (h : H d = some o) : G1 d = none := by
  cases e : G1 d with
  | none => rfl
  | some u =>
    rcases a.n d u e with e1 | e1
    · rw [g] at e1; cases e1
    · rw [h] at e1; cases e1
theorem Ext.same (a : Ext G H G1 H1) : Same G H1 := a.g.trans a.h
theorem Ext.new_out (a : Ext G H G1 H1) (np : H1 p = none) : G1 p = none := Same.free a.h np
/-- the caller's wider data heap -/
theorem same_wo (s : Same G H) (g : G d = none) : Same G (wo d H) := fun b u e => by
  rw [wo_ne (ne_of_none e g)]; exact s _ _ e
end

/-! ### data -/
section
variable {K : PySem.W.Frag} {G H : Hp}
theorem Same.seqT {a : Addr} {xs : List V} (e : Same G H) (h : SqT K G a xs) : SqT K H a xs := by
  rcases h with (h | ⟨o, h⟩) | h
  · exact .inl (.inl (e _ _ h))
  · exact .inl (.inr ⟨o, e _ _ h⟩)
  · exact .inr h
mutual
theorem Dp.mono (s : Same G H) : ∀ (d : PyData) (v : V), Dp K G v d → Dp K H v d
  | _, _, .non => .non
  | _, _, .bl b => .bl b
  | _, _, .int i => .int i
  | _, _, .str x => .str x
  | .list ds, _, .lst h t => .lst (s.seq h) (Dp.monoAll s ds _ t)
  | .tuple ds, _, .tup h t => .tup (Same.seqT s h) (Dp.monoAll s ds _ t)
theorem Dp.monoAll (s : Same G H) : ∀ (ds : List PyData) (vs : List V), DpAll K G vs ds → DpAll K H vs ds
  | _, _, .nil => .nil
  | d :: ds, v :: vs, .cons h t => .cons (Dp.mono s d v h) (Dp.monoAll s ds vs t)
end
theorem DpAll.len : ∀ {vs : List V} {ds : List PyData}, DpAll K G vs ds → vs.length = ds.length
  | _, _, .nil => rfl
  | _, _, .cons _ t => congrArg (· + 1) (DpAll.len t)
theorem DpAll.get : ∀ {vs : List V} {ds : List PyData} {i : Nat} {v : V}, DpAll K G vs ds → vs[i]? = some v → ∃ d, ds[i]? = some d ∧ Dp K G v d
  | _, _, _, _, .nil, e => by simp at e
  | _, _, 0, _, .cons h _, e => by simp at e; subst e; exact ⟨_, rfl, h⟩
  | _, _, i + 1, v, .cons _ t, e => by
    obtain ⟨d, h1, h2⟩ := DpAll.get (i := i) (v := v) t (by simpa using e)
    exact ⟨d, by simpa using h1, h2⟩
theorem DpAll.at : ∀ {vs : List V} {ds : List PyData} {i : Nat} {d : PyData}, DpAll K G vs ds → ds[i]? = some d → ∃ v, vs[i]? = some v ∧ Dp K G v d
  | _, _, _, _, .nil, e => by simp at e
  | _, _, 0, _, .cons h _, e => by simp at e; subst e; exact ⟨_, rfl, h⟩
  | _, _, i + 1, v, .cons _ t, e => by
    obtain ⟨d, h1, h2⟩ := DpAll.at (i := i) t (by simpa using e)
    exact ⟨d, by simpa using h1, h2⟩
theorem DpAll.snoc : ∀ {vs : List V} {ds : List PyData} {v : V} {d : PyData}, DpAll K G vs ds → Dp K G v d → DpAll K G (vs ++ [v]) (ds ++ [d])
  | _, _, _, _, .nil, h => .cons h .nil
  | _, _, _, _, .cons h t, h' => .cons h (DpAll.snoc t h')
theorem DpAll.append : ∀ {vs us : List V} {ds es : List PyData}, DpAll K G vs ds → DpAll K G us es → DpAll K G (vs ++ us) (ds ++ es)
  | _, _, _, _, .nil, h => h
  | _, _, _, _, .cons h t, h' => .cons h (DpAll.append t h')
theorem DpAll.ints : ∀ (ns : List Int), DpAll K G (ns.map V.int) (ns.map PyData.int)
  | [] => .nil
  | n :: ns => .cons (.int n) (DpAll.ints ns)
theorem DpAll.strs : ∀ (ns : List Str), DpAll K G (ns.map V.str) (ns.map PyData.str)
  | [] => .nil
  | n :: ns => .cons (.str n) (DpAll.strs ns)
theorem Dp.int_inv {v : V} {i : Int} (h : Dp K G v (.int i)) : v = .int i := by cases h; rfl
theorem Dp.str_inv {v : V} {i : Str} (h : Dp K G v (.str i)) : v = .str i := by cases h; rfl
theorem Dp.none_inv {v : V} (h : Dp K G v .none) : v = .non := by cases h; rfl
theorem Dp.bool_inv {v : V} {b : Bool} (h : Dp K G v (.bool b)) : v = .bl b := by cases h; rfl
theorem Dp.tup_inv {v : V} {ds : List PyData} (h : Dp K G v (.tuple ds)) : ∃ a xs, v = .ref a ∧ SqT K G a xs ∧ DpAll K G xs ds := by
  cases h with
  | tup h t => exact ⟨_, _, rfl, h, t⟩
theorem Dp.lst_inv {v : V} {ds : List PyData} (h : Dp K G v (.list ds)) : ∃ a xs, v = .ref a ∧ SqL K G a xs ∧ DpAll K G xs ds := by
  cases h with
  | lst h t => exact ⟨_, _, rfl, h, t⟩
theorem DpAll.nil_inv {vs : List V} (h : DpAll K G vs []) : vs = [] := by cases h; rfl
theorem DpAll.cons_inv {vs : List V} {d : PyData} {ds : List PyData} (h : DpAll K G vs (d :: ds)) : ∃ v r, vs = v :: r ∧ Dp K G v d ∧ DpAll K G r ds := by
  cases h with
  | cons h t => exact ⟨_, _, rfl, h, t⟩
theorem DpAll.ints_inv : ∀ {ns : List Int} {vs : List V}, DpAll K G vs (ns.map PyData.int) → vs = ns.map V.int
  | [], _, .nil => rfl
  | _ :: _, _, .cons h t => by rw [Dp.int_inv h, DpAll.ints_inv t]; rfl
theorem DpAll.strs_inv : ∀ {ns : List Str} {vs : List V}, DpAll K G vs (ns.map PyData.str) → vs = ns.map V.str
  | [], _, .nil => rfl
  | _ :: _, _, .cons h t => by rw [Dp.str_inv h, DpAll.strs_inv t]; rfl
end

/-! ### fields of a new instance -/
theorem putF_new {f : Str} {v : V} : ∀ {fs : List (Str × V)}, f ∉ fs.map (·.1) → putF f v fs = fs ++ [(f, v)]
  | [], _ => rfl
  | (g, u) :: r, h => by
    have h1 : ¬ g = f := fun e => h (by simp [e])
    have h2 : f ∉ r.map (·.1) := fun e => h (by simp only [List.map_cons, List.mem_cons]; exact .inr e)
    show (if g = f then _ else (g, u) :: putF f v r) = _
    rw [if_neg h1, putF_new h2]
    rfl
theorem ite_b {c : Bool} {A B : Prop} (h1 : c = true → A) (h2 : c = false → B) : if c = true then A else B := by
  cases c with
  | true => rw [if_pos rfl]; exact h1 rfl
  | false => rw [if_neg Bool.false_ne_true]; exact h2 rfl
theorem ite_t {c : Bool} {A B : Prop} (hc : c = true) (h : A) : if c = true then A else B := by rw [if_pos hc]; exact h
theorem ite_f {c : Bool} {A B : Prop} (hc : c = false) (h : B) : if c = true then A else B := by rw [hc, if_neg Bool.false_ne_true]; exact h
theorem small {n : Nat} (m : Nat) (h : n ≤ m) (hm : m ≤ 16777216) : n ≤ sizeLine := by rw [sizeLine_eq]; omega
theorem smaller {n : Nat} (m : Nat) (h : n ≤ m) (hm : m < 16777216) : n < sizeLine := by rw [sizeLine_eq]; omega

/-! ### the source of draws: d = [seed, digits, further..] -/
structure Src (ds : List Int) : Prop where
  ex : ∃ s e r, ds = s :: e :: r ∧ 0 ≤ s ∧ 0 ≤ e ∧ (∀ x ∈ r, (0 : Int) ≤ x) ∧ r.length ≤ 63
end Sb

namespace Sb
open PySem PySem.Spec PyProof.Rows L2 LamX NdefX
/-! ### a thing held still -/
def Fz (o : Obj) : HO := .frz o (.ext fun _ => True)
theorem fz_ok {P : Program} {w : World} {H : Hp} {h : Heap} {a : Addr} {o : Obj} (e : h.get? a = some o) : ObjOk P w H h a (Fz o) := ⟨e, trivial, ⟨o, e⟩, fun _ _ _ _ => trivial⟩
theorem fz_at {P : Program} {w : World} {H : Hp} {h : Heap} {a : Addr} {o : Obj} (hok : HOk P w H h) (e : H a = some (Fz o)) : h.get? a = some o := (hok a _ e).1
/-- without these -/
def cut (S : List Addr) (H : Hp) : Hp := fun b => if b ∈ S then none else H b
theorem cut_in {S : List Addr} {H : Hp} {b : Addr} (h : b ∈ S) : cut S H b = none := if_pos h
theorem cut_out {S : List Addr} {H : Hp} {b : Addr} (h : b ∉ S) : cut S H b = H b := if_neg h
theorem cut_some {S : List Addr} {H : Hp} {b : Addr} {o : HO} (h : cut S H b = some o) : b ∉ S ∧ H b = some o := by
  by_cases e : b ∈ S
  · rw [cut_in e] at h; cases h
  · rw [cut_out e] at h; exact ⟨e, h⟩
/-- H4 is H with the cells tracked -/
structure Trk (cells : List (Addr × Obj)) (H H4 : Hp) : Prop where
  out : ∀ b, b ∉ cells.map (·.1) → H4 b = H b
  was : ∀ p ∈ cells, H p.1 = none
  at_ : ∀ p ∈ cells, H4 p.1 = some (Fz p.2)
section
variable {P : Program} {w : World} {K : PySem.W.Frag} {mg : Str → Option Value} {base : Heap} {A : Around} {outer : List Env} {s s' : Shared} {H H4 : Hp} {cells : List (Addr × Obj)} {Q : VK} {u : Value}
theorem Trk.none (t : Trk cells H H4) {b : Addr} (h : b ∈ cells.map (·.1)) : H b = Option.none ∧ ∃ o, H4 b = some (Fz o) := by
  obtain ⟨p, hp, rfl⟩ := List.mem_map.mp h
  exact ⟨t.was p hp, _, t.at_ p hp⟩
theorem Trk.cut (t : Trk cells H H4) : cut (cells.map (·.1)) H4 = H := by
  funext b
  by_cases h : b ∈ cells.map (·.1)
  · rw [cut_in h, (t.none h).1]
  · rw [cut_out h, t.out b h]
theorem Trk.hok (t : Trk cells H H4) (hok : HOk P w H s.heap) (hc : ∀ p ∈ cells, s.heap.get? p.1 = some p.2) : HOk P w H4 s.heap := fun b o e => by
  by_cases h : b ∈ cells.map (·.1)
  · obtain ⟨p, hp, rfl⟩ := List.mem_map.mp h
    rw [t.at_ p hp] at e
    cases e
    exact fz_ok (hc p hp)
  · rw [t.out b h] at e
    refine (hok b o e).stay (fun _ _ _ z => z) (fun c z => ?_) fun c xs z => ?_
    · rw [t.out c fun q => by rw [(t.none q).1] at z; cases z]; exact z
    · rw [t.out c fun q => by rw [(t.none q).1] at z; cases z]; exact z
theorem Trk.env0 (t : Trk cells H H4) (e0 : Env0 P w K mg base A outer s H) (hc : ∀ p ∈ cells, s.heap.get? p.1 = some p.2) (hb : ∀ p ∈ cells, base.get? p.1 = Option.none) (hf : ∀ p ∈ cells, p.1 ∉ frs outer) : Env0 P w K mg base A outer s H4 := by
  refine ⟨e0.frames, e0.mod, fun b o e => ⟨(e0.bs b o e).1, ?_⟩, e0.bsz, e0.funs, fun b hb' => ?_, t.hok e0.hok hc, e0.bare⟩
  · rw [t.out b fun q => ?_]
    · exact (e0.bs b o e).2
    · obtain ⟨p, hp, rfl⟩ := List.mem_map.mp q
      rw [hb p hp] at e; cases e
  · rw [t.out b fun q => ?_]
    · exact e0.frf b hb'
    · obtain ⟨p, hp, rfl⟩ := List.mem_map.mp q
      exact hf p hp hb'
/-- behind a call with the cells tracked -/
theorem Trk.after (t : Trk cells H H4) (hc : ∀ p ∈ cells, s.heap.get? p.1 = some p.2) (h : CE outer P w H4 s (fun v H' => Q v (Sb.cut (cells.map (·.1)) H')) u s') : CE outer P w H s Q u s' := by
  obtain ⟨v, H5, os, bare, un, hok, r, q⟩ := h
  have fz5 : ∀ p ∈ cells, H5 p.1 = some (Fz p.2) := fun p hp => un.frzs _ _ _ (t.at_ p hp)
  have at5 : ∀ p ∈ cells, s'.heap.get? p.1 = some p.2 := fun p hp => fz_at hok (fz5 p hp)
  have nS : ∀ {b : Addr} {o : HO}, H b = some o → b ∉ cells.map (·.1) := fun {b o} e q => by rw [(t.none q).1] at e; cases e
  refine ⟨v, _, os, bare, ⟨fun b o e n nf nx => ?_, fun b o e n nf nx => ?_, fun b o e n nx => ?_, un.there, fun b xs e => ?_, fun b o u e => ?_, fun b ps e => ?_⟩, fun b o e => ?_, r, q⟩
  · by_cases h : b ∈ cells.map (·.1)
    · obtain ⟨p, hp, rfl⟩ := List.mem_map.mp h
      rw [hc p hp] at e; cases e
      exact at5 p hp
    · exact un.keep b o e (by rw [t.out b h]; exact n) nf nx
  · by_cases h : b ∈ cells.map (·.1)
    · obtain ⟨p, hp, rfl⟩ := List.mem_map.mp h
      rw [hc p hp] at e; cases e
      exact ⟨p.2.slots, at5 p hp⟩
    · exact un.slot b o e (by rw [t.out b h]; exact n) nf nx
  · by_cases h : b ∈ cells.map (·.1)
    · exact cut_in h
    · rw [cut_out h]; exact un.free b o e (by rw [t.out b h]; exact n) nx
  · rw [cut_out (nS e)]; exact un.tups b xs (by rw [t.out b (nS e)]; exact e)
  · rw [cut_out (nS e)]; exact un.frzs b o u (by rw [t.out b (nS e)]; exact e)
  · rw [cut_out (nS e)]; exact un.tbls b ps (by rw [t.out b (nS e)]; exact e)
  · obtain ⟨hb, e5⟩ := cut_some e
    refine (hok b o e5).stay (fun _ _ _ z => z) (fun c z => ?_) fun c xs z => ?_
    · rw [cut_out fun q => ?_]; exact z
      obtain ⟨p, hp, rfl⟩ := List.mem_map.mp q
      rw [fz5 p hp] at z; cases z
    · rw [cut_out fun q => ?_]; exact z
      obtain ⟨p, hp, rfl⟩ := List.mem_map.mp q
      rw [fz5 p hp] at z; cases z
/-- the other way: they are untracked through a call -/
theorem Trk.env0_cut (hF : ∀ p ∈ cells, H4 p.1 = some (Fz p.2)) (e0 : Env0 P w K mg base A outer s H4) : Env0 P w K mg base A outer s (Sb.cut (cells.map (·.1)) H4) := by
  refine ⟨e0.frames, e0.mod, fun b o e => ⟨(e0.bs b o e).1, ?_⟩, e0.bsz, e0.funs, fun b hb => ?_, fun b o e => ?_, e0.bare⟩
  · unfold Sb.cut; split; rfl; exact (e0.bs b o e).2
  · unfold Sb.cut; split; rfl; exact e0.frf b hb
  · obtain ⟨hb, e4⟩ := cut_some e
    refine (e0.hok b o e4).stay (fun _ _ _ z => z) (fun c z => ?_) fun c xs z => ?_
    · rw [cut_out fun q => ?_]; exact z
      obtain ⟨p, hp, rfl⟩ := List.mem_map.mp q
      rw [hF p hp] at z; cases z
    · rw [cut_out fun q => ?_]; exact z
      obtain ⟨p, hp, rfl⟩ := List.mem_map.mp q
      rw [hF p hp] at z; cases z
def rejoin (S : List Addr) (H H' : Hp) : Hp := fun b => if b ∈ S then H b else H' b
theorem Trk.after_cut (hF : ∀ p ∈ cells, H4 p.1 = some (Fz p.2)) (e0 : Env0 P w K mg base A outer s H4) (h : CE outer P w (Sb.cut (cells.map (·.1)) H4) s (fun v H' => Q v (rejoin (cells.map (·.1)) H4 H')) u s') : CE outer P w H4 s Q u s' := by
  obtain ⟨v, H5, os, bare, un, hok, r, q⟩ := h
  have obj : ∀ {b : Addr}, b ∈ cells.map (·.1) → ∃ o, H4 b = some (Fz o) ∧ s.heap.get? b = some o ∧ b ∉ frs outer := fun {b} h => by
    obtain ⟨p, hp, rfl⟩ := List.mem_map.mp h
    refine ⟨p.2, hF p hp, fz_at e0.hok (hF p hp), fun z => ?_⟩
    have := e0.frf _ z
    rw [hF p hp] at this; cases this
  have n5 : ∀ {b : Addr}, b ∈ cells.map (·.1) → H5 b = Option.none := fun {b} h => by
    obtain ⟨o, _, h2, _⟩ := obj h
    exact un.free b o h2 (cut_in h) (by simp)
  have rin : ∀ {b : Addr}, b ∈ cells.map (·.1) → rejoin (cells.map (·.1)) H4 H5 b = H4 b := fun h => if_pos h
  have rout : ∀ {b : Addr}, b ∉ cells.map (·.1) → rejoin (cells.map (·.1)) H4 H5 b = H5 b := fun h => if_neg h
  refine ⟨v, _, os, bare, ⟨fun b o e n nf nx => ?_, fun b o e n nf nx => ?_, fun b o e n nx => ?_, un.there, fun b xs e => ?_, fun b o u e => ?_, fun b ps e => ?_⟩, fun b o e => ?_, r, q⟩
  · refine un.keep b o e ?_ nf nx
    unfold Sb.cut; split; rfl; exact n
  · refine un.slot b o e ?_ nf nx
    unfold Sb.cut; split; rfl; exact n
  · by_cases h : b ∈ cells.map (·.1)
    · rw [rin h]; exact n
    · rw [rout h]; exact un.free b o e (by rw [cut_out h]; exact n) nx
  · by_cases h : b ∈ cells.map (·.1)
    · rw [rin h]; exact e
    · rw [rout h]; exact un.tups b xs (by rw [cut_out h]; exact e)
  · by_cases h : b ∈ cells.map (·.1)
    · rw [rin h]; exact e
    · rw [rout h]; exact un.frzs b o u (by rw [cut_out h]; exact e)
  · by_cases h : b ∈ cells.map (·.1)
    · rw [rin h]; exact ⟨#[], by rw [e]; simp⟩
    · rw [rout h]; exact un.tbls b ps (by rw [cut_out h]; exact e)
  · by_cases h : b ∈ cells.map (·.1)
    · rw [rin h] at e
      obtain ⟨o', h1, h2, h3⟩ := obj h
      rw [h1] at e; cases e
      exact fz_ok (un.keep b o' h2 (cut_in h) h3 (by simp))
    · rw [rout h] at e
      refine (hok b o e).stay (fun _ _ _ z => z) (fun c z => ?_) fun c xs z => ?_
      · rw [rout fun q => ?_]; exact z
        rw [n5 q] at z; cases z
      · rw [rout fun q => ?_]; exact z
        rw [n5 q] at z; cases z
theorem rejoin_cut {S : List Addr} {H : Hp} : rejoin S H (Sb.cut S H) = H := by
  funext b
  by_cases h : b ∈ S
  · exact if_pos h
  · show (if b ∈ S then H b else Sb.cut S H b) = H b
    rw [if_neg h, cut_out h]
end
/-! ### a lambda is made, and tracked -/
section
variable {X : Cx} {pins : List (Addr × Obj)} {σ : L2.St} {H : Hp} {s : Shared}
theorem inv_fz {o : Obj} {t' : Nat} (I : Inv X pins σ H s) (hf : o.isFreed = false) : Inv X pins σ (upd H s.heap.objs.size (Fz o)) { s with heap := s.heap.push o, toks := t' } :=
  I.laid (a := s.heap.objs.size) (fun b u e => Heap.get?_push_of_some _ e) (Nat.le_refl _) (fz_ok (Heap.get?_push_size _ hf))
theorem lam_make3 {T : List (Addr × Str)} {c P : Addr} {params : Arguments} {body : Expr} {scope : Scope} {pos : Pos} {E : Value → Shared → Prop} {Q : Value → Shared → Prop} (I : Inv X pins σ H s) (TB : TabB X.base X.mg c P) (hcode : X.env.code = .ref c)
    (hm : (P, X.env.qual ++ "<lambda>") ∈ T) (hu : ∀ p ∈ T, p.1 = P → p.2 = X.env.qual ++ "<lambda>") (hT : Tabs T H) (hdef : defaultsOf params X.env = ([], [])) (hfree : ∀ y ∈ scope.names, y.2 = .free → ∃ c, X.env.cells.lookup y.1 = some c)
    (h : ∀ (f c' : Addr) (pm ctv : Value) (H1 : Hp) (s' : Shared), Inv X pins σ H1 s' → (∀ b o, b ≠ P → H b = some o → H1 b = some o) → (∀ b, H1 b = none → H b = none) → Tabs T H1 → H f = none →
      H1 f = some (Fz (PySem.W.kla_obj "<lambda>" (X.env.qual ++ "<lambda>") params body scope (cloFrom X.env.cells scope.names []) pm c' ctv)) → H1 c' = some (CodeO c' (X.env.qual ++ "<lambda>")) → Q (.ref f) s') :
    wpAny (model X.prog X.w) X.A (eval (.Lambda params body scope pos) X.env) Q E s := by
  obtain ⟨ps, hP, ht, ha⟩ := hT _ hm
  refine PySem.W.kla_eval hdef ?_
  have bP : s.heap.BuiltinsAt X.mg P := TB.bm.keeps I.bk
  have hP' : s.heap.get? P = some { cls := .none, data := .fields ps } := I.hok P _ hP
  cases hc : codeAmong pos ps.toList with
  | none =>
    refine PySem.W.kla_makeFunction (mg := X.mg) (c := c) (P := P) (ps := ps) (closure_ok hfree) I.ok.glob (I.mod.glob.keeps I.bk) hcode (TB.code.keeps I.bk) hP' ht hc TB.gP bP fun c' ctv h' tk hx hge hlt hrec htb => ?_
    obtain ⟨c2, oc, vs, t, e2, hoc, hd, hv⟩ := hrec
    cases e2
    have hsz : s.heap.objs.size ≤ h'.objs.size := Nat.le_trans hge (Nat.le_of_lt hlt)
    have nC : H c' = none := I.hok.fresh hge
    have I1 := inv_table (t' := tk) (more := #[rawInt pos.line, rawInt pos.col, .ref c']) (h' := h') I hP (fun b o hb e => hx b o hb e) htb hge ⟨oc, vs, t, hoc, hd, hv⟩
    have hE : ExtN H (upd (upd H P (.tbl (ps ++ #[rawInt pos.line, rawInt pos.col, .ref c']))) c' (CodeO c' (X.env.qual ++ "<lambda>"))) := fun b o e n => by
      rw [upd_ne (ne_of_none e nC), upd_ne (fun z => n ps (Option.some.inj (e.symm.trans (by rw [z]; exact hP))))]
      exact e
    have eL : (ps ++ #[rawInt pos.line, rawInt pos.col, .ref c']).toList = ps.toList ++ [rawInt pos.line, rawInt pos.col, .ref c'] := by simp
    have T1 : Tabs T (upd (upd H P (.tbl (ps ++ #[rawInt pos.line, rawInt pos.col, .ref c']))) c' (CodeO c' (X.env.qual ++ "<lambda>"))) := fun p hp => by
      by_cases hb : p.1 = P
      · rw [hu p hp hb, hb]
        refine ⟨_, by rw [upd_ne (ne_of_none hP nC), upd_same], by rw [eL]; exact PySem.TriplesOk_snoc _ _ _ _ ht, fun p' cv hcv => ?_⟩
        rw [eL] at hcv
        rcases among_app _ ht hcv with z | z
        · obtain ⟨c0, e1, e2⟩ := ha p' cv z
          exact ⟨c0, e1, hE _ _ e2 codeO_ne⟩
        · exact ⟨c', z, upd_same⟩
      · obtain ⟨ps', a1, a2, a3⟩ := hT p hp
        refine ⟨ps', by rw [upd_ne (ne_of_none a1 nC), upd_ne hb]; exact a1, a2, fun p' cv hcv => ?_⟩
        obtain ⟨c0, e1, e2⟩ := a3 p' cv hcv
        exact ⟨c0, e1, hE _ _ e2 codeO_ne⟩
    have nF := I1.hok.fresh (Nat.le_refl _)
    have I2 := inv_fz (o := PySem.W.kla_obj "<lambda>" (X.env.qual ++ "<lambda>") params body scope (cloFrom X.env.cells scope.names []) ((X.mg "__name__").getD .none) c' ctv) (t' := tk) I1 rfl
    refine h h'.objs.size c' ((X.mg "__name__").getD .none) ctv _ _ I2 (fun b o n e => ?_) (fun b e => upd_none (upd_none (upd_none e))) (T1.ext fun b o e => ?_) (I.hok.fresh hsz) upd_same ?_
    · have e1 : (upd (upd H P (.tbl (ps ++ #[rawInt pos.line, rawInt pos.col, .ref c']))) c' (CodeO c' (X.env.qual ++ "<lambda>"))) b = some o := by rw [upd_ne (ne_of_none e nC), upd_ne n]; exact e
      exact (upd_ne (ne_of_none e1 nF)).trans e1
    · exact (upd_ne (ne_of_none e nF)).trans e
    · exact (upd_ne (Nat.ne_of_lt hlt)).trans upd_same
  | some cv =>
    obtain ⟨c', e, hco⟩ := ha pos cv hc
    subst e
    refine PySem.W.kla_makeFunctionHit (mg := X.mg) (c := c) (P := P) (ps := ps) (closure_ok hfree) I.ok.glob (I.mod.glob.keeps I.bk) hcode (TB.code.keeps I.bk) hP' ht hc bP fun ctv h' tk hx hsz => ?_
    have I1 : Inv X pins σ H { s with heap := h', toks := tk } := I.kept fun b o e => hx b o e
    have nF : H h'.objs.size = none := I1.hok.fresh (Nat.le_refl _)
    have I2 := inv_fz (o := PySem.W.kla_obj "<lambda>" (X.env.qual ++ "<lambda>") params body scope (cloFrom X.env.cells scope.names []) ((X.mg "__name__").getD .none) c' ctv) (t' := tk) I1 rfl
    refine h h'.objs.size c' ((X.mg "__name__").getD .none) ctv _ _ I2 (fun b o n e => ?_) (fun b e => upd_none e) (hT.ext fun b o e => ?_) nF upd_same ?_
    · exact (upd_ne (ne_of_none e nF)).trans e
    · exact (upd_ne (ne_of_none e nF)).trans e
    · exact (upd_ne (ne_of_none hco nF)).trans hco
end
/-- lambda ..: .. as a value -/
def tLamV (T : List (Addr × Str)) (P : Addr) (q : Str) (params : Arguments) (body : Expr) (scope : Scope) (cl : List (Str × Addr)) : TE := fun σ H Q => Tabs T H ∧ ∀ (f c' : Addr) (pm ctv : Value) (H1 : Hp), (∀ b o, b ≠ P → H b = some o → H1 b = some o) → (∀ b, H1 b = none → H b = none) → Tabs T H1 → H f = none →
  H1 f = some (Fz (PySem.W.kla_obj "<lambda>" q params body scope cl pm c' ctv)) → H1 c' = some (CodeO c' q) → Q (.ref f) H1
section
variable {X : Cx}
theorem pe_lamV {T : List (Addr × Str)} {c P : Addr} {params : Arguments} {body : Expr} {scope : Scope} {pos : Pos} (TB : TabB X.base X.mg c P) (hcode : X.env.code = .ref c) (hm : (P, X.env.qual ++ "<lambda>") ∈ T) (hu : ∀ p ∈ T, p.1 = P → p.2 = X.env.qual ++ "<lambda>")
    (hdef : defaultsOf params X.env = ([], [])) (hfree : ∀ y ∈ scope.names, y.2 = .free → X.env.scope.names.lookup y.1 = some .cell ∨ X.env.scope.names.lookup y.1 = some .free) :
    PE X (.Lambda params body scope pos) (tLamV T P (X.env.qual ++ "<lambda>") params body scope (cloFrom X.env.cells scope.names [])) := by
  refine ⟨fun pins s σ H Q I h => ?_⟩
  obtain ⟨hT, h⟩ := h
  refine lam_make3 I TB hcode hm hu hT hdef (fun y hy e => (hfree y hy e).elim (fun z => I.ok.has _ (.inl z)) fun z => I.ok.has _ (.inr z)) fun f c' pm ctv H1 s' I1 eN nn T1 f0 f1 c1 => ?_
  exact ⟨.ref f, H1, I1, rfl, h f c' pm ctv H1 eN nn T1 f0 f1 c1⟩
end
/-! ### a method is called, the captured cells tracked -/
structure CapT (cl : List (Str × Addr)) (fr : List Str) (ws : List (Option V)) (cells : List (Addr × Obj)) : Prop where
  len : ws.length = fr.length
  all : ∀ y c, cl.lookup y = some c → ∃ o v, (c, o) ∈ cells ∧ o.data = .cell v
  inj : ∀ x y c, cl.lookup x = some c → cl.lookup y = some c → x = y
  has : ∀ (i : Nat) (y : Str), fr[i]? = some y → ∃ c, cl.lookup y = some c ∧ ∀ v, ws[i]? = some (some v) → ∃ o u, (c, o) ∈ cells ∧ o.data = .cell (some u) ∧ L2.RelV v u
theorem capT_cells {cl : List (Str × Addr)} {fr : List Str} {ws : List (Option V)} {cells : List (Addr × Obj)} {P : Program} {w : World} {H : Hp} {h : Heap} (C : CapT cl fr ws cells) (hok : HOk P w H h) (hF : ∀ p ∈ cells, H p.1 = some (Fz p.2)) : CellsAt cl fr ws h (cut (cells.map (·.1)) H) := by
  refine ⟨C.len, fun y c e => ?_, C.inj, fun i y e => ?_⟩
  · obtain ⟨o, v, hm, hd⟩ := C.all y c e
    exact ⟨cut_in (List.mem_map.mpr ⟨_, hm, rfl⟩), v, o, fz_at hok (hF _ hm), hd⟩
  · obtain ⟨c, hc, hv⟩ := C.has i y e
    refine ⟨c, hc, fun v ev => ?_⟩
    obtain ⟨o, u, hm, hd, r⟩ := hv v ev
    exact ⟨u, r, o, fz_at hok (hF _ hm), hd⟩
def tMethT (C : Addr) (m : Str) (sp : Sp) (E : XK) (ta : TE) (t : TA) (cl : List (Str × Addr)) (fr : List Str) (js : List Nat) : TE := fun σ H Q => ta σ H fun x H1 => ∃ a dx fs, x = .ref a ∧ H1 a = some (.ins C dx fs) ∧ fs.lookup m = none ∧
  t σ H1 fun vs H3 => ∀ (cells : List (Addr × Obj)) (H4 : Hp), CapT cl fr (js.map (slotAt σ)) cells → Trk cells H3 H4 → sp (x :: vs) H4 (fun v H5 => Q v (cut (cells.map (·.1)) H5)) E
section
variable {X : Cx} {C f : Addr} {k : Nat} {fd : FuncData} {ps : List Str} {sp : Sp} {m : Str} {o e : Expr} {es : List Expr} {ta : TE} {t : TA} {pos apos : Pos} {scope : Scope} {fr : List Str} {js : List Nat}
theorem pe_methT {pl : Sem Bool} (he : PE X o ta) (c : Cls X.K C) (hm : Meth X.K C m f) (F : FnOk X.prog X.w X.K X.mg X.base CX0 k f fd ps sp) (hr : Room k X.A) (hb : Binds X.K fd ps []) (ha : PA X (e :: es) t)
    (hfn : ∀ x, X.fn x = true) (hfree : ∀ y ∈ scope.names, y.2 = .free → X.env.scope.names.lookup y.1 = some .cell ∨ X.env.scope.names.lookup y.1 = some .free) (hfr : ∀ y ∈ fr, (y, NameKind.free) ∈ scope.names) (hjs : js.map (fun j => X.N[j]?) = fr.map some)
    (hst : starEach (e :: es) X.env = (false, eval e X.env) :: starEach es X.env := by rfl) (hpl : (backTo pos (starEach es X.env)).any (·.1) = false := by rfl)
    (ht : eval (.Call (.Attribute o m apos) (e :: es) [] pos) X.env = (do
      let ov ← eval o X.env
      standAt apos.atName
      let (f, first) ← holding [ov] (getMethod ov m pl)
      callWith pos f first (backTo pos (starEach (e :: es) X.env)) (backToKw pos (keywordEach [] X.env))) := by rfl) :
    PE X (.Call (.Attribute o m apos) (e :: es) [] pos) (tMethT C m sp E0 ta t (cloFrom X.env.cells scope.names []) fr js) := by
  refine ⟨fun pins s σ H Q I h => ?_⟩
  refine PySem.W.methodCall_KW (pl := pl) (thn (he.run pins s σ H _ I h) fun u s1 ⟨x, H1, I1, rx, a, dx, fs, ex, ea, l, q⟩ => ?_) ht
  subst ex
  obtain rfl : u = Value.ref a := rx
  refine getmeth_ok I1 ea c hm l ?_
  refine PySem.W.callWith_K (first := [.ref a]) (h₀ := X.base) I.ok.mod.kin hm.kp (thn (ha.run pos pins s1 σ H1 _ I1 q) fun us s2 ⟨vs, H2, I2, r, q2⟩ => ⟨I2.kIn, ?_⟩) hst hpl
  have cp : Caps X (cloFrom X.env.cells scope.names []) fr js := Caps.made I2.ok hfree hfr hjs
  have hf : ∀ y ∈ scope.names, y.2 = .free → ∃ c, X.env.cells.lookup y.1 = some c := fun y hy e => (hfree y hy e).elim (fun z => I2.ok.has _ (.inl z)) fun z => I2.ok.has _ (.inr z)
  have CA := cells_of I2 cp
  generalize hcl : cloFrom X.env.cells scope.names [] = cl at *
  -- the cells, as they stand
  have mem : ∀ p ∈ pinsAt (cl.map (·.2)) s2.heap, ∃ y, X.env.cells.lookup y = some p.1 := fun p hp => by
    obtain ⟨h1, _⟩ := of_pinsAt hp
    obtain ⟨⟨y, b⟩, hyb, eb⟩ := List.mem_map.mp h1
    have eb : b = p.1 := eb
    rw [← hcl] at hyb
    rcases cloFrom_mem hyb with z | ⟨z1, z2⟩
    · cases z
    · obtain ⟨c1, hc1⟩ := hf _ z1 rfl
      have hc1 : X.env.cells.lookup y = some c1 := hc1
      refine ⟨y, ?_⟩
      rw [← eb, hc1]
      have z2 : b = ((X.env.cells.lookup y).getD 0) := z2
      rw [z2, hc1]
      rfl
  have hcS : ∀ p ∈ pinsAt (cl.map (·.2)) s2.heap, s2.heap.get? p.1 = some p.2 := fun p hp => (of_pinsAt hp).2
  have T4 : Trk (pinsAt (cl.map (·.2)) s2.heap) H2 (fun b => if b ∈ (pinsAt (cl.map (·.2)) s2.heap).map (·.1) then (s2.heap.get? b).map Fz else H2 b) := by
    refine ⟨fun b hb => if_neg hb, fun p hp => ?_, fun p hp => ?_⟩
    · obtain ⟨y, hy⟩ := mem p hp
      exact I2.freeC y _ hy
    · show (if p.1 ∈ _ then _ else _) = _
      rw [if_pos (List.mem_map.mpr ⟨p, hp, rfl⟩), hcS p hp]
      rfl
  have CT : CapT cl fr (js.map (slotAt σ)) (pinsAt (cl.map (·.2)) s2.heap) := by
    have inC : ∀ {y : Str} {c : Addr}, cl.lookup y = some c → c ∈ cl.map (·.2) := fun {y c} e => List.mem_map.mpr ⟨_, PySem.mem_of_lookup e, rfl⟩
    refine ⟨CA.len, fun y c e => ?_, CA.inj, fun i y e => ?_⟩
    · obtain ⟨_, v, o, ho, hd⟩ := CA.all y c e
      exact ⟨o, v, mem_pinsAt (inC e) ho, hd⟩
    · obtain ⟨c, hc, hv⟩ := CA.has i y e
      refine ⟨c, hc, fun v ev => ?_⟩
      obtain ⟨u, r, o, ho, hd⟩ := hv v ev
      exact ⟨o, u, mem_pinsAt (inC hc) ho, hd, r⟩
  have e0 := T4.env0 I2.env0 hcS (fun p hp => ?_) (fun p hp => ?_)
  · have q3 := q2 _ _ CT T4
    have r2 : Vals (V.ref a :: vs) (.ref a :: us) := .cons rfl r
    have hl : (Value.ref a :: us).length = ps.length := by rw [← r2.length]; exact F.len _ _ _ _ q3
    refine wpAny_call (codeAny_mono (F.run X.A X.stack s2 _ ⟨.ref a :: us, []⟩ (.ref a :: us) (.ref a :: vs) _ _ hr e0 ?_ r2 q3) fun r' s' hq => ?_)
    · have := hb s2 (.ref a :: us) I2.kIn (by rw [List.append_nil]; exact hl)
      rw [List.append_nil] at this
      exact this
    · cases r' with
      | error e => exact False.elim hq
      | ok fl =>
        cases fl with
        | ret u => exact I2.after (T4.after hcS hq)
        | next => exact False.elim hq
        | brk => exact False.elim hq
        | cont => exact False.elim hq
  · obtain ⟨y, hy⟩ := mem p hp
    have h1 := I2.ok.cab y _ (hfn y) hy
    cases e : X.base.get? p.1 with
    | none => rfl
    | some o => exact absurd (Nat.lt_of_lt_of_le (Heap.lt_size e) (Nat.le_trans I2.ok.bsz h1)) (Nat.lt_irrefl _)
  · obtain ⟨y, hy⟩ := mem p hp
    obtain ⟨v, o, ho, hd⟩ := I2.cell y _ hy
    intro hfrm
    rcases List.mem_cons.mp (I2.stkSub _ hfrm) with z | z
    · obtain ⟨m, hns, _⟩ := I2.loc
      obtain ⟨o2, es2, ep2, ho2, hd2, _⟩ := hns
      rw [← z, ho] at ho2; cases ho2
      rw [hd] at hd2; cases hd2
    · obtain ⟨_, o2, ho2, _⟩ := I2.ok.funs.mem z
      exact absurd (Nat.lt_of_lt_of_le (Heap.lt_size ho2) (I2.ok.cab y _ (hfn y) hy)) (Nat.lt_irrefl _)
end
/-! ### a function of one argument that gives a value and changes nothing -/
structure Lam1 (P : Program) (w : World) (K : PySem.W.Frag) (mg : Str → Option Value) (base : Heap) (k : Nat) (f : Addr) (D : Hp → Prop) (R : V → Hp → V → Prop) : Prop where
  fn : ∀ (H : Hp) (h : Heap), HOk P w H h → D H → PySem.W.FnAt f h
  run : ∀ (A : Around) (outer : List Env) (s : Shared) (H : Hp) (u : Value) (v : V) (Q : VK), Room k A → Env0 P w K mg base A outer s H → D H → L2.RelV v u → (∃ z, R v H z ∧ Q z H) →
    codeAny (model P w) A (.call (.ref f) ⟨[u], []⟩) (CR CX0 outer P w H s Q E0) s
def tCallM (P : Program) (w : World) (K : PySem.W.Frag) (mg : Str → Option Value) (base : Heap) (k i : Nat) (t : TA) : TE := fun σ H Q => ∃ f D R, Lam1 P w K mg base k f D R ∧ σ[i]? = some (some (.ref f)) ∧ D H ∧ t σ H fun vs H1 => ∃ v, vs = [v] ∧ D H1 ∧ ∃ z, R v H1 z ∧ Q z H1
section
variable {X : Cx} {i k : Nat} {x : Str} {e : Expr} {t : TA} {p pos : Pos}
theorem pe_callM (hr : Room k X.A) (hN : X.N[i]? = some x) (hv : Vis X.env.scope x) (ha : PA X [e] t) (hd : (x == ("__debug__" : Str)) = false := by decide) (hcd : (x == ("__classdict__" : Str)) = false := by decide)
    (he : starEach [e] X.env = (false, eval e X.env) :: starEach [] X.env := by rfl) : PE X (.Call (.Name x p) [e] [] pos) (tCallM X.prog X.w X.K X.mg X.base k i t) := by
  refine ⟨fun pins s σ H Q I h => ?_⟩
  obtain ⟨f, D, R, L, hs, hD, ht⟩ := h
  refine wpAny_Call_Name_kw (thn ((pe_var (pos := p) hN hv hd hcd).run pins s σ H (fun v H1 => v = .ref f ∧ H1 = H) I ⟨.ref f, hs, rfl, rfl⟩) fun u s1 ⟨v, H1, I1, r1, q1⟩ => ?_)
  obtain ⟨ev, eH⟩ := q1
  subst ev
  rw [eH] at I1
  obtain rfl : u = Value.ref f := r1
  refine PySem.W.callWith_F (first := []) (L.fn _ _ I1.hok hD) (thn (ha.run pos pins s1 σ H _ I1 ht) fun us s2 ⟨vs, H2, I2, r, v, ev, h1, q⟩ => ⟨L.fn _ _ I2.hok h1, ?_⟩) he (by rfl)
  subst ev
  cases r with
  | cons rv rr =>
    cases rr
    show wpAny _ _ (call (.ref f) _) _ _ _
    refine wpAny_call (codeAny_mono (L.run X.A X.stack s2 H2 _ v Q hr I2.env0 h1 rv q) fun r' s' hq => ?_)
    cases r' with
    | error e => exact False.elim hq
    | ok fl =>
      cases fl with
      | ret u => exact I2.after hq
      | next => exact False.elim hq
      | brk => exact False.elim hq
      | cont => exact False.elim hq
end
/-! ### a lambda of one parameter -/
abbrev lamF (q : Str) (params : Arguments) (scope : Scope) (cl : List (Str × Addr)) (c' : Addr) : NF := ⟨"<lambda>", q, params, [], scope, cl, c'⟩
def LamD (f c' : Addr) (q : Str) (o : Obj) (cells : List (Addr × Obj)) (H : Hp) : Prop := H f = some (Fz o) ∧ H c' = some (CodeO c' q) ∧ ∀ p ∈ cells, H p.1 = some (Fz p.2)
theorem lam1_of {P : Program} {w : World} {K : PySem.W.Frag} {mg : Str → Option Value} {base : Heap} {k : Nat} {N fr : List Str} {ws : List (Option V)} {cells : List (Addr × Obj)} {cl : List (Str × Addr)} {f c' : Addr} {q x : Str} {params : Arguments} {body : Expr} {scope : Scope} {pm ctv : Value} {R : V → Hp → V → Prop}
    (S : NScope N [x] fr scope) (hb : ∀ u : Value, bindArgs (PySem.W.kla_fn "<lambda>" q params body scope cl pm (.ref c') ctv) ⟨[u], []⟩ = pure [(x, u)]) (C : CapT cl fr ws cells)
    (hbody : ∀ (A : Around) (outer : List Env) (s : Shared) (H : Hp) (v z : V), Room k (A.deeper (envF (lamF q params scope cl c') f s.heap.objs.size)) → R v H z →
      ∃ t : TE, PE (ncx CX0 P w K mg base N (lamF q params scope cl c') f A outer s (cut (cells.map (·.1)) H) E0) body t ∧ ∀ Q : VK, Q z (cut (cells.map (·.1)) H) → t (startF N [v] ws) (cut (cells.map (·.1)) H) Q) :
    Lam1 P w K mg base (k + 1) f (LamD f c' q (PySem.W.kla_obj "<lambda>" q params body scope cl pm c' ctv) cells) R := by
  refine ⟨fun H h hok D => ⟨_, _, _, _, fz_at hok D.1⟩, fun A outer s H u v Q hr e0 D rv qq => ?_⟩
  obtain ⟨hf, hc, hF⟩ := D
  obtain ⟨z, hR, hQ⟩ := qq
  have e1 := Trk.env0_cut hF e0
  have CA := capT_cells C e0.hok hF
  have of := fz_at e0.hok hf
  have hcode := codeO_at e0.hok hc
  have lim : s.heap.NoLimit := e0.mod.nolimit.keeps fun b o e => (e0.bs b o e).1
  have rc : codeAny (model P w) A (.call (.ref f) ⟨[u], []⟩) (CR CX0 outer P w (cut (cells.map (·.1)) H) s (fun v H' => Q v (rejoin (cells.map (·.1)) H H')) E0) s := by
    refine PySem.W.kla_callFunE hr.depth of rfl S.co S.gen rfl hcode ?_
    rw [hb u]
    refine wpAny_pure (wpAny_newFunctionEnv S.nocell (fun y hy => ?_) (fun h₁ hns hsb => ⟨lim.fresh _ hsb, ?_⟩) S.kind)
    · rw [List.mem_singleton.mp hy]
      exact S.par x (List.mem_singleton.mpr rfl)
    show codeAny _ _ (.expr body (envF (lamF q params scope cl c') f s.heap.objs.size)) _ _
    have kp : ∀ b o, s.heap.get? b = some o → h₁.get? b = some o := fun b o e => hsb.extBut b o (Nat.ne_of_lt (Heap.lt_size e)) (Heap.get?_push_of_some _ e)
    have J : Inv (ncx CX0 P w K mg base N (lamF q params scope cl c') f A outer s (cut (cells.map (·.1)) H) E0) [] (startF N [v] ws) (cut (cells.map (·.1)) H) { s with heap := h₁, toks := s.toks + ([(x, u)] : List (Str × Value)).length } :=
      inv_startN (F := lamF q params scope cl c') (ps := [x]) (us := [u]) (vs := [v]) S hr.hd e1 rfl (.cons rv .nil) CA hns kp
    obtain ⟨t, ht, hq⟩ := hbody A outer s H v z (hr.deeper _) hR
    refine PySem.W.kla_codeExpr (wpAny_mono (ht.run [] _ _ _ (fun v H' => Q v (rejoin (cells.map (·.1)) H H')) J (hq _ (by rw [rejoin_cut]; exact hQ))) (fun v s' hq' => ?_) fun e s' hq' => hq')
    obtain ⟨w', H', J', rv', q'⟩ := hq'
    exact ⟨w', H', J'.os, J'.bare, J'.base, J'.hok, rv', q'⟩
  refine codeAny_mono rc fun r s' hq => ?_
  cases r with
  | error e => exact hq
  | ok fl =>
    cases fl with
    | ret u => exact Trk.after_cut hF e0 hq
    | next => exact hq
    | brk => exact hq
    | cont => exact hq
end Sb

namespace Sb
open PySem PySem.Spec PyProof.Rows L2
/-- the lambda that stands last among the arguments of the call that a def returns -/
def lamArg (st : Stmt) : Expr := match (defBody st).getLast? with
  | some (.Return (some (.Call _ es _ _)) _) => es.getLast?.getD (.Constant .none 0 ⟨0, 0, 0, 0⟩)
  | _ => .Constant .none 0 ⟨0, 0, 0, 0⟩
def lamScope : Expr → Scope
  | .Lambda _ _ sc _ => sc
  | _ => default
def lamPar : Expr → Arguments
  | .Lambda ps _ _ _ => ps
  | _ => default
def lamBody : Expr → Expr
  | .Lambda _ b _ _ => b
  | e => e
theorem fun_okC {P : Program} {w : World} {K : PySem.W.Frag} {mg : Str → Option Value} {base : Heap} {x qual : Str} {st : Stmt} {f c : Addr} {fd : FuncData} {N ps : List Str} {k : Nat} {sp : Sp} (F : L2.Fun K x qual st f fd) (hc : fd.code = .ref c) (S : FnScope N ps (defScope st)) (len : ∀ vs H Q E, sp vs H Q E → vs.length = ps.length)
    (hbody : ∀ (A : Around) (outer : List Env) (s : Shared) (H : Hp) (vs : List V) (Q : VK) (E : XK), Room k (A.deeper (envOfC qual (defScope st) s.heap.objs.size f (.ref c))) → sp vs H Q E →
      ∃ t, PSs (cxOf CX0 P w K mg base N qual (defScope st) f (.ref c) A outer s H E).nox (defBody st) t ∧ t { nx := fun _ H' => Q .non H', rt := Q } (start N vs) H) : FnOk P w K mg base CX0 (k + 1) f fd ps sp := by
  obtain ⟨oc, od, kV, doc, pm, an, cdv, ct, osl, rfl, lk, hcd⟩ := F.ex
  have hc' : cdv = .ref c := hc
  subst hc'
  refine fn_of lk hcd S len fun A outer s H vs Q E hr hsp => ?_
  obtain ⟨t, h, q⟩ := hbody A outer s H vs Q E hr hsp
  exact ⟨t, h.nox, q⟩
end Sb

namespace Sb
open PySem PySem.Spec PyProof.Rows L2
/-! ### the heap with the source of draws at d, beside the data heap G -/
structure Now (d : Addr) (G H : Hp) : Prop where
  s : Same G H
  o : G d = none
  x : ∃ ds : List Int, H d = some (.lst (ds.map V.int)) ∧ Src ds
structure At (d : Addr) (G0 H0 G H : Hp) : Prop where
  now : Now d G H
  ext : Ext G0 H0 G H
  sm : Same (wo d H0) H
section
variable {d p l : Addr} {G0 H0 G H G1 H1 G2 H2 : Hp} {o : HO} {ds : List Int}
theorem Now.at (h : Now d G H) : At d G H G H := ⟨h, Ext.refl h.s, fun b o e => (wo_some e).2⟩
theorem Now.ne (h : Now d G H) (np : H p = none) : p ≠ d := by
  obtain ⟨ds, h1, _⟩ := h.x
  exact fun e => by rw [e, h1] at np; cases np
theorem At.ne (h : At d G0 H0 G H) (np : H p = none) : p ≠ d := h.now.ne np
theorem At.new (h : At d G0 H0 G H) (np : H p = none) (o : HO) : At d G0 H0 (upd G p o) (upd H p o) := by
  refine ⟨⟨same_up h.now.s np, ?_, ?_⟩, h.ext.new np, h.sm.trans (same_new np)⟩
  · rw [upd_ne (h.ne np).symm]; exact h.now.o
  · rw [upd_ne (h.ne np).symm]; exact h.now.x
theorem At.lay (h : At d G0 H0 G H) (np : H p = none) (o : HO) : At d G0 H0 G (upd H p o) := by
  refine ⟨⟨same_put h.now.s (Same.free h.now.s np), h.now.o, ?_⟩, h.ext.lay np, h.sm.trans (same_new np)⟩
  rw [upd_ne (h.ne np).symm]; exact h.now.x
theorem At.draw (h : At d G0 H0 G H) (s : Src ds) : At d G0 H0 G (upd H d (.lst (ds.map V.int))) :=
  ⟨⟨same_put h.now.s h.now.o, h.now.o, ⟨ds, upd_same, s⟩⟩, h.ext.put h.now.o, same_put h.sm wo_self⟩
/-- a thing made since, not data, is written -/
theorem At.put (h : At d G0 H0 G H) (n0 : H0 l = none) (n : G l = none) (hd : l ≠ d) (o : HO) : At d G0 H0 G (upd H l o) := by
  refine ⟨⟨same_put h.now.s n, h.now.o, ?_⟩, h.ext.put n, same_put h.sm ?_⟩
  · rw [upd_ne hd.symm]; exact h.now.x
  · rw [wo_ne hd]; exact n0
theorem At.freeze (h : At d G0 H0 G H) (n0 : H0 l = none) (hl : H l = some o) (hd : l ≠ d) : At d G0 H0 (upd G l o) H :=
  ⟨⟨same_add h.now.s hl, by rw [upd_ne hd.symm]; exact h.now.o, h.now.x⟩, h.ext.freeze n0 hl, h.sm⟩
theorem At.trans (a : At d G0 H0 G H) (b : At d G H G1 H1) : At d G0 H0 G1 H1 := by
  refine ⟨b.now, a.ext.trans b.ext, fun c o e => ?_⟩
  have e1 := a.sm c o e
  exact b.sm c o (by rw [wo_ne (wo_some e).1]; exact e1)
theorem At.g (a : At d G0 H0 G H) : Same G0 G := a.ext.g
/-- what is not the source stands through a call -/
theorem At.kept (a : At d G H G1 H1) (h : H l = some o) (hd : l ≠ d) : H1 l = some o := a.sm l o (by rw [wo_ne hd]; exact h)
/-- behind a pure call -/
theorem At.pure (a : At d G0 H0 G H) (e : Ext G H G1 H1) (s : Same H H1) : At d G0 H0 G1 H1 := by
  obtain ⟨ds, h1, h2⟩ := a.now.x
  exact ⟨⟨e.h, e.out a.now.o h1, ⟨ds, s _ _ h1, h2⟩⟩, a.ext.trans e, a.sm.trans s⟩
end

/-- what follows a statement, shown once -/
theorem seq_rest {t u : TS} {D : Ends} {σ : L2.St} {H : Hp} (P : Hp → Prop) (σ' : L2.St) (hr : ∀ H, P H → u D σ' H) (h : (∀ H, P H → u D σ' H) → t { D with nx := u D } σ H) : tSeq t u D σ H := h hr
theorem seq_restσ {t u : TS} {D : Ends} {σ : L2.St} {H : Hp} (P : L2.St → Hp → Prop) (hr : ∀ σ H, P σ H → u D σ H) (h : (∀ σ H, P σ H → u D σ H) → t { D with nx := u D } σ H) : tSeq t u D σ H := h hr

/-! ### plans -/
def wds : List Str := ["left", "right", "pick", "put", "wait", "goto", "empty", "held"]
def wS (w : Nat) : Str := wds.getD w Str.empty
structure Step where
  w : Nat
  g : Option Nat
  deriving DecidableEq
def optD : Option Nat → PyData
  | none => .none
  | some k => .int k
def natD (n : Nat) : PyData := .int n
def Step.D (s : Step) : PyData := .tuple [.str (wS s.w), optD s.g]
structure Step.Ok (n : Nat) (s : Step) : Prop where
  w8 : s.w < 8
  no : s.w < 5 → s.g = none
  yes : 5 ≤ s.w → ∃ k, s.g = some k ∧ k < n
def stepsD (l : List Step) : PyData := .list (l.map Step.D)
structure StepsOk (l : List Step) : Prop where
  pos : 1 ≤ l.length
  le : l.length ≤ 20
  all : ∀ s ∈ l, Step.Ok l.length s
structure Pl where
  shelf : List Nat
  a : Nat
  b : Nat
  p : List Step
  q : List Step
def Pl.D (x : Pl) : PyData := .tuple [.tuple (x.shelf.map natD), .tuple [natD x.a, natD x.b], .list [stepsD x.p, stepsD x.q]]
structure Pl.Ok (x : Pl) : Prop where
  c3 : 3 ≤ x.shelf.length
  c12 : x.shelf.length ≤ 12
  b3 : ∀ n ∈ x.shelf, n ≤ 3
  ha : x.a < x.shelf.length
  hb : x.b < x.shelf.length
  ne : x.a ≠ x.b
  p : StepsOk x.p
  q : StepsOk x.q
/-- a def that draws: from the heap as it stands to one with R of its value -/
def Drawn (d : Addr) (G H : Hp) (Q : VK) (R : Hp → V → Prop) : Prop := Now d G H ∧ ∀ (G' H' : Hp) (v : V), At d G H G' H' → R G' v → Q v H'
/-- a def that changes nothing that stood -/
def Pure (G H : Hp) (Q : VK) (R : Hp → V → Prop) : Prop := Same G H ∧ ∀ (G' H' : Hp) (v : V), Ext G H G' H' → Same H H' → R G' v → Q v H'
end Sb

namespace Sb
open PySem PySem.Spec PyProof.Rows L2 TL
/-! ### canonical texts, by codes -/
def mkS (l : List Nat) : Str := ⟨l.toArray⟩
theorem tl_mkS (l : List Nat) : tl (mkS l) = l := rfl
theorem mkS_tl (x : Str) : mkS (tl x) = x := mk_tl x
theorem mkS_of {x : Str} {l : List Nat} (h : tl x = l) : x = mkS l := ext_tl h
theorem len_mkS (l : List Nat) : (mkS l).length = l.length := len_tl _
theorem len_app (x y : Str) : (x ++ y).length = x.length + y.length := by rw [len_tl, tl_append, List.length_append, ← len_tl, ← len_tl]
def wL (w : Nat) : List Nat := tl (wS w)
def goalsOf (ss : List Step) : List Nat := ss.filterMap Step.g
def stepL (gs : List Nat) (k : Nat) (s : Step) : List Nat :=
  [32, 32] ++ (if k ∈ gs then [115, 97 + k, 58, 32] else []) ++ wL s.w ++ (match s.g with | none => [] | some g => [32, 115, 97 + g]) ++ [59]
def stepsL (gs : List Nat) (k : Nat) : List Step → List (List Nat)
  | [] => []
  | s :: r => stepL gs k s :: stepsL gs (k + 1) r
def robotL (n : Nat) (ss : List Step) : List (List Nat) := ([114, 111, 98, 111, 116, 32] ++ numL n ++ [32, 123]) :: (stepsL (goalsOf ss) 0 ss ++ [[125]])
def shelfL (l : List Nat) : List Nat := [115, 104, 101, 108, 102, 32] ++ joinL [32] (l.map numL) ++ [59]
def linesL (x : Pl) : List (List Nat) := shelfL x.shelf :: (robotL x.a x.p ++ robotL x.b x.q)
def textL (x : Pl) : List Nat := joinL [10] (linesL x)
def textS (x : Pl) : Str := mkS (textL x)
theorem stepsL_len (gs : List Nat) : ∀ (k : Nat) (ss : List Step), (stepsL gs k ss).length = ss.length
  | _, [] => rfl
  | k, s :: r => by show (stepsL gs (k + 1) r).length + 1 = _; rw [stepsL_len gs (k + 1) r]; rfl
theorem stepsL_snoc (gs : List Nat) : ∀ (k : Nat) (ss : List Step) (s : Step), stepsL gs k (ss ++ [s]) = stepsL gs k ss ++ [stepL gs (k + ss.length) s]
  | k, [], s => rfl
  | k, t :: r, s => by
    show stepL gs k t :: stepsL gs (k + 1) (r ++ [s]) = _
    rw [stepsL_snoc gs (k + 1) r s]
    show _ = stepL gs k t :: (stepsL gs (k + 1) r ++ [stepL gs (k + (r.length + 1)) s])
    have e : k + 1 + r.length = k + (r.length + 1) := by omega
    rw [e]
/-! lengths -/
theorem wL_len : ∀ {w : Nat}, w < 8 → (wL w).length ≤ 5 := by
  have h : ∀ w : _root_.Fin 8, (wL w.val).length ≤ 5 := by decide +kernel
  exact fun {w} hw => h ⟨w, hw⟩
theorem wS_len {w : Nat} (h : w < 8) : (wS w).length ≤ 5 := by rw [len_tl]; exact wL_len h
theorem stepL_len {gs : List Nat} {k n : Nat} {s : Step} (h : Step.Ok n s) : (stepL gs k s).length ≤ 15 := by
  have h1 := wL_len h.w8
  unfold stepL
  simp only [List.length_append]
  have h2 : (if k ∈ gs then [115, 97 + k, 58, 32] else ([] : List Nat)).length ≤ 4 := by split <;> simp
  have h3 : (match s.g with | none => ([] : List Nat) | some g => [32, 115, 97 + g]).length ≤ 3 := by split <;> simp
  have h4 : ([32, 32] : List Nat).length = 2 := rfl
  have h5 : ([59] : List Nat).length = 1 := rfl
  omega
theorem joinL_len (S : List Nat) (m : Nat) : ∀ l : List (List Nat), (∀ p ∈ l, p.length ≤ m) → (joinL S l).length ≤ l.length * (m + S.length)
  | [], _ => by simp [joinL]
  | [x], h => by
    have := h x (by simp)
    show x.length ≤ 1 * (m + S.length)
    omega
  | x :: y :: r, h => by
    have h1 := h x (by simp)
    have ih := joinL_len S m (y :: r) (fun p hp => h p (by simp only [List.mem_cons] at hp ⊢; exact .inr hp))
    show (x ++ (S ++ joinL S (y :: r))).length ≤ _
    rw [List.length_append, List.length_append]
    have e : (x :: y :: r).length = (y :: r).length + 1 := rfl
    rw [e, Nat.add_mul, Nat.one_mul]
    omega
theorem numS_tl (n : Nat) : tl (Str.ofString (toString ((n : Nat) : Int))) = numL n := tl_num n
theorem num_len {n : Nat} (h : n < 100) : (numL n).length ≤ 2 := numL_len (by decide) (by show n < 10 ^ 2; omega)
theorem numS_len {n : Nat} (h : n < 100) : (Str.ofString (toString ((n : Nat) : Int))).length ≤ 2 := by rw [len_tl, tl_num]; exact num_len h
def abc : Str := "abcdefghijklmnopqrst"
theorem abc_at : ∀ {k : Nat}, k < 20 → abc.cps.toList[k]? = some (97 + k) := by
  have h : ∀ k : _root_.Fin 20, abc.cps.toList[k.val]? = some (97 + k.val) := by decide +kernel
  exact fun {k} hk => h ⟨k, hk⟩
theorem abc_len : abc.length = 20 := by decide +kernel
theorem in_nats (k : Nat) : ∀ l : List Nat, inV (.int k) (l.map fun n : Nat => V.int n) = decide (k ∈ l)
  | [] => by simp [inV]
  | n :: r => by
    have ih := in_nats k r
    unfold inV at ih ⊢
    rw [List.map_cons, List.any_cons, ih]
    have e : eqV (.int n) (.int k) = decide (n = k) := by
      unfold eqV
      by_cases h : n = k
      · subst h; simp
      · have h2 : ¬ (n : Int) = (k : Int) := fun q => h (by exact_mod_cast q)
        simp [h, h2]
    rw [e]
    by_cases h : n = k
    · subst h; simp
    · have h' : ¬ k = n := fun q => h q.symm
      simp [h, h']
theorem nats_flat (l : List Nat) : (l.map fun n : Nat => V.int n).all flatV = true := by
  rw [List.all_eq_true]
  intro x hx
  obtain ⟨n, _, rfl⟩ := List.mem_map.mp hx
  rfl
/-! the pieces as texts -/
theorem sp2 : tl (Str.ofString "  ") = [32, 32] := by decide +kernel
theorem t_s : tl (Str.ofString "s") = [115] := by decide +kernel
theorem t_cs : tl (Str.ofString ": ") = [58, 32] := by decide +kernel
theorem t_sc : tl (Str.ofString ";") = [59] := by decide +kernel
theorem t_ss : tl (Str.ofString " s") = [32, 115] := by decide +kernel
theorem t_sp : tl (Str.ofString " ") = [32] := by decide +kernel
theorem t_nl : tl (Str.ofString "\n") = [10] := by decide +kernel
theorem t_e : tl (Str.ofString "") = [] := by decide +kernel
theorem t_rb : tl (Str.ofString "robot ") = [114, 111, 98, 111, 116, 32] := by decide +kernel
theorem t_lb : tl (Str.ofString " {") = [32, 123] := by decide +kernel
theorem t_cb : tl (Str.ofString "}") = [125] := by decide +kernel
theorem t_sh : tl (Str.ofString "shelf ") = [115, 104, 101, 108, 102, 32] := by decide +kernel
theorem lines_len {x : Pl} (h : x.Ok) : ∀ p ∈ linesL x, p.length ≤ 60 := by
  have rob : ∀ (n : Nat) (ss : List Step), n < 12 → StepsOk ss → ∀ p ∈ robotL n ss, p.length ≤ 60 := by
    intro n ss hn hs p hp
    rcases List.mem_cons.mp hp with rfl | hp
    · have := num_len (n := n) (by omega)
      simp only [List.length_append, List.length_cons, List.length_nil]
      omega
    · rcases List.mem_append.mp hp with hp | hp
      · have all : ∀ (gs : List Nat) (k : Nat) (l : List Step), (∀ s ∈ l, s ∈ ss) → ∀ p ∈ stepsL gs k l, p.length ≤ 15 := by
          intro gs k l
          induction l generalizing k with
          | nil => intro _ p hp; cases hp
          | cons s r ih =>
            intro hl p hp
            rcases List.mem_cons.mp hp with rfl | hp
            · exact stepL_len (hs.all s (hl s (by simp)))
            · exact ih (k + 1) (fun s h => hl s (by simp [h])) p hp
        have := all _ _ _ (fun s h => h) p hp
        omega
      · rw [List.mem_singleton.mp hp]
        decide
  intro p hp
  rcases List.mem_cons.mp hp with rfl | hp
  · unfold shelfL
    have h1 := joinL_len [32] 2 (x.shelf.map numL) (fun p hp => by
      obtain ⟨n, hn, rfl⟩ := List.mem_map.mp hp
      exact num_len (by have := h.b3 n hn; omega))
    have h2 := h.c12
    simp only [List.length_append, List.length_cons, List.length_nil, List.length_map] at h1 ⊢
    omega
  · rcases List.mem_append.mp hp with hp | hp
    · exact rob x.a x.p (by have := h.ha; have := h.c12; omega) h.p p hp
    · exact rob x.b x.q (by have := h.hb; have := h.c12; omega) h.q p hp
theorem robotL_len (n : Nat) (ss : List Step) : (robotL n ss).length = ss.length + 2 := by
  unfold robotL
  rw [List.length_cons, List.length_append, stepsL_len]
  rfl
theorem linesL_len {x : Pl} (h : x.Ok) : (linesL x).length ≤ 45 := by
  unfold linesL
  rw [List.length_cons, List.length_append, robotL_len, robotL_len]
  have := h.p.le
  have := h.q.le
  omega
theorem textL_len {x : Pl} (h : x.Ok) : (textL x).length ≤ 2745 := by
  have h1 := joinL_len [10] 60 (linesL x) (lines_len h)
  have h2 := linesL_len h
  have h3 : (linesL x).length * (60 + 1) ≤ 45 * 61 := Nat.mul_le_mul_right 61 h2
  exact Nat.le_trans h1 h3
end Sb

namespace Sb
open PySem PySem.Spec PyProof.Rows L2 TL
/-! ### tokens -/
inductive Kd where
  | name | number | keyword | sign | fin
  deriving DecidableEq
def kS : Kd → Str
  | .name => "name"
  | .number => "number"
  | .keyword => "keyword"
  | .sign => "sign"
  | .fin => "end"
structure Tk where
  k : Kd
  t : List Nat
  deriving DecidableEq
def sgnS : Str := ";:{}"
def digS : Str := "0123456789"
def letS : Str := "abcdefghijklmnopqrstuvwxyz"
def spcS : Str := " \n"
def kwS : List Str := ["shelf", "robot", "left", "right", "pick", "put", "wait", "goto", "empty", "held"]
def kwL : List (List Nat) := kwS.map tl
def HeadNot (S : List Nat) (r : List Nat) : Prop := ∀ c r', r = c :: r' → c ∉ S
inductive Rd : List Nat → Tk → List Nat → Prop
  | sign {c : Nat} {r : List Nat} : c ∈ tl sgnS → Rd (c :: r) ⟨.sign, [c]⟩ r
  | num {t r : List Nat} : t ≠ [] → (∀ c ∈ t, c ∈ tl digS) → t.length ≤ 2 → (1 < t.length → t.head? ≠ some 48) → HeadNot (tl digS) r → Rd (t ++ r) ⟨.number, t⟩ r
  | kw {t r : List Nat} : (∀ c ∈ t, c ∈ tl letS) → t ∈ kwL → HeadNot (tl letS) r → Rd (t ++ r) ⟨.keyword, t⟩ r
  | nm {t r : List Nat} : (∀ c ∈ t, c ∈ tl letS) → 1 ≤ t.length → t.length ≤ 8 → t ∉ kwL → HeadNot (tl letS) r → Rd (t ++ r) ⟨.name, t⟩ r
inductive Lx : List Nat → List Tk → Prop
  | nil : Lx [] []
  | sp {r : List Nat} {ts : List Tk} : Lx r ts → Lx (32 :: r) ts
  | tok {l r : List Nat} {k : Tk} {ts : List Tk} : Rd l k r → Lx r ts → Lx l (k :: ts)
/-- the tokens of all rows -/
inductive LxAll : List (List Nat) → List Tk → Prop
  | nil : LxAll [] []
  | cons {l : List Nat} {ls : List (List Nat)} {ts us : List Tk} : Lx l ts → LxAll ls us → LxAll (l :: ls) (ts ++ us)
theorem sgn_list : tl sgnS = [59, 58, 123, 125] := by decide +kernel
theorem dig_list : tl digS = [48, 49, 50, 51, 52, 53, 54, 55, 56, 57] := by decide +kernel
theorem let_list : tl letS = [97, 98, 99, 100, 101, 102, 103, 104, 105, 106, 107, 108, 109, 110, 111, 112, 113, 114, 115, 116, 117, 118, 119, 120, 121, 122] := by decide +kernel
theorem spc_list : tl spcS = [32, 10] := by decide +kernel
theorem mem_dig {c : Nat} : c ∈ tl digS ↔ 48 ≤ c ∧ c ≤ 57 := by
  rw [dig_list]; simp; omega
theorem mem_let {c : Nat} : c ∈ tl letS ↔ 97 ≤ c ∧ c ≤ 122 := by
  rw [let_list]; simp; omega
theorem mem_sgn {c : Nat} : c ∈ tl sgnS ↔ c = 59 ∨ c = 58 ∨ c = 123 ∨ c = 125 := by
  rw [sgn_list]; simp
/-- the run of signs of S at the head -/
def runL (S : List Nat) : List Nat → Nat
  | [] => 0
  | c :: r => if c ∈ S then runL S r + 1 else 0
theorem runL_app {S t r : List Nat} (h : ∀ c ∈ t, c ∈ S) (hr : HeadNot S r) : runL S (t ++ r) = t.length := by
  induction t with
  | nil =>
    cases r with
    | nil => rfl
    | cons c r => show (if c ∈ S then _ else 0) = 0; rw [if_neg (hr c r rfl)]
  | cons c t ih =>
    show (if c ∈ S then runL S (t ++ r) + 1 else 0) = _
    rw [if_pos (h c (by simp)), ih (fun c hc => h c (by simp [hc]))]
    rfl
theorem runL_le (S : List Nat) : ∀ l : List Nat, runL S l ≤ l.length
  | [] => Nat.le_refl _
  | c :: r => by
    show (if c ∈ S then runL S r + 1 else 0) ≤ r.length + 1
    have := runL_le S r
    split <;> omega
theorem cut_run {z : Str} {c n : Nat} (h : c + n ≤ (tl z).length) : tl (cutS z (some (c : Int)) (some ((c + n : Nat) : Int))) = ((tl z).drop c).take n := by
  show ((tl z).drop (HT.sIx z.length 0 (some (c : Int)))).take (HT.sIx z.length z.length (some ((c + n : Nat) : Int)) - HT.sIx z.length 0 (some (c : Int))) = _
  rw [HT.sIx_nat, HT.sIx_nat]
  have e1 : min c z.length = c := by rw [len_tl]; omega
  have e2 : min (c + n) z.length = c + n := by rw [len_tl]; omega
  rw [e1, e2, Nat.add_sub_cancel_left]
end Sb

namespace Sb
open PySem PySem.Spec PyProof.Rows L2
def topS (i : Nat) : Stmt := PySem.Challenge.pw_shelfbots_k40_whole_plans_compared.main.body.getD i (.Pass ⟨0, 0, 0, 0⟩)
abbrev s_l_random : Stmt := topS 57
theorem sc_l_random : FnScope ["_law_script", "_law_salt", "_law_seed", "_law_cell"] ["_law_script", "_law_salt"] (defScope s_l_random) := ⟨rfl, rfl, rfl, by decide +kernel, rfl, by decide +kernel, by decide +kernel⟩
abbrev s_l_below : Stmt := topS 58
theorem sc_l_below : FnScope ["_law_d", "_law_limit", "_law_result"] ["_law_d", "_law_limit"] (defScope s_l_below) := ⟨rfl, rfl, rfl, by decide +kernel, rfl, by decide +kernel, by decide +kernel⟩
abbrev s_l_empty : Stmt := topS 60
theorem sc_l_empty : FnScope ["_law_plan_here"] ["_law_plan_here"] (defScope s_l_empty) := ⟨rfl, rfl, rfl, by decide +kernel, rfl, by decide +kernel, by decide +kernel⟩
abbrev s_l_act : Stmt := topS 61
theorem sc_l_act : FnScope ["_law_plan_here", "_law_state", "_law_number", "_law_places", "_law_nexts", "_law_holds", "_law_shelf", "_law_part", "_law_word", "_law_goal", "_law_here", "_law_there", "_law_jumps"] ["_law_plan_here", "_law_state", "_law_number"] (defScope s_l_act) := ⟨rfl, rfl, rfl, by decide +kernel, rfl, by decide +kernel, by decide +kernel⟩
abbrev s_l_tick : Stmt := topS 62
theorem sc_l_tick : FnScope ["_law_plan_here", "_law_state", "_law_first", "_law_second"] ["_law_plan_here", "_law_state"] (defScope s_l_tick) := ⟨rfl, rfl, rfl, by decide +kernel, rfl, by decide +kernel, by decide +kernel⟩
abbrev s_l_repeats : Stmt := topS 63
theorem sc_l_repeats : FnScope ["_law_plan_here", "_law_state", "_law_keys", "_law_tick_here", "_law_key", "_law_part"] ["_law_plan_here"] (defScope s_l_repeats) := ⟨rfl, rfl, rfl, by decide +kernel, rfl, by decide +kernel, by decide +kernel⟩
abbrev s_l_steps : Stmt := topS 59
theorem sc_l_steps : FnScope ["_law_d", "_law_most", "_law_many", "_law_words", "_law_ways", "_law_limit", "_law_found", "_law_k", "_law_word"] ["_law_d", "_law_most"] (defScope s_l_steps) := ⟨rfl, rfl, rfl, by decide +kernel, rfl, by decide +kernel, by decide +kernel⟩
abbrev s_l_plan : Stmt := topS 64
theorem sc_l_plan : FnScope ["_law_d", "_law_most", "_law_many_cells", "_law_first", "_law_second", "_law_shelf", "_law_k", "_law_plan_here"] ["_law_d", "_law_most"] (defScope s_l_plan) := ⟨rfl, rfl, rfl, by decide +kernel, rfl, by decide +kernel, by decide +kernel⟩
abbrev s_l_doubled : Stmt := topS 65
theorem sc_l_doubled : FnScope ["_law_steps_here", "_law_many", "_law_word", "_law_goal"] ["_law_steps_here"] (defScope s_l_doubled) := ⟨rfl, rfl, rfl, by decide +kernel, rfl, by decide +kernel, by decide +kernel⟩
abbrev s_l_other : Stmt := topS 66
theorem sc_l_other : FnScope ["_law_d", "_law_first", "_law_shelf", "_law_starts", "_law_both", "_law_kind", "_law_changed", "_law_steps_here", "_law_number", "_law_at"] ["_law_d", "_law_first"] (defScope s_l_other) := ⟨rfl, rfl, rfl, by decide +kernel, rfl, by decide +kernel, by decide +kernel⟩
abbrev s_Story_size : Stmt := inClass (topS 49) 1
theorem sc_Story_size : FnScope ["self"] ["self"] (defScope s_Story_size) := ⟨rfl, rfl, rfl, by decide +kernel, rfl, by decide +kernel, by decide +kernel⟩
abbrev s_Parser_peek : Stmt := inClass (topS 34) 1
theorem sc_Parser_peek : FnScope ["self"] ["self"] (defScope s_Parser_peek) := ⟨rfl, rfl, rfl, by decide +kernel, rfl, by decide +kernel, by decide +kernel⟩
abbrev s_Token_init : Stmt := inClass (topS 23) 0
theorem sc_Token_init : FnScope ["self", "kind", "text", "line", "column"] ["self", "kind", "text", "line", "column"] (defScope s_Token_init) := ⟨rfl, rfl, rfl, by decide +kernel, rfl, by decide +kernel, by decide +kernel⟩
abbrev s_Robot_init : Stmt := inClass (topS 32) 0
theorem sc_Robot_init : FnScope ["self", "start", "steps", "names"] ["self", "start", "steps", "names"] (defScope s_Robot_init) := ⟨rfl, rfl, rfl, by decide +kernel, rfl, by decide +kernel, by decide +kernel⟩
abbrev s_Plan_init : Stmt := inClass (topS 33) 0
theorem sc_Plan_init : FnScope ["self", "shelf", "robots"] ["self", "shelf", "robots"] (defScope s_Plan_init) := ⟨rfl, rfl, rfl, by decide +kernel, rfl, by decide +kernel, by decide +kernel⟩
abbrev s_Parser_init : Stmt := inClass (topS 34) 0
theorem sc_Parser_init : FnScope ["self", "tokens"] ["self", "tokens"] (defScope s_Parser_init) := ⟨rfl, rfl, rfl, by decide +kernel, rfl, by decide +kernel, by decide +kernel⟩
abbrev s_is_int_in : Stmt := topS 41
theorem sc_is_int_in : FnScope ["value", "low", "high"] ["value", "low", "high"] (defScope s_is_int_in) := ⟨rfl, rfl, rfl, by decide +kernel, rfl, by decide +kernel, by decide +kernel⟩
abbrev s_check_tick : Stmt := topS 42
theorem sc_check_tick : FnScope ["tick"] ["tick"] (defScope s_check_tick) := ⟨rfl, rfl, rfl, by decide +kernel, rfl, by decide +kernel, by decide +kernel⟩
abbrev s_Story_happens : Stmt := inClass (topS 49) 2
theorem sc_Story_happens : FnScope ["self", "tick"] ["self", "tick"] (defScope s_Story_happens) := ⟨rfl, rfl, rfl, by decide +kernel, rfl, by decide +kernel, by decide +kernel⟩
abbrev s_first_state : Stmt := topS 45
theorem sc_first_state : FnScope ["parsed", "robot"] ["parsed"] (defScope s_first_state) := ⟨rfl, rfl, rfl, by decide +kernel, rfl, by decide +kernel, by decide +kernel⟩
abbrev s_State_key : Stmt := inClass (topS 43) 1
theorem sc_State_key : FnScope ["self"] ["self"] (defScope s_State_key) := ⟨rfl, rfl, rfl, by decide +kernel, rfl, by decide +kernel, by decide +kernel⟩
abbrev s_replaced : Stmt := topS 44
theorem sc_replaced : FnScope ["values", "place", "value"] ["values", "place", "value"] (defScope s_replaced) := ⟨rfl, rfl, rfl, by decide +kernel, rfl, by decide +kernel, by decide +kernel⟩
abbrev s_act : Stmt := topS 46
theorem sc_act : FnScope ["parsed", "state", "number", "robot", "at", "word", "goal", "cell", "held", "shelf", "later", "is_jump", "cells", "holds"] ["parsed", "state", "number"] (defScope s_act) := ⟨rfl, rfl, rfl, by decide +kernel, rfl, by decide +kernel, by decide +kernel⟩
abbrev s_Tick_init : Stmt := inClass (topS 47) 0
theorem sc_Tick_init : FnScope ["self", "words", "state"] ["self", "words", "state"] (defScope s_Tick_init) := ⟨rfl, rfl, rfl, by decide +kernel, rfl, by decide +kernel, by decide +kernel⟩
abbrev s_next_tick : Stmt := topS 48
theorem sc_next_tick : FnScope ["parsed", "state", "first", "second"] ["parsed", "state"] (defScope s_next_tick) := ⟨rfl, rfl, rfl, by decide +kernel, rfl, by decide +kernel, by decide +kernel⟩
abbrev s_Story_init : Stmt := inClass (topS 49) 0
theorem sc_Story_init : FnScope ["self", "parsed", "state", "seen"] ["self", "parsed"] (defScope s_Story_init) := ⟨rfl, rfl, rfl, by decide +kernel, rfl, by decide +kernel, by decide +kernel⟩
abbrev s_cells : Stmt := topS 50
theorem sc_cells : FnScope ["plan", "tick", "parsed"] ["plan", "tick"] (defScope s_cells) := ⟨rfl, rfl, rfl, by decide +kernel, rfl, by decide +kernel, by decide +kernel⟩
abbrev s_State_init : Stmt := inClass (topS 43) 0
theorem sc_State_init : FnScope ["self", "cells", "nexts", "holds", "shelf"] ["self", "cells", "nexts", "holds", "shelf"] (defScope s_State_init) := ⟨rfl, rfl, rfl, by decide +kernel, rfl, by decide +kernel, by decide +kernel⟩
abbrev s_Parser_fail : Stmt := inClass (topS 34) 2
theorem sc_Parser_fail : FnScope ["self", "token"] ["self"] (defScope s_Parser_fail) := ⟨rfl, rfl, rfl, by decide +kernel, rfl, by decide +kernel, by decide +kernel⟩
abbrev s_Parser_take_word : Stmt := inClass (topS 34) 5
theorem sc_Parser_take_word : FnScope ["self", "word", "token"] ["self", "word"] (defScope s_Parser_take_word) := ⟨rfl, rfl, rfl, by decide +kernel, rfl, by decide +kernel, by decide +kernel⟩
abbrev s_Parser_take : Stmt := inClass (topS 34) 4
theorem sc_Parser_take : FnScope ["self", "kind", "token"] ["self", "kind"] (defScope s_Parser_take) := ⟨rfl, rfl, rfl, by decide +kernel, rfl, by decide +kernel, by decide +kernel⟩
abbrev s_Parser_found : Stmt := inClass (topS 34) 3
theorem sc_Parser_found : FnScope ["self", "reason", "token"] ["self", "reason", "token"] (defScope s_Parser_found) := ⟨rfl, rfl, rfl, by decide +kernel, rfl, by decide +kernel, by decide +kernel⟩
abbrev s_Parser_parse_shelf : Stmt := inClass (topS 34) 6
theorem sc_Parser_parse_shelf : FnScope ["self", "keyword", "tokens", "place", "token"] ["self"] (defScope s_Parser_parse_shelf) := ⟨rfl, rfl, rfl, by decide +kernel, rfl, by decide +kernel, by decide +kernel⟩
abbrev s_Parser_parse_step : Stmt := inClass (topS 34) 7
theorem sc_Parser_parse_step : FnScope ["self", "names", "jumps", "token"] ["self", "names", "jumps"] (defScope s_Parser_parse_step) := ⟨rfl, rfl, rfl, by decide +kernel, rfl, by decide +kernel, by decide +kernel⟩
abbrev s_Parser_parse_robot : Stmt := inClass (topS 34) 8
theorem sc_Parser_parse_robot : FnScope ["self", "cells", "others", "token", "words", "names", "jumps", "steps", "word", "jump"] ["self", "cells", "others"] (defScope s_Parser_parse_robot) := ⟨rfl, rfl, rfl, by decide +kernel, rfl, by decide +kernel, by decide +kernel⟩
abbrev s_Parser_parse_plan : Stmt := inClass (topS 34) 9
theorem sc_Parser_parse_plan : FnScope ["self", "shelf", "first", "second", "line", "column", "number", "reason"] ["self"] (defScope s_Parser_parse_plan) := ⟨rfl, rfl, rfl, by decide +kernel, rfl, by decide +kernel, by decide +kernel⟩
abbrev s_run_end : Stmt := topS 24
theorem sc_run_end : FnScope ["row", "start", "letters", "end"] ["row", "start", "letters"] (defScope s_run_end) := ⟨rfl, rfl, rfl, by decide +kernel, rfl, by decide +kernel, by decide +kernel⟩
abbrev s_read_token : Stmt := topS 25
theorem sc_read_token : FnScope ["row", "line", "column", "first", "word"] ["row", "line", "column"] (defScope s_read_token) := ⟨rfl, rfl, rfl, by decide +kernel, rfl, by decide +kernel, by decide +kernel⟩
abbrev s_tokenize : Stmt := topS 26
theorem sc_tokenize : FnScope ["source", "tokens", "rows", "line", "row", "column", "token"] ["source"] (defScope s_tokenize) := ⟨rfl, rfl, rfl, by decide +kernel, rfl, by decide +kernel, by decide +kernel⟩
abbrev s_load : Stmt := topS 35
theorem sc_load : FnScope ["plan"] ["plan"] (defScope s_load) := ⟨rfl, rfl, rfl, by decide +kernel, rfl, by decide +kernel, by decide +kernel⟩
abbrev s_first_difference : Stmt := topS 54
theorem sc_first_difference : FnScope ["plan", "other", "one", "two", "first", "second", "multiple", "tick", "states"] ["plan", "other"] (defScope s_first_difference) := ⟨rfl, rfl, rfl, by decide +kernel, rfl, by decide +kernel, by decide +kernel⟩
abbrev s_l_text : Stmt := topS 67
theorem sc_l_text : FnScope ["_law_plan_here", "_law_shelf", "_law_starts", "_law_both", "_law_lines", "_law_pieces", "_law_number", "_law_goals", "_law_word", "_law_goal", "_law_k", "_law_mark", "_law_target"] ["_law_plan_here"] (defScope s_l_text) := ⟨rfl, rfl, rfl, by decide +kernel, rfl, by decide +kernel, by decide +kernel⟩
abbrev s_first_error : Stmt := topS 55
theorem sc_first_error : FnScope ["plan", "log", "story", "tick", "entry"] ["plan", "log"] (defScope s_first_error) := ⟨rfl, rfl, rfl, by decide +kernel, rfl, by decide +kernel, by decide +kernel⟩
abbrev s_boxes : Stmt := topS 51
theorem sc_boxes : FnScope ["plan", "tick", "parsed"] ["plan", "tick"] (defScope s_boxes) := ⟨rfl, rfl, rfl, by decide +kernel, rfl, by decide +kernel, by decide +kernel⟩
abbrev s_trace : Stmt := topS 52
theorem sc_trace : GScope ["plan", "first", "last", "parsed", "story", "tick"] ["plan", "first", "last"] (defScope s_trace) := ⟨rfl, rfl, rfl, by decide +kernel, rfl, by decide +kernel, by decide +kernel⟩
abbrev s_law : Stmt := topS 68
theorem sc_law : FnScope ["_law_script", "_law_d", "_law_first", "_law_second", "_law_one", "_law_other_here", "_law_found", "_law_states", "_law_text_here", "_law_tick_here", "_law_unlike", "_law_logs", "_law_row", "_law_parted", "_law_at"] ["_law_script"] (defScope s_law) := ⟨rfl, rfl, rfl, by decide +kernel, rfl, by decide +kernel, by decide +kernel⟩
structure Ad where
  f_l_random : Addr
  d_l_random : FuncData
  f_l_below : Addr
  d_l_below : FuncData
  f_l_empty : Addr
  d_l_empty : FuncData
  f_l_act : Addr
  d_l_act : FuncData
  f_l_tick : Addr
  d_l_tick : FuncData
  f_l_repeats : Addr
  d_l_repeats : FuncData
  f_l_steps : Addr
  d_l_steps : FuncData
  f_l_plan : Addr
  d_l_plan : FuncData
  f_l_doubled : Addr
  d_l_doubled : FuncData
  f_l_other : Addr
  d_l_other : FuncData
  f_Story_size : Addr
  d_Story_size : FuncData
  p_Story_size : Addr
  f_Parser_peek : Addr
  d_Parser_peek : FuncData
  f_Token_init : Addr
  d_Token_init : FuncData
  f_Robot_init : Addr
  d_Robot_init : FuncData
  f_Plan_init : Addr
  d_Plan_init : FuncData
  f_Parser_init : Addr
  d_Parser_init : FuncData
  f_is_int_in : Addr
  d_is_int_in : FuncData
  f_check_tick : Addr
  d_check_tick : FuncData
  f_Story_happens : Addr
  d_Story_happens : FuncData
  f_first_state : Addr
  d_first_state : FuncData
  f_State_key : Addr
  d_State_key : FuncData
  p_State_key : Addr
  f_replaced : Addr
  d_replaced : FuncData
  f_act : Addr
  d_act : FuncData
  f_Tick_init : Addr
  d_Tick_init : FuncData
  f_next_tick : Addr
  d_next_tick : FuncData
  f_Story_init : Addr
  d_Story_init : FuncData
  f_cells : Addr
  d_cells : FuncData
  f_State_init : Addr
  d_State_init : FuncData
  f_Parser_fail : Addr
  d_Parser_fail : FuncData
  f_Parser_take_word : Addr
  d_Parser_take_word : FuncData
  f_Parser_take : Addr
  d_Parser_take : FuncData
  f_Parser_found : Addr
  d_Parser_found : FuncData
  f_Parser_parse_shelf : Addr
  d_Parser_parse_shelf : FuncData
  f_Parser_parse_step : Addr
  d_Parser_parse_step : FuncData
  f_Parser_parse_robot : Addr
  d_Parser_parse_robot : FuncData
  f_Parser_parse_plan : Addr
  d_Parser_parse_plan : FuncData
  f_run_end : Addr
  d_run_end : FuncData
  f_read_token : Addr
  d_read_token : FuncData
  f_tokenize : Addr
  d_tokenize : FuncData
  f_load : Addr
  d_load : FuncData
  f_first_difference : Addr
  d_first_difference : FuncData
  f_l_text : Addr
  d_l_text : FuncData
  f_first_error : Addr
  d_first_error : FuncData
  f_boxes : Addr
  d_boxes : FuncData
  f_trace : Addr
  d_trace : FuncData
  f_law : Addr
  d_law : FuncData
  C_Token : Addr
  C_Robot : Addr
  C_Plan : Addr
  C_Parser : Addr
  C_State : Addr
  C_Tick : Addr
  C_Story : Addr
  A_MOVES : Addr
  A_JUMPS : Addr
  A_KEYWORDS : Addr
  t_LETTERS : Tok
  t_DIGITS : Tok
  t_SPACES : Tok
  t_SIGNS : Tok
  t_MAX_LETTERS : Tok
  t_MAX_DIGITS : Tok
  t_NAME : Tok
  t_NUMBER : Tok
  t_KEYWORD : Tok
  t_SIGN : Tok
  t_END : Tok
  t_MIN_CELLS : Tok
  t_MAX_CELLS : Tok
  t_MAX_BOXES : Tok
  t_MAX_STEPS : Tok
  t_MAX_TICK : Tok
  t_MAX_STATES : Tok
  t_MAX_TRACE : Tok
  t_BLOCKED : Tok
structure Txt (K : PySem.W.Frag) (mg : Str → Option Value) (a : Ad) : Prop where
  F_l_random : Fun K "_law_random" "_law_random" s_l_random a.f_l_random a.d_l_random
  m_l_random : mg "_law_random" = some (.ref a.f_l_random)
  F_l_below : Fun K "_law_below" "_law_below" s_l_below a.f_l_below a.d_l_below
  m_l_below : mg "_law_below" = some (.ref a.f_l_below)
  F_l_empty : Fun K "_law_empty" "_law_empty" s_l_empty a.f_l_empty a.d_l_empty
  m_l_empty : mg "_law_empty" = some (.ref a.f_l_empty)
  F_l_act : Fun K "_law_act" "_law_act" s_l_act a.f_l_act a.d_l_act
  m_l_act : mg "_law_act" = some (.ref a.f_l_act)
  F_l_tick : Fun K "_law_tick" "_law_tick" s_l_tick a.f_l_tick a.d_l_tick
  m_l_tick : mg "_law_tick" = some (.ref a.f_l_tick)
  F_l_repeats : Fun K "_law_repeats" "_law_repeats" s_l_repeats a.f_l_repeats a.d_l_repeats
  m_l_repeats : mg "_law_repeats" = some (.ref a.f_l_repeats)
  F_l_steps : Fun K "_law_steps" "_law_steps" s_l_steps a.f_l_steps a.d_l_steps
  m_l_steps : mg "_law_steps" = some (.ref a.f_l_steps)
  F_l_plan : Fun K "_law_plan" "_law_plan" s_l_plan a.f_l_plan a.d_l_plan
  m_l_plan : mg "_law_plan" = some (.ref a.f_l_plan)
  F_l_doubled : Fun K "_law_doubled" "_law_doubled" s_l_doubled a.f_l_doubled a.d_l_doubled
  m_l_doubled : mg "_law_doubled" = some (.ref a.f_l_doubled)
  F_l_other : Fun K "_law_other" "_law_other" s_l_other a.f_l_other a.d_l_other
  m_l_other : mg "_law_other" = some (.ref a.f_l_other)
  F_Story_size : Fun K "size" "Story.size" s_Story_size a.f_Story_size a.d_Story_size
  P_Story_size : PropOf K a.C_Story "size" a.p_Story_size a.f_Story_size
  F_Parser_peek : Fun K "peek" "Parser.peek" s_Parser_peek a.f_Parser_peek a.d_Parser_peek
  M_Parser_peek : Meth K a.C_Parser "peek" a.f_Parser_peek
  F_Token_init : Fun K "__init__" "Token.__init__" s_Token_init a.f_Token_init a.d_Token_init
  F_Robot_init : Fun K "__init__" "Robot.__init__" s_Robot_init a.f_Robot_init a.d_Robot_init
  F_Plan_init : Fun K "__init__" "Plan.__init__" s_Plan_init a.f_Plan_init a.d_Plan_init
  F_Parser_init : Fun K "__init__" "Parser.__init__" s_Parser_init a.f_Parser_init a.d_Parser_init
  F_is_int_in : Fun K "is_int_in" "is_int_in" s_is_int_in a.f_is_int_in a.d_is_int_in
  m_is_int_in : mg "is_int_in" = some (.ref a.f_is_int_in)
  F_check_tick : Fun K "check_tick" "check_tick" s_check_tick a.f_check_tick a.d_check_tick
  m_check_tick : mg "check_tick" = some (.ref a.f_check_tick)
  F_Story_happens : Fun K "happens" "Story.happens" s_Story_happens a.f_Story_happens a.d_Story_happens
  M_Story_happens : Meth K a.C_Story "happens" a.f_Story_happens
  F_first_state : Fun K "first_state" "first_state" s_first_state a.f_first_state a.d_first_state
  m_first_state : mg "first_state" = some (.ref a.f_first_state)
  F_State_key : Fun K "key" "State.key" s_State_key a.f_State_key a.d_State_key
  P_State_key : PropOf K a.C_State "key" a.p_State_key a.f_State_key
  F_replaced : Fun K "replaced" "replaced" s_replaced a.f_replaced a.d_replaced
  m_replaced : mg "replaced" = some (.ref a.f_replaced)
  F_act : Fun K "act" "act" s_act a.f_act a.d_act
  m_act : mg "act" = some (.ref a.f_act)
  F_Tick_init : Fun K "__init__" "Tick.__init__" s_Tick_init a.f_Tick_init a.d_Tick_init
  F_next_tick : Fun K "next_tick" "next_tick" s_next_tick a.f_next_tick a.d_next_tick
  m_next_tick : mg "next_tick" = some (.ref a.f_next_tick)
  F_Story_init : Fun K "__init__" "Story.__init__" s_Story_init a.f_Story_init a.d_Story_init
  F_cells : Fun K "cells" "cells" s_cells a.f_cells a.d_cells
  m_cells : mg "cells" = some (.ref a.f_cells)
  F_State_init : Fun K "__init__" "State.__init__" s_State_init a.f_State_init a.d_State_init
  F_Parser_fail : Fun K "fail" "Parser.fail" s_Parser_fail a.f_Parser_fail a.d_Parser_fail
  M_Parser_fail : Meth K a.C_Parser "fail" a.f_Parser_fail
  F_Parser_take_word : Fun K "take_word" "Parser.take_word" s_Parser_take_word a.f_Parser_take_word a.d_Parser_take_word
  M_Parser_take_word : Meth K a.C_Parser "take_word" a.f_Parser_take_word
  F_Parser_take : Fun K "take" "Parser.take" s_Parser_take a.f_Parser_take a.d_Parser_take
  M_Parser_take : Meth K a.C_Parser "take" a.f_Parser_take
  F_Parser_found : Fun K "found" "Parser.found" s_Parser_found a.f_Parser_found a.d_Parser_found
  M_Parser_found : Meth K a.C_Parser "found" a.f_Parser_found
  F_Parser_parse_shelf : Fun K "parse_shelf" "Parser.parse_shelf" s_Parser_parse_shelf a.f_Parser_parse_shelf a.d_Parser_parse_shelf
  M_Parser_parse_shelf : Meth K a.C_Parser "parse_shelf" a.f_Parser_parse_shelf
  F_Parser_parse_step : Fun K "parse_step" "Parser.parse_step" s_Parser_parse_step a.f_Parser_parse_step a.d_Parser_parse_step
  M_Parser_parse_step : Meth K a.C_Parser "parse_step" a.f_Parser_parse_step
  F_Parser_parse_robot : Fun K "parse_robot" "Parser.parse_robot" s_Parser_parse_robot a.f_Parser_parse_robot a.d_Parser_parse_robot
  M_Parser_parse_robot : Meth K a.C_Parser "parse_robot" a.f_Parser_parse_robot
  F_Parser_parse_plan : Fun K "parse_plan" "Parser.parse_plan" s_Parser_parse_plan a.f_Parser_parse_plan a.d_Parser_parse_plan
  M_Parser_parse_plan : Meth K a.C_Parser "parse_plan" a.f_Parser_parse_plan
  F_run_end : Fun K "run_end" "run_end" s_run_end a.f_run_end a.d_run_end
  m_run_end : mg "run_end" = some (.ref a.f_run_end)
  F_read_token : Fun K "read_token" "read_token" s_read_token a.f_read_token a.d_read_token
  m_read_token : mg "read_token" = some (.ref a.f_read_token)
  F_tokenize : Fun K "tokenize" "tokenize" s_tokenize a.f_tokenize a.d_tokenize
  m_tokenize : mg "tokenize" = some (.ref a.f_tokenize)
  F_load : Fun K "load" "load" s_load a.f_load a.d_load
  m_load : mg "load" = some (.ref a.f_load)
  F_first_difference : Fun K "first_difference" "first_difference" s_first_difference a.f_first_difference a.d_first_difference
  m_first_difference : mg "first_difference" = some (.ref a.f_first_difference)
  F_l_text : Fun K "_law_text" "_law_text" s_l_text a.f_l_text a.d_l_text
  m_l_text : mg "_law_text" = some (.ref a.f_l_text)
  F_first_error : Fun K "first_error" "first_error" s_first_error a.f_first_error a.d_first_error
  m_first_error : mg "first_error" = some (.ref a.f_first_error)
  F_boxes : Fun K "boxes" "boxes" s_boxes a.f_boxes a.d_boxes
  m_boxes : mg "boxes" = some (.ref a.f_boxes)
  F_trace : Fun K "trace" "trace" s_trace a.f_trace a.d_trace
  m_trace : mg "trace" = some (.ref a.f_trace)
  F_law : Fun K "law" "law" s_law a.f_law a.d_law
  m_law : mg "law" = some (.ref a.f_law)
  m_Token : mg "Token" = some (.ref a.C_Token)
  cl_Token : Cls K a.C_Token
  mk_Token : Mk K a.C_Token a.f_Token_init
  n_Token_kind : NoAttr K a.C_Token "kind"
  n_Token_text : NoAttr K a.C_Token "text"
  n_Token_line : NoAttr K a.C_Token "line"
  n_Token_column : NoAttr K a.C_Token "column"
  m_Robot : mg "Robot" = some (.ref a.C_Robot)
  cl_Robot : Cls K a.C_Robot
  mk_Robot : Mk K a.C_Robot a.f_Robot_init
  n_Robot_start : NoAttr K a.C_Robot "start"
  n_Robot_steps : NoAttr K a.C_Robot "steps"
  n_Robot_names : NoAttr K a.C_Robot "names"
  m_Plan : mg "Plan" = some (.ref a.C_Plan)
  cl_Plan : Cls K a.C_Plan
  mk_Plan : Mk K a.C_Plan a.f_Plan_init
  n_Plan_shelf : NoAttr K a.C_Plan "shelf"
  n_Plan_robots : NoAttr K a.C_Plan "robots"
  m_Parser : mg "Parser" = some (.ref a.C_Parser)
  cl_Parser : Cls K a.C_Parser
  mk_Parser : Mk K a.C_Parser a.f_Parser_init
  n_Parser_tokens : NoAttr K a.C_Parser "tokens"
  n_Parser_at : NoAttr K a.C_Parser "at"
  n_Parser_faults : NoAttr K a.C_Parser "faults"
  m_State : mg "State" = some (.ref a.C_State)
  cl_State : Cls K a.C_State
  mk_State : Mk K a.C_State a.f_State_init
  n_State_cells : NoAttr K a.C_State "cells"
  n_State_nexts : NoAttr K a.C_State "nexts"
  n_State_holds : NoAttr K a.C_State "holds"
  n_State_shelf : NoAttr K a.C_State "shelf"
  m_Tick : mg "Tick" = some (.ref a.C_Tick)
  cl_Tick : Cls K a.C_Tick
  mk_Tick : Mk K a.C_Tick a.f_Tick_init
  n_Tick_words : NoAttr K a.C_Tick "words"
  n_Tick_state : NoAttr K a.C_Tick "state"
  m_Story : mg "Story" = some (.ref a.C_Story)
  cl_Story : Cls K a.C_Story
  mk_Story : Mk K a.C_Story a.f_Story_init
  n_Story_ticks : NoAttr K a.C_Story "ticks"
  n_Story_start : NoAttr K a.C_Story "start"
  z_len : mg "len" = none
  z_abs : mg "abs" = none
  z_range : mg "range" = none
  z_str : mg "str" = none
  z_int : mg "int" = none
  z_tuple : mg "tuple" = none
  z_list : mg "list" = none
  z_sum : mg "sum" = none
  z_isinstance : mg "isinstance" = none
  z_bool : mg "bool" = none
  z_enumerate : mg "enumerate" = none
  z_zip : mg "zip" = none
  z_min : mg "min" = none
  z_all : mg "all" = none
  z_divmod : mg "divmod" = none
  z_max : mg "max" = none
  z_dict : mg "dict" = none
  z_sorted : mg "sorted" = none
  c_MOVES : mg "MOVES" = some (.ref a.A_MOVES)
  q_MOVES : ∀ H, SqT K H a.A_MOVES (([(Str.ofString "left"), (Str.ofString "right"), (Str.ofString "pick"), (Str.ofString "put"), (Str.ofString "wait")] : List Str).map V.str)
  k_MOVES : ∃ o, K.lookup a.A_MOVES = some o ∧ o.cls = .type "tuple" ∧ o.dict = none
  c_JUMPS : mg "JUMPS" = some (.ref a.A_JUMPS)
  q_JUMPS : ∀ H, SqT K H a.A_JUMPS (([(Str.ofString "goto"), (Str.ofString "empty"), (Str.ofString "held")] : List Str).map V.str)
  k_JUMPS : ∃ o, K.lookup a.A_JUMPS = some o ∧ o.cls = .type "tuple" ∧ o.dict = none
  c_KEYWORDS : mg "KEYWORDS" = some (.ref a.A_KEYWORDS)
  q_KEYWORDS : ∀ H, SqT K H a.A_KEYWORDS (([(Str.ofString "shelf"), (Str.ofString "robot"), (Str.ofString "left"), (Str.ofString "right"), (Str.ofString "pick"), (Str.ofString "put"), (Str.ofString "wait"), (Str.ofString "goto"), (Str.ofString "empty"), (Str.ofString "held")] : List Str).map V.str)
  k_KEYWORDS : ∃ o, K.lookup a.A_KEYWORDS = some o ∧ o.cls = .type "tuple" ∧ o.dict = none
  c_LETTERS : mg "LETTERS" = some (.str (Str.ofString "abcdefghijklmnopqrstuvwxyz") a.t_LETTERS)
  c_DIGITS : mg "DIGITS" = some (.str (Str.ofString "0123456789") a.t_DIGITS)
  c_SPACES : mg "SPACES" = some (.str (Str.ofString " \n") a.t_SPACES)
  c_SIGNS : mg "SIGNS" = some (.str (Str.ofString ";:{}") a.t_SIGNS)
  c_MAX_LETTERS : mg "MAX_LETTERS" = some (.int 8 a.t_MAX_LETTERS)
  c_MAX_DIGITS : mg "MAX_DIGITS" = some (.int 2 a.t_MAX_DIGITS)
  c_NAME : mg "NAME" = some (.str (Str.ofString "name") a.t_NAME)
  c_NUMBER : mg "NUMBER" = some (.str (Str.ofString "number") a.t_NUMBER)
  c_KEYWORD : mg "KEYWORD" = some (.str (Str.ofString "keyword") a.t_KEYWORD)
  c_SIGN : mg "SIGN" = some (.str (Str.ofString "sign") a.t_SIGN)
  c_END : mg "END" = some (.str (Str.ofString "end") a.t_END)
  c_MIN_CELLS : mg "MIN_CELLS" = some (.int 3 a.t_MIN_CELLS)
  c_MAX_CELLS : mg "MAX_CELLS" = some (.int 12 a.t_MAX_CELLS)
  c_MAX_BOXES : mg "MAX_BOXES" = some (.int 3 a.t_MAX_BOXES)
  c_MAX_STEPS : mg "MAX_STEPS" = some (.int 20 a.t_MAX_STEPS)
  c_MAX_TICK : mg "MAX_TICK" = some (.int 1000000000000000000 a.t_MAX_TICK)
  c_MAX_STATES : mg "MAX_STATES" = some (.int 20000 a.t_MAX_STATES)
  c_MAX_TRACE : mg "MAX_TRACE" = some (.int 500 a.t_MAX_TRACE)
  c_BLOCKED : mg "BLOCKED" = some (.str (Str.ofString "blocked") a.t_BLOCKED)
section
variable {K : PySem.W.Frag} {mg : Str → Option Value} {a : Ad}
theorem b_l_random (T : Txt K mg a) : Binds K a.d_l_random ["_law_script", "_law_salt"] [] := T.F_l_random.binds fun _ _ _ _ _ _ us hl => match us, hl with | [_, _], _ => rfl
theorem b_l_below (T : Txt K mg a) : Binds K a.d_l_below ["_law_d", "_law_limit"] [] := T.F_l_below.binds fun _ _ _ _ _ _ us hl => match us, hl with | [_, _], _ => rfl
theorem b_l_empty (T : Txt K mg a) : Binds K a.d_l_empty ["_law_plan_here"] [] := T.F_l_empty.binds fun _ _ _ _ _ _ us hl => match us, hl with | [_], _ => rfl
theorem b_l_act (T : Txt K mg a) : Binds K a.d_l_act ["_law_plan_here", "_law_state", "_law_number"] [] := T.F_l_act.binds fun _ _ _ _ _ _ us hl => match us, hl with | [_, _, _], _ => rfl
theorem b_l_tick (T : Txt K mg a) : Binds K a.d_l_tick ["_law_plan_here", "_law_state"] [] := T.F_l_tick.binds fun _ _ _ _ _ _ us hl => match us, hl with | [_, _], _ => rfl
theorem b_l_repeats (T : Txt K mg a) : Binds K a.d_l_repeats ["_law_plan_here"] [] := T.F_l_repeats.binds fun _ _ _ _ _ _ us hl => match us, hl with | [_], _ => rfl
theorem b_l_steps (T : Txt K mg a) : Binds K a.d_l_steps ["_law_d", "_law_most"] [] := T.F_l_steps.binds fun _ _ _ _ _ _ us hl => match us, hl with | [_, _], _ => rfl
theorem b_l_plan (T : Txt K mg a) : Binds K a.d_l_plan ["_law_d", "_law_most"] [] := T.F_l_plan.binds fun _ _ _ _ _ _ us hl => match us, hl with | [_, _], _ => rfl
theorem b_l_doubled (T : Txt K mg a) : Binds K a.d_l_doubled ["_law_steps_here"] [] := T.F_l_doubled.binds fun _ _ _ _ _ _ us hl => match us, hl with | [_], _ => rfl
theorem b_l_other (T : Txt K mg a) : Binds K a.d_l_other ["_law_d", "_law_first"] [] := T.F_l_other.binds fun _ _ _ _ _ _ us hl => match us, hl with | [_, _], _ => rfl
theorem b_Story_size (T : Txt K mg a) : Binds K a.d_Story_size ["self"] [] := T.F_Story_size.binds fun _ _ _ _ _ _ us hl => match us, hl with | [_], _ => rfl
theorem b_Parser_peek (T : Txt K mg a) : Binds K a.d_Parser_peek ["self"] [] := T.F_Parser_peek.binds fun _ _ _ _ _ _ us hl => match us, hl with | [_], _ => rfl
theorem b_Token_init (T : Txt K mg a) : Binds K a.d_Token_init ["self", "kind", "text", "line", "column"] [] := T.F_Token_init.binds fun _ _ _ _ _ _ us hl => match us, hl with | [_, _, _, _, _], _ => rfl
theorem b_Robot_init (T : Txt K mg a) : Binds K a.d_Robot_init ["self", "start", "steps", "names"] [] := T.F_Robot_init.binds fun _ _ _ _ _ _ us hl => match us, hl with | [_, _, _, _], _ => rfl
theorem b_Plan_init (T : Txt K mg a) : Binds K a.d_Plan_init ["self", "shelf", "robots"] [] := T.F_Plan_init.binds fun _ _ _ _ _ _ us hl => match us, hl with | [_, _, _], _ => rfl
theorem b_Parser_init (T : Txt K mg a) : Binds K a.d_Parser_init ["self", "tokens"] [] := T.F_Parser_init.binds fun _ _ _ _ _ _ us hl => match us, hl with | [_, _], _ => rfl
theorem b_is_int_in (T : Txt K mg a) : Binds K a.d_is_int_in ["value", "low", "high"] [] := T.F_is_int_in.binds fun _ _ _ _ _ _ us hl => match us, hl with | [_, _, _], _ => rfl
theorem b_check_tick (T : Txt K mg a) : Binds K a.d_check_tick ["tick"] [] := T.F_check_tick.binds fun _ _ _ _ _ _ us hl => match us, hl with | [_], _ => rfl
theorem b_Story_happens (T : Txt K mg a) : Binds K a.d_Story_happens ["self", "tick"] [] := T.F_Story_happens.binds fun _ _ _ _ _ _ us hl => match us, hl with | [_, _], _ => rfl
theorem b_first_state (T : Txt K mg a) : Binds K a.d_first_state ["parsed"] [] := T.F_first_state.binds fun _ _ _ _ _ _ us hl => match us, hl with | [_], _ => rfl
theorem b_State_key (T : Txt K mg a) : Binds K a.d_State_key ["self"] [] := T.F_State_key.binds fun _ _ _ _ _ _ us hl => match us, hl with | [_], _ => rfl
theorem b_replaced (T : Txt K mg a) : Binds K a.d_replaced ["values", "place", "value"] [] := T.F_replaced.binds fun _ _ _ _ _ _ us hl => match us, hl with | [_, _, _], _ => rfl
theorem b_act (T : Txt K mg a) : Binds K a.d_act ["parsed", "state", "number"] [] := T.F_act.binds fun _ _ _ _ _ _ us hl => match us, hl with | [_, _, _], _ => rfl
theorem b_Tick_init (T : Txt K mg a) : Binds K a.d_Tick_init ["self", "words", "state"] [] := T.F_Tick_init.binds fun _ _ _ _ _ _ us hl => match us, hl with | [_, _, _], _ => rfl
theorem b_next_tick (T : Txt K mg a) : Binds K a.d_next_tick ["parsed", "state"] [] := T.F_next_tick.binds fun _ _ _ _ _ _ us hl => match us, hl with | [_, _], _ => rfl
theorem b_Story_init (T : Txt K mg a) : Binds K a.d_Story_init ["self", "parsed"] [] := T.F_Story_init.binds fun _ _ _ _ _ _ us hl => match us, hl with | [_, _], _ => rfl
theorem b_cells (T : Txt K mg a) : Binds K a.d_cells ["plan", "tick"] [] := T.F_cells.binds fun _ _ _ _ _ _ us hl => match us, hl with | [_, _], _ => rfl
theorem b_State_init (T : Txt K mg a) : Binds K a.d_State_init ["self", "cells", "nexts", "holds", "shelf"] [] := T.F_State_init.binds fun _ _ _ _ _ _ us hl => match us, hl with | [_, _, _, _, _], _ => rfl
theorem b_Parser_fail (T : Txt K mg a) : Binds K a.d_Parser_fail ["self"] [] := T.F_Parser_fail.binds fun _ _ _ _ _ _ us hl => match us, hl with | [_], _ => rfl
theorem b_Parser_take_word (T : Txt K mg a) : Binds K a.d_Parser_take_word ["self", "word"] [] := T.F_Parser_take_word.binds fun _ _ _ _ _ _ us hl => match us, hl with | [_, _], _ => rfl
theorem b_Parser_take (T : Txt K mg a) : Binds K a.d_Parser_take ["self", "kind"] [] := T.F_Parser_take.binds fun _ _ _ _ _ _ us hl => match us, hl with | [_, _], _ => rfl
theorem b_Parser_found (T : Txt K mg a) : Binds K a.d_Parser_found ["self", "reason", "token"] [] := T.F_Parser_found.binds fun _ _ _ _ _ _ us hl => match us, hl with | [_, _, _], _ => rfl
theorem b_Parser_parse_shelf (T : Txt K mg a) : Binds K a.d_Parser_parse_shelf ["self"] [] := T.F_Parser_parse_shelf.binds fun _ _ _ _ _ _ us hl => match us, hl with | [_], _ => rfl
theorem b_Parser_parse_step (T : Txt K mg a) : Binds K a.d_Parser_parse_step ["self", "names", "jumps"] [] := T.F_Parser_parse_step.binds fun _ _ _ _ _ _ us hl => match us, hl with | [_, _, _], _ => rfl
theorem b_Parser_parse_robot (T : Txt K mg a) : Binds K a.d_Parser_parse_robot ["self", "cells", "others"] [] := T.F_Parser_parse_robot.binds fun _ _ _ _ _ _ us hl => match us, hl with | [_, _, _], _ => rfl
theorem b_Parser_parse_plan (T : Txt K mg a) : Binds K a.d_Parser_parse_plan ["self"] [] := T.F_Parser_parse_plan.binds fun _ _ _ _ _ _ us hl => match us, hl with | [_], _ => rfl
theorem b_run_end (T : Txt K mg a) : Binds K a.d_run_end ["row", "start", "letters"] [] := T.F_run_end.binds fun _ _ _ _ _ _ us hl => match us, hl with | [_, _, _], _ => rfl
theorem b_read_token (T : Txt K mg a) : Binds K a.d_read_token ["row", "line", "column"] [] := T.F_read_token.binds fun _ _ _ _ _ _ us hl => match us, hl with | [_, _, _], _ => rfl
theorem b_tokenize (T : Txt K mg a) : Binds K a.d_tokenize ["source"] [] := T.F_tokenize.binds fun _ _ _ _ _ _ us hl => match us, hl with | [_], _ => rfl
theorem b_load (T : Txt K mg a) : Binds K a.d_load ["plan"] [] := T.F_load.binds fun _ _ _ _ _ _ us hl => match us, hl with | [_], _ => rfl
theorem b_first_difference (T : Txt K mg a) : Binds K a.d_first_difference ["plan", "other"] [] := T.F_first_difference.binds fun _ _ _ _ _ _ us hl => match us, hl with | [_, _], _ => rfl
theorem b_l_text (T : Txt K mg a) : Binds K a.d_l_text ["_law_plan_here"] [] := T.F_l_text.binds fun _ _ _ _ _ _ us hl => match us, hl with | [_], _ => rfl
theorem b_first_error (T : Txt K mg a) : Binds K a.d_first_error ["plan", "log"] [] := T.F_first_error.binds fun _ _ _ _ _ _ us hl => match us, hl with | [_, _], _ => rfl
theorem b_boxes (T : Txt K mg a) : Binds K a.d_boxes ["plan", "tick"] [] := T.F_boxes.binds fun _ _ _ _ _ _ us hl => match us, hl with | [_, _], _ => rfl
theorem b_trace (T : Txt K mg a) : Binds K a.d_trace ["plan", "first", "last"] [] := T.F_trace.binds fun _ _ _ _ _ _ us hl => match us, hl with | [_, _, _], _ => rfl
end
end Sb


namespace Sb
open PySem PySem.Spec PyProof.Rows L2
theorem ixN_nat {n j : Nat} (h : j < n) : ixN n (j : Int) = some j := by
  unfold ixN
  rw [if_pos (Int.natCast_nonneg j), if_pos (by omega)]
  simp
theorem sq_nat {n j : Nat} (h : j < n) : seqIndex? (j : Int) n = some j := (ixN_seq (ixN_nat h)).1
theorem ix_of {n j : Nat} {z : Int} (e : z = (j : Int)) (h : j < n) : ixN n z = some j := by rw [e]; exact ixN_nat h
theorem sq_of {n j : Nat} {z : Int} (e : z = (j : Int)) (h : j < n) : seqIndex? z n = some j := by rw [e]; exact sq_nat h
theorem vint_eq {i j : Int} (h : i = j) : decide (V.int i = V.int j) = true := decide_eq_true (by rw [h])
theorem vint_ne {i j : Int} (h : ¬ i = j) : decide (V.int i = V.int j) = false := decide_eq_false (fun e => h (by injection e))

/-! ### the draws -/
def spRandom (K : PySem.W.Frag) : Sp := fun vs H Q _ => ∃ (a : Addr) (ns : List Int) (salt : Int), vs = [.ref a, .int salt] ∧ SqL K H a (ns.map V.int) ∧ ns.length ≤ 63 ∧ 0 ≤ salt ∧
  ∀ (H' : Hp) (p : Addr) (ds : List Int), Same H H' → H p = none → H' p = some (.lst (ds.map V.int)) → Src ds → Q (.ref p) H'
structure spBelow (vs : List V) (H : Hp) (Q : VK) (E : XK) : Prop where
  ex : ∃ (d : Addr) (ds : List Int) (n : Int), vs = [.ref d, .int n] ∧ H d = some (.lst (ds.map V.int)) ∧ Src ds ∧ 0 < n ∧ n < 1073741824 ∧
  ∀ (ds' : List Int) (k : Int), Src ds' → 0 ≤ k → k < n → Q (.int k) (upd H d (.lst (ds'.map V.int)))
section
variable {P : Program} {w : World} {K : PySem.W.Frag} {mg : Str → Option Value} {base : Heap} {a : Ad}
theorem ok_l_below (T : Txt K mg a) : FnOk P w K mg base CX0 1 a.f_l_below a.d_l_below ["_law_d", "_law_limit"] spBelow := by
  refine T.F_l_below.ok sc_l_below (fun vs H Q E h => ?_) (fun cdv A outer s H vs Q E hr h => ?_)
  · obtain ⟨⟨d, ds, n, rfl, _⟩⟩ := h
    rfl
  · obtain ⟨⟨d, ds, n, rfl, hd, ⟨⟨z, e, r, rfl, hz, he, hr2, hl⟩⟩, n0, n1, k⟩⟩ := h
    refine ⟨_, (pss_cons (ps_if (PW.pt (pw_and (pt_cmpR op_eq (pe_ix ix_list (pv 0) pe_int (fun _ _ => rfl)) pe_int (nomark _)) (pw_and1 (pt_cmpR op_gt (pe_callB call_len_seq (by rfl) T.z_len (by decide +kernel) (pa_cons (pv 0) pa_nil)) pe_int (nomark _))))) (pss_one (ps_asg (pe_bm PySem.F.plainAttrs_list PySem.F.slot_list_pop PySem.F.type_list_pop mt_popAt (pv 0) (pa_cons pe_int pa_nil)) (pg_sub (pv 0) pe_int set_list))) pss_nil)
      (pss_cons (ps_if (pt_cmpR op_gt (pe_ix ix_list (pv 0) pe_int (fun _ _ => rfl)) pe_int (nomark _)) (pss_cons (ps_set (i := 2) sc_l_below.nd rfl (Or.inl rfl) (pe_op op_mod (pe_ix ix_list (pv 0) pe_int (fun _ _ => rfl)) (pv 1)))
      (pss_cons (ps_asg (pe_op op_fdiv (pe_ix ix_list (pv 0) pe_int (fun _ _ => rfl)) (pv 1)) (pg_sub (pv 0) pe_int set_list))
      (pss_one (ps_ret (pv 2))))) pss_nil)
      (pss_cons (ps_asg (pe_op op_mod (pe_op op_add (pe_op op_mul (pe_ix ix_list (pv 0) pe_int (fun _ _ => rfl)) pe_int) pe_int) pe_int) (pg_sub (pv 0) pe_int set_list))
      (pss_one (ps_ret (pe_op op_mod (pe_op op_fdiv (pe_ix ix_list (pv 0) pe_int (fun _ _ => rfl)) pe_int) (pv 1))))))), ?_⟩
    -- the end: d[0] drawn on
    have last : ∀ (z : Int) (r : List Int), 0 ≤ z → (∀ x ∈ r, (0 : Int) ≤ x) → r.length ≤ 63 → Src (((z * 48271 + 11) % 2147483647) :: 0 :: r) := fun z r hz hr hl =>
      ⟨⟨_, _, _, rfl, Int.emod_nonneg _ (by decide), by decide, hr, hl⟩⟩
    have go2 : ∀ (e : Int) (r : List Int), 0 < e → (∀ x ∈ r, (0 : Int) ≤ x) → r.length ≤ 63 → Src (z :: (e / n) :: r) := fun e r he hr hl =>
      ⟨⟨_, _, _, rfl, hz, Int.ediv_nonneg (by omega) (by omega), hr, hl⟩⟩
    -- behind the first if
    have rest : ∀ (e : Int) (r : List Int) (H1 : Hp), 0 ≤ e → (∀ x ∈ r, (0 : Int) ≤ x) → r.length ≤ 63 → H1 d = some (.lst ((z :: e :: r).map V.int)) → (∀ o, upd H1 d o = upd H d o) →
        (tSeq (tIfS (tTest (tOp (rI0 fun i j => .bl (decide (j < i))) (tOp (rIxL K) (tVar 0) (tC (.int 1))) (tC (.int 0))))
          (tSeq (tAsg (tOp (rI (fun _ j => 0 < j) fun i j => .int (i % j)) (tOp (rIxL K) (tVar 0) (tC (.int 1))) (tVar 1)) (gName 2))
            (tSeq (tAsg (tOp (rI CDiv fun i j => .int (i / j)) (tOp (rIxL K) (tVar 0) (tC (.int 1))) (tVar 1)) (gSub (tVar 0) (tC (.int 1)) rSetL)) (tRet (tVar 2)))) tNext)
          (tSeq (tAsg (tOp (rI (fun _ j => 0 < j) fun i j => .int (i % j)) (tOp (rI0 fun i j => .int (i + j)) (tOp (rI CMul fun i j => .int (i * j)) (tOp (rIxL K) (tVar 0) (tC (.int 0))) (tC (.int 48271))) (tC (.int 11))) (tC (.int 2147483647))) (gSub (tVar 0) (tC (.int 0)) rSetL))
            (tRet (tOp (rI (fun _ j => 0 < j) fun i j => .int (i % j)) (tOp (rI CDiv fun i j => .int (i / j)) (tOp (rIxL K) (tVar 0) (tC (.int 0))) (tC (.int 64))) (tVar 1)))))
          { nx := fun _ H' => Q .non H', rt := Q } (start ["_law_d", "_law_limit", "_law_result"] [.ref d, .int n]) H1 := by
      intro e r H1 he hr hl h1 hu
      refine ⟨_, rfl, d, _, 1, .int e, rfl, rfl, SqL.of h1, at_of (j := 1) rfl rfl, _, _, rfl, rfl, _, rfl, ?_⟩
      refine ite2 (fun c => ?_) (fun c => ?_)
      · have he0 : 0 < e := of_decide_eq_true c
        refine ⟨_, rfl, d, _, 1, .int e, rfl, rfl, SqL.of h1, at_of (j := 1) rfl rfl, _, rfl, _, _, rfl, rfl, n0, ?_⟩
        refine ⟨_, rfl, d, _, 1, .int e, rfl, rfl, SqL.of h1, at_of (j := 1) rfl rfl, _, rfl, _, _, rfl, rfl, ⟨n0, n1⟩, ?_⟩
        refine ⟨_, rfl, d, _, 1, 1, rfl, rfl, h1, ix_of rfl (by show 1 < ((z :: e :: r).map V.int).length; rw [List.length_map]; exact Nat.succ_lt_succ (Nat.succ_pos _)), ?_⟩
        refine ⟨_, rfl, ?_⟩
        rw [hu]
        exact k (z :: (e / n) :: r) (e % n) (go2 e r he0 hr hl) (Int.emod_nonneg _ (by omega)) (Int.emod_lt_of_pos _ n0)
      · have he0 : e = 0 := by
          have h3 : ¬ (0 : Int) < e := fun q => c (decide_eq_true q)
          omega
        subst he0
        refine ⟨_, rfl, d, _, 0, .int z, rfl, rfl, SqL.of h1, at_of (j := 0) rfl rfl, _, _, rfl, rfl, .inr ⟨by decide, by decide⟩, _, _, rfl, rfl, _, _, rfl, rfl, (by show (0 : Int) < 2147483647; decide), ?_⟩
        refine ⟨_, rfl, d, _, 0, 0, rfl, rfl, h1, ix_of rfl (by show 0 < ((z :: (0 : Int) :: r).map V.int).length; rw [List.length_map]; exact Nat.succ_pos _), ?_⟩
        refine ⟨_, rfl, d, _, 0, .int ((z * 48271 + 11) % 2147483647), rfl, rfl, SqL.of upd_same, at_of (j := 0) rfl rfl, _, _, rfl, rfl, ⟨by decide, by decide⟩, _, rfl, _, _, rfl, rfl, n0, ?_⟩
        rw [hu]
        exact k (((z * 48271 + 11) % 2147483647) :: 0 :: r) _ (last z r hz hr hl) (Int.emod_nonneg _ (by omega)) (Int.emod_lt_of_pos _ n0)
    refine ⟨_, rfl, d, _, 1, .int e, rfl, rfl, SqL.of hd, at_of (j := 1) rfl rfl, rfl, _, rfl, ?_⟩
    refine ite2 (fun c => ?_) (fun c => ?_)
    · refine ⟨_, rfl, d, _, rfl, .inl (SqL.of hd), _, _, rfl, rfl, _, rfl, ?_⟩
      refine ite2 (fun c2 => ?_) (fun c2 => ?_)
      · -- there is a further one
        cases r with
        | nil =>
          have c3 := of_decide_eq_true c2
          simp at c3
        | cons y r =>
          refine ⟨_, rfl, .inl ⟨rfl, _, SqL.of hd⟩, d, _, 2, 2, .int y, rfl, rfl, hd, by decide, by decide, sq_of rfl (by simp), rfl, ?_⟩
          refine ⟨_, rfl, d, _, 1, 1, rfl, rfl, upd_same, ix_of rfl (by simp), ?_⟩
          refine rest y r _ (hr2 y List.mem_cons_self) (fun x hx => hr2 x (List.mem_cons_of_mem _ hx)) (by simp at hl; omega) ?_ ?_
          · rw [upd_same]; rfl
          · intro o
            rw [upd_upd, upd_upd]
      · exact rest e r H he hr2 hl hd (fun _ => rfl)
    · exact rest e r H he hr2 hl hd (fun _ => rfl)
end
end Sb

namespace Sb
open PySem PySem.Spec PyProof.Rows L2
section
variable {P : Program} {w : World} {K : PySem.W.Frag} {mg : Str → Option Value} {base : Heap} {a : Ad}
theorem ints_at {ns : List Int} {i : Nat} {x : V} (h : (ns.map V.int)[i]? = some x) : ∃ z, ns[i]? = some z ∧ x = V.int z := by
  rw [List.getElem?_map] at h
  cases e : ns[i]? with
  | none => rw [e] at h; cases h
  | some z => rw [e] at h; exact ⟨z, rfl, (Option.some.inj h).symm⟩
theorem take_more {α : Type} : ∀ {l : List α} {i : Nat} {x : α}, l[i]? = some x → l.take (i + 1) = l.take i ++ [x]
  | [], i, x, h => by simp at h
  | a :: l, 0, x, h => by
    have e : a = x := Option.some.inj h
    subst e
    rfl
  | a :: l, i + 1, x, h => by
    have ih := take_more (l := l) (i := i) (x := x) h
    show a :: l.take (i + 1) = a :: l.take i ++ [x]
    rw [ih]
    rfl
theorem ok_l_random (T : Txt K mg a) : FnOk P w K mg base CX0 1 a.f_l_random a.d_l_random ["_law_script", "_law_salt"] (spRandom K) := by
  refine T.F_l_random.ok sc_l_random (fun vs H Q E h => ?_) (fun cdv A outer s H vs Q E hr h => ?_)
  · obtain ⟨d, ds, n, rfl, _⟩ := h
    rfl
  · obtain ⟨l, ns, salt, rfl, hl, h63, h0, k⟩ := h
    refine ⟨_, (pss_cons (ps_set (i := 2) sc_l_random.nd rfl (Or.inl rfl) (pv 1))
      (pss_cons (ps_for PassesOwn.never rfl (pi_list (pv 0)) (pg_name (i := 3) sc_l_random.nd rfl (Or.inl rfl)) (pss_one (ps_set (i := 2) sc_l_random.nd rfl (Or.inl rfl) (pe_op op_mod (pe_op op_add (pe_op op_mul (pv 2) pe_int) (pe_callB call_abs (by rfl) T.z_abs (by decide +kernel) (pa_cons (pv 3) pa_nil))) pe_int))))
      (pss_one (ps_ret (pe_op op_cat (pe_lst (pa_cons (pv 2) (pa_cons pe_int pa_nil))) (pe_lc (own := [("_law_cell", 3)]) (g := gName 3) rfl sc_l_random.nd (pi_list (pv 0)) (blkOk_by (own := [("_law_cell", 3)]) (N := ["_law_script", "_law_salt", "_law_seed", "_law_cell"]) (sc := (defScope s_l_random)) (by decide +kernel)) (fun _ _ _ _ _ => (pg_name (i := 3) sc_l_random.nd rfl (Or.inl rfl))) (fun _ _ _ _ _ => by exact pts_one (pt_cmpR op_ge (pv 3) (pe_op op_pow pe_int pe_int) (nomark _))) (fun _ _ _ _ _ => by exact (pv 3)))))))), ?_⟩
    refine ⟨_, rfl, _, rfl, l, rfl, ⟨_, hl⟩, for_list (K := K) (a := l) (xs := ns.map V.int) (fun i σ H' => H' = H ∧ ∃ (z : Int) (v : Option V), σ = [some (.ref l), some (.int salt), some (.int z), v] ∧ 0 ≤ z)
      ⟨rfl, salt, none, rfl, h0⟩ (fun i σ H' _ ⟨e, _⟩ => by rw [e]; exact hl) ?_ ?_⟩
    · rintro i x σ H' hx ⟨rfl, z, v, rfl, hz⟩
      obtain ⟨u, hu, rfl⟩ := ints_at hx
      refine ⟨_, rfl, _, _, rfl, rfl, .inr ⟨by decide, by decide⟩, _, rfl, _, rfl, _, _, rfl, rfl, _, _, rfl, rfl, (by show (0 : Int) < 2147483647; decide), ?_⟩
      exact ⟨rfl, _, _, rfl, Int.emod_nonneg _ (by decide)⟩
    · rintro σ H' ⟨rfl, z, v, rfl, hz⟩
      refine ⟨_, rfl, (by show 2 ≤ sizeLine; decide), fun p hp => ?_⟩
      have hl1 : SqL K (upd H' p (.lst [.int z, .int 0])) l (ns.map V.int) := (same_new hp).seq hl
      refine ⟨_, rfl, l, rfl, ⟨_, hl1⟩, fun D hD => ?_⟩
      have npD : p ≠ D := fun e => by rw [← e, upd_same] at hD; cases hD
      refine lc_list (K := K) (a := l) (xs := ns.map V.int) (fun i H2 => ∃ bs : List Int, H2 = upd (upd H' p (.lst [.int z, .int 0])) D (.lst (bs.map V.int)) ∧ (∀ x ∈ bs, (0 : Int) ≤ x) ∧ bs.length ≤ i) ⟨[], rfl, (fun _ h => nomatch h), Nat.le_refl _⟩ ?_ ?_ ?_
      · rintro i H2 _ ⟨bs, rfl, _⟩
        exact (same_new hD).seq hl1
      · rintro i x H2 hx ⟨bs, rfl, hb, hbl⟩
        obtain ⟨u, hu, rfl⟩ := ints_at hx
        have hi : i < ns.length := (List.getElem?_eq_some_iff.mp hu).1
        refine ⟨rfl, _, rfl, _, _, rfl, rfl, ⟨by decide, by decide, by decide⟩, _, _, rfl, rfl, _, rfl, ?_⟩
        refine ite2 (fun c => ?_) (fun c => ?_)
        · have hu0 : (10 : Int) ^ (18 : Int).toNat ≤ u := of_decide_eq_true c
          have hu1 : (0 : Int) ≤ u := Int.le_trans (by decide) hu0
          refine ⟨_, rfl, bs.map V.int, upd_same, smaller 63 (by rw [List.length_map]; omega) (by decide), bs ++ [u], ?_, ?_, ?_⟩
          · rw [upd_upd, List.map_append]
            rfl
          · intro x hx
            rcases List.mem_append.mp hx with h | h
            · exact hb x h
            · rw [List.mem_singleton.mp h]; exact hu1
          · rw [List.length_append]; simp; omega
        · exact ⟨bs, rfl, hb, by omega⟩
      · rintro H2 ⟨bs, rfl, hb, hbl⟩
        have e1 : (upd (upd H' p (.lst [.int z, .int 0])) D (.lst (bs.map V.int))) p = some (.lst [.int z, .int 0]) := by rw [upd_ne npD, upd_same]
        rw [List.length_map] at hbl
        refine ⟨p, D, _, _, rfl, rfl, e1, upd_same, small 65 (by show 2 + (bs.map V.int).length ≤ 65; rw [List.length_map]; omega) (by decide), fun q hq => ?_⟩
        have q1 : q ≠ D := fun e => by rw [e, upd_same] at hq; cases hq
        have q2 : q ≠ p := fun e => by rw [e, e1] at hq; cases hq
        refine k _ q (z :: 0 :: bs) (((same_new hp).trans (same_new hD)).trans (same_new hq)) (by rw [upd_ne q1, upd_ne q2] at hq; exact hq) (by rw [upd_same]; rfl) ⟨⟨z, 0, bs, rfl, hz, by decide, hb, by omega⟩⟩
end
end Sb

namespace Sb
open PySem PySem.Spec PyProof.Rows L2
section
variable {K : PySem.W.Frag} {d : Addr} {G0 H0 G H : Hp} {n : Int} {Q : VK} {E : XK}
/-- a draw, used -/
theorem draw_go (h : At d G0 H0 G H) (n0 : 0 < n) (n1 : n < 1073741824) (k : ∀ (H1 : Hp) (i : Nat), At d G0 H0 G H1 → (∀ b, b ≠ d → H1 b = H b) → (i : Int) < n → Q (.int i) H1) : spBelow [.ref d, .int n] H Q E := by
  obtain ⟨ds, hd, hs⟩ := h.now.x
  refine ⟨⟨d, ds, n, rfl, hd, hs, n0, n1, fun ds' i s1 i0 i1 => ?_⟩⟩
  have e : i = (i.toNat : Int) := by omega
  rw [e]
  exact k _ i.toNat (h.draw s1) (fun b hb => upd_ne hb) (by omega)
end
theorem wds_len : wds.length = 8 := rfl
theorem wds_at {i : Nat} (h : i < 8) : (wds.map V.str)[i]? = some (.str (wS i)) := by
  rw [List.getElem?_map]
  have : wds[i]? = some (wS i) := by
    unfold wS
    rw [List.getElem?_eq_getElem (by rw [wds_len]; exact h), List.getD_eq_getElem?_getD, List.getElem?_eq_getElem (by rw [wds_len]; exact h)]
    rfl
  rw [this]
  rfl
def jmpV : List V := [.str "goto", .str "empty", .str "held"]
theorem jmp_in : ∀ {w : Nat}, w < 8 → inV (.str (wS w)) jmpV = decide (5 ≤ w) := by
  have h : ∀ w : _root_.Fin 8, inV (.str (wS w.val)) jmpV = decide (5 ≤ w.val) := by decide +kernel
  exact fun {w} hw => h ⟨w, hw⟩
theorem optD_some {K : PySem.W.Frag} {G : Hp} (k : Nat) : Dp K G (.int k) (optD (some k)) := .int k
theorem jmp_flat : jmpV.all flatV = true := by decide +kernel
structure spSteps (K : PySem.W.Frag) (vs : List V) (H : Hp) (Q : VK) (E : XK) : Prop where
  ex : ∃ (d : Addr) (G : Hp) (most : Nat), vs = [.ref d, .int most] ∧ 1 ≤ most ∧ most ≤ 20 ∧
  Drawn d G H Q fun G' v => ∃ ss : List Step, StepsOk ss ∧ Dp K G' v (stepsD ss) ∧ ss.length ≤ most
section
variable {P : Program} {w : World} {K : PySem.W.Frag} {mg : Str → Option Value} {base : Heap} {a : Ad}
theorem wS0 : wS 0 = "left" := rfl
theorem wS1 : wS 1 = "right" := rfl
theorem wS2 : wS 2 = "pick" := rfl
theorem wS3 : wS 3 = "put" := rfl
theorem stepD_no {K : PySem.W.Frag} {G : Hp} {t : Addr} {x : Nat} (h : SqT K G t [.str (wS x), .non]) : Dp K G (.ref t) (Step.D ⟨x, none⟩) := .tup h (.cons (.str _) (.cons .non .nil))
theorem ok_no {n x : Nat} (h : x < 5) : Step.Ok n ⟨x, none⟩ := ⟨by show x < 8; omega, fun _ => rfl, fun z => absurd (show 5 ≤ x from z) (by omega)⟩
theorem ok_l_steps (T : Txt K mg a) : FnOk P w K mg base CX0 2 a.f_l_steps a.d_l_steps ["_law_d", "_law_most"] (spSteps K) := by
  refine T.F_l_steps.ok sc_l_steps (fun vs H Q E h => ?_) (fun cdv A outer s H vs Q E hr h => ?_)
  · obtain ⟨⟨d, G, m, rfl, _⟩⟩ := h
    rfl
  · obtain ⟨⟨d, G, most, rfl, m1, m20, hN, k⟩⟩ := h
    refine ⟨_, (pss_cons (ps_par (i := 2) (j := 3) (by rfl) sc_l_steps.nd rfl rfl (by decide) rfl rfl (pa_cons (pe_op op_add pe_int (pe_call (ok_l_below T) (hr.mono (by decide)) rfl T.m_l_below T.F_l_below.kp (b_l_below T) .nil pass0 (pa_cons (pv 0) (pa_cons (pv 1) pa_nil)))) (pa_cons (pe_lst (pa_cons pe_str (pa_cons pe_str (pa_cons pe_str (pa_cons pe_str (pa_cons pe_str (pa_cons pe_str (pa_cons pe_str (pa_cons pe_str pa_nil))))))))) pa_nil)) (by rfl))
      (pss_cons (ps_if (PW.pt (pw_and (pt_cmpR op_gt (pv 1) pe_int (nomark _)) (pw_and1 (pt_cmpR op_eq (pe_call (ok_l_below T) (hr.mono (by decide)) rfl T.m_l_below T.F_l_below.kp (b_l_below T) .nil pass0 (pa_cons (pv 0) (pa_cons pe_int pa_nil))) pe_int (nomark _))))) (pss_cons (ps_set (i := 4) sc_l_steps.nd rfl (Or.inl rfl) (pe_ix ix_list (pe_lst (pa_cons (pe_lst (pa_cons pe_str (pa_cons pe_str pa_nil))) (pa_cons (pe_lst (pa_cons pe_str (pa_cons pe_str pa_nil))) pa_nil))) (pe_call (ok_l_below T) (hr.mono (by decide)) rfl T.m_l_below T.F_l_below.kp (b_l_below T) .nil pass0 (pa_cons (pv 0) (pa_cons pe_int pa_nil))) (fun _ _ => rfl)))
      (pss_one (ps_ret (pe_lst (pa_cons (pe_tup (pa_cons pe_str (pa_cons pe_non pa_nil))) (pa_cons (pe_tup (pa_cons (pe_ix ix_list (pv 4) pe_int (fun _ _ => rfl)) (pa_cons pe_non pa_nil))) (pa_cons (pe_tup (pa_cons pe_str (pa_cons pe_non pa_nil))) (pa_cons (pe_tup (pa_cons (pe_ix ix_list (pv 4) pe_int (fun _ _ => rfl)) (pa_cons pe_non pa_nil))) pa_nil)))))))) pss_nil)
      (pss_cons (ps_par (i := 5) (j := 6) (by rfl) sc_l_steps.nd rfl rfl (by decide) rfl rfl (pa_cons (pe_ix ix_list (pe_lst (pa_cons pe_int (pa_cons pe_int pa_nil))) (pe_call (ok_l_below T) (hr.mono (by decide)) rfl T.m_l_below T.F_l_below.kp (b_l_below T) .nil pass0 (pa_cons (pv 0) (pa_cons pe_int pa_nil))) (fun _ _ => rfl)) (pa_cons (pe_lst pa_nil) pa_nil)) (by rfl))
      (pss_cons (ps_for PassesOwn.never rfl (pi_range1 (by rfl) T.z_range (pa_cons (pv 2) pa_nil)) (pg_name (i := 7) sc_l_steps.nd rfl (Or.inl rfl)) (pss_cons (ps_set (i := 8) sc_l_steps.nd rfl (Or.inl rfl) (pe_ix ix_list (pv 3) (pe_call (ok_l_below T) (hr.mono (by decide)) rfl T.m_l_below T.F_l_below.kp (b_l_below T) .nil pass0 (pa_cons (pv 0) (pa_cons (pv 5) pa_nil))) (fun _ _ => rfl)))
      (pss_one (ps_expr (pe_bm PySem.F.plainAttrs_list PySem.F.slot_list_append PySem.F.type_list_append mt_append (pv 6) (pa_cons (pe_tup (pa_cons (pv 8) (pa_cons (pe_ifExp (pt_cmpR op_in_seq (pv 8) (pe_lst (pa_cons pe_str (pa_cons pe_str (pa_cons pe_str pa_nil)))) rfl) (pe_call (ok_l_below T) (hr.mono (by decide)) rfl T.m_l_below T.F_l_below.kp (b_l_below T) .nil pass0 (pa_cons (pv 0) (pa_cons (pv 2) pa_nil))) pe_non) pa_nil))) pa_nil))))))
      (pss_one (ps_ret (pv 6))))))), ?_⟩
    -- many, words
    refine ⟨_, rfl, _, rfl, draw_go hN.at (by omega) (by omega) fun H1 i A1 K1 hi => ?_⟩
    refine ⟨_, _, rfl, rfl, (by show 8 ≤ sizeLine; decide), fun W hW => ⟨_, _, rfl, ?_⟩⟩
    have A2 := A1.new hW (.lst (wds.map V.str))
    have hWG : SqL K (upd G W (.lst (wds.map V.str))) W (wds.map V.str) := SqL.of upd_same
    dsimp only
    -- behind the if
    refine seq_rest (fun H3 => At d G H (upd G W (.lst (wds.map V.str))) H3) [some (.ref d), some (.int most), some (.int (1 + (i : Int))), some (.ref W), none, none, none, none, none] (fun H3 A3 => ?r) (fun rest => ?m)
    case m =>
      refine ⟨_, rfl, _, _, rfl, rfl, _, rfl, ?_⟩
      refine ite2 (fun c4 => ?_) (fun c => ?_)
      · refine ⟨_, rfl, draw_go A2 (by decide) (by decide) fun H3 j A3 K3 hj => ?_⟩
        refine ⟨rfl, _, rfl, ?_⟩
        refine ite2 (fun c => ?_) (fun c => rest H3 A3)
        -- the four steps
        refine ⟨(by show 2 ≤ sizeLine; decide), fun q1 hq1 => ?_⟩
        have A4 := A3.new hq1 (.lst [.str "left", .str "right"])
        refine ⟨(by show 2 ≤ sizeLine; decide), fun q2 hq2 => ?_⟩
        have A5 := A4.new hq2 (.lst [.str "right", .str "left"])
        refine ⟨(by show 2 ≤ sizeLine; decide), fun q3 hq3 => ?_⟩
        have A6 := A5.new hq3 (.lst [.ref q1, .ref q2])
        refine ⟨_, rfl, draw_go A6 (by decide) (by decide) fun H7 m A7 K7 hm => ?_⟩
        have f1 : SqL K H7 q1 [.str "left", .str "right"] := A7.now.s.seq (SqL.of (by rw [upd_ne (ne_of_none (by rw [upd_ne (ne_of_none upd_same hq2), upd_same]) hq3), upd_ne (ne_of_none upd_same hq2), upd_same]))
        have f2 : SqL K H7 q2 [.str "right", .str "left"] := A7.now.s.seq (SqL.of (by rw [upd_ne (ne_of_none upd_same hq3), upd_same]))
        have f3 : SqL K H7 q3 [.ref q1, .ref q2] := A7.now.s.seq (SqL.of upd_same)
        obtain ⟨u, x, y, hu, hx, hy, hxy, hsq⟩ : ∃ (u : Addr) (x y : Nat), ([V.ref q1, V.ref q2] : List V)[m]? = some (.ref u) ∧ x < 5 ∧ y < 5 ∧ True ∧ SqL K H7 u [.str (wS x), .str (wS y)] := by
          match m, hm with
          | 0, _ => exact ⟨q1, 0, 1, rfl, by decide, by decide, trivial, f1⟩
          | 1, _ => exact ⟨q2, 1, 0, rfl, by decide, by decide, trivial, f2⟩
          | m + 2, h => exact absurd h (by omega)
        refine ⟨q3, _, _, .ref u, rfl, rfl, f3, atI_nat hu, ?_⟩
        refine ⟨(by show 2 ≤ sizeLine; decide), fun t1 ht1 => ?_⟩
        have B1 := A7.new ht1 (.tup [.str (wS 2), .non])
        have g1 := Same.seq (same_new ht1 (o := .tup [.str (wS 2), .non])) hsq
        refine ⟨_, rfl, u, _, 0, .str (wS x), rfl, rfl, g1, at_of (j := 0) rfl rfl, (by show 2 ≤ sizeLine; decide), fun t2 ht2 => ?_⟩
        have B2 := B1.new ht2 (.tup [.str (wS x), .non])
        refine ⟨(by show 2 ≤ sizeLine; decide), fun t3 ht3 => ?_⟩
        have B3 := B2.new ht3 (.tup [.str (wS 3), .non])
        have g3 := Same.seq (same_new ht3 (o := .tup [.str (wS 3), .non])) (Same.seq (same_new ht2 (o := .tup [.str (wS x), .non])) g1)
        refine ⟨_, rfl, u, _, 1, .str (wS y), rfl, rfl, g3, at_of (j := 1) rfl rfl, (by show 2 ≤ sizeLine; decide), fun t4 ht4 => ?_⟩
        have B4 := B3.new ht4 (.tup [.str (wS y), .non])
        refine ⟨(by show 4 ≤ sizeLine; decide), fun r hr' => ?_⟩
        have B5 := B4.new hr' (.lst [.ref t1, .ref t2, .ref t3, .ref t4])
        refine k _ _ _ B5 ⟨[⟨2, none⟩, ⟨x, none⟩, ⟨3, none⟩, ⟨y, none⟩], ⟨(by show 1 ≤ 4; decide), (by show 4 ≤ 20; decide), ?_⟩, ?_, ?_⟩
        · intro s hs
          rcases List.mem_cons.mp hs with rfl | hs
          · exact ok_no (by decide)
          rcases List.mem_cons.mp hs with rfl | hs
          · exact ok_no hx
          rcases List.mem_cons.mp hs with rfl | hs
          · exact ok_no (by decide)
          rcases List.mem_cons.mp hs with rfl | hs
          · exact ok_no hy
          · cases hs
        · have n5 := same_new (H := upd (upd (upd (upd _ t1 (.tup [.str (wS 2), .non])) t2 (.tup [.str (wS x), .non])) t3 (.tup [.str (wS 3), .non])) t4 (.tup [.str (wS y), .non])) (p := r) (o := .lst [.ref t1, .ref t2, .ref t3, .ref t4]) (Same.free B4.now.s hr')
          have n4 := same_new (H := upd (upd (upd _ t1 (.tup [.str (wS 2), .non])) t2 (.tup [.str (wS x), .non])) t3 (.tup [.str (wS 3), .non])) (p := t4) (o := .tup [.str (wS y), .non]) (Same.free B3.now.s ht4)
          have n3 := same_new (H := upd (upd _ t1 (.tup [.str (wS 2), .non])) t2 (.tup [.str (wS x), .non])) (p := t3) (o := .tup [.str (wS 3), .non]) (Same.free B2.now.s ht3)
          have n2 := same_new (H := upd _ t1 (.tup [.str (wS 2), .non])) (p := t2) (o := .tup [.str (wS x), .non]) (Same.free B1.now.s ht2)
          refine .lst (SqL.of upd_same) (.cons (stepD_no ?_) (.cons (stepD_no ?_) (.cons (stepD_no ?_) (.cons (stepD_no ?_) .nil))))
          · exact Same.seqT (((n2.trans n3).trans n4).trans n5) (SqT.of upd_same)
          · exact Same.seqT ((n3.trans n4).trans n5) (SqT.of upd_same)
          · exact Same.seqT (n4.trans n5) (SqT.of upd_same)
          · exact Same.seqT n5 (SqT.of upd_same)
        · have h3 : (3 : Int) < (most : Int) := of_decide_eq_true c4
          show 4 ≤ most
          omega
      · exact rest _ A2
    -- the loop
    refine ⟨(by show 2 ≤ sizeLine; decide), fun q hq => ?_⟩
    have A4 := A3.new hq (.lst [.int 5, .int 8])
    refine ⟨_, rfl, draw_go A4 (by decide) (by decide) fun H5 m A5 K5 hm => ?_⟩
    have f1 : SqL K H5 q [.int 5, .int 8] := A5.now.s.seq (SqL.of upd_same)
    obtain ⟨lim, hlim, l1, l8⟩ : ∃ lim : Nat, ([V.int 5, V.int 8] : List V)[m]? = some (.int lim) ∧ 0 < lim ∧ lim ≤ 8 := by
      match m, hm with
      | 0, _ => exact ⟨5, rfl, by decide, by decide⟩
      | 1, _ => exact ⟨8, rfl, by decide, by decide⟩
      | m + 2, h => exact absurd h (by omega)
    refine ⟨q, _, _, .int lim, rfl, rfl, f1, atI_nat hlim, Nat.zero_le _, fun l hl => ⟨_, _, rfl, ?_⟩⟩
    have A6 := A5.lay hl (.lst [])
    have lG : upd (upd G W (.lst (wds.map V.str))) q (.lst [.int 5, .int 8]) l = none := Same.free A5.now.s hl
    have l0 : H l = none := A5.ext.k l hl
    have ld : l ≠ d := A5.ne hl
    refine ⟨_, rfl, _, rfl, by omega, by omega, for_range (lo := 0) (n := (1 + (i : Int)).toNat) (fun j σ H' => ∃ (G' : Hp) (xs : List V) (ss : List Step) (v7 v8 : Option V), σ = [some (.ref d), some (.int most), some (.int (1 + (i : Int))), some (.ref W), none, some (.int lim), some (.ref l), v7, v8] ∧
      At d G H G' H' ∧ G' l = none ∧ H' l = some (.lst xs) ∧ SqL K G' W (wds.map V.str) ∧ DpAll K G' xs (ss.map Step.D) ∧ ss.length = j ∧ ∀ s ∈ ss, Step.Ok (1 + i) s) ?_ ?_ ?_⟩
    · exact ⟨_, [], [], none, none, rfl, A6, lG, upd_same, (same_new (Same.free A3.now.s hq)).seq hWG, .nil, rfl, fun _ h => nomatch h⟩
    · rintro j σ H' hj ⟨G', xs, ss, v7, v8, rfl, B, lG', hxs, hW', hss, hsl, hok⟩
      refine ⟨_, rfl, _, rfl, _, rfl, draw_go B (by omega) (by omega) fun H7 x B1 K1 hx => ?_⟩
      have hx8 : x < 8 := by omega
      refine ⟨W, _, _, .str (wS x), rfl, rfl, B1.now.s.seq hW', atI_nat (wds_at hx8), ?_⟩
      have hl7 : H7 l = some (.lst xs) := by rw [K1 l ld]; exact hxs
      refine ⟨_, rfl, .inl ⟨rfl, _, SqL.of hl7⟩, _, rfl, _, rfl, (by show 3 ≤ sizeLine; decide), fun q2 hq2 => ?_⟩
      have B2 := B1.lay hq2 (.lst jmpV)
      have hl8 : (upd H7 q2 (.lst jmpV)) l = some (.lst xs) := by rw [upd_ne (ne_of_none hl7 hq2)]; exact hl7
      refine ⟨q2, jmpV, rfl, .inl (SqL.of upd_same), rfl, jmp_flat, _, rfl, ?_⟩
      -- the tuple appended
      have fin : ∀ (H9 : Hp) (g : Option Nat) (v : V), At d G H G' H9 → H9 l = some (.lst xs) → (∀ G, Dp K G v (optD g)) → Step.Ok (1 + i) ⟨x, g⟩ →
          (2 ≤ sizeLine ∧ ∀ t, H9 t = none → ∃ l' ys y, (V.ref l) = .ref l' ∧ [V.ref t] = [y] ∧ (upd H9 t (.tup [.str (wS x), v])) l' = some (.lst ys) ∧ ys.length < sizeLine ∧
            (∃ (G' : Hp) (xs : List V) (ss : List Step) (v7 v8 : Option V), [some (V.ref d), some (.int most), some (.int (1 + (i : Int))), some (.ref W), none, some (.int lim), some (.ref l), some (.int (0 + (j : Int))), some (.str (wS x))] = [some (.ref d), some (.int most), some (.int (1 + (i : Int))), some (.ref W), none, some (.int lim), some (.ref l), v7, v8] ∧
              At d G H G' (upd (upd H9 t (.tup [.str (wS x), v])) l' (.lst (ys ++ [y]))) ∧ G' l = none ∧ (upd (upd H9 t (.tup [.str (wS x), v])) l' (.lst (ys ++ [y]))) l = some (.lst xs) ∧ SqL K G' W (wds.map V.str) ∧ DpAll K G' xs (ss.map Step.D) ∧ ss.length = j + 1 ∧ ∀ s ∈ ss, Step.Ok (1 + i) s)) := by
        intro H9 g v B9 h9 hv hokx
        refine ⟨by decide, fun t ht => ?_⟩
        have ntl : l ≠ t := ne_of_none h9 ht
        have B10 := B9.new ht (.tup [.str (wS x), v])
        have lG10 : upd G' t (.tup [.str (wS x), v]) l = none := by rw [upd_ne ntl]; exact lG'
        have nG := same_new (H := G') (p := t) (o := .tup [.str (wS x), v]) (Same.free B9.now.s ht)
        refine ⟨l, xs, _, rfl, rfl, by rw [upd_ne ntl]; exact h9, smaller 20 (by rw [DpAll.len hss, List.length_map]; omega) (by decide), _, xs ++ [.ref t], ss ++ [⟨x, g⟩], _, _, rfl, B10.put l0 lG10 ld _, lG10, upd_same, nG.seq hW', ?_, ?_, ?_⟩
        · rw [List.map_append]
          exact DpAll.snoc (Dp.monoAll nG _ _ hss) (.tup (SqT.of upd_same) (.cons (.str _) (.cons (hv _) .nil)))
        · rw [List.length_append, hsl]; rfl
        · intro s hs
          rcases List.mem_append.mp hs with h | h
          · exact hok s h
          · rw [List.mem_singleton.mp h]; exact hokx
      rw [if_neg Bool.false_ne_true, jmp_in hx8]
      refine ite2 (fun c => ?_) (fun c => ?_)
      · have hx5 : 5 ≤ x := of_decide_eq_true c
        refine ⟨_, rfl, _, rfl, draw_go B2 (by omega) (by omega) fun H9 g B3 K3 hg => ?_⟩
        refine fin H9 (some g) (.int g) B3 (by rw [K3 l ld]; exact hl8) (fun _ => .int g) ⟨hx8, fun z => absurd (show x < 5 from z) (by omega), fun _ => ⟨g, rfl, by omega⟩⟩
      · have hx5 : ¬ 5 ≤ x := fun z => c (decide_eq_true z)
        exact fin _ none .non B2 hl8 (fun _ => .non) (ok_no (by omega))
    · rintro σ H' ⟨G', xs, ss, v7, v8, rfl, B, lG', hxs, hW', hss, hsl, hok⟩
      refine ⟨_, rfl, ?_⟩
      have B1 := B.freeze l0 hxs ld
      have e : ss.length = 1 + i := by omega
      refine k _ _ _ B1 ⟨ss, ⟨by omega, by omega, by rw [e]; exact hok⟩, .lst (SqL.of upd_same) (Dp.monoAll ?_ _ _ hss), by omega⟩
      intro b o eb
      by_cases hb : b = l
      · rw [hb, lG'] at eb; cases eb
      · rw [upd_ne hb]; exact eb
end
end Sb

namespace Sb
open PySem PySem.Spec PyProof.Rows L2
theorem other_ne {n f s : Nat} (hf : f < n) (hs : s + 1 < n) : (f + 1 + s) % n ≠ f := by
  by_cases h : f + 1 + s < n
  · rw [Nat.mod_eq_of_lt h]; omega
  · rw [Nat.mod_eq_sub_mod (by omega), Nat.mod_eq_of_lt (by omega)]; omega
theorem other_eq (f s n : Nat) : ((f : Int) + 1 + (s : Int)) % (3 + (n : Int)) = (((f + 1 + s) % (3 + n) : Nat) : Int) := by
  rw [Int.natCast_emod]
  push_cast
  rfl
theorem nats_D (K : PySem.W.Frag) (G : Hp) (l : List Nat) : DpAll K G (l.map fun n : Nat => V.int n) (l.map natD) := by
  induction l with
  | nil => exact .nil
  | cons n l ih => exact .cons (.int _) ih
theorem draw_steps {K : PySem.W.Frag} {d : Addr} {G0 H0 G H : Hp} {most : Nat} {Q : VK} {E : XK} (h : At d G0 H0 G H) (m1 : 1 ≤ most) (m2 : most ≤ 20)
    (k : ∀ (G1 H1 : Hp) (v : V) (ss : List Step), At d G0 H0 G1 H1 → At d G H G1 H1 → StepsOk ss → Dp K G1 v (stepsD ss) → ss.length ≤ most → Q v H1) : spSteps K [.ref d, .int most] H Q E :=
  ⟨⟨d, G, most, rfl, m1, m2, h.now, fun G' H' v A ⟨ss, o, D, l⟩ => k G' H' v ss (h.trans A) A o D l⟩⟩
end Sb

namespace Sb
open PySem PySem.Spec PyProof.Rows L2 TL
theorem Ext.ofSame {G H H' : Hp} (s : Same G H) (h : Same H H') : Ext G H G H' := ⟨Same.refl G, s.trans h, fun _ _ e => .inl e, fun _ e => Same.free h e⟩
theorem log_ok {n : Nat} (h : n < 100) : ((n : Int)).natAbs.log2 < 1920 := by
  have e : ((n : Int)).natAbs = n := rfl
  have := Nat.log2_le_self n
  rw [e]
  omega
theorem at_n {α : Type} {xs : List α} {z : Int} {j : Nat} {v : α} (e : z = (j : Int)) (h : xs[j]? = some v) : atI xs z = some v := by
  rw [e]
  exact atI_nat h
theorem len1s (c : Nat) : (⟨#[c]⟩ : Str).length = 1 := rfl
theorem e_s : (Str.ofString "s").length = 1 := by decide +kernel
theorem e_cs : (Str.ofString ": ").length = 2 := by decide +kernel
theorem e_ss : (Str.ofString " s").length = 2 := by decide +kernel
theorem e_2 : (Str.ofString "  ").length = 2 := by decide +kernel
theorem addS {x y : Str} (m : Nat) (h : x.length + y.length ≤ m) (hm : m ≤ 16777216 := by decide) : x.length + y.length ≤ sizeLine := small m h hm
structure spLText (K : PySem.W.Frag) (vs : List V) (H : Hp) (Q : VK) (E : XK) : Prop where
  ex : ∃ (G : Hp) (v : V) (x : Pl), vs = [v] ∧ Same G H ∧ Dp K G v x.D ∧ x.Ok ∧ ∀ H', Same H H' → Q (.str (textS x)) H'
/-- the two robots, by number -/
def Pl.st (x : Pl) (i : Nat) : Nat := if i = 0 then x.a else x.b
def Pl.ss (x : Pl) (i : Nat) : List Step := if i = 0 then x.p else x.q
def Pl.robs (x : Pl) : Nat → List (List Nat)
  | 0 => []
  | i + 1 => Pl.robs x i ++ robotL (x.st i) (x.ss i)
theorem Pl.robs2 (x : Pl) : shelfL x.shelf :: x.robs 2 = linesL x := rfl
theorem sum_len : ∀ (l : List Str) (m : Nat), (∀ p ∈ l, p.length ≤ m) → (l.map (·.length)).sum ≤ l.length * m
  | [], _, _ => by simp
  | x :: r, m, h => by
    have h1 := h x (by simp)
    have ih := sum_len r m (fun p hp => h p (by simp [hp]))
    rw [List.map_cons, List.sum_cons, List.length_cons, Nat.add_mul, Nat.one_mul]
    omega
theorem len_of_map {l : List Str} {m : List (List Nat)} (h : l.map tl = m) : l.length = m.length := by rw [← h, List.length_map]
theorem mem_len {l : List Str} {m : List (List Nat)} {k : Nat} (h : l.map tl = m) (hm : ∀ p ∈ m, p.length ≤ k) : ∀ p ∈ l, p.length ≤ k := fun p hp => by
  rw [len_tl]
  exact hm (tl p) (by rw [← h]; exact List.mem_map.mpr ⟨p, hp, rfl⟩)
theorem robs_len {x : Pl} (h : x.Ok) : ∀ {i : Nat}, i ≤ 2 → (x.robs i).length ≤ 22 * i
  | 0, _ => by simp [Pl.robs]
  | i + 1, hi => by
    have ih := robs_len h (i := i) (by omega)
    show (x.robs i ++ robotL (x.st i) (x.ss i)).length ≤ _
    rw [List.length_append, robotL_len]
    have : (x.ss i).length ≤ 20 := by unfold Pl.ss; split; exact h.p.le; exact h.q.le
    omega
theorem join_txt {y : Str} {parts : List Str} {S : List Nat} {ps : List (List Nat)} (hy : tl y = S) (hp : parts.map tl = ps) : tl (Txt.join y parts) = joinL S ps := by
  rw [join_eq, tl_join, hy, hp]
/-- a plan's data, taken apart -/
theorem plan_inv {K : PySem.W.Frag} {G : Hp} {v : V} {x : Pl} (h : Dp K G v x.D) : ∃ t sh st bo l1 l2 xs1 xs2, v = .ref t ∧ SqT K G t [.ref sh, .ref st, .ref bo] ∧ SqT K G sh (x.shelf.map fun n : Nat => V.int n) ∧ SqT K G st [.int x.a, .int x.b] ∧
    SqL K G bo [.ref l1, .ref l2] ∧ SqL K G l1 xs1 ∧ SqL K G l2 xs2 ∧ DpAll K G xs1 (x.p.map Step.D) ∧ DpAll K G xs2 (x.q.map Step.D) := by
  obtain ⟨t, xs, rfl, ht, hx⟩ := Dp.tup_inv h
  obtain ⟨v1, r, rfl, h1, hx⟩ := DpAll.cons_inv hx
  obtain ⟨v2, r, rfl, h2, hx⟩ := DpAll.cons_inv hx
  obtain ⟨v3, r, rfl, h3, hx⟩ := DpAll.cons_inv hx
  cases DpAll.nil_inv hx
  obtain ⟨sh, ys, rfl, hsh, hy⟩ := Dp.tup_inv h1
  obtain ⟨st, zs, rfl, hst, hz⟩ := Dp.tup_inv h2
  obtain ⟨z1, r, rfl, e1, hz⟩ := DpAll.cons_inv hz
  obtain ⟨z2, r, rfl, e2, hz⟩ := DpAll.cons_inv hz
  cases DpAll.nil_inv hz
  obtain ⟨bo, ws, rfl, hbo, hw⟩ := Dp.lst_inv h3
  obtain ⟨b1, r, rfl, f1, hw⟩ := DpAll.cons_inv hw
  obtain ⟨b2, r, rfl, f2, hw⟩ := DpAll.cons_inv hw
  cases DpAll.nil_inv hw
  obtain ⟨l1, xs1, rfl, hl1, hx1⟩ := Dp.lst_inv f1
  obtain ⟨l2, xs2, rfl, hl2, hx2⟩ := Dp.lst_inv f2
  have e1' := Dp.int_inv e1
  have e2' := Dp.int_inv e2
  subst e1' e2'
  have ey : ys = x.shelf.map fun n : Nat => V.int n := by
    have : ∀ (l : List Nat) (ys : List V), DpAll K G ys (l.map natD) → ys = l.map fun n : Nat => V.int n := by
      intro l
      induction l with
      | nil => intro ys h; exact DpAll.nil_inv h
      | cons n l ih =>
        intro ys h
        obtain ⟨v, r, rfl, a, b⟩ := DpAll.cons_inv h
        rw [Dp.int_inv a, ih r b]
        rfl
    exact this _ _ hy
  subst ey
  exact ⟨t, sh, st, bo, l1, l2, xs1, xs2, rfl, ht, hsh, hst, hbo, hl1, hl2, hx1, hx2⟩
/-- a step's data -/
theorem step_inv {K : PySem.W.Frag} {G : Hp} {v : V} {s : Step} (h : Dp K G v s.D) : ∃ t g, v = .ref t ∧ SqT K G t [.str (wS s.w), g] ∧ ((s.g = none ∧ g = .non) ∨ ∃ k : Nat, s.g = some k ∧ g = .int k) := by
  obtain ⟨t, xs, rfl, ht, hx⟩ := Dp.tup_inv h
  obtain ⟨v1, r, rfl, h1, hx⟩ := DpAll.cons_inv hx
  obtain ⟨v2, r, rfl, h2, hx⟩ := DpAll.cons_inv hx
  cases DpAll.nil_inv hx
  have e1 := Dp.str_inv h1
  subst e1
  refine ⟨t, v2, rfl, ht, ?_⟩
  cases hg : s.g with
  | none =>
    rw [hg] at h2
    exact .inl ⟨rfl, Dp.none_inv h2⟩
  | some k =>
    rw [hg] at h2
    exact .inr ⟨k, rfl, Dp.int_inv h2⟩
theorem goals_take {ss : List Step} {i : Nat} {s : Step} (h : ss[i]? = some s) : goalsOf (ss.take (i + 1)) = goalsOf (ss.take i) ++ (match s.g with | none => [] | some k => [k]) := by
  unfold goalsOf
  rw [take_more h, List.filterMap_append]
  congr 1
  cases hg : s.g <;> simp [hg]
section
variable {P : Program} {w : World} {K : PySem.W.Frag} {mg : Str → Option Value} {base : Heap} {a : Ad}
theorem ok_l_text (T : Txt K mg a) : FnOk P w K mg base CX0 1 a.f_l_text a.d_l_text ["_law_plan_here"] (spLText K) := by
  refine T.F_l_text.ok sc_l_text (fun vs H Q E h => ?_) (fun cdv A outer s H vs Q E hr h => ?_)
  · obtain ⟨⟨G, v, x, rfl, _⟩⟩ := h
    rfl
  · obtain ⟨⟨G, v, x, rfl, hGH, hD, hx, k⟩⟩ := h
    obtain ⟨t, sh, st, bo, l1, l2, xs1, xs2, rfl, ht, hsh, hst, hbo, hl1, hl2, hx1, hx2⟩ := plan_inv hD
    refine ⟨_, (pss_cons (ps_asg (pv 0) (pg_tup (by rfl) (pgs_cons (pg_name (i := 1) sc_l_text.nd rfl (Or.inl rfl)) (pgs_cons (pg_name (i := 2) sc_l_text.nd rfl (Or.inl rfl)) (pgs_cons (pg_name (i := 3) sc_l_text.nd rfl (Or.inl rfl)) pgs_nil)))))
      (pss_cons (ps_set (i := 4) sc_l_text.nd rfl (Or.inl rfl) (pe_lst (pa_cons (pe_op op_add_str (pe_op op_add_str pe_str (pe_join pe_str (pe_lc (own := [("_law_pieces", 5)]) (g := gName 5) (tt := tYes) rfl sc_l_text.nd (pi_tup (pv 1)) (blkOk_by (own := [("_law_pieces", 5)]) (N := ["_law_plan_here", "_law_shelf", "_law_starts", "_law_both", "_law_lines", "_law_pieces", "_law_number", "_law_goals", "_law_word", "_law_goal", "_law_k", "_law_mark", "_law_target"]) (sc := (defScope s_l_text)) (by decide +kernel)) (fun _ _ _ _ _ => (pg_name (i := 5) sc_l_text.nd rfl (Or.inl rfl))) (fun _ _ _ _ _ => pts_nil) (fun _ _ _ _ _ => by exact (pe_callTy call_str_int (by rfl) T.z_str (by decide +kernel) (pa_cons (pv 5) pa_nil)))))) pe_str) pa_nil)))
      (pss_cons (ps_for PassesOwn.never rfl (pi_range1 (by rfl) T.z_range (pa_cons pe_int pa_nil)) (pg_name (i := 6) sc_l_text.nd rfl (Or.inl rfl)) (pss_cons (ps_expr (pe_bm PySem.F.plainAttrs_list PySem.F.slot_list_append PySem.F.type_list_append mt_append (pv 4) (pa_cons (pe_op op_add_str (pe_op op_add_str pe_str (pe_callTy call_str_int (by rfl) T.z_str (by decide +kernel) (pa_cons (pe_ix ix_tup (pv 2) (pv 6) (fun _ _ => rfl)) pa_nil))) pe_str) pa_nil)))
      (pss_cons (ps_setLc (i := 7) (own := [("_law_word", 8), ("_law_goal", 9)]) (g := gTup K 2 (gCons (gName 8) (gCons (gName 9) gNil))) rfl sc_l_text.nd rfl rfl (sw_true rfl rfl rfl (by decide +kernel)) (pi_list (pe_ix ix_list (pv 3) (pv 6) (fun _ _ => rfl))) (blkOk_by (own := [("_law_word", 8), ("_law_goal", 9)]) (N := ["_law_plan_here", "_law_shelf", "_law_starts", "_law_both", "_law_lines", "_law_pieces", "_law_number", "_law_goals", "_law_word", "_law_goal", "_law_k", "_law_mark", "_law_target"]) (sc := (defScope s_l_text)) (by decide +kernel)) (fun _ _ _ _ _ => (pg_tup (by rfl) (pgs_cons (pg_name (i := 8) sc_l_text.nd rfl (Or.inl rfl)) (pgs_cons (pg_name (i := 9) sc_l_text.nd rfl (Or.inl rfl)) pgs_nil)))) (fun _ _ _ _ _ => by exact pts_one (pt_cmpR op_notN (pv 9) pe_non (nomark _))) (fun _ _ _ _ _ => by exact (pv 9)))
      (pss_cons (ps_for PassesOwn.never rfl (pi_range1 (by rfl) T.z_range (pa_cons (pe_callB call_len_seq (by rfl) T.z_len (by decide +kernel) (pa_cons (pe_ix ix_list (pv 3) (pv 6) (fun _ _ => rfl)) pa_nil)) pa_nil)) (pg_name (i := 10) sc_l_text.nd rfl (Or.inl rfl)) (pss_cons (ps_asg (pe_ix ix_list (pe_ix ix_list (pv 3) (pv 6) (fun _ _ => rfl)) (pv 10) (fun _ _ => rfl)) (pg_tup (by rfl) (pgs_cons (pg_name (i := 8) sc_l_text.nd rfl (Or.inl rfl)) (pgs_cons (pg_name (i := 9) sc_l_text.nd rfl (Or.inl rfl)) pgs_nil))))
      (pss_cons (ps_set (i := 11) sc_l_text.nd rfl (Or.inl rfl) (pe_ifExp (pt_cmpR op_in_seq (pv 10) (pv 7) rfl) (pe_op op_add_str (pe_op op_add_str pe_str (pe_ix ix_str pe_str (pv 10) (fun _ _ => rfl))) pe_str) pe_str))
      (pss_cons (ps_set (i := 12) sc_l_text.nd rfl (Or.inl rfl) (pe_ifExp (pt_cmpR op_notN (pv 9) pe_non (nomark _)) (pe_op op_add_str pe_str (pe_ix ix_str pe_str (pv 9) (fun _ _ => rfl))) pe_str))
      (pss_one (ps_expr (pe_bm PySem.F.plainAttrs_list PySem.F.slot_list_append PySem.F.type_list_append mt_append (pv 4) (pa_cons (pe_op op_add_str (pe_op op_add_str (pe_op op_add_str (pe_op op_add_str pe_str (pv 11)) (pv 8)) (pv 12)) pe_str) pa_nil))))))))
      (pss_one (ps_expr (pe_bm PySem.F.plainAttrs_list PySem.F.slot_list_append PySem.F.type_list_append mt_append (pv 4) (pa_cons pe_str pa_nil))))))))
      (pss_one (ps_ret (pe_join pe_str (pv 4))))))), ?_⟩
    refine ⟨_, rfl, t, _, rfl, Same.seqT hGH ht, rfl, _, _, rfl, _, _, rfl, _, _, rfl, rfl, ?_⟩
    -- the shelf's line
    refine ⟨⟨_, rfl⟩, _, rfl, sh, rfl, ⟨_, Same.seqT hGH hsh⟩, fun D hD => ?_⟩
    refine lc_tup (K := K) (a := sh) (xs := x.shelf.map fun n : Nat => V.int n) (fun j H' => ∃ ls : List Str, Same H H' ∧ H' D = some (.lst (ls.map V.str)) ∧ ls.map tl = (x.shelf.take j).map numL) ⟨[], same_new hD, upd_same, rfl⟩ (fun j H' _ ⟨ls, s1, _⟩ => Same.seqT (hGH.trans s1) hsh) ?_ ?_
    · rintro j y H' hy ⟨ls, s1, h1, h2⟩
      obtain ⟨n, hn, rfl⟩ : ∃ n : Nat, x.shelf[j]? = some n ∧ y = V.int n := by
        rw [List.getElem?_map] at hy
        cases e : x.shelf[j]? with
        | none => rw [e] at hy; cases hy
        | some z => rw [e] at hy; exact ⟨z, rfl, (Option.some.inj hy).symm⟩
      have hj : j < x.shelf.length := (List.getElem?_eq_some_iff.mp hn).1
      have hn3 : n ≤ 3 := hx.b3 n (List.mem_of_getElem? hn)
      have h12 := hx.c12
      refine ⟨rfl, _, rfl, _, rfl, log_ok (by omega), _, h1, smaller 12 (by rw [List.length_map, len_of_map h2, List.length_map, List.length_take]; omega) (by decide), ls ++ [Str.ofString (toString ((n : Nat) : Int))], same_put s1 hD, ?_, ?_⟩
      · rw [upd_same, List.map_append]; rfl
      · rw [List.map_append, h2, take_more hn, List.map_append]
        show _ ++ [tl (Str.ofString (toString ((n : Nat) : Int)))] = _
        rw [tl_num]
        rfl
    rintro H1 ⟨ls0, s1, h1, h2⟩
    rw [List.length_map, List.take_length] at h2
    have ml : ∀ p ∈ ls0, p.length ≤ 2 := mem_len h2 (fun p hp => by
      obtain ⟨n, hn, rfl⟩ := List.mem_map.mp hp
      exact num_len (by have := hx.b3 n hn; omega))
    have ll : ls0.length ≤ 12 := by rw [len_of_map h2, List.length_map]; exact hx.c12
    have jl : (Txt.join (Str.ofString " ") ls0).length ≤ 36 := by
      rw [len_tl, join_txt t_sp h2]
      refine Nat.le_trans (joinL_len [32] 2 _ (fun p hp => ?_)) ?_
      · obtain ⟨n, hn, rfl⟩ := List.mem_map.mp hp
        exact num_len (by have := hx.b3 n hn; omega)
      · rw [List.length_map]
        have := hx.c12
        show _ * 3 ≤ 36
        omega
    have e6 : (Str.ofString "shelf ").length = 6 := by decide +kernel
    have e1s : (Str.ofString " ").length = 1 := by decide +kernel
    have e1 : (Str.ofString ";").length = 1 := by decide +kernel
    refine ⟨_, D, ls0, rfl, rfl, .inl (SqL.of h1), ?_, _, _, rfl, rfl, addS 42 (by rw [e6]; omega), _, _, rfl, rfl, addS 43 (by rw [len_app, e6, e1]; omega), (by show 1 ≤ sizeLine; decide), fun l hl => ?_⟩
    · have := sum_len ls0 2 ml
      rw [e1s]
      omega
    have l0 : H l = none := Same.free s1 hl
    have sl : tl (Str.ofString "shelf " ++ Txt.join (Str.ofString " ") ls0 ++ Str.ofString ";") = shelfL x.shelf := by
      rw [tl_append, tl_append, t_sh, t_sc, join_txt t_sp h2]
      rfl
    revert sl
    generalize (Str.ofString "shelf " ++ Txt.join (Str.ofString " ") ls0 ++ Str.ofString ";") = first
    intro sl
    -- the robots
    refine ⟨2, rfl, by decide, by decide, for_range (lo := 0) (n := 2) (fun i σ H' => ∃ (ls : List Str) (v5 v6 v7 v8 v9 v10 v11 v12 : Option V), σ = [some (.ref t), some (.ref sh), some (.ref st), some (.ref bo), some (.ref l), v5, v6, v7, v8, v9, v10, v11, v12] ∧
      Same H H' ∧ H' l = some (.lst (ls.map V.str)) ∧ ls.map tl = shelfL x.shelf :: x.robs i) ?_ ?_ ?_⟩
    · exact ⟨[first], none, none, none, none, none, none, none, none, rfl, s1.trans (same_new hl), upd_same, by show [tl first] = _; rw [sl]; rfl⟩
    · rintro i σ H2 hi ⟨ls, v5, v6, v7, v8, v9, v10, v11, v12, rfl, s2, hl2', hls⟩
      have hn : x.st i < 12 := by unfold Pl.st; have := hx.ha; have := hx.hb; have := hx.c12; split <;> omega
      have sti : ([V.int x.a, V.int x.b] : List V)[i]? = some (.int (x.st i)) := by
        match i, hi with
        | 0, _ => rfl
        | 1, _ => rfl
        | i + 2, h => exact absurd h (by omega)
      obtain ⟨li, xsi, hli, hsi, hdi⟩ : ∃ li xsi, ([V.ref l1, V.ref l2] : List V)[i]? = some (.ref li) ∧ SqL K G li xsi ∧ DpAll K G xsi ((x.ss i).map Step.D) := by
        match i, hi with
        | 0, _ => exact ⟨l1, xs1, rfl, hl1, hx1⟩
        | 1, _ => exact ⟨l2, xs2, rfl, hl2, hx2⟩
        | i + 2, h => exact absurd h (by omega)
      have hso : StepsOk (x.ss i) := by unfold Pl.ss; split; exact hx.p; exact hx.q
      have hsl := hso.le
      have hlen : ls.length ≤ 23 := by rw [len_of_map hls, List.length_cons]; have := robs_len hx (i := i) (by omega); omega
      have nl := numS_len (n := x.st i) (by omega)
      have e6r : (Str.ofString "robot ").length = 6 := by decide +kernel
      have e2r : (Str.ofString " {").length = 2 := by decide +kernel
      refine ⟨_, rfl, .inl ⟨rfl, _, SqL.of hl2'⟩, _, rfl, _, rfl, st, _, _, .int (x.st i), rfl, rfl, Same.seqT (hGH.trans s2) hst, at_of (j := i) (by omega) sti, _, rfl, log_ok (by omega), _, _, rfl, rfl, addS 8 (by rw [e6r]; omega), _, _, rfl, rfl, addS 10 (by rw [len_app, e6r, e2r]; omega), l, _, _, rfl, rfl, hl2', smaller 23 (by rw [List.length_map]; exact hlen) (by decide), ?_⟩
      have s3 : Same H (upd H2 l (.lst (ls.map V.str ++ [.str (Str.ofString "robot " ++ Str.ofString (toString ((x.st i : Nat) : Int)) ++ Str.ofString " {")]))) := same_put s2 l0
      have e3 : tl (Str.ofString "robot " ++ Str.ofString (toString ((x.st i : Nat) : Int)) ++ Str.ofString " {") = [114, 111, 98, 111, 116, 32] ++ numL (x.st i) ++ [32, 123] := by
        rw [tl_append, tl_append, t_rb, t_lb, tl_num]
      revert s3 e3
      generalize (Str.ofString "robot " ++ Str.ofString (toString ((x.st i : Nat) : Int)) ++ Str.ofString " {") = hd2
      intro s3 e3
      have h3 : (upd H2 l (.lst (ls.map V.str ++ [.str hd2]))) l = some (.lst ((ls ++ [hd2]).map V.str)) := by rw [upd_same, List.map_append]; rfl
      have hls3 : (ls ++ [hd2]).map tl = shelfL x.shelf :: x.robs i ++ [[114, 111, 98, 111, 116, 32] ++ numL (x.st i) ++ [32, 123]] := by
        rw [List.map_append, hls]
        show _ ++ [tl hd2] = _
        rw [e3]
      revert s3 h3
      generalize upd H2 l (.lst (ls.map V.str ++ [.str hd2])) = H3
      intro s3 h3
      -- the goals
      refine ⟨_, rfl, _, rfl, bo, _, _, .ref li, rfl, rfl, (hGH.trans s3).seq hbo, at_of (j := i) (by omega) hli, li, rfl, ⟨_, (hGH.trans s3).seq hsi⟩, fun D2 hD2 => ?_⟩
      have D20 : H D2 = none := Same.free s3 hD2
      have D2l : l ≠ D2 := ne_of_none h3 hD2
      refine lc_list (K := K) (a := li) (xs := xsi) (fun j H' => Same H H' ∧ H' l = some (.lst ((ls ++ [hd2]).map V.str)) ∧ H' D2 = some (.lst ((goalsOf ((x.ss i).take j)).map fun n : Nat => V.int n))) ⟨s3.trans (same_new hD2), by rw [upd_ne D2l]; exact h3, upd_same⟩ (fun j H' _ ⟨s4, _⟩ => (hGH.trans s4).seq hsi) ?_ ?_
      · rintro j y H' hy ⟨s4, h4, h5⟩
        obtain ⟨dd, hdd, hDd⟩ := DpAll.get hdi hy
        rw [List.getElem?_map] at hdd
        obtain ⟨sj, hsj, rfl⟩ : ∃ sj, (x.ss i)[j]? = some sj ∧ dd = sj.D := by
          cases e : (x.ss i)[j]? with
          | none => rw [e] at hdd; cases hdd
          | some z => rw [e] at hdd; exact ⟨z, rfl, (Option.some.inj hdd).symm⟩
        have hj : j < (x.ss i).length := (List.getElem?_eq_some_iff.mp hsj).1
        have gt := goals_take hsj
        have gl : (goalsOf ((x.ss i).take j)).length ≤ 20 := by
          have h1 : (goalsOf ((x.ss i).take j)).length ≤ ((x.ss i).take j).length := List.length_filterMap_le _ _
          rw [List.length_take] at h1
          omega
        obtain ⟨tt, g, rfl, htt, hg⟩ := step_inv hDd
        refine ⟨tt, _, rfl, Same.seqT (hGH.trans s4) htt, rfl, _, _, rfl, _, _, rfl, rfl, rfl, _, rfl, rfl, _, rfl, ?_⟩
        rcases hg with ⟨hg, rfl⟩ | ⟨kk, hg, rfl⟩
        · refine ite_f rfl ⟨s4, h4, ?_⟩
          rw [gt, hg, List.append_nil]
          exact h5
        · refine ite_t rfl ⟨_, rfl, _, h5, smaller 20 (by rw [List.length_map]; exact gl) (by decide), same_put s4 D20, by rw [upd_ne D2l]; exact h4, ?_⟩
          rw [upd_same, gt, hg, List.map_append]
          rfl
      rintro H4 ⟨s4, h4, h5⟩
      have exs : xsi.length = (x.ss i).length := by rw [DpAll.len hdi, List.length_map]
      rw [exs, List.take_length] at h5
      -- the steps
      refine ⟨_, rfl, _, rfl, bo, _, _, .ref li, rfl, rfl, (hGH.trans s4).seq hbo, at_of (j := i) (by omega) hli, li, _, rfl, .inl ((hGH.trans s4).seq hsi), _, rfl, by omega, by omega, for_range (lo := 0) (n := ((xsi.length : Nat) : Int).toNat) (fun j σ H' => ∃ (ls' : List Str) (v8 v9 v10 v11 v12 : Option V), σ = [some (.ref t), some (.ref sh), some (.ref st), some (.ref bo), some (.ref l), v5, some (.int (0 + (i : Int))), some (.ref D2), v8, v9, v10, v11, v12] ∧
        Same H H' ∧ H' D2 = some (.lst ((goalsOf (x.ss i)).map fun n : Nat => V.int n)) ∧ H' l = some (.lst (ls'.map V.str)) ∧ ls'.map tl = (shelfL x.shelf :: x.robs i ++ [[114, 111, 98, 111, 116, 32] ++ numL (x.st i) ++ [32, 123]]) ++ stepsL (goalsOf (x.ss i)) 0 ((x.ss i).take j)) ?_ ?_ ?_⟩
      · exact ⟨ls ++ [hd2], _, _, _, _, _, rfl, s4, h5, h4, by rw [hls3]; simp [stepsL]⟩
      · rintro j σ H5 hj ⟨ls', v8, v9, v10, v11, v12, rfl, s5, h6, h7, h8⟩
        have hj' : j < (x.ss i).length := by omega
        obtain ⟨sj, hsj⟩ : ∃ sj, (x.ss i)[j]? = some sj := ⟨_, List.getElem?_eq_getElem hj'⟩
        have hokj : Step.Ok (x.ss i).length sj := hso.all sj (List.mem_of_getElem? hsj)
        obtain ⟨y, hy, hDy⟩ := DpAll.at hdi (i := j) (d := sj.D) (by rw [List.getElem?_map, hsj]; rfl)
        obtain ⟨tt, g, rfl, htt, hg⟩ := step_inv hDy
        have hl8 : ls'.length ≤ 45 := by
          rw [len_of_map h8]
          simp only [List.length_append, List.length_cons, List.length_nil, stepsL_len, List.length_take]
          have := robs_len hx (i := i) (by omega)
          omega
        refine ⟨_, rfl, _, rfl, bo, _, _, .ref li, rfl, rfl, (hGH.trans s5).seq hbo, at_of (j := i) (by omega) hli, _, rfl, li, _, _, .ref tt, rfl, rfl, (hGH.trans s5).seq hsi, at_of (j := j) (by omega) hy, tt, _, rfl, Same.seqT (hGH.trans s5) htt, rfl, _, _, rfl, _, _, rfl, rfl, ?_⟩
        dsimp only
        -- the mark
        refine seq_restσ (fun σ H' => ∃ m : Str, σ = [some (.ref t), some (.ref sh), some (.ref st), some (.ref bo), some (.ref l), v5, some (.int (0 + (i : Int))), some (.ref D2), some (.str (wS sj.w)), some g, some (.int (0 + (j : Int))), some (.str m), v12] ∧ H5 = H' ∧ m.length ≤ 4 ∧ tl m = if j ∈ goalsOf (x.ss i) then [115, 97 + j, 58, 32] else []) (fun σ H' hm => ?r1) (fun rest1 => ?m1)
        case m1 =>
          have ej : (0 + (j : Int)) = ((j : Nat) : Int) := by omega
          refine ⟨_, rfl, _, rfl, D2, _, rfl, .inl (SqL.of h6), rfl, nats_flat _, _, rfl, ?_⟩
          rw [if_neg Bool.false_ne_true, show inV (V.int (0 + (j : Int))) ((goalsOf (x.ss i)).map fun n : Nat => V.int n) = decide (j ∈ goalsOf (x.ss i)) from by rw [ej]; exact in_nats _ _]
          refine ite2 (fun c => ?_) (fun c => ?_)
          · have c' := of_decide_eq_true c
            refine ⟨_, rfl, abc, 0 + (j : Int), 97 + j, rfl, rfl, small 20 (by rw [abc_len]; exact Nat.le_refl _) (by decide), at_n (j := j) ej (abc_at (by omega)), _, _, rfl, rfl, addS 2 (by rw [e_s, len1s]; decide), _, _, rfl, rfl, addS 4 (by rw [len_app, e_s, len1s, e_cs]; decide), rest1 _ _ ⟨_, rfl, rfl, ?_, ?_⟩⟩
            · rw [len_app, len_app, e_s, len1s, e_cs]; decide
            · rw [if_pos c', tl_append, tl_append, t_s, t_cs]; rfl
          · refine rest1 _ _ ⟨_, rfl, rfl, by decide +kernel, ?_⟩
            rw [if_neg (fun q => c (decide_eq_true q)), t_e]
        obtain ⟨m, rfl, rfl, hm4, hm⟩ := hm
        -- the target
        refine seq_restσ (fun σ H' => ∃ m2 : Str, σ = [some (.ref t), some (.ref sh), some (.ref st), some (.ref bo), some (.ref l), v5, some (.int (0 + (i : Int))), some (.ref D2), some (.str (wS sj.w)), some g, some (.int (0 + (j : Int))), some (.str m), some (.str m2)] ∧ H5 = H' ∧ m2.length ≤ 3 ∧ tl m2 = (match sj.g with | none => [] | some g => [32, 115, 97 + g])) (fun σ H' hm2 => ?r2) (fun rest2 => ?m2)
        case m2 =>
          refine ⟨_, rfl, rfl, _, rfl, ?_⟩
          rcases hg with ⟨hg, rfl⟩ | ⟨kk, hg, rfl⟩
          · refine ite_f rfl (rest2 _ _ ⟨_, rfl, rfl, by decide +kernel, ?_⟩)
            rw [hg, t_e]
          · have hk : kk < (x.ss i).length := by
              have h5 : 5 ≤ sj.w := by
                by_cases h : sj.w < 5
                · rw [hokj.no h] at hg; cases hg
                · omega
              obtain ⟨k2, e2, h2⟩ := hokj.yes h5
              rw [hg] at e2
              cases e2
              exact h2
            refine ite_t rfl ⟨_, rfl, abc, (kk : Int), 97 + kk, rfl, rfl, small 20 (by rw [abc_len]; exact Nat.le_refl _) (by decide), atI_nat (abc_at (by omega)), _, _, rfl, rfl, addS 3 (by rw [e_ss, len1s]; decide), rest2 _ _ ⟨_, rfl, rfl, ?_, ?_⟩⟩
            · rw [len_app, e_ss, len1s]; decide
            · rw [hg, tl_append, t_ss]; rfl
        obtain ⟨m2, rfl, rfl, hm23, hm2⟩ := hm2
        -- the line
        have hw5 := wS_len hokj.w8
        refine ⟨_, rfl, .inl ⟨rfl, _, SqL.of h7⟩, _, rfl, _, _, rfl, rfl, addS 6 (by rw [e_2]; omega), _, rfl, _, _, rfl, rfl, addS 11 (by rw [len_app, e_2]; omega), _, rfl, _, _, rfl, rfl, addS 14 (by rw [len_app, len_app, e_2]; omega), _, _, rfl, rfl, addS 15 (by rw [len_app, len_app, len_app, e_2, e1]; omega), l, _, _, rfl, rfl, h7, smaller 45 (by rw [List.length_map]; exact hl8) (by decide), ?_⟩
        refine ⟨ls' ++ [Str.ofString "  " ++ m ++ wS sj.w ++ m2 ++ Str.ofString ";"], _, _, _, _, _, rfl, same_put s5 l0, ?_, ?_, ?_⟩
        · rw [upd_ne D2l.symm]; exact h6
        · rw [upd_same, List.map_append]; rfl
        · rw [take_more hsj, stepsL_snoc, List.map_append, h8, ← List.append_assoc]
          congr 1
          show [tl (Str.ofString "  " ++ m ++ wS sj.w ++ m2 ++ Str.ofString ";")] = [stepL _ _ _]
          congr 1
          have e0 : 0 + ((x.ss i).take j).length = j := by rw [List.length_take]; omega
          rw [e0, tl_append, tl_append, tl_append, tl_append, sp2, hm, hm2, t_sc]
          rfl
      · rintro σ H5 ⟨ls', v8, v9, v10, v11, v12, rfl, s5, h6, h7, h8⟩
        have ej : ((xsi.length : Nat) : Int).toNat = (x.ss i).length := by omega
        rw [ej, List.take_length] at h8
        have hl8 : ls'.length ≤ 45 := by
          rw [len_of_map h8]
          simp only [List.length_append, List.length_cons, List.length_nil, stepsL_len]
          have := robs_len hx (i := i) (by omega)
          omega
        refine ⟨_, rfl, .inl ⟨rfl, _, SqL.of h7⟩, l, _, _, rfl, rfl, h7, smaller 45 (by rw [List.length_map]; exact hl8) (by decide), ?_⟩
        refine ⟨ls' ++ [Str.ofString "}"], _, _, _, _, _, _, _, _, rfl, same_put s5 l0, ?_, ?_⟩
        · rw [upd_same, List.map_append]; rfl
        · rw [List.map_append, h8]
          show _ ++ [tl (Str.ofString "}")] = shelfL x.shelf :: (x.robs i ++ robotL (x.st i) (x.ss i))
          rw [t_cb]
          unfold robotL
          simp only [List.cons_append, List.append_assoc, List.nil_append]
    · rintro σ H5 ⟨ls, v5, v6, v7, v8, v9, v10, v11, v12, rfl, s5, h6, h7⟩
      rw [Pl.robs2] at h7
      have hl8 : ls.length ≤ 45 := by rw [len_of_map h7]; exact linesL_len hx
      refine ⟨⟨_, rfl⟩, _, rfl, _, l, ls, rfl, rfl, .inl (SqL.of h6), ?_, ?_⟩
      · have := sum_len ls 60 (mem_len h7 (lines_len hx))
        have e : (Str.ofString "\n").length = 1 := by decide +kernel
        rw [e]
        omega
      · have e : Txt.join (Str.ofString "\n") ls = textS x := ext_tl (join_txt t_nl h7)
        dsimp only
        rw [e]
        exact k H5 s5
end
end Sb

namespace Sb
open PySem PySem.Spec PyProof.Rows L2 TL
section
variable {G H G0 H0 G1 H1 : Hp} {x dx : Addr} {o : HO}
theorem make_free (nx : H x = none) (ne : dx ≠ x) : upd H dx (.own x) x = none := by rw [upd_ne ne.symm]; exact nx
theorem Ext.make (e : Ext G0 H0 G H) (nx : H x = none) (nd : H dx = none) (ne : dx ≠ x) (o : HO) : Ext G0 H0 (upd (upd G dx (.own x)) x o) (upd (upd H dx (.own x)) x o) := (e.new nd).new (make_free nx ne)
theorem same_make (nx : H x = none) (nd : H dx = none) (ne : dx ≠ x) (o : HO) : Same H (upd (upd H dx (.own x)) x o) := (same_new nd).trans (same_new (make_free nx ne))
end
/-- a token in the data heap -/
def tokF (tk : Tk) (l c : Nat) : List (Str × V) := [("kind", .str (kS tk.k)), ("text", .str (mkS tk.t)), ("line", .int l), ("column", .int c)]
def TokAt (C : Addr) (G : Hp) (v : V) (tk : Tk) : Prop := ∃ (p dx : Addr) (l c : Nat), v = .ref p ∧ G p = some (.ins C dx (tokF tk l c))
theorem TokAt.mono {C : Addr} {G G' : Hp} {v : V} {tk : Tk} (s : Same G G') (h : TokAt C G v tk) : TokAt C G' v tk := by
  obtain ⟨p, dx, l, c, e, h⟩ := h
  exact ⟨p, dx, l, c, e, s _ _ h⟩
def ToksAt (C : Addr) (G : Hp) : List V → List Tk → Prop := Paired (TokAt C G)
theorem ToksAt.mono {C : Addr} {G G' : Hp} {vs : List V} {ts : List Tk} (s : Same G G') (h : ToksAt C G vs ts) : ToksAt C G' vs ts := Paired.mapP h fun _ _ => TokAt.mono s
theorem Paired.snoc {α β : Type} {F : α → β → Prop} : ∀ {l : List α} {m : List β} {x : α} {y : β}, Paired F l m → F x y → Paired F (l ++ [x]) (m ++ [y])
  | _, _, _, _, .nil, h => .cons h .nil
  | _, _, _, _, .cons r t, h => .cons r (Paired.snoc t h)
theorem Paired.app {α β : Type} {F : α → β → Prop} : ∀ {l l' : List α} {m m' : List β}, Paired F l m → Paired F l' m' → Paired F (l ++ l') (m ++ m')
  | _, _, _, _, .nil, h => h
  | _, _, _, _, .cons r t, h => .cons r (Paired.app t h)
theorem Paired.at_ {α β : Type} {F : α → β → Prop} : ∀ {l : List α} {m : List β} {i : Nat} {y : β}, Paired F l m → m[i]? = some y → ∃ x, l[i]? = some x ∧ F x y
  | _, _, _, _, .nil, e => by simp at e
  | _, _, 0, _, .cons r _, e => by simp at e; subst e; exact ⟨_, rfl, r⟩
  | _, _, i + 1, y, .cons _ t, e => by
    obtain ⟨u, h1, h2⟩ := Paired.at_ (i := i) (y := y) t (by simpa using e)
    exact ⟨u, by simpa using h1, h2⟩
theorem Paired.len {α β : Type} {F : α → β → Prop} : ∀ {l : List α} {m : List β}, Paired F l m → l.length = m.length
  | _, _, .nil => rfl
  | _, _, .cons _ t => congrArg (· + 1) (Paired.len t)
/-- the __init__ of a class that stores its arguments in fields -/
structure spInit (C : Addr) (fs : List Str) (vs : List V) (H : Hp) (Q : VK) (E : XK) : Prop where
  ex : ∃ (x dx : Addr) (us : List V), vs = .ref x :: us ∧ us.length = fs.length ∧ H x = some (.ins C dx []) ∧ Q .non (upd H x (.ins C dx (fs.zip us)))
theorem init_go {C x dx : Addr} {fs : List Str} {us : List V} {H : Hp} {Q : VK} {E : XK} (h : us.length = fs.length) (k : Q (.ref x) (upd (upd H dx (.own x)) x (.ins C dx (fs.zip us)))) :
    spInit C fs (.ref x :: us) (upd (upd H dx (.own x)) x (.ins C dx [])) (fun v H2 => v = .non ∧ Q (.ref x) H2) E :=
  ⟨⟨x, dx, us, rfl, h, upd_same, rfl, by rw [upd_upd]; exact k⟩⟩
theorem lf {f : Str} {v : V} {fs : List (Str × V)} {n : Nat} (h : fs.length ≤ n) : (putF f v fs).length ≤ n + 1 := Nat.le_trans (length_putF f v fs) (Nat.succ_le_succ h)
theorem lf1 {f : Str} {v : V} : (putF f v []).length < 1000 := Nat.lt_of_le_of_lt (lf (Nat.le_refl _)) (by decide)
theorem lf2 {f g : Str} {v u : V} : (putF f v (putF g u [])).length < 1000 := Nat.lt_of_le_of_lt (lf (lf (Nat.le_refl _))) (by decide)
theorem lf3 {f g h : Str} {v u y : V} : (putF f v (putF g u (putF h y []))).length < 1000 := Nat.lt_of_le_of_lt (lf (lf (lf (Nat.le_refl _)))) (by decide)
structure spRunEnd (vs : List V) (H : Hp) (Q : VK) (E : XK) : Prop where
  ex : ∃ (row : Str) (c : Nat) (ls : Str), vs = [.str row, .int c, .str ls] ∧ c ≤ (tl row).length ∧ (tl row).length ≤ 3000 ∧ Q (.int ((c + runL (tl ls) ((tl row).drop c) : Nat) : Int)) H
section
variable {P : Program} {w : World} {K : PySem.W.Frag} {mg : Str → Option Value} {base : Heap} {a : Ad}
theorem ok_Token_init (T : Txt K mg a) : FnOk P w K mg base CX0 1 a.f_Token_init a.d_Token_init ["self", "kind", "text", "line", "column"] (spInit a.C_Token ["kind", "text", "line", "column"]) := by
  refine T.F_Token_init.ok sc_Token_init (fun vs H Q E h => ?_) (fun cdv A outer s H vs Q E hr h => ?_)
  · obtain ⟨⟨x, dx, us, rfl, hl, _⟩⟩ := h
    exact congrArg (· + 1) hl
  · obtain ⟨⟨x, dx, us, rfl, hl, hx, k⟩⟩ := h
    match us, hl with
    | [u1, u2, u3, u4], _ =>
      refine ⟨_, (pss_cons (ps_fld (pv 0) (pv 1) rfl)
      (pss_cons (ps_fld (pv 0) (pv 2) rfl)
      (pss_cons (ps_fld (pv 0) (pv 3) rfl)
      (pss_one (ps_fld (pv 0) (pv 4) rfl))))), ?_⟩
      refine ⟨_, rfl, _, rfl, x, _, dx, _, rfl, hx, T.cl_Token, T.n_Token_kind, by decide, ?_⟩
      refine ⟨_, rfl, _, rfl, x, _, dx, _, rfl, upd_same, T.cl_Token, T.n_Token_text, lf1, ?_⟩
      refine ⟨_, rfl, _, rfl, x, _, dx, _, rfl, upd_same, T.cl_Token, T.n_Token_line, lf2, ?_⟩
      refine ⟨_, rfl, _, rfl, x, _, dx, _, rfl, upd_same, T.cl_Token, T.n_Token_column, lf3, ?_⟩
      rw [upd_upd, upd_upd, upd_upd]
      have e : putF "column" u4 (putF "line" u3 (putF "text" u2 (putF "kind" u1 []))) = (["kind", "text", "line", "column"] : List Str).zip [u1, u2, u3, u4] := by
        show putF "column" u4 (putF "line" u3 (putF "text" u2 [("kind", u1)])) = _
        rw [putF_new (fs := [("kind", u1)]) (show ("text" : Str) ∉ (["kind"] : List Str) by decide +kernel)]
        show putF "column" u4 (putF "line" u3 [("kind", u1), ("text", u2)]) = _
        rw [putF_new (fs := [("kind", u1), ("text", u2)]) (show ("line" : Str) ∉ (["kind", "text"] : List Str) by decide +kernel)]
        show putF "column" u4 [("kind", u1), ("text", u2), ("line", u3)] = _
        rw [putF_new (fs := [("kind", u1), ("text", u2), ("line", u3)]) (show ("column" : Str) ∉ (["kind", "text", "line"] : List Str) by decide +kernel)]
        rfl
      rw [e]
      exact k
theorem ok_run_end (T : Txt K mg a) : FnOk P w K mg base CX0 1 a.f_run_end a.d_run_end ["row", "start", "letters"] spRunEnd := by
  refine T.F_run_end.ok sc_run_end (fun vs H Q E h => ?_) (fun cdv A outer s H vs Q E hr h => ?_)
  · obtain ⟨⟨row, c, ls, rfl, _⟩⟩ := h
    rfl
  · obtain ⟨⟨row, c, ls, rfl, hc, hl, k⟩⟩ := h
    refine ⟨_, (pss_cons (ps_set (i := 3) sc_run_end.nd rfl (Or.inl rfl) (pv 1))
      (pss_cons (ps_while PassesOwn.never (PW.pt (pw_and (pt_cmpR op_lt (pv 3) (pe_callB call_len_str (by rfl) T.z_len (by decide +kernel) (pa_cons (pv 0) pa_nil)) (nomark _)) (pw_and1 (pt_cmpR op_in_sign (pe_ix ix_str (pv 0) (pv 3) (fun _ _ => rfl)) (pv 2) rfl)))) (pss_one (ps_aug (i := 3) sc_run_end.nd rfl (Or.inl rfl) pe_int ip_add)))
      (pss_one (ps_ret (pv 3))))), ?_⟩
    have hz : row.length ≤ sizeLine := small 3000 (by rw [len_tl]; exact hl) (by decide)
    refine ⟨_, rfl, ?_⟩
    refine while_by (fun σ H' => H' = H ∧ ∃ e : Nat, σ = [some (.str row), some (.int c), some (.str ls), some (.int e)] ∧ c ≤ e ∧ e ≤ (tl row).length ∧ e + runL (tl ls) ((tl row).drop e) = c + runL (tl ls) ((tl row).drop c))
      (fun σ _ => match σ with | [_, _, _, some (.int e)] => (tl row).length - e.toNat | _ => 0) ⟨rfl, c, rfl, Nat.le_refl _, hc, rfl⟩ ?_ ?_
    · rintro σ H' ⟨rfl, e, rfl, h1, h2, h3⟩
      refine ⟨_, rfl, _, rfl, _, rfl, hz, _, _, rfl, rfl, _, rfl, ?_⟩
      refine ite2 (fun q => ?_) (fun q => ?_)
      · have q1 : e < (tl row).length := by
          have := of_decide_eq_true q
          rw [len_tl] at this
          omega
        have q2 : (tl row)[e]? = some ((tl row)[e]) := List.getElem?_eq_getElem q1
        refine ⟨_, rfl, _, rfl, row, _, (tl row)[e], rfl, rfl, hz, atI_nat q2, _, rfl, _, _, rfl, rfl, _, rfl, ?_⟩
        have q3 : (tl row).drop e = (tl row)[e] :: (tl row).drop (e + 1) := List.drop_eq_getElem_cons q1
        refine ite2 (fun m => ?_) (fun m => ?_)
        · have m1 : (tl row)[e] ∈ tl ls := of_decide_eq_true m
          refine ⟨_, rfl, _, _, rfl, rfl, ⟨rfl, e + 1, rfl, by omega, by omega, ?_⟩, ?_⟩
          · rw [q3] at h3
            rw [← h3]
            show _ = e + (if _ then _ else _)
            rw [if_pos m1]
            omega
          · show (tl row).length - ((e : Int) + 1).toNat < (tl row).length - ((e : Int)).toNat
            omega
        · have m1 : ¬ (tl row)[e] ∈ tl ls := fun z => m (decide_eq_true z)
          refine ⟨_, rfl, ?_⟩
          have e0 : e = c + runL (tl ls) ((tl row).drop c) := by
            rw [← h3, q3]
            show _ = e + (if _ then _ else _)
            rw [if_neg m1]
            rfl
          rw [e0]
          exact k
      · have q1 : ¬ (e : Int) < ((row.length : Nat) : Int) := fun z => q (decide_eq_true z)
        rw [len_tl] at q1
        refine ⟨_, rfl, ?_⟩
        have e0 : e = c + runL (tl ls) ((tl row).drop c) := by
          rw [← h3, List.drop_eq_nil_of_le (by omega)]
          rfl
        rw [e0]
        exact k
    · intro σ H Q Q' hq h
      obtain ⟨v, hv, x, hx, z, e, hz, i, j, e1, e2, b, e3, h⟩ := h
      refine ⟨v, hv, x, hx, z, e, hz, i, j, e1, e2, b, e3, ?_⟩
      revert h
      cases b with
      | true =>
        intro h
        obtain ⟨v, hv, x, hx, z, i, c, e1, e2, hz, ha, y, hy, c', z', e3, e4, k', e5, h⟩ := h
        exact ⟨v, hv, x, hx, z, i, c, e1, e2, hz, ha, y, hy, c', z', e3, e4, k', e5, hq _ _ h⟩
      | false =>
        intro h
        exact hq _ _ h
end
end Sb

namespace Sb
open PySem PySem.Spec PyProof.Rows L2 TL
structure spReadToken (C : Addr) (vs : List V) (H : Hp) (Q : VK) (E : XK) : Prop where
  ex : ∃ (row : Str) (l c : Nat) (G : Hp) (tk : Tk) (rest : List Nat), vs = [.str row, .int l, .int c] ∧ c ≤ (tl row).length ∧ (tl row).length ≤ 3000 ∧ Rd ((tl row).drop c) tk rest ∧ Pure G H Q (fun G' v => TokAt C G' v tk)
theorem in_strs (x : Str) : ∀ l : List Str, inV (.str x) (l.map V.str) = decide (x ∈ l)
  | [] => by simp [inV]
  | n :: r => by
    have ih := in_strs x r
    unfold inV at ih ⊢
    rw [List.map_cons, List.any_cons, ih]
    have e : eqV (.str n) (.str x) = decide (n = x) := by
      unfold eqV
      by_cases h : n = x
      · subst h; simp
      · simp [h]
    rw [e]
    by_cases h : n = x
    · subst h; simp
    · have h' : ¬ x = n := fun q => h q.symm
      simp [h, h']
theorem strs_flat (l : List Str) : (l.map V.str).all flatV = true := by
  rw [List.all_eq_true]
  intro x hx
  obtain ⟨n, _, rfl⟩ := List.mem_map.mp hx
  rfl
theorem mem_tl {x : Str} {l : List Str} : x ∈ l ↔ tl x ∈ l.map tl := by
  constructor
  · exact fun h => List.mem_map.mpr ⟨x, h, rfl⟩
  · intro h
    obtain ⟨y, hy, e⟩ := List.mem_map.mp h
    rw [← ext_tl e]
    exact hy
theorem kw_ne : ∀ t ∈ kwL, t ≠ [] := by decide +kernel
theorem sgn_no_dig {c : Nat} (h : c ∈ tl digS) : c ∉ tl sgnS := by rw [mem_dig] at h; rw [mem_sgn]; omega
theorem sgn_no_let {c : Nat} (h : c ∈ tl letS) : c ∉ tl sgnS := by rw [mem_let] at h; rw [mem_sgn]; omega
theorem dig_no_let {c : Nat} (h : c ∈ tl letS) : c ∉ tl digS := by rw [mem_let] at h; rw [mem_dig]; omega
theorem tok_mk {C x dx : Addr} {G : Hp} {k : Kd} {t : Str} {l c : Nat} {tk : Tk} (h1 : k = tk.k) (h2 : tl t = tk.t) : TokAt C (upd (upd G dx (.own x)) x (.ins C dx ((["kind", "text", "line", "column"] : List Str).zip [.str (kS k), .str t, .int l, .int c]))) (.ref x) tk :=
  ⟨x, dx, l, c, rfl, by
    rw [upd_same]
    subst h1
    have e : t = mkS tk.t := mkS_of h2
    subst e
    rfl⟩
section
variable {P : Program} {w : World} {K : PySem.W.Frag} {mg : Str → Option Value} {base : Heap} {a : Ad}
theorem ok_read_token (T : Txt K mg a) : FnOk P w K mg base CX0 3 a.f_read_token a.d_read_token ["row", "line", "column"] (spReadToken a.C_Token) := by
  refine T.F_read_token.ok sc_read_token (fun vs H Q E h => ?_) (fun cdv A outer s H vs Q E hr h => ?_)
  · obtain ⟨⟨row, l, c, G, tk, rest, rfl, _⟩⟩ := h
    rfl
  · obtain ⟨⟨row, l, c, G, tk, rest, rfl, hc, hl, hR, hGH, k⟩⟩ := h
    refine ⟨_, (pss_cons (ps_set (i := 3) sc_read_token.nd rfl (Or.inl rfl) (pe_ix ix_str (pv 0) (pv 2) (fun _ _ => rfl)))
      (pss_cons (ps_if (pt_cmpR op_in_sign (pv 3) (pe_glob (v := V.str (Str.ofString ";:{}")) rfl T.c_SIGNS ⟨_, rfl⟩) rfl) (pss_one (ps_ret (pe_make T.mk_Token (ok_Token_init T) (hr.mono (by decide)) (by rfl) T.m_Token (b_Token_init T) .nil pass0 (pa_cons (pe_glob (v := V.str (Str.ofString "sign")) rfl T.c_SIGN ⟨_, rfl⟩) (pa_cons (pv 3) (pa_cons (pv 1) (pa_cons (pv 2) pa_nil))))))) pss_nil)
      (pss_cons (ps_if (pt_cmpR op_in_sign (pv 3) (pe_glob (v := V.str (Str.ofString "0123456789")) rfl T.c_DIGITS ⟨_, rfl⟩) rfl) (pss_cons (ps_set (i := 4) sc_read_token.nd rfl (Or.inl rfl) (pe_slice sl_str (pv 0) (po_some (pv 2)) (po_some (pe_call (ok_run_end T) (hr.mono (by decide)) rfl T.m_run_end T.F_run_end.kp (b_run_end T) .nil pass0 (pa_cons (pv 0) (pa_cons (pv 2) (pa_cons (pe_glob (v := V.str (Str.ofString "0123456789")) rfl T.c_DIGITS ⟨_, rfl⟩) pa_nil)))))))
      (pss_cons (ps_if (PW.pt (pw_or (pt_cmpR op_gt (pe_callB call_len_str (by rfl) T.z_len (by decide +kernel) (pa_cons (pv 4) pa_nil)) (pe_glob (v := V.int 2) rfl T.c_MAX_DIGITS ⟨_, rfl⟩) (nomark _)) (pw_or1 (PW.pt (pw_and (pt_cmpR op_gt (pe_callB call_len_str (by rfl) T.z_len (by decide +kernel) (pa_cons (pv 4) pa_nil)) pe_int (nomark _)) (pw_and1 (pt_cmpR op_eq (pv 3) pe_str (nomark _)))))))) pss_never pss_nil)
      (pss_one (ps_ret (pe_make T.mk_Token (ok_Token_init T) (hr.mono (by decide)) (by rfl) T.m_Token (b_Token_init T) .nil pass0 (pa_cons (pe_glob (v := V.str (Str.ofString "number")) rfl T.c_NUMBER ⟨_, rfl⟩) (pa_cons (pv 4) (pa_cons (pv 1) (pa_cons (pv 2) pa_nil))))))))) pss_nil)
      (pss_cons (ps_set (i := 4) sc_read_token.nd rfl (Or.inl rfl) (pe_slice sl_str (pv 0) (po_some (pv 2)) (po_some (pe_call (ok_run_end T) (hr.mono (by decide)) rfl T.m_run_end T.F_run_end.kp (b_run_end T) .nil pass0 (pa_cons (pv 0) (pa_cons (pv 2) (pa_cons (pe_glob (v := V.str (Str.ofString "abcdefghijklmnopqrstuvwxyz")) rfl T.c_LETTERS ⟨_, rfl⟩) pa_nil)))))))
      (pss_cons (ps_if (pt_cmpR op_in_seq (pv 4) (pe_glob (v := V.ref a.A_KEYWORDS) rfl T.c_KEYWORDS rfl) rfl) (pss_one (ps_ret (pe_make T.mk_Token (ok_Token_init T) (hr.mono (by decide)) (by rfl) T.m_Token (b_Token_init T) .nil pass0 (pa_cons (pe_glob (v := V.str (Str.ofString "keyword")) rfl T.c_KEYWORD ⟨_, rfl⟩) (pa_cons (pv 4) (pa_cons (pv 1) (pa_cons (pv 2) pa_nil))))))) pss_nil)
      (pss_cons (ps_if (pt_not (pt_chain op_le op_le pe_int (pe_callB call_len_str (by rfl) T.z_len (by decide +kernel) (pa_cons (pv 4) pa_nil)) (pe_glob (v := V.int 8) rfl T.c_MAX_LETTERS ⟨_, rfl⟩))) pss_never pss_nil)
      (pss_one (ps_ret (pe_make T.mk_Token (ok_Token_init T) (hr.mono (by decide)) (by rfl) T.m_Token (b_Token_init T) .nil pass0 (pa_cons (pe_glob (v := V.str (Str.ofString "name")) rfl T.c_NAME ⟨_, rfl⟩) (pa_cons (pv 4) (pa_cons (pv 1) (pa_cons (pv 2) pa_nil))))))))))))), ?_⟩
    have hz : row.length ≤ sizeLine := small 3000 (by rw [len_tl]; exact hl) (by decide)
    generalize hd : (tl row).drop c = rem at hR
    -- the first sign
    have start : ∀ ch r, rem = ch :: r → (tl row)[c]? = some ch := fun ch r e => by
      have h1 : ((tl row).drop c)[0]? = some ch := by rw [hd, e]; rfl
      rw [List.getElem?_drop] at h1
      exact h1
    -- the word that is cut
    have cut : ∀ (S : Str) (t r : List Nat), rem = t ++ r → (∀ x ∈ t, x ∈ tl S) → HeadNot (tl S) r → tl (cutS row (some (c : Int)) (some ((c + runL (tl S) ((tl row).drop c) : Nat) : Int))) = t := fun S t r e h1 h2 => by
      have e1 : runL (tl S) ((tl row).drop c) = t.length := by rw [hd, e]; exact runL_app h1 h2
      have e2 : c + t.length ≤ (tl row).length := by
        have := congrArg List.length (hd.trans e)
        rw [List.length_drop, List.length_append] at this
        omega
      rw [e1, cut_run e2, hd, e, List.take_left]
    cases hR with
    | @sign ch r hs =>
      refine ⟨_, rfl, _, rfl, row, _, ch, rfl, rfl, hz, atI_nat (start _ _ rfl), ?_⟩
      refine ⟨_, rfl, _, _, rfl, rfl, _, rfl, ite_t (decide_eq_true hs) ?_⟩
      refine ⟨_, rfl, _, rfl, _, rfl, fun x dx nx nd ne => init_go rfl ?_⟩
      exact k _ _ _ ((Ext.refl hGH).make nx nd ne _) (same_make nx nd ne _) (tok_mk (k := .sign) rfl rfl)
    | @num t r hne hdg hle h0 hr0 =>
      obtain ⟨ch, t', rfl⟩ : ∃ ch t', t = ch :: t' := by cases t with | nil => exact absurd rfl hne | cons x y => exact ⟨x, y, rfl⟩
      have hch := hdg ch (by simp)
      refine ⟨_, rfl, _, rfl, row, _, ch, rfl, rfl, hz, atI_nat (start _ _ rfl), ?_⟩
      refine ⟨_, rfl, _, _, rfl, rfl, _, rfl, ite_f (decide_eq_false (sgn_no_dig hch)) ?_⟩
      refine ⟨_, rfl, _, _, rfl, rfl, _, rfl, ite_t (decide_eq_true hch) ?_⟩
      refine ⟨_, rfl, _, rfl, _, rfl, _, rfl, _, rfl, ⟨row, c, digS, rfl, hc, hl, _, rfl, row, rfl, hz, ?_⟩⟩
      have hw := cut digS (ch :: t') rest rfl hdg hr0
      dsimp only [gName]
      revert hw
      generalize cutS row (some (c : Int)) (some ((c + runL (tl digS) ((tl row).drop c) : Nat) : Int)) = word
      intro hw
      have wl : word.length ≤ 2 := by rw [len_tl, hw]; exact hle
      have wz : word.length ≤ sizeLine := small 2 wl (by decide)
      refine ⟨_, rfl, word, rfl, wz, _, _, rfl, rfl, _, rfl, ite_f (decide_eq_false (by omega)) ?_⟩
      have fin : ∀ H' : Hp, H' = H → (tRet (tMake a.C_Token (spInit a.C_Token ["kind", "text", "line", "column"]) [] E0 (tCons (tC (.str (Str.ofString "number"))) (tCons (tVar 4) (tCons (tVar 1) (tCons (tVar 2) tNil)))))) { nx := fun _ H' => Q .non H', rt := Q } [some (.str row), some (.int l), some (.int c), some (.str ⟨#[ch]⟩), some (.str word)] H' := by
        rintro H' rfl
        refine ⟨_, rfl, _, rfl, _, rfl, fun x dx nx nd ne => init_go rfl ?_⟩
        exact k _ _ _ ((Ext.refl hGH).make nx nd ne _) (same_make nx nd ne _) (tok_mk (k := .number) rfl hw)
      refine ⟨_, rfl, word, rfl, wz, _, _, rfl, rfl, _, rfl, ?_⟩
      refine ite2 (fun q => ?_) (fun q => ?_)
      · have q1 : 1 < (ch :: t').length := by
          have := of_decide_eq_true q
          rw [len_tl, hw] at this
          exact_mod_cast this
        refine ⟨_, rfl, rfl, _, rfl, ite_f (decide_eq_false fun z => ?_) (fin H rfl)⟩
        injection z with z
        have z1 : [ch] = tl (Str.ofString "0") := by rw [← z]
        have z2 : tl (Str.ofString "0") = [48] := by decide +kernel
        rw [z2] at z1
        injection z1 with z1
        exact h0 q1 (by rw [z1]; rfl)
      · exact ite_f rfl (fin H rfl)
    | @kw t r hlt hkw hr0 =>
      obtain ⟨ch, t', rfl⟩ : ∃ ch t', t = ch :: t' := by cases t with | nil => exact absurd rfl (kw_ne _ hkw) | cons x y => exact ⟨x, y, rfl⟩
      have hch := hlt ch (by simp)
      refine ⟨_, rfl, _, rfl, row, _, ch, rfl, rfl, hz, atI_nat (start _ _ rfl), ?_⟩
      refine ⟨_, rfl, _, _, rfl, rfl, _, rfl, ite_f (decide_eq_false (sgn_no_let hch)) ?_⟩
      refine ⟨_, rfl, _, _, rfl, rfl, _, rfl, ite_f (decide_eq_false (dig_no_let hch)) ?_⟩
      refine ⟨_, rfl, _, rfl, _, rfl, _, rfl, _, rfl, ⟨row, c, letS, rfl, hc, hl, _, rfl, row, rfl, hz, ?_⟩⟩
      have hw := cut letS (ch :: t') rest rfl hlt hr0
      dsimp only [gName]
      revert hw
      generalize cutS row (some (c : Int)) (some ((c + runL (tl letS) ((tl row).drop c) : Nat) : Int)) = word
      intro hw
      have hk : word ∈ kwS := mem_tl.mpr (by rw [hw]; exact hkw)
      refine ⟨_, rfl, a.A_KEYWORDS, kwS.map V.str, rfl, .inr (T.q_KEYWORDS H), rfl, strs_flat _, _, rfl, ite_t ?_ ?_⟩
      · rw [if_neg Bool.false_ne_true, in_strs]; exact decide_eq_true hk
      refine ⟨_, rfl, _, rfl, _, rfl, fun x dx nx nd ne => init_go rfl ?_⟩
      exact k _ _ _ ((Ext.refl hGH).make nx nd ne _) (same_make nx nd ne _) (tok_mk (k := .keyword) rfl hw)
    | @nm t r hlt h1 h8 hkw hr0 =>
      obtain ⟨ch, t', rfl⟩ : ∃ ch t', t = ch :: t' := by cases t with | nil => exact absurd h1 (by decide) | cons x y => exact ⟨x, y, rfl⟩
      have hch := hlt ch (by simp)
      refine ⟨_, rfl, _, rfl, row, _, ch, rfl, rfl, hz, atI_nat (start _ _ rfl), ?_⟩
      refine ⟨_, rfl, _, _, rfl, rfl, _, rfl, ite_f (decide_eq_false (sgn_no_let hch)) ?_⟩
      refine ⟨_, rfl, _, _, rfl, rfl, _, rfl, ite_f (decide_eq_false (dig_no_let hch)) ?_⟩
      refine ⟨_, rfl, _, rfl, _, rfl, _, rfl, _, rfl, ⟨row, c, letS, rfl, hc, hl, _, rfl, row, rfl, hz, ?_⟩⟩
      have hw := cut letS (ch :: t') rest rfl hlt hr0
      dsimp only [gName]
      revert hw
      generalize cutS row (some (c : Int)) (some ((c + runL (tl letS) ((tl row).drop c) : Nat) : Int)) = word
      intro hw
      have hk : ¬ word ∈ kwS := fun z => hkw (by rw [← hw]; exact mem_tl.mp z)
      have wl : word.length ≤ 8 := by rw [len_tl, hw]; exact h8
      have wl1 : 1 ≤ word.length := by rw [len_tl, hw]; exact h1
      have wz : word.length ≤ sizeLine := small 8 wl (by decide)
      refine ⟨_, rfl, a.A_KEYWORDS, kwS.map V.str, rfl, .inr (T.q_KEYWORDS H), rfl, strs_flat _, _, rfl, ite_f ?_ ?_⟩
      · rw [if_neg Bool.false_ne_true, in_strs]; exact decide_eq_false hk
      refine ⟨_, rfl, word, rfl, wz, _, _, rfl, rfl, _, rfl, ite_t (decide_eq_true (by omega)) ⟨_, _, rfl, rfl, _, rfl, ?_⟩⟩
      refine ite_f (by rw [decide_eq_true (show ((word.length : Nat) : Int) ≤ 8 by omega)]; rfl) ?_
      refine ⟨_, rfl, _, rfl, _, rfl, fun x dx nx nd ne => init_go rfl ?_⟩
      exact k _ _ _ ((Ext.refl hGH).make nx nd ne _) (same_make nx nd ne _) (tok_mk (k := .name) rfl hw)
end
end Sb

namespace Sb
open PySem PySem.Spec PyProof.Rows L2 TL
/-! ### within a def that changes nothing that stood -/
structure Pt (G0 H0 G H : Hp) : Prop where
  ext : Ext G0 H0 G H
  sm : Same H0 H
section
variable {G0 H0 G H G1 H1 : Hp} {p l x dx : Addr} {o : HO}
theorem Pt.start (s : Same G H) : Pt G H G H := ⟨Ext.refl s, Same.refl H⟩
theorem Pt.new (a : Pt G0 H0 G H) (np : H p = none) (o : HO) : Pt G0 H0 (upd G p o) (upd H p o) := ⟨a.ext.new np, a.sm.trans (same_new np)⟩
theorem Pt.lay (a : Pt G0 H0 G H) (np : H p = none) (o : HO) : Pt G0 H0 G (upd H p o) := ⟨a.ext.lay np, a.sm.trans (same_new np)⟩
theorem Pt.put (a : Pt G0 H0 G H) (n0 : H0 l = none) (n : G l = none) (o : HO) : Pt G0 H0 G (upd H l o) := ⟨a.ext.put n, same_put a.sm n0⟩
theorem Pt.freeze (a : Pt G0 H0 G H) (n0 : H0 l = none) (h : H l = some o) : Pt G0 H0 (upd G l o) H := ⟨a.ext.freeze n0 h, a.sm⟩
theorem Pt.make (a : Pt G0 H0 G H) (nx : H x = none) (nd : H dx = none) (ne : dx ≠ x) (o : HO) : Pt G0 H0 (upd (upd G dx (.own x)) x o) (upd (upd H dx (.own x)) x o) := ⟨a.ext.make nx nd ne o, a.sm.trans (same_make nx nd ne o)⟩
theorem Pt.call (a : Pt G0 H0 G H) (e : Ext G H G1 H1) (s : Same H H1) : Pt G0 H0 G1 H1 := ⟨a.ext.trans e, a.sm.trans s⟩
theorem Pt.s (a : Pt G0 H0 G H) : Same G H := a.ext.h
theorem Pt.g (a : Pt G0 H0 G H) : Same G0 G := a.ext.g
theorem Pt.free (a : Pt G0 H0 G H) (np : H p = none) : H0 p = none := Same.free a.sm np
theorem Pt.freeG (a : Pt G0 H0 G H) (np : H p = none) : G p = none := Same.free a.ext.h np
theorem frozen (n : G l = none) : Same G (upd G l o) := same_new n
/-- what is not data stays so through a call -/
theorem out_call (e : Ext G H G1 H1) (n : G l = none) (h : H l = some o) : G1 l = none := e.out n h
end
theorem init_go2 {C x dx : Addr} {fs : List Str} {us : List V} {H : Hp} {Q : VK} {E : XK} (h : us.length = fs.length) (k : Q .non (upd (upd H dx (.own x)) x (.ins C dx (fs.zip us)))) :
    spInit C fs (.ref x :: us) (upd (upd H dx (.own x)) x (.ins C dx [])) Q E :=
  ⟨⟨x, dx, us, rfl, h, upd_same, by rw [upd_upd]; exact k⟩⟩
structure spTokenize (C : Addr) (vs : List V) (H : Hp) (Q : VK) (E : XK) : Prop where
  ex : ∃ (src : Str) (G : Hp) (rows : List (List Nat)) (tss : List (List Tk)), vs = [.str src] ∧ tl src = joinL [10] rows ∧ rows ≠ [] ∧ (∀ r ∈ rows, 10 ∉ r) ∧ (∀ r ∈ rows, r.length ≤ 3000) ∧ (tl src).length ≤ 3000000 ∧ Paired Lx rows tss ∧ tss.flatten.length ≤ 100000 ∧
    Pure G H Q (fun G' v => ∃ p vs, v = .ref p ∧ G' p = some (.lst vs) ∧ ToksAt C G' vs (tss.flatten ++ [⟨.fin, []⟩]))
theorem paired_get {α β : Type} {F : α → β → Prop} : ∀ {l : List α} {m : List β} {i : Nat} {x : α}, Paired F l m → l[i]? = some x → ∃ y, m[i]? = some y ∧ F x y
  | _, _, _, _, .nil, e => by simp at e
  | _, _, 0, _, .cons r _, e => by simp at e; subst e; exact ⟨_, rfl, r⟩
  | _, _, i + 1, y, .cons _ t, e => by
    obtain ⟨u, h1, h2⟩ := paired_get (i := i) (x := y) t (by simpa using e)
    exact ⟨u, by simpa using h1, h2⟩
theorem flat_take {α : Type} {l : List (List α)} {i : Nat} {x : List α} (h : l[i]? = some x) : (l.take (i + 1)).flatten = (l.take i).flatten ++ x := by
  rw [take_more h, List.flatten_append]
  simp
theorem flat_le {α : Type} : ∀ (l : List (List α)) (i : Nat), (l.take i).flatten.length ≤ l.flatten.length
  | [], i => by simp
  | x :: r, 0 => by simp
  | x :: r, i + 1 => by
    have := flat_le r i
    simp only [List.take_succ_cons, List.flatten_cons, List.length_append]
    omega
theorem rd_len {l r : List Nat} {k : Tk} (h : Rd l k r) : l = k.t ++ r ∧ k.t ≠ [] := by
  cases h with
  | sign h => exact ⟨rfl, by simp⟩
  | num h => exact ⟨rfl, h⟩
  | kw _ h => exact ⟨rfl, kw_ne _ h⟩
  | @nm t _ _ h => exact ⟨rfl, fun z => by cases t with | nil => exact absurd h (by decide) | cons _ _ => cases z⟩
theorem nsp_rd {c : Nat} {l r : List Nat} {k : Tk} (h : Rd (c :: l) k r) : c ∉ tl spcS := by
  have hs : c ∈ tl sgnS ∨ c ∈ tl digS ∨ c ∈ tl letS := by
    generalize e : c :: l = m at h
    cases h with
    | @sign d r h => injection e with e1 e2; subst e1; exact .inl h
    | @num t r hne h =>
      cases t with
      | nil => exact absurd rfl hne
      | cons x y => injection e with e1 e2; subst e1; exact .inr (.inl (h c (by simp)))
    | @kw t r h hk =>
      cases t with
      | nil => exact absurd rfl (kw_ne _ hk)
      | cons x y => injection e with e1 e2; subst e1; exact .inr (.inr (h c (by simp)))
    | @nm t r h h1 =>
      cases t with
      | nil => simp at h1
      | cons x y => injection e with e1 e2; subst e1; exact .inr (.inr (h c (by simp)))
  rw [mem_sgn, mem_dig, mem_let] at hs
  rw [spc_list]
  simp
  omega
section
variable {P : Program} {w : World} {K : PySem.W.Frag} {mg : Str → Option Value} {base : Heap} {a : Ad}
theorem ok_tokenize (T : Txt K mg a) : FnOk P w K mg base CX0 4 a.f_tokenize a.d_tokenize ["source"] (spTokenize a.C_Token) := by
  refine T.F_tokenize.ok sc_tokenize (fun vs H Q E h => ?_) (fun cdv A outer s H vs Q E hr h => ?_)
  · obtain ⟨⟨src, G, rows, tss, rfl, _⟩⟩ := h
    rfl
  · obtain ⟨⟨src, G, rows, tss, rfl, hsrc, hne, hno, hrl, hsl, hP, hfl, hGH, k⟩⟩ := h
    refine ⟨_, (pss_cons (ps_set (i := 1) sc_tokenize.nd rfl (Or.inl rfl) (pe_lst pa_nil))
      (pss_cons (ps_set (i := 2) sc_tokenize.nd rfl (Or.inl rfl) (pe_split (pv 0) pe_str))
      (pss_cons (ps_for PassesOwn.never rfl (pi_enum (by rfl) T.z_enumerate (pa_cons (pv 2) pa_nil)) (pg_tup (by rfl) (pgs_cons (pg_name (i := 3) sc_tokenize.nd rfl (Or.inl rfl)) (pgs_cons (pg_name (i := 4) sc_tokenize.nd rfl (Or.inl rfl)) pgs_nil))) (pss_cons (ps_set (i := 5) sc_tokenize.nd rfl (Or.inl rfl) pe_int)
      (pss_one (ps_while PassesOwn.never (pt_cmpR op_lt (pv 5) (pe_callB call_len_str (by rfl) T.z_len (by decide +kernel) (pa_cons (pv 4) pa_nil)) (nomark _)) (pss_one (ps_if (pt_cmpR op_in_sign (pe_ix ix_str (pv 4) (pv 5) (fun _ _ => rfl)) (pe_glob (v := V.str (Str.ofString " \n")) rfl T.c_SPACES ⟨_, rfl⟩) rfl) (pss_one (ps_aug (i := 5) sc_tokenize.nd rfl (Or.inl rfl) pe_int ip_add)) (pss_cons (ps_set (i := 6) sc_tokenize.nd rfl (Or.inl rfl) (pe_call (ok_read_token T) (hr.mono (by decide)) rfl T.m_read_token T.F_read_token.kp (b_read_token T) .nil pass0 (pa_cons (pv 4) (pa_cons (pv 3) (pa_cons (pv 5) pa_nil)))))
      (pss_cons (ps_expr (pe_bm PySem.F.plainAttrs_list PySem.F.slot_list_append PySem.F.type_list_append mt_append (pv 1) (pa_cons (pv 6) pa_nil)))
      (pss_one (ps_aug (i := 5) sc_tokenize.nd rfl (Or.inl rfl) (pe_callB call_len_str (by rfl) T.z_len (by decide +kernel) (pa_cons (pe_fld (pv 6) rfl) pa_nil)) ip_add))))))))))
      (pss_one (ps_ret (pe_op op_cat (pv 1) (pe_lst (pa_cons (pe_make T.mk_Token (ok_Token_init T) (hr.mono (by decide)) (by rfl) T.m_Token (b_Token_init T) .nil pass0 (pa_cons (pe_glob (v := V.str (Str.ofString "end")) rfl T.c_END ⟨_, rfl⟩) (pa_cons pe_str (pa_cons (pe_callB call_len_seq (by rfl) T.z_len (by decide +kernel) (pa_cons (pv 2) pa_nil)) (pa_cons pe_int pa_nil))))) pa_nil)))))))), ?_⟩
    refine ⟨Nat.zero_le _, fun l hl => ?_⟩
    have B1 := (Pt.start hGH).lay hl (.lst [])
    have lG : G l = none := Same.free hGH hl
    refine ⟨_, rfl, ⟨_, rfl⟩, src, _, rfl, rfl, by decide +kernel, small 3000002 (by rw [len_tl]; omega) (by decide), fun rp hrp => ?_⟩
    have hrs : (Txt.split src (Str.ofString "\n")).map tl = rows := by
      rw [split_spl _ _ (by rw [t_nl]; decide) (kind_ok (by decide +kernel)), t_nl, hsrc, spl_join hne hno]
    revert hrs
    generalize Txt.split src (Str.ofString "\n") = rs at *
    intro hrs
    have B2 := B1.new hrp (.lst (rs.map V.str))
    have lrp : l ≠ rp := ne_of_none upd_same hrp
    have hlen : rs.length = rows.length := by rw [← hrs, List.length_map]
    have hlen2 : tss.length = rows.length := (Paired.len hP).symm
    refine ⟨_, rfl, rp, _, rfl, SqL.of upd_same, for_it (walk_enum (K := K) (a := rp) (xs := rs.map V.str)) (fun i σ H' => ∃ (G' : Hp) (vs : List V) (v3 v4 v5 v6 : Option V), σ = [some (.str src), some (.ref l), some (.ref rp), v3, v4, v5, v6] ∧ Pt G H G' H' ∧ G' l = none ∧ G' rp = some (.lst (rs.map V.str)) ∧ H' l = some (.lst vs) ∧ ToksAt a.C_Token G' vs ((tss.take i).flatten)) ?_ ?_ ?_ ?_⟩
    · refine ⟨_, [], none, none, none, none, rfl, B2, ?_, upd_same, ?_, .nil⟩
      · rw [upd_ne lrp]; exact lG
      · rw [upd_ne lrp, upd_same]
    · rintro i σ H' _ ⟨G', vs, v3, v4, v5, v6, rfl, B, _, hrp', _⟩
      exact SqL.of (B.s _ _ hrp')
    · rintro i y σ H1 H2 hi ⟨G', vs, v3, v4, v5, v6, rfl, B, lG', hrp', hvs, htk⟩ ⟨T', x, z, rfl, hT', rfl, hx, hz⟩
      rw [List.length_map] at hi
      cases hx
      obtain ⟨row, hrow, rfl⟩ : ∃ row, rs[i]? = some row ∧ z = .str row := by
        have hz : (rs.map V.str)[i]? = some z := hz
        rw [List.getElem?_map] at hz
        cases e : rs[i]? with
        | none => rw [e] at hz; cases hz
        | some q => rw [e] at hz; exact ⟨q, rfl, (Option.some.inj hz).symm⟩
      have hrow2 : rows[i]? = some (tl row) := by rw [← hrs, List.getElem?_map, hrow]; rfl
      have hr30 : (tl row).length ≤ 3000 := hrl _ (List.mem_of_getElem? hrow2)
      obtain ⟨ts, hts, hLx⟩ := paired_get hP hrow2
      have hz' : row.length ≤ sizeLine := small 3000 (by rw [len_tl]; exact hr30) (by decide)
      have B3 := B.lay hT' (.tup [.int (i : Nat), .str row])
      have lT : l ≠ T' := ne_of_none hvs hT'
      refine ⟨T', _, rfl, SqT.of upd_same, rfl, _, _, rfl, _, _, rfl, rfl, ?_⟩
      -- the row
      refine while_by (fun σ H' => ∃ (c : Nat) (G' : Hp) (vs : List V) (done rem : List Tk) (v6 : Option V), σ = [some (.str src), some (.ref l), some (.ref rp), some (.int (i : Nat)), some (.str row), some (.int c), v6] ∧ Pt G H G' H' ∧ G' l = none ∧ G' rp = some (.lst (rs.map V.str)) ∧ H' l = some (.lst vs) ∧
          ToksAt a.C_Token G' vs ((tss.take i).flatten ++ done) ∧ ts = done ++ rem ∧ c ≤ (tl row).length ∧ Lx ((tl row).drop c) rem)
        (fun σ _ => match σ with | [_, _, _, _, _, some (.int e), _] => (tl row).length - e.toNat | _ => 0)
        ⟨0, G', vs, [], ts, _, rfl, B3, lG', hrp', by rw [upd_ne lT]; exact hvs, by rw [List.append_nil]; exact htk, rfl, Nat.zero_le _, hLx⟩ ?_ ?_
      · rintro σ H3 ⟨c, G3, vs3, done, rem, w6, rfl, C3, lG3, hrp3, hvs3, htk3, hdr, hc, hL⟩
        refine ⟨_, rfl, _, rfl, row, rfl, hz', _, _, rfl, rfl, _, rfl, ?_⟩
        refine ite2 (fun q => ?_) (fun q => ?_)
        · have q1 : c < (tl row).length := by
            have := of_decide_eq_true q
            rw [len_tl] at this
            omega
          have q2 : (tl row)[c]? = some ((tl row)[c]) := List.getElem?_eq_getElem q1
          have q3 : (tl row).drop c = (tl row)[c] :: (tl row).drop (c + 1) := List.drop_eq_getElem_cons q1
          refine ⟨_, rfl, _, rfl, row, _, (tl row)[c], rfl, rfl, hz', atI_nat q2, _, _, rfl, rfl, _, rfl, ?_⟩
          have hL0 := hL
          rw [q3] at hL0
          generalize hch : (tl row)[c] = ch at hL0 q3 ⊢
          cases hL0 with
          | sp hL1 =>
            refine ite_t (decide_eq_true (show 32 ∈ tl spcS by rw [spc_list]; decide)) ?_
            refine ⟨_, rfl, _, _, rfl, rfl, ⟨c + 1, G3, vs3, done, rem, _, rfl, C3, lG3, hrp3, hvs3, htk3, hdr, by omega, hL1⟩, ?_⟩
            show (tl row).length - ((c : Int) + 1).toNat < (tl row).length - ((c : Int)).toNat
            omega
          | @tok _ r tk rem' hR hL1 =>
            refine ite_f (decide_eq_false (nsp_rd hR)) ?_
            obtain ⟨hsp, hnt⟩ := rd_len hR
            have hR' : Rd ((tl row).drop c) tk r := by rw [q3]; exact hR
            refine ⟨_, rfl, _, rfl, _, rfl, ⟨row, i, c, G3, tk, r, rfl, by omega, hr30, hR', C3.s, fun G4 H4 v e4 s4 htok => ?_⟩⟩
            have C4 := C3.call e4 s4
            have hvs4 : H4 l = some (.lst vs3) := s4 _ _ hvs3
            have lG4 : G4 l = none := e4.out lG3 hvs3
            obtain ⟨p, dx, tl1, tc1, rfl, hp⟩ := id htok
            have hpH : H4 p = some (.ins a.C_Token dx (tokF tk tl1 tc1)) := e4.h _ _ hp
            have lp : p ≠ l := ne_of_none hp lG4
            have hsz : vs3.length ≤ 100000 := by
              rw [Paired.len htk3, List.length_append]
              have h1 := flat_le tss (i + 1)
              rw [flat_take hts, List.length_append, hdr, List.length_append] at h1
              omega
            refine ⟨_, rfl, .inl ⟨rfl, _, SqL.of hvs4⟩, _, rfl, l, _, _, rfl, rfl, hvs4, smaller 100000 hsz (by decide), ?_⟩
            have htl : tk.t.length + c ≤ (tl row).length := by
              have := congrArg List.length (q3.trans hsp)
              rw [List.length_drop, List.length_append] at this
              omega
            have hpos : 1 ≤ tk.t.length := by
              cases e : tk.t with
              | nil => exact absurd e hnt
              | cons _ _ => simp
            have ecol : (c : Int) + ((mkS tk.t).length : Int) = ((c + tk.t.length : Nat) : Int) := by rw [len_mkS]; omega
            refine ⟨_, rfl, _, rfl, p, _, dx, _, _, rfl, by rw [upd_ne lp]; exact hpH, T.cl_Token, T.n_Token_text, (by kernel_rfl), mkS tk.t, rfl, small 3000 (by rw [len_mkS]; omega) (by decide), _, _, rfl, rfl, ?_⟩
            refine ⟨⟨c + tk.t.length, G4, vs3 ++ [.ref p], done ++ [tk], rem', some (.ref p), ?_, C4.put hl lG4 _, lG4, e4.g _ _ hrp3, upd_same, ?_, ?_, by omega, ?_⟩, ?_⟩
            · show [some (V.str src), some (.ref l), some (.ref rp), some (.int (i : Nat)), some (.str row), some (.int ((c : Int) + ((mkS tk.t).length : Int))), some (.ref p)] = _
              rw [ecol]
            · rw [← List.append_assoc]
              exact Paired.snoc (ToksAt.mono e4.g htk3) htok
            · rw [hdr, List.append_assoc]; rfl
            · have : (tl row).drop (c + tk.t.length) = r := by
                rw [← List.drop_drop, q3, hsp, List.drop_left]
              rw [this]
              exact hL1
            · show (tl row).length - ((c : Int) + ((mkS tk.t).length : Int)).toNat < (tl row).length - ((c : Int)).toNat
              rw [ecol]
              omega
        · have q1 : ¬ (c : Int) < ((row.length : Nat) : Int) := fun z => q (decide_eq_true z)
          rw [len_tl] at q1
          have ec : (tl row).drop c = [] := List.drop_eq_nil_of_le (by omega)
          rw [ec] at hL
          have er : rem = [] := by
            generalize e0 : ([] : List Nat) = m at hL
            cases hL with
            | nil => rfl
            | sp _ => cases e0
            | tok hR _ =>
              obtain ⟨h1, h2⟩ := rd_len hR
              rw [← e0] at h1
              exact absurd (List.append_eq_nil_iff.mp h1.symm).1 h2
          refine ⟨G3, vs3, _, _, _, _, rfl, C3, lG3, hrp3, hvs3, ?_⟩
          rw [flat_take hts, hdr, er, List.append_nil]
          exact htk3
      · intro σ H Q Q' hq h
        obtain ⟨v, hv, x, hx, z, e, hz, i, j, e1, e2, b, e3, h⟩ := h
        exact ⟨v, hv, x, hx, z, e, hz, i, j, e1, e2, b, e3, hq _ _ h⟩
    · rintro σ H3 ⟨G3, vs3, v3, v4, v5, v6, rfl, C3, lG3, hrp3, hvs3, htk3⟩
      rw [List.length_map, hlen, ← hlen2, List.take_length] at htk3
      refine ⟨_, rfl, _, rfl, rp, _, rfl, .inl (SqL.of (C3.s _ _ hrp3)), fun x dx nx nd ne => init_go2 rfl ⟨rfl, ?_⟩⟩
      have C4 := C3.make nx nd ne (.ins a.C_Token dx ((["kind", "text", "line", "column"] : List Str).zip [.str (kS .fin), .str (Str.ofString ""), .int ((rs.map V.str).length : Nat), .int ((0 : Nat) : Int)]))
      have lx : l ≠ x := ne_of_none hvs3 nx
      have ldx : l ≠ dx := ne_of_none hvs3 nd
      refine ⟨(by show 1 ≤ sizeLine; decide), fun p1 hp1 => ?_⟩
      have C5 := C4.lay hp1 (.lst [.ref x])
      have lp1 : l ≠ p1 := fun e => by rw [← e, upd_ne lx, upd_ne ldx, hvs3] at hp1; cases hp1
      have hsz : vs3.length ≤ 100000 := by rw [Paired.len htk3]; exact hfl
      refine ⟨l, p1, vs3, _, rfl, rfl, by rw [upd_ne lp1, upd_ne lx, upd_ne ldx]; exact hvs3, upd_same, small 100001 (by show vs3.length + 1 ≤ _; omega) (by decide), fun p2 hp2 => ?_⟩
      have C6 := C5.new hp2 (.lst (vs3 ++ [.ref x]))
      refine k _ _ _ C6.ext C6.sm ⟨p2, _, rfl, upd_same, Paired.snoc (ToksAt.mono ((same_make (C3.freeG nx) (C3.freeG nd) ne _).trans (same_new (C5.freeG hp2))) htk3) (TokAt.mono (same_new (C5.freeG hp2)) (tok_mk (k := .fin) rfl t_e))⟩
end
end Sb

namespace Sb
open PySem PySem.Spec PyProof.Rows L2
/-! ### what the robots do, in plain Lean -/
structure Sit where
  cs : List Nat
  ns : List Nat
  hs : List Bool
  sh : List Nat
  deriving DecidableEq
def stepsOf (x : Pl) (i : Nat) : List Step := if i = 0 then x.p else x.q
/-- the number of what is done: a word's, or 8 for blocked -/
def actP (x : Pl) (s : Sit) (i : Nat) : Nat × Sit :=
  let st := (stepsOf x i).getD (s.ns.getD i 0) ⟨4, none⟩
  let c := s.cs.getD i 0
  let h := s.hs.getD i false
  let b := s.sh.getD c 0
  let go (c' : Nat) (h' : Bool) (sh' : List Nat) : Nat × Sit :=
    let n' := if st.w = 5 ∨ (st.w = 6 ∧ sh'.getD c' 0 = 0) ∨ (st.w = 7 ∧ h' = true) then st.g.getD 0 else (s.ns.getD i 0 + 1) % (stepsOf x i).length
    (st.w, ⟨s.cs.set i c', s.ns.set i n', s.hs.set i h', sh'⟩)
  match st.w with
  | 0 => if c = 0 ∨ c - 1 ∈ s.cs then (8, s) else go (c - 1) h s.sh
  | 1 => if s.sh.length ≤ c + 1 ∨ c + 1 ∈ s.cs then (8, s) else go (c + 1) h s.sh
  | 2 => if h = true ∨ b = 0 then (8, s) else go c true (s.sh.set c (b - 1))
  | 3 => if h = false ∨ 3 ≤ b then (8, s) else go c false (s.sh.set c (b + 1))
  | _ => go c h s.sh
def tickP (x : Pl) (s : Sit) : (Nat × Nat) × Sit :=
  let a := actP x s 0
  let b := actP x a.2 1
  ((a.1, b.1), b.2)
def sit0 (x : Pl) : Sit := ⟨[x.a, x.b], [0, 0], [false, false], x.shelf⟩
def sitAt (x : Pl) : Nat → Sit
  | 0 => sit0 x
  | n + 1 => (tickP x (sitAt x n)).2
structure SitOk (x : Pl) (s : Sit) : Prop where
  c2 : s.cs.length = 2
  n2 : s.ns.length = 2
  h2 : s.hs.length = 2
  len : s.sh.length = x.shelf.length
  b3 : ∀ n ∈ s.sh, n ≤ 3
  cl : ∀ i, i < 2 → s.cs.getD i 0 < s.sh.length
  ne : s.cs.getD 0 0 ≠ s.cs.getD 1 0
  nl : ∀ i, i < 2 → s.ns.getD i 0 < (stepsOf x i).length
theorem sit0_ok {x : Pl} (h : x.Ok) : SitOk x (sit0 x) := by
  refine ⟨rfl, rfl, rfl, rfl, h.b3, fun i hi => ?_, h.ne, fun i hi => ?_⟩
  · match i, hi with
    | 0, _ => exact h.ha
    | 1, _ => exact h.hb
    | i + 2, hi => exact absurd hi (by omega)
  · match i, hi with
    | 0, _ => exact h.p.pos
    | 1, _ => exact h.q.pos
    | i + 2, hi => exact absurd hi (by omega)
theorem getD_set {α : Type} {l : List α} {i j : Nat} {v d : α} (hi : i < l.length) : (l.set i v).getD j d = if j = i then v else l.getD j d := by
  rw [List.getD_eq_getElem?_getD, List.getD_eq_getElem?_getD]
  by_cases h : j = i
  · subst h
    rw [if_pos rfl, List.getElem?_set_self hi]
    rfl
  · rw [if_neg h, List.getElem?_set_ne (Ne.symm h)]
theorem mem_cs {s : Sit} (h : s.cs.length = 2) {n : Nat} : n ∈ s.cs ↔ n = s.cs.getD 0 0 ∨ n = s.cs.getD 1 0 := by
  match hc : s.cs, h with
  | [a, b], _ => simp
/-- a state after a step that is done -/
theorem go_ok {x : Pl} {s : Sit} {i c' n' : Nat} {h' : Bool} {sh' : List Nat} (o : SitOk x s) (hi : i < 2) (hc : c' < s.sh.length) (hne : ∀ j, j < 2 → j ≠ i → s.cs.getD j 0 ≠ c') (hn : n' < (stepsOf x i).length) (hl : sh'.length = s.sh.length) (hb : ∀ n ∈ sh', n ≤ 3) :
    SitOk x ⟨s.cs.set i c', s.ns.set i n', s.hs.set i h', sh'⟩ := by
  have i1 : i < s.cs.length := by rw [o.c2]; exact hi
  have i2 : i < s.ns.length := by rw [o.n2]; exact hi
  refine ⟨by rw [List.length_set]; exact o.c2, by rw [List.length_set]; exact o.n2, by rw [List.length_set]; exact o.h2, hl.trans o.len, hb, fun j hj => ?_, ?_, fun j hj => ?_⟩
  · show (s.cs.set i c').getD j 0 < sh'.length
    rw [getD_set i1, hl]
    split
    · exact hc
    · exact o.cl j hj
  · show (s.cs.set i c').getD 0 0 ≠ (s.cs.set i c').getD 1 0
    rw [getD_set i1, getD_set i1]
    match i, hi with
    | 0, _ => exact fun e => hne 1 (by decide) (by decide) e.symm
    | 1, _ => exact fun e => hne 0 (by decide) (by decide) e
    | i + 2, hi => exact absurd hi (by omega)
  · show (s.ns.set i n').getD j 0 < _
    rw [getD_set i2]
    by_cases h : j = i
    · rw [if_pos h, h]; exact hn
    · rw [if_neg h]; exact o.nl j hj
theorem steps_ok {x : Pl} (h : x.Ok) (i : Nat) : StepsOk (stepsOf x i) := by
  unfold stepsOf
  split
  · exact h.p
  · exact h.q
theorem act_ok {x : Pl} {s : Sit} {i : Nat} (hx : x.Ok) (o : SitOk x s) (hi : i < 2) : SitOk x (actP x s i).2 := by
  have so := steps_ok hx i
  have nl := o.nl i hi
  have cl := o.cl i hi
  have hpos := so.pos
  have hst : (stepsOf x i).getD (s.ns.getD i 0) ⟨4, none⟩ ∈ stepsOf x i := by
    rw [List.getD_eq_getElem?_getD, List.getElem?_eq_getElem nl]
    exact List.getElem_mem _
  have ok := so.all _ hst
  unfold actP
  generalize (stepsOf x i).getD (s.ns.getD i 0) ⟨4, none⟩ = st at ok
  have hb3 : s.sh.getD (s.cs.getD i 0) 0 ≤ 3 := by
    rw [List.getD_eq_getElem?_getD, List.getElem?_eq_getElem cl]
    exact o.b3 _ (List.getElem_mem _)
  have hn : ∀ (p : Prop) [Decidable p], (p → 5 ≤ st.w) → (if p then st.g.getD 0 else (s.ns.getD i 0 + 1) % (stepsOf x i).length) < (stepsOf x i).length := fun p _ hp => by
    split
    · rename_i hp'
      obtain ⟨k, e, hk⟩ := ok.yes (hp hp')
      rw [e]
      exact hk
    · exact Nat.mod_lt _ (by omega)
  have other : ∀ j, j < 2 → j ≠ i → s.cs.getD j 0 ≠ s.cs.getD i 0 := fun j hj hji => by
    match i, hi, j, hj with
    | 0, _, 0, _ => exact absurd rfl hji
    | 0, _, 1, _ => exact fun e => o.ne e.symm
    | 1, _, 0, _ => exact o.ne
    | 1, _, 1, _ => exact absurd rfl hji
  have mem : ∀ j, j < 2 → s.cs.getD j 0 ∈ s.cs := fun j hj => by
    rw [mem_cs o.c2]
    match j, hj with
    | 0, _ => exact .inl rfl
    | 1, _ => exact .inr rfl
  have setb : ∀ v, v ≤ 3 → ∀ n ∈ s.sh.set (s.cs.getD i 0) v, n ≤ 3 := fun v hv n hn => by
    rcases List.mem_or_eq_of_mem_set hn with h | h
    · exact o.b3 n h
    · rw [h]; exact hv
  have gp : ∀ {sh' : List Nat} {c' : Nat} {h' : Bool}, (st.w = 5 ∨ (st.w = 6 ∧ sh'.getD c' 0 = 0) ∨ (st.w = 7 ∧ h' = true)) → 5 ≤ st.w := fun h => by
    rcases h with h | h | h <;> omega
  dsimp only
  split
  · split
    · exact o
    · rename_i hc
      simp only [not_or] at hc
      exact go_ok o hi (by omega) (fun j hj hji e => hc.2 (by rw [← e]; exact mem j hj)) (hn _ gp) rfl o.b3
  · split
    · exact o
    · rename_i hc
      simp only [not_or] at hc
      exact go_ok o hi (by omega) (fun j hj hji e => hc.2 (by rw [← e]; exact mem j hj)) (hn _ gp) rfl o.b3
  · split
    · exact o
    · exact go_ok o hi cl other (hn _ gp) (List.length_set ..) (setb _ (by omega))
  · split
    · exact o
    · rename_i hc
      simp only [not_or] at hc
      exact go_ok o hi cl other (hn _ gp) (List.length_set ..) (setb _ (by omega))
  · exact go_ok o hi cl other (hn _ gp) rfl o.b3
theorem tick_ok {x : Pl} {s : Sit} (hx : x.Ok) (o : SitOk x s) : SitOk x (tickP x s).2 := act_ok hx (act_ok hx o (by decide)) (by decide)
theorem sitAt_ok {x : Pl} (hx : x.Ok) : ∀ n, SitOk x (sitAt x n)
  | 0 => sit0_ok hx
  | n + 1 => tick_ok hx (sitAt_ok hx n)
end Sb

namespace Sb
open PySem PySem.Spec PyProof.Rows L2
/-! ### when a state comes again -/
theorem sit_shift {x : Pl} {i j : Nat} (h : sitAt x i = sitAt x j) : ∀ k, sitAt x (i + k) = sitAt x (j + k)
  | 0 => h
  | k + 1 => by
    show (tickP x (sitAt x (i + k))).2 = (tickP x (sitAt x (j + k))).2
    rw [sit_shift h k]
theorem sit_rounds {x : Pl} {i p : Nat} (h : sitAt x i = sitAt x (i + p)) : ∀ m, sitAt x i = sitAt x (i + p * m)
  | 0 => rfl
  | m + 1 => by
    have := sit_shift h (p * m)
    rw [Nat.mul_succ, ← sit_rounds h m] at *
    rw [this]
    congr 1
    omega
/-- from the start i on all repeats after n - i ticks -/
theorem sit_mod {x : Pl} {i n t : Nat} (hin : i < n) (h : sitAt x i = sitAt x n) (ht : i ≤ t) : sitAt x t = sitAt x (i + (t - i) % (n - i)) := by
  have h' : sitAt x i = sitAt x (i + (n - i)) := by rw [h]; congr 1; omega
  have r := sit_rounds h' ((t - i) / (n - i))
  have s := sit_shift r ((t - i) % (n - i))
  rw [s]
  congr 1
  have := Nat.div_add_mod (t - i) (n - i)
  omega
/-- the first n states differ, the n-th is the one at i -/
structure Cyc (x : Pl) (i n : Nat) : Prop where
  lt : i < n
  eq : sitAt x i = sitAt x n
  nd : ∀ j k, j < n → k < n → sitAt x j = sitAt x k → j = k
theorem Cyc.uniq {x : Pl} {i n i' n' : Nat} (a : Cyc x i n) (b : Cyc x i' n') : i = i' ∧ n = n' := by
  have hn : n = n' := by
    rcases Nat.lt_trichotomy n n' with h | h | h
    · have := b.nd i n (by have := a.lt; omega) h a.eq
      have := a.lt
      omega
    · exact h
    · have := a.nd i' n' (by have := b.lt; omega) h b.eq
      have := b.lt
      omega
  subst hn
  exact ⟨a.nd i i' a.lt b.lt (a.eq.trans b.eq.symm), rfl⟩
end Sb

namespace Sb
open PySem PySem.Spec PyProof.Rows L2
/-! ### one step, way by way -/
def stOf (x : Pl) (s : Sit) (i : Nat) : Step := (stepsOf x i).getD (s.ns.getD i 0) ⟨4, none⟩
def cOf (s : Sit) (i : Nat) : Nat := s.cs.getD i 0
abbrev jumpP (x : Pl) (s : Sit) (i : Nat) (hs' : List Bool) (sh' : List Nat) : Prop := (stOf x s i).w = 5 ∨ ((stOf x s i).w = 6 ∧ sh'.getD (cOf s i) 0 = 0) ∨ ((stOf x s i).w = 7 ∧ hs'.getD i false = true)
def nextP (x : Pl) (s : Sit) (i : Nat) (hs' : List Bool) (sh' : List Nat) : Nat := if jumpP x s i hs' sh' then (stOf x s i).g.getD 0 else (s.ns.getD i 0 + 1) % (stepsOf x i).length
def finP (x : Pl) (s : Sit) (i : Nat) (cs' : List Nat) (hs' : List Bool) (sh' : List Nat) : Nat × Sit := ((stOf x s i).w, ⟨cs', s.ns.set i (nextP x s i hs' sh'), hs', sh'⟩)
theorem set_same {α : Type} {l : List α} {i : Nat} {d : α} : l.set i (l.getD i d) = l := by
  by_cases h : i < l.length
  · rw [List.getD_eq_getElem?_getD, List.getElem?_eq_getElem h]
    exact List.set_getElem_self h
  · rw [List.set_eq_of_length_le (by omega)]
section
variable {x : Pl} {s : Sit} {i : Nat}
theorem act_left (h : (stOf x s i).w = 0) : actP x s i = if cOf s i = 0 ∨ cOf s i - 1 ∈ s.cs then (8, s) else finP x s i (s.cs.set i (cOf s i - 1)) s.hs s.sh := by
  unfold actP finP nextP jumpP cOf
  unfold stOf at h ⊢
  generalize (stepsOf x i).getD (s.ns.getD i 0) ⟨4, none⟩ = st at h ⊢
  obtain ⟨w, g⟩ := st
  dsimp only at h
  subst h
  dsimp only
  simp only [set_same, show ¬ ((0 : Nat) = 5) by decide, show ¬ ((0 : Nat) = 6) by decide, show ¬ ((0 : Nat) = 7) by decide, false_and, false_or, or_false, if_false]
theorem act_right (h : (stOf x s i).w = 1) : actP x s i = if s.sh.length ≤ cOf s i + 1 ∨ cOf s i + 1 ∈ s.cs then (8, s) else finP x s i (s.cs.set i (cOf s i + 1)) s.hs s.sh := by
  unfold actP finP nextP jumpP cOf
  unfold stOf at h ⊢
  generalize (stepsOf x i).getD (s.ns.getD i 0) ⟨4, none⟩ = st at h ⊢
  obtain ⟨w, g⟩ := st
  dsimp only at h
  subst h
  dsimp only
  simp only [set_same, show ¬ ((1 : Nat) = 5) by decide, show ¬ ((1 : Nat) = 6) by decide, show ¬ ((1 : Nat) = 7) by decide, false_and, false_or, or_false, if_false]
theorem act_pick (h : (stOf x s i).w = 2) : actP x s i = if s.hs.getD i false = true ∨ s.sh.getD (cOf s i) 0 = 0 then (8, s) else finP x s i s.cs (s.hs.set i true) (s.sh.set (cOf s i) (s.sh.getD (cOf s i) 0 - 1)) := by
  unfold actP finP nextP jumpP cOf
  unfold stOf at h ⊢
  generalize (stepsOf x i).getD (s.ns.getD i 0) ⟨4, none⟩ = st at h ⊢
  obtain ⟨w, g⟩ := st
  dsimp only at h
  subst h
  dsimp only
  simp only [set_same, show ¬ ((2 : Nat) = 5) by decide, show ¬ ((2 : Nat) = 6) by decide, show ¬ ((2 : Nat) = 7) by decide, false_and, false_or, or_false, if_false]
theorem act_put (h : (stOf x s i).w = 3) : actP x s i = if s.hs.getD i false = false ∨ 3 ≤ s.sh.getD (cOf s i) 0 then (8, s) else finP x s i s.cs (s.hs.set i false) (s.sh.set (cOf s i) (s.sh.getD (cOf s i) 0 + 1)) := by
  unfold actP finP nextP jumpP cOf
  unfold stOf at h ⊢
  generalize (stepsOf x i).getD (s.ns.getD i 0) ⟨4, none⟩ = st at h ⊢
  obtain ⟨w, g⟩ := st
  dsimp only at h
  subst h
  dsimp only
  simp only [set_same, show ¬ ((3 : Nat) = 5) by decide, show ¬ ((3 : Nat) = 6) by decide, show ¬ ((3 : Nat) = 7) by decide, false_and, false_or, or_false, if_false]
theorem act_else (h : 4 ≤ (stOf x s i).w) : actP x s i = finP x s i s.cs s.hs s.sh := by
  unfold actP finP nextP jumpP cOf
  unfold stOf at h ⊢
  dsimp only
  split
  · omega
  · omega
  · omega
  · omega
  · rw [set_same, set_same]
end
theorem st_mem {x : Pl} {s : Sit} {i : Nat} (o : SitOk x s) (hi : i < 2) : (stepsOf x i)[s.ns.getD i 0]? = some (stOf x s i) ∧ stOf x s i ∈ stepsOf x i := by
  have nl := o.nl i hi
  have e : (stepsOf x i)[s.ns.getD i 0]? = some (stOf x s i) := by
    unfold stOf
    rw [List.getD_eq_getElem?_getD (l := stepsOf x i), List.getElem?_eq_getElem nl]
    rfl
  exact ⟨e, List.mem_of_getElem? e⟩
theorem st_ok {x : Pl} {s : Sit} {i : Nat} (hx : x.Ok) (o : SitOk x s) (hi : i < 2) : Step.Ok (stepsOf x i).length (stOf x s i) := (steps_ok hx i).all _ (st_mem o hi).2
theorem next_lt {x : Pl} {s : Sit} {i : Nat} {hs' : List Bool} {sh' : List Nat} (hx : x.Ok) (o : SitOk x s) (hi : i < 2) : nextP x s i hs' sh' < (stepsOf x i).length := by
  have ok := st_ok hx o hi
  have pos := (steps_ok hx i).pos
  unfold nextP
  split
  · rename_i h
    have h5 : 5 ≤ (stOf x s i).w := by unfold jumpP at h; rcases h with h | h | h <;> omega
    obtain ⟨k, e, hk⟩ := ok.yes h5
    rw [e]; exact hk
  · exact Nat.mod_lt _ (by omega)
/-- the other robot's cell -/
theorem mem_other {x : Pl} {s : Sit} {i n : Nat} (o : SitOk x s) (hi : i < 2) (hn : n ≠ cOf s i) : n ∈ s.cs ↔ n = s.cs.getD (1 - i) 0 := by
  rw [mem_cs o.c2]
  unfold cOf at hn
  match i, hi with
  | 0, _ => exact ⟨fun h => h.resolve_left hn, .inr⟩
  | 1, _ => exact ⟨fun h => h.resolve_right hn, .inl⟩
/-! ### what is done, as a text -/
def doS (w : Nat) : Str := if w = 8 then "blocked" else wS w
theorem doS8 : doS 8 = "blocked" := rfl
theorem doS_lt {w : Nat} (h : w < 8) : doS w = wS w := if_neg (by omega)
theorem act_w {x : Pl} {s : Sit} {i : Nat} (hx : x.Ok) (o : SitOk x s) (hi : i < 2) : (actP x s i).1 ≤ 8 := by
  have w8 := (st_ok hx o hi).w8
  match h : (stOf x s i).w with
  | 0 => rw [act_left h]; split; exact Nat.le_refl 8; show (stOf x s i).w ≤ 8; omega
  | 1 => rw [act_right h]; split; exact Nat.le_refl 8; show (stOf x s i).w ≤ 8; omega
  | 2 => rw [act_pick h]; split; exact Nat.le_refl 8; show (stOf x s i).w ≤ 8; omega
  | 3 => rw [act_put h]; split; exact Nat.le_refl 8; show (stOf x s i).w ≤ 8; omega
  | n + 4 => rw [act_else (by omega)]; show (stOf x s i).w ≤ 8; omega
/-! ### a state as data of the law: four lists -/
def natsD (l : List Nat) : PyData := .list (l.map natD)
def boolsD (l : List Bool) : PyData := .list (l.map PyData.bool)
def sitL (s : Sit) : PyData := .list [natsD s.cs, natsD s.ns, boolsD s.hs, natsD s.sh]
def wordsD (w : Nat × Nat) : PyData := .tuple [.str (doS w.1), .str (doS w.2)]
abbrev nV (l : List Nat) : List V := l.map fun n : Nat => V.int n
abbrev bV (l : List Bool) : List V := l.map V.bl
section
variable {K : PySem.W.Frag} {G : Hp}
theorem bools_D (l : List Bool) : DpAll K G (bV l) (l.map PyData.bool) := by
  induction l with
  | nil => exact .nil
  | cons n l ih => exact .cons (.bl _) ih
theorem bools_inv : ∀ {l : List Bool} {vs : List V}, DpAll K G vs (l.map PyData.bool) → vs = bV l
  | [], _, .nil => rfl
  | _ :: _, _, .cons h t => by rw [Dp.bool_inv h, bools_inv t]; rfl
theorem nats_D' (l : List Nat) : DpAll K G (nV l) (l.map natD) := by
  induction l with
  | nil => exact .nil
  | cons n l ih => exact .cons (.int _) ih
theorem nats_inv' : ∀ {l : List Nat} {vs : List V}, DpAll K G vs (l.map natD) → vs = nV l
  | [], _, .nil => rfl
  | _ :: _, _, .cons h t => by rw [Dp.int_inv h, nats_inv' t]; rfl
theorem natsD_inv {l : List Nat} {v : V} (h : Dp K G v (natsD l)) : ∃ a, v = .ref a ∧ SqL K G a (nV l) := by
  obtain ⟨a, xs, e, h1, h2⟩ := Dp.lst_inv h
  rw [nats_inv' h2] at h1
  exact ⟨a, e, h1⟩
theorem boolsD_inv {l : List Bool} {v : V} (h : Dp K G v (boolsD l)) : ∃ a, v = .ref a ∧ SqL K G a (bV l) := by
  obtain ⟨a, xs, e, h1, h2⟩ := Dp.lst_inv h
  rw [bools_inv h2] at h1
  exact ⟨a, e, h1⟩
theorem sitL_inv {s : Sit} {v : V} (h : Dp K G v (sitL s)) : ∃ a c n b e, v = .ref a ∧ SqL K G a [.ref c, .ref n, .ref b, .ref e] ∧ SqL K G c (nV s.cs) ∧ SqL K G n (nV s.ns) ∧ SqL K G b (bV s.hs) ∧ SqL K G e (nV s.sh) := by
  obtain ⟨a, xs, e, h1, h2⟩ := Dp.lst_inv h
  obtain ⟨v1, r, rfl, d1, h2⟩ := DpAll.cons_inv h2
  obtain ⟨v2, r, rfl, d2, h2⟩ := DpAll.cons_inv h2
  obtain ⟨v3, r, rfl, d3, h2⟩ := DpAll.cons_inv h2
  obtain ⟨v4, r, rfl, d4, h2⟩ := DpAll.cons_inv h2
  rw [DpAll.nil_inv h2] at h1
  obtain ⟨c, rfl, c1⟩ := natsD_inv d1
  obtain ⟨n, rfl, n1⟩ := natsD_inv d2
  obtain ⟨b, rfl, b1⟩ := boolsD_inv d3
  obtain ⟨f, rfl, f1⟩ := natsD_inv d4
  exact ⟨a, c, n, b, f, e, h1, c1, n1, b1, f1⟩
theorem sitL_mk {s : Sit} {a c n b e : Addr} (h : SqL K G a [.ref c, .ref n, .ref b, .ref e]) (h1 : SqL K G c (nV s.cs)) (h2 : SqL K G n (nV s.ns)) (h3 : SqL K G b (bV s.hs)) (h4 : SqL K G e (nV s.sh)) : Dp K G (.ref a) (sitL s) :=
  .lst h (.cons (.lst h1 (nats_D' _)) (.cons (.lst h2 (nats_D' _)) (.cons (.lst h3 (bools_D _)) (.cons (.lst h4 (nats_D' _)) .nil))))
end
theorem nV_at {l : List Nat} {i : Nat} (h : i < l.length) : (nV l)[i]? = some (.int (l.getD i 0 : Nat)) := by
  rw [List.getElem?_map, List.getElem?_eq_getElem h, List.getD_eq_getElem?_getD, List.getElem?_eq_getElem h]
  rfl
theorem bV_at {l : List Bool} {i : Nat} (h : i < l.length) : (bV l)[i]? = some (.bl (l.getD i false)) := by
  rw [List.getElem?_map, List.getElem?_eq_getElem h, List.getD_eq_getElem?_getD, List.getElem?_eq_getElem h]
  rfl
theorem nV_set {l : List Nat} {i n : Nat} : (nV l).set i (.int (n : Nat)) = nV (l.set i n) := by rw [nV, nV, List.map_set]
theorem bV_set {l : List Bool} {i : Nat} {b : Bool} : (bV l).set i (.bl b) = bV (l.set i b) := by rw [bV, bV, List.map_set]
end Sb

namespace Sb
open PySem PySem.Spec PyProof.Rows L2
/-! ### dicts whose keys are nested tuples -/
mutual
inductive Nk : PyData → NestedKey → Prop
  | int (i : Int) : Nk (.int i) (.num i)
  | bool (b : Bool) : Nk (.bool b) (.num (if b = true then 1 else 0))
  | none : Nk .none .none
  | text (x : Str) : Nk (.str x) (.text x)
  | tup {ds : List PyData} {ks : List NestedKey} : NkAll ds ks → Nk (.tuple ds) (.tup ks)
inductive NkAll : List PyData → List NestedKey → Prop
  | nil : NkAll [] []
  | cons {d : PyData} {k : NestedKey} {ds : List PyData} {ks : List NestedKey} : Nk d k → NkAll ds ks → NkAll (d :: ds) (k :: ks)
end
section
variable {X : Cx} {pins : List (Addr × Obj)} {σ : L2.St} {H : Hp} {s : Shared}
mutual
theorem nk_is (I : Inv X pins σ H s) : ∀ {d : PyData} {k : NestedKey} {v : V} {u : Value}, Nk d k → Dp X.K H v d → RelV v u → NestedIs s.heap k u
  | _, _, _, _, .int i, .int _, r => by obtain ⟨t, rfl⟩ := r; exact .int i t
  | _, _, _, _, .bool b, .bl _, r => by cases r; exact .bool rfl
  | _, _, _, _, .none, .non, r => by cases r; exact .none
  | _, _, _, _, .text x, .str _, r => by obtain ⟨t, rfl⟩ := r; exact .text x t
  | _, _, _, _, .tup h, .tup hs ha, r => by
    cases r
    obtain ⟨its, rv, ⟨o, e, c, n, hd⟩, _⟩ := I.tuple hs
    exact .tup e c hd (nk_all I h ha rv)
theorem nk_all (I : Inv X pins σ H s) : ∀ {ds : List PyData} {ks : List NestedKey} {vs : List V} {us : List Value}, NkAll ds ks → DpAll X.K H vs ds → Vals vs us → NestedAll s.heap ks us
  | _, _, _, _, .nil, .nil, .nil => .nil
  | _, _, _, _, .cons h t, .cons a b, .cons r q => .cons (nk_is I h a r) (nk_all I t b q)
end
end
abbrev Ents := List (NestedKey × Addr × V)
def EntR (p : NestedKey × Addr × V) (q : NestedKey × Addr × Value) : Prop := p.1 = q.1 ∧ p.2.1 = q.2.1 ∧ RelV p.2.2 q.2.2
def dNO (P : Program) (w : World) (a : Addr) (xs : Ents) : HO := .ext fun h => (a == sysModules) = false ∧ ∃ (ys : List (NestedKey × Addr × Value)) (o : Obj) (es : Array DictEntry) (ep : Nat), Paired EntR xs ys ∧
  h.get? a = some o ∧ o.ExactDict ∧ o.data = .dict es ep ∧ es.toList = ys.map (entryOfKey (nestedKind P w)) ∧ (ys.map (·.1)).Nodup
structure DN (P : Program) (w : World) (K : PySem.W.Frag) (H : Hp) (a : Addr) (xs : Ents) : Prop where
  at_ : H a = some (dNO P w a xs)
  ks : ∀ x ∈ xs, ∃ d, Dp K H (.ref x.2.1) d ∧ Nk d x.1 ∧ x.1.depth ≤ 8
theorem ent_keys : ∀ {xs : Ents} {ys : List (NestedKey × Addr × Value)}, Paired EntR xs ys → ys.map (·.1) = xs.map (·.1) ∧ ys.map (·.2.1) = xs.map (·.2.1)
  | _, _, .nil => ⟨rfl, rfl⟩
  | _, _, .cons r t => by
    obtain ⟨h1, h2⟩ := ent_keys t
    simp only [List.map_cons]
    exact ⟨by rw [h1, r.1], by rw [h2, r.2.1]⟩
theorem ent_mem : ∀ {xs : Ents} {ys : List (NestedKey × Addr × Value)} {y : NestedKey × Addr × Value}, Paired EntR xs ys → y ∈ ys → ∃ x ∈ xs, x.1 = y.1 ∧ x.2.1 = y.2.1
  | _, _, _, .cons r t, h => by
    rcases List.mem_cons.mp h with rfl | h
    · exact ⟨_, List.mem_cons_self, r.1, r.2.1⟩
    · obtain ⟨x, hx, e⟩ := ent_mem t h
      exact ⟨x, List.mem_cons_of_mem _ hx, e⟩
theorem atKey_some (ys : List (NestedKey × Addr × Value)) (k : NestedKey) : (atKey ys k).isSome = decide (k ∈ ys.map (·.1)) := by
  unfold atKey
  rw [Option.isSome_map]
  induction ys with
  | nil => rfl
  | cons y r ih =>
    rw [List.find?_cons]
    by_cases h : y.1 = k
    · simp [h]
    · have h' : ¬ k = y.1 := fun e => h e.symm
      simp only [h, decide_false, List.map_cons, List.mem_cons, h', false_or]
      exact ih
section
variable {X : Cx} {pins : List (Addr × Obj)} {σ : L2.St} {H : Hp} {s : Shared}
theorem dn_heap {a : Addr} {xs : Ents} (I : Inv X pins σ H s) (h : DN X.prog X.w X.K H a xs) : (a == sysModules) = false ∧ ∃ ys, Paired EntR xs ys ∧ s.heap.DictOfH (nestedKind X.prog X.w) a ys := by
  obtain ⟨⟨ha, ys, o, es, ep, r, h1, h2, h3, h4, h5⟩, _⟩ := (show ObjOk X.prog X.w H s.heap a (dNO X.prog X.w a xs) from I.hok a _ h.at_)
  refine ⟨ha, ys, r, o, es, ep, h1, h2, h3, h4, fun y hy => ?_, h5⟩
  obtain ⟨x, hx, e1, e2⟩ := ent_mem r hy
  obtain ⟨d, h6, h7, h8⟩ := h.ks x hx
  rw [← e1, ← e2]
  exact ⟨nk_is I h7 h6 rfl, h8⟩
theorem dn_ok {P : Program} {w : World} {H : Hp} {h : Heap} {a : Addr} {xs : Ents} {ys : List (NestedKey × Addr × Value)} (ha : (a == sysModules) = false) (r : Paired EntR xs ys) (hd : h.DictOfH (nestedKind P w) a ys) : ObjOk P w H h a (dNO P w a xs) := by
  obtain ⟨o, es, ep, h1, h2, h3, h4, _, h5⟩ := hd
  refine ⟨⟨ha, ys, o, es, ep, r, h1, h2, h3, h4, h5⟩, ⟨o, h1⟩, fun g1 g2 z k => ?_⟩
  obtain ⟨ha, ys, o, es, ep, r, h1, h2⟩ := z
  exact ⟨ha, ys, o, es, ep, r, k o h1, h2⟩
/-- {} -/
def tDNewN (P : Program) (w : World) : TE := fun _ H Q => ∀ p, H p = none → Q (.ref p) (upd H p (dNO P w p []))
theorem pe_dnewN {pos : Pos} : PE X (.Dict [] [] pos) (tDNewN X.prog X.w) := ⟨fun pins s σ H Q I h =>
  wpAny_Dict_empty ⟨.ref s.heap.objs.size, _, I.laid (a := s.heap.objs.size) (o := dNO X.prog X.w s.heap.objs.size []) (t' := s.toks) (fun _ _ q => Heap.get?_push_of_some _ q) (Nat.le_refl _) (dn_ok (beq_eq_false_iff_ne.mpr (Ne.symm (Nat.ne_of_lt I.big))) .nil (Heap.DictOfH.new s.heap)), rfl, h _ (I.hok.fresh (Nat.le_refl _))⟩⟩
/-- key in d -/
def rInN (P : Program) (w : World) (K : PySem.W.Frag) : R2 := fun x y H Q => ∃ (a b : Addr) (xs : Ents) (d : PyData) (k : NestedKey), x = .ref b ∧ y = .ref a ∧ DN P w K H a xs ∧ Dp K H (.ref b) d ∧ Nk d k ∧ k.depth ≤ 8 ∧ Q (.bl (decide (k ∈ xs.map (·.1)))) H
theorem op_inN (hu : X.A.units + 64 < cLine) : OpR X (compareOp .In) (rInN X.prog X.w X.K) := by
  intro pins s σ H x y v u Q I rx ry h
  obtain ⟨a, b, xs, d, k, rfl, rfl, hD, hd, hk, h8, q⟩ := h
  cases rx
  cases ry
  obtain ⟨ha, ys, r, hm⟩ := dn_heap I hD
  refine wpAny_in_heap (knd := nestedKind X.prog X.w) (k := k) (by show X.A.units + 1 + 8 < cLine; omega) ⟨nk_is I hk hd rfl, h8⟩ ha hm ?_
  rw [atKey_some, (ent_keys r).1]
  exact ⟨.bl _, H, I.tok _, rfl, q⟩
/-- d[key] = v, a new key -/
def rSetN (P : Program) (w : World) (K : PySem.W.Frag) : V → V → V → Hp → (Hp → Prop) → Prop := fun o i v H Q => ∃ (a b : Addr) (xs : Ents) (d : PyData) (k : NestedKey), o = .ref a ∧ i = .ref b ∧ DN P w K H a xs ∧ Dp K H (.ref b) d ∧ Nk d k ∧ k.depth ≤ 8 ∧
  k ∉ xs.map (·.1) ∧ xs.length ≤ sizeLine ∧ Q (upd H a (dNO P w a (xs ++ [(k, b, v)])))
theorem Paired.snocN {α β : Type} {F : α → β → Prop} : ∀ {l : List α} {m : List β} {x : α} {y : β}, Paired F l m → F x y → Paired F (l ++ [x]) (m ++ [y])
  | _, _, _, _, .nil, h => .cons h .nil
  | _, _, _, _, .cons r t, h => .cons r (Paired.snocN t h)
theorem set_newN (hu : X.A.units + 64 < cLine) : PSet X (rSetN X.prog X.w X.K) := by
  intro pins s σ H o i v ov iv u Q I ro ri rv h
  obtain ⟨a, b, xs, d, k, rfl, rfl, hD, hd, hk, h8, hno, hz, q⟩ := h
  cases ro
  cases ri
  obtain ⟨ha, ys, r, hm⟩ := dn_heap I hD
  refine wpAny_setItem_heap (knd := nestedKind X.prog X.w) (k := k) (by show X.A.units + 1 + 8 < cLine; omega) ⟨nk_is I hk hd rfl, h8⟩ hm (fun h' hm' hs => ⟨_, ?_, q⟩) (by rw [← Paired.length r]; exact hz)
  have hat : atKey ys k = none := by
    have := atKey_some ys k
    rw [(ent_keys r).1, decide_eq_false hno] at this
    cases e : atKey ys k with
    | none => rfl
    | some z => rw [e] at this; cases this
  rw [storedH_new hat] at hm'
  have new : ObjOk X.prog X.w (upd H a (dNO X.prog X.w a (xs ++ [(k, b, v)]))) h' a (dNO X.prog X.w a (xs ++ [(k, b, v)])) := dn_ok ha (Paired.snocN r ⟨rfl, rfl, rv⟩) hm'
  refine I.write (x := a) (e := a) (by rw [hD.at_]; exact trivial) (.inl rfl) (fun c o hc e => (hs.2 c hc).trans e) ?_ new
  obtain ⟨o, es, ep, e, _⟩ := hm'
  exact ⟨o, e⟩
theorem ent_at : ∀ {xs : Ents} {ys : List (NestedKey × Addr × Value)} {x : NestedKey × Addr × V}, Paired EntR xs ys → (xs.map (·.1)).Nodup → x ∈ xs → ∃ p, atKey ys x.1 = some p ∧ RelV x.2.2 p.2
  | x0 :: _, y0 :: _, x, .cons r t, hn, h => by
    unfold atKey
    rw [List.find?_cons]
    by_cases e : y0.1 = x.1
    · rw [decide_eq_true e]
      refine ⟨y0.2, rfl, ?_⟩
      rcases List.mem_cons.mp h with rfl | h
      · exact r.2.2
      · exfalso
        rw [List.map_cons, List.nodup_cons] at hn
        exact hn.1 (by rw [r.1, e]; exact List.mem_map.mpr ⟨x, h, rfl⟩)
    · rw [decide_eq_false e]
      rcases List.mem_cons.mp h with rfl | h
      · exact absurd r.1.symm e
      · rw [List.map_cons, List.nodup_cons] at hn
        exact ent_at t hn.2 h
/-- d[key], a key that is there -/
def tDGetN (P : Program) (w : World) (K : PySem.W.Frag) (td ty : TE) : TE := fun σ H Q => td σ H fun x H1 => ty σ H1 fun y H2 => ∃ (a b : Addr) (xs : Ents) (d : PyData) (z : NestedKey × Addr × V), x = .ref a ∧ y = .ref b ∧ DN P w K H2 a xs ∧ Dp K H2 (.ref b) d ∧ Nk d z.1 ∧ z.1.depth ≤ 8 ∧ z ∈ xs ∧ Q z.2.2 H2
theorem pe_dgetN {o i : Expr} {td ty : TE} {pos : Pos} (hu : X.A.units + 64 < cLine) (ho : PE X o td) (hi : PE X i ty) (hs : NoSl i) : PE X (.Subscript o i pos) (tDGetN X.prog X.w X.K td ty) := by
  refine ⟨fun pins s σ H Q I h => ?_⟩
  refine subD_of PySem.F.slot_dict_getitem.lookup hs (thn (ho.run pins s σ H _ I h) fun u s1 q => ?_)
  obtain ⟨x, H1, I1, rx, q1⟩ := q
  refine thn (hi.run pins s1 σ H1 _ I1 q1) fun iv s2 q => ?_
  obtain ⟨y, H2, I2, ry, a, b, xs, d, z, ex, ey, hD, hd, hk, h8, hz, q2⟩ := q
  subst ex
  subst ey
  obtain rfl : u = Value.ref a := rx
  obtain rfl : iv = Value.ref b := ry
  obtain ⟨ha, ys, r, hm⟩ := dn_heap I2 hD
  have hn : (xs.map (·.1)).Nodup := by
    obtain ⟨_, _, _, _, _, _, _, _, hn⟩ := hm
    rw [(ent_keys r).1] at hn
    exact hn
  obtain ⟨p, hp, rp⟩ := ent_at r hn hz
  exact ⟨hm.typeIs, wpAny_getItem_heap (knd := nestedKind X.prog X.w) (k := z.1) (by show X.A.units + 1 + 8 < cLine; omega) ⟨nk_is I2 hk hd rfl, h8⟩ hm hp ⟨z.2.2, H2, I2.tok _, rp, q2⟩⟩
end
end Sb

namespace Sb
open PySem PySem.Spec PyProof.Rows L2
/-! ### match over a text: case "a" | "b": .. case "c": .. -/
/-- a pattern of written texts: whether x is one of them -/
structure PatS (X : Cx) (p : Pattern) (ls : List Str) : Prop where
  run : ∀ (pins : List (Addr × Obj)) (s : Shared) (σ : L2.St) (H : Hp) (x : Str) (t : Tok) (Q : Option (List (Str × Value)) → Shared → Prop), Inv X pins σ H s →
    (∀ s', Inv X pins σ H s' → Q (if decide (x ∈ ls) = true then some [] else none) s') → wpAny (model X.prog X.w) X.A (matchPattern p X.env (.str x t)) Q X.xe s
structure CasesS (X : Cx) (cs : List MatchCase) (tc : Str → TS) : Prop where
  run : ∀ (pins : List (Addr × Obj)) (s : Shared) (σ : L2.St) (H : Hp) (D : Ends) (x : Str) (t : Tok) (b : Bool), Inv X pins σ H s → tc x D σ H →
    wpAny (model X.prog X.w) X.A (matchCases cs X.env (.str x t) b) (SP X pins D) X.xe s
section
variable {X : Cx}
theorem pat_val {y : Str} {j : Nat} {p1 p2 : Pos} : PatS X (.MatchValue (.Constant (.str y) j p1) p2) [y] := by
  refine ⟨fun pins s σ H x t Q I h => ?_⟩
  refine wpAny_matchPattern_Value (Calls.Constant_str (P.eq_str (wpAny_truthy_bool ?_)))
  have h' := h { s with toks := s.toks + 1 } (I.tok _)
  have e : (x.cps.toList == y.cps.toList) = decide (x ∈ [y]) := by
    by_cases q : x = y
    · subst q; simp
    · have : ¬ x.cps.toList = y.cps.toList := fun z => q (TL.ext_tl z)
      simp [q]
      intro z
      exact q (TL.ext_tl (congrArg Array.toList z))
  rw [e]
  cases hd : decide (x ∈ [y]) with
  | true => rw [hd] at h'; exact h'
  | false => rw [hd] at h'; exact h'
theorem pat_or {p q : Pattern} {ls ms : List Str} {pos : Pos} (hp : PatS X p ls) (hq : PatS X q ms) (hn : namesOfAll [p] = [] := by rfl) : PatS X (.MatchOr [p, q] pos) (ls ++ ms) := by
  refine ⟨fun pins s σ H x t Q I h => wpAny_matchPattern_Or (wpAny_matchFirst_cons (hp.run pins s σ H x t _ I fun s1 I1 => ?_))⟩
  have e : ((namesOfAll ([p, q].take 1)).filterMap fun n => (([] : List (Str × Value)).lookup n).map (n, ·)) = [] := by
    show ((namesOfAll [p]).filterMap _) = []
    rw [hn]
    rfl
  by_cases hl : x ∈ ls
  · rw [if_pos (decide_eq_true hl)]
    have h' := h s1 I1
    rw [if_pos (decide_eq_true (List.mem_append_left _ hl))] at h'
    show Q (some ((namesOfAll ([p, q].take 1)).filterMap fun n => (([] : List (Str × Value)).lookup n).map (n, ·))) s1
    rw [e]
    exact h'
  · rw [if_neg (fun z => hl (of_decide_eq_true z))]
    refine wpAny_matchFirst_cons (hq.run pins s1 σ H x t _ I1 fun s2 I2 => ?_)
    have h' := h s2 I2
    by_cases hm : x ∈ ms
    · rw [if_pos (decide_eq_true hm)]
      rw [if_pos (decide_eq_true (List.mem_append_right _ hm))] at h'
      show Q (some ((namesOfAll ([p, q].take 1)).filterMap fun n => (([] : List (Str × Value)).lookup n).map (n, ·))) s2
      rw [e]
      exact h'
    · rw [if_neg (fun z => hm (of_decide_eq_true z))]
      rw [if_neg (fun z => by have := of_decide_eq_true z; rcases List.mem_append.mp this with c | c; exact hl c; exact hm c)] at h'
      exact wpAny_matchFirst_nil h'
theorem cases_nil : CasesS X [] (fun _ => tNext) := ⟨fun pins s σ H D x t b I h => wpAny_matchCases_nil ⟨σ, H, I, h⟩⟩
theorem cases_cons {p : Pattern} {ls : List Str} {body : List Stmt} {tb : TS} {cs : List MatchCase} {tc : Str → TS} (hp : PatS X p ls) (hb : PSs X body tb) (hc : CasesS X cs tc) :
    CasesS X (⟨p, none, body⟩ :: cs) (fun x D σ H => if decide (x ∈ ls) = true then tb D σ H else tc x D σ H) := by
  refine ⟨fun pins s σ H D x t b I h => wpAny_matchCases_cons (hp.run pins s σ H x t _ I fun s' I' => ?_)⟩
  cases hd : decide (x ∈ ls) with
  | true =>
    rw [hd] at h
    exact wpAny_assignInOrder_none (hb.run pins s' σ H D I' h)
  | false =>
    rw [hd] at h
    exact hc.run pins s' σ H D x t false I' h
theorem ps_matchS {e : Expr} {te : TE} {cs : List MatchCase} {tc : Str → TS} {pos : Pos} (he : PE X e te) (hc : CasesS X cs tc) :
    PS X (.Match e cs pos) (fun D σ H => te σ H fun v H1 => ∃ x, v = .str x ∧ tc x D σ H1) := by
  refine ⟨fun pins s σ H D I h => wpAny_Match (thn (he.run pins s σ H _ I h) fun v s1 q => ?_)⟩
  obtain ⟨v', H1, I1, r1, x, e1, q⟩ := q
  subst e1
  obtain ⟨t, rfl⟩ := r1
  exact hc.run pins s1 σ H1 D x t true I1 q
end
end Sb

namespace Sb
open PySem PySem.Spec PyProof.Rows L2
/-! ### a state as a key: a tuple of four tuples -/
def natsT (l : List Nat) : PyData := .tuple (l.map natD)
def boolsT (l : List Bool) : PyData := .tuple (l.map PyData.bool)
def sitT (s : Sit) : PyData := .tuple [natsT s.cs, natsT s.ns, boolsT s.hs, natsT s.sh]
def nk1 (l : List Nat) : NestedKey := .tup (l.map fun n : Nat => .num n)
def nk2 (l : List Bool) : NestedKey := .tup (l.map fun b : Bool => .num (if b = true then 1 else 0))
def nkOf (s : Sit) : NestedKey := .tup [nk1 s.cs, nk1 s.ns, nk2 s.hs, nk1 s.sh]
theorem nk_nats : ∀ l : List Nat, NkAll (l.map natD) (l.map fun n : Nat => .num n)
  | [] => .nil
  | n :: l => .cons (.int _) (nk_nats l)
theorem nk_bools : ∀ l : List Bool, NkAll (l.map PyData.bool) (l.map fun b : Bool => .num (if b = true then 1 else 0))
  | [] => .nil
  | b :: l => .cons (.bool b) (nk_bools l)
theorem nk_sit (s : Sit) : Nk (sitT s) (nkOf s) := .tup (.cons (.tup (nk_nats _)) (.cons (.tup (nk_nats _)) (.cons (.tup (nk_bools _)) (.cons (.tup (nk_nats _)) .nil))))
theorem nk1_inj : ∀ {l m : List Nat}, (l.map fun n : Nat => NestedKey.num n) = (m.map fun n : Nat => NestedKey.num n) → l = m
  | [], [], _ => rfl
  | [], _ :: _, h => by cases h
  | _ :: _, [], h => by cases h
  | a :: l, b :: m, h => by
    rw [List.map_cons, List.map_cons] at h
    injection h with h1 h2
    injection h1 with h1
    rw [nk1_inj h2, show a = b by omega]
theorem nk2_inj : ∀ {l m : List Bool}, (l.map fun b : Bool => NestedKey.num (if b = true then 1 else 0)) = (m.map fun b : Bool => NestedKey.num (if b = true then 1 else 0)) → l = m
  | [], [], _ => rfl
  | [], _ :: _, h => by cases h
  | _ :: _, [], h => by cases h
  | a :: l, b :: m, h => by
    rw [List.map_cons, List.map_cons] at h
    injection h with h1 h2
    injection h1 with h1
    rw [nk2_inj h2]
    cases a <;> cases b <;> first | rfl | (simp at h1)
theorem nkOf_inj {s t : Sit} (h : nkOf s = nkOf t) : s = t := by
  unfold nkOf nk1 nk2 at h
  injection h with h
  injection h with h1 h
  injection h with h2 h
  injection h with h3 h
  injection h with h4 h
  injection h1 with h1
  injection h2 with h2
  injection h3 with h3
  injection h4 with h4
  obtain ⟨c, n, b, e⟩ := s
  obtain ⟨c', n', b', e'⟩ := t
  dsimp only at h1 h2 h3 h4
  rw [nk1_inj h1, nk1_inj h2, nk2_inj h3, nk1_inj h4]
theorem nk_depth (s : Sit) : (nkOf s).depth ≤ 8 := by
  have a : ∀ l : List Nat, NestedKey.depthAll (l.map fun n : Nat => NestedKey.num n) ≤ 1 := by
    intro l
    induction l with
    | nil => decide
    | cons n l ih => simp only [List.map_cons, NestedKey.depthAll, NestedKey.depth]; omega
  have b : ∀ l : List Bool, NestedKey.depthAll (l.map fun b : Bool => NestedKey.num (if b = true then 1 else 0)) ≤ 1 := by
    intro l
    induction l with
    | nil => decide
    | cons n l ih => simp only [List.map_cons, NestedKey.depthAll, NestedKey.depth]; omega
  have h1 := a s.cs
  have h2 := a s.ns
  have h3 := b s.hs
  have h4 := a s.sh
  unfold nkOf nk1 nk2
  simp only [NestedKey.depth, NestedKey.depthAll]
  omega
/-! ### the dict of the states met -/
structure DK (P : Program) (w : World) (K : PySem.W.Frag) (G H : Hp) (a : Addr) (xs : Ents) : Prop where
  at_ : H a = some (dNO P w a xs)
  out : G a = none
  ks : ∀ x ∈ xs, ∃ d, Dp K G (.ref x.2.1) d ∧ Nk d x.1 ∧ x.1.depth ≤ 8
section
variable {P : Program} {w : World} {K : PySem.W.Frag} {G G' H H' : Hp} {a b p : Addr} {xs : Ents} {o : HO}
theorem DK.dn (h : DK P w K G H a xs) (s : Same G H) : DN P w K H a xs := ⟨h.at_, fun x hx => by
  obtain ⟨d, h1, h2⟩ := h.ks x hx
  exact ⟨d, Dp.mono s _ _ h1, h2⟩⟩
theorem DK.grow (h : DK P w K G H a xs) (g : Same G G') (hp : ∀ o, H a = some o → H' a = some o) (n' : G' a = none) : DK P w K G' H' a xs := ⟨hp _ h.at_, n', fun x hx => by
  obtain ⟨d, h1, h2⟩ := h.ks x hx
  exact ⟨d, Dp.mono g _ _ h1, h2⟩⟩
theorem DK.put {s : Sit} {v : V} (h : DK P w K G H a xs) (hb : Dp K G (.ref b) (sitT s)) : DK P w K G (upd H a (dNO P w a (xs ++ [(nkOf s, b, v)]))) a (xs ++ [(nkOf s, b, v)]) := by
  refine ⟨upd_same, h.out, fun x hx => ?_⟩
  rcases List.mem_append.mp hx with h1 | h1
  · exact h.ks x h1
  · rw [List.mem_singleton.mp h1]
    exact ⟨_, hb, nk_sit s, nk_depth s⟩
end
/-- the states met so far, with what is stored beside each -/
def Met (x : Pl) (xs : Ents) (n : Nat) (f : Nat → V) : Prop := xs.length = n ∧ ∀ j, j < n → ∃ b, xs[j]? = some (nkOf (sitAt x j), b, f j)
theorem Met.keys {x : Pl} {xs : Ents} {n : Nat} {f : Nat → V} (h : Met x xs n f) (s : Sit) : nkOf s ∈ xs.map (·.1) ↔ ∃ j, j < n ∧ sitAt x j = s := by
  constructor
  · intro hm
    obtain ⟨e, he, h1⟩ := List.mem_map.mp hm
    obtain ⟨j, hj⟩ := List.getElem?_of_mem he
    have hjn : j < n := by rw [← h.1]; exact (List.getElem?_eq_some_iff.mp hj).1
    obtain ⟨b, hb⟩ := h.2 j hjn
    rw [hj] at hb
    cases hb
    exact ⟨j, hjn, nkOf_inj h1⟩
  · rintro ⟨j, hj, rfl⟩
    obtain ⟨b, hb⟩ := h.2 j hj
    exact List.mem_map.mpr ⟨_, List.mem_of_getElem? hb, rfl⟩
theorem Met.snoc {x : Pl} {xs : Ents} {n : Nat} {f : Nat → V} {b : Addr} (h : Met x xs n f) : Met x (xs ++ [(nkOf (sitAt x n), b, f n)]) (n + 1) f := by
  refine ⟨by rw [List.length_append, h.1]; rfl, fun j hj => ?_⟩
  by_cases hjn : j < n
  · obtain ⟨b', hb⟩ := h.2 j hjn
    exact ⟨b', by rw [List.getElem?_append_left (by rw [h.1]; exact hjn)]; exact hb⟩
  · have : j = n := by omega
    subst this
    exact ⟨b, by rw [List.getElem?_append_right (by rw [h.1]; exact Nat.le_refl _), h.1, Nat.sub_self]; rfl⟩
theorem Met.nil {x : Pl} {f : Nat → V} : Met x [] 0 f := ⟨rfl, fun j hj => by omega⟩
/-- no state twice among the first n -/
def Nod (x : Pl) (n : Nat) : Prop := ∀ j k, j < n → k < n → sitAt x j = sitAt x k → j = k
theorem Nod.zero {x : Pl} : Nod x 0 := fun j k h => by omega
theorem Nod.succ {x : Pl} {n : Nat} (h : Nod x n) (hn : ¬ ∃ j, j < n ∧ sitAt x j = sitAt x n) : Nod x (n + 1) := fun j k hj hk e => by
  by_cases h1 : j < n
  · by_cases h2 : k < n
    · exact h j k h1 h2 e
    · have : k = n := by omega
      subst this
      exact absurd ⟨j, h1, e⟩ hn
  · have : j = n := by omega
    subst this
    by_cases h2 : k < j
    · exact absurd ⟨k, h2, e.symm⟩ hn
    · omega
/-- the plan of two waits -/
def waits (x : Pl) : Pl := ⟨x.shelf, x.a, x.b, [⟨4, none⟩], [⟨4, none⟩]⟩
theorem waits_ok {x : Pl} (h : x.Ok) : (waits x).Ok := by
  have ok : StepsOk [⟨4, none⟩] := ⟨by decide, by decide, fun s hs => by
    rw [List.mem_singleton.mp hs]
    exact ⟨by decide, fun _ => rfl, fun h => absurd h (by decide)⟩⟩
  exact ⟨h.c3, h.c12, h.b3, h.ha, h.hb, h.ne, ok, ok⟩
theorem waits_st (x : Pl) (i : Nat) (s : Sit) (h : s.ns.getD i 0 = 0) : stOf (waits x) s i = ⟨4, none⟩ := by
  unfold stOf
  rw [h]
  unfold stepsOf waits
  split <;> rfl
theorem waits_len (x : Pl) (i : Nat) : (stepsOf (waits x) i).length = 1 := by
  unfold stepsOf waits
  split <;> rfl
theorem waits_act (x : Pl) (i : Nat) (s : Sit) (h : s.ns.getD i 0 = 0) : actP (waits x) s i = (4, s) := by
  have e := waits_st x i s h
  rw [act_else (by rw [e]; decide)]
  unfold finP nextP
  rw [if_neg (by unfold jumpP; rw [e]; simp), waits_len, e, h]
  have : s.ns.set i ((0 + 1) % 1) = s.ns := by
    have h2 : (0 + 1) % 1 = s.ns.getD i 0 := h.symm
    rw [h2, set_same]
  rw [this]
theorem waits_cyc (x : Pl) : Cyc (waits x) 0 1 := ⟨by decide, by
  show sit0 (waits x) = (tickP (waits x) (sit0 (waits x))).2
  unfold tickP
  dsimp only
  rw [waits_act x 0 _ rfl]
  dsimp only
  rw [waits_act x 1 _ rfl], fun j k hj hk _ => by omega⟩
end Sb

namespace Sb
open PySem PySem.Spec PyProof.Rows L2 TL
/-! ### four lists of one's own, the parts of a state -/
structure Wk (G H0 H : Hp) (c n b e : Addr) (s : Sit) : Prop where
  pt : Pt G H0 G H
  gh : Same G H0
  c0 : H0 c = none
  n0 : H0 n = none
  b0 : H0 b = none
  e0 : H0 e = none
  cn : c ≠ n
  cb : c ≠ b
  ce : c ≠ e
  nb : n ≠ b
  ne : n ≠ e
  be : b ≠ e
  hc : H c = some (.lst (nV s.cs))
  hn : H n = some (.lst (nV s.ns))
  hb : H b = some (.lst (bV s.hs))
  he : H e = some (.lst (nV s.sh))
section
variable {G H0 H : Hp} {c n b e p l t : Addr} {s : Sit} {K : PySem.W.Frag}
theorem Wk.lay (h : Wk G H0 H c n b e s) (np : H p = none) (o : HO) : Wk G H0 (upd H p o) c n b e s :=
  { h with
    pt := h.pt.lay np o
    hc := by rw [upd_ne (ne_of_none h.hc np)]; exact h.hc
    hn := by rw [upd_ne (ne_of_none h.hn np)]; exact h.hn
    hb := by rw [upd_ne (ne_of_none h.hb np)]; exact h.hb
    he := by rw [upd_ne (ne_of_none h.he np)]; exact h.he }
theorem Wk.setC (h : Wk G H0 H c n b e s) (l : List Nat) : Wk G H0 (upd H c (.lst (nV l))) c n b e ⟨l, s.ns, s.hs, s.sh⟩ :=
  { h with
    pt := h.pt.put h.c0 (Same.free h.gh h.c0) _
    hc := upd_same
    hn := by rw [upd_ne h.cn.symm]; exact h.hn
    hb := by rw [upd_ne h.cb.symm]; exact h.hb
    he := by rw [upd_ne h.ce.symm]; exact h.he }
theorem Wk.setN (h : Wk G H0 H c n b e s) (l : List Nat) : Wk G H0 (upd H n (.lst (nV l))) c n b e ⟨s.cs, l, s.hs, s.sh⟩ :=
  { h with
    pt := h.pt.put h.n0 (Same.free h.gh h.n0) _
    hc := by rw [upd_ne h.cn]; exact h.hc
    hn := upd_same
    hb := by rw [upd_ne h.nb.symm]; exact h.hb
    he := by rw [upd_ne h.ne.symm]; exact h.he }
theorem Wk.setB (h : Wk G H0 H c n b e s) (l : List Bool) : Wk G H0 (upd H b (.lst (bV l))) c n b e ⟨s.cs, s.ns, l, s.sh⟩ :=
  { h with
    pt := h.pt.put h.b0 (Same.free h.gh h.b0) _
    hc := by rw [upd_ne h.cb]; exact h.hc
    hn := by rw [upd_ne h.nb]; exact h.hn
    hb := upd_same
    he := by rw [upd_ne h.be.symm]; exact h.he }
theorem Wk.setE (h : Wk G H0 H c n b e s) (l : List Nat) : Wk G H0 (upd H e (.lst (nV l))) c n b e ⟨s.cs, s.ns, s.hs, l⟩ :=
  { h with
    pt := h.pt.put h.e0 (Same.free h.gh h.e0) _
    hc := by rw [upd_ne h.ce]; exact h.hc
    hn := by rw [upd_ne h.ne]; exact h.hn
    hb := by rw [upd_ne h.be]; exact h.hb
    he := upd_same }
/-- the four become data -/
theorem Wk.data (h : Wk G H0 H c n b e s) : ∃ G1, Pt G H0 G1 H ∧ SqL K G1 c (nV s.cs) ∧ SqL K G1 n (nV s.ns) ∧ SqL K G1 b (bV s.hs) ∧ SqL K G1 e (nV s.sh) := by
  have p1 := h.pt.freeze h.c0 h.hc
  have p2 := p1.freeze h.n0 h.hn
  have p3 := p2.freeze h.b0 h.hb
  have p4 := p3.freeze h.e0 h.he
  refine ⟨_, p4, SqL.of ?_, SqL.of ?_, SqL.of ?_, SqL.of ?_⟩
  · rw [upd_ne h.ce, upd_ne h.cb, upd_ne h.cn, upd_same]
  · rw [upd_ne h.ne, upd_ne h.nb, upd_same]
  · rw [upd_ne h.be, upd_same]
  · rw [upd_same]
end
def lrV : List V := [.str "left", .str "right"]
theorem lr_in : ∀ {w : Nat}, w < 8 → inV (.str (wS w)) lrV = decide (w < 2) := by
  have h : ∀ w : _root_.Fin 8, inV (.str (wS w.val)) lrV = decide (w.val < 2) := by decide +kernel
  exact fun {w} hw => h ⟨w, hw⟩
theorem lr_flat : lrV.all flatV = true := by decide +kernel
theorem wS_eq {w k : Nat} (hw : w < 8) (hk : k < 8) : decide (V.str (wS w) = V.str (wS k)) = decide (w = k) := by
  have h : ∀ w k : _root_.Fin 8, decide (V.str (wS w.val) = V.str (wS k.val)) = decide (w.val = k.val) := by decide +kernel
  exact h ⟨w, hw⟩ ⟨k, hk⟩
theorem ite_w {w : Nat} (k : Nat) {A B : Prop} (hw : w < 8) (h1 : w = k → A) (h2 : w ≠ k → B) (hk : k < 8 := by decide) : if decide (V.str (wS w) = V.str (wS k)) = true then A else B := by
  rw [wS_eq hw hk]
  exact ite2 (fun h => h1 (of_decide_eq_true h)) (fun h => h2 fun q => h (decide_eq_true q))
structure spEmpty (K : PySem.W.Frag) (vs : List V) (H : Hp) (Q : VK) (E : XK) : Prop where
  ex : ∃ (G : Hp) (v : V) (x : Pl), vs = [v] ∧ Dp K G v x.D ∧ Pure G H Q fun G' v => Dp K G' v (sitL (sit0 x))
structure spLAct (K : PySem.W.Frag) (vs : List V) (H : Hp) (Q : VK) (E : XK) : Prop where
  ex : ∃ (G : Hp) (v u : V) (x : Pl) (s : Sit) (i : Nat), vs = [v, u, .int i] ∧ Dp K G v x.D ∧ Dp K G u (sitL s) ∧ x.Ok ∧ SitOk x s ∧ i < 2 ∧ Pure G H Q fun G' v => Dp K G' v (.tuple [.str (doS (actP x s i).1), sitL (actP x s i).2])
structure spLTick (K : PySem.W.Frag) (vs : List V) (H : Hp) (Q : VK) (E : XK) : Prop where
  ex : ∃ (G : Hp) (v u : V) (x : Pl) (s : Sit), vs = [v, u] ∧ Dp K G v x.D ∧ Dp K G u (sitL s) ∧ x.Ok ∧ SitOk x s ∧ Pure G H Q fun G' v => Dp K G' v (.tuple [wordsD (tickP x s).1, sitL (tickP x s).2])
section
variable {P : Program} {w : World} {K : PySem.W.Frag} {mg : Str → Option Value} {base : Heap} {a : Ad}
theorem ok_l_empty (T : Txt K mg a) : FnOk P w K mg base CX0 1 a.f_l_empty a.d_l_empty ["_law_plan_here"] (spEmpty K) := by
  refine T.F_l_empty.ok sc_l_empty (fun vs H Q E h => ?_) (fun cdv A outer s H vs Q E hr h => ?_)
  · obtain ⟨⟨G, v, x, rfl, _⟩⟩ := h
    rfl
  · obtain ⟨⟨G, v, x, rfl, hp, hGH, k⟩⟩ := h
    refine ⟨_, (pss_one (ps_ret (pe_lst (pa_cons (pe_callTy call_list_of (by rfl) T.z_list (by decide +kernel) (pa_cons (pe_ix ix_tup (pv 0) pe_int (fun _ _ => rfl)) pa_nil)) (pa_cons (pe_lst (pa_cons pe_int (pa_cons pe_int pa_nil))) (pa_cons (pe_lst (pa_cons pe_bl (pa_cons pe_bl pa_nil))) (pa_cons (pe_callTy call_list_of (by rfl) T.z_list (by decide +kernel) (pa_cons (pe_ix ix_tup (pv 0) pe_int (fun _ _ => rfl)) pa_nil)) pa_nil))))))), ?_⟩
    obtain ⟨t, sh, st, bo, l1, l2, xs1, xs2, rfl, ht, hsh, hst, _⟩ := plan_inv hp
    refine ⟨_, rfl, t, _, _, .ref st, rfl, rfl, Same.seqT hGH ht, at_of (j := 1) rfl rfl, st, _, rfl, .inr (Same.seqT hGH hst), fun c hc => ?_⟩
    have p1 := (Pt.start hGH).new hc (.lst [.int x.a, .int x.b])
    refine ⟨(by show 2 ≤ sizeLine; decide), fun n hn => ?_⟩
    have p2 := p1.new hn (.lst [.int 0, .int 0])
    refine ⟨(by show 2 ≤ sizeLine; decide), fun b hb => ?_⟩
    have p3 := p2.new hb (.lst [.bl false, .bl false])
    refine ⟨_, rfl, t, _, _, .ref sh, rfl, rfl, Same.seqT (p3.g.trans p3.s) ht, at_of (j := 0) rfl rfl, sh, _, rfl, .inr (Same.seqT (p3.g.trans p3.s) hsh), fun e he => ?_⟩
    have p4 := p3.new he (.lst (nV x.shelf))
    refine ⟨(by show 4 ≤ sizeLine; decide), fun l hl => ?_⟩
    have p5 := p4.new hl (.lst [.ref c, .ref n, .ref b, .ref e])
    have g2 := same_new (o := .lst [.int 0, .int 0]) (p1.freeG hn)
    have g3 := same_new (o := .lst [.bl false, .bl false]) (p2.freeG hb)
    have g4 := same_new (o := .lst (nV x.shelf)) (p3.freeG he)
    have g5 := same_new (o := .lst [.ref c, .ref n, .ref b, .ref e]) (p4.freeG hl)
    refine k _ _ _ p5.ext p5.sm (sitL_mk (s := sit0 x) (SqL.of upd_same) ?_ ?_ ?_ ?_)
    · exact (((g2.trans g3).trans g4).trans g5).seq (SqL.of upd_same)
    · exact ((g3.trans g4).trans g5).seq (SqL.of upd_same)
    · exact (g4.trans g5).seq (SqL.of upd_same)
    · exact g5.seq (SqL.of upd_same)
end
end Sb

namespace Sb
open PySem PySem.Spec PyProof.Rows L2 TL
def partsV (s : Sit) : List (List V) := [nV s.cs, nV s.ns, bV s.hs, nV s.sh]
theorem mod_nat (n m : Nat) : ((n : Int) + 1) % (m : Int) = (((n + 1) % m : Nat) : Int) := by
  rw [Int.natCast_emod]
  push_cast
  rfl
section
variable {P : Program} {w : World} {K : PySem.W.Frag} {mg : Str → Option Value} {base : Heap} {a : Ad}
theorem ok_l_act (T : Txt K mg a) : FnOk P w K mg base CX0 1 a.f_l_act a.d_l_act ["_law_plan_here", "_law_state", "_law_number"] (spLAct K) := by
  refine T.F_l_act.ok sc_l_act (fun vs H Q E h => ?_) (fun cdv A outer s0 H vs Q E hr h => ?_)
  · obtain ⟨⟨G, v, u, x, s, i, rfl, _⟩⟩ := h
    rfl
  · obtain ⟨⟨G, v, u, x, s, i, rfl, hp, hu, hx, ho, hi, hGH, k⟩⟩ := h
    refine ⟨_, (pss_cons (ps_asg (pe_lc (own := [("_law_part", 7)]) (g := gName 7) (te := (tCB (fun xs H Q => ∃ p ys, xs = [.ref p] ∧ (SqL K H p ys ∨ SqT K H p ys) ∧ ∀ l, H l = none → Q (.ref l) (upd H l (.lst ys))) (tCons (tVar 7) tNil))) (tt := tYes) rfl sc_l_act.nd (pi_list (pv 1)) (blkOk_by (own := [("_law_part", 7)]) (N := ["_law_plan_here", "_law_state", "_law_number", "_law_places", "_law_nexts", "_law_holds", "_law_shelf", "_law_part", "_law_word", "_law_goal", "_law_here", "_law_there", "_law_jumps"]) (sc := (defScope s_l_act)) (by decide +kernel)) (fun _ _ _ _ _ => (pg_name (i := 7) sc_l_act.nd rfl (Or.inl rfl))) (fun _ _ _ _ _ => pts_nil) (fun _ _ _ _ _ => by exact (pe_callTy call_list_of (by rfl) T.z_list (by decide +kernel) (pa_cons (pv 7) pa_nil)))) (pg_lst (by rfl) (pgs_cons (pg_name (i := 3) sc_l_act.nd rfl (Or.inl rfl)) (pgs_cons (pg_name (i := 4) sc_l_act.nd rfl (Or.inl rfl)) (pgs_cons (pg_name (i := 5) sc_l_act.nd rfl (Or.inl rfl)) (pgs_cons (pg_name (i := 6) sc_l_act.nd rfl (Or.inl rfl)) pgs_nil))))))
      (pss_cons (ps_asg (pe_ix ix_list (pe_ix ix_list (pe_ix ix_tup (pv 0) pe_int (fun _ _ => rfl)) (pv 2) (fun _ _ => rfl)) (pe_ix ix_list (pv 4) (pv 2) (fun _ _ => rfl)) (fun _ _ => rfl)) (pg_tup (by rfl) (pgs_cons (pg_name (i := 8) sc_l_act.nd rfl (Or.inl rfl)) (pgs_cons (pg_name (i := 9) sc_l_act.nd rfl (Or.inl rfl)) pgs_nil))))
      (pss_cons (ps_set (i := 10) sc_l_act.nd rfl (Or.inl rfl) (pe_ix ix_list (pv 3) (pv 2) (fun _ _ => rfl)))
      (pss_cons (ps_if (pt_cmpR op_in_seq (pv 8) (pe_lst (pa_cons pe_str (pa_cons pe_str pa_nil))) rfl) (pss_cons (ps_set (i := 11) sc_l_act.nd rfl (Or.inl rfl) (pe_op op_add (pv 10) (pe_ifExp (pt_cmpR op_eq (pv 8) pe_str (nomark _)) pe_int (pe_op op_sub pe_int pe_int))))
      (pss_cons (ps_if (PW.pt (pw_or (pt_not (pt_chain op_le op_lt pe_int (pv 11) (pe_callB call_len_seq (by rfl) T.z_len (by decide +kernel) (pa_cons (pv 6) pa_nil)))) (pw_or1 (pt_cmpR op_eq (pv 11) (pe_ix ix_list (pv 3) (pe_op op_sub pe_int (pv 2)) (fun _ _ => rfl)) (nomark _))))) (pss_one (ps_ret (pe_tup (pa_cons pe_str (pa_cons (pv 1) pa_nil))))) pss_nil)
      (pss_one (ps_asg (pv 11) (pg_sub (pv 3) (pv 2) set_list))))) pss_nil)
      (pss_cons (ps_if (pt_cmpR op_eq (pv 8) pe_str (nomark _)) (pss_cons (ps_if (PW.pt (pw_or (pt_val (pe_ix ix_list (pv 5) (pv 2) (fun _ _ => rfl))) (pw_or1 (pt_cmpR op_eq (pe_ix ix_list (pv 6) (pv 10) (fun _ _ => rfl)) pe_int (nomark _))))) (pss_one (ps_ret (pe_tup (pa_cons pe_str (pa_cons (pv 1) pa_nil))))) pss_nil)
      (pss_one (ps_asg (pe_tup (pa_cons pe_bl (pa_cons (pe_op op_sub (pe_ix ix_list (pv 6) (pv 10) (fun _ _ => rfl)) pe_int) pa_nil))) (pg_tup (by rfl) (pgs_cons (pg_sub (pv 5) (pv 2) set_list) (pgs_cons (pg_sub (pv 6) (pv 10) set_list) pgs_nil)))))) pss_nil)
      (pss_cons (ps_if (pt_cmpR op_eq (pv 8) pe_str (nomark _)) (pss_cons (ps_if (PW.pt (pw_or (pt_not (pt_val (pe_ix ix_list (pv 5) (pv 2) (fun _ _ => rfl)))) (pw_or1 (pt_cmpR op_gt (pe_ix ix_list (pv 6) (pv 10) (fun _ _ => rfl)) pe_int (nomark _))))) (pss_one (ps_ret (pe_tup (pa_cons pe_str (pa_cons (pv 1) pa_nil))))) pss_nil)
      (pss_one (ps_asg (pe_tup (pa_cons pe_bl (pa_cons (pe_op op_add (pe_ix ix_list (pv 6) (pv 10) (fun _ _ => rfl)) pe_int) pa_nil))) (pg_tup (by rfl) (pgs_cons (pg_sub (pv 5) (pv 2) set_list) (pgs_cons (pg_sub (pv 6) (pv 10) set_list) pgs_nil)))))) pss_nil)
      (pss_cons (ps_set (i := 12) sc_l_act.nd rfl (Or.inl rfl) (pe_or (pe_cmpR op_eq (pv 8) pe_str (nomark _)) (pe_or (pe_and (pe_cmpR op_eq (pv 8) pe_str (nomark _)) (pe_one (pe_cmpR op_eq (pe_ix ix_list (pv 6) (pv 10) (fun _ _ => rfl)) pe_int (nomark _)))) (pe_one (pe_and (pe_cmpR op_eq (pv 8) pe_str (nomark _)) (pe_one (pe_ix ix_list (pv 5) (pv 2) (fun _ _ => rfl))))))))
      (pss_cons (ps_asg (pe_ifExp (pt_val (pv 12)) (pv 9) (pe_op op_mod (pe_op op_add (pe_ix ix_list (pv 4) (pv 2) (fun _ _ => rfl)) pe_int) (pe_callB call_len_seq (by rfl) T.z_len (by decide +kernel) (pa_cons (pe_ix ix_list (pe_ix ix_tup (pv 0) pe_int (fun _ _ => rfl)) (pv 2) (fun _ _ => rfl)) pa_nil)))) (pg_sub (pv 4) (pv 2) set_list))
      (pss_one (ps_ret (pe_tup (pa_cons (pv 8) (pa_cons (pe_lst (pa_cons (pv 3) (pa_cons (pv 4) (pa_cons (pv 5) (pa_cons (pv 6) pa_nil))))) pa_nil))))))))))))), ?_⟩
    obtain ⟨t, sh, st, bo, l1, l2, xs1, xs2, rfl, ht, hsh, hst, hbo, hl1, hl2, hx1, hx2⟩ := plan_inv hp
    obtain ⟨ua, uc, un, ub, ue, rfl, hua, huc, hun, hub, hue⟩ := sitL_inv hu
    obtain ⟨li, xsi, hli, hsi, hdi⟩ : ∃ li xsi, ([V.ref l1, V.ref l2] : List V)[i]? = some (.ref li) ∧ SqL K G li xsi ∧ DpAll K G xsi ((stepsOf x i).map Step.D) := by
      match i, hi with
      | 0, _ => exact ⟨l1, xs1, rfl, hl1, hx1⟩
      | 1, _ => exact ⟨l2, xs2, rfl, hl2, hx2⟩
    obtain ⟨est, _⟩ := st_mem ho hi
    have sok := st_ok hx ho hi
    have nl := ho.nl i hi
    have cl := ho.cl i hi
    obtain ⟨y, hy, hDy⟩ := DpAll.at hdi (i := s.ns.getD i 0) (d := (stOf x s i).D) (by rw [List.getElem?_map, est]; rfl)
    obtain ⟨tt, g, rfl, htt, hg⟩ := step_inv hDy
    have w8 := sok.w8
    have ic : i < s.cs.length := by rw [ho.c2]; exact hi
    have in_ : i < s.ns.length := by rw [ho.n2]; exact hi
    have ih : i < s.hs.length := by rw [ho.h2]; exact hi
    have ic1 : 1 - i < s.cs.length := by rw [ho.c2]; omega
    -- the copies
    refine ⟨_, rfl, ua, rfl, ⟨_, hGH.seq hua⟩, fun D hD => ?_⟩
    have D0 := hD
    refine lc_list (K := K) (a := ua) (xs := [.ref uc, .ref un, .ref ub, .ref ue]) (fun j H' => ∃ ps : List Addr, ps.length = j ∧ Pt G H G H' ∧ H' D = some (.lst (ps.map V.ref)) ∧ ps.Nodup ∧ D ∉ ps ∧ ∀ (m : Nat) (p : Addr), ps[m]? = some p → H p = none ∧ ∃ it, (partsV s)[m]? = some it ∧ H' p = some (.lst it))
      ⟨[], rfl, (Pt.start hGH).lay hD _, upd_same, List.nodup_nil, by simp, fun m p e => by simp at e⟩ (fun j H' _ ⟨ps, _, p1, _⟩ => (hGH.trans p1.sm).seq hua) ?_ ?_
    · rintro j y H' hy ⟨ps, hj, p1, hD', hnd, hDn, hps⟩
      obtain ⟨q, it, rfl, hit, hq⟩ : ∃ q it, y = .ref q ∧ (partsV s)[j]? = some it ∧ SqL K G q it := by
        match j, hy with
        | 0, hy => exact ⟨uc, _, (Option.some.inj hy).symm, rfl, huc⟩
        | 1, hy => exact ⟨un, _, (Option.some.inj hy).symm, rfl, hun⟩
        | 2, hy => exact ⟨ub, _, (Option.some.inj hy).symm, rfl, hub⟩
        | 3, hy => exact ⟨ue, _, (Option.some.inj hy).symm, rfl, hue⟩
        | m + 4, hy => simp at hy
      have hj4 : j < 4 := (List.getElem?_eq_some_iff.mp hy).1
      refine ⟨rfl, _, rfl, q, it, rfl, .inl ((hGH.trans p1.sm).seq hq), fun l hl => ?_⟩
      have Dl : D ≠ l := ne_of_none hD' hl
      have l0 : H l = none := p1.free hl
      refine ⟨_, by rw [upd_ne Dl]; exact hD', smaller 4 (by rw [List.length_map]; omega) (by decide), ps ++ [l], by rw [List.length_append, hj]; rfl, (p1.lay hl _).put D0 (Same.free hGH D0) _, by rw [upd_same, List.map_append]; rfl, ?_, ?_, ?_⟩
      · refine List.nodup_append.mpr ⟨hnd, by simp, fun p hp q hq e => ?_⟩
        rw [List.mem_singleton.mp hq] at e
        subst e
        obtain ⟨m, hm⟩ := List.getElem?_of_mem hp
        obtain ⟨_, it', _, h'⟩ := hps m p hm
        rw [h'] at hl
        cases hl
      · intro h
        rcases List.mem_append.mp h with h | h
        · exact hDn h
        · exact Dl (List.mem_singleton.mp h)
      · intro m p hm
        by_cases hmj : m < ps.length
        · rw [List.getElem?_append_left hmj] at hm
          obtain ⟨h1, it', h2, h3⟩ := hps m p hm
          have hpD : p ≠ D := fun e => hDn (by rw [← e]; exact List.mem_of_getElem? hm)
          refine ⟨h1, it', h2, ?_⟩
          rw [upd_ne hpD, upd_ne (ne_of_none h3 hl)]
          exact h3
        · rw [List.getElem?_append_right (by omega)] at hm
          have hm0 : m - ps.length = 0 := by
            cases e : m - ps.length with
            | zero => rfl
            | succ z => rw [e] at hm; simp at hm
          rw [hm0] at hm
          have : l = p := by simpa using hm
          subst this
          have : m = j := by omega
          subst this
          refine ⟨l0, it, hit, ?_⟩
          rw [upd_ne Dl.symm, upd_same]
    rintro H1 ⟨ps, hj, p1, hD1, hnd, hDn, hps⟩
    match ps, hj with
    | [c, n, b, e], _ =>
    have W1 : Wk G H H1 c n b e s := by
      obtain ⟨c0, _, q1, q2⟩ := hps 0 c rfl; cases q1
      obtain ⟨n0, _, q3, q4⟩ := hps 1 n rfl; cases q3
      obtain ⟨b0, _, q5, q6⟩ := hps 2 b rfl; cases q5
      obtain ⟨e0, _, q7, q8⟩ := hps 3 e rfl; cases q7
      simp only [List.nodup_cons, List.mem_cons, List.mem_singleton, List.not_mem_nil, or_false, not_or] at hnd
      exact ⟨p1, hGH, c0, n0, b0, e0, hnd.1.1, hnd.1.2.1, hnd.1.2.2, hnd.2.1.1, hnd.2.1.2, hnd.2.2.1, q2, q4, q6, q8⟩
    refine ⟨D, _, rfl, SqL.of hD1, rfl, _, _, rfl, _, _, rfl, _, _, rfl, _, _, rfl, rfl, ?_⟩
    -- word, goal
    refine ⟨_, rfl, t, _, _, .ref bo, rfl, rfl, Same.seqT (hGH.trans W1.pt.sm) ht, at_of (j := 2) rfl rfl, _, rfl, bo, _, _, .ref li, rfl, rfl, (hGH.trans W1.pt.sm).seq hbo, at_of (j := i) rfl hli, _, rfl, _, rfl, n, _, _, .int (s.ns.getD i 0 : Nat), rfl, rfl, SqL.of W1.hn, at_of (j := i) rfl (nV_at in_), li, _, _, .ref tt, rfl, rfl, (hGH.trans W1.pt.sm).seq hsi, at_of (j := s.ns.getD i 0) rfl hy, ?_⟩
    refine ⟨tt, _, rfl, Same.seqT (hGH.trans W1.pt.sm) htt, rfl, _, _, rfl, _, _, rfl, rfl, ?_⟩
    -- here
    refine ⟨_, rfl, _, rfl, c, _, _, .int (cOf s i : Nat), rfl, rfl, SqL.of W1.hc, at_of (j := i) rfl (nV_at ic), ?_⟩
    dsimp only
    have blk : actP x s i = (8, s) → ∀ H', Pt G H G H' → (2 ≤ sizeLine ∧ ∀ p, H' p = none → Q (.ref p) (upd H' p (.tup [.str "blocked", .ref ua]))) := fun e H' p' => by
      refine ⟨by decide, fun p hp' => ?_⟩
      have p2 := p'.new hp' (.tup [.str "blocked", .ref ua])
      refine k _ _ _ p2.ext p2.sm ?_
      rw [e]
      exact .tup (SqT.of upd_same) (.cons (.str _) (.cons (Dp.mono (same_new (p'.freeG hp')) _ _ hu) .nil))
    let Pk : Nat → L2.St → Hp → Prop := fun m σ H' => ∃ (v11 : Option V) (s' : Sit), σ = [some (.ref t), some (.ref ua), some (.int i), some (.ref c), some (.ref n), some (.ref b), some (.ref e), none, some (.str (wS (stOf x s i).w)), some g, some (.int (cOf s i : Nat)), v11, none] ∧
      Wk G H H' c n b e s' ∧ s'.ns = s.ns ∧ ((m ≤ (stOf x s i).w ∧ s' = s) ∨ ((stOf x s i).w < m ∧ s'.hs.length = 2 ∧ s'.sh.length = s.sh.length ∧ actP x s i = finP x s i s'.cs s'.hs s'.sh))
    refine seq_restσ (Pk 2) (fun σ H' hP => ?_) (fun rest => ?m4)
    case m4 =>
      refine ⟨_, rfl, (by show 2 ≤ sizeLine; decide), fun q hq => ?_⟩
      have W2 := W1.lay hq (.lst lrV)
      refine ⟨q, lrV, rfl, .inl (SqL.of upd_same), rfl, lr_flat, _, rfl, ?_⟩
      rw [if_neg Bool.false_ne_true, lr_in w8]
      refine ite2 (fun c2 => ?_) (fun c2 => rest _ _ ⟨none, s, rfl, W2, rfl, .inl ⟨by have : ¬ (stOf x s i).w < 2 := fun z => c2 (decide_eq_true z); omega, rfl⟩⟩)
      have hw2 : (stOf x s i).w < 2 := of_decide_eq_true c2
      refine seq_restσ (fun σ H' => ∃ (z : Int) (c' : Nat), σ = [some (.ref t), some (.ref ua), some (.int i), some (.ref c), some (.ref n), some (.ref b), some (.ref e), none, some (.str (wS (stOf x s i).w)), some g, some (.int (cOf s i : Nat)), some (.int z), none] ∧ upd H1 q (.lst lrV) = H' ∧
        ((¬ (0 ≤ z ∧ z < (s.sh.length : Int)) ∨ z = (s.cs.getD (1 - i) 0 : Nat)) ∧ actP x s i = (8, s) ∨ (0 ≤ z ∧ z < (s.sh.length : Int)) ∧ z ≠ (s.cs.getD (1 - i) 0 : Nat) ∧ z = (c' : Int) ∧ actP x s i = finP x s i (s.cs.set i c') s.hs s.sh)) (fun σ H' hz => ?r1) (fun rest1 => ?m1)
      case m1 =>
        refine ⟨_, rfl, _, rfl, rfl, _, rfl, ite_w 1 w8 (fun hw => ?_) (fun hw => ?_)⟩
        · refine ⟨_, _, rfl, rfl, rest1 _ _ ⟨_, cOf s i + 1, rfl, rfl, ?_⟩⟩
          have ea := act_right hw
          have mo := mem_other (n := cOf s i + 1) ho hi (by omega)
          unfold cOf at *
          by_cases hb : s.sh.length ≤ s.cs.getD i 0 + 1 ∨ s.cs.getD i 0 + 1 ∈ s.cs
          · rw [if_pos hb] at ea
            refine .inl ⟨?_, ea⟩
            rw [mo] at hb
            omega
          · rw [if_neg hb] at ea
            rw [mo] at hb
            exact .inr ⟨by omega, by omega, by omega, ea⟩
        · have hw0 : (stOf x s i).w = 0 := by omega
          refine ⟨_, _, rfl, rfl, _, _, rfl, rfl, rest1 _ _ ⟨_, cOf s i - 1, rfl, rfl, ?_⟩⟩
          have ea := act_left hw0
          unfold cOf at *
          by_cases hc0 : s.cs.getD i 0 = 0
          · rw [if_pos (.inl hc0)] at ea
            exact .inl ⟨.inl (by omega), ea⟩
          · have mo := mem_other (n := s.cs.getD i 0 - 1) ho hi (by unfold cOf; omega)
            by_cases hb : s.cs.getD i 0 - 1 ∈ s.cs
            · rw [if_pos (.inr hb)] at ea
              rw [mo] at hb
              exact .inl ⟨.inr (by omega), ea⟩
            · rw [if_neg (by simp only [not_or]; exact ⟨hc0, hb⟩)] at ea
              rw [mo] at hb
              exact .inr ⟨by omega, by omega, by omega, ea⟩
      obtain ⟨z, c', rfl, rfl, hz⟩ := hz
      have esh : (((nV s.sh).length : Nat) : Int) = (s.sh.length : Int) := by rw [List.length_map]
      have yes : (¬ (0 ≤ z ∧ z < (s.sh.length : Int)) ∨ z = (s.cs.getD (1 - i) 0 : Nat)) → actP x s i = (8, s) := fun h => by
        rcases hz with ⟨_, h1⟩ | ⟨h1, h2, _⟩
        · exact h1
        · rcases h with h | h
          · exact absurd h1 h
          · exact absurd h h2
      refine ⟨_, rfl, _, _, rfl, rfl, _, rfl, ite2 (fun d0 => ?_) (fun d0 => ?_)⟩
      · have d0' : (0 : Int) ≤ z := of_decide_eq_true d0
        refine ⟨_, rfl, e, _, rfl, .inl (SqL.of W2.he), _, _, rfl, rfl, _, rfl, ?_⟩
        rw [esh]
        refine ite2 (fun d1 => ?_) (fun d1 => ?_)
        · have d1' : ¬ z < (s.sh.length : Int) := by simpa using d1
          exact ite_t rfl ⟨_, rfl, blk (yes (.inl (by omega))) _ W2.pt⟩
        · have d1' : z < (s.sh.length : Int) := by simpa using d1
          refine ⟨_, rfl, _, rfl, _, rfl, _, _, rfl, rfl, c, _, _, .int (s.cs.getD (1 - i) 0 : Nat), rfl, rfl, SqL.of W2.hc, at_of (j := 1 - i) (by omega) (nV_at ic1), rfl, _, rfl, ?_⟩
          refine ite2 (fun d2 => ?_) (fun d2 => ?_)
          · have d2' : z = (s.cs.getD (1 - i) 0 : Nat) := by have := of_decide_eq_true d2; injection this
            exact ⟨_, rfl, blk (yes (.inr d2')) _ W2.pt⟩
          · have d2' : ¬ z = (s.cs.getD (1 - i) 0 : Nat) := fun q => d2 (decide_eq_true (by rw [q]))
            rcases hz with ⟨h1, _⟩ | ⟨_, _, h3, h4⟩
            · omega
            · refine ⟨_, rfl, _, rfl, _, rfl, c, _, _, i, rfl, rfl, W2.hc, ix_of rfl (by rw [List.length_map]; exact ic), ?_⟩
              rw [h3, nV_set]
              exact rest _ _ ⟨_, _, rfl, W2.setC _, rfl, .inr ⟨hw2, ho.h2, rfl, h4⟩⟩
      · exact ⟨_, rfl, ite_t rfl (ite_t rfl ⟨_, rfl, blk (yes (.inl (fun q => d0 (decide_eq_true q.1)))) _ W2.pt⟩)⟩
    obtain ⟨v11, s', rfl, W4, ens, hs4⟩ := hP
    -- pick
    refine seq_restσ (Pk 3) (fun σ H' hP => ?_) (fun rest => ?m5)
    case m5 =>
      refine ⟨_, rfl, rfl, _, rfl, ite_w 2 w8 (fun hw => ?_) (fun hw => rest _ _ ⟨_, _, rfl, W4, ens, ?_⟩)⟩
      · obtain ⟨_, rfl⟩ : 2 ≤ (stOf x s i).w ∧ s' = s := by
          rcases hs4 with h | ⟨h, _⟩
          · exact h
          · omega
        have ea := act_pick hw
        refine ⟨_, rfl, _, rfl, b, _, _, .bl (s'.hs.getD i false), rfl, rfl, SqL.of W4.hb, at_of (j := i) rfl (bV_at ih), _, rfl, ?_⟩
        refine ite_b (fun c1 => ?_) (fun c1 => ?_)
        · rw [if_pos (.inl c1)] at ea
          exact ite_t rfl ⟨_, rfl, blk ea _ W4.pt⟩
        · refine ⟨_, rfl, _, rfl, e, _, _, .int (s'.sh.getD (cOf s' i) 0 : Nat), rfl, rfl, SqL.of W4.he, at_of (j := cOf s' i) rfl (nV_at cl), rfl, _, rfl, ?_⟩
          refine ite2 (fun c2 => ?_) (fun c2 => ?_)
          · have c2' : s'.sh.getD (cOf s' i) 0 = 0 := by have := of_decide_eq_true c2; injection this; omega
            rw [if_pos (.inr c2')] at ea
            exact ⟨_, rfl, blk ea _ W4.pt⟩
          · have c2' : ¬ s'.sh.getD (cOf s' i) 0 = 0 := fun q => c2 (decide_eq_true (by rw [q]; rfl))
            rw [if_neg (by rw [c1]; simp only [Bool.false_eq_true, false_or]; exact c2')] at ea
            refine ⟨_, rfl, _, rfl, e, _, _, .int (s'.sh.getD (cOf s' i) 0 : Nat), rfl, rfl, SqL.of W4.he, at_of (j := cOf s' i) rfl (nV_at cl), _, _, rfl, rfl, (by show 2 ≤ sizeLine; decide), fun q hq => ?_⟩
            have W5 := W4.lay hq (.tup [.bl true, .int ((s'.sh.getD (cOf s' i) 0 : Nat) - 1)])
            refine ⟨q, _, rfl, SqT.of upd_same, rfl, _, _, rfl, _, rfl, _, rfl, b, _, _, i, rfl, rfl, W5.hb, ix_of rfl (by rw [List.length_map]; exact ih), ?_⟩
            rw [bV_set]
            have W6 := W5.setB (s'.hs.set i true)
            refine ⟨_, _, rfl, _, rfl, _, rfl, e, _, _, cOf s' i, rfl, rfl, W6.he, ix_of rfl (by rw [List.length_map]; exact cl), rfl, ?_⟩
            have e1 : ((s'.sh.getD (cOf s' i) 0 : Nat) : Int) - 1 = ((s'.sh.getD (cOf s' i) 0 - 1 : Nat) : Int) := by omega
            have W7 := W6.setE (s'.sh.set (cOf s' i) (s'.sh.getD (cOf s' i) 0 - 1))
            rw [← nV_set, ← e1] at W7
            exact rest _ _ ⟨_, _, rfl, W7, rfl, .inr ⟨by omega, by show (s'.hs.set i true).length = 2; rw [List.length_set]; exact ho.h2, by show (s'.sh.set _ _).length = _; rw [List.length_set], ea⟩⟩
      · rcases hs4 with ⟨h1, h2⟩ | ⟨h1, h2⟩
        · exact .inl ⟨by omega, h2⟩
        · exact .inr ⟨by omega, h2⟩
    clear ens hs4 W4
    obtain ⟨v11, s', rfl, W4, ens, hs4⟩ := hP
    -- put
    refine seq_restσ (Pk 4) (fun σ H' hP => ?_) (fun rest => ?m6)
    case m6 =>
      refine ⟨_, rfl, rfl, _, rfl, ite_w 3 w8 (fun hw => ?_) (fun hw => rest _ _ ⟨_, _, rfl, W4, ens, ?_⟩)⟩
      · obtain ⟨_, rfl⟩ : 3 ≤ (stOf x s i).w ∧ s' = s := by
          rcases hs4 with h | ⟨h, _⟩
          · exact h
          · omega
        have ea := act_put hw
        refine ⟨_, rfl, _, rfl, b, _, _, .bl (s'.hs.getD i false), rfl, rfl, SqL.of W4.hb, at_of (j := i) rfl (bV_at ih), _, rfl, ?_⟩
        cases c1 : s'.hs.getD i false with
        | false =>
          rw [if_pos (.inl c1)] at ea
          exact ite_t rfl (ite_t rfl ⟨_, rfl, blk ea _ W4.pt⟩)
        | true =>
          refine ite_f rfl ⟨_, rfl, _, rfl, e, _, _, .int (s'.sh.getD (cOf s' i) 0 : Nat), rfl, rfl, SqL.of W4.he, at_of (j := cOf s' i) rfl (nV_at cl), _, _, rfl, rfl, _, rfl, ?_⟩
          refine ite2 (fun c2 => ?_) (fun c2 => ?_)
          · have c2' : 3 ≤ s'.sh.getD (cOf s' i) 0 := by have := of_decide_eq_true c2; omega
            rw [if_pos (.inr c2')] at ea
            exact ⟨_, rfl, blk ea _ W4.pt⟩
          · have c2' : ¬ 3 ≤ s'.sh.getD (cOf s' i) 0 := fun q => c2 (decide_eq_true (by omega))
            rw [if_neg (by rw [c1]; simp only [Bool.true_eq_false, false_or]; exact c2')] at ea
            refine ⟨_, rfl, _, rfl, e, _, _, .int (s'.sh.getD (cOf s' i) 0 : Nat), rfl, rfl, SqL.of W4.he, at_of (j := cOf s' i) rfl (nV_at cl), _, _, rfl, rfl, (by show 2 ≤ sizeLine; decide), fun q hq => ?_⟩
            have W5 := W4.lay hq (.tup [.bl false, .int ((s'.sh.getD (cOf s' i) 0 : Nat) + 1)])
            refine ⟨q, _, rfl, SqT.of upd_same, rfl, _, _, rfl, _, rfl, _, rfl, b, _, _, i, rfl, rfl, W5.hb, ix_of rfl (by rw [List.length_map]; exact ih), ?_⟩
            rw [bV_set]
            have W6 := W5.setB (s'.hs.set i false)
            refine ⟨_, _, rfl, _, rfl, _, rfl, e, _, _, cOf s' i, rfl, rfl, W6.he, ix_of rfl (by rw [List.length_map]; exact cl), rfl, ?_⟩
            have e1 : ((s'.sh.getD (cOf s' i) 0 : Nat) : Int) + 1 = ((s'.sh.getD (cOf s' i) 0 + 1 : Nat) : Int) := by omega
            have W7 := W6.setE (s'.sh.set (cOf s' i) (s'.sh.getD (cOf s' i) 0 + 1))
            rw [← nV_set, ← e1] at W7
            exact rest _ _ ⟨_, _, rfl, W7, rfl, .inr ⟨by omega, by show (s'.hs.set i false).length = 2; rw [List.length_set]; exact ho.h2, by show (s'.sh.set _ _).length = _; rw [List.length_set], ea⟩⟩
      · rcases hs4 with ⟨h1, h2⟩ | ⟨h1, h2⟩
        · exact .inl ⟨by omega, h2⟩
        · exact .inr ⟨by omega, h2⟩
    clear ens hs4 W4
    obtain ⟨v11, s', rfl, W4, ens, hs4⟩ := hP
    have hfin : s'.hs.length = 2 ∧ s'.sh.length = s.sh.length ∧ actP x s i = finP x s i s'.cs s'.hs s'.sh := by
      rcases hs4 with ⟨h1, h2⟩ | ⟨_, h2⟩
      · rw [h2]; exact ⟨ho.h2, rfl, act_else h1⟩
      · exact h2
    clear hs4
    obtain ⟨h2', hsl', hfin⟩ := hfin
    have ih' : i < s'.hs.length := by rw [h2']; exact hi
    have cl' : cOf s i < s'.sh.length := by rw [hsl']; exact cl
    -- jumps
    refine seq_restσ (fun σ H' => W4.hc = W4.hc ∧ σ = [some (.ref t), some (.ref ua), some (.int i), some (.ref c), some (.ref n), some (.ref b), some (.ref e), none, some (.str (wS (stOf x s i).w)), some g, some (.int (cOf s i : Nat)), v11, some (.bl (decide (jumpP x s i s'.hs s'.sh)))] ∧ Wk G H H' c n b e s') (fun σ H' hP => ?_) (fun rest => ?m7)
    case m7 =>
      refine ⟨_, rfl, rfl, _, rfl, ite_w 5 w8 (fun hw => ?_) (fun hw => ?_)⟩
      · refine rest _ _ ⟨rfl, ?_, W4⟩
        rw [decide_eq_true (show jumpP x s i s'.hs s'.sh from .inl hw)]
        rfl
      have fin : ∀ bv : Bool, bv = decide (jumpP x s i s'.hs s'.sh) → _ := fun bv hbv => rest ([some (.ref t), some (.ref ua), some (.int i), some (.ref c), some (.ref n), some (.ref b), some (.ref e), none, some (.str (wS (stOf x s i).w)), some g, some (.int (cOf s i : Nat)), v11, some (.bl bv)]) _ ⟨rfl, by rw [hbv], W4⟩
      refine ⟨_, rfl, rfl, _, rfl, ite_w 6 w8 (fun h6 => ?_) (fun h6 => ?_)⟩
      · refine ⟨_, rfl, _, rfl, e, _, _, .int (s'.sh.getD (cOf s i) 0 : Nat), rfl, rfl, SqL.of W4.he, at_of (j := cOf s i) rfl (nV_at cl'), rfl, _, rfl, ?_⟩
        refine ite2 (fun c2 => ?_) (fun c2 => ?_)
        · have c2' : s'.sh.getD (cOf s i) 0 = 0 := by have := of_decide_eq_true c2; injection this; omega
          exact fin true (decide_eq_true (show jumpP x s i s'.hs s'.sh from .inr (.inl ⟨h6, c2'⟩))).symm
        · have c2' : ¬ s'.sh.getD (cOf s i) 0 = 0 := fun q => c2 (decide_eq_true (by rw [q]; rfl))
          refine ⟨_, rfl, rfl, _, rfl, ite_w 7 w8 (fun h7 => by omega) (fun h7 => ?_)⟩
          exact fin false (decide_eq_false (show ¬ jumpP x s i s'.hs s'.sh from fun z => by rcases z with z | z | z; exact hw z; exact c2' z.2; exact h7 z.1)).symm
      · refine ⟨_, rfl, ite_f rfl ⟨_, rfl, rfl, _, rfl, ite_w 7 w8 (fun h7 => ?_) (fun h7 => ?_)⟩⟩
        · refine ⟨_, rfl, _, rfl, b, _, _, .bl (s'.hs.getD i false), rfl, rfl, SqL.of W4.hb, at_of (j := i) rfl (bV_at ih'), fin _ ?_⟩
          have e1 : s'.hs.getD i false = decide (s'.hs.getD i false = true) := by simp
          exact e1.trans (decide_eq_decide.mpr ⟨fun z => .inr (.inr ⟨h7, z⟩), fun z => by rcases z with z | z | z; exact absurd z hw; exact absurd z.1 h6; exact z.2⟩)
        · exact fin false (decide_eq_false (show ¬ jumpP x s i s'.hs s'.sh from fun z => by rcases z with z | z | z; exact hw z; exact h6 z.1; exact h7 z.1)).symm
    obtain ⟨_, rfl, W4⟩ := hP
    -- the next step
    have in' : i < s'.ns.length := by rw [ens]; exact in_
    have lx : xsi.length = (stepsOf x i).length := by rw [DpAll.len hdi, List.length_map]
    have pos := (steps_ok hx i).pos
    refine seq_restσ (fun σ H' => σ = [some (.ref t), some (.ref ua), some (.int i), some (.ref c), some (.ref n), some (.ref b), some (.ref e), none, some (.str (wS (stOf x s i).w)), some g, some (.int (cOf s i : Nat)), v11, some (.bl (decide (jumpP x s i s'.hs s'.sh)))] ∧ Wk G H H' c n b e (actP x s i).2) (fun σ H' hP => ?_) (fun rest => ?m8)
    case m8 =>
      have put : ∀ nv : Int, nv = (nextP x s i s'.hs s'.sh : Nat) → Wk G H (upd H' n (.lst ((nV s'.ns).set i (.int nv)))) c n b e (actP x s i).2 := fun nv hnv => by
        rw [hnv, nV_set]
        have W5 := W4.setN (s'.ns.set i (nextP x s i s'.hs s'.sh))
        rw [hfin]
        rw [ens] at W5 ⊢
        exact W5
      have ixn : ixN (nV s'.ns).length (i : Int) = some i := ix_of rfl (by rw [List.length_map]; exact in')
      refine ⟨_, rfl, _, rfl, ite2 (fun c1 => ?_) (fun c1 => ?_)⟩
      · have hj : jumpP x s i s'.hs s'.sh := of_decide_eq_true c1
        have h5 : 5 ≤ (stOf x s i).w := by rcases hj with h | h | h <;> omega
        obtain ⟨kk, hk, _⟩ := sok.yes h5
        rcases hg with ⟨h1, _⟩ | ⟨k2, h1, rfl⟩
        · rw [h1] at hk; cases hk
        · refine ⟨_, rfl, _, rfl, _, rfl, n, _, _, i, rfl, rfl, W4.hn, ixn, rest _ _ ⟨rfl, put k2 ?_⟩⟩
          unfold nextP
          rw [if_pos hj, h1]
          rfl
      · have hj : ¬ jumpP x s i s'.hs s'.sh := fun q => c1 (decide_eq_true q)
        refine ⟨_, rfl, _, rfl, n, _, _, .int (s.ns.getD i 0 : Nat), rfl, rfl, SqL.of W4.hn, at_of (j := i) rfl (by rw [ens]; exact nV_at in_), _, _, rfl, rfl, ?_⟩
        refine ⟨_, rfl, t, _, _, .ref bo, rfl, rfl, Same.seqT (hGH.trans W4.pt.sm) ht, at_of (j := 2) rfl rfl, _, rfl, bo, _, _, .ref li, rfl, rfl, (hGH.trans W4.pt.sm).seq hbo, at_of (j := i) rfl hli, li, _, rfl, .inl ((hGH.trans W4.pt.sm).seq hsi), _, _, rfl, rfl, ?_, _, rfl, _, rfl, n, _, _, i, rfl, rfl, W4.hn, ixn, rest _ _ ⟨rfl, put _ ?_⟩⟩
        · show (0 : Int) < ((xsi.length : Nat) : Int)
          omega
        · rw [lx, mod_nat]
          unfold nextP
          rw [if_neg hj]
    obtain ⟨rfl, W5⟩ := hP
    -- the end
    obtain ⟨G1, p1, q1, q2, q3, q4⟩ := W5.data (K := K)
    refine ⟨_, rfl, _, rfl, _, rfl, _, rfl, _, rfl, (by show 4 ≤ sizeLine; decide), fun l hl => ?_⟩
    have p2 := p1.new hl (.lst [.ref c, .ref n, .ref b, .ref e])
    refine ⟨(by show 2 ≤ sizeLine; decide), fun r hr' => ?_⟩
    have p3 := p2.new hr' (.tup [.str (wS (stOf x s i).w), .ref l])
    have g2 := same_new (o := .lst [.ref c, .ref n, .ref b, .ref e]) (p1.freeG hl)
    have g3 := same_new (o := .tup [.str (wS (stOf x s i).w), .ref l]) (p2.freeG hr')
    refine k _ _ _ p3.ext p3.sm (.tup (SqT.of upd_same) (.cons ?_ (.cons (sitL_mk (g3.seq (SqL.of upd_same)) ((g2.trans g3).seq q1) ((g2.trans g3).seq q2) ((g2.trans g3).seq q3) ((g2.trans g3).seq q4)) .nil)))
    have ew : (actP x s i).1 = (stOf x s i).w := by rw [hfin]; rfl
    rw [ew, doS_lt w8]
    exact .str _
theorem ok_l_tick (T : Txt K mg a) : FnOk P w K mg base CX0 2 a.f_l_tick a.d_l_tick ["_law_plan_here", "_law_state"] (spLTick K) := by
  refine T.F_l_tick.ok sc_l_tick (fun vs H Q E h => ?_) (fun cdv A outer s0 H vs Q E hr h => ?_)
  · obtain ⟨⟨G, v, u, x, s, rfl, _⟩⟩ := h
    rfl
  · obtain ⟨⟨G, v, u, x, s, rfl, hp, hu, hx, ho, hGH, k⟩⟩ := h
    refine ⟨_, (pss_cons (ps_asg (pe_call (ok_l_act T) (hr.mono (by decide)) rfl T.m_l_act T.F_l_act.kp (b_l_act T) .nil pass0 (pa_cons (pv 0) (pa_cons (pv 1) (pa_cons pe_int pa_nil)))) (pg_tup (by rfl) (pgs_cons (pg_name (i := 2) sc_l_tick.nd rfl (Or.inl rfl)) (pgs_cons (pg_name (i := 1) sc_l_tick.nd rfl (Or.inl rfl)) pgs_nil))))
      (pss_cons (ps_asg (pe_call (ok_l_act T) (hr.mono (by decide)) rfl T.m_l_act T.F_l_act.kp (b_l_act T) .nil pass0 (pa_cons (pv 0) (pa_cons (pv 1) (pa_cons pe_int pa_nil)))) (pg_tup (by rfl) (pgs_cons (pg_name (i := 3) sc_l_tick.nd rfl (Or.inl rfl)) (pgs_cons (pg_name (i := 1) sc_l_tick.nd rfl (Or.inl rfl)) pgs_nil))))
      (pss_one (ps_ret (pe_tup (pa_cons (pe_tup (pa_cons (pv 2) (pa_cons (pv 3) pa_nil))) (pa_cons (pv 1) pa_nil))))))), ?_⟩
    refine ⟨_, rfl, _, rfl, ⟨⟨G, v, u, x, s, 0, rfl, hp, hu, hx, ho, by decide, hGH, fun G1 H1 v1 x1 s1 d1 => ?_⟩⟩⟩
    have p1 := (Pt.start hGH).call x1 s1
    obtain ⟨t1, ys1, rfl, ht1, hy1⟩ := Dp.tup_inv d1
    obtain ⟨u1, r1, rfl, e1, hy1⟩ := DpAll.cons_inv hy1
    obtain ⟨u2, r2, rfl, e2, hy1⟩ := DpAll.cons_inv hy1
    cases DpAll.nil_inv hy1
    cases Dp.str_inv e1
    refine ⟨t1, _, rfl, Same.seqT p1.s ht1, rfl, _, _, rfl, _, _, rfl, rfl, ?_⟩
    have ho1 := act_ok hx ho (i := 0) (by decide)
    refine ⟨_, rfl, _, rfl, ⟨⟨G1, v, u2, x, _, 1, rfl, Dp.mono p1.g _ _ hp, e2, hx, ho1, by decide, p1.s, fun G2 H2 v2 x2 s2 d2 => ?_⟩⟩⟩
    have p2 := p1.call x2 s2
    obtain ⟨t2, ys2, rfl, ht2, hy2⟩ := Dp.tup_inv d2
    obtain ⟨u3, r3, rfl, e3, hy2⟩ := DpAll.cons_inv hy2
    obtain ⟨u4, r4, rfl, e4, hy2⟩ := DpAll.cons_inv hy2
    cases DpAll.nil_inv hy2
    cases Dp.str_inv e3
    refine ⟨t2, _, rfl, Same.seqT p2.s ht2, rfl, _, _, rfl, _, _, rfl, rfl, ?_⟩
    refine ⟨_, rfl, _, rfl, (by show 2 ≤ sizeLine; decide), fun q hq => ?_⟩
    have p3 := p2.new hq (.tup [.str (doS (actP x s 0).1), .str (doS (actP x (actP x s 0).2 1).1)])
    refine ⟨_, rfl, (by show 2 ≤ sizeLine; decide), fun r hr' => ?_⟩
    have p4 := p3.new hr' (.tup [.ref q, u4])
    have g3 := same_new (o := .tup [.str (doS (actP x s 0).1), .str (doS (actP x (actP x s 0).2 1).1)]) (p2.freeG hq)
    have g4 := same_new (o := .tup [.ref q, u4]) (p3.freeG hr')
    refine k _ _ _ p4.ext p4.sm (.tup (SqT.of upd_same) (.cons (.tup (Same.seqT g4 (SqT.of upd_same)) (.cons (.str _) (.cons (.str _) .nil))) (.cons (Dp.mono (g3.trans g4) _ _ e4) .nil)))
end
end Sb

namespace Sb
open PySem PySem.Spec PyProof.Rows L2 TL
structure spRep (K : PySem.W.Frag) (vs : List V) (H : Hp) (Q : VK) (E : XK) : Prop where
  ex : ∃ (G : Hp) (v : V) (x : Pl), vs = [v] ∧ Dp K G v x.D ∧ x.Ok ∧ Pure G H Q fun G' v => ∃ r : Bool, v = .bl r ∧ (r = true → ∃ i n, Cyc x i n ∧ n < 4000)
section
variable {P : Program} {w : World} {K : PySem.W.Frag} {mg : Str → Option Value} {base : Heap} {a : Ad}
theorem ok_l_repeats (T : Txt K mg a) : FnOk P w K mg base CX0 3 a.f_l_repeats a.d_l_repeats ["_law_plan_here"] (spRep K) := by
  refine T.F_l_repeats.ok sc_l_repeats (fun vs H Q E h => ?_) (fun cdv A outer s0 H vs Q E hr h => ?_)
  · obtain ⟨⟨G, v, x, rfl, _⟩⟩ := h
    rfl
  · obtain ⟨⟨G, v, x, rfl, hp, hx, hGH, k⟩⟩ := h
    refine ⟨_, (pss_cons (ps_par (i := 1) (j := 2) (by rfl) sc_l_repeats.nd rfl rfl (by decide) rfl rfl (pa_cons (pe_call (ok_l_empty T) (hr.mono (by decide)) rfl T.m_l_empty T.F_l_empty.kp (b_l_empty T) .nil pass0 (pa_cons (pv 0) pa_nil)) (pa_cons pe_dnewN pa_nil)) (by rfl))
      (pss_cons (ps_for PassesOwn.never rfl (pi_range1 (by rfl) T.z_range (pa_cons pe_int pa_nil)) (pg_name (i := 3) sc_l_repeats.nd rfl (Or.inl rfl)) (pss_cons (ps_set (i := 4) sc_l_repeats.nd rfl (Or.inl rfl) (pe_callTy call_tuple_of (by rfl) T.z_tuple (by decide +kernel) (pa_cons (pe_lc (own := [("_law_part", 5)]) (g := gName 5) (te := (tCB (fun xs H Q => ∃ p ys, xs = [.ref p] ∧ ((SqL K H p ys ∧ ∀ l, H l = none → Q (.ref l) (upd H l (.tup ys))) ∨ (SqT K H p ys ∧ Q (.ref p) H))) (tCons (tVar 5) tNil))) (tt := tYes) rfl sc_l_repeats.nd (pi_list (pv 1)) (blkOk_by (own := [("_law_part", 5)]) (N := ["_law_plan_here", "_law_state", "_law_keys", "_law_tick_here", "_law_key", "_law_part"]) (sc := (defScope s_l_repeats)) (by decide +kernel)) (fun _ _ _ _ _ => (pg_name (i := 5) sc_l_repeats.nd rfl (Or.inl rfl))) (fun _ _ _ _ _ => pts_nil) (fun _ _ _ _ _ => by exact (pe_callTy call_tuple_of (by rfl) T.z_tuple (by decide +kernel) (pa_cons (pv 5) pa_nil)))) pa_nil)))
      (pss_cons (ps_if (pt_cmpR (op_inN hr.units) (pv 4) (pv 2) rfl) (pss_one (ps_ret pe_bl)) pss_nil)
      (pss_one (ps_asg (pe_tup (pa_cons pe_bl (pa_cons (pe_ix ix_tup (pe_call (ok_l_tick T) (hr.mono (by decide)) rfl T.m_l_tick T.F_l_tick.kp (b_l_tick T) .nil pass0 (pa_cons (pv 0) (pa_cons (pv 1) pa_nil))) pe_int (fun _ _ => rfl)) pa_nil))) (pg_tup (by rfl) (pgs_cons (pg_sub (pv 2) (pv 4) (set_newN hr.units)) (pgs_cons (pg_name (i := 1) sc_l_repeats.nd rfl (Or.inl rfl)) pgs_nil))))))))
      (pss_one (ps_ret pe_bl)))), ?_⟩
    refine ⟨_, rfl, ⟨⟨G, v, x, rfl, hp, hGH, fun G1 H1 u x1 s1 d1 => ?_⟩⟩⟩
    have p1 := (Pt.start hGH).call x1 s1
    intro kd hkd
    have kd0 : H kd = none := p1.free hkd
    refine ⟨_, _, rfl, ?_⟩
    refine ⟨4000, rfl, by decide, by decide, for_range (lo := 0) (n := 4000) (fun j σ H' => ∃ (G' : Hp) (u : V) (xs : Ents) (v3 v4 : Option V), σ = [some v, some u, some (.ref kd), v3, v4, none] ∧ Pt G H G' H' ∧ Dp K G' v x.D ∧ Dp K G' u (sitL (sitAt x j)) ∧ DK P w K G' H' kd xs ∧ Met x xs j (fun _ => .bl true) ∧ Nod x j) ?_ ?_ ?_⟩
    · exact ⟨G1, u, [], none, none, rfl, p1.lay hkd _, Dp.mono p1.g _ _ hp, d1, ⟨upd_same, p1.freeG hkd, fun _ h => nomatch h⟩, Met.nil, Nod.zero⟩
    · rintro j σ H' hj ⟨G', u, xs, v3, v4, rfl, B, hp', du, hK, hM, hN⟩
      have so := sitAt_ok hx j
      obtain ⟨ua, uc, un, ub, ue, rfl, hua, huc, hun, hub, hue⟩ := sitL_inv du
      -- the key
      refine ⟨_, rfl, ua, rfl, ⟨_, B.s.seq hua⟩, fun D hD => ?_⟩
      have D0 := B.free hD
      have DG := B.freeG hD
      have kD : kd ≠ D := ne_of_none hK.at_ hD
      refine lc_list (K := K) (a := ua) (xs := [.ref uc, .ref un, .ref ub, .ref ue]) (fun m H2 => ∃ (G2 : Hp) (us : List V), us.length = m ∧ Pt G H G2 H2 ∧ Same G' G2 ∧ H2 D = some (.lst us) ∧ G2 D = none ∧ DK P w K G2 H2 kd xs ∧ DpAll K G2 us (([natsT (sitAt x j).cs, natsT (sitAt x j).ns, boolsT (sitAt x j).hs, natsT (sitAt x j).sh] : List PyData).take m))
        ⟨G', [], rfl, B.lay hD _, Same.refl _, upd_same, DG, hK.grow (Same.refl _) (fun o ho => by rw [upd_ne kD]; exact ho) hK.out, .nil⟩ (fun m H2 _ ⟨G2, us, _, q1, q2, _⟩ => (q2.trans q1.s).seq hua) ?_ ?_
      · rintro m y H2 hy ⟨G2, us, hm, q1, q2, hD2, DG2, K2, hus⟩
        obtain ⟨q, it, dd, rfl, hq, hd, hit⟩ : ∃ (q : Addr) (it : List V) (dd : List PyData), y = .ref q ∧ SqL K G' q it ∧ ([natsT (sitAt x j).cs, natsT (sitAt x j).ns, boolsT (sitAt x j).hs, natsT (sitAt x j).sh] : List PyData)[m]? = some (.tuple dd) ∧ ∀ G, DpAll K G it dd := by
          match m, hy with
          | 0, hy => exact ⟨uc, _, _, (Option.some.inj hy).symm, huc, rfl, fun _ => nats_D' _⟩
          | 1, hy => exact ⟨un, _, _, (Option.some.inj hy).symm, hun, rfl, fun _ => nats_D' _⟩
          | 2, hy => exact ⟨ub, _, _, (Option.some.inj hy).symm, hub, rfl, fun _ => bools_D _⟩
          | 3, hy => exact ⟨ue, _, _, (Option.some.inj hy).symm, hue, rfl, fun _ => nats_D' _⟩
          | m + 4, hy => simp at hy
        have hm4 : m < 4 := (List.getElem?_eq_some_iff.mp hy).1
        refine ⟨rfl, _, rfl, q, it, rfl, .inl ⟨(q2.trans q1.s).seq hq, fun l hl => ?_⟩⟩
        have Dl : D ≠ l := ne_of_none hD2 hl
        have kl : kd ≠ l := ne_of_none K2.at_ hl
        have r1 := q1.new hl (.tup it)
        have gl := same_new (o := .tup it) (q1.freeG hl)
        refine ⟨_, by rw [upd_ne Dl]; exact hD2, smaller 4 (by omega) (by decide), upd G2 l (.tup it), us ++ [.ref l], by rw [List.length_append, hm]; rfl, r1.put D0 (by rw [upd_ne Dl]; exact DG2) _, q2.trans gl, upd_same, by rw [upd_ne Dl]; exact DG2, ?_, ?_⟩
        · exact K2.grow gl (fun o ho => by rw [upd_ne kD, upd_ne kl]; exact ho) (by rw [upd_ne kl]; exact K2.out)
        · rw [take_more hd]
          exact DpAll.snoc (Dp.monoAll gl _ _ hus) (.tup (SqT.of upd_same) (hit _))
      rintro H2 ⟨G2, us, hm, q1, q2, hD2, DG2, K2, hus⟩
      refine ⟨D, _, rfl, .inl ⟨SqL.of hD2, fun ky hky => ?_⟩⟩
      have r1 := q1.new hky (.tup us)
      have g3 := same_new (o := .tup us) (q1.freeG hky)
      have kk : kd ≠ ky := ne_of_none K2.at_ hky
      have K3 : DK P w K (upd G2 ky (.tup us)) (upd H2 ky (.tup us)) kd xs := K2.grow g3 (fun o ho => by rw [upd_ne kk]; exact ho) (by rw [upd_ne kk]; exact K2.out)
      have dky : Dp K (upd G2 ky (.tup us)) (.ref ky) (sitT (sitAt x j)) := .tup (SqT.of upd_same) (Dp.monoAll g3 _ _ hus)
      -- in
      refine ⟨_, rfl, _, rfl, kd, ky, xs, _, _, rfl, rfl, K3.dn r1.s, Dp.mono r1.s _ _ dky, nk_sit _, nk_depth _, _, rfl, ite2 (fun c => ?_) (fun c => ?_)⟩
      · have c' : nkOf (sitAt x j) ∈ xs.map (·.1) := of_decide_eq_true c
        obtain ⟨i, hi, e⟩ := (hM.keys _).mp c'
        exact k _ _ _ r1.ext r1.sm ⟨true, rfl, fun _ => ⟨i, j, ⟨hi, e, hN⟩, by omega⟩⟩
      · have c' : nkOf (sitAt x j) ∉ xs.map (·.1) := fun z => c (decide_eq_true z)
        have hno := fun z => c' ((hM.keys _).mpr z)
        have du3 : Dp K (upd G2 ky (.tup us)) (.ref ua) (sitL (sitAt x j)) := Dp.mono (q2.trans g3) _ _ du
        refine ⟨_, rfl, _, rfl, ⟨⟨_, v, .ref ua, x, _, rfl, Dp.mono (q2.trans g3) _ _ hp', du3, hx, so, r1.s, fun G4 H4 z x4 s4 d4 => ?_⟩⟩⟩
        have r2 := r1.call x4 s4
        have K4 := K3.grow x4.g (fun o ho => s4 _ _ ho) (x4.out K3.out K3.at_)
        obtain ⟨t4, ys4, rfl, ht4, hy4⟩ := Dp.tup_inv d4
        obtain ⟨z1, r4, rfl, e1, hy4⟩ := DpAll.cons_inv hy4
        obtain ⟨z2, r5, rfl, e2, hy4⟩ := DpAll.cons_inv hy4
        cases DpAll.nil_inv hy4
        refine ⟨t4, _, _, z2, rfl, rfl, Same.seqT r2.s ht4, at_of (j := 1) rfl rfl, (by show 2 ≤ sizeLine; decide), fun tp htp => ?_⟩
        have r3 := r2.new htp (.tup [.bl true, z2])
        have g5 := same_new (o := .tup [.bl true, z2]) (r2.freeG htp)
        have kt : kd ≠ tp := ne_of_none K4.at_ htp
        have K5 : DK P w K (upd G4 tp (.tup [.bl true, z2])) (upd H4 tp (.tup [.bl true, z2])) kd xs := K4.grow g5 (fun o ho => by rw [upd_ne kt]; exact ho) (by rw [upd_ne kt]; exact K4.out)
        have dky5 := Dp.mono (x4.g.trans g5) _ _ dky
        refine ⟨tp, _, rfl, SqT.of upd_same, rfl, _, _, rfl, _, rfl, _, rfl, kd, ky, xs, _, _, rfl, rfl, K5.dn r3.s, Dp.mono r3.s _ _ dky5, nk_sit _, nk_depth _, c', small 4000 (by rw [hM.1]; omega) (by decide), _, _, rfl, rfl, ?_⟩
        exact ⟨_, z2, _, _, _, rfl, r3.put kd0 K5.out _, Dp.mono (((q2.trans g3).trans x4.g).trans g5) _ _ hp', Dp.mono g5 _ _ e2, K5.put dky5, hM.snoc, hN.succ hno⟩
    · rintro σ H' ⟨G', u, xs, v3, v4, rfl, B, _⟩
      exact k _ _ _ B.ext B.sm ⟨false, rfl, fun h => by cases h⟩
end
end Sb

namespace Sb
open PySem PySem.Spec PyProof.Rows L2 TL
/-- a plan that comes round -/
structure Rnd (x : Pl) : Prop where
  ex : ∃ i n, Cyc x i n ∧ n < 4000
structure spPlan (K : PySem.W.Frag) (vs : List V) (H : Hp) (Q : VK) (E : XK) : Prop where
  ex : ∃ (d : Addr) (G : Hp) (most : Nat), vs = [.ref d, .int most] ∧ 1 ≤ most ∧ most ≤ 20 ∧
    Drawn d G H Q fun G' v => ∃ x : Pl, x.Ok ∧ Rnd x ∧ x.shelf.length ≤ 8 ∧ Dp K G' v x.D ∧ x.p.length ≤ most ∧ x.q.length ≤ most
theorem draw_plan {K : PySem.W.Frag} {d : Addr} {G0 H0 G H : Hp} {most : Nat} {Q : VK} {E : XK} (h : At d G0 H0 G H) (m1 : 1 ≤ most) (m2 : most ≤ 20)
    (k : ∀ (G1 H1 : Hp) (v : V) (x : Pl), At d G0 H0 G1 H1 → At d G H G1 H1 → x.Ok → Rnd x → x.shelf.length ≤ 8 → Dp K G1 v x.D → x.p.length ≤ most → x.q.length ≤ most → Q v H1) : spPlan K [.ref d, .int most] H Q E :=
  ⟨⟨d, G, most, rfl, m1, m2, h.now, fun G' H' v A ⟨ss, o, rn, o8, D, l1, l2⟩ => k G' H' v ss (h.trans A) A o rn o8 D l1 l2⟩⟩
section
variable {P : Program} {w : World} {K : PySem.W.Frag} {mg : Str → Option Value} {base : Heap} {a : Ad}
theorem ok_l_plan (T : Txt K mg a) : FnOk P w K mg base CX0 4 a.f_l_plan a.d_l_plan ["_law_d", "_law_most"] (spPlan K) := by
  refine T.F_l_plan.ok sc_l_plan (fun vs H Q E h => ?_) (fun cdv A outer s H vs Q E hr h => ?_)
  · obtain ⟨⟨d, G, m, rfl, _⟩⟩ := h
    rfl
  · obtain ⟨⟨d, G, most, rfl, m1, m20, hN, k⟩⟩ := h
    refine ⟨_, (pss_cons (ps_set (i := 2) sc_l_plan.nd rfl (Or.inl rfl) (pe_op op_add pe_int (pe_call (ok_l_below T) (hr.mono (by decide)) rfl T.m_l_below T.F_l_below.kp (b_l_below T) .nil pass0 (pa_cons (pv 0) (pa_cons (pe_ix ix_list (pe_lst (pa_cons pe_int (pa_cons pe_int pa_nil))) (pe_call (ok_l_below T) (hr.mono (by decide)) rfl T.m_l_below T.F_l_below.kp (b_l_below T) .nil pass0 (pa_cons (pv 0) (pa_cons pe_int pa_nil))) (fun _ _ => rfl)) pa_nil)))))
      (pss_cons (ps_set (i := 3) sc_l_plan.nd rfl (Or.inl rfl) (pe_call (ok_l_below T) (hr.mono (by decide)) rfl T.m_l_below T.F_l_below.kp (b_l_below T) .nil pass0 (pa_cons (pv 0) (pa_cons (pv 2) pa_nil))))
      (pss_cons (ps_set (i := 4) sc_l_plan.nd rfl (Or.inl rfl) (pe_op op_mod (pe_op op_add (pe_op op_add (pv 3) pe_int) (pe_call (ok_l_below T) (hr.mono (by decide)) rfl T.m_l_below T.F_l_below.kp (b_l_below T) .nil pass0 (pa_cons (pv 0) (pa_cons (pe_op op_sub (pv 2) pe_int) pa_nil)))) (pv 2)))
      (pss_cons (ps_set (i := 5) sc_l_plan.nd rfl (Or.inl rfl) (pe_callTy call_tuple_of (by rfl) T.z_tuple (by decide +kernel) (pa_cons (pe_lc (own := [("_law_k", 6)]) (g := gName 6) (tt := tYes) rfl sc_l_plan.nd (pi_range1 (by rfl) T.z_range (pa_cons (pv 2) pa_nil)) (blkOk_by (own := [("_law_k", 6)]) (N := ["_law_d", "_law_most", "_law_many_cells", "_law_first", "_law_second", "_law_shelf", "_law_k", "_law_plan_here"]) (sc := (defScope s_l_plan)) (by decide +kernel)) (fun _ _ _ _ _ => (pg_name (i := 6) sc_l_plan.nd rfl (Or.inl rfl))) (fun _ _ _ _ _ => pts_nil) (fun _ _ _ _ _ => by exact (pe_call (ok_l_below T) (hr.mono (by decide)) rfl T.m_l_below T.F_l_below.kp (b_l_below T) .nil pass0 (pa_cons (pv 0) (pa_cons pe_int pa_nil))))) pa_nil)))
      (pss_cons (ps_set (i := 7) sc_l_plan.nd rfl (Or.inl rfl) (pe_tup (pa_cons (pv 5) (pa_cons (pe_tup (pa_cons (pv 3) (pa_cons (pv 4) pa_nil))) (pa_cons (pe_lst (pa_cons (pe_call (ok_l_steps T) (hr.mono (by decide)) rfl T.m_l_steps T.F_l_steps.kp (b_l_steps T) .nil pass0 (pa_cons (pv 0) (pa_cons (pv 1) pa_nil))) (pa_cons (pe_call (ok_l_steps T) (hr.mono (by decide)) rfl T.m_l_steps T.F_l_steps.kp (b_l_steps T) .nil pass0 (pa_cons (pv 0) (pa_cons (pv 1) pa_nil))) pa_nil))) pa_nil)))))
      (pss_one (ps_ret (pe_ifExp (pt_val (pe_call (ok_l_repeats T) (hr.mono (by decide)) rfl T.m_l_repeats T.F_l_repeats.kp (b_l_repeats T) .nil pass0 (pa_cons (pv 7) pa_nil))) (pv 7) (pe_tup (pa_cons (pv 5) (pa_cons (pe_tup (pa_cons (pv 3) (pa_cons (pv 4) pa_nil))) (pa_cons (pe_lst (pa_cons (pe_lst (pa_cons (pe_tup (pa_cons pe_str (pa_cons pe_non pa_nil))) pa_nil)) (pa_cons (pe_lst (pa_cons (pe_tup (pa_cons pe_str (pa_cons pe_non pa_nil))) pa_nil)) pa_nil))) pa_nil)))))))))))), ?_⟩
    refine ⟨_, rfl, (by show 2 ≤ sizeLine; decide), fun q hq => ?_⟩
    have A1 := hN.at.new hq (.lst [.int 3, .int 6])
    refine ⟨_, rfl, draw_go A1 (by decide) (by decide) fun H2 m A2 K2 hm => ?_⟩
    obtain ⟨lim, hlim, l1, l6⟩ : ∃ lim : Nat, ([V.int 3, V.int 6] : List V)[m]? = some (.int lim) ∧ 0 < lim ∧ lim ≤ 6 := by
      match m, hm with
      | 0, _ => exact ⟨3, rfl, by decide, by decide⟩
      | 1, _ => exact ⟨6, rfl, by decide, by decide⟩
      | m + 2, h => exact absurd h (by omega)
    refine ⟨q, _, _, .int lim, rfl, rfl, A2.now.s.seq (SqL.of upd_same), atI_nat hlim, draw_go A2 (by omega) (by omega) fun H3 i A3 K3 hi => ?_⟩
    refine ⟨_, _, rfl, rfl, ?_⟩
    -- first
    refine ⟨_, rfl, _, rfl, draw_go A3 (by omega) (by omega) fun H4 f A4 K4 hf => ?_⟩
    -- second
    refine ⟨_, rfl, _, _, rfl, rfl, _, rfl, _, rfl, _, _, rfl, rfl, draw_go A4 (by omega) (by omega) fun H5 t A5 K5 ht => ?_⟩
    refine ⟨_, _, rfl, rfl, _, rfl, _, _, rfl, rfl, (by show (0 : Int) < 3 + (i : Int); omega), ?_⟩
    dsimp only
    rw [other_eq f t i]
    have hb : (f + 1 + t) % (3 + i) < 3 + i := Nat.mod_lt _ (by omega)
    have hne : f ≠ (f + 1 + t) % (3 + i) := (other_ne (by omega) (by omega)).symm
    generalize (f + 1 + t) % (3 + i) = b at hb hne ⊢
    -- the shelf
    refine ⟨_, rfl, _, rfl, by omega, by omega, fun D hD => ?_⟩
    have D0 : H D = none := A5.ext.k D hD
    have Dd : D ≠ d := A5.ne hD
    have DG := A5.ext.new_out hD
    refine lc_range (lo := 0) (n := (3 + (i : Int)).toNat) (fun j H' => ∃ l : List Nat, At d G H (upd G q (.lst [.int 3, .int 6])) H' ∧ H' D = some (.lst (l.map fun n : Nat => V.int n)) ∧ l.length = j ∧ ∀ n ∈ l, n ≤ 3) ⟨[], A5.lay hD _, upd_same, rfl, fun _ h => nomatch h⟩ ?_ ?_
    · rintro j H' hj ⟨l, B, hl, hlj, h3⟩
      refine ⟨rfl, _, rfl, draw_go B (by decide) (by decide) fun H6 x B1 K1 hx => ?_⟩
      refine ⟨_, (by rw [K1 D Dd]; exact hl), smaller 9 (by rw [List.length_map]; omega) (by decide), l ++ [x], B1.put D0 DG Dd _, ?_, ?_, ?_⟩
      · rw [upd_same, List.map_append]; rfl
      · rw [List.length_append, hlj]; rfl
      · intro n hn
        rcases List.mem_append.mp hn with h | h
        · exact h3 n h
        · rw [List.mem_singleton.mp h]; omega
    · rintro H6 ⟨l, B, hl, hlj, h3⟩
      refine ⟨D, _, rfl, .inl ⟨SqL.of hl, fun u hu => ?_⟩⟩
      have B1 := B.new hu (.tup (l.map fun n : Nat => V.int n))
      have s1 : SqT K (upd (upd G q (.lst [.int 3, .int 6])) u (.tup (l.map fun n : Nat => V.int n))) u (l.map fun n : Nat => V.int n) := SqT.of upd_same
      -- the plan
      refine ⟨_, rfl, _, rfl, _, rfl, (by show 2 ≤ sizeLine; decide), fun st hst => ?_⟩
      have B2 := B1.new hst (.tup [.int f, .int b])
      refine ⟨_, rfl, _, rfl, draw_steps B2 m1 m20 fun G7 H7 v1 ss1 B7 B7' o1 D1 le1 => ?_⟩
      refine ⟨_, rfl, _, rfl, draw_steps B7 m1 m20 fun G8 H8 v2 ss2 B8 B8' o2 D2 le2 => ?_⟩
      refine ⟨(by show 2 ≤ sizeLine; decide), fun r hr' => ?_⟩
      have B9 := B8.new hr' (.lst [v1, v2])
      refine ⟨(by show 3 ≤ sizeLine; decide), fun z hz => ?_⟩
      have B10 := B9.new hz (.tup [.ref u, .ref st, .ref r])
      have n1 := same_new (H := G8) (p := r) (o := .lst [v1, v2]) (B8.ext.new_out hr')
      have n2 := same_new (H := upd G8 r (.lst [v1, v2])) (p := z) (o := .tup [.ref u, .ref st, .ref r]) (B9.ext.new_out hz)
      have g8 : Same _ G8 := B7'.g.trans B8'.g
      have dx : Dp K (upd (upd G8 r (.lst [v1, v2])) z (.tup [.ref u, .ref st, .ref r])) (.ref z) (⟨l, f, b, ss1, ss2⟩ : Pl).D := by
        refine .tup (SqT.of upd_same) (.cons (.tup ?_ (nats_D _ _ l)) (.cons (.tup ?_ (.cons (.int _) (.cons (.int _) .nil))) (.cons (.lst (xs := [v1, v2]) ?_ (.cons ?_ (.cons ?_ .nil))) .nil)))
        · exact Same.seqT ((g8.trans n1).trans n2) (Same.seqT (same_new (B1.ext.new_out hst)) s1)
        · exact Same.seqT ((g8.trans n1).trans n2) (SqT.of upd_same)
        · exact n2.seq (SqL.of upd_same)
        · exact Dp.mono ((B8'.g.trans n1).trans n2) _ _ D1
        · exact Dp.mono (n1.trans n2) _ _ D2
      have ok : (⟨l, f, b, ss1, ss2⟩ : Pl).Ok := ⟨by show 3 ≤ l.length; omega, by show l.length ≤ 12; omega, h3, by show f < l.length; omega, by show b < l.length; omega, hne, o1, o2⟩
      -- the filter
      refine ⟨_, rfl, ⟨⟨_, _, _, rfl, dx, ok, B10.now.s, fun G9 H9 rv x9 s9 h9 => ?_⟩⟩⟩
      obtain ⟨rb, rfl, hrb⟩ := h9
      have C1 := B10.pure x9 s9
      refine ⟨_, rfl, ite_b (fun c => ?_) (fun c => ?_)⟩
      · exact ⟨_, rfl, k _ _ _ C1 ⟨_, ok, ⟨hrb c⟩, by show l.length ≤ 8; omega, Dp.mono x9.g _ _ dx, le1, le2⟩⟩
      · refine ⟨_, rfl, _, rfl, _, rfl, (by show 2 ≤ sizeLine; decide), fun t1 ht1 => ?_⟩
        have C2 := C1.new ht1 (.tup [.int f, .int b])
        refine ⟨(by show 2 ≤ sizeLine; decide), fun t2 ht2 => ?_⟩
        have C3 := C2.new ht2 (.tup [.str (wS 4), .non])
        refine ⟨(by show 1 ≤ sizeLine; decide), fun t3 ht3 => ?_⟩
        have C4 := C3.new ht3 (.lst [.ref t2])
        refine ⟨(by show 2 ≤ sizeLine; decide), fun t4 ht4 => ?_⟩
        have C5 := C4.new ht4 (.tup [.str (wS 4), .non])
        refine ⟨(by show 1 ≤ sizeLine; decide), fun t5 ht5 => ?_⟩
        have C6 := C5.new ht5 (.lst [.ref t4])
        refine ⟨(by show 2 ≤ sizeLine; decide), fun t6 ht6 => ?_⟩
        have C7 := C6.new ht6 (.lst [.ref t3, .ref t5])
        refine ⟨(by show 3 ≤ sizeLine; decide), fun t7 ht7 => ?_⟩
        have C8 := C7.new ht7 (.tup [.ref u, .ref t1, .ref t6])
        have e2 := same_new (o := .tup [.str (wS 4), .non]) (C2.ext.new_out ht2)
        have e3 := same_new (o := .lst [.ref t2]) (C3.ext.new_out ht3)
        have e4 := same_new (o := .tup [.str (wS 4), .non]) (C4.ext.new_out ht4)
        have e5 := same_new (o := .lst [.ref t4]) (C5.ext.new_out ht5)
        have e6 := same_new (o := .lst [.ref t3, .ref t5]) (C6.ext.new_out ht6)
        have e7 := same_new (o := .tup [.ref u, .ref t1, .ref t6]) (C7.ext.new_out ht7)
        have e1 := same_new (o := .tup [.int f, .int b]) (C1.ext.new_out ht1)
        have su : SqT K G9 u (l.map fun n : Nat => V.int n) := Same.seqT x9.g (Same.seqT ((g8.trans n1).trans n2) (Same.seqT (same_new (B1.ext.new_out hst)) s1))
        refine k _ _ _ C8 ⟨waits ⟨l, f, b, ss1, ss2⟩, waits_ok ok, ⟨_, _, waits_cyc _, by decide⟩, by show l.length ≤ 8; omega, ?_, m1, m1⟩
        refine .tup (SqT.of upd_same) (.cons (.tup ?_ (nats_D _ _ l)) (.cons (.tup ?_ (.cons (.int _) (.cons (.int _) .nil))) (.cons (.lst (xs := [.ref t3, .ref t5]) ?_ (.cons (.lst (xs := [.ref t2]) ?_ (.cons (stepD_no ?_) .nil)) (.cons (.lst (xs := [.ref t4]) ?_ (.cons (stepD_no ?_) .nil)) .nil))) .nil)))
        · exact Same.seqT ((((((e1.trans e2).trans e3).trans e4).trans e5).trans e6).trans e7) su
        · exact Same.seqT (((((e2.trans e3).trans e4).trans e5).trans e6).trans e7) (SqT.of upd_same)
        · exact e7.seq (SqL.of upd_same)
        · exact (((e4.trans e5).trans e6).trans e7).seq (SqL.of upd_same)
        · exact Same.seqT ((((e3.trans e4).trans e5).trans e6).trans e7) (SqT.of upd_same)
        · exact (e6.trans e7).seq (SqL.of upd_same)
        · exact Same.seqT ((e5.trans e6).trans e7) (SqT.of upd_same)
end
end Sb

namespace Sb
open PySem PySem.Spec PyProof.Rows L2 TL
/-! ### some things may be written: those of S -/
def wos (S : List Addr) (H : Hp) : Hp := fun b => if b ∈ S then none else H b
theorem wos_in {S : List Addr} {H : Hp} {b : Addr} (h : b ∈ S) : wos S H b = none := if_pos h
theorem wos_out {S : List Addr} {H : Hp} {b : Addr} (h : b ∉ S) : wos S H b = H b := if_neg h
theorem wos_some {S : List Addr} {H : Hp} {b : Addr} {o : HO} (h : wos S H b = some o) : b ∉ S ∧ H b = some o := by
  by_cases e : b ∈ S
  · rw [wos_in e] at h; cases h
  · rw [wos_out e] at h; exact ⟨e, h⟩
structure Mv (S : List Addr) (G0 H0 G H : Hp) : Prop where
  ext : Ext G0 H0 G H
  sm : Same (wos S H0) H
section
variable {S S' : List Addr} {G0 H0 G H G1 H1 : Hp} {p l x dx : Addr} {o : HO}
theorem Mv.start (s : Same G H) : Mv S G H G H := ⟨Ext.refl s, fun _ _ e => (wos_some e).2⟩
theorem Mv.new (a : Mv S G0 H0 G H) (np : H p = none) (o : HO) : Mv S G0 H0 (upd G p o) (upd H p o) := ⟨a.ext.new np, a.sm.trans (same_new np)⟩
theorem Mv.lay (a : Mv S G0 H0 G H) (np : H p = none) (o : HO) : Mv S G0 H0 G (upd H p o) := ⟨a.ext.lay np, a.sm.trans (same_new np)⟩
theorem Mv.put (a : Mv S G0 H0 G H) (n0 : l ∈ S ∨ H0 l = none) (n : G l = none) (o : HO) : Mv S G0 H0 G (upd H l o) := ⟨a.ext.put n, same_put a.sm (by
  rcases n0 with h | h
  · exact wos_in h
  · by_cases e : l ∈ S
    · exact wos_in e
    · rw [wos_out e]; exact h)⟩
theorem Mv.freeze (a : Mv S G0 H0 G H) (n0 : H0 l = none) (h : H l = some o) : Mv S G0 H0 (upd G l o) H := ⟨a.ext.freeze n0 h, a.sm⟩
theorem Mv.make (a : Mv S G0 H0 G H) (nx : H x = none) (nd : H dx = none) (ne : dx ≠ x) (o : HO) : Mv S G0 H0 (upd (upd G dx (.own x)) x o) (upd (upd H dx (.own x)) x o) := ⟨a.ext.make nx nd ne o, a.sm.trans (same_make nx nd ne o)⟩
theorem Mv.trans (a : Mv S G0 H0 G H) (b : Mv S G H G1 H1) : Mv S G0 H0 G1 H1 := by
  refine ⟨a.ext.trans b.ext, fun c o e => ?_⟩
  obtain ⟨h1, h2⟩ := wos_some e
  exact b.sm c o (by rw [wos_out h1]; exact a.sm c o e)
theorem Mv.mono (a : Mv S G0 H0 G H) (h : ∀ b ∈ S, b ∈ S' ∨ H0 b = none) : Mv S' G0 H0 G H := by
  refine ⟨a.ext, fun c o e => ?_⟩
  obtain ⟨h1, h2⟩ := wos_some e
  refine a.sm c o ?_
  by_cases hc : c ∈ S
  · rcases h c hc with h | h
    · exact absurd h h1
    · rw [h] at h2; cases h2
  · rw [wos_out hc]; exact h2
theorem Mv.kept (a : Mv S G0 H0 G H) (h : H0 l = some o) (n : l ∉ S) : H l = some o := a.sm l o (by rw [wos_out n]; exact h)
theorem Mv.s (a : Mv S G0 H0 G H) : Same G H := a.ext.h
theorem Mv.g (a : Mv S G0 H0 G H) : Same G0 G := a.ext.g
theorem Mv.free (a : Mv S G0 H0 G H) (np : H p = none) : H0 p = none := a.ext.k p np
theorem Mv.freeG (a : Mv S G0 H0 G H) (np : H p = none) : G p = none := Same.free a.ext.h np
theorem Mv.pt (a : Mv [] G0 H0 G H) : Pt G0 H0 G H := ⟨a.ext, fun c o e => a.sm c o (by rw [wos_out (by simp)]; exact e)⟩
theorem Mv.pure (a : Mv S G0 H0 G H) (e : Ext G H G1 H1) (s : Same H H1) : Mv S G0 H0 G1 H1 := ⟨a.ext.trans e, a.sm.trans s⟩
end
/-! ### the parser -/
def parF (tk fl : Addr) (n : Nat) : List (Str × V) := [("tokens", .ref tk), ("at", .int n), ("faults", .ref fl)]
def ParAt (a : Ad) (G H : Hp) (p : Addr) (n : Nat) (toks : List Tk) : Prop := ∃ (dx tk fl : Addr) (vs : List V), H p = some (.ins a.C_Parser dx (parF tk fl n)) ∧ G p = none ∧ G tk = some (.lst vs) ∧ ToksAt a.C_Token G vs toks ∧ G fl = some (.lst [])
theorem parF_put (tk fl : Addr) (n m : Nat) : putF "at" (.int ((n : Int) + (m : Int))) (parF tk fl n) = parF tk fl (n + m) := by
  show (if ("tokens" : Str) = "at" then _ else (("tokens" : Str), V.ref tk) :: (if ("at" : Str) = "at" then (("at" : Str), V.int ((n : Int) + (m : Int))) :: [(("faults" : Str), V.ref fl)] else _)) = _
  rw [if_neg (by decide +kernel), if_pos rfl]
  rfl
theorem ParAt.grow {a : Ad} {G G' H H' : Hp} {p : Addr} {n : Nat} {toks : List Tk} (h : ParAt a G H p n toks) (g : Same G G') (hp : ∀ o, H p = some o → H' p = some o) (n' : G' p = none) : ParAt a G' H' p n toks := by
  obtain ⟨dx, tk, fl, vs, h1, h2, h3, h4, h5⟩ := h
  exact ⟨dx, tk, fl, vs, hp _ h1, n', g _ _ h3, ToksAt.mono g h4, g _ _ h5⟩
theorem ParAt.some {a : Ad} {G H : Hp} {p : Addr} {n : Nat} {toks : List Tk} (h : ParAt a G H p n toks) : ∃ dx tk fl, H p = some (.ins a.C_Parser dx (parF tk fl n)) := by
  obtain ⟨dx, tk, fl, vs, h1, _⟩ := h
  exact ⟨dx, tk, fl, h1⟩
theorem ParAt.out {a : Ad} {G H : Hp} {p : Addr} {n : Nat} {toks : List Tk} (h : ParAt a G H p n toks) : G p = none := by
  obtain ⟨dx, tk, fl, vs, _, h1, _⟩ := h
  exact h1
/-- through a new object -/
theorem ParAt.new {a : Ad} {G H : Hp} {p q : Addr} {n : Nat} {toks : List Tk} {o : HO} (h : ParAt a G H p n toks) (s : Same G H) (nq : H q = none) : ParAt a (upd G q o) (upd H q o) p n toks := by
  obtain ⟨dx, tk, fl, h1⟩ := h.some
  have ne : p ≠ q := ne_of_none h1 nq
  exact h.grow (same_new (Same.free s nq)) (fun o e => by rw [upd_ne ne]; exact e) (by rw [upd_ne ne]; exact h.out)
theorem ParAt.lay {a : Ad} {G H : Hp} {p q : Addr} {n : Nat} {toks : List Tk} {o : HO} (h : ParAt a G H p n toks) (nq : H q = none) : ParAt a G (upd H q o) p n toks := by
  obtain ⟨dx, tk, fl, h1⟩ := h.some
  exact h.grow (Same.refl G) (fun o e => by rw [upd_ne (ne_of_none h1 nq)]; exact e) h.out
theorem ParAt.put {a : Ad} {G H : Hp} {p q : Addr} {n : Nat} {toks : List Tk} {o : HO} (h : ParAt a G H p n toks) (ne : p ≠ q) : ParAt a G (upd H q o) p n toks :=
  h.grow (Same.refl G) (fun o e => by rw [upd_ne ne]; exact e) h.out
structure spPeek (a : Ad) (vs : List V) (H : Hp) (Q : VK) (E : XK) : Prop where
  ex : ∃ (p : Addr) (G : Hp) (n : Nat) (toks : List Tk) (tk : Tk), vs = [.ref p] ∧ Same G H ∧ ParAt a G H p n toks ∧ toks[n]? = some tk ∧ ∀ v, TokAt a.C_Token G v tk → Q v H
structure spTake (a : Ad) (f : Tk → Str) (vs : List V) (H : Hp) (Q : VK) (E : XK) : Prop where
  ex : ∃ (p : Addr) (G : Hp) (n : Nat) (toks : List Tk) (tk : Tk), vs = [.ref p, .str (f tk)] ∧ Same G H ∧ ParAt a G H p n toks ∧ toks[n]? = some tk ∧ ∀ H1 v, Mv [p] G H G H1 → ParAt a G H1 p (n + 1) toks → TokAt a.C_Token G v tk → Q v H1
section
variable {P : Program} {w : World} {K : PySem.W.Frag} {mg : Str → Option Value} {base : Heap} {a : Ad}
theorem ok_Parser_peek (T : Txt K mg a) : FnOk P w K mg base CX0 1 a.f_Parser_peek a.d_Parser_peek ["self"] (spPeek a) := by
  refine T.F_Parser_peek.ok sc_Parser_peek (fun vs H Q E h => ?_) (fun cdv A outer s H vs Q E hr h => ?_)
  · obtain ⟨⟨p, G, n, toks, tk, rfl, _⟩⟩ := h
    rfl
  · obtain ⟨⟨p, G, n, toks, tk, rfl, hs, ⟨dx, ta, fl, vs, h1, h2, h3, h4, h5⟩, hn, k⟩⟩ := h
    obtain ⟨v, hv, htk⟩ := Paired.at_ h4 hn
    refine ⟨_, (pss_one (ps_ret (pe_ix ix_list (pe_fld (pv 0) rfl) (pe_fld (pv 0) rfl) (fun _ _ => rfl)))), ?_⟩
    refine ⟨_, rfl, p, _, dx, _, _, rfl, h1, T.cl_Parser, T.n_Parser_tokens, (by kernel_rfl), _, rfl, p, _, dx, _, _, rfl, h1, T.cl_Parser, T.n_Parser_at, (by kernel_rfl), ta, vs, _, v, rfl, rfl, SqL.of (hs _ _ h3), atI_nat hv, k v htk⟩
theorem peek_go {p : Addr} {G H : Hp} {n : Nat} {toks : List Tk} {tk : Tk} {Q : VK} {E : XK} (hs : Same G H) (hP : ParAt a G H p n toks) (hn : toks[n]? = some tk) (k : ∀ v, TokAt a.C_Token G v tk → Q v H) : spPeek a [.ref p] H Q E := ⟨⟨p, G, n, toks, tk, rfl, hs, hP, hn, k⟩⟩
theorem ok_Parser_take (T : Txt K mg a) : FnOk P w K mg base CX0 2 a.f_Parser_take a.d_Parser_take ["self", "kind"] (spTake a fun t => kS t.k) := by
  refine T.F_Parser_take.ok sc_Parser_take (fun vs H Q E h => ?_) (fun cdv A outer s H vs Q E hr h => ?_)
  · obtain ⟨⟨p, G, n, toks, tk, rfl, _⟩⟩ := h
    rfl
  · obtain ⟨⟨p, G, n, toks, tk, rfl, hs, hP, hn, k⟩⟩ := h
    obtain ⟨dx, ta, fl, vs, h1, h2, h3, h4, h5⟩ := id hP
    refine ⟨_, (pss_cons (ps_set (i := 2) sc_Parser_take.nd rfl (Or.inl rfl) (pe_meth0 (pv 0) T.cl_Parser T.M_Parser_peek (ok_Parser_peek T) (hr.mono (by decide)) (b_Parser_peek T) .nil pass0))
      (pss_cons (ps_if (pt_cmpR op_ne (pe_fld (pv 2) rfl) (pv 1) (nomark _)) pss_never pss_nil)
      (pss_cons (ps_fldaug (pv 0) pe_int in_add)
      (pss_one (ps_ret (pv 2)))))), ?_⟩
    refine ⟨_, rfl, p, dx, _, rfl, h1, (by kernel_rfl), peek_go hs hP hn fun v hv => ?_⟩
    obtain ⟨q, dq, l, c, rfl, hq⟩ := id hv
    refine ⟨_, rfl, q, _, dq, _, _, rfl, hs _ _ hq, T.cl_Token, T.n_Token_kind, (by kernel_rfl), _, rfl, rfl, _, rfl, ite_f (by rw [decide_eq_true rfl]; rfl) ?_⟩
    refine ⟨_, rfl, p, _, dx, _, .int n, rfl, h1, T.cl_Parser, T.n_Parser_at, (by kernel_rfl), _, _, rfl, rfl, dx, _, h1, (by show 3 < 1000; decide), ?_⟩
    refine ⟨_, rfl, k _ _ ((Mv.start hs).put (.inl (by simp)) h2 _) ⟨dx, ta, fl, vs, ?_, h2, h3, h4, h5⟩ hv⟩
    rw [upd_same]
    exact congrArg (fun z => some (HO.ins a.C_Parser dx z)) (parF_put ta fl n 1)
theorem ok_Parser_take_word (T : Txt K mg a) : FnOk P w K mg base CX0 2 a.f_Parser_take_word a.d_Parser_take_word ["self", "word"] (spTake a fun t => mkS t.t) := by
  refine T.F_Parser_take_word.ok sc_Parser_take_word (fun vs H Q E h => ?_) (fun cdv A outer s H vs Q E hr h => ?_)
  · obtain ⟨⟨p, G, n, toks, tk, rfl, _⟩⟩ := h
    rfl
  · obtain ⟨⟨p, G, n, toks, tk, rfl, hs, hP, hn, k⟩⟩ := h
    obtain ⟨dx, ta, fl, vs, h1, h2, h3, h4, h5⟩ := id hP
    refine ⟨_, (pss_cons (ps_set (i := 2) sc_Parser_take_word.nd rfl (Or.inl rfl) (pe_meth0 (pv 0) T.cl_Parser T.M_Parser_peek (ok_Parser_peek T) (hr.mono (by decide)) (b_Parser_peek T) .nil pass0))
      (pss_cons (ps_if (pt_cmpR op_ne (pe_fld (pv 2) rfl) (pv 1) (nomark _)) pss_never pss_nil)
      (pss_cons (ps_fldaug (pv 0) pe_int in_add)
      (pss_one (ps_ret (pv 2)))))), ?_⟩
    refine ⟨_, rfl, p, dx, _, rfl, h1, (by kernel_rfl), peek_go hs hP hn fun v hv => ?_⟩
    obtain ⟨q, dq, l, c, rfl, hq⟩ := id hv
    refine ⟨_, rfl, q, _, dq, _, _, rfl, hs _ _ hq, T.cl_Token, T.n_Token_text, (by kernel_rfl), _, rfl, rfl, _, rfl, ite_f (by rw [decide_eq_true rfl]; rfl) ?_⟩
    refine ⟨_, rfl, p, _, dx, _, .int n, rfl, h1, T.cl_Parser, T.n_Parser_at, (by kernel_rfl), _, _, rfl, rfl, dx, _, h1, (by show 3 < 1000; decide), ?_⟩
    refine ⟨_, rfl, k _ _ ((Mv.start hs).put (.inl (by simp)) h2 _) ⟨dx, ta, fl, vs, ?_, h2, h3, h4, h5⟩ hv⟩
    rw [upd_same]
    exact congrArg (fun z => some (HO.ins a.C_Parser dx z)) (parF_put ta fl n 1)
/-- the next token is taken, within a def that may write S -/
theorem take_go {f : Tk → Str} {z : Str} {S : List Addr} {p : Addr} {G0 H0 G H : Hp} {n : Nat} {toks : List Tk} {tk : Tk} {Q : VK} {E : XK} (hz : z = f tk) (m : Mv S G0 H0 G H) (hp : p ∈ S ∨ H0 p = none) (hP : ParAt a G H p n toks) (hn : toks[n]? = some tk)
    (k : ∀ H1 v, Mv S G0 H0 G H1 → Mv [p] G H G H1 → ParAt a G H1 p (n + 1) toks → TokAt a.C_Token G v tk → Q v H1) : spTake a f [.ref p, .str z] H Q E :=
  ⟨⟨p, G, n, toks, tk, by rw [hz], m.s, hP, hn, fun H1 v mv hP1 hv => k H1 v ⟨m.ext.trans mv.ext, fun c o e => by
    have e1 := m.sm c o e
    obtain ⟨h1, h2⟩ := wos_some e
    refine mv.sm c o ?_
    by_cases hc : c ∈ [p]
    · have : c = p := by simpa using hc
      subst this
      rcases hp with hp | hp
      · exact absurd hp h1
      · rw [hp] at h2; cases h2
    · rw [wos_out hc]; exact e1⟩ mv hP1 hv⟩⟩
end
end Sb

namespace Sb
open PySem PySem.Spec PyProof.Rows L2 TL
def numT (n : Nat) : Tk := ⟨.number, numL n⟩
def kwT (s : Str) : Tk := ⟨.keyword, tl s⟩
def sgT (c : Nat) : Tk := ⟨.sign, [c]⟩
def nmT (t : List Nat) : Tk := ⟨.name, t⟩
theorem drop_at {α : Type} {l : List α} {n : Nat} {x : α} {r : List α} (h : l.drop n = x :: r) : l[n]? = some x ∧ l.drop (n + 1) = r := by
  constructor
  · have h1 : (l.drop n)[0]? = some x := by rw [h]; rfl
    rw [List.getElem?_drop] at h1
    exact h1
  · rw [← List.drop_drop, h]
    rfl
theorem int_of {n : Nat} (h : n < 100) : intText? (mkS (numL n)) = some (n : Int) := by
  have e : Str.ofString (toString ((n : Nat) : Int)) = mkS (numL n) := mkS_of (tl_num n)
  rw [← e]
  exact int_num (by have := num_len h; omega)
theorem numT_len {n : Nat} (h : n < 100) : (mkS (numL n)).length ≤ 640 := by rw [len_mkS]; have := num_len h; omega
structure spShelf (a : Ad) (K : PySem.W.Frag) (vs : List V) (H : Hp) (Q : VK) (E : XK) : Prop where
  ex : ∃ (p : Addr) (G : Hp) (n : Nat) (toks : List Tk) (nums : List Nat) (rest : List Tk), vs = [.ref p] ∧ Same G H ∧ ParAt a G H p n toks ∧ toks.drop n = kwT "shelf" :: (nums.map numT ++ (sgT 59 :: rest)) ∧ 3 ≤ nums.length ∧ nums.length ≤ 12 ∧ (∀ x ∈ nums, x ≤ 3) ∧
    ∀ G1 H1 u, Mv [p] G H G1 H1 → ParAt a G1 H1 p (n + nums.length + 2) toks → SqT K G1 u (nums.map fun n : Nat => V.int n) → Q (.ref u) H1
section
variable {P : Program} {w : World} {K : PySem.W.Frag} {mg : Str → Option Value} {base : Heap} {a : Ad}
theorem ok_Parser_parse_shelf (T : Txt K mg a) : FnOk P w K mg base CX0 3 a.f_Parser_parse_shelf a.d_Parser_parse_shelf ["self"] (spShelf a K) := by
  refine T.F_Parser_parse_shelf.ok sc_Parser_parse_shelf (fun vs H Q E h => ?_) (fun cdv A outer s H vs Q E hr h => ?_)
  · obtain ⟨⟨p, G, n, toks, nums, rest, rfl, _⟩⟩ := h
    rfl
  · obtain ⟨⟨p, G, n, toks, nums, rest, rfl, hs, hP, hd, h3, h12, hb, k⟩⟩ := h
    refine ⟨_, (pss_cons (ps_set (i := 1) sc_Parser_parse_shelf.nd rfl (Or.inl rfl) (pe_meth (pv 0) T.cl_Parser T.M_Parser_take_word (ok_Parser_take_word T) (hr.mono (by decide)) (b_Parser_take_word T) .nil pass0 (pa_cons pe_str pa_nil)))
      (pss_cons (ps_set (i := 2) sc_Parser_parse_shelf.nd rfl (Or.inl rfl) (pe_lst (pa_cons (pe_meth (pv 0) T.cl_Parser T.M_Parser_take (ok_Parser_take T) (hr.mono (by decide)) (b_Parser_take T) .nil pass0 (pa_cons (pe_glob (v := V.str (Str.ofString "number")) rfl T.c_NUMBER ⟨_, rfl⟩) pa_nil)) pa_nil)))
      (pss_cons (ps_while PassesOwn.never (pt_cmpR op_eq (pe_fld (pe_meth0 (pv 0) T.cl_Parser T.M_Parser_peek (ok_Parser_peek T) (hr.mono (by decide)) (b_Parser_peek T) .nil pass0) rfl) (pe_glob (v := V.str (Str.ofString "number")) rfl T.c_NUMBER ⟨_, rfl⟩) (nomark _)) (pss_one (ps_expr (pe_bm PySem.F.plainAttrs_list PySem.F.slot_list_append PySem.F.type_list_append mt_append (pv 2) (pa_cons (pe_meth (pv 0) T.cl_Parser T.M_Parser_take (ok_Parser_take T) (hr.mono (by decide)) (b_Parser_take T) .nil pass0 (pa_cons (pe_glob (v := V.str (Str.ofString "number")) rfl T.c_NUMBER ⟨_, rfl⟩) pa_nil)) pa_nil)))))
      (pss_cons (ps_expr (pe_meth (pv 0) T.cl_Parser T.M_Parser_take_word (ok_Parser_take_word T) (hr.mono (by decide)) (b_Parser_take_word T) .nil pass0 (pa_cons pe_str pa_nil)))
      (pss_cons (ps_if (pt_cmpR op_lt (pe_callB call_len_seq (by rfl) T.z_len (by decide +kernel) (pa_cons (pv 2) pa_nil)) (pe_glob (v := V.int 3) rfl T.c_MIN_CELLS ⟨_, rfl⟩) (nomark _)) pss_never pss_nil)
      (pss_cons (ps_for PassesOwn.never rfl (pi_enum (by rfl) T.z_enumerate (pa_cons (pv 2) pa_nil)) (pg_tup (by rfl) (pgs_cons (pg_name (i := 3) sc_Parser_parse_shelf.nd rfl (Or.inl rfl)) (pgs_cons (pg_name (i := 4) sc_Parser_parse_shelf.nd rfl (Or.inl rfl)) pgs_nil))) (pss_one (ps_if (pt_cmpR op_eq (pv 3) (pe_glob (v := V.int 12) rfl T.c_MAX_CELLS ⟨_, rfl⟩) (nomark _)) pss_never (pss_one (ps_if (pt_cmpR op_gt (pe_callTy call_int_str (by rfl) T.z_int (by decide +kernel) (pa_cons (pe_fld (pv 4) rfl) pa_nil)) (pe_glob (v := V.int 3) rfl T.c_MAX_BOXES ⟨_, rfl⟩) (nomark _)) pss_never pss_nil)))))
      (pss_one (ps_ret (pe_callTy call_tuple_of (by rfl) T.z_tuple (by decide +kernel) (pa_cons (pe_lc (own := [("token", 4)]) (g := gName 4) (te := (tCB _ (tCons (tFld K (tVar 4) "text") tNil))) (tt := tYes) rfl sc_Parser_parse_shelf.nd (pi_list (pv 2)) (blkOk_by (own := [("token", 4)]) (N := ["self", "keyword", "tokens", "place", "token"]) (sc := (defScope s_Parser_parse_shelf)) (by decide +kernel)) (fun _ _ _ _ _ => (pg_name (i := 4) sc_Parser_parse_shelf.nd rfl (Or.inl rfl))) (fun _ _ _ _ _ => pts_nil) (fun _ _ _ _ _ => by exact (pe_callTy call_int_str (by rfl) T.z_int (by decide +kernel) (pa_cons (pe_fld (pv 4) rfl) pa_nil)))) pa_nil)))))))))), ?_⟩
    have M0 : Mv [p] G H G H := Mv.start hs
    obtain ⟨dx, ta, fl, h1⟩ := hP.some
    obtain ⟨n0, d1⟩ := drop_at hd
    -- keyword
    refine ⟨_, rfl, p, dx, _, rfl, h1, (by kernel_rfl), take_go (tk := kwT "shelf") (mkS_tl _).symm M0 (.inl (by simp)) hP n0 fun H1 v1 M1 _ P1 hv1 => ?_⟩
    obtain ⟨x0, nums', rfl⟩ : ∃ x0 nums', nums = x0 :: nums' := by cases nums with | nil => exact absurd h3 (by decide) | cons x y => exact ⟨x, y, rfl⟩
    generalize hnums : x0 :: nums' = nums at *
    have d1' : toks.drop (n + 1) = nums.map numT ++ (sgT 59 :: rest) := d1
    have at_j : ∀ j x, nums[j]? = some x → toks[n + 1 + j]? = some (numT x) := fun j x hj => by
      have hlt : j < nums.length := (List.getElem?_eq_some_iff.mp hj).1
      have e := congrArg (fun l => l[j]?) d1'
      simp only [List.getElem?_drop] at e
      rw [e, List.getElem?_append_left (by rw [List.length_map]; exact hlt), List.getElem?_map, hj]
      rfl
    have at_e : toks[n + 1 + nums.length]? = some (sgT 59) := by
      have e := congrArg (fun l => l[nums.length]?) d1'
      simp only [List.getElem?_drop] at e
      rw [e, List.getElem?_append_right (by rw [List.length_map]; exact Nat.le_refl _), List.length_map, Nat.sub_self]
      rfl
    have hx0 : nums[0]? = some x0 := by rw [← hnums]; rfl
    obtain ⟨dx1, ta1, fl1, h11⟩ := P1.some
    refine ⟨_, rfl, p, dx1, _, rfl, h11, (by kernel_rfl), take_go (tk := numT x0) rfl M1 (.inl (by simp)) P1 (at_j 0 x0 hx0) fun H2 v2 M2 _ P2 hv2 => ?_⟩
    refine ⟨(by show 1 ≤ sizeLine; decide), fun l hl => ?_⟩
    have l0 : H l = none := M2.free hl
    have lG : G l = none := M2.freeG hl
    have pl : p ≠ l := by obtain ⟨_, _, _, h⟩ := P2.some; exact ne_of_none h hl
    have M3 := M2.lay hl (.lst [v2])
    have P3 := P2.lay (o := .lst [v2]) hl
    -- the numbers
    obtain ⟨Iv, hIv⟩ : ∃ Iv : Nat → L2.St → Hp → Prop, Iv = fun j σ H' => ∃ (vs : List V), σ = [some (.ref p), some v1, some (.ref l), none, none] ∧ 1 ≤ j ∧ j ≤ nums.length ∧ Mv [p] G H G H' ∧ ParAt a G H' p (n + 1 + j) toks ∧ H' l = some (.lst vs) ∧ ToksAt a.C_Token G vs ((nums.take j).map numT) := ⟨_, rfl⟩
    dsimp only
    refine seq_restσ (fun σ H' => Iv nums.length σ H') (fun σ H' hI => ?r) (fun rest1 => ?m)
    case m =>
      refine ⟨fun m σ H' => ∃ j, m = nums.length - j ∧ Iv j σ H', ⟨_, 1, rfl, ?_⟩, ?_⟩
      · rw [hIv]
        refine ⟨[v2], rfl, Nat.le_refl _, by omega, M3, P3, upd_same, ?_⟩
        have : nums.take 1 = [x0] := by rw [← hnums]; rfl
        rw [this]
        exact .cons hv2 .nil
      · rintro m σ H' ⟨j, rfl, hI⟩
        have hI0 := hI
        rw [hIv] at hI
        obtain ⟨vs, rfl, j1, jn, M, PP, hlv, htk⟩ := hI
        obtain ⟨dx2, ta2, fl2, h12'⟩ := PP.some
        by_cases hj : j < nums.length
        · obtain ⟨y, hy⟩ : ∃ y, nums[j]? = some y := ⟨_, List.getElem?_eq_getElem hj⟩
          refine ⟨_, rfl, p, dx2, _, rfl, h12', (by kernel_rfl), peek_go M.s PP (at_j j y hy) fun v hv => ?_⟩
          obtain ⟨q, dq, lq, cq, rfl, hq⟩ := id hv
          refine ⟨q, _, dq, _, .str (kS .number), rfl, M.s _ _ hq, T.cl_Token, T.n_Token_kind, (by kernel_rfl), rfl, _, rfl, ite_t (decide_eq_true rfl) ?_⟩
          refine ⟨fun σ' H' => Iv (j + 1) σ' H', fun σ' H' hn => ⟨_, by omega, j + 1, rfl, hn⟩, ?_⟩
          refine ⟨_, rfl, .inl ⟨rfl, _, SqL.of hlv⟩, _, rfl, p, dx2, _, rfl, h12', (by kernel_rfl), take_go (tk := numT y) rfl M (.inl (by simp)) PP (at_j j y hy) fun H4 v4 M4 m4 P4 hv4 => ?_⟩
          have hl4 : H4 l = some (.lst vs) := m4.kept hlv (by simp [pl.symm])
          refine ⟨l, vs, _, rfl, rfl, hl4, smaller 12 (by rw [Paired.len htk, List.length_map, List.length_take]; omega) (by decide), ?_⟩
          rw [hIv]
          refine ⟨vs ++ [v4], rfl, by omega, by omega, M4.put (.inr l0) lG _, P4.put pl, upd_same, ?_⟩
          rw [take_more hy, List.map_append]
          exact Paired.snoc htk hv4
        · have ej : j = nums.length := by omega
          rw [ej] at PP hI0
          refine ⟨_, rfl, p, dx2, _, rfl, (by rw [ej] at h12'; exact h12'), (by kernel_rfl), peek_go M.s PP at_e fun v hv => ?_⟩
          obtain ⟨q, dq, lq, cq, rfl, hq⟩ := id hv
          refine ⟨q, _, dq, _, .str (kS .sign), rfl, M.s _ _ hq, T.cl_Token, T.n_Token_kind, (by kernel_rfl), rfl, _, rfl, ite_f (by decide +kernel) (rest1 _ _ hI0)⟩
    rw [hIv] at hI
    obtain ⟨vs, rfl, j1, jn, M, PP, hlv, htk⟩ := hI
    rw [List.take_length] at htk
    have hvl : vs.length = nums.length := by rw [Paired.len htk, List.length_map]
    obtain ⟨dx2, ta2, fl2, h12'⟩ := PP.some
    -- ;
    refine ⟨_, rfl, p, dx2, _, rfl, h12', (by kernel_rfl), take_go (tk := sgT 59) (mkS_of t_sc) M (.inl (by simp)) PP at_e fun H4 v4 M4 m4 P4 _ => ?_⟩
    have hl4 : H4 l = some (.lst vs) := m4.kept hlv (by simp [pl.symm])
    refine ⟨_, rfl, l, _, rfl, .inl (SqL.of hl4), _, _, rfl, rfl, _, rfl, ite_f (decide_eq_false (by rw [hvl]; omega)) ?_⟩
    -- the check
    refine ⟨_, rfl, l, _, rfl, SqL.of hl4, for_it (walk_enum (K := K) (a := l) (xs := vs)) (fun i σ H' => ∃ (v3 v4 : Option V), σ = [some (.ref p), some v1, some (.ref l), v3, v4] ∧ Mv [p] G H G H' ∧ ParAt a G H' p (n + 1 + nums.length + 1) toks ∧ H' l = some (.lst vs)) ⟨none, none, rfl, M4, P4, hl4⟩ (fun i σ H' _ ⟨_, _, _, _, _, h⟩ => SqL.of h) ?_ ?_⟩
    · rintro i y σ H5 H6 hi ⟨v3, v4', rfl, M5, P5, hl5⟩ ⟨T', x, z, rfl, hT', rfl, hx, hz⟩
      cases hx
      have hz : vs[i]? = some z := hz
      obtain ⟨tk, htk1, htok⟩ := paired_get htk hz
      rw [List.getElem?_map] at htk1
      obtain ⟨y, hy, rfl⟩ : ∃ y, nums[i]? = some y ∧ tk = numT y := by
        cases e : nums[i]? with
        | none => rw [e] at htk1; cases htk1
        | some q => rw [e] at htk1; exact ⟨q, rfl, (Option.some.inj htk1).symm⟩
      have hy3 : y ≤ 3 := hb y (List.mem_of_getElem? hy)
      obtain ⟨q, dq, lq, cq, rfl, hq⟩ := htok
      have M6 := M5.lay hT' (.tup [.int (i : Nat), .ref q])
      refine ⟨T', _, rfl, SqT.of upd_same, rfl, _, _, rfl, _, _, rfl, rfl, ?_⟩
      refine ⟨_, rfl, rfl, _, rfl, ite_f (vint_ne (by omega)) ?_⟩
      refine ⟨_, rfl, q, _, dq, _, .str (mkS (numL y)), rfl, M6.s _ _ hq, T.cl_Token, T.n_Token_text, (by kernel_rfl), _, (y : Int), rfl, int_of (by omega), numT_len (by omega), _, _, rfl, rfl, _, rfl, ite_f (decide_eq_false (by omega)) ?_⟩
      exact ⟨_, _, rfl, M6, P5.lay hT', by rw [upd_ne (ne_of_none hl5 hT')]; exact hl5⟩
    · rintro σ H5 ⟨v3, v4', rfl, M5, P5, hl5⟩
      refine ⟨_, rfl, l, rfl, ⟨_, SqL.of hl5⟩, fun D hD => ?_⟩
      have D0 : H D = none := M5.free hD
      have DG : G D = none := M5.freeG hD
      have lD : l ≠ D := ne_of_none hl5 hD
      have pD : p ≠ D := by obtain ⟨_, _, _, h⟩ := P5.some; exact ne_of_none h hD
      refine lc_list (K := K) (a := l) (xs := vs) (fun j H' => Mv [p] G H G H' ∧ ParAt a G H' p (n + 1 + nums.length + 1) toks ∧ H' l = some (.lst vs) ∧ H' D = some (.lst ((nums.take j).map fun n : Nat => V.int n))) ⟨M5.lay hD _, P5.lay hD, by rw [upd_ne lD]; exact hl5, upd_same⟩ (fun j H' _ ⟨_, _, h, _⟩ => SqL.of h) ?_ ?_
      · rintro j z H' hz ⟨M6, P6, hl6, hD6⟩
        obtain ⟨tk, htk1, htok⟩ := paired_get htk hz
        rw [List.getElem?_map] at htk1
        obtain ⟨y, hy, rfl⟩ : ∃ y, nums[j]? = some y ∧ tk = numT y := by
          cases e : nums[j]? with
          | none => rw [e] at htk1; cases htk1
          | some q => rw [e] at htk1; exact ⟨q, rfl, (Option.some.inj htk1).symm⟩
        have hy3 : y ≤ 3 := hb y (List.mem_of_getElem? hy)
        obtain ⟨q, dq, lq, cq, rfl, hq⟩ := htok
        refine ⟨rfl, _, rfl, q, _, dq, _, .str (mkS (numL y)), rfl, M6.s _ _ hq, T.cl_Token, T.n_Token_text, (by kernel_rfl), _, (y : Int), rfl, int_of (by omega), numT_len (by omega), _, hD6, smaller 12 (by rw [List.length_map, List.length_take]; omega) (by decide), M6.put (.inr D0) DG _, P6.put pD, by rw [upd_ne lD]; exact hl6, ?_⟩
        rw [upd_same, take_more hy, List.map_append]
        rfl
      · rintro H6 ⟨M6, P6, hl6, hD6⟩
        rw [hvl, List.take_length] at hD6
        refine ⟨D, _, rfl, .inl ⟨SqL.of hD6, fun u hu => ?_⟩⟩
        have e : n + 1 + nums.length + 1 = n + nums.length + 2 := by omega
        rw [e] at P6
        exact k _ _ u (M6.new hu _) (P6.new M6.s hu) (SqT.of upd_same)
end
end Sb

namespace Sb
open PySem PySem.Spec PyProof.Rows L2 TL
/-! ### labelled steps -/
structure LStep where
  lab : Option (List Nat)
  w : Nat
  tgt : Option (List Nat)
def labT : Option (List Nat) → List Tk
  | none => []
  | some t => [nmT t, sgT 58]
def tgtT : Option (List Nat) → List Tk
  | none => []
  | some t => [nmT t]
def stepT (s : LStep) : List Tk := labT s.lab ++ (kwT (wS s.w) :: (tgtT s.tgt ++ [sgT 59]))
def labV : Option (List Nat) → V
  | none => .non
  | some t => .str (mkS t)
structure LStep.Ok (s : LStep) : Prop where
  w8 : s.w < 8
  no : s.w < 5 → s.tgt = none
  yes : 5 ≤ s.w → ∃ t, s.tgt = some t
  lb : s.lab ≠ some [125]
def JmpAt (a : Ad) (G : Hp) (v : V) : Option (List Nat) → Prop
  | none => v = .non
  | some t => TokAt a.C_Token G v (nmT t)
theorem lab_in (x : List Nat) : ∀ l : List (Option (List Nat)), inV (.str (mkS x)) (l.map labV) = decide (some x ∈ l)
  | [] => by simp [inV]
  | n :: r => by
    have ih := lab_in x r
    unfold inV at ih ⊢
    rw [List.map_cons, List.any_cons, ih]
    have e : eqV (labV n) (.str (mkS x)) = decide (n = some x) := by
      cases n with
      | none => simp [labV, eqV]
      | some t =>
        unfold labV eqV
        by_cases h : t = x
        · subst h; simp
        · have h2 : ¬ mkS t = mkS x := fun q => h (by have := congrArg tl q; rwa [tl_mkS, tl_mkS] at this)
          simp [h, h2]
    rw [e]
    by_cases h : n = some x
    · subst h; simp
    · have h' : ¬ some x = n := fun q => h q.symm
      simp [h, h']
theorem lab_flat (l : List (Option (List Nat))) : (l.map labV).all flatV = true := by
  rw [List.all_eq_true]
  intro x hx
  obtain ⟨n, _, rfl⟩ := List.mem_map.mp hx
  cases n <;> rfl
theorem ixN_last {n : Nat} : ixN (n + 1) (-1) = some n := by
  unfold ixN
  rw [if_neg (by decide), if_pos (by omega)]
  congr 1
  omega
theorem set_last {α : Type} (l : List α) (x y : α) : (l ++ [x]).set l.length y = l ++ [y] := by simp
def movS : List Str := ["left", "right", "pick", "put", "wait"]
def jmpS : List Str := ["goto", "empty", "held"]
theorem jmpS_in : ∀ {w : Nat}, w < 8 → decide (wS w ∈ jmpS) = decide (5 ≤ w) := by
  have h : ∀ w : _root_.Fin 8, decide (wS w.val ∈ jmpS) = decide (5 ≤ w.val) := by decide +kernel
  exact fun {w} hw => h ⟨w, hw⟩
theorem movS_in : ∀ {w : Nat}, w < 8 → decide (wS w ∈ movS) = decide (w < 5) := by
  have h : ∀ w : _root_.Fin 8, decide (wS w.val ∈ movS) = decide (w.val < 5) := by decide +kernel
  exact fun {w} hw => h ⟨w, hw⟩
structure spPStep (a : Ad) (vs : List V) (H : Hp) (Q : VK) (E : XK) : Prop where
  ex : ∃ (p nl jl : Addr) (G : Hp) (n : Nat) (toks : List Tk) (s : LStep) (rest : List Tk) (labs : List (Option (List Nat))) (js : List V), vs = [.ref p, .ref nl, .ref jl] ∧ Same G H ∧ ParAt a G H p n toks ∧ G nl = none ∧ G jl = none ∧ nl ≠ jl ∧
    H nl = some (.lst (labs.map labV)) ∧ H jl = some (.lst js) ∧ toks.drop n = stepT s ++ rest ∧ s.Ok ∧ (∀ t, s.lab = some t → some t ∉ labs) ∧ labs.length ≤ 20 ∧ js.length ≤ 20 ∧
    ∀ H1 jv, Mv [p, nl, jl] G H G H1 → ParAt a G H1 p (n + (stepT s).length) toks → H1 nl = some (.lst ((labs ++ [s.lab]).map labV)) → H1 jl = some (.lst (js ++ [jv])) → JmpAt a G jv s.tgt → Q (.str (wS s.w)) H1
section
variable {P : Program} {w : World} {K : PySem.W.Frag} {mg : Str → Option Value} {base : Heap} {a : Ad}
theorem ok_Parser_parse_step (T : Txt K mg a) : FnOk P w K mg base CX0 3 a.f_Parser_parse_step a.d_Parser_parse_step ["self", "names", "jumps"] (spPStep a) := by
  refine T.F_Parser_parse_step.ok sc_Parser_parse_step (fun vs H Q E h => ?_) (fun cdv A outer s0 H vs Q E hr h => ?_)
  · obtain ⟨⟨p, nl, jl, G, n, toks, s, rest, labs, js, rfl, _⟩⟩ := h
    rfl
  · obtain ⟨⟨p, nl, jl, G, n, toks, s, rest, labs, js, rfl, hs, hP, nG, jG, nj, hn, hj, hd, ok, hdup, l20, j20, k⟩⟩ := h
    refine ⟨_, (pss_cons (ps_expr (pe_bm PySem.F.plainAttrs_list PySem.F.slot_list_append PySem.F.type_list_append mt_append (pv 1) (pa_cons pe_non pa_nil)))
      (pss_cons (ps_expr (pe_bm PySem.F.plainAttrs_list PySem.F.slot_list_append PySem.F.type_list_append mt_append (pv 2) (pa_cons pe_non pa_nil)))
      (pss_cons (ps_if (pt_cmpR op_eq (pe_fld (pe_meth0 (pv 0) T.cl_Parser T.M_Parser_peek (ok_Parser_peek T) (hr.mono (by decide)) (b_Parser_peek T) .nil pass0) rfl) (pe_glob (v := V.str (Str.ofString "name")) rfl T.c_NAME ⟨_, rfl⟩) (nomark _)) (pss_cons (ps_set (i := 3) sc_Parser_parse_step.nd rfl (Or.inl rfl) (pe_meth (pv 0) T.cl_Parser T.M_Parser_take (ok_Parser_take T) (hr.mono (by decide)) (b_Parser_take T) .nil pass0 (pa_cons (pe_glob (v := V.str (Str.ofString "name")) rfl T.c_NAME ⟨_, rfl⟩) pa_nil)))
      (pss_cons (ps_expr (pe_meth (pv 0) T.cl_Parser T.M_Parser_take_word (ok_Parser_take_word T) (hr.mono (by decide)) (b_Parser_take_word T) .nil pass0 (pa_cons pe_str pa_nil)))
      (pss_cons (ps_if (pt_cmpR op_in_seq (pe_fld (pv 3) rfl) (pv 1) rfl) pss_never pss_nil)
      (pss_one (ps_asg (pe_fld (pv 3) rfl) (pg_sub (pv 1) (pe_un un_neg pe_int) set_list)))))) pss_nil)
      (pss_cons (ps_set (i := 3) sc_Parser_parse_step.nd rfl (Or.inl rfl) (pe_meth (pv 0) T.cl_Parser T.M_Parser_take (ok_Parser_take T) (hr.mono (by decide)) (b_Parser_take T) .nil pass0 (pa_cons (pe_glob (v := V.str (Str.ofString "keyword")) rfl T.c_KEYWORD ⟨_, rfl⟩) pa_nil)))
      (pss_cons (ps_if (pt_cmpR op_in_seq (pe_fld (pv 3) rfl) (pe_glob (v := V.ref a.A_JUMPS) rfl T.c_JUMPS rfl) rfl) (pss_one (ps_asg (pe_meth (pv 0) T.cl_Parser T.M_Parser_take (ok_Parser_take T) (hr.mono (by decide)) (b_Parser_take T) .nil pass0 (pa_cons (pe_glob (v := V.str (Str.ofString "name")) rfl T.c_NAME ⟨_, rfl⟩) pa_nil)) (pg_sub (pv 2) (pe_un un_neg pe_int) set_list))) (pss_one (ps_if (pt_cmpR op_notIn_seq (pe_fld (pv 3) rfl) (pe_glob (v := V.ref a.A_MOVES) rfl T.c_MOVES rfl) rfl) pss_never pss_nil)))
      (pss_cons (ps_expr (pe_meth (pv 0) T.cl_Parser T.M_Parser_take_word (ok_Parser_take_word T) (hr.mono (by decide)) (b_Parser_take_word T) .nil pass0 (pa_cons pe_str pa_nil)))
      (pss_one (ps_ret (pe_fld (pv 3) rfl))))))))), ?_⟩
    have M0 : Mv [p, nl, jl] G H G H := Mv.start hs
    obtain ⟨dx, ta, fl, h1⟩ := hP.some
    have pn : p ≠ nl := ne_of h1 hn (by intro z; cases z)
    have pj : p ≠ jl := ne_of h1 hj (by intro z; cases z)
    refine ⟨_, rfl, .inl ⟨rfl, _, SqL.of hn⟩, nl, _, _, rfl, rfl, hn, smaller 20 (by rw [List.length_map]; exact l20) (by decide), ?_⟩
    have M1 := M0.put (l := nl) (.inl (by simp)) nG (.lst (labs.map labV ++ [.non]))
    have P1 := hP.put (o := .lst (labs.map labV ++ [.non])) pn
    have hj1 : (upd H nl (.lst (labs.map labV ++ [.non]))) jl = some (.lst js) := by rw [upd_ne nj.symm]; exact hj
    refine ⟨_, rfl, .inl ⟨rfl, _, SqL.of hj1⟩, jl, _, _, rfl, rfl, hj1, smaller 20 j20 (by decide), ?_⟩
    have M2 := M1.put (l := jl) (.inl (by simp)) jG (.lst (js ++ [.non]))
    have P2 := P1.put (o := .lst (js ++ [.non])) pj
    have hn2 : (upd (upd H nl (.lst (labs.map labV ++ [.non]))) jl (.lst (js ++ [.non]))) nl = some (.lst (labs.map labV ++ [.non])) := by rw [upd_ne nj, upd_same]
    have hj2 : (upd (upd H nl (.lst (labs.map labV ++ [.non]))) jl (.lst (js ++ [.non]))) jl = some (.lst (js ++ [.non])) := upd_same
    revert M2 P2 hn2 hj2
    generalize upd (upd H nl (.lst (labs.map labV ++ [.non]))) jl (.lst (js ++ [.non])) = H2
    intro M2 P2 hn2 hj2
    obtain ⟨dx2, ta2, fl2, h2⟩ := P2.some
    dsimp only
    -- the label
    refine seq_restσ (fun σ H' => ∃ v3 : Option V, σ = [some (.ref p), some (.ref nl), some (.ref jl), v3] ∧ Mv [p, nl, jl] G H G H' ∧ ParAt a G H' p (n + (labT s.lab).length) toks ∧ H' nl = some (.lst ((labs ++ [s.lab]).map labV)) ∧ H' jl = some (.lst (js ++ [.non]))) (fun σ H' hI => ?r) (fun rest1 => ?m)
    case m =>
      cases hlab : s.lab with
      | none =>
        rw [hlab] at rest1
        have d2 : toks.drop n = kwT (wS s.w) :: (tgtT s.tgt ++ [sgT 59] ++ rest) := by rw [hd]; unfold stepT; rw [hlab]; simp [labT]
        refine ⟨_, rfl, p, dx2, _, rfl, h2, (by kernel_rfl), peek_go M2.s P2 (drop_at d2).1 fun v hv => ?_⟩
        obtain ⟨q, dq, lq, cq, rfl, hq⟩ := id hv
        refine ⟨q, _, dq, _, .str (kS .keyword), rfl, M2.s _ _ hq, T.cl_Token, T.n_Token_kind, (by kernel_rfl), rfl, _, rfl, ite_f (by decide +kernel) ?_⟩
        exact rest1 _ _ ⟨_, rfl, M2, P2, by rw [hn2, List.map_append]; rfl, hj2⟩
      | some t =>
        rw [hlab] at rest1
        have d2 : toks.drop n = nmT t :: (sgT 58 :: (kwT (wS s.w) :: (tgtT s.tgt ++ [sgT 59] ++ rest))) := by rw [hd]; unfold stepT; rw [hlab]; simp [labT]
        obtain ⟨a0, d3⟩ := drop_at d2
        obtain ⟨a1, d4⟩ := drop_at d3
        refine ⟨_, rfl, p, dx2, _, rfl, h2, (by kernel_rfl), peek_go M2.s P2 a0 fun v hv => ?_⟩
        obtain ⟨q, dq, lq, cq, rfl, hq⟩ := id hv
        refine ⟨q, _, dq, _, .str (kS .name), rfl, M2.s _ _ hq, T.cl_Token, T.n_Token_kind, (by kernel_rfl), rfl, _, rfl, ite_t (decide_eq_true rfl) ?_⟩
        refine ⟨_, rfl, p, dx2, _, rfl, h2, (by kernel_rfl), take_go (tk := nmT t) rfl M2 (.inl (by simp)) P2 a0 fun H3 v3 M3 m3 P3 hv3 => ?_⟩
        obtain ⟨dx3, ta3, fl3, h3⟩ := P3.some
        refine ⟨_, rfl, p, dx3, _, rfl, h3, (by kernel_rfl), take_go (tk := sgT 58) (mkS_of (show tl (Str.ofString ":") = [58] by decide +kernel)) M3 (.inl (by simp)) P3 a1 fun H4 v4 M4 m4 P4 hv4 => ?_⟩
        have hn4 : H4 nl = some (.lst ((labs ++ [none]).map labV)) := by rw [List.map_append]; exact m4.kept (m3.kept hn2 (by simp [pn.symm])) (by simp [pn.symm])
        have hj4 : H4 jl = some (.lst (js ++ [.non])) := m4.kept (m3.kept hj2 (by simp [pj.symm])) (by simp [pj.symm])
        obtain ⟨q3, dq3, lq3, cq3, rfl, hq3⟩ := hv3
        refine ⟨_, rfl, q3, _, dq3, _, .str (mkS t), rfl, M4.s _ _ hq3, T.cl_Token, T.n_Token_text, (by kernel_rfl), _, rfl, nl, _, rfl, .inl (SqL.of hn4), rfl, lab_flat _, _, rfl, ite_f ?_ ?_⟩
        · rw [if_neg Bool.false_ne_true, lab_in]
          refine decide_eq_false fun z => ?_
          rcases List.mem_append.mp z with z | z
          · exact hdup t hlab z
          · simp at z
        refine ⟨_, rfl, q3, _, dq3, _, .str (mkS t), rfl, M4.s _ _ hq3, T.cl_Token, T.n_Token_text, (by kernel_rfl), _, rfl, _, rfl, nl, _, _, labs.length, rfl, rfl, hn4, (by rw [List.length_map, List.length_append]; exact ixN_last), ?_⟩
        refine rest1 _ _ ⟨_, rfl, M4.put (.inl (by simp)) nG _, P4.put pn, ?_, by rw [upd_ne nj.symm]; exact hj4⟩
        rw [upd_same, List.map_append, List.map_append]
        have := set_last (labs.map labV) (labV none) (.str (mkS t))
        rw [List.length_map] at this
        exact congrArg (fun z => some (HO.lst z)) this
    obtain ⟨v3, rfl, M5, P5, hn5, hj5⟩ := hI
    have d5 : toks.drop (n + (labT s.lab).length) = kwT (wS s.w) :: (tgtT s.tgt ++ [sgT 59] ++ rest) := by
      rw [← List.drop_drop, hd]
      unfold stepT
      rw [List.append_assoc, List.drop_left]
      simp
    obtain ⟨a5, d6⟩ := drop_at d5
    obtain ⟨dx5, ta5, fl5, h5⟩ := P5.some
    refine ⟨_, rfl, p, dx5, _, rfl, h5, (by kernel_rfl), take_go (tk := kwT (wS s.w)) rfl M5 (.inl (by simp)) P5 a5 fun H6 v6 M6 m6 P6 hv6 => ?_⟩
    have hn6 : H6 nl = some (.lst ((labs ++ [s.lab]).map labV)) := m6.kept hn5 (by simp [pn.symm])
    have hj6 : H6 jl = some (.lst (js ++ [.non])) := m6.kept hj5 (by simp [pj.symm])
    obtain ⟨q6, dq6, lq6, cq6, rfl, hq6⟩ := hv6
    obtain ⟨dx6, ta6, fl6, h6⟩ := P6.some
    dsimp only
    refine seq_restσ (fun σ H' => σ = [some (.ref p), some (.ref nl), some (.ref jl), some (.ref q6)] ∧ ∃ jv : V, Mv [p, nl, jl] G H G H' ∧ ParAt a G H' p (n + (labT s.lab).length + 1 + (tgtT s.tgt).length) toks ∧ H' nl = some (.lst ((labs ++ [s.lab]).map labV)) ∧ H' jl = some (.lst (js ++ [jv])) ∧ JmpAt a G jv s.tgt) (fun σ H' hI => ?r2) (fun rest2 => ?m2)
    case m2 =>
      have etx : mkS (tl (wS s.w)) = wS s.w := mkS_tl _
      refine ⟨_, rfl, q6, _, dq6, _, .str (mkS (tl (wS s.w))), rfl, M6.s _ _ hq6, T.cl_Token, T.n_Token_text, (by kernel_rfl), a.A_JUMPS, jmpS.map V.str, rfl, .inr (T.q_JUMPS H6), rfl, strs_flat _, _, rfl, ?_⟩
      rw [if_neg Bool.false_ne_true, in_strs, etx, jmpS_in ok.w8]
      refine ite2 (fun c => ?_) (fun c => ?_)
      · obtain ⟨t, ht⟩ := ok.yes (of_decide_eq_true c)
        rw [ht] at rest2 d6
        obtain ⟨a7, d7⟩ := drop_at (show _ = nmT t :: ([sgT 59] ++ rest) from d6)
        refine ⟨_, rfl, p, dx6, _, rfl, h6, (by kernel_rfl), take_go (tk := nmT t) rfl M6 (.inl (by simp)) P6 a7 fun H7 v7 M7 m7 P7 hv7 => ?_⟩
        have hn7 : H7 nl = some (.lst ((labs ++ [s.lab]).map labV)) := m7.kept hn6 (by simp [pn.symm])
        have hj7 : H7 jl = some (.lst (js ++ [.non])) := m7.kept hj6 (by simp [pj.symm])
        refine ⟨_, rfl, _, rfl, jl, _, _, js.length, rfl, rfl, hj7, (by rw [List.length_append]; exact ixN_last), ?_⟩
        refine rest2 _ _ ⟨rfl, v7, M7.put (.inl (by simp)) jG _, P7.put pj, by rw [upd_ne nj]; exact hn7, ?_, hv7⟩
        rw [upd_same, set_last]
      · have c' : ¬ 5 ≤ s.w := fun z => c (decide_eq_true z)
        have ht := ok.no (by omega)
        rw [ht] at rest2
        refine ⟨_, rfl, q6, _, dq6, _, .str (mkS (tl (wS s.w))), rfl, M6.s _ _ hq6, T.cl_Token, T.n_Token_text, (by kernel_rfl), a.A_MOVES, movS.map V.str, rfl, .inr (T.q_MOVES H6), rfl, strs_flat _, _, rfl, ite_f ?_ ?_⟩
        · rw [if_pos rfl, in_strs, etx, movS_in ok.w8, decide_eq_true (show s.w < 5 by omega)]
          rfl
        · exact rest2 _ _ ⟨rfl, .non, M6, P6, hn6, hj6, rfl⟩
    obtain ⟨rfl, jv, M8, P8, hn8, hj8, hjv⟩ := hI
    have d8 : toks.drop (n + (labT s.lab).length + 1 + (tgtT s.tgt).length) = sgT 59 :: rest := by
      rw [← List.drop_drop, d6, List.append_assoc, List.drop_left]
      rfl
    obtain ⟨a8, _⟩ := drop_at d8
    obtain ⟨dx8, ta8, fl8, h8⟩ := P8.some
    refine ⟨_, rfl, p, dx8, _, rfl, h8, (by kernel_rfl), take_go (tk := sgT 59) (mkS_of t_sc) M8 (.inl (by simp)) P8 a8 fun H9 v9 M9 m9 P9 _ => ?_⟩
    have hn9 := m9.kept hn8 (by simp [pn.symm])
    have hj9 := m9.kept hj8 (by simp [pj.symm])
    have el : n + (labT s.lab).length + 1 + (tgtT s.tgt).length + 1 = n + (stepT s).length := by
      unfold stepT
      simp only [List.length_append, List.length_cons, List.length_nil]
      omega
    rw [el] at P9
    refine ⟨_, rfl, q6, _, dq6, _, .str (wS s.w), rfl, M9.s _ _ hq6, T.cl_Token, T.n_Token_text, ?_, k H9 jv M9 P9 hn9 hj9 hjv⟩
    have : mkS (tl (wS s.w)) = wS s.w := mkS_tl _
    rw [← this]
    kernel_rfl
end
end Sb

namespace Sb
open PySem PySem.Spec PyProof.Rows L2 TL
theorem same_frz {G H : Hp} {l : Addr} {o : HO} (s : Same G H) (h : H l = some o) : Same G (upd G l o) := fun b u e => by
  by_cases hb : b = l
  · rw [hb, upd_same]
    rw [hb] at e
    have := s _ _ e
    rw [h] at this
    exact this
  · rw [upd_ne hb]; exact e
/-! ### shapes of data -/
theorem shaped_of {ds : List PyData} (h : ∀ d ∈ ds, d.canLay0 = true ∧ d.depth ≤ 10) : SeqAt.shaped (.list ds) = true ∧ SeqAt.shaped (.tuple ds) = true ∧ PyData.canLayAll0 ds = true ∧ PyData.depthAll ds ≤ 10 := by
  have h1 : PyData.canLayAll0 ds = true ∧ PyData.depthAll ds ≤ 10 := by
    induction ds with
    | nil => exact ⟨rfl, by show 0 ≤ 10; decide⟩
    | cons d ds ih =>
      obtain ⟨a1, a2⟩ := h d (by simp)
      obtain ⟨b1, b2⟩ := ih (fun d hd => h d (by simp [hd]))
      constructor
      · show (d.canLay0 && PyData.canLayAll0 ds) = true
        rw [a1, b1]; rfl
      · show max d.depth (PyData.depthAll ds) ≤ 10
        omega
  refine ⟨?_, ?_, h1⟩
  · show (PyData.canLayAll0 ds && decide (PyData.depthAll ds + 1 ≤ 64)) = true
    rw [h1.1, decide_eq_true (by omega)]; rfl
  · show (PyData.canLayAll0 ds && decide (PyData.depthAll ds + 1 ≤ 64)) = true
    rw [h1.1, decide_eq_true (by omega)]; rfl
theorem wS_ok : ∀ {w : Nat}, w < 8 → PyData.strOk (wS w) = true := by
  have h : ∀ w : _root_.Fin 8, PyData.strOk (wS w.val) = true := by decide +kernel
  exact fun {w} hw => h ⟨w, hw⟩
theorem str_lay {x : Str} (h : PyData.strOk x = true) : (PyData.str x).canLay0 = true ∧ (PyData.str x).depth ≤ 10 := ⟨h, by show 0 ≤ 10; decide⟩
theorem eqV_lab (n : Option (List Nat)) (x : List Nat) : eqV (labV n) (.str (mkS x)) = decide (n = some x) := by
  cases n with
  | none => simp [labV, eqV]
  | some t =>
    unfold labV eqV
    by_cases h : t = x
    · subst h; simp
    · have h2 : ¬ mkS t = mkS x := fun q => h (by have := congrArg tl q; rwa [tl_mkS, tl_mkS] at this)
      simp [h, h2]
/-! ### robots -/
def robotT (n : Nat) (ls : List LStep) : List Tk := kwT "robot" :: numT n :: sgT 123 :: (ls.flatMap stepT ++ [sgT 125])
def labsOf (ls : List LStep) : List (Option (List Nat)) := ls.map LStep.lab
structure Res (labs : List (Option (List Nat))) (s : LStep) (r : Step) : Prop where
  w : r.w = s.w
  no : s.tgt = none → r.g = none
  yes : ∀ t, s.tgt = some t → ∃ k, r.g = some k ∧ labs[k]? = some (some t) ∧ ∀ m, m < k → labs[m]? ≠ some (some t)
structure LOk (ls : List LStep) (ss : List Step) : Prop where
  pos : 1 ≤ ls.length
  le : ls.length ≤ 20
  all : ∀ s ∈ ls, s.Ok
  dup : ∀ i s t, ls[i]? = some s → s.lab = some t → some t ∉ labsOf (ls.take i)
  res : Paired (Res (labsOf ls)) ls ss
def robF (n : Nat) (sl nl : Addr) : List (Str × V) := [("start", .int n), ("steps", .ref sl), ("names", .ref nl)]
def RobAt (a : Ad) (K : PySem.W.Frag) (G : Hp) (v : V) (n : Nat) (ss : List Step) : Prop := ∃ (r dx sl nl : Addr), v = .ref r ∧ G r = some (.ins a.C_Robot dx (robF n sl nl)) ∧ Dp K G (.ref sl) (stepsD ss)
theorem RobAt.mono {a : Ad} {K : PySem.W.Frag} {G G' : Hp} {v : V} {n : Nat} {ss : List Step} (s : Same G G') (h : RobAt a K G v n ss) : RobAt a K G' v n ss := by
  obtain ⟨r, dx, sl, nl, e, h1, h2⟩ := h
  exact ⟨r, dx, sl, nl, e, s _ _ h1, Dp.mono s _ _ h2⟩
structure spPRobot (a : Ad) (K : PySem.W.Frag) (vs : List V) (H : Hp) (Q : VK) (E : XK) : Prop where
  ex : ∃ (p ot : Addr) (G : Hp) (pos : Nat) (toks : List Tk) (cells st : Nat) (os : List Nat) (ls : List LStep) (ss : List Step) (rest : List Tk), vs = [.ref p, .int cells, .ref ot] ∧ Same G H ∧ ParAt a G H p pos toks ∧ SqT K G ot (os.map fun n : Nat => V.int n) ∧
    toks.drop pos = robotT st ls ++ rest ∧ st < cells ∧ cells < 100 ∧ st ∉ os ∧ LOk ls ss ∧
    ∀ G1 H1 v, Mv [p] G H G1 H1 → ParAt a G1 H1 p (pos + (robotT st ls).length) toks → RobAt a K G1 v st ss → Q v H1
theorem step_head {s : LStep} (h : s.Ok) (r : List Tk) : ∃ tk r', stepT s ++ r = tk :: r' ∧ tk.t ≠ [125] := by
  unfold stepT
  cases hl : s.lab with
  | none =>
    refine ⟨kwT (wS s.w), _, rfl, ?_⟩
    have : ∀ w : _root_.Fin 8, tl (wS w.val) ≠ [125] := by decide +kernel
    exact this ⟨s.w, h.w8⟩
  | some t =>
    refine ⟨nmT t, _, rfl, fun z => ?_⟩
    have : t = [125] := z
    exact h.lb (by rw [hl, this])
theorem flat_more {α β : Type} {l : List α} {f : α → List β} {i : Nat} {x : α} (h : l[i]? = some x) : (l.take (i + 1)).flatMap f = (l.take i).flatMap f ++ f x := by
  rw [take_more h, List.flatMap_append]
  simp
theorem flat_split {α β : Type} {l : List α} {f : α → List β} {i : Nat} {x : α} (h : l[i]? = some x) : l.flatMap f = (l.take i).flatMap f ++ (f x ++ (l.drop (i + 1)).flatMap f) := by
  have hi : i < l.length := (List.getElem?_eq_some_iff.mp h).1
  have e : l = l.take i ++ (x :: l.drop (i + 1)) := by
    have h2 := List.drop_eq_getElem_cons hi
    have h3 : l[i] = x := (List.getElem?_eq_some_iff.mp h).2
    rw [h3] at h2
    rw [← h2, List.take_append_drop]
  conv => lhs; rw [e]
  rw [List.flatMap_append, List.flatMap_cons]
section
variable {P : Program} {w : World} {K : PySem.W.Frag} {mg : Str → Option Value} {base : Heap} {a : Ad}
theorem ok_Robot_init (T : Txt K mg a) : FnOk P w K mg base CX0 1 a.f_Robot_init a.d_Robot_init ["self", "start", "steps", "names"] (spInit a.C_Robot ["start", "steps", "names"]) := by
  refine T.F_Robot_init.ok sc_Robot_init (fun vs H Q E h => ?_) (fun cdv A outer s H vs Q E hr h => ?_)
  · obtain ⟨⟨x, dx, us, rfl, hl, _⟩⟩ := h
    exact congrArg (· + 1) hl
  · obtain ⟨⟨x, dx, us, rfl, hl, hx, k⟩⟩ := h
    match us, hl with
    | [u1, u2, u3], _ =>
      refine ⟨_, (pss_cons (ps_fld (pv 0) (pv 1) rfl)
      (pss_cons (ps_fld (pv 0) (pv 2) rfl)
      (pss_one (ps_fld (pv 0) (pv 3) rfl)))), ?_⟩
      refine ⟨_, rfl, _, rfl, x, _, dx, _, rfl, hx, T.cl_Robot, T.n_Robot_start, by decide, ?_⟩
      refine ⟨_, rfl, _, rfl, x, _, dx, _, rfl, upd_same, T.cl_Robot, T.n_Robot_steps, lf1, ?_⟩
      refine ⟨_, rfl, _, rfl, x, _, dx, _, rfl, upd_same, T.cl_Robot, T.n_Robot_names, lf2, ?_⟩
      rw [upd_upd, upd_upd]
      have e : putF "names" u3 (putF "steps" u2 (putF "start" u1 [])) = (["start", "steps", "names"] : List Str).zip [u1, u2, u3] := by
        show putF "names" u3 (putF "steps" u2 [("start", u1)]) = _
        rw [putF_new (fs := [("start", u1)]) (show ("steps" : Str) ∉ (["start"] : List Str) by decide +kernel)]
        show putF "names" u3 [("start", u1), ("steps", u2)] = _
        rw [putF_new (fs := [("start", u1), ("steps", u2)]) (show ("names" : Str) ∉ (["start", "steps"] : List Str) by decide +kernel)]
        rfl
      rw [e]
      exact k
theorem ok_Plan_init (T : Txt K mg a) : FnOk P w K mg base CX0 1 a.f_Plan_init a.d_Plan_init ["self", "shelf", "robots"] (spInit a.C_Plan ["shelf", "robots"]) := by
  refine T.F_Plan_init.ok sc_Plan_init (fun vs H Q E h => ?_) (fun cdv A outer s H vs Q E hr h => ?_)
  · obtain ⟨⟨x, dx, us, rfl, hl, _⟩⟩ := h
    exact congrArg (· + 1) hl
  · obtain ⟨⟨x, dx, us, rfl, hl, hx, k⟩⟩ := h
    match us, hl with
    | [u1, u2], _ =>
      refine ⟨_, (pss_cons (ps_fld (pv 0) (pv 1) rfl)
      (pss_one (ps_fld (pv 0) (pv 2) rfl))), ?_⟩
      refine ⟨_, rfl, _, rfl, x, _, dx, _, rfl, hx, T.cl_Plan, T.n_Plan_shelf, by decide, ?_⟩
      refine ⟨_, rfl, _, rfl, x, _, dx, _, rfl, upd_same, T.cl_Plan, T.n_Plan_robots, lf1, ?_⟩
      rw [upd_upd]
      have e : putF "robots" u2 (putF "shelf" u1 []) = (["shelf", "robots"] : List Str).zip [u1, u2] := by
        show putF "robots" u2 [("shelf", u1)] = _
        rw [putF_new (fs := [("shelf", u1)]) (show ("robots" : Str) ∉ (["shelf"] : List Str) by decide +kernel)]
        rfl
      rw [e]
      exact k
theorem ok_Parser_parse_robot (T : Txt K mg a) : FnOk P w K mg base CX0 4 a.f_Parser_parse_robot a.d_Parser_parse_robot ["self", "cells", "others"] (spPRobot a K) := by
  refine T.F_Parser_parse_robot.ok sc_Parser_parse_robot (fun vs H Q E h => ?_) (fun cdv A outer s0 H vs Q E hr h => ?_)
  · obtain ⟨⟨p, ot, G, pos, toks, cells, st, os, ls, ss, rest, rfl, _⟩⟩ := h
    rfl
  · obtain ⟨⟨p, ot, G, pos, toks, cells, st, os, ls, ss, rest, rfl, hs, hP, hot, hd, hst, hc, hos, ok, k⟩⟩ := h
    refine ⟨_, (pss_cons (ps_expr (pe_meth (pv 0) T.cl_Parser T.M_Parser_take_word (ok_Parser_take_word T) (hr.mono (by decide)) (b_Parser_take_word T) .nil pass0 (pa_cons pe_str pa_nil)))
      (pss_cons (ps_set (i := 3) sc_Parser_parse_robot.nd rfl (Or.inl rfl) (pe_meth (pv 0) T.cl_Parser T.M_Parser_take (ok_Parser_take T) (hr.mono (by decide)) (b_Parser_take T) .nil pass0 (pa_cons (pe_glob (v := V.str (Str.ofString "number")) rfl T.c_NUMBER ⟨_, rfl⟩) pa_nil)))
      (pss_cons (ps_if (pt_cmpR op_ge (pe_callTy call_int_str (by rfl) T.z_int (by decide +kernel) (pa_cons (pe_fld (pv 3) rfl) pa_nil)) (pv 1) (nomark _)) pss_never (pss_one (ps_if (pt_cmpR op_in_seq (pe_callTy call_int_str (by rfl) T.z_int (by decide +kernel) (pa_cons (pe_fld (pv 3) rfl) pa_nil)) (pv 2) rfl) pss_never pss_nil)))
      (pss_cons (ps_expr (pe_meth (pv 0) T.cl_Parser T.M_Parser_take_word (ok_Parser_take_word T) (hr.mono (by decide)) (b_Parser_take_word T) .nil pass0 (pa_cons pe_str pa_nil)))
      (pss_cons (ps_par3 (i := 4) (j := 5) (l := 6) (by rfl) sc_Parser_parse_robot.nd rfl rfl rfl (by decide) (by decide) (by decide) rfl rfl rfl (pa_cons (pe_lst pa_nil) (pa_cons (pe_lst pa_nil) (pa_cons (pe_lst pa_nil) pa_nil))) (by rfl))
      (pss_cons (ps_while PassesOwn.never (PW.pt (pw_or (pt_cmpR op_ne (pe_fld (pe_meth0 (pv 0) T.cl_Parser T.M_Parser_peek (ok_Parser_peek T) (hr.mono (by decide)) (b_Parser_peek T) .nil pass0) rfl) pe_str (nomark _)) (pw_or1 (pt_cmpR (op_eqD hr.units) (pv 4) (pe_lst pa_nil) (nomark _))))) (pss_cons (ps_if (pt_cmpR op_eq (pe_callB call_len_seq (by rfl) T.z_len (by decide +kernel) (pa_cons (pv 4) pa_nil)) (pe_glob (v := V.int 20) rfl T.c_MAX_STEPS ⟨_, rfl⟩) (nomark _)) pss_never pss_nil)
      (pss_one (ps_expr (pe_bm PySem.F.plainAttrs_list PySem.F.slot_list_append PySem.F.type_list_append mt_append (pv 4) (pa_cons (pe_meth (pv 0) T.cl_Parser T.M_Parser_parse_step (ok_Parser_parse_step T) (hr.mono (by decide)) (b_Parser_parse_step T) .nil pass0 (pa_cons (pv 5) (pa_cons (pv 6) pa_nil))) pa_nil))))))
      (pss_cons (ps_expr (pe_meth (pv 0) T.cl_Parser T.M_Parser_take_word (ok_Parser_take_word T) (hr.mono (by decide)) (b_Parser_take_word T) .nil pass0 (pa_cons pe_str pa_nil)))
      (pss_cons (ps_set (i := 7) sc_Parser_parse_robot.nd rfl (Or.inl rfl) (pe_lst pa_nil))
      (pss_cons (ps_for PassesOwn.never rfl (pi_zip (by rfl) T.z_zip (pa_cons (pv 4) (pa_cons (pv 6) pa_nil))) (pg_tup (by rfl) (pgs_cons (pg_name (i := 8) sc_Parser_parse_robot.nd rfl (Or.inl rfl)) (pgs_cons (pg_name (i := 9) sc_Parser_parse_robot.nd rfl (Or.inl rfl)) pgs_nil))) (pss_cons (ps_if (PW.pt (pw_and (pt_cmpR op_notN (pv 9) pe_non (nomark _)) (pw_and1 (pt_cmpR op_notIn_seq (pe_fld (pv 9) rfl) (pv 5) rfl)))) pss_never pss_nil)
      (pss_one (ps_expr (pe_bm PySem.F.plainAttrs_list PySem.F.slot_list_append PySem.F.type_list_append mt_append (pv 7) (pa_cons (pe_tup (pa_cons (pv 8) (pa_cons (pe_ifExp (PW.pt (pw_and (pt_cmpR op_notN (pv 9) pe_non (nomark _)) (pw_and1 (pt_cmpR op_in_seq (pe_fld (pv 9) rfl) (pv 5) rfl)))) (pe_bm PySem.F.plainAttrs_list PySem.F.slot_list_index PySem.F.type_list_index mt_index (pv 5) (pa_cons (pe_fld (pv 9) rfl) pa_nil)) pe_non) pa_nil))) pa_nil))))))
      (pss_one (ps_ret (pe_make T.mk_Robot (ok_Robot_init T) (hr.mono (by decide)) (by rfl) T.m_Robot (b_Robot_init T) .nil pass0 (pa_cons (pe_callTy call_int_str (by rfl) T.z_int (by decide +kernel) (pa_cons (pe_fld (pv 3) rfl) pa_nil)) (pa_cons (pv 7) (pa_cons (pv 5) pa_nil))))))))))))))), ?_⟩
    have M0 : Mv [p] G H G H := Mv.start hs
    obtain ⟨dx, ta, fl, h1⟩ := hP.some
    have d0 : toks.drop pos = kwT "robot" :: (numT st :: (sgT 123 :: (ls.flatMap stepT ++ (sgT 125 :: rest)))) := by rw [hd]; unfold robotT; simp
    obtain ⟨t0, d1⟩ := drop_at d0
    obtain ⟨t1, d2⟩ := drop_at d1
    obtain ⟨t2, d3⟩ := drop_at d2
    refine ⟨_, rfl, p, dx, _, rfl, h1, (by kernel_rfl), take_go (tk := kwT "robot") (mkS_tl _).symm M0 (.inl (by simp)) hP t0 fun H1 v1 M1 _ P1 _ => ?_⟩
    obtain ⟨dx1, ta1, fl1, h11⟩ := P1.some
    refine ⟨_, rfl, p, dx1, _, rfl, h11, (by kernel_rfl), take_go (tk := numT st) rfl M1 (.inl (by simp)) P1 t1 fun H2 v2 M2 _ P2 hv2 => ?_⟩
    obtain ⟨q2, dq2, lq2, cq2, rfl, hq2⟩ := hv2
    have io := int_of (n := st) (by omega)
    have nlen := numT_len (n := st) (by omega)
    refine ⟨_, rfl, q2, _, dq2, _, .str (mkS (numL st)), rfl, M2.s _ _ hq2, T.cl_Token, T.n_Token_text, (by kernel_rfl), _, (st : Int), rfl, io, nlen, _, rfl, _, _, rfl, rfl, _, rfl, ite_f (decide_eq_false (by omega)) ?_⟩
    refine ⟨_, rfl, q2, _, dq2, _, .str (mkS (numL st)), rfl, M2.s _ _ hq2, T.cl_Token, T.n_Token_text, (by kernel_rfl), _, (st : Int), rfl, io, nlen, _, rfl, ot, _, rfl, .inr (Same.seqT M2.s hot), rfl, nats_flat os, _, rfl, ite_f (by rw [if_neg Bool.false_ne_true, in_nats]; exact decide_eq_false hos) ?_⟩
    obtain ⟨dx2, ta2, fl2, h12⟩ := P2.some
    refine ⟨_, rfl, p, dx2, _, rfl, h12, (by kernel_rfl), take_go (tk := sgT 123) (mkS_of (show tl (Str.ofString "{") = [123] by decide +kernel)) M2 (.inl (by simp)) P2 t2 fun H3 v3 M3 _ P3 _ => ?_⟩
    -- words, names, jumps
    refine ⟨Nat.zero_le _, fun wl hw => ⟨Nat.zero_le _, fun nl hn => ⟨Nat.zero_le _, fun jl hj => ⟨_, _, _, rfl, ?_⟩⟩⟩⟩
    have M4 := ((M3.lay hw (.lst [])).lay hn (.lst [])).lay hj (.lst [])
    have P4 := ((P3.lay (o := .lst []) hw).lay (o := .lst []) hn).lay (o := .lst []) hj
    have wn : wl ≠ nl := ne_of_none upd_same hn
    have nj : nl ≠ jl := ne_of_none upd_same hj
    have wj : wl ≠ jl := ne_of_none (by rw [upd_ne wn, upd_same]) hj
    have w0 : H wl = none := M3.free hw
    have n0 : H nl = none := (M3.lay hw (.lst [])).free hn
    have j0 : H jl = none := ((M3.lay hw (.lst [])).lay hn (.lst [])).free hj
    have wG : G wl = none := M3.freeG hw
    have nG : G nl = none := (M3.lay hw (.lst [])).freeG hn
    have jG : G jl = none := ((M3.lay hw (.lst [])).lay hn (.lst [])).freeG hj
    have pw : p ≠ wl := fun e => by rw [← e, h1] at w0; cases w0
    have pn : p ≠ nl := fun e => by rw [← e, h1] at n0; cases n0
    have pj : p ≠ jl := fun e => by rw [← e, h1] at j0; cases j0
    have hw4 : (upd (upd (upd H3 wl (.lst [])) nl (.lst [])) jl (.lst [])) wl = some (.lst []) := by rw [upd_ne wj, upd_ne wn, upd_same]
    have hn4 : (upd (upd (upd H3 wl (.lst [])) nl (.lst [])) jl (.lst [])) nl = some (.lst []) := by rw [upd_ne nj, upd_same]
    have hj4 : (upd (upd (upd H3 wl (.lst [])) nl (.lst [])) jl (.lst [])) jl = some (.lst []) := upd_same
    revert M4 P4 hw4 hn4 hj4
    generalize upd (upd (upd H3 wl (.lst [])) nl (.lst [])) jl (.lst []) = H4
    intro M4 P4 hw4 hn4 hj4
    dsimp only
    -- the steps read
    obtain ⟨Iv, hIv⟩ : ∃ Iv : Nat → L2.St → Hp → Prop, Iv = fun j σ H' => ∃ (js : List V), σ = [some (.ref p), some (.int cells), some (.ref ot), some (.ref q2), some (.ref wl), some (.ref nl), some (.ref jl), none, none, none] ∧ j ≤ ls.length ∧ Mv [p] G H G H' ∧
      ParAt a G H' p (pos + 1 + 1 + 1 + ((ls.take j).flatMap stepT).length) toks ∧ H' wl = some (.lst (((ls.take j).map fun s => wS s.w).map V.str)) ∧ H' nl = some (.lst ((labsOf (ls.take j)).map labV)) ∧ H' jl = some (.lst js) ∧ Paired (JmpAt a G) js ((ls.take j).map LStep.tgt) := ⟨_, rfl⟩
    have d4 : ∀ j, j ≤ ls.length → toks.drop (pos + 1 + 1 + 1 + ((ls.take j).flatMap stepT).length) = (ls.drop j).flatMap stepT ++ (sgT 125 :: rest) := fun j hj => by
      rw [← List.drop_drop, d3]
      have e : ls.flatMap stepT = (ls.take j).flatMap stepT ++ (ls.drop j).flatMap stepT := by rw [← List.flatMap_append, List.take_append_drop]
      rw [e, List.append_assoc, List.drop_left]
    refine seq_restσ (fun σ H' => Iv ls.length σ H') (fun σ H' hI => ?r) (fun rest1 => ?m)
    case m =>
      refine ⟨fun m σ H' => ∃ j, m = ls.length - j ∧ Iv j σ H', ⟨_, 0, rfl, ?_⟩, ?_⟩
      · rw [hIv]
        exact ⟨[], rfl, Nat.zero_le _, M4, P4, hw4, hn4, hj4, .nil⟩
      · rintro m σ H' ⟨j, rfl, hI⟩
        have hI0 := hI
        rw [hIv] at hI
        obtain ⟨js, rfl, jn, M, PP, hwv, hnv, hjv, hjs⟩ := hI
        obtain ⟨dx5, ta5, fl5, h5⟩ := PP.some
        have jsl : js.length = j := by rw [Paired.len hjs, List.length_map, List.length_take]; omega
        by_cases hjl : j < ls.length
        · obtain ⟨s, hs5⟩ : ∃ s, ls[j]? = some s := ⟨_, List.getElem?_eq_getElem hjl⟩
          have oks : s.Ok := ok.all s (List.mem_of_getElem? hs5)
          have d5 : toks.drop (pos + 1 + 1 + 1 + ((ls.take j).flatMap stepT).length) = stepT s ++ ((ls.drop (j + 1)).flatMap stepT ++ (sgT 125 :: rest)) := by
            rw [d4 j jn]
            have h2 := List.drop_eq_getElem_cons hjl
            have h3 : ls[j] = s := (List.getElem?_eq_some_iff.mp hs5).2
            rw [h3] at h2
            rw [h2, List.flatMap_cons, List.append_assoc]
          obtain ⟨tk, r', e5, ne5⟩ := step_head oks ((ls.drop (j + 1)).flatMap stepT ++ (sgT 125 :: rest))
          have a5 := (drop_at (d5.trans e5)).1
          refine ⟨_, rfl, p, dx5, _, rfl, h5, (by kernel_rfl), peek_go M.s PP a5 fun v hv => ?_⟩
          obtain ⟨q, dq, lq, cq, rfl, hq⟩ := id hv
          refine ⟨q, _, dq, _, .str (mkS tk.t), rfl, M.s _ _ hq, T.cl_Token, T.n_Token_text, (by kernel_rfl), rfl, _, rfl, ite_t ?_ (ite_t rfl ?_)⟩
          · have : ¬ V.str (mkS tk.t) = V.str (Str.ofString "}") := fun z => by
              injection z with z
              have := congrArg tl z
              rw [tl_mkS, t_cb] at this
              exact ne5 this
            rw [decide_eq_false this]; rfl
          refine ⟨fun σ' H' => Iv (j + 1) σ' H', fun σ' H' hn => ⟨_, by omega, j + 1, rfl, hn⟩, ?_⟩
          have lle := ok.le
          refine ⟨_, rfl, wl, _, rfl, .inl (SqL.of hwv), rfl, _, rfl, ite_f (vint_ne (by rw [List.length_map, List.length_map, List.length_take]; omega)) ?_⟩
          refine ⟨_, rfl, .inl ⟨rfl, _, SqL.of hwv⟩, _, rfl, p, dx5, _, rfl, h5, (by kernel_rfl), _, rfl, _, rfl, ?_⟩
          refine ⟨⟨p, nl, jl, G, _, toks, s, _, labsOf (ls.take j), js, rfl, M.s, PP, nG, jG, nj, hnv, hjv, d5, oks, fun t ht => ok.dup j s t hs5 ht, ?_, by omega, fun H6 jv m6 P6 hn6 hj6 hjt => ?_⟩⟩
          · unfold labsOf; rw [List.length_map, List.length_take]; omega
          have hw6 : H6 wl = some (.lst (((ls.take j).map fun s => wS s.w).map V.str)) := m6.kept hwv (by simp [pw.symm, wn, wj])
          have M6 : Mv [p] G H G H6 := ⟨M.ext.trans m6.ext, fun c o e => by
            have e1 := M.sm c o e
            obtain ⟨h1', h2'⟩ := wos_some e
            refine m6.sm c o ?_
            rw [wos_out]
            · exact e1
            · intro hc'
              rcases List.mem_cons.mp hc' with rfl | hc'
              · exact h1' (by simp)
              rcases List.mem_cons.mp hc' with rfl | hc'
              · rw [n0] at h2'; cases h2'
              rcases List.mem_cons.mp hc' with rfl | hc'
              · rw [j0] at h2'; cases h2'
              · cases hc'⟩
          refine ⟨wl, _, _, rfl, rfl, hw6, smaller 20 (by rw [List.length_map, List.length_map, List.length_take]; omega) (by decide), ?_⟩
          rw [hIv]
          refine ⟨js ++ [jv], rfl, by omega, M6.put (.inr w0) wG _, ?_, ?_, ?_, ?_, ?_⟩
          · rw [flat_more hs5, List.length_append, ← Nat.add_assoc]
            exact P6.put pw
          · rw [upd_same, take_more hs5, List.map_append, List.map_append]; rfl
          · rw [upd_ne wn.symm, hn6]
            simp only [labsOf, take_more hs5, List.map_append]
            rfl
          · rw [upd_ne wj.symm]; exact hj6
          · rw [take_more hs5, List.map_append]
            exact Paired.snoc hjs hjt
        · have ej : j = ls.length := by omega
          subst ej
          have d6 := d4 ls.length (Nat.le_refl _)
          rw [List.drop_length] at d6
          have a6 := (drop_at (show _ = sgT 125 :: rest from d6)).1
          refine ⟨_, rfl, p, dx5, _, rfl, h5, (by kernel_rfl), peek_go M.s PP a6 fun v hv => ?_⟩
          obtain ⟨q, dq, lq, cq, rfl, hq⟩ := id hv
          refine ⟨q, _, dq, _, .str (mkS [125]), rfl, M.s _ _ hq, T.cl_Token, T.n_Token_text, (by kernel_rfl), rfl, _, rfl, ite_f (by decide +kernel) ?_⟩
          refine ⟨_, rfl, Nat.zero_le _, fun e1 he1 => ?_⟩
          have hw7 : (upd H' e1 (.lst [])) wl = some (.lst (((ls.take ls.length).map fun s => wS s.w).map V.str)) := by rw [upd_ne (ne_of_none hwv he1)]; exact hwv
          have shp := shaped_of (ds := ((ls.take ls.length).map fun s => wS s.w).map PyData.str) (fun d hd => by
            obtain ⟨x, hx, rfl⟩ := List.mem_map.mp hd
            obtain ⟨y, hy, rfl⟩ := List.mem_map.mp hx
            exact str_lay (wS_ok (ok.all y (List.mem_of_mem_take hy)).w8))
          refine ⟨.list (((ls.take ls.length).map fun s => wS s.w).map PyData.str), .list [], .lst (SqL.of hw7) (DpAll.strs _), .lst (SqL.of upd_same) .nil, shp.1, by decide, _, rfl, ite_f ?_ ?_⟩
          · have hp := ok.pos
            cases els : ls with
            | nil => rw [els] at hp; exact absurd hp (by decide)
            | cons x y => rfl
          refine rest1 _ _ ?_
          rw [hIv]
          exact ⟨js, rfl, Nat.le_refl _, M.lay he1 _, PP.lay he1, hw7, by rw [upd_ne (ne_of_none hnv he1)]; exact hnv, by rw [upd_ne (ne_of_none hjv he1)]; exact hjv, hjs⟩
    rw [hIv] at hI
    obtain ⟨js, rfl, _, M, PP, hwv, hnv, hjv, hjs⟩ := hI
    have d6 := d4 ls.length (Nat.le_refl _)
    rw [List.drop_length] at d6
    have a6 := (drop_at (show _ = sgT 125 :: rest from d6)).1
    rw [List.take_length] at PP hwv hnv hjs a6
    have lle := ok.le
    have jsl : js.length = ls.length := by rw [Paired.len hjs, List.length_map]
    have ssl : ss.length = ls.length := (Paired.len ok.res).symm
    obtain ⟨dx7, ta7, fl7, h7⟩ := PP.some
    refine ⟨_, rfl, p, dx7, _, rfl, h7, (by kernel_rfl), take_go (tk := sgT 125) (mkS_of t_cb) M (.inl (by simp)) PP a6 fun H8 v8 M8 m8 P8 _ => ?_⟩
    have hw8 := m8.kept hwv (by simp [pw.symm])
    have hn8 := m8.kept hnv (by simp [pn.symm])
    have hj8 := m8.kept hjv (by simp [pj.symm])
    refine ⟨Nat.zero_le _, fun sl hsl => ?_⟩
    have M9 := M8.lay hsl (.lst [])
    have P9 := P8.lay (o := .lst []) hsl
    have s0' : H sl = none := M8.free hsl
    have sG : G sl = none := M8.freeG hsl
    have ps : p ≠ sl := fun e => by rw [← e, h1] at s0'; cases s0'
    have sw : wl ≠ sl := ne_of_none hw8 hsl
    have sn : nl ≠ sl := ne_of_none hn8 hsl
    have sj : jl ≠ sl := ne_of_none hj8 hsl
    have hw9 : (upd H8 sl (.lst [])) wl = some (.lst ((ls.map fun s => wS s.w).map V.str)) := by rw [upd_ne sw]; exact hw8
    have hn9 : (upd H8 sl (.lst [])) nl = some (.lst ((labsOf ls).map labV)) := by rw [upd_ne sn]; exact hn8
    have hj9 : (upd H8 sl (.lst [])) jl = some (.lst js) := by rw [upd_ne sj]; exact hj8
    refine ⟨_, rfl, _, rfl, wl, jl, _, _, rfl, SqL.of hw9, SqL.of hj9, for_it (walk_zip (K := K) (a := wl) (b := jl) (xs := (ls.map fun s => wS s.w).map V.str) (ys := js) (n := ls.length) (by rw [List.length_map, List.length_map, jsl]; simp))
      (fun i σ H' => ∃ (G' : Hp) (xs : List V) (v8 v9 : Option V), σ = [some (.ref p), some (.int cells), some (.ref ot), some (.ref q2), some (.ref wl), some (.ref nl), some (.ref jl), some (.ref sl), v8, v9] ∧ Mv [p] G H G' H' ∧ ParAt a G' H' p (pos + 1 + 1 + 1 + (ls.flatMap stepT).length + 1) toks ∧
        H' wl = some (.lst ((ls.map fun s => wS s.w).map V.str)) ∧ H' nl = some (.lst ((labsOf ls).map labV)) ∧ H' jl = some (.lst js) ∧ G' sl = none ∧ H' sl = some (.lst xs) ∧ DpAll K G' xs ((ss.take i).map Step.D)) ?_ ?_ ?_ ?_⟩
    · exact ⟨G, [], none, none, rfl, M9, P9, hw9, hn9, hj9, sG, upd_same, .nil⟩
    · rintro i σ H' _ ⟨G', xs, v8, v9, rfl, _, _, hw', _, hj', _⟩
      exact ⟨SqL.of hw', SqL.of hj'⟩
    · rintro i y σ H10 H11 hi ⟨G', xs, v8', v9', rfl, M10, P10, hw10, hn10, hj10, sG10, hs10, hD10⟩ ⟨T', x, z, rfl, hT', rfl, hx, hz⟩
      have hx : ((ls.map fun s => wS s.w).map V.str)[i]? = some x := hx
      have hz : js[i]? = some z := hz
      obtain ⟨s, hsi⟩ : ∃ s, ls[i]? = some s := ⟨_, List.getElem?_eq_getElem hi⟩
      have ex : x = .str (wS s.w) := by
        rw [List.getElem?_map, List.getElem?_map, hsi] at hx
        exact (Option.some.inj hx).symm
      subst ex
      obtain ⟨r, hri, hres⟩ := paired_get ok.res hsi
      obtain ⟨tg, htg, hjt⟩ := paired_get hjs hz
      have etg : tg = s.tgt := by
        rw [List.getElem?_map, hsi] at htg
        exact (Option.some.inj htg).symm
      subst etg
      have xsl : xs.length ≤ 20 := by rw [DpAll.len hD10, List.length_map, List.length_take]; omega
      have M11 := M10.lay hT' (.tup [.str (wS s.w), z])
      have P11 := P10.lay (o := .tup [.str (wS s.w), z]) hT'
      have hw11 : (upd H10 T' (.tup [.str (wS s.w), z])) wl = _ := (upd_ne (ne_of_none hw10 hT')).trans hw10
      have hn11 : (upd H10 T' (.tup [.str (wS s.w), z])) nl = _ := (upd_ne (ne_of_none hn10 hT')).trans hn10
      have hj11 : (upd H10 T' (.tup [.str (wS s.w), z])) jl = _ := (upd_ne (ne_of_none hj10 hT')).trans hj10
      have hs11 : (upd H10 T' (.tup [.str (wS s.w), z])) sl = _ := (upd_ne (ne_of_none hs10 hT')).trans hs10
      refine ⟨T', _, rfl, SqT.of upd_same, rfl, _, _, rfl, _, _, rfl, rfl, ?_⟩
      revert M11 P11 hw11 hn11 hj11 hs11
      generalize upd H10 T' (.tup [.str (wS s.w), z]) = H11
      intro M11 P11 hw11 hn11 hj11 hs11
      -- the step appended
      have fin : ∀ (gv : V), (∀ G, Dp K G gv (optD r.g)) → (2 ≤ sizeLine ∧ ∀ t, H11 t = none → ∃ l' ys y, (V.ref sl) = .ref l' ∧ [V.ref t] = [y] ∧ (upd H11 t (.tup [.str (wS s.w), gv])) l' = some (.lst ys) ∧ ys.length < sizeLine ∧
          (∃ (G' : Hp) (xs : List V) (v8 v9 : Option V), [some (V.ref p), some (.int cells), some (.ref ot), some (.ref q2), some (.ref wl), some (.ref nl), some (.ref jl), some (.ref sl), some (.str (wS s.w)), some z] = [some (.ref p), some (.int cells), some (.ref ot), some (.ref q2), some (.ref wl), some (.ref nl), some (.ref jl), some (.ref sl), v8, v9] ∧ Mv [p] G H G' (upd (upd H11 t (.tup [.str (wS s.w), gv])) l' (.lst (ys ++ [y]))) ∧ ParAt a G' (upd (upd H11 t (.tup [.str (wS s.w), gv])) l' (.lst (ys ++ [y]))) p (pos + 1 + 1 + 1 + (ls.flatMap stepT).length + 1) toks ∧
            (upd (upd H11 t (.tup [.str (wS s.w), gv])) l' (.lst (ys ++ [y]))) wl = some (.lst ((ls.map fun s => wS s.w).map V.str)) ∧ (upd (upd H11 t (.tup [.str (wS s.w), gv])) l' (.lst (ys ++ [y]))) nl = some (.lst ((labsOf ls).map labV)) ∧ (upd (upd H11 t (.tup [.str (wS s.w), gv])) l' (.lst (ys ++ [y]))) jl = some (.lst js) ∧ G' sl = none ∧ (upd (upd H11 t (.tup [.str (wS s.w), gv])) l' (.lst (ys ++ [y]))) sl = some (.lst xs) ∧ DpAll K G' xs ((ss.take (i + 1)).map Step.D))) := by
        intro gv hgv
        refine ⟨by decide, fun t ht => ?_⟩
        have st' : sl ≠ t := ne_of_none hs11 ht
        have M12 := M11.new ht (.tup [.str (wS s.w), gv])
        have P12 := P11.new (o := .tup [.str (wS s.w), gv]) M11.s ht
        have sG12 : upd G' t (.tup [.str (wS s.w), gv]) sl = none := by rw [upd_ne st']; exact sG10
        have nGt := same_new (H := G') (p := t) (o := .tup [.str (wS s.w), gv]) (M11.freeG ht)
        refine ⟨sl, xs, _, rfl, rfl, by rw [upd_ne st']; exact hs11, smaller 20 xsl (by decide), _, xs ++ [.ref t], _, _, rfl, M12.put (.inr s0') sG12 _, P12.put ps, ?_, ?_, ?_, sG12, upd_same, ?_⟩
        · rw [upd_ne sw, upd_ne (ne_of_none hw11 ht)]; exact hw11
        · rw [upd_ne sn, upd_ne (ne_of_none hn11 ht)]; exact hn11
        · rw [upd_ne sj, upd_ne (ne_of_none hj11 ht)]; exact hj11
        · rw [take_more hri, List.map_append]
          refine DpAll.snoc (Dp.monoAll nGt _ _ hD10) (.tup (SqT.of upd_same) (.cons ?_ (.cons (hgv _) .nil)))
          rw [hres.w]
          exact .str _
      cases htg' : s.tgt with
      | none =>
        rw [htg'] at hjt
        have hz' : z = .non := hjt
        subst hz'
        refine ⟨_, rfl, rfl, _, rfl, ite_f rfl (ite_f rfl ?_)⟩
        refine ⟨_, rfl, .inl ⟨rfl, _, SqL.of hs11⟩, _, rfl, _, rfl, rfl, _, rfl, ite_f rfl (ite_f rfl ?_)⟩
        exact fin .non (fun G => by rw [hres.no htg']; exact .non)
      | some t =>
        rw [htg'] at hjt
        obtain ⟨kk, hg, hlk, hfirst⟩ := hres.yes t htg'
        obtain ⟨q, dq, lq, cq, rfl, hq⟩ := id hjt
        have hmem : some t ∈ labsOf ls := List.mem_of_getElem? hlk
        have hqH : H11 q = some (.ins a.C_Token dq (tokF (nmT t) lq cq)) := M11.s _ _ (M10.g _ _ hq)
        refine ⟨_, rfl, rfl, _, rfl, ite_t rfl ?_⟩
        refine ⟨_, rfl, q, _, dq, _, .str (mkS t), rfl, hqH, T.cl_Token, T.n_Token_text, (by kernel_rfl), _, rfl, nl, _, rfl, .inl (SqL.of hn11), rfl, lab_flat _, _, rfl, ite_f (by rw [if_pos rfl, lab_in, decide_eq_true hmem]; rfl) ?_⟩
        refine ⟨_, rfl, .inl ⟨rfl, _, SqL.of hs11⟩, _, rfl, _, rfl, rfl, _, rfl, ite_t rfl ?_⟩
        refine ⟨_, rfl, q, _, dq, _, .str (mkS t), rfl, hqH, T.cl_Token, T.n_Token_text, (by kernel_rfl), _, rfl, nl, _, rfl, .inl (SqL.of hn11), rfl, lab_flat _, _, rfl, ite_t (by rw [if_neg Bool.false_ne_true, lab_in, decide_eq_true hmem]) ?_⟩
        refine ⟨_, rfl, .inl ⟨rfl, _, SqL.of hn11⟩, _, rfl, q, _, dq, _, .str (mkS t), rfl, hqH, T.cl_Token, T.n_Token_text, (by kernel_rfl), nl, _, .str (mkS t), kk, labV (some t), rfl, rfl, SqL.of hn11, rfl, lab_flat _, (by rw [List.getElem?_map, hlk]; rfl), (by rw [eqV_lab]; exact decide_eq_true rfl), (fun m z' hm hz' => ?_), ?_⟩
        · rw [List.getElem?_map] at hz'
          cases em : (labsOf ls)[m]? with
          | none => rw [em] at hz'; cases hz'
          | some lm =>
            rw [em] at hz'
            have : z' = labV lm := (Option.some.inj hz').symm
            rw [this, eqV_lab]
            exact decide_eq_false fun e => hfirst m hm (by rw [em, e])
        · exact fin (.int kk) (fun G => by rw [hg]; exact .int kk)
    · rintro σ H10 ⟨G', xs, v8', v9', rfl, M10, P10, hw10, hn10, hj10, sG10, hs10, hD10⟩
      have ess : ss.take ls.length = ss := by rw [← ssl]; exact List.take_length
      rw [ess] at hD10
      have hq10 : H10 q2 = some (.ins a.C_Token dq2 (tokF (numT st) lq2 cq2)) := M10.s _ _ (M10.g _ _ hq2)
      refine ⟨_, rfl, q2, _, dq2, _, .str (mkS (numL st)), rfl, hq10, T.cl_Token, T.n_Token_text, (by kernel_rfl), _, (st : Int), rfl, io, nlen, _, rfl, _, rfl, fun x dx' nx nd ne => init_go2 rfl ⟨rfl, ?_⟩⟩
      have M11 := (M10.freeze s0' hs10).freeze n0 hn10
      have M12 := M11.make nx nd ne (.ins a.C_Robot dx' (robF st sl nl))
      have g1 : Same G' (upd G' sl (.lst xs)) := same_new sG10
      have M10' := M10.freeze s0' hs10
      have g2 := same_frz M10'.s hn10
      have g3 := same_make (M11.freeG nx) (M11.freeG nd) ne (.ins a.C_Robot dx' (robF st sl nl))
      have px : p ≠ x := by obtain ⟨_, _, _, h⟩ := P10.some; exact ne_of_none h nx
      have pdx : p ≠ dx' := by obtain ⟨_, _, _, h⟩ := P10.some; exact ne_of_none h nd
      refine k _ _ _ M12 ?_ ⟨x, dx', sl, nl, rfl, upd_same, .lst (SqL.of ?_) (Dp.monoAll ((g1.trans g2).trans g3) _ _ hD10)⟩
      · have el : pos + 1 + 1 + 1 + (ls.flatMap stepT).length + 1 = pos + (robotT st ls).length := by
          unfold robotT
          simp only [List.length_append, List.length_cons, List.length_nil]
          omega
        rw [el] at P10
        refine P10.grow ((g1.trans g2).trans g3) (fun o e => by rw [upd_ne px, upd_ne pdx]; exact e) ?_
        rw [upd_ne px, upd_ne pdx, upd_ne pn, upd_ne ps]
        exact P10.out
      · exact (g2.trans g3) _ _ upd_same
end
end Sb

namespace Sb
open PySem PySem.Spec PyProof.Rows L2 TL
def planF (sh rl : Addr) : List (Str × V) := [("shelf", .ref sh), ("robots", .ref rl)]
def PlanAt (a : Ad) (K : PySem.W.Frag) (G : Hp) (v : V) (x : Pl) : Prop := ∃ (r dx sh rl : Addr) (r1 r2 : V), v = .ref r ∧ G r = some (.ins a.C_Plan dx (planF sh rl)) ∧ SqT K G sh (x.shelf.map fun n : Nat => V.int n) ∧ SqL K G rl [r1, r2] ∧ RobAt a K G r1 x.a x.p ∧ RobAt a K G r2 x.b x.q
theorem PlanAt.mono {a : Ad} {K : PySem.W.Frag} {G G' : Hp} {v : V} {x : Pl} (s : Same G G') (h : PlanAt a K G v x) : PlanAt a K G' v x := by
  obtain ⟨r, dx, sh, rl, r1, r2, e, h1, h2, h3, h4, h5⟩ := h
  exact ⟨r, dx, sh, rl, r1, r2, e, s _ _ h1, Same.seqT s h2, s.seq h3, h4.mono s, h5.mono s⟩
def planT (x : Pl) (l1 l2 : List LStep) : List Tk := kwT "shelf" :: (x.shelf.map numT ++ (sgT 59 :: (robotT x.a l1 ++ robotT x.b l2)))
/-- a text whose tokens are those of the plan x -/
structure Loads (src : Str) (x : Pl) : Prop where
  ex : ∃ (l1 l2 : List LStep) (rows : List (List Nat)) (tss : List (List Tk)), tl src = joinL [10] rows ∧ rows ≠ [] ∧ (∀ r ∈ rows, 10 ∉ r) ∧ (∀ r ∈ rows, r.length ≤ 3000) ∧ (tl src).length ≤ 3000000 ∧ Paired Lx rows tss ∧ tss.flatten = planT x l1 l2 ∧ LOk l1 x.p ∧ LOk l2 x.q
structure spParInit (C : Addr) (vs : List V) (H : Hp) (Q : VK) (E : XK) : Prop where
  ex : ∃ (x dx tk : Addr), vs = [.ref x, .ref tk] ∧ H x = some (.ins C dx []) ∧ ∀ fl, H fl = none → Q .non (upd (upd H fl (.lst [])) x (.ins C dx (parF tk fl 0)))
structure spPPlan (a : Ad) (K : PySem.W.Frag) (vs : List V) (H : Hp) (Q : VK) (E : XK) : Prop where
  ex : ∃ (p : Addr) (G : Hp) (x : Pl) (l1 l2 : List LStep), vs = [.ref p] ∧ Same G H ∧ ParAt a G H p 0 (planT x l1 l2 ++ [⟨.fin, []⟩]) ∧ x.Ok ∧ LOk l1 x.p ∧ LOk l2 x.q ∧ ∀ G1 H1 v, Mv [p] G H G1 H1 → PlanAt a K G1 v x → Q v H1
structure spLoad (a : Ad) (K : PySem.W.Frag) (vs : List V) (H : Hp) (Q : VK) (E : XK) : Prop where
  ex : ∃ (src : Str) (G : Hp) (x : Pl), vs = [.str src] ∧ Loads src x ∧ x.Ok ∧ Pure G H Q (fun G' v => PlanAt a K G' v x)
theorem upd_swap {H : Hp} {x fl : Addr} {o1 o2 o3 : HO} (ne : fl ≠ x) : upd (upd (upd H x o1) fl o2) x o3 = upd (upd H fl o2) x o3 := by
  funext b
  unfold upd
  by_cases h : b = x
  · rw [if_pos h, if_pos h]
  · rw [if_neg h, if_neg h, if_neg h]
theorem stepT_len {s : LStep} : (stepT s).length ≤ 5 := by
  unfold stepT
  simp only [List.length_append, List.length_cons, List.length_nil]
  have h1 : (labT s.lab).length ≤ 2 := by cases s.lab <;> simp [labT]
  have h2 : (tgtT s.tgt).length ≤ 1 := by cases s.tgt <;> simp [tgtT]
  omega
theorem flat_stepT : ∀ l : List LStep, (l.flatMap stepT).length ≤ 5 * l.length
  | [] => by simp
  | s :: r => by
    have := flat_stepT r
    have h := stepT_len (s := s)
    rw [List.flatMap_cons, List.length_append, List.length_cons]
    omega
theorem planT_len {x : Pl} {l1 l2 : List LStep} (h : x.shelf.length ≤ 12) (h1 : l1.length ≤ 20) (h2 : l2.length ≤ 20) : (planT x l1 l2).length ≤ 1000 := by
  have a1 := flat_stepT l1
  have a2 := flat_stepT l2
  unfold planT robotT
  simp only [List.length_append, List.length_cons, List.length_nil, List.length_map]
  omega
section
variable {P : Program} {w : World} {K : PySem.W.Frag} {mg : Str → Option Value} {base : Heap} {a : Ad}
theorem ok_Parser_init (T : Txt K mg a) : FnOk P w K mg base CX0 1 a.f_Parser_init a.d_Parser_init ["self", "tokens"] (spParInit a.C_Parser) := by
  refine T.F_Parser_init.ok sc_Parser_init (fun vs H Q E h => ?_) (fun cdv A outer s H vs Q E hr h => ?_)
  · obtain ⟨⟨x, dx, tk, rfl, _⟩⟩ := h
    rfl
  · obtain ⟨⟨x, dx, tk, rfl, hx, k⟩⟩ := h
    refine ⟨_, (pss_cons (ps_fld (pv 0) (pv 1) rfl)
      (pss_cons (ps_fld (pv 0) pe_int rfl)
      (pss_one (ps_fld (pv 0) (pe_lst pa_nil) rfl)))), ?_⟩
    refine ⟨_, rfl, _, rfl, x, _, dx, _, rfl, hx, T.cl_Parser, T.n_Parser_tokens, by decide, ?_⟩
    refine ⟨_, rfl, x, _, dx, _, rfl, upd_same, T.cl_Parser, T.n_Parser_at, lf1, ?_⟩
    rw [upd_upd]
    refine ⟨Nat.zero_le _, fun fl hfl => ?_⟩
    have ne : fl ≠ x := fun e => by rw [e, upd_same] at hfl; cases hfl
    rw [upd_ne ne] at hfl
    refine ⟨_, rfl, x, _, dx, _, rfl, by rw [upd_ne ne.symm, upd_same], T.cl_Parser, T.n_Parser_faults, lf2, ?_⟩
    rw [upd_swap ne]
    have e : putF "faults" (V.ref fl) (putF "at" (V.int 0) (putF "tokens" (V.ref tk) [])) = parF tk fl 0 := by
      show putF "faults" (V.ref fl) (putF "at" (V.int 0) [("tokens", V.ref tk)]) = _
      rw [putF_new (fs := [("tokens", V.ref tk)]) (show ("at" : Str) ∉ (["tokens"] : List Str) by decide +kernel)]
      show putF "faults" (V.ref fl) [("tokens", V.ref tk), ("at", V.int 0)] = _
      rw [putF_new (fs := [("tokens", V.ref tk), ("at", V.int 0)]) (show ("faults" : Str) ∉ (["tokens", "at"] : List Str) by decide +kernel)]
      rfl
    rw [e]
    exact k fl hfl
theorem ok_Parser_parse_plan (T : Txt K mg a) : FnOk P w K mg base CX0 5 a.f_Parser_parse_plan a.d_Parser_parse_plan ["self"] (spPPlan a K) := by
  refine T.F_Parser_parse_plan.ok sc_Parser_parse_plan (fun vs H Q E h => ?_) (fun cdv A outer s H vs Q E hr h => ?_)
  · obtain ⟨⟨p, G, x, l1, l2, rfl, _⟩⟩ := h
    rfl
  · obtain ⟨⟨p, G, x, l1, l2, rfl, hs, hP, hx, o1, o2, k⟩⟩ := h
    refine ⟨_, (pss_cons (ps_set (i := 1) sc_Parser_parse_plan.nd rfl (Or.inl rfl) (pe_meth0 (pv 0) T.cl_Parser T.M_Parser_parse_shelf (ok_Parser_parse_shelf T) (hr.mono (by decide)) (b_Parser_parse_shelf T) .nil pass0))
      (pss_cons (ps_set (i := 2) sc_Parser_parse_plan.nd rfl (Or.inl rfl) (pe_meth (pv 0) T.cl_Parser T.M_Parser_parse_robot (ok_Parser_parse_robot T) (hr.mono (by decide)) (b_Parser_parse_robot T) .nil pass0 (pa_cons (pe_callB call_len_seq (by rfl) T.z_len (by decide +kernel) (pa_cons (pv 1) pa_nil)) (pa_cons (pe_tup pa_nil) pa_nil))))
      (pss_cons (ps_set (i := 3) sc_Parser_parse_plan.nd rfl (Or.inl rfl) (pe_meth (pv 0) T.cl_Parser T.M_Parser_parse_robot (ok_Parser_parse_robot T) (hr.mono (by decide)) (b_Parser_parse_robot T) .nil pass0 (pa_cons (pe_callB call_len_seq (by rfl) T.z_len (by decide +kernel) (pa_cons (pv 1) pa_nil)) (pa_cons (pe_tup (pa_cons (pe_fld (pv 2) rfl) pa_nil)) pa_nil))))
      (pss_cons (ps_if (pt_cmpR op_ne (pe_fld (pe_meth0 (pv 0) T.cl_Parser T.M_Parser_peek (ok_Parser_peek T) (hr.mono (by decide)) (b_Parser_peek T) .nil pass0) rfl) (pe_glob (v := V.str (Str.ofString "end")) rfl T.c_END ⟨_, rfl⟩) (nomark _)) pss_never pss_nil)
      (pss_cons (ps_if (pt_cmpR (op_neD hr.units) (pe_fld (pv 0) rfl) (pe_lst pa_nil) (nomark _)) pss_never pss_nil)
      (pss_one (ps_ret (pe_make T.mk_Plan (ok_Plan_init T) (hr.mono (by decide)) (by rfl) T.m_Plan (b_Plan_init T) .nil pass0 (pa_cons (pv 1) (pa_cons (pe_lst (pa_cons (pv 2) (pa_cons (pv 3) pa_nil))) pa_nil)))))))))), ?_⟩
    obtain ⟨dx, ta, fl, h1⟩ := hP.some
    have c12 := hx.c12
    have e0 : (planT x l1 l2 ++ [⟨.fin, []⟩] : List Tk).drop 0 = kwT "shelf" :: (x.shelf.map numT ++ (sgT 59 :: (robotT x.a l1 ++ (robotT x.b l2 ++ [⟨.fin, []⟩])))) := by unfold planT; simp
    refine ⟨_, rfl, p, dx, _, rfl, h1, (by kernel_rfl), ⟨⟨p, G, 0, _, x.shelf, _, rfl, hs, hP, e0, hx.c3, hx.c12, hx.b3, fun G1 H1 u M1 P1 hu => ?_⟩⟩⟩
    obtain ⟨dx1, ta1, fl1, h11⟩ := P1.some
    have d1 : (planT x l1 l2 ++ [⟨.fin, []⟩] : List Tk).drop (0 + x.shelf.length + 2) = robotT x.a l1 ++ (robotT x.b l2 ++ [⟨.fin, []⟩]) := by
      have e : (planT x l1 l2 ++ [⟨.fin, []⟩] : List Tk) = (kwT "shelf" :: (x.shelf.map numT ++ [sgT 59])) ++ (robotT x.a l1 ++ (robotT x.b l2 ++ [⟨.fin, []⟩])) := by unfold planT; simp
      have l : 0 + x.shelf.length + 2 = (kwT "shelf" :: (x.shelf.map numT ++ [sgT 59])).length := by simp
      rw [e, l, List.drop_left]
    refine ⟨_, rfl, p, dx1, _, rfl, h11, (by kernel_rfl), _, rfl, u, _, rfl, .inr (Same.seqT M1.s hu), (by show 0 ≤ sizeLine; decide), fun t0 ht0 => ?_⟩
    have M2 := M1.new ht0 (.tup [])
    have P2 := P1.new (o := .tup []) M1.s ht0
    have el : (x.shelf.map fun n : Nat => V.int n).length = x.shelf.length := List.length_map ..
    refine ⟨⟨p, t0, _, _, _, x.shelf.length, x.a, [], l1, x.p, _, by rw [el]; rfl, M2.s, P2, SqT.of upd_same, d1, hx.ha, by omega, by simp, o1, fun G3 H3 v3 m3 P3 hr3 => ?_⟩⟩
    have M3 := M2.trans m3
    have hu3 : SqT K G3 u _ := Same.seqT ((same_new (M1.freeG ht0)).trans m3.g) hu
    obtain ⟨r3, dr3, sl3, nl3, rfl, hr3', hD3⟩ := id hr3
    obtain ⟨dx3, ta3, fl3, h13⟩ := P3.some
    refine ⟨_, rfl, p, dx3, _, rfl, h13, (by kernel_rfl), _, rfl, u, _, rfl, .inr (Same.seqT M3.s hu3), _, rfl, r3, _, dr3, _, .int x.a, rfl, M3.s _ _ hr3', T.cl_Robot, T.n_Robot_start, (by kernel_rfl), (by show 1 ≤ sizeLine; decide), fun t1 ht1 => ?_⟩
    have M4 := M3.new ht1 (.tup [.int x.a])
    have P4 := P3.new (o := .tup [.int x.a]) M3.s ht1
    have d2 : (planT x l1 l2 ++ [⟨.fin, []⟩] : List Tk).drop (0 + x.shelf.length + 2 + (robotT x.a l1).length) = robotT x.b l2 ++ [⟨.fin, []⟩] := by
      rw [← List.drop_drop, d1, List.drop_left]
    refine ⟨⟨p, t1, _, _, _, x.shelf.length, x.b, [x.a], l2, x.q, _, by rw [el]; rfl, M4.s, P4, SqT.of upd_same, d2, hx.hb, by omega, by simp [hx.ne.symm], o2, fun G5 H5 v5 m5 P5 hr5 => ?_⟩⟩
    have M5 := M4.trans m5
    have g5 := (same_new (o := .tup [.int x.a]) (M3.freeG ht1)).trans m5.g
    have d3 : (planT x l1 l2 ++ [⟨.fin, []⟩] : List Tk).drop (0 + x.shelf.length + 2 + (robotT x.a l1).length + (robotT x.b l2).length) = [⟨.fin, []⟩] := by
      rw [← List.drop_drop, d2, List.drop_left]
    obtain ⟨dx5, ta5, fl5, vs5, h15, _, _, _, hf5⟩ := id P5
    -- END
    refine ⟨_, rfl, p, dx5, _, rfl, h15, (by kernel_rfl), peek_go M5.s P5 (drop_at d3).1 fun v hv => ?_⟩
    obtain ⟨q, dq, lq, cq, rfl, hq⟩ := id hv
    refine ⟨q, _, dq, _, .str (kS .fin), rfl, M5.s _ _ hq, T.cl_Token, T.n_Token_kind, (by kernel_rfl), rfl, _, rfl, ite_f (by decide +kernel) ?_⟩
    -- no faults
    refine ⟨_, rfl, p, _, dx5, _, .ref fl5, rfl, h15, T.cl_Parser, T.n_Parser_faults, (by kernel_rfl), Nat.zero_le _, fun e1 he1 => ?_⟩
    have M6 := M5.lay he1 (.lst [])
    refine ⟨.list [], .list [], .lst (SqL.of (M6.s _ _ hf5)) .nil, .lst (SqL.of upd_same) .nil, by decide, by decide, _, rfl, ite_f (by decide) ?_⟩
    refine ⟨_, rfl, _, rfl, _, rfl, (by show 2 ≤ sizeLine; decide), fun rl hrl => ?_⟩
    have M7 := M6.new hrl (.lst [.ref r3, v5])
    intro y dy ny nd ne
    refine init_go2 rfl ⟨rfl, ?_⟩
    have M8 := M7.make ny nd ne (.ins a.C_Plan dy (planF u rl))
    have g7 := same_new (o := .lst [.ref r3, v5]) (M6.freeG hrl)
    have g8 := same_make (M7.freeG ny) (M7.freeG nd) ne (.ins a.C_Plan dy (planF u rl))
    refine k _ _ _ M8 ⟨y, dy, u, rl, _, _, rfl, upd_same, Same.seqT ((g5.trans g7).trans g8) hu3, g8.seq (SqL.of upd_same), hr3.mono ((g5.trans g7).trans g8), hr5.mono (g7.trans g8)⟩
theorem ok_load (T : Txt K mg a) : FnOk P w K mg base CX0 6 a.f_load a.d_load ["plan"] (spLoad a K) := by
  refine T.F_load.ok sc_load (fun vs H Q E h => ?_) (fun cdv A outer s H vs Q E hr h => ?_)
  · obtain ⟨⟨src, G, x, rfl, _⟩⟩ := h
    rfl
  · obtain ⟨⟨src, G, x, rfl, ⟨⟨l1, l2, rows, tss, e1, e2, e3, e4, e5, e6, e7, o1, o2⟩⟩, hx, hGH, k⟩⟩ := h
    refine ⟨_, (pss_one (ps_ret (pe_meth0 (pe_make T.mk_Parser (ok_Parser_init T) (hr.mono (by decide)) (by rfl) T.m_Parser (b_Parser_init T) .nil pass0 (pa_cons (pe_call (ok_tokenize T) (hr.mono (by decide)) rfl T.m_tokenize T.F_tokenize.kp (b_tokenize T) .nil pass0 (pa_cons (pv 0) pa_nil)) pa_nil)) T.cl_Parser T.M_Parser_parse_plan (ok_Parser_parse_plan T) (hr.mono (by decide)) (b_Parser_parse_plan T) .nil pass0))), ?_⟩
    have hl : tss.flatten.length ≤ 100000 := by rw [e7]; have := planT_len (x := x) hx.c12 o1.le o2.le; omega
    refine ⟨_, rfl, ⟨⟨src, G, rows, tss, rfl, e1, e2, e3, e4, e5, e6, hl, hGH, fun G1 H1 v x1 s1 h1 => ?_⟩⟩⟩
    obtain ⟨tk, vs, rfl, htk, hts⟩ := h1
    intro y dy ny nd ne
    refine ⟨⟨y, dy, tk, rfl, upd_same, fun fl hfl => ⟨rfl, ?_⟩⟩⟩
    have B1 := (Pt.start hGH).call x1 s1
    have ydy : y ≠ dy := ne.symm
    have fy : fl ≠ y := fun e => by rw [e, upd_same] at hfl; cases hfl
    have hfl2 : (upd H1 dy (.own y)) fl = none := by rw [upd_ne fy] at hfl; exact hfl
    rw [upd_swap fy]
    have B2 := (B1.new nd (.own y)).new hfl2 (.lst [])
    have ny2 : (upd (upd H1 dy (.own y)) fl (.lst [])) y = none := by rw [upd_ne fy.symm, upd_ne ydy]; exact ny
    have B3 := B2.lay ny2 (.ins a.C_Parser dy (parF tk fl 0))
    have yG := B2.freeG ny2
    have gg := (same_new (o := .own y) (B1.freeG nd)).trans (same_new (o := .lst []) ((B1.new nd (.own y)).freeG hfl2))
    refine ⟨y, dy, _, rfl, upd_same, (by kernel_rfl), ?_⟩
    rw [e7] at hts
    refine ⟨⟨y, _, x, l1, l2, rfl, B3.s, ⟨dy, tk, fl, vs, upd_same, yG, gg _ _ htk, hts.mono gg, upd_same⟩, hx, o1, o2, fun G5 H5 v5 m5 hp5 => ?_⟩⟩
    have y0 : H y = none := B2.free ny2
    refine k _ _ _ (B3.ext.trans m5.ext) (fun b o e => ?_) hp5
    refine m5.sm b o ?_
    rw [wos_out (by intro hb; rw [List.mem_singleton.mp hb, y0] at e; cases e)]
    exact B3.sm b o e
end
end Sb

namespace Sb
open PySem PySem.Spec PyProof.Rows L2 TL
/-! ### the canonical text loads -/
theorem headNot_cons {S : List Nat} {c : Nat} {r : List Nat} (h : c ∉ S) : HeadNot S (c :: r) := fun d r' e => by injection e with e1 e2; rw [← e1]; exact h
theorem headNot_nil {S : List Nat} : HeadNot S [] := fun _ _ e => nomatch e
theorem no_let32 : 32 ∉ tl letS := by rw [mem_let]; omega
theorem no_let59 : 59 ∉ tl letS := by rw [mem_let]; omega
theorem no_let58 : 58 ∉ tl letS := by rw [mem_let]; omega
theorem no_dig32 : 32 ∉ tl digS := by rw [mem_dig]; omega
theorem no_dig59 : 59 ∉ tl digS := by rw [mem_dig]; omega
theorem kw_let : ∀ t ∈ kwL, ∀ c ∈ t, c ∈ tl letS := by decide +kernel
theorem kw_len : ∀ t ∈ kwL, 3 ≤ t.length := by decide +kernel
theorem lx_kw {s : Str} {r : List Nat} {ts : List Tk} (hs : s ∈ kwS) (hr : HeadNot (tl letS) r) (h : Lx r ts) : Lx (tl s ++ r) (kwT s :: ts) :=
  .tok (.kw (kw_let _ (mem_tl.mp hs)) (mem_tl.mp hs) hr) h
theorem lx_num {n : Nat} {r : List Nat} {ts : List Tk} (hn : n < 100) (hr : HeadNot (tl digS) r) (h : Lx r ts) : Lx (numL n ++ r) (numT n :: ts) := by
  refine .tok (.num (numL_ne n) (fun c hc => ?_) (num_len hn) (fun h1 => ?_) hr) h
  · by_cases h48 : 48 ≤ c ∧ c ≤ 57
    · exact mem_dig.mpr h48
    · exact absurd hc (numL_free (by omega))
  · by_cases h10 : n < 10
    · rw [numL_lt h10] at h1
      exact absurd h1 (by simp)
    · rw [numL_step (by omega), numL_lt (by omega)]
      show some (48 + n / 10) ≠ some 48
      intro e
      injection e with e
      omega
theorem lx_sg {c : Nat} {r : List Nat} {ts : List Tk} (hc : c ∈ tl sgnS) (h : Lx r ts) : Lx (c :: r) (sgT c :: ts) := .tok (.sign hc) h
theorem lx_nm {t r : List Nat} {ts : List Tk} (h1 : ∀ c ∈ t, c ∈ tl letS) (h2 : 1 ≤ t.length) (h3 : t.length ≤ 8) (h4 : t ∉ kwL) (hr : HeadNot (tl letS) r) (h : Lx r ts) : Lx (t ++ r) (nmT t :: ts) := .tok (.nm h1 h2 h3 h4 hr) h
theorem lx_lab {k : Nat} {r : List Nat} {ts : List Tk} (hk : k < 20) (hr : HeadNot (tl letS) r) (h : Lx r ts) : Lx (115 :: (97 + k) :: r) (nmT [115, 97 + k] :: ts) := by
  refine lx_nm (t := [115, 97 + k]) (fun c hc => ?_) (by decide +revert) (by decide +revert) (fun z => ?_) hr h
  · rcases List.mem_cons.mp hc with rfl | hc
    · rw [mem_let]; omega
    · rw [List.mem_singleton.mp hc, mem_let]; omega
  · have := kw_len _ z
    simp at this
theorem sg59 : 59 ∈ tl sgnS := by rw [mem_sgn]; omega
theorem sg58 : 58 ∈ tl sgnS := by rw [mem_sgn]; omega
theorem sg123 : 123 ∈ tl sgnS := by rw [mem_sgn]; omega
theorem sg125 : 125 ∈ tl sgnS := by rw [mem_sgn]; omega
theorem lx_nums : ∀ (l : List Nat), l ≠ [] → (∀ n ∈ l, n < 100) → Lx (joinL [32] (l.map numL) ++ [59]) (l.map numT ++ [sgT 59])
  | [], h, _ => absurd rfl h
  | [n], _, h => lx_num (h n (by simp)) (headNot_cons no_dig59) (lx_sg sg59 .nil)
  | n :: m :: r, _, h => by
    have ih := lx_nums (m :: r) (by simp) (fun x hx => h x (by simp only [List.mem_cons] at hx ⊢; exact .inr hx))
    show Lx ((numL n ++ ([32] ++ joinL [32] ((m :: r).map numL))) ++ [59]) _
    rw [List.append_assoc, List.append_assoc]
    exact lx_num (h n (by simp)) (headNot_cons no_dig32) (.sp ih)
theorem shelf_kw : Str.ofString "shelf" ∈ kwS := by decide +kernel
theorem robot_kw : Str.ofString "robot" ∈ kwS := by decide +kernel
theorem w_kw : ∀ {w : Nat}, w < 8 → wS w ∈ kwS := by
  have h : ∀ w : _root_.Fin 8, wS w.val ∈ kwS := by decide +kernel
  exact fun {w} hw => h ⟨w, hw⟩
theorem lx_shelf {l : List Nat} (h : l ≠ []) (hl : ∀ n ∈ l, n ≤ 3) : Lx (shelfL l) (kwT "shelf" :: (l.map numT ++ [sgT 59])) := by
  have e : shelfL l = tl (Str.ofString "shelf") ++ (32 :: (joinL [32] (l.map numL) ++ [59])) := by
    have e1 : tl (Str.ofString "shelf") = [115, 104, 101, 108, 102] := by decide +kernel
    rw [e1]
    unfold shelfL
    simp
  rw [e]
  exact lx_kw shelf_kw (headNot_cons no_let32) (.sp (lx_nums l h (fun n hn => by have := hl n hn; omega)))
theorem lx_robot {n : Nat} (h : n < 100) : Lx ([114, 111, 98, 111, 116, 32] ++ numL n ++ [32, 123]) [kwT "robot", numT n, sgT 123] := by
  have e : [114, 111, 98, 111, 116, 32] ++ numL n ++ [32, 123] = tl (Str.ofString "robot") ++ (32 :: (numL n ++ [32, 123])) := by
    have e1 : tl (Str.ofString "robot") = [114, 111, 98, 111, 116] := by decide +kernel
    rw [e1]
    simp
  rw [e]
  exact lx_kw robot_kw (headNot_cons no_let32) (.sp (lx_num h (headNot_cons no_dig32) (.sp (lx_sg sg123 .nil))))
def canL (gs : List Nat) (k : Nat) (s : Step) : LStep := ⟨if k ∈ gs then some [115, 97 + k] else none, s.w, s.g.map fun g => [115, 97 + g]⟩
def cans (gs : List Nat) (k : Nat) : List Step → List LStep
  | [] => []
  | s :: r => canL gs k s :: cans gs (k + 1) r
theorem lx_step {gs : List Nat} {k n : Nat} {s : Step} (hk : k < 20) (hn : n ≤ 20) (h : Step.Ok n s) : Lx (stepL gs k s) (stepT (canL gs k s)) := by
  have tail : Lx ((match s.g with | none => [] | some g => [32, 115, 97 + g]) ++ [59]) (tgtT (s.g.map fun g => [115, 97 + g]) ++ [sgT 59]) ∧ HeadNot (tl letS) ((match s.g with | none => [] | some g => [32, 115, 97 + g]) ++ [59]) := by
    cases hg : s.g with
    | none => exact ⟨lx_sg sg59 .nil, headNot_cons no_let59⟩
    | some g =>
      have hgn : g < 20 := by
        have h5 : 5 ≤ s.w := by
          by_cases h5 : s.w < 5
          · rw [h.no h5] at hg; cases hg
          · omega
        obtain ⟨k2, e2, h2⟩ := h.yes h5
        rw [hg] at e2
        cases e2
        omega
      exact ⟨.sp (lx_lab hgn (headNot_cons no_let59) (lx_sg sg59 .nil)), headNot_cons no_let32⟩
  have word : Lx (wL s.w ++ ((match s.g with | none => [] | some g => [32, 115, 97 + g]) ++ [59])) (kwT (wS s.w) :: (tgtT (s.g.map fun g => [115, 97 + g]) ++ [sgT 59])) := lx_kw (w_kw h.w8) tail.2 tail.1
  have e : stepL gs k s = 32 :: 32 :: ((if k ∈ gs then [115, 97 + k, 58, 32] else []) ++ (wL s.w ++ ((match s.g with | none => [] | some g => [32, 115, 97 + g]) ++ [59]))) := by
    unfold stepL
    cases s.g <;> simp
  rw [e]
  unfold stepT canL
  refine .sp (.sp ?_)
  by_cases hm : k ∈ gs
  · rw [if_pos hm, if_pos hm]
    exact lx_lab hk (headNot_cons no_let58) (lx_sg sg58 (.sp word))
  · rw [if_neg hm, if_neg hm]
    exact word
theorem lx_steps {gs : List Nat} {n : Nat} (hn : n ≤ 20) : ∀ (k : Nat) (ss : List Step), k + ss.length ≤ 20 → (∀ s ∈ ss, Step.Ok n s) → Paired Lx (stepsL gs k ss) ((cans gs k ss).map stepT)
  | _, [], _, _ => .nil
  | k, s :: r, h, ho => .cons (lx_step (by simp at h; omega) hn (ho s (by simp))) (lx_steps hn (k + 1) r (by simp at h; omega) (fun s hs => ho s (by simp [hs])))
theorem cans_len (gs : List Nat) : ∀ (k : Nat) (ss : List Step), (cans gs k ss).length = ss.length
  | _, [] => rfl
  | k, s :: r => congrArg (· + 1) (cans_len gs (k + 1) r)
theorem cans_at (gs : List Nat) : ∀ (k : Nat) (ss : List Step) (i : Nat), (cans gs k ss)[i]? = (ss[i]?).map (canL gs (k + i))
  | _, [], i => by simp [cans]
  | k, s :: r, 0 => rfl
  | k, s :: r, i + 1 => by
    show (cans gs (k + 1) r)[i]? = _
    rw [cans_at gs (k + 1) r i]
    have e : k + 1 + i = k + (i + 1) := by omega
    rw [e]
    rfl
theorem paired_of {α β : Type} {F : α → β → Prop} : ∀ {l : List α} {m : List β}, l.length = m.length → (∀ (i : Nat) (x : α) (y : β), l[i]? = some x → m[i]? = some y → F x y) → Paired F l m
  | [], [], _, _ => .nil
  | [], _ :: _, h, _ => nomatch h
  | _ :: _, [], h, _ => nomatch h
  | x :: l, y :: m, h, f => .cons (f 0 x y rfl rfl) (paired_of (by simpa using h) (fun i a b h1 h2 => f (i + 1) a b (by simpa using h1) (by simpa using h2)))
theorem labs_at (gs : List Nat) (ss : List Step) (i : Nat) : (labsOf (cans gs 0 ss))[i]? = (ss[i]?).map fun _ => if i ∈ gs then some [115, 97 + i] else none := by
  unfold labsOf
  rw [List.getElem?_map, cans_at]
  cases ss[i]? with
  | none => rfl
  | some s => show some (canL gs (0 + i) s).lab = _; rw [Nat.zero_add]; rfl
theorem cans_ok {ss : List Step} (h : StepsOk ss) : LOk (cans (goalsOf ss) 0 ss) ss := by
  refine ⟨by rw [cans_len]; exact h.pos, by rw [cans_len]; exact h.le, ?_, ?_, ?_⟩
  · intro s hs
    obtain ⟨i, hi⟩ := List.getElem?_of_mem hs
    rw [cans_at] at hi
    cases e : ss[i]? with
    | none => rw [e] at hi; cases hi
    | some s0 =>
      rw [e] at hi
      have es : canL (goalsOf ss) (0 + i) s0 = s := Option.some.inj hi
      subst es
      have ok := h.all s0 (List.mem_of_getElem? e)
      refine ⟨ok.w8, fun h5 => ?_, fun h5 => ?_, fun z => ?_⟩
      · show s0.g.map _ = none
        rw [ok.no h5]; rfl
      · obtain ⟨k, hk, _⟩ := ok.yes h5
        exact ⟨[115, 97 + k], by show s0.g.map _ = _; rw [hk]; rfl⟩
      · have z' : (if 0 + i ∈ goalsOf ss then some [115, 97 + (0 + i)] else none) = some [125] := z
        split at z'
        · injection z' with z'
          injection z' with z1 z2
          exact absurd z1 (by decide)
        · cases z'
  · intro i s t hi ht hm
    obtain ⟨m, hm⟩ := List.getElem?_of_mem hm
    unfold labsOf at hm
    rw [List.getElem?_map, List.getElem?_take] at hm
    by_cases hmi : m < i
    · rw [if_pos hmi, cans_at] at hm
      rw [cans_at] at hi
      cases e : ss[i]? with
      | none => rw [e] at hi; cases hi
      | some s0 =>
        rw [e] at hi
        have es : canL (goalsOf ss) (0 + i) s0 = s := Option.some.inj hi
        subst es
        cases e2 : ss[m]? with
        | none => rw [e2] at hm; cases hm
        | some s1 =>
          rw [e2] at hm
          have em : (canL (goalsOf ss) (0 + m) s1).lab = some t := Option.some.inj hm
          have h1 : (if 0 + i ∈ goalsOf ss then some [115, 97 + (0 + i)] else none) = some t := ht
          have h2 : (if 0 + m ∈ goalsOf ss then some [115, 97 + (0 + m)] else none) = some t := em
          split at h1
          · split at h2
            · rw [← h1] at h2
              injection h2 with h2
              injection h2 with _ h2
              injection h2 with h2 _
              omega
            · cases h2
          · cases h1
    · rw [if_neg hmi] at hm; cases hm
  · refine paired_of (cans_len _ _ _) fun i x y hx hy => ?_
    rw [cans_at, hy] at hx
    have es : canL (goalsOf ss) (0 + i) y = x := Option.some.inj hx
    subst es
    have ok := h.all y (List.mem_of_getElem? hy)
    refine ⟨rfl, fun hn => ?_, fun t ht => ?_⟩
    · have hn' : y.g.map (fun g => [115, 97 + g]) = none := hn
      cases hg : y.g with
      | none => rfl
      | some g => rw [hg] at hn'; cases hn'
    · have ht' : y.g.map (fun g => [115, 97 + g]) = some t := ht
      cases hg : y.g with
      | none => rw [hg] at ht'; cases ht'
      | some g =>
        rw [hg] at ht'
        have et : [115, 97 + g] = t := Option.some.inj ht'
        subst et
        have hgm : g ∈ goalsOf ss := List.mem_filterMap.mpr ⟨y, List.mem_of_getElem? hy, hg⟩
        have hgl : g < ss.length := by
          have h5 : 5 ≤ y.w := by
            by_cases h5 : y.w < 5
            · rw [ok.no h5] at hg; cases hg
            · omega
          obtain ⟨k2, e2, h2⟩ := ok.yes h5
          rw [hg] at e2
          cases e2
          exact h2
        refine ⟨g, rfl, ?_, fun m hm e => ?_⟩
        · rw [labs_at, List.getElem?_eq_getElem hgl]
          show some (if g ∈ goalsOf ss then _ else _) = _
          rw [if_pos hgm]
        · rw [labs_at] at e
          cases e2 : ss[m]? with
          | none => rw [e2] at e; cases e
          | some s1 =>
            rw [e2] at e
            have e3 : (if m ∈ goalsOf ss then some [115, 97 + m] else none) = some [115, 97 + g] := Option.some.inj e
            split at e3
            · injection e3 with e3
              injection e3 with _ e3
              injection e3 with e3 _
              omega
            · cases e3
theorem robot_lx {n : Nat} {ss : List Step} (hn : n < 100) (h : StepsOk ss) : ∃ tss, Paired Lx (robotL n ss) tss ∧ tss.flatten = robotT n (cans (goalsOf ss) 0 ss) := by
  refine ⟨[kwT "robot", numT n, sgT 123] :: ((cans (goalsOf ss) 0 ss).map stepT ++ [[sgT 125]]), .cons (lx_robot hn) (Paired.snoc (lx_steps h.le 0 ss (by have := h.le; omega) h.all) (lx_sg sg125 .nil)), ?_⟩
  unfold robotT
  simp [List.flatMap_def]
theorem no10_steps {gs : List Nat} {n : Nat} : ∀ (k : Nat) (ss : List Step), (∀ s ∈ ss, Step.Ok n s) → ∀ p ∈ stepsL gs k ss, 10 ∉ p
  | _, [], _, p, hp => nomatch hp
  | k, s :: r, ho, p, hp => by
    rcases List.mem_cons.mp hp with rfl | hp
    · have hw : ∀ w : _root_.Fin 8, 10 ∉ wL w.val := by decide +kernel
      have h1 := hw ⟨s.w, (ho s (by simp)).w8⟩
      unfold stepL
      intro hm
      simp only [List.mem_append] at hm
      rcases hm with (((hm | hm) | hm) | hm) | hm
      · simp at hm
      · split at hm
        · simp at hm; omega
        · cases hm
      · exact h1 hm
      · split at hm
        · cases hm
        · simp at hm; omega
      · simp at hm
    · exact no10_steps (k + 1) r (fun s hs => ho s (by simp [hs])) p hp
theorem no10_robot {n : Nat} {ss : List Step} (h : StepsOk ss) : ∀ p ∈ robotL n ss, 10 ∉ p := by
  intro p hp
  rcases List.mem_cons.mp hp with rfl | hp
  · intro hm
    simp only [List.mem_append] at hm
    rcases hm with (hm | hm) | hm
    · simp at hm
    · exact numL_free (by omega) hm
    · simp at hm
  · rcases List.mem_append.mp hp with hp | hp
    · exact no10_steps 0 ss h.all p hp
    · rw [List.mem_singleton.mp hp]; decide
theorem no10_join : ∀ (l : List Nat), 10 ∉ joinL [32] (l.map numL)
  | [] => by simp [joinL]
  | [n] => numL_free (by omega)
  | n :: m :: r => by
    have ih := no10_join (m :: r)
    show 10 ∉ (numL n ++ ([32] ++ joinL [32] ((m :: r).map numL)))
    simp only [List.mem_append, not_or]
    exact ⟨numL_free (by omega), by decide, ih⟩
theorem no10_shelf (l : List Nat) : 10 ∉ shelfL l := by
  unfold shelfL
  simp only [List.mem_append, not_or]
  exact ⟨⟨by decide, no10_join l⟩, by decide⟩
theorem loads_text {x : Pl} (h : x.Ok) : Loads (textS x) x := by
  have hne : x.shelf ≠ [] := fun e => by have := h.c3; rw [e] at this; exact absurd this (by decide)
  have c12 := h.c12
  obtain ⟨t1, p1, e1⟩ := robot_lx (n := x.a) (by have := h.ha; omega) h.p
  obtain ⟨t2, p2, e2⟩ := robot_lx (n := x.b) (by have := h.hb; omega) h.q
  refine ⟨⟨_, _, linesL x, (kwT "shelf" :: (x.shelf.map numT ++ [sgT 59])) :: (t1 ++ t2), rfl, by unfold linesL; simp, ?_, fun r hr => ?_, ?_, .cons (lx_shelf hne h.b3) (Paired.app p1 p2), ?_, cans_ok h.p, cans_ok h.q⟩⟩
  · intro r hr
    rcases List.mem_cons.mp hr with rfl | hr
    · exact no10_shelf _
    · rcases List.mem_append.mp hr with hr | hr
      · exact no10_robot h.p r hr
      · exact no10_robot h.q r hr
  · have := lines_len h r hr; omega
  · have := textL_len h
    show (textL x).length ≤ _
    omega
  · rw [List.flatten_cons, List.flatten_append, e1, e2]
    unfold planT
    simp
end Sb

namespace Sb
open PySem PySem.Spec PyProof.Rows L2 TL
/-! ### equal data are told equal -/
mutual
def okD : PyData → Bool
  | .none | .bool _ | .int _ | .str _ => true
  | .list xs | .tuple xs => decide (xs.length ≤ 1000000) && okAll xs
  | .dict _ => false
def okAll : List PyData → Bool
  | [] => true
  | x :: xs => okD x && okAll xs
end
theorem okAll_at : ∀ {xs : List PyData} {i : Nat} {d : PyData}, okAll xs = true → xs[i]? = some d → okD d = true
  | [], _, _, _, e => by simp at e
  | x :: xs, 0, d, h, e => by
    simp at e; subst e
    have h' : (okD x && okAll xs) = true := h
    rw [Bool.and_eq_true] at h'
    exact h'.1
  | x :: xs, i + 1, d, h, e => by
    have h' : (okD x && okAll xs) = true := h
    rw [Bool.and_eq_true] at h'
    exact okAll_at (i := i) h'.2 (by simpa using e)
theorem depthAll_at : ∀ {xs : List PyData} {i : Nat} {d : PyData}, xs[i]? = some d → d.depth ≤ PyData.depthAll xs
  | [], _, _, e => by simp at e
  | x :: xs, 0, d, e => by
    simp at e; subst e
    show x.depth ≤ max x.depth (PyData.depthAll xs)
    omega
  | x :: xs, i + 1, d, e => by
    have := depthAll_at (xs := xs) (i := i) (d := d) (by simpa using e)
    show d.depth ≤ max x.depth (PyData.depthAll xs)
    omega
theorem SqL.ty {K : PySem.W.Frag} {H : Hp} {p : Addr} {xs : List V} (h : SqL K H p xs) : TyX K H (.ref p) (.type "list") := by
  rcases h with (h | ⟨o, h⟩) | ⟨o, its, n, h1, h2, _⟩
  · exact .base (.lst h)
  · exact .base (.frz h)
  · exact .kList h1 h2
theorem SqT.ty {K : PySem.W.Frag} {H : Hp} {p : Addr} {xs : List V} (h : SqT K H p xs) : TyX K H (.ref p) (.type "tuple") := by
  rcases h with (h | ⟨o, h⟩) | ⟨o, its, n, h1, h2, _⟩
  · exact .base (.tup h)
  · exact .fTuple h
  · exact .kTuple h1 h2
structure spEqual (K : PySem.W.Frag) (n : Nat) (vs : List V) (H : Hp) (Q : VK) (E : XK) : Prop where
  ex : ∃ (v u : V) (d : PyData), vs = [v, u] ∧ Dp K H v d ∧ Dp K H u d ∧ d.depth ≤ n ∧ okD d = true ∧ ∀ H', Same H H' → Q (.bl true) H'
theorem kf {K : PySem.W.Frag} {x y : String} {b : Bool} (h : kitB x y = some b) : PySem.W.kitOne K (.type x) (.type y) = some b := kit_ty h
section
variable {P : Program} {w : World} {K : PySem.W.Frag} {mg : Str → Option Value} {base : Heap} {a : Ad}
end
end Sb

namespace Sb
open PySem PySem.Spec PyProof.Rows L2
/-! ### enumerate(tuple) -/
theorem meets_enumerate_new1 {v : Value} {o : Obj} {H : Heap → Prop} (B : Begins v o H) :
    Meets (Builtin.«enumerate.__new__» ⟨[.type "enumerate", v], []⟩) (fun _ R s => H s.heap ∧
      R (.ok (.ret (.ref (s.heap.push o).objs.size))) { s with heap := (s.heap.push o).push { cls := .type "enumerate", data := .fields #[.none, .bool false, .ref s.heap.objs.size, rawInt 0, .none, .none] } }) :=
  .of_wp fun prog w A R s h => by
    obtain ⟨hp, g, d, tk, os⟩ := s; obtain ⟨h1, h⟩ := h
    have hsub := sub_enumerate
    have q1 : ∀ {A' : Around} {E : Value → Shared → Prop} {Q : Value → Shared → Prop}, Q (.ref hp.objs.size) ⟨hp.push o, g, d, tk, os⟩ → wpAny (model prog w) A' (pyIter v) Q E ⟨hp, g, d, tk, os⟩ :=
      fun q => B.iter prog w _ _ ⟨hp, g, d, tk, os⟩ _ h1 q
    wp_walk using q1
    refine wpAny_stack_any fun st => wpAny_pure ?_
    split
    · rename_i c _ _ _ _ _
      cases (c == Value.type "enumerate")
      · wp_walk using q1
        exact ⟨_, rfl, h⟩
      · wp_walk using q1
        exact ⟨_, rfl, h⟩
    · wp_walk using q1
      exact ⟨_, rfl, h⟩
section
variable {prog : Program} {w : World} {A : Around} {E : Value → Shared → Prop} {s : Shared}
theorem enum_begins1 {v : Value} {o : Obj} {H : Heap → Prop} {Q : Value → Shared → Prop} (B : Begins v o H) (h1 : H s.heap)
    (h : ∀ h', IsEnum h' (s.heap.objs.size + 1) s.heap.objs.size 0 .none → h'.get? s.heap.objs.size = some o → h'.objs.size = s.heap.objs.size + 2 →
      (∀ b o, s.heap.get? b = some o → h'.get? b = some o) → Q (.ref (s.heap.objs.size + 1)) { s with heap := h' }) :
    wpAny (model prog w) A (call (.type "enumerate") [v]) Q E s := by
  refine callType_new F.called_enumerate (by decide) (F.typeCall_enumerate_1 _) (F.newCall_enumerate_1 _) (fun obj => F.args_object_init_2 obj _) F.entry_enumerate_new
    (meets_enumerate_new1 B) ⟨h1, ?_⟩
  have hz : (s.heap.push o).objs.size = s.heap.objs.size + 1 := Heap.size_push ..
  show _ ∧ _
  rw [hz]
  have he : IsEnum ((s.heap.push o).push { cls := .type "enumerate", data := .fields #[.none, .bool false, .ref s.heap.objs.size, rawInt 0, .none, .none] }) (s.heap.objs.size + 1) s.heap.objs.size 0 .none := by
    have := Heap.get?_push_size (s.heap.push o) (o := { cls := .type "enumerate", data := .fields #[.none, .bool false, .ref s.heap.objs.size, rawInt 0, .none, .none] }) rfl
    rw [hz] at this; exact this
  refine ⟨⟨_, he, rfl⟩, h _ he (Heap.get?_push_of_some _ (Heap.get?_push_size _ B.free)) (by rw [Heap.size_push, hz]) fun b o x => Heap.get?_push_of_some _ (Heap.get?_push_of_some _ x)⟩
end
def IteT (K : PySem.W.Frag) (a : Addr) : It :=
  ⟨fun i H => ∃ (xs : List V) (x : V), SqT K H a xs ∧ xs[i]? = some x, fun i H v H' => ∃ T x, v = .ref T ∧ H T = none ∧ H' = upd H T (.tup [.int (i : Nat), x]) ∧ ∀ xs, SqT K H a xs → xs[i]? = some x, fun i H => ∃ xs : List V, SqT K H a xs ∧ xs.length = i⟩
theorem turn_enumT {P : Program} {w : World} {K : PySem.W.Frag} {elts : List Expr} {kk : Nat} {tpos : Pos} (a e it : Addr) :
    Turn P w K (.Tuple elts kk tpos) (IteT K a) [e, it] e (fun i h => (∃ old, IsEnum h e it ((i : Nat) : Int) old) ∧ h.IsTupleIter it a i ∧ e ≠ it) where
  mem := by simp
  obj := fun i h st b hb => by
    obtain ⟨⟨old, he⟩, ⟨o, ho, hc, hd⟩, _⟩ := st
    have e' : b = e ∨ b = it := by simpa using hb
    rcases e' with z | z
    · rw [z]; exact ⟨_, he, fun v q => nomatch q⟩
    · rw [z]; exact ⟨o, ho, fun v q => by rw [hd] at q; cases q⟩
  keep := fun i h h' st k => let ⟨⟨old, he⟩, hi, hne⟩ := st; ⟨⟨old, k e (by simp) _ he⟩, hi.at fun o q => k it (by simp) o q, hne⟩
  item := by
    intro X hP hw hK hc i pins s σ H E I hf st hg
    subst hP hw hK
    obtain ⟨⟨old, he⟩, hit, hne⟩ := st
    obtain ⟨xs, x, hq, hx⟩ := hg
    obtain ⟨its, rv, p, hz⟩ := I.tuple hq
    obtain ⟨u, hu, ru⟩ := rv.get hx
    have hel : e < s.heap.objs.size := Heap.lt_size he
    have hil : it < s.heap.objs.size := by obtain ⟨_, q, _⟩ := id hit; exact Heap.lt_size q
    have pt : s.heap.IsTuple a its.toArray := p
    have hai : a ≠ it := fun z => by
      obtain ⟨o, q1, q2, _⟩ := id hit
      obtain ⟨o', p1, p2, _⟩ := id pt
      rw [z, q1] at p1
      cases p1
      rw [q2] at p2
      injection p2 with p2
      exact absurd p2 (by decide)
    have hea : e ≠ a := fun z => by
      obtain ⟨o', p1, p2, _⟩ := id pt
      rw [← z, he] at p1
      cases p1
      have p3 : (Value.type "enumerate") = .type "tuple" := p2
      injection p3 with p3
      exact absurd p3 (by decide)
    have hi : i < its.toArray.size := by
      have := (List.getElem?_eq_some_iff.mp hu).1
      simpa using this
    have D := Draws.tuple (prog := X.prog) (w := X.w) (A := X.A.in1) (I.ok.hd hc) it a hai its.toArray
    refine wpAny_pyNext_enum_itemD D he ⟨hit, pt⟩ hi hne (by simp [hne, hea]) fun x' h' tk hPx ho hst' hT hsz hk => ?_
    have hxu : x' = u := by
      have h1 : its.toArray[i]? = some x' := hPx
      rw [List.getElem?_toArray, hu] at h1
      exact (Option.some.inj h1).symm
    subst hxu
    obtain ⟨hit', pt'⟩ := hst'
    refine ⟨_, rfl, wpAny_letOwnedTupleGo_enum (s := { s with heap := h', toks := tk + 1 }) ho fun h'' he' sb => ?_⟩
    have hT2 : h''.get? s.heap.objs.size = some { cls := .type "tuple", data := .seq #[.int i tk, x'] } := (sb.2 _ (Nat.ne_of_gt hel)).trans hT
    have new : ObjOk X.prog X.w (upd H s.heap.objs.size (.tup [.int (i : Nat), x])) h'' s.heap.objs.size (.tup [.int (i : Nat), x]) :=
      ⟨by show 2 ≤ sizeLine; decide, [.int i tk, x'], .cons ⟨_, rfl⟩ (.cons ru .nil), ⟨_, hT2, rfl, _, rfl⟩⟩
    have I1 : Inv X pins σ (upd H s.heap.objs.size (.tup [.int (i : Nat), x])) { s with heap := h'', toks := tk + 1 } :=
      I.turnedNew (ch := [e, it]) (fun b ob hb q => (sb.2 b (fun z => hb (by simp [z]))).trans (hk b ob (fun z => hb (by simp [z])) (fun z => hb (by simp [z])) q)) hf (Nat.le_refl _) new
    refine ⟨.ref s.heap.objs.size, _, I1, rfl, ⟨_, x, rfl, I.hok.fresh (Nat.le_refl _), rfl, fun ys hy => by rw [I.tuple_inj hy hq]; exact hx⟩, ⟨⟨x', ?_⟩, hit'.at fun o q => (sb.2 it (Ne.symm hne)).trans q, hne⟩, fun b hb => ?_⟩
    · have e1 : ((i + 1 : Nat) : Int) = (i : Int) + 1 := by omega
      rw [e1]; exact he'
    · have hb' : b < s.heap.objs.size := by
        have e' : b = e ∨ b = it := by simpa using hb
        rcases e' with z | z
        · rw [z]; exact hel
        · rw [z]; exact hil
      rw [upd_ne (Nat.ne_of_lt hb')]
      exact (hf b hb).1
  done := by
    intro X hP hw hK hc i pins s σ H E I hf st hg
    subst hP hw hK
    obtain ⟨⟨old, he⟩, hit, hne⟩ := st
    obtain ⟨xs, hq, hx⟩ := hg
    obtain ⟨its, rv, p, hz⟩ := I.tuple hq
    obtain ⟨f0, f1, f2, f3, f4, f5⟩ := hf it (by simp)
    have hl := rv.length
    have pt : s.heap.IsTuple a its.toArray := p
    have hai : a ≠ it := fun z => by
      obtain ⟨o, q1, q2, _⟩ := id hit
      obtain ⟨o', p1, p2, _⟩ := id pt
      rw [z, q1] at p1
      cases p1
      rw [q2] at p2
      injection p2 with p2
      exact absurd p2 (by decide)
    have D := Draws.tuple (prog := X.prog) (w := X.w) (A := X.A.in1) (I.ok.hd hc) it a hai its.toArray
    have ei : i = its.toArray.size := by simp; omega
    refine wpAny_pyNext_enum_endD D he ⟨by rw [← ei]; exact hit, pt⟩ fun h' eb => ⟨rfl, I.turned (t' := s.toks) (fun b o hb q => eb b o hb q) f0 f1 f3 f4 f5⟩
  self := fun A i s Q E st h => let ⟨⟨_, he⟩, _⟩ := st; wpAny_pyIter_enum he h
def iEnumT (K : PySem.W.Frag) (ta : TA) : TI := fun σ H R => ta σ H fun vs H1 => ∃ a xs, vs = [.ref a] ∧ SqT K H1 a xs ∧ R (IteT K a) H1
theorem pi_enumT {X : Cx} {e : Expr} {ta : TA} {p pos tpos : Pos} {elts : List Expr} {kk : Nat} (hg : Gl X "enumerate") (hm : X.mg "enumerate" = none) (ha : PA X [e] ta) (hs : starEach [e] X.env = [(false, eval e X.env)] := by rfl) :
    PI X (.Tuple elts kk tpos) (.Call (.Name "enumerate" p) [e] [] pos) (iEnumT X.K ta) := by
  refine ⟨fun pins s σ H R I h => ?_⟩
  refine Call_ (ld_blt I hg hm boot_enumerate (PyProof.Rows.callWith_type1 (thn (ha.run pos pins s σ H _ I h) fun us s1 ⟨vs, H1, I1, r1, q1⟩ => ?_) hs rfl))
  obtain ⟨a, xs, ex, hq, q⟩ := q1
  subst ex
  cases r1 with
  | cons r rr =>
    cases rr
    cases r
    obtain ⟨its, rv, p', hz⟩ := I1.tuple hq
    refine enum_begins1 (begins_tuple a its.toArray) p' fun h' he hit hsz hk => wpAny_pyIter_enum he ?_
    have I2 : Inv X pins σ H1 { s1 with heap := h' } := I1.kept (t' := s1.toks) hk
    refine ⟨s1.heap.objs.size + 1, [s1.heap.objs.size + 1, s1.heap.objs.size], _, _, H1, rfl, I2, turn_enumT a (s1.heap.objs.size + 1) s1.heap.objs.size, ⟨⟨.none, he⟩, ⟨_, hit, rfl, rfl⟩, Nat.succ_ne_self _⟩, fun b hb => ?_, q⟩
    have e' : b = s1.heap.objs.size + 1 ∨ b = s1.heap.objs.size := by simpa using hb
    have hle : s1.heap.objs.size ≤ b := by
      rcases e' with z | z
      · rw [z]; exact Nat.le_add_right _ _
      · rw [z]; exact Nat.le_refl _
    exact I1.fpOk hle (I1.hok.fresh hle)
/-- a comprehension over enumerate(tuple) -/
theorem lc_enumT {K : PySem.W.Frag} {a : Addr} {xs : List V} {g : TG} {tt : TT} {te : TE} {vs : List Nat} {σ : L2.St} {H1 : Hp} {D : Addr} {Qd : Hp → Prop} (Pv : Nat → Hp → Prop) (h0 : Pv 0 (upd H1 D (.lst []))) (hl : ∀ i H, i ≤ xs.length → Pv i H → SqT K H a xs)
    (hs : ∀ i x H T, xs[i]? = some x → Pv i H → H T = none → g (.ref T) (wipe σ vs) (upd H T (.tup [.int (i : Nat), x])) fun σ2 H2 => wipe σ2 vs = wipe σ vs ∧ tt σ2 H2 fun b H3 =>
      if b = true then te σ2 H3 fun y H4 => ∃ acc, H4 D = some (.lst acc) ∧ acc.length < sizeLine ∧ Pv (i + 1) (upd H4 D (.lst (acc ++ [y]))) else Pv (i + 1) H3) (hd : ∀ H, Pv xs.length H → Qd H) :
    ∃ W : Nat → Nat → Hp → Prop, (∃ m, W 0 m (upd H1 D (.lst []))) ∧ ∀ i m H, W i m H →
      ((IteT K a).stop i H ∧ Qd H) ∨ ((IteT K a).go i H ∧ ∃ Nx : Hp → Prop, (∀ H', Nx H' → ∃ m', m' < m ∧ W (i + 1) m' H') ∧ ∀ x H', (IteT K a).yld i H x H' → g x (wipe σ vs) H' fun σ2 H2 => wipe σ2 vs = wipe σ vs ∧ tt σ2 H2 fun b H3 =>
        if b = true then te σ2 H3 fun y H4 => ∃ acc, H4 D = some (.lst acc) ∧ acc.length < sizeLine ∧ Nx (upd H4 D (.lst (acc ++ [y]))) else Nx H3) := by
  refine ⟨fun i m H => m = xs.length - i ∧ i ≤ xs.length ∧ Pv i H, ⟨xs.length, by simp, Nat.zero_le _, h0⟩, ?_⟩
  rintro i m H ⟨rfl, hi, p⟩
  have q := hl i H hi p
  by_cases hlt : i < xs.length
  · refine .inr ⟨⟨xs, xs[i], q, by simp [hlt]⟩, Pv (i + 1), fun H' p' => ⟨xs.length - (i + 1), by omega, rfl, hlt, p'⟩, fun x H' y => ?_⟩
    obtain ⟨T, z, rfl, hT, rfl, y⟩ := y
    exact hs i z H T (y xs q) p hT
  · have e : i = xs.length := by omega
    subst e
    exact .inl ⟨⟨xs, q, rfl⟩, hd H p⟩
end Sb

namespace Sb
open PySem PySem.Spec PyProof.Rows L2 TL
structure spIsInt (K : PySem.W.Frag) (vs : List V) (H : Hp) (Q : VK) (E : XK) : Prop where
  ex : ∃ (v : V) (lo hi : Int), vs = [v, .int lo, .int hi] ∧ ((∃ i, v = .int i ∧ Q (.bl (decide (lo ≤ i ∧ i ≤ hi))) H) ∨ (∃ b, v = .bl b ∧ Q (.bl false) H) ∨ (∃ n, TyX K H v (.type n) ∧ PySem.W.kitOne K (.type n) (.type "int") = some false ∧ Q (.bl false) H))
section
variable {P : Program} {w : World} {K : PySem.W.Frag} {mg : Str → Option Value} {base : Heap} {a : Ad}
theorem ok_is_int_in (T : Txt K mg a) : FnOk P w K mg base CX0 1 a.f_is_int_in a.d_is_int_in ["value", "low", "high"] (spIsInt K) := by
  refine T.F_is_int_in.ok sc_is_int_in (fun vs H Q E h => ?_) (fun cdv A outer s H vs Q E hr h => ?_)
  · obtain ⟨⟨v, lo, hi, rfl, _⟩⟩ := h
    rfl
  · obtain ⟨⟨v, lo, hi, rfl, h⟩⟩ := h
    refine ⟨_, (pss_one (ps_ret (pe_and (pe_callB call_isi (by rfl) T.z_isinstance (by decide +kernel) (pa_cons (pv 0) (pa_cons (pe_bltn (v := .ty "int") (by rfl) T.z_int (by decide +kernel) rfl) pa_nil))) (pe_and (pe_not (pe_callB call_isi (by rfl) T.z_isinstance (by decide +kernel) (pa_cons (pv 0) (pa_cons (pe_bltn (v := .ty "bool") (by rfl) T.z_bool (by decide +kernel) rfl) pa_nil)))) (pe_one (pe_chain op_le op_le (pv 1) (pv 0) (pv 2))))))), ?_⟩
    rcases h with ⟨i, rfl, q⟩ | ⟨b, rfl, q⟩ | ⟨n, ty, kt, q⟩
    · refine ⟨_, rfl, _, _, _, _, true, rfl, .ty "int", .base (.int i), kit_ty (by decide +kernel), _, rfl, iteT ?_⟩
      refine ⟨_, rfl, _, _, _, _, false, rfl, .ty "bool", .base (.int i), kit_ty (by decide +kernel), _, rfl, _, rfl, ?_⟩
      refine ⟨_, rfl, _, rfl, _, _, rfl, rfl, _, rfl, ?_⟩
      refine ite2 (fun c => ?_) (fun c => ?_)
      · have c1 : lo ≤ i := of_decide_eq_true c
        refine ⟨_, rfl, _, _, rfl, rfl, ?_⟩
        have e : decide (i ≤ hi) = decide (lo ≤ i ∧ i ≤ hi) := by simp [c1]
        dsimp only
        rw [e]
        exact q
      · have c1 : ¬ lo ≤ i := fun z => c (decide_eq_true z)
        have e : decide (lo ≤ i ∧ i ≤ hi) = false := by simp [c1]
        rw [e] at q
        exact q
    · refine ⟨_, rfl, _, _, _, _, true, rfl, .ty "int", .base (.bl b), kit_ty (by decide +kernel), _, rfl, iteT ?_⟩
      exact ⟨_, rfl, _, _, _, _, true, rfl, .ty "bool", .base (.bl b), kit_ty (by decide +kernel), _, rfl, _, rfl, q⟩
    · exact ⟨_, rfl, _, _, _, _, false, rfl, .ty "int", ty, kt, _, rfl, q⟩
theorem isint_go {i lo hi : Int} {H : Hp} {Q : VK} {E : XK} (h1 : lo ≤ i) (h2 : i ≤ hi) (q : Q (.bl true) H) : spIsInt K [.int i, .int lo, .int hi] H Q E :=
  ⟨⟨.int i, lo, hi, rfl, .inl ⟨i, rfl, by rw [decide_eq_true ⟨h1, h2⟩]; exact q⟩⟩⟩
end
end Sb

namespace Sb
open PySem PySem.Spec PyProof.Rows L2 TL
section
variable {K : PySem.W.Frag} {G0 H0 G H : Hp}
theorem catA_pt {t u : Addr} {xs ys : List V} {Q : VK} (pt : Pt G0 H0 G H) (ha : SqT K G t xs) (hb : SqT K G u ys) (hz : xs.length + ys.length ≤ sizeLine)
    (k : ∀ (q : Addr) (G' H' : Hp), Pt G0 H0 G' H' → Same G G' → SqT K G' q (xs ++ ys) → Q (.ref q) H') : rCatA K (.ref t) (.ref u) H Q := by
  refine ⟨t, u, xs, ys, rfl, rfl, Same.seqT pt.s ha, Same.seqT pt.s hb, hz, fun e => ?_, fun _ e => ?_, fun _ _ p hp => ?_⟩
  · subst e
    exact k u G H pt (Same.refl G) hb
  · subst e
    exact k t G H pt (Same.refl G) (by rw [List.append_nil]; exact ha)
  · exact k p _ _ (pt.new hp _) (same_new (pt.freeG hp)) (SqT.of upd_same)
theorem slA_pt {t : Addr} {xs : List V} {lo hi : Option Int} {Q : VK} (pt : Pt G0 H0 G H) (ha : SqT K G t xs)
    (k : ∀ (q : Addr) (G' H' : Hp), Pt G0 H0 G' H' → Same G G' → SqT K G' q (cutV xs lo hi) → Q (.ref q) H') : rSlA K (.ref t) lo hi H Q := by
  refine ⟨t, xs, rfl, Same.seqT pt.s ha, fun e => ?_, fun _ p hp => ?_⟩
  · refine k t G H pt (Same.refl G) ?_
    unfold cutV
    rw [e.1, e.2, List.drop_zero, Nat.sub_zero, List.take_length]
    exact ha
  · exact k p _ _ (pt.new hp _) (same_new (pt.freeG hp)) (SqT.of upd_same)
end
theorem cut_hi {xs : List V} {i : Nat} (h : i < xs.length) : cutV xs none (some (i : Int)) = xs.take i := by
  unfold cutV
  rw [HT.sIx_none, HT.sIx_nat, List.drop_zero, Nat.sub_zero, Nat.min_eq_left (by omega)]
theorem cut_lo {xs : List V} {i : Nat} (h : i < xs.length) : cutV xs (some ((i : Int) + 1)) none = xs.drop (i + 1) := by
  unfold cutV
  rw [show ((i : Int) + 1) = ((i + 1 : Nat) : Int) by omega, HT.sIx_none, HT.sIx_nat, Nat.min_eq_left (by omega)]
  exact List.take_of_length_le (by rw [List.length_drop]; omega)
structure spReplaced (K : PySem.W.Frag) (vs : List V) (H : Hp) (Q : VK) (E : XK) : Prop where
  ex : ∃ (G : Hp) (t : Addr) (xs : List V) (i : Nat) (v : V), vs = [.ref t, .int i, v] ∧ SqT K G t xs ∧ i < xs.length ∧ xs.length ≤ 1000 ∧ Pure G H Q fun G' u => ∃ r, u = .ref r ∧ SqT K G' r (xs.set i v)
theorem replaced_go {K : PySem.W.Frag} {G0 H0 G H : Hp} {t : Addr} {xs : List V} {i : Nat} {v : V} {Q : VK} {E : XK} (pt : Pt G0 H0 G H) (ha : SqT K G t xs) (hi : i < xs.length) (hl : xs.length ≤ 1000)
    (k : ∀ (r : Addr) (G' H' : Hp), Pt G0 H0 G' H' → Same G G' → SqT K G' r (xs.set i v) → Q (.ref r) H') : spReplaced K [.ref t, .int i, v] H Q E :=
  ⟨⟨G, t, xs, i, v, rfl, ha, hi, hl, pt.s, fun G' H' u e s ⟨r, hu, hr⟩ => by subst hu; exact k r G' H' (pt.call e s) e.g hr⟩⟩
def stF (c n b e : Addr) : List (Str × V) := [("cells", .ref c), ("nexts", .ref n), ("holds", .ref b), ("shelf", .ref e)]
def StateAt (a : Ad) (K : PySem.W.Frag) (G : Hp) (v : V) (s : Sit) : Prop := ∃ (r dx c n b e : Addr), v = .ref r ∧ G r = some (.ins a.C_State dx (stF c n b e)) ∧ SqT K G c (nV s.cs) ∧ SqT K G n (nV s.ns) ∧ SqT K G b (bV s.hs) ∧ SqT K G e (nV s.sh)
theorem StateAt.mono {a : Ad} {K : PySem.W.Frag} {G G' : Hp} {v : V} {s : Sit} (m : Same G G') (h : StateAt a K G v s) : StateAt a K G' v s := by
  obtain ⟨r, dx, c, n, b, e, h0, h1, h2, h3, h4, h5⟩ := h
  exact ⟨r, dx, c, n, b, e, h0, m _ _ h1, Same.seqT m h2, Same.seqT m h3, Same.seqT m h4, Same.seqT m h5⟩
def tkF (w : Addr) (v : V) : List (Str × V) := [("words", .ref w), ("state", v)]
def TickAt (a : Ad) (K : PySem.W.Frag) (G : Hp) (v : V) (w : Nat × Nat) (s : Sit) : Prop := ∃ (r dx t : Addr) (u : V), v = .ref r ∧ G r = some (.ins a.C_Tick dx (tkF t u)) ∧ SqT K G t [.str (doS w.1), .str (doS w.2)] ∧ StateAt a K G u s
theorem TickAt.mono {a : Ad} {K : PySem.W.Frag} {G G' : Hp} {v : V} {w : Nat × Nat} {s : Sit} (m : Same G G') (h : TickAt a K G v w s) : TickAt a K G' v w s := by
  obtain ⟨r, dx, t, u, h0, h1, h2, h3⟩ := h
  exact ⟨r, dx, t, u, h0, m _ _ h1, Same.seqT m h2, h3.mono m⟩
structure spKey (a : Ad) (K : PySem.W.Frag) (vs : List V) (H : Hp) (Q : VK) (E : XK) : Prop where
  ex : ∃ (G : Hp) (v : V) (s : Sit), vs = [v] ∧ StateAt a K G v s ∧ Pure G H Q fun G' u => ∃ p, u = .ref p ∧ Dp K G' (.ref p) (sitT s)
structure spFirst (a : Ad) (K : PySem.W.Frag) (vs : List V) (H : Hp) (Q : VK) (E : XK) : Prop where
  ex : ∃ (G : Hp) (v : V) (x : Pl), vs = [v] ∧ PlanAt a K G v x ∧ Pure G H Q fun G' u => StateAt a K G' u (sit0 x)
section
variable {P : Program} {w : World} {K : PySem.W.Frag} {mg : Str → Option Value} {base : Heap} {a : Ad}
theorem ok_replaced (T : Txt K mg a) : FnOk P w K mg base CX0 1 a.f_replaced a.d_replaced ["values", "place", "value"] (spReplaced K) := by
  refine T.F_replaced.ok sc_replaced (fun vs H Q E h => ?_) (fun cdv A outer s H vs Q E hr h => ?_)
  · obtain ⟨⟨G, t, xs, i, v, rfl, _⟩⟩ := h
    rfl
  · obtain ⟨⟨G, t, xs, i, v, rfl, ht, hi, hl, hGH, k⟩⟩ := h
    refine ⟨_, (pss_one (ps_ret (pe_op op_catA (pe_op op_catA (pe_slice sl_tupA (pv 0) po_none (po_some (pv 1))) (pe_tup (pa_cons (pv 2) pa_nil))) (pe_slice sl_tupA (pv 0) (po_some (pe_op op_add (pv 1) pe_int)) po_none)))), ?_⟩
    refine ⟨_, rfl, _, rfl, _, rfl, slA_pt (Pt.start hGH) ht fun p1 G1 H1 B1 S1 h1 => ?_⟩
    rw [cut_hi hi] at h1
    refine ⟨_, rfl, (by show 1 ≤ sizeLine; decide), fun p2 hp2 => ?_⟩
    have B2 := B1.new hp2 (.tup [v])
    have S2 := same_new (o := .tup [v]) (B1.freeG hp2)
    refine catA_pt B2 (Same.seqT S2 h1) (SqT.of upd_same) (small 2000 (by rw [List.length_take, List.length_singleton]; omega) (by decide)) fun p3 G3 H3 B3 S3 h3 => ?_
    refine ⟨_, rfl, _, rfl, _, _, rfl, rfl, _, rfl, ?_⟩
    dsimp only [tNoPart]
    refine slA_pt (K := K) B3 (Same.seqT ((S1.trans S2).trans S3) ht) fun p4 G4 H4 B4 S4 h4 => ?_
    rw [cut_lo hi] at h4
    refine catA_pt B4 (Same.seqT S4 h3) h4 (small 2000 (by rw [List.length_append, List.length_take, List.length_singleton, List.length_drop]; omega) (by decide)) fun p5 G5 H5 B5 S5 h5 => ?_
    refine k _ _ _ B5.ext B5.sm ⟨p5, rfl, ?_⟩
    rw [List.set_eq_take_append_cons_drop, if_pos hi]
    rw [List.append_assoc] at h5
    exact h5
theorem ok_State_init (T : Txt K mg a) : FnOk P w K mg base CX0 1 a.f_State_init a.d_State_init ["self", "cells", "nexts", "holds", "shelf"] (spInit a.C_State ["cells", "nexts", "holds", "shelf"]) := by
  refine T.F_State_init.ok sc_State_init (fun vs H Q E h => ?_) (fun cdv A outer s H vs Q E hr h => ?_)
  · obtain ⟨⟨x, dx, us, rfl, hl, _⟩⟩ := h
    exact congrArg (· + 1) hl
  · obtain ⟨⟨x, dx, us, rfl, hl, hx, k⟩⟩ := h
    match us, hl with
    | [u1, u2, u3, u4], _ =>
      refine ⟨_, (pss_cons (ps_fld (pv 0) (pv 1) rfl)
      (pss_cons (ps_fld (pv 0) (pv 2) rfl)
      (pss_cons (ps_fld (pv 0) (pv 3) rfl)
      (pss_one (ps_fld (pv 0) (pv 4) rfl))))), ?_⟩
      refine ⟨_, rfl, _, rfl, x, _, dx, _, rfl, hx, T.cl_State, T.n_State_cells, by decide, ?_⟩
      refine ⟨_, rfl, _, rfl, x, _, dx, _, rfl, upd_same, T.cl_State, T.n_State_nexts, lf1, ?_⟩
      refine ⟨_, rfl, _, rfl, x, _, dx, _, rfl, upd_same, T.cl_State, T.n_State_holds, lf2, ?_⟩
      refine ⟨_, rfl, _, rfl, x, _, dx, _, rfl, upd_same, T.cl_State, T.n_State_shelf, lf3, ?_⟩
      rw [upd_upd, upd_upd, upd_upd]
      have e : putF "shelf" u4 (putF "holds" u3 (putF "nexts" u2 (putF "cells" u1 []))) = (["cells", "nexts", "holds", "shelf"] : List Str).zip [u1, u2, u3, u4] := by
        show putF "shelf" u4 (putF "holds" u3 (putF "nexts" u2 [("cells", u1)])) = _
        rw [putF_new (fs := [("cells", u1)]) (show ("nexts" : Str) ∉ (["cells"] : List Str) by decide +kernel)]
        show putF "shelf" u4 (putF "holds" u3 [("cells", u1), ("nexts", u2)]) = _
        rw [putF_new (fs := [("cells", u1), ("nexts", u2)]) (show ("holds" : Str) ∉ (["cells", "nexts"] : List Str) by decide +kernel)]
        show putF "shelf" u4 [("cells", u1), ("nexts", u2), ("holds", u3)] = _
        rw [putF_new (fs := [("cells", u1), ("nexts", u2), ("holds", u3)]) (show ("shelf" : Str) ∉ (["cells", "nexts", "holds"] : List Str) by decide +kernel)]
        rfl
      rw [e]
      exact k
theorem ok_Tick_init (T : Txt K mg a) : FnOk P w K mg base CX0 1 a.f_Tick_init a.d_Tick_init ["self", "words", "state"] (spInit a.C_Tick ["words", "state"]) := by
  refine T.F_Tick_init.ok sc_Tick_init (fun vs H Q E h => ?_) (fun cdv A outer s H vs Q E hr h => ?_)
  · obtain ⟨⟨x, dx, us, rfl, hl, _⟩⟩ := h
    exact congrArg (· + 1) hl
  · obtain ⟨⟨x, dx, us, rfl, hl, hx, k⟩⟩ := h
    match us, hl with
    | [u1, u2], _ =>
      refine ⟨_, (pss_cons (ps_fld (pv 0) (pv 1) rfl)
      (pss_one (ps_fld (pv 0) (pv 2) rfl))), ?_⟩
      refine ⟨_, rfl, _, rfl, x, _, dx, _, rfl, hx, T.cl_Tick, T.n_Tick_words, by decide, ?_⟩
      refine ⟨_, rfl, _, rfl, x, _, dx, _, rfl, upd_same, T.cl_Tick, T.n_Tick_state, lf1, ?_⟩
      rw [upd_upd]
      have e : putF "state" u2 (putF "words" u1 []) = (["words", "state"] : List Str).zip [u1, u2] := by
        show putF "state" u2 [("words", u1)] = _
        rw [putF_new (fs := [("words", u1)]) (show ("state" : Str) ∉ (["words"] : List Str) by decide +kernel)]
        rfl
      rw [e]
      exact k
theorem ok_State_key (T : Txt K mg a) : FnOk P w K mg base CX0 1 a.f_State_key a.d_State_key ["self"] (spKey a K) := by
  refine T.F_State_key.ok sc_State_key (fun vs H Q E h => ?_) (fun cdv A outer s H vs Q E hr h => ?_)
  · obtain ⟨⟨G, v, s, rfl, _⟩⟩ := h
    rfl
  · obtain ⟨⟨G, v, s, rfl, ⟨r, dx, c, n, b, e, rfl, h1, h2, h3, h4, h5⟩, hGH, k⟩⟩ := h
    refine ⟨_, (pss_one (ps_ret (pe_tup (pa_cons (pe_fld (pv 0) rfl) (pa_cons (pe_fld (pv 0) rfl) (pa_cons (pe_fld (pv 0) rfl) (pa_cons (pe_fld (pv 0) rfl) pa_nil))))))), ?_⟩
    have h1' := hGH _ _ h1
    refine ⟨_, rfl, r, _, dx, _, .ref c, rfl, h1', T.cl_State, T.n_State_cells, (by kernel_rfl), _, rfl, r, _, dx, _, .ref n, rfl, h1', T.cl_State, T.n_State_nexts, (by kernel_rfl), _, rfl, r, _, dx, _, .ref b, rfl, h1', T.cl_State, T.n_State_holds, (by kernel_rfl), _, rfl, r, _, dx, _, .ref e, rfl, h1', T.cl_State, T.n_State_shelf, (by kernel_rfl), (by show 4 ≤ sizeLine; decide), fun p hp => ?_⟩
    have B1 := (Pt.start hGH).new hp (.tup [.ref c, .ref n, .ref b, .ref e])
    have S1 := same_new (o := .tup [.ref c, .ref n, .ref b, .ref e]) (Same.free hGH hp)
    exact k _ _ _ B1.ext B1.sm ⟨p, rfl, .tup (SqT.of upd_same) (.cons (.tup (Same.seqT S1 h2) (nats_D' _)) (.cons (.tup (Same.seqT S1 h3) (nats_D' _)) (.cons (.tup (Same.seqT S1 h4) (bools_D _)) (.cons (.tup (Same.seqT S1 h5) (nats_D' _)) .nil))))⟩
theorem ok_first_state (T : Txt K mg a) : FnOk P w K mg base CX0 3 a.f_first_state a.d_first_state ["parsed"] (spFirst a K) := by
  refine T.F_first_state.ok sc_first_state (fun vs H Q E h => ?_) (fun cdv A outer s H vs Q E hr h => ?_)
  · obtain ⟨⟨G, v, x, rfl, _⟩⟩ := h
    rfl
  · obtain ⟨⟨G, v, x, rfl, ⟨r, dx, sh, rl, r1, r2, rfl, h1, h2, h3, h4, h5⟩, hGH, k⟩⟩ := h
    refine ⟨_, (pss_one (ps_ret (pe_make T.mk_State (ok_State_init T) (hr.mono (by decide)) (by rfl) T.m_State (b_State_init T) .nil pass0 (pa_cons (pe_callTy call_tuple_of (by rfl) T.z_tuple (by decide +kernel) (pa_cons (pe_lc (own := [("robot", 1)]) (g := gName 1) (te := (tFld K (tVar 1) "start")) (tt := tYes) rfl sc_first_state.nd (pi_list (pe_fld (pv 0) rfl)) (blkOk_by (own := [("robot", 1)]) (N := ["parsed", "robot"]) (sc := (defScope s_first_state)) (by decide +kernel)) (fun _ _ _ _ _ => (pg_name (i := 1) sc_first_state.nd rfl (Or.inl rfl))) (fun _ _ _ _ _ => pts_nil) (fun _ _ _ _ _ => by exact (pe_fld (pv 1) rfl))) pa_nil)) (pa_cons (pe_tup (pa_cons pe_int (pa_cons pe_int pa_nil))) (pa_cons (pe_tup (pa_cons pe_bl (pa_cons pe_bl pa_nil))) (pa_cons (pe_fld (pv 0) rfl) pa_nil))))))), ?_⟩
    obtain ⟨q1, dq1, sl1, nl1, rfl, hq1, _⟩ := h4
    obtain ⟨q2, dq2, sl2, nl2, rfl, hq2, _⟩ := h5
    refine ⟨_, rfl, r, _, dx, _, .ref rl, rfl, hGH _ _ h1, T.cl_Plan, T.n_Plan_robots, (by kernel_rfl), rl, rfl, ⟨_, hGH.seq h3⟩, fun D hD => ?_⟩
    refine lc_list (K := K) (a := rl) (xs := [.ref q1, .ref q2]) (fun j H' => Pt G H G H' ∧ H' D = some (.lst (([.int x.a, .int x.b] : List V).take j)))
      ⟨(Pt.start hGH).lay hD _, upd_same⟩ (fun j H' _ ⟨p1, _⟩ => (hGH.trans p1.sm).seq h3) ?_ ?_
    · rintro j y H' hy ⟨p1, hD'⟩
      match j, hy with
      | 0, hy =>
        cases hy
        refine ⟨rfl, _, rfl, q1, _, dq1, _, .int x.a, rfl, p1.sm _ _ (hGH _ _ hq1), T.cl_Robot, T.n_Robot_start, (by kernel_rfl), ?_⟩
        exact ⟨_, hD', smaller 2 (by simp) (by decide), p1.put hD (Same.free hGH hD) _, upd_same⟩
      | 1, hy =>
        cases hy
        refine ⟨rfl, _, rfl, q2, _, dq2, _, .int x.b, rfl, p1.sm _ _ (hGH _ _ hq2), T.cl_Robot, T.n_Robot_start, (by kernel_rfl), ?_⟩
        exact ⟨_, hD', smaller 2 (by simp) (by decide), p1.put hD (Same.free hGH hD) _, upd_same⟩
      | j + 2, hy => simp at hy
    rintro H1 ⟨p1, hD1⟩
    refine ⟨D, _, rfl, .inl ⟨SqL.of hD1, fun tc htc => ?_⟩⟩
    have B1 := p1.new htc (.tup [.int x.a, .int x.b])
    refine ⟨(by show 2 ≤ sizeLine; decide), fun tn htn => ?_⟩
    have B2 := B1.new htn (.tup [.int 0, .int 0])
    refine ⟨(by show 2 ≤ sizeLine; decide), fun tb htb => ?_⟩
    have B3 := B2.new htb (.tup [.bl false, .bl false])
    refine ⟨_, rfl, r, _, dx, _, .ref sh, rfl, (B3.g.trans B3.s) _ _ h1, T.cl_Plan, T.n_Plan_shelf, (by kernel_rfl), ?_⟩
    intro y dy ny nd ne
    refine init_go2 rfl ⟨rfl, ?_⟩
    have B4 := B3.make ny nd ne (.ins a.C_State dy (stF tc tn tb sh))
    have g1 := same_new (o := .tup [.int x.a, .int x.b]) (p1.freeG htc)
    have g2 := same_new (o := .tup [.int 0, .int 0]) (B1.freeG htn)
    have g3 := same_new (o := .tup [.bl false, .bl false]) (B2.freeG htb)
    have g4 := same_make (B3.freeG ny) (B3.freeG nd) ne (.ins a.C_State dy (stF tc tn tb sh))
    exact k _ _ _ B4.ext B4.sm ⟨y, dy, tc, tn, tb, sh, rfl, upd_same, Same.seqT ((g2.trans g3).trans g4) (SqT.of upd_same), Same.seqT (g3.trans g4) (SqT.of upd_same), Same.seqT g4 (SqT.of upd_same), Same.seqT (((g1.trans g2).trans g3).trans g4) h2⟩
end
end Sb

namespace Sb
open PySem PySem.Spec PyProof.Rows L2 TL
theorem lr_mem : ∀ {w : Nat}, w < 8 → decide (wS w ∈ ([Str.ofString "left"] ++ [Str.ofString "right"] : List Str)) = decide (w < 2) := by
  have h : ∀ w : _root_.Fin 8, decide (wS w.val ∈ ([Str.ofString "left"] ++ [Str.ofString "right"] : List Str)) = decide (w.val < 2) := by decide +kernel
  exact fun {w} hw => h ⟨w, hw⟩
theorem pick_mem : ∀ {w : Nat}, w < 8 → decide (wS w ∈ [Str.ofString "pick"]) = decide (w = 2) := by
  have h : ∀ w : _root_.Fin 8, decide (wS w.val ∈ [Str.ofString "pick"]) = decide (w.val = 2) := by decide +kernel
  exact fun {w} hw => h ⟨w, hw⟩
theorem put_mem : ∀ {w : Nat}, w < 8 → decide (wS w ∈ [Str.ofString "put"]) = decide (w = 3) := by
  have h : ∀ w : _root_.Fin 8, decide (wS w.val ∈ [Str.ofString "put"]) = decide (w.val = 3) := by decide +kernel
  exact fun {w} hw => h ⟨w, hw⟩
theorem nV_flat (l : List Nat) : (nV l).all flatV = true := by
  rw [List.all_eq_true]
  intro v hv
  obtain ⟨n, _, rfl⟩ := List.mem_map.mp hv
  rfl
theorem modn (n m : Nat) : ((n : Int) + 1) % (m : Int) = (((n + 1) % m : Nat) : Int) := by
  rw [Int.natCast_emod]
  push_cast
  rfl
structure spAct (a : Ad) (K : PySem.W.Frag) (vs : List V) (H : Hp) (Q : VK) (E : XK) : Prop where
  ex : ∃ (G : Hp) (v u : V) (x : Pl) (s : Sit) (i : Nat), vs = [v, u, .int i] ∧ PlanAt a K G v x ∧ StateAt a K G u s ∧ x.Ok ∧ SitOk x s ∧ i < 2 ∧ Pure G H Q fun G' v => ∃ t u', v = .ref t ∧ SqT K G' t [.str (doS (actP x s i).1), u'] ∧ StateAt a K G' u' (actP x s i).2
structure spNext (a : Ad) (K : PySem.W.Frag) (vs : List V) (H : Hp) (Q : VK) (E : XK) : Prop where
  ex : ∃ (G : Hp) (v u : V) (x : Pl) (s : Sit), vs = [v, u] ∧ PlanAt a K G v x ∧ StateAt a K G u s ∧ x.Ok ∧ SitOk x s ∧ Pure G H Q fun G' v => TickAt a K G' v (tickP x s).1 (tickP x s).2
section
variable {P : Program} {w : World} {K : PySem.W.Frag} {mg : Str → Option Value} {base : Heap} {a : Ad}
theorem ok_act (T : Txt K mg a) : FnOk P w K mg base CX0 3 a.f_act a.d_act ["parsed", "state", "number"] (spAct a K) := by
  refine T.F_act.ok sc_act (fun vs H Q E h => ?_) (fun cdv A outer s0 H vs Q E hr h => ?_)
  · obtain ⟨⟨G, v, u, x, s, i, rfl, _⟩⟩ := h
    rfl
  · obtain ⟨⟨G, v, u, x, s, i, rfl, hp, hu, hx, ho, hi, hGH, k⟩⟩ := h
    refine ⟨_, (pss_cons (ps_set (i := 3) sc_act.nd rfl (Or.inl rfl) (pe_ix ix_list (pe_fld (pv 0) rfl) (pv 2) (fun _ _ => rfl)))
      (pss_cons (ps_set (i := 4) sc_act.nd rfl (Or.inl rfl) (pe_ix ix_tup (pe_fld (pv 1) rfl) (pv 2) (fun _ _ => rfl)))
      (pss_cons (ps_asg (pe_ix ix_list (pe_fld (pv 3) rfl) (pv 4) (fun _ _ => rfl)) (pg_tup (by rfl) (pgs_cons (pg_name (i := 5) sc_act.nd rfl (Or.inl rfl)) (pgs_cons (pg_name (i := 6) sc_act.nd rfl (Or.inl rfl)) pgs_nil))))
      (pss_cons (ps_par3 (i := 7) (j := 8) (l := 9) (by rfl) sc_act.nd rfl rfl rfl (by decide) (by decide) (by decide) rfl rfl rfl (pa_cons (pe_ix ix_tup (pe_fld (pv 1) rfl) (pv 2) (fun _ _ => rfl)) (pa_cons (pe_ix ix_tup (pe_fld (pv 1) rfl) (pv 2) (fun _ _ => rfl)) (pa_cons (pe_fld (pv 1) rfl) pa_nil))) (by rfl))
      (pss_cons (ps_matchS (pv 5) (cases_cons (pat_or pat_val pat_val) (pss_cons (ps_set (i := 10) sc_act.nd rfl (Or.inl rfl) (pe_ifExp (pt_cmpR op_eq (pv 5) pe_str (nomark _)) (pe_op op_sub (pv 7) pe_int) (pe_op op_add (pv 7) pe_int)))
      (pss_cons (ps_if (PW.pt (pw_or (pt_not (pt_chain op_le op_lt pe_int (pv 10) (pe_callB call_len_seq (by rfl) T.z_len (by decide +kernel) (pa_cons (pv 9) pa_nil)))) (pw_or1 (pt_cmpR op_in_seq (pv 10) (pe_fld (pv 1) rfl) rfl)))) (pss_one (ps_ret (pe_tup (pa_cons (pe_glob (v := V.str (Str.ofString "blocked")) rfl T.c_BLOCKED ⟨_, rfl⟩) (pa_cons (pv 1) pa_nil))))) pss_nil)
      (pss_one (ps_set (i := 7) sc_act.nd rfl (Or.inl rfl) (pv 10))))) (cases_cons pat_val (pss_cons (ps_if (PW.pt (pw_or (pt_val (pv 8)) (pw_or1 (pt_cmpR op_eq (pe_ix ix_tup (pv 9) (pv 7) (fun _ _ => rfl)) pe_int (nomark _))))) (pss_one (ps_ret (pe_tup (pa_cons (pe_glob (v := V.str (Str.ofString "blocked")) rfl T.c_BLOCKED ⟨_, rfl⟩) (pa_cons (pv 1) pa_nil))))) pss_nil)
      (pss_one (ps_par (i := 8) (j := 9) (by rfl) sc_act.nd rfl rfl (by decide) rfl rfl (pa_cons pe_bl (pa_cons (pe_call (ok_replaced T) (hr.mono (by decide)) rfl T.m_replaced T.F_replaced.kp (b_replaced T) .nil pass0 (pa_cons (pv 9) (pa_cons (pv 7) (pa_cons (pe_op op_sub (pe_ix ix_tup (pv 9) (pv 7) (fun _ _ => rfl)) pe_int) pa_nil)))) pa_nil)) (by rfl)))) (cases_cons pat_val (pss_cons (ps_if (PW.pt (pw_or (pt_not (pt_val (pv 8))) (pw_or1 (pt_cmpR op_eq (pe_ix ix_tup (pv 9) (pv 7) (fun _ _ => rfl)) (pe_glob (v := V.int 3) rfl T.c_MAX_BOXES ⟨_, rfl⟩) (nomark _))))) (pss_one (ps_ret (pe_tup (pa_cons (pe_glob (v := V.str (Str.ofString "blocked")) rfl T.c_BLOCKED ⟨_, rfl⟩) (pa_cons (pv 1) pa_nil))))) pss_nil)
      (pss_one (ps_par (i := 8) (j := 9) (by rfl) sc_act.nd rfl rfl (by decide) rfl rfl (pa_cons pe_bl (pa_cons (pe_call (ok_replaced T) (hr.mono (by decide)) rfl T.m_replaced T.F_replaced.kp (b_replaced T) .nil pass0 (pa_cons (pv 9) (pa_cons (pv 7) (pa_cons (pe_op op_add (pe_ix ix_tup (pv 9) (pv 7) (fun _ _ => rfl)) pe_int) pa_nil)))) pa_nil)) (by rfl)))) cases_nil))))
      (pss_cons (ps_set (i := 11) sc_act.nd rfl (Or.inl rfl) (pe_or (pe_cmpR op_eq (pv 5) pe_str (nomark _)) (pe_or (pe_and (pe_cmpR op_eq (pv 5) pe_str (nomark _)) (pe_one (pe_cmpR op_eq (pe_ix ix_tup (pv 9) (pv 7) (fun _ _ => rfl)) pe_int (nomark _)))) (pe_one (pe_and (pe_cmpR op_eq (pv 5) pe_str (nomark _)) (pe_one (pv 8)))))))
      (pss_cons (ps_set (i := 10) sc_act.nd rfl (Or.inl rfl) (pe_ifExp (pt_val (pv 11)) (pv 6) (pe_op op_mod (pe_op op_add (pv 4) pe_int) (pe_callB call_len_seq (by rfl) T.z_len (by decide +kernel) (pa_cons (pe_fld (pv 3) rfl) pa_nil)))))
      (pss_cons (ps_par (i := 12) (j := 13) (by rfl) sc_act.nd rfl rfl (by decide) rfl rfl (pa_cons (pe_call (ok_replaced T) (hr.mono (by decide)) rfl T.m_replaced T.F_replaced.kp (b_replaced T) .nil pass0 (pa_cons (pe_fld (pv 1) rfl) (pa_cons (pv 2) (pa_cons (pv 7) pa_nil)))) (pa_cons (pe_call (ok_replaced T) (hr.mono (by decide)) rfl T.m_replaced T.F_replaced.kp (b_replaced T) .nil pass0 (pa_cons (pe_fld (pv 1) rfl) (pa_cons (pv 2) (pa_cons (pv 8) pa_nil)))) pa_nil)) (by rfl))
      (pss_one (ps_ret (pe_tup (pa_cons (pv 5) (pa_cons (pe_make T.mk_State (ok_State_init T) (hr.mono (by decide)) (by rfl) T.m_State (b_State_init T) .nil pass0 (pa_cons (pv 12) (pa_cons (pe_call (ok_replaced T) (hr.mono (by decide)) rfl T.m_replaced T.F_replaced.kp (b_replaced T) .nil pass0 (pa_cons (pe_fld (pv 1) rfl) (pa_cons (pv 2) (pa_cons (pv 10) pa_nil)))) (pa_cons (pv 13) (pa_cons (pv 9) pa_nil))))) pa_nil))))))))))))), ?_⟩
    obtain ⟨r, dx, sh, rl, r1, r2, rfl, hr1, hsh, hrl, hb1, hb2⟩ := hp
    obtain ⟨sa, ds, sc, sn, sb, se, rfl, hs0, hsc, hsn, hsb, hse⟩ := id hu
    obtain ⟨q, dq, sl, nl, hq1, hq, hsl⟩ : ∃ (q dq sl nl : Addr), ([r1, r2] : List V)[i]? = some (.ref q) ∧ (∃ n, G q = some (.ins a.C_Robot dq (robF n sl nl))) ∧ Dp K G (.ref sl) (stepsD (stepsOf x i)) := by
      match i, hi with
      | 0, _ =>
        obtain ⟨q, dq, sl, nl, rfl, h1, h2⟩ := hb1
        exact ⟨q, dq, sl, nl, rfl, ⟨_, h1⟩, h2⟩
      | 1, _ =>
        obtain ⟨q, dq, sl, nl, rfl, h1, h2⟩ := hb2
        exact ⟨q, dq, sl, nl, rfl, ⟨_, h1⟩, h2⟩
    obtain ⟨nq, hq⟩ := hq
    obtain ⟨sl', xsi, esl, hsi, hdi⟩ := Dp.lst_inv hsl
    cases esl
    obtain ⟨est, _⟩ := st_mem ho hi
    have sok := st_ok hx ho hi
    have nl' := ho.nl i hi
    have cl := ho.cl i hi
    obtain ⟨y, hy, hDy⟩ := DpAll.at hdi (i := s.ns.getD i 0) (d := (stOf x s i).D) (by rw [List.getElem?_map, est]; rfl)
    obtain ⟨tt, g, rfl, htt, hg⟩ := step_inv hDy
    have w8 := sok.w8
    have ic : i < s.cs.length := by rw [ho.c2]; exact hi
    have in_ : i < s.ns.length := by rw [ho.n2]; exact hi
    have ih : i < s.hs.length := by rw [ho.h2]; exact hi
    have l12 : s.sh.length ≤ 12 := by rw [ho.len]; exact hx.c12
    -- robot, at, word, goal
    refine ⟨_, rfl, r, _, dx, _, .ref rl, rfl, hGH _ _ hr1, T.cl_Plan, T.n_Plan_robots, (by kernel_rfl), _, rfl, rl, _, _, .ref q, rfl, rfl, hGH.seq hrl, at_of (j := i) rfl hq1, ?_⟩
    refine ⟨_, rfl, sa, _, ds, _, .ref sn, rfl, hGH _ _ hs0, T.cl_State, T.n_State_nexts, (by kernel_rfl), _, rfl, sn, _, _, .int (s.ns.getD i 0 : Nat), rfl, rfl, Same.seqT hGH hsn, at_of (j := i) rfl (nV_at in_), ?_⟩
    refine ⟨_, rfl, q, _, dq, _, .ref sl, rfl, hGH _ _ hq, T.cl_Robot, T.n_Robot_steps, (by kernel_rfl), _, rfl, sl, _, _, .ref tt, rfl, rfl, hGH.seq hsi, at_of (j := s.ns.getD i 0) rfl hy, tt, _, rfl, Same.seqT hGH htt, rfl, _, _, rfl, _, _, rfl, rfl, ?_⟩
    -- cell, held, shelf
    refine ⟨_, rfl, sa, _, ds, _, .ref sc, rfl, hGH _ _ hs0, T.cl_State, T.n_State_cells, (by kernel_rfl), _, rfl, sc, _, _, .int (cOf s i : Nat), rfl, rfl, Same.seqT hGH hsc, at_of (j := i) rfl (nV_at ic), ?_⟩
    refine ⟨_, rfl, sa, _, ds, _, .ref sb, rfl, hGH _ _ hs0, T.cl_State, T.n_State_holds, (by kernel_rfl), _, rfl, sb, _, _, .bl (s.hs.getD i false), rfl, rfl, Same.seqT hGH hsb, at_of (j := i) rfl (bV_at ih), ?_⟩
    refine ⟨_, rfl, sa, _, ds, _, .ref se, rfl, hGH _ _ hs0, T.cl_State, T.n_State_shelf, (by kernel_rfl), _, _, _, rfl, ?_⟩
    dsimp only
    have blk : actP x s i = (8, s) → ∀ G1 H', Pt G H G1 H' → (2 ≤ sizeLine ∧ ∀ p, H' p = none → Q (.ref p) (upd H' p (.tup [.str (Str.ofString "blocked"), .ref sa]))) := fun e G1 H' p' => by
      refine ⟨by decide, fun p hp' => ?_⟩
      have p2 := p'.new hp' (.tup [.str (Str.ofString "blocked"), .ref sa])
      refine k _ _ _ p2.ext p2.sm ?_
      rw [e]
      exact ⟨p, _, rfl, SqT.of upd_same, hu.mono (p'.g.trans (same_new (p'.freeG hp')))⟩
    let Pk : L2.St → Hp → Prop := fun σ H' => ∃ (v10 : Option V) (cn : Nat) (hn : Bool) (e : Addr) (sh' : List Nat) (G1 : Hp), σ = [some (.ref r), some (.ref sa), some (.int i), some (.ref q), some (.int (s.ns.getD i 0 : Nat)), some (.str (wS (stOf x s i).w)), some g, some (.int (cn : Nat)), some (.bl hn), some (.ref e), v10, none, none, none] ∧
      Pt G H G1 H' ∧ SqT K G1 e (nV sh') ∧ sh'.length = s.sh.length ∧ cn < s.sh.length ∧ (5 ≤ (stOf x s i).w → cn = cOf s i) ∧ actP x s i = finP x s i (s.cs.set i cn) (s.hs.set i hn) sh'
    have B0 := Pt.start hGH
    have hset : s.hs = s.hs.set i (s.hs.getD i false) := set_same.symm
    have cset : s.cs = s.cs.set i (cOf s i) := set_same.symm
    refine seq_restσ Pk (fun σ H' hP => ?_) (fun rest => ?m4)
    case m4 =>
      refine ⟨_, rfl, _, rfl, ?_⟩
      rw [lr_mem w8]
      refine ite2 (fun c2 => ?_) (fun c2 => ?_)
      · have hw2 : (stOf x s i).w < 2 := of_decide_eq_true c2
        refine seq_restσ (fun σ H' => ∃ (z : Int) (c' : Nat), σ = [some (.ref r), some (.ref sa), some (.int i), some (.ref q), some (.int (s.ns.getD i 0 : Nat)), some (.str (wS (stOf x s i).w)), some g, some (.int (cOf s i : Nat)), some (.bl (s.hs.getD i false)), some (.ref se), some (.int z), none, none, none] ∧ H = H' ∧
          ((z < 0 ∧ actP x s i = (8, s)) ∨ (z = (c' : Int) ∧ actP x s i = if s.sh.length ≤ c' ∨ c' ∈ s.cs then (8, s) else finP x s i (s.cs.set i c') s.hs s.sh))) (fun σ H' hz => ?r1) (fun rest1 => ?m1)
        case m1 =>
          refine ⟨_, rfl, rfl, _, rfl, ite_w 0 w8 (fun hw => ?_) (fun hw => ?_)⟩
          · refine ⟨_, rfl, _, _, rfl, rfl, rest1 _ _ ⟨_, cOf s i - 1, rfl, rfl, ?_⟩⟩
            have ea := act_left hw
            by_cases hc0 : cOf s i = 0
            · rw [if_pos (.inl hc0)] at ea
              exact .inl ⟨by omega, ea⟩
            · refine .inr ⟨by omega, ?_⟩
              rw [ea]
              have : ¬ s.sh.length ≤ cOf s i - 1 := by unfold cOf; omega
              simp only [hc0, this, false_or]
          · refine ⟨_, rfl, _, _, rfl, rfl, rest1 _ _ ⟨_, cOf s i + 1, rfl, rfl, ?_⟩⟩
            exact .inr ⟨by omega, act_right (by omega)⟩
        obtain ⟨z, c', rfl, rfl, hz⟩ := hz
        have esh : (((nV s.sh).length : Nat) : Int) = (s.sh.length : Int) := by rw [List.length_map]
        refine ⟨_, rfl, _, _, rfl, rfl, _, rfl, ite2 (fun d0 => ?_) (fun d0 => ?_)⟩
        · have d0' : (0 : Int) ≤ z := of_decide_eq_true d0
          rcases hz with ⟨hz, _⟩ | ⟨rfl, ea⟩
          · omega
          refine ⟨_, rfl, se, _, rfl, .inr (Same.seqT hGH hse), _, _, rfl, rfl, _, rfl, ?_⟩
          rw [esh]
          refine ite2 (fun d1 => ?_) (fun d1 => ?_)
          · have d1' : ¬ (c' : Int) < (s.sh.length : Int) := by simpa using d1
            rw [if_pos (.inl (by omega))] at ea
            exact ite_t rfl ⟨_, rfl, blk ea _ _ B0⟩
          · have d1' : (c' : Int) < (s.sh.length : Int) := by simpa using d1
            refine ⟨_, rfl, _, rfl, sa, _, ds, _, .ref sc, rfl, hGH _ _ hs0, T.cl_State, T.n_State_cells, (by kernel_rfl), sc, _, rfl, .inr (Same.seqT hGH hsc), rfl, nV_flat _, _, rfl, ?_⟩
            rw [if_neg Bool.false_ne_true, in_nats]
            refine ite2 (fun d2 => ?_) (fun d2 => ?_)
            · rw [if_pos (.inr (of_decide_eq_true d2))] at ea
              exact ⟨_, rfl, blk ea _ _ B0⟩
            · have d2' : ¬ c' ∈ s.cs := fun z => d2 (decide_eq_true z)
              rw [if_neg (by simp only [not_or]; exact ⟨by omega, d2'⟩), hset] at ea
              exact ⟨_, rfl, rest _ _ ⟨_, c', _, se, s.sh, G, rfl, B0, hse, rfl, by omega, fun h => by omega, ea⟩⟩
        · rcases hz with ⟨_, ea⟩ | ⟨hz, _⟩
          · exact ⟨_, rfl, ite_t rfl (ite_t rfl ⟨_, rfl, blk ea _ _ B0⟩)⟩
          · exact absurd (decide_eq_true (by omega)) d0
      have hw2 : ¬ (stOf x s i).w < 2 := fun z => c2 (decide_eq_true z)
      rw [pick_mem w8]
      refine ite2 (fun c2 => ?_) (fun c2 => ?_)
      · have hw : (stOf x s i).w = 2 := of_decide_eq_true c2
        have ea := act_pick hw
        refine ⟨_, rfl, _, rfl, ?_⟩
        refine ite_b (fun c1 => ?_) (fun c1 => ?_)
        · rw [if_pos (.inl c1)] at ea
          exact ite_t rfl ⟨_, rfl, blk ea _ _ B0⟩
        · refine ⟨_, rfl, _, rfl, se, _, _, .int (s.sh.getD (cOf s i) 0 : Nat), rfl, rfl, Same.seqT hGH hse, at_of (j := cOf s i) rfl (nV_at cl), rfl, _, rfl, ?_⟩
          refine ite2 (fun c2 => ?_) (fun c2 => ?_)
          · have c2' : s.sh.getD (cOf s i) 0 = 0 := by have := of_decide_eq_true c2; injection this; omega
            rw [if_pos (.inr c2')] at ea
            exact ⟨_, rfl, blk ea _ _ B0⟩
          · have c2' : ¬ s.sh.getD (cOf s i) 0 = 0 := fun q => c2 (decide_eq_true (by rw [q]; rfl))
            rw [if_neg (by rw [c1]; simp only [Bool.false_eq_true, false_or]; exact c2')] at ea
            refine ⟨_, rfl, _, rfl, _, rfl, _, rfl, se, _, _, .int (s.sh.getD (cOf s i) 0 : Nat), rfl, rfl, Same.seqT hGH hse, at_of (j := cOf s i) rfl (nV_at cl), _, _, rfl, rfl, ?_⟩
            refine replaced_go B0 hse (by rw [List.length_map]; exact cl) (by rw [List.length_map]; omega) fun e' G1 H1 B1 S1 h1 => ?_
            have e1 : ((s.sh.getD (cOf s i) 0 : Nat) : Int) - 1 = ((s.sh.getD (cOf s i) 0 - 1 : Nat) : Int) := by omega
            dsimp only at h1
            rw [e1, nV_set] at h1
            rw [cset] at ea
            exact ⟨_, _, rfl, rest _ _ ⟨_, cOf s i, true, e', _, G1, rfl, B1, h1, by rw [List.length_set], cl, fun _ => rfl, ea⟩⟩
      have hw3 : ¬ (stOf x s i).w = 2 := fun z => c2 (decide_eq_true z)
      rw [put_mem w8]
      refine ite2 (fun c2 => ?_) (fun c2 => ?_)
      · have hw : (stOf x s i).w = 3 := of_decide_eq_true c2
        have ea := act_put hw
        have b3 : s.sh.getD (cOf s i) 0 ≤ 3 := by
          have cl' : cOf s i < s.sh.length := cl
          rw [List.getD_eq_getElem?_getD, List.getElem?_eq_getElem cl']
          exact ho.b3 _ (List.getElem_mem _)
        refine ⟨_, rfl, _, rfl, ?_⟩
        cases c1 : s.hs.getD i false with
        | false =>
          rw [if_pos (.inl c1)] at ea
          exact ite_t rfl (ite_t rfl ⟨_, rfl, blk ea _ _ B0⟩)
        | true =>
          refine ite_f rfl ⟨_, rfl, _, rfl, se, _, _, .int (s.sh.getD (cOf s i) 0 : Nat), rfl, rfl, Same.seqT hGH hse, at_of (j := cOf s i) rfl (nV_at cl), rfl, _, rfl, ?_⟩
          refine ite2 (fun c2 => ?_) (fun c2 => ?_)
          · have c2' : s.sh.getD (cOf s i) 0 = 3 := by have := of_decide_eq_true c2; injection this; omega
            rw [if_pos (.inr (by omega))] at ea
            exact ⟨_, rfl, blk ea _ _ B0⟩
          · have c2' : ¬ s.sh.getD (cOf s i) 0 = 3 := fun q => c2 (decide_eq_true (by rw [q]; rfl))
            rw [if_neg (by rw [c1]; simp only [Bool.true_eq_false, false_or]; omega)] at ea
            refine ⟨_, rfl, _, rfl, _, rfl, _, rfl, se, _, _, .int (s.sh.getD (cOf s i) 0 : Nat), rfl, rfl, Same.seqT hGH hse, at_of (j := cOf s i) rfl (nV_at cl), _, _, rfl, rfl, ?_⟩
            refine replaced_go B0 hse (by rw [List.length_map]; exact cl) (by rw [List.length_map]; omega) fun e' G1 H1 B1 S1 h1 => ?_
            have e1 : ((s.sh.getD (cOf s i) 0 : Nat) : Int) + 1 = ((s.sh.getD (cOf s i) 0 + 1 : Nat) : Int) := by omega
            dsimp only at h1
            rw [e1, nV_set] at h1
            rw [cset] at ea
            exact ⟨_, _, rfl, rest _ _ ⟨_, cOf s i, false, e', _, G1, rfl, B1, h1, by rw [List.length_set], cl, fun _ => rfl, ea⟩⟩
      have hw4 : ¬ (stOf x s i).w = 3 := fun z => c2 (decide_eq_true z)
      have ea := act_else (x := x) (s := s) (i := i) (by omega)
      rw [cset, hset] at ea
      exact rest _ _ ⟨_, cOf s i, _, se, s.sh, G, rfl, B0, hse, rfl, cl, fun _ => rfl, ea⟩
    obtain ⟨v10, cn, hn, e, sh', G1, rfl, B1, he, hl', hcn, hc5, ea⟩ := hP
    have hcn' : cn < sh'.length := by rw [hl']; exact hcn
    have hgetD : (s.hs.set i hn).getD i false = hn := by rw [getD_set ih, if_pos rfl]
    have s1 : Same G H' := B1.g.trans B1.s
    -- is_jump
    refine seq_restσ (fun σ H1 => H' = H1 ∧ σ = [some (.ref r), some (.ref sa), some (.int i), some (.ref q), some (.int (s.ns.getD i 0 : Nat)), some (.str (wS (stOf x s i).w)), some g, some (.int (cn : Nat)), some (.bl hn), some (.ref e), v10, some (.bl (decide (jumpP x s i (s.hs.set i hn) sh'))), none, none]) (fun σ H1 hP => ?_) (fun rest => ?m7)
    case m7 =>
      have fin : ∀ bv : Bool, bv = decide (jumpP x s i (s.hs.set i hn) sh') → _ := fun bv hbv => rest ([some (.ref r), some (.ref sa), some (.int i), some (.ref q), some (.int (s.ns.getD i 0 : Nat)), some (.str (wS (stOf x s i).w)), some g, some (.int (cn : Nat)), some (.bl hn), some (.ref e), v10, some (.bl bv), none, none]) _ ⟨rfl, by rw [hbv]⟩
      refine ⟨_, rfl, rfl, _, rfl, ite_w 5 w8 (fun hw => ?_) (fun hw => ?_)⟩
      · exact fin true (decide_eq_true (show jumpP x s i (s.hs.set i hn) sh' from .inl hw)).symm
      refine ⟨_, rfl, rfl, _, rfl, ite_w 6 w8 (fun h6 => ?_) (fun h6 => ?_)⟩
      · have ecn := hc5 (by omega)
        refine ⟨_, rfl, _, rfl, e, _, _, .int (sh'.getD cn 0 : Nat), rfl, rfl, Same.seqT B1.s he, at_of (j := cn) rfl (nV_at hcn'), rfl, _, rfl, ?_⟩
        refine ite2 (fun c2 => ?_) (fun c2 => ?_)
        · have c2' : sh'.getD cn 0 = 0 := by have := of_decide_eq_true c2; injection this; omega
          exact fin true (decide_eq_true (show jumpP x s i (s.hs.set i hn) sh' from .inr (.inl ⟨h6, by rw [← ecn]; exact c2'⟩))).symm
        · have c2' : ¬ sh'.getD cn 0 = 0 := fun q => c2 (decide_eq_true (by rw [q]; rfl))
          refine ⟨_, rfl, rfl, _, rfl, ite_w 7 w8 (fun h7 => by omega) (fun h7 => ?_)⟩
          exact fin false (decide_eq_false (show ¬ jumpP x s i (s.hs.set i hn) sh' from fun z => by rcases z with z | z | z; exact hw z; exact c2' (by rw [ecn]; exact z.2); exact h7 z.1)).symm
      · refine ⟨_, rfl, ite_f rfl ⟨_, rfl, rfl, _, rfl, ite_w 7 w8 (fun h7 => ?_) (fun h7 => ?_)⟩⟩
        · refine ⟨_, rfl, fin _ ?_⟩
          have e1 : hn = decide ((s.hs.set i hn).getD i false = true) := by rw [hgetD]; simp
          exact e1.trans (decide_eq_decide.mpr ⟨fun z => .inr (.inr ⟨h7, z⟩), fun z => by rcases z with z | z | z; exact absurd z hw; exact absurd z.1 h6; exact z.2⟩)
        · exact fin false (decide_eq_false (show ¬ jumpP x s i (s.hs.set i hn) sh' from fun z => by rcases z with z | z | z; exact hw z; exact h6 z.1; exact h7 z.1)).symm
    obtain ⟨rfl, rfl⟩ := hP
    -- later
    have lx : xsi.length = (stepsOf x i).length := by rw [DpAll.len hdi, List.length_map]
    have pos := (steps_ok hx i).pos
    refine seq_restσ (fun σ H1 => H' = H1 ∧ σ = [some (.ref r), some (.ref sa), some (.int i), some (.ref q), some (.int (s.ns.getD i 0 : Nat)), some (.str (wS (stOf x s i).w)), some g, some (.int (cn : Nat)), some (.bl hn), some (.ref e), some (.int (nextP x s i (s.hs.set i hn) sh' : Nat)), some (.bl (decide (jumpP x s i (s.hs.set i hn) sh'))), none, none]) (fun σ H1 hP => ?_) (fun rest => ?m8)
    case m8 =>
      have fin : ∀ nv : Int, nv = (nextP x s i (s.hs.set i hn) sh' : Nat) → _ := fun nv hnv => rest ([some (.ref r), some (.ref sa), some (.int i), some (.ref q), some (.int (s.ns.getD i 0 : Nat)), some (.str (wS (stOf x s i).w)), some g, some (.int (cn : Nat)), some (.bl hn), some (.ref e), some (.int nv), some (.bl (decide (jumpP x s i (s.hs.set i hn) sh'))), none, none]) _ ⟨rfl, by rw [hnv]⟩
      refine ⟨_, rfl, _, rfl, ite2 (fun c1 => ?_) (fun c1 => ?_)⟩
      · have hj : jumpP x s i (s.hs.set i hn) sh' := of_decide_eq_true c1
        have h5 : 5 ≤ (stOf x s i).w := by rcases hj with h | h | h <;> omega
        obtain ⟨kk, hk, _⟩ := sok.yes h5
        rcases hg with ⟨h1, _⟩ | ⟨k2, h1, rfl⟩
        · rw [h1] at hk; cases hk
        · refine ⟨_, rfl, fin k2 ?_⟩
          unfold nextP
          rw [if_pos hj, h1]
          rfl
      · have hj : ¬ jumpP x s i (s.hs.set i hn) sh' := fun q => c1 (decide_eq_true q)
        refine ⟨_, rfl, _, _, rfl, rfl, _, rfl, q, _, dq, _, .ref sl, rfl, s1 _ _ hq, T.cl_Robot, T.n_Robot_steps, (by kernel_rfl), sl, _, rfl, .inl (s1.seq hsi), _, _, rfl, rfl, ?_, fin _ ?_⟩
        · show (0 : Int) < ((xsi.length : Nat) : Int)
          omega
        · rw [lx, modn]
          unfold nextP
          rw [if_neg hj]
    obtain ⟨rfl, rfl⟩ := hP
    -- cells, holds
    have hl2 : ∀ {α : Type} {l : List α} (f : α → V), l.length = 2 → (l.map f).length ≤ 1000 := fun {α l} f h => by rw [List.length_map]; omega
    refine ⟨_, rfl, sa, _, ds, _, .ref sc, rfl, s1 _ _ hs0, T.cl_State, T.n_State_cells, (by kernel_rfl), _, rfl, _, rfl, ?_⟩
    refine replaced_go B1 (Same.seqT B1.g hsc) (by rw [List.length_map]; exact ic) (hl2 _ ho.c2) fun c2 G2 H2 B2 S2 h2 => ?_
    rw [nV_set] at h2
    have s2 : Same G H2 := B2.g.trans B2.s
    refine ⟨_, rfl, sa, _, ds, _, .ref sb, rfl, s2 _ _ hs0, T.cl_State, T.n_State_holds, (by kernel_rfl), _, rfl, _, rfl, ?_⟩
    refine replaced_go B2 (Same.seqT B2.g hsb) (by rw [List.length_map]; exact ih) (hl2 _ ho.h2) fun c3 G3 H3 B3 S3 h3 => ?_
    rw [bV_set] at h3
    have s3 : Same G H3 := B3.g.trans B3.s
    refine ⟨_, _, rfl, ?_⟩
    dsimp only
    refine ⟨_, rfl, _, rfl, _, rfl, sa, _, ds, _, .ref sn, rfl, s3 _ _ hs0, T.cl_State, T.n_State_nexts, (by kernel_rfl), _, rfl, _, rfl, ?_⟩
    refine replaced_go B3 (Same.seqT B3.g hsn) (by rw [List.length_map]; exact in_) (hl2 _ ho.n2) fun c4 G4 H4 B4 S4 h4 => ?_
    rw [nV_set] at h4
    refine ⟨_, rfl, _, rfl, ?_⟩
    intro y dy ny nd ne
    refine init_go2 rfl ⟨rfl, ?_⟩
    have B5 := B4.make ny nd ne (.ins a.C_State dy (stF c2 c4 c3 e))
    have g5 := same_make (B4.freeG ny) (B4.freeG nd) ne (.ins a.C_State dy (stF c2 c4 c3 e))
    refine ⟨(by show 2 ≤ sizeLine; decide), fun p hp => ?_⟩
    have B6 := B5.new hp (.tup [.str (wS (stOf x s i).w), .ref y])
    have g6 := same_new (o := .tup [.str (wS (stOf x s i).w), .ref y]) (B5.freeG hp)
    refine k _ _ _ B6.ext B6.sm ?_
    have ew : (actP x s i).1 = (stOf x s i).w := by rw [ea]; rfl
    rw [ew, doS_lt w8, ea]
    exact ⟨p, .ref y, rfl, SqT.of upd_same, y, dy, c2, c4, c3, e, rfl, g6 _ _ upd_same, Same.seqT (((S3.trans S4).trans g5).trans g6) h2, Same.seqT (g5.trans g6) h4, Same.seqT ((S4.trans g5).trans g6) h3, Same.seqT ((((S2.trans S3).trans S4).trans g5).trans g6) he⟩
theorem ok_next_tick (T : Txt K mg a) : FnOk P w K mg base CX0 5 a.f_next_tick a.d_next_tick ["parsed", "state"] (spNext a K) := by
  refine T.F_next_tick.ok sc_next_tick (fun vs H Q E h => ?_) (fun cdv A outer s0 H vs Q E hr h => ?_)
  · obtain ⟨⟨G, v, u, x, s, rfl, _⟩⟩ := h
    rfl
  · obtain ⟨⟨G, v, u, x, s, rfl, hp, hu, hx, ho, hGH, k⟩⟩ := h
    refine ⟨_, (pss_cons (ps_asg (pe_call (ok_act T) (hr.mono (by decide)) rfl T.m_act T.F_act.kp (b_act T) .nil pass0 (pa_cons (pv 0) (pa_cons (pv 1) (pa_cons pe_int pa_nil)))) (pg_tup (by rfl) (pgs_cons (pg_name (i := 2) sc_next_tick.nd rfl (Or.inl rfl)) (pgs_cons (pg_name (i := 1) sc_next_tick.nd rfl (Or.inl rfl)) pgs_nil))))
      (pss_cons (ps_asg (pe_call (ok_act T) (hr.mono (by decide)) rfl T.m_act T.F_act.kp (b_act T) .nil pass0 (pa_cons (pv 0) (pa_cons (pv 1) (pa_cons pe_int pa_nil)))) (pg_tup (by rfl) (pgs_cons (pg_name (i := 3) sc_next_tick.nd rfl (Or.inl rfl)) (pgs_cons (pg_name (i := 1) sc_next_tick.nd rfl (Or.inl rfl)) pgs_nil))))
      (pss_one (ps_ret (pe_make T.mk_Tick (ok_Tick_init T) (hr.mono (by decide)) (by rfl) T.m_Tick (b_Tick_init T) .nil pass0 (pa_cons (pe_tup (pa_cons (pv 2) (pa_cons (pv 3) pa_nil))) (pa_cons (pv 1) pa_nil))))))), ?_⟩
    refine ⟨_, rfl, _, rfl, ⟨⟨G, v, u, x, s, 0, rfl, hp, hu, hx, ho, by decide, hGH, fun G1 H1 v1 x1 s1 d1 => ?_⟩⟩⟩
    obtain ⟨t1, u1, rfl, ht1, hu1⟩ := d1
    have B1 := (Pt.start hGH).call x1 s1
    refine ⟨t1, _, rfl, Same.seqT B1.s ht1, rfl, _, _, rfl, _, _, rfl, rfl, ?_⟩
    have ho1 := act_ok hx ho (i := 0) (by decide)
    refine ⟨_, rfl, _, rfl, ⟨⟨G1, v, u1, x, _, 1, rfl, hp.mono B1.g, hu1, hx, ho1, by decide, B1.s, fun G2 H2 v2 x2 s2 d2 => ?_⟩⟩⟩
    obtain ⟨t2, u2, rfl, ht2, hu2⟩ := d2
    have B2 := B1.call x2 s2
    refine ⟨t2, _, rfl, Same.seqT B2.s ht2, rfl, _, _, rfl, _, _, rfl, rfl, ?_⟩
    refine ⟨_, rfl, _, rfl, (by show 2 ≤ sizeLine; decide), fun p hp => ?_⟩
    have B3 := B2.new hp (.tup [.str (doS (actP x s 0).1), .str (doS (actP x (actP x s 0).2 1).1)])
    refine ⟨_, rfl, ?_⟩
    intro y dy ny nd ne
    refine init_go2 rfl ⟨rfl, ?_⟩
    have B4 := B3.make ny nd ne (.ins a.C_Tick dy (tkF p u2))
    have g3 := same_new (o := .tup [.str (doS (actP x s 0).1), .str (doS (actP x (actP x s 0).2 1).1)]) (B2.freeG hp)
    have g4 := same_make (B3.freeG ny) (B3.freeG nd) ne (.ins a.C_Tick dy (tkF p u2))
    exact k _ _ _ B4.ext B4.sm ⟨y, dy, p, u2, rfl, upd_same, Same.seqT g4 (SqT.of upd_same), hu2.mono (g3.trans g4)⟩
end
end Sb

namespace Sb
open PySem PySem.Spec PyProof.Rows L2 TL
def stoF (l : Addr) (st : V) : List (Str × V) := [("ticks", .ref l), ("start", st)]
def wordsAt (x : Pl) (j : Nat) : Nat × Nat := (tickP x (sitAt x j)).1
def TicksAt (a : Ad) (K : PySem.W.Frag) (G : Hp) (vs : List V) (x : Pl) (n : Nat) : Prop := vs.length = n ∧ ∀ j, j < n → ∃ u, vs[j]? = some u ∧ TickAt a K G u (wordsAt x j) (sitAt x (j + 1))
theorem TicksAt.mono {a : Ad} {K : PySem.W.Frag} {G G' : Hp} {vs : List V} {x : Pl} {n : Nat} (m : Same G G') (h : TicksAt a K G vs x n) : TicksAt a K G' vs x n := ⟨h.1, fun j hj => by
  obtain ⟨u, h1, h2⟩ := h.2 j hj
  exact ⟨u, h1, h2.mono m⟩⟩
theorem TicksAt.snoc {a : Ad} {K : PySem.W.Frag} {G : Hp} {vs : List V} {x : Pl} {n : Nat} {v : V} (h : TicksAt a K G vs x n) (hv : TickAt a K G v (wordsAt x n) (sitAt x (n + 1))) : TicksAt a K G (vs ++ [v]) x (n + 1) := by
  refine ⟨by rw [List.length_append, h.1]; rfl, fun j hj => ?_⟩
  by_cases hjn : j < n
  · obtain ⟨u, h1, h2⟩ := h.2 j hjn
    exact ⟨u, by rw [List.getElem?_append_left (by rw [h.1]; exact hjn)]; exact h1, h2⟩
  · have : j = n := by omega
    subst this
    exact ⟨v, by rw [List.getElem?_append_right (by rw [h.1]; exact Nat.le_refl _), h.1, Nat.sub_self]; rfl, hv⟩
def StoryAt (a : Ad) (K : PySem.W.Frag) (G : Hp) (v : V) (x : Pl) (i n : Nat) : Prop := ∃ (y dy l : Addr) (vs : List V), v = .ref y ∧ G y = some (.ins a.C_Story dy (stoF l (.int i))) ∧ SqL K G l vs ∧ TicksAt a K G vs x n
theorem StoryAt.mono {a : Ad} {K : PySem.W.Frag} {G G' : Hp} {v : V} {x : Pl} {i n : Nat} (m : Same G G') (h : StoryAt a K G v x i n) : StoryAt a K G' v x i n := by
  obtain ⟨y, dy, l, vs, h0, h1, h2, h3⟩ := h
  exact ⟨y, dy, l, vs, h0, m _ _ h1, m.seq h2, h3.mono m⟩
structure spStoryInit (a : Ad) (K : PySem.W.Frag) (vs : List V) (H : Hp) (Q : VK) (E : XK) : Prop where
  ex : ∃ (y dy : Addr) (G : Hp) (v : V) (x : Pl) (i n : Nat), vs = [.ref y, v] ∧ H y = some (.ins a.C_Story dy []) ∧ G y = none ∧ Same G H ∧ PlanAt a K G v x ∧ x.Ok ∧ Cyc x i n ∧ n ≤ 20000 ∧
    ∀ (G' H' : Hp) (l : Addr) (vs : List V), Mv [y] G H G' H' → G' y = none → H' y = some (.ins a.C_Story dy (stoF l (.int i))) → SqL K G' l vs → TicksAt a K G' vs x n → Q .non H'
theorem stoF_put {l : Addr} {st st' : V} : putF "start" st' (stoF l st) = stoF l st' := by
  unfold stoF
  rw [putF, if_neg (by decide +kernel), putF, if_pos rfl]
theorem cyc_found {x : Pl} {i n j : Nat} (hc : Cyc x i n) (hj : j ≤ n) (h : ∃ m, m < j ∧ sitAt x m = sitAt x j) : j = n := by
  obtain ⟨m, h1, h2⟩ := h
  by_cases e : j = n
  · exact e
  · have := hc.nd m j (by omega) (by omega) h2
    omega
section
variable {P : Program} {w : World} {K : PySem.W.Frag} {mg : Str → Option Value} {base : Heap} {a : Ad}
theorem ok_Story_init (T : Txt K mg a) : FnOk P w K mg base CX0 7 a.f_Story_init a.d_Story_init ["self", "parsed"] (spStoryInit a K) := by
  refine T.F_Story_init.ok sc_Story_init (fun vs H Q E h => ?_) (fun cdv A outer s0 H vs Q E hr h => ?_)
  · obtain ⟨⟨y, dy, G, v, x, i, n, rfl, _⟩⟩ := h
    rfl
  · obtain ⟨⟨y, dy, G, v, x, i, n, rfl, hy, hyG, hGH, hp, hx, hc, hn, k⟩⟩ := h
    refine ⟨_, (pss_cons (ps_fld (pv 0) (pe_lst pa_nil) rfl)
      (pss_cons (ps_fld (pv 0) pe_non rfl)
      (pss_cons (ps_par (i := 2) (j := 3) (by rfl) sc_Story_init.nd rfl rfl (by decide) rfl rfl (pa_cons (pe_call (ok_first_state T) (hr.mono (by decide)) rfl T.m_first_state T.F_first_state.kp (b_first_state T) .nil pass0 (pa_cons (pv 1) pa_nil)) (pa_cons pe_dnewN pa_nil)) (by rfl))
      (pss_one (ps_while PassesOwn.never (pt_cmpR op_isN (pe_fld (pv 0) rfl) pe_non (nomark _)) (pss_one (ps_if (pt_cmpR (op_inN hr.units) (pe_prop (pv 2) T.cl_State T.P_State_key (ok_State_key T) (hr.mono (by decide)) (b_State_key T) .nil pass0 rfl) (pv 3) rfl) (pss_one (ps_fld (pv 0) (pe_dgetN hr.units (pv 3) (pe_prop (pv 2) T.cl_State T.P_State_key (ok_State_key T) (hr.mono (by decide)) (b_State_key T) .nil pass0 rfl) (fun _ _ => rfl)) rfl)) (pss_cons (ps_if (pt_cmpR op_eq (pe_callB call_len_seq (by rfl) T.z_len (by decide +kernel) (pa_cons (pe_fld (pv 0) rfl) pa_nil)) (pe_glob (v := V.int 20000) rfl T.c_MAX_STATES ⟨_, rfl⟩) (nomark _)) pss_never pss_nil)
      (pss_cons (ps_asg (pe_callB call_len_seq (by rfl) T.z_len (by decide +kernel) (pa_cons (pe_fld (pv 0) rfl) pa_nil)) (pg_sub (pv 3) (pe_prop (pv 2) T.cl_State T.P_State_key (ok_State_key T) (hr.mono (by decide)) (b_State_key T) .nil pass0 rfl) (set_newN hr.units)))
      (pss_cons (ps_expr (pe_bm PySem.F.plainAttrs_list PySem.F.slot_list_append PySem.F.type_list_append mt_append (pe_fld (pv 0) rfl) (pa_cons (pe_call (ok_next_tick T) (hr.mono (by decide)) rfl T.m_next_tick T.F_next_tick.kp (b_next_tick T) .nil pass0 (pa_cons (pv 1) (pa_cons (pv 2) pa_nil))) pa_nil)))
      (pss_one (ps_set (i := 2) sc_Story_init.nd rfl (Or.inl rfl) (pe_fld (pe_ix ix_list (pe_fld (pv 0) rfl) (pe_un un_neg pe_int) (fun _ _ => rfl)) rfl))))))))))))), ?_⟩
    -- ticks, start
    refine ⟨Nat.zero_le _, fun l hl => ?_⟩
    have ly : l ≠ y := (ne_of_none hy hl).symm
    refine ⟨_, rfl, y, _, dy, _, rfl, by rw [upd_ne ly.symm]; exact hy, T.cl_Story, T.n_Story_ticks, by decide, ?_⟩
    refine ⟨_, rfl, y, _, dy, _, rfl, upd_same, T.cl_Story, T.n_Story_start, lf1, ?_⟩
    rw [upd_upd]
    have e : putF "start" V.non (putF "ticks" (V.ref l) []) = stoF l .non := by
      show putF "start" V.non [("ticks", V.ref l)] = _
      rw [putF_new (fs := [("ticks", V.ref l)]) (show ("start" : Str) ∉ (["ticks"] : List Str) by decide +kernel)]
      rfl
    rw [e]
    have M1 : Mv [y] G H G (upd (upd H l (.lst [])) y (.ins a.C_Story dy (stoF l .non))) := ((Mv.start hGH).lay hl _).put (.inl (by simp)) hyG _
    have l0 : H l = none := hl
    have hl1 : (upd (upd H l (.lst [])) y (.ins a.C_Story dy (stoF l .non))) l = some (.lst []) := by rw [upd_ne ly, upd_same]
    -- state, seen
    refine ⟨_, rfl, ⟨⟨G, v, x, rfl, hp, M1.s, fun G2 H2 sv x2 s2 h2 => ?_⟩⟩⟩
    have M2 := M1.pure x2 s2
    intro kd hkd
    have k0 : H kd = none := M2.free hkd
    have hl2 := s2 _ _ hl1
    have hy2 := s2 _ _ (upd_same (H := upd H l (.lst [])) (a := y) (o := .ins a.C_Story dy (stoF l .non)))
    have kl : kd ≠ l := (ne_of_none hl2 hkd).symm
    have ky : kd ≠ y := (ne_of_none hy2 hkd).symm
    have M3 := M2.lay hkd (dNO P w kd [])
    refine ⟨_, _, rfl, ?_⟩
    refine ⟨fun m σ H' => ∃ (j : Nat) (G' : Hp) (sv : V) (xs : Ents) (vs : List V) (st : V), σ = [some (.ref y), some v, some sv, some (.ref kd)] ∧ Mv [y] G H G' H' ∧ G' y = none ∧ H' y = some (.ins a.C_Story dy (stoF l st)) ∧ H' l = some (.lst vs) ∧ G' l = none ∧
      TicksAt a K G' vs x j ∧ StateAt a K G' sv (sitAt x j) ∧ DK P w K G' H' kd xs ∧ Met x xs j (fun m => .int m) ∧ ((st = .non ∧ j ≤ n ∧ m = n + 1 - j) ∨ (st = .int i ∧ j = n ∧ m = 0)), ⟨n + 1, 0, G2, sv, [], [], .non, rfl, M3, ?_, ?_, ?_, ?_, ?_, h2, ?_, Met.nil, .inl ⟨rfl, Nat.zero_le _, rfl⟩⟩, ?_⟩
    · exact x2.out hyG upd_same
    · rw [upd_ne ky.symm]; exact hy2
    · rw [upd_ne kl.symm]; exact hl2
    · exact x2.out (Same.free hGH l0) hl1
    · exact ⟨rfl, fun j hj => by omega⟩
    · exact ⟨upd_same, M2.freeG hkd, fun _ h => nomatch h⟩
    rintro m σ H' ⟨j, G', sv, xs, vs, st, rfl, M, yG, hy', hl', lG, hts, hst, hK, hM, hcase⟩
    refine ⟨_, rfl, y, _, dy, _, st, rfl, hy', T.cl_Story, T.n_Story_start, (by kernel_rfl), rfl, _, rfl, ite2 (fun c => ?_) (fun c => ?_)⟩
    · have c' : st = .non := of_decide_eq_true c
      subst c'
      obtain ⟨hjn, hm⟩ : j ≤ n ∧ m = n + 1 - j := by
        rcases hcase with h | h
        · exact h.2
        · cases h.1
      have so := sitAt_ok hx j
      obtain ⟨sa, ds, sc, sn, sb, se, rfl, hsa, _⟩ := id hst
      refine ⟨fun σ' H' => _, fun σ' H' h => h, ?_⟩
      -- state.key in seen
      refine ⟨_, rfl, sa, ds, _, rfl, M.s _ _ hsa, ⟨⟨G', _, _, rfl, hst, M.s, fun G3 H3 u3 x3 s3 h3 => ?_⟩⟩⟩
      obtain ⟨p3, rfl, d3⟩ := h3
      have M3 := M.pure x3 s3
      have hK3 := hK.grow x3.g (fun o ho => s3 _ _ ho) (x3.out hK.out hK.at_)
      refine ⟨_, rfl, kd, p3, xs, _, _, rfl, rfl, hK3.dn M3.s, Dp.mono M3.s _ _ d3, nk_sit _, nk_depth _, _, rfl, ite2 (fun c => ?_) (fun c => ?_)⟩
      · have c' : nkOf (sitAt x j) ∈ xs.map (·.1) := of_decide_eq_true c
        have ej : j = n := cyc_found hc hjn ((hM.keys _).mp c')
        subst ej
        have hst3 := hst.mono x3.g
        -- self.start = seen[state.key]
        refine ⟨_, rfl, _, rfl, sa, ds, _, rfl, M3.s _ _ (x3.g _ _ hsa), ⟨⟨G3, _, _, rfl, hst3, M3.s, fun G4 H4 u4 x4 s4 h4 => ?_⟩⟩⟩
        obtain ⟨p4, rfl, d4⟩ := h4
        have M4 := M3.pure x4 s4
        have hK4 := hK3.grow x4.g (fun o ho => s4 _ _ ho) (x4.out hK3.out hK3.at_)
        obtain ⟨b, hb⟩ := hM.2 i hc.lt
        rw [hc.eq] at hb
        have hy4 := s4 _ _ (s3 _ _ hy')
        have yG3 := x3.out yG hy'
        have yG4 := x4.out yG3 (s3 _ _ hy')
        refine ⟨kd, p4, xs, _, _, rfl, rfl, hK4.dn M4.s, Dp.mono M4.s _ _ d4, nk_sit _, nk_depth _, List.mem_of_getElem? hb, ?_⟩
        refine ⟨_, rfl, y, _, dy, _, rfl, hy4, T.cl_Story, T.n_Story_start, (by show 2 < 1000; decide), ?_⟩
        rw [stoF_put]
        refine ⟨0, by omega, j, G4, .ref sa, xs, vs, .int i, rfl, M4.put (.inl (by simp)) yG4 _, yG4, upd_same, ?_, ?_, hts.mono (x3.g.trans x4.g), hst3.mono x4.g, ?_, hM, .inr ⟨rfl, rfl, rfl⟩⟩
        · rw [upd_ne ly]; exact s4 _ _ (s3 _ _ hl')
        · exact x4.out (x3.out lG hl') (s3 _ _ hl')
        · exact hK4.grow (Same.refl _) (fun o ho => by rw [upd_ne ky]; exact ho) hK4.out
      · have c' : nkOf (sitAt x j) ∉ xs.map (·.1) := fun z => c (decide_eq_true z)
        have hno := fun z => c' ((hM.keys _).mpr z)
        have hjlt : j < n := by
          rcases Nat.lt_or_ge j n with h | h
          · exact h
          · exfalso
            have ej : j = n := by omega
            subst ej
            exact hno ⟨i, hc.lt, hc.eq⟩
        have hl3 := s3 _ _ hl'
        have hy3 := s3 _ _ hy'
        -- the limit
        refine ⟨_, rfl, y, _, dy, _, .ref l, rfl, hy3, T.cl_Story, T.n_Story_ticks, (by kernel_rfl), l, _, rfl, .inl (SqL.of hl3), rfl, _, rfl, ite2 (fun c => ?_) (fun _ => ?_)⟩
        · exfalso
          have := of_decide_eq_true c
          injection this with this
          have := hts.1
          omega
        -- seen[state.key] = len(self.ticks)
        refine ⟨_, rfl, y, _, dy, _, .ref l, rfl, hy3, T.cl_Story, T.n_Story_ticks, (by kernel_rfl), l, _, rfl, .inl (SqL.of hl3), ?_⟩
        have hst3 := hst.mono x3.g
        refine ⟨_, rfl, _, rfl, sa, ds, _, rfl, M3.s _ _ (x3.g _ _ hsa), ⟨⟨G3, _, _, rfl, hst3, M3.s, fun G4 H4 u4 x4 s4 h4 => ?_⟩⟩⟩
        obtain ⟨p4, rfl, d4⟩ := h4
        have M4 := M3.pure x4 s4
        have hK4 := hK3.grow x4.g (fun o ho => s4 _ _ ho) (x4.out hK3.out hK3.at_)
        refine ⟨kd, p4, xs, _, _, rfl, rfl, hK4.dn M4.s, Dp.mono M4.s _ _ d4, nk_sit _, nk_depth _, c', small 20000 (by rw [hM.1]; omega) (by decide), ?_⟩
        rw [hts.1]
        have M5 := M4.put (l := kd) (.inr k0) hK4.out (dNO P w kd (xs ++ [(nkOf (sitAt x j), p4, .int j)]))
        have K5 := hK4.put (v := .int j) d4
        have yG4 := x4.out (x3.out yG hy') hy3
        have lG4 := x4.out (x3.out lG hl') hl3
        have hy5 : (upd H4 kd (dNO P w kd (xs ++ [(nkOf (sitAt x j), p4, .int j)]))) y = some (.ins a.C_Story dy (stoF l .non)) := by rw [upd_ne ky.symm]; exact s4 _ _ hy3
        have hl5 : (upd H4 kd (dNO P w kd (xs ++ [(nkOf (sitAt x j), p4, .int j)]))) l = some (.lst vs) := by rw [upd_ne kl.symm]; exact s4 _ _ hl3
        -- append
        refine ⟨_, rfl, y, _, dy, _, .ref l, rfl, hy5, T.cl_Story, T.n_Story_ticks, (by kernel_rfl), .inl ⟨rfl, _, SqL.of hl5⟩, ?_⟩
        refine ⟨_, rfl, _, rfl, ⟨⟨G4, v, .ref sa, x, _, rfl, hp.mono M5.g, hst3.mono x4.g, hx, so, M5.s, fun G6 H6 tv x6 s6 h6 => ?_⟩⟩⟩
        have M6 := M5.pure x6 s6
        have yG6 := x6.out yG4 hy5
        have lG6 := x6.out lG4 hl5
        have K6 := K5.grow x6.g (fun o ho => s6 _ _ ho) (x6.out K5.out K5.at_)
        refine ⟨l, vs, tv, rfl, rfl, s6 _ _ hl5, smaller 20000 (by rw [hts.1]; omega) (by decide), ?_⟩
        have M7 := M6.put (l := l) (.inr l0) lG6 (.lst (vs ++ [tv]))
        have hy7 : (upd H6 l (.lst (vs ++ [tv]))) y = some (.ins a.C_Story dy (stoF l .non)) := by rw [upd_ne ly.symm]; exact s6 _ _ hy5
        have K7 := K6.grow (Same.refl _) (H' := upd H6 l (.lst (vs ++ [tv]))) (fun o ho => by rw [upd_ne kl]; exact ho) K6.out
        obtain ⟨tk, dt, tw, su, rfl, htk, htw, hsu⟩ := id h6
        have hts7 := (hts.mono ((x3.g.trans x4.g).trans x6.g)).snoc h6
        -- state = self.ticks[-1].state
        have hix : atI (vs ++ [V.ref tk]) (-1) = some (.ref tk) := by
          have := ixN_last (n := vs.length)
          unfold atI
          rw [List.length_append, List.length_singleton, this]
          simp
        refine ⟨_, rfl, y, _, dy, _, .ref l, rfl, hy7, T.cl_Story, T.n_Story_ticks, (by kernel_rfl), _, rfl, l, _, _, .ref tk, rfl, rfl, SqL.of upd_same, hix, tk, _, dt, _, su, rfl, M7.s _ _ htk, T.cl_Tick, T.n_Tick_state, (by kernel_rfl), ?_⟩
        exact ⟨n + 1 - (j + 1), by omega, j + 1, G6, su, _, _, .non, rfl, M7, yG6, hy7, upd_same, lG6, hts7, hsu, K7, hM.snoc, .inl ⟨rfl, hjlt, rfl⟩⟩
    · rcases hcase with ⟨h, _⟩ | ⟨rfl, rfl, _⟩
      · exact absurd (decide_eq_true h) c
      · have M8 := M.freeze l0 hl'
        have g8 : Same G' (upd G' l (.lst vs)) := same_new lG
        exact k _ H' l vs M8 (by rw [upd_ne ly.symm]; exact yG) hy' (SqL.of upd_same) (hts.mono g8)
/-- Story(parsed) -/
theorem story_pre {G0 H0 G H : Hp} {v : V} {x : Pl} {y dy : Addr} (pt : Pt G0 H0 G H) (hp : PlanAt a K G v x) (ny : H y = none) (nd : H dy = none) (ne : dy ≠ y) :
    (upd G dy (.own y)) y = none ∧ Same (upd G dy (.own y)) (upd (upd H dy (.own y)) y (.ins a.C_Story dy [])) ∧ PlanAt a K (upd G dy (.own y)) v x := by
  have B1 := pt.new nd (.own y)
  have ny1 : (upd H dy (.own y)) y = none := by rw [upd_ne ne.symm]; exact ny
  have B2 := B1.lay ny1 (.ins a.C_Story dy [])
  exact ⟨B1.freeG ny1, B2.s, hp.mono (same_new (o := .own y) (pt.freeG nd))⟩
theorem story_post {G0 H0 G H G' H' : Hp} {x : Pl} {i n : Nat} {y dy l : Addr} {vs : List V} (pt : Pt G0 H0 G H) (ny : H y = none) (nd : H dy = none) (ne : dy ≠ y)
    (M : Mv [y] (upd G dy (.own y)) (upd (upd H dy (.own y)) y (.ins a.C_Story dy [])) G' H') (yG' : G' y = none) (hy' : H' y = some (.ins a.C_Story dy (stoF l (.int i)))) (hl : SqL K G' l vs) (ht : TicksAt a K G' vs x n) :
    ∃ G2, Pt G0 H0 G2 H' ∧ Same G G2 ∧ StoryAt a K G2 (.ref y) x i n := by
  have B1 := pt.new nd (.own y)
  have ny1 : (upd H dy (.own y)) y = none := by rw [upd_ne ne.symm]; exact ny
  have B2 := B1.lay ny1 (.ins a.C_Story dy [])
  have g1 := same_new (o := .own y) (pt.freeG nd)
  have y0 : H0 y = none := B1.free ny1
  have B3 : Pt G0 H0 G' H' := by
    refine ⟨B2.ext.trans M.ext, fun b o e => M.sm b o ?_⟩
    rw [wos_out (by intro hb; rw [List.mem_singleton.mp hb, y0] at e; cases e)]
    exact B2.sm b o e
  have B4 := B3.freeze y0 hy'
  have g4 : Same G' (upd G' y (.ins a.C_Story dy (stoF l (.int i)))) := same_new yG'
  exact ⟨_, B4, (g1.trans M.g).trans g4, y, dy, l, vs, rfl, upd_same, g4.seq hl, ht.mono g4⟩
end
end Sb

namespace Sb
open PySem PySem.Spec PyProof.Rows L2 TL
/-! ### what happens at a tick -/
def placeP (i n t : Nat) : Nat := if t < n then t else i + (t - i) % (n - i)
theorem place_lt {x : Pl} {i n t : Nat} (h : Cyc x i n) : placeP i n t < n := by
  unfold placeP
  have := h.lt
  split
  · assumption
  · have := Nat.mod_lt (t - i) (show n - i > 0 by omega)
    omega
theorem place_sit {x : Pl} {i n t : Nat} (h : Cyc x i n) : sitAt x (placeP i n t) = sitAt x t := by
  unfold placeP
  split
  · rfl
  · have := h.lt
    exact (sit_mod h.lt h.eq (by omega)).symm
theorem place_next {x : Pl} {i n t : Nat} (h : Cyc x i n) : sitAt x (placeP i n t + 1) = sitAt x (t + 1) := by
  show (tickP x (sitAt x (placeP i n t))).2 = (tickP x (sitAt x t)).2
  rw [place_sit h]
theorem place_words {x : Pl} {i n t : Nat} (h : Cyc x i n) : wordsAt x (placeP i n t) = wordsAt x t := by
  unfold wordsAt
  rw [place_sit h]
structure spSize (a : Ad) (K : PySem.W.Frag) (vs : List V) (H : Hp) (Q : VK) (E : XK) : Prop where
  ex : ∃ (v : V) (x : Pl) (i n : Nat), vs = [v] ∧ StoryAt a K H v x i n ∧ Q (.int ((n : Int) - (i : Int))) H
structure spCheckTick (vs : List V) (H : Hp) (Q : VK) (E : XK) : Prop where
  ex : ∃ t : Nat, vs = [.int t] ∧ t ≤ 1000000000000000000 ∧ Q .non H
theorem check_go {t : Nat} {H : Hp} {Q : VK} {E : XK} (h : t ≤ 1000000000000000000) (q : Q .non H) : spCheckTick [.int t] H Q E := ⟨⟨t, rfl, h, q⟩⟩
/-- a plan's text that loads, and comes round -/
structure Told (src : Str) (x : Pl) (i n : Nat) : Prop where
  ld : Loads src x
  ok : x.Ok
  cy : Cyc x i n
  le : n ≤ 20000
section
variable {P : Program} {w : World} {K : PySem.W.Frag} {mg : Str → Option Value} {base : Heap} {a : Ad}
theorem ok_Story_size (T : Txt K mg a) : FnOk P w K mg base CX0 1 a.f_Story_size a.d_Story_size ["self"] (spSize a K) := by
  refine T.F_Story_size.ok sc_Story_size (fun vs H Q E h => ?_) (fun cdv A outer s H vs Q E hr h => ?_)
  · obtain ⟨⟨v, x, i, n, rfl, _⟩⟩ := h
    rfl
  · obtain ⟨⟨v, x, i, n, rfl, ⟨y, dy, l, vs, rfl, hy, hl, ht⟩, k⟩⟩ := h
    refine ⟨_, (pss_one (ps_ret (pe_op op_sub (pe_callB call_len_seq (by rfl) T.z_len (by decide +kernel) (pa_cons (pe_fld (pv 0) rfl) pa_nil)) (pe_fld (pv 0) rfl)))), ?_⟩
    refine ⟨_, rfl, y, _, dy, _, .ref l, rfl, hy, T.cl_Story, T.n_Story_ticks, (by kernel_rfl), l, _, rfl, .inl hl, _, rfl, y, _, dy, _, .int i, rfl, hy, T.cl_Story, T.n_Story_start, (by kernel_rfl), _, _, rfl, rfl, ?_⟩
    dsimp only
    rw [ht.1]
    exact k
theorem ok_check_tick (T : Txt K mg a) : FnOk P w K mg base CX0 2 a.f_check_tick a.d_check_tick ["tick"] spCheckTick := by
  refine T.F_check_tick.ok sc_check_tick (fun vs H Q E h => ?_) (fun cdv A outer s H vs Q E hr h => ?_)
  · obtain ⟨⟨t, rfl, _⟩⟩ := h
    rfl
  · obtain ⟨⟨t, rfl, ht, k⟩⟩ := h
    refine ⟨_, (pss_one (ps_if (pt_not (pt_val (pe_call (ok_is_int_in T) (hr.mono (by decide)) rfl T.m_is_int_in T.F_is_int_in.kp (b_is_int_in T) .nil pass0 (pa_cons (pv 0) (pa_cons pe_int (pa_cons (pe_glob (v := V.int 1000000000000000000) rfl T.c_MAX_TICK ⟨_, rfl⟩) pa_nil)))))) pss_never pss_nil)), ?_⟩
    exact ⟨_, rfl, isint_go (by omega) (by omega) ⟨_, rfl, ite_f rfl k⟩⟩
end
end Sb

namespace Sb
open PySem PySem.Spec PyProof.Rows L2
/-! ### sums over ticks -/
def cntF (f : Nat → Nat) (t : Nat) : Nat := ((List.range t).map f).sum
theorem cntF_succ (f : Nat → Nat) (t : Nat) : cntF f (t + 1) = cntF f t + f t := by
  unfold cntF
  rw [List.range_succ, List.map_append, List.sum_append]
  simp
theorem cntF_mono (f : Nat → Nat) (a k : Nat) : cntF f a ≤ cntF f (a + k) := by
  induction k with
  | zero => exact Nat.le_refl _
  | succ k ih => rw [show a + (k + 1) = (a + k) + 1 by omega, cntF_succ]; omega
theorem cntF_shift {f : Nat → Nat} {i p : Nat} (h : ∀ t, i ≤ t → f (t + p) = f t) (k : Nat) : cntF f (i + k + p) = cntF f (i + k) + (cntF f (i + p) - cntF f i) := by
  induction k with
  | zero =>
    have := cntF_mono f i p
    show cntF f (i + p) = cntF f i + _
    omega
  | succ k ih =>
    rw [show i + (k + 1) + p = (i + k + p) + 1 by omega, cntF_succ, ih, show i + (k + 1) = (i + k) + 1 by omega, cntF_succ, h (i + k) (by omega)]
    omega
theorem cntF_rounds {f : Nat → Nat} {i p : Nat} (h : ∀ t, i ≤ t → f (t + p) = f t) (q r : Nat) : cntF f (i + q + r * p) = cntF f (i + q) + r * (cntF f (i + p) - cntF f i) := by
  induction r with
  | zero => simp
  | succ r ih =>
    have := cntF_shift h (q + r * p)
    rw [show i + q + (r + 1) * p = i + (q + r * p) + p by rw [Nat.succ_mul]; omega, this, show i + (q + r * p) = i + q + r * p by omega, ih, Nat.succ_mul]
    omega
/-- by the tick at the beginning, and what is left of a round -/
theorem cntF_far {f : Nat → Nat} {i n t : Nat} (h : ∀ t, i ≤ t → f (t + (n - i)) = f t) (hin : i < n) (ht : i ≤ t) : cntF f t = cntF f (i + (t - i) % (n - i)) + ((t - i) / (n - i)) * (cntF f n - cntF f i) := by
  have e := cntF_rounds h ((t - i) % (n - i)) ((t - i) / (n - i))
  rw [show i + (n - i) = n by omega] at e
  rw [← e]
  congr 1
  have := Nat.div_add_mod (t - i) (n - i)
  rw [Nat.mul_comm] at this
  omega
theorem take_range {α : Type} (f : Nat → α) {n k : Nat} (h : k ≤ n) : ((List.range n).map f).take k = (List.range k).map f := by
  rw [← List.map_take, List.take_range, Nat.min_eq_left h]
theorem sum_drop (f : Nat → Nat) {n i : Nat} (h : i ≤ n) : (((List.range n).map f).drop i).sum = cntF f n - cntF f i := by
  have e : ((List.range n).map f).sum = (((List.range n).map f).take i).sum + (((List.range n).map f).drop i).sum := by
    rw [← List.sum_append, List.take_append_drop]
  rw [take_range f h] at e
  unfold cntF
  omega
theorem range_more {α : Type} (f : Nat → α) (j : Nat) : (List.range (j + 1)).map f = (List.range j).map f ++ [f j] := by rw [List.range_succ, List.map_append]; rfl
theorem filt_succ (f : Nat → Bool) (j : Nat) : (List.range (j + 1)).filter f = (List.range j).filter f ++ (if f j = true then [j] else []) := by
  rw [List.range_succ, List.filter_append]
  congr 1
  by_cases h : f j = true
  · rw [if_pos h, List.filter_cons_of_pos h]; rfl
  · rw [if_neg h, List.filter_cons_of_neg h]; rfl
theorem int_sum (l : List Nat) : (l.map fun n : Nat => (n : Int)).sum = ((l.sum : Nat) : Int) := by
  induction l with
  | nil => rfl
  | cons a l ih => simp only [List.map_cons, List.sum_cons, ih]; push_cast; rfl
/-- from the start i on what is done comes again -/
theorem words_per {x : Pl} {i n : Nat} (h : Cyc x i n) (t : Nat) (ht : i ≤ t) : (tickP x (sitAt x (t + (n - i)))).1 = (tickP x (sitAt x t)).1 := by
  have lt := h.lt
  have e : sitAt x i = sitAt x (i + (n - i)) := by rw [h.eq]; congr 1; omega
  have := sit_shift e (t - i)
  rw [show i + (t - i) = t by omega, show i + (n - i) + (t - i) = t + (n - i) by omega] at this
  rw [this]
end Sb

namespace Sb
open PySem PySem.Spec PyProof.Rows L2 TL
structure spHappens (a : Ad) (K : PySem.W.Frag) (vs : List V) (H : Hp) (Q : VK) (E : XK) : Prop where
  ex : ∃ (G : Hp) (v : V) (x : Pl) (i n t : Nat), vs = [v, .int t] ∧ StoryAt a K G v x i n ∧ Cyc x i n ∧ Same G H ∧ ∀ u, TickAt a K G u (wordsAt x t) (sitAt x (t + 1)) → Q u H
section
variable {P : Program} {w : World} {K : PySem.W.Frag} {mg : Str → Option Value} {base : Heap} {a : Ad}
theorem ok_Story_happens (T : Txt K mg a) : FnOk P w K mg base CX0 3 a.f_Story_happens a.d_Story_happens ["self", "tick"] (spHappens a K) := by
  refine T.F_Story_happens.ok sc_Story_happens (fun vs H Q E h => ?_) (fun cdv A outer s H vs Q E hr h => ?_)
  · obtain ⟨⟨G, v, x, i, n, t, rfl, _⟩⟩ := h
    rfl
  · obtain ⟨⟨G, v, x, i, n, t, rfl, hS, hc, hGH, k⟩⟩ := h
    refine ⟨_, (pss_one (ps_ret (pe_ix ix_list (pe_fld (pv 0) rfl) (pe_ifExp (pt_cmpR op_lt (pv 1) (pe_callB call_len_seq (by rfl) T.z_len (by decide +kernel) (pa_cons (pe_fld (pv 0) rfl) pa_nil)) (nomark _)) (pv 1) (pe_op op_add (pe_fld (pv 0) rfl) (pe_op op_mod (pe_op op_sub (pv 1) (pe_fld (pv 0) rfl)) (pe_prop (pv 0) T.cl_Story T.P_Story_size (ok_Story_size T) (hr.mono (by decide)) (b_Story_size T) .nil pass0 rfl)))) (fun _ _ => rfl)))), ?_⟩
    have hS' := hS.mono hGH
    obtain ⟨y, dy, l, vs, rfl, hy, hl, ht⟩ := hS
    have hy' := hGH _ _ hy
    have lt := hc.lt
    obtain ⟨u, hu, hT⟩ := ht.2 _ (place_lt (t := t) hc)
    rw [place_words hc, place_next hc] at hT
    refine ⟨_, rfl, y, _, dy, _, .ref l, rfl, hy', T.cl_Story, T.n_Story_ticks, (by kernel_rfl), ?_⟩
    refine ⟨_, rfl, _, rfl, y, _, dy, _, .ref l, rfl, hy', T.cl_Story, T.n_Story_ticks, (by kernel_rfl), l, _, rfl, .inl (hGH.seq hl), _, _, rfl, rfl, _, rfl, ?_⟩
    rw [ht.1]
    refine ite2 (fun c => ?_) (fun c => ?_)
    · have c' : t < n := by have := of_decide_eq_true c; omega
      have e : placeP i n t = t := if_pos c'
      rw [e] at hu
      exact ⟨_, rfl, l, _, _, u, rfl, rfl, hGH.seq hl, at_of (j := t) rfl hu, k u hT⟩
    · have c' : ¬ t < n := fun z => c (decide_eq_true (by omega))
      have e : placeP i n t = i + (t - i) % (n - i) := if_neg c'
      rw [e] at hu
      refine ⟨_, rfl, y, _, dy, _, .int i, rfl, hy', T.cl_Story, T.n_Story_start, (by kernel_rfl), ?_⟩
      refine ⟨_, rfl, _, rfl, y, _, dy, _, .int i, rfl, hy', T.cl_Story, T.n_Story_start, (by kernel_rfl), _, _, rfl, rfl, ?_⟩
      refine ⟨_, rfl, y, dy, _, rfl, hy', ⟨⟨_, x, i, n, rfl, hS', ?_⟩⟩⟩
      refine ⟨_, _, rfl, rfl, (by show (0 : Int) < (n : Int) - (i : Int); omega), _, _, rfl, rfl, l, _, _, u, rfl, rfl, hGH.seq hl, at_of (j := i + (t - i) % (n - i)) ?_ hu, k u hT⟩
      rw [show (t : Int) - (i : Int) = ((t - i : Nat) : Int) by omega, show (n : Int) - (i : Int) = ((n - i : Nat) : Int) by omega]
      push_cast
      rfl
end
end Sb

namespace Sb
open PySem PySem.Spec PyProof.Rows L2 TL
structure spCells (K : PySem.W.Frag) (vs : List V) (H : Hp) (Q : VK) (E : XK) : Prop where
  ex : ∃ (src : Str) (G : Hp) (x : Pl) (i n t : Nat), vs = [.str src, .int t] ∧ Told src x i n ∧ t ≤ 1000000000000000000 ∧ Pure G H Q fun G' v => Dp K G' v (natsT (sitAt x (t + 1)).cs)
section
variable {P : Program} {w : World} {K : PySem.W.Frag} {mg : Str → Option Value} {base : Heap} {a : Ad}
theorem ok_cells (T : Txt K mg a) : FnOk P w K mg base CX0 9 a.f_cells a.d_cells ["plan", "tick"] (spCells K) := by
  refine T.F_cells.ok sc_cells (fun vs H Q E h => ?_) (fun cdv A outer s H vs Q E hr h => ?_)
  · obtain ⟨⟨src, G, x, i, n, t, rfl, _⟩⟩ := h
    rfl
  · obtain ⟨⟨src, G, x, i, n, t, rfl, ⟨ld, ok, cy, le⟩, ht, hGH, k⟩⟩ := h
    refine ⟨_, (pss_cons (ps_set (i := 2) sc_cells.nd rfl (Or.inl rfl) (pe_call (ok_load T) (hr.mono (by decide)) rfl T.m_load T.F_load.kp (b_load T) .nil pass0 (pa_cons (pv 0) pa_nil)))
      (pss_cons (ps_expr (pe_call (ok_check_tick T) (hr.mono (by decide)) rfl T.m_check_tick T.F_check_tick.kp (b_check_tick T) .nil pass0 (pa_cons (pv 1) pa_nil)))
      (pss_one (ps_ret (pe_fld (pe_fld (pe_meth (pe_make T.mk_Story (ok_Story_init T) (hr.mono (by decide)) (by rfl) T.m_Story (b_Story_init T) .nil pass0 (pa_cons (pv 2) pa_nil)) T.cl_Story T.M_Story_happens (ok_Story_happens T) (hr.mono (by decide)) (b_Story_happens T) .nil pass0 (pa_cons (pv 1) pa_nil)) rfl) rfl))))), ?_⟩
    refine ⟨_, rfl, ⟨⟨src, G, x, rfl, ld, ok, hGH, fun G1 H1 v1 x1 s1 h1 => ?_⟩⟩⟩
    have B1 := (Pt.start hGH).call x1 s1
    refine ⟨_, rfl, check_go ht ?_⟩
    refine ⟨_, rfl, ?_⟩
    intro y dy ny nd ne
    obtain ⟨yG, sS, hp2⟩ := story_pre B1 h1 ny nd ne
    refine ⟨⟨y, dy, _, _, x, i, n, rfl, upd_same, yG, sS, hp2, ok, cy, le, fun G' H2 l0 vs0 M yG' hy' hl0 ht0 => ⟨rfl, ?_⟩⟩⟩
    obtain ⟨G2, B2, S2, hS⟩ := story_post B1 ny nd ne M yG' hy' hl0 ht0
    obtain ⟨y', dy2, l, vs, eY, hy, hl, hts⟩ := id hS
    cases eY
    refine ⟨y, dy2, _, rfl, B2.s _ _ hy, (by kernel_rfl), _, rfl, ⟨⟨G2, _, x, i, n, t, rfl, hS, cy, B2.s, fun u hu => ?_⟩⟩⟩
    obtain ⟨r, dr, tw, su, rfl, hr1, hr2, ⟨sa, ds, c, nn, b, e, rfl, h3, h4, _⟩⟩ := hu
    refine ⟨r, _, dr, _, .ref sa, rfl, B2.s _ _ hr1, T.cl_Tick, T.n_Tick_state, (by kernel_rfl), sa, _, ds, _, .ref c, rfl, B2.s _ _ h3, T.cl_State, T.n_State_cells, (by kernel_rfl), ?_⟩
    exact k _ _ _ B2.ext B2.sm (.tup h4 (nats_D' _))
end
end Sb

namespace Sb
open PySem PySem.Spec PyProof.Rows L2 TL
structure spBoxes (K : PySem.W.Frag) (vs : List V) (H : Hp) (Q : VK) (E : XK) : Prop where
  ex : ∃ (src : Str) (G : Hp) (x : Pl) (i n t : Nat), vs = [.str src, .int t] ∧ Told src x i n ∧ t ≤ 1000000000000000000 ∧ Same G H ∧ ∀ G1 H1 p, Pt G H G1 H1 → H1 p = none → Q (.ref p) (upd H1 p (.lst (nV (sitAt x (t + 1)).sh)))
section
variable {P : Program} {w : World} {K : PySem.W.Frag} {mg : Str → Option Value} {base : Heap} {a : Ad}
theorem ok_boxes (T : Txt K mg a) : FnOk P w K mg base CX0 9 a.f_boxes a.d_boxes ["plan", "tick"] (spBoxes K) := by
  refine T.F_boxes.ok sc_boxes (fun vs H Q E h => ?_) (fun cdv A outer s H vs Q E hr h => ?_)
  · obtain ⟨⟨src, G, x, i, n, t, rfl, _⟩⟩ := h
    rfl
  · obtain ⟨⟨src, G, x, i, n, t, rfl, ⟨ld, ok, cy, le⟩, ht, hGH, k⟩⟩ := h
    refine ⟨_, (pss_cons (ps_set (i := 2) sc_boxes.nd rfl (Or.inl rfl) (pe_call (ok_load T) (hr.mono (by decide)) rfl T.m_load T.F_load.kp (b_load T) .nil pass0 (pa_cons (pv 0) pa_nil)))
      (pss_cons (ps_expr (pe_call (ok_check_tick T) (hr.mono (by decide)) rfl T.m_check_tick T.F_check_tick.kp (b_check_tick T) .nil pass0 (pa_cons (pv 1) pa_nil)))
      (pss_one (ps_ret (pe_callTy call_list_of (by rfl) T.z_list (by decide +kernel) (pa_cons (pe_fld (pe_fld (pe_meth (pe_make T.mk_Story (ok_Story_init T) (hr.mono (by decide)) (by rfl) T.m_Story (b_Story_init T) .nil pass0 (pa_cons (pv 2) pa_nil)) T.cl_Story T.M_Story_happens (ok_Story_happens T) (hr.mono (by decide)) (b_Story_happens T) .nil pass0 (pa_cons (pv 1) pa_nil)) rfl) rfl) pa_nil)))))), ?_⟩
    refine ⟨_, rfl, ⟨⟨src, G, x, rfl, ld, ok, hGH, fun G1 H1 v1 x1 s1 h1 => ?_⟩⟩⟩
    have B1 := (Pt.start hGH).call x1 s1
    refine ⟨_, rfl, check_go ht ?_⟩
    refine ⟨_, rfl, ?_⟩
    intro y dy ny nd ne
    obtain ⟨yG, sS, hp2⟩ := story_pre B1 h1 ny nd ne
    refine ⟨⟨y, dy, _, _, x, i, n, rfl, upd_same, yG, sS, hp2, ok, cy, le, fun G' H2 l0 vs0 M yG' hy' hl0 ht0 => ⟨rfl, ?_⟩⟩⟩
    obtain ⟨G2, B2, S2, hS⟩ := story_post B1 ny nd ne M yG' hy' hl0 ht0
    obtain ⟨y', dy2, l, vs, eY, hy, hl, hts⟩ := id hS
    cases eY
    refine ⟨y, dy2, _, rfl, B2.s _ _ hy, (by kernel_rfl), _, rfl, ⟨⟨G2, _, x, i, n, t, rfl, hS, cy, B2.s, fun u hu => ?_⟩⟩⟩
    obtain ⟨r, dr, tw, su, rfl, hr1, hr2, ⟨sa, ds, c, nn, b, e, rfl, h3, h4, h5, h6, h7⟩⟩ := hu
    refine ⟨r, _, dr, _, .ref sa, rfl, B2.s _ _ hr1, T.cl_Tick, T.n_Tick_state, (by kernel_rfl), sa, _, ds, _, .ref e, rfl, B2.s _ _ h3, T.cl_State, T.n_State_shelf, (by kernel_rfl), ?_⟩
    exact ⟨e, _, rfl, .inr (Same.seqT B2.s h7), fun p hp => k _ _ p B2 hp⟩
end
end Sb

namespace Sb
open PySem PySem.Spec PyProof.Rows L2 GenW
/-! ### for within a generator def -/
section
variable {M : Model} {A : Around} {R : GenEnd} {Y : Protocol} {n : Nat} {s₀ : Shared} {c : Code} {fs : List Frame} {s : Shared} {env : Env}
  {K : Flow → Sem PySem.Fin} {J : Value → Sem PySem.Fin} {gd : Bool → Bool} {lv : List Value → List Value}
theorem seg_For {tg iter : Expr} {body orelse : List Stmt} {pos : Pos}
    (h : wpAny M (A.over c fs) (eval iter env) (fun x s₁ => wpAny M (A.over c fs) (pyIter x) (fun it s₂ =>
      ∀ p, Seg M A R Y n s₀ (.forLoop tg it body orelse env) (M.den (.forLoop tg it body orelse env))
        (.ret (fun r => ((match r with | .ok f => (.pure f : Sem Flow) | .error e => .raise e).onRaise (cameBack env)).wrap K J gd lv) none (gd false) (lv []) c p [] :: fs) s₂)
        (fun x s' => Seg M A R Y n s₀ c (J x) fs s') s₁) (fun x s' => Seg M A R Y n s₀ c (J x) fs s') s)
    (hs : ∀ x, foldedSetIterable iter env x = pure x := by intro _; rfl) :
    Seg M A R Y n s₀ c ((exec (.For tg iter body orelse pos) env).wrap K J gd lv) fs s := by
  rw [exec_For]
  refine seg_bind_wrap (wpAny_standAt ?_)
  refine seg_bind_wrap (wpAny_mono h (fun x s₁ h₁ => ?_) fun _ _ z => z)
  refine seg_bind_wrap (wpAny_of_eq (hs x) ?_)
  refine seg_bind_wrap (wpAny_standAt ?_)
  refine seg_bind_wrap (wpAny_holding (wpAny_mono h₁ (fun it s₂ h₂ => ?_) fun _ _ z => z))
  exact seg_call h₂
end
section
variable {prog : Program} {w : World} {A : Around} {R : GenEnd} {Y : Protocol} {n : Nat} {s₀ : Shared} {fs : List Frame} {s : Shared} {env : Env}
abbrev errT (env : Env) (e : Value) : Sem PySem.Fin := (do noteFrame e env; theTreesLotGoes e : Sem Unit).wrap (fun _ => .raise e) .raise id id
theorem seg_forLoop {tg : Expr} {it : Value} {body orelse : List Stmt}
    (h : wpAny (model prog w) (A.over (.forLoop tg it body orelse env) fs) (pyNext it) (fun r s₁ => match r with
      | none => Seg (model prog w) A R Y n s₀ (.forLoop tg it body orelse env) (.pure (.again (.block orelse env))) fs s₁
      | some v => wpAny (model prog w) (A.over (.forLoop tg it body orelse env) fs) (letOwnedTupleGo tg it v) (fun _ s₂ =>
          wpAny (model prog w) (A.over (.forLoop tg it body orelse env) fs) (assign tg env v) (fun _ s₃ =>
            Seg (model prog w) A R Y n s₀ (.forLoop tg it body orelse env) ((execs body env).wrap (fun f => match f with
              | .next | .cont => .pure (.again (.forLoop tg it body orelse env))
              | .brk => .pure (.done .next)
              | .ret v => .pure (.done (.ret v))) (errT env) id id) fs s₃)
            (fun x s' => Seg (model prog w) A R Y n s₀ (.forLoop tg it body orelse env) (errT env x) fs s') s₂)
          (fun x s' => Seg (model prog w) A R Y n s₀ (.forLoop tg it body orelse env) (errT env x) fs s') s₁)
      (fun x s' => Seg (model prog w) A R Y n s₀ (.forLoop tg it body orelse env) (errT env x) fs s') s) :
    Seg (model prog w) A R Y n s₀ (.forLoop tg it body orelse env) ((model prog w).den (.forLoop tg it body orelse env)) fs s := by
  show Seg _ A R Y n s₀ _ ((forTurn tg it body orelse env).onRaise (fun x => do noteFrame x env; theTreesLotGoes x)) fs s
  have ee : ∀ x s', Seg (model prog w) A R Y n s₀ (.forLoop tg it body orelse env) (errT env x) fs s' → Seg (model prog w) A R Y n s₀ (.forLoop tg it body orelse env) ((do noteFrame x env; theTreesLotGoes x : Sem Unit).bind fun _ => .raise x) fs s' := fun x s' h => by
    rw [Sem.bind_eq_wrap]; exact h
  unfold forTurn
  rw [Sem.onRaise_eq_wrap]
  refine seg_bind_wrap (wpAny_standAt ?_)
  refine seg_bind_wrap (wpAny_onRaise (wpAny_mono h (fun r s₁ h₁ => ?_) fun x s' z => wpAny_standAt (ee x s' z)))
  cases r with
  | none => exact h₁
  | some v =>
    refine seg_bind_wrap (wpAny_mono h₁ (fun _ s₂ h₂ => ?_) fun x s' z => ee x s' z)
    refine seg_bind_wrap (wpAny_mono h₂ (fun _ s₃ h₃ => ?_) fun x s' z => ee x s' z)
    show Seg _ A R Y n s₀ _ (Sem.wrap _ _ _ _ (execs body env >>= _)) fs s₃
    rw [Sem.bind_eq_wrap', Sem.wrap_wrap]
    rw [Sem.wrap_congr (execs body env) _ _ (K' := fun f => match f with
            | .next | .cont => .pure (.again (.forLoop tg it body orelse env))
            | .brk => .pure (.done .next)
            | .ret v => .pure (.done (.ret v))) (H' := errT env)
        (fun f => by cases f <;> rfl)
        (fun e => by first | exact Sem.bind_eq_wrap _ _ | (show (do noteFrame e env; theTreesLotGoes e : Sem Unit).bind (fun _ => .raise e) = _; rw [Sem.bind_eq_wrap]))]
    exact h₃
end
section
variable {X : Cx} {tg : Expr}
def tGFor (wi : TI) (g : TG) (tb : TGn) : TGn := fun D ys σ H => wi σ H fun J H1 => ∃ W : Nat → Nat → List V → L2.St → Hp → Prop, (∃ m, W 0 m ys σ H1) ∧ ∀ i m ys σ H, W i m ys σ H →
  (J.stop i H ∧ D.nx ys σ H) ∨ (J.go i H ∧ ∃ N : List V → L2.St → Hp → Prop, (∀ ys' σ' H', N ys' σ' H' → ∃ m', m' < m ∧ W (i + 1) m' ys' σ' H') ∧ ∀ x H', J.yld i H x H' → g x σ H' fun σ2 H2 => tb { D with nx := N, ct := N, bk := D.nx } ys σ2 H2)
theorem gs_for {iter : Expr} {body : List Stmt} {wi : TI} {g : TG} {tb : TGn} {pos : Pos} (hp : PassesOwn (model X.prog X.w) X.A X.env X.xe) (hc : X.calm = true) (hi : PI X tg iter wi) (hg : PG X tg g) (hb : GSs X body tb)
    (hs : ∀ x, foldedSetIterable iter X.env x = pure x := by intro _; rfl) : GS X (.For tg iter body [] pos) (tGFor wi g tb) := by
  refine ⟨fun A S ip R n ys s₀ c fs K J gd lv s σ H D gc hn k hI ht => ?_⟩
  obtain ⟨acc0, cc0, r0, I0⟩ := hI
  refine seg_For ?_ hs
  rw [gc.over]
  refine wpAny_mono (hi.run _ s σ H _ I0 ht) (fun v s1 h1 => wpAny_mono h1 (fun itv s2 h2 => ?_) fun x s' hx => k.exc n s₀ x s' hx) fun x s' hx => k.exc n s₀ x s' hx
  intro p
  obtain ⟨it, fp, tn, JJ, H2, e, I2, T, st2, f2, W, ⟨m0, w0⟩, turn⟩ := h2
  subst e
  have gl := fun (kk : Result → Sem PySem.Fin) => gc_loop (k := kk) (c' := .forLoop tg (.ref it) body [] X.env) (l := lv []) (kp := []) (p := p) gc rfl rfl
  have stat : ∀ {H' : Hp} {acc : Array Value} {cc : Nat}, (∀ b ∈ fp, H' b = none) → ∀ b ∈ fp, FpOk X ((S, lstObj acc cc) :: ip) H' b := fun {H' acc cc} hn b hb => by
    obtain ⟨f0, f1, f3, f4, f5, f6⟩ := f2 b hb
    refine ⟨hn b hb, f1, f3, f4, f5, fun q hq => ?_⟩
    rcases List.mem_append.mp hq with hq | hq
    · exact f6 q (List.mem_append_left _ hq)
    · rcases List.mem_cons.mp hq with hq | hq
      · rw [hq]; exact f6 (S, lstObj acc0 cc0) (List.mem_append_right _ List.mem_cons_self)
      · exact f6 q (List.mem_append_right _ (List.mem_cons_of_mem _ hq))
  have fpS : ∀ b ∈ fp, b ≠ S := fun b hb e => by
    obtain ⟨_, _, _, _, _, f6⟩ := f2 b hb
    exact f6 (S, lstObj acc0 cc0) (List.mem_append_right _ List.mem_cons_self) e.symm
  have loop : ∀ (m i n : Nat) (ys : List V) (s₀ s : Shared) (σ : L2.St) (H : Hp), n + ys.length = sizeLine → W i m ys σ H → GI X S ip ys σ H s → tn i s.heap → (∀ b ∈ fp, H b = none) →
      Seg (model X.prog X.w) A R (GY X S) n s₀ (.forLoop tg (.ref it) body [] X.env) ((model X.prog X.w).den (.forLoop tg (.ref it) body [] X.env))
        (.ret (fun r => ((match r with | .ok f => (.pure f : Sem Flow) | .error e => .raise e).onRaise (cameBack X.env)).wrap K J gd lv) none (gd false) (lv []) c p [] :: fs) s := by
    intro m
    induction m using Nat.strongRecOn with
    | ind m ih =>
      intro i n ys s₀ s σ H hn w hI st fr
      have ee : ∀ (n : Nat) (s₀ : Shared) (x : Value) (s' : Shared), X.xe x s' → Seg (model X.prog X.w) A R (GY X S) n s₀ (.forLoop tg (.ref it) body [] X.env)
          (errT X.env x)
          (.ret (fun r => ((match r with | .ok f => (.pure f : Sem Flow) | .error e => .raise e).onRaise (cameBack X.env)).wrap K J gd lv) none (gd false) (lv []) c p [] :: fs) s' := fun n s₀ x s' hx => by
        refine seg_wrap ?_
        rw [(gl _).over]
        refine wpAny_bind (wpAny_mono (hp x s' hx) (fun _ s'' hcb => wpAny_theTreesLotGoes ?_) fun y s'' hcb => ?_)
        · exact seg_leaf (.error x) (seg_cameBack gc k hcb)
        · exact seg_leaf (.error y) (seg_cameBack gc k hcb)
      refine seg_forLoop ?_
      rw [(gl _).over]
      obtain ⟨acc, cc, r, I⟩ := hI
      rcases turn i m ys σ H w with ⟨stop, qn⟩ | ⟨go, N, hN, step⟩
      · refine wpAny_mono (T.done X rfl rfl rfl hc i _ s σ H X.xe I (stat fr) st stop) (fun r' s4 ⟨hr, I4⟩ => ?_) fun x s' hx => ee n s₀ x s' hx
        subst hr
        refine seg_again rfl ?_
        exact seg_leaf (.ok .next) (k.ok n ys s₀ s4 .next hn ⟨σ, H, ⟨acc, cc, r, I4⟩, qn⟩)
      · refine wpAny_mono (T.item X rfl rfl rfl hc i _ s σ H X.xe I (stat fr) st go) (fun r' s4 ⟨u, hr, h4⟩ => ?_) fun x s' hx => ee n s₀ x s' hx
        subst hr
        refine wpAny_mono h4 (fun _ s5 ⟨x, H5, I5, r5, y5, st5, fr5⟩ => ?_) fun x s' hx => ee n s₀ x s' hx
        have I5' := I5.pinned (stat fr5) (T.obj _ _ st5)
        refine wpAny_mono (hg.run _ s5 σ H5 x u _ I5' r5 (step x H5 y5)) (fun _ s6 ⟨σ6, H6, I6, q6⟩ => ?_) fun x s' hx => ee n s₀ x s' hx
        have ipf : ∀ q ∈ ip ++ pinsAt fp s5.heap, q.1 ≠ S := fun q hq => by
          rcases List.mem_append.mp hq with hq | hq
          · exact gc.ip q hq
          · exact fpS _ (of_pinsAt hq).1
        have gl' : GC X S (ip ++ pinsAt fp s5.heap) A (.forLoop tg (.ref it) body [] X.env) (.ret (fun r => ((match r with | .ok f => (.pure f : Sem Flow) | .error e => .raise e).onRaise (cameBack X.env)).wrap K J gd lv) none (gd false) (lv []) c p [] :: fs) id :=
          { gl _ with ip := ipf }
        have again : ∀ {n' : Nat} {ys' : List V} {s₀' s7 : Shared} {σ7 : L2.St} {H7 : Hp}, n' + ys'.length = sizeLine → GI X S (ip ++ pinsAt fp s5.heap) ys' σ7 H7 s7 → N ys' σ7 H7 →
            Seg (model X.prog X.w) A R (GY X S) n' s₀' (.forLoop tg (.ref it) body [] X.env) (.pure (.again (.forLoop tg (.ref it) body [] X.env)))
              (.ret (fun r => ((match r with | .ok f => (.pure f : Sem Flow) | .error e => .raise e).onRaise (cameBack X.env)).wrap K J gd lv) none (gd false) (lv []) c p [] :: fs) s7 := fun {n' ys' s₀' s7 σ7 H7} hn' I7 n7 => by
          obtain ⟨m', hm, w7⟩ := hN ys' σ7 H7 n7
          obtain ⟨acc7, cc7, r7, I7⟩ := I7
          have pin : ∀ b ∈ fp, ∀ o, s5.heap.get? b = some o → s7.heap.get? b = some o ∧ H7 b = none := fun b hb o e => by
            have := I7.pin (b, o) (List.mem_append_right _ (List.mem_cons_of_mem _ (List.mem_append_right _ (mem_pinsAt hb e))))
            exact ⟨this.1, this.2.1⟩
          refine seg_again rfl (ih m' hm (i + 1) n' ys' s₀' s7 σ7 H7 hn' w7 ⟨acc7, cc7, r7, Inv.unpinned (pins := (S, lstObj acc7 cc7) :: ip) I7⟩ (T.keep _ _ _ st5 fun b hb o e => (pin b hb o e).1) fun b hb => ?_)
          obtain ⟨o, e, _⟩ := T.obj _ _ st5 b hb
          exact (pin b hb o e).2
        have un : ∀ {ys' : List V} {s7 : Shared} {σ7 : L2.St} {H7 : Hp}, GI X S (ip ++ pinsAt fp s5.heap) ys' σ7 H7 s7 → GI X S ip ys' σ7 H7 s7 := fun {ys' s7 σ7 H7} I7 => by
          obtain ⟨acc7, cc7, r7, I7⟩ := I7
          exact ⟨acc7, cc7, r7, Inv.unpinned (pins := (S, lstObj acc7 cc7) :: ip) I7⟩
        refine hb.run A S _ R n ys s₀ _ _ _ _ id id s6 σ6 H6 { D with nx := N, ct := N, bk := D.nx } gl' hn ⟨fun n' ys' s₀' s7 f hn' q7 => ?_, fun n' s₀' x s7 hx => ee n' s₀' x s7 hx⟩ ⟨acc, cc, r, I6⟩ q6
        cases f with
        | next => obtain ⟨σ7, H7, I7, n7⟩ := q7; exact again hn' I7 n7
        | cont => obtain ⟨σ7, H7, I7, n7⟩ := q7; exact again hn' I7 n7
        | brk => obtain ⟨σ7, H7, I7, q7⟩ := q7; exact seg_leaf (.ok .next) (k.ok n' ys' s₀' s7 .next hn' ⟨σ7, H7, un I7, q7⟩)
        | ret v => obtain ⟨x7, σ7, H7, I7, r7, q7⟩ := q7; exact seg_leaf (.ok (.ret v)) (k.ok n' ys' s₀' s7 (.ret v) hn' ⟨x7, σ7, H7, un I7, r7, q7⟩)
  exact loop m0 0 n ys s₀ s2 σ H2 hn w0 ⟨acc0, cc0, r0, I2⟩ st2 fun b hb => (f2 b hb).1
/-- over a range -/
theorem gfor_range {lo : Int} {n : Nat} {g : TG} {tb : TGn} {D : GEnds} {ys : List V} {σ : L2.St} {H : Hp} (Pv : Nat → List V → L2.St → Hp → Prop) (h0 : Pv 0 ys σ H)
    (hs : ∀ i ys σ H, i < n → Pv i ys σ H → g (.int (lo + i)) σ H fun σ2 H2 => tb { D with nx := Pv (i + 1), ct := Pv (i + 1), bk := D.nx } ys σ2 H2) (hd : ∀ ys σ H, Pv n ys σ H → D.nx ys σ H) :
    ∃ W : Nat → Nat → List V → L2.St → Hp → Prop, (∃ m, W 0 m ys σ H) ∧ ∀ i m ys σ H, W i m ys σ H →
      ((Itr lo n).stop i H ∧ D.nx ys σ H) ∨ ((Itr lo n).go i H ∧ ∃ N : List V → L2.St → Hp → Prop, (∀ ys' σ' H', N ys' σ' H' → ∃ m', m' < m ∧ W (i + 1) m' ys' σ' H') ∧ ∀ x H', (Itr lo n).yld i H x H' → g x σ H' fun σ2 H2 => tb { D with nx := N, ct := N, bk := D.nx } ys σ2 H2) := by
  refine ⟨fun i m ys σ H => m = n - i ∧ i ≤ n ∧ Pv i ys σ H, ⟨n, by simp, Nat.zero_le _, h0⟩, ?_⟩
  rintro i m ys σ H ⟨rfl, hi, p⟩
  by_cases hlt : i < n
  · refine .inr ⟨hlt, Pv (i + 1), fun ys' σ' H' p' => ⟨n - (i + 1), by omega, rfl, hlt, p'⟩, fun x H' y => ?_⟩
    obtain ⟨e, e'⟩ := y
    subst e
    subst e'
    exact hs i ys σ _ hlt p
  · have e : i = n := by omega
    subst e
    exact .inl ⟨Nat.le_refl _, hd ys σ H p⟩
end
end Sb

namespace Sb
open PySem PySem.Spec PyProof.Rows L2 TL
/-! ### a generator def -/
section
variable {P : Program} {w : World} {K : PySem.W.Frag} {mg : Str → Option Value} {base : Heap}
theorem fun_gok {x qual : Str} {st : Stmt} {f : Addr} {fd : FuncData} {N ps : List Str} {k : Nat} {sp : SpG} (F : L2.Fun K x qual st f fd) (S : GScope N ps (defScope st)) (len : ∀ vs H Q E, sp vs H Q E → vs.length = ps.length)
    (hbody : ∀ (cdv : Value) (A : Around) (outer : List Env) (s : Shared) (H : Hp) (vs : List V) (Q : List V → Hp → Prop) (E : XK) (pn : List (Addr × Obj)), Room k (A.deeper (envOfC qual (defScope st) s.heap.objs.size f cdv)) → sp vs H Q E →
      ∃ t, GSs (gcxOf P w K mg base N qual (defScope st) f cdv A outer s H E pn) (defBody st) t ∧ t { nx := fun ys _ H' => Q ys H', rt := fun ys v H' => v = .non ∧ Q ys H' } [] (start N vs) H) : GFn P w K mg base (k + 1) f fd ps sp := by
  obtain ⟨oc, od, kV, doc, pm, an, cdv, ct, osl, rfl, lk, hcd⟩ := F.ex
  exact gfn_of lk hcd S len fun A outer s H vs Q E pn hr hsp => hbody cdv A outer s H vs Q E pn hr hsp
end
def rowD (x : Pl) (t : Nat) : PyData := .tuple [natD t, .str (doS (wordsAt x t).1), .str (doS (wordsAt x t).2)]
structure spTrace (K : PySem.W.Frag) (vs : List V) (H : Hp) (Q : List V → Hp → Prop) (E : XK) : Prop where
  ex : ∃ (src : Str) (G : Hp) (x : Pl) (i n t m : Nat), vs = [.str src, .int t, .int ((t : Int) + (m : Int) - 1)] ∧ Told src x i n ∧ t ≤ 1000000000000000000 ∧ m ≤ 500 ∧ t + m ≤ 1000000000000000001 ∧ Same G H ∧
    ∀ (G' H' : Hp) (ys : List V), Pt G H G' H' → DpAll K G' ys ((List.range m).map fun k => rowD x (t + k)) → Q ys H'
section
variable {P : Program} {w : World} {K : PySem.W.Frag} {mg : Str → Option Value} {base : Heap} {a : Ad}
theorem ok_trace (T : Txt K mg a) : GFn P w K mg base 9 a.f_trace a.d_trace ["plan", "first", "last"] (spTrace K) := by
  refine fun_gok T.F_trace sc_trace (fun vs H Q E h => ?_) (fun cdv A outer s H vs Q E pn hr h => ?_)
  · obtain ⟨⟨src, G, x, i, n, t, m, rfl, _⟩⟩ := h
    rfl
  · obtain ⟨⟨src, G, x, i, n, t, m, rfl, ⟨ld, ok, cy, le⟩, ht, hm, htm, hGH, k⟩⟩ := h
    refine ⟨_, (gss_cons (gs_ps (ps_set (i := 3) sc_trace.nd rfl (Or.inl rfl) (pe_call (ok_load T) (hr.mono (by decide)) rfl T.m_load T.F_load.kp (b_load T) .nil pass0 (pa_cons (pv 0) pa_nil))))
      (gss_cons (gs_ps (ps_expr (pe_call (ok_check_tick T) (hr.mono (by decide)) rfl T.m_check_tick T.F_check_tick.kp (b_check_tick T) .nil pass0 (pa_cons (pv 1) pa_nil))))
      (gss_cons (gs_ps (ps_if (pt_not (pt_val (pe_call (ok_is_int_in T) (hr.mono (by decide)) rfl T.m_is_int_in T.F_is_int_in.kp (b_is_int_in T) .nil pass0 (pa_cons (pv 2) (pa_cons (pe_op op_sub (pv 1) pe_int) (pa_cons (pe_callB (call_min2 rfl) (by rfl) T.z_min (by decide +kernel) (pa_cons (pe_glob (v := V.int 1000000000000000000) rfl T.c_MAX_TICK ⟨_, rfl⟩) (pa_cons (pe_op op_sub (pe_op op_add (pv 1) (pe_glob (v := V.int 500) rfl T.c_MAX_TRACE ⟨_, rfl⟩)) pe_int) pa_nil))) pa_nil)))))) pss_never pss_nil))
      (gss_cons (gs_ps (ps_set (i := 4) sc_trace.nd rfl (Or.inl rfl) (pe_make T.mk_Story (ok_Story_init T) (hr.mono (by decide)) (by rfl) T.m_Story (b_Story_init T) .nil pass0 (pa_cons (pv 3) pa_nil))))
      (gss_cons (gs_for owns_gcx rfl (pi_range2 (by rfl) T.z_range (pa_cons (pv 1) (pa_cons (pe_op op_add (pv 2) pe_int) pa_nil))) (pg_name (i := 5) sc_trace.nd rfl (Or.inl rfl)) (gss_cons (gs_yield (pe_tup (pa_cons (pv 5) (StX.pa_star (pe_fld (pe_meth (pv 4) T.cl_Story T.M_Story_happens (ok_Story_happens T) (hr.mono (by decide)) (b_Story_happens T) .nil pass0 (pa_cons (pv 5) pa_nil)) rfl) pa_nil))))
      gss_nil))
      gss_nil))))), ?_⟩
    refine ⟨_, rfl, ⟨⟨src, G, x, rfl, ld, ok, hGH, fun G1 H1 v1 x1 s1 h1 => ?_⟩⟩⟩
    have B1 := (Pt.start hGH).call x1 s1
    refine ⟨_, rfl, check_go ht ?_⟩
    refine ⟨_, rfl, _, rfl, _, _, rfl, rfl, _, rfl, _, _, rfl, rfl, _, _, rfl, rfl, _, _, rfl, ?_⟩
    refine isint_go (by omega) ?_ ⟨_, rfl, ite_f rfl ?_⟩
    · split <;> omega
    refine ⟨_, rfl, ?_⟩
    intro y dy ny nd ne
    obtain ⟨yG, sS, hp2⟩ := story_pre B1 h1 ny nd ne
    refine ⟨⟨y, dy, _, _, x, i, n, rfl, upd_same, yG, sS, hp2, ok, cy, le, fun G' H2 l0 vs0 M yG' hy' hl0 ht0 => ⟨rfl, ?_⟩⟩⟩
    obtain ⟨G2, B2, S2, hS⟩ := story_post B1 ny nd ne M yG' hy' hl0 ht0
    refine ⟨_, rfl, _, rfl, _, _, rfl, rfl, _, _, rfl, ⟨by omega, by omega, by omega, by omega⟩, ?_⟩
    have em : ((t : Int) + (m : Int) - 1 + 1 - (t : Int)).toNat = m := by omega
    rw [em]
    refine gfor_range (lo := (t : Int)) (n := m) (fun j ys σ H' => ∃ (G' : Hp) (v5 : Option V), σ = [some (.str src), some (.int t), some (.int ((t : Int) + (m : Int) - 1)), some v1, some (.ref y), v5] ∧ Pt G H G' H' ∧ StoryAt a K G' (.ref y) x i n ∧ ys.length = j ∧ DpAll K G' ys ((List.range j).map fun k => rowD x (t + k))) ?_ ?_ ?_
    · exact ⟨G2, none, rfl, B2, hS, rfl, .nil⟩
    · rintro j ys σ H' hj ⟨G', v5, rfl, B3, hS3, hys, hD⟩
      obtain ⟨y', dy2, l, vs, eY, hy, hl, hts⟩ := id hS3
      cases eY
      refine ⟨smaller 500 (by omega) (by decide), ?_⟩
      refine ⟨_, rfl, _, rfl, y, dy2, _, rfl, B3.s _ _ hy, (by kernel_rfl), _, rfl, ⟨⟨G', _, x, i, n, t + j, by push_cast; rfl, hS3, cy, B3.s, fun u hu => ?_⟩⟩⟩
      obtain ⟨r, dr, tw, su, rfl, hr1, hr2, _⟩ := hu
      refine ⟨r, _, dr, _, .ref tw, rfl, B3.s _ _ hr1, T.cl_Tick, T.n_Tick_words, (by kernel_rfl), tw, _, rfl, .inl (Same.seqT B3.s hr2), (by show 3 ≤ sizeLine; decide), fun p hp => ?_⟩
      have B4 := B3.new hp (.tup [.int ((t : Int) + (j : Int)), .str (doS (wordsAt x (t + j)).1), .str (doS (wordsAt x (t + j)).2)])
      have g4 := same_new (o := .tup [.int ((t : Int) + (j : Int)), .str (doS (wordsAt x (t + j)).1), .str (doS (wordsAt x (t + j)).2)]) (B3.freeG hp)
      refine ⟨_, _, rfl, B4, hS3.mono g4, by rw [List.length_append, hys]; rfl, ?_⟩
      rw [range_more]
      refine DpAll.snoc (Dp.monoAll g4 _ _ hD) (.tup (SqT.of upd_same) (.cons ?_ (.cons (.str _) (.cons (.str _) .nil))))
      have e : natD (t + j) = .int ((t : Int) + (j : Int)) := by unfold natD; push_cast; rfl
      rw [e]
      exact .int _
    · rintro ys σ H' ⟨G', v5, rfl, B3, hS3, hys, hD⟩
      exact k G' H' ys B3 hD
end
end Sb

namespace Sb
open PySem PySem.Spec PyProof.Rows L2 GenW
/-! ### a generator def whose consumer keeps objects of its own: pins that change while the generator sleeps -/
abbrev Pn := List (Addr × Obj)
abbrev Rws := List (List V)
structure Dozed (cp cq : Pn) (s s' : Shared) : Prop where
  os : s'.os = s.os
  bare : AllBare s'.gens
  keep : ∀ b o, (∀ p ∈ cp, p.1 ≠ b) → s.heap.get? b = some o → s'.heap.get? b = some o
  pin : ∀ p ∈ cq, s'.heap.get? p.1 = some p.2 ∧ (∀ v, p.2.data ≠ .cell v) ∧ ((∃ o, (p.1, o) ∈ cp) ∨ s.heap.objs.size ≤ p.1)
structure Away (X : Cx) (ip : Pn) (b : Addr) : Prop where
  young : X.s_0.heap.objs.size ≤ b
  loc : b ≠ X.env.locals
  cell : ∀ x c, X.env.cells.lookup x = some c → c ≠ b
  pins : ∀ q ∈ X.pn ++ ip, q.1 ≠ b
section
variable {X : Cx} {CS : Rws → Pn → Prop} {ip cp cq : Pn} {rs : Rws} {row : List V} {σ : L2.St} {H : Hp} {s s' : Shared}
def HI (X : Cx) (CS : Rws → Pn → Prop) (ip : Pn) (rs : Rws) (σ : L2.St) (H : Hp) (s : Shared) : Prop :=
  ∃ cp, CS rs cp ∧ (∀ p ∈ cp, Away X ip p.1) ∧ Inv X (cp ++ ip) σ H s
theorem inv_drop (I : Inv X (cp ++ ip) σ H s) : Inv X ip σ H s := I.pins_of fun p hp => I.pin p (List.mem_append_right _ (List.mem_append_right _ hp))
theorem inv_young (I : Inv X ip σ H s) {b : Addr} (hb : s.heap.objs.size ≤ b) : Away X ip b where
  young := Nat.le_trans I.sz hb
  loc := Nat.ne_of_gt (Nat.lt_of_lt_of_le I.lt hb)
  cell := fun x c e z => by
    obtain ⟨v, o, ho, _⟩ := I.cell x c e
    have h1 := Heap.lt_size ho
    rw [z] at h1
    exact absurd (Nat.lt_of_lt_of_le h1 hb) (Nat.lt_irrefl _)
  pins := fun q hq z => by
    have h1 := Heap.lt_size (I.pin q hq).1
    rw [z] at h1
    exact absurd (Nat.lt_of_lt_of_le h1 hb) (Nat.lt_irrefl _)
theorem HI.woken (I : Inv X (cp ++ ip) σ H s) (aw : ∀ p ∈ cp, Away X ip p.1) (z : Dozed cp cq s s') (hc : CS (rs ++ [row]) cq) : HI X CS ip (rs ++ [row]) σ H s' := by
  have I0 := inv_drop I
  have none_cp : ∀ p ∈ cp, H p.1 = none := fun p hp => (I.pin p (List.mem_append_right _ (List.mem_append_left _ hp))).2.1
  have pincp : ∀ p ∈ cp, p.1 ≠ X.env.locals ∧ p.1 ∉ X.fs := fun p hp => ⟨(I.pin p (List.mem_append_right _ (List.mem_append_left _ hp))).2.2.1, (I.pin p (List.mem_append_right _ (List.mem_append_left _ hp))).2.2.2.1⟩
  have tr : ∀ b u, H b = some u → ∀ p ∈ cp, p.1 ≠ b := fun b u q p hp e => by
    have := none_cp p hp
    rw [e, q] at this
    cases this
  obtain ⟨z1, z2, z3, z4⟩ := z
  obtain ⟨hh, g, d, t, o⟩ := s'
  have ho : o = s.os := z1
  subst ho
  have off : ∀ b, b ∉ cp.map (·.1) → ∀ p ∈ cp, p.1 ≠ b := fun b hb p hp e => hb (e ▸ List.mem_map_of_mem hp)
  have J : Inv X ip σ H { s with heap := hh, gens := g, drawn := d, toks := t } := by
    refine I0.step (g' := g) (t' := t) (d' := d) (ch := cp.map (·.1)) (fun b hb => ?_) (fun b ob _ _ hc q _ => z3 b ob (off b hc) q) (fun b ob _ _ hc q _ => ⟨ob.slots, z3 b ob (off b hc) q⟩)
      (fun _ _ _ _ n => n) (fun b ob hc q => ⟨ob, z3 b ob (off b hc) q⟩) (fun _ _ q => q) (fun _ _ _ q => q) (fun b ps q => ⟨#[], by rw [q]; simp⟩) (fun m hm => ?_) (fun b u q => ?_) z2
    · obtain ⟨p, hp, rfl⟩ := List.mem_map.mp hb
      have a := aw p hp
      exact ⟨.inr a.young, a.loc, a.cell, a.pins⟩
    · obtain ⟨ob, es, ep, ho, r⟩ := hm
      exact ⟨ob, es, ep, z3 _ ob (fun p hp => (aw p hp).loc) ho, r⟩
    · refine (I0.hok b u q).stay (fun c v hc y => z3 c v ?_ y) (fun _ y => y) fun _ _ y => y
      rcases hc with y | y
      · rw [y]; exact tr b u q
      · exact tr c _ y
  refine ⟨cq, hc, fun p hp => ?_, J.pins_of fun p hp => ?_⟩
  · rcases (z4 p hp).2.2 with ⟨o, ho⟩ | hn
    · exact aw (p.1, o) ho
    · exact inv_young I0 hn
  · rcases List.mem_append.mp hp with hp | hp
    · obtain ⟨q1, q2, q3⟩ := z4 p hp
      rcases q3 with ⟨o, ho⟩ | hn
      · exact ⟨q1, none_cp (p.1, o) ho, (pincp (p.1, o) ho).1, (pincp (p.1, o) ho).2, q2⟩
      · exact ⟨q1, I0.hok.fresh hn, (inv_young I0 hn).loc, I0.nofs hn, q2⟩
    · exact J.pin p (List.mem_append_right _ hp)
end
def HY (X : Cx) (CS : Rws → Pn → Prop) : Protocol := fun n s₀ v s kap =>
  ∃ (rs : Rws) (row : List V) (ip cp : Pn) (σ : L2.St) (H : Hp) (p : Addr), n + 1 + rs.length = sizeLine ∧ v = .ref p ∧ H p = some (.tup row) ∧ row ≠ [] ∧ CS rs cp ∧ (∀ q ∈ cp, Away X ip q.1) ∧ Inv X (cp ++ ip) σ H s ∧
    ∀ cq s', Dozed cp cq s s' → CS (rs ++ [row]) cq → kap (.send .none) s'
def HR (X : Cx) (CS : Rws → Pn → Prop) (Q : Rws → VK) (F : Value → Shared → Prop) : GenEnd := fun n s₀ r s => match r with
  | .ok (.ret u) => ∃ rs v ip σ H, n + rs.length = sizeLine ∧ HI X CS ip rs σ H s ∧ RelV v u ∧ Q rs v H
  | .ok _ => False
  | .error e => F e s
structure HEnds where
  nx : Rws → L2.St → Hp → Prop
  rt : Rws → VK
  bk : Rws → L2.St → Hp → Prop := fun _ _ _ => False
  ct : Rws → L2.St → Hp → Prop := fun _ _ _ => False
abbrev THn := HEnds → Rws → L2.St → Hp → Prop
def HEnds.at (D : HEnds) (rs : Rws) : Ends := { nx := D.nx rs, rt := D.rt rs, bk := D.bk rs, ct := D.ct rs }
def HSP (X : Cx) (CS : Rws → Pn → Prop) (ip : Pn) (D : HEnds) (rs : Rws) (f : Flow) (s : Shared) : Prop :=
  match f with
  | .next => ∃ σ H, HI X CS ip rs σ H s ∧ D.nx rs σ H
  | .brk => ∃ σ H, HI X CS ip rs σ H s ∧ D.bk rs σ H
  | .cont => ∃ σ H, HI X CS ip rs σ H s ∧ D.ct rs σ H
  | .ret u => ∃ v σ H, HI X CS ip rs σ H s ∧ RelV v u ∧ D.rt rs v H
structure HC (X : Cx) (A : Around) (c : Code) (fs : List Frame) (gd : Bool → Bool) : Prop where
  over : A.over c fs = X.A
  split : splitAtGen fs = none
  guard : fs.any Frame.guarded = false
  gd : gd false = false
structure HK (X : Cx) (CS : Rws → Pn → Prop) (ip : Pn) (A : Around) (R : GenEnd) (c : Code) (fs : List Frame) (K : Flow → Sem PySem.Fin) (J : Value → Sem PySem.Fin) (D : HEnds) : Prop where
  ok : ∀ (n : Nat) (rs : Rws) (s₀ s : Shared) (f : Flow), n + rs.length = sizeLine → HSP X CS ip D rs f s → Seg (model X.prog X.w) A R (HY X CS) n s₀ c (K f) fs s
  exc : ∀ (n : Nat) (s₀ : Shared) (e : Value) (s : Shared), X.xe e s → Seg (model X.prog X.w) A R (HY X CS) n s₀ c (J e) fs s
structure HS (X : Cx) (st : Stmt) (t : THn) : Prop where
  run : ∀ (CS : Rws → Pn → Prop) (A : Around) (ip : Pn) (R : GenEnd) (n : Nat) (rs : Rws) (s₀ : Shared) (c : Code) (fs : List Frame) (K : Flow → Sem PySem.Fin) (J : Value → Sem PySem.Fin) (gd : Bool → Bool) (lv : List Value → List Value) (s : Shared) (σ : L2.St) (H : Hp) (D : HEnds),
    HC X A c fs gd → n + rs.length = sizeLine → HK X CS ip A R c fs K J D → HI X CS ip rs σ H s → t D rs σ H → Seg (model X.prog X.w) A R (HY X CS) n s₀ c ((exec st X.env).wrap K J gd lv) fs s
structure HSs (X : Cx) (st : List Stmt) (t : THn) : Prop where
  run : ∀ (CS : Rws → Pn → Prop) (A : Around) (ip : Pn) (R : GenEnd) (n : Nat) (rs : Rws) (s₀ : Shared) (c : Code) (fs : List Frame) (K : Flow → Sem PySem.Fin) (J : Value → Sem PySem.Fin) (gd : Bool → Bool) (lv : List Value → List Value) (s : Shared) (σ : L2.St) (H : Hp) (D : HEnds),
    HC X A c fs gd → n + rs.length = sizeLine → HK X CS ip A R c fs K J D → HI X CS ip rs σ H s → t D rs σ H → Seg (model X.prog X.w) A R (HY X CS) n s₀ c ((execs st X.env).wrap K J gd lv) fs s
section
variable {X : Cx} {st : Stmt} {rest : List Stmt}
def tHPlain (t : TS) : THn := fun D rs σ H => t (D.at rs) σ H
theorem sp_hsp {CS : Rws → Pn → Prop} {ip cp : Pn} {s : Shared} {D : HEnds} {rs : Rws} {f : Flow} (hc : CS rs cp) (aw : ∀ p ∈ cp, Away X ip p.1) (h : SP X (cp ++ ip) (D.at rs) f s) : HSP X CS ip D rs f s := by
  cases f with
  | next => obtain ⟨σ, H, I, q⟩ := h; exact ⟨σ, H, ⟨cp, hc, aw, I⟩, q⟩
  | brk => obtain ⟨σ, H, I, q⟩ := h; exact ⟨σ, H, ⟨cp, hc, aw, I⟩, q⟩
  | cont => obtain ⟨σ, H, I, q⟩ := h; exact ⟨σ, H, ⟨cp, hc, aw, I⟩, q⟩
  | ret u => obtain ⟨v, σ, H, I, r1, q⟩ := h; exact ⟨v, σ, H, ⟨cp, hc, aw, I⟩, r1, q⟩
theorem hs_ps {t : TS} (h : PS X st t) : HS X st (tHPlain t) := by
  refine ⟨fun CS A ip R n rs s₀ c fs K J gd lv s σ H D g hn k hI ht => ?_⟩
  obtain ⟨cp, hc, aw, I⟩ := hI
  refine seg_wrap ?_
  rw [g.over]
  exact wpAny_mono (h.run _ s σ H (D.at rs) I ht) (fun f s' hs => k.ok n rs s₀ s' f hn (sp_hsp hc aw hs)) fun x s' hx => k.exc n s₀ x s' hx
def tH0 : THn := fun D rs σ H => D.nx rs σ H
theorem hss_nil : HSs X [] tH0 := by
  refine ⟨fun CS A ip R n rs s₀ c fs K J gd lv s σ H D g hn k hI ht => ?_⟩
  exact seg_execs_nil (k.ok n rs s₀ s .next hn ⟨σ, H, hI, ht⟩)
def tHThen (t u : THn) : THn := fun D rs σ H => t { D with nx := fun rs' σ' H' => u D rs' σ' H' } rs σ H
theorem hss_cons {t u : THn} (a : HS X st t) (b : HSs X rest u) : HSs X (st :: rest) (tHThen t u) := by
  refine ⟨fun CS A ip R n rs s₀ c fs K J gd lv s σ H D g hn k hI ht => ?_⟩
  refine seg_execs_cons ?_
  refine a.run CS A ip R n rs s₀ c fs _ J gd lv s σ H { D with nx := fun rs' σ' H' => u D rs' σ' H' } g hn ⟨fun n' rs' s₀' s' f hn' hs => ?_, k.exc⟩ hI ht
  cases f with
  | next =>
    obtain ⟨σ', H', I', q⟩ := hs
    exact b.run CS A ip R n' rs' s₀' c fs K J gd lv s' σ' H' D g hn' k I' q
  | brk => exact k.ok n' rs' s₀' s' .brk hn' hs
  | cont => exact k.ok n' rs' s₀' s' .cont hn' hs
  | ret u => exact k.ok n' rs' s₀' s' (.ret u) hn' hs
/-- yield of a tuple -/
def tHYield (te : TE) : THn := fun D rs σ H => rs.length < sizeLine ∧ te σ H fun x H1 => ∃ (p : Addr) (row : List V), x = .ref p ∧ H1 p = some (.tup row) ∧ row ≠ [] ∧ D.nx (rs ++ [row]) σ H1
theorem hs_yield {e : Expr} {yp pos : Pos} {te : TE} (he : PE X e te) (hco : X.env.scope.isCoroutine = false := by rfl) (hi : interactive X.env = false := by rfl) : HS X (.Expr (.Yield (some e) yp) pos) (tHYield te) := by
  refine ⟨fun CS A ip R n rs s₀ c fs K J gd lv s σ H D g hn k hI ht => ?_⟩
  obtain ⟨hlt, ht⟩ := ht
  obtain ⟨n, rfl⟩ : ∃ m, n = m + 1 := ⟨n - 1, by omega⟩
  obtain ⟨cp, hc, aw, I⟩ := hI
  refine seg_Expr_Yield g.split g.gd g.guard ?_ hco hi
  rw [g.over]
  refine wpAny_mono (he.run _ s σ H _ I ht) (fun v s' hv => ?_) fun x s' hx => k.exc _ s₀ x s' hx
  obtain ⟨x, H1, I1, rv, p, row, ex, hp, hrow, q⟩ := hv
  subst ex
  obtain rfl : v = .ref p := rv
  intro kap hk
  refine ⟨rs, row, ip, cp, σ, H1, p, hn, rfl, hp, hrow, hc, aw, I1, fun cq s'' z hq => hk .none s'' ?_⟩
  refine k.ok n (rs ++ [row]) s'' s'' .next ?_ ⟨σ, H1, HI.woken I1 aw z hq, q⟩
  rw [List.length_append, List.length_singleton]; omega
end
end Sb

namespace Sb
open PySem PySem.Spec PyProof.Rows L2 GenW
section
variable {X : Cx} {CS : Rws → Pn → Prop} {ip : Pn} {A : Around} {R : GenEnd} {c c' : Code} {fs : List Frame} {K : Flow → Sem PySem.Fin} {J : Value → Sem PySem.Fin} {gd : Bool → Bool} {lv : List Value → List Value} {D : HEnds} {n : Nat} {s₀ s : Shared}
theorem hc_loop {k : Result → Sem PySem.Fin} {l kp : List Value} {p : Pos} (g : HC X A c fs gd) (hw : c'.weight = 0) (hu : c'.cUnits = 0) : HC X A c' (.ret k none (gd false) l c p kp :: fs) id := by
  refine ⟨(over_loop hw hu).trans g.over, ?_, ?_, rfl⟩
  · show (splitAtGen fs).map _ = none
    rw [g.split]
    rfl
  · show (gd false || fs.any Frame.guarded) = false
    rw [g.gd, g.guard]
    rfl
theorem seg_back {e : Value} (g : HC X A c fs gd) (k : HK X CS ip A R c fs K J D) (h : cameBackBy (model X.prog X.w) X.A X.env X.xe e s) :
    Seg (model X.prog X.w) A R (HY X CS) n s₀ c (((Sem.raise e : Sem Flow).onRaise (cameBack X.env)).wrap K J gd lv) fs s := by
  show Seg _ _ _ _ _ _ _ (((cameBack X.env e).bind fun _ => (Sem.raise e : Sem Flow)).wrap K J gd lv) _ _
  rw [Sem.bind_eq_wrap, Sem.wrap_wrap]
  refine seg_wrap ?_
  rw [g.over]
  exact wpAny_mono h (fun _ s' hx => k.exc n s₀ e s' hx) fun x s' hx => k.exc n s₀ x s' hx
end
section
variable {X : Cx} {tg : Expr}
def tHFor (wi : TI) (g : TG) (tb : THn) : THn := fun D rs σ H => wi σ H fun J H1 => ∃ W : Nat → Nat → Rws → L2.St → Hp → Prop, (∃ m, W 0 m rs σ H1) ∧ ∀ i m rs σ H, W i m rs σ H →
  (J.stop i H ∧ D.nx rs σ H) ∨ (J.go i H ∧ ∃ N : Rws → L2.St → Hp → Prop, (∀ rs' σ' H', N rs' σ' H' → ∃ m', m' < m ∧ W (i + 1) m' rs' σ' H') ∧ ∀ x H', J.yld i H x H' → g x σ H' fun σ2 H2 => tb { D with nx := N, ct := N, bk := D.nx } rs σ2 H2)
theorem hs_for {iter : Expr} {body : List Stmt} {wi : TI} {g : TG} {tb : THn} {pos : Pos} (hp : PassesOwn (model X.prog X.w) X.A X.env X.xe) (hc : X.calm = true) (hi : PI X tg iter wi) (hg : PG X tg g) (hb : HSs X body tb)
    (hs : ∀ x, foldedSetIterable iter X.env x = pure x := by intro _; rfl) : HS X (.For tg iter body [] pos) (tHFor wi g tb) := by
  refine ⟨fun CS A ip R n rs s₀ c fs K J gd lv s σ H D gc hn k hI ht => ?_⟩
  obtain ⟨cp0, hcs0, aw0, I0⟩ := hI
  refine seg_For ?_ hs
  rw [gc.over]
  refine wpAny_mono (hi.run _ s σ H _ I0 ht) (fun v s1 h1 => wpAny_mono h1 (fun itv s2 h2 => ?_) fun x s' hx => k.exc n s₀ x s' hx) fun x s' hx => k.exc n s₀ x s' hx
  intro p
  obtain ⟨it, fp, tn, JJ, H2, e, I2, T, st2, f2, W, ⟨m0, w0⟩, turn⟩ := h2
  subst e
  have gl := fun (kk : Result → Sem PySem.Fin) => hc_loop (k := kk) (c' := .forLoop tg (.ref it) body [] X.env) (l := lv []) (kp := []) (p := p) gc rfl rfl
  have loop : ∀ (m i n : Nat) (rs : Rws) (s₀ s : Shared) (σ : L2.St) (H : Hp) (cp : Pn), n + rs.length = sizeLine → W i m rs σ H → CS rs cp → (∀ q ∈ cp, Away X ip q.1) → (∀ b ∈ fp, ∀ q ∈ cp, q.1 ≠ b) → Inv X (cp ++ ip) σ H s → tn i s.heap → (∀ b ∈ fp, H b = none) →
      Seg (model X.prog X.w) A R (HY X CS) n s₀ (.forLoop tg (.ref it) body [] X.env) ((model X.prog X.w).den (.forLoop tg (.ref it) body [] X.env))
        (.ret (fun r => ((match r with | .ok f => (.pure f : Sem Flow) | .error e => .raise e).onRaise (cameBack X.env)).wrap K J gd lv) none (gd false) (lv []) c p [] :: fs) s := by
    intro m
    induction m using Nat.strongRecOn with
    | ind m ih =>
      intro i n rs s₀ s σ H cp hn w hcs aw apart I st fr
      have stat : ∀ {H' : Hp}, (∀ b ∈ fp, H' b = none) → ∀ b ∈ fp, FpOk X (cp ++ ip) H' b := fun {H'} hn b hb => by
        obtain ⟨f0, f1, f3, f4, f5, f6⟩ := f2 b hb
        refine ⟨hn b hb, f1, f3, f4, f5, fun q hq => ?_⟩
        rcases List.mem_append.mp hq with hq | hq
        · exact f6 q (List.mem_append_left _ hq)
        · rcases List.mem_append.mp hq with hq | hq
          · exact apart b hb q hq
          · exact f6 q (List.mem_append_right _ (List.mem_append_right _ hq))
      have ee : ∀ (n : Nat) (s₀ : Shared) (x : Value) (s' : Shared), X.xe x s' → Seg (model X.prog X.w) A R (HY X CS) n s₀ (.forLoop tg (.ref it) body [] X.env) (errT X.env x)
          (.ret (fun r => ((match r with | .ok f => (.pure f : Sem Flow) | .error e => .raise e).onRaise (cameBack X.env)).wrap K J gd lv) none (gd false) (lv []) c p [] :: fs) s' := fun n s₀ x s' hx => by
        refine seg_wrap ?_
        rw [(gl _).over]
        refine wpAny_bind (wpAny_mono (hp x s' hx) (fun _ s'' hcb => wpAny_theTreesLotGoes ?_) fun y s'' hcb => ?_)
        · exact seg_leaf (.error x) (seg_back gc k hcb)
        · exact seg_leaf (.error y) (seg_back gc k hcb)
      refine seg_forLoop ?_
      rw [(gl _).over]
      rcases turn i m rs σ H w with ⟨stop, qn⟩ | ⟨go, N, hN, step⟩
      · refine wpAny_mono (T.done X rfl rfl rfl hc i _ s σ H X.xe I (stat fr) st stop) (fun r' s4 ⟨hr, I4⟩ => ?_) fun x s' hx => ee n s₀ x s' hx
        subst hr
        refine seg_again rfl ?_
        exact seg_leaf (.ok .next) (k.ok n rs s₀ s4 .next hn ⟨σ, H, ⟨cp, hcs, aw, I4⟩, qn⟩)
      · refine wpAny_mono (T.item X rfl rfl rfl hc i _ s σ H X.xe I (stat fr) st go) (fun r' s4 ⟨u, hr, h4⟩ => ?_) fun x s' hx => ee n s₀ x s' hx
        subst hr
        refine wpAny_mono h4 (fun _ s5 ⟨x, H5, I5, r5, y5, st5, fr5⟩ => ?_) fun x s' hx => ee n s₀ x s' hx
        have I5' := I5.pinned (stat fr5) (T.obj _ _ st5)
        refine wpAny_mono (hg.run _ s5 σ H5 x u _ I5' r5 (step x H5 y5)) (fun _ s6 ⟨σ6, H6, I6, q6⟩ => ?_) fun x s' hx => ee n s₀ x s' hx
        have I6 : Inv X (cp ++ (ip ++ pinsAt fp s5.heap)) σ6 H6 s6 := by rw [← List.append_assoc]; exact I6
        have aw' : ∀ q ∈ cp, Away X (ip ++ pinsAt fp s5.heap) q.1 := fun q hq => ⟨(aw q hq).young, (aw q hq).loc, (aw q hq).cell, fun z hz => by
          rcases List.mem_append.mp hz with hz | hz
          · exact (aw q hq).pins z (List.mem_append_left _ hz)
          · rcases List.mem_append.mp hz with hz | hz
            · exact (aw q hq).pins z (List.mem_append_right _ hz)
            · exact fun e => apart _ (of_pinsAt hz).1 q hq e.symm⟩
        have un : ∀ {rs' : Rws} {s7 : Shared} {σ7 : L2.St} {H7 : Hp}, HI X CS (ip ++ pinsAt fp s5.heap) rs' σ7 H7 s7 → HI X CS ip rs' σ7 H7 s7 := fun {rs' s7 σ7 H7} ⟨cp7, c7, a7, I7⟩ => by
          refine ⟨cp7, c7, fun q hq => ⟨(a7 q hq).young, (a7 q hq).loc, (a7 q hq).cell, fun z hz => (a7 q hq).pins z ?_⟩, I7.pins_of fun q hq => I7.pin q ?_⟩
          · rcases List.mem_append.mp hz with hz | hz
            · exact List.mem_append_left _ hz
            · exact List.mem_append_right _ (List.mem_append_left _ hz)
          · rcases List.mem_append.mp hq with hq | hq
            · exact List.mem_append_right _ (List.mem_append_left _ hq)
            · exact List.mem_append_right _ (List.mem_append_right _ (List.mem_append_left _ hq))
        have again : ∀ {n' : Nat} {rs' : Rws} {s₀' s7 : Shared} {σ7 : L2.St} {H7 : Hp}, n' + rs'.length = sizeLine → HI X CS (ip ++ pinsAt fp s5.heap) rs' σ7 H7 s7 → N rs' σ7 H7 →
            Seg (model X.prog X.w) A R (HY X CS) n' s₀' (.forLoop tg (.ref it) body [] X.env) (.pure (.again (.forLoop tg (.ref it) body [] X.env)))
              (.ret (fun r => ((match r with | .ok f => (.pure f : Sem Flow) | .error e => .raise e).onRaise (cameBack X.env)).wrap K J gd lv) none (gd false) (lv []) c p [] :: fs) s7 := fun {n' rs' s₀' s7 σ7 H7} hn' h7 n7 => by
          obtain ⟨m', hm, w7⟩ := hN rs' σ7 H7 n7
          obtain ⟨cp7, c7, a7, I7⟩ := id h7
          obtain ⟨_, _, _, _⟩ := un h7
          have pin : ∀ b ∈ fp, ∀ o, s5.heap.get? b = some o → s7.heap.get? b = some o ∧ H7 b = none := fun b hb o e => by
            have z := I7.pin (b, o) (List.mem_append_right _ (List.mem_append_right _ (List.mem_append_right _ (mem_pinsAt hb e))))
            exact ⟨z.1, z.2.1⟩
          have ap7 : ∀ b ∈ fp, ∀ q ∈ cp7, q.1 ≠ b := fun b hb q hq e => by
            obtain ⟨o, e5, _⟩ := T.obj _ _ st5 b hb
            exact (a7 q hq).pins (b, o) (List.mem_append_right _ (List.mem_append_right _ (mem_pinsAt hb e5))) e.symm
          refine seg_again rfl (ih m' hm (i + 1) n' rs' s₀' s7 σ7 H7 cp7 hn' w7 c7 (fun q hq => ⟨(a7 q hq).young, (a7 q hq).loc, (a7 q hq).cell, fun z hz => (a7 q hq).pins z ?_⟩) ap7 (I7.pins_of fun q hq => I7.pin q ?_) (T.keep _ _ _ st5 fun b hb o e => (pin b hb o e).1) fun b hb => ?_)
          · rcases List.mem_append.mp hz with hz | hz
            · exact List.mem_append_left _ hz
            · exact List.mem_append_right _ (List.mem_append_left _ hz)
          · rcases List.mem_append.mp hq with hq | hq
            · exact List.mem_append_right _ (List.mem_append_left _ hq)
            · exact List.mem_append_right _ (List.mem_append_right _ (List.mem_append_left _ hq))
          · obtain ⟨o, e, _⟩ := T.obj _ _ st5 b hb
            exact (pin b hb o e).2
        refine hb.run CS A _ R n rs s₀ _ _ _ _ id id s6 σ6 H6 { D with nx := N, ct := N, bk := D.nx } (gl _) hn ⟨fun n' rs' s₀' s7 f hn' q7 => ?_, fun n' s₀' x s7 hx => ee n' s₀' x s7 hx⟩ ⟨cp, hcs, aw', I6⟩ q6
        cases f with
        | next => obtain ⟨σ7, H7, I7, n7⟩ := q7; exact again hn' I7 n7
        | cont => obtain ⟨σ7, H7, I7, n7⟩ := q7; exact again hn' I7 n7
        | brk => obtain ⟨σ7, H7, I7, q7⟩ := q7; exact seg_leaf (.ok .next) (k.ok n' rs' s₀' s7 .next hn' ⟨σ7, H7, un I7, q7⟩)
        | ret v => obtain ⟨x7, σ7, H7, I7, r7, q7⟩ := q7; exact seg_leaf (.ok (.ret v)) (k.ok n' rs' s₀' s7 (.ret v) hn' ⟨x7, σ7, H7, un I7, r7, q7⟩)
  exact loop m0 0 n rs s₀ s2 σ H2 cp0 hn w0 hcs0 aw0 (fun b hb q hq => (f2 b hb).2.2.2.2.2 q (List.mem_append_right _ (List.mem_append_left _ hq))) I2 st2 fun b hb => (f2 b hb).1
theorem hfor_range {lo : Int} {n : Nat} {g : TG} {tb : THn} {D : HEnds} {rs : Rws} {σ : L2.St} {H : Hp} (Pv : Nat → Rws → L2.St → Hp → Prop) (h0 : Pv 0 rs σ H)
    (hs : ∀ i rs σ H, i < n → Pv i rs σ H → g (.int (lo + i)) σ H fun σ2 H2 => tb { D with nx := Pv (i + 1), ct := Pv (i + 1), bk := D.nx } rs σ2 H2) (hd : ∀ rs σ H, Pv n rs σ H → D.nx rs σ H) :
    ∃ W : Nat → Nat → Rws → L2.St → Hp → Prop, (∃ m, W 0 m rs σ H) ∧ ∀ i m rs σ H, W i m rs σ H →
      ((Itr lo n).stop i H ∧ D.nx rs σ H) ∨ ((Itr lo n).go i H ∧ ∃ N : Rws → L2.St → Hp → Prop, (∀ rs' σ' H', N rs' σ' H' → ∃ m', m' < m ∧ W (i + 1) m' rs' σ' H') ∧ ∀ x H', (Itr lo n).yld i H x H' → g x σ H' fun σ2 H2 => tb { D with nx := N, ct := N, bk := D.nx } rs σ2 H2) := by
  refine ⟨fun i m rs σ H => m = n - i ∧ i ≤ n ∧ Pv i rs σ H, ⟨n, by simp, Nat.zero_le _, h0⟩, ?_⟩
  rintro i m rs σ H ⟨rfl, hi, p⟩
  by_cases hlt : i < n
  · refine .inr ⟨hlt, Pv (i + 1), fun rs' σ' H' p' => ⟨n - (i + 1), by omega, rfl, hlt, p'⟩, fun x H' y => ?_⟩
    obtain ⟨e, e'⟩ := y
    subst e
    subst e'
    exact hs i rs σ _ hlt p
  · have e : i = n := by omega
    subst e
    exact .inl ⟨Nat.le_refl _, hd rs σ H p⟩
end
end Sb

namespace Sb
open PySem PySem.Spec PyProof.Rows L2 GenW
abbrev SpH := List V → Hp → (Rws → Hp → Prop) → XK → Prop
def HEnd (P : Program) (w : World) (outer : List Env) (H : Hp) (s : Shared) (CS : Rws → Pn → Prop) (a : Addr) (g : Nat) (Q : Rws → Hp → Prop) (E : XK) : GenEnd := fun n s₀ r s1 =>
  ((r = .ok (.ret .none) ∨ r = .ok .next) ∧ ∃ (H' : Hp) (rs : Rws) (cp : Pn), s1.os = s.os ∧ AllBare s1.gens ∧ Un (frs outer) [] H H' s.heap s1.heap ∧ HOk P w H' s1.heap ∧ CS rs cp ∧ (∀ p ∈ cp, s1.heap.get? p.1 = some p.2 ∧ H' p.1 = none ∧ s.heap.objs.size ≤ p.1) ∧ rs.length ≤ sizeLine ∧ Q rs H') ∨
  ∃ e, r = .error e ∧ CX P w outer H s E e s1 ∧ s1.heap.IsGen a g
def HItem (s : Shared) (CS : Rws → Pn → Prop) (a : Addr) (g : Nat) : Protocol := fun n s₀ v s1 kap =>
  ∃ (rs : Rws) (row : List V) (cp : Pn) (p : Addr) (its : List Value), n + 1 + rs.length = sizeLine ∧ s1.os = s.os ∧ AllBare s1.gens ∧ s1.heap.NoLimit ∧ s1.heap.IsGen a g ∧ v = .ref p ∧ IsTup s1.heap p its.toArray ∧ Vals row its ∧ row ≠ [] ∧ row.length ≤ sizeLine ∧ CS rs cp ∧
    (∀ q ∈ cp, s1.heap.get? q.1 = some q.2 ∧ s.heap.objs.size ≤ q.1 ∧ q.1 ≠ p ∧ q.1 ≠ a) ∧ ∀ cq s', Dozed cp cq s1 s' → CS (rs ++ [row]) cq → kap (.send .none) s'
def HMade (P : Program) (w : World) (k : Nat) (outer : List Env) (H : Hp) (s : Shared) (Q : Rws → Hp → Prop) (E : XK) (u : Value) (s' : Shared) : Prop :=
  ∃ (a : Addr) (g : Nat) (c : Code), u = .ref a ∧ s.heap.objs.size ≤ a ∧ a < s'.heap.objs.size ∧ s'.heap.IsGen a g ∧ s'.gens[g]? = some (.fresh c) ∧ s'.os = s.os ∧ AllBare s'.gens ∧ s'.heap.NoLimit ∧ (∀ b o, s.heap.get? b = some o → s'.heap.get? b = some o) ∧
    ∀ (A : Around) (CS : Rws → Pn → Prop) (cp : Pn) (s2 : Shared), Room k A → A.frames = some outer → (∀ b o, s'.heap.get? b = some o → s2.heap.get? b = some o) → CS [] cp → (∀ p ∈ cp, s2.heap.get? p.1 = some p.2 ∧ s'.heap.objs.size ≤ p.1 ∧ ∀ v, p.2.data ≠ .cell v) → s2.os = s.os → AllBare s2.gens →
      Seg (model P w) A (HEnd P w outer H s CS a g Q E) (HItem s CS a g) sizeLine s2 c ((model P w).den c) [] s2
structure HFn (P : Program) (w : World) (K : PySem.W.Frag) (mg : Str → Option Value) (base : Heap) (k : Nat) (f : Addr) (fd : FuncData) (ps : List Str) (sp : SpH) : Prop where
  len : ∀ vs H Q E, sp vs H Q E → vs.length = ps.length
  run : ∀ (A : Around) (outer : List Env) (s : Shared) (H : Hp) (args : Args) (us : List Value) (vs : List V) (Q : Rws → Hp → Prop) (E : XK), Room k A → Env0 P w K mg base A outer s H → BindsTo s fd args (ps.zip us) → Vals vs us → sp vs H Q E →
    codeAny (model P w) A (.call (.ref f) args) (fun r s' => match r with | .ok (.ret u) => HMade P w k outer H s Q E u s' | _ => False) s
theorem hfn_of {P : Program} {w : World} {K : PySem.W.Frag} {mg : Str → Option Value} {base : Heap} {k : Nat} {f : Addr} {name qual : Str} {params : Arguments} {body : List Stmt} {scope : Scope} {dV kV doc pm cdv ct oc : Value} {an od : Option Addr}
    {osl : Array (Option Value)} {N ps : List Str} {sp : SpH} (lk : K.lookup f = some ⟨oc, od, .func (PySem.W.fnOf name qual params body scope dV kV doc pm an cdv ct), osl⟩) (hcd : PySem.W.codeIn K cdv qual = true) (S : GScope N ps scope)
    (len : ∀ vs H Q E, sp vs H Q E → vs.length = ps.length)
    (hbody : ∀ (A : Around) (outer : List Env) (s : Shared) (H : Hp) (vs : List V) (Q : Rws → Hp → Prop) (E : XK) (pn : Pn), Room k (A.deeper (envOfC qual scope s.heap.objs.size f cdv)) → sp vs H Q E →
      ∃ t, HSs (gcxOf P w K mg base N qual scope f cdv A outer s H E pn) body t ∧ t { nx := fun rs _ H' => Q rs H', rt := fun rs v H' => v = .non ∧ Q rs H' } [] (start N vs) H) :
    HFn P w K mg base (k + 1) f (PySem.W.fnOf name qual params body scope dV kV doc pm an cdv ct) ps sp := by
  refine ⟨len, fun A outer s H args us vs Q E hr e0 hb r hsp => ?_⟩
  have hl := len _ _ _ _ hsp
  have inK : K.In s.heap := e0.mod.kin.keeps fun b o e => (e0.bs b o e).1
  have lim : s.heap.NoLimit := e0.mod.nolimit.keeps fun b o e => (e0.bs b o e).1
  refine codeAny_call_generator hr.depth (inK _ _ lk) rfl S.co S.gen rfl (PySem.W.codeRec_of inK hcd) (hb _ _ _ _ ?_)
  refine wpAny_newFunctionEnv_cells S.kind (fun ⟨n, v⟩ hy => ?_) fun env he s1 x => ?_
  · rcases S.par n (List.of_mem_zip hy).1 with q | q
    · exact .inl q
    · exact .inr ⟨q, PySem.W.cellsFrom_some _ _ _ (.inl q)⟩
  subst he
  have lim1 : s1.heap.NoLimit := lim.keeps x.toInCall.keep
  refine ⟨lim1, ?_⟩
  obtain ⟨h1, tk, es1, hk1⟩ := x.done
  have os1 : s1.os = s.os := by rw [es1]
  have gen1 : s1.gens = s.gens := by rw [es1]
  have lt1 : s.heap.objs.size < s1.heap.objs.size := x.toInCall.ns.lt
  have main : ∀ (go : Obj) (nm qn : Value) (tk2 : Nat), go.cls = .type "generator" → go.data = .fields #[.int s1.gens.size 0, nm, qn] → go.slots = #[] → (∀ h : Heap, (h.push go).get? h.objs.size = some go) →
      HMade P w (k + 1) outer H s Q E (.ref s1.heap.objs.size) { s1 with gens := s1.gens.push (.fresh (.func body (envOfC qual scope s.heap.objs.size f cdv))), toks := tk2, heap := s1.heap.push go } := by
    intro go nm qn tk2 hgc hgd0 hgs hgp
    have isg : ∀ h : Heap, h.get? s1.heap.objs.size = some go → h.IsGen s1.heap.objs.size s1.gens.size := fun h e => ⟨go, nm, qn, e, hgc, hgd0, hgs⟩
    refine ⟨s1.heap.objs.size, s1.gens.size, _, rfl, Nat.le_of_lt lt1, ?_, isg _ (hgp _), Array.getElem?_push_size .., os1, ?_, lim1.keeps fun b o e => Heap.get?_push_of_some _ e, fun b o e => Heap.get?_push_of_some _ (x.toInCall.keep b o e), ?_⟩
    · show _ < (s1.heap.push _).objs.size
      rw [Heap.size_push]
      exact Nat.lt_succ_self _
    · exact AllBare.push (by rw [gen1]; exact e0.bare) rfl
    intro Aw CS cp s2 hrw hfr hk2 hcs hcp hos hba
    have e0w : Env0 P w K mg base Aw outer s H := ⟨hfr, e0.mod, e0.bs, e0.bsz, e0.funs, e0.frf, e0.hok, e0.bare⟩
    obtain ⟨t, ht, hq⟩ := hbody Aw outer s H vs Q E [(s1.heap.objs.size, go)] (hrw.deeper _) hsp
    have I1 : Inv (gcxOf P w K mg base N qual scope f cdv Aw outer s H E []) [] (start N vs) H s1 := inv_startG S hrw.hd e0w hl r x
    have kp2 : ∀ b o, s1.heap.get? b = some o → s2.heap.get? b = some o := fun b o e => hk2 b o (Heap.get?_push_of_some _ e)
    have I2 : Inv (gcxOf P w K mg base N qual scope f cdv Aw outer s H E []) [] (start N vs) H s2 :=
      I1.call' (ch := []) (hos.trans os1.symm) (Un.kept kp2) (I1.hok.kept kp2) hba fun b z => by simp at z
    have young : ∀ b, s1.heap.objs.size ≤ b → H b = none ∧ b ∉ frs outer := fun b hb => ⟨I1.hok.fresh hb, I1.nofs hb⟩
    have hgo : ∀ v, go.data ≠ .cell v := fun v q => by rw [hgd0] at q; cases q
    have over : ∀ p ∈ cp, s1.heap.objs.size < p.1 := fun p hp => by
      have z : (s1.heap.push go).objs.size ≤ p.1 := (hcp p hp).2.1
      rw [Heap.size_push] at z
      exact z
    have hG : HI (gcxOf P w K mg base N qual scope f cdv Aw outer s H E [(s1.heap.objs.size, go)]) CS [] [] (start N vs) H s2 := by
      refine ⟨cp, hcs, fun p hp => ?_, ?_⟩
      · have z := inv_young I1 (Nat.le_of_lt (over p hp))
        refine ⟨z.young, z.loc, z.cell, fun q hq => ?_⟩
        have hq : q ∈ [(s1.heap.objs.size, go)] ++ ([] : Pn) := hq
        rw [List.append_nil] at hq
        rw [List.mem_singleton.mp hq]
        exact Nat.ne_of_lt (over p hp)
      · rw [List.append_nil]
        refine Inv.pinnedG I2 fun p hp => ?_
        rcases List.mem_append.mp hp with z | z
        · rw [List.mem_singleton.mp z]
          exact ⟨hk2 _ go (hgp _), (young _ (Nat.le_refl _)).1, (inv_young I1 (Nat.le_refl _)).loc, (young _ (Nat.le_refl _)).2, hgo⟩
        · have o := Nat.le_of_lt (over p z)
          exact ⟨(hcp p z).1, (young _ o).1, (inv_young I1 o).loc, (young _ o).2, (hcp p z).2.2⟩
    refine seg_func ?_
    refine seg_imp (R := HR (gcxOf P w K mg base N qual scope f cdv Aw outer s H E [(s1.heap.objs.size, go)]) CS (fun rs v H' => v = .non ∧ Q rs H') fun e s' => CX P w outer H s E e s' ∧ ∀ p ∈ [(s1.heap.objs.size, go)], s'.heap.get? p.1 = some p.2)
      (Y := HY (gcxOf P w K mg base N qual scope f cdv Aw outer s H E [(s1.heap.objs.size, go)]) CS) (fun n s₀ r s1' hR => ?_) (fun n s₀ v s1' kap kap' hkk hY => ?_) sizeLine ?_
    · cases r with
      | error e =>
        obtain ⟨q1, q2⟩ := hR
        exact .inr ⟨e, rfl, q1, isg _ (q2 (s1.heap.objs.size, go) (List.mem_singleton.mpr rfl))⟩
      | ok fl =>
        cases fl with
        | next => exact hR.elim
        | brk => exact hR.elim
        | cont => exact hR.elim
        | ret u =>
          obtain ⟨rs, v, ip, σ', H', hn, ⟨cp', c', a', J⟩, rv, ev, hQ⟩ := hR
          subst ev
          have eu : u = Value.none := rv
          subst eu
          refine .inl ⟨.inl rfl, H', rs, cp', J.os, J.bare, J.base, J.hok, c', fun p hp => ?_, by omega, hQ⟩
          have z := J.pin p (List.mem_append_right _ (List.mem_append_left _ hp))
          exact ⟨z.1, z.2.1, (a' p hp).young⟩
    · obtain ⟨rs, row, ip, cp', σ', H', p, hn, ev, hp, hrow, c', a', J, h3⟩ := hY
      obtain ⟨hlen, its, rits, htup⟩ := J.hok p _ hp
      refine ⟨rs, row, cp', p, its, hn, J.os, J.bare, J.nolimit, isg _ (J.pin (s1.heap.objs.size, go) (List.mem_append_left _ (List.mem_singleton.mpr rfl))).1, ev, htup, rits, hrow, hlen, c', fun q hq => ?_, fun cq s' z zc => hkk _ _ (h3 cq s' z zc)⟩
      have z := J.pin q (List.mem_append_right _ (List.mem_append_left _ hq))
      refine ⟨z.1, (a' q hq).young, fun e => ?_, fun e => ?_⟩
      · have z2 := z.2.1
        rw [e, hp] at z2
        cases z2
      · exact (a' q hq).pins (s1.heap.objs.size, go) (List.mem_append_left _ (List.mem_singleton.mpr rfl)) e.symm
    · refine ht.run CS Aw [] _ sizeLine [] s2 _ [] _ _ id id s2 (start N vs) H _ ⟨over_func, rfl, rfl, rfl⟩ (Nat.add_zero _) ⟨fun n rs s₀ s' fl hn hs => ?_, fun n s₀ e s' hx => ?_⟩ hG hq
      · cases fl with
        | next =>
          obtain ⟨σ', H', hI, hQ⟩ := hs
          exact seg_end (.ok (.ret .none)) ⟨rs, .non, [], σ', H', hn, hI, rfl, rfl, hQ⟩
        | brk => obtain ⟨_, _, _, q⟩ := hs; exact q.elim
        | cont => obtain ⟨_, _, _, q⟩ := hs; exact q.elim
        | ret u =>
          obtain ⟨v, σ', H', hI, rv, ev, hQ⟩ := hs
          exact seg_end (.ok (.ret u)) ⟨rs, v, [], σ', H', hn, hI, rv, ev, hQ⟩
      · refine seg_wrap ?_
        rw [over_func]
        refine wpAny_mono (show wpAny (model P w) (Aw.deeper (envOfC qual scope s.heap.objs.size f cdv)) (leaving (envOfC qual scope s.heap.objs.size f cdv) e) (fun _ s'' => CX P w outer H s E e s'' ∧ ∀ p ∈ [(s1.heap.objs.size, go)], s''.heap.get? p.1 = some p.2) (fun _ _ => False) s' from hx) (fun _ s'' q => ?_) fun _ s'' q => q.elim
        exact seg_end (.error e) q
  exact main _ _ _ _ rfl rfl rfl fun h => Heap.get?_push_size _ rfl
section
variable {X : Cx} {k : Nat} {f : Addr} {fd : FuncData} {ps : List Str} {sp : SpH}
abbrev THen := L2.St → Hp → (Rws → Hp → Prop) → Prop
structure PHen (X : Cx) (k : Nat) (e : Expr) (tg : THen) (E : XK) : Prop where
  run : ∀ (pins : Pn) (s : Shared) (σ : L2.St) (H : Hp) (cont : Rws → Hp → Prop), Inv X pins σ H s → tg σ H cont → wpAny (model X.prog X.w) X.A (eval e X.env)
    (fun u s' => ∃ H1 sc, Inv X pins σ H1 sc ∧ HMade X.prog X.w k X.stack H1 sc cont E u s') X.xe s
def tCallH (sp : SpH) (E : XK) (t : TA) : THen := fun σ H cont => t σ H fun vs H1 => sp vs H1 cont E
theorem phen_call {E : XK} {x : Str} {e : Expr} {es : List Expr} {p pos' : Pos} {t : TA} (F : HFn X.prog X.w X.K X.mg X.base k f fd ps sp) (hr : Room k X.A) (hg : Gl X x) (hm : X.mg x = some (.ref f)) (hk : PySem.W.keepIn X.K (.ref f) = true) (hb : Binds X.K fd ps [])
    (ha : PA X (e :: es) t) (hdb : (x == ("__debug__" : Str)) = false := by decide) (he : starEach (e :: es) X.env = (false, eval e X.env) :: starEach es X.env := by rfl) (hpl : (backTo pos' (starEach es X.env)).any (·.1) = false := by rfl) :
    PHen X k (.Call (.Name x p) (e :: es) [] pos') (tCallH sp E t) E := by
  refine ⟨fun pins s σ H cont I h => ?_⟩
  refine wpAny_Call_Name_kw (ld_glob I hg hm ?_ hdb)
  refine PySem.W.callWith_K (h₀ := X.base) I.ok.mod.kin hk (thn (ha.run pos' pins s σ H _ I h) fun us s1 ⟨vs, H1, I1, r, q⟩ => ⟨I1.kIn, ?_⟩) he hpl
  have hl2 : us.length = ps.length := by rw [← r.length]; exact F.len _ _ _ _ q
  have hb' := hb s1 us I1.kIn (by rw [List.append_nil]; exact hl2)
  rw [List.append_nil] at hb'
  refine wpAny_call (codeAny_mono (F.run X.A X.stack s1 H1 ⟨us, []⟩ us vs cont E hr I1.env0 hb' r q) fun r s' hq => ?_)
  cases r with
  | error e => exact hq.elim
  | ok fl =>
    cases fl with
    | ret u => exact ⟨H1, s1, I1, hq⟩
    | next => exact hq.elim
    | brk => exact hq.elim
    | cont => exact hq.elim
end
end Sb

namespace Sb
open PySem PySem.Spec PyProof.Rows L2 GenW
/-! ### [row[1:] for row in g] over a generator of the program's own -/
abbrev tupO (vs : List Value) : Obj := { cls := .type "tuple", data := .seq vs.toArray }
def CSd (D C : Addr) (rs : Rws) (cp : Pn) : Prop := ∃ (ts : List (Addr × List V × List Value)) (c : Nat) (oC : Obj),
  cp = (D, lstObj (ts.map fun e => Value.ref e.1).toArray c) :: (C, oC) :: ts.map (fun e => (e.1, tupO e.2.2)) ∧ ts.map (·.2.1) = rs.map List.tail ∧ (∀ e ∈ ts, Vals e.2.1 e.2.2 ∧ e.2.1.length ≤ sizeLine) ∧ (ts.map (·.1)).Nodup ∧ D ∉ ts.map (·.1) ∧ C ∉ ts.map (·.1) ∧ D ≠ C ∧
    ∃ es ep, oC.data = .dict es ep ∧ StrKeys es
def layT (H : Hp) : List (Addr × List V) → Hp
  | [] => H
  | e :: us => layT (upd H e.1 (.tup e.2)) us
abbrev LcC (Q : VK) : Rws → Hp → Prop := fun rs H2 => ∀ (us : List (Addr × List V)) (D : Addr), us.map (·.2) = rs.map List.tail → (us.map (·.1)).Nodup → (∀ e ∈ us, H2 e.1 = none) → H2 D = none → D ∉ us.map (·.1) →
  Q (.ref D) (upd (layT H2 us) D (.lst (us.map fun e => .ref e.1)))
def tLcG (tg : THen) : TE := fun σ H Q => tg σ H (LcC Q)
section
variable {X : Cx} {pins : Pn} {σ : L2.St} {H : Hp} {s : Shared}
theorem inv_track {b : Addr} {o : HO} (I : Inv X pins σ H s) (hb : H b = none) (hy : X.s_0.heap.objs.size ≤ b) (hl : b ≠ X.env.locals) (hc : ∀ x c, X.env.cells.lookup x = some c → c ≠ b) (hp : ∀ p ∈ X.pn ++ pins, p.1 ≠ b)
    (new : ObjOk X.prog X.w (upd H b o) s.heap b o) : Inv X pins σ (upd H b o) s := by
  have ne : ∀ {a : Addr} {u : HO}, H a = some u → upd H b o a = some u := fun {a u} q => by rw [upd_ne (ne_of_none q hb)]; exact q
  refine I.step (g' := s.gens) (t' := s.toks) (d' := s.drawn) (ch := [b]) (h' := s.heap) (fun d hd => ?_) (fun d ob _ _ _ q _ => q) (fun d ob _ _ _ q _ => ⟨ob.slots, q⟩) (fun d ob hd _ n => ?_) (fun d ob _ q => ⟨ob, q⟩)
    (fun _ _ q => ne q) (fun _ _ _ q => ne q) (fun d ps q => ⟨#[], by rw [Array.append_empty]; exact ne q⟩) (fun m hm => hm) (fun d u q => ?_) I.bare
  · rw [List.mem_singleton.mp hd]
    exact ⟨.inr hy, hl, hc, hp⟩
  · rw [upd_ne (fun e => hd (List.mem_singleton.mpr e))]
    exact n
  · by_cases hd : d = b
    · subst hd
      rw [upd_same] at q
      cases q
      exact new
    · rw [upd_ne hd] at q
      exact (I.hok d u q).stay (fun _ _ _ z => z) (fun _ z => ne z) fun _ _ z => ne z
theorem inv_trackT : ∀ (us : List (Addr × List V)) {H : Hp}, Inv X pins σ H s → (us.map (·.1)).Nodup → (∀ e ∈ us, H e.1 = none ∧ Away X pins e.1 ∧ e.2.length ≤ sizeLine ∧ ∃ its, Vals e.2 its ∧ s.heap.get? e.1 = some (tupO its)) → Inv X pins σ (layT H us) s
  | [], H, I, _, _ => I
  | e :: us, H, I, nd, h => by
    rw [List.map_cons, List.nodup_cons] at nd
    obtain ⟨h1, h2, h3, its, h4, h5⟩ := h e List.mem_cons_self
    refine inv_trackT us (inv_track I h1 h2.young h2.loc h2.cell h2.pins ⟨h3, its, h4, _, h5, rfl, _, rfl⟩) nd.2 fun d hd => ?_
    obtain ⟨q1, q2⟩ := h d (List.mem_cons_of_mem _ hd)
    refine ⟨?_, q2⟩
    have nz : d.1 ≠ e.1 := fun z => nd.1 (by rw [← z]; exact List.mem_map_of_mem (f := (·.1)) hd)
    rw [upd_ne nz]
    exact q1
theorem layT_at : ∀ (us : List (Addr × List V)) {H : Hp} {b : Addr}, b ∉ us.map (·.1) → layT H us b = H b
  | [], H, b, _ => rfl
  | e :: us, H, b, h => by
    rw [List.map_cons, List.mem_cons, not_or] at h
    show layT (upd H e.1 (.tup e.2)) us b = H b
    rw [layT_at us h.2, upd_ne h.1]
end
section
variable {prog : Program} {w : World} {A : Around} {E : Value → Shared → Prop} {s : Shared} {ce : Env} {r : Str} {p1 p2 p3 p4 p5 : Pos} {j5 : Nat}
/-- row[1:], row a tuple in the block's own names -/
theorem cut_row {p : Addr} {its : List Value} {m : Str → Option Value} {Q : Value → Shared → Prop} (hk : ce.scope.kind = .function) (hl : ce.kindOf r = some .local) (hn : s.heap.Ns ce.locals m) (hm : m r = some (.ref p)) (ht : IsTup s.heap p its.toArray) (hi : its ≠ []) (hz : its.length ≤ sizeLine)
    (hd : (r == ("__debug__" : Str)) = false)
    (h : ∀ s' q, s'.gens = s.gens → s'.os = s.os → (∀ b o, s.heap.get? b = some o → s'.heap.get? b = some o) → s.heap.objs.size ≤ q → s'.heap.get? q = some (tupO its.tail) → Q (.ref q) s') :
    wpAny (model prog w) A (eval (.Subscript (.Name r p1) (.Slice (some (.Constant (.int 1) j5 p5)) none none p2) p3) ce) Q E s := by
  refine Subscript_ (wpAny_Name (wpAny_loadName_local hk hl hn hm ?_) hd)
  refine wpAny_Slice ?_
  rw [evalPart_some, evalPart_none]
  refine wpAny_Constant_int (wpAny_pure (wpAny_pure ?_))
  have sz1 : its.toArray.size = its.length := List.size_toArray
  have e1 : HT.sIx its.toArray.size 0 (some 1) = 1 := by
    rw [sz1]
    cases its with
    | nil => exact absurd rfl hi
    | cons a t => unfold HT.sIx; simp [seqIndex?]; try omega
  have e2 : HT.sIx its.toArray.size its.toArray.size none = its.toArray.size := rfl
  refine tail_any (ops := [.ref s.heap.objs.size, .ref p]) (IsTup.typeIs (ht.push _)) slot_tuple_getitem.lookup (HT.getItem_tuple_cut (lo := some 1) (hi := none) (ht.push _) (Heap.IsSliceOf.new ..) (.int 1 _) .none ?_ ?_ ?_) (by with_unfolding_all rfl)
  · rw [e1]
    intro z
    exact absurd z.1 (by decide)
  · rw [e1, e2]
    refine h _ _ rfl rfl (fun b o e => Heap.get?_push_of_some _ (Heap.get?_push_of_some _ e)) ?_ ?_
    · show _ ≤ (s.heap.push _).objs.size
      rw [Heap.size_push]
      exact Nat.le_succ _
    · have e3 : (its.toArray.toList.drop 1).take (its.toArray.size - 1) = its.tail := by
        rw [sz1, List.take_of_length_le (by simp)]
        simp
      rw [e3]
      exact Heap.get?_push_size _ rfl
  · rw [sz1]
    exact hz
end
end Sb

namespace Sb
open PySem PySem.Spec PyProof.Rows L2 GenW
theorem refs_vals : ∀ ts : List (Addr × List V × List Value), Vals (ts.map fun e => V.ref e.1) (ts.map fun e => Value.ref e.1)
  | [] => .nil
  | e :: ts => .cons rfl (refs_vals ts)
section
variable {X : Cx} {k : Nat} {iter : Expr} {tg : THen} {scope : Scope} {r : Str} {pos p1 p2 p3 p4 p5 : Pos} {j5 : Nat}
theorem pe_lcG (hc : X.calm = true) (hr : Room (k + 1) X.A) (h : PHen X k iter tg (fun _ _ _ => False)) (hsk : scope.kind = .function) (hsn : scope.names = [(Str.ofString ".0", NameKind.local), (r, NameKind.local)])
    (hd : (r == ("__debug__" : Str)) = false := by decide) (hs : ∀ x, foldedSetIterable iter X.env x = pure x := by intro _; rfl) :
    PE X (.ListComp (.Subscript (.Name r p1) (.Slice (some (.Constant (.int 1) j5 p5)) none none p2) p3) [⟨.Name r p4, iter, [], 0⟩] scope pos) (tLcG tg) := by
  refine ⟨fun pins s σ H Q I hq => ?_⟩
  rw [eval_ListComp]
  have nof : ∀ y ∈ scope.names, y.2 = .free → ∃ c, X.env.cells.lookup y.1 = some c := fun y hy e => by
    rw [hsn] at hy
    simp only [List.mem_cons, List.not_mem_nil, or_false] at hy
    rcases hy with rfl | rfl <;> cases e
  refine wpAny_comprehension_free (use := none) rfl hs (closure_ok nof) hsk (fun y hy _ => ?_) (thn (h.run pins s σ H _ I hq) fun u s1 ⟨H1, sc, I1, hm⟩ => ?_)
  · rw [hsn] at hy ⊢
    simp only [List.mem_cons, List.not_mem_nil, or_false] at hy
    rcases hy with rfl | rfl
    · rfl
    · simp only [List.lookup]
      cases (r == Str.ofString ".0") <;> simp
  obtain ⟨a, g, c, rfl, ha1, ha2, hg, hgs, hos, hba, hlim, hkp, wake⟩ := hm
  refine wpAny_pyIter_gen hg ?_
  refine wpAny_newObj_type (newEnv_comp ?_) (by show 0 ≤ sizeLine; decide)
  generalize hD : s1.heap.objs.size = D
  have pc : ∀ h : Heap, pushCells h scope.names = h := fun h => by rw [hsn]; rfl
  have ecl : cloFrom X.env.cells scope.names [] = [] := by rw [hsn]; rfl
  have ecf : ∀ n, cellsFrom n scope.names [] = [] := fun n => by rw [hsn]; rfl
  rw [ecl, ecf, pc]
  have zD : (s1.heap.push (lstObj #[] 0)).objs.size = D + 1 := by rw [Heap.size_push, hD]
  show codeAny _ _ (.compStart _ 0 (.ref a) (.ref D) (compEnvC scope [] (s1.heap.push (lstObj #[] 0)).objs.size X.env)) (compPost (model X.prog X.w) X.A X.xe none _ (.ref D) (s1.heap.push (lstObj #[] 0)).objs.size) { s1 with heap := (s1.heap.push (lstObj #[] 0)).push { cls := .type "dict", data := .dict #[] } }
  rw [zD]
  generalize hce : compEnvC scope [] (D + 1) X.env = ce
  have cL : ce.locals = D + 1 := by rw [← hce]; rfl
  have ck : ce.scope.kind = .function := by rw [← hce]; exact hsk
  have clr : ce.kindOf r = some .local := by
    rw [← hce]
    show (relabel scope X.env).names.lookup r = some .local
    have : scope.names.lookup r = some .local := by
      rw [hsn]
      simp only [List.lookup]
      cases (r == Str.ofString ".0") <;> simp
    exact lookup_relabel_local this
  have k2 : ∀ b o, s1.heap.get? b = some o → ((s1.heap.push (lstObj #[] 0)).push { cls := .type "dict", data := .dict #[] }).get? b = some o := fun b o e => Heap.get?_push_of_some _ (Heap.get?_push_of_some _ e)
  have hDo : ((s1.heap.push (lstObj #[] 0)).push { cls := .type "dict", data := .dict #[] }).get? D = some (lstObj #[] 0) := by
    refine Heap.get?_push_of_some _ ?_
    rw [← hD]
    exact Heap.get?_push_size _ rfl
  have hCo : ((s1.heap.push (lstObj #[] 0)).push { cls := .type "dict", data := .dict #[] }).get? (D + 1) = some { cls := .type "dict", data := .dict #[] } := by
    rw [← zD]
    exact Heap.get?_push_size _ rfl
  generalize hs4 : ({ s1 with heap := (s1.heap.push (lstObj #[] 0)).push { cls := .type "dict", data := .dict #[] } } : Shared) = s4
  have e4 : s4.heap = (s1.heap.push (lstObj #[] 0)).push { cls := .type "dict", data := .dict #[] } := by rw [← hs4]
  have g4 : s4.gens = s1.gens := by rw [← hs4]
  have o4 : s4.os = s1.os := by rw [← hs4]
  rw [← e4] at k2 hDo hCo
  have hh : X.A.handled = none := I1.ok.hd hc
  have hdep : X.A.depth < recursionLimit := by have := hr.dp; omega
  have goes : ∀ {gs : GenState} {n : Nat} {rr : Resume} {s' : Shared}, gs.Goes (model X.prog X.w) X.A.in1 (HEnd X.prog X.w X.stack H1 sc (CSd D (D + 1)) a g (LcC Q) (fun _ _ _ => False)) (HItem sc (CSd D (D + 1)) a g) n rr s' →
      gs.Goes (model X.prog X.w) X.A.in1 (fun n s₀ r s1 => ((r = .ok (.ret .none) ∨ r = .ok .next) ∧ (∃ (H' : Hp) (rs : Rws) (cp : Pn), s1.os = sc.os ∧ AllBare s1.gens ∧ Un (frs X.stack) [] H1 H' sc.heap s1.heap ∧ HOk X.prog X.w H' s1.heap ∧ CSd D (D + 1) rs cp ∧ (∀ p ∈ cp, s1.heap.get? p.1 = some p.2 ∧ H' p.1 = none ∧ sc.heap.objs.size ≤ p.1) ∧ rs.length ≤ sizeLine ∧ LcC Q rs H')) ∨
        ∃ e, r = .error e ∧ (CX X.prog X.w X.stack H1 sc (fun _ _ _ => False) e s1 ∧ s1.heap.IsGen a g)) (HItem sc (CSd D (D + 1)) a g) n rr s' := fun h => h
  have ht : ∀ b, D ≤ b → sc.heap.objs.size ≤ b := fun b hb => Nat.le_trans ha1 (Nat.le_trans (Nat.le_of_lt ha2) (by rw [hD]; exact hb))
  have loop : codeAny (model X.prog X.w) X.A (.compLoop (.ListComp (.Subscript (.Name r p1) (.Slice (some (.Constant (.int 1) j5 p5)) none none p2) p3) [⟨.Name r p4, iter, [], 0⟩] scope pos) 0 (.ref a) (.ref D) ce) (compPost (model X.prog X.w) X.A X.xe none (EP X pins σ Q) (.ref D) (D + 1)) s4 := by
    refine compLoop_any (fun n s' => s'.heap.IsGen a g ∧ s'.heap.NoLimit ∧ ∃ gs, s'.gens[g]? = some gs ∧ gs.Goes (model X.prog X.w) X.A.in1 (HEnd X.prog X.w X.stack H1 sc (CSd D (D + 1)) a g (LcC Q) (fun _ _ _ => False)) (HItem sc (CSd D (D + 1)) a g) n (.send .none) (s'.setGen g .running)) ?_ sizeLine ⟨hg.keeps k2, hlim.keeps k2, .fresh c, by rw [g4]; exact hgs, rfl, ?_⟩
    · rintro n s' ⟨ig, nl, gs, hgs', hgo⟩
      have hgl : g < s'.gens.size := (Array.getElem?_eq_some_iff.mp hgs').1
      refine wpAny_gsz (n := g + 1) hgl (next_genG hh nl hdep ig hgs' (goes hgo) (fun v s₁ gs' hbare hv => ?_) (fun s₁ hp h' hk => ?_) fun e s₁ he => ?_)
      · intro hsz
        obtain ⟨rs, row, cp, p, its, hn, os1, hb1, nl1, ig1, rfl, htp, hvs, hrow, hrl, hcs, hcp, hk⟩ := hv
        obtain ⟨ts, cc, oC, rfl, hts, htv, nd, nD, nC, nDC, es, ep, hCd, hCk⟩ := hcs
        have atD := (hcp (D, _) List.mem_cons_self)
        have atC := (hcp (D + 1, oC) (List.mem_cons_of_mem _ List.mem_cons_self))
        have lts : its.length = row.length := hvs.length.symm
        have hin : its ≠ [] := fun z => hrow (by cases row with | nil => rfl | cons _ _ => rw [z] at lts; cases lts)
        have ltl : ts.length = rs.length := by
          have := congrArg List.length hts
          simpa using this
        have hsz1 : g < s₁.gens.size := by
          have q : (s₁.setGen g gs').gens.size = s₁.gens.size := setGen_size _ _ _
          have hsz' : g + 1 ≤ (s₁.setGen g gs').gens.size := hsz
          omega
        obtain ⟨og, nm, qn, hog, hogc, hogd, hogs⟩ := id ig1
        refine go_of (s := s₁.setGen g gs') (n := "generator") hog hogc hogd (by decide) ?_
        have nsC : (s₁.setGen g gs').heap.Ns ce.locals (nsFind es) := by
          rw [cL]
          exact ⟨oC, es, ep, atC.1, hCd, hCk, fun _ => rfl⟩
        refine wpAny_assign_Name (wpAny_storeName_local clr nsC (fun h2 hn2 sb2 => ?_) (by rw [ck]; rfl))
        refine wpAny_tests_nil ?_
        rw [if_pos rfl]
        rw [cL] at sb2
        have pC : p ≠ D + 1 := fun z => atC.2.2.1 z.symm
        have htp2 : IsTup h2 p its.toArray := by
          obtain ⟨o, ho, q⟩ := htp
          exact ⟨o, (sb2.2 p pC).trans ho, q⟩
        refine cut_row (s := { s₁.setGen g gs' with heap := h2, toks := (s₁.setGen g gs').toks + 1 }) ck clr hn2 (by rw [if_pos rfl]) htp2 hin (by rw [lts]; exact hrl) hd fun s3 q hg3 ho3 k3 hq3 ht3 => ?_
        have sz2 : h2.objs.size = s₁.heap.objs.size := sb2.1
        have aD3 : s3.heap.get? D = some (lstObj (ts.map fun e => Value.ref e.1).toArray cc) := k3 _ _ ((sb2.2 D nDC).trans atD.1)
        have hlt : ts.length < sizeLine := by rw [ltl]; omega
        refine append_at (its := (ts.map fun e => Value.ref e.1).toArray) (n := cc) aD3 (fun h5 sb5 ho5 => ?_) (by rw [List.size_toArray, List.length_map]; exact Nat.le_of_lt hlt)
        have lt1 : ∀ {b : Addr} {o : Obj}, s₁.heap.get? b = some o → b < q := fun {b o} e => Nat.lt_of_lt_of_le (Heap.lt_size e) (by rw [← sz2]; exact hq3)
        have kp5 : ∀ b o, b ≠ D → b ≠ D + 1 → s₁.heap.get? b = some o → h5.get? b = some o := fun b o h1 h2 e => (sb5.2 b h1).trans (k3 b o ((sb2.2 b h2).trans e))
        have qD : q ≠ D := Nat.ne_of_gt (lt1 atD.1)
        have qC : q ≠ D + 1 := Nat.ne_of_gt (lt1 atC.1)
        obtain ⟨o2, es2, ep2, hC2, hCd2, hCk2, _⟩ := hn2
        rw [cL] at hC2
        have hC5 : h5.get? (D + 1) = some o2 := (sb5.2 _ (Ne.symm nDC)).trans (k3 _ _ hC2)
        have hq5 : h5.get? q = some (tupO its.tail) := (sb5.2 q qD).trans ht3
        have inT : ∀ e ∈ ts, s₁.heap.get? e.1 = some (tupO e.2.2) := fun e he => (hcp (e.1, tupO e.2.2) (List.mem_cons_of_mem _ (List.mem_cons_of_mem _ (List.mem_map_of_mem (f := fun e => (e.1, tupO e.2.2)) he)))).1
        have g5 : s3.gens = (s₁.setGen g gs').gens := hg3
        have bare5 : AllBare s3.gens := by rw [g5]; exact allBare_setGen hb1 hbare
        have dz : Dozed ((D, lstObj (ts.map fun e => Value.ref e.1).toArray cc) :: (D + 1, oC) :: ts.map (fun e => (e.1, tupO e.2.2)))
            ((D, lstObj ((ts ++ [(q, row.tail, its.tail)]).map fun e => Value.ref e.1).toArray (cc + 1)) :: (D + 1, o2) :: (ts ++ [(q, row.tail, its.tail)]).map (fun e => (e.1, tupO e.2.2))) s₁ ({ s3 with heap := h5 }.setGen g .running) := by
          refine ⟨ho3, allBare_setGen (s := { s3 with heap := h5 }) bare5 rfl, fun b o hb e => kp5 b o (fun z => hb _ List.mem_cons_self z.symm) (fun z => hb _ (List.mem_cons_of_mem _ List.mem_cons_self) z.symm) e, fun pp hpp => ?_⟩
          rcases List.mem_cons.mp hpp with rfl | hpp
          · refine ⟨?_, fun v z => (by cases z), .inl ⟨_, List.mem_cons_self⟩⟩
            show h5.get? D = _
            rw [ho5]
            simp
          · rcases List.mem_cons.mp hpp with rfl | hpp
            · exact ⟨hC5, fun v z => (by rw [hCd2] at z; cases z), .inl ⟨_, List.mem_cons_of_mem _ List.mem_cons_self⟩⟩
            · obtain ⟨e, he, rfl⟩ := List.mem_map.mp hpp
              rcases List.mem_append.mp he with he | he
              · have q1 := inT e he
                refine ⟨kp5 _ _ (fun z => nD (by rw [← z]; exact List.mem_map_of_mem (f := (·.1)) he)) (fun z => nC (by rw [← z]; exact List.mem_map_of_mem (f := (·.1)) he)) q1, fun v z => (by cases z), .inl ⟨_, List.mem_cons_of_mem _ (List.mem_cons_of_mem _ (List.mem_map_of_mem (f := fun e => (e.1, tupO e.2.2)) he))⟩⟩
              · rw [List.mem_singleton.mp he]
                exact ⟨hq5, fun v z => (by cases z), .inr (by rw [← sz2]; exact hq3)⟩
        have cs5 : CSd D (D + 1) (rs ++ [row]) ((D, lstObj ((ts ++ [(q, row.tail, its.tail)]).map fun e => Value.ref e.1).toArray (cc + 1)) :: (D + 1, o2) :: (ts ++ [(q, row.tail, its.tail)]).map (fun e => (e.1, tupO e.2.2))) := by
          refine ⟨ts ++ [(q, row.tail, its.tail)], cc + 1, o2, rfl, ?_, fun e he => ?_, ?_, ?_, ?_, nDC, es2, ep2, hCd2, hCk2⟩
          · rw [List.map_append, List.map_append, hts]
            rfl
          · rcases List.mem_append.mp he with he | he
            · exact htv e he
            · rw [List.mem_singleton.mp he]
              refine ⟨?_, Nat.le_trans (by rw [List.length_tail]; exact Nat.sub_le _ _) hrl⟩
              cases hvs with
              | nil => exact .nil
              | cons _ z => exact z
          · rw [List.map_append, List.nodup_append]
            refine ⟨nd, by simp, fun x hx y hy => ?_⟩
            obtain ⟨e, he, rfl⟩ := List.mem_map.mp hx
            have hy : y = q := by simpa using hy
            rw [hy]
            exact Nat.ne_of_lt (lt1 (inT e he))
          · rw [List.map_append, List.mem_append, not_or]
            exact ⟨nD, by simpa using Ne.symm qD⟩
          · rw [List.map_append, List.mem_append, not_or]
            exact ⟨nC, by simpa using Ne.symm qC⟩
        have hk' := hk _ _ dz cs5
        cases n with
        | zero => exact hk'.elim
        | succ m =>
          refine ⟨m, Nat.lt_succ_self _, ⟨og, nm, qn, kp5 a og (fun z => atD.2.2.2 z.symm) (fun z => atC.2.2.2 z.symm) hog, hogc, hogd, hogs⟩, ?_, gs', ?_, hk'⟩
          · obtain ⟨mc, hns, hnn⟩ := nl1
            have cs : cStatics < sc.heap.objs.size := by
              obtain ⟨_, hz, _⟩ := I1.nolimit
              exact hz.lt
            exact ⟨mc, hns.at' fun o e => kp5 _ o (Nat.ne_of_lt (Nat.lt_of_lt_of_le cs (ht D (Nat.le_refl _)))) (Nat.ne_of_lt (Nat.lt_of_lt_of_le cs (ht (D + 1) (Nat.le_succ _)))) e, hnn⟩
          · show s3.gens[g]? = some gs'
            rw [g5]
            exact setGen_at hsz1
      · intro hsz
        obtain ⟨H', rs, cp, os1, hb1, un, hok, hcs, hcp, hle, hQ⟩ := hp
        obtain ⟨ts, cc, oC, rfl, hts, htv, nd, nD, nC, nDC, es, ep, hCd, hCk⟩ := hcs
        have atD := (hcp (D, _) List.mem_cons_self)
        have atC := (hcp (D + 1, oC) (List.mem_cons_of_mem _ List.mem_cons_self))
        have inT : ∀ e ∈ ts, s₁.heap.get? e.1 = some (tupO e.2.2) ∧ H' e.1 = none ∧ sc.heap.objs.size ≤ e.1 := fun e he => hcp (e.1, tupO e.2.2) (List.mem_cons_of_mem _ (List.mem_cons_of_mem _ (List.mem_map_of_mem (f := fun e => (e.1, tupO e.2.2)) he)))
        have ltl : ts.length = rs.length := by
          have := congrArg List.length hts
          simpa using this
        refine ⟨nsFind es, ⟨oC, es, ep, hk _ _ atC.1, hCd, hCk, fun _ => rfl⟩, fun h6 sb6 => ?_⟩
        have Ia : Inv X pins σ H' { s₁.setGen g .finished with heap := h' } := I1.call' (ch := []) os1 (un.trans (Un.kept hk)) (hok.kept hk) (allBare_setGen hb1 rfl) fun b z => by simp at z
        have e1 : (ts.map fun e => (e.1, e.2.1)).map (·.1) = ts.map (·.1) := by rw [List.map_map]; rfl
        have e2 : (ts.map fun e => (e.1, e.2.1)).map (·.2) = rs.map List.tail := by rw [List.map_map, ← hts]; rfl
        have Ib := inv_trackT (ts.map fun e => (e.1, e.2.1)) Ia (by rw [e1]; exact nd) fun d hd => by
          obtain ⟨e, he, rfl⟩ := List.mem_map.mp hd
          obtain ⟨q1, q2, q3⟩ := inT e he
          exact ⟨q2, inv_young I1 q3, (htv e he).2, e.2.2, (htv e he).1, hk _ _ q1⟩
        have nD' : D ∉ (ts.map fun e => (e.1, e.2.1)).map (·.1) := by rw [e1]; exact nD
        have aw := inv_young I1 atD.2.2
        have eL : (ts.map fun e => (e.1, e.2.1)).map (fun e => V.ref e.1) = ts.map fun e => V.ref e.1 := by rw [List.map_map]; rfl
        have vl : Vals (ts.map fun e => V.ref e.1) (ts.map fun e => Value.ref e.1) := refs_vals ts
        have Ic := inv_track (b := D) (o := .lst ((ts.map fun e => (e.1, e.2.1)).map fun e => V.ref e.1)) Ib (by rw [layT_at _ nD']; exact atD.2.1) aw.young aw.loc aw.cell aw.pins
          ⟨by rw [eL, List.length_map, ltl]; exact hle, ts.map fun e => Value.ref e.1, cc, by rw [eL]; exact vl, hk _ _ atD.1⟩
        have awC := inv_young I1 atC.2.2
        have fC : upd (layT H' (ts.map fun e => (e.1, e.2.1))) D (.lst ((ts.map fun e => (e.1, e.2.1)).map fun e => V.ref e.1)) (D + 1) = none := by
          rw [upd_ne (Ne.symm nDC), layT_at _ (by rw [e1]; exact nC)]
          exact atC.2.1
        refine ⟨.ref D, _, Ic.turned (t' := s₁.toks) (it := D + 1) (fun b o hb e => (sb6.2 b hb).trans e) fC awC.loc (.inr awC.young) awC.cell awC.pins, rfl, ?_⟩
        exact hQ (ts.map fun e => (e.1, e.2.1)) D e2 (by rw [e1]; exact nd) (fun d hd => by
          obtain ⟨e, he, rfl⟩ := List.mem_map.mp hd
          exact (inT e he).2.1) atD.2.1 nD'
      · obtain ⟨⟨_, _, _, _, _, _, _, _, _, _, _, _, hW⟩, _⟩ := he
        exact hW.elim
    · refine wake X.A.in1 (CSd D (D + 1)) [(D, lstObj #[] 0), (D + 1, { cls := .type "dict", data := .dict #[] })] (s4.setGen g .running) ⟨hr.hd, ?_, ?_⟩ I1.ok.frames k2 ?_ ?_ (o4.trans hos) (allBare_setGen (by rw [g4]; exact hba) rfl)
      · have := hr.dp
        show X.A.depth + 3 * k + 5 < _
        omega
      · have := hr.un
        show X.A.units + 1 + 16 * k + 200 < _
        omega
      · refine ⟨[], 0, _, rfl, rfl, fun e he => ?_, List.nodup_nil, ?_, ?_, Nat.ne_of_lt (Nat.lt_succ_self _), _, _, rfl, fun e he => ?_⟩
        all_goals simp at *
      · intro p hp
        simp only [List.mem_cons, List.not_mem_nil, or_false] at hp
        rcases hp with rfl | rfl
        · exact ⟨hDo, Nat.le_of_eq hD, fun v q => by cases q⟩
        · exact ⟨hCo, by rw [hD]; exact Nat.le_succ _, fun v q => by cases q⟩
  exact codeAny_compStart_list loop (wpAny_pyIter_gen (hg.keeps k2) loop)
end
end Sb

namespace Sb
open PySem PySem.Spec PyProof.Rows L2 TL
section
variable {P : Program} {w : World} {K : PySem.W.Frag} {mg : Str → Option Value} {base : Heap}
theorem fun_hok {x qual : Str} {st : Stmt} {f : Addr} {fd : FuncData} {N ps : List Str} {k : Nat} {sp : SpH} (F : L2.Fun K x qual st f fd) (S : GScope N ps (defScope st)) (len : ∀ vs H Q E, sp vs H Q E → vs.length = ps.length)
    (hbody : ∀ (cdv : Value) (A : Around) (outer : List Env) (s : Shared) (H : Hp) (vs : List V) (Q : Rws → Hp → Prop) (E : XK) (pn : Pn), Room k (A.deeper (envOfC qual (defScope st) s.heap.objs.size f cdv)) → sp vs H Q E →
      ∃ t, HSs (gcxOf P w K mg base N qual (defScope st) f cdv A outer s H E pn) (defBody st) t ∧ t { nx := fun rs _ H' => Q rs H', rt := fun rs v H' => v = .non ∧ Q rs H' } [] (start N vs) H) : HFn P w K mg base (k + 1) f fd ps sp := by
  obtain ⟨oc, od, kV, doc, pm, an, cdv, ct, osl, rfl, lk, hcd⟩ := F.ex
  exact hfn_of lk hcd S len fun A outer s H vs Q E pn hr hsp => hbody cdv A outer s H vs Q E pn hr hsp
end
def rowV (x : Pl) (t : Nat) : List V := [.int t, .str (doS (wordsAt x t).1), .str (doS (wordsAt x t).2)]
structure spTraceH (K : PySem.W.Frag) (vs : List V) (H : Hp) (Q : Rws → Hp → Prop) (E : XK) : Prop where
  ex : ∃ (src : Str) (G : Hp) (x : Pl) (i n t m : Nat), vs = [.str src, .int t, .int ((t : Int) + (m : Int) - 1)] ∧ Told src x i n ∧ t ≤ 1000000000000000000 ∧ m ≤ 500 ∧ t + m ≤ 1000000000000000001 ∧ Same G H ∧
    ∀ (G' H' : Hp), Pt G H G' H' → Q ((List.range m).map fun k => rowV x (t + k)) H'
section
variable {P : Program} {w : World} {K : PySem.W.Frag} {mg : Str → Option Value} {base : Heap} {a : Ad}
theorem ok_traceH (T : Txt K mg a) : HFn P w K mg base 9 a.f_trace a.d_trace ["plan", "first", "last"] (spTraceH K) := by
  refine fun_hok T.F_trace sc_trace (fun vs H Q E h => ?_) (fun cdv A outer s H vs Q E pn hr h => ?_)
  · obtain ⟨⟨src, G, x, i, n, t, m, rfl, _⟩⟩ := h
    rfl
  · obtain ⟨⟨src, G, x, i, n, t, m, rfl, ⟨ld, ok, cy, le⟩, ht, hm, htm, hGH, k⟩⟩ := h
    refine ⟨_, (hss_cons (hs_ps (ps_set (i := 3) sc_trace.nd rfl (Or.inl rfl) (pe_call (ok_load T) (hr.mono (by decide)) rfl T.m_load T.F_load.kp (b_load T) .nil pass0 (pa_cons (pv 0) pa_nil))))
      (hss_cons (hs_ps (ps_expr (pe_call (ok_check_tick T) (hr.mono (by decide)) rfl T.m_check_tick T.F_check_tick.kp (b_check_tick T) .nil pass0 (pa_cons (pv 1) pa_nil))))
      (hss_cons (hs_ps (ps_if (pt_not (pt_val (pe_call (ok_is_int_in T) (hr.mono (by decide)) rfl T.m_is_int_in T.F_is_int_in.kp (b_is_int_in T) .nil pass0 (pa_cons (pv 2) (pa_cons (pe_op op_sub (pv 1) pe_int) (pa_cons (pe_callB (call_min2 rfl) (by rfl) T.z_min (by decide +kernel) (pa_cons (pe_glob (v := V.int 1000000000000000000) rfl T.c_MAX_TICK ⟨_, rfl⟩) (pa_cons (pe_op op_sub (pe_op op_add (pv 1) (pe_glob (v := V.int 500) rfl T.c_MAX_TRACE ⟨_, rfl⟩)) pe_int) pa_nil))) pa_nil)))))) pss_never pss_nil))
      (hss_cons (hs_ps (ps_set (i := 4) sc_trace.nd rfl (Or.inl rfl) (pe_make T.mk_Story (ok_Story_init T) (hr.mono (by decide)) (by rfl) T.m_Story (b_Story_init T) .nil pass0 (pa_cons (pv 3) pa_nil))))
      (hss_cons (hs_for owns_gcx rfl (pi_range2 (by rfl) T.z_range (pa_cons (pv 1) (pa_cons (pe_op op_add (pv 2) pe_int) pa_nil))) (pg_name (i := 5) sc_trace.nd rfl (Or.inl rfl)) (hss_cons (hs_yield (pe_tup (pa_cons (pv 5) (StX.pa_star (pe_fld (pe_meth (pv 4) T.cl_Story T.M_Story_happens (ok_Story_happens T) (hr.mono (by decide)) (b_Story_happens T) .nil pass0 (pa_cons (pv 5) pa_nil)) rfl) pa_nil))))
      hss_nil))
      hss_nil))))), ?_⟩
    refine ⟨_, rfl, ⟨⟨src, G, x, rfl, ld, ok, hGH, fun G1 H1 v1 x1 s1 h1 => ?_⟩⟩⟩
    have B1 := (Pt.start hGH).call x1 s1
    refine ⟨_, rfl, check_go ht ?_⟩
    refine ⟨_, rfl, _, rfl, _, _, rfl, rfl, _, rfl, _, _, rfl, rfl, _, _, rfl, rfl, _, _, rfl, ?_⟩
    refine isint_go (by omega) ?_ ⟨_, rfl, ite_f rfl ?_⟩
    · split <;> omega
    refine ⟨_, rfl, ?_⟩
    intro y dy ny nd ne
    obtain ⟨yG, sS, hp2⟩ := story_pre B1 h1 ny nd ne
    refine ⟨⟨y, dy, _, _, x, i, n, rfl, upd_same, yG, sS, hp2, ok, cy, le, fun G' H2 l0 vs0 M yG' hy' hl0 ht0 => ⟨rfl, ?_⟩⟩⟩
    obtain ⟨G2, B2, S2, hS⟩ := story_post B1 ny nd ne M yG' hy' hl0 ht0
    refine ⟨_, rfl, _, rfl, _, _, rfl, rfl, _, _, rfl, ⟨by omega, by omega, by omega, by omega⟩, ?_⟩
    have em : ((t : Int) + (m : Int) - 1 + 1 - (t : Int)).toNat = m := by omega
    rw [em]
    refine hfor_range (lo := (t : Int)) (n := m) (fun j rs σ H' => ∃ (G' : Hp) (v5 : Option V), σ = [some (.str src), some (.int t), some (.int ((t : Int) + (m : Int) - 1)), some v1, some (.ref y), v5] ∧ Pt G H G' H' ∧ StoryAt a K G' (.ref y) x i n ∧ rs = (List.range j).map fun k => rowV x (t + k)) ?_ ?_ ?_
    · exact ⟨G2, none, rfl, B2, hS, rfl⟩
    · rintro j rs σ H' hj ⟨G', v5, rfl, B3, hS3, rfl⟩
      obtain ⟨y', dy2, l, vs, eY, hy, hl, hts⟩ := id hS3
      cases eY
      refine ⟨by rw [List.length_map, List.length_range]; exact smaller 500 (by omega) (by decide), ?_⟩
      refine ⟨_, rfl, _, rfl, y, dy2, _, rfl, B3.s _ _ hy, (by kernel_rfl), _, rfl, ⟨⟨G', _, x, i, n, t + j, by push_cast; rfl, hS3, cy, B3.s, fun u hu => ?_⟩⟩⟩
      obtain ⟨r, dr, tw, su, rfl, hr1, hr2, _⟩ := hu
      refine ⟨r, _, dr, _, .ref tw, rfl, B3.s _ _ hr1, T.cl_Tick, T.n_Tick_words, (by kernel_rfl), tw, _, rfl, .inl (Same.seqT B3.s hr2), (by show 3 ≤ sizeLine; decide), fun p hp => ?_⟩
      have B4 := B3.new hp (.tup [.int ((t : Int) + (j : Int)), .str (doS (wordsAt x (t + j)).1), .str (doS (wordsAt x (t + j)).2)])
      have g4 := same_new (o := .tup [.int ((t : Int) + (j : Int)), .str (doS (wordsAt x (t + j)).1), .str (doS (wordsAt x (t + j)).2)]) (B3.freeG hp)
      refine ⟨p, _, rfl, upd_same, fun z => (by cases z), _, _, rfl, B4, hS3.mono g4, ?_⟩
      rw [range_more]
      have e : ((t + j : Nat) : Int) = (t : Int) + (j : Int) := by push_cast; rfl
      show _ = _ ++ [[V.int ((t + j : Nat) : Int), _, _]]
      rw [e]
      rfl
    · rintro rs σ H' ⟨G', v5, rfl, B3, hS3, rfl⟩
      exact k G' H' B3
def wordsL (x : Pl) (t m : Nat) : List PyData := (List.range m).map fun k => wordsD (wordsAt x (t + k))
theorem lays_pt {G H : Hp} : ∀ (us : List (Addr × List V)) {G1 H1 : Hp}, Pt G H G1 H1 → (us.map (·.1)).Nodup → (∀ e ∈ us, H1 e.1 = none) → Pt G H (layT G1 us) (layT H1 us)
  | [], _, _, B, _, _ => B
  | e :: us, G1, H1, B, nd, h => by
    rw [List.map_cons, List.nodup_cons] at nd
    refine lays_pt us (B.new (h e List.mem_cons_self) (.tup e.2)) nd.2 fun d hd => ?_
    have nz : d.1 ≠ e.1 := fun z => nd.1 (by rw [← z]; exact List.mem_map_of_mem (f := (·.1)) hd)
    rw [upd_ne nz]
    exact h d (List.mem_cons_of_mem _ hd)
theorem lays_get : ∀ (us : List (Addr × List V)) {G1 : Hp}, (us.map (·.1)).Nodup → ∀ e ∈ us, layT G1 us e.1 = some (.tup e.2)
  | [], _, _, e, he => by cases he
  | d :: us, G1, nd, e, he => by
    rw [List.map_cons, List.nodup_cons] at nd
    rcases List.mem_cons.mp he with rfl | he
    · show layT (upd G1 e.1 (.tup e.2)) us e.1 = _
      rw [layT_at us nd.1, upd_same]
    · exact lays_get us nd.2 e he
theorem lays_words {G : Hp} : ∀ {us : List (Addr × List V)} {ws : List (Nat × Nat)}, us.map (·.2) = ws.map (fun w => [V.str (doS w.1), V.str (doS w.2)]) → (∀ e ∈ us, G e.1 = some (.tup e.2)) → DpAll K G (us.map fun e => .ref e.1) (ws.map wordsD)
  | [], [], _, _ => .nil
  | [], _ :: _, h, _ => by cases h
  | _ :: _, [], h, _ => by cases h
  | e :: us, w :: ws, h, hg => by
    rw [List.map_cons, List.map_cons, List.cons.injEq] at h
    refine .cons (.tup (SqT.of (by rw [hg e List.mem_cons_self, h.1])) (.cons (.str _) (.cons (.str _) .nil))) (lays_words h.2 fun d hd => hg d (List.mem_cons_of_mem _ hd))
/-- [row[1:] for row in trace(..)] -/
theorem traceH_go {src : Str} {G H : Hp} {x : Pl} {i n t m : Nat} {Q : VK} {E : XK} (told : Told src x i n) (ht : t ≤ 1000000000000000000) (hm : m ≤ 500) (htm : t + m ≤ 1000000000000000001) (s : Same G H)
    (k : ∀ (G' H' : Hp) (ys : List V), Pt G H G' H' → DpAll K G' ys (wordsL x t m) → ∀ D, H' D = none → Q (.ref D) (upd H' D (.lst ys))) :
    spTraceH K [.str src, .int t, .int ((t : Int) + (m : Int) - 1)] H (LcC Q) E := by
  refine ⟨⟨src, G, x, i, n, t, m, rfl, told, ht, hm, htm, s, fun G' H' B us D e nd fr fD nD => ?_⟩⟩
  have B2 := lays_pt us B nd fr
  refine k _ _ _ B2 ?_ D (by rw [layT_at us nD]; exact fD)
  have e2 : us.map (·.2) = ((List.range m).map fun k => wordsAt x (t + k)).map (fun w => [V.str (doS w.1), V.str (doS w.2)]) := by
    rw [e, List.map_map, List.map_map]
    rfl
  have := lays_words (K := K) (G := layT G' us) e2 (lays_get us nd)
  rw [List.map_map] at this
  exact this
end
end Sb

namespace Sb
open PySem PySem.Spec PyProof.Rows L2 TL LamX
theorem cutL_hi {xs : List V} {i : Nat} (h : i ≤ xs.length) : cutV xs none (some (i : Int)) = xs.take i := by
  unfold cutV
  rw [HT.sIx_none, HT.sIx_nat, List.drop_zero, Nat.sub_zero, Nat.min_eq_left h]
theorem cutL_lo {xs : List V} {i : Nat} (h : i ≤ xs.length) : cutV xs (some (i : Int)) none = xs.drop i := by
  unfold cutV
  rw [HT.sIx_none, HT.sIx_nat, Nat.min_eq_left h]
  exact List.take_of_length_le (by rw [List.length_drop]; omega)
theorem nV_int (l : List Nat) : nV l = (l.map fun n : Nat => (n : Int)).map V.int := by rw [List.map_map]; rfl
/-- a number of each tick, by what is done in it -/
abbrev phiAt (x : Pl) (φ : Nat × Nat → Nat) (j : Nat) : Nat := φ (wordsAt x j)
theorem phi_per {x : Pl} {i n : Nat} {φ : Nat × Nat → Nat} (h : Cyc x i n) (t : Nat) (ht : i ≤ t) : phiAt x φ (t + (n - i)) = phiAt x φ t := by
  unfold phiAt wordsAt
  rw [words_per h t ht]
theorem cntF_le {f : Nat → Nat} (h : ∀ j, f j ≤ 1) (t : Nat) : cntF f t ≤ t := by
  induction t with
  | zero => exact Nat.le_refl _
  | succ t ih => rw [cntF_succ]; have := h t; omega
def TickR (a : Ad) (K : PySem.W.Frag) (S : List Addr) (φ : Nat × Nat → Nat) : V → Hp → V → Prop := fun v H z => ∃ w s, TickAt a K (cut S H) v w s ∧ z = .int (φ w)
structure spCount (P : Program) (w : World) (mg : Str → Option Value) (base : Heap) (a : Ad) (K : PySem.W.Frag) (vs : List V) (H : Hp) (Q : VK) (E : XK) : Prop where
  ex : ∃ (G : Hp) (v : V) (x : Pl) (i n t : Nat) (f : Addr) (D : Hp → Prop) (φ : Nat × Nat → Nat) (S : List Addr), vs = [v, .int t, .ref f] ∧ StoryAt a K G v x i n ∧ Cyc x i n ∧ n ≤ 20000 ∧ t ≤ 1000000000000000000 ∧ (∀ w, φ w ≤ 1) ∧ Same G H ∧ (∀ b ∈ S, G b = none ∧ H b ≠ none) ∧
    Lam1 P w K mg base 2 f D (TickR a K S φ) ∧ D H ∧ (∀ H', Same H H' → D H') ∧ ∀ G' H', Ext G H G' H' → Same H H' → Q (.int (cntF (phiAt x φ) t : Nat)) H'
section
variable {P : Program} {w : World} {K : PySem.W.Frag} {mg : Str → Option Value} {base : Heap} {a : Ad}
end
end Sb

namespace Sb
open PySem PySem.Spec PyProof.Rows L2 TL LamX NdefX
structure spCheckRobot (vs : List V) (H : Hp) (Q : VK) (E : XK) : Prop where
  ex : ∃ t : Nat, vs = [.int t] ∧ t < 2 ∧ Q .non H
theorem robot_go {t : Nat} {H : Hp} {Q : VK} {E : XK} (h : t < 2) (q : Q .non H) : spCheckRobot [.int t] H Q E := ⟨⟨t, rfl, h, q⟩⟩
/-- what the robot of a number does -/
def wdN (w : Nat × Nat) (num : Nat) : Nat := if num = 0 then w.1 else w.2
def phiS (num : Nat) (word : Str) (w : Nat × Nat) : Nat := if doS (wdN w num) = word then 1 else 0
/-! ### behind a lambda and the call that got it -/
theorem lam_post {T : List (Addr × Str)} {P : Addr} {tb : List Addr} {G H G2 H2 H3 H4 G' H' : Hp} {cells : List (Addr × Obj)} (B : Pt G H G2 H2) (hP : P ∈ tb) (hPG : G2 P = none) (h3 : ∀ b o, b ≠ P → H2 b = some o → H3 b = some o) (nn : ∀ b, H3 b = none → H2 b = none) (t3 : Tabs T H3) (tr : Trk cells H3 H4)
    (e : Ext G2 H4 G' H') (sm : Same H4 H') : Ext G H G' (cut (cells.map (·.1)) H') ∧ Same (wos tb H) (cut (cells.map (·.1)) H') ∧ Tabs T (cut (cells.map (·.1)) H') := by
  have up : ∀ b o, H3 b = some o → cut (cells.map (·.1)) H' b = some o := fun b o q => by
    have nb : b ∉ cells.map (·.1) := fun z => by rw [(tr.none z).1] at q; cases q
    rw [cut_out nb]
    exact sm _ _ (by rw [tr.out b nb]; exact q)
  have inS : ∀ b, b ∈ cells.map (·.1) → H b = none := fun b z => B.ext.k _ (nn b (tr.none z).1)
  refine ⟨⟨B.g.trans e.g, fun b o q => ?_, fun b o q => ?_, fun b q => ?_⟩, fun b o q => ?_, t3.ext up⟩
  · have nb : b ∉ cells.map (·.1) := fun z => by
      obtain ⟨z1, o', z2⟩ := tr.none z
      rcases e.n b o q with q1 | q1
      · have : H2 b = some o := B.s _ _ q1
        rw [nn b z1] at this; cases this
      · rw [z2] at q1; cases q1
    rw [cut_out nb]
    exact e.h _ _ q
  · rcases e.n b o q with q1 | q1
    · exact B.ext.n b o q1
    · refine .inr (B.ext.k b (nn b ?_))
      by_cases z : b ∈ cells.map (·.1)
      · exact (tr.none z).1
      · rw [← tr.out b z]; exact q1
  · by_cases z : b ∈ cells.map (·.1)
    · exact inS b z
    · rw [cut_out z] at q
      have := e.k b q
      rw [tr.out b z] at this
      exact B.ext.k b (nn b this)
  · obtain ⟨nb, q⟩ := wos_some q
    exact up b o (h3 b o (fun z => nb (by rw [z]; exact hP)) (B.sm _ _ q))
/-- .. and ahead of it -/
theorem lam_pre {P : Addr} {G2 H2 H3 H4 : Hp} {cells : List (Addr × Obj)} (s2 : Same G2 H2) (hPG : G2 P = none) (h3 : ∀ b o, b ≠ P → H2 b = some o → H3 b = some o) (nn : ∀ b, H3 b = none → H2 b = none) (tr : Trk cells H3 H4) :
    Same G2 H4 ∧ ∀ b ∈ cells.map (·.1), G2 b = none ∧ H4 b ≠ none := by
  refine ⟨fun b o q => ?_, fun b z => ?_⟩
  · have q3 := h3 b o (fun z => by rw [z, hPG] at q; cases q) (s2 _ _ q)
    rw [tr.out b fun z => by rw [(tr.none z).1] at q3; cases q3]
    exact q3
  · obtain ⟨z1, o, z2⟩ := tr.none z
    refine ⟨?_, by rw [z2]; exact Option.some_ne_none _⟩
    cases q : G2 b with
    | none => rfl
    | some u =>
      have := s2 _ _ q
      rw [nn b z1] at this; cases this
theorem phiS_le {num : Nat} {word : Str} : ∀ w, phiS num word w ≤ 1 := fun w => by unfold phiS; split <;> decide
theorem wd_at {w : Nat × Nat} {num : Nat} (h : num < 2) : ([V.str (doS w.1), V.str (doS w.2)] : List V)[num]? = some (.str (doS (wdN w num))) := by
  match num, h with
  | 0, _ => rfl
  | 1, _ => rfl
theorem lamD_mono {f c' : Addr} {q : Str} {o : Obj} {cells : List (Addr × Obj)} {H H' : Hp} (s : Same H H') (h : LamD f c' q o cells H) : LamD f c' q o cells H' := ⟨s _ _ h.1, s _ _ h.2.1, fun p hp => s _ _ (h.2.2 p hp)⟩
section
variable {P : Program} {w : World} {K : PySem.W.Frag} {mg : Str → Option Value} {base : Heap} {a : Ad}
end
end Sb

namespace Sb
open PySem PySem.Spec PyProof.Rows L2 TL LamX NdefX
theorem units1 {A : Around} (h : A.units + 64 < cLine) : A.units + 1 < cLine := by omega
/-! ### `in` of a dict with ints as keys -/
def rInK : R2 := fun x y H Q => ∃ a o, y = .ref a ∧ DGet H a x o ∧ Q (.bl o.isSome) H
def rNotInK : R2 := fun x y H Q => ∃ a o, y = .ref a ∧ DGet H a x o ∧ Q (.bl (!o.isSome)) H
theorem op_inK {X : Cx} (hu : X.A.units + 1 < cLine) : OpR X (compareOp .In) rInK := by
  intro pins s σ H x y v u Q I rx ry h
  obtain ⟨a, o, rfl, g, q⟩ := h
  cases ry
  exact d_in hu I g rx fun s' I' => ⟨.bl o.isSome, H, I', rfl, q⟩
theorem op_notInK {X : Cx} (hu : X.A.units + 1 < cLine) : OpR X (compareOp .NotIn) rNotInK := by
  intro pins s σ H x y v u Q I rx ry h
  obtain ⟨a, o, rfl, g, q⟩ := h
  cases ry
  exact d_notIn hu I g rx fun s' I' => ⟨.bl (!o.isSome), H, I', rfl, q⟩
/-! ### robots that are blocked -/
def blkAt (x : Pl) (num j : Nat) : Bool := decide (doS (wdN (wordsAt x j) num) = "blocked")
def stuckB (x : Pl) (i n num : Nat) : Bool := ((List.range n).drop i).all fun j => blkAt x num j
def stuckL (x : Pl) (i n : Nat) : List Nat := (List.range 2).filter fun k => stuckB x i n k
def blkD : PyData := .tuple [.str "blocked", .str "blocked"]
def lockP (x : Pl) (i : Nat) : Option Nat := if PyData.eqv (wordsD (wordsAt x i)) blkD = true then some i else none
def downP (f : Nat → Bool) : Nat → Nat
  | 0 => 0
  | m + 1 => if f m = true then downP f m else m + 1
def fromP (x : Pl) (i n num : Nat) : Option Nat := if num ∈ stuckL x i n then some (downP (blkAt x num) i) else none
def nsAt (x : Pl) (num j : Nat) : Nat := (sitAt x j).ns.getD num 0
def usedB (x : Pl) (n num k : Nat) : Bool := (List.range n).any fun j => !blkAt x num j && decide (nsAt x num j = k)
def unusedL (x : Pl) (n num : Nat) : List Nat := (List.range (stepsOf x num).length).filter fun k => !usedB x n num k
theorem words_shaped (w : Nat × Nat) (h1 : w.1 ≤ 8) (h2 : w.2 ≤ 8) : SeqAt.shaped (wordsD w) = true := by
  have h : ∀ a b : _root_.Fin 9, SeqAt.shaped (wordsD (a.val, b.val)) = true := by decide +kernel
  exact h ⟨w.1, by omega⟩ ⟨w.2, by omega⟩
theorem words_le {x : Pl} (hx : x.Ok) (j : Nat) : (wordsAt x j).1 ≤ 8 ∧ (wordsAt x j).2 ≤ 8 := by
  have so := sitAt_ok hx j
  exact ⟨act_w hx so (i := 0) (by decide), act_w hx (act_ok hx so (i := 0) (by decide)) (i := 1) (by decide)⟩
structure spLockOf (a : Ad) (K : PySem.W.Frag) (vs : List V) (H : Hp) (Q : VK) (E : XK) : Prop where
  ex : ∃ (G : Hp) (v : V) (x : Pl) (i n : Nat), vs = [v] ∧ StoryAt a K G v x i n ∧ x.Ok ∧ Cyc x i n ∧ Pure G H Q fun G' v => Dp K G' v (optD (lockP x i))
structure spStuckIn (a : Ad) (K : PySem.W.Frag) (vs : List V) (H : Hp) (Q : VK) (E : XK) : Prop where
  ex : ∃ (G : Hp) (v : V) (x : Pl) (i n : Nat), vs = [v] ∧ StoryAt a K G v x i n ∧ Cyc x i n ∧ n ≤ 20000 ∧ Same G H ∧ ∀ G1 H1 p, Pt G H G1 H1 → G1 p = none → H p = none → H1 p = some (.lst (nV (stuckL x i n))) → Q (.ref p) H1
structure spLockTick (K : PySem.W.Frag) (vs : List V) (H : Hp) (Q : VK) (E : XK) : Prop where
  ex : ∃ (src : Str) (G : Hp) (x : Pl) (i n : Nat), vs = [.str src] ∧ Told src x i n ∧ Pure G H Q fun G' v => Dp K G' v (optD (lockP x i))
structure spStuckRobots (K : PySem.W.Frag) (vs : List V) (H : Hp) (Q : VK) (E : XK) : Prop where
  ex : ∃ (src : Str) (G : Hp) (x : Pl) (i n : Nat), vs = [.str src] ∧ Told src x i n ∧ Same G H ∧ ∀ G1 H1 p, Pt G H G1 H1 → G1 p = none → H p = none → H1 p = some (.lst (nV (stuckL x i n))) → Q (.ref p) H1
structure spStuckFrom (K : PySem.W.Frag) (vs : List V) (H : Hp) (Q : VK) (E : XK) : Prop where
  ex : ∃ (src : Str) (G : Hp) (x : Pl) (i n num : Nat), vs = [.str src, .int num] ∧ Told src x i n ∧ num < 2 ∧ Pure G H Q fun G' v => Dp K G' v (optD (fromP x i n num))
structure spUnused (K : PySem.W.Frag) (vs : List V) (H : Hp) (Q : VK) (E : XK) : Prop where
  ex : ∃ (src : Str) (G : Hp) (x : Pl) (i n num : Nat), vs = [.str src, .int num] ∧ Told src x i n ∧ num < 2 ∧ Pure G H Q fun G' v => ∃ p, v = .ref p ∧ G' p = some (.lst (nV (unusedL x n num)))
theorem ite_bl {x : Pl} {num j : Nat} {A B : Prop} (h1 : blkAt x num j = true → A) (h2 : blkAt x num j = false → B) : if decide (V.str (doS (wdN (wordsAt x j) num)) = V.str "blocked") = true then A else B := by
  have e : decide (V.str (doS (wdN (wordsAt x j) num)) = V.str "blocked") = blkAt x num j := by
    unfold blkAt
    exact decide_eq_decide.mpr ⟨fun z => by injection z, fun z => by rw [z]⟩
  rw [e]
  exact ite_b h1 h2
theorem blk_V (x : Pl) (num j : Nat) : decide (V.str (doS (wdN (wordsAt x j) num)) = V.str "blocked") = blkAt x num j := by
  unfold blkAt
  exact decide_eq_decide.mpr ⟨fun z => by injection z, fun z => by rw [z]⟩
theorem drop_map_range {α : Type} (f : Nat → α) (n i : Nat) : ((List.range n).map f).drop i = ((List.range n).drop i).map f := by rw [List.map_drop]
section
variable {P : Program} {w : World} {K : PySem.W.Frag} {mg : Str → Option Value} {base : Heap} {a : Ad}
end
end Sb

namespace Sb
open PySem PySem.Spec PyProof.Rows L2 TL
/-! ### data that _law_equal walks -/
structure Fine (n : Nat) (d : PyData) : Prop where
  ok : okD d = true
  dep : d.depth ≤ n
theorem okAll_of : ∀ {ds : List PyData}, (∀ d ∈ ds, okD d = true) → okAll ds = true
  | [], _ => rfl
  | d :: ds, h => by
    show (okD d && okAll ds) = true
    rw [h d List.mem_cons_self, okAll_of fun e he => h e (List.mem_cons_of_mem _ he)]
    rfl
theorem depthAll_of {n : Nat} : ∀ {ds : List PyData}, (∀ d ∈ ds, d.depth ≤ n) → PyData.depthAll ds ≤ n
  | [], _ => Nat.zero_le _
  | d :: ds, h => by
    show max d.depth (PyData.depthAll ds) ≤ n
    exact Nat.max_le.mpr ⟨h d List.mem_cons_self, depthAll_of fun e he => h e (List.mem_cons_of_mem _ he)⟩
theorem Fine.list {n : Nat} {ds : List PyData} (h : ∀ d ∈ ds, Fine n d) (l : ds.length ≤ 1000000) : Fine (n + 1) (.list ds) := by
  refine ⟨?_, ?_⟩
  · show (decide (ds.length ≤ 1000000) && okAll ds) = true
    rw [decide_eq_true l, okAll_of fun d hd => (h d hd).ok]
    rfl
  · show PyData.depthAll ds + 1 ≤ n + 1
    exact Nat.succ_le_succ (depthAll_of fun d hd => (h d hd).dep)
theorem Fine.tuple {n : Nat} {ds : List PyData} (h : ∀ d ∈ ds, Fine n d) (l : ds.length ≤ 1000000) : Fine (n + 1) (.tuple ds) := by
  refine ⟨?_, ?_⟩
  · show (decide (ds.length ≤ 1000000) && okAll ds) = true
    rw [decide_eq_true l, okAll_of fun d hd => (h d hd).ok]
    rfl
  · show PyData.depthAll ds + 1 ≤ n + 1
    exact Nat.succ_le_succ (depthAll_of fun d hd => (h d hd).dep)
theorem Fine.mono {n m : Nat} {d : PyData} (h : Fine n d) (l : n ≤ m) : Fine m d := ⟨h.ok, Nat.le_trans h.dep l⟩
theorem Fine.int {n : Nat} (i : Int) : Fine n (.int i) := ⟨rfl, Nat.zero_le _⟩
theorem Fine.str {n : Nat} (i : Str) : Fine n (.str i) := ⟨rfl, Nat.zero_le _⟩
theorem Fine.bool {n : Nat} (i : Bool) : Fine n (.bool i) := ⟨rfl, Nat.zero_le _⟩
theorem Fine.none {n : Nat} : Fine n .none := ⟨rfl, Nat.zero_le _⟩
theorem fine_natsD {n : Nat} {l : List Nat} (h : l.length ≤ 1000000) : Fine (n + 1) (natsD l) := Fine.list (fun d hd => by obtain ⟨k, _, rfl⟩ := List.mem_map.mp hd; exact .int _) (by rw [List.length_map]; exact h)
theorem fine_natsT {n : Nat} {l : List Nat} (h : l.length ≤ 1000000) : Fine (n + 1) (natsT l) := Fine.tuple (fun d hd => by obtain ⟨k, _, rfl⟩ := List.mem_map.mp hd; exact .int _) (by rw [List.length_map]; exact h)
theorem fine2 {n : Nat} {P : PyData → Prop} {a b : PyData} (ha : P a) (hb : P b) : ∀ d ∈ [a, b], P d := fun d hd => by
  rcases List.mem_cons.mp hd with rfl | hd
  · exact ha
  · rw [List.mem_singleton.mp hd]; exact hb
theorem fine3 {n : Nat} {P : PyData → Prop} {a b c : PyData} (ha : P a) (hb : P b) (hc : P c) : ∀ d ∈ [a, b, c], P d := fun d hd => by
  rcases List.mem_cons.mp hd with rfl | hd
  · exact ha
  · exact fine2 (n := 0) hb hc d hd
theorem equal_go {K : PySem.W.Frag} {n : Nat} {v u : V} {d : PyData} {H : Hp} {Q : VK} {E : XK} (hv : Dp K H v d) (hu : Dp K H u d) (f : Fine n d) (k : ∀ H', Same H H' → Q (.bl true) H') : spEqual K n [v, u] H Q E := ⟨⟨v, u, d, rfl, hv, hu, f.dep, f.ok, k⟩⟩
/-! ### the days -/
def dayD (x : Pl) (j : Nat) : PyData := .tuple [wordsD (wordsAt x j), sitL (sitAt x (j + 1))]
theorem last_at {xs : List V} {v : V} : atI (xs ++ [v]) (-1) = some v := by
  have := ixN_last (n := xs.length)
  unfold atI
  rw [List.length_append, List.length_singleton, this]
  simp
end Sb

namespace Sb
open PySem PySem.Spec PyProof.Rows L2 TL LamX NdefX
/-! ### data that == walks -/
structure Lay (n : Nat) (d : PyData) : Prop where
  lay : d.canLay0 = true
  dep : d.depth ≤ n
theorem layAll_of : ∀ {ds : List PyData}, (∀ d ∈ ds, d.canLay0 = true) → PyData.canLayAll0 ds = true
  | [], _ => rfl
  | d :: ds, h => by
    show (d.canLay0 && PyData.canLayAll0 ds) = true
    rw [h d List.mem_cons_self, layAll_of fun e he => h e (List.mem_cons_of_mem _ he)]
    rfl
theorem Lay.list {n : Nat} {ds : List PyData} (h : ∀ d ∈ ds, Lay n d) : Lay (n + 1) (.list ds) := ⟨layAll_of fun d hd => (h d hd).lay, Nat.succ_le_succ (depthAll_of fun d hd => (h d hd).dep)⟩
theorem Lay.tuple {n : Nat} {ds : List PyData} (h : ∀ d ∈ ds, Lay n d) : Lay (n + 1) (.tuple ds) := ⟨layAll_of fun d hd => (h d hd).lay, Nat.succ_le_succ (depthAll_of fun d hd => (h d hd).dep)⟩
theorem Lay.mono {n m : Nat} {d : PyData} (h : Lay n d) (l : n ≤ m) : Lay m d := ⟨h.lay, Nat.le_trans h.dep l⟩
theorem Lay.int {n : Nat} (i : Int) : Lay n (.int i) := ⟨rfl, Nat.zero_le _⟩
theorem Lay.bool {n : Nat} (i : Bool) : Lay n (.bool i) := ⟨rfl, Nat.zero_le _⟩
theorem Lay.none {n : Nat} : Lay n .none := ⟨rfl, Nat.zero_le _⟩
theorem Lay.str {n : Nat} {x : Str} (h : PyData.strOk x = true) : Lay n (.str x) := ⟨h, Nat.zero_le _⟩
theorem Lay.shaped {n : Nat} {ds : List PyData} (h : Lay n (.list ds)) (hn : n ≤ 64) : SeqAt.shaped (.list ds) = true := by
  have h1 : PyData.canLayAll0 ds = true := h.lay
  have h2 : PyData.depthAll ds + 1 ≤ n := h.dep
  show (PyData.canLayAll0 ds && decide (PyData.depthAll ds + 1 ≤ 64)) = true
  rw [h1, decide_eq_true (by omega)]; rfl
theorem Lay.shapedT {n : Nat} {ds : List PyData} (h : Lay n (.tuple ds)) (hn : n ≤ 64) : SeqAt.shaped (.tuple ds) = true := by
  have h1 : PyData.canLayAll0 ds = true := h.lay
  have h2 : PyData.depthAll ds + 1 ≤ n := h.dep
  show (PyData.canLayAll0 ds && decide (PyData.depthAll ds + 1 ≤ 64)) = true
  rw [h1, decide_eq_true (by omega)]; rfl
theorem lay_nats {n : Nat} (l : List Nat) : Lay (n + 1) (natsD l) := Lay.list fun d hd => by obtain ⟨k, _, rfl⟩ := List.mem_map.mp hd; exact .int _
theorem lay_natsT {n : Nat} (l : List Nat) : Lay (n + 1) (natsT l) := Lay.tuple fun d hd => by obtain ⟨k, _, rfl⟩ := List.mem_map.mp hd; exact .int _
theorem lay_bools {n : Nat} (l : List Bool) : Lay (n + 1) (boolsD l) := Lay.list fun d hd => by obtain ⟨k, _, rfl⟩ := List.mem_map.mp hd; exact .bool _
theorem doS_ok {w : Nat} (h : w ≤ 8) : PyData.strOk (doS w) = true := by
  have h' : ∀ w : _root_.Fin 9, PyData.strOk (doS w.val) = true := by decide +kernel
  exact h' ⟨w, by omega⟩
theorem lay2 {P : PyData → Prop} {a b : PyData} (ha : P a) (hb : P b) : ∀ d ∈ [a, b], P d := fine2 (n := 0) ha hb
theorem lay4 {P : PyData → Prop} {a b c e : PyData} (ha : P a) (hb : P b) (hc : P c) (he : P e) : ∀ d ∈ [a, b, c, e], P d := fun d hd => by
  rcases List.mem_cons.mp hd with rfl | hd
  · exact ha
  · exact fine3 (n := 0) hb hc he d hd
theorem lay_words {n : Nat} {w : Nat × Nat} (h1 : w.1 ≤ 8) (h2 : w.2 ≤ 8) : Lay (n + 1) (wordsD w) := Lay.tuple (lay2 (.str (doS_ok h1)) (.str (doS_ok h2)))
theorem lay_sit (s : Sit) : Lay 2 (sitL s) := Lay.list (lay4 (lay_nats _) (lay_nats _) (lay_bools _) (lay_nats _))
theorem lay_day {x : Pl} (hx : x.Ok) (j : Nat) : Lay 3 (dayD x j) := Lay.tuple (lay2 ((lay_words (n := 0) (words_le hx j).1 (words_le hx j).2).mono (by decide)) (lay_sit _))
theorem eqv_nil (ds : List PyData) : PyData.eqv (.list ds) (.list []) = ds.isEmpty := by cases ds <;> rfl
theorem filt_empty {α : Type} (l : List Nat) (b : Nat → Bool) (f : Nat → α) : ((l.filter fun j => !b j).map f).isEmpty = l.all b := by
  induction l with
  | nil => rfl
  | cons a l ih =>
    rw [List.filter_cons]
    cases h : b a with
    | true => simpa [h] using ih
    | false => simp [h]
theorem filt_more {α : Type} {l : List α} {t : Nat} {x : α} (p : α → Bool) (h : l[t]? = some x) : (l.take (t + 1)).filter p = (l.take t).filter p ++ (if p x = true then [x] else []) := by
  rw [take_more h, List.filter_append]
  congr 1
  by_cases q : p x = true
  · rw [if_pos q, List.filter_cons_of_pos q]; rfl
  · rw [if_neg q, List.filter_cons_of_neg q]; rfl
theorem sum_mid (f : Nat → Nat) {n i q : Nat} (h : i + q ≤ n) : ((((List.range n).map f).drop i).take q).sum = cntF f (i + q) - cntF f i := by
  have e : (((List.range n).map f).drop i).take q = (((List.range n).map f).take (i + q)).drop i := by
    rw [List.drop_take, show i + q - i = q by omega]
  rw [e, take_range f h, sum_drop f (by omega)]
/-! ### the draws, with the tables of the code objects -/
/-! ### the law's own words on blocked robots -/
structure spLStuck (K : PySem.W.Frag) (vs : List V) (H : Hp) (Q : VK) (E : XK) : Prop where
  ex : ∃ (G : Hp) (v : V) (x : Pl) (i n : Nat), vs = [v] ∧ Dp K G v (.tuple [.list ((List.range n).map (dayD x)), natD i]) ∧ x.Ok ∧ i < n ∧ n ≤ 20000 ∧ Pure G H Q fun G' v => Dp K G' v (natsD (stuckL x i n))
structure spLSum (K : PySem.W.Frag) (vs : List V) (H : Hp) (Q : VK) (E : XK) : Prop where
  ex : ∃ (G : Hp) (v : V) (l : Addr) (d0 : PyData) (f : Nat → Nat) (i n t : Nat), vs = [v, .ref l, .int t] ∧ Dp K G v (.tuple [d0, natD i]) ∧ Same G H ∧ H l = some (.lst (nV ((List.range n).map f))) ∧ i < n ∧ n ≤ 20000 ∧ t ≤ 1000000000000000000 ∧ (∀ t, i ≤ t → f (t + (n - i)) = f t) ∧ (∀ j, f j ≤ 1) ∧
    ∀ H', Same H H' → Q (.int (cntF f t : Nat)) H'
section
variable {P : Program} {w : World} {K : PySem.W.Frag} {mg : Str → Option Value} {base : Heap} {a : Ad}
end
end Sb

namespace Sb
open PySem PySem.Spec PyProof.Rows L2 TL LamX NdefX
def optV : Option Nat → V
  | none => .non
  | some k => .int k
theorem optV_D {K : PySem.W.Frag} {H : Hp} (o : Option Nat) : Dp K H (optV o) (optD o) := by
  cases o with
  | none => exact .non
  | some k => exact .int _
theorem find_some {f : Nat → Bool} {n j : Nat} (hj : j < n) (h : ∀ m, m < j → f m = false) (hf : f j = true) : (List.range n).find? f = some j := by
  rw [List.find?_range_eq_some]
  exact ⟨hf, List.mem_range.mpr hj, fun m hm => by rw [h m hm]; rfl⟩
theorem find_none {f : Nat → Bool} {n : Nat} (h : ∀ m, m < n → f m = false) : (List.range n).find? f = none := by
  rw [List.find?_eq_none]
  intro m hm
  rw [h m (List.mem_range.mp hm)]
  decide
/-- where a log is wrong first -/
def errP (x : Pl) (ds : List PyData) : Option Nat := (List.range ds.length).find? fun j => !PyData.eqv (ds.getD j .none) (wordsD (wordsAt x j))
structure spFirstErr (K : PySem.W.Frag) (vs : List V) (H : Hp) (Q : VK) (E : XK) : Prop where
  ex : ∃ (src : Str) (G : Hp) (l : Addr) (us : List V) (ds : List PyData) (x : Pl) (i n : Nat), vs = [.str src, .ref l] ∧ Told src x i n ∧ H l = some (.lst us) ∧ DpAll K G us ds ∧ (∀ d ∈ ds, SeqAt.shaped d = true) ∧ Same G H ∧
    ∀ G' H', Ext G H G' H' → Same H H' → Q (optV (errP x ds)) H'
section
variable {P : Program} {w : World} {K : PySem.W.Frag} {mg : Str → Option Value} {base : Heap} {a : Ad}
theorem ok_first_error (T : Txt K mg a) : FnOk P w K mg base CX0 9 a.f_first_error a.d_first_error ["plan", "log"] (spFirstErr K) := by
  refine T.F_first_error.ok sc_first_error (fun vs H Q E h => ?_) (fun cdv A outer s H vs Q E hr h => ?_)
  · obtain ⟨⟨src, G, l, us, ds, x, i, n, rfl, _⟩⟩ := h
    rfl
  · obtain ⟨⟨src, G, l, us, ds, x, i, n, rfl, ⟨ld, ok, cy, le⟩, hl, hus, hsh, hGH, k⟩⟩ := h
    refine ⟨_, (pss_cons (ps_set (i := 2) sc_first_error.nd rfl (Or.inl rfl) (pe_make T.mk_Story (ok_Story_init T) (hr.mono (by decide)) (by rfl) T.m_Story (b_Story_init T) .nil pass0 (pa_cons (pe_call (ok_load T) (hr.mono (by decide)) rfl T.m_load T.F_load.kp (b_load T) .nil pass0 (pa_cons (pv 0) pa_nil)) pa_nil)))
      (pss_cons (ps_if (pt_not (pt_val (pe_callB call_isi (by rfl) T.z_isinstance (by decide +kernel) (pa_cons (pv 1) (pa_cons (pe_bltn (v := .ty "list") (by rfl) T.z_list (by decide +kernel) rfl) pa_nil))))) (pss_one (ps_ret pe_int)) pss_nil)
      (pss_cons (ps_for PassesOwn.never rfl (pi_enum (by rfl) T.z_enumerate (pa_cons (pv 1) pa_nil)) (pg_tup (by rfl) (pgs_cons (pg_name (i := 3) sc_first_error.nd rfl (Or.inl rfl)) (pgs_cons (pg_name (i := 4) sc_first_error.nd rfl (Or.inl rfl)) pgs_nil))) (pss_one (ps_if (pt_cmpR (op_neD hr.units) (pv 4) (pe_fld (pe_meth (pv 2) T.cl_Story T.M_Story_happens (ok_Story_happens T) (hr.mono (by decide)) (b_Story_happens T) .nil pass0 (pa_cons (pv 3) pa_nil)) rfl) (nomark _)) (pss_one (ps_ret (pv 3))) pss_nil)))
      (pss_one (ps_ret pe_non))))), ?_⟩
    refine ⟨_, rfl, ⟨⟨src, G, x, rfl, ld, ok, hGH, fun G1 H1 v1 x1 s1 h1 => ?_⟩⟩⟩
    have B1 := (Pt.start hGH).call x1 s1
    intro y dy ny nd ne
    obtain ⟨yG, sS, hp2⟩ := story_pre B1 h1 ny nd ne
    refine ⟨⟨y, dy, _, _, x, i, n, rfl, upd_same, yG, sS, hp2, ok, cy, le, fun G' H2 l0 vs0 M yG' hy' hl0 ht0 => ⟨rfl, ?_⟩⟩⟩
    obtain ⟨G2, B2, S2, hS⟩ := story_post B1 ny nd ne M yG' hy' hl0 ht0
    obtain ⟨y', dy2, l1, vs1, eY, hy, hl1, hts⟩ := id hS
    cases eY
    have hl2 := B2.sm _ _ hl
    have lu : us.length = ds.length := DpAll.len hus
    refine ⟨_, rfl, _, _, _, _, true, rfl, .ty _, .base (.lst hl2), rfl, _, rfl, ite_f rfl ?_⟩
    refine ⟨_, rfl, l, _, rfl, SqL.of hl2, for_it (walk_enum (K := K) (a := l) (xs := us)) (fun j σ H' => ∃ (v3 v4 : Option V), σ = [some (.str src), some (.ref l), some (.ref y), v3, v4] ∧ Pt G H G2 H' ∧ ∀ m, m < j → (!PyData.eqv (ds.getD m .none) (wordsD (wordsAt x m))) = false) ?_ ?_ ?_ ?_⟩
    · exact ⟨none, none, rfl, B2, fun m hm => absurd hm (Nat.not_lt_zero _)⟩
    · rintro j σ H' _ ⟨v3, v4, rfl, B, _⟩
      exact SqL.of (B.sm _ _ hl)
    · rintro j z σ H3 H4 hj ⟨v3, v4, rfl, B, hall⟩ ⟨T', p, q, rfl, hT', rfl, hp, hq⟩
      cases hp
      have hq : us[j]? = some q := hq
      obtain ⟨dd, hdd, hDd⟩ := DpAll.get hus hq
      have B3 := B.lay hT' (.tup [.int (j : Nat), q])
      have hjd : j < ds.length := by omega
      refine ⟨T', _, rfl, SqT.of upd_same, rfl, _, _, rfl, _, _, rfl, rfl, ?_⟩
      refine ⟨_, rfl, _, rfl, y, dy2, _, rfl, B3.s _ _ hy, (by kernel_rfl), _, rfl, ⟨⟨G2, _, x, i, n, j, rfl, hS, cy, B3.s, fun u hu => ?_⟩⟩⟩
      obtain ⟨r, dr, tw, su, rfl, hr1, hr2, _⟩ := hu
      obtain ⟨w1, w2⟩ := words_le ok j
      refine ⟨r, _, dr, _, .ref tw, rfl, B3.s _ _ hr1, T.cl_Tick, T.n_Tick_words, (by kernel_rfl), dd, wordsD (wordsAt x j), Dp.mono (B2.g.trans B3.s) _ _ hDd, .tup (Same.seqT B3.s hr2) (.cons (.str _) (.cons (.str _) .nil)), hsh dd (List.mem_of_getElem? hdd), words_shaped _ w1 w2, _, rfl, ?_⟩
      have ed : ds.getD j .none = dd := by rw [List.getD_eq_getElem?_getD, hdd]; rfl
      refine ite_b (fun c => ?_) (fun c => ?_)
      · refine ⟨_, rfl, ?_⟩
        have : errP x ds = some j := find_some hjd hall (by rw [ed]; exact c)
        rw [this] at k
        exact k _ _ B3.ext B3.sm
      · refine ⟨_, _, rfl, B3, fun m hm => ?_⟩
        by_cases e : m = j
        · subst e; rw [ed]; exact c
        · exact hall m (by omega)
    · rintro σ H3 ⟨v3, v4, rfl, B, hall⟩
      have : errP x ds = none := find_none fun m hm => hall m (by omega)
      rw [this] at k
      exact k _ _ B.ext B.sm
end
end Sb

namespace Sb
open PySem PySem.Spec PyProof.Rows L2 TL LamX NdefX
/-- what first_difference looks at -/
def csD (x : Pl) (t : Nat) : PyData := .tuple [natsT (sitAt x (t + 1)).cs, natsT (sitAt x (t + 1)).sh]
def diffP (x z : Pl) (b : Nat) : Option Nat := (List.range b).find? fun t => !PyData.eqv (csD x t) (csD z t)
theorem nats_lay (l : List Nat) : PyData.canLayAll0 (l.map natD) = true := by
  induction l with
  | nil => rfl
  | cons n l ih => show (true && PyData.canLayAll0 (l.map natD)) = true; rw [ih]; rfl
theorem nats_dep (l : List Nat) : PyData.depthAll (l.map natD) = 0 := by
  induction l with
  | nil => rfl
  | cons n l ih => show max 0 (PyData.depthAll (l.map natD)) = 0; rw [ih]; rfl
theorem cs_shaped (x : Pl) (t : Nat) : SeqAt.shaped (csD x t) = true := by
  unfold csD natsT
  have e1 : (PyData.tuple ((sitAt x (t + 1)).cs.map natD)).depth = 1 := by show PyData.depthAll _ + 1 = 1; rw [nats_dep]
  have e2 : (PyData.tuple ((sitAt x (t + 1)).sh.map natD)).depth = 1 := by show PyData.depthAll _ + 1 = 1; rw [nats_dep]
  show ((PyData.canLayAll0 ((sitAt x (t + 1)).cs.map natD) && (PyData.canLayAll0 ((sitAt x (t + 1)).sh.map natD) && true)) && decide (max (PyData.tuple ((sitAt x (t + 1)).cs.map natD)).depth (max (PyData.tuple ((sitAt x (t + 1)).sh.map natD)).depth 0) + 1 ≤ 64)) = true
  rw [nats_lay, nats_lay, e1, e2]
  decide
structure spFirstDiff (K : PySem.W.Frag) (vs : List V) (H : Hp) (Q : VK) (E : XK) : Prop where
  ex : ∃ (s1 s2 : Str) (G : Hp) (x z : Pl) (i n i2 n2 : Nat), vs = [.str s1, .str s2] ∧ Told s1 x i n ∧ Told s2 z i2 n2 ∧ x.shelf.length = z.shelf.length ∧ Same G H ∧
    ∀ M, (n - i) ∣ M → (n2 - i2) ∣ M → 0 < M → ∀ G' H', Ext G H G' H' → Same H H' → Q (optV (diffP x z (max i i2 + M))) H'
section
variable {P : Program} {w : World} {K : PySem.W.Frag} {mg : Str → Option Value} {base : Heap} {a : Ad}
theorem ok_first_difference (T : Txt K mg a) : FnOk P w K mg base CX0 9 a.f_first_difference a.d_first_difference ["plan", "other"] (spFirstDiff K) := by
  refine T.F_first_difference.ok sc_first_difference (fun vs H Q E h => ?_) (fun cdv A outer s H vs Q E hr h => ?_)
  · obtain ⟨⟨s1, s2, G, x, z, i, n, i2, n2, rfl, _⟩⟩ := h
    rfl
  · obtain ⟨⟨s1, s2, G, x, z, i, n, i2, n2, rfl, ⟨ld, ok, cy, le⟩, ⟨ld2, ok2, cy2, le2⟩, hlen, hGH, k⟩⟩ := h
    refine ⟨_, (pss_cons (ps_par (i := 2) (j := 3) (by rfl) sc_first_difference.nd rfl rfl (by decide) rfl rfl (pa_cons (pe_call (ok_load T) (hr.mono (by decide)) rfl T.m_load T.F_load.kp (b_load T) .nil pass0 (pa_cons (pv 0) pa_nil)) (pa_cons (pe_call (ok_load T) (hr.mono (by decide)) rfl T.m_load T.F_load.kp (b_load T) .nil pass0 (pa_cons (pv 1) pa_nil)) pa_nil)) (by rfl))
      (pss_cons (ps_if (pt_cmpR op_ne (pe_callB call_len_seq (by rfl) T.z_len (by decide +kernel) (pa_cons (pe_fld (pv 2) rfl) pa_nil)) (pe_callB call_len_seq (by rfl) T.z_len (by decide +kernel) (pa_cons (pe_fld (pv 3) rfl) pa_nil)) (nomark _)) pss_never pss_nil)
      (pss_cons (ps_par (i := 4) (j := 5) (by rfl) sc_first_difference.nd rfl rfl (by decide) rfl rfl (pa_cons (pe_make T.mk_Story (ok_Story_init T) (hr.mono (by decide)) (by rfl) T.m_Story (b_Story_init T) .nil pass0 (pa_cons (pv 2) pa_nil)) (pa_cons (pe_make T.mk_Story (ok_Story_init T) (hr.mono (by decide)) (by rfl) T.m_Story (b_Story_init T) .nil pass0 (pa_cons (pv 3) pa_nil)) pa_nil)) (by rfl))
      (pss_cons (ps_set (i := 6) sc_first_difference.nd rfl (Or.inl rfl) (pe_prop (pv 4) T.cl_Story T.P_Story_size (ok_Story_size T) (hr.mono (by decide)) (b_Story_size T) .nil pass0 rfl))
      (pss_cons (ps_while PassesOwn.never (pt_cmpR op_ne (pe_op op_mul (pe_op op_fdiv (pv 6) (pe_prop (pv 5) T.cl_Story T.P_Story_size (ok_Story_size T) (hr.mono (by decide)) (b_Story_size T) .nil pass0 rfl)) (pe_prop (pv 5) T.cl_Story T.P_Story_size (ok_Story_size T) (hr.mono (by decide)) (b_Story_size T) .nil pass0 rfl)) (pv 6) (nomark _)) (pss_one (ps_aug (i := 6) sc_first_difference.nd rfl (Or.inl rfl) (pe_prop (pv 4) T.cl_Story T.P_Story_size (ok_Story_size T) (hr.mono (by decide)) (b_Story_size T) .nil pass0 rfl) ip_add)))
      (pss_cons (ps_for PassesOwn.never rfl (pi_range1 (by rfl) T.z_range (pa_cons (pe_op op_add (pe_callB (call_max2 rfl) (by rfl) T.z_max (by decide +kernel) (pa_cons (pe_fld (pv 4) rfl) (pa_cons (pe_fld (pv 5) rfl) pa_nil))) (pv 6)) pa_nil)) (pg_name (i := 7) sc_first_difference.nd rfl (Or.inl rfl)) (pss_cons (ps_set (i := 8) sc_first_difference.nd rfl (Or.inl rfl) (pe_tup (pa_cons (pe_fld (pe_meth (pv 4) T.cl_Story T.M_Story_happens (ok_Story_happens T) (hr.mono (by decide)) (b_Story_happens T) .nil pass0 (pa_cons (pv 7) pa_nil)) rfl) (pa_cons (pe_fld (pe_meth (pv 5) T.cl_Story T.M_Story_happens (ok_Story_happens T) (hr.mono (by decide)) (b_Story_happens T) .nil pass0 (pa_cons (pv 7) pa_nil)) rfl) pa_nil))))
      (pss_one (ps_if (pt_cmpR (op_neD hr.units) (pe_tup (pa_cons (pe_fld (pe_ix ix_tup (pv 8) pe_int (fun _ _ => rfl)) rfl) (pa_cons (pe_fld (pe_ix ix_tup (pv 8) pe_int (fun _ _ => rfl)) rfl) pa_nil))) (pe_tup (pa_cons (pe_fld (pe_ix ix_tup (pv 8) pe_int (fun _ _ => rfl)) rfl) (pa_cons (pe_fld (pe_ix ix_tup (pv 8) pe_int (fun _ _ => rfl)) rfl) pa_nil))) (nomark _)) (pss_one (ps_ret (pv 7))) pss_nil))))
      (pss_one (ps_ret pe_non)))))))), ?_⟩
    have lt := cy.lt
    have lt2 := cy2.lt
    refine ⟨_, rfl, ⟨⟨s1, G, x, rfl, ld, ok, hGH, fun G1 H1 v1 x1 t1 h1 => ?_⟩⟩⟩
    have B1 := (Pt.start hGH).call x1 t1
    refine ⟨_, rfl, ⟨⟨s2, G1, z, rfl, ld2, ok2, B1.s, fun G2 H2 v2 x2 t2 h2 => ?_⟩⟩⟩
    have B2 := B1.call x2 t2
    refine ⟨_, _, rfl, ?_⟩
    dsimp only
    have h1' := h1.mono x2.g
    obtain ⟨r, dr, sh, rl, r1, r2, rfl, hr1, hsh, _⟩ := id h1'
    obtain ⟨q, dq, sh2, rl2, q1, q2, rfl, hq1, hsh2, _⟩ := id h2
    refine ⟨_, rfl, r, _, dr, _, .ref sh, rfl, B2.s _ _ hr1, T.cl_Plan, T.n_Plan_shelf, (by kernel_rfl), sh, _, rfl, .inr (Same.seqT B2.s hsh), _, rfl, q, _, dq, _, .ref sh2, rfl, B2.s _ _ hq1, T.cl_Plan, T.n_Plan_shelf, (by kernel_rfl), sh2, _, rfl, .inr (Same.seqT B2.s hsh2), rfl, _, rfl, ite_f ?_ ?_⟩
    · rw [List.length_map, List.length_map, hlen]
      simp
    refine ⟨_, rfl, ?_⟩
    intro y dy ny nd ne
    obtain ⟨yG, sS, hp2⟩ := story_pre B2 h1' ny nd ne
    refine ⟨⟨y, dy, _, _, x, i, n, rfl, upd_same, yG, sS, hp2, ok, cy, le, fun G' H3 l0 vs0 M yG' hy' hl0 ht0 => ⟨rfl, ?_⟩⟩⟩
    obtain ⟨G3, B3, S3, hS⟩ := story_post B2 ny nd ne M yG' hy' hl0 ht0
    refine ⟨_, rfl, ?_⟩
    intro y2 dy2 ny2 nd2 ne2
    obtain ⟨yG2, sS2, hp22⟩ := story_pre B3 (h2.mono S3) ny2 nd2 ne2
    refine ⟨⟨y2, dy2, _, _, z, i2, n2, rfl, upd_same, yG2, sS2, hp22, ok2, cy2, le2, fun G' H4 l0 vs0 M yG' hy' hl0 ht0 => ⟨rfl, ?_⟩⟩⟩
    obtain ⟨G4, B4, S4, hS2⟩ := story_post B3 ny2 nd2 ne2 M yG' hy' hl0 ht0
    have hS := hS.mono S4
    refine ⟨_, _, rfl, ?_⟩
    dsimp only
    obtain ⟨y', da, l1, vs1, eY, hy, hl1, hts1⟩ := id hS
    cases eY
    obtain ⟨y2', da2, l2, vs2, eY2, hy2, hl2, hts2⟩ := id hS2
    cases eY2
    have hyH := B4.s _ _ hy
    have hyH2 := B4.s _ _ hy2
    have hSH := hS.mono B4.s
    have hSH2 := hS2.mono B4.s
    refine ⟨_, rfl, y, da, _, rfl, hyH, ⟨⟨_, x, i, n, rfl, hSH, ?_⟩⟩⟩
    have en : (n : Int) - (i : Int) = ((n - i : Nat) : Int) := by omega
    have en2 : (n2 : Int) - (i2 : Int) = ((n2 - i2 : Nat) : Int) := by omega
    rw [en]
    refine ⟨fun m σ H' => ∃ kq : Nat, 1 ≤ kq ∧ kq ≤ n2 - i2 ∧ m = n2 - i2 - kq ∧ σ = [some (.str s1), some (.str s2), some (.ref r), some (.ref q), some (.ref y), some (.ref y2), some (.int ((kq * (n - i) : Nat) : Int)), none, none] ∧ H' = H4, ⟨_, 1, Nat.le_refl _, by omega, rfl, ?_, rfl⟩, ?_⟩
    · rw [Nat.one_mul]; rfl
    rintro m σ H' ⟨kq, hk1, hk2, hm, rfl, rfl⟩
    refine ⟨_, rfl, _, rfl, y2, da2, _, rfl, hyH2, ⟨⟨_, z, i2, n2, rfl, hSH2, _, _, rfl, rfl, ⟨by omega, by omega⟩, _, rfl, y2, da2, _, rfl, hyH2, ⟨⟨_, z, i2, n2, rfl, hSH2, _, _, rfl, rfl, .inr ⟨by omega, by omega⟩, _, rfl, rfl, _, rfl, ?_⟩⟩⟩⟩⟩
    dsimp only
    rw [en2]
    by_cases hd : (n2 - i2) ∣ kq * (n - i)
    · refine ite_f ?_ ?_
      · obtain ⟨c, hc⟩ := hd
        rw [hc]
        have e1 : ((n2 - i2) * c / (n2 - i2)) = c := Nat.mul_div_cancel_left c (by omega)
        have e2 : (((n2 - i2) * c : Nat) : Int) / ((n2 - i2 : Nat) : Int) * ((n2 - i2 : Nat) : Int) = (((n2 - i2) * c : Nat) : Int) := by
          rw [← Int.natCast_ediv, e1, ← Int.natCast_mul, Nat.mul_comm]
        exact congrArg Bool.not (decide_eq_true (congrArg V.int e2))
      have kM := k (kq * (n - i)) ⟨kq, Nat.mul_comm _ _⟩ hd (Nat.mul_pos hk1 (by omega))
      have hmul : kq * (n - i) ≤ 20000 * 20000 := Nat.mul_le_mul (by omega) (by omega)
      revert kM hmul
      generalize kq * (n - i) = M
      intro kM hmul
      refine ⟨_, rfl, y, _, da, _, .int i, rfl, hyH, T.cl_Story, T.n_Story_start, (by kernel_rfl), _, rfl, y2, _, da2, _, .int i2, rfl, hyH2, T.cl_Story, T.n_Story_start, (by kernel_rfl), _, _, rfl, _, rfl, _, _, rfl, rfl, max i i2 + M, ?_, by omega, by omega, ?_⟩
      · have e : (if (i2 : Int) > (i : Int) then (i2 : Int) else (i : Int)) = ((max i i2 : Nat) : Int) := by split <;> omega
        show [V.int ((if (i2 : Int) > (i : Int) then (i2 : Int) else (i : Int)) + (M : Int))] = _
        rw [e]
      refine for_range (lo := 0) (n := max i i2 + M) (fun t σ H' => ∃ (v7 v8 : Option V), σ = [some (.str s1), some (.str s2), some (.ref r), some (.ref q), some (.ref y), some (.ref y2), some (.int (M : Nat)), v7, v8] ∧ Pt G H G4 H' ∧ ∀ m, m < t → (!PyData.eqv (csD x m) (csD z m)) = false) ?_ ?_ ?_
      · exact ⟨none, none, rfl, B4, fun m hm => absurd hm (Nat.not_lt_zero _)⟩
      · rintro t σ H5 ht ⟨v7, v8, rfl, B5, hall⟩
        have et : (0 : Int) + (t : Int) = ((t : Nat) : Int) := by omega
        rw [et]
        refine ⟨_, rfl, y, da, _, rfl, B5.s _ _ hy, (by kernel_rfl), _, rfl, ⟨⟨G4, _, x, i, n, t, rfl, hS, cy, B5.s, fun u hu => ?_⟩⟩⟩
        obtain ⟨e1, de1, tw1, su1, rfl, he1, he2, hst1⟩ := hu
        obtain ⟨sa1, dsa1, c1, nn1, b1, f1, rfl, g1, gc1, gn1, gb1, gf1⟩ := hst1
        refine ⟨e1, _, de1, _, .ref sa1, rfl, B5.s _ _ he1, T.cl_Tick, T.n_Tick_state, (by kernel_rfl), ?_⟩
        refine ⟨_, rfl, y2, da2, _, rfl, B5.s _ _ hy2, (by kernel_rfl), _, rfl, ⟨⟨G4, _, z, i2, n2, t, rfl, hS2, cy2, B5.s, fun u hu => ?_⟩⟩⟩
        obtain ⟨e2, de2, tw2, su2, rfl, hf1, hf2, hst2⟩ := hu
        obtain ⟨sa2, dsa2, c2, nn2, b2, f2, rfl, g2, gc2, gn2, gb2, gf2⟩ := hst2
        refine ⟨e2, _, de2, _, .ref sa2, rfl, B5.s _ _ hf1, T.cl_Tick, T.n_Tick_state, (by kernel_rfl), (by show 2 ≤ sizeLine; decide), fun p hp => ?_⟩
        have B6 := B5.lay hp (.tup [.ref sa1, .ref sa2])
        have hp6 : (upd H5 p (.tup [.ref sa1, .ref sa2])) p = some (.tup [.ref sa1, .ref sa2]) := upd_same
        revert B6 hp6
        generalize upd H5 p (.tup [.ref sa1, .ref sa2]) = H6
        intro B6 hp6
        refine ⟨_, rfl, p, _, _, .ref sa1, rfl, rfl, SqT.of hp6, at_of (j := 0) rfl rfl, sa1, _, dsa1, _, .ref c1, rfl, B6.s _ _ g1, T.cl_State, T.n_State_cells, (by kernel_rfl), _, rfl, p, _, _, .ref sa1, rfl, rfl, SqT.of hp6, at_of (j := 0) rfl rfl, sa1, _, dsa1, _, .ref f1, rfl, B6.s _ _ g1, T.cl_State, T.n_State_shelf, (by kernel_rfl), (by show 2 ≤ sizeLine; decide), fun p1 hp1 => ?_⟩
        have B7 := B6.lay hp1 (.tup [.ref c1, .ref f1])
        have hp7 : (upd H6 p1 (.tup [.ref c1, .ref f1])) p = some (.tup [.ref sa1, .ref sa2]) := by rw [upd_ne (ne_of_none hp6 hp1)]; exact hp6
        refine ⟨_, rfl, p, _, _, .ref sa2, rfl, rfl, SqT.of hp7, at_of (j := 1) rfl rfl, sa2, _, dsa2, _, .ref c2, rfl, B7.s _ _ g2, T.cl_State, T.n_State_cells, (by kernel_rfl), _, rfl, p, _, _, .ref sa2, rfl, rfl, SqT.of hp7, at_of (j := 1) rfl rfl, sa2, _, dsa2, _, .ref f2, rfl, B7.s _ _ g2, T.cl_State, T.n_State_shelf, (by kernel_rfl), (by show 2 ≤ sizeLine; decide), fun p2 hp2 => ?_⟩
        have B8 := B7.lay hp2 (.tup [.ref c2, .ref f2])
        have hp8 : (upd (upd H6 p1 (.tup [.ref c1, .ref f1])) p2 (.tup [.ref c2, .ref f2])) p1 = some (.tup [.ref c1, .ref f1]) := by rw [upd_ne (ne_of_none upd_same hp2), upd_same]
        refine ⟨csD x t, csD z t, .tup (SqT.of hp8) (.cons (.tup (Same.seqT B8.s gc1) (nats_D' _)) (.cons (.tup (Same.seqT B8.s gf1) (nats_D' _)) .nil)), .tup (SqT.of upd_same) (.cons (.tup (Same.seqT B8.s gc2) (nats_D' _)) (.cons (.tup (Same.seqT B8.s gf2) (nats_D' _)) .nil)), cs_shaped _ _, cs_shaped _ _, _, rfl, ite_b (fun c => ?_) (fun c => ?_)⟩
        · refine ⟨_, rfl, ?_⟩
          have : diffP x z (max i i2 + M) = some t := find_some ht hall c
          rw [this] at kM
          exact kM _ _ B8.ext B8.sm
        · refine ⟨_, _, rfl, B8, fun m hm => ?_⟩
          by_cases e : m = t
          · subst e; exact c
          · exact hall m (by omega)
      · rintro σ H5 ⟨v7, v8, rfl, B5, hall⟩
        have : diffP x z (max i i2 + M) = none := find_none fun m hm => hall m hm
        rw [this] at kM
        exact kM _ _ B5.ext B5.sm
    · refine ite_t ?_ ⟨_, fun σ' H' h => h, ?_⟩
      · refine congrArg Bool.not (decide_eq_false fun z => ?_)
        injection z with z
        rw [← Int.natCast_ediv, ← Int.natCast_mul] at z
        have z' : kq * (n - i) / (n2 - i2) * (n2 - i2) = kq * (n - i) := by omega
        exact hd ⟨kq * (n - i) / (n2 - i2), z'.symm.trans (Nat.mul_comm _ _)⟩
      · have hne : kq ≠ n2 - i2 := fun e => hd ⟨n - i, by rw [e]⟩
        refine ⟨_, rfl, _, rfl, y, da, _, rfl, hyH, ⟨⟨_, x, i, n, rfl, hSH, _, _, rfl, rfl, ?_⟩⟩⟩
        refine ⟨n2 - i2 - (kq + 1), by omega, kq + 1, by omega, by omega, rfl, ?_, rfl⟩
        have e : (kq * (n - i) : Nat) + ((n : Int) - (i : Int)) = (((kq + 1) * (n - i) : Nat) : Int) := by
          rw [en, Nat.add_mul, Nat.one_mul, Int.natCast_add]
        dsimp only
        rw [e]
        rfl
end
end Sb

namespace Sb
open PySem PySem.Spec PyProof.Rows L2 TL LamX NdefX
/-! ### steps that no robot stands at may be changed -/
theorem getD_set_ne {l : List Nat} {i j n : Nat} (h : j ≠ i) : (l.set i n).getD j 0 = l.getD j 0 := by
  rw [List.getD_eq_getElem?_getD, List.getD_eq_getElem?_getD, List.getElem?_set_ne (fun e => h e.symm)]
theorem act_form (x : Pl) (s : Sit) (i : Nat) : actP x s i = (8, s) ∨ ∃ cs hs sh, actP x s i = finP x s i cs hs sh := by
  match h : (stOf x s i).w with
  | 0 => rw [act_left h]; split; exact .inl rfl; exact .inr ⟨_, _, _, rfl⟩
  | 1 => rw [act_right h]; split; exact .inl rfl; exact .inr ⟨_, _, _, rfl⟩
  | 2 => rw [act_pick h]; split; exact .inl rfl; exact .inr ⟨_, _, _, rfl⟩
  | 3 => rw [act_put h]; split; exact .inl rfl; exact .inr ⟨_, _, _, rfl⟩
  | n + 4 => rw [act_else (by omega)]; exact .inr ⟨_, _, _, rfl⟩
theorem act_ns {x : Pl} {s : Sit} {i j : Nat} (h : j ≠ i) : (actP x s i).2.ns.getD j 0 = s.ns.getD j 0 := by
  rcases act_form x s i with e | ⟨cs, hs, sh, e⟩
  · rw [e]
  · rw [e]; exact getD_set_ne h
theorem act_blk {x : Pl} {s : Sit} {i : Nat} (hx : x.Ok) (o : SitOk x s) (hi : i < 2) (h : (actP x s i).1 = 8) : (actP x s i).2 = s := by
  rcases act_form x s i with e | ⟨cs, hs, sh, e⟩
  · rw [e]
  · rw [e] at h
    have w8 := (st_ok hx o hi).w8
    exact absurd h (by show ¬ (stOf x s i).w = 8; omega)
theorem doS_blk {w : Nat} (h : w ≤ 8) (e : doS w = "blocked") : w = 8 := by
  have h' : ∀ w : _root_.Fin 9, doS w.val = "blocked" → w.val = 8 := by decide +kernel
  exact h' ⟨w, by omega⟩ e
theorem blk_word {x : Pl} (hx : x.Ok) {num j : Nat} (hn : num < 2) (h : blkAt x num j = true) : wdN (wordsAt x j) num = 8 := by
  obtain ⟨w1, w2⟩ := words_le hx j
  have e := of_decide_eq_true h
  refine doS_blk ?_ e
  unfold wdN
  split
  · exact w1
  · exact w2
theorem blk_keep {x : Pl} (hx : x.Ok) {num j : Nat} (hn : num < 2) (h : blkAt x num j = true) : nsAt x num (j + 1) = nsAt x num j := by
  have e := blk_word hx hn h
  have o := sitAt_ok hx j
  unfold nsAt
  show (actP x (actP x (sitAt x j) 0).2 1).2.ns.getD num 0 = _
  match num, hn with
  | 0, _ =>
    have e0 : (actP x (sitAt x j) 0).1 = 8 := e
    rw [act_ns (by decide), act_blk hx o (by decide) e0]
  | 1, _ =>
    have e1 : (actP x (actP x (sitAt x j) 0).2 1).1 = 8 := e
    rw [act_blk hx (act_ok hx o (by decide)) (by decide) e1, act_ns (by decide)]
theorem ns_place {x : Pl} {i n num t : Nat} (h : Cyc x i n) : nsAt x num (placeP i n t) = nsAt x num t := by
  unfold nsAt
  rw [place_sit h]
theorem blk_place {x : Pl} {i n num t : Nat} (h : Cyc x i n) : blkAt x num (placeP i n t) = blkAt x num t := by
  unfold blkAt
  rw [place_words h]
theorem unused_blk {x : Pl} {i n num k t : Nat} (h : Cyc x i n) (hu : usedB x n num k = false) (e : nsAt x num t = k) : blkAt x num t = true := by
  rw [← blk_place h]
  cases hb : blkAt x num (placeP i n t) with
  | true => rfl
  | false =>
    exfalso
    have : usedB x n num k = true := by
      unfold usedB
      rw [List.any_eq_true]
      refine ⟨placeP i n t, List.mem_range.mpr (place_lt h), ?_⟩
      rw [hb, ns_place h, decide_eq_true e]
      rfl
    rw [hu] at this
    cases this
theorem unused_on {x : Pl} (hx : x.Ok) {i n num k t : Nat} (h : Cyc x i n) (hn : num < 2) (hu : usedB x n num k = false) (e : nsAt x num t = k) : ∀ m, nsAt x num (t + m) = k
  | 0 => e
  | m + 1 => by
    have ih := unused_on hx h hn hu e m
    have := blk_keep hx hn (unused_blk h hu ih)
    rw [← Nat.add_assoc, this, ih]
theorem never_at {x : Pl} (hx : x.Ok) {i n num k : Nat} (h : Cyc x i n) (hn : num < 2) (hu : usedB x n num k = false) (hs : num ∉ stuckL x i n) (t : Nat) : nsAt x num t ≠ k := fun e => by
  refine hs (List.mem_filter.mpr ⟨List.mem_range.mpr hn, ?_⟩)
  unfold stuckB
  rw [List.all_eq_true]
  intro j hj
  have lt := h.lt
  obtain ⟨m, hm⟩ := List.mem_iff_getElem?.mp hj
  rw [List.getElem?_drop] at hm
  have hlt : i + m < n := by
    rcases Nat.lt_or_ge (i + m) n with q | q
    · exact q
    · rw [List.getElem?_eq_none (by rw [List.length_range]; exact q)] at hm; cases hm
  rw [List.getElem?_range hlt] at hm
  cases hm
  have ep : placeP i n (i + m + (n - i) * (t + 1)) = i + m := by
    unfold placeP
    have hge : n - i ≤ (n - i) * (t + 1) := Nat.le_mul_of_pos_right _ (by omega)
    rw [if_neg (by omega)]
    have e1 : i + m + (n - i) * (t + 1) - i = m + (n - i) * (t + 1) := by omega
    rw [e1, Nat.add_mul_mod_self_left, Nat.mod_eq_of_lt (by omega)]
  rw [← ep, blk_place h]
  have hge : t + 1 ≤ (n - i) * (t + 1) := Nat.le_mul_of_pos_left _ (by omega)
  have on := unused_on hx h hn hu e (i + m + (n - i) * (t + 1) - t)
  rw [show t + (i + m + (n - i) * (t + 1) - t) = i + m + (n - i) * (t + 1) by omega] at on
  exact unused_blk h hu on
theorem act_congr {x z : Pl} {s : Sit} {i : Nat} (hl : (stepsOf x i).length = (stepsOf z i).length) (he : (stepsOf x i).getD (s.ns.getD i 0) ⟨4, none⟩ = (stepsOf z i).getD (s.ns.getD i 0) ⟨4, none⟩) : actP x s i = actP z s i := by
  unfold actP
  rw [he, hl]
/-- two plans alike wherever the first one's robots stand -/
structure Alike (x z : Pl) : Prop where
  a : x.a = z.a
  b : x.b = z.b
  sh : x.shelf = z.shelf
  len : ∀ i, i < 2 → (stepsOf x i).length = (stepsOf z i).length
  st : ∀ i, i < 2 → ∀ t, (stepsOf x i).getD (nsAt x i t) ⟨4, none⟩ = (stepsOf z i).getD (nsAt x i t) ⟨4, none⟩
theorem Alike.tick {x z : Pl} (h : Alike x z) (j : Nat) : tickP x (sitAt x j) = tickP z (sitAt x j) := by
  have e0 : actP x (sitAt x j) 0 = actP z (sitAt x j) 0 := act_congr (h.len 0 (by decide)) (h.st 0 (by decide) j)
  have e1 : actP x (actP x (sitAt x j) 0).2 1 = actP z (actP x (sitAt x j) 0).2 1 := by
    refine act_congr (h.len 1 (by decide)) ?_
    rw [act_ns (by decide)]
    exact h.st 1 (by decide) j
  unfold tickP
  dsimp only
  rw [e1, e0]
theorem Alike.sit {x z : Pl} (h : Alike x z) : ∀ j, sitAt x j = sitAt z j
  | 0 => by
    show sit0 x = sit0 z
    unfold sit0
    rw [h.a, h.b, h.sh]
  | j + 1 => by
    show (tickP x (sitAt x j)).2 = (tickP z (sitAt z j)).2
    rw [h.tick, h.sit j]
theorem Alike.words {x z : Pl} (h : Alike x z) (j : Nat) : wordsAt x j = wordsAt z j := by
  unfold wordsAt
  rw [h.tick, h.sit j]
theorem Alike.cyc {x z : Pl} (h : Alike x z) {i n : Nat} (c : Cyc x i n) : Cyc z i n := ⟨c.lt, by rw [← h.sit, ← h.sit]; exact c.eq, fun j k hj hk e => c.nd j k hj hk (by rw [h.sit, h.sit]; exact e)⟩
end Sb

namespace Sb
open PySem PySem.Spec PyProof.Rows L2
section
variable {x : Pl} {i n : Nat}
theorem sit_far (c : Cyc x i n) {t : Nat} (ht : i ≤ t) (r : Nat) : sitAt x (t + r * (n - i)) = sitAt x t := by
  have lt := c.lt
  have e : sitAt x i = sitAt x (i + (n - i)) := by rw [c.eq]; congr 1; omega
  have h := sit_shift e (t - i)
  rw [show i + (t - i) = t by omega, show i + (n - i) + (t - i) = t + (n - i) by omega] at h
  rw [sit_rounds h r, Nat.mul_comm]
theorem words_far (c : Cyc x i n) {t : Nat} (ht : i ≤ t) (r : Nat) : wordsAt x (t + r * (n - i)) = wordsAt x t := by
  unfold wordsAt
  rw [sit_far c ht]
theorem cnt_far {f : Nat → Nat} {p t : Nat} (h : ∀ j, t ≤ j → f (j + p) = f j) (r : Nat) : cntF f (t + r * p) = cntF f t + r * (cntF f (t + p) - cntF f t) := by
  have := cntF_rounds h 0 r
  simpa using this
theorem words_stay (hx : x.Ok) {j : Nat} (e : wordsAt x j = (8, 8)) : sitAt x (j + 1) = sitAt x j := by
  have o := sitAt_ok hx j
  have e0 : (actP x (sitAt x j) 0).1 = 8 := congrArg (·.1) e
  have e1 : (actP x (actP x (sitAt x j) 0).2 1).1 = 8 := congrArg (·.2) e
  show (actP x (actP x (sitAt x j) 0).2 1).2 = _
  rw [act_blk hx (act_ok hx o (by decide)) (by decide) e1, act_blk hx o (by decide) e0]
theorem blk_iff (hx : x.Ok) {num j : Nat} : blkAt x num j = true ↔ wdN (wordsAt x j) num = 8 := by
  have w := words_le hx j
  have h : ∀ a : _root_.Fin 9, doS a.val = "blocked" ↔ a.val = 8 := by decide +kernel
  have hw : wdN (wordsAt x j) num ≤ 8 := by unfold wdN; split <;> omega
  unfold blkAt
  rw [decide_eq_true_iff]
  exact h ⟨wdN (wordsAt x j) num, by omega⟩
theorem both_iff (hx : x.Ok) {j : Nat} : PyData.eqv (wordsD (wordsAt x j)) blkD = true ↔ wordsAt x j = (8, 8) := by
  have w := words_le hx j
  have h' : ∀ a b : _root_.Fin 9, PyData.eqv (wordsD (a.val, b.val)) blkD = true ↔ a.val = 8 ∧ b.val = 8 := by decide +kernel
  rw [show PyData.eqv (wordsD (wordsAt x j)) blkD = true ↔ (wordsAt x j).1 = 8 ∧ (wordsAt x j).2 = 8 from h' ⟨(wordsAt x j).1, by omega⟩ ⟨(wordsAt x j).2, by omega⟩]
  exact ⟨fun z => Prod.ext z.1 z.2, fun z => by rw [z]; exact ⟨rfl, rfl⟩⟩
theorem lock_one (hx : x.Ok) (c : Cyc x i n) (e : wordsAt x i = (8, 8)) : n = i + 1 := by
  have lt := c.lt
  rcases Nat.lt_or_ge (i + 1) n with q | q
  · have := c.nd (i + 1) i q lt (words_stay hx e); omega
  · omega
theorem stuckB_iff {num : Nat} : stuckB x i n num = true ↔ ∀ j, i ≤ j → j < n → blkAt x num j = true := by
  unfold stuckB
  rw [List.all_eq_true]
  constructor
  · intro h j h1 h2
    refine h j ?_
    rw [List.mem_iff_getElem?]
    exact ⟨j - i, by rw [List.getElem?_drop, show i + (j - i) = j by omega, List.getElem?_range h2]⟩
  · intro h j hj
    rw [List.mem_iff_getElem?] at hj
    obtain ⟨k, hk⟩ := hj
    rw [List.getElem?_drop] at hk
    have lt := (List.getElem?_eq_some_iff.mp hk).1
    rw [List.length_range] at lt
    rw [List.getElem?_range lt] at hk
    cases hk
    exact h _ (by omega) lt
theorem stuckL_two : stuckL x i n = [0, 1] ↔ stuckB x i n 0 = true ∧ stuckB x i n 1 = true := by
  unfold stuckL
  rw [show List.range 2 = [0, 1] from rfl]
  cases h0 : stuckB x i n 0 <;> cases h1 : stuckB x i n 1 <;> simp [List.filter, h0, h1]
/-- both are stuck where both are blocked at the beginning of the cycle -/
theorem lock_iff (hx : x.Ok) (c : Cyc x i n) : stuckL x i n = [0, 1] ↔ wordsAt x i = (8, 8) := by
  rw [stuckL_two, stuckB_iff, stuckB_iff]
  have lt := c.lt
  constructor
  · rintro ⟨h0, h1⟩
    have e0 := (blk_iff hx).mp (h0 i (Nat.le_refl _) lt)
    have e1 := (blk_iff hx).mp (h1 i (Nat.le_refl _) lt)
    exact Prod.ext e0 e1
  · intro e
    have := lock_one hx c e
    refine ⟨fun j h1 h2 => ?_, fun j h1 h2 => ?_⟩
    all_goals
      have : j = i := by omega
      subst this
      rw [blk_iff hx, e]
      rfl
theorem lock_none (hx : x.Ok) : lockP x i = none ↔ wordsAt x i ≠ (8, 8) := by
  unfold lockP
  by_cases h : wordsAt x i = (8, 8)
  · rw [if_pos ((both_iff hx).mpr h)]
    simp [h]
  · rw [if_neg (fun z => h ((both_iff hx).mp z))]
    simp [h]
end
end Sb

namespace Sb
open PySem PySem.Spec PyProof.Rows L2 TL LamX NdefX
/-! ### steps written twice tell the same story -/
def shS (m : Nat) (s : Step) : Step := ⟨s.w, s.g.map (· + m)⟩
structure Dbl (x z : Pl) (num : Nat) : Prop where
  a : x.a = z.a
  b : x.b = z.b
  sh : x.shelf = z.shelf
  other : ∀ i, i < 2 → i ≠ num → stepsOf z i = stepsOf x i
  own : stepsOf z num = stepsOf x num ++ (stepsOf x num).map (shS (stepsOf x num).length)
structure Sim (m num : Nat) (s t : Sit) : Prop where
  cs : t.cs = s.cs
  hs : t.hs = s.hs
  sh : t.sh = s.sh
  ns : ∀ i, i < 2 → i ≠ num → t.ns.getD i 0 = s.ns.getD i 0
  own : t.ns.getD num 0 % m = s.ns.getD num 0
  lt : t.ns.getD num 0 < 2 * m
  l1 : s.ns.length = 2
  l2 : t.ns.length = 2
section
variable {x z : Pl} {num : Nat} {s t : Sit}
theorem dbl_len (h : Dbl x z num) : (stepsOf z num).length = 2 * (stepsOf x num).length := by
  rw [h.own, List.length_append, List.length_map]; omega
theorem st_other (h : Dbl x z num) (S : Sim (stepsOf x num).length num s t) {i : Nat} (hi : i < 2) (hn : i ≠ num) : stOf z t i = stOf x s i := by
  unfold stOf
  rw [h.other i hi hn, S.ns i hi hn]
theorem st_own (h : Dbl x z num) (S : Sim (stepsOf x num).length num s t) : stOf z t num = shS (if t.ns.getD num 0 < (stepsOf x num).length then 0 else (stepsOf x num).length) (stOf x s num) := by
  unfold stOf
  have e := S.own
  have l := S.lt
  rw [h.own]
  revert e l
  generalize t.ns.getD num 0 = k
  generalize s.ns.getD num 0 = j
  generalize stepsOf x num = L
  intro e l
  by_cases hk : k < L.length
  · rw [Nat.mod_eq_of_lt hk] at e
    subst e
    rw [if_pos hk, List.getD_eq_getElem?_getD, List.getElem?_append_left hk, ← List.getD_eq_getElem?_getD]
    generalize L.getD k ⟨4, none⟩ = st
    obtain ⟨w, g⟩ := st
    unfold shS
    cases g <;> rfl
  · have e2 : k - L.length = j := by
      rw [← e, Nat.mod_eq_sub_mod (by omega), Nat.mod_eq_of_lt (by omega)]
    rw [if_neg hk, List.getD_eq_getElem?_getD, List.getElem?_append_right (by omega), List.getElem?_map, e2, List.getD_eq_getElem?_getD, List.getElem?_eq_getElem (show j < L.length by omega)]
    rfl
theorem st_w (h : Dbl x z num) (S : Sim (stepsOf x num).length num s t) {i : Nat} (hi : i < 2) : (stOf z t i).w = (stOf x s i).w := by
  by_cases hn : i = num
  · subst hn; rw [st_own h S]; rfl
  · rw [st_other h S hi hn]
theorem jump_iff (h : Dbl x z num) (S : Sim (stepsOf x num).length num s t) {i : Nat} (hi : i < 2) {hs' : List Bool} {sh' : List Nat} : jumpP z t i hs' sh' ↔ jumpP x s i hs' sh' := by
  unfold jumpP cOf
  rw [st_w h S hi, S.cs]
theorem next_other (h : Dbl x z num) (S : Sim (stepsOf x num).length num s t) {i : Nat} (hi : i < 2) (hn : i ≠ num) {hs' : List Bool} {sh' : List Nat} : nextP z t i hs' sh' = nextP x s i hs' sh' := by
  unfold nextP
  by_cases hj : jumpP x s i hs' sh'
  · rw [if_pos hj, if_pos ((jump_iff h S hi).mpr hj), st_other h S hi hn]
  · rw [if_neg hj, if_neg (fun q => hj ((jump_iff h S hi).mp q)), S.ns i hi hn, h.other i hi hn]
theorem next_own (hx : x.Ok) (o : SitOk x s) (h : Dbl x z num) (S : Sim (stepsOf x num).length num s t) (hi : num < 2) {hs' : List Bool} {sh' : List Nat} : nextP z t num hs' sh' % (stepsOf x num).length = nextP x s num hs' sh' ∧ nextP z t num hs' sh' < 2 * (stepsOf x num).length := by
  have pos := (steps_ok hx num).pos
  have ok := st_ok hx o hi
  unfold nextP
  by_cases hj : jumpP x s num hs' sh'
  · rw [if_pos hj, if_pos ((jump_iff h S hi).mpr hj), st_own h S]
    have h5 : 5 ≤ (stOf x s num).w := by rcases hj with q | q | q <;> omega
    obtain ⟨k, e, hk⟩ := ok.yes h5
    unfold shS
    rw [e]
    show (k + _) % _ = k ∧ k + _ < _
    split
    · exact ⟨Nat.mod_eq_of_lt (by omega), by omega⟩
    · refine ⟨?_, by omega⟩
      rw [Nat.add_mod_right, Nat.mod_eq_of_lt hk]
  · rw [if_neg hj, if_neg (fun q => hj ((jump_iff h S hi).mp q)), dbl_len h]
    refine ⟨?_, Nat.mod_lt _ (by omega)⟩
    rw [Nat.mod_mod_of_dvd _ ⟨2, Nat.mul_comm _ _⟩, Nat.add_mod, S.own, Nat.add_mod_mod]
theorem fin_sim (hx : x.Ok) (o : SitOk x s) (h : Dbl x z num) (S : Sim (stepsOf x num).length num s t) (hnum : num < 2) {i : Nat} (hi : i < 2) {cs' : List Nat} {hs' : List Bool} {sh' : List Nat} :
    (finP z t i cs' hs' sh').1 = (finP x s i cs' hs' sh').1 ∧ Sim (stepsOf x num).length num (finP x s i cs' hs' sh').2 (finP z t i cs' hs' sh').2 := by
  have i1 : i < s.ns.length := by rw [S.l1]; exact hi
  have i2 : i < t.ns.length := by rw [S.l2]; exact hi
  refine ⟨st_w h S hi, rfl, rfl, rfl, fun j hj hn => ?_, ?_, ?_, ?_, ?_⟩
  · show (t.ns.set i _).getD j 0 = (s.ns.set i _).getD j 0
    rw [getD_set i1, getD_set i2]
    by_cases e : j = i
    · subst e
      rw [if_pos rfl, if_pos rfl]
      exact next_other h S hj hn
    · rw [if_neg e, if_neg e]
      exact S.ns j hj hn
  · show (t.ns.set i _).getD num 0 % _ = (s.ns.set i _).getD num 0
    rw [getD_set i1, getD_set i2]
    by_cases e : num = i
    · subst e
      rw [if_pos rfl, if_pos rfl]
      exact (next_own hx o h S hnum).1
    · rw [if_neg e, if_neg e]
      exact S.own
  · show (t.ns.set i _).getD num 0 < _
    rw [getD_set i2]
    by_cases e : num = i
    · subst e
      rw [if_pos rfl]
      exact (next_own hx o h S hnum).2
    · rw [if_neg e]
      exact S.lt
  · show (s.ns.set i _).length = 2
    rw [List.length_set]; exact S.l1
  · show (t.ns.set i _).length = 2
    rw [List.length_set]; exact S.l2
theorem act_sim (hx : x.Ok) (o : SitOk x s) (h : Dbl x z num) (S : Sim (stepsOf x num).length num s t) (hnum : num < 2) {i : Nat} (hi : i < 2) : (actP z t i).1 = (actP x s i).1 ∧ Sim (stepsOf x num).length num (actP x s i).2 (actP z t i).2 := by
  have hw := st_w h S hi
  have hc : cOf t i = cOf s i := by unfold cOf; rw [S.cs]
  match e : (stOf x s i).w with
  | 0 =>
    rw [act_left e, act_left (hw.trans e), hc, S.cs, S.hs, S.sh]
    by_cases c : cOf s i = 0 ∨ cOf s i - 1 ∈ s.cs
    · rw [if_pos c, if_pos c]; exact ⟨rfl, S⟩
    · rw [if_neg c, if_neg c]; exact fin_sim hx o h S hnum hi
  | 1 =>
    rw [act_right e, act_right (hw.trans e), hc, S.cs, S.hs, S.sh]
    by_cases c : s.sh.length ≤ cOf s i + 1 ∨ cOf s i + 1 ∈ s.cs
    · rw [if_pos c, if_pos c]; exact ⟨rfl, S⟩
    · rw [if_neg c, if_neg c]; exact fin_sim hx o h S hnum hi
  | 2 =>
    rw [act_pick e, act_pick (hw.trans e), hc, S.cs, S.hs, S.sh]
    by_cases c : s.hs.getD i false = true ∨ s.sh.getD (cOf s i) 0 = 0
    · rw [if_pos c, if_pos c]; exact ⟨rfl, S⟩
    · rw [if_neg c, if_neg c]; exact fin_sim hx o h S hnum hi
  | 3 =>
    rw [act_put e, act_put (hw.trans e), hc, S.cs, S.hs, S.sh]
    by_cases c : s.hs.getD i false = false ∨ 3 ≤ s.sh.getD (cOf s i) 0
    · rw [if_pos c, if_pos c]; exact ⟨rfl, S⟩
    · rw [if_neg c, if_neg c]; exact fin_sim hx o h S hnum hi
  | n + 4 =>
    rw [act_else (show 4 ≤ (stOf x s i).w by omega), act_else (show 4 ≤ (stOf z t i).w by omega), S.cs, S.hs, S.sh]
    exact fin_sim hx o h S hnum hi
theorem tick_sim (hx : x.Ok) (o : SitOk x s) (h : Dbl x z num) (S : Sim (stepsOf x num).length num s t) (hnum : num < 2) : (tickP z t).1 = (tickP x s).1 ∧ Sim (stepsOf x num).length num (tickP x s).2 (tickP z t).2 := by
  obtain ⟨e0, S0⟩ := act_sim hx o h S hnum (i := 0) (by decide)
  obtain ⟨e1, S1⟩ := act_sim hx (act_ok hx o (by decide)) h S0 hnum (i := 1) (by decide)
  unfold tickP
  dsimp only
  exact ⟨by rw [e0, e1], S1⟩
theorem sit_sim (hx : x.Ok) (h : Dbl x z num) (hnum : num < 2) : ∀ j, Sim (stepsOf x num).length num (sitAt x j) (sitAt z j)
  | 0 => by
    have pos := (steps_ok hx num).pos
    refine ⟨?_, rfl, h.sh.symm, fun i hi _ => rfl, ?_, ?_, rfl, rfl⟩
    · show [z.a, z.b] = [x.a, x.b]; rw [h.a, h.b]
    · show ([0, 0] : List Nat).getD num 0 % _ = ([0, 0] : List Nat).getD num 0
      match num, hnum with
      | 0, _ => exact Nat.zero_mod _
      | 1, _ => exact Nat.zero_mod _
    · show ([0, 0] : List Nat).getD num 0 < _
      match num, hnum with
      | 0, _ => show 0 < _; omega
      | 1, _ => show 0 < _; omega
  | j + 1 => (tick_sim hx (sitAt_ok hx j) h (sit_sim hx h hnum j) hnum).2
theorem words_sim (hx : x.Ok) (h : Dbl x z num) (hnum : num < 2) (j : Nat) : wordsAt z j = wordsAt x j := (tick_sim hx (sitAt_ok hx j) h (sit_sim hx h hnum j) hnum).1
end
end Sb

namespace Sb
open PySem PySem.Spec PyProof.Rows L2 TL LamX NdefX
theorem cyc_of {x : Pl} : ∀ (q p : Nat), p < q → sitAt x p = sitAt x q → ∃ i n, Cyc x i n ∧ n ≤ q := by
  intro q
  induction q using Nat.strongRecOn with
  | _ q ih =>
    intro p hp e
    by_cases h : ∃ j k, j < k ∧ k < q ∧ sitAt x j = sitAt x k
    · obtain ⟨j, k, h1, h2, h3⟩ := h
      obtain ⟨i, n, c, hn⟩ := ih k h2 j h1 h3
      exact ⟨i, n, c, by omega⟩
    · refine ⟨p, q, ⟨hp, e, fun j k hj hk e' => ?_⟩, Nat.le_refl _⟩
      rcases Nat.lt_trichotomy j k with q1 | q1 | q1
      · exact absurd ⟨j, k, q1, hk, e'⟩ h
      · exact q1
      · exact absurd ⟨k, j, q1, hj, e'.symm⟩ h
theorem two_ext : ∀ {a b : List Nat}, a.length = 2 → b.length = 2 → a.getD 0 0 = b.getD 0 0 → a.getD 1 0 = b.getD 1 0 → a = b
  | [p, q], [r, t], _, _, h1, h2 => by
    have h1 : p = r := h1
    have h2 : q = t := h2
    rw [h1, h2]
theorem sim_ext {m num : Nat} {s t u : Sit} (hn : num < 2) (a : Sim m num s t) (b : Sim m num s u) (e : t.ns.getD num 0 = u.ns.getD num 0) : t = u := by
  have hns : t.ns = u.ns := by
    refine two_ext a.l2 b.l2 ?_ ?_
    · by_cases h : num = 0
      · subst h; exact e
      · rw [a.ns 0 (by decide) (fun z => h z.symm), b.ns 0 (by decide) (fun z => h z.symm)]
    · by_cases h : num = 1
      · subst h; exact e
      · rw [a.ns 1 (by decide) (fun z => h z.symm), b.ns 1 (by decide) (fun z => h z.symm)]
  have h1 := a.cs.trans b.cs.symm
  have h2 := a.hs.trans b.hs.symm
  have h3 := a.sh.trans b.sh.symm
  obtain ⟨t1, t2, t3, t4⟩ := t
  obtain ⟨u1, u2, u3, u4⟩ := u
  dsimp only at hns h1 h2 h3
  rw [hns, h1, h2, h3]
section
variable {x z : Pl} {num i n : Nat}
theorem dbl_cyc (hx : x.Ok) (h : Dbl x z num) (hn : num < 2) (c : Cyc x i n) : ∃ i2 n2, Cyc z i2 n2 ∧ n2 ≤ 2 * n := by
  have lt := c.lt
  have pos := (steps_ok hx num).pos
  have S0 := sit_sim hx h hn i
  have S1 := sit_sim hx h hn n
  have S2 := sit_sim hx h hn (n + (n - i))
  have e2 : sitAt x i = sitAt x (n + (n - i)) := by
    have := sit_shift c.eq (n - i)
    rw [show i + (n - i) = n by omega, ← c.eq] at this
    exact this
  rw [← c.eq] at S1
  rw [← e2] at S2
  have two : ∀ {k m j : Nat}, k % m = j → k < 2 * m → k = j ∨ k = j + m := fun {k m j} h1 h2 => by
    by_cases q : k < m
    · rw [Nat.mod_eq_of_lt q] at h1; exact .inl h1
    · rw [Nat.mod_eq_sub_mod (by omega), Nat.mod_eq_of_lt (by omega)] at h1; exact .inr (by omega)
  have d0 := two S0.own S0.lt
  have d1 := two S1.own S1.lt
  have d2 := two S2.own S2.lt
  by_cases q1 : (sitAt z i).ns.getD num 0 = (sitAt z n).ns.getD num 0
  · obtain ⟨i2, n2, c2, h2⟩ := cyc_of n i lt (sim_ext hn S0 S1 q1)
    exact ⟨i2, n2, c2, by omega⟩
  · by_cases q2 : (sitAt z i).ns.getD num 0 = (sitAt z (n + (n - i))).ns.getD num 0
    · obtain ⟨i2, n2, c2, h2⟩ := cyc_of (n + (n - i)) i (by omega) (sim_ext hn S0 S2 q2)
      exact ⟨i2, n2, c2, by omega⟩
    · have q3 : (sitAt z n).ns.getD num 0 = (sitAt z (n + (n - i))).ns.getD num 0 := by omega
      obtain ⟨i2, n2, c2, h2⟩ := cyc_of (n + (n - i)) n (by omega) (sim_ext hn S1 S2 q3)
      exact ⟨i2, n2, c2, by omega⟩
theorem dbl_blk (hx : x.Ok) (h : Dbl x z num) (hn : num < 2) (k j : Nat) : blkAt z k j = blkAt x k j := by
  unfold blkAt
  rw [words_sim hx h hn]
theorem dbl_cs (hx : x.Ok) (h : Dbl x z num) (hn : num < 2) (t : Nat) : csD x t = csD z t := by
  have S := sit_sim hx h hn (t + 1)
  unfold csD
  rw [S.cs, S.sh]
/-- a step unused is unused in both halves -/
theorem dbl_unused (hx : x.Ok) (h : Dbl x z num) (hn : num < 2) (c : Cyc x i n) {n2 k : Nat} (hk : k < (stepsOf x num).length) (hu : usedB x n num k = false) : usedB z n2 num k = false ∧ usedB z n2 num (k + (stepsOf x num).length) = false := by
  have go : ∀ k', k' % (stepsOf x num).length = k → usedB z n2 num k' = false := fun k' hk' => by
    cases hb : usedB z n2 num k' with
    | false => rfl
    | true =>
      exfalso
      unfold usedB at hb
      rw [List.any_eq_true] at hb
      obtain ⟨j, _, hj⟩ := hb
      rw [Bool.and_eq_true, decide_eq_true_iff] at hj
      have S := sit_sim hx h hn j
      have e : nsAt x num j = k := by
        have := S.own
        unfold nsAt at hj ⊢
        rw [← this, hj.2, hk']
      have hb := unused_blk c hu e
      rw [dbl_blk hx h hn, hb] at hj
      exact absurd hj.1 (by decide)
  exact ⟨go k (Nat.mod_eq_of_lt hk), go _ (by rw [Nat.add_mod_right, Nat.mod_eq_of_lt hk])⟩
/-- where both robots are locked, they are locked in the doubled plan -/
theorem dbl_lock (hx : x.Ok) (hz : z.Ok) (h : Dbl x z num) (hn : num < 2) (c : Cyc x i n) {i2 n2 : Nat} (c2 : Cyc z i2 n2) (hl : lockP x i = some i) : lockP z i2 = some i := by
  unfold lockP at hl
  split at hl
  · rename_i hb
    have w := words_le hx i
    have wz : wordsAt x i = (8, 8) := by
      have h' : ∀ a b : _root_.Fin 9, PyData.eqv (wordsD (a.val, b.val)) blkD = true → a.val = 8 ∧ b.val = 8 := by decide +kernel
      obtain ⟨e1, e2⟩ := h' ⟨(wordsAt x i).1, by omega⟩ ⟨(wordsAt x i).2, by omega⟩ hb
      exact Prod.ext e1 e2
    -- the state stays
    have stay : ∀ {y : Pl} {j : Nat}, y.Ok → wordsAt y j = (8, 8) → sitAt y (j + 1) = sitAt y j := fun {y j} hy e => by
      have o := sitAt_ok hy j
      have e0 : (actP y (sitAt y j) 0).1 = 8 := congrArg (·.1) e
      have e1 : (actP y (actP y (sitAt y j) 0).2 1).1 = 8 := congrArg (·.2) e
      show (actP y (actP y (sitAt y j) 0).2 1).2 = _
      rw [act_blk hy (act_ok hy o (by decide)) (by decide) e1, act_blk hy o (by decide) e0]
    have ez : wordsAt z i = (8, 8) := by rw [words_sim hx h hn]; exact wz
    have sx := stay hx wz
    have sz := stay hz ez
    have lt := c.lt
    have lt2 := c2.lt
    have n1 : n = i + 1 := by
      rcases Nat.lt_or_ge (i + 1) n with q | q
      · have := c.nd (i + 1) i q lt sx; omega
      · omega
    -- the doubled plan comes back no sooner
    have low : ∀ j k, j < k → k ≤ i → sitAt z j ≠ sitAt z k := fun j k h1 h2 e => by
      have Sj := sit_sim hx h hn j
      have Sk := sit_sim hx h hn k
      have : sitAt x j = sitAt x k := by
        have hns : (sitAt x j).ns = (sitAt x k).ns := by
          refine two_ext Sj.l1 Sk.l1 ?_ ?_
          · by_cases q : num = 0
            · subst q; rw [← Sj.own, ← Sk.own, e]
            · rw [← Sj.ns 0 (by decide) (fun w => q w.symm), ← Sk.ns 0 (by decide) (fun w => q w.symm), e]
          · by_cases q : num = 1
            · subst q; rw [← Sj.own, ← Sk.own, e]
            · rw [← Sj.ns 1 (by decide) (fun w => q w.symm), ← Sk.ns 1 (by decide) (fun w => q w.symm), e]
        have h1 := Sj.cs.symm.trans ((congrArg (·.cs) e).trans Sk.cs)
        have h2 := Sj.hs.symm.trans ((congrArg (·.hs) e).trans Sk.hs)
        have h3 := Sj.sh.symm.trans ((congrArg (·.sh) e).trans Sk.sh)
        revert hns h1 h2 h3
        generalize sitAt x j = u
        generalize sitAt x k = v
        obtain ⟨t1, t2, t3, t4⟩ := u
        obtain ⟨u1, u2, u3, u4⟩ := v
        intro hns h1 h2 h3
        dsimp only at hns h1 h2 h3
        rw [hns, h1, h2, h3]
      have := c.nd j k (by omega) (by omega) this
      omega
    have hi2 : n2 = i + 1 := by
      rcases Nat.lt_trichotomy n2 (i + 1) with q | q | q
      · exact absurd c2.eq (low i2 n2 lt2 (by omega))
      · exact q
      · have := c2.nd (i + 1) i q (by omega) sz; omega
    have hi3 : i2 = i := by
      have e := c2.eq
      rw [hi2, sz] at e
      exact c2.nd i2 i lt2 (by omega) e
    subst hi3
    unfold lockP
    rw [ez]
    rfl
  · cases hl
end
end Sb

/-! a list and a list, wherever they stand -/
namespace Sb
open PySem PySem.Spec PyProof.Rows L2
section
variable {X : Cx}
def rCatS (K : PySem.W.Frag) : R2 := fun x y H Q => ∃ l b xs zs, x = .ref l ∧ y = .ref b ∧ SqL K H l xs ∧ SqL K H b zs ∧ xs.length + zs.length ≤ sizeLine ∧ ∀ p, H p = none → Q (.ref p) (upd H p (.lst (xs ++ zs)))
theorem op_catS : OpR X (binaryOp .Add) (rCatS X.K) := by
  intro pins s σ H x y v u Q I rx ry h
  obtain ⟨l, b, xs, zs, rfl, rfl, hH, hB, hz, q⟩ := h
  cases rx
  cases ry
  obtain ⟨its, r, ⟨⟨cls, dd, data, sl⟩, n, ho, hc, hdn, hd⟩, hl⟩ := I.list hH
  obtain ⟨its2, r2, ⟨⟨cls2, dd2, data2, sl2⟩, n2, ho2, hc2, hdn2, hd2⟩, hl2⟩ := I.list hB
  simp only at hc hd hc2 hd2
  subst hc hd hc2 hd2
  have e1 := r.length
  have e2 := r2.length
  refine concat_meets ⟨_, ho, rfl⟩ ⟨_, ho2, rfl⟩ noFill_list_add seq_list_add PySem.F.slot_list_add PySem.F.entry_list_add (PySem.F.args_list_add_2 _ _) (list_addW l b its.toArray its2.toArray n n2 dd dd2 sl sl2 (by simp only [List.size_toArray]; omega)) ⟨ho, ho2, ?_⟩
  have ea : its.toArray ++ its2.toArray = (its ++ its2).toArray := by simp
  rw [ea]
  exact ⟨.ref _, _, I.lnew (t' := s.toks) (r.append r2) (by rw [List.length_append]; omega), rfl, q _ I.fresh⟩
end
end Sb

namespace Sb
open PySem PySem.Spec PyProof.Rows L2 TL LamX NdefX
structure spDoubled (K : PySem.W.Frag) (vs : List V) (H : Hp) (Q : VK) (E : XK) : Prop where
  ex : ∃ (G : Hp) (v : V) (l : List Step), vs = [v] ∧ Dp K G v (stepsD l) ∧ l.length ≤ 10 ∧ Pure G H Q fun G' u => Dp K G' u (stepsD (l ++ l.map (shS l.length)))
section
variable {P : Program} {w : World} {K : PySem.W.Frag} {mg : Str → Option Value} {base : Heap} {a : Ad}
theorem ok_l_doubled (T : Txt K mg a) : FnOk P w K mg base CX0 1 a.f_l_doubled a.d_l_doubled ["_law_steps_here"] (spDoubled K) := by
  refine T.F_l_doubled.ok sc_l_doubled (fun vs H Q E h => ?_) (fun cdv A outer s H vs Q E hr h => ?_)
  · obtain ⟨⟨G, v, l, rfl, _⟩⟩ := h
    rfl
  · obtain ⟨⟨G, v, l, rfl, hD, hl, hGH, k⟩⟩ := h
    refine ⟨_, (pss_cons (ps_set (i := 1) sc_l_doubled.nd rfl (Or.inr rfl) (pe_callB call_len_seq (by rfl) T.z_len (by decide +kernel) (pa_cons (pv 0) pa_nil)))
      (pss_cons (ps_if (pt_cmpR op_gt (pv 1) pe_int (nomark _)) (pss_one (ps_ret (pv 0))) pss_nil)
      (pss_one (ps_ret (pe_op op_catS (pv 0) (pe_lc (own := [("_law_word", 2), ("_law_goal", 3)]) (g := gTup K 2 (gCons (gName 2) (gCons (gName 3) gNil))) (tt := tYes) rfl sc_l_doubled.nd (pi_list (pv 0)) (blkOk_by (own := [("_law_word", 2), ("_law_goal", 3)]) (N := ["_law_steps_here", "_law_many", "_law_word", "_law_goal"]) (sc := (defScope s_l_doubled)) (by decide +kernel)) (fun _ _ _ _ _ => (pg_tup (by rfl) (pgs_cons (pg_name (i := 2) sc_l_doubled.nd rfl (Or.inl rfl)) (pgs_cons (pg_name (i := 3) sc_l_doubled.nd rfl (Or.inl rfl)) pgs_nil)))) (fun _ _ _ _ _ => pts_nil) (fun _ _ _ _ _ => by exact (pe_tup (pa_cons (pv 2) (pa_cons (pe_ifExp (pt_cmpR op_notN (pv 3) pe_non (nomark _)) (pe_op op_add (pv 3) (pv 1)) pe_non) pa_nil)))))))))), ?_⟩
    obtain ⟨sl, xs, rfl, hsl, hxs⟩ := Dp.lst_inv hD
    have lx : xs.length = l.length := by rw [DpAll.len hxs, List.length_map]
    refine ⟨_, rfl, sl, _, rfl, .inl (hGH.seq hsl), ?_⟩
    rw [lx]
    refine ⟨_, rfl, _, _, rfl, rfl, _, rfl, ite_f (decide_eq_false (by omega)) ?_⟩
    refine ⟨_, rfl, _, rfl, sl, rfl, ⟨_, hGH.seq hsl⟩, fun D hD' => ?_⟩
    have D0 : H D = none := hD'
    have DG : G D = none := Same.free hGH hD'
    refine lc_list (K := K) (a := sl) (xs := xs) (fun j H' => ∃ (G' : Hp) (us : List V), Pt G H G' H' ∧ G' D = none ∧ H' D = some (.lst us) ∧ us.length = j ∧ DpAll K G' us (((l.take j).map (shS l.length)).map Step.D)) ⟨G, [], (Pt.start hGH).lay hD' _, DG, upd_same, rfl, .nil⟩ (fun j H' _ ⟨G', us, B, _⟩ => (B.g.trans B.s).seq hsl) ?_ ?_
    · rintro j y H' hy ⟨G', us, B, DG', hD2, hul, hus⟩
      obtain ⟨dd, hdd, hDd⟩ := DpAll.get hxs hy
      rw [List.getElem?_map] at hdd
      obtain ⟨st, hst, rfl⟩ : ∃ st, l[j]? = some st ∧ dd = st.D := by
        cases e : l[j]? with
        | none => rw [e] at hdd; cases hdd
        | some q => rw [e] at hdd; exact ⟨q, rfl, (Option.some.inj hdd).symm⟩
      have hj : j < l.length := (List.getElem?_eq_some_iff.mp hst).1
      obtain ⟨t, g, rfl, ht, hg⟩ := step_inv hDd
      have et : (l.take (j + 1)).map (shS l.length) = (l.take j).map (shS l.length) ++ [shS l.length st] := by rw [take_more hst, List.map_append]; rfl
      refine ⟨t, _, rfl, Same.seqT (B.g.trans B.s) ht, rfl, _, _, rfl, _, _, rfl, rfl, ?_⟩
      -- what is laid
      have fin : ∀ (v : V), Dp K G' v (match (shS l.length st).g with | none => .none | some k => natD k) → ∀ p, H' p = none → ∃ acc, (upd H' p (.tup [.str (wS st.w), v])) D = some (.lst acc) ∧ acc.length < sizeLine ∧
          ∃ (G2 : Hp) (us : List V), Pt G H G2 (upd (upd H' p (.tup [.str (wS st.w), v])) D (.lst (acc ++ [.ref p]))) ∧ G2 D = none ∧ (upd (upd H' p (.tup [.str (wS st.w), v])) D (.lst (acc ++ [.ref p]))) D = some (.lst us) ∧ us.length = j + 1 ∧ DpAll K G2 us (((l.take (j + 1)).map (shS l.length)).map Step.D) := fun v hv p hp => by
        have Dn : D ≠ p := ne_of_none hD2 hp
        have C := B.new hp (.tup [.str (wS st.w), v])
        have g := same_new (o := .tup [.str (wS st.w), v]) (B.freeG hp)
        have DG2 : (upd G' p (.tup [.str (wS st.w), v])) D = none := by rw [upd_ne Dn]; exact DG'
        refine ⟨us, by rw [upd_ne Dn]; exact hD2, smaller 20 (by omega) (by decide), _, us ++ [.ref p], C.put D0 DG2 _, DG2, upd_same, by rw [List.length_append, hul]; rfl, ?_⟩
        rw [et, List.map_append]
        exact DpAll.snoc (Dp.monoAll g _ _ hus) (.tup (SqT.of upd_same) (.cons (.str _) (.cons (Dp.mono g _ _ hv) .nil)))
      refine ⟨rfl, _, rfl, _, rfl, rfl, _, rfl, ?_⟩
      rcases hg with ⟨e1, rfl⟩ | ⟨kk, e1, rfl⟩
      · refine ite_f rfl ⟨(by show 2 ≤ sizeLine; decide), fun p hp => fin .non ?_ p hp⟩
        unfold shS
        rw [e1]
        exact .non
      · refine ite_t rfl ⟨_, rfl, _, rfl, _, _, rfl, rfl, (by show 2 ≤ sizeLine; decide), fun p hp => fin (.int ((kk : Int) + (l.length : Int))) ?_ p hp⟩
        unfold shS
        rw [e1]
        exact .int _
    rintro H' ⟨G', us, B, DG', hD2, hul, hus⟩
    rw [lx, List.take_of_length_le (Nat.le_refl _)] at hus
    refine ⟨sl, D, _, _, rfl, rfl, (B.g.trans B.s).seq hsl, SqL.of hD2, small 20 (by omega) (by decide), fun p hp => ?_⟩
    have C := B.new hp (.lst (xs ++ us))
    have g := same_new (o := .lst (xs ++ us)) (B.freeG hp)
    refine k _ _ _ C.ext C.sm (.lst (SqL.of upd_same) ?_)
    rw [List.map_append]
    exact DpAll.append (Dp.monoAll (B.g.trans g) _ _ hxs) (Dp.monoAll g _ _ hus)
end
end Sb

namespace Sb
open PySem PySem.Spec PyProof.Rows L2 TL LamX NdefX
def spLaw (K : PySem.W.Frag) : Sp := fun vs H Q _ => ∃ (a : Addr) (ns : List Int), vs = [.ref a] ∧ SqL K H a (ns.map V.int) ∧ ns.length ≤ 63 ∧ ∀ H', Q (.bl true) H'
theorem Rnd.told {x : Pl} (hr : Rnd x) (hx : x.Ok) : ∃ i n, Told (textS x) x i n ∧ n < 4000 := by
  obtain ⟨i, n, hc, hn⟩ := hr.ex
  exact ⟨i, n, ⟨loads_text hx, hx, hc, by omega⟩, hn⟩
/-- steps where at most those were changed that the robot never stands at -/
structure Chg (x : Pl) (num : Nat) (L : List Step) : Prop where
  len : L.length = (stepsOf x num).length
  at_ : ∀ k, L[k]? = (stepsOf x num)[k]? ∨ ((∀ t, nsAt x num t ≠ k) ∧ ∃ w, w < 5 ∧ L[k]? = some ⟨w, none⟩)
theorem Chg.refl (x : Pl) (num : Nat) : Chg x num (stepsOf x num) := ⟨rfl, fun k => .inl rfl⟩
theorem Chg.set {x : Pl} {num k w : Nat} {L : List Step} (h : Chg x num L) (hn : ∀ t, nsAt x num t ≠ k) (hw : w < 5) : Chg x num (L.set k ⟨w, none⟩) := by
  refine ⟨by rw [List.length_set]; exact h.len, fun j => ?_⟩
  by_cases e : j = k
  · subst e
    by_cases hl : j < L.length
    · exact .inr ⟨hn, w, hw, by rw [List.getElem?_set_self hl]⟩
    · rw [List.getElem?_eq_none (by rw [List.length_set]; omega), List.getElem?_eq_none (by rw [← h.len]; omega)]; exact .inl rfl
  · rw [List.getElem?_set_ne (fun z => e z.symm)]
    exact h.at_ j
theorem Chg.ok {x : Pl} (hx : x.Ok) {num : Nat} {L : List Step} (h : Chg x num L) : StepsOk L := by
  have so := steps_ok hx num
  refine ⟨by rw [h.len]; exact so.pos, by rw [h.len]; exact so.le, fun s hs => ?_⟩
  obtain ⟨k, hk⟩ := List.mem_iff_getElem?.mp hs
  rcases h.at_ k with e | ⟨_, w, hw, e⟩
  · rw [e] at hk
    rw [h.len]
    exact so.all s (List.mem_of_getElem? hk)
  · rw [hk] at e
    cases e
    exact ⟨by show w < 8; omega, fun _ => rfl, fun q => absurd (show 5 ≤ w from q) (by omega)⟩
theorem cs_lay (x : Pl) (t : Nat) : (csD x t).canLay0 = true := by
  show (PyData.canLayAll0 ((sitAt x (t + 1)).cs.map natD) && (PyData.canLayAll0 ((sitAt x (t + 1)).sh.map natD) && true)) = true
  rw [nats_lay, nats_lay]
  rfl
theorem diff_none {x z : Pl} (h : ∀ t, csD x t = csD z t) (b : Nat) : diffP x z b = none := find_none fun m _ => by
  rw [← h m, SeqAt.eqv_refl _ (cs_lay x m)]
  rfl
theorem lay_row {x : Pl} (hx : x.Ok) (t : Nat) : Lay 9 (rowD x t) := Lay.tuple (n := 8) fun d hd => by
  rcases List.mem_cons.mp hd with rfl | hd
  · exact .int _
  · exact lay2 (P := Lay 8) (.str (doS_ok (words_le hx t).1)) (.str (doS_ok (words_le hx t).2)) d hd
def rowsD (x : Pl) : PyData := .list ((List.range 201).map fun k => rowD x (0 + k))
theorem rows_lay {x : Pl} (hx : x.Ok) : Lay 10 (rowsD x) := Lay.list fun d hd => by
  obtain ⟨k, _, rfl⟩ := List.mem_map.mp hd
  exact lay_row hx _
theorem rows_eq {x z : Pl} (h : ∀ j, wordsAt x j = wordsAt z j) : rowsD x = rowsD z := by
  unfold rowsD rowD
  simp only [h]
theorem stuck_eq {x z : Pl} (h : ∀ j, wordsAt x j = wordsAt z j) (i n : Nat) : stuckL x i n = stuckL z i n := by
  unfold stuckL stuckB blkAt
  simp only [h]
def pairD (i n : Nat) : PyData := .tuple [natD i, natD n]
theorem pair_lay (i n : Nat) : Lay 2 (pairD i n) := Lay.tuple (n := 1) (lay2 (.int _) (.int _))
/-- the plan with these steps -/
def withS (x : Pl) (L : Nat → List Step) : Pl := { x with p := L 0, q := L 1 }
theorem withS_steps (x : Pl) (L : Nat → List Step) {i : Nat} (hi : i < 2) : stepsOf (withS x L) i = L i := by
  match i, hi with
  | 0, _ => rfl
  | 1, _ => rfl
theorem chg_alike {x : Pl} (hx : x.Ok) {L : Nat → List Step} (h : ∀ k, k < 2 → Chg x k (L k)) : Alike x (withS x L) := by
  refine ⟨rfl, rfl, rfl, fun i hi => by rw [withS_steps x L hi]; exact (h i hi).len.symm, fun i hi t => ?_⟩
  rw [withS_steps x L hi, List.getD_eq_getElem?_getD, List.getD_eq_getElem?_getD]
  rcases (h i hi).at_ (nsAt x i t) with e | ⟨q, _⟩
  · rw [e]
  · exact absurd rfl (q t)
theorem chg_ok {x : Pl} (hx : x.Ok) {L : Nat → List Step} (h : ∀ k, k < 2 → Chg x k (L k)) : (withS x L).Ok :=
  ⟨hx.c3, hx.c12, hx.b3, hx.ha, hx.hb, hx.ne, (h 0 (by decide)).ok hx, (h 1 (by decide)).ok hx⟩
theorem dblL_ok {l : List Step} (h : StepsOk l) (h9 : l.length ≤ 10) : StepsOk (l ++ l.map (shS l.length)) := by
  have pos := h.pos
  have hl : (l ++ l.map (shS l.length)).length = 2 * l.length := by rw [List.length_append, List.length_map]; omega
  refine ⟨by omega, by omega, fun s hs => ?_⟩
  rw [hl]
  rcases List.mem_append.mp hs with hs | hs
  · have o := h.all s hs
    exact ⟨o.w8, o.no, fun q => by obtain ⟨k, e, hk⟩ := o.yes q; exact ⟨k, e, by omega⟩⟩
  · obtain ⟨t, ht, rfl⟩ := List.mem_map.mp hs
    have o := h.all t ht
    refine ⟨o.w8, fun q => ?_, fun q => ?_⟩
    · show t.g.map _ = none
      rw [o.no q]; rfl
    · obtain ⟨k, e, hk⟩ := o.yes q
      exact ⟨k + l.length, by show t.g.map _ = _; rw [e]; rfl, by omega⟩
/-- the plan with the steps of one robot doubled -/
def dblF (x : Pl) (num : Nat) (k : Nat) : List Step := if k = num then stepsOf x num ++ (stepsOf x num).map (shS (stepsOf x num).length) else stepsOf x k
theorem dblF_dbl (x : Pl) {num : Nat} (hn : num < 2) : Dbl x (withS x (dblF x num)) num := by
  refine ⟨rfl, rfl, rfl, fun i hi hne => ?_, ?_⟩
  · rw [withS_steps x _ hi]; exact if_neg hne
  · rw [withS_steps x _ hn]; exact if_pos rfl
theorem dblF_ok {x : Pl} (hx : x.Ok) {num : Nat} (h9 : ∀ k, k < 2 → (stepsOf x k).length ≤ 9) (hn : num < 2) : (withS x (dblF x num)).Ok := by
  have all : ∀ k, k < 2 → StepsOk (dblF x num k) := fun k hk => by
    unfold dblF
    split
    · exact dblL_ok (steps_ok hx num) (by have := h9 num hn; omega)
    · exact steps_ok hx k
  exact ⟨hx.c3, hx.c12, hx.b3, hx.ha, hx.hb, hx.ne, all 0 (by decide), all 1 (by decide)⟩
end Sb

namespace Sb
open PySem PySem.Spec PyProof.Rows L2 HT
/-! ### t[::-1], t a tuple of two -/
section
variable {prog : Program} {w : World} {A : Around} {E : Value → Shared → Prop} {s : Shared}
theorem applied_back {sl : Addr} {t : Tok} {Q : Int × Int × Nat → Shared → Prop} (hs : s.heap.IsSliceOf sl .none .none (.int (-1) t)) (h : Q (1, -1, 2) s) : wpAny (model prog w) A (Builtin.Slice.sliceApplied (.ref sl) (pure (2 : Int))) Q E s := by
  obtain ⟨os, hos, hcs, hds⟩ := id hs
  unfold Builtin.Slice.sliceApplied Builtin.Slice.sliceFields
  refine wpAny_bind (wpAny_bind (wpAny_field hos hds (x := .none) rfl (wpAny_bind (wpAny_field hos hds (x := .none) rfl (wpAny_bind (wpAny_field hos hds (x := .int (-1) t) rfl (wpAny_pure ?_)))))))
  refine wpAny_bind (slicePart_int ?_)
  show wpAny _ _ (if ((-1 : Int) == 0) = true then _ else _) _ _ s
  rw [if_neg (by decide)]
  refine wpAny_bind (slicePart_none (wpAny_bind (slicePart_none (wpAny_bind (wpAny_pure ?_)))))
  exact wpAny_pure h
theorem getItem_back {t sl : Addr} {x y : Value} {u : Tok} {Q : Value → Shared → Prop} (ht : IsTup s.heap t #[x, y]) (hs : s.heap.IsSliceOf sl .none .none (.int (-1) u))
    (h : Q (.ref s.heap.objs.size) { s with heap := s.heap.push { cls := .type "tuple", data := .seq #[y, x] } }) : wpAny (model prog w) A (getItem (.ref t) (.ref sl)) Q E s := by
  obtain ⟨os, hos, hcs, hds⟩ := id hs
  have hTs : s.TypeIs (.ref sl) "slice" := ⟨os, hos, hcs⟩
  unfold getItem
  try with_reducible refine wpAny_holding ?_
  first | refine wpAny_bind (wpAny_pure ?_) | skip
  refine wpAny_bind (wpAny_sequenceKey ht.typeIs (by decide) ?_)
  refine wpAny_bind (wpAny_callSpecial?_slot (name := Str.ofString "__getitem__") ht.typeIs PyProof.Rows.slot_tuple_getitem (wpAny_call_entry PyProof.Rows.slot_tuple_getitem ht.typeIs entry_tuple_getitem ?_ (args_tuple_getitem _ _)))
  show wpAny _ _ (Builtin.Tuple.tupleItemsOf (.ref t) >>= _) _ _ s
  refine wpAny_bind (tupleItemsOf_ ht ?_)
  refine wpAny_bind (wpAny_typeOf hTs ?_)
  rw [if_pos (by decide)]
  refine wpAny_bind (applied_back hs ?_)
  show wpAny _ _ (if ((1 : Int) == 0 && (-1 : Int) == 1 && (2 : Nat) == 2) = true then _ else _) _ _ s
  rw [if_neg (by decide)]
  have e : ((List.range 2).filterMap fun (k : Nat) => (#[x, y] : Array Value)[((1 : Int) + (k : Int) * (-1)).toNat]?).toArray = #[y, x] := rfl
  rw [e]
  have hz : sizeOk (.seq #[y, x]) := by show 2 ≤ sizeLine; decide
  first
    | exact wpAny_bind (m := Builtin.Tuple.tupleExact _) (wpAny_newObj_type (wpAny_pure ⟨_, rfl, wpAny_pure h⟩) hz)
    | exact wpAny_bind (m := Builtin.Tuple.tupleExact _) (wpAny_newObj_type (wpAny_bind (wpAny_pure (wpAny_pure ⟨_, rfl, wpAny_pure h⟩))) hz)
    | exact wpAny_bind (wpAny_bind (m := Builtin.Tuple.tupleExact _) (wpAny_newObj_type (wpAny_pure (wpAny_pure ⟨_, rfl, wpAny_pure h⟩)) hz))
    | exact wpAny_bind (wpAny_bind (m := Builtin.Tuple.tupleExact _) (wpAny_newObj_type (wpAny_pure ⟨_, rfl, wpAny_pure h⟩) hz))
end
section
variable {X : Cx}
def tRevT (K : PySem.W.Frag) (te : TE) : TE := fun σ H Q => te σ H fun x H1 => ∃ a u v, x = .ref a ∧ SqT K H1 a [u, v] ∧ ∀ p, H1 p = none → Q (.ref p) (upd H1 p (.tup [v, u]))
theorem pe_revT {e : Expr} {te : TE} {k : Nat} {p1 p2 p3 pos : Pos} (he : PE X e te) : PE X (.Subscript e (.Slice none none (some (.UnaryOp .USub (.Constant (.int 1) k p1) p2)) p3) pos) (tRevT X.K te) := by
  refine ⟨fun pins s σ H Q I h => ?_⟩
  refine Subscript_ (thn (he.run pins s σ H _ I h) fun v s1 ⟨x, H1, I1, r1, q1⟩ => ?_)
  obtain ⟨a, u0, v0, ex, hx, q⟩ := q1
  subst ex
  cases r1
  have hst : PO X (some (.UnaryOp .USub (.Constant (.int 1) k p1) p2)) (tPart (tUn (rU fun i => .int (-i)) (tC (.int 1)))) := po_some (pe_un un_neg pe_int)
  refine wpAny_Slice ?_
  rw [evalPart_none]
  refine wpAny_pure (wpAny_pure ?_)
  refine thn (hst.run pins s1 σ H1 (fun o H4 => o = some (-1) ∧ H4 = H1) I1 ⟨1, rfl, -1, rfl, rfl, rfl⟩) fun vs s4 ⟨o, H4, I4, ps, eo, e4⟩ => ?_
  subst eo e4
  obtain ⟨tk, rfl⟩ : ∃ tk, vs = .int (-1) tk := by
    cases ps with
    | int i t => exact ⟨t, rfl⟩
  have I5 : Inv X pins σ H4 { s4 with heap := s4.heap.push { cls := .type "slice", data := .fields #[.none, .none, .int (-1) tk] } } := I4.kept (t' := s4.toks) fun b ob q => Heap.get?_push_of_some _ q
  obtain ⟨its, r, ht, hz⟩ := I5.tuple hx
  obtain ⟨w1, w2, rfl, r1, r2⟩ : ∃ w1 w2, its = [w1, w2] ∧ RelV u0 w1 ∧ RelV v0 w2 := by
    cases r with
    | cons p q => cases q with | cons p' q' => cases q'; exact ⟨_, _, rfl, p, p'⟩
  show wpAny (model X.prog X.w) X.A (subscriptTail e (.Slice none none (some (.UnaryOp .USub (.Constant (.int 1) k p1) p2)) p3) (.ref a) (.ref s4.heap.objs.size)) (EP X pins σ Q) X.xe { s4 with heap := s4.heap.push { cls := .type "slice", data := .fields #[.none, .none, .int (-1) tk] } }
  refine tail_any (ops := [.ref a, .ref s4.heap.objs.size]) ht.typeIs PyProof.Rows.slot_tuple_getitem.lookup ?_ (by with_unfolding_all rfl)
  refine getItem_back ht (Heap.IsSliceOf.new _ _ _ _) ?_
  refine ⟨.ref _, _, I5.laid (t' := s4.toks) (o := .tup [v0, u0]) (fun b ob q => Heap.get?_push_of_some _ q) (Nat.le_refl _) ?_, rfl, q _ (I5.hok.fresh (Nat.le_refl _))⟩
  exact ⟨by show 2 ≤ sizeLine; decide, [w2, w1], .cons r2 (.cons r1 .nil), IsTup.new _ _⟩
end
end Sb

namespace Sb
open PySem PySem.Spec PyProof.Rows L2
theorem eqv_nats : ∀ l m : List Nat, PyData.eqvAll (l.map natD) (m.map natD) = decide (l = m)
  | [], [] => rfl
  | [], _ :: _ => rfl
  | _ :: _, [] => rfl
  | a :: l, b :: m => by
    show (PyData.eqv (natD a) (natD b) && PyData.eqvAll (l.map natD) (m.map natD)) = _
    rw [eqv_nats l m]
    have e : PyData.eqv (natD a) (natD b) = decide (a = b) := by
      show ((a : Int) == (b : Int)) = decide (a = b)
      by_cases h : a = b
      · subst h; simp
      · rw [decide_eq_false h]
        exact beq_eq_false_iff_ne.mpr fun z => h (by omega)
    rw [e, ← Bool.decide_and, decide_eq_decide]
    exact ⟨fun z => by rw [z.1, z.2], fun z => by injection z with z1 z2; exact ⟨z1, z2⟩⟩
/-- the robots or the boxes are elsewhere after this tick -/
def neB (x z : Pl) (t : Nat) : Bool := !decide ((sitAt x (t + 1)).cs = (sitAt z (t + 1)).cs ∧ (sitAt x (t + 1)).sh = (sitAt z (t + 1)).sh)
theorem neB_cs (x z : Pl) (t : Nat) : (!PyData.eqv (csD x t) (csD z t)) = neB x z t := by
  show (!(PyData.eqvAll ((sitAt x (t + 1)).cs.map natD) ((sitAt z (t + 1)).cs.map natD) && (PyData.eqvAll ((sitAt x (t + 1)).sh.map natD) ((sitAt z (t + 1)).sh.map natD) && true))) = _
  rw [eqv_nats, eqv_nats, Bool.and_true, ← Bool.decide_and]
  rfl
def stD (x : Pl) (t : Nat) : PyData := .tuple [natsT (sitAt x (t + 1)).cs, natsD (sitAt x (t + 1)).sh]
theorem neB_st (x z : Pl) (t : Nat) : (!PyData.eqv (stD x t) (stD z t)) = neB x z t := by
  show (!(PyData.eqvAll ((sitAt x (t + 1)).cs.map natD) ((sitAt z (t + 1)).cs.map natD) && (PyData.eqvAll ((sitAt x (t + 1)).sh.map natD) ((sitAt z (t + 1)).sh.map natD) && true))) = _
  rw [eqv_nats, eqv_nats, Bool.and_true, ← Bool.decide_and]
  rfl
theorem neB_comm (x z : Pl) (t : Nat) : neB x z t = neB z x t := by
  unfold neB
  congr 1
  rw [decide_eq_decide]
  exact ⟨fun h => ⟨h.1.symm, h.2.symm⟩, fun h => ⟨h.1.symm, h.2.symm⟩⟩
theorem diff_eq (x z : Pl) (b : Nat) : diffP x z b = (List.range b).find? (neB x z) := by
  unfold diffP
  congr 1
  exact funext fun t => neB_cs x z t
theorem diff_comm (x z : Pl) (b : Nat) : diffP x z b = diffP z x b := by
  rw [diff_eq, diff_eq]
  congr 1
  exact funext fun t => neB_comm x z t
theorem sit_mult {x : Pl} {i n M : Nat} (c : Cyc x i n) (hM : (n - i) ∣ M) {t : Nat} (ht : i ≤ t) : sitAt x (t + M) = sitAt x t := by
  obtain ⟨r, rfl⟩ := hM
  rw [Nat.mul_comm]
  exact sit_far c ht r
/-- what does not differ so far never does -/
theorem ne_ever {x z : Pl} {i n i2 n2 M : Nat} (c : Cyc x i n) (c2 : Cyc z i2 n2) (h1 : (n - i) ∣ M) (h2 : (n2 - i2) ∣ M) (hp : 0 < M) (h : ∀ t, t < max i i2 + M → neB x z t = false) : ∀ t, neB x z t = false := fun t => by
  induction t using Nat.strongRecOn with
  | ind t ih =>
    rcases Nat.lt_or_ge t (max i i2 + M) with q | q
    · exact h t q
    · have e1 := sit_mult c h1 (t := t - M + 1) (by omega)
      have e2 := sit_mult c2 h2 (t := t - M + 1) (by omega)
      have := ih (t - M) (by omega)
      unfold neB at this ⊢
      rw [← e1, ← e2, show t - M + 1 + M = t + 1 by omega] at this
      exact this
/-- the first one, or none at all -/
theorem diff_first {x z : Pl} {i n i2 n2 M : Nat} (c : Cyc x i n) (c2 : Cyc z i2 n2) (h1 : (n - i) ∣ M) (h2 : (n2 - i2) ∣ M) (hp : 0 < M) :
    (diffP x z (max i i2 + M) = none ∧ ∀ t, neB x z t = false) ∨ ∃ f, diffP x z (max i i2 + M) = some f ∧ f < max i i2 + M ∧ neB x z f = true ∧ ∀ t, t < f → neB x z t = false := by
  rw [diff_eq]
  cases e : (List.range (max i i2 + M)).find? (neB x z) with
  | none =>
    refine .inl ⟨rfl, ne_ever c c2 h1 h2 hp fun t ht => ?_⟩
    rw [List.find?_eq_none] at e
    simpa using e t (List.mem_range.mpr ht)
  | some f =>
    rw [List.find?_range_eq_some] at e
    exact .inr ⟨f, rfl, List.mem_range.mp e.2.1, e.1, fun t ht => by simpa using e.2.2 t ht⟩
def FD (x z : Pl) : Option Nat → Prop
  | none => ∀ t, neB x z t = false
  | some f => neB x z f = true ∧ ∀ t, t < f → neB x z t = false
theorem diff_FD {x z : Pl} {i n i2 n2 M : Nat} (c : Cyc x i n) (c2 : Cyc z i2 n2) (h1 : (n - i) ∣ M) (h2 : (n2 - i2) ∣ M) (hp : 0 < M) : FD x z (diffP x z (max i i2 + M)) := by
  rcases diff_first c c2 h1 h2 hp with ⟨e, h⟩ | ⟨f, e, _, h3, h4⟩
  · rw [e]; exact h
  · rw [e]; exact ⟨h3, h4⟩
theorem FD_uniq {x z : Pl} {o p : Option Nat} (h : FD x z o) (q : FD x z p) : o = p := by
  cases o with
  | none => cases p with
    | none => rfl
    | some f => have := q.1; rw [h f] at this; cases this
  | some e => cases p with
    | none => have := h.1; rw [q e] at this; cases this
    | some f =>
      rcases Nat.lt_trichotomy e f with l | l | l
      · have := h.1; rw [q.2 e l] at this; cases this
      · rw [l]
      · have := q.1; rw [h.2 f l] at this; cases this
theorem FD_comm {x z : Pl} {o : Option Nat} (h : FD z x o) : FD x z o := by
  cases o with
  | none => exact fun t => by rw [neB_comm]; exact h t
  | some f => exact ⟨by rw [neB_comm]; exact h.1, fun t ht => by rw [neB_comm]; exact h.2 t ht⟩
theorem neB_self (x : Pl) (t : Nat) : neB x x t = false := by
  unfold neB
  simp
theorem FD_self {x : Pl} {o : Option Nat} (h : FD x x o) : o = none := FD_uniq h (fun t => neB_self x t)
theorem filt_head {f : Nat → Bool} {n j : Nat} (hj : j < n) (hf : f j = true) (h : ∀ m, m < j → f m = false) : ∃ r, (List.range n).filter f = j :: r := by
  have e : List.range n = List.range j ++ (j :: (List.range n).drop (j + 1)) := by
    have := List.take_append_drop j (List.range n)
    rw [List.take_range, Nat.min_eq_left (by omega), List.drop_eq_getElem_cons (by rw [List.length_range]; exact hj), List.getElem_range] at this
    exact this.symm
  refine ⟨((List.range n).drop (j + 1)).filter f, ?_⟩
  conv => lhs; rw [e]
  rw [List.filter_append, List.filter_cons_of_pos hf]
  have : (List.range j).filter f = [] := by
    rw [List.filter_eq_nil_iff]
    intro a ha
    rw [h a (List.mem_range.mp ha)]
    decide
  rw [this]
  rfl
theorem filt_nil {f : Nat → Bool} {n : Nat} (h : ∀ m, m < n → f m = false) : (List.range n).filter f = [] := by
  rw [List.filter_eq_nil_iff]
  intro a ha
  rw [h a (List.mem_range.mp ha)]
  decide
/-- the head of a filtered range is what find? finds -/
theorem filt_find (f : Nat → Bool) (n : Nat) : ((List.range n).filter f).head? = (List.range n).find? f := by
  cases e : (List.range n).find? f with
  | none =>
    rw [List.find?_eq_none] at e
    rw [filt_nil fun m hm => by simpa using e m (List.mem_range.mpr hm)]
    rfl
  | some j =>
    rw [List.find?_range_eq_some] at e
    obtain ⟨r, hr⟩ := filt_head (List.mem_range.mp e.2.1) e.1 fun m hm => by simpa using e.2.2 m hm
    rw [hr]
    rfl
/-! ### the logs -/
theorem find_congr {f g : Nat → Bool} {n : Nat} (h : ∀ m, m < n → f m = g m) : (List.range n).find? f = (List.range n).find? g := by
  cases e : (List.range n).find? g with
  | none =>
    rw [List.find?_eq_none] at e
    exact find_none fun m hm => by rw [h m hm]; simpa using e m (List.mem_range.mpr hm)
  | some j =>
    rw [List.find?_range_eq_some] at e
    have hj := List.mem_range.mp e.2.1
    exact find_some hj (fun m hm => by rw [h m (by omega)]; simpa using e.2.2 m hm) (by rw [h j hj]; exact e.1)
theorem words_at (z : Pl) {n m : Nat} (hm : m < n) : (wordsL z 0 n).getD m .none = wordsD (wordsAt z m) := by
  unfold wordsL
  rw [List.getD_eq_getElem?_getD, List.getElem?_map, List.getElem?_range hm]
  show wordsD (wordsAt z (0 + m)) = _
  rw [Nat.zero_add]
def partB (x z : Pl) (j : Nat) : Bool := !PyData.eqv (wordsD (wordsAt x j)) (wordsD (wordsAt z j))
theorem err_words {x z : Pl} {n : Nat} : errP x (wordsL z 0 n) = (List.range n).find? (partB x z) := by
  unfold errP
  rw [show (wordsL z 0 n).length = n by unfold wordsL; rw [List.length_map, List.length_range]]
  refine find_congr fun m hm => ?_
  rw [words_at z hm, PySem.W.eqv_comm]
  rfl
theorem part_self {x : Pl} (hx : x.Ok) (j : Nat) : partB x x j = false := by
  have h : ∀ a b : _root_.Fin 9, PyData.eqv (wordsD (a.val, b.val)) (wordsD (a.val, b.val)) = true := by decide +kernel
  have w := words_le hx j
  unfold partB
  rw [show PyData.eqv (wordsD (wordsAt x j)) (wordsD (wordsAt x j)) = true from h ⟨(wordsAt x j).1, by omega⟩ ⟨(wordsAt x j).2, by omega⟩]
  rfl
def badD : PyData := .tuple [.str "wait", .str "hop"]
theorem err_bad {x : Pl} (hx : x.Ok) {n a : Nat} (ha : a < n) : errP x ((wordsL x 0 n).take a ++ [badD] ++ (wordsL x 0 n).drop (a + 1)) = some a := by
  have ln : (wordsL x 0 n).length = n := by unfold wordsL; rw [List.length_map, List.length_range]
  have lt : ((wordsL x 0 n).take a).length = a := by rw [List.length_take, ln]; omega
  refine find_some ?_ (fun m hm => ?_) ?_
  · rw [List.length_append, List.length_append, lt, List.length_singleton]; omega
  · have e : (((wordsL x 0 n).take a ++ [badD] ++ (wordsL x 0 n).drop (a + 1)).getD m .none) = wordsD (wordsAt x m) := by
      rw [List.append_assoc, List.getD_eq_getElem?_getD, List.getElem?_append_left (by omega), List.getElem?_take_of_lt hm, ← List.getD_eq_getElem?_getD]
      exact words_at x (by omega)
    rw [e]
    exact part_self hx m
  · have e : (((wordsL x 0 n).take a ++ [badD] ++ (wordsL x 0 n).drop (a + 1)).getD a .none) = badD := by
      rw [List.append_assoc, List.getD_eq_getElem?_getD, List.getElem?_append_right (by omega), lt, Nat.sub_self]
      rfl
    rw [e]
    have h : ∀ a b : _root_.Fin 9, (!PyData.eqv badD (wordsD (a.val, b.val))) = true := by decide +kernel
    have w := words_le hx a
    exact h ⟨(wordsAt x a).1, by omega⟩ ⟨(wordsAt x a).2, by omega⟩
end Sb

namespace Sb
open PySem PySem.Spec PyProof.Rows L2 TL LamX NdefX
structure spOther (K : PySem.W.Frag) (vs : List V) (H : Hp) (Q : VK) (E : XK) : Prop where
  ex : ∃ (d : Addr) (G : Hp) (v : V) (x : Pl), vs = [.ref d, v] ∧ Dp K G v x.D ∧ x.Ok ∧ (∀ k, k < 2 → (stepsOf x k).length ≤ 9) ∧ Drawn d G H Q fun G' u => ∃ z : Pl, z.Ok ∧ Dp K G' u z.D ∧ z.shelf.length = x.shelf.length
theorem dp_set {K : PySem.W.Frag} {G : Hp} : ∀ {vs : List V} {ds : List PyData} {k : Nat} {v : V} {d : PyData}, DpAll K G vs ds → Dp K G v d → DpAll K G (vs.set k v) (ds.set k d)
  | _, _, _, _, _, .nil, _ => .nil
  | _, _, 0, _, _, .cons _ r, h => .cons h r
  | _, _, _ + 1, _, _, .cons a r, h => .cons a (dp_set r h)
theorem wait_ok {l : List Step} (h : StepsOk l) (k : Nat) : StepsOk (l.set k ⟨4, none⟩) := by
  refine ⟨by rw [List.length_set]; exact h.pos, by rw [List.length_set]; exact h.le, fun s hs => ?_⟩
  rw [List.length_set]
  rcases List.mem_or_eq_of_mem_set hs with q | rfl
  · exact h.all s q
  · exact ⟨by show (4 : Nat) < 8; decide, fun _ => rfl, fun q => absurd (show 5 ≤ 4 from q) (by decide)⟩
section
variable {P : Program} {w : World} {K : PySem.W.Frag} {mg : Str → Option Value} {base : Heap} {a : Ad}
theorem ok_l_other (T : Txt K mg a) : FnOk P w K mg base CX0 3 a.f_l_other a.d_l_other ["_law_d", "_law_first"] (spOther K) := by
  refine T.F_l_other.ok sc_l_other (fun vs H Q E h => ?_) (fun cdv A outer s H vs Q E hr h => ?_)
  · obtain ⟨⟨d, G, v, x, rfl, _⟩⟩ := h
    rfl
  · obtain ⟨⟨d, G, v, x, rfl, hD, hx, h9, hN, k⟩⟩ := h
    refine ⟨_, (pss_cons (ps_asg (pv 1) (pg_tup (by rfl) (pgs_cons (pg_name (i := 2) sc_l_other.nd rfl (Or.inl rfl)) (pgs_cons (pg_name (i := 3) sc_l_other.nd rfl (Or.inl rfl)) (pgs_cons (pg_name (i := 4) sc_l_other.nd rfl (Or.inl rfl)) pgs_nil)))))
      (pss_cons (ps_par (i := 5) (j := 6) (by rfl) sc_l_other.nd rfl rfl (by decide) rfl rfl (pa_cons (pe_call (ok_l_below T) (hr.mono (by decide)) rfl T.m_l_below T.F_l_below.kp (b_l_below T) .nil pass0 (pa_cons (pv 0) (pa_cons pe_int pa_nil))) (pa_cons (pe_lc (own := [("_law_steps_here", 7)]) (g := gName 7) (te := (tCB (fun xs H Q => ∃ p ys, xs = [.ref p] ∧ (SqL K H p ys ∨ SqT K H p ys) ∧ ∀ l, H l = none → Q (.ref l) (upd H l (.lst ys))) (tCons (tVar 7) tNil))) (tt := tYes) rfl sc_l_other.nd (pi_list (pv 4)) (blkOk_by (own := [("_law_steps_here", 7)]) (N := ["_law_d", "_law_first", "_law_shelf", "_law_starts", "_law_both", "_law_kind", "_law_changed", "_law_steps_here", "_law_number", "_law_at"]) (sc := (defScope s_l_other)) (by decide +kernel)) (fun _ _ _ _ _ => (pg_name (i := 7) sc_l_other.nd rfl (Or.inl rfl))) (fun _ _ _ _ _ => pts_nil) (fun _ _ _ _ _ => by exact (pe_callTy call_list_of (by rfl) T.z_list (by decide +kernel) (pa_cons (pv 7) pa_nil)))) pa_nil)) (by rfl))
      (pss_cons (ps_set (i := 8) sc_l_other.nd rfl (Or.inl rfl) (pe_call (ok_l_below T) (hr.mono (by decide)) rfl T.m_l_below T.F_l_below.kp (b_l_below T) .nil pass0 (pa_cons (pv 0) (pa_cons pe_int pa_nil))))
      (pss_cons (ps_if (pt_cmpR op_eq (pv 5) pe_int (nomark _)) (pss_one (ps_asg (pe_call (ok_l_doubled T) (hr.mono (by decide)) rfl T.m_l_doubled T.F_l_doubled.kp (b_l_doubled T) .nil pass0 (pa_cons (pe_ix ix_list (pv 6) (pv 8) (fun _ _ => rfl)) pa_nil)) (pg_sub (pv 6) (pv 8) set_list))) pss_nil)
      (pss_cons (ps_if (pt_cmpR op_eq (pv 5) pe_int (nomark _)) (pss_cons (ps_set (i := 9) sc_l_other.nd rfl (Or.inl rfl) (pe_call (ok_l_below T) (hr.mono (by decide)) rfl T.m_l_below T.F_l_below.kp (b_l_below T) .nil pass0 (pa_cons (pv 0) (pa_cons (pe_callB call_len_seq (by rfl) T.z_len (by decide +kernel) (pa_cons (pe_ix ix_list (pv 6) (pv 8) (fun _ _ => rfl)) pa_nil)) pa_nil))))
      (pss_one (ps_asg (pe_tup (pa_cons pe_str (pa_cons pe_non pa_nil))) (pg_sub (pe_ix ix_list (pv 6) (pv 8) (fun _ _ => rfl)) (pv 9) set_list)))) pss_nil)
      (pss_cons (ps_if (pt_cmpR op_eq (pv 5) pe_int (nomark _)) (pss_cons (ps_set (i := 9) sc_l_other.nd rfl (Or.inl rfl) (pe_call (ok_l_below T) (hr.mono (by decide)) rfl T.m_l_below T.F_l_below.kp (b_l_below T) .nil pass0 (pa_cons (pv 0) (pa_cons (pe_callB call_len_seq (by rfl) T.z_len (by decide +kernel) (pa_cons (pv 2) pa_nil)) pa_nil))))
      (pss_one (ps_set (i := 2) sc_l_other.nd rfl (Or.inl rfl) (pe_op op_catA (pe_op op_catA (pe_slice sl_tupA (pv 2) po_none (po_some (pv 9))) (pe_tup (pa_cons (pe_call (ok_l_below T) (hr.mono (by decide)) rfl T.m_l_below T.F_l_below.kp (b_l_below T) .nil pass0 (pa_cons (pv 0) (pa_cons pe_int pa_nil))) pa_nil))) (pe_slice sl_tupA (pv 2) (po_some (pe_op op_add (pv 9) pe_int)) po_none))))) pss_nil)
      (pss_cons (ps_if (pt_cmpR op_eq (pv 5) pe_int (nomark _)) (pss_one (ps_set (i := 3) sc_l_other.nd rfl (Or.inl rfl) (pe_revT (pv 3)))) pss_nil)
      (pss_one (ps_ret (pe_tup (pa_cons (pv 2) (pa_cons (pv 3) (pa_cons (pv 6) pa_nil))))))))))))), ?_⟩
    obtain ⟨pt, sh, st, bo, l1, l2, xs1, xs2, rfl, hpt, hsh, hst, hbo, hl1, hl2, hxs1, hxs2⟩ := plan_inv hD
    have B0 := hN.at
    refine ⟨_, rfl, pt, _, rfl, Same.seqT B0.now.s hpt, rfl, _, _, rfl, _, _, rfl, _, _, rfl, rfl, ?_⟩
    refine ⟨_, rfl, draw_go B0 (by decide) (by decide) fun H1 kd B1 K1 hkd => ?_⟩
    refine ⟨_, rfl, bo, rfl, ⟨_, B1.now.s.seq hbo⟩, fun D hD' => ?_⟩
    have D0 : H D = none := B1.ext.k _ hD'
    have DG : G D = none := Same.free B1.now.s hD'
    have Dd : D ≠ d := B1.ne hD'
    refine lc_list (K := K) (a := bo) (xs := [.ref l1, .ref l2]) (fun j H' => ∃ bs : List Addr, At d G H G H' ∧ bs.length = j ∧ bs.Nodup ∧ H' D = some (.lst (bs.map V.ref)) ∧ ∀ k b, bs[k]? = some b → H' b = some (.lst (if k = 0 then xs1 else xs2)) ∧ b ≠ D ∧ b ≠ d ∧ G b = none ∧ H b = none) ⟨[], B1.lay hD' _, rfl, .nil, upd_same, fun k b e => by cases e⟩ (fun j H' _ ⟨_, B, _⟩ => B.now.s.seq hbo) ?_ ?_
    · rintro j y H' hy ⟨bs, B, hbl, hnd, hDD, hall⟩
      obtain ⟨lk, xk, rfl, hlk, exk⟩ : ∃ (lk : Addr) (xk : List V), y = .ref lk ∧ SqL K G lk xk ∧ xk = (if j = 0 then xs1 else xs2) := by
        match j, hy with
        | 0, hy => exact ⟨l1, xs1, (Option.some.inj hy).symm, hl1, rfl⟩
        | 1, hy => exact ⟨l2, xs2, (Option.some.inj hy).symm, hl2, rfl⟩
        | j + 2, hy => simp at hy
      have hj2 : j < 2 := (List.getElem?_eq_some_iff.mp hy).1
      refine ⟨rfl, _, rfl, lk, _, rfl, .inl (B.now.s.seq hlk), fun b hb => ?_⟩
      have bD : D ≠ b := ne_of_none hDD hb
      have C := B.lay hb (.lst xk)
      refine ⟨_, by rw [upd_ne bD]; exact hDD, smaller 2 (by rw [List.length_map]; omega) (by decide), bs ++ [b], C.put D0 DG Dd _, by rw [List.length_append, hbl]; rfl, ?_, by rw [upd_same, List.map_append]; rfl, fun k c e => ?_⟩
      · rw [List.nodup_append]
        refine ⟨hnd, by simp, fun u hu v hv e => ?_⟩
        rw [List.mem_singleton.mp hv] at e
        subst e
        obtain ⟨k, hk⟩ := List.mem_iff_getElem?.mp hu
        have := (hall k _ hk).1
        rw [hb] at this
        cases this
      · by_cases hk : k < bs.length
        · rw [List.getElem?_append_left hk] at e
          obtain ⟨h1, h2, h3, h4, h5⟩ := hall k c e
          exact ⟨by rw [upd_ne h2, upd_ne (ne_of_none h1 hb)]; exact h1, h2, h3, h4, h5⟩
        · rw [List.getElem?_append_right (by omega)] at e
          have hk0 : k - bs.length = 0 := by
            rcases Nat.eq_zero_or_pos (k - bs.length) with q | q
            · exact q
            · rw [List.getElem?_eq_none (by show 1 ≤ _; omega)] at e; cases e
          rw [hk0] at e
          cases e
          have ekj : k = j := by omega
          rw [ekj, ← exk]
          exact ⟨by rw [upd_ne bD.symm, upd_same], bD.symm, B.ne hb, Same.free B.now.s hb, B.ext.k _ hb⟩
    rintro H2 ⟨bs, B2, hbl, hnd, hDD, hall⟩
    obtain ⟨bb, ebs, hb⟩ : ∃ bb : Nat → Addr, bs = [bb 0, bb 1] ∧ ∀ k, k < 2 → H2 (bb k) = some (.lst (if k = 0 then xs1 else xs2)) ∧ bb k ≠ D ∧ bb k ≠ d ∧ G (bb k) = none ∧ H (bb k) = none := by
      match bs, hbl, hall with
      | [p, q], _, hall =>
        refine ⟨fun k => if k = 0 then p else q, rfl, fun k hk => ?_⟩
        match k, hk with
        | 0, _ => exact hall 0 p rfl
        | 1, _ => exact hall 1 q rfl
    have bne : bb 0 ≠ bb 1 := by
      rw [ebs] at hnd
      have := (List.nodup_cons.mp hnd).1
      exact fun e => this (by rw [e]; exact List.mem_cons_self)
    rw [ebs] at hDD
    refine ⟨_, _, rfl, ?_⟩
    dsimp only
    refine ⟨_, rfl, draw_go B2 (by decide) (by decide) fun H3 num B3 K3 hnum' => ?_⟩
    have hnum : num < 2 := by omega
    have hDD3 : H3 D = some (.lst [.ref (bb 0), .ref (bb 1)]) := by rw [K3 D Dd]; exact hDD
    have hb3 : ∀ k, k < 2 → H3 (bb k) = some (.lst (if k = 0 then xs1 else xs2)) := fun k hk => by rw [K3 _ (hb k hk).2.2.1]; exact (hb k hk).1
    -- the end
    have fin : ∀ {G' H' : Hp} {shv stv u0 u1 : V} {z : Pl}, At d G H G' H' → G' D = none → H' D = some (.lst [u0, u1]) → Dp K G' shv (.tuple (z.shelf.map natD)) → Dp K G' stv (.tuple [natD z.a, natD z.b]) → Dp K G' u0 (stepsD z.p) → Dp K G' u1 (stepsD z.q) → z.Ok → z.shelf.length = x.shelf.length →
        ∀ p, H' p = none → Q (.ref p) (upd H' p (.tup [shv, stv, .ref D])) := fun {G' H' shv stv u0 u1 z} C cG cD e1 e2 e3 e4 zok zl p hp => by
      have C1 := C.freeze D0 cD Dd
      have g1 := same_new (H := G') (p := D) (o := .lst [u0, u1]) cG
      have C2 := C1.new hp (.tup [shv, stv, .ref D])
      have g2 := same_new (o := .tup [shv, stv, .ref D]) (Same.free C1.now.s hp)
      have g := g1.trans g2
      refine k _ _ _ C2 ⟨z, zok, ?_, zl⟩
      exact .tup (SqT.of upd_same) (.cons (Dp.mono g _ _ e1) (.cons (Dp.mono g _ _ e2) (.cons (.lst (g2.seq (SqL.of upd_same)) (.cons (Dp.mono g _ _ e3) (.cons (Dp.mono g _ _ e4) .nil))) .nil)))
    have dsh : Dp K G (.ref sh) (.tuple (x.shelf.map natD)) := .tup hsh (nats_D' _)
    have dst : Dp K G (.ref st) (.tuple [natD x.a, natD x.b]) := .tup hst (.cons (.int _) (.cons (.int _) .nil))
    have hbat : ([V.ref (bb 0), V.ref (bb 1)] : List V)[num]? = some (.ref (bb num)) := by
      match num, hnum with
      | 0, _ => rfl
      | 1, _ => rfl
    have e0 := hb3 0 (by decide)
    have e1 := hb3 1 (by decide)
    rw [if_pos rfl] at e0
    rw [if_neg (by decide)] at e1
    obtain ⟨_, b0D, b0d, b0G, b0H⟩ := hb 0 (by decide)
    obtain ⟨_, b1D, b1d, b1G, b1H⟩ := hb 1 (by decide)
    -- both lists stand
    have B4 := (B3.freeze b0H e0 b0d).freeze b1H e1 b1d
    have g0 := same_new (H := G) (p := bb 0) (o := .lst xs1) b0G
    have g4 := g0.trans (same_new (H := upd G (bb 0) (.lst xs1)) (p := bb 1) (o := .lst xs2) (by rw [upd_ne bne.symm]; exact b1G))
    have d0 : Dp K (upd (upd G (bb 0) (.lst xs1)) (bb 1) (.lst xs2)) (.ref (bb 0)) (stepsD x.p) := .lst (SqL.of (by rw [upd_ne bne, upd_same])) (Dp.monoAll g4 _ _ hxs1)
    have d1 : Dp K (upd (upd G (bb 0) (.lst xs1)) (bb 1) (.lst xs2)) (.ref (bb 1)) (stepsD x.q) := .lst (SqL.of upd_same) (Dp.monoAll g4 _ _ hxs2)
    have DG4 : (upd (upd G (bb 0) (.lst xs1)) (bb 1) (.lst xs2)) D = none := by rw [upd_ne b1D.symm, upd_ne b0D.symm]; exact DG
    revert B4 g4 d0 d1 DG4
    generalize upd (upd G (bb 0) (.lst xs1)) (bb 1) (.lst xs2) = G4
    intro B4 g4 d0 d1 DG4
    match kd, hkd with
    | 0, _ =>
      refine ⟨_, rfl, rfl, _, rfl, ite_t (decide_eq_true rfl) ?_⟩
      have dk : Dp K G4 (.ref (bb num)) (stepsD (stepsOf x num)) := by
        match num, hnum with
        | 0, _ => exact d0
        | 1, _ => exact d1
      refine ⟨_, rfl, _, rfl, D, _, _, .ref (bb num), rfl, rfl, SqL.of hDD3, at_of (j := num) rfl hbat, ⟨⟨G4, .ref (bb num), stepsOf x num, rfl, dk, by have := h9 num hnum; omega, B4.now.s, fun G5 H5 u x5 s5 d5 => ?_⟩⟩⟩
      have C5 := B4.pure x5 s5
      have hD5 := s5 _ _ hDD3
      have DG5 : G5 D = none := x5.out DG4 hDD3
      refine ⟨_, rfl, _, rfl, D, _, (num : Int), num, rfl, rfl, hD5, ixN_nat (by show num < 2; exact hnum), ?_⟩
      have C6 := C5.put D0 DG5 Dd (.lst (([.ref (bb 0), .ref (bb 1)] : List V).set num u))
      refine ⟨_, rfl, rfl, _, rfl, ite_f (decide_eq_false fun z => by cases z) ?_⟩
      refine ⟨_, rfl, rfl, _, rfl, ite_f (decide_eq_false fun z => by cases z) ?_⟩
      refine ⟨_, rfl, rfl, _, rfl, ite_f (decide_eq_false fun z => by cases z) ?_⟩
      refine ⟨_, rfl, _, rfl, _, rfl, (by show 3 ≤ sizeLine; decide), fun p hp => ?_⟩
      have oky := dblF_ok hx h9 hnum
      match num, hnum with
      | 0, _ => exact fin (z := withS x (dblF x 0)) C6 DG5 upd_same (Dp.mono (g4.trans x5.g) _ _ dsh) (Dp.mono (g4.trans x5.g) _ _ dst) d5 (Dp.mono x5.g _ _ d1) oky rfl p hp
      | 1, _ => exact fin (z := withS x (dblF x 1)) C6 DG5 upd_same (Dp.mono (g4.trans x5.g) _ _ dsh) (Dp.mono (g4.trans x5.g) _ _ dst) (Dp.mono x5.g _ _ d0) d5 oky rfl p hp
    | 1, _ =>
      refine ⟨_, rfl, rfl, _, rfl, ite_f (decide_eq_false fun z => by cases z) ?_⟩
      refine ⟨_, rfl, rfl, _, rfl, ite_t (decide_eq_true rfl) ?_⟩
      obtain ⟨XS, hXS, hXH⟩ : ∃ XS : Nat → List V, (∀ k, k < 2 → DpAll K G (XS k) ((stepsOf x k).map Step.D)) ∧ ∀ k, k < 2 → H3 (bb k) = some (.lst (XS k)) := ⟨fun k => if k = 0 then xs1 else xs2, fun k hk => by
        match k, hk with
        | 0, _ => exact hxs1
        | 1, _ => exact hxs2, hb3⟩
      have lXS : (XS num).length = (stepsOf x num).length := by rw [DpAll.len (hXS num hnum), List.length_map]
      have lpos := (steps_ok hx num).pos
      have l9 := h9 num hnum
      obtain ⟨_, bD, bd, bG, bH⟩ := hb num hnum
      refine ⟨_, rfl, _, rfl, _, rfl, D, _, _, .ref (bb num), rfl, rfl, SqL.of hDD3, at_of (j := num) rfl hbat, bb num, _, rfl, .inl (SqL.of (hXH num hnum)), ?_⟩
      rw [lXS]
      refine draw_go B3 (by omega) (by omega) fun H5 at5 C5 K5 hat' => ?_
      have hat : at5 < (stepsOf x num).length := by omega
      have hD5 : H5 D = some (.lst [.ref (bb 0), .ref (bb 1)]) := by rw [K5 D Dd]; exact hDD3
      have hX5 : ∀ k, k < 2 → H5 (bb k) = some (.lst (XS k)) := fun k hk => by rw [K5 _ (hb k hk).2.2.1]; exact hXH k hk
      refine ⟨(by show 2 ≤ sizeLine; decide), fun tp htp => ?_⟩
      have C6 := C5.new htp (.tup [.str "wait", .non])
      have g6 := same_new (o := .tup [.str "wait", .non]) (Same.free C5.now.s htp)
      have tD : D ≠ tp := ne_of_none hD5 htp
      have tb : ∀ k, k < 2 → bb k ≠ tp := fun k hk => ne_of_none (hX5 k hk) htp
      refine ⟨_, rfl, _, rfl, D, _, _, .ref (bb num), rfl, rfl, SqL.of (by rw [upd_ne tD]; exact hD5), at_of (j := num) rfl hbat, _, rfl, bb num, XS num, (at5 : Int), at5, rfl, rfl, by rw [upd_ne (tb num hnum)]; exact hX5 num hnum, ixN_nat (by rw [lXS]; exact hat), ?_⟩
      have bG6 : ∀ k, k < 2 → (upd G tp (.tup [.str "wait", .non])) (bb k) = none := fun k hk => by rw [upd_ne (tb k hk)]; exact (hb k hk).2.2.2.1
      have C7 := C6.put bH (bG6 num hnum) bd (.lst ((XS num).set at5 (.ref tp)))
      have hX7 : ∀ k, k < 2 → (upd (upd H5 tp (.tup [.str "wait", .non])) (bb num) (.lst ((XS num).set at5 (.ref tp)))) (bb k) = some (.lst (if k = num then (XS num).set at5 (.ref tp) else XS k)) := fun k hk => by
        by_cases ek : k = num
        · subst ek
          rw [upd_same, if_pos rfl]
        · have bk : bb k ≠ bb num := by
            have ek' : (k = 0 ∧ num = 1) ∨ (k = 1 ∧ num = 0) := by omega
            rcases ek' with ⟨rfl, rfl⟩ | ⟨rfl, rfl⟩
            · exact bne
            · exact bne.symm
          rw [upd_ne bk, upd_ne (tb k hk), if_neg ek]
          exact hX5 k hk
      have hD7 : (upd (upd H5 tp (.tup [.str "wait", .non])) (bb num) (.lst ((XS num).set at5 (.ref tp)))) D = some (.lst [.ref (bb 0), .ref (bb 1)]) := by rw [upd_ne bD.symm, upd_ne tD]; exact hD5
      have dX : ∀ k, k < 2 → DpAll K (upd G tp (.tup [.str "wait", .non])) (if k = num then (XS num).set at5 (.ref tp) else XS k) ((if k = num then (stepsOf x num).set at5 ⟨4, none⟩ else stepsOf x k).map Step.D) := fun k hk => by
        by_cases ek : k = num
        · subst ek
          rw [if_pos rfl, if_pos rfl, List.map_set]
          exact dp_set (Dp.monoAll g6 _ _ (hXS k hk)) (.tup (SqT.of upd_same) (.cons (.str _) (.cons .non .nil)))
        · rw [if_neg ek, if_neg ek]
          exact Dp.monoAll g6 _ _ (hXS k hk)
      have DG6 : (upd G tp (.tup [.str "wait", .non])) D = none := by rw [upd_ne tD]; exact DG
      revert g6 bG6 C7 hX7 hD7 dX DG6
      generalize upd (upd H5 tp (.tup [.str "wait", .non])) (bb num) (.lst ((XS num).set at5 (.ref tp))) = H7
      generalize upd G tp (.tup [.str "wait", .non]) = G6
      intro g6 bG6 C7 hX7 hD7 dX DG6
      refine ⟨_, rfl, rfl, _, rfl, ite_f (decide_eq_false fun z => by cases z) ?_⟩
      refine ⟨_, rfl, rfl, _, rfl, ite_f (decide_eq_false fun z => by cases z) ?_⟩
      refine ⟨_, rfl, _, rfl, _, rfl, (by show 3 ≤ sizeLine; decide), fun p hp => ?_⟩
      obtain ⟨XZ, hXZ⟩ : ∃ XZ : Nat → List V, XZ = fun k => if k = num then (XS num).set at5 (.ref tp) else XS k := ⟨_, rfl⟩
      obtain ⟨LZ, hLZ⟩ : ∃ LZ : Nat → List Step, LZ = fun k => if k = num then (stepsOf x num).set at5 ⟨4, none⟩ else stepsOf x k := ⟨_, rfl⟩
      have hX8 : ∀ k, k < 2 → H7 (bb k) = some (.lst (XZ k)) := fun k hk => by rw [hXZ]; exact hX7 k hk
      have dX8 : ∀ k, k < 2 → DpAll K G6 (XZ k) ((LZ k).map Step.D) := fun k hk => by rw [hXZ, hLZ]; exact dX k hk
      have okZ : ∀ k, k < 2 → StepsOk (LZ k) := fun k hk => by
        rw [hLZ]
        dsimp only
        split
        · exact wait_ok (steps_ok hx num) _
        · exact steps_ok hx k
      have C8 := (C7.freeze b0H (hX8 0 (by decide)) b0d).freeze b1H (hX8 1 (by decide)) b1d
      have g8 := (same_new (H := G6) (p := bb 0) (o := .lst (XZ 0)) (bG6 0 (by decide))).trans (same_new (H := upd G6 (bb 0) (.lst (XZ 0))) (p := bb 1) (o := .lst (XZ 1)) (by rw [upd_ne bne.symm]; exact bG6 1 (by decide)))
      have z0 : Dp K (upd (upd G6 (bb 0) (.lst (XZ 0))) (bb 1) (.lst (XZ 1))) (.ref (bb 0)) (stepsD (LZ 0)) := .lst (SqL.of (by rw [upd_ne bne, upd_same])) (Dp.monoAll g8 _ _ (dX8 0 (by decide)))
      have z1 : Dp K (upd (upd G6 (bb 0) (.lst (XZ 0))) (bb 1) (.lst (XZ 1))) (.ref (bb 1)) (stepsD (LZ 1)) := .lst (SqL.of upd_same) (Dp.monoAll g8 _ _ (dX8 1 (by decide)))
      have DG8 : (upd (upd G6 (bb 0) (.lst (XZ 0))) (bb 1) (.lst (XZ 1))) D = none := by rw [upd_ne b1D.symm, upd_ne b0D.symm]; exact DG6
      exact fin (z := withS x LZ) C8 DG8 hD7 (Dp.mono (g6.trans g8) _ _ dsh) (Dp.mono (g6.trans g8) _ _ dst) z0 z1 ⟨hx.c3, hx.c12, hx.b3, hx.ha, hx.hb, hx.ne, okZ 0 (by decide), okZ 1 (by decide)⟩ rfl p hp
    | 2, _ =>
      refine ⟨_, rfl, rfl, _, rfl, ite_f (decide_eq_false fun z => by cases z) ?_⟩
      refine ⟨_, rfl, rfl, _, rfl, ite_f (decide_eq_false fun z => by cases z) ?_⟩
      refine ⟨_, rfl, rfl, _, rfl, ite_t (decide_eq_true rfl) ?_⟩
      have c3 := hx.c3
      have c12 := hx.c12
      refine ⟨_, rfl, _, rfl, sh, _, rfl, .inr (Same.seqT (g4.trans B4.now.s) hsh), ?_⟩
      rw [List.length_map]
      refine draw_go B4 (by omega) (by omega) fun H5 at5 C5 K5 hat' => ?_
      have hat : at5 < x.shelf.length := by omega
      have hat2 : at5 < (nV x.shelf).length := by rw [nV, List.length_map]; exact hat
      have hD5 : H5 D = some (.lst [.ref (bb 0), .ref (bb 1)]) := by rw [K5 D Dd]; exact hDD3
      have hsh4 : SqT K G4 sh (nV x.shelf) := Same.seqT g4 hsh
      refine ⟨_, rfl, _, rfl, _, rfl, slA_pt (Pt.start C5.now.s) hsh4 fun p1 G6 H6 P6 S6 h6 => ?_⟩
      rw [cut_hi hat2] at h6
      have C6 := C5.pure P6.ext P6.sm
      refine ⟨_, rfl, draw_go C6 (by decide) (by decide) fun H7 b7 C7 K7 hb7' => ?_⟩
      have hb7 : b7 < 4 := by omega
      refine ⟨(by show 1 ≤ sizeLine; decide), fun p2 hp2 => ?_⟩
      have C8 := C7.new hp2 (.tup [.int b7])
      have g8 := same_new (o := .tup [.int b7]) (Same.free C7.now.s hp2)
      refine catA_pt (Pt.start C8.now.s) (Same.seqT g8 h6) (SqT.of upd_same) (small 2000 (by rw [List.length_take, List.length_singleton]; omega) (by decide)) fun p3 G9 H9 P9 S9 h9' => ?_
      have C9 := C8.pure P9.ext P9.sm
      refine ⟨_, rfl, _, rfl, _, _, rfl, rfl, _, rfl, ?_⟩
      dsimp only [tNoPart]
      have S49 : Same G4 G9 := S6.trans (g8.trans S9)
      refine slA_pt (K := K) (Pt.start C9.now.s) (Same.seqT S49 hsh4) fun p4 G10 H10 P10 S10 h10 => ?_
      rw [cut_lo hat2] at h10
      have C10 := C9.pure P10.ext P10.sm
      refine catA_pt (Pt.start C10.now.s) (Same.seqT S10 h9') h10 (small 2000 (by rw [List.length_append, List.length_take, List.length_singleton, List.length_drop, nV, List.length_map]; omega) (by decide)) fun p5 G11 H11 P11 S11 h11 => ?_
      have C11 := C10.pure P11.ext P11.sm
      have esh : (nV x.shelf).take at5 ++ [V.int (b7 : Int)] ++ (nV x.shelf).drop (at5 + 1) = nV (x.shelf.set at5 b7) := by
        rw [List.append_assoc, nV, nV, List.map_set, List.set_eq_take_append_cons_drop, if_pos (by rw [List.length_map]; exact hat)]
        rfl
      rw [esh] at h11
      refine ⟨_, rfl, rfl, _, rfl, ite_f (decide_eq_false fun z => by cases z) ?_⟩
      refine ⟨_, rfl, _, rfl, _, rfl, (by show 3 ≤ sizeLine; decide), fun p hp => ?_⟩
      have S4 : Same G4 G11 := S49.trans (S10.trans S11)
      have hD6 := P6.sm _ _ hD5
      have hD7 : H7 D = some (.lst [.ref (bb 0), .ref (bb 1)]) := by rw [K7 D Dd]; exact hD6
      have Dp2 : D ≠ p2 := ne_of_none hD7 hp2
      have hD8 : (upd H7 p2 (.tup [.int b7])) D = some (.lst [.ref (bb 0), .ref (bb 1)]) := by rw [upd_ne Dp2]; exact hD7
      have hD11 := P11.sm _ _ (P10.sm _ _ (P9.sm _ _ hD8))
      have DG11 : G11 D = none := P11.ext.out (P10.ext.out (P9.ext.out (by rw [upd_ne Dp2]; exact P6.ext.out DG4 hD5) hD8) (P9.sm _ _ hD8)) (P10.sm _ _ (P9.sm _ _ hD8))
      refine fin (z := { x with shelf := x.shelf.set at5 b7 }) C11 DG11 hD11 (.tup h11 (nats_D' _)) (Dp.mono (g4.trans S4) _ _ dst) (Dp.mono S4 _ _ d0) (Dp.mono S4 _ _ d1) ⟨by rw [List.length_set]; exact hx.c3, by rw [List.length_set]; exact hx.c12, fun n hn => ?_, by rw [List.length_set]; exact hx.ha, by rw [List.length_set]; exact hx.hb, hx.ne, hx.p, hx.q⟩ (List.length_set ..) p hp
      rcases List.mem_or_eq_of_mem_set hn with q | rfl
      · exact hx.b3 n q
      · omega
    | 3, _ =>
      refine ⟨_, rfl, rfl, _, rfl, ite_f (decide_eq_false fun z => by cases z) ?_⟩
      refine ⟨_, rfl, rfl, _, rfl, ite_f (decide_eq_false fun z => by cases z) ?_⟩
      refine ⟨_, rfl, rfl, _, rfl, ite_f (decide_eq_false fun z => by cases z) ?_⟩
      refine ⟨_, rfl, rfl, _, rfl, ite_t (decide_eq_true rfl) ?_⟩
      refine ⟨_, rfl, st, _, _, rfl, Same.seqT (g4.trans B4.now.s) hst, fun rv hrv => ?_⟩
      have C5 := B4.new hrv (.tup [.int x.b, .int x.a])
      have g5 := same_new (o := .tup [.int x.b, .int x.a]) (Same.free B4.now.s hrv)
      have Drv : D ≠ rv := ne_of_none hDD3 hrv
      refine ⟨_, rfl, _, rfl, _, rfl, (by show 3 ≤ sizeLine; decide), fun p hp => ?_⟩
      exact fin (z := { x with a := x.b, b := x.a }) C5 (by rw [upd_ne Drv]; exact DG4) (by rw [upd_ne Drv]; exact hDD3) (Dp.mono (g4.trans g5) _ _ dsh) (.tup (SqT.of upd_same) (.cons (.int _) (.cons (.int _) .nil))) (Dp.mono g5 _ _ d0) (Dp.mono g5 _ _ d1) ⟨hx.c3, hx.c12, hx.b3, hx.hb, hx.ha, hx.ne.symm, hx.p, hx.q⟩ rfl p hp
    | n + 4, h => exact absurd h (by omega)
end
end Sb

namespace Sb
open PySem PySem.Spec PyProof.Rows L2 TL LamX NdefX
theorem dp_app {K : PySem.W.Frag} {G : Hp} : ∀ {vs us : List V} {ds es : List PyData}, DpAll K G vs ds → DpAll K G us es → DpAll K G (vs ++ us) (ds ++ es)
  | _, _, _, _, .nil, h => h
  | _, _, _, _, .cons a r, h => .cons a (dp_app r h)
theorem dp_take {K : PySem.W.Frag} {G : Hp} : ∀ {vs : List V} {ds : List PyData}, DpAll K G vs ds → ∀ k, DpAll K G (vs.take k) (ds.take k)
  | _, _, .nil, k => by rw [List.take_nil, List.take_nil]; exact .nil
  | _, _, .cons a r, 0 => .nil
  | _, _, .cons a r, k + 1 => .cons a (dp_take r k)
theorem dp_drop {K : PySem.W.Frag} {G : Hp} : ∀ {vs : List V} {ds : List PyData}, DpAll K G vs ds → ∀ k, DpAll K G (vs.drop k) (ds.drop k)
  | _, _, .nil, k => by rw [List.drop_nil, List.drop_nil]; exact .nil
  | _, _, .cons a r, 0 => .cons a r
  | _, _, .cons a r, k + 1 => dp_drop r k
theorem lay_st (x : Pl) (t : Nat) : Lay 4 (stD x t) := Lay.tuple (n := 3) (lay2 (lay_natsT _) (lay_nats _))
section
variable {P : Program} {w : World} {K : PySem.W.Frag} {mg : Str → Option Value} {base : Heap} {a : Ad}
theorem ok_law (T : Txt K mg a) : FnOk P w K mg base CX0 20 a.f_law a.d_law ["_law_script"] (spLaw K) := by
  refine T.F_law.ok sc_law (fun vs H Q E h => ?_) (fun cdv A outer s H vs Q E hr h => ?_)
  · obtain ⟨sc, ns, rfl, _⟩ := h
    rfl
  · obtain ⟨sc, ns, rfl, hsc, hns, k⟩ := h
    refine ⟨_, (pss_cons (ps_set (i := 1) sc_law.nd rfl (Or.inl rfl) (pe_call (ok_l_random T) (hr.mono (by decide)) rfl T.m_l_random T.F_l_random.kp (b_l_random T) .nil pass0 (pa_cons (pv 0) (pa_cons pe_int pa_nil))))
      (pss_cons (ps_set (i := 2) sc_law.nd rfl (Or.inl rfl) (pe_call (ok_l_plan T) (hr.mono (by decide)) rfl T.m_l_plan T.F_l_plan.kp (b_l_plan T) .nil pass0 (pa_cons (pv 1) (pa_cons pe_int pa_nil))))
      (pss_cons (ps_set (i := 3) sc_law.nd rfl (Or.inl rfl) (pe_call (ok_l_other T) (hr.mono (by decide)) rfl T.m_l_other T.F_l_other.kp (b_l_other T) .nil pass0 (pa_cons (pv 1) (pa_cons (pv 2) pa_nil))))
      (pss_cons (ps_set (i := 3) sc_law.nd rfl (Or.inl rfl) (pe_ifExp (pt_val (pe_call (ok_l_repeats T) (hr.mono (by decide)) rfl T.m_l_repeats T.F_l_repeats.kp (b_l_repeats T) .nil pass0 (pa_cons (pv 3) pa_nil))) (pv 3) (pv 2)))
      (pss_cons (ps_par (i := 4) (j := 5) (by rfl) sc_law.nd rfl rfl (by decide) rfl rfl (pa_cons (pe_call (ok_l_text T) (hr.mono (by decide)) rfl T.m_l_text T.F_l_text.kp (b_l_text T) .nil pass0 (pa_cons (pv 2) pa_nil)) (pa_cons (pe_call (ok_l_text T) (hr.mono (by decide)) rfl T.m_l_text T.F_l_text.kp (b_l_text T) .nil pass0 (pa_cons (pv 3) pa_nil)) pa_nil)) (by rfl))
      (pss_cons (ps_set (i := 6) sc_law.nd rfl (Or.inl rfl) (pe_call (ok_first_difference T) (hr.mono (by decide)) rfl T.m_first_difference T.F_first_difference.kp (b_first_difference T) .nil pass0 (pa_cons (pv 4) (pa_cons (pv 5) pa_nil))))
      (pss_cons (ps_if (PW.pt (pw_or (pt_cmpR op_ne (pv 6) (pe_call (ok_first_difference T) (hr.mono (by decide)) rfl T.m_first_difference T.F_first_difference.kp (b_first_difference T) .nil pass0 (pa_cons (pv 5) (pa_cons (pv 4) pa_nil))) (nomark _)) (pw_or1 (pt_cmpR op_notN (pe_call (ok_first_difference T) (hr.mono (by decide)) rfl T.m_first_difference T.F_first_difference.kp (b_first_difference T) .nil pass0 (pa_cons (pv 4) (pa_cons (pv 4) pa_nil))) pe_non (nomark _))))) (pss_one (ps_ret pe_bl)) pss_nil)
      (pss_cons (ps_set (i := 7) sc_law.nd rfl (Or.inr rfl) (pe_lc (own := [("_law_text_here", 8)]) (g := gName 8) (tt := tYes) rfl sc_law.nd (pi_tup (pe_tup (pa_cons (pv 4) (pa_cons (pv 5) pa_nil)))) (blkOk_by (own := [("_law_text_here", 8)]) (N := ["_law_script", "_law_d", "_law_first", "_law_second", "_law_one", "_law_other_here", "_law_found", "_law_states", "_law_text_here", "_law_tick_here", "_law_unlike", "_law_logs", "_law_row", "_law_parted", "_law_at"]) (sc := (defScope s_law)) (by decide +kernel)) (fun _ _ _ _ _ => (pg_name (i := 8) sc_law.nd rfl (Or.inr rfl))) (fun _ _ _ _ _ => pts_nil) (fun _ _ _ _ _ => by exact (pe_lc (own := [("_law_tick_here", 9)]) (g := gName 9) (tt := tYes) rfl sc_law.nd (pi_range1 (by rfl) T.z_range (pa_cons pe_int pa_nil)) (blkOk_by (own := [("_law_tick_here", 9)]) (N := ["_law_script", "_law_d", "_law_first", "_law_second", "_law_one", "_law_other_here", "_law_found", "_law_states", "_law_text_here", "_law_tick_here", "_law_unlike", "_law_logs", "_law_row", "_law_parted", "_law_at"]) (sc := (relS ({ kind := PySem.ScopeKind.function, names := [ (PySem.Str.ofString ".0", PySem.NameKind.local), (PySem.Str.ofString "_law_text_here", PySem.NameKind.cell), (PySem.Str.ofString "range", PySem.NameKind.globalImplicit)], isGenerator := false, isCoroutine := false, more := [] : PySem.Scope }) (defScope s_law))) (by decide +kernel)) (fun _ _ _ _ _ => (pg_name (i := 9) sc_law.nd rfl (Or.inl rfl))) (fun _ _ _ _ _ => pts_nil) (fun _ _ _ _ _ => by exact (pe_tup (pa_cons (pe_call (ok_cells T) (hr.mono (by decide)) rfl T.m_cells T.F_cells.kp (b_cells T) .nil pass0 (pa_cons (pv 8) (pa_cons (pv 9) pa_nil))) (pa_cons (pe_call (ok_boxes T) (hr.mono (by decide)) rfl T.m_boxes T.F_boxes.kp (b_boxes T) .nil pass0 (pa_cons (pv 8) (pa_cons (pv 9) pa_nil))) pa_nil))))))))
      (pss_cons (ps_setLc (i := 10) (own := [("_law_tick_here", 9)]) (g := gName 9) (tt := (tTest (tOp (rNeD K) (tOp (rIxL K) (tOp (rIxL K) (tVar 7) (tC _)) (tVar 9)) (tOp (rIxL K) (tOp (rIxL K) (tVar 7) (tC _)) (tVar 9))))) rfl sc_law.nd rfl rfl (sw_true rfl rfl rfl (by decide +kernel)) (pi_range1 (by rfl) T.z_range (pa_cons pe_int pa_nil)) (blkOk_by (own := [("_law_tick_here", 9)]) (N := ["_law_script", "_law_d", "_law_first", "_law_second", "_law_one", "_law_other_here", "_law_found", "_law_states", "_law_text_here", "_law_tick_here", "_law_unlike", "_law_logs", "_law_row", "_law_parted", "_law_at"]) (sc := (defScope s_law)) (by decide +kernel)) (fun _ _ _ _ _ => (pg_name (i := 9) sc_law.nd rfl (Or.inl rfl))) (fun _ _ _ _ _ => by exact pts_one (pt_cmpR (op_neD hr.units) (pe_ix ix_list (pe_ix ix_list (pv 7) pe_int (fun _ _ => rfl)) (pv 9) (fun _ _ => rfl)) (pe_ix ix_list (pe_ix ix_list (pv 7) pe_int (fun _ _ => rfl)) (pv 9) (fun _ _ => rfl)) (nomark _))) (fun _ _ _ _ _ => by exact (pv 9)))
      (pss_cons (ps_if (PW.pt (pw_or (PW.pt (pw_and (pt_cmpR (op_neD hr.units) (pv 10) (pe_lst pa_nil) (nomark _)) (pw_and1 (pt_cmpR op_ne (pv 6) (pe_ix ix_list (pv 10) pe_int (fun _ _ => rfl)) (nomark _))))) (pw_or1 (PW.pt (pw_and (pt_cmpR (op_eqD hr.units) (pv 10) (pe_lst pa_nil) (nomark _)) (pw_and (pt_cmpR op_notN (pv 6) pe_non (nomark _)) (pw_and1 (pt_cmpR op_lt (pv 6) pe_int (nomark _))))))))) (pss_one (ps_ret pe_bl)) pss_nil)
      (pss_cons (ps_set (i := 11) sc_law.nd rfl (Or.inr rfl) (pe_lc (own := [("_law_text_here", 8)]) (g := gName 8) (te := (tLcG (tCallH (spTraceH K) (fun _ _ _ => False) (tCons (tVar 8) (tCons (tC _) (tCons (tC _) tNil)))))) (tt := tYes) rfl sc_law.nd (pi_tup (pe_tup (pa_cons (pv 4) (pa_cons (pv 5) pa_nil)))) (blkOk_by (own := [("_law_text_here", 8)]) (N := ["_law_script", "_law_d", "_law_first", "_law_second", "_law_one", "_law_other_here", "_law_found", "_law_states", "_law_text_here", "_law_tick_here", "_law_unlike", "_law_logs", "_law_row", "_law_parted", "_law_at"]) (sc := (defScope s_law)) (by decide +kernel)) (fun _ _ _ _ _ => (pg_name (i := 8) sc_law.nd rfl (Or.inl rfl))) (fun _ _ _ _ _ => pts_nil) (fun _ _ _ _ _ => by exact (pe_lcG rfl (hr.mono (by decide)) (phen_call (ok_traceH T) (hr.mono (by decide)) rfl T.m_trace T.F_trace.kp (b_trace T) (pa_cons (pv 8) (pa_cons pe_int (pa_cons pe_int pa_nil)))) rfl rfl))))
      (pss_cons (ps_setLc (i := 13) (own := [("_law_tick_here", 9)]) (g := gName 9) (tt := (tTest (tOp (rNeD K) (tOp (rIxL K) (tOp (rIxL K) (tVar 11) (tC _)) (tVar 9)) (tOp (rIxL K) (tOp (rIxL K) (tVar 11) (tC _)) (tVar 9))))) rfl sc_law.nd rfl rfl (sw_true rfl rfl rfl (by decide +kernel)) (pi_range1 (by rfl) T.z_range (pa_cons pe_int pa_nil)) (blkOk_by (own := [("_law_tick_here", 9)]) (N := ["_law_script", "_law_d", "_law_first", "_law_second", "_law_one", "_law_other_here", "_law_found", "_law_states", "_law_text_here", "_law_tick_here", "_law_unlike", "_law_logs", "_law_row", "_law_parted", "_law_at"]) (sc := (defScope s_law)) (by decide +kernel)) (fun _ _ _ _ _ => (pg_name (i := 9) sc_law.nd rfl (Or.inl rfl))) (fun _ _ _ _ _ => by exact pts_one (pt_cmpR (op_neD hr.units) (pe_ix ix_list (pe_ix ix_list (pv 11) pe_int (fun _ _ => rfl)) (pv 9) (fun _ _ => rfl)) (pe_ix ix_list (pe_ix ix_list (pv 11) pe_int (fun _ _ => rfl)) (pv 9) (fun _ _ => rfl)) (nomark _))) (fun _ _ _ _ _ => by exact (pv 9)))
      (pss_cons (ps_if (PW.pt (pw_or (pt_cmpR op_ne (pe_call (ok_first_error T) (hr.mono (by decide)) rfl T.m_first_error T.F_first_error.kp (b_first_error T) .nil pass0 (pa_cons (pv 4) (pa_cons (pe_ix ix_list (pv 11) pe_int (fun _ _ => rfl)) pa_nil))) (pe_ifExp (pt_cmpR (op_neD hr.units) (pv 13) (pe_lst pa_nil) (nomark _)) (pe_ix ix_list (pv 13) pe_int (fun _ _ => rfl)) pe_non) (nomark _)) (pw_or1 (pt_cmpR op_notN (pe_call (ok_first_error T) (hr.mono (by decide)) rfl T.m_first_error T.F_first_error.kp (b_first_error T) .nil pass0 (pa_cons (pv 4) (pa_cons (pe_ix ix_list (pv 11) pe_int (fun _ _ => rfl)) pa_nil))) pe_non (nomark _))))) (pss_one (ps_ret pe_bl)) pss_nil)
      (pss_cons (ps_set (i := 14) sc_law.nd rfl (Or.inl rfl) (pe_call (ok_l_below T) (hr.mono (by decide)) rfl T.m_l_below T.F_l_below.kp (b_l_below T) .nil pass0 (pa_cons (pv 1) (pa_cons pe_int pa_nil))))
      (pss_cons (ps_if (pt_cmpR op_ne (pe_call (ok_first_error T) (hr.mono (by decide)) rfl T.m_first_error T.F_first_error.kp (b_first_error T) .nil pass0 (pa_cons (pv 4) (pa_cons (pe_op op_cat (pe_op op_cat (pe_slice sl_list (pe_ix ix_list (pv 11) pe_int (fun _ _ => rfl)) po_none (po_some (pv 14))) (pe_lst (pa_cons (pe_tup (pa_cons pe_str (pa_cons pe_str pa_nil))) pa_nil))) (pe_slice sl_list (pe_ix ix_list (pv 11) pe_int (fun _ _ => rfl)) (po_some (pe_op op_add (pv 14) pe_int)) po_none)) pa_nil))) (pv 14) (nomark _)) (pss_one (ps_ret pe_bl)) pss_nil)
      (pss_cons (ps_if (PW.pt (pw_and (pt_cmpR op_notN (pv 6) pe_non (nomark _)) (pw_and (pt_cmpR op_le (pv 6) (pe_op op_sub (pe_op op_pow pe_int pe_int) pe_int) (nomark _)) (pw_and1 (pt_cmpR op_gt (pv 6) pe_int (nomark _)))))) (pss_cons (ps_if (pt_cmpR (op_eqD hr.units) (pe_tup (pa_cons (pe_call (ok_cells T) (hr.mono (by decide)) rfl T.m_cells T.F_cells.kp (b_cells T) .nil pass0 (pa_cons (pv 4) (pa_cons (pv 6) pa_nil))) (pa_cons (pe_call (ok_boxes T) (hr.mono (by decide)) rfl T.m_boxes T.F_boxes.kp (b_boxes T) .nil pass0 (pa_cons (pv 4) (pa_cons (pv 6) pa_nil))) pa_nil))) (pe_tup (pa_cons (pe_call (ok_cells T) (hr.mono (by decide)) rfl T.m_cells T.F_cells.kp (b_cells T) .nil pass0 (pa_cons (pv 5) (pa_cons (pv 6) pa_nil))) (pa_cons (pe_call (ok_boxes T) (hr.mono (by decide)) rfl T.m_boxes T.F_boxes.kp (b_boxes T) .nil pass0 (pa_cons (pv 5) (pa_cons (pv 6) pa_nil))) pa_nil))) (nomark _)) (pss_one (ps_ret pe_bl)) pss_nil)
      (pss_one (ps_ret (pe_cmpR (op_eqD hr.units) (pe_tup (pa_cons (pe_call (ok_cells T) (hr.mono (by decide)) rfl T.m_cells T.F_cells.kp (b_cells T) .nil pass0 (pa_cons (pv 4) (pa_cons (pe_op op_sub (pv 6) pe_int) pa_nil))) (pa_cons (pe_call (ok_boxes T) (hr.mono (by decide)) rfl T.m_boxes T.F_boxes.kp (b_boxes T) .nil pass0 (pa_cons (pv 4) (pa_cons (pe_op op_sub (pv 6) pe_int) pa_nil))) pa_nil))) (pe_tup (pa_cons (pe_call (ok_cells T) (hr.mono (by decide)) rfl T.m_cells T.F_cells.kp (b_cells T) .nil pass0 (pa_cons (pv 5) (pa_cons (pe_op op_sub (pv 6) pe_int) pa_nil))) (pa_cons (pe_call (ok_boxes T) (hr.mono (by decide)) rfl T.m_boxes T.F_boxes.kp (b_boxes T) .nil pass0 (pa_cons (pv 5) (pa_cons (pe_op op_sub (pv 6) pe_int) pa_nil))) pa_nil))) (nomark _))))) pss_nil)
      (pss_one (ps_ret pe_bl)))))))))))))))))), ?_⟩
    refine ⟨_, rfl, sc, ns, 40, rfl, hsc, hns, by decide, fun H1 d ds s1 d0 hd hsrc => ?_⟩
    have N1 : Now d (fun _ => none) H1 := ⟨(fun _ _ e => nomatch e), rfl, ds, hd, hsrc⟩
    -- the plans
    refine ⟨_, rfl, draw_plan N1.at (by decide) (by decide) fun G5 H5 v x B5 B5' hx hrn hx8 hD hp6 hq6 => ?_⟩
    obtain ⟨ci, cn, told, hcn⟩ := hrn.told hx
    have h9 : ∀ k, k < 2 → (stepsOf x k).length ≤ 9 := fun k hk => by
      match k, hk with
      | 0, _ => exact Nat.le_trans hp6 (by decide)
      | 1, _ => exact Nat.le_trans hq6 (by decide)
    refine ⟨_, rfl, _, rfl, ⟨⟨d, G5, v, x, rfl, hD, hx, h9, B5.now, fun G6 H6 u C6 ⟨z, hz, hDz, hzl⟩ => ?_⟩⟩⟩
    have B6 := B5.trans C6
    dsimp only [gName]
    refine seq_restσ (fun σ H' => ∃ (G7 : Hp) (y : Pl) (vy : V) (i2 n2 : Nat), σ = [some (.ref sc), some (.ref d), some v, some vy, none, none, none, none, none, none, none, none, none, none, none] ∧ At d (fun _ => none) H1 G7 H' ∧ Same G5 G7 ∧ Dp K G7 vy y.D ∧ y.Ok ∧ Told (textS y) y i2 n2 ∧ n2 < 4000 ∧ y.shelf.length = x.shelf.length) ?rest (fun rest => ?here)
    case here =>
      refine ⟨_, rfl, ⟨⟨G6, u, z, rfl, hDz, hz, B6.now.s, fun G7 H7 rv x7 s7 ⟨r, er, hrep⟩ => ?_⟩⟩⟩
      subst er
      have B7 := B6.pure x7 s7
      refine ⟨_, rfl, ?_⟩
      cases r with
      | true =>
        obtain ⟨i2, n2, c2, hn2⟩ := hrep rfl
        exact ite_t rfl ⟨_, rfl, rest _ _ ⟨G7, z, u, i2, n2, rfl, B7, C6.g.trans x7.g, Dp.mono x7.g _ _ hDz, hz, ⟨loads_text hz, hz, c2, by omega⟩, hn2, hzl⟩⟩
      | false => exact ite_f rfl ⟨_, rfl, rest _ _ ⟨G7, x, v, ci, cn, rfl, B7, C6.g.trans x7.g, Dp.mono (C6.g.trans x7.g) _ _ hD, hx, told, hcn, rfl⟩⟩
    rintro σ H7 ⟨G7, y, vy, i2, n2, rfl, B7, S7, hDy, hy, told2, hn2, hyl⟩
    -- the texts
    refine ⟨_, rfl, ⟨⟨G7, v, x, rfl, B7.now.s, Dp.mono S7 _ _ hD, hx, fun H8 s8 => ?_⟩⟩⟩
    have B8 := B7.pure (Ext.ofSame B7.now.s s8) s8
    refine ⟨_, rfl, ⟨⟨G7, vy, y, rfl, B8.now.s, hDy, hy, fun H9 s9 => ?_⟩⟩⟩
    have B9 := B8.pure (Ext.ofSame B8.now.s s9) s9
    refine ⟨_, _, rfl, ?_⟩
    dsimp only
    -- the first difference
    refine ⟨_, rfl, _, rfl, ⟨⟨textS x, textS y, G7, x, y, ci, cn, i2, n2, rfl, told, told2, hyl.symm, B9.now.s, fun M h1 h2 h0 G10 H10 x10 s10 => ?_⟩⟩⟩
    have B10 := B9.pure x10 s10
    obtain ⟨o, ho, hFD⟩ : ∃ o, diffP x y (max ci i2 + M) = o ∧ FD x y o := ⟨_, rfl, diff_FD told.cy told2.cy h1 h2 h0⟩
    rw [ho]
    refine ⟨_, rfl, _, rfl, _, rfl, ⟨⟨textS y, textS x, G10, y, x, i2, n2, ci, cn, rfl, told2, told, hyl, B10.now.s, fun M' h1' h2' h0' G11 H11 x11 s11 => ?_⟩⟩⟩
    have B11 := B10.pure x11 s11
    rw [← FD_uniq hFD (FD_comm (diff_FD told2.cy told.cy h1' h2' h0'))]
    refine ⟨by cases o <;> rfl, _, rfl, ite_f (congrArg (fun b => !b) (decide_eq_true rfl)) ?_⟩
    refine ⟨_, rfl, _, rfl, ⟨⟨textS x, textS x, G11, x, x, ci, cn, ci, cn, rfl, told, told, rfl, B11.now.s, fun M'' h1'' h2'' h0'' G12 H12 x12 s12 => ?_⟩⟩⟩
    have B12 := B11.pure x12 s12
    rw [FD_self (diff_FD told.cy told.cy h1'' h2'' h0'')]
    refine ⟨rfl, _, rfl, ite_f rfl ?_⟩
    -- the two plans by number
    obtain ⟨pl, hpl0, hpl1⟩ : ∃ pl : Nat → Pl, pl 0 = x ∧ pl 1 = y := ⟨fun m => if m = 0 then x else y, rfl, rfl⟩
    have ptold : ∀ m, m < 2 → ∃ i n, Told (textS (pl m)) (pl m) i n := fun m hm => by
      match m, hm with
      | 0, _ => rw [hpl0]; exact ⟨_, _, told⟩
      | 1, _ => rw [hpl1]; exact ⟨_, _, told2⟩
    -- states
    refine ⟨_, rfl, _, rfl, (by show 2 ≤ sizeLine; decide), fun tt htt => ?_⟩
    have B13 := B12.new htt (.tup [.str (textS x), .str (textS y)])
    have tG : (upd G12 tt (.tup [.str (textS x), .str (textS y)])) tt = some (.tup [.str (textS x), .str (textS y)]) := upd_same
    revert B13 tG
    generalize upd G12 tt (.tup [.str (textS x), .str (textS y)]) = G13
    generalize upd H12 tt (.tup [.str (textS x), .str (textS y)]) = H13
    intro B13 tG
    refine ⟨tt, rfl, ⟨_, Same.seqT B13.now.s (SqT.of tG)⟩, fun D hD' => ?_⟩
    have D0 : H1 D = none := B13.ext.k _ hD'
    have DG := B13.ext.new_out hD'
    have Dd := B13.ne hD'
    refine lc_tup (K := K) (a := tt) (xs := [.str (textS x), .str (textS y)]) (fun m H' => ∃ (G' : Hp) (vs : List V), At d (fun _ => none) H1 G' H' ∧ Same G13 G' ∧ G' D = none ∧ H' D = some (.lst vs) ∧ vs.length = m ∧ DpAll K G' vs ((List.range m).map fun m => .list ((List.range 40).map (stD (pl m))))) ⟨_, [], B13.lay hD' _, Same.refl _, DG, upd_same, rfl, .nil⟩ (fun m H' _ ⟨G', _, h, s, _⟩ => Same.seqT (s.trans h.now.s) (SqT.of tG)) ?_ ?_
    · rintro m z H' hz ⟨G', vs, C, S, DG', hDl, hvs, hdv⟩
      have hm : m < 2 := (List.getElem?_eq_some_iff.mp hz).1
      obtain ⟨pi, pn, ptd⟩ := ptold m hm
      have ez : z = .str (textS (pl m)) := by
        match m, hm with
        | 0, _ => cases hz; rw [hpl0]
        | 1, _ => cases hz; rw [hpl1]
      subst ez
      refine ⟨rfl, 40, rfl, by decide, by decide, fun D2 hD2 => ?_⟩
      have D20 : H1 D2 = none := C.ext.k _ hD2
      have D2G := C.ext.new_out hD2
      have D2d := C.ne hD2
      have DD2 : D ≠ D2 := ne_of_none hDl hD2
      refine lc_range (lo := 0) (n := 40) (fun t H'' => ∃ (G'' : Hp) (us : List V), At d (fun _ => none) H1 G'' H'' ∧ Same G' G'' ∧ G'' D = none ∧ H'' D = some (.lst vs) ∧ G'' D2 = none ∧ H'' D2 = some (.lst us) ∧ us.length = t ∧ DpAll K G'' us ((List.range t).map (stD (pl m)))) ⟨_, [], C.lay hD2 _, Same.refl _, DG', by rw [upd_ne DD2]; exact hDl, D2G, upd_same, rfl, .nil⟩ ?_ ?_
      · rintro t H2 ht ⟨G2, us, C2, S2, DG2, hD2l, D2G2, hU, hus, hdu⟩
        have et : (0 : Int) + (t : Int) = ((t : Nat) : Int) := by omega
        rw [et]
        refine ⟨rfl, _, rfl, _, rfl, ⟨⟨textS (pl m), G2, pl m, pi, pn, t, rfl, ptd, by omega, C2.now.s, fun G3 H3 cv x3 s3 d3 => ?_⟩⟩⟩
        have C3 := C2.pure x3 s3
        refine ⟨_, rfl, _, rfl, ⟨⟨textS (pl m), G3, pl m, pi, pn, t, rfl, ptd, by omega, C3.now.s, fun G4 H4 p4 pt4 hp4 => ?_⟩⟩⟩
        have C4 := (C3.pure pt4.ext pt4.sm).new hp4 (.lst (nV (sitAt (pl m) (t + 1)).sh))
        have g4 := same_new (o := .lst (nV (sitAt (pl m) (t + 1)).sh)) (Same.free (C3.pure pt4.ext pt4.sm).now.s hp4)
        have h4 : (upd G4 p4 (.lst (nV (sitAt (pl m) (t + 1)).sh))) p4 = some (.lst (nV (sitAt (pl m) (t + 1)).sh)) := upd_same
        have kp : ∀ {b o}, H2 b = some o → (upd H4 p4 (.lst (nV (sitAt (pl m) (t + 1)).sh))) b = some o := fun {b o} e => by
          have q := pt4.sm _ _ (s3 _ _ e)
          rw [upd_ne (ne_of_none q hp4)]
          exact q
        have out : ∀ {b o}, H2 b = some o → G2 b = none → (upd G4 p4 (.lst (nV (sitAt (pl m) (t + 1)).sh))) b = none := fun {b o} e n => by
          rw [upd_ne (ne_of_none (pt4.sm _ _ (s3 _ _ e)) hp4)]
          exact pt4.ext.out (x3.out n e) (s3 _ _ e)
        have hD4 := kp hD2l
        have hU4 := kp hU
        have DG4 := out hD2l DG2
        have UG4 := out hU D2G2
        clear kp out
        revert C4 g4 h4 hD4 hU4 DG4 UG4
        generalize upd G4 p4 (.lst (nV (sitAt (pl m) (t + 1)).sh)) = G5'
        generalize upd H4 p4 (.lst (nV (sitAt (pl m) (t + 1)).sh)) = H5'
        intro C4 g4 h4 hD4 hU4 DG4 UG4
        refine ⟨(by show 2 ≤ sizeLine; decide), fun tq htq => ?_⟩
        have C6 := C4.new htq (.tup [cv, .ref p4])
        have g6 := same_new (o := .tup [cv, .ref p4]) (Same.free C4.now.s htq)
        have qD : D ≠ tq := ne_of_none hD4 htq
        have qU : D2 ≠ tq := ne_of_none hU4 htq
        have UG6 : (upd G5' tq (.tup [cv, .ref p4])) D2 = none := by rw [upd_ne qU]; exact UG4
        refine ⟨us, by rw [upd_ne qU]; exact hU4, smaller 50 (by omega) (by decide), _, us ++ [.ref tq], C6.put D20 UG6 D2d _, S2.trans (x3.g.trans (pt4.g.trans (g4.trans g6))), by rw [upd_ne qD]; exact DG4, by rw [upd_ne DD2, upd_ne qD]; exact hD4, UG6, upd_same, by rw [List.length_append, hus]; rfl, ?_⟩
        rw [range_more]
        exact DpAll.snoc (Dp.monoAll (x3.g.trans (pt4.g.trans (g4.trans g6))) _ _ hdu) (.tup (SqT.of upd_same) (.cons (Dp.mono (pt4.g.trans (g4.trans g6)) _ _ d3) (.cons (.lst (g6.seq (SqL.of h4)) (nats_D' _)) .nil)))
      rintro H3 ⟨G3, us, C3, S3, DG3, hD3, UG3, hU3, hus, hdu⟩
      have C4 := C3.freeze D20 hU3 D2d
      have g4 := same_new (H := G3) (p := D2) (o := .lst us) UG3
      have DG4 : (upd G3 D2 (.lst us)) D = none := by rw [upd_ne DD2]; exact DG3
      refine ⟨vs, hD3, smaller 10 (by omega) (by decide), _, vs ++ [.ref D2], C4.put D0 DG4 Dd _, S.trans (S3.trans g4), DG4, upd_same, by rw [List.length_append, hvs]; rfl, ?_⟩
      rw [range_more]
      exact DpAll.snoc (Dp.monoAll (S3.trans g4) _ _ hdv) (.lst (SqL.of upd_same) (Dp.monoAll g4 _ _ hdu))
    rintro H20 ⟨G20, vs, C20, S20, DG20, hD20, hvs, hdv⟩
    obtain ⟨w0, w1, rfl⟩ : ∃ w0 w1, vs = [w0, w1] := by
      match vs, hvs with
      | [w0, w1], _ => exact ⟨w0, w1, rfl⟩
    obtain ⟨_, _, ev, hd0, hdv⟩ := DpAll.cons_inv hdv
    cases ev
    obtain ⟨_, _, ev, hd1, hdv⟩ := DpAll.cons_inv hdv
    cases ev
    have hd0 : Dp K G20 w0 (.list ((List.range 40).map (stD (pl 0)))) := hd0
    have hd1 : Dp K G20 w1 (.list ((List.range 40).map (stD (pl 1)))) := hd1
    rw [hpl0] at hd0
    rw [hpl1] at hd1
    obtain ⟨l0, xs0, rfl, hl0, hxs0⟩ := Dp.lst_inv hd0
    obtain ⟨l1, xs1, rfl, hl1, hxs1⟩ := Dp.lst_inv hd1
    have C21 := C20.freeze D0 hD20 Dd
    have g21 := same_new (H := G20) (p := D) (o := .lst [.ref l0, .ref l1]) DG20
    have hD21 : (upd G20 D (.lst [.ref l0, .ref l1])) D = some (.lst [.ref l0, .ref l1]) := upd_same
    revert C21 g21 hD21
    generalize upd G20 D (.lst [.ref l0, .ref l1]) = G21
    intro C21 g21 hD21
    -- unlike
    refine ⟨40, rfl, by decide, by decide, fun D3 hD3 => ?_⟩
    have D30 : H1 D3 = none := C21.ext.k _ hD3
    have D3G := C21.ext.new_out hD3
    have D3d := C21.ne hD3
    refine lc_range (lo := 0) (n := 40) (fun m H' => At d (fun _ => none) H1 G21 H' ∧ H' D3 = some (.lst (nV ((List.range m).filter (neB x y))))) ⟨C21.lay hD3 _, upd_same⟩ ?_ ?_
    · rintro m H' hm ⟨C, hDl⟩
      have et : (0 : Int) + (m : Int) = ((m : Nat) : Int) := by omega
      rw [et]
      have er := filt_succ (neB x y) m
      obtain ⟨v0, hv0, dv0⟩ := DpAll.at hxs0 (i := m) (d := stD x m) (by rw [List.getElem?_map, List.getElem?_range hm]; rfl)
      obtain ⟨v1, hv1, dv1⟩ := DpAll.at hxs1 (i := m) (d := stD y m) (by rw [List.getElem?_map, List.getElem?_range hm]; rfl)
      have s21 := C.now.s
      have s20 := g21.trans s21
      refine ⟨rfl, _, rfl, D, _, _, .ref l0, rfl, rfl, s21.seq (SqL.of hD21), at_of (j := 0) rfl rfl, _, rfl, l0, _, _, v0, rfl, rfl, s20.seq hl0, at_of (j := m) rfl hv0, ?_⟩
      refine ⟨_, rfl, D, _, _, .ref l1, rfl, rfl, s21.seq (SqL.of hD21), at_of (j := 1) rfl rfl, _, rfl, l1, _, _, v1, rfl, rfl, s20.seq hl1, at_of (j := m) rfl hv1, ?_⟩
      refine ⟨stD x m, stD y m, Dp.mono s20 _ _ dv0, Dp.mono s20 _ _ dv1, (lay_st x m).shapedT (by decide), (lay_st y m).shapedT (by decide), _, rfl, ?_⟩
      rw [neB_st]
      refine ite_b (fun c => ?_) (fun c => ⟨C, ?_⟩)
      · refine ⟨_, rfl, _, hDl, smaller 50 ?_ (by decide), C.put D30 D3G D3d _, ?_⟩
        · rw [List.length_map]
          have := List.length_filter_le (neB x y) (List.range m)
          rw [List.length_range] at this
          omega
        · rw [upd_same, er, if_pos c, nV, nV, List.map_append]
          rfl
      · rw [er, c]
        simpa using hDl
    rintro H22 ⟨C22, hD22⟩
    have C23 := C22.freeze D30 hD22 D3d
    have g23 := same_new (H := G21) (p := D3) (o := .lst (nV ((List.range 40).filter (neB x y)))) D3G
    have hD23 : (upd G21 D3 (.lst (nV ((List.range 40).filter (neB x y))))) D3 = some (.lst (nV ((List.range 40).filter (neB x y)))) := upd_same
    revert C23 g23 hD23
    generalize upd G21 D3 (.lst (nV ((List.range 40).filter (neB x y)))) = G23
    intro C23 g23 hD23
    -- found and unlike
    dsimp only [gName]
    refine seq_restσ (fun σ H' => σ = [some (.ref sc), some (.ref d), some v, some vy, some (.str (textS x)), some (.str (textS y)), some (optV o), some (.ref D), none, none, some (.ref D3), none, none, none, none] ∧ At d (fun _ => none) H1 G23 H') ?rest2 (fun rest => ?here2)
    case here2 =>
      have hU : ((List.range 40).filter (neB x y) = [] ∧ ∀ f, o = some f → 40 ≤ f) ∨ ∃ f r, o = some f ∧ (List.range 40).filter (neB x y) = f :: r := by
        cases o with
        | none => exact .inl ⟨filt_nil fun m _ => hFD m, fun f z => by cases z⟩
        | some f =>
          rcases Nat.lt_or_ge f 40 with q | q
          · obtain ⟨r, hr⟩ := filt_head q hFD.1 hFD.2
            exact .inr ⟨f, r, rfl, hr⟩
          · exact .inl ⟨filt_nil fun m hm => hFD.2 m (by omega), fun g z => by cases z; exact q⟩
      refine ⟨_, rfl, Nat.zero_le _, fun e0 he0 => ?_⟩
      have C24 := C23.lay he0 (.lst [])
      refine ⟨natsD ((List.range 40).filter (neB x y)), natsD [], .lst (C24.now.s.seq (SqL.of hD23)) (nats_D' _), .lst (SqL.of upd_same) .nil, (lay_nats (n := 1) _).shaped (by decide), (lay_nats (n := 1) _).shaped (by decide), _, rfl, ?_⟩
      revert C24
      generalize upd H22 e0 (.lst []) = H24
      intro C24
      rcases hU with ⟨eU, h40⟩ | ⟨f, r, rfl, eU⟩
      · rw [eU] at hD23 ⊢
        refine ite_f rfl (ite_f rfl ?_)
        refine ⟨_, rfl, Nat.zero_le _, fun e1 he1 => ?_⟩
        have C25 := C24.lay he1 (.lst [])
        refine ⟨natsD [], natsD [], .lst (C25.now.s.seq (SqL.of hD23)) .nil, .lst (SqL.of upd_same) .nil, (lay_nats (n := 1) _).shaped (by decide), (lay_nats (n := 1) _).shaped (by decide), _, rfl, ite_t rfl ?_⟩
        cases o with
        | none => exact ⟨_, rfl, rfl, _, rfl, ite_f rfl (ite_f rfl (rest _ _ ⟨rfl, C25⟩))⟩
        | some f =>
          have := h40 f rfl
          exact ⟨_, rfl, rfl, _, rfl, ite_t rfl ⟨_, rfl, _, _, rfl, rfl, _, rfl, ite_f (decide_eq_false (by omega)) (rest _ _ ⟨rfl, C25⟩)⟩⟩
      · rw [eU] at hD23 ⊢
        refine ite_t rfl ?_
        refine ⟨_, rfl, _, rfl, D3, _, _, .int (f : Nat), rfl, rfl, C24.now.s.seq (SqL.of hD23), at_of (j := 0) rfl rfl, rfl, _, rfl, ite_f (congrArg (fun b => !b) (decide_eq_true rfl)) ?_⟩
        refine ⟨_, rfl, Nat.zero_le _, fun e1 he1 => ?_⟩
        have C25 := C24.lay he1 (.lst [])
        refine ⟨natsD (f :: r), natsD [], .lst (C25.now.s.seq (SqL.of hD23)) (nats_D' _), .lst (SqL.of upd_same) .nil, (lay_nats (n := 1) _).shaped (by decide), (lay_nats (n := 1) _).shaped (by decide), _, rfl, ite_f rfl (ite_f rfl (rest _ _ ⟨rfl, C25⟩))⟩
    rintro σ H24 ⟨rfl, C24⟩
    -- the logs
    refine ⟨_, rfl, _, rfl, (by show 2 ≤ sizeLine; decide), fun tt2 htt2 => ?_⟩
    have B30 := C24.new htt2 (.tup [.str (textS x), .str (textS y)])
    have g30 := same_new (o := .tup [.str (textS x), .str (textS y)]) (Same.free C24.now.s htt2)
    have tG2 : (upd G23 tt2 (.tup [.str (textS x), .str (textS y)])) tt2 = some (.tup [.str (textS x), .str (textS y)]) := upd_same
    revert B30 g30 tG2
    generalize upd G23 tt2 (.tup [.str (textS x), .str (textS y)]) = G30
    generalize upd H24 tt2 (.tup [.str (textS x), .str (textS y)]) = H30
    intro B30 g30 tG2
    refine ⟨tt2, rfl, ⟨_, Same.seqT B30.now.s (SqT.of tG2)⟩, fun L hL' => ?_⟩
    have L0 : H1 L = none := B30.ext.k _ hL'
    have LG := B30.ext.new_out hL'
    have Ld := B30.ne hL'
    refine lc_tup (K := K) (a := tt2) (xs := [.str (textS x), .str (textS y)]) (fun m H' => ∃ (G' : Hp) (vs : List V), At d (fun _ => none) H1 G' H' ∧ Same G30 G' ∧ G' L = none ∧ H' L = some (.lst vs) ∧ vs.length = m ∧ ∀ j, j < m → ∃ (q : Addr) (ys : List V), vs[j]? = some (.ref q) ∧ G' q = some (.lst ys) ∧ DpAll K G' ys (wordsL (pl j) 0 60)) ⟨_, [], B30.lay hL' _, Same.refl _, LG, upd_same, rfl, fun j hj => absurd hj (Nat.not_lt_zero _)⟩ (fun m H' _ ⟨G', _, h, s, _⟩ => Same.seqT (s.trans h.now.s) (SqT.of tG2)) ?_ ?_
    · rintro m z H' hz ⟨G', vs, C, S, DG', hDl, hvs, hdv⟩
      have hm : m < 2 := (List.getElem?_eq_some_iff.mp hz).1
      obtain ⟨pi, pn, ptd⟩ := ptold m hm
      have ez : z = .str (textS (pl m)) := by
        match m, hm with
        | 0, _ => cases hz; rw [hpl0]
        | 1, _ => cases hz; rw [hpl1]
      subst ez
      have e59 : (59 : Int) = ((0 : Nat) : Int) + ((60 : Nat) : Int) - 1 := by decide
      refine ⟨rfl, _, rfl, ?_⟩
      refine traceH_go (t := 0) (m := 60) ptd (by decide) (by decide) (by decide) C.now.s fun G2 H2 ys pt2 hys q2 hq2 => ?_
      have C2 := C.pure pt2.ext pt2.sm
      have DG2 : G2 L = none := pt2.ext.out DG' hDl
      have hD2 := pt2.sm _ _ hDl
      have C3 := C2.new hq2 (.lst ys)
      have g3 := same_new (o := .lst ys) (Same.free C2.now.s hq2)
      have Dq : L ≠ q2 := ne_of_none hD2 hq2
      have DG3 : (upd G2 q2 (.lst ys)) L = none := by rw [upd_ne Dq]; exact DG2
      refine ⟨vs, by rw [upd_ne Dq]; exact hD2, smaller 10 (by omega) (by decide), _, vs ++ [.ref q2], C3.put L0 DG3 Ld _, S.trans (pt2.g.trans g3), DG3, upd_same, by rw [List.length_append, hvs]; rfl, ?_⟩
      intro j hj
      by_cases ej : j = m
      · subst ej
        exact ⟨q2, ys, by rw [← hvs, List.getElem?_append_right (Nat.le_refl _), Nat.sub_self]; rfl, upd_same, Dp.monoAll g3 _ _ hys⟩
      · obtain ⟨q, zs, e1, e2, e3⟩ := hdv j (by omega)
        exact ⟨q, zs, by rw [List.getElem?_append_left (by omega)]; exact e1, g3 _ _ (pt2.g _ _ e2), Dp.monoAll (pt2.g.trans g3) _ _ e3⟩
    rintro H31 ⟨G31, vs, C31, S31, LG31, hL31, hvs, hdv⟩
    obtain ⟨k0, ys0, ek0, gk0, hys0⟩ := hdv 0 (by show 0 < 2; decide)
    obtain ⟨k1, ys1, ek1, gk1, hys1⟩ := hdv 1 (by show 1 < 2; decide)
    rw [hpl0] at hys0
    rw [hpl1] at hys1
    obtain rfl : vs = [.ref k0, .ref k1] := by
      match vs, hvs, ek0, ek1 with
      | [w0, w1], _, ek0, ek1 => cases ek0; cases ek1; rfl
    have hk0 : SqL K G31 k0 ys0 := SqL.of gk0
    have hk1 : SqL K G31 k1 ys1 := SqL.of gk1
    have C32 := C31.freeze L0 hL31 Ld
    have g32 := same_new (H := G31) (p := L) (o := .lst [.ref k0, .ref k1]) LG31
    have hL32 : (upd G31 L (.lst [.ref k0, .ref k1])) L = some (.lst [.ref k0, .ref k1]) := upd_same
    revert C32 g32 hL32
    generalize upd G31 L (.lst [.ref k0, .ref k1]) = G32
    intro C32 g32 hL32
    have lw0 : ∀ (z : Pl), z.Ok → Lay 3 (.list (wordsL z 0 60)) := fun z hz => Lay.list fun e he => by
      obtain ⟨k, _, rfl⟩ := List.mem_map.mp he
      exact (lay_words (n := 0) (words_le hz _).1 (words_le hz _).2).mono (by decide)
    -- parted
    refine ⟨60, rfl, by decide, by decide, fun D4 hD4 => ?_⟩
    have D40 : H1 D4 = none := C32.ext.k _ hD4
    have D4G := C32.ext.new_out hD4
    have D4d := C32.ne hD4
    refine lc_range (lo := 0) (n := 60) (fun m H' => At d (fun _ => none) H1 G32 H' ∧ H' D4 = some (.lst (nV ((List.range m).filter (partB x y))))) ⟨C32.lay hD4 _, upd_same⟩ ?_ ?_
    · rintro m H' hm ⟨C, hDl⟩
      have et : (0 : Int) + (m : Int) = ((m : Nat) : Int) := by omega
      rw [et]
      have er := filt_succ (partB x y) m
      obtain ⟨v0, hv0, dv0⟩ := DpAll.at hys0 (i := m) (d := wordsD (wordsAt x m)) (by unfold wordsL; rw [List.getElem?_map, List.getElem?_range hm]; show some (wordsD (wordsAt x (0 + m))) = _; rw [Nat.zero_add])
      obtain ⟨v1, hv1, dv1⟩ := DpAll.at hys1 (i := m) (d := wordsD (wordsAt y m)) (by unfold wordsL; rw [List.getElem?_map, List.getElem?_range hm]; show some (wordsD (wordsAt y (0 + m))) = _; rw [Nat.zero_add])
      have s32 := C.now.s
      have s31 := g32.trans s32
      refine ⟨rfl, _, rfl, L, _, _, .ref k0, rfl, rfl, s32.seq (SqL.of hL32), at_of (j := 0) rfl rfl, _, rfl, k0, _, _, v0, rfl, rfl, s31.seq hk0, at_of (j := m) rfl hv0, ?_⟩
      refine ⟨_, rfl, L, _, _, .ref k1, rfl, rfl, s32.seq (SqL.of hL32), at_of (j := 1) rfl rfl, _, rfl, k1, _, _, v1, rfl, rfl, s31.seq hk1, at_of (j := m) rfl hv1, ?_⟩
      refine ⟨wordsD (wordsAt x m), wordsD (wordsAt y m), Dp.mono s31 _ _ dv0, Dp.mono s31 _ _ dv1, words_shaped _ (words_le hx m).1 (words_le hx m).2, words_shaped _ (words_le hy m).1 (words_le hy m).2, _, rfl, ?_⟩
      refine ite_b (fun c => ?_) (fun c => ⟨C, ?_⟩)
      · have c : partB x y m = true := c
        refine ⟨_, rfl, _, hDl, smaller 70 ?_ (by decide), C.put D40 D4G D4d _, ?_⟩
        · rw [List.length_map]
          have := List.length_filter_le (partB x y) (List.range m)
          rw [List.length_range] at this
          omega
        · rw [upd_same, er, if_pos c, nV, nV, List.map_append]
          rfl
      · have c : partB x y m = false := c
        rw [er, c]
        simpa using hDl
    rintro H33 ⟨C33, hD33⟩
    have C34 := C33.freeze D40 hD33 D4d
    have g34 := same_new (H := G32) (p := D4) (o := .lst (nV ((List.range 60).filter (partB x y)))) D4G
    have hD34 : (upd G32 D4 (.lst (nV ((List.range 60).filter (partB x y))))) D4 = some (.lst (nV ((List.range 60).filter (partB x y)))) := upd_same
    revert C34 g34 hD34
    generalize upd G32 D4 (.lst (nV ((List.range 60).filter (partB x y)))) = G34
    intro C34 g34 hD34
    have s34 := C34.now.s
    have sL : Same G31 H33 := g32.trans (g34.trans s34)
    have shw : ∀ (z : Pl), z.Ok → ∀ d ∈ wordsL z 0 60, SeqAt.shaped d = true := fun z hz d hd => by
      obtain ⟨k, _, rfl⟩ := List.mem_map.mp hd
      exact words_shaped _ (words_le hz _).1 (words_le hz _).2
    dsimp only [gName]
    refine seq_restσ (fun σ H' => σ = [some (.ref sc), some (.ref d), some v, some vy, some (.str (textS x)), some (.str (textS y)), some (optV o), some (.ref D), none, none, some (.ref D3), some (.ref L), none, some (.ref D4), none] ∧ ∃ G', At d (fun _ => none) H1 G' H' ∧ Same G34 G') ?rest3 (fun rest => ?here3)
    case here3 =>
      refine ⟨_, rfl, _, rfl, L, _, _, .ref k1, rfl, rfl, (g34.trans s34).seq (SqL.of hL32), at_of (j := 1) rfl rfl, ⟨⟨textS x, G34, k1, ys1, wordsL y 0 60, x, ci, cn, rfl, told, sL _ _ gk1, Dp.monoAll (g32.trans g34) _ _ hys1, shw y hy, s34, fun G35 H35 x35 s35 => ?_⟩⟩⟩
      have C35 := C34.pure x35 s35
      have hhd := filt_find (partB x y) 60
      rw [err_words, ← hhd]
      have hD35 := x35.g _ _ hD34
      -- the rest of the test
      have own : ∀ {H' : Hp}, At d (fun _ => none) H1 G35 H' → (∀ G36 H36, Ext G35 H' G36 H36 → Same H' H36 → True) → True := fun _ _ => trivial
      refine ⟨_, rfl, Nat.zero_le _, fun e2 he2 => ?_⟩
      have C36 := C35.lay he2 (.lst [])
      refine ⟨natsD ((List.range 60).filter (partB x y)), natsD [], .lst (C36.now.s.seq (SqL.of hD35)) (nats_D' _), .lst (SqL.of upd_same) .nil, (lay_nats (n := 1) _).shaped (by decide), (lay_nats (n := 1) _).shaped (by decide), _, rfl, ?_⟩
      revert C36
      generalize upd H35 e2 (.lst []) = H36
      intro C36
      have sk : Same G31 G35 := g32.trans (g34.trans x35.g)
      cases eP : (List.range 60).filter (partB x y) with
      | nil =>
        refine ite_f rfl ⟨rfl, _, rfl, ite_f (congrArg (fun b => !b) (decide_eq_true rfl)) ?_⟩
        refine ⟨_, rfl, _, rfl, L, _, _, .ref k0, rfl, rfl, ((g34.trans x35.g).trans C36.now.s).seq (SqL.of hL32), at_of (j := 0) rfl rfl, ⟨⟨textS x, G35, k0, ys0, wordsL x 0 60, x, ci, cn, rfl, told, (sk.trans C36.now.s) _ _ gk0, Dp.monoAll sk _ _ hys0, shw x hx, C36.now.s, fun G37 H37 x37 s37 => ?_⟩⟩⟩
        rw [err_words, find_none (fun m _ => part_self hx m)]
        exact ⟨rfl, _, rfl, ite_f rfl (rest _ _ ⟨rfl, G37, C36.pure x37 s37, x35.g.trans x37.g⟩)⟩
      | cons j r =>
        rw [eP] at hD35
        refine ite_t rfl ⟨_, rfl, D4, _, _, .int (j : Nat), rfl, rfl, C36.now.s.seq (SqL.of hD35), at_of (j := 0) rfl rfl, rfl, _, rfl, ite_f (congrArg (fun b => !b) (decide_eq_true rfl)) ?_⟩
        refine ⟨_, rfl, _, rfl, L, _, _, .ref k0, rfl, rfl, ((g34.trans x35.g).trans C36.now.s).seq (SqL.of hL32), at_of (j := 0) rfl rfl, ⟨⟨textS x, G35, k0, ys0, wordsL x 0 60, x, ci, cn, rfl, told, (sk.trans C36.now.s) _ _ gk0, Dp.monoAll sk _ _ hys0, shw x hx, C36.now.s, fun G37 H37 x37 s37 => ?_⟩⟩⟩
        rw [err_words, find_none (fun m _ => part_self hx m)]
        exact ⟨rfl, _, rfl, ite_f rfl (rest _ _ ⟨rfl, G37, C36.pure x37 s37, x35.g.trans x37.g⟩)⟩
    rintro σ H38 ⟨rfl, G38, C38, S38⟩
    have sk38 : Same G31 G38 := g32.trans (g34.trans S38)
    have hL38 : G38 L = some (.lst [.ref k0, .ref k1]) := (g34.trans S38) _ _ hL32
    -- a wrong entry
    refine ⟨_, rfl, draw_go C38 (by decide) (by decide) fun H39 at9 C39 K39 hat' => ?_⟩
    have hat : at9 < 60 := by omega
    have ly0 : ys0.length = 60 := by rw [DpAll.len hys0]; unfold wordsL; rw [List.length_map, List.length_range]
    have s39 := C39.now.s
    refine ⟨_, rfl, _, rfl, L, _, _, .ref k0, rfl, rfl, s39.seq (SqL.of hL38), at_of (j := 0) rfl rfl, _, rfl, _, rfl, k0, _, rfl, (sk38.trans s39).seq hk0, fun q1 hq1 => ?_⟩
    rw [cutL_hi (by rw [ly0]; omega)]
    have C40 := C39.lay hq1 (.lst (ys0.take at9))
    refine ⟨(by show 2 ≤ sizeLine; decide), fun tb htb => ?_⟩
    have C41 := C40.new htb (.tup [.str "wait", .str "hop"])
    have g41 := same_new (o := .tup [.str "wait", .str "hop"]) (Same.free C40.now.s htb)
    refine ⟨(by show 1 ≤ sizeLine; decide), fun q2 hq2 => ?_⟩
    have C42 := C41.lay hq2 (.lst [.ref tb])
    have hq42 : (upd (upd (upd H39 q1 (.lst (ys0.take at9))) tb (.tup [.str "wait", .str "hop"])) q2 (.lst [.ref tb])) q1 = some (.lst (ys0.take at9)) := by
      have e1 : (upd (upd H39 q1 (.lst (ys0.take at9))) tb (.tup [.str "wait", .str "hop"])) q1 = some (.lst (ys0.take at9)) := by rw [upd_ne (ne_of_none upd_same htb), upd_same]
      rw [upd_ne (ne_of_none e1 hq2)]
      exact e1
    refine ⟨q1, q2, ys0.take at9, [.ref tb], rfl, rfl, hq42, upd_same, small 100 (by rw [List.length_take, List.length_singleton]; omega) (by decide), fun q3 hq3 => ?_⟩
    have C43 := C42.lay hq3 (.lst (ys0.take at9 ++ [.ref tb]))
    have h43 : (upd (upd (upd (upd H39 q1 (.lst (ys0.take at9))) tb (.tup [.str "wait", .str "hop"])) q2 (.lst [.ref tb])) q3 (.lst (ys0.take at9 ++ [.ref tb]))) q3 = some (.lst (ys0.take at9 ++ [.ref tb])) := upd_same
    have gtb : (upd G38 tb (.tup [.str "wait", .str "hop"])) tb = some (.tup [.str "wait", .str "hop"]) := upd_same
    revert g41 C43 h43 gtb
    generalize upd (upd (upd (upd H39 q1 (.lst (ys0.take at9))) tb (.tup [.str "wait", .str "hop"])) q2 (.lst [.ref tb])) q3 (.lst (ys0.take at9 ++ [.ref tb])) = H43
    generalize upd G38 tb (.tup [.str "wait", .str "hop"]) = G41
    intro g41 C43 h43 gtb
    have s43 := C43.now.s
    refine ⟨_, rfl, L, _, _, .ref k0, rfl, rfl, (g41.trans s43).seq (SqL.of hL38), at_of (j := 0) rfl rfl, _, rfl, _, _, rfl, rfl, _, rfl, ?_⟩
    dsimp only [tNoPart]
    refine ⟨k0, _, rfl, (sk38.trans (g41.trans s43)).seq hk0, fun q4 hq4 => ?_⟩
    have elo : (at9 : Int) + 1 = ((at9 + 1 : Nat) : Int) := by omega
    rw [elo, cutL_lo (by rw [ly0]; omega)]
    have C44 := C43.lay hq4 (.lst (ys0.drop (at9 + 1)))
    refine ⟨q3, q4, ys0.take at9 ++ [.ref tb], ys0.drop (at9 + 1), rfl, rfl, by rw [upd_ne (ne_of_none h43 hq4)]; exact h43, upd_same, small 200 (by rw [List.length_append, List.length_take, List.length_singleton, List.length_drop]; omega) (by decide), fun q5 hq5 => ?_⟩
    have C45 := C44.lay hq5 (.lst (ys0.take at9 ++ [.ref tb] ++ ys0.drop (at9 + 1)))
    have h45 : (upd (upd H43 q4 (.lst (ys0.drop (at9 + 1)))) q5 (.lst (ys0.take at9 ++ [.ref tb] ++ ys0.drop (at9 + 1)))) q5 = some (.lst (ys0.take at9 ++ [.ref tb] ++ ys0.drop (at9 + 1))) := upd_same
    revert C45 h45
    generalize upd (upd H43 q4 (.lst (ys0.drop (at9 + 1)))) q5 (.lst (ys0.take at9 ++ [.ref tb] ++ ys0.drop (at9 + 1))) = H45
    intro C45 h45
    have dys : DpAll K G41 (ys0.take at9 ++ [.ref tb] ++ ys0.drop (at9 + 1)) ((wordsL x 0 60).take at9 ++ [badD] ++ (wordsL x 0 60).drop (at9 + 1)) := by
      have dy := Dp.monoAll (sk38.trans g41) _ _ hys0
      exact dp_app (dp_app (dp_take dy at9) (.cons (.tup (SqT.of gtb) (.cons (.str _) (.cons (.str _) .nil))) .nil)) (dp_drop dy (at9 + 1))
    refine ⟨⟨textS x, G41, q5, _, (wordsL x 0 60).take at9 ++ [badD] ++ (wordsL x 0 60).drop (at9 + 1), x, ci, cn, rfl, told, h45, dys, (fun d hd => ?_), C45.now.s, fun G46 H46 x46 s46 => ?_⟩⟩
    · rcases List.mem_append.mp hd with hd | hd
      · rcases List.mem_append.mp hd with hd | hd
        · exact shw x hx d (List.mem_of_mem_take hd)
        · rw [List.mem_singleton.mp hd]
          decide +kernel
      · exact shw x hx d (List.mem_of_mem_drop hd)
    rw [err_bad hx hat]
    have C46 := C45.pure x46 s46
    refine ⟨_, rfl, rfl, _, rfl, ite_f (congrArg (fun b => !b) (decide_eq_true rfl)) ?_⟩
    -- found itself
    cases o with
    | none => exact ⟨_, rfl, rfl, _, rfl, ite_f rfl (ite_f rfl (k _))⟩
    | some f =>
      refine ⟨_, rfl, rfl, _, rfl, ite_t rfl ?_⟩
      refine ⟨_, rfl, _, _, rfl, rfl, (by unfold CPow; decide +kernel), _, _, rfl, rfl, _, _, rfl, rfl, _, rfl, ?_⟩
      refine ite_b (fun c1 => ?_) (fun c1 => ite_f rfl (k _))
      have hf18 : f ≤ 999999999999999999 := by
        have := of_decide_eq_true c1
        have e : (10 : Int) ^ (18 : Int).toNat = 1000000000000000000 := by decide
        rw [e] at this
        omega
      refine ⟨_, rfl, _, _, rfl, rfl, _, rfl, ?_⟩
      refine ite_b (fun c2 => ?_) (fun c2 => k _)
      · have hf0 : 0 < f := by
          have := of_decide_eq_true c2
          omega
        have ef1 : (f : Int) - 1 = ((f - 1 : Nat) : Int) := by omega
        refine ⟨_, rfl, _, rfl, ⟨⟨textS x, G46, x, ci, cn, f, rfl, told, by omega, C46.now.s, fun GaA HaA cvA xaA saA daA => ?_⟩⟩⟩
        have CaA := C46.pure xaA saA
        refine ⟨_, rfl, _, rfl, ⟨⟨textS x, GaA, x, ci, cn, f, rfl, told, by omega, CaA.now.s, fun GbA HbA pA ptA hpA => ?_⟩⟩⟩
        have CbA := (CaA.pure ptA.ext ptA.sm).new hpA (.lst (nV (sitAt x (f + 1)).sh))
        have gbA := same_new (o := .lst (nV (sitAt x (f + 1)).sh)) (Same.free (CaA.pure ptA.ext ptA.sm).now.s hpA)
        have hbA : (upd GbA pA (.lst (nV (sitAt x (f + 1)).sh))) pA = some (.lst (nV (sitAt x (f + 1)).sh)) := upd_same
        revert CbA gbA hbA
        generalize upd GbA pA (.lst (nV (sitAt x (f + 1)).sh)) = GcA
        generalize upd HbA pA (.lst (nV (sitAt x (f + 1)).sh)) = HcA
        intro CbA gbA hbA
        refine ⟨(by show 2 ≤ sizeLine; decide), fun tqA htqA => ?_⟩
        have CdA := CbA.new htqA (.tup [cvA, .ref pA])
        have gdA := same_new (o := .tup [cvA, .ref pA]) (Same.free CbA.now.s htqA)
        have ddA : Dp K (upd GcA tqA (.tup [cvA, .ref pA])) (.ref tqA) (stD x (f)) := .tup (SqT.of upd_same) (.cons (Dp.mono (ptA.g.trans (gbA.trans gdA)) _ _ daA) (.cons (.lst (gdA.seq (SqL.of hbA)) (nats_D' _)) .nil))
        have geA : Same G46 (upd GcA tqA (.tup [cvA, .ref pA])) := xaA.g.trans (ptA.g.trans (gbA.trans gdA))
        revert CdA ddA geA
        generalize upd GcA tqA (.tup [cvA, .ref pA]) = GeA
        generalize upd HcA tqA (.tup [cvA, .ref pA]) = HeA
        intro CdA ddA geA
        refine ⟨_, rfl, _, rfl, ⟨⟨textS y, GeA, y, i2, n2, f, rfl, told2, by omega, CdA.now.s, fun GaB HaB cvB xaB saB daB => ?_⟩⟩⟩
        have CaB := CdA.pure xaB saB
        refine ⟨_, rfl, _, rfl, ⟨⟨textS y, GaB, y, i2, n2, f, rfl, told2, by omega, CaB.now.s, fun GbB HbB pB ptB hpB => ?_⟩⟩⟩
        have CbB := (CaB.pure ptB.ext ptB.sm).new hpB (.lst (nV (sitAt y (f + 1)).sh))
        have gbB := same_new (o := .lst (nV (sitAt y (f + 1)).sh)) (Same.free (CaB.pure ptB.ext ptB.sm).now.s hpB)
        have hbB : (upd GbB pB (.lst (nV (sitAt y (f + 1)).sh))) pB = some (.lst (nV (sitAt y (f + 1)).sh)) := upd_same
        revert CbB gbB hbB
        generalize upd GbB pB (.lst (nV (sitAt y (f + 1)).sh)) = GcB
        generalize upd HbB pB (.lst (nV (sitAt y (f + 1)).sh)) = HcB
        intro CbB gbB hbB
        refine ⟨(by show 2 ≤ sizeLine; decide), fun tqB htqB => ?_⟩
        have CdB := CbB.new htqB (.tup [cvB, .ref pB])
        have gdB := same_new (o := .tup [cvB, .ref pB]) (Same.free CbB.now.s htqB)
        have ddB : Dp K (upd GcB tqB (.tup [cvB, .ref pB])) (.ref tqB) (stD y (f)) := .tup (SqT.of upd_same) (.cons (Dp.mono (ptB.g.trans (gbB.trans gdB)) _ _ daB) (.cons (.lst (gdB.seq (SqL.of hbB)) (nats_D' _)) .nil))
        have geB : Same GeA (upd GcB tqB (.tup [cvB, .ref pB])) := xaB.g.trans (ptB.g.trans (gbB.trans gdB))
        revert CdB ddB geB
        generalize upd GcB tqB (.tup [cvB, .ref pB]) = GeB
        generalize upd HcB tqB (.tup [cvB, .ref pB]) = HeB
        intro CdB ddB geB
        have n1 : PyData.eqv (stD x f) (stD y f) = false := by
          have := neB_st x y f
          rw [hFD.1] at this
          simpa using this
        refine ⟨stD x f, stD y f, Dp.mono (geB.trans CdB.now.s) _ _ ddA, Dp.mono CdB.now.s _ _ ddB, (lay_st x f).shapedT (by decide), (lay_st y f).shapedT (by decide), _, rfl, ite_f (by rw [n1]) ?_⟩
        refine ⟨_, rfl, _, rfl, _, _, rfl, rfl, ?_⟩
        dsimp only
        rw [ef1]
        refine ⟨⟨textS x, GeB, x, ci, cn, f - 1, rfl, told, by omega, CdB.now.s, fun GaC HaC cvC xaC saC daC => ?_⟩⟩
        have CaC := CdB.pure xaC saC
        refine ⟨_, rfl, _, rfl, _, _, rfl, rfl, ?_⟩
        dsimp only
        rw [ef1]
        refine ⟨⟨textS x, GaC, x, ci, cn, f - 1, rfl, told, by omega, CaC.now.s, fun GbC HbC pC ptC hpC => ?_⟩⟩
        have CbC := (CaC.pure ptC.ext ptC.sm).new hpC (.lst (nV (sitAt x (f - 1 + 1)).sh))
        have gbC := same_new (o := .lst (nV (sitAt x (f - 1 + 1)).sh)) (Same.free (CaC.pure ptC.ext ptC.sm).now.s hpC)
        have hbC : (upd GbC pC (.lst (nV (sitAt x (f - 1 + 1)).sh))) pC = some (.lst (nV (sitAt x (f - 1 + 1)).sh)) := upd_same
        revert CbC gbC hbC
        generalize upd GbC pC (.lst (nV (sitAt x (f - 1 + 1)).sh)) = GcC
        generalize upd HbC pC (.lst (nV (sitAt x (f - 1 + 1)).sh)) = HcC
        intro CbC gbC hbC
        refine ⟨(by show 2 ≤ sizeLine; decide), fun tqC htqC => ?_⟩
        have CdC := CbC.new htqC (.tup [cvC, .ref pC])
        have gdC := same_new (o := .tup [cvC, .ref pC]) (Same.free CbC.now.s htqC)
        have ddC : Dp K (upd GcC tqC (.tup [cvC, .ref pC])) (.ref tqC) (stD x (f - 1)) := .tup (SqT.of upd_same) (.cons (Dp.mono (ptC.g.trans (gbC.trans gdC)) _ _ daC) (.cons (.lst (gdC.seq (SqL.of hbC)) (nats_D' _)) .nil))
        have geC : Same GeB (upd GcC tqC (.tup [cvC, .ref pC])) := xaC.g.trans (ptC.g.trans (gbC.trans gdC))
        revert CdC ddC geC
        generalize upd GcC tqC (.tup [cvC, .ref pC]) = GeC
        generalize upd HcC tqC (.tup [cvC, .ref pC]) = HeC
        intro CdC ddC geC
        refine ⟨_, rfl, _, rfl, _, _, rfl, rfl, ?_⟩
        dsimp only
        rw [ef1]
        refine ⟨⟨textS y, GeC, y, i2, n2, f - 1, rfl, told2, by omega, CdC.now.s, fun GaD HaD cvD xaD saD daD => ?_⟩⟩
        have CaD := CdC.pure xaD saD
        refine ⟨_, rfl, _, rfl, _, _, rfl, rfl, ?_⟩
        dsimp only
        rw [ef1]
        refine ⟨⟨textS y, GaD, y, i2, n2, f - 1, rfl, told2, by omega, CaD.now.s, fun GbD HbD pD ptD hpD => ?_⟩⟩
        have CbD := (CaD.pure ptD.ext ptD.sm).new hpD (.lst (nV (sitAt y (f - 1 + 1)).sh))
        have gbD := same_new (o := .lst (nV (sitAt y (f - 1 + 1)).sh)) (Same.free (CaD.pure ptD.ext ptD.sm).now.s hpD)
        have hbD : (upd GbD pD (.lst (nV (sitAt y (f - 1 + 1)).sh))) pD = some (.lst (nV (sitAt y (f - 1 + 1)).sh)) := upd_same
        revert CbD gbD hbD
        generalize upd GbD pD (.lst (nV (sitAt y (f - 1 + 1)).sh)) = GcD
        generalize upd HbD pD (.lst (nV (sitAt y (f - 1 + 1)).sh)) = HcD
        intro CbD gbD hbD
        refine ⟨(by show 2 ≤ sizeLine; decide), fun tqD htqD => ?_⟩
        have CdD := CbD.new htqD (.tup [cvD, .ref pD])
        have gdD := same_new (o := .tup [cvD, .ref pD]) (Same.free CbD.now.s htqD)
        have ddD : Dp K (upd GcD tqD (.tup [cvD, .ref pD])) (.ref tqD) (stD y (f - 1)) := .tup (SqT.of upd_same) (.cons (Dp.mono (ptD.g.trans (gbD.trans gdD)) _ _ daD) (.cons (.lst (gdD.seq (SqL.of hbD)) (nats_D' _)) .nil))
        have geD : Same GeC (upd GcD tqD (.tup [cvD, .ref pD])) := xaD.g.trans (ptD.g.trans (gbD.trans gdD))
        revert CdD ddD geD
        generalize upd GcD tqD (.tup [cvD, .ref pD]) = GeD
        generalize upd HcD tqD (.tup [cvD, .ref pD]) = HeD
        intro CdD ddD geD
        have n2' : PyData.eqv (stD x (f - 1)) (stD y (f - 1)) = true := by
          have := neB_st x y (f - 1)
          rw [hFD.2 (f - 1) (by omega)] at this
          simpa using this
        refine ⟨stD x (f - 1), stD y (f - 1), Dp.mono (geD.trans CdD.now.s) _ _ ddC, Dp.mono CdD.now.s _ _ ddD, (lay_st x _).shapedT (by decide), (lay_st y _).shapedT (by decide), ?_⟩
        rw [n2']
        exact k _
end
end Sb

section
open PySem PySem.W PyProof.Rows
open_top hd for PySem.Challenge.rw_shelfbots_k40_whole_plans_compared
end

namespace Sb
open PySem PySem.Spec PyProof.Rows L2
theorem all_mk {l : PySem.W.OpenLaw} {w : World} {K : PySem.W.Frag} {h : Heap} {mg : Str → Option Value} {fa : Addr} (X : K.In h) (G : h.Ns mainGlobals mg) (hfa : mg "law" = some (.ref fa)) {C_Token C_Robot C_Plan C_Parser C_State C_Tick C_Story f_l_random f_l_below f_l_empty f_l_act f_l_tick f_l_repeats f_l_steps f_l_plan f_l_doubled f_l_other f_Story_size p_Story_size f_Parser_peek f_Token_init f_Robot_init f_Plan_init f_Parser_init f_is_int_in f_check_tick f_Story_happens f_first_state f_State_key p_State_key f_replaced f_act f_Tick_init f_next_tick f_Story_init f_cells f_State_init f_Parser_fail f_Parser_take_word f_Parser_take f_Parser_found f_Parser_parse_shelf f_Parser_parse_step f_Parser_parse_robot f_Parser_parse_plan f_run_end f_read_token f_tokenize f_load f_first_difference f_l_text f_first_error f_boxes f_trace f_law A_MOVES A_JUMPS A_KEYWORDS : Addr}
    {oc_l_random kV_l_random dc_l_random pm_l_random ct_l_random : Value} {od_l_random an_l_random : Option Addr} {sl_l_random : Array (Option Value)} {cd_l_random : Value}
    {oc_l_below kV_l_below dc_l_below pm_l_below ct_l_below : Value} {od_l_below an_l_below : Option Addr} {sl_l_below : Array (Option Value)} {cd_l_below : Value}
    {oc_l_empty kV_l_empty dc_l_empty pm_l_empty ct_l_empty : Value} {od_l_empty an_l_empty : Option Addr} {sl_l_empty : Array (Option Value)} {cd_l_empty : Value}
    {oc_l_act kV_l_act dc_l_act pm_l_act ct_l_act : Value} {od_l_act an_l_act : Option Addr} {sl_l_act : Array (Option Value)} {cd_l_act : Value}
    {oc_l_tick kV_l_tick dc_l_tick pm_l_tick ct_l_tick : Value} {od_l_tick an_l_tick : Option Addr} {sl_l_tick : Array (Option Value)} {cd_l_tick : Value}
    {oc_l_repeats kV_l_repeats dc_l_repeats pm_l_repeats ct_l_repeats : Value} {od_l_repeats an_l_repeats : Option Addr} {sl_l_repeats : Array (Option Value)} {cd_l_repeats : Value}
    {oc_l_steps kV_l_steps dc_l_steps pm_l_steps ct_l_steps : Value} {od_l_steps an_l_steps : Option Addr} {sl_l_steps : Array (Option Value)} {cd_l_steps : Value}
    {oc_l_plan kV_l_plan dc_l_plan pm_l_plan ct_l_plan : Value} {od_l_plan an_l_plan : Option Addr} {sl_l_plan : Array (Option Value)} {cd_l_plan : Value}
    {oc_l_doubled kV_l_doubled dc_l_doubled pm_l_doubled ct_l_doubled : Value} {od_l_doubled an_l_doubled : Option Addr} {sl_l_doubled : Array (Option Value)} {cd_l_doubled : Value}
    {oc_l_other kV_l_other dc_l_other pm_l_other ct_l_other : Value} {od_l_other an_l_other : Option Addr} {sl_l_other : Array (Option Value)} {cd_l_other : Value}
    {oc_Story_size kV_Story_size dc_Story_size pm_Story_size ct_Story_size : Value} {od_Story_size an_Story_size : Option Addr} {sl_Story_size : Array (Option Value)} {cd_Story_size : Value}
    {rs_Story_size : List Value}
    {oc_Parser_peek kV_Parser_peek dc_Parser_peek pm_Parser_peek ct_Parser_peek : Value} {od_Parser_peek an_Parser_peek : Option Addr} {sl_Parser_peek : Array (Option Value)} {cd_Parser_peek : Value}
    {oc_Token_init kV_Token_init dc_Token_init pm_Token_init ct_Token_init : Value} {od_Token_init an_Token_init : Option Addr} {sl_Token_init : Array (Option Value)} {cd_Token_init : Value}
    {oc_Robot_init kV_Robot_init dc_Robot_init pm_Robot_init ct_Robot_init : Value} {od_Robot_init an_Robot_init : Option Addr} {sl_Robot_init : Array (Option Value)} {cd_Robot_init : Value}
    {oc_Plan_init kV_Plan_init dc_Plan_init pm_Plan_init ct_Plan_init : Value} {od_Plan_init an_Plan_init : Option Addr} {sl_Plan_init : Array (Option Value)} {cd_Plan_init : Value}
    {oc_Parser_init kV_Parser_init dc_Parser_init pm_Parser_init ct_Parser_init : Value} {od_Parser_init an_Parser_init : Option Addr} {sl_Parser_init : Array (Option Value)} {cd_Parser_init : Value}
    {oc_is_int_in kV_is_int_in dc_is_int_in pm_is_int_in ct_is_int_in : Value} {od_is_int_in an_is_int_in : Option Addr} {sl_is_int_in : Array (Option Value)} {cd_is_int_in : Value}
    {oc_check_tick kV_check_tick dc_check_tick pm_check_tick ct_check_tick : Value} {od_check_tick an_check_tick : Option Addr} {sl_check_tick : Array (Option Value)} {cd_check_tick : Value}
    {oc_Story_happens kV_Story_happens dc_Story_happens pm_Story_happens ct_Story_happens : Value} {od_Story_happens an_Story_happens : Option Addr} {sl_Story_happens : Array (Option Value)} {cd_Story_happens : Value}
    {oc_first_state kV_first_state dc_first_state pm_first_state ct_first_state : Value} {od_first_state an_first_state : Option Addr} {sl_first_state : Array (Option Value)} {cd_first_state : Value}
    {oc_State_key kV_State_key dc_State_key pm_State_key ct_State_key : Value} {od_State_key an_State_key : Option Addr} {sl_State_key : Array (Option Value)} {cd_State_key : Value}
    {rs_State_key : List Value}
    {oc_replaced kV_replaced dc_replaced pm_replaced ct_replaced : Value} {od_replaced an_replaced : Option Addr} {sl_replaced : Array (Option Value)} {cd_replaced : Value}
    {oc_act kV_act dc_act pm_act ct_act : Value} {od_act an_act : Option Addr} {sl_act : Array (Option Value)} {cd_act : Value}
    {oc_Tick_init kV_Tick_init dc_Tick_init pm_Tick_init ct_Tick_init : Value} {od_Tick_init an_Tick_init : Option Addr} {sl_Tick_init : Array (Option Value)} {cd_Tick_init : Value}
    {oc_next_tick kV_next_tick dc_next_tick pm_next_tick ct_next_tick : Value} {od_next_tick an_next_tick : Option Addr} {sl_next_tick : Array (Option Value)} {cd_next_tick : Value}
    {oc_Story_init kV_Story_init dc_Story_init pm_Story_init ct_Story_init : Value} {od_Story_init an_Story_init : Option Addr} {sl_Story_init : Array (Option Value)} {cd_Story_init : Value}
    {oc_cells kV_cells dc_cells pm_cells ct_cells : Value} {od_cells an_cells : Option Addr} {sl_cells : Array (Option Value)} {cd_cells : Value}
    {oc_State_init kV_State_init dc_State_init pm_State_init ct_State_init : Value} {od_State_init an_State_init : Option Addr} {sl_State_init : Array (Option Value)} {cd_State_init : Value}
    {oc_Parser_fail kV_Parser_fail dc_Parser_fail pm_Parser_fail ct_Parser_fail : Value} {od_Parser_fail an_Parser_fail : Option Addr} {sl_Parser_fail : Array (Option Value)} {cd_Parser_fail : Value}
    {oc_Parser_take_word kV_Parser_take_word dc_Parser_take_word pm_Parser_take_word ct_Parser_take_word : Value} {od_Parser_take_word an_Parser_take_word : Option Addr} {sl_Parser_take_word : Array (Option Value)} {cd_Parser_take_word : Value}
    {oc_Parser_take kV_Parser_take dc_Parser_take pm_Parser_take ct_Parser_take : Value} {od_Parser_take an_Parser_take : Option Addr} {sl_Parser_take : Array (Option Value)} {cd_Parser_take : Value}
    {oc_Parser_found kV_Parser_found dc_Parser_found pm_Parser_found ct_Parser_found : Value} {od_Parser_found an_Parser_found : Option Addr} {sl_Parser_found : Array (Option Value)} {cd_Parser_found : Value}
    {oc_Parser_parse_shelf kV_Parser_parse_shelf dc_Parser_parse_shelf pm_Parser_parse_shelf ct_Parser_parse_shelf : Value} {od_Parser_parse_shelf an_Parser_parse_shelf : Option Addr} {sl_Parser_parse_shelf : Array (Option Value)} {cd_Parser_parse_shelf : Value}
    {oc_Parser_parse_step kV_Parser_parse_step dc_Parser_parse_step pm_Parser_parse_step ct_Parser_parse_step : Value} {od_Parser_parse_step an_Parser_parse_step : Option Addr} {sl_Parser_parse_step : Array (Option Value)} {cd_Parser_parse_step : Value}
    {oc_Parser_parse_robot kV_Parser_parse_robot dc_Parser_parse_robot pm_Parser_parse_robot ct_Parser_parse_robot : Value} {od_Parser_parse_robot an_Parser_parse_robot : Option Addr} {sl_Parser_parse_robot : Array (Option Value)} {cd_Parser_parse_robot : Value}
    {oc_Parser_parse_plan kV_Parser_parse_plan dc_Parser_parse_plan pm_Parser_parse_plan ct_Parser_parse_plan : Value} {od_Parser_parse_plan an_Parser_parse_plan : Option Addr} {sl_Parser_parse_plan : Array (Option Value)} {cd_Parser_parse_plan : Value}
    {oc_run_end kV_run_end dc_run_end pm_run_end ct_run_end : Value} {od_run_end an_run_end : Option Addr} {sl_run_end : Array (Option Value)} {cd_run_end : Value}
    {oc_read_token kV_read_token dc_read_token pm_read_token ct_read_token : Value} {od_read_token an_read_token : Option Addr} {sl_read_token : Array (Option Value)} {cd_read_token : Value}
    {oc_tokenize kV_tokenize dc_tokenize pm_tokenize ct_tokenize : Value} {od_tokenize an_tokenize : Option Addr} {sl_tokenize : Array (Option Value)} {cd_tokenize : Value}
    {oc_load kV_load dc_load pm_load ct_load : Value} {od_load an_load : Option Addr} {sl_load : Array (Option Value)} {cd_load : Value}
    {oc_first_difference kV_first_difference dc_first_difference pm_first_difference ct_first_difference : Value} {od_first_difference an_first_difference : Option Addr} {sl_first_difference : Array (Option Value)} {cd_first_difference : Value}
    {oc_l_text kV_l_text dc_l_text pm_l_text ct_l_text : Value} {od_l_text an_l_text : Option Addr} {sl_l_text : Array (Option Value)} {cd_l_text : Value}
    {oc_first_error kV_first_error dc_first_error pm_first_error ct_first_error : Value} {od_first_error an_first_error : Option Addr} {sl_first_error : Array (Option Value)} {cd_first_error : Value}
    {oc_boxes kV_boxes dc_boxes pm_boxes ct_boxes : Value} {od_boxes an_boxes : Option Addr} {sl_boxes : Array (Option Value)} {cd_boxes : Value}
    {oc_trace kV_trace dc_trace pm_trace ct_trace : Value} {od_trace an_trace : Option Addr} {sl_trace : Array (Option Value)} {cd_trace : Value}
    {oc_law kV_law dc_law pm_law ct_law : Value} {od_law an_law : Option Addr} {sl_law : Array (Option Value)} {cd_law : Value}
    {t0_MOVES t1_MOVES t2_MOVES t3_MOVES t4_MOVES : Tok} {sl_MOVES : Array (Option Value)} {nn_MOVES : Nat}
    {t0_JUMPS t1_JUMPS t2_JUMPS : Tok} {sl_JUMPS : Array (Option Value)} {nn_JUMPS : Nat}
    {t0_KEYWORDS t1_KEYWORDS t2_KEYWORDS t3_KEYWORDS t4_KEYWORDS t5_KEYWORDS t6_KEYWORDS t7_KEYWORDS t8_KEYWORDS t9_KEYWORDS : Tok} {sl_KEYWORDS : Array (Option Value)} {nn_KEYWORDS : Nat}
    {t_LETTERS : Tok}
    {t_DIGITS : Tok}
    {t_SPACES : Tok}
    {t_SIGNS : Tok}
    {t_MAX_LETTERS : Tok}
    {t_MAX_DIGITS : Tok}
    {t_NAME : Tok}
    {t_NUMBER : Tok}
    {t_KEYWORD : Tok}
    {t_SIGN : Tok}
    {t_END : Tok}
    {t_MIN_CELLS : Tok}
    {t_MAX_CELLS : Tok}
    {t_MAX_BOXES : Tok}
    {t_MAX_STEPS : Tok}
    {t_MAX_TICK : Tok}
    {t_MAX_STATES : Tok}
    {t_MAX_TRACE : Tok}
    {t_BLOCKED : Tok}
    (aC_Token : PySem.W.nsIn K mainGlobals "Token" = some (some (.ref C_Token)))
    (aC_Robot : PySem.W.nsIn K mainGlobals "Robot" = some (some (.ref C_Robot)))
    (aC_Plan : PySem.W.nsIn K mainGlobals "Plan" = some (some (.ref C_Plan)))
    (aC_Parser : PySem.W.nsIn K mainGlobals "Parser" = some (some (.ref C_Parser)))
    (aC_State : PySem.W.nsIn K mainGlobals "State" = some (some (.ref C_State)))
    (aC_Tick : PySem.W.nsIn K mainGlobals "Tick" = some (some (.ref C_Tick)))
    (aC_Story : PySem.W.nsIn K mainGlobals "Story" = some (some (.ref C_Story)))
    (a_l_random : PySem.W.nsIn K mainGlobals "_law_random" = some (some (.ref f_l_random)))
    (l_l_random : K.lookup f_l_random = some ⟨oc_l_random, od_l_random, .func (PySem.W.fnOf "_law_random" "_law_random" (defArgs s_l_random) (defBody s_l_random) (defScope s_l_random) .none kV_l_random dc_l_random pm_l_random an_l_random cd_l_random ct_l_random), sl_l_random⟩)
    (c_l_random : PySem.W.codeIn K cd_l_random "_law_random" = true)
    (k_l_random : PySem.W.keepIn K (.ref f_l_random) = true)
    (a_l_below : PySem.W.nsIn K mainGlobals "_law_below" = some (some (.ref f_l_below)))
    (l_l_below : K.lookup f_l_below = some ⟨oc_l_below, od_l_below, .func (PySem.W.fnOf "_law_below" "_law_below" (defArgs s_l_below) (defBody s_l_below) (defScope s_l_below) .none kV_l_below dc_l_below pm_l_below an_l_below cd_l_below ct_l_below), sl_l_below⟩)
    (c_l_below : PySem.W.codeIn K cd_l_below "_law_below" = true)
    (k_l_below : PySem.W.keepIn K (.ref f_l_below) = true)
    (a_l_empty : PySem.W.nsIn K mainGlobals "_law_empty" = some (some (.ref f_l_empty)))
    (l_l_empty : K.lookup f_l_empty = some ⟨oc_l_empty, od_l_empty, .func (PySem.W.fnOf "_law_empty" "_law_empty" (defArgs s_l_empty) (defBody s_l_empty) (defScope s_l_empty) .none kV_l_empty dc_l_empty pm_l_empty an_l_empty cd_l_empty ct_l_empty), sl_l_empty⟩)
    (c_l_empty : PySem.W.codeIn K cd_l_empty "_law_empty" = true)
    (k_l_empty : PySem.W.keepIn K (.ref f_l_empty) = true)
    (a_l_act : PySem.W.nsIn K mainGlobals "_law_act" = some (some (.ref f_l_act)))
    (l_l_act : K.lookup f_l_act = some ⟨oc_l_act, od_l_act, .func (PySem.W.fnOf "_law_act" "_law_act" (defArgs s_l_act) (defBody s_l_act) (defScope s_l_act) .none kV_l_act dc_l_act pm_l_act an_l_act cd_l_act ct_l_act), sl_l_act⟩)
    (c_l_act : PySem.W.codeIn K cd_l_act "_law_act" = true)
    (k_l_act : PySem.W.keepIn K (.ref f_l_act) = true)
    (a_l_tick : PySem.W.nsIn K mainGlobals "_law_tick" = some (some (.ref f_l_tick)))
    (l_l_tick : K.lookup f_l_tick = some ⟨oc_l_tick, od_l_tick, .func (PySem.W.fnOf "_law_tick" "_law_tick" (defArgs s_l_tick) (defBody s_l_tick) (defScope s_l_tick) .none kV_l_tick dc_l_tick pm_l_tick an_l_tick cd_l_tick ct_l_tick), sl_l_tick⟩)
    (c_l_tick : PySem.W.codeIn K cd_l_tick "_law_tick" = true)
    (k_l_tick : PySem.W.keepIn K (.ref f_l_tick) = true)
    (a_l_repeats : PySem.W.nsIn K mainGlobals "_law_repeats" = some (some (.ref f_l_repeats)))
    (l_l_repeats : K.lookup f_l_repeats = some ⟨oc_l_repeats, od_l_repeats, .func (PySem.W.fnOf "_law_repeats" "_law_repeats" (defArgs s_l_repeats) (defBody s_l_repeats) (defScope s_l_repeats) .none kV_l_repeats dc_l_repeats pm_l_repeats an_l_repeats cd_l_repeats ct_l_repeats), sl_l_repeats⟩)
    (c_l_repeats : PySem.W.codeIn K cd_l_repeats "_law_repeats" = true)
    (k_l_repeats : PySem.W.keepIn K (.ref f_l_repeats) = true)
    (a_l_steps : PySem.W.nsIn K mainGlobals "_law_steps" = some (some (.ref f_l_steps)))
    (l_l_steps : K.lookup f_l_steps = some ⟨oc_l_steps, od_l_steps, .func (PySem.W.fnOf "_law_steps" "_law_steps" (defArgs s_l_steps) (defBody s_l_steps) (defScope s_l_steps) .none kV_l_steps dc_l_steps pm_l_steps an_l_steps cd_l_steps ct_l_steps), sl_l_steps⟩)
    (c_l_steps : PySem.W.codeIn K cd_l_steps "_law_steps" = true)
    (k_l_steps : PySem.W.keepIn K (.ref f_l_steps) = true)
    (a_l_plan : PySem.W.nsIn K mainGlobals "_law_plan" = some (some (.ref f_l_plan)))
    (l_l_plan : K.lookup f_l_plan = some ⟨oc_l_plan, od_l_plan, .func (PySem.W.fnOf "_law_plan" "_law_plan" (defArgs s_l_plan) (defBody s_l_plan) (defScope s_l_plan) .none kV_l_plan dc_l_plan pm_l_plan an_l_plan cd_l_plan ct_l_plan), sl_l_plan⟩)
    (c_l_plan : PySem.W.codeIn K cd_l_plan "_law_plan" = true)
    (k_l_plan : PySem.W.keepIn K (.ref f_l_plan) = true)
    (a_l_doubled : PySem.W.nsIn K mainGlobals "_law_doubled" = some (some (.ref f_l_doubled)))
    (l_l_doubled : K.lookup f_l_doubled = some ⟨oc_l_doubled, od_l_doubled, .func (PySem.W.fnOf "_law_doubled" "_law_doubled" (defArgs s_l_doubled) (defBody s_l_doubled) (defScope s_l_doubled) .none kV_l_doubled dc_l_doubled pm_l_doubled an_l_doubled cd_l_doubled ct_l_doubled), sl_l_doubled⟩)
    (c_l_doubled : PySem.W.codeIn K cd_l_doubled "_law_doubled" = true)
    (k_l_doubled : PySem.W.keepIn K (.ref f_l_doubled) = true)
    (a_l_other : PySem.W.nsIn K mainGlobals "_law_other" = some (some (.ref f_l_other)))
    (l_l_other : K.lookup f_l_other = some ⟨oc_l_other, od_l_other, .func (PySem.W.fnOf "_law_other" "_law_other" (defArgs s_l_other) (defBody s_l_other) (defScope s_l_other) .none kV_l_other dc_l_other pm_l_other an_l_other cd_l_other ct_l_other), sl_l_other⟩)
    (c_l_other : PySem.W.codeIn K cd_l_other "_law_other" = true)
    (k_l_other : PySem.W.keepIn K (.ref f_l_other) = true)
    (pa_Story_size : PySem.W.findIn K (.ref C_Story) "size" = some (some (.ref p_Story_size)))
    (pg_Story_size : PySem.W.specialIn K (.ref p_Story_size) "__get__" = some (some (.builtin "property.__get__")))
    (pt_Story_size : PySem.W.takesIn K (.ref p_Story_size) = some true)
    (pr_Story_size : PySem.W.recIn K p_Story_size "property" = some (.ref f_Story_size :: rs_Story_size))
    (l_Story_size : K.lookup f_Story_size = some ⟨oc_Story_size, od_Story_size, .func (PySem.W.fnOf "size" "Story.size" (defArgs s_Story_size) (defBody s_Story_size) (defScope s_Story_size) .none kV_Story_size dc_Story_size pm_Story_size an_Story_size cd_Story_size ct_Story_size), sl_Story_size⟩)
    (c_Story_size : PySem.W.codeIn K cd_Story_size "Story.size" = true)
    (k_Story_size : PySem.W.keepIn K (.ref f_Story_size) = true)
    (a_Parser_peek : PySem.W.findIn K (.ref C_Parser) "peek" = some (some (.ref f_Parser_peek)))
    (i_Parser_peek : PySem.W.isFn K (.ref f_Parser_peek) = true)
    (l_Parser_peek : K.lookup f_Parser_peek = some ⟨oc_Parser_peek, od_Parser_peek, .func (PySem.W.fnOf "peek" "Parser.peek" (defArgs s_Parser_peek) (defBody s_Parser_peek) (defScope s_Parser_peek) .none kV_Parser_peek dc_Parser_peek pm_Parser_peek an_Parser_peek cd_Parser_peek ct_Parser_peek), sl_Parser_peek⟩)
    (c_Parser_peek : PySem.W.codeIn K cd_Parser_peek "Parser.peek" = true)
    (k_Parser_peek : PySem.W.keepIn K (.ref f_Parser_peek) = true)
    (a_Token_init : PySem.W.findIn K (.ref C_Token) "__init__" = some (some (.ref f_Token_init)))
    (i_Token_init : PySem.W.isFn K (.ref f_Token_init) = true)
    (l_Token_init : K.lookup f_Token_init = some ⟨oc_Token_init, od_Token_init, .func (PySem.W.fnOf "__init__" "Token.__init__" (defArgs s_Token_init) (defBody s_Token_init) (defScope s_Token_init) .none kV_Token_init dc_Token_init pm_Token_init an_Token_init cd_Token_init ct_Token_init), sl_Token_init⟩)
    (c_Token_init : PySem.W.codeIn K cd_Token_init "Token.__init__" = true)
    (k_Token_init : PySem.W.keepIn K (.ref f_Token_init) = true)
    (a_Robot_init : PySem.W.findIn K (.ref C_Robot) "__init__" = some (some (.ref f_Robot_init)))
    (i_Robot_init : PySem.W.isFn K (.ref f_Robot_init) = true)
    (l_Robot_init : K.lookup f_Robot_init = some ⟨oc_Robot_init, od_Robot_init, .func (PySem.W.fnOf "__init__" "Robot.__init__" (defArgs s_Robot_init) (defBody s_Robot_init) (defScope s_Robot_init) .none kV_Robot_init dc_Robot_init pm_Robot_init an_Robot_init cd_Robot_init ct_Robot_init), sl_Robot_init⟩)
    (c_Robot_init : PySem.W.codeIn K cd_Robot_init "Robot.__init__" = true)
    (k_Robot_init : PySem.W.keepIn K (.ref f_Robot_init) = true)
    (a_Plan_init : PySem.W.findIn K (.ref C_Plan) "__init__" = some (some (.ref f_Plan_init)))
    (i_Plan_init : PySem.W.isFn K (.ref f_Plan_init) = true)
    (l_Plan_init : K.lookup f_Plan_init = some ⟨oc_Plan_init, od_Plan_init, .func (PySem.W.fnOf "__init__" "Plan.__init__" (defArgs s_Plan_init) (defBody s_Plan_init) (defScope s_Plan_init) .none kV_Plan_init dc_Plan_init pm_Plan_init an_Plan_init cd_Plan_init ct_Plan_init), sl_Plan_init⟩)
    (c_Plan_init : PySem.W.codeIn K cd_Plan_init "Plan.__init__" = true)
    (k_Plan_init : PySem.W.keepIn K (.ref f_Plan_init) = true)
    (a_Parser_init : PySem.W.findIn K (.ref C_Parser) "__init__" = some (some (.ref f_Parser_init)))
    (i_Parser_init : PySem.W.isFn K (.ref f_Parser_init) = true)
    (l_Parser_init : K.lookup f_Parser_init = some ⟨oc_Parser_init, od_Parser_init, .func (PySem.W.fnOf "__init__" "Parser.__init__" (defArgs s_Parser_init) (defBody s_Parser_init) (defScope s_Parser_init) .none kV_Parser_init dc_Parser_init pm_Parser_init an_Parser_init cd_Parser_init ct_Parser_init), sl_Parser_init⟩)
    (c_Parser_init : PySem.W.codeIn K cd_Parser_init "Parser.__init__" = true)
    (k_Parser_init : PySem.W.keepIn K (.ref f_Parser_init) = true)
    (a_is_int_in : PySem.W.nsIn K mainGlobals "is_int_in" = some (some (.ref f_is_int_in)))
    (l_is_int_in : K.lookup f_is_int_in = some ⟨oc_is_int_in, od_is_int_in, .func (PySem.W.fnOf "is_int_in" "is_int_in" (defArgs s_is_int_in) (defBody s_is_int_in) (defScope s_is_int_in) .none kV_is_int_in dc_is_int_in pm_is_int_in an_is_int_in cd_is_int_in ct_is_int_in), sl_is_int_in⟩)
    (c_is_int_in : PySem.W.codeIn K cd_is_int_in "is_int_in" = true)
    (k_is_int_in : PySem.W.keepIn K (.ref f_is_int_in) = true)
    (a_check_tick : PySem.W.nsIn K mainGlobals "check_tick" = some (some (.ref f_check_tick)))
    (l_check_tick : K.lookup f_check_tick = some ⟨oc_check_tick, od_check_tick, .func (PySem.W.fnOf "check_tick" "check_tick" (defArgs s_check_tick) (defBody s_check_tick) (defScope s_check_tick) .none kV_check_tick dc_check_tick pm_check_tick an_check_tick cd_check_tick ct_check_tick), sl_check_tick⟩)
    (c_check_tick : PySem.W.codeIn K cd_check_tick "check_tick" = true)
    (k_check_tick : PySem.W.keepIn K (.ref f_check_tick) = true)
    (a_Story_happens : PySem.W.findIn K (.ref C_Story) "happens" = some (some (.ref f_Story_happens)))
    (i_Story_happens : PySem.W.isFn K (.ref f_Story_happens) = true)
    (l_Story_happens : K.lookup f_Story_happens = some ⟨oc_Story_happens, od_Story_happens, .func (PySem.W.fnOf "happens" "Story.happens" (defArgs s_Story_happens) (defBody s_Story_happens) (defScope s_Story_happens) .none kV_Story_happens dc_Story_happens pm_Story_happens an_Story_happens cd_Story_happens ct_Story_happens), sl_Story_happens⟩)
    (c_Story_happens : PySem.W.codeIn K cd_Story_happens "Story.happens" = true)
    (k_Story_happens : PySem.W.keepIn K (.ref f_Story_happens) = true)
    (a_first_state : PySem.W.nsIn K mainGlobals "first_state" = some (some (.ref f_first_state)))
    (l_first_state : K.lookup f_first_state = some ⟨oc_first_state, od_first_state, .func (PySem.W.fnOf "first_state" "first_state" (defArgs s_first_state) (defBody s_first_state) (defScope s_first_state) .none kV_first_state dc_first_state pm_first_state an_first_state cd_first_state ct_first_state), sl_first_state⟩)
    (c_first_state : PySem.W.codeIn K cd_first_state "first_state" = true)
    (k_first_state : PySem.W.keepIn K (.ref f_first_state) = true)
    (pa_State_key : PySem.W.findIn K (.ref C_State) "key" = some (some (.ref p_State_key)))
    (pg_State_key : PySem.W.specialIn K (.ref p_State_key) "__get__" = some (some (.builtin "property.__get__")))
    (pt_State_key : PySem.W.takesIn K (.ref p_State_key) = some true)
    (pr_State_key : PySem.W.recIn K p_State_key "property" = some (.ref f_State_key :: rs_State_key))
    (l_State_key : K.lookup f_State_key = some ⟨oc_State_key, od_State_key, .func (PySem.W.fnOf "key" "State.key" (defArgs s_State_key) (defBody s_State_key) (defScope s_State_key) .none kV_State_key dc_State_key pm_State_key an_State_key cd_State_key ct_State_key), sl_State_key⟩)
    (c_State_key : PySem.W.codeIn K cd_State_key "State.key" = true)
    (k_State_key : PySem.W.keepIn K (.ref f_State_key) = true)
    (a_replaced : PySem.W.nsIn K mainGlobals "replaced" = some (some (.ref f_replaced)))
    (l_replaced : K.lookup f_replaced = some ⟨oc_replaced, od_replaced, .func (PySem.W.fnOf "replaced" "replaced" (defArgs s_replaced) (defBody s_replaced) (defScope s_replaced) .none kV_replaced dc_replaced pm_replaced an_replaced cd_replaced ct_replaced), sl_replaced⟩)
    (c_replaced : PySem.W.codeIn K cd_replaced "replaced" = true)
    (k_replaced : PySem.W.keepIn K (.ref f_replaced) = true)
    (a_act : PySem.W.nsIn K mainGlobals "act" = some (some (.ref f_act)))
    (l_act : K.lookup f_act = some ⟨oc_act, od_act, .func (PySem.W.fnOf "act" "act" (defArgs s_act) (defBody s_act) (defScope s_act) .none kV_act dc_act pm_act an_act cd_act ct_act), sl_act⟩)
    (c_act : PySem.W.codeIn K cd_act "act" = true)
    (k_act : PySem.W.keepIn K (.ref f_act) = true)
    (a_Tick_init : PySem.W.findIn K (.ref C_Tick) "__init__" = some (some (.ref f_Tick_init)))
    (i_Tick_init : PySem.W.isFn K (.ref f_Tick_init) = true)
    (l_Tick_init : K.lookup f_Tick_init = some ⟨oc_Tick_init, od_Tick_init, .func (PySem.W.fnOf "__init__" "Tick.__init__" (defArgs s_Tick_init) (defBody s_Tick_init) (defScope s_Tick_init) .none kV_Tick_init dc_Tick_init pm_Tick_init an_Tick_init cd_Tick_init ct_Tick_init), sl_Tick_init⟩)
    (c_Tick_init : PySem.W.codeIn K cd_Tick_init "Tick.__init__" = true)
    (k_Tick_init : PySem.W.keepIn K (.ref f_Tick_init) = true)
    (a_next_tick : PySem.W.nsIn K mainGlobals "next_tick" = some (some (.ref f_next_tick)))
    (l_next_tick : K.lookup f_next_tick = some ⟨oc_next_tick, od_next_tick, .func (PySem.W.fnOf "next_tick" "next_tick" (defArgs s_next_tick) (defBody s_next_tick) (defScope s_next_tick) .none kV_next_tick dc_next_tick pm_next_tick an_next_tick cd_next_tick ct_next_tick), sl_next_tick⟩)
    (c_next_tick : PySem.W.codeIn K cd_next_tick "next_tick" = true)
    (k_next_tick : PySem.W.keepIn K (.ref f_next_tick) = true)
    (a_Story_init : PySem.W.findIn K (.ref C_Story) "__init__" = some (some (.ref f_Story_init)))
    (i_Story_init : PySem.W.isFn K (.ref f_Story_init) = true)
    (l_Story_init : K.lookup f_Story_init = some ⟨oc_Story_init, od_Story_init, .func (PySem.W.fnOf "__init__" "Story.__init__" (defArgs s_Story_init) (defBody s_Story_init) (defScope s_Story_init) .none kV_Story_init dc_Story_init pm_Story_init an_Story_init cd_Story_init ct_Story_init), sl_Story_init⟩)
    (c_Story_init : PySem.W.codeIn K cd_Story_init "Story.__init__" = true)
    (k_Story_init : PySem.W.keepIn K (.ref f_Story_init) = true)
    (a_cells : PySem.W.nsIn K mainGlobals "cells" = some (some (.ref f_cells)))
    (l_cells : K.lookup f_cells = some ⟨oc_cells, od_cells, .func (PySem.W.fnOf "cells" "cells" (defArgs s_cells) (defBody s_cells) (defScope s_cells) .none kV_cells dc_cells pm_cells an_cells cd_cells ct_cells), sl_cells⟩)
    (c_cells : PySem.W.codeIn K cd_cells "cells" = true)
    (k_cells : PySem.W.keepIn K (.ref f_cells) = true)
    (a_State_init : PySem.W.findIn K (.ref C_State) "__init__" = some (some (.ref f_State_init)))
    (i_State_init : PySem.W.isFn K (.ref f_State_init) = true)
    (l_State_init : K.lookup f_State_init = some ⟨oc_State_init, od_State_init, .func (PySem.W.fnOf "__init__" "State.__init__" (defArgs s_State_init) (defBody s_State_init) (defScope s_State_init) .none kV_State_init dc_State_init pm_State_init an_State_init cd_State_init ct_State_init), sl_State_init⟩)
    (c_State_init : PySem.W.codeIn K cd_State_init "State.__init__" = true)
    (k_State_init : PySem.W.keepIn K (.ref f_State_init) = true)
    (a_Parser_fail : PySem.W.findIn K (.ref C_Parser) "fail" = some (some (.ref f_Parser_fail)))
    (i_Parser_fail : PySem.W.isFn K (.ref f_Parser_fail) = true)
    (l_Parser_fail : K.lookup f_Parser_fail = some ⟨oc_Parser_fail, od_Parser_fail, .func (PySem.W.fnOf "fail" "Parser.fail" (defArgs s_Parser_fail) (defBody s_Parser_fail) (defScope s_Parser_fail) .none kV_Parser_fail dc_Parser_fail pm_Parser_fail an_Parser_fail cd_Parser_fail ct_Parser_fail), sl_Parser_fail⟩)
    (c_Parser_fail : PySem.W.codeIn K cd_Parser_fail "Parser.fail" = true)
    (k_Parser_fail : PySem.W.keepIn K (.ref f_Parser_fail) = true)
    (a_Parser_take_word : PySem.W.findIn K (.ref C_Parser) "take_word" = some (some (.ref f_Parser_take_word)))
    (i_Parser_take_word : PySem.W.isFn K (.ref f_Parser_take_word) = true)
    (l_Parser_take_word : K.lookup f_Parser_take_word = some ⟨oc_Parser_take_word, od_Parser_take_word, .func (PySem.W.fnOf "take_word" "Parser.take_word" (defArgs s_Parser_take_word) (defBody s_Parser_take_word) (defScope s_Parser_take_word) .none kV_Parser_take_word dc_Parser_take_word pm_Parser_take_word an_Parser_take_word cd_Parser_take_word ct_Parser_take_word), sl_Parser_take_word⟩)
    (c_Parser_take_word : PySem.W.codeIn K cd_Parser_take_word "Parser.take_word" = true)
    (k_Parser_take_word : PySem.W.keepIn K (.ref f_Parser_take_word) = true)
    (a_Parser_take : PySem.W.findIn K (.ref C_Parser) "take" = some (some (.ref f_Parser_take)))
    (i_Parser_take : PySem.W.isFn K (.ref f_Parser_take) = true)
    (l_Parser_take : K.lookup f_Parser_take = some ⟨oc_Parser_take, od_Parser_take, .func (PySem.W.fnOf "take" "Parser.take" (defArgs s_Parser_take) (defBody s_Parser_take) (defScope s_Parser_take) .none kV_Parser_take dc_Parser_take pm_Parser_take an_Parser_take cd_Parser_take ct_Parser_take), sl_Parser_take⟩)
    (c_Parser_take : PySem.W.codeIn K cd_Parser_take "Parser.take" = true)
    (k_Parser_take : PySem.W.keepIn K (.ref f_Parser_take) = true)
    (a_Parser_found : PySem.W.findIn K (.ref C_Parser) "found" = some (some (.ref f_Parser_found)))
    (i_Parser_found : PySem.W.isFn K (.ref f_Parser_found) = true)
    (l_Parser_found : K.lookup f_Parser_found = some ⟨oc_Parser_found, od_Parser_found, .func (PySem.W.fnOf "found" "Parser.found" (defArgs s_Parser_found) (defBody s_Parser_found) (defScope s_Parser_found) .none kV_Parser_found dc_Parser_found pm_Parser_found an_Parser_found cd_Parser_found ct_Parser_found), sl_Parser_found⟩)
    (c_Parser_found : PySem.W.codeIn K cd_Parser_found "Parser.found" = true)
    (k_Parser_found : PySem.W.keepIn K (.ref f_Parser_found) = true)
    (a_Parser_parse_shelf : PySem.W.findIn K (.ref C_Parser) "parse_shelf" = some (some (.ref f_Parser_parse_shelf)))
    (i_Parser_parse_shelf : PySem.W.isFn K (.ref f_Parser_parse_shelf) = true)
    (l_Parser_parse_shelf : K.lookup f_Parser_parse_shelf = some ⟨oc_Parser_parse_shelf, od_Parser_parse_shelf, .func (PySem.W.fnOf "parse_shelf" "Parser.parse_shelf" (defArgs s_Parser_parse_shelf) (defBody s_Parser_parse_shelf) (defScope s_Parser_parse_shelf) .none kV_Parser_parse_shelf dc_Parser_parse_shelf pm_Parser_parse_shelf an_Parser_parse_shelf cd_Parser_parse_shelf ct_Parser_parse_shelf), sl_Parser_parse_shelf⟩)
    (c_Parser_parse_shelf : PySem.W.codeIn K cd_Parser_parse_shelf "Parser.parse_shelf" = true)
    (k_Parser_parse_shelf : PySem.W.keepIn K (.ref f_Parser_parse_shelf) = true)
    (a_Parser_parse_step : PySem.W.findIn K (.ref C_Parser) "parse_step" = some (some (.ref f_Parser_parse_step)))
    (i_Parser_parse_step : PySem.W.isFn K (.ref f_Parser_parse_step) = true)
    (l_Parser_parse_step : K.lookup f_Parser_parse_step = some ⟨oc_Parser_parse_step, od_Parser_parse_step, .func (PySem.W.fnOf "parse_step" "Parser.parse_step" (defArgs s_Parser_parse_step) (defBody s_Parser_parse_step) (defScope s_Parser_parse_step) .none kV_Parser_parse_step dc_Parser_parse_step pm_Parser_parse_step an_Parser_parse_step cd_Parser_parse_step ct_Parser_parse_step), sl_Parser_parse_step⟩)
    (c_Parser_parse_step : PySem.W.codeIn K cd_Parser_parse_step "Parser.parse_step" = true)
    (k_Parser_parse_step : PySem.W.keepIn K (.ref f_Parser_parse_step) = true)
    (a_Parser_parse_robot : PySem.W.findIn K (.ref C_Parser) "parse_robot" = some (some (.ref f_Parser_parse_robot)))
    (i_Parser_parse_robot : PySem.W.isFn K (.ref f_Parser_parse_robot) = true)
    (l_Parser_parse_robot : K.lookup f_Parser_parse_robot = some ⟨oc_Parser_parse_robot, od_Parser_parse_robot, .func (PySem.W.fnOf "parse_robot" "Parser.parse_robot" (defArgs s_Parser_parse_robot) (defBody s_Parser_parse_robot) (defScope s_Parser_parse_robot) .none kV_Parser_parse_robot dc_Parser_parse_robot pm_Parser_parse_robot an_Parser_parse_robot cd_Parser_parse_robot ct_Parser_parse_robot), sl_Parser_parse_robot⟩)
    (c_Parser_parse_robot : PySem.W.codeIn K cd_Parser_parse_robot "Parser.parse_robot" = true)
    (k_Parser_parse_robot : PySem.W.keepIn K (.ref f_Parser_parse_robot) = true)
    (a_Parser_parse_plan : PySem.W.findIn K (.ref C_Parser) "parse_plan" = some (some (.ref f_Parser_parse_plan)))
    (i_Parser_parse_plan : PySem.W.isFn K (.ref f_Parser_parse_plan) = true)
    (l_Parser_parse_plan : K.lookup f_Parser_parse_plan = some ⟨oc_Parser_parse_plan, od_Parser_parse_plan, .func (PySem.W.fnOf "parse_plan" "Parser.parse_plan" (defArgs s_Parser_parse_plan) (defBody s_Parser_parse_plan) (defScope s_Parser_parse_plan) .none kV_Parser_parse_plan dc_Parser_parse_plan pm_Parser_parse_plan an_Parser_parse_plan cd_Parser_parse_plan ct_Parser_parse_plan), sl_Parser_parse_plan⟩)
    (c_Parser_parse_plan : PySem.W.codeIn K cd_Parser_parse_plan "Parser.parse_plan" = true)
    (k_Parser_parse_plan : PySem.W.keepIn K (.ref f_Parser_parse_plan) = true)
    (a_run_end : PySem.W.nsIn K mainGlobals "run_end" = some (some (.ref f_run_end)))
    (l_run_end : K.lookup f_run_end = some ⟨oc_run_end, od_run_end, .func (PySem.W.fnOf "run_end" "run_end" (defArgs s_run_end) (defBody s_run_end) (defScope s_run_end) .none kV_run_end dc_run_end pm_run_end an_run_end cd_run_end ct_run_end), sl_run_end⟩)
    (c_run_end : PySem.W.codeIn K cd_run_end "run_end" = true)
    (k_run_end : PySem.W.keepIn K (.ref f_run_end) = true)
    (a_read_token : PySem.W.nsIn K mainGlobals "read_token" = some (some (.ref f_read_token)))
    (l_read_token : K.lookup f_read_token = some ⟨oc_read_token, od_read_token, .func (PySem.W.fnOf "read_token" "read_token" (defArgs s_read_token) (defBody s_read_token) (defScope s_read_token) .none kV_read_token dc_read_token pm_read_token an_read_token cd_read_token ct_read_token), sl_read_token⟩)
    (c_read_token : PySem.W.codeIn K cd_read_token "read_token" = true)
    (k_read_token : PySem.W.keepIn K (.ref f_read_token) = true)
    (a_tokenize : PySem.W.nsIn K mainGlobals "tokenize" = some (some (.ref f_tokenize)))
    (l_tokenize : K.lookup f_tokenize = some ⟨oc_tokenize, od_tokenize, .func (PySem.W.fnOf "tokenize" "tokenize" (defArgs s_tokenize) (defBody s_tokenize) (defScope s_tokenize) .none kV_tokenize dc_tokenize pm_tokenize an_tokenize cd_tokenize ct_tokenize), sl_tokenize⟩)
    (c_tokenize : PySem.W.codeIn K cd_tokenize "tokenize" = true)
    (k_tokenize : PySem.W.keepIn K (.ref f_tokenize) = true)
    (a_load : PySem.W.nsIn K mainGlobals "load" = some (some (.ref f_load)))
    (l_load : K.lookup f_load = some ⟨oc_load, od_load, .func (PySem.W.fnOf "load" "load" (defArgs s_load) (defBody s_load) (defScope s_load) .none kV_load dc_load pm_load an_load cd_load ct_load), sl_load⟩)
    (c_load : PySem.W.codeIn K cd_load "load" = true)
    (k_load : PySem.W.keepIn K (.ref f_load) = true)
    (a_first_difference : PySem.W.nsIn K mainGlobals "first_difference" = some (some (.ref f_first_difference)))
    (l_first_difference : K.lookup f_first_difference = some ⟨oc_first_difference, od_first_difference, .func (PySem.W.fnOf "first_difference" "first_difference" (defArgs s_first_difference) (defBody s_first_difference) (defScope s_first_difference) .none kV_first_difference dc_first_difference pm_first_difference an_first_difference cd_first_difference ct_first_difference), sl_first_difference⟩)
    (c_first_difference : PySem.W.codeIn K cd_first_difference "first_difference" = true)
    (k_first_difference : PySem.W.keepIn K (.ref f_first_difference) = true)
    (a_l_text : PySem.W.nsIn K mainGlobals "_law_text" = some (some (.ref f_l_text)))
    (l_l_text : K.lookup f_l_text = some ⟨oc_l_text, od_l_text, .func (PySem.W.fnOf "_law_text" "_law_text" (defArgs s_l_text) (defBody s_l_text) (defScope s_l_text) .none kV_l_text dc_l_text pm_l_text an_l_text cd_l_text ct_l_text), sl_l_text⟩)
    (c_l_text : PySem.W.codeIn K cd_l_text "_law_text" = true)
    (k_l_text : PySem.W.keepIn K (.ref f_l_text) = true)
    (a_first_error : PySem.W.nsIn K mainGlobals "first_error" = some (some (.ref f_first_error)))
    (l_first_error : K.lookup f_first_error = some ⟨oc_first_error, od_first_error, .func (PySem.W.fnOf "first_error" "first_error" (defArgs s_first_error) (defBody s_first_error) (defScope s_first_error) .none kV_first_error dc_first_error pm_first_error an_first_error cd_first_error ct_first_error), sl_first_error⟩)
    (c_first_error : PySem.W.codeIn K cd_first_error "first_error" = true)
    (k_first_error : PySem.W.keepIn K (.ref f_first_error) = true)
    (a_boxes : PySem.W.nsIn K mainGlobals "boxes" = some (some (.ref f_boxes)))
    (l_boxes : K.lookup f_boxes = some ⟨oc_boxes, od_boxes, .func (PySem.W.fnOf "boxes" "boxes" (defArgs s_boxes) (defBody s_boxes) (defScope s_boxes) .none kV_boxes dc_boxes pm_boxes an_boxes cd_boxes ct_boxes), sl_boxes⟩)
    (c_boxes : PySem.W.codeIn K cd_boxes "boxes" = true)
    (k_boxes : PySem.W.keepIn K (.ref f_boxes) = true)
    (a_trace : PySem.W.nsIn K mainGlobals "trace" = some (some (.ref f_trace)))
    (l_trace : K.lookup f_trace = some ⟨oc_trace, od_trace, .func (PySem.W.fnOf "trace" "trace" (defArgs s_trace) (defBody s_trace) (defScope s_trace) .none kV_trace dc_trace pm_trace an_trace cd_trace ct_trace), sl_trace⟩)
    (c_trace : PySem.W.codeIn K cd_trace "trace" = true)
    (k_trace : PySem.W.keepIn K (.ref f_trace) = true)
    (a_law : PySem.W.nsIn K mainGlobals "law" = some (some (.ref f_law)))
    (l_law : K.lookup f_law = some ⟨oc_law, od_law, .func (PySem.W.fnOf "law" "law" (defArgs s_law) (defBody s_law) (defScope s_law) .none kV_law dc_law pm_law an_law cd_law ct_law), sl_law⟩)
    (c_law : PySem.W.codeIn K cd_law "law" = true)
    (k_law : PySem.W.keepIn K (.ref f_law) = true)
    (pg_Token : PySem.W.plainGet K C_Token Str.empty = true)
    (hd_Token : PySem.W.hasDictIn K C_Token = true)
    (po_Token : PySem.W.plainOver K C_Token = true)
    (sa_Token : PySem.W.findIn K (.ref C_Token) "__setattr__" = some (some (.builtin "object.__setattr__")))
    (mk_Token : PySem.W.makesIn K C_Token = true)
    (kc_Token : PySem.W.keepIn K (.ref C_Token) = true)
    (n_Token_kind : PySem.W.findIn K (.ref C_Token) "kind" = some none)
    (n_Token_text : PySem.W.findIn K (.ref C_Token) "text" = some none)
    (n_Token_line : PySem.W.findIn K (.ref C_Token) "line" = some none)
    (n_Token_column : PySem.W.findIn K (.ref C_Token) "column" = some none)
    (pg_Robot : PySem.W.plainGet K C_Robot Str.empty = true)
    (hd_Robot : PySem.W.hasDictIn K C_Robot = true)
    (po_Robot : PySem.W.plainOver K C_Robot = true)
    (sa_Robot : PySem.W.findIn K (.ref C_Robot) "__setattr__" = some (some (.builtin "object.__setattr__")))
    (mk_Robot : PySem.W.makesIn K C_Robot = true)
    (kc_Robot : PySem.W.keepIn K (.ref C_Robot) = true)
    (n_Robot_start : PySem.W.findIn K (.ref C_Robot) "start" = some none)
    (n_Robot_steps : PySem.W.findIn K (.ref C_Robot) "steps" = some none)
    (n_Robot_names : PySem.W.findIn K (.ref C_Robot) "names" = some none)
    (pg_Plan : PySem.W.plainGet K C_Plan Str.empty = true)
    (hd_Plan : PySem.W.hasDictIn K C_Plan = true)
    (po_Plan : PySem.W.plainOver K C_Plan = true)
    (sa_Plan : PySem.W.findIn K (.ref C_Plan) "__setattr__" = some (some (.builtin "object.__setattr__")))
    (mk_Plan : PySem.W.makesIn K C_Plan = true)
    (kc_Plan : PySem.W.keepIn K (.ref C_Plan) = true)
    (n_Plan_shelf : PySem.W.findIn K (.ref C_Plan) "shelf" = some none)
    (n_Plan_robots : PySem.W.findIn K (.ref C_Plan) "robots" = some none)
    (pg_Parser : PySem.W.plainGet K C_Parser Str.empty = true)
    (hd_Parser : PySem.W.hasDictIn K C_Parser = true)
    (po_Parser : PySem.W.plainOver K C_Parser = true)
    (sa_Parser : PySem.W.findIn K (.ref C_Parser) "__setattr__" = some (some (.builtin "object.__setattr__")))
    (mk_Parser : PySem.W.makesIn K C_Parser = true)
    (kc_Parser : PySem.W.keepIn K (.ref C_Parser) = true)
    (n_Parser_tokens : PySem.W.findIn K (.ref C_Parser) "tokens" = some none)
    (n_Parser_at : PySem.W.findIn K (.ref C_Parser) "at" = some none)
    (n_Parser_faults : PySem.W.findIn K (.ref C_Parser) "faults" = some none)
    (pg_State : PySem.W.plainGet K C_State Str.empty = true)
    (hd_State : PySem.W.hasDictIn K C_State = true)
    (po_State : PySem.W.plainOver K C_State = true)
    (sa_State : PySem.W.findIn K (.ref C_State) "__setattr__" = some (some (.builtin "object.__setattr__")))
    (mk_State : PySem.W.makesIn K C_State = true)
    (kc_State : PySem.W.keepIn K (.ref C_State) = true)
    (n_State_cells : PySem.W.findIn K (.ref C_State) "cells" = some none)
    (n_State_nexts : PySem.W.findIn K (.ref C_State) "nexts" = some none)
    (n_State_holds : PySem.W.findIn K (.ref C_State) "holds" = some none)
    (n_State_shelf : PySem.W.findIn K (.ref C_State) "shelf" = some none)
    (pg_Tick : PySem.W.plainGet K C_Tick Str.empty = true)
    (hd_Tick : PySem.W.hasDictIn K C_Tick = true)
    (po_Tick : PySem.W.plainOver K C_Tick = true)
    (sa_Tick : PySem.W.findIn K (.ref C_Tick) "__setattr__" = some (some (.builtin "object.__setattr__")))
    (mk_Tick : PySem.W.makesIn K C_Tick = true)
    (kc_Tick : PySem.W.keepIn K (.ref C_Tick) = true)
    (n_Tick_words : PySem.W.findIn K (.ref C_Tick) "words" = some none)
    (n_Tick_state : PySem.W.findIn K (.ref C_Tick) "state" = some none)
    (pg_Story : PySem.W.plainGet K C_Story Str.empty = true)
    (hd_Story : PySem.W.hasDictIn K C_Story = true)
    (po_Story : PySem.W.plainOver K C_Story = true)
    (sa_Story : PySem.W.findIn K (.ref C_Story) "__setattr__" = some (some (.builtin "object.__setattr__")))
    (mk_Story : PySem.W.makesIn K C_Story = true)
    (kc_Story : PySem.W.keepIn K (.ref C_Story) = true)
    (n_Story_ticks : PySem.W.findIn K (.ref C_Story) "ticks" = some none)
    (n_Story_start : PySem.W.findIn K (.ref C_Story) "start" = some none)
    (z_len : PySem.W.nsIn K mainGlobals "len" = some none)
    (z_abs : PySem.W.nsIn K mainGlobals "abs" = some none)
    (z_range : PySem.W.nsIn K mainGlobals "range" = some none)
    (z_str : PySem.W.nsIn K mainGlobals "str" = some none)
    (z_int : PySem.W.nsIn K mainGlobals "int" = some none)
    (z_tuple : PySem.W.nsIn K mainGlobals "tuple" = some none)
    (z_list : PySem.W.nsIn K mainGlobals "list" = some none)
    (z_sum : PySem.W.nsIn K mainGlobals "sum" = some none)
    (z_isinstance : PySem.W.nsIn K mainGlobals "isinstance" = some none)
    (z_bool : PySem.W.nsIn K mainGlobals "bool" = some none)
    (z_enumerate : PySem.W.nsIn K mainGlobals "enumerate" = some none)
    (z_zip : PySem.W.nsIn K mainGlobals "zip" = some none)
    (z_min : PySem.W.nsIn K mainGlobals "min" = some none)
    (z_all : PySem.W.nsIn K mainGlobals "all" = some none)
    (z_divmod : PySem.W.nsIn K mainGlobals "divmod" = some none)
    (z_max : PySem.W.nsIn K mainGlobals "max" = some none)
    (z_dict : PySem.W.nsIn K mainGlobals "dict" = some none)
    (z_sorted : PySem.W.nsIn K mainGlobals "sorted" = some none)
    (a_MOVES : PySem.W.nsIn K mainGlobals "MOVES" = some (some (.ref A_MOVES)))
    (l_MOVES : K.lookup A_MOVES = some ⟨.type "tuple", none, .seq #[.str (Str.ofString "left") t0_MOVES, .str (Str.ofString "right") t1_MOVES, .str (Str.ofString "pick") t2_MOVES, .str (Str.ofString "put") t3_MOVES, .str (Str.ofString "wait") t4_MOVES] nn_MOVES, sl_MOVES⟩)
    (a_JUMPS : PySem.W.nsIn K mainGlobals "JUMPS" = some (some (.ref A_JUMPS)))
    (l_JUMPS : K.lookup A_JUMPS = some ⟨.type "tuple", none, .seq #[.str (Str.ofString "goto") t0_JUMPS, .str (Str.ofString "empty") t1_JUMPS, .str (Str.ofString "held") t2_JUMPS] nn_JUMPS, sl_JUMPS⟩)
    (a_KEYWORDS : PySem.W.nsIn K mainGlobals "KEYWORDS" = some (some (.ref A_KEYWORDS)))
    (l_KEYWORDS : K.lookup A_KEYWORDS = some ⟨.type "tuple", none, .seq #[.str (Str.ofString "shelf") t0_KEYWORDS, .str (Str.ofString "robot") t1_KEYWORDS, .str (Str.ofString "left") t2_KEYWORDS, .str (Str.ofString "right") t3_KEYWORDS, .str (Str.ofString "pick") t4_KEYWORDS, .str (Str.ofString "put") t5_KEYWORDS, .str (Str.ofString "wait") t6_KEYWORDS, .str (Str.ofString "goto") t7_KEYWORDS, .str (Str.ofString "empty") t8_KEYWORDS, .str (Str.ofString "held") t9_KEYWORDS] nn_KEYWORDS, sl_KEYWORDS⟩)
    (a_LETTERS : PySem.W.nsIn K mainGlobals "LETTERS" = some (some (.str (Str.ofString "abcdefghijklmnopqrstuvwxyz") t_LETTERS)))
    (a_DIGITS : PySem.W.nsIn K mainGlobals "DIGITS" = some (some (.str (Str.ofString "0123456789") t_DIGITS)))
    (a_SPACES : PySem.W.nsIn K mainGlobals "SPACES" = some (some (.str (Str.ofString " \n") t_SPACES)))
    (a_SIGNS : PySem.W.nsIn K mainGlobals "SIGNS" = some (some (.str (Str.ofString ";:{}") t_SIGNS)))
    (a_MAX_LETTERS : PySem.W.nsIn K mainGlobals "MAX_LETTERS" = some (some (.int 8 t_MAX_LETTERS)))
    (a_MAX_DIGITS : PySem.W.nsIn K mainGlobals "MAX_DIGITS" = some (some (.int 2 t_MAX_DIGITS)))
    (a_NAME : PySem.W.nsIn K mainGlobals "NAME" = some (some (.str (Str.ofString "name") t_NAME)))
    (a_NUMBER : PySem.W.nsIn K mainGlobals "NUMBER" = some (some (.str (Str.ofString "number") t_NUMBER)))
    (a_KEYWORD : PySem.W.nsIn K mainGlobals "KEYWORD" = some (some (.str (Str.ofString "keyword") t_KEYWORD)))
    (a_SIGN : PySem.W.nsIn K mainGlobals "SIGN" = some (some (.str (Str.ofString "sign") t_SIGN)))
    (a_END : PySem.W.nsIn K mainGlobals "END" = some (some (.str (Str.ofString "end") t_END)))
    (a_MIN_CELLS : PySem.W.nsIn K mainGlobals "MIN_CELLS" = some (some (.int 3 t_MIN_CELLS)))
    (a_MAX_CELLS : PySem.W.nsIn K mainGlobals "MAX_CELLS" = some (some (.int 12 t_MAX_CELLS)))
    (a_MAX_BOXES : PySem.W.nsIn K mainGlobals "MAX_BOXES" = some (some (.int 3 t_MAX_BOXES)))
    (a_MAX_STEPS : PySem.W.nsIn K mainGlobals "MAX_STEPS" = some (some (.int 20 t_MAX_STEPS)))
    (a_MAX_TICK : PySem.W.nsIn K mainGlobals "MAX_TICK" = some (some (.int 1000000000000000000 t_MAX_TICK)))
    (a_MAX_STATES : PySem.W.nsIn K mainGlobals "MAX_STATES" = some (some (.int 20000 t_MAX_STATES)))
    (a_MAX_TRACE : PySem.W.nsIn K mainGlobals "MAX_TRACE" = some (some (.int 500 t_MAX_TRACE)))
    (a_BLOCKED : PySem.W.nsIn K mainGlobals "BLOCKED" = some (some (.str (Str.ofString "blocked") t_BLOCKED)))
    : ∃ fd : FuncData, (∀ (s : Shared) (v : Value), BindsTo s fd ⟨[v], []⟩ [("_law_script", v)]) ∧ ∀ base : Heap, K.In base → base.Ns mainGlobals mg → FnOk l.prog w K mg base CX0 20 fa fd ["_law_script"] (spLaw K) := by
  have e := hfa.symm.trans (PySem.W.mg_of X G a_law)
  injection e with e
  injection e with e
  rw [e]
  let ad : Ad := { f_l_random := f_l_random, d_l_random := PySem.W.fnOf "_law_random" "_law_random" (defArgs s_l_random) (defBody s_l_random) (defScope s_l_random) .none kV_l_random dc_l_random pm_l_random an_l_random cd_l_random ct_l_random, f_l_below := f_l_below, d_l_below := PySem.W.fnOf "_law_below" "_law_below" (defArgs s_l_below) (defBody s_l_below) (defScope s_l_below) .none kV_l_below dc_l_below pm_l_below an_l_below cd_l_below ct_l_below, f_l_empty := f_l_empty, d_l_empty := PySem.W.fnOf "_law_empty" "_law_empty" (defArgs s_l_empty) (defBody s_l_empty) (defScope s_l_empty) .none kV_l_empty dc_l_empty pm_l_empty an_l_empty cd_l_empty ct_l_empty, f_l_act := f_l_act, d_l_act := PySem.W.fnOf "_law_act" "_law_act" (defArgs s_l_act) (defBody s_l_act) (defScope s_l_act) .none kV_l_act dc_l_act pm_l_act an_l_act cd_l_act ct_l_act, f_l_tick := f_l_tick, d_l_tick := PySem.W.fnOf "_law_tick" "_law_tick" (defArgs s_l_tick) (defBody s_l_tick) (defScope s_l_tick) .none kV_l_tick dc_l_tick pm_l_tick an_l_tick cd_l_tick ct_l_tick, f_l_repeats := f_l_repeats, d_l_repeats := PySem.W.fnOf "_law_repeats" "_law_repeats" (defArgs s_l_repeats) (defBody s_l_repeats) (defScope s_l_repeats) .none kV_l_repeats dc_l_repeats pm_l_repeats an_l_repeats cd_l_repeats ct_l_repeats, f_l_steps := f_l_steps, d_l_steps := PySem.W.fnOf "_law_steps" "_law_steps" (defArgs s_l_steps) (defBody s_l_steps) (defScope s_l_steps) .none kV_l_steps dc_l_steps pm_l_steps an_l_steps cd_l_steps ct_l_steps, f_l_plan := f_l_plan, d_l_plan := PySem.W.fnOf "_law_plan" "_law_plan" (defArgs s_l_plan) (defBody s_l_plan) (defScope s_l_plan) .none kV_l_plan dc_l_plan pm_l_plan an_l_plan cd_l_plan ct_l_plan, f_l_doubled := f_l_doubled, d_l_doubled := PySem.W.fnOf "_law_doubled" "_law_doubled" (defArgs s_l_doubled) (defBody s_l_doubled) (defScope s_l_doubled) .none kV_l_doubled dc_l_doubled pm_l_doubled an_l_doubled cd_l_doubled ct_l_doubled, f_l_other := f_l_other, d_l_other := PySem.W.fnOf "_law_other" "_law_other" (defArgs s_l_other) (defBody s_l_other) (defScope s_l_other) .none kV_l_other dc_l_other pm_l_other an_l_other cd_l_other ct_l_other, p_Story_size := p_Story_size, f_Story_size := f_Story_size, d_Story_size := PySem.W.fnOf "size" "Story.size" (defArgs s_Story_size) (defBody s_Story_size) (defScope s_Story_size) .none kV_Story_size dc_Story_size pm_Story_size an_Story_size cd_Story_size ct_Story_size, f_Parser_peek := f_Parser_peek, d_Parser_peek := PySem.W.fnOf "peek" "Parser.peek" (defArgs s_Parser_peek) (defBody s_Parser_peek) (defScope s_Parser_peek) .none kV_Parser_peek dc_Parser_peek pm_Parser_peek an_Parser_peek cd_Parser_peek ct_Parser_peek, f_Token_init := f_Token_init, d_Token_init := PySem.W.fnOf "__init__" "Token.__init__" (defArgs s_Token_init) (defBody s_Token_init) (defScope s_Token_init) .none kV_Token_init dc_Token_init pm_Token_init an_Token_init cd_Token_init ct_Token_init, f_Robot_init := f_Robot_init, d_Robot_init := PySem.W.fnOf "__init__" "Robot.__init__" (defArgs s_Robot_init) (defBody s_Robot_init) (defScope s_Robot_init) .none kV_Robot_init dc_Robot_init pm_Robot_init an_Robot_init cd_Robot_init ct_Robot_init, f_Plan_init := f_Plan_init, d_Plan_init := PySem.W.fnOf "__init__" "Plan.__init__" (defArgs s_Plan_init) (defBody s_Plan_init) (defScope s_Plan_init) .none kV_Plan_init dc_Plan_init pm_Plan_init an_Plan_init cd_Plan_init ct_Plan_init, f_Parser_init := f_Parser_init, d_Parser_init := PySem.W.fnOf "__init__" "Parser.__init__" (defArgs s_Parser_init) (defBody s_Parser_init) (defScope s_Parser_init) .none kV_Parser_init dc_Parser_init pm_Parser_init an_Parser_init cd_Parser_init ct_Parser_init, f_is_int_in := f_is_int_in, d_is_int_in := PySem.W.fnOf "is_int_in" "is_int_in" (defArgs s_is_int_in) (defBody s_is_int_in) (defScope s_is_int_in) .none kV_is_int_in dc_is_int_in pm_is_int_in an_is_int_in cd_is_int_in ct_is_int_in, f_check_tick := f_check_tick, d_check_tick := PySem.W.fnOf "check_tick" "check_tick" (defArgs s_check_tick) (defBody s_check_tick) (defScope s_check_tick) .none kV_check_tick dc_check_tick pm_check_tick an_check_tick cd_check_tick ct_check_tick, f_Story_happens := f_Story_happens, d_Story_happens := PySem.W.fnOf "happens" "Story.happens" (defArgs s_Story_happens) (defBody s_Story_happens) (defScope s_Story_happens) .none kV_Story_happens dc_Story_happens pm_Story_happens an_Story_happens cd_Story_happens ct_Story_happens, f_first_state := f_first_state, d_first_state := PySem.W.fnOf "first_state" "first_state" (defArgs s_first_state) (defBody s_first_state) (defScope s_first_state) .none kV_first_state dc_first_state pm_first_state an_first_state cd_first_state ct_first_state, p_State_key := p_State_key, f_State_key := f_State_key, d_State_key := PySem.W.fnOf "key" "State.key" (defArgs s_State_key) (defBody s_State_key) (defScope s_State_key) .none kV_State_key dc_State_key pm_State_key an_State_key cd_State_key ct_State_key, f_replaced := f_replaced, d_replaced := PySem.W.fnOf "replaced" "replaced" (defArgs s_replaced) (defBody s_replaced) (defScope s_replaced) .none kV_replaced dc_replaced pm_replaced an_replaced cd_replaced ct_replaced, f_act := f_act, d_act := PySem.W.fnOf "act" "act" (defArgs s_act) (defBody s_act) (defScope s_act) .none kV_act dc_act pm_act an_act cd_act ct_act, f_Tick_init := f_Tick_init, d_Tick_init := PySem.W.fnOf "__init__" "Tick.__init__" (defArgs s_Tick_init) (defBody s_Tick_init) (defScope s_Tick_init) .none kV_Tick_init dc_Tick_init pm_Tick_init an_Tick_init cd_Tick_init ct_Tick_init, f_next_tick := f_next_tick, d_next_tick := PySem.W.fnOf "next_tick" "next_tick" (defArgs s_next_tick) (defBody s_next_tick) (defScope s_next_tick) .none kV_next_tick dc_next_tick pm_next_tick an_next_tick cd_next_tick ct_next_tick, f_Story_init := f_Story_init, d_Story_init := PySem.W.fnOf "__init__" "Story.__init__" (defArgs s_Story_init) (defBody s_Story_init) (defScope s_Story_init) .none kV_Story_init dc_Story_init pm_Story_init an_Story_init cd_Story_init ct_Story_init, f_cells := f_cells, d_cells := PySem.W.fnOf "cells" "cells" (defArgs s_cells) (defBody s_cells) (defScope s_cells) .none kV_cells dc_cells pm_cells an_cells cd_cells ct_cells, f_State_init := f_State_init, d_State_init := PySem.W.fnOf "__init__" "State.__init__" (defArgs s_State_init) (defBody s_State_init) (defScope s_State_init) .none kV_State_init dc_State_init pm_State_init an_State_init cd_State_init ct_State_init, f_Parser_fail := f_Parser_fail, d_Parser_fail := PySem.W.fnOf "fail" "Parser.fail" (defArgs s_Parser_fail) (defBody s_Parser_fail) (defScope s_Parser_fail) .none kV_Parser_fail dc_Parser_fail pm_Parser_fail an_Parser_fail cd_Parser_fail ct_Parser_fail, f_Parser_take_word := f_Parser_take_word, d_Parser_take_word := PySem.W.fnOf "take_word" "Parser.take_word" (defArgs s_Parser_take_word) (defBody s_Parser_take_word) (defScope s_Parser_take_word) .none kV_Parser_take_word dc_Parser_take_word pm_Parser_take_word an_Parser_take_word cd_Parser_take_word ct_Parser_take_word, f_Parser_take := f_Parser_take, d_Parser_take := PySem.W.fnOf "take" "Parser.take" (defArgs s_Parser_take) (defBody s_Parser_take) (defScope s_Parser_take) .none kV_Parser_take dc_Parser_take pm_Parser_take an_Parser_take cd_Parser_take ct_Parser_take, f_Parser_found := f_Parser_found, d_Parser_found := PySem.W.fnOf "found" "Parser.found" (defArgs s_Parser_found) (defBody s_Parser_found) (defScope s_Parser_found) .none kV_Parser_found dc_Parser_found pm_Parser_found an_Parser_found cd_Parser_found ct_Parser_found, f_Parser_parse_shelf := f_Parser_parse_shelf, d_Parser_parse_shelf := PySem.W.fnOf "parse_shelf" "Parser.parse_shelf" (defArgs s_Parser_parse_shelf) (defBody s_Parser_parse_shelf) (defScope s_Parser_parse_shelf) .none kV_Parser_parse_shelf dc_Parser_parse_shelf pm_Parser_parse_shelf an_Parser_parse_shelf cd_Parser_parse_shelf ct_Parser_parse_shelf, f_Parser_parse_step := f_Parser_parse_step, d_Parser_parse_step := PySem.W.fnOf "parse_step" "Parser.parse_step" (defArgs s_Parser_parse_step) (defBody s_Parser_parse_step) (defScope s_Parser_parse_step) .none kV_Parser_parse_step dc_Parser_parse_step pm_Parser_parse_step an_Parser_parse_step cd_Parser_parse_step ct_Parser_parse_step, f_Parser_parse_robot := f_Parser_parse_robot, d_Parser_parse_robot := PySem.W.fnOf "parse_robot" "Parser.parse_robot" (defArgs s_Parser_parse_robot) (defBody s_Parser_parse_robot) (defScope s_Parser_parse_robot) .none kV_Parser_parse_robot dc_Parser_parse_robot pm_Parser_parse_robot an_Parser_parse_robot cd_Parser_parse_robot ct_Parser_parse_robot, f_Parser_parse_plan := f_Parser_parse_plan, d_Parser_parse_plan := PySem.W.fnOf "parse_plan" "Parser.parse_plan" (defArgs s_Parser_parse_plan) (defBody s_Parser_parse_plan) (defScope s_Parser_parse_plan) .none kV_Parser_parse_plan dc_Parser_parse_plan pm_Parser_parse_plan an_Parser_parse_plan cd_Parser_parse_plan ct_Parser_parse_plan, f_run_end := f_run_end, d_run_end := PySem.W.fnOf "run_end" "run_end" (defArgs s_run_end) (defBody s_run_end) (defScope s_run_end) .none kV_run_end dc_run_end pm_run_end an_run_end cd_run_end ct_run_end, f_read_token := f_read_token, d_read_token := PySem.W.fnOf "read_token" "read_token" (defArgs s_read_token) (defBody s_read_token) (defScope s_read_token) .none kV_read_token dc_read_token pm_read_token an_read_token cd_read_token ct_read_token, f_tokenize := f_tokenize, d_tokenize := PySem.W.fnOf "tokenize" "tokenize" (defArgs s_tokenize) (defBody s_tokenize) (defScope s_tokenize) .none kV_tokenize dc_tokenize pm_tokenize an_tokenize cd_tokenize ct_tokenize, f_load := f_load, d_load := PySem.W.fnOf "load" "load" (defArgs s_load) (defBody s_load) (defScope s_load) .none kV_load dc_load pm_load an_load cd_load ct_load, f_first_difference := f_first_difference, d_first_difference := PySem.W.fnOf "first_difference" "first_difference" (defArgs s_first_difference) (defBody s_first_difference) (defScope s_first_difference) .none kV_first_difference dc_first_difference pm_first_difference an_first_difference cd_first_difference ct_first_difference, f_l_text := f_l_text, d_l_text := PySem.W.fnOf "_law_text" "_law_text" (defArgs s_l_text) (defBody s_l_text) (defScope s_l_text) .none kV_l_text dc_l_text pm_l_text an_l_text cd_l_text ct_l_text, f_first_error := f_first_error, d_first_error := PySem.W.fnOf "first_error" "first_error" (defArgs s_first_error) (defBody s_first_error) (defScope s_first_error) .none kV_first_error dc_first_error pm_first_error an_first_error cd_first_error ct_first_error, f_boxes := f_boxes, d_boxes := PySem.W.fnOf "boxes" "boxes" (defArgs s_boxes) (defBody s_boxes) (defScope s_boxes) .none kV_boxes dc_boxes pm_boxes an_boxes cd_boxes ct_boxes, f_trace := f_trace, d_trace := PySem.W.fnOf "trace" "trace" (defArgs s_trace) (defBody s_trace) (defScope s_trace) .none kV_trace dc_trace pm_trace an_trace cd_trace ct_trace, f_law := f_law, d_law := PySem.W.fnOf "law" "law" (defArgs s_law) (defBody s_law) (defScope s_law) .none kV_law dc_law pm_law an_law cd_law ct_law, C_Token := C_Token, C_Robot := C_Robot, C_Plan := C_Plan, C_Parser := C_Parser, C_State := C_State, C_Tick := C_Tick, C_Story := C_Story, A_MOVES := A_MOVES, A_JUMPS := A_JUMPS, A_KEYWORDS := A_KEYWORDS, t_LETTERS := t_LETTERS, t_DIGITS := t_DIGITS, t_SPACES := t_SPACES, t_SIGNS := t_SIGNS, t_MAX_LETTERS := t_MAX_LETTERS, t_MAX_DIGITS := t_MAX_DIGITS, t_NAME := t_NAME, t_NUMBER := t_NUMBER, t_KEYWORD := t_KEYWORD, t_SIGN := t_SIGN, t_END := t_END, t_MIN_CELLS := t_MIN_CELLS, t_MAX_CELLS := t_MAX_CELLS, t_MAX_BOXES := t_MAX_BOXES, t_MAX_STEPS := t_MAX_STEPS, t_MAX_TICK := t_MAX_TICK, t_MAX_STATES := t_MAX_STATES, t_MAX_TRACE := t_MAX_TRACE, t_BLOCKED := t_BLOCKED }
  have T : Txt K mg ad := { F_l_random := fun_mk (st := s_l_random) l_l_random c_l_random k_l_random, m_l_random := PySem.W.mg_of X G a_l_random, F_l_below := fun_mk (st := s_l_below) l_l_below c_l_below k_l_below, m_l_below := PySem.W.mg_of X G a_l_below, F_l_empty := fun_mk (st := s_l_empty) l_l_empty c_l_empty k_l_empty, m_l_empty := PySem.W.mg_of X G a_l_empty, F_l_act := fun_mk (st := s_l_act) l_l_act c_l_act k_l_act, m_l_act := PySem.W.mg_of X G a_l_act, F_l_tick := fun_mk (st := s_l_tick) l_l_tick c_l_tick k_l_tick, m_l_tick := PySem.W.mg_of X G a_l_tick, F_l_repeats := fun_mk (st := s_l_repeats) l_l_repeats c_l_repeats k_l_repeats, m_l_repeats := PySem.W.mg_of X G a_l_repeats, F_l_steps := fun_mk (st := s_l_steps) l_l_steps c_l_steps k_l_steps, m_l_steps := PySem.W.mg_of X G a_l_steps, F_l_plan := fun_mk (st := s_l_plan) l_l_plan c_l_plan k_l_plan, m_l_plan := PySem.W.mg_of X G a_l_plan, F_l_doubled := fun_mk (st := s_l_doubled) l_l_doubled c_l_doubled k_l_doubled, m_l_doubled := PySem.W.mg_of X G a_l_doubled, F_l_other := fun_mk (st := s_l_other) l_l_other c_l_other k_l_other, m_l_other := PySem.W.mg_of X G a_l_other, P_Story_size := ⟨pa_Story_size, pg_Story_size, pt_Story_size, _, pr_Story_size⟩, F_Story_size := fun_mk (st := s_Story_size) l_Story_size c_Story_size k_Story_size, F_Parser_peek := fun_mk (st := s_Parser_peek) l_Parser_peek c_Parser_peek k_Parser_peek, M_Parser_peek := ⟨a_Parser_peek, i_Parser_peek, k_Parser_peek⟩, F_Token_init := fun_mk (st := s_Token_init) l_Token_init c_Token_init k_Token_init, F_Robot_init := fun_mk (st := s_Robot_init) l_Robot_init c_Robot_init k_Robot_init, F_Plan_init := fun_mk (st := s_Plan_init) l_Plan_init c_Plan_init k_Plan_init, F_Parser_init := fun_mk (st := s_Parser_init) l_Parser_init c_Parser_init k_Parser_init, F_is_int_in := fun_mk (st := s_is_int_in) l_is_int_in c_is_int_in k_is_int_in, m_is_int_in := PySem.W.mg_of X G a_is_int_in, F_check_tick := fun_mk (st := s_check_tick) l_check_tick c_check_tick k_check_tick, m_check_tick := PySem.W.mg_of X G a_check_tick, F_Story_happens := fun_mk (st := s_Story_happens) l_Story_happens c_Story_happens k_Story_happens, M_Story_happens := ⟨a_Story_happens, i_Story_happens, k_Story_happens⟩, F_first_state := fun_mk (st := s_first_state) l_first_state c_first_state k_first_state, m_first_state := PySem.W.mg_of X G a_first_state, P_State_key := ⟨pa_State_key, pg_State_key, pt_State_key, _, pr_State_key⟩, F_State_key := fun_mk (st := s_State_key) l_State_key c_State_key k_State_key, F_replaced := fun_mk (st := s_replaced) l_replaced c_replaced k_replaced, m_replaced := PySem.W.mg_of X G a_replaced, F_act := fun_mk (st := s_act) l_act c_act k_act, m_act := PySem.W.mg_of X G a_act, F_Tick_init := fun_mk (st := s_Tick_init) l_Tick_init c_Tick_init k_Tick_init, F_next_tick := fun_mk (st := s_next_tick) l_next_tick c_next_tick k_next_tick, m_next_tick := PySem.W.mg_of X G a_next_tick, F_Story_init := fun_mk (st := s_Story_init) l_Story_init c_Story_init k_Story_init, F_cells := fun_mk (st := s_cells) l_cells c_cells k_cells, m_cells := PySem.W.mg_of X G a_cells, F_State_init := fun_mk (st := s_State_init) l_State_init c_State_init k_State_init, F_Parser_fail := fun_mk (st := s_Parser_fail) l_Parser_fail c_Parser_fail k_Parser_fail, M_Parser_fail := ⟨a_Parser_fail, i_Parser_fail, k_Parser_fail⟩, F_Parser_take_word := fun_mk (st := s_Parser_take_word) l_Parser_take_word c_Parser_take_word k_Parser_take_word, M_Parser_take_word := ⟨a_Parser_take_word, i_Parser_take_word, k_Parser_take_word⟩, F_Parser_take := fun_mk (st := s_Parser_take) l_Parser_take c_Parser_take k_Parser_take, M_Parser_take := ⟨a_Parser_take, i_Parser_take, k_Parser_take⟩, F_Parser_found := fun_mk (st := s_Parser_found) l_Parser_found c_Parser_found k_Parser_found, M_Parser_found := ⟨a_Parser_found, i_Parser_found, k_Parser_found⟩, F_Parser_parse_shelf := fun_mk (st := s_Parser_parse_shelf) l_Parser_parse_shelf c_Parser_parse_shelf k_Parser_parse_shelf, M_Parser_parse_shelf := ⟨a_Parser_parse_shelf, i_Parser_parse_shelf, k_Parser_parse_shelf⟩, F_Parser_parse_step := fun_mk (st := s_Parser_parse_step) l_Parser_parse_step c_Parser_parse_step k_Parser_parse_step, M_Parser_parse_step := ⟨a_Parser_parse_step, i_Parser_parse_step, k_Parser_parse_step⟩, F_Parser_parse_robot := fun_mk (st := s_Parser_parse_robot) l_Parser_parse_robot c_Parser_parse_robot k_Parser_parse_robot, M_Parser_parse_robot := ⟨a_Parser_parse_robot, i_Parser_parse_robot, k_Parser_parse_robot⟩, F_Parser_parse_plan := fun_mk (st := s_Parser_parse_plan) l_Parser_parse_plan c_Parser_parse_plan k_Parser_parse_plan, M_Parser_parse_plan := ⟨a_Parser_parse_plan, i_Parser_parse_plan, k_Parser_parse_plan⟩, F_run_end := fun_mk (st := s_run_end) l_run_end c_run_end k_run_end, m_run_end := PySem.W.mg_of X G a_run_end, F_read_token := fun_mk (st := s_read_token) l_read_token c_read_token k_read_token, m_read_token := PySem.W.mg_of X G a_read_token, F_tokenize := fun_mk (st := s_tokenize) l_tokenize c_tokenize k_tokenize, m_tokenize := PySem.W.mg_of X G a_tokenize, F_load := fun_mk (st := s_load) l_load c_load k_load, m_load := PySem.W.mg_of X G a_load, F_first_difference := fun_mk (st := s_first_difference) l_first_difference c_first_difference k_first_difference, m_first_difference := PySem.W.mg_of X G a_first_difference, F_l_text := fun_mk (st := s_l_text) l_l_text c_l_text k_l_text, m_l_text := PySem.W.mg_of X G a_l_text, F_first_error := fun_mk (st := s_first_error) l_first_error c_first_error k_first_error, m_first_error := PySem.W.mg_of X G a_first_error, F_boxes := fun_mk (st := s_boxes) l_boxes c_boxes k_boxes, m_boxes := PySem.W.mg_of X G a_boxes, F_trace := fun_mk (st := s_trace) l_trace c_trace k_trace, m_trace := PySem.W.mg_of X G a_trace, F_law := fun_mk (st := s_law) l_law c_law k_law, m_law := PySem.W.mg_of X G a_law, m_Token := PySem.W.mg_of X G aC_Token, cl_Token := ⟨pg_Token, hd_Token, po_Token, sa_Token⟩, mk_Token := ⟨mk_Token, a_Token_init, i_Token_init, kc_Token⟩, n_Token_kind := n_Token_kind, n_Token_text := n_Token_text, n_Token_line := n_Token_line, n_Token_column := n_Token_column, m_Robot := PySem.W.mg_of X G aC_Robot, cl_Robot := ⟨pg_Robot, hd_Robot, po_Robot, sa_Robot⟩, mk_Robot := ⟨mk_Robot, a_Robot_init, i_Robot_init, kc_Robot⟩, n_Robot_start := n_Robot_start, n_Robot_steps := n_Robot_steps, n_Robot_names := n_Robot_names, m_Plan := PySem.W.mg_of X G aC_Plan, cl_Plan := ⟨pg_Plan, hd_Plan, po_Plan, sa_Plan⟩, mk_Plan := ⟨mk_Plan, a_Plan_init, i_Plan_init, kc_Plan⟩, n_Plan_shelf := n_Plan_shelf, n_Plan_robots := n_Plan_robots, m_Parser := PySem.W.mg_of X G aC_Parser, cl_Parser := ⟨pg_Parser, hd_Parser, po_Parser, sa_Parser⟩, mk_Parser := ⟨mk_Parser, a_Parser_init, i_Parser_init, kc_Parser⟩, n_Parser_tokens := n_Parser_tokens, n_Parser_at := n_Parser_at, n_Parser_faults := n_Parser_faults, m_State := PySem.W.mg_of X G aC_State, cl_State := ⟨pg_State, hd_State, po_State, sa_State⟩, mk_State := ⟨mk_State, a_State_init, i_State_init, kc_State⟩, n_State_cells := n_State_cells, n_State_nexts := n_State_nexts, n_State_holds := n_State_holds, n_State_shelf := n_State_shelf, m_Tick := PySem.W.mg_of X G aC_Tick, cl_Tick := ⟨pg_Tick, hd_Tick, po_Tick, sa_Tick⟩, mk_Tick := ⟨mk_Tick, a_Tick_init, i_Tick_init, kc_Tick⟩, n_Tick_words := n_Tick_words, n_Tick_state := n_Tick_state, m_Story := PySem.W.mg_of X G aC_Story, cl_Story := ⟨pg_Story, hd_Story, po_Story, sa_Story⟩, mk_Story := ⟨mk_Story, a_Story_init, i_Story_init, kc_Story⟩, n_Story_ticks := n_Story_ticks, n_Story_start := n_Story_start, z_len := PySem.W.mg_none_of X G z_len, z_abs := PySem.W.mg_none_of X G z_abs, z_range := PySem.W.mg_none_of X G z_range, z_str := PySem.W.mg_none_of X G z_str, z_int := PySem.W.mg_none_of X G z_int, z_tuple := PySem.W.mg_none_of X G z_tuple, z_list := PySem.W.mg_none_of X G z_list, z_sum := PySem.W.mg_none_of X G z_sum, z_isinstance := PySem.W.mg_none_of X G z_isinstance, z_bool := PySem.W.mg_none_of X G z_bool, z_enumerate := PySem.W.mg_none_of X G z_enumerate, z_zip := PySem.W.mg_none_of X G z_zip, z_min := PySem.W.mg_none_of X G z_min, z_all := PySem.W.mg_none_of X G z_all, z_divmod := PySem.W.mg_none_of X G z_divmod, z_max := PySem.W.mg_none_of X G z_max, z_dict := PySem.W.mg_none_of X G z_dict, z_sorted := PySem.W.mg_none_of X G z_sorted, c_MOVES := PySem.W.mg_of X G a_MOVES, k_MOVES := ⟨_, l_MOVES, rfl, rfl⟩, q_MOVES := fun H => .inr ⟨_, _, _, l_MOVES, rfl, rfl, (small 5 (Nat.le_refl _) (by decide)), .cons ⟨_, rfl⟩ (.cons ⟨_, rfl⟩ (.cons ⟨_, rfl⟩ (.cons ⟨_, rfl⟩ (.cons ⟨_, rfl⟩ (.nil)))))⟩, c_JUMPS := PySem.W.mg_of X G a_JUMPS, k_JUMPS := ⟨_, l_JUMPS, rfl, rfl⟩, q_JUMPS := fun H => .inr ⟨_, _, _, l_JUMPS, rfl, rfl, (small 3 (Nat.le_refl _) (by decide)), .cons ⟨_, rfl⟩ (.cons ⟨_, rfl⟩ (.cons ⟨_, rfl⟩ (.nil)))⟩, c_KEYWORDS := PySem.W.mg_of X G a_KEYWORDS, k_KEYWORDS := ⟨_, l_KEYWORDS, rfl, rfl⟩, q_KEYWORDS := fun H => .inr ⟨_, _, _, l_KEYWORDS, rfl, rfl, (small 10 (Nat.le_refl _) (by decide)), .cons ⟨_, rfl⟩ (.cons ⟨_, rfl⟩ (.cons ⟨_, rfl⟩ (.cons ⟨_, rfl⟩ (.cons ⟨_, rfl⟩ (.cons ⟨_, rfl⟩ (.cons ⟨_, rfl⟩ (.cons ⟨_, rfl⟩ (.cons ⟨_, rfl⟩ (.cons ⟨_, rfl⟩ (.nil))))))))))⟩, c_LETTERS := PySem.W.mg_of X G a_LETTERS, c_DIGITS := PySem.W.mg_of X G a_DIGITS, c_SPACES := PySem.W.mg_of X G a_SPACES, c_SIGNS := PySem.W.mg_of X G a_SIGNS, c_MAX_LETTERS := PySem.W.mg_of X G a_MAX_LETTERS, c_MAX_DIGITS := PySem.W.mg_of X G a_MAX_DIGITS, c_NAME := PySem.W.mg_of X G a_NAME, c_NUMBER := PySem.W.mg_of X G a_NUMBER, c_KEYWORD := PySem.W.mg_of X G a_KEYWORD, c_SIGN := PySem.W.mg_of X G a_SIGN, c_END := PySem.W.mg_of X G a_END, c_MIN_CELLS := PySem.W.mg_of X G a_MIN_CELLS, c_MAX_CELLS := PySem.W.mg_of X G a_MAX_CELLS, c_MAX_BOXES := PySem.W.mg_of X G a_MAX_BOXES, c_MAX_STEPS := PySem.W.mg_of X G a_MAX_STEPS, c_MAX_TICK := PySem.W.mg_of X G a_MAX_TICK, c_MAX_STATES := PySem.W.mg_of X G a_MAX_STATES, c_MAX_TRACE := PySem.W.mg_of X G a_MAX_TRACE, c_BLOCKED := PySem.W.mg_of X G a_BLOCKED }
  exact ⟨ad.d_law, fun s v => .of_eq rfl, fun base _ _ => ok_law T⟩
theorem walk {l : PySem.W.OpenLaw} {q : Program} {loose : List Str} {XP : (Str → Option Value) → Heap → Prop} {YP : World → Heap → Prop} {d : DefRec} {K : Params → PySem.W.Frag} (hn : l.most = some 63) (hdf : d.params.defaults = [])
    (hY : ∀ (w : World) (h : Heap), YP w h → (K w.params).In h)
    (F : ∀ (w : World) (mg : Str → Option Value) (fa : Addr) (h : Heap), (K w.params).In h → h.Ns mainGlobals mg → mg d.name = some (.ref fa) →
      ∃ fd : FuncData, (∀ (s : Shared) (u : Value), BindsTo s fd ⟨[u], []⟩ [("_law_script", u)]) ∧ ∀ base : Heap, (K w.params).In base → base.Ns mainGlobals mg → FnOk l.prog w (K w.params) mg base CX0 20 fa fd ["_law_script"] (spLaw (K w.params))) :
    PySem.W.WalkO q loose XP YP l.row.toRowW d [] (fun f vs => PySem.call f vs) :=
  L2.walk_of (n := 63) (k := 20) (x := "_law_script") (CX := fun _ => CX0) (sp := fun w => spLaw (K w.params)) hn (by decide) hdf ⟨rfl, by decide, by decide⟩ hY F (fun _ _ a ns hl _ hS => ⟨a, ns, rfl, hS, hl, fun _ => rfl⟩) fun _ _ _ _ _ z => z
end Sb
open PySem PySem.W PyProof.Rows in
set_option maxRecDepth 100000 in
set_option maxHeartbeats 0 in
theorem PySem.Challenge.cw_shelfbots_k40_whole_plans_compared_holds : PySem.Challenge.rw_shelfbots_k40_whole_plans_compared.Holds := by
  refine hd ?_
  k_fill
  refine Sb.walk (l := PySem.Challenge.rw_shelfbots_k40_whole_plans_compared) rfl rfl (fun w h Y => PySem.W.kIn_of Y) ?F
  case F =>
    intro w mg fa h KX G hmg
    refine' Sb.all_mk KX G hmg ?aC_Token ?aC_Robot ?aC_Plan ?aC_Parser ?aC_State ?aC_Tick ?aC_Story ?a_l_random ?l_l_random ?c_l_random ?k_l_random ?a_l_below ?l_l_below ?c_l_below ?k_l_below ?a_l_empty ?l_l_empty ?c_l_empty ?k_l_empty ?a_l_act ?l_l_act ?c_l_act ?k_l_act ?a_l_tick ?l_l_tick ?c_l_tick ?k_l_tick ?a_l_repeats ?l_l_repeats ?c_l_repeats ?k_l_repeats ?a_l_steps ?l_l_steps ?c_l_steps ?k_l_steps ?a_l_plan ?l_l_plan ?c_l_plan ?k_l_plan ?a_l_doubled ?l_l_doubled ?c_l_doubled ?k_l_doubled ?a_l_other ?l_l_other ?c_l_other ?k_l_other ?pa_Story_size ?pg_Story_size ?pt_Story_size ?pr_Story_size ?l_Story_size ?c_Story_size ?k_Story_size ?a_Parser_peek ?i_Parser_peek ?l_Parser_peek ?c_Parser_peek ?k_Parser_peek ?a_Token_init ?i_Token_init ?l_Token_init ?c_Token_init ?k_Token_init ?a_Robot_init ?i_Robot_init ?l_Robot_init ?c_Robot_init ?k_Robot_init ?a_Plan_init ?i_Plan_init ?l_Plan_init ?c_Plan_init ?k_Plan_init ?a_Parser_init ?i_Parser_init ?l_Parser_init ?c_Parser_init ?k_Parser_init ?a_is_int_in ?l_is_int_in ?c_is_int_in ?k_is_int_in ?a_check_tick ?l_check_tick ?c_check_tick ?k_check_tick ?a_Story_happens ?i_Story_happens ?l_Story_happens ?c_Story_happens ?k_Story_happens ?a_first_state ?l_first_state ?c_first_state ?k_first_state ?pa_State_key ?pg_State_key ?pt_State_key ?pr_State_key ?l_State_key ?c_State_key ?k_State_key ?a_replaced ?l_replaced ?c_replaced ?k_replaced ?a_act ?l_act ?c_act ?k_act ?a_Tick_init ?i_Tick_init ?l_Tick_init ?c_Tick_init ?k_Tick_init ?a_next_tick ?l_next_tick ?c_next_tick ?k_next_tick ?a_Story_init ?i_Story_init ?l_Story_init ?c_Story_init ?k_Story_init ?a_cells ?l_cells ?c_cells ?k_cells ?a_State_init ?i_State_init ?l_State_init ?c_State_init ?k_State_init ?a_Parser_fail ?i_Parser_fail ?l_Parser_fail ?c_Parser_fail ?k_Parser_fail ?a_Parser_take_word ?i_Parser_take_word ?l_Parser_take_word ?c_Parser_take_word ?k_Parser_take_word ?a_Parser_take ?i_Parser_take ?l_Parser_take ?c_Parser_take ?k_Parser_take ?a_Parser_found ?i_Parser_found ?l_Parser_found ?c_Parser_found ?k_Parser_found ?a_Parser_parse_shelf ?i_Parser_parse_shelf ?l_Parser_parse_shelf ?c_Parser_parse_shelf ?k_Parser_parse_shelf ?a_Parser_parse_step ?i_Parser_parse_step ?l_Parser_parse_step ?c_Parser_parse_step ?k_Parser_parse_step ?a_Parser_parse_robot ?i_Parser_parse_robot ?l_Parser_parse_robot ?c_Parser_parse_robot ?k_Parser_parse_robot ?a_Parser_parse_plan ?i_Parser_parse_plan ?l_Parser_parse_plan ?c_Parser_parse_plan ?k_Parser_parse_plan ?a_run_end ?l_run_end ?c_run_end ?k_run_end ?a_read_token ?l_read_token ?c_read_token ?k_read_token ?a_tokenize ?l_tokenize ?c_tokenize ?k_tokenize ?a_load ?l_load ?c_load ?k_load ?a_first_difference ?l_first_difference ?c_first_difference ?k_first_difference ?a_l_text ?l_l_text ?c_l_text ?k_l_text ?a_first_error ?l_first_error ?c_first_error ?k_first_error ?a_boxes ?l_boxes ?c_boxes ?k_boxes ?a_trace ?l_trace ?c_trace ?k_trace ?a_law ?l_law ?c_law ?k_law ?pg_Token ?hd_Token ?po_Token ?sa_Token ?mk_Token ?kc_Token ?n_Token_kind ?n_Token_text ?n_Token_line ?n_Token_column ?pg_Robot ?hd_Robot ?po_Robot ?sa_Robot ?mk_Robot ?kc_Robot ?n_Robot_start ?n_Robot_steps ?n_Robot_names ?pg_Plan ?hd_Plan ?po_Plan ?sa_Plan ?mk_Plan ?kc_Plan ?n_Plan_shelf ?n_Plan_robots ?pg_Parser ?hd_Parser ?po_Parser ?sa_Parser ?mk_Parser ?kc_Parser ?n_Parser_tokens ?n_Parser_at ?n_Parser_faults ?pg_State ?hd_State ?po_State ?sa_State ?mk_State ?kc_State ?n_State_cells ?n_State_nexts ?n_State_holds ?n_State_shelf ?pg_Tick ?hd_Tick ?po_Tick ?sa_Tick ?mk_Tick ?kc_Tick ?n_Tick_words ?n_Tick_state ?pg_Story ?hd_Story ?po_Story ?sa_Story ?mk_Story ?kc_Story ?n_Story_ticks ?n_Story_start ?z_len ?z_abs ?z_range ?z_str ?z_int ?z_tuple ?z_list ?z_sum ?z_isinstance ?z_bool ?z_enumerate ?z_zip ?z_min ?z_all ?z_divmod ?z_max ?z_dict ?z_sorted ?a_MOVES ?l_MOVES ?a_JUMPS ?l_JUMPS ?a_KEYWORDS ?l_KEYWORDS ?a_LETTERS ?a_DIGITS ?a_SPACES ?a_SIGNS ?a_MAX_LETTERS ?a_MAX_DIGITS ?a_NAME ?a_NUMBER ?a_KEYWORD ?a_SIGN ?a_END ?a_MIN_CELLS ?a_MAX_CELLS ?a_MAX_BOXES ?a_MAX_STEPS ?a_MAX_TICK ?a_MAX_STATES ?a_MAX_TRACE ?a_BLOCKED
    (case aC_Token => first | k_is | fail "EC aC_Token")
    (case aC_Robot => first | k_is | fail "EC aC_Robot")
    (case aC_Plan => first | k_is | fail "EC aC_Plan")
    (case aC_Parser => first | k_is | fail "EC aC_Parser")
    (case aC_State => first | k_is | fail "EC aC_State")
    (case aC_Tick => first | k_is | fail "EC aC_Tick")
    (case aC_Story => first | k_is | fail "EC aC_Story")
    (case a_l_random => first | k_is | fail "EC a_l_random")
    (case l_l_random => first | k_is | fail "EC l_l_random")
    (case c_l_random => first | k_is | fail "EC c_l_random")
    (case k_l_random => first | k_is | fail "EC k_l_random")
    (case a_l_below => first | k_is | fail "EC a_l_below")
    (case l_l_below => first | k_is | fail "EC l_l_below")
    (case c_l_below => first | k_is | fail "EC c_l_below")
    (case k_l_below => first | k_is | fail "EC k_l_below")
    (case a_l_empty => first | k_is | fail "EC a_l_empty")
    (case l_l_empty => first | k_is | fail "EC l_l_empty")
    (case c_l_empty => first | k_is | fail "EC c_l_empty")
    (case k_l_empty => first | k_is | fail "EC k_l_empty")
    (case a_l_act => first | k_is | fail "EC a_l_act")
    (case l_l_act => first | k_is | fail "EC l_l_act")
    (case c_l_act => first | k_is | fail "EC c_l_act")
    (case k_l_act => first | k_is | fail "EC k_l_act")
    (case a_l_tick => first | k_is | fail "EC a_l_tick")
    (case l_l_tick => first | k_is | fail "EC l_l_tick")
    (case c_l_tick => first | k_is | fail "EC c_l_tick")
    (case k_l_tick => first | k_is | fail "EC k_l_tick")
    (case a_l_repeats => first | k_is | fail "EC a_l_repeats")
    (case l_l_repeats => first | k_is | fail "EC l_l_repeats")
    (case c_l_repeats => first | k_is | fail "EC c_l_repeats")
    (case k_l_repeats => first | k_is | fail "EC k_l_repeats")
    (case a_l_steps => first | k_is | fail "EC a_l_steps")
    (case l_l_steps => first | k_is | fail "EC l_l_steps")
    (case c_l_steps => first | k_is | fail "EC c_l_steps")
    (case k_l_steps => first | k_is | fail "EC k_l_steps")
    (case a_l_plan => first | k_is | fail "EC a_l_plan")
    (case l_l_plan => first | k_is | fail "EC l_l_plan")
    (case c_l_plan => first | k_is | fail "EC c_l_plan")
    (case k_l_plan => first | k_is | fail "EC k_l_plan")
    (case a_l_doubled => first | k_is | fail "EC a_l_doubled")
    (case l_l_doubled => first | k_is | fail "EC l_l_doubled")
    (case c_l_doubled => first | k_is | fail "EC c_l_doubled")
    (case k_l_doubled => first | k_is | fail "EC k_l_doubled")
    (case a_l_other => first | k_is | fail "EC a_l_other")
    (case l_l_other => first | k_is | fail "EC l_l_other")
    (case c_l_other => first | k_is | fail "EC c_l_other")
    (case k_l_other => first | k_is | fail "EC k_l_other")
    (case pa_Story_size => first | k_is | fail "EC pa_Story_size")
    (case pg_Story_size => first | k_is | fail "EC pg_Story_size")
    (case pt_Story_size => first | k_is | fail "EC pt_Story_size")
    (case pr_Story_size => first | k_is | fail "EC pr_Story_size")
    (case l_Story_size => first | k_is | fail "EC l_Story_size")
    (case c_Story_size => first | k_is | fail "EC c_Story_size")
    (case k_Story_size => first | k_is | fail "EC k_Story_size")
    (case a_Parser_peek => first | k_is | fail "EC a_Parser_peek")
    (case i_Parser_peek => first | k_is | fail "EC i_Parser_peek")
    (case l_Parser_peek => first | k_is | fail "EC l_Parser_peek")
    (case c_Parser_peek => first | k_is | fail "EC c_Parser_peek")
    (case k_Parser_peek => first | k_is | fail "EC k_Parser_peek")
    (case a_Token_init => first | k_is | fail "EC a_Token_init")
    (case i_Token_init => first | k_is | fail "EC i_Token_init")
    (case l_Token_init => first | k_is | fail "EC l_Token_init")
    (case c_Token_init => first | k_is | fail "EC c_Token_init")
    (case k_Token_init => first | k_is | fail "EC k_Token_init")
    (case a_Robot_init => first | k_is | fail "EC a_Robot_init")
    (case i_Robot_init => first | k_is | fail "EC i_Robot_init")
    (case l_Robot_init => first | k_is | fail "EC l_Robot_init")
    (case c_Robot_init => first | k_is | fail "EC c_Robot_init")
    (case k_Robot_init => first | k_is | fail "EC k_Robot_init")
    (case a_Plan_init => first | k_is | fail "EC a_Plan_init")
    (case i_Plan_init => first | k_is | fail "EC i_Plan_init")
    (case l_Plan_init => first | k_is | fail "EC l_Plan_init")
    (case c_Plan_init => first | k_is | fail "EC c_Plan_init")
    (case k_Plan_init => first | k_is | fail "EC k_Plan_init")
    (case a_Parser_init => first | k_is | fail "EC a_Parser_init")
    (case i_Parser_init => first | k_is | fail "EC i_Parser_init")
    (case l_Parser_init => first | k_is | fail "EC l_Parser_init")
    (case c_Parser_init => first | k_is | fail "EC c_Parser_init")
    (case k_Parser_init => first | k_is | fail "EC k_Parser_init")
    (case a_is_int_in => first | k_is | fail "EC a_is_int_in")
    (case l_is_int_in => first | k_is | fail "EC l_is_int_in")
    (case c_is_int_in => first | k_is | fail "EC c_is_int_in")
    (case k_is_int_in => first | k_is | fail "EC k_is_int_in")
    (case a_check_tick => first | k_is | fail "EC a_check_tick")
    (case l_check_tick => first | k_is | fail "EC l_check_tick")
    (case c_check_tick => first | k_is | fail "EC c_check_tick")
    (case k_check_tick => first | k_is | fail "EC k_check_tick")
    (case a_Story_happens => first | k_is | fail "EC a_Story_happens")
    (case i_Story_happens => first | k_is | fail "EC i_Story_happens")
    (case l_Story_happens => first | k_is | fail "EC l_Story_happens")
    (case c_Story_happens => first | k_is | fail "EC c_Story_happens")
    (case k_Story_happens => first | k_is | fail "EC k_Story_happens")
    (case a_first_state => first | k_is | fail "EC a_first_state")
    (case l_first_state => first | k_is | fail "EC l_first_state")
    (case c_first_state => first | k_is | fail "EC c_first_state")
    (case k_first_state => first | k_is | fail "EC k_first_state")
    (case pa_State_key => first | k_is | fail "EC pa_State_key")
    (case pg_State_key => first | k_is | fail "EC pg_State_key")
    (case pt_State_key => first | k_is | fail "EC pt_State_key")
    (case pr_State_key => first | k_is | fail "EC pr_State_key")
    (case l_State_key => first | k_is | fail "EC l_State_key")
    (case c_State_key => first | k_is | fail "EC c_State_key")
    (case k_State_key => first | k_is | fail "EC k_State_key")
    (case a_replaced => first | k_is | fail "EC a_replaced")
    (case l_replaced => first | k_is | fail "EC l_replaced")
    (case c_replaced => first | k_is | fail "EC c_replaced")
    (case k_replaced => first | k_is | fail "EC k_replaced")
    (case a_act => first | k_is | fail "EC a_act")
    (case l_act => first | k_is | fail "EC l_act")
    (case c_act => first | k_is | fail "EC c_act")
    (case k_act => first | k_is | fail "EC k_act")
    (case a_Tick_init => first | k_is | fail "EC a_Tick_init")
    (case i_Tick_init => first | k_is | fail "EC i_Tick_init")
    (case l_Tick_init => first | k_is | fail "EC l_Tick_init")
    (case c_Tick_init => first | k_is | fail "EC c_Tick_init")
    (case k_Tick_init => first | k_is | fail "EC k_Tick_init")
    (case a_next_tick => first | k_is | fail "EC a_next_tick")
    (case l_next_tick => first | k_is | fail "EC l_next_tick")
    (case c_next_tick => first | k_is | fail "EC c_next_tick")
    (case k_next_tick => first | k_is | fail "EC k_next_tick")
    (case a_Story_init => first | k_is | fail "EC a_Story_init")
    (case i_Story_init => first | k_is | fail "EC i_Story_init")
    (case l_Story_init => first | k_is | fail "EC l_Story_init")
    (case c_Story_init => first | k_is | fail "EC c_Story_init")
    (case k_Story_init => first | k_is | fail "EC k_Story_init")
    (case a_cells => first | k_is | fail "EC a_cells")
    (case l_cells => first | k_is | fail "EC l_cells")
    (case c_cells => first | k_is | fail "EC c_cells")
    (case k_cells => first | k_is | fail "EC k_cells")
    (case a_State_init => first | k_is | fail "EC a_State_init")
    (case i_State_init => first | k_is | fail "EC i_State_init")
    (case l_State_init => first | k_is | fail "EC l_State_init")
    (case c_State_init => first | k_is | fail "EC c_State_init")
    (case k_State_init => first | k_is | fail "EC k_State_init")
    (case a_Parser_fail => first | k_is | fail "EC a_Parser_fail")
    (case i_Parser_fail => first | k_is | fail "EC i_Parser_fail")
    (case l_Parser_fail => first | k_is | fail "EC l_Parser_fail")
    (case c_Parser_fail => first | k_is | fail "EC c_Parser_fail")
    (case k_Parser_fail => first | k_is | fail "EC k_Parser_fail")
    (case a_Parser_take_word => first | k_is | fail "EC a_Parser_take_word")
    (case i_Parser_take_word => first | k_is | fail "EC i_Parser_take_word")
    (case l_Parser_take_word => first | k_is | fail "EC l_Parser_take_word")
    (case c_Parser_take_word => first | k_is | fail "EC c_Parser_take_word")
    (case k_Parser_take_word => first | k_is | fail "EC k_Parser_take_word")
    (case a_Parser_take => first | k_is | fail "EC a_Parser_take")
    (case i_Parser_take => first | k_is | fail "EC i_Parser_take")
    (case l_Parser_take => first | k_is | fail "EC l_Parser_take")
    (case c_Parser_take => first | k_is | fail "EC c_Parser_take")
    (case k_Parser_take => first | k_is | fail "EC k_Parser_take")
    (case a_Parser_found => first | k_is | fail "EC a_Parser_found")
    (case i_Parser_found => first | k_is | fail "EC i_Parser_found")
    (case l_Parser_found => first | k_is | fail "EC l_Parser_found")
    (case c_Parser_found => first | k_is | fail "EC c_Parser_found")
    (case k_Parser_found => first | k_is | fail "EC k_Parser_found")
    (case a_Parser_parse_shelf => first | k_is | fail "EC a_Parser_parse_shelf")
    (case i_Parser_parse_shelf => first | k_is | fail "EC i_Parser_parse_shelf")
    (case l_Parser_parse_shelf => first | k_is | fail "EC l_Parser_parse_shelf")
    (case c_Parser_parse_shelf => first | k_is | fail "EC c_Parser_parse_shelf")
    (case k_Parser_parse_shelf => first | k_is | fail "EC k_Parser_parse_shelf")
    (case a_Parser_parse_step => first | k_is | fail "EC a_Parser_parse_step")
    (case i_Parser_parse_step => first | k_is | fail "EC i_Parser_parse_step")
    (case l_Parser_parse_step => first | k_is | fail "EC l_Parser_parse_step")
    (case c_Parser_parse_step => first | k_is | fail "EC c_Parser_parse_step")
    (case k_Parser_parse_step => first | k_is | fail "EC k_Parser_parse_step")
    (case a_Parser_parse_robot => first | k_is | fail "EC a_Parser_parse_robot")
    (case i_Parser_parse_robot => first | k_is | fail "EC i_Parser_parse_robot")
    (case l_Parser_parse_robot => first | k_is | fail "EC l_Parser_parse_robot")
    (case c_Parser_parse_robot => first | k_is | fail "EC c_Parser_parse_robot")
    (case k_Parser_parse_robot => first | k_is | fail "EC k_Parser_parse_robot")
    (case a_Parser_parse_plan => first | k_is | fail "EC a_Parser_parse_plan")
    (case i_Parser_parse_plan => first | k_is | fail "EC i_Parser_parse_plan")
    (case l_Parser_parse_plan => first | k_is | fail "EC l_Parser_parse_plan")
    (case c_Parser_parse_plan => first | k_is | fail "EC c_Parser_parse_plan")
    (case k_Parser_parse_plan => first | k_is | fail "EC k_Parser_parse_plan")
    (case a_run_end => first | k_is | fail "EC a_run_end")
    (case l_run_end => first | k_is | fail "EC l_run_end")
    (case c_run_end => first | k_is | fail "EC c_run_end")
    (case k_run_end => first | k_is | fail "EC k_run_end")
    (case a_read_token => first | k_is | fail "EC a_read_token")
    (case l_read_token => first | k_is | fail "EC l_read_token")
    (case c_read_token => first | k_is | fail "EC c_read_token")
    (case k_read_token => first | k_is | fail "EC k_read_token")
    (case a_tokenize => first | k_is | fail "EC a_tokenize")
    (case l_tokenize => first | k_is | fail "EC l_tokenize")
    (case c_tokenize => first | k_is | fail "EC c_tokenize")
    (case k_tokenize => first | k_is | fail "EC k_tokenize")
    (case a_load => first | k_is | fail "EC a_load")
    (case l_load => first | k_is | fail "EC l_load")
    (case c_load => first | k_is | fail "EC c_load")
    (case k_load => first | k_is | fail "EC k_load")
    (case a_first_difference => first | k_is | fail "EC a_first_difference")
    (case l_first_difference => first | k_is | fail "EC l_first_difference")
    (case c_first_difference => first | k_is | fail "EC c_first_difference")
    (case k_first_difference => first | k_is | fail "EC k_first_difference")
    (case a_l_text => first | k_is | fail "EC a_l_text")
    (case l_l_text => first | k_is | fail "EC l_l_text")
    (case c_l_text => first | k_is | fail "EC c_l_text")
    (case k_l_text => first | k_is | fail "EC k_l_text")
    (case a_first_error => first | k_is | fail "EC a_first_error")
    (case l_first_error => first | k_is | fail "EC l_first_error")
    (case c_first_error => first | k_is | fail "EC c_first_error")
    (case k_first_error => first | k_is | fail "EC k_first_error")
    (case a_boxes => first | k_is | fail "EC a_boxes")
    (case l_boxes => first | k_is | fail "EC l_boxes")
    (case c_boxes => first | k_is | fail "EC c_boxes")
    (case k_boxes => first | k_is | fail "EC k_boxes")
    (case a_trace => first | k_is | fail "EC a_trace")
    (case l_trace => first | k_is | fail "EC l_trace")
    (case c_trace => first | k_is | fail "EC c_trace")
    (case k_trace => first | k_is | fail "EC k_trace")
    (case a_law => first | k_is | fail "EC a_law")
    (case l_law => first | k_is | fail "EC l_law")
    (case c_law => first | k_is | fail "EC c_law")
    (case k_law => first | k_is | fail "EC k_law")
    (case pg_Token => first | k_is | fail "EC pg_Token")
    (case hd_Token => first | k_is | fail "EC hd_Token")
    (case po_Token => first | k_is | fail "EC po_Token")
    (case sa_Token => first | k_is | fail "EC sa_Token")
    (case mk_Token => first | k_is | fail "EC mk_Token")
    (case kc_Token => first | k_is | fail "EC kc_Token")
    (case n_Token_kind => first | k_is | fail "EC n_Token_kind")
    (case n_Token_text => first | k_is | fail "EC n_Token_text")
    (case n_Token_line => first | k_is | fail "EC n_Token_line")
    (case n_Token_column => first | k_is | fail "EC n_Token_column")
    (case pg_Robot => first | k_is | fail "EC pg_Robot")
    (case hd_Robot => first | k_is | fail "EC hd_Robot")
    (case po_Robot => first | k_is | fail "EC po_Robot")
    (case sa_Robot => first | k_is | fail "EC sa_Robot")
    (case mk_Robot => first | k_is | fail "EC mk_Robot")
    (case kc_Robot => first | k_is | fail "EC kc_Robot")
    (case n_Robot_start => first | k_is | fail "EC n_Robot_start")
    (case n_Robot_steps => first | k_is | fail "EC n_Robot_steps")
    (case n_Robot_names => first | k_is | fail "EC n_Robot_names")
    (case pg_Plan => first | k_is | fail "EC pg_Plan")
    (case hd_Plan => first | k_is | fail "EC hd_Plan")
    (case po_Plan => first | k_is | fail "EC po_Plan")
    (case sa_Plan => first | k_is | fail "EC sa_Plan")
    (case mk_Plan => first | k_is | fail "EC mk_Plan")
    (case kc_Plan => first | k_is | fail "EC kc_Plan")
    (case n_Plan_shelf => first | k_is | fail "EC n_Plan_shelf")
    (case n_Plan_robots => first | k_is | fail "EC n_Plan_robots")
    (case pg_Parser => first | k_is | fail "EC pg_Parser")
    (case hd_Parser => first | k_is | fail "EC hd_Parser")
    (case po_Parser => first | k_is | fail "EC po_Parser")
    (case sa_Parser => first | k_is | fail "EC sa_Parser")
    (case mk_Parser => first | k_is | fail "EC mk_Parser")
    (case kc_Parser => first | k_is | fail "EC kc_Parser")
    (case n_Parser_tokens => first | k_is | fail "EC n_Parser_tokens")
    (case n_Parser_at => first | k_is | fail "EC n_Parser_at")
    (case n_Parser_faults => first | k_is | fail "EC n_Parser_faults")
    (case pg_State => first | k_is | fail "EC pg_State")
    (case hd_State => first | k_is | fail "EC hd_State")
    (case po_State => first | k_is | fail "EC po_State")
    (case sa_State => first | k_is | fail "EC sa_State")
    (case mk_State => first | k_is | fail "EC mk_State")
    (case kc_State => first | k_is | fail "EC kc_State")
    (case n_State_cells => first | k_is | fail "EC n_State_cells")
    (case n_State_nexts => first | k_is | fail "EC n_State_nexts")
    (case n_State_holds => first | k_is | fail "EC n_State_holds")
    (case n_State_shelf => first | k_is | fail "EC n_State_shelf")
    (case pg_Tick => first | k_is | fail "EC pg_Tick")
    (case hd_Tick => first | k_is | fail "EC hd_Tick")
    (case po_Tick => first | k_is | fail "EC po_Tick")
    (case sa_Tick => first | k_is | fail "EC sa_Tick")
    (case mk_Tick => first | k_is | fail "EC mk_Tick")
    (case kc_Tick => first | k_is | fail "EC kc_Tick")
    (case n_Tick_words => first | k_is | fail "EC n_Tick_words")
    (case n_Tick_state => first | k_is | fail "EC n_Tick_state")
    (case pg_Story => first | k_is | fail "EC pg_Story")
    (case hd_Story => first | k_is | fail "EC hd_Story")
    (case po_Story => first | k_is | fail "EC po_Story")
    (case sa_Story => first | k_is | fail "EC sa_Story")
    (case mk_Story => first | k_is | fail "EC mk_Story")
    (case kc_Story => first | k_is | fail "EC kc_Story")
    (case n_Story_ticks => first | k_is | fail "EC n_Story_ticks")
    (case n_Story_start => first | k_is | fail "EC n_Story_start")
    (case z_len => first | k_is | fail "EC z_len")
    (case z_abs => first | k_is | fail "EC z_abs")
    (case z_range => first | k_is | fail "EC z_range")
    (case z_str => first | k_is | fail "EC z_str")
    (case z_int => first | k_is | fail "EC z_int")
    (case z_tuple => first | k_is | fail "EC z_tuple")
    (case z_list => first | k_is | fail "EC z_list")
    (case z_sum => first | k_is | fail "EC z_sum")
    (case z_isinstance => first | k_is | fail "EC z_isinstance")
    (case z_bool => first | k_is | fail "EC z_bool")
    (case z_enumerate => first | k_is | fail "EC z_enumerate")
    (case z_zip => first | k_is | fail "EC z_zip")
    (case z_min => first | k_is | fail "EC z_min")
    (case z_all => first | k_is | fail "EC z_all")
    (case z_divmod => first | k_is | fail "EC z_divmod")
    (case z_max => first | k_is | fail "EC z_max")
    (case z_dict => first | k_is | fail "EC z_dict")
    (case z_sorted => first | k_is | fail "EC z_sorted")
    (case a_MOVES => first | k_is | fail "EC a_MOVES")
    (case l_MOVES => first | k_is | fail "EC l_MOVES")
    (case a_JUMPS => first | k_is | fail "EC a_JUMPS")
    (case l_JUMPS => first | k_is | fail "EC l_JUMPS")
    (case a_KEYWORDS => first | k_is | fail "EC a_KEYWORDS")
    (case l_KEYWORDS => first | k_is | fail "EC l_KEYWORDS")
    (case a_LETTERS => first | k_is | fail "EC a_LETTERS")
    (case a_DIGITS => first | k_is | fail "EC a_DIGITS")
    (case a_SPACES => first | k_is | fail "EC a_SPACES")
    (case a_SIGNS => first | k_is | fail "EC a_SIGNS")
    (case a_MAX_LETTERS => first | k_is | fail "EC a_MAX_LETTERS")
    (case a_MAX_DIGITS => first | k_is | fail "EC a_MAX_DIGITS")
    (case a_NAME => first | k_is | fail "EC a_NAME")
    (case a_NUMBER => first | k_is | fail "EC a_NUMBER")
    (case a_KEYWORD => first | k_is | fail "EC a_KEYWORD")
    (case a_SIGN => first | k_is | fail "EC a_SIGN")
    (case a_END => first | k_is | fail "EC a_END")
    (case a_MIN_CELLS => first | k_is | fail "EC a_MIN_CELLS")
    (case a_MAX_CELLS => first | k_is | fail "EC a_MAX_CELLS")
    (case a_MAX_BOXES => first | k_is | fail "EC a_MAX_BOXES")
    (case a_MAX_STEPS => first | k_is | fail "EC a_MAX_STEPS")
    (case a_MAX_TICK => first | k_is | fail "EC a_MAX_TICK")
    (case a_MAX_STATES => first | k_is | fail "EC a_MAX_STATES")
    (case a_MAX_TRACE => first | k_is | fail "EC a_MAX_TRACE")
    (case a_BLOCKED => first | k_is | fail "EC a_BLOCKED")


