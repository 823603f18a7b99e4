import PyProof.Rows.All
import Wide.All
import OpenK.AllK
import Wide.FinOn
import HandS.ForMost
import HandS.ForExc
import HandS.Walk
import HandS.Lambda
import HandS.Nested
import HandS.EndTab
import PySem.Challenge.RW_shelfbots_k10_first_differences
import HandS.Property
import HandS.GenCall
import HandS.GenList
import HandS.ExcIs
import HandS.Zip
import KE.KDictKeyed
import PyProof.RulesMatch
import HandS.Style
import HandS.IsInst
import HandS.Star
import HandS.Strs
import KE.GoesMore
import KE.GoesEnum
import HandS.TupAny
import HandS.Small
import HandS.List
import HandS.SetFor
import HandS.ExcField
import HandS.WordsExc
import HandS.ExcOwn
import PyProof.StrOps2
import KE.DataCmp
set_option Elab.async false
set_option linter.all false
set_option maxRecDepth 100000
set_option maxHeartbeats 0
namespace Sb
open PySem PySem.Spec PyProof.Rows L2

/-! ### the data heap G within the heap H, grown by new objects alone -/
structure Ext (G H G' H' : Hp) : Prop where
  g : Same G G'
  h : Same G' H'
  n : ∀ b o, G' b = some o → G b = some o ∨ H b = none
  k : ∀ b, H' b = none → H b = none
/-- H without d -/
def wo (d : Addr) (H : Hp) : Hp := fun b => if b = d then none else H b
theorem wo_self {d : Addr} {H : Hp} : wo d H d = none := if_pos rfl
theorem wo_ne {d b : Addr} {H : Hp} (h : b ≠ d) : wo d H b = H b := if_neg h
theorem wo_some {d b : Addr} {H : Hp} {o : HO} (h : wo d H b = some o) : b ≠ d ∧ H b = some o := by
  by_cases e : b = d
  · rw [e, wo_self] at h; cases h
  · rw [wo_ne e] at h; exact ⟨e, h⟩
section
variable {G H G' H' G1 H1 G2 H2 : Hp} {d p l b : Addr} {o o' : HO}
theorem same_new (np : H p = none) : Same H (upd H p o) := fun b u e => by rw [upd_ne (ne_of_none e np)]; exact e
theorem same_up (s : Same G H) (np : H p = none) : Same (upd G p o) (upd H p o) := fun b u e => by
  by_cases h : b = p
  · subst h; rw [upd_same] at e ⊢; exact e
  · rw [upd_ne h] at e ⊢; exact s _ _ e
theorem same_put (s : Same G H) (n : G l = none) : Same G (upd H l o) := fun b u e => by rw [upd_ne (ne_of_none e n)]; exact s _ _ e
theorem same_add (s : Same G H) (h : H l = some o) : Same (upd G l o) H := fun b u e => by
  by_cases hb : b = l
  · subst hb; rw [upd_same] at e; rw [h]; exact e
  · rw [upd_ne hb] at e; exact s _ _ e
theorem Ext.refl (s : Same G H) : Ext G H G H := ⟨Same.refl G, s, fun _ _ e => .inl e, fun _ e => e⟩
theorem Ext.trans (a : Ext G H G1 H1) (b : Ext G1 H1 G2 H2) : Ext G H G2 H2 :=
  ⟨a.g.trans b.g, b.h, fun c o e => (b.n c o e).elim (fun e1 => a.n c o e1) fun e1 => .inr (a.k c e1), fun c e => a.k c (b.k c e)⟩
theorem Ext.start (a : Ext G H G' H') (s : Same G H) : Ext G H G H := Ext.refl s
/-- a new object, data -/
theorem Ext.new (a : Ext G H G1 H1) (np : H1 p = none) : Ext G H (upd G1 p o) (upd H1 p o) := by
  refine ⟨fun b u e => ?_, same_up a.h np, fun b u e => ?_, fun b e => ?_⟩
  · exact same_new (Same.free a.h np) _ _ (a.g b u e)
  · by_cases hb : b = p
    · rw [hb]; exact .inr (a.k p np)
    · rw [upd_ne hb] at e; exact a.n b u e
  · by_cases hb : b = p
    · rw [hb]; exact a.k p np
    · rw [upd_ne hb] at e; exact a.k b e
/-- a new object, not (yet) data -/
theorem Ext.lay (a : Ext G H G1 H1) (np : H1 p = none) : Ext G H G1 (upd H1 p o) := by
  refine ⟨a.g, same_put a.h (Same.free a.h np), a.n, fun b e => ?_⟩
  by_cases hb : b = p
  · rw [hb]; exact a.k p np
  · rw [upd_ne hb] at e; exact a.k b e
/-- a thing that is not data is written -/
theorem Ext.put (a : Ext G H G1 H1) (n : G1 l = none) : Ext G H G1 (upd H1 l o) := by
  refine ⟨a.g, same_put a.h n, a.n, fun b e => ?_⟩
  by_cases hb : b = l
  · rw [hb, upd_same] at e; cases e
  · rw [upd_ne hb] at e; exact a.k b e
/-- a thing made since becomes data -/
theorem Ext.freeze (a : Ext G H G1 H1) (n : H l = none) (h : H1 l = some o) : Ext G H (upd G1 l o) H1 := by
  refine ⟨fun b u e => ?_, same_add a.h h, fun b u e => ?_, a.k⟩
  · have e1 := a.g b u e
    by_cases hb : b = l
    · subst hb; rw [upd_same]; rw [← h]; exact a.h _ _ e1
    · rw [upd_ne hb]; exact e1
  · by_cases hb : b = l
    · rw [hb]; exact .inr n
    · rw [upd_ne hb] at e; exact a.n b u e
theorem Ext.out (a : Ext G H G1 H1) (g : G d = none) (h : H d = some o) : G1 d = none := by
  cases e : G1 d with
  | none => rfl
  | some u =>
    rcases a.n d u e with e1 | e1
    · rw [g] at e1; cases e1
    · rw [h] at e1; cases e1
theorem Ext.same (a : Ext G H G1 H1) : Same G H1 := a.g.trans a.h
theorem Ext.new_out (a : Ext G H G1 H1) (np : H1 p = none) : G1 p = none := Same.free a.h np
/-- the caller's wider data heap -/
theorem same_wo (s : Same G H) (g : G d = none) : Same G (wo d H) := fun b u e => by
  rw [wo_ne (ne_of_none e g)]; exact s _ _ e
end

/-! ### data -/
section
variable {K : PySem.W.Frag} {G H : Hp}
theorem Same.seqT {a : Addr} {xs : List V} (e : Same G H) (h : SqT K G a xs) : SqT K H a xs := by
  rcases h with (h | ⟨o, h⟩) | h
  · exact .inl (.inl (e _ _ h))
  · exact .inl (.inr ⟨o, e _ _ h⟩)
  · exact .inr h
mutual
theorem Dp.mono (s : Same G H) : ∀ (d : PyData) (v : V), Dp K G v d → Dp K H v d
  | _, _, .non => .non
  | _, _, .bl b => .bl b
  | _, _, .int i => .int i
  | _, _, .str x => .str x
  | .list ds, _, .lst h t => .lst (s.seq h) (Dp.monoAll s ds _ t)
  | .tuple ds, _, .tup h t => .tup (Same.seqT s h) (Dp.monoAll s ds _ t)
theorem Dp.monoAll (s : Same G H) : ∀ (ds : List PyData) (vs : List V), DpAll K G vs ds → DpAll K H vs ds
  | _, _, .nil => .nil
  | d :: ds, v :: vs, .cons h t => .cons (Dp.mono s d v h) (Dp.monoAll s ds vs t)
end
theorem DpAll.len : ∀ {vs : List V} {ds : List PyData}, DpAll K G vs ds → vs.length = ds.length
  | _, _, .nil => rfl
  | _, _, .cons _ t => congrArg (· + 1) (DpAll.len t)
theorem DpAll.get : ∀ {vs : List V} {ds : List PyData} {i : Nat} {v : V}, DpAll K G vs ds → vs[i]? = some v → ∃ d, ds[i]? = some d ∧ Dp K G v d
  | _, _, _, _, .nil, e => by simp at e
  | _, _, 0, _, .cons h _, e => by simp at e; subst e; exact ⟨_, rfl, h⟩
  | _, _, i + 1, v, .cons _ t, e => by
    obtain ⟨d, h1, h2⟩ := DpAll.get (i := i) (v := v) t (by simpa using e)
    exact ⟨d, by simpa using h1, h2⟩
theorem DpAll.at : ∀ {vs : List V} {ds : List PyData} {i : Nat} {d : PyData}, DpAll K G vs ds → ds[i]? = some d → ∃ v, vs[i]? = some v ∧ Dp K G v d
  | _, _, _, _, .nil, e => by simp at e
  | _, _, 0, _, .cons h _, e => by simp at e; subst e; exact ⟨_, rfl, h⟩
  | _, _, i + 1, v, .cons _ t, e => by
    obtain ⟨d, h1, h2⟩ := DpAll.at (i := i) t (by simpa using e)
    exact ⟨d, by simpa using h1, h2⟩
theorem DpAll.snoc : ∀ {vs : List V} {ds : List PyData} {v : V} {d : PyData}, DpAll K G vs ds → Dp K G v d → DpAll K G (vs ++ [v]) (ds ++ [d])
  | _, _, _, _, .nil, h => .cons h .nil
  | _, _, _, _, .cons h t, h' => .cons h (DpAll.snoc t h')
theorem DpAll.append : ∀ {vs us : List V} {ds es : List PyData}, DpAll K G vs ds → DpAll K G us es → DpAll K G (vs ++ us) (ds ++ es)
  | _, _, _, _, .nil, h => h
  | _, _, _, _, .cons h t, h' => .cons h (DpAll.append t h')
theorem DpAll.ints : ∀ (ns : List Int), DpAll K G (ns.map V.int) (ns.map PyData.int)
  | [] => .nil
  | n :: ns => .cons (.int n) (DpAll.ints ns)
theorem DpAll.strs : ∀ (ns : List Str), DpAll K G (ns.map V.str) (ns.map PyData.str)
  | [] => .nil
  | n :: ns => .cons (.str n) (DpAll.strs ns)
theorem Dp.int_inv {v : V} {i : Int} (h : Dp K G v (.int i)) : v = .int i := by cases h; rfl
theorem Dp.str_inv {v : V} {i : Str} (h : Dp K G v (.str i)) : v = .str i := by cases h; rfl
theorem Dp.none_inv {v : V} (h : Dp K G v .none) : v = .non := by cases h; rfl
theorem Dp.bool_inv {v : V} {b : Bool} (h : Dp K G v (.bool b)) : v = .bl b := by cases h; rfl
theorem Dp.tup_inv {v : V} {ds : List PyData} (h : Dp K G v (.tuple ds)) : ∃ a xs, v = .ref a ∧ SqT K G a xs ∧ DpAll K G xs ds := by
  cases h with
  | tup h t => exact ⟨_, _, rfl, h, t⟩
theorem Dp.lst_inv {v : V} {ds : List PyData} (h : Dp K G v (.list ds)) : ∃ a xs, v = .ref a ∧ SqL K G a xs ∧ DpAll K G xs ds := by
  cases h with
  | lst h t => exact ⟨_, _, rfl, h, t⟩
theorem DpAll.nil_inv {vs : List V} (h : DpAll K G vs []) : vs = [] := by cases h; rfl
theorem DpAll.cons_inv {vs : List V} {d : PyData} {ds : List PyData} (h : DpAll K G vs (d :: ds)) : ∃ v r, vs = v :: r ∧ Dp K G v d ∧ DpAll K G r ds := by
  cases h with
  | cons h t => exact ⟨_, _, rfl, h, t⟩
theorem DpAll.ints_inv : ∀ {ns : List Int} {vs : List V}, DpAll K G vs (ns.map PyData.int) → vs = ns.map V.int
  | [], _, .nil => rfl
  | _ :: _, _, .cons h t => by rw [Dp.int_inv h, DpAll.ints_inv t]; rfl
theorem DpAll.strs_inv : ∀ {ns : List Str} {vs : List V}, DpAll K G vs (ns.map PyData.str) → vs = ns.map V.str
  | [], _, .nil => rfl
  | _ :: _, _, .cons h t => by rw [Dp.str_inv h, DpAll.strs_inv t]; rfl
end

/-! ### fields of a new instance -/
theorem putF_new {f : Str} {v : V} : ∀ {fs : List (Str × V)}, f ∉ fs.map (·.1) → putF f v fs = fs ++ [(f, v)]
  | [], _ => rfl
  | (g, u) :: r, h => by
    have h1 : ¬ g = f := fun e => h (by simp [e])
    have h2 : f ∉ r.map (·.1) := fun e => h (by simp only [List.map_cons, List.mem_cons]; exact .inr e)
    show (if g = f then _ else (g, u) :: putF f v r) = _
    rw [if_neg h1, putF_new h2]
    rfl
theorem ite_b {c : Bool} {A B : Prop} (h1 : c = true → A) (h2 : c = false → B) : if c = true then A else B := by
  cases c with
  | true => rw [if_pos rfl]; exact h1 rfl
  | false => rw [if_neg Bool.false_ne_true]; exact h2 rfl
theorem ite_t {c : Bool} {A B : Prop} (hc : c = true) (h : A) : if c = true then A else B := by rw [if_pos hc]; exact h
theorem ite_f {c : Bool} {A B : Prop} (hc : c = false) (h : B) : if c = true then A else B := by rw [hc, if_neg Bool.false_ne_true]; exact h
theorem small {n : Nat} (m : Nat) (h : n ≤ m) (hm : m ≤ 16777216) : n ≤ sizeLine := by rw [sizeLine_eq]; omega
theorem smaller {n : Nat} (m : Nat) (h : n ≤ m) (hm : m < 16777216) : n < sizeLine := by rw [sizeLine_eq]; omega

/-! ### the source of draws: d = [seed, digits, further..] -/
structure Src (ds : List Int) : Prop where
  ex : ∃ s e r, ds = s :: e :: r ∧ 0 ≤ s ∧ 0 ≤ e ∧ (∀ x ∈ r, (0 : Int) ≤ x) ∧ r.length ≤ 63
end Sb

namespace Sb
open PySem PySem.Spec PyProof.Rows L2 LamX NdefX
/-! ### a thing held still -/
def Fz (o : Obj) : HO := .frz o (.ext fun _ => True)
theorem fz_ok {P : Program} {w : World} {H : Hp} {h : Heap} {a : Addr} {o : Obj} (e : h.get? a = some o) : ObjOk P w H h a (Fz o) := ⟨e, trivial, ⟨o, e⟩, fun _ _ _ _ => trivial⟩
theorem fz_at {P : Program} {w : World} {H : Hp} {h : Heap} {a : Addr} {o : Obj} (hok : HOk P w H h) (e : H a = some (Fz o)) : h.get? a = some o := (hok a _ e).1
/-- without these -/
def cut (S : List Addr) (H : Hp) : Hp := fun b => if b ∈ S then none else H b
theorem cut_in {S : List Addr} {H : Hp} {b : Addr} (h : b ∈ S) : cut S H b = none := if_pos h
theorem cut_out {S : List Addr} {H : Hp} {b : Addr} (h : b ∉ S) : cut S H b = H b := if_neg h
theorem cut_some {S : List Addr} {H : Hp} {b : Addr} {o : HO} (h : cut S H b = some o) : b ∉ S ∧ H b = some o := by
  by_cases e : b ∈ S
  · rw [cut_in e] at h; cases h
  · rw [cut_out e] at h; exact ⟨e, h⟩
/-- H4 is H with the cells tracked -/
structure Trk (cells : List (Addr × Obj)) (H H4 : Hp) : Prop where
  out : ∀ b, b ∉ cells.map (·.1) → H4 b = H b
  was : ∀ p ∈ cells, H p.1 = none
  at_ : ∀ p ∈ cells, H4 p.1 = some (Fz p.2)
section
variable {P : Program} {w : World} {K : PySem.W.Frag} {mg : Str → Option Value} {base : Heap} {A : Around} {outer : List Env} {s s' : Shared} {H H4 : Hp} {cells : List (Addr × Obj)} {Q : VK} {u : Value}
theorem Trk.none (t : Trk cells H H4) {b : Addr} (h : b ∈ cells.map (·.1)) : H b = Option.none ∧ ∃ o, H4 b = some (Fz o) := by
  obtain ⟨p, hp, rfl⟩ := List.mem_map.mp h
  exact ⟨t.was p hp, _, t.at_ p hp⟩
theorem Trk.cut (t : Trk cells H H4) : cut (cells.map (·.1)) H4 = H := by
  funext b
  by_cases h : b ∈ cells.map (·.1)
  · rw [cut_in h, (t.none h).1]
  · rw [cut_out h, t.out b h]
theorem Trk.hok (t : Trk cells H H4) (hok : HOk P w H s.heap) (hc : ∀ p ∈ cells, s.heap.get? p.1 = some p.2) : HOk P w H4 s.heap := fun b o e => by
  by_cases h : b ∈ cells.map (·.1)
  · obtain ⟨p, hp, rfl⟩ := List.mem_map.mp h
    rw [t.at_ p hp] at e
    cases e
    exact fz_ok (hc p hp)
  · rw [t.out b h] at e
    refine (hok b o e).stay (fun _ _ _ z => z) (fun c z => ?_) fun c xs z => ?_
    · rw [t.out c fun q => by rw [(t.none q).1] at z; cases z]; exact z
    · rw [t.out c fun q => by rw [(t.none q).1] at z; cases z]; exact z
theorem Trk.env0 (t : Trk cells H H4) (e0 : Env0 P w K mg base A outer s H) (hc : ∀ p ∈ cells, s.heap.get? p.1 = some p.2) (hb : ∀ p ∈ cells, base.get? p.1 = Option.none) (hf : ∀ p ∈ cells, p.1 ∉ frs outer) : Env0 P w K mg base A outer s H4 := by
  refine ⟨e0.frames, e0.mod, fun b o e => ⟨(e0.bs b o e).1, ?_⟩, e0.bsz, e0.funs, fun b hb' => ?_, t.hok e0.hok hc, e0.bare⟩
  · rw [t.out b fun q => ?_]
    · exact (e0.bs b o e).2
    · obtain ⟨p, hp, rfl⟩ := List.mem_map.mp q
      rw [hb p hp] at e; cases e
  · rw [t.out b fun q => ?_]
    · exact e0.frf b hb'
    · obtain ⟨p, hp, rfl⟩ := List.mem_map.mp q
      exact hf p hp hb'
/-- behind a call with the cells tracked -/
theorem Trk.after (t : Trk cells H H4) (hc : ∀ p ∈ cells, s.heap.get? p.1 = some p.2) (h : CE outer P w H4 s (fun v H' => Q v (Sb.cut (cells.map (·.1)) H')) u s') : CE outer P w H s Q u s' := by
  obtain ⟨v, H5, os, bare, un, hok, r, q⟩ := h
  have fz5 : ∀ p ∈ cells, H5 p.1 = some (Fz p.2) := fun p hp => un.frzs _ _ _ (t.at_ p hp)
  have at5 : ∀ p ∈ cells, s'.heap.get? p.1 = some p.2 := fun p hp => fz_at hok (fz5 p hp)
  have nS : ∀ {b : Addr} {o : HO}, H b = some o → b ∉ cells.map (·.1) := fun {b o} e q => by rw [(t.none q).1] at e; cases e
  refine ⟨v, _, os, bare, ⟨fun b o e n nf nx => ?_, fun b o e n nf nx => ?_, fun b o e n nx => ?_, un.there, fun b xs e => ?_, fun b o u e => ?_, fun b ps e => ?_⟩, fun b o e => ?_, r, q⟩
  · by_cases h : b ∈ cells.map (·.1)
    · obtain ⟨p, hp, rfl⟩ := List.mem_map.mp h
      rw [hc p hp] at e; cases e
      exact at5 p hp
    · exact un.keep b o e (by rw [t.out b h]; exact n) nf nx
  · by_cases h : b ∈ cells.map (·.1)
    · obtain ⟨p, hp, rfl⟩ := List.mem_map.mp h
      rw [hc p hp] at e; cases e
      exact ⟨p.2.slots, at5 p hp⟩
    · exact un.slot b o e (by rw [t.out b h]; exact n) nf nx
  · by_cases h : b ∈ cells.map (·.1)
    · exact cut_in h
    · rw [cut_out h]; exact un.free b o e (by rw [t.out b h]; exact n) nx
  · rw [cut_out (nS e)]; exact un.tups b xs (by rw [t.out b (nS e)]; exact e)
  · rw [cut_out (nS e)]; exact un.frzs b o u (by rw [t.out b (nS e)]; exact e)
  · rw [cut_out (nS e)]; exact un.tbls b ps (by rw [t.out b (nS e)]; exact e)
  · obtain ⟨hb, e5⟩ := cut_some e
    refine (hok b o e5).stay (fun _ _ _ z => z) (fun c z => ?_) fun c xs z => ?_
    · rw [cut_out fun q => ?_]; exact z
      obtain ⟨p, hp, rfl⟩ := List.mem_map.mp q
      rw [fz5 p hp] at z; cases z
    · rw [cut_out fun q => ?_]; exact z
      obtain ⟨p, hp, rfl⟩ := List.mem_map.mp q
      rw [fz5 p hp] at z; cases z
/-- the other way: they are untracked through a call -/
theorem Trk.env0_cut (hF : ∀ p ∈ cells, H4 p.1 = some (Fz p.2)) (e0 : Env0 P w K mg base A outer s H4) : Env0 P w K mg base A outer s (Sb.cut (cells.map (·.1)) H4) := by
  refine ⟨e0.frames, e0.mod, fun b o e => ⟨(e0.bs b o e).1, ?_⟩, e0.bsz, e0.funs, fun b hb => ?_, fun b o e => ?_, e0.bare⟩
  · unfold Sb.cut; split; rfl; exact (e0.bs b o e).2
  · unfold Sb.cut; split; rfl; exact e0.frf b hb
  · obtain ⟨hb, e4⟩ := cut_some e
    refine (e0.hok b o e4).stay (fun _ _ _ z => z) (fun c z => ?_) fun c xs z => ?_
    · rw [cut_out fun q => ?_]; exact z
      obtain ⟨p, hp, rfl⟩ := List.mem_map.mp q
      rw [hF p hp] at z; cases z
    · rw [cut_out fun q => ?_]; exact z
      obtain ⟨p, hp, rfl⟩ := List.mem_map.mp q
      rw [hF p hp] at z; cases z
def rejoin (S : List Addr) (H H' : Hp) : Hp := fun b => if b ∈ S then H b else H' b
theorem Trk.after_cut (hF : ∀ p ∈ cells, H4 p.1 = some (Fz p.2)) (e0 : Env0 P w K mg base A outer s H4) (h : CE outer P w (Sb.cut (cells.map (·.1)) H4) s (fun v H' => Q v (rejoin (cells.map (·.1)) H4 H')) u s') : CE outer P w H4 s Q u s' := by
  obtain ⟨v, H5, os, bare, un, hok, r, q⟩ := h
  have obj : ∀ {b : Addr}, b ∈ cells.map (·.1) → ∃ o, H4 b = some (Fz o) ∧ s.heap.get? b = some o ∧ b ∉ frs outer := fun {b} h => by
    obtain ⟨p, hp, rfl⟩ := List.mem_map.mp h
    refine ⟨p.2, hF p hp, fz_at e0.hok (hF p hp), fun z => ?_⟩
    have := e0.frf _ z
    rw [hF p hp] at this; cases this
  have n5 : ∀ {b : Addr}, b ∈ cells.map (·.1) → H5 b = Option.none := fun {b} h => by
    obtain ⟨o, _, h2, _⟩ := obj h
    exact un.free b o h2 (cut_in h) (by simp)
  have rin : ∀ {b : Addr}, b ∈ cells.map (·.1) → rejoin (cells.map (·.1)) H4 H5 b = H4 b := fun h => if_pos h
  have rout : ∀ {b : Addr}, b ∉ cells.map (·.1) → rejoin (cells.map (·.1)) H4 H5 b = H5 b := fun h => if_neg h
  refine ⟨v, _, os, bare, ⟨fun b o e n nf nx => ?_, fun b o e n nf nx => ?_, fun b o e n nx => ?_, un.there, fun b xs e => ?_, fun b o u e => ?_, fun b ps e => ?_⟩, fun b o e => ?_, r, q⟩
  · refine un.keep b o e ?_ nf nx
    unfold Sb.cut; split; rfl; exact n
  · refine un.slot b o e ?_ nf nx
    unfold Sb.cut; split; rfl; exact n
  · by_cases h : b ∈ cells.map (·.1)
    · rw [rin h]; exact n
    · rw [rout h]; exact un.free b o e (by rw [cut_out h]; exact n) nx
  · by_cases h : b ∈ cells.map (·.1)
    · rw [rin h]; exact e
    · rw [rout h]; exact un.tups b xs (by rw [cut_out h]; exact e)
  · by_cases h : b ∈ cells.map (·.1)
    · rw [rin h]; exact e
    · rw [rout h]; exact un.frzs b o u (by rw [cut_out h]; exact e)
  · by_cases h : b ∈ cells.map (·.1)
    · rw [rin h]; exact ⟨#[], by rw [e]; simp⟩
    · rw [rout h]; exact un.tbls b ps (by rw [cut_out h]; exact e)
  · by_cases h : b ∈ cells.map (·.1)
    · rw [rin h] at e
      obtain ⟨o', h1, h2, h3⟩ := obj h
      rw [h1] at e; cases e
      exact fz_ok (un.keep b o' h2 (cut_in h) h3 (by simp))
    · rw [rout h] at e
      refine (hok b o e).stay (fun _ _ _ z => z) (fun c z => ?_) fun c xs z => ?_
      · rw [rout fun q => ?_]; exact z
        rw [n5 q] at z; cases z
      · rw [rout fun q => ?_]; exact z
        rw [n5 q] at z; cases z
theorem rejoin_cut {S : List Addr} {H : Hp} : rejoin S H (Sb.cut S H) = H := by
  funext b
  by_cases h : b ∈ S
  · exact if_pos h
  · show (if b ∈ S then H b else Sb.cut S H b) = H b
    rw [if_neg h, cut_out h]
end
/-! ### a lambda is made, and tracked -/
section
variable {X : Cx} {pins : List (Addr × Obj)} {σ : L2.St} {H : Hp} {s : Shared}
theorem inv_fz {o : Obj} {t' : Nat} (I : Inv X pins σ H s) (hf : o.isFreed = false) : Inv X pins σ (upd H s.heap.objs.size (Fz o)) { s with heap := s.heap.push o, toks := t' } :=
  I.laid (a := s.heap.objs.size) (fun b u e => Heap.get?_push_of_some _ e) (Nat.le_refl _) (fz_ok (Heap.get?_push_size _ hf))
theorem lam_make3 {T : List (Addr × Str)} {c P : Addr} {params : Arguments} {body : Expr} {scope : Scope} {pos : Pos} {E : Value → Shared → Prop} {Q : Value → Shared → Prop} (I : Inv X pins σ H s) (TB : TabB X.base X.mg c P) (hcode : X.env.code = .ref c)
    (hm : (P, X.env.qual ++ "<lambda>") ∈ T) (hu : ∀ p ∈ T, p.1 = P → p.2 = X.env.qual ++ "<lambda>") (hT : Tabs T H) (hdef : defaultsOf params X.env = ([], [])) (hfree : ∀ y ∈ scope.names, y.2 = .free → ∃ c, X.env.cells.lookup y.1 = some c)
    (h : ∀ (f c' : Addr) (pm ctv : Value) (H1 : Hp) (s' : Shared), Inv X pins σ H1 s' → (∀ b o, b ≠ P → H b = some o → H1 b = some o) → (∀ b, H1 b = none → H b = none) → Tabs T H1 → H f = none →
      H1 f = some (Fz (PySem.W.kla_obj "<lambda>" (X.env.qual ++ "<lambda>") params body scope (cloFrom X.env.cells scope.names []) pm c' ctv)) → H1 c' = some (CodeO c' (X.env.qual ++ "<lambda>")) → Q (.ref f) s') :
    wpAny (model X.prog X.w) X.A (eval (.Lambda params body scope pos) X.env) Q E s := by
  obtain ⟨ps, hP, ht, ha⟩ := hT _ hm
  refine PySem.W.kla_eval hdef ?_
  have bP : s.heap.BuiltinsAt X.mg P := TB.bm.keeps I.bk
  have hP' : s.heap.get? P = some { cls := .none, data := .fields ps } := I.hok P _ hP
  cases hc : codeAmong pos ps.toList with
  | none =>
    refine PySem.W.kla_makeFunction (mg := X.mg) (c := c) (P := P) (ps := ps) (closure_ok hfree) I.ok.glob (I.mod.glob.keeps I.bk) hcode (TB.code.keeps I.bk) hP' ht hc TB.gP bP fun c' ctv h' tk hx hge hlt hrec htb => ?_
    obtain ⟨c2, oc, vs, t, e2, hoc, hd, hv⟩ := hrec
    cases e2
    have hsz : s.heap.objs.size ≤ h'.objs.size := Nat.le_trans hge (Nat.le_of_lt hlt)
    have nC : H c' = none := I.hok.fresh hge
    have I1 := inv_table (t' := tk) (more := #[rawInt pos.line, rawInt pos.col, .ref c']) (h' := h') I hP (fun b o hb e => hx b o hb e) htb hge ⟨oc, vs, t, hoc, hd, hv⟩
    have hE : ExtN H (upd (upd H P (.tbl (ps ++ #[rawInt pos.line, rawInt pos.col, .ref c']))) c' (CodeO c' (X.env.qual ++ "<lambda>"))) := fun b o e n => by
      rw [upd_ne (ne_of_none e nC), upd_ne (fun z => n ps (Option.some.inj (e.symm.trans (by rw [z]; exact hP))))]
      exact e
    have eL : (ps ++ #[rawInt pos.line, rawInt pos.col, .ref c']).toList = ps.toList ++ [rawInt pos.line, rawInt pos.col, .ref c'] := by simp
    have T1 : Tabs T (upd (upd H P (.tbl (ps ++ #[rawInt pos.line, rawInt pos.col, .ref c']))) c' (CodeO c' (X.env.qual ++ "<lambda>"))) := fun p hp => by
      by_cases hb : p.1 = P
      · rw [hu p hp hb, hb]
        refine ⟨_, by rw [upd_ne (ne_of_none hP nC), upd_same], by rw [eL]; exact PySem.TriplesOk_snoc _ _ _ _ ht, fun p' cv hcv => ?_⟩
        rw [eL] at hcv
        rcases among_app _ ht hcv with z | z
        · obtain ⟨c0, e1, e2⟩ := ha p' cv z
          exact ⟨c0, e1, hE _ _ e2 codeO_ne⟩
        · exact ⟨c', z, upd_same⟩
      · obtain ⟨ps', a1, a2, a3⟩ := hT p hp
        refine ⟨ps', by rw [upd_ne (ne_of_none a1 nC), upd_ne hb]; exact a1, a2, fun p' cv hcv => ?_⟩
        obtain ⟨c0, e1, e2⟩ := a3 p' cv hcv
        exact ⟨c0, e1, hE _ _ e2 codeO_ne⟩
    have nF := I1.hok.fresh (Nat.le_refl _)
    have I2 := inv_fz (o := PySem.W.kla_obj "<lambda>" (X.env.qual ++ "<lambda>") params body scope (cloFrom X.env.cells scope.names []) ((X.mg "__name__").getD .none) c' ctv) (t' := tk) I1 rfl
    refine h h'.objs.size c' ((X.mg "__name__").getD .none) ctv _ _ I2 (fun b o n e => ?_) (fun b e => upd_none (upd_none (upd_none e))) (T1.ext fun b o e => ?_) (I.hok.fresh hsz) upd_same ?_
    · have e1 : (upd (upd H P (.tbl (ps ++ #[rawInt pos.line, rawInt pos.col, .ref c']))) c' (CodeO c' (X.env.qual ++ "<lambda>"))) b = some o := by rw [upd_ne (ne_of_none e nC), upd_ne n]; exact e
      exact (upd_ne (ne_of_none e1 nF)).trans e1
    · exact (upd_ne (ne_of_none e nF)).trans e
    · exact (upd_ne (Nat.ne_of_lt hlt)).trans upd_same
  | some cv =>
    obtain ⟨c', e, hco⟩ := ha pos cv hc
    subst e
    refine PySem.W.kla_makeFunctionHit (mg := X.mg) (c := c) (P := P) (ps := ps) (closure_ok hfree) I.ok.glob (I.mod.glob.keeps I.bk) hcode (TB.code.keeps I.bk) hP' ht hc bP fun ctv h' tk hx hsz => ?_
    have I1 : Inv X pins σ H { s with heap := h', toks := tk } := I.kept fun b o e => hx b o e
    have nF : H h'.objs.size = none := I1.hok.fresh (Nat.le_refl _)
    have I2 := inv_fz (o := PySem.W.kla_obj "<lambda>" (X.env.qual ++ "<lambda>") params body scope (cloFrom X.env.cells scope.names []) ((X.mg "__name__").getD .none) c' ctv) (t' := tk) I1 rfl
    refine h h'.objs.size c' ((X.mg "__name__").getD .none) ctv _ _ I2 (fun b o n e => ?_) (fun b e => upd_none e) (hT.ext fun b o e => ?_) nF upd_same ?_
    · exact (upd_ne (ne_of_none e nF)).trans e
    · exact (upd_ne (ne_of_none e nF)).trans e
    · exact (upd_ne (ne_of_none hco nF)).trans hco
end
/-- lambda ..: .. as a value -/
def tLamV (T : List (Addr × Str)) (P : Addr) (q : Str) (params : Arguments) (body : Expr) (scope : Scope) (cl : List (Str × Addr)) : TE := fun σ H Q => Tabs T H ∧ ∀ (f c' : Addr) (pm ctv : Value) (H1 : Hp), (∀ b o, b ≠ P → H b = some o → H1 b = some o) → (∀ b, H1 b = none → H b = none) → Tabs T H1 → H f = none →
  H1 f = some (Fz (PySem.W.kla_obj "<lambda>" q params body scope cl pm c' ctv)) → H1 c' = some (CodeO c' q) → Q (.ref f) H1
section
variable {X : Cx}
theorem pe_lamV {T : List (Addr × Str)} {c P : Addr} {params : Arguments} {body : Expr} {scope : Scope} {pos : Pos} (TB : TabB X.base X.mg c P) (hcode : X.env.code = .ref c) (hm : (P, X.env.qual ++ "<lambda>") ∈ T) (hu : ∀ p ∈ T, p.1 = P → p.2 = X.env.qual ++ "<lambda>")
    (hdef : defaultsOf params X.env = ([], [])) (hfree : ∀ y ∈ scope.names, y.2 = .free → X.env.scope.names.lookup y.1 = some .cell ∨ X.env.scope.names.lookup y.1 = some .free) :
    PE X (.Lambda params body scope pos) (tLamV T P (X.env.qual ++ "<lambda>") params body scope (cloFrom X.env.cells scope.names [])) := by
  refine ⟨fun pins s σ H Q I h => ?_⟩
  obtain ⟨hT, h⟩ := h
  refine lam_make3 I TB hcode hm hu hT hdef (fun y hy e => (hfree y hy e).elim (fun z => I.ok.has _ (.inl z)) fun z => I.ok.has _ (.inr z)) fun f c' pm ctv H1 s' I1 eN nn T1 f0 f1 c1 => ?_
  exact ⟨.ref f, H1, I1, rfl, h f c' pm ctv H1 eN nn T1 f0 f1 c1⟩
end
/-! ### a method is called, the captured cells tracked -/
structure CapT (cl : List (Str × Addr)) (fr : List Str) (ws : List (Option V)) (cells : List (Addr × Obj)) : Prop where
  len : ws.length = fr.length
  all : ∀ y c, cl.lookup y = some c → ∃ o v, (c, o) ∈ cells ∧ o.data = .cell v
  inj : ∀ x y c, cl.lookup x = some c → cl.lookup y = some c → x = y
  has : ∀ (i : Nat) (y : Str), fr[i]? = some y → ∃ c, cl.lookup y = some c ∧ ∀ v, ws[i]? = some (some v) → ∃ o u, (c, o) ∈ cells ∧ o.data = .cell (some u) ∧ L2.RelV v u
theorem capT_cells {cl : List (Str × Addr)} {fr : List Str} {ws : List (Option V)} {cells : List (Addr × Obj)} {P : Program} {w : World} {H : Hp} {h : Heap} (C : CapT cl fr ws cells) (hok : HOk P w H h) (hF : ∀ p ∈ cells, H p.1 = some (Fz p.2)) : CellsAt cl fr ws h (cut (cells.map (·.1)) H) := by
  refine ⟨C.len, fun y c e => ?_, C.inj, fun i y e => ?_⟩
  · obtain ⟨o, v, hm, hd⟩ := C.all y c e
    exact ⟨cut_in (List.mem_map.mpr ⟨_, hm, rfl⟩), v, o, fz_at hok (hF _ hm), hd⟩
  · obtain ⟨c, hc, hv⟩ := C.has i y e
    refine ⟨c, hc, fun v ev => ?_⟩
    obtain ⟨o, u, hm, hd, r⟩ := hv v ev
    exact ⟨u, r, o, fz_at hok (hF _ hm), hd⟩
def tMethT (C : Addr) (m : Str) (sp : Sp) (E : XK) (ta : TE) (t : TA) (cl : List (Str × Addr)) (fr : List Str) (js : List Nat) : TE := fun σ H Q => ta σ H fun x H1 => ∃ a dx fs, x = .ref a ∧ H1 a = some (.ins C dx fs) ∧ fs.lookup m = none ∧
  t σ H1 fun vs H3 => ∀ (cells : List (Addr × Obj)) (H4 : Hp), CapT cl fr (js.map (slotAt σ)) cells → Trk cells H3 H4 → sp (x :: vs) H4 (fun v H5 => Q v (cut (cells.map (·.1)) H5)) E
section
variable {X : Cx} {C f : Addr} {k : Nat} {fd : FuncData} {ps : List Str} {sp : Sp} {m : Str} {o e : Expr} {es : List Expr} {ta : TE} {t : TA} {pos apos : Pos} {scope : Scope} {fr : List Str} {js : List Nat}
theorem pe_methT {pl : Sem Bool} (he : PE X o ta) (c : Cls X.K C) (hm : Meth X.K C m f) (F : FnOk X.prog X.w X.K X.mg X.base CX0 k f fd ps sp) (hr : Room k X.A) (hb : Binds X.K fd ps []) (ha : PA X (e :: es) t)
    (hfn : ∀ x, X.fn x = true) (hfree : ∀ y ∈ scope.names, y.2 = .free → X.env.scope.names.lookup y.1 = some .cell ∨ X.env.scope.names.lookup y.1 = some .free) (hfr : ∀ y ∈ fr, (y, NameKind.free) ∈ scope.names) (hjs : js.map (fun j => X.N[j]?) = fr.map some)
    (hst : starEach (e :: es) X.env = (false, eval e X.env) :: starEach es X.env := by rfl) (hpl : (backTo pos (starEach es X.env)).any (·.1) = false := by rfl)
    (ht : eval (.Call (.Attribute o m apos) (e :: es) [] pos) X.env = (do
      let ov ← eval o X.env
      standAt apos.atName
      let (f, first) ← holding [ov] (getMethod ov m pl)
      callWith pos f first (backTo pos (starEach (e :: es) X.env)) (backToKw pos (keywordEach [] X.env))) := by rfl) :
    PE X (.Call (.Attribute o m apos) (e :: es) [] pos) (tMethT C m sp E0 ta t (cloFrom X.env.cells scope.names []) fr js) := by
  refine ⟨fun pins s σ H Q I h => ?_⟩
  refine PySem.W.methodCall_KW (pl := pl) (thn (he.run pins s σ H _ I h) fun u s1 ⟨x, H1, I1, rx, a, dx, fs, ex, ea, l, q⟩ => ?_) ht
  subst ex
  obtain rfl : u = Value.ref a := rx
  refine getmeth_ok I1 ea c hm l ?_
  refine PySem.W.callWith_K (first := [.ref a]) (h₀ := X.base) I.ok.mod.kin hm.kp (thn (ha.run pos pins s1 σ H1 _ I1 q) fun us s2 ⟨vs, H2, I2, r, q2⟩ => ⟨I2.kIn, ?_⟩) hst hpl
  have cp : Caps X (cloFrom X.env.cells scope.names []) fr js := Caps.made I2.ok hfree hfr hjs
  have hf : ∀ y ∈ scope.names, y.2 = .free → ∃ c, X.env.cells.lookup y.1 = some c := fun y hy e => (hfree y hy e).elim (fun z => I2.ok.has _ (.inl z)) fun z => I2.ok.has _ (.inr z)
  have CA := cells_of I2 cp
  generalize hcl : cloFrom X.env.cells scope.names [] = cl at *
  -- the cells, as they stand
  have mem : ∀ p ∈ pinsAt (cl.map (·.2)) s2.heap, ∃ y, X.env.cells.lookup y = some p.1 := fun p hp => by
    obtain ⟨h1, _⟩ := of_pinsAt hp
    obtain ⟨⟨y, b⟩, hyb, eb⟩ := List.mem_map.mp h1
    have eb : b = p.1 := eb
    rw [← hcl] at hyb
    rcases cloFrom_mem hyb with z | ⟨z1, z2⟩
    · cases z
    · obtain ⟨c1, hc1⟩ := hf _ z1 rfl
      have hc1 : X.env.cells.lookup y = some c1 := hc1
      refine ⟨y, ?_⟩
      rw [← eb, hc1]
      have z2 : b = ((X.env.cells.lookup y).getD 0) := z2
      rw [z2, hc1]
      rfl
  have hcS : ∀ p ∈ pinsAt (cl.map (·.2)) s2.heap, s2.heap.get? p.1 = some p.2 := fun p hp => (of_pinsAt hp).2
  have T4 : Trk (pinsAt (cl.map (·.2)) s2.heap) H2 (fun b => if b ∈ (pinsAt (cl.map (·.2)) s2.heap).map (·.1) then (s2.heap.get? b).map Fz else H2 b) := by
    refine ⟨fun b hb => if_neg hb, fun p hp => ?_, fun p hp => ?_⟩
    · obtain ⟨y, hy⟩ := mem p hp
      exact I2.freeC y _ hy
    · show (if p.1 ∈ _ then _ else _) = _
      rw [if_pos (List.mem_map.mpr ⟨p, hp, rfl⟩), hcS p hp]
      rfl
  have CT : CapT cl fr (js.map (slotAt σ)) (pinsAt (cl.map (·.2)) s2.heap) := by
    have inC : ∀ {y : Str} {c : Addr}, cl.lookup y = some c → c ∈ cl.map (·.2) := fun {y c} e => List.mem_map.mpr ⟨_, PySem.mem_of_lookup e, rfl⟩
    refine ⟨CA.len, fun y c e => ?_, CA.inj, fun i y e => ?_⟩
    · obtain ⟨_, v, o, ho, hd⟩ := CA.all y c e
      exact ⟨o, v, mem_pinsAt (inC e) ho, hd⟩
    · obtain ⟨c, hc, hv⟩ := CA.has i y e
      refine ⟨c, hc, fun v ev => ?_⟩
      obtain ⟨u, r, o, ho, hd⟩ := hv v ev
      exact ⟨o, u, mem_pinsAt (inC hc) ho, hd, r⟩
  have e0 := T4.env0 I2.env0 hcS (fun p hp => ?_) (fun p hp => ?_)
  · have q3 := q2 _ _ CT T4
    have r2 : Vals (V.ref a :: vs) (.ref a :: us) := .cons rfl r
    have hl : (Value.ref a :: us).length = ps.length := by rw [← r2.length]; exact F.len _ _ _ _ q3
    refine wpAny_call (codeAny_mono (F.run X.A X.stack s2 _ ⟨.ref a :: us, []⟩ (.ref a :: us) (.ref a :: vs) _ _ hr e0 ?_ r2 q3) fun r' s' hq => ?_)
    · have := hb s2 (.ref a :: us) I2.kIn (by rw [List.append_nil]; exact hl)
      rw [List.append_nil] at this
      exact this
    · cases r' with
      | error e => exact False.elim hq
      | ok fl =>
        cases fl with
        | ret u => exact I2.after (T4.after hcS hq)
        | next => exact False.elim hq
        | brk => exact False.elim hq
        | cont => exact False.elim hq
  · obtain ⟨y, hy⟩ := mem p hp
    have h1 := I2.ok.cab y _ (hfn y) hy
    cases e : X.base.get? p.1 with
    | none => rfl
    | some o => exact absurd (Nat.lt_of_lt_of_le (Heap.lt_size e) (Nat.le_trans I2.ok.bsz h1)) (Nat.lt_irrefl _)
  · obtain ⟨y, hy⟩ := mem p hp
    obtain ⟨v, o, ho, hd⟩ := I2.cell y _ hy
    intro hfrm
    rcases List.mem_cons.mp (I2.stkSub _ hfrm) with z | z
    · obtain ⟨m, hns, _⟩ := I2.loc
      obtain ⟨o2, es2, ep2, ho2, hd2, _⟩ := hns
      rw [← z, ho] at ho2; cases ho2
      rw [hd] at hd2; cases hd2
    · obtain ⟨_, o2, ho2, _⟩ := I2.ok.funs.mem z
      exact absurd (Nat.lt_of_lt_of_le (Heap.lt_size ho2) (I2.ok.cab y _ (hfn y) hy)) (Nat.lt_irrefl _)
end
/-! ### a function of one argument that gives a value and changes nothing -/
structure Lam1 (P : Program) (w : World) (K : PySem.W.Frag) (mg : Str → Option Value) (base : Heap) (k : Nat) (f : Addr) (D : Hp → Prop) (R : V → Hp → V → Prop) : Prop where
  fn : ∀ (H : Hp) (h : Heap), HOk P w H h → D H → PySem.W.FnAt f h
  run : ∀ (A : Around) (outer : List Env) (s : Shared) (H : Hp) (u : Value) (v : V) (Q : VK), Room k A → Env0 P w K mg base A outer s H → D H → L2.RelV v u → (∃ z, R v H z ∧ Q z H) →
    codeAny (model P w) A (.call (.ref f) ⟨[u], []⟩) (CR CX0 outer P w H s Q E0) s
def tCallM (P : Program) (w : World) (K : PySem.W.Frag) (mg : Str → Option Value) (base : Heap) (k i : Nat) (t : TA) : TE := fun σ H Q => ∃ f D R, Lam1 P w K mg base k f D R ∧ σ[i]? = some (some (.ref f)) ∧ D H ∧ t σ H fun vs H1 => ∃ v, vs = [v] ∧ D H1 ∧ ∃ z, R v H1 z ∧ Q z H1
section
variable {X : Cx} {i k : Nat} {x : Str} {e : Expr} {t : TA} {p pos : Pos}
theorem pe_callM (hr : Room k X.A) (hN : X.N[i]? = some x) (hv : Vis X.env.scope x) (ha : PA X [e] t) (hd : (x == ("__debug__" : Str)) = false := by decide) (hcd : (x == ("__classdict__" : Str)) = false := by decide)
    (he : starEach [e] X.env = (false, eval e X.env) :: starEach [] X.env := by rfl) : PE X (.Call (.Name x p) [e] [] pos) (tCallM X.prog X.w X.K X.mg X.base k i t) := by
  refine ⟨fun pins s σ H Q I h => ?_⟩
  obtain ⟨f, D, R, L, hs, hD, ht⟩ := h
  refine wpAny_Call_Name_kw (thn ((pe_var (pos := p) hN hv hd hcd).run pins s σ H (fun v H1 => v = .ref f ∧ H1 = H) I ⟨.ref f, hs, rfl, rfl⟩) fun u s1 ⟨v, H1, I1, r1, q1⟩ => ?_)
  obtain ⟨ev, eH⟩ := q1
  subst ev
  rw [eH] at I1
  obtain rfl : u = Value.ref f := r1
  refine PySem.W.callWith_F (first := []) (L.fn _ _ I1.hok hD) (thn (ha.run pos pins s1 σ H _ I1 ht) fun us s2 ⟨vs, H2, I2, r, v, ev, h1, q⟩ => ⟨L.fn _ _ I2.hok h1, ?_⟩) he (by rfl)
  subst ev
  cases r with
  | cons rv rr =>
    cases rr
    show wpAny _ _ (call (.ref f) _) _ _ _
    refine wpAny_call (codeAny_mono (L.run X.A X.stack s2 H2 _ v Q hr I2.env0 h1 rv q) fun r' s' hq => ?_)
    cases r' with
    | error e => exact False.elim hq
    | ok fl =>
      cases fl with
      | ret u => exact I2.after hq
      | next => exact False.elim hq
      | brk => exact False.elim hq
      | cont => exact False.elim hq
end
/-! ### a lambda of one parameter -/
abbrev lamF (q : Str) (params : Arguments) (scope : Scope) (cl : List (Str × Addr)) (c' : Addr) : NF := ⟨"<lambda>", q, params, [], scope, cl, c'⟩
def LamD (f c' : Addr) (q : Str) (o : Obj) (cells : List (Addr × Obj)) (H : Hp) : Prop := H f = some (Fz o) ∧ H c' = some (CodeO c' q) ∧ ∀ p ∈ cells, H p.1 = some (Fz p.2)
theorem lam1_of {P : Program} {w : World} {K : PySem.W.Frag} {mg : Str → Option Value} {base : Heap} {k : Nat} {N fr : List Str} {ws : List (Option V)} {cells : List (Addr × Obj)} {cl : List (Str × Addr)} {f c' : Addr} {q x : Str} {params : Arguments} {body : Expr} {scope : Scope} {pm ctv : Value} {R : V → Hp → V → Prop}
    (S : NScope N [x] fr scope) (hb : ∀ u : Value, bindArgs (PySem.W.kla_fn "<lambda>" q params body scope cl pm (.ref c') ctv) ⟨[u], []⟩ = pure [(x, u)]) (C : CapT cl fr ws cells)
    (hbody : ∀ (A : Around) (outer : List Env) (s : Shared) (H : Hp) (v z : V), Room k (A.deeper (envF (lamF q params scope cl c') f s.heap.objs.size)) → R v H z →
      ∃ t : TE, PE (ncx CX0 P w K mg base N (lamF q params scope cl c') f A outer s (cut (cells.map (·.1)) H) E0) body t ∧ ∀ Q : VK, Q z (cut (cells.map (·.1)) H) → t (startF N [v] ws) (cut (cells.map (·.1)) H) Q) :
    Lam1 P w K mg base (k + 1) f (LamD f c' q (PySem.W.kla_obj "<lambda>" q params body scope cl pm c' ctv) cells) R := by
  refine ⟨fun H h hok D => ⟨_, _, _, _, fz_at hok D.1⟩, fun A outer s H u v Q hr e0 D rv qq => ?_⟩
  obtain ⟨hf, hc, hF⟩ := D
  obtain ⟨z, hR, hQ⟩ := qq
  have e1 := Trk.env0_cut hF e0
  have CA := capT_cells C e0.hok hF
  have of := fz_at e0.hok hf
  have hcode := codeO_at e0.hok hc
  have lim : s.heap.NoLimit := e0.mod.nolimit.keeps fun b o e => (e0.bs b o e).1
  have rc : codeAny (model P w) A (.call (.ref f) ⟨[u], []⟩) (CR CX0 outer P w (cut (cells.map (·.1)) H) s (fun v H' => Q v (rejoin (cells.map (·.1)) H H')) E0) s := by
    refine PySem.W.kla_callFunE hr.depth of rfl S.co S.gen rfl hcode ?_
    rw [hb u]
    refine wpAny_pure (wpAny_newFunctionEnv S.nocell (fun y hy => ?_) (fun h₁ hns hsb => ⟨lim.fresh _ hsb, ?_⟩) S.kind)
    · rw [List.mem_singleton.mp hy]
      exact S.par x (List.mem_singleton.mpr rfl)
    show codeAny _ _ (.expr body (envF (lamF q params scope cl c') f s.heap.objs.size)) _ _
    have kp : ∀ b o, s.heap.get? b = some o → h₁.get? b = some o := fun b o e => hsb.extBut b o (Nat.ne_of_lt (Heap.lt_size e)) (Heap.get?_push_of_some _ e)
    have J : Inv (ncx CX0 P w K mg base N (lamF q params scope cl c') f A outer s (cut (cells.map (·.1)) H) E0) [] (startF N [v] ws) (cut (cells.map (·.1)) H) { s with heap := h₁, toks := s.toks + ([(x, u)] : List (Str × Value)).length } :=
      inv_startN (F := lamF q params scope cl c') (ps := [x]) (us := [u]) (vs := [v]) S hr.hd e1 rfl (.cons rv .nil) CA hns kp
    obtain ⟨t, ht, hq⟩ := hbody A outer s H v z (hr.deeper _) hR
    refine PySem.W.kla_codeExpr (wpAny_mono (ht.run [] _ _ _ (fun v H' => Q v (rejoin (cells.map (·.1)) H H')) J (hq _ (by rw [rejoin_cut]; exact hQ))) (fun v s' hq' => ?_) fun e s' hq' => hq')
    obtain ⟨w', H', J', rv', q'⟩ := hq'
    exact ⟨w', H', J'.os, J'.bare, J'.base, J'.hok, rv', q'⟩
  refine codeAny_mono rc fun r s' hq => ?_
  cases r with
  | error e => exact hq
  | ok fl =>
    cases fl with
    | ret u => exact Trk.after_cut hF e0 hq
    | next => exact hq
    | brk => exact hq
    | cont => exact hq
end Sb

namespace Sb
open PySem PySem.Spec PyProof.Rows L2
/-- the lambda that stands last among the arguments of the call that a def returns -/
def lamArg (st : Stmt) : Expr := match (defBody st).getLast? with
  | some (.Return (some (.Call _ es _ _)) _) => es.getLast?.getD (.Constant .none 0 ⟨0, 0, 0, 0⟩)
  | _ => .Constant .none 0 ⟨0, 0, 0, 0⟩
def lamScope : Expr → Scope
  | .Lambda _ _ sc _ => sc
  | _ => default
def lamPar : Expr → Arguments
  | .Lambda ps _ _ _ => ps
  | _ => default
def lamBody : Expr → Expr
  | .Lambda _ b _ _ => b
  | e => e
theorem fun_okC {P : Program} {w : World} {K : PySem.W.Frag} {mg : Str → Option Value} {base : Heap} {x qual : Str} {st : Stmt} {f c : Addr} {fd : FuncData} {N ps : List Str} {k : Nat} {sp : Sp} (F : L2.Fun K x qual st f fd) (hc : fd.code = .ref c) (S : FnScope N ps (defScope st)) (len : ∀ vs H Q E, sp vs H Q E → vs.length = ps.length)
    (hbody : ∀ (A : Around) (outer : List Env) (s : Shared) (H : Hp) (vs : List V) (Q : VK) (E : XK), Room k (A.deeper (envOfC qual (defScope st) s.heap.objs.size f (.ref c))) → sp vs H Q E →
      ∃ t, PSs (cxOf CX0 P w K mg base N qual (defScope st) f (.ref c) A outer s H E).nox (defBody st) t ∧ t { nx := fun _ H' => Q .non H', rt := Q } (start N vs) H) : FnOk P w K mg base CX0 (k + 1) f fd ps sp := by
  obtain ⟨oc, od, kV, doc, pm, an, cdv, ct, osl, rfl, lk, hcd⟩ := F.ex
  have hc' : cdv = .ref c := hc
  subst hc'
  refine fn_of lk hcd S len fun A outer s H vs Q E hr hsp => ?_
  obtain ⟨t, h, q⟩ := hbody A outer s H vs Q E hr hsp
  exact ⟨t, h.nox, q⟩
end Sb

namespace Sb
open PySem PySem.Spec PyProof.Rows L2
/-! ### the heap with the source of draws at d, beside the data heap G -/
structure Now (d : Addr) (G H : Hp) : Prop where
  s : Same G H
  o : G d = none
  x : ∃ ds : List Int, H d = some (.lst (ds.map V.int)) ∧ Src ds
structure At (d : Addr) (G0 H0 G H : Hp) : Prop where
  now : Now d G H
  ext : Ext G0 H0 G H
  sm : Same (wo d H0) H
section
variable {d p l : Addr} {G0 H0 G H G1 H1 G2 H2 : Hp} {o : HO} {ds : List Int}
theorem Now.at (h : Now d G H) : At d G H G H := ⟨h, Ext.refl h.s, fun b o e => (wo_some e).2⟩
theorem Now.ne (h : Now d G H) (np : H p = none) : p ≠ d := by
  obtain ⟨ds, h1, _⟩ := h.x
  exact fun e => by rw [e, h1] at np; cases np
theorem At.ne (h : At d G0 H0 G H) (np : H p = none) : p ≠ d := h.now.ne np
theorem At.new (h : At d G0 H0 G H) (np : H p = none) (o : HO) : At d G0 H0 (upd G p o) (upd H p o) := by
  refine ⟨⟨same_up h.now.s np, ?_, ?_⟩, h.ext.new np, h.sm.trans (same_new np)⟩
  · rw [upd_ne (h.ne np).symm]; exact h.now.o
  · rw [upd_ne (h.ne np).symm]; exact h.now.x
theorem At.lay (h : At d G0 H0 G H) (np : H p = none) (o : HO) : At d G0 H0 G (upd H p o) := by
  refine ⟨⟨same_put h.now.s (Same.free h.now.s np), h.now.o, ?_⟩, h.ext.lay np, h.sm.trans (same_new np)⟩
  rw [upd_ne (h.ne np).symm]; exact h.now.x
theorem At.draw (h : At d G0 H0 G H) (s : Src ds) : At d G0 H0 G (upd H d (.lst (ds.map V.int))) :=
  ⟨⟨same_put h.now.s h.now.o, h.now.o, ⟨ds, upd_same, s⟩⟩, h.ext.put h.now.o, same_put h.sm wo_self⟩
/-- a thing made since, not data, is written -/
theorem At.put (h : At d G0 H0 G H) (n0 : H0 l = none) (n : G l = none) (hd : l ≠ d) (o : HO) : At d G0 H0 G (upd H l o) := by
  refine ⟨⟨same_put h.now.s n, h.now.o, ?_⟩, h.ext.put n, same_put h.sm ?_⟩
  · rw [upd_ne hd.symm]; exact h.now.x
  · rw [wo_ne hd]; exact n0
theorem At.freeze (h : At d G0 H0 G H) (n0 : H0 l = none) (hl : H l = some o) (hd : l ≠ d) : At d G0 H0 (upd G l o) H :=
  ⟨⟨same_add h.now.s hl, by rw [upd_ne hd.symm]; exact h.now.o, h.now.x⟩, h.ext.freeze n0 hl, h.sm⟩
theorem At.trans (a : At d G0 H0 G H) (b : At d G H G1 H1) : At d G0 H0 G1 H1 := by
  refine ⟨b.now, a.ext.trans b.ext, fun c o e => ?_⟩
  have e1 := a.sm c o e
  exact b.sm c o (by rw [wo_ne (wo_some e).1]; exact e1)
theorem At.g (a : At d G0 H0 G H) : Same G0 G := a.ext.g
/-- what is not the source stands through a call -/
theorem At.kept (a : At d G H G1 H1) (h : H l = some o) (hd : l ≠ d) : H1 l = some o := a.sm l o (by rw [wo_ne hd]; exact h)
/-- behind a pure call -/
theorem At.pure (a : At d G0 H0 G H) (e : Ext G H G1 H1) (s : Same H H1) : At d G0 H0 G1 H1 := by
  obtain ⟨ds, h1, h2⟩ := a.now.x
  exact ⟨⟨e.h, e.out a.now.o h1, ⟨ds, s _ _ h1, h2⟩⟩, a.ext.trans e, a.sm.trans s⟩
end

/-- what follows a statement, shown once -/
theorem seq_rest {t u : TS} {D : Ends} {σ : L2.St} {H : Hp} (P : Hp → Prop) (σ' : L2.St) (hr : ∀ H, P H → u D σ' H) (h : (∀ H, P H → u D σ' H) → t { D with nx := u D } σ H) : tSeq t u D σ H := h hr
theorem seq_restσ {t u : TS} {D : Ends} {σ : L2.St} {H : Hp} (P : L2.St → Hp → Prop) (hr : ∀ σ H, P σ H → u D σ H) (h : (∀ σ H, P σ H → u D σ H) → t { D with nx := u D } σ H) : tSeq t u D σ H := h hr

/-! ### plans -/
def wds : List Str := ["left", "right", "pick", "put", "wait", "goto", "empty", "held"]
def wS (w : Nat) : Str := wds.getD w Str.empty
structure Step where
  w : Nat
  g : Option Nat
  deriving DecidableEq
def optD : Option Nat → PyData
  | none => .none
  | some k => .int k
def natD (n : Nat) : PyData := .int n
def Step.D (s : Step) : PyData := .tuple [.str (wS s.w), optD s.g]
structure Step.Ok (n : Nat) (s : Step) : Prop where
  w8 : s.w < 8
  no : s.w < 5 → s.g = none
  yes : 5 ≤ s.w → ∃ k, s.g = some k ∧ k < n
def stepsD (l : List Step) : PyData := .list (l.map Step.D)
structure StepsOk (l : List Step) : Prop where
  pos : 1 ≤ l.length
  le : l.length ≤ 20
  all : ∀ s ∈ l, Step.Ok l.length s
structure Pl where
  shelf : List Nat
  a : Nat
  b : Nat
  p : List Step
  q : List Step
def Pl.D (x : Pl) : PyData := .tuple [.tuple (x.shelf.map natD), .tuple [natD x.a, natD x.b], .list [stepsD x.p, stepsD x.q]]
structure Pl.Ok (x : Pl) : Prop where
  c3 : 3 ≤ x.shelf.length
  c12 : x.shelf.length ≤ 12
  b3 : ∀ n ∈ x.shelf, n ≤ 3
  ha : x.a < x.shelf.length
  hb : x.b < x.shelf.length
  ne : x.a ≠ x.b
  p : StepsOk x.p
  q : StepsOk x.q
/-- a def that draws: from the heap as it stands to one with R of its value -/
def Drawn (d : Addr) (G H : Hp) (Q : VK) (R : Hp → V → Prop) : Prop := Now d G H ∧ ∀ (G' H' : Hp) (v : V), At d G H G' H' → R G' v → Q v H'
/-- a def that changes nothing that stood -/
def Pure (G H : Hp) (Q : VK) (R : Hp → V → Prop) : Prop := Same G H ∧ ∀ (G' H' : Hp) (v : V), Ext G H G' H' → Same H H' → R G' v → Q v H'
end Sb

namespace Sb
open PySem PySem.Spec PyProof.Rows L2 TL
/-! ### canonical texts, by codes -/
def mkS (l : List Nat) : Str := ⟨l.toArray⟩
theorem tl_mkS (l : List Nat) : tl (mkS l) = l := rfl
theorem mkS_tl (x : Str) : mkS (tl x) = x := mk_tl x
theorem mkS_of {x : Str} {l : List Nat} (h : tl x = l) : x = mkS l := ext_tl h
theorem len_mkS (l : List Nat) : (mkS l).length = l.length := len_tl _
theorem len_app (x y : Str) : (x ++ y).length = x.length + y.length := by rw [len_tl, tl_append, List.length_append, ← len_tl, ← len_tl]
def wL (w : Nat) : List Nat := tl (wS w)
def goalsOf (ss : List Step) : List Nat := ss.filterMap Step.g
def stepL (gs : List Nat) (k : Nat) (s : Step) : List Nat :=
  [32, 32] ++ (if k ∈ gs then [115, 97 + k, 58, 32] else []) ++ wL s.w ++ (match s.g with | none => [] | some g => [32, 115, 97 + g]) ++ [59]
def stepsL (gs : List Nat) (k : Nat) : List Step → List (List Nat)
  | [] => []
  | s :: r => stepL gs k s :: stepsL gs (k + 1) r
def robotL (n : Nat) (ss : List Step) : List (List Nat) := ([114, 111, 98, 111, 116, 32] ++ numL n ++ [32, 123]) :: (stepsL (goalsOf ss) 0 ss ++ [[125]])
def shelfL (l : List Nat) : List Nat := [115, 104, 101, 108, 102, 32] ++ joinL [32] (l.map numL) ++ [59]
def linesL (x : Pl) : List (List Nat) := shelfL x.shelf :: (robotL x.a x.p ++ robotL x.b x.q)
def textL (x : Pl) : List Nat := joinL [10] (linesL x)
def textS (x : Pl) : Str := mkS (textL x)
theorem stepsL_len (gs : List Nat) : ∀ (k : Nat) (ss : List Step), (stepsL gs k ss).length = ss.length
  | _, [] => rfl
  | k, s :: r => by show (stepsL gs (k + 1) r).length + 1 = _; rw [stepsL_len gs (k + 1) r]; rfl
theorem stepsL_snoc (gs : List Nat) : ∀ (k : Nat) (ss : List Step) (s : Step), stepsL gs k (ss ++ [s]) = stepsL gs k ss ++ [stepL gs (k + ss.length) s]
  | k, [], s => rfl
  | k, t :: r, s => by
    show stepL gs k t :: stepsL gs (k + 1) (r ++ [s]) = _
    rw [stepsL_snoc gs (k + 1) r s]
    show _ = stepL gs k t :: (stepsL gs (k + 1) r ++ [stepL gs (k + (r.length + 1)) s])
    have e : k + 1 + r.length = k + (r.length + 1) := by omega
    rw [e]
/-! lengths -/
theorem wL_len : ∀ {w : Nat}, w < 8 → (wL w).length ≤ 5 := by
  have h : ∀ w : _root_.Fin 8, (wL w.val).length ≤ 5 := by decide +kernel
  exact fun {w} hw => h ⟨w, hw⟩
theorem wS_len {w : Nat} (h : w < 8) : (wS w).length ≤ 5 := by rw [len_tl]; exact wL_len h
theorem stepL_len {gs : List Nat} {k n : Nat} {s : Step} (h : Step.Ok n s) : (stepL gs k s).length ≤ 15 := by
  have h1 := wL_len h.w8
  unfold stepL
  simp only [List.length_append]
  have h2 : (if k ∈ gs then [115, 97 + k, 58, 32] else ([] : List Nat)).length ≤ 4 := by split <;> simp
  have h3 : (match s.g with | none => ([] : List Nat) | some g => [32, 115, 97 + g]).length ≤ 3 := by split <;> simp
  have h4 : ([32, 32] : List Nat).length = 2 := rfl
  have h5 : ([59] : List Nat).length = 1 := rfl
  omega
theorem joinL_len (S : List Nat) (m : Nat) : ∀ l : List (List Nat), (∀ p ∈ l, p.length ≤ m) → (joinL S l).length ≤ l.length * (m + S.length)
  | [], _ => by simp [joinL]
  | [x], h => by
    have := h x (by simp)
    show x.length ≤ 1 * (m + S.length)
    omega
  | x :: y :: r, h => by
    have h1 := h x (by simp)
    have ih := joinL_len S m (y :: r) (fun p hp => h p (by simp only [List.mem_cons] at hp ⊢; exact .inr hp))
    show (x ++ (S ++ joinL S (y :: r))).length ≤ _
    rw [List.length_append, List.length_append]
    have e : (x :: y :: r).length = (y :: r).length + 1 := rfl
    rw [e, Nat.add_mul, Nat.one_mul]
    omega
theorem numS_tl (n : Nat) : tl (Str.ofString (toString ((n : Nat) : Int))) = numL n := tl_num n
theorem num_len {n : Nat} (h : n < 100) : (numL n).length ≤ 2 := numL_len (by decide) (by show n < 10 ^ 2; omega)
theorem numS_len {n : Nat} (h : n < 100) : (Str.ofString (toString ((n : Nat) : Int))).length ≤ 2 := by rw [len_tl, tl_num]; exact num_len h
def abc : Str := "abcdefghijklmnopqrst"
theorem abc_at : ∀ {k : Nat}, k < 20 → abc.cps.toList[k]? = some (97 + k) := by
  have h : ∀ k : _root_.Fin 20, abc.cps.toList[k.val]? = some (97 + k.val) := by decide +kernel
  exact fun {k} hk => h ⟨k, hk⟩
theorem abc_len : abc.length = 20 := by decide +kernel
theorem in_nats (k : Nat) : ∀ l : List Nat, inV (.int k) (l.map fun n : Nat => V.int n) = decide (k ∈ l)
  | [] => by simp [inV]
  | n :: r => by
    have ih := in_nats k r
    unfold inV at ih ⊢
    rw [List.map_cons, List.any_cons, ih]
    have e : eqV (.int n) (.int k) = decide (n = k) := by
      unfold eqV
      by_cases h : n = k
      · subst h; simp
      · have h2 : ¬ (n : Int) = (k : Int) := fun q => h (by exact_mod_cast q)
        simp [h, h2]
    rw [e]
    by_cases h : n = k
    · subst h; simp
    · have h' : ¬ k = n := fun q => h q.symm
      simp [h, h']
theorem nats_flat (l : List Nat) : (l.map fun n : Nat => V.int n).all flatV = true := by
  rw [List.all_eq_true]
  intro x hx
  obtain ⟨n, _, rfl⟩ := List.mem_map.mp hx
  rfl
/-! the pieces as texts -/
theorem sp2 : tl (Str.ofString "  ") = [32, 32] := by decide +kernel
theorem t_s : tl (Str.ofString "s") = [115] := by decide +kernel
theorem t_cs : tl (Str.ofString ": ") = [58, 32] := by decide +kernel
theorem t_sc : tl (Str.ofString ";") = [59] := by decide +kernel
theorem t_ss : tl (Str.ofString " s") = [32, 115] := by decide +kernel
theorem t_sp : tl (Str.ofString " ") = [32] := by decide +kernel
theorem t_nl : tl (Str.ofString "\n") = [10] := by decide +kernel
theorem t_e : tl (Str.ofString "") = [] := by decide +kernel
theorem t_rb : tl (Str.ofString "robot ") = [114, 111, 98, 111, 116, 32] := by decide +kernel
theorem t_lb : tl (Str.ofString " {") = [32, 123] := by decide +kernel
theorem t_cb : tl (Str.ofString "}") = [125] := by decide +kernel
theorem t_sh : tl (Str.ofString "shelf ") = [115, 104, 101, 108, 102, 32] := by decide +kernel
theorem lines_len {x : Pl} (h : x.Ok) : ∀ p ∈ linesL x, p.length ≤ 60 := by
  have rob : ∀ (n : Nat) (ss : List Step), n < 12 → StepsOk ss → ∀ p ∈ robotL n ss, p.length ≤ 60 := by
    intro n ss hn hs p hp
    rcases List.mem_cons.mp hp with rfl | hp
    · have := num_len (n := n) (by omega)
      simp only [List.length_append, List.length_cons, List.length_nil]
      omega
    · rcases List.mem_append.mp hp with hp | hp
      · have all : ∀ (gs : List Nat) (k : Nat) (l : List Step), (∀ s ∈ l, s ∈ ss) → ∀ p ∈ stepsL gs k l, p.length ≤ 15 := by
          intro gs k l
          induction l generalizing k with
          | nil => intro _ p hp; cases hp
          | cons s r ih =>
            intro hl p hp
            rcases List.mem_cons.mp hp with rfl | hp
            · exact stepL_len (hs.all s (hl s (by simp)))
            · exact ih (k + 1) (fun s h => hl s (by simp [h])) p hp
        have := all _ _ _ (fun s h => h) p hp
        omega
      · rw [List.mem_singleton.mp hp]
        decide
  intro p hp
  rcases List.mem_cons.mp hp with rfl | hp
  · unfold shelfL
    have h1 := joinL_len [32] 2 (x.shelf.map numL) (fun p hp => by
      obtain ⟨n, hn, rfl⟩ := List.mem_map.mp hp
      exact num_len (by have := h.b3 n hn; omega))
    have h2 := h.c12
    simp only [List.length_append, List.length_cons, List.length_nil, List.length_map] at h1 ⊢
    omega
  · rcases List.mem_append.mp hp with hp | hp
    · exact rob x.a x.p (by have := h.ha; have := h.c12; omega) h.p p hp
    · exact rob x.b x.q (by have := h.hb; have := h.c12; omega) h.q p hp
theorem robotL_len (n : Nat) (ss : List Step) : (robotL n ss).length = ss.length + 2 := by
  unfold robotL
  rw [List.length_cons, List.length_append, stepsL_len]
  rfl
theorem linesL_len {x : Pl} (h : x.Ok) : (linesL x).length ≤ 45 := by
  unfold linesL
  rw [List.length_cons, List.length_append, robotL_len, robotL_len]
  have := h.p.le
  have := h.q.le
  omega
theorem textL_len {x : Pl} (h : x.Ok) : (textL x).length ≤ 2745 := by
  have h1 := joinL_len [10] 60 (linesL x) (lines_len h)
  have h2 := linesL_len h
  have h3 : (linesL x).length * (60 + 1) ≤ 45 * 61 := Nat.mul_le_mul_right 61 h2
  exact Nat.le_trans h1 h3
end Sb

namespace Sb
open PySem PySem.Spec PyProof.Rows L2 TL
/-! ### tokens -/
inductive Kd where
  | name | number | keyword | sign | fin
  deriving DecidableEq
def kS : Kd → Str
  | .name => "name"
  | .number => "number"
  | .keyword => "keyword"
  | .sign => "sign"
  | .fin => "end"
structure Tk where
  k : Kd
  t : List Nat
  deriving DecidableEq
def sgnS : Str := ";:{}"
def digS : Str := "0123456789"
def letS : Str := "abcdefghijklmnopqrstuvwxyz"
def spcS : Str := " \n"
def kwS : List Str := ["shelf", "robot", "left", "right", "pick", "put", "wait", "goto", "empty", "held"]
def kwL : List (List Nat) := kwS.map tl
def HeadNot (S : List Nat) (r : List Nat) : Prop := ∀ c r', r = c :: r' → c ∉ S
inductive Rd : List Nat → Tk → List Nat → Prop
  | sign {c : Nat} {r : List Nat} : c ∈ tl sgnS → Rd (c :: r) ⟨.sign, [c]⟩ r
  | num {t r : List Nat} : t ≠ [] → (∀ c ∈ t, c ∈ tl digS) → t.length ≤ 2 → (1 < t.length → t.head? ≠ some 48) → HeadNot (tl digS) r → Rd (t ++ r) ⟨.number, t⟩ r
  | kw {t r : List Nat} : (∀ c ∈ t, c ∈ tl letS) → t ∈ kwL → HeadNot (tl letS) r → Rd (t ++ r) ⟨.keyword, t⟩ r
  | nm {t r : List Nat} : (∀ c ∈ t, c ∈ tl letS) → 1 ≤ t.length → t.length ≤ 8 → t ∉ kwL → HeadNot (tl letS) r → Rd (t ++ r) ⟨.name, t⟩ r
inductive Lx : List Nat → List Tk → Prop
  | nil : Lx [] []
  | sp {r : List Nat} {ts : List Tk} : Lx r ts → Lx (32 :: r) ts
  | tok {l r : List Nat} {k : Tk} {ts : List Tk} : Rd l k r → Lx r ts → Lx l (k :: ts)
/-- the tokens of all rows -/
inductive LxAll : List (List Nat) → List Tk → Prop
  | nil : LxAll [] []
  | cons {l : List Nat} {ls : List (List Nat)} {ts us : List Tk} : Lx l ts → LxAll ls us → LxAll (l :: ls) (ts ++ us)
theorem sgn_list : tl sgnS = [59, 58, 123, 125] := by decide +kernel
theorem dig_list : tl digS = [48, 49, 50, 51, 52, 53, 54, 55, 56, 57] := by decide +kernel
theorem let_list : tl letS = [97, 98, 99, 100, 101, 102, 103, 104, 105, 106, 107, 108, 109, 110, 111, 112, 113, 114, 115, 116, 117, 118, 119, 120, 121, 122] := by decide +kernel
theorem spc_list : tl spcS = [32, 10] := by decide +kernel
theorem mem_dig {c : Nat} : c ∈ tl digS ↔ 48 ≤ c ∧ c ≤ 57 := by
  rw [dig_list]; simp; omega
theorem mem_let {c : Nat} : c ∈ tl letS ↔ 97 ≤ c ∧ c ≤ 122 := by
  rw [let_list]; simp; omega
theorem mem_sgn {c : Nat} : c ∈ tl sgnS ↔ c = 59 ∨ c = 58 ∨ c = 123 ∨ c = 125 := by
  rw [sgn_list]; simp
/-- the run of signs of S at the head -/
def runL (S : List Nat) : List Nat → Nat
  | [] => 0
  | c :: r => if c ∈ S then runL S r + 1 else 0
theorem runL_app {S t r : List Nat} (h : ∀ c ∈ t, c ∈ S) (hr : HeadNot S r) : runL S (t ++ r) = t.length := by
  induction t with
  | nil =>
    cases r with
    | nil => rfl
    | cons c r => show (if c ∈ S then _ else 0) = 0; rw [if_neg (hr c r rfl)]
  | cons c t ih =>
    show (if c ∈ S then runL S (t ++ r) + 1 else 0) = _
    rw [if_pos (h c (by simp)), ih (fun c hc => h c (by simp [hc]))]
    rfl
theorem runL_le (S : List Nat) : ∀ l : List Nat, runL S l ≤ l.length
  | [] => Nat.le_refl _
  | c :: r => by
    show (if c ∈ S then runL S r + 1 else 0) ≤ r.length + 1
    have := runL_le S r
    split <;> omega
theorem cut_run {z : Str} {c n : Nat} (h : c + n ≤ (tl z).length) : tl (cutS z (some (c : Int)) (some ((c + n : Nat) : Int))) = ((tl z).drop c).take n := by
  show ((tl z).drop (HT.sIx z.length 0 (some (c : Int)))).take (HT.sIx z.length z.length (some ((c + n : Nat) : Int)) - HT.sIx z.length 0 (some (c : Int))) = _
  rw [HT.sIx_nat, HT.sIx_nat]
  have e1 : min c z.length = c := by rw [len_tl]; omega
  have e2 : min (c + n) z.length = c + n := by rw [len_tl]; omega
  rw [e1, e2, Nat.add_sub_cancel_left]
end Sb

namespace Sb
open PySem PySem.Spec PyProof.Rows L2
def topS (i : Nat) : Stmt := PySem.Challenge.pw_shelfbots_k10_first_differences.main.body.getD i (.Pass ⟨0, 0, 0, 0⟩)
abbrev s_l_random : Stmt := topS 58
theorem sc_l_random : FnScope ["_law_script", "_law_salt", "_law_seed", "_law_cell"] ["_law_script", "_law_salt"] (defScope s_l_random) := ⟨rfl, rfl, rfl, by decide +kernel, rfl, by decide +kernel, by decide +kernel⟩
abbrev s_l_below : Stmt := topS 59
theorem sc_l_below : FnScope ["_law_d", "_law_limit", "_law_result"] ["_law_d", "_law_limit"] (defScope s_l_below) := ⟨rfl, rfl, rfl, by decide +kernel, rfl, by decide +kernel, by decide +kernel⟩
abbrev s_l_empty : Stmt := topS 65
theorem sc_l_empty : FnScope ["_law_plan_here"] ["_law_plan_here"] (defScope s_l_empty) := ⟨rfl, rfl, rfl, by decide +kernel, rfl, by decide +kernel, by decide +kernel⟩
abbrev s_l_act : Stmt := topS 66
theorem sc_l_act : FnScope ["_law_plan_here", "_law_state", "_law_number", "_law_places", "_law_nexts", "_law_holds", "_law_shelf", "_law_part", "_law_word", "_law_goal", "_law_here", "_law_there", "_law_jumps"] ["_law_plan_here", "_law_state", "_law_number"] (defScope s_l_act) := ⟨rfl, rfl, rfl, by decide +kernel, rfl, by decide +kernel, by decide +kernel⟩
abbrev s_l_tick : Stmt := topS 67
theorem sc_l_tick : FnScope ["_law_plan_here", "_law_state", "_law_first", "_law_second"] ["_law_plan_here", "_law_state"] (defScope s_l_tick) := ⟨rfl, rfl, rfl, by decide +kernel, rfl, by decide +kernel, by decide +kernel⟩
abbrev s_l_repeats : Stmt := topS 61
theorem sc_l_repeats : FnScope ["_law_plan_here", "_law_state", "_law_keys", "_law_tick_here", "_law_key", "_law_part"] ["_law_plan_here"] (defScope s_l_repeats) := ⟨rfl, rfl, rfl, by decide +kernel, rfl, by decide +kernel, by decide +kernel⟩
abbrev s_l_steps : Stmt := topS 60
theorem sc_l_steps : FnScope ["_law_d", "_law_most", "_law_many", "_law_words", "_law_ways", "_law_limit", "_law_found", "_law_k", "_law_word"] ["_law_d", "_law_most"] (defScope s_l_steps) := ⟨rfl, rfl, rfl, by decide +kernel, rfl, by decide +kernel, by decide +kernel⟩
abbrev s_l_plan : Stmt := topS 62
theorem sc_l_plan : FnScope ["_law_d", "_law_most", "_law_many_cells", "_law_first", "_law_second", "_law_shelf", "_law_k", "_law_plan_here"] ["_law_d", "_law_most"] (defScope s_l_plan) := ⟨rfl, rfl, rfl, by decide +kernel, rfl, by decide +kernel, by decide +kernel⟩
abbrev s_l_doubled : Stmt := topS 63
theorem sc_l_doubled : FnScope ["_law_steps_here", "_law_many", "_law_word", "_law_goal"] ["_law_steps_here"] (defScope s_l_doubled) := ⟨rfl, rfl, rfl, by decide +kernel, rfl, by decide +kernel, by decide +kernel⟩
abbrev s_l_other : Stmt := topS 64
theorem sc_l_other : FnScope ["_law_d", "_law_first", "_law_shelf", "_law_starts", "_law_both", "_law_kind", "_law_changed", "_law_steps_here", "_law_number", "_law_at"] ["_law_d", "_law_first"] (defScope s_l_other) := ⟨rfl, rfl, rfl, by decide +kernel, rfl, by decide +kernel, by decide +kernel⟩
abbrev s_Story_size : Stmt := inClass (topS 53) 1
theorem sc_Story_size : FnScope ["self"] ["self"] (defScope s_Story_size) := ⟨rfl, rfl, rfl, by decide +kernel, rfl, by decide +kernel, by decide +kernel⟩
abbrev s_Parser_peek : Stmt := inClass (topS 42) 1
theorem sc_Parser_peek : FnScope ["self"] ["self"] (defScope s_Parser_peek) := ⟨rfl, rfl, rfl, by decide +kernel, rfl, by decide +kernel, by decide +kernel⟩
abbrev s_Token_init : Stmt := inClass (topS 31) 0
theorem sc_Token_init : FnScope ["self", "kind", "text", "line", "column"] ["self", "kind", "text", "line", "column"] (defScope s_Token_init) := ⟨rfl, rfl, rfl, by decide +kernel, rfl, by decide +kernel, by decide +kernel⟩
abbrev s_Robot_init : Stmt := inClass (topS 40) 0
theorem sc_Robot_init : FnScope ["self", "start", "steps", "names"] ["self", "start", "steps", "names"] (defScope s_Robot_init) := ⟨rfl, rfl, rfl, by decide +kernel, rfl, by decide +kernel, by decide +kernel⟩
abbrev s_Plan_init : Stmt := inClass (topS 41) 0
theorem sc_Plan_init : FnScope ["self", "shelf", "robots"] ["self", "shelf", "robots"] (defScope s_Plan_init) := ⟨rfl, rfl, rfl, by decide +kernel, rfl, by decide +kernel, by decide +kernel⟩
abbrev s_Parser_init : Stmt := inClass (topS 42) 0
theorem sc_Parser_init : FnScope ["self", "tokens"] ["self", "tokens"] (defScope s_Parser_init) := ⟨rfl, rfl, rfl, by decide +kernel, rfl, by decide +kernel, by decide +kernel⟩
abbrev s_State_init : Stmt := inClass (topS 47) 0
theorem sc_State_init : FnScope ["self", "cells", "nexts", "holds", "shelf"] ["self", "cells", "nexts", "holds", "shelf"] (defScope s_State_init) := ⟨rfl, rfl, rfl, by decide +kernel, rfl, by decide +kernel, by decide +kernel⟩
abbrev s_Tick_init : Stmt := inClass (topS 51) 0
theorem sc_Tick_init : FnScope ["self", "words", "state"] ["self", "words", "state"] (defScope s_Tick_init) := ⟨rfl, rfl, rfl, by decide +kernel, rfl, by decide +kernel, by decide +kernel⟩
abbrev s_first_state : Stmt := topS 49
theorem sc_first_state : FnScope ["parsed", "robot"] ["parsed"] (defScope s_first_state) := ⟨rfl, rfl, rfl, by decide +kernel, rfl, by decide +kernel, by decide +kernel⟩
abbrev s_State_key : Stmt := inClass (topS 47) 1
theorem sc_State_key : FnScope ["self"] ["self"] (defScope s_State_key) := ⟨rfl, rfl, rfl, by decide +kernel, rfl, by decide +kernel, by decide +kernel⟩
abbrev s_replaced : Stmt := topS 48
theorem sc_replaced : FnScope ["values", "place", "value"] ["values", "place", "value"] (defScope s_replaced) := ⟨rfl, rfl, rfl, by decide +kernel, rfl, by decide +kernel, by decide +kernel⟩
abbrev s_act : Stmt := topS 50
theorem sc_act : FnScope ["parsed", "state", "number", "robot", "at", "word", "goal", "cell", "held", "shelf", "later", "is_jump", "cells", "holds"] ["parsed", "state", "number"] (defScope s_act) := ⟨rfl, rfl, rfl, by decide +kernel, rfl, by decide +kernel, by decide +kernel⟩
abbrev s_next_tick : Stmt := topS 52
theorem sc_next_tick : FnScope ["parsed", "state", "first", "second"] ["parsed", "state"] (defScope s_next_tick) := ⟨rfl, rfl, rfl, by decide +kernel, rfl, by decide +kernel, by decide +kernel⟩
abbrev s_Story_init : Stmt := inClass (topS 53) 0
theorem sc_Story_init : FnScope ["self", "parsed", "state", "seen"] ["self", "parsed"] (defScope s_Story_init) := ⟨rfl, rfl, rfl, by decide +kernel, rfl, by decide +kernel, by decide +kernel⟩
abbrev s_Parser_fail : Stmt := inClass (topS 42) 2
theorem sc_Parser_fail : FnScope ["self", "token"] ["self"] (defScope s_Parser_fail) := ⟨rfl, rfl, rfl, by decide +kernel, rfl, by decide +kernel, by decide +kernel⟩
abbrev s_Parser_take_word : Stmt := inClass (topS 42) 5
theorem sc_Parser_take_word : FnScope ["self", "word", "token"] ["self", "word"] (defScope s_Parser_take_word) := ⟨rfl, rfl, rfl, by decide +kernel, rfl, by decide +kernel, by decide +kernel⟩
abbrev s_Parser_take : Stmt := inClass (topS 42) 4
theorem sc_Parser_take : FnScope ["self", "kind", "token"] ["self", "kind"] (defScope s_Parser_take) := ⟨rfl, rfl, rfl, by decide +kernel, rfl, by decide +kernel, by decide +kernel⟩
abbrev s_Parser_found : Stmt := inClass (topS 42) 3
theorem sc_Parser_found : FnScope ["self", "reason", "token"] ["self", "reason", "token"] (defScope s_Parser_found) := ⟨rfl, rfl, rfl, by decide +kernel, rfl, by decide +kernel, by decide +kernel⟩
abbrev s_Parser_parse_shelf : Stmt := inClass (topS 42) 6
theorem sc_Parser_parse_shelf : FnScope ["self", "keyword", "tokens", "place", "token"] ["self"] (defScope s_Parser_parse_shelf) := ⟨rfl, rfl, rfl, by decide +kernel, rfl, by decide +kernel, by decide +kernel⟩
abbrev s_Parser_parse_step : Stmt := inClass (topS 42) 7
theorem sc_Parser_parse_step : FnScope ["self", "names", "jumps", "token"] ["self", "names", "jumps"] (defScope s_Parser_parse_step) := ⟨rfl, rfl, rfl, by decide +kernel, rfl, by decide +kernel, by decide +kernel⟩
abbrev s_Parser_parse_robot : Stmt := inClass (topS 42) 8
theorem sc_Parser_parse_robot : FnScope ["self", "cells", "others", "token", "words", "names", "jumps", "steps", "word", "jump"] ["self", "cells", "others"] (defScope s_Parser_parse_robot) := ⟨rfl, rfl, rfl, by decide +kernel, rfl, by decide +kernel, by decide +kernel⟩
abbrev s_Parser_parse_plan : Stmt := inClass (topS 42) 9
theorem sc_Parser_parse_plan : FnScope ["self", "shelf", "first", "second", "line", "column", "number", "reason"] ["self"] (defScope s_Parser_parse_plan) := ⟨rfl, rfl, rfl, by decide +kernel, rfl, by decide +kernel, by decide +kernel⟩
abbrev s_run_end : Stmt := topS 32
theorem sc_run_end : FnScope ["row", "start", "letters", "end"] ["row", "start", "letters"] (defScope s_run_end) := ⟨rfl, rfl, rfl, by decide +kernel, rfl, by decide +kernel, by decide +kernel⟩
abbrev s_read_token : Stmt := topS 33
theorem sc_read_token : FnScope ["row", "line", "column", "first", "word"] ["row", "line", "column"] (defScope s_read_token) := ⟨rfl, rfl, rfl, by decide +kernel, rfl, by decide +kernel, by decide +kernel⟩
abbrev s_tokenize : Stmt := topS 34
theorem sc_tokenize : FnScope ["source", "tokens", "rows", "line", "row", "column", "token"] ["source"] (defScope s_tokenize) := ⟨rfl, rfl, rfl, by decide +kernel, rfl, by decide +kernel, by decide +kernel⟩
abbrev s_load : Stmt := topS 43
theorem sc_load : FnScope ["plan"] ["plan"] (defScope s_load) := ⟨rfl, rfl, rfl, by decide +kernel, rfl, by decide +kernel, by decide +kernel⟩
abbrev s_Story_happens : Stmt := inClass (topS 53) 2
theorem sc_Story_happens : FnScope ["self", "tick"] ["self", "tick"] (defScope s_Story_happens) := ⟨rfl, rfl, rfl, by decide +kernel, rfl, by decide +kernel, by decide +kernel⟩
abbrev s_first_difference : Stmt := topS 55
theorem sc_first_difference : FnScope ["plan", "other", "one", "two", "first", "second", "multiple", "tick", "states"] ["plan", "other"] (defScope s_first_difference) := ⟨rfl, rfl, rfl, by decide +kernel, rfl, by decide +kernel, by decide +kernel⟩
abbrev s_l_text : Stmt := topS 70
theorem sc_l_text : FnScope ["_law_plan_here", "_law_shelf", "_law_starts", "_law_both", "_law_lines", "_law_pieces", "_law_number", "_law_goals", "_law_word", "_law_goal", "_law_k", "_law_mark", "_law_target"] ["_law_plan_here"] (defScope s_l_text) := ⟨rfl, rfl, rfl, by decide +kernel, rfl, by decide +kernel, by decide +kernel⟩
abbrev s_l_equal : Stmt := topS 71
theorem sc_l_equal : FnScope ["_law_actual", "_law_expected", "_law_k"] ["_law_actual", "_law_expected"] (defScope s_l_equal) := ⟨rfl, rfl, rfl, by decide +kernel, rfl, by decide +kernel, by decide +kernel⟩
abbrev s_Story_count : Stmt := inClass (topS 53) 3
theorem sc_Story_count : FnScope ["self", "ticks", "measure", "known", "one", "rounds", "rest"] ["self", "ticks", "measure"] (defScope s_Story_count) := ⟨rfl, rfl, rfl, by decide +kernel, rfl, by decide +kernel, by decide +kernel⟩
abbrev s_l_error_of : Stmt := topS 73
theorem sc_l_error_of : FnScope ["_law_call", "e", "_law_kinds", "_law_names", "_law_name"] ["_law_call"] (defScope s_l_error_of) := ⟨rfl, rfl, rfl, by decide +kernel, rfl, by decide +kernel, by decide +kernel⟩
abbrev s_l_cycle : Stmt := topS 68
theorem sc_l_cycle : FnScope ["_law_plan_here", "_law_state", "_law_found", "_law_keys", "_law_key", "_law_part"] ["_law_plan_here"] (defScope s_l_cycle) := ⟨rfl, rfl, rfl, by decide +kernel, rfl, by decide +kernel, by decide +kernel⟩
abbrev s_first_error : Stmt := topS 56
theorem sc_first_error : FnScope ["plan", "log", "story", "tick", "entry"] ["plan", "log"] (defScope s_first_error) := ⟨rfl, rfl, rfl, by decide +kernel, rfl, by decide +kernel, by decide +kernel⟩
abbrev s_l_place : Stmt := topS 69
theorem sc_l_place : FnScope ["_law_cycle_here", "_law_tick_here", "_law_many", "_law_start"] ["_law_cycle_here", "_law_tick_here"] (defScope s_l_place) := ⟨rfl, rfl, rfl, by decide +kernel, rfl, by decide +kernel, by decide +kernel⟩
abbrev s_l_checks : Stmt := topS 72
theorem sc_l_checks : FnScope ["_law_d", "_law_text_here", "_law_cycle_here", "_law_log", "_law_tick_here", "_law_at", "_law_right", "_law_bad", "_law_found", "_law_none"] ["_law_d", "_law_text_here", "_law_cycle_here"] (defScope s_l_checks) := ⟨rfl, rfl, rfl, by decide +kernel, rfl, by decide +kernel, by decide +kernel⟩
abbrev s_law : Stmt := topS 74
theorem sc_law : FnScope ["_law_script", "_law_d", "_law_step", "_law_first", "_law_second", "_law_cycles", "_law_expected", "_law_sizes", "_law_cycle_here", "_law_span", "_law_tick_here", "_law_states", "_law_texts", "_law_longer", "_law_late", "_law_one"] ["_law_script"] (defScope s_law) := ⟨rfl, rfl, rfl, by decide +kernel, rfl, by decide +kernel, by decide +kernel⟩
structure Ad where
  f_l_random : Addr
  d_l_random : FuncData
  f_l_below : Addr
  d_l_below : FuncData
  f_l_empty : Addr
  d_l_empty : FuncData
  f_l_act : Addr
  d_l_act : FuncData
  f_l_tick : Addr
  d_l_tick : FuncData
  f_l_repeats : Addr
  d_l_repeats : FuncData
  f_l_steps : Addr
  d_l_steps : FuncData
  f_l_plan : Addr
  d_l_plan : FuncData
  f_l_doubled : Addr
  d_l_doubled : FuncData
  f_l_other : Addr
  d_l_other : FuncData
  f_Story_size : Addr
  d_Story_size : FuncData
  p_Story_size : Addr
  f_Parser_peek : Addr
  d_Parser_peek : FuncData
  f_Token_init : Addr
  d_Token_init : FuncData
  f_Robot_init : Addr
  d_Robot_init : FuncData
  f_Plan_init : Addr
  d_Plan_init : FuncData
  f_Parser_init : Addr
  d_Parser_init : FuncData
  f_State_init : Addr
  d_State_init : FuncData
  f_Tick_init : Addr
  d_Tick_init : FuncData
  f_first_state : Addr
  d_first_state : FuncData
  f_State_key : Addr
  d_State_key : FuncData
  p_State_key : Addr
  f_replaced : Addr
  d_replaced : FuncData
  f_act : Addr
  d_act : FuncData
  f_next_tick : Addr
  d_next_tick : FuncData
  f_Story_init : Addr
  d_Story_init : FuncData
  f_Parser_fail : Addr
  d_Parser_fail : FuncData
  f_Parser_take_word : Addr
  d_Parser_take_word : FuncData
  f_Parser_take : Addr
  d_Parser_take : FuncData
  f_Parser_found : Addr
  d_Parser_found : FuncData
  f_Parser_parse_shelf : Addr
  d_Parser_parse_shelf : FuncData
  f_Parser_parse_step : Addr
  d_Parser_parse_step : FuncData
  f_Parser_parse_robot : Addr
  d_Parser_parse_robot : FuncData
  f_Parser_parse_plan : Addr
  d_Parser_parse_plan : FuncData
  f_run_end : Addr
  d_run_end : FuncData
  f_read_token : Addr
  d_read_token : FuncData
  f_tokenize : Addr
  d_tokenize : FuncData
  f_load : Addr
  d_load : FuncData
  f_Story_happens : Addr
  d_Story_happens : FuncData
  f_first_difference : Addr
  d_first_difference : FuncData
  f_l_text : Addr
  d_l_text : FuncData
  f_l_equal : Addr
  d_l_equal : FuncData
  f_Story_count : Addr
  d_Story_count : FuncData
  f_l_error_of : Addr
  d_l_error_of : FuncData
  f_l_cycle : Addr
  d_l_cycle : FuncData
  f_first_error : Addr
  d_first_error : FuncData
  f_l_place : Addr
  d_l_place : FuncData
  f_l_checks : Addr
  d_l_checks : FuncData
  f_law : Addr
  d_law : FuncData
  cc_law : Addr
  tb_law : Addr
  C_Token : Addr
  C_Robot : Addr
  C_Plan : Addr
  C_Parser : Addr
  C_State : Addr
  C_Tick : Addr
  C_Story : Addr
  A_MOVES : Addr
  A_JUMPS : Addr
  A_KEYWORDS : Addr
  t_LETTERS : Tok
  t_DIGITS : Tok
  t_SPACES : Tok
  t_SIGNS : Tok
  t_MAX_LETTERS : Tok
  t_MAX_DIGITS : Tok
  t_NAME : Tok
  t_NUMBER : Tok
  t_KEYWORD : Tok
  t_SIGN : Tok
  t_END : Tok
  t_MIN_CELLS : Tok
  t_MAX_CELLS : Tok
  t_MAX_BOXES : Tok
  t_MAX_STEPS : Tok
  t_MAX_STATES : Tok
  t_BLOCKED : Tok
  X_BotError : Addr
  X_InvalidTick : Addr
  X_InvalidNumber : Addr
  X_TooLong : Addr
  X_DifferentShelves : Addr
  X_Contradiction : Addr
  X_CellFull : Addr
  X_CellEmpty : Addr
  X_InvalidName : Addr
  X_UnknownName : Addr
  X_SyntaxFault : Addr
  X_CheckFault : Addr
  X_InvalidCode : Addr
  X_InvalidOperation : Addr
structure Txt (K : PySem.W.Frag) (mg : Str → Option Value) (a : Ad) : Prop where
  F_l_random : Fun K "_law_random" "_law_random" s_l_random a.f_l_random a.d_l_random
  m_l_random : mg "_law_random" = some (.ref a.f_l_random)
  F_l_below : Fun K "_law_below" "_law_below" s_l_below a.f_l_below a.d_l_below
  m_l_below : mg "_law_below" = some (.ref a.f_l_below)
  F_l_empty : Fun K "_law_empty" "_law_empty" s_l_empty a.f_l_empty a.d_l_empty
  m_l_empty : mg "_law_empty" = some (.ref a.f_l_empty)
  F_l_act : Fun K "_law_act" "_law_act" s_l_act a.f_l_act a.d_l_act
  m_l_act : mg "_law_act" = some (.ref a.f_l_act)
  F_l_tick : Fun K "_law_tick" "_law_tick" s_l_tick a.f_l_tick a.d_l_tick
  m_l_tick : mg "_law_tick" = some (.ref a.f_l_tick)
  F_l_repeats : Fun K "_law_repeats" "_law_repeats" s_l_repeats a.f_l_repeats a.d_l_repeats
  m_l_repeats : mg "_law_repeats" = some (.ref a.f_l_repeats)
  F_l_steps : Fun K "_law_steps" "_law_steps" s_l_steps a.f_l_steps a.d_l_steps
  m_l_steps : mg "_law_steps" = some (.ref a.f_l_steps)
  F_l_plan : Fun K "_law_plan" "_law_plan" s_l_plan a.f_l_plan a.d_l_plan
  m_l_plan : mg "_law_plan" = some (.ref a.f_l_plan)
  F_l_doubled : Fun K "_law_doubled" "_law_doubled" s_l_doubled a.f_l_doubled a.d_l_doubled
  m_l_doubled : mg "_law_doubled" = some (.ref a.f_l_doubled)
  F_l_other : Fun K "_law_other" "_law_other" s_l_other a.f_l_other a.d_l_other
  m_l_other : mg "_law_other" = some (.ref a.f_l_other)
  F_Story_size : Fun K "size" "Story.size" s_Story_size a.f_Story_size a.d_Story_size
  P_Story_size : PropOf K a.C_Story "size" a.p_Story_size a.f_Story_size
  F_Parser_peek : Fun K "peek" "Parser.peek" s_Parser_peek a.f_Parser_peek a.d_Parser_peek
  M_Parser_peek : Meth K a.C_Parser "peek" a.f_Parser_peek
  F_Token_init : Fun K "__init__" "Token.__init__" s_Token_init a.f_Token_init a.d_Token_init
  F_Robot_init : Fun K "__init__" "Robot.__init__" s_Robot_init a.f_Robot_init a.d_Robot_init
  F_Plan_init : Fun K "__init__" "Plan.__init__" s_Plan_init a.f_Plan_init a.d_Plan_init
  F_Parser_init : Fun K "__init__" "Parser.__init__" s_Parser_init a.f_Parser_init a.d_Parser_init
  F_State_init : Fun K "__init__" "State.__init__" s_State_init a.f_State_init a.d_State_init
  F_Tick_init : Fun K "__init__" "Tick.__init__" s_Tick_init a.f_Tick_init a.d_Tick_init
  F_first_state : Fun K "first_state" "first_state" s_first_state a.f_first_state a.d_first_state
  m_first_state : mg "first_state" = some (.ref a.f_first_state)
  F_State_key : Fun K "key" "State.key" s_State_key a.f_State_key a.d_State_key
  P_State_key : PropOf K a.C_State "key" a.p_State_key a.f_State_key
  F_replaced : Fun K "replaced" "replaced" s_replaced a.f_replaced a.d_replaced
  m_replaced : mg "replaced" = some (.ref a.f_replaced)
  F_act : Fun K "act" "act" s_act a.f_act a.d_act
  m_act : mg "act" = some (.ref a.f_act)
  F_next_tick : Fun K "next_tick" "next_tick" s_next_tick a.f_next_tick a.d_next_tick
  m_next_tick : mg "next_tick" = some (.ref a.f_next_tick)
  F_Story_init : Fun K "__init__" "Story.__init__" s_Story_init a.f_Story_init a.d_Story_init
  F_Parser_fail : Fun K "fail" "Parser.fail" s_Parser_fail a.f_Parser_fail a.d_Parser_fail
  M_Parser_fail : Meth K a.C_Parser "fail" a.f_Parser_fail
  F_Parser_take_word : Fun K "take_word" "Parser.take_word" s_Parser_take_word a.f_Parser_take_word a.d_Parser_take_word
  M_Parser_take_word : Meth K a.C_Parser "take_word" a.f_Parser_take_word
  F_Parser_take : Fun K "take" "Parser.take" s_Parser_take a.f_Parser_take a.d_Parser_take
  M_Parser_take : Meth K a.C_Parser "take" a.f_Parser_take
  F_Parser_found : Fun K "found" "Parser.found" s_Parser_found a.f_Parser_found a.d_Parser_found
  M_Parser_found : Meth K a.C_Parser "found" a.f_Parser_found
  F_Parser_parse_shelf : Fun K "parse_shelf" "Parser.parse_shelf" s_Parser_parse_shelf a.f_Parser_parse_shelf a.d_Parser_parse_shelf
  M_Parser_parse_shelf : Meth K a.C_Parser "parse_shelf" a.f_Parser_parse_shelf
  F_Parser_parse_step : Fun K "parse_step" "Parser.parse_step" s_Parser_parse_step a.f_Parser_parse_step a.d_Parser_parse_step
  M_Parser_parse_step : Meth K a.C_Parser "parse_step" a.f_Parser_parse_step
  F_Parser_parse_robot : Fun K "parse_robot" "Parser.parse_robot" s_Parser_parse_robot a.f_Parser_parse_robot a.d_Parser_parse_robot
  M_Parser_parse_robot : Meth K a.C_Parser "parse_robot" a.f_Parser_parse_robot
  F_Parser_parse_plan : Fun K "parse_plan" "Parser.parse_plan" s_Parser_parse_plan a.f_Parser_parse_plan a.d_Parser_parse_plan
  M_Parser_parse_plan : Meth K a.C_Parser "parse_plan" a.f_Parser_parse_plan
  F_run_end : Fun K "run_end" "run_end" s_run_end a.f_run_end a.d_run_end
  m_run_end : mg "run_end" = some (.ref a.f_run_end)
  F_read_token : Fun K "read_token" "read_token" s_read_token a.f_read_token a.d_read_token
  m_read_token : mg "read_token" = some (.ref a.f_read_token)
  F_tokenize : Fun K "tokenize" "tokenize" s_tokenize a.f_tokenize a.d_tokenize
  m_tokenize : mg "tokenize" = some (.ref a.f_tokenize)
  F_load : Fun K "load" "load" s_load a.f_load a.d_load
  m_load : mg "load" = some (.ref a.f_load)
  F_Story_happens : Fun K "happens" "Story.happens" s_Story_happens a.f_Story_happens a.d_Story_happens
  M_Story_happens : Meth K a.C_Story "happens" a.f_Story_happens
  F_first_difference : Fun K "first_difference" "first_difference" s_first_difference a.f_first_difference a.d_first_difference
  m_first_difference : mg "first_difference" = some (.ref a.f_first_difference)
  F_l_text : Fun K "_law_text" "_law_text" s_l_text a.f_l_text a.d_l_text
  m_l_text : mg "_law_text" = some (.ref a.f_l_text)
  F_l_equal : Fun K "_law_equal" "_law_equal" s_l_equal a.f_l_equal a.d_l_equal
  m_l_equal : mg "_law_equal" = some (.ref a.f_l_equal)
  F_Story_count : Fun K "count" "Story.count" s_Story_count a.f_Story_count a.d_Story_count
  M_Story_count : Meth K a.C_Story "count" a.f_Story_count
  F_l_error_of : Fun K "_law_error_of" "_law_error_of" s_l_error_of a.f_l_error_of a.d_l_error_of
  m_l_error_of : mg "_law_error_of" = some (.ref a.f_l_error_of)
  F_l_cycle : Fun K "_law_cycle" "_law_cycle" s_l_cycle a.f_l_cycle a.d_l_cycle
  m_l_cycle : mg "_law_cycle" = some (.ref a.f_l_cycle)
  F_first_error : Fun K "first_error" "first_error" s_first_error a.f_first_error a.d_first_error
  m_first_error : mg "first_error" = some (.ref a.f_first_error)
  F_l_place : Fun K "_law_place" "_law_place" s_l_place a.f_l_place a.d_l_place
  m_l_place : mg "_law_place" = some (.ref a.f_l_place)
  F_l_checks : Fun K "_law_checks" "_law_checks" s_l_checks a.f_l_checks a.d_l_checks
  m_l_checks : mg "_law_checks" = some (.ref a.f_l_checks)
  F_law : Fun K "law" "law" s_law a.f_law a.d_law
  m_law : mg "law" = some (.ref a.f_law)
  ce_law : a.d_law.code = .ref a.cc_law
  tnd : [a.tb_law].Nodup
  m_Token : mg "Token" = some (.ref a.C_Token)
  cl_Token : Cls K a.C_Token
  mk_Token : Mk K a.C_Token a.f_Token_init
  n_Token_kind : NoAttr K a.C_Token "kind"
  n_Token_text : NoAttr K a.C_Token "text"
  n_Token_line : NoAttr K a.C_Token "line"
  n_Token_column : NoAttr K a.C_Token "column"
  m_Robot : mg "Robot" = some (.ref a.C_Robot)
  cl_Robot : Cls K a.C_Robot
  mk_Robot : Mk K a.C_Robot a.f_Robot_init
  n_Robot_start : NoAttr K a.C_Robot "start"
  n_Robot_steps : NoAttr K a.C_Robot "steps"
  n_Robot_names : NoAttr K a.C_Robot "names"
  m_Plan : mg "Plan" = some (.ref a.C_Plan)
  cl_Plan : Cls K a.C_Plan
  mk_Plan : Mk K a.C_Plan a.f_Plan_init
  n_Plan_shelf : NoAttr K a.C_Plan "shelf"
  n_Plan_robots : NoAttr K a.C_Plan "robots"
  m_Parser : mg "Parser" = some (.ref a.C_Parser)
  cl_Parser : Cls K a.C_Parser
  mk_Parser : Mk K a.C_Parser a.f_Parser_init
  n_Parser_tokens : NoAttr K a.C_Parser "tokens"
  n_Parser_at : NoAttr K a.C_Parser "at"
  n_Parser_faults : NoAttr K a.C_Parser "faults"
  m_State : mg "State" = some (.ref a.C_State)
  cl_State : Cls K a.C_State
  mk_State : Mk K a.C_State a.f_State_init
  n_State_cells : NoAttr K a.C_State "cells"
  n_State_nexts : NoAttr K a.C_State "nexts"
  n_State_holds : NoAttr K a.C_State "holds"
  n_State_shelf : NoAttr K a.C_State "shelf"
  m_Tick : mg "Tick" = some (.ref a.C_Tick)
  cl_Tick : Cls K a.C_Tick
  mk_Tick : Mk K a.C_Tick a.f_Tick_init
  n_Tick_words : NoAttr K a.C_Tick "words"
  n_Tick_state : NoAttr K a.C_Tick "state"
  m_Story : mg "Story" = some (.ref a.C_Story)
  cl_Story : Cls K a.C_Story
  mk_Story : Mk K a.C_Story a.f_Story_init
  n_Story_ticks : NoAttr K a.C_Story "ticks"
  n_Story_start : NoAttr K a.C_Story "start"
  e_BotError : mg "BotError" = some (.ref a.X_BotError)
  e_InvalidTick : mg "InvalidTick" = some (.ref a.X_InvalidTick)
  e_InvalidNumber : mg "InvalidNumber" = some (.ref a.X_InvalidNumber)
  e_TooLong : mg "TooLong" = some (.ref a.X_TooLong)
  e_DifferentShelves : mg "DifferentShelves" = some (.ref a.X_DifferentShelves)
  e_Contradiction : mg "Contradiction" = some (.ref a.X_Contradiction)
  e_CellFull : mg "CellFull" = some (.ref a.X_CellFull)
  e_CellEmpty : mg "CellEmpty" = some (.ref a.X_CellEmpty)
  e_InvalidName : mg "InvalidName" = some (.ref a.X_InvalidName)
  e_UnknownName : mg "UnknownName" = some (.ref a.X_UnknownName)
  e_SyntaxFault : mg "SyntaxFault" = some (.ref a.X_SyntaxFault)
  e_CheckFault : mg "CheckFault" = some (.ref a.X_CheckFault)
  e_InvalidCode : mg "InvalidCode" = some (.ref a.X_InvalidCode)
  e_InvalidOperation : mg "InvalidOperation" = some (.ref a.X_InvalidOperation)
  xr_DifferentShelves : PySem.W.excIn K a.X_DifferentShelves [.type "ValueError", .type "Exception", .type "BaseException", .type "object"] "ValueError.__new__" = true
  xk_DifferentShelves : PySem.W.keepIn K (.ref a.X_DifferentShelves) = true
  xb_DifferentShelves : PySem.W.subIn K (.ref a.X_DifferentShelves) (.type "BaseException") = some true
  xt_DifferentShelves : PySem.W.typeIn K (.ref a.X_DifferentShelves) = some (.type "type")
  xe_DifferentShelves : PySem.W.exmOne K (.ref a.X_DifferentShelves) (.ref a.X_BotError) = some true
  xc_DifferentShelves : L2.ExcC K a.X_DifferentShelves
  xo_DifferentShelves_InvalidTick : PySem.W.kitOne K (.ref a.X_DifferentShelves) (.ref a.X_InvalidTick) = some false
  xo_DifferentShelves_InvalidNumber : PySem.W.kitOne K (.ref a.X_DifferentShelves) (.ref a.X_InvalidNumber) = some false
  xo_DifferentShelves_TooLong : PySem.W.kitOne K (.ref a.X_DifferentShelves) (.ref a.X_TooLong) = some false
  xo_DifferentShelves_DifferentShelves : PySem.W.kitOne K (.ref a.X_DifferentShelves) (.ref a.X_DifferentShelves) = some true
  xo_DifferentShelves_Contradiction : PySem.W.kitOne K (.ref a.X_DifferentShelves) (.ref a.X_Contradiction) = some false
  xo_DifferentShelves_CellFull : PySem.W.kitOne K (.ref a.X_DifferentShelves) (.ref a.X_CellFull) = some false
  xo_DifferentShelves_CellEmpty : PySem.W.kitOne K (.ref a.X_DifferentShelves) (.ref a.X_CellEmpty) = some false
  xo_DifferentShelves_InvalidName : PySem.W.kitOne K (.ref a.X_DifferentShelves) (.ref a.X_InvalidName) = some false
  xo_DifferentShelves_UnknownName : PySem.W.kitOne K (.ref a.X_DifferentShelves) (.ref a.X_UnknownName) = some false
  xo_DifferentShelves_SyntaxFault : PySem.W.kitOne K (.ref a.X_DifferentShelves) (.ref a.X_SyntaxFault) = some false
  xo_DifferentShelves_CheckFault : PySem.W.kitOne K (.ref a.X_DifferentShelves) (.ref a.X_CheckFault) = some false
  xo_DifferentShelves_InvalidCode : PySem.W.kitOne K (.ref a.X_DifferentShelves) (.ref a.X_InvalidCode) = some false
  xo_DifferentShelves_InvalidOperation : PySem.W.kitOne K (.ref a.X_DifferentShelves) (.ref a.X_InvalidOperation) = some false
  xv_DifferentShelves : PySem.W.kitOne K (.ref a.X_DifferentShelves) (.type "ValueError") = some true
  z_len : mg "len" = none
  z_abs : mg "abs" = none
  z_range : mg "range" = none
  z_str : mg "str" = none
  z_int : mg "int" = none
  z_tuple : mg "tuple" = none
  z_list : mg "list" = none
  z_sum : mg "sum" = none
  z_isinstance : mg "isinstance" = none
  z_bool : mg "bool" = none
  z_enumerate : mg "enumerate" = none
  z_zip : mg "zip" = none
  z_min : mg "min" = none
  z_all : mg "all" = none
  z_divmod : mg "divmod" = none
  z_max : mg "max" = none
  z_dict : mg "dict" = none
  z_sorted : mg "sorted" = none
  z_ValueError : mg "ValueError" = none
  c_MOVES : mg "MOVES" = some (.ref a.A_MOVES)
  q_MOVES : ∀ H, SqT K H a.A_MOVES (([(Str.ofString "left"), (Str.ofString "right"), (Str.ofString "pick"), (Str.ofString "put"), (Str.ofString "wait")] : List Str).map V.str)
  k_MOVES : ∃ o, K.lookup a.A_MOVES = some o ∧ o.cls = .type "tuple" ∧ o.dict = none
  c_JUMPS : mg "JUMPS" = some (.ref a.A_JUMPS)
  q_JUMPS : ∀ H, SqT K H a.A_JUMPS (([(Str.ofString "goto"), (Str.ofString "empty"), (Str.ofString "held")] : List Str).map V.str)
  k_JUMPS : ∃ o, K.lookup a.A_JUMPS = some o ∧ o.cls = .type "tuple" ∧ o.dict = none
  c_KEYWORDS : mg "KEYWORDS" = some (.ref a.A_KEYWORDS)
  q_KEYWORDS : ∀ H, SqT K H a.A_KEYWORDS (([(Str.ofString "shelf"), (Str.ofString "robot"), (Str.ofString "left"), (Str.ofString "right"), (Str.ofString "pick"), (Str.ofString "put"), (Str.ofString "wait"), (Str.ofString "goto"), (Str.ofString "empty"), (Str.ofString "held")] : List Str).map V.str)
  k_KEYWORDS : ∃ o, K.lookup a.A_KEYWORDS = some o ∧ o.cls = .type "tuple" ∧ o.dict = none
  c_LETTERS : mg "LETTERS" = some (.str (Str.ofString "abcdefghijklmnopqrstuvwxyz") a.t_LETTERS)
  c_DIGITS : mg "DIGITS" = some (.str (Str.ofString "0123456789") a.t_DIGITS)
  c_SPACES : mg "SPACES" = some (.str (Str.ofString " \n") a.t_SPACES)
  c_SIGNS : mg "SIGNS" = some (.str (Str.ofString ";:{}") a.t_SIGNS)
  c_MAX_LETTERS : mg "MAX_LETTERS" = some (.int 8 a.t_MAX_LETTERS)
  c_MAX_DIGITS : mg "MAX_DIGITS" = some (.int 2 a.t_MAX_DIGITS)
  c_NAME : mg "NAME" = some (.str (Str.ofString "name") a.t_NAME)
  c_NUMBER : mg "NUMBER" = some (.str (Str.ofString "number") a.t_NUMBER)
  c_KEYWORD : mg "KEYWORD" = some (.str (Str.ofString "keyword") a.t_KEYWORD)
  c_SIGN : mg "SIGN" = some (.str (Str.ofString "sign") a.t_SIGN)
  c_END : mg "END" = some (.str (Str.ofString "end") a.t_END)
  c_MIN_CELLS : mg "MIN_CELLS" = some (.int 3 a.t_MIN_CELLS)
  c_MAX_CELLS : mg "MAX_CELLS" = some (.int 12 a.t_MAX_CELLS)
  c_MAX_BOXES : mg "MAX_BOXES" = some (.int 3 a.t_MAX_BOXES)
  c_MAX_STEPS : mg "MAX_STEPS" = some (.int 20 a.t_MAX_STEPS)
  c_MAX_STATES : mg "MAX_STATES" = some (.int 20000 a.t_MAX_STATES)
  c_BLOCKED : mg "BLOCKED" = some (.str (Str.ofString "blocked") a.t_BLOCKED)
structure Tbl (mg : Str → Option Value) (base : Heap) (a : Ad) : Prop where
  t_law : LamX.TabB base mg a.cc_law a.tb_law
def Ts (a : Ad) : List (Addr × Str) := [(a.tb_law, Str.ofString "law" ++ ".<locals>." ++ "<lambda>")]
def tbs (a : Ad) : List Addr := [a.tb_law]
def lam_law : Expr := lamArg s_law
section
variable {K : PySem.W.Frag} {mg : Str → Option Value} {a : Ad}
theorem b_l_random (T : Txt K mg a) : Binds K a.d_l_random ["_law_script", "_law_salt"] [] := T.F_l_random.binds fun _ _ _ _ _ _ us hl => match us, hl with | [_, _], _ => rfl
theorem b_l_below (T : Txt K mg a) : Binds K a.d_l_below ["_law_d", "_law_limit"] [] := T.F_l_below.binds fun _ _ _ _ _ _ us hl => match us, hl with | [_, _], _ => rfl
theorem b_l_empty (T : Txt K mg a) : Binds K a.d_l_empty ["_law_plan_here"] [] := T.F_l_empty.binds fun _ _ _ _ _ _ us hl => match us, hl with | [_], _ => rfl
theorem b_l_act (T : Txt K mg a) : Binds K a.d_l_act ["_law_plan_here", "_law_state", "_law_number"] [] := T.F_l_act.binds fun _ _ _ _ _ _ us hl => match us, hl with | [_, _, _], _ => rfl
theorem b_l_tick (T : Txt K mg a) : Binds K a.d_l_tick ["_law_plan_here", "_law_state"] [] := T.F_l_tick.binds fun _ _ _ _ _ _ us hl => match us, hl with | [_, _], _ => rfl
theorem b_l_repeats (T : Txt K mg a) : Binds K a.d_l_repeats ["_law_plan_here"] [] := T.F_l_repeats.binds fun _ _ _ _ _ _ us hl => match us, hl with | [_], _ => rfl
theorem b_l_steps (T : Txt K mg a) : Binds K a.d_l_steps ["_law_d", "_law_most"] [] := T.F_l_steps.binds fun _ _ _ _ _ _ us hl => match us, hl with | [_, _], _ => rfl
theorem b_l_plan (T : Txt K mg a) : Binds K a.d_l_plan ["_law_d", "_law_most"] [] := T.F_l_plan.binds fun _ _ _ _ _ _ us hl => match us, hl with | [_, _], _ => rfl
theorem b_l_doubled (T : Txt K mg a) : Binds K a.d_l_doubled ["_law_steps_here"] [] := T.F_l_doubled.binds fun _ _ _ _ _ _ us hl => match us, hl with | [_], _ => rfl
theorem b_l_other (T : Txt K mg a) : Binds K a.d_l_other ["_law_d", "_law_first"] [] := T.F_l_other.binds fun _ _ _ _ _ _ us hl => match us, hl with | [_, _], _ => rfl
theorem b_Story_size (T : Txt K mg a) : Binds K a.d_Story_size ["self"] [] := T.F_Story_size.binds fun _ _ _ _ _ _ us hl => match us, hl with | [_], _ => rfl
theorem b_Parser_peek (T : Txt K mg a) : Binds K a.d_Parser_peek ["self"] [] := T.F_Parser_peek.binds fun _ _ _ _ _ _ us hl => match us, hl with | [_], _ => rfl
theorem b_Token_init (T : Txt K mg a) : Binds K a.d_Token_init ["self", "kind", "text", "line", "column"] [] := T.F_Token_init.binds fun _ _ _ _ _ _ us hl => match us, hl with | [_, _, _, _, _], _ => rfl
theorem b_Robot_init (T : Txt K mg a) : Binds K a.d_Robot_init ["self", "start", "steps", "names"] [] := T.F_Robot_init.binds fun _ _ _ _ _ _ us hl => match us, hl with | [_, _, _, _], _ => rfl
theorem b_Plan_init (T : Txt K mg a) : Binds K a.d_Plan_init ["self", "shelf", "robots"] [] := T.F_Plan_init.binds fun _ _ _ _ _ _ us hl => match us, hl with | [_, _, _], _ => rfl
theorem b_Parser_init (T : Txt K mg a) : Binds K a.d_Parser_init ["self", "tokens"] [] := T.F_Parser_init.binds fun _ _ _ _ _ _ us hl => match us, hl with | [_, _], _ => rfl
theorem b_State_init (T : Txt K mg a) : Binds K a.d_State_init ["self", "cells", "nexts", "holds", "shelf"] [] := T.F_State_init.binds fun _ _ _ _ _ _ us hl => match us, hl with | [_, _, _, _, _], _ => rfl
theorem b_Tick_init (T : Txt K mg a) : Binds K a.d_Tick_init ["self", "words", "state"] [] := T.F_Tick_init.binds fun _ _ _ _ _ _ us hl => match us, hl with | [_, _, _], _ => rfl
theorem b_first_state (T : Txt K mg a) : Binds K a.d_first_state ["parsed"] [] := T.F_first_state.binds fun _ _ _ _ _ _ us hl => match us, hl with | [_], _ => rfl
theorem b_State_key (T : Txt K mg a) : Binds K a.d_State_key ["self"] [] := T.F_State_key.binds fun _ _ _ _ _ _ us hl => match us, hl with | [_], _ => rfl
theorem b_replaced (T : Txt K mg a) : Binds K a.d_replaced ["values", "place", "value"] [] := T.F_replaced.binds fun _ _ _ _ _ _ us hl => match us, hl with | [_, _, _], _ => rfl
theorem b_act (T : Txt K mg a) : Binds K a.d_act ["parsed", "state", "number"] [] := T.F_act.binds fun _ _ _ _ _ _ us hl => match us, hl with | [_, _, _], _ => rfl
theorem b_next_tick (T : Txt K mg a) : Binds K a.d_next_tick ["parsed", "state"] [] := T.F_next_tick.binds fun _ _ _ _ _ _ us hl => match us, hl with | [_, _], _ => rfl
theorem b_Story_init (T : Txt K mg a) : Binds K a.d_Story_init ["self", "parsed"] [] := T.F_Story_init.binds fun _ _ _ _ _ _ us hl => match us, hl with | [_, _], _ => rfl
theorem b_Parser_fail (T : Txt K mg a) : Binds K a.d_Parser_fail ["self"] [] := T.F_Parser_fail.binds fun _ _ _ _ _ _ us hl => match us, hl with | [_], _ => rfl
theorem b_Parser_take_word (T : Txt K mg a) : Binds K a.d_Parser_take_word ["self", "word"] [] := T.F_Parser_take_word.binds fun _ _ _ _ _ _ us hl => match us, hl with | [_, _], _ => rfl
theorem b_Parser_take (T : Txt K mg a) : Binds K a.d_Parser_take ["self", "kind"] [] := T.F_Parser_take.binds fun _ _ _ _ _ _ us hl => match us, hl with | [_, _], _ => rfl
theorem b_Parser_found (T : Txt K mg a) : Binds K a.d_Parser_found ["self", "reason", "token"] [] := T.F_Parser_found.binds fun _ _ _ _ _ _ us hl => match us, hl with | [_, _, _], _ => rfl
theorem b_Parser_parse_shelf (T : Txt K mg a) : Binds K a.d_Parser_parse_shelf ["self"] [] := T.F_Parser_parse_shelf.binds fun _ _ _ _ _ _ us hl => match us, hl with | [_], _ => rfl
theorem b_Parser_parse_step (T : Txt K mg a) : Binds K a.d_Parser_parse_step ["self", "names", "jumps"] [] := T.F_Parser_parse_step.binds fun _ _ _ _ _ _ us hl => match us, hl with | [_, _, _], _ => rfl
theorem b_Parser_parse_robot (T : Txt K mg a) : Binds K a.d_Parser_parse_robot ["self", "cells", "others"] [] := T.F_Parser_parse_robot.binds fun _ _ _ _ _ _ us hl => match us, hl with | [_, _, _], _ => rfl
theorem b_Parser_parse_plan (T : Txt K mg a) : Binds K a.d_Parser_parse_plan ["self"] [] := T.F_Parser_parse_plan.binds fun _ _ _ _ _ _ us hl => match us, hl with | [_], _ => rfl
theorem b_run_end (T : Txt K mg a) : Binds K a.d_run_end ["row", "start", "letters"] [] := T.F_run_end.binds fun _ _ _ _ _ _ us hl => match us, hl with | [_, _, _], _ => rfl
theorem b_read_token (T : Txt K mg a) : Binds K a.d_read_token ["row", "line", "column"] [] := T.F_read_token.binds fun _ _ _ _ _ _ us hl => match us, hl with | [_, _, _], _ => rfl
theorem b_tokenize (T : Txt K mg a) : Binds K a.d_tokenize ["source"] [] := T.F_tokenize.binds fun _ _ _ _ _ _ us hl => match us, hl with | [_], _ => rfl
theorem b_load (T : Txt K mg a) : Binds K a.d_load ["plan"] [] := T.F_load.binds fun _ _ _ _ _ _ us hl => match us, hl with | [_], _ => rfl
theorem b_Story_happens (T : Txt K mg a) : Binds K a.d_Story_happens ["self", "tick"] [] := T.F_Story_happens.binds fun _ _ _ _ _ _ us hl => match us, hl with | [_, _], _ => rfl
theorem b_first_difference (T : Txt K mg a) : Binds K a.d_first_difference ["plan", "other"] [] := T.F_first_difference.binds fun _ _ _ _ _ _ us hl => match us, hl with | [_, _], _ => rfl
theorem b_l_text (T : Txt K mg a) : Binds K a.d_l_text ["_law_plan_here"] [] := T.F_l_text.binds fun _ _ _ _ _ _ us hl => match us, hl with | [_], _ => rfl
theorem b_l_equal (T : Txt K mg a) : Binds K a.d_l_equal ["_law_actual", "_law_expected"] [] := T.F_l_equal.binds fun _ _ _ _ _ _ us hl => match us, hl with | [_, _], _ => rfl
theorem b_Story_count (T : Txt K mg a) : Binds K a.d_Story_count ["self", "ticks", "measure"] [] := T.F_Story_count.binds fun _ _ _ _ _ _ us hl => match us, hl with | [_, _, _], _ => rfl
theorem b_l_error_of (T : Txt K mg a) : Binds K a.d_l_error_of ["_law_call"] [] := T.F_l_error_of.binds fun _ _ _ _ _ _ us hl => match us, hl with | [_], _ => rfl
theorem b_l_cycle (T : Txt K mg a) : Binds K a.d_l_cycle ["_law_plan_here"] [] := T.F_l_cycle.binds fun _ _ _ _ _ _ us hl => match us, hl with | [_], _ => rfl
theorem b_first_error (T : Txt K mg a) : Binds K a.d_first_error ["plan", "log"] [] := T.F_first_error.binds fun _ _ _ _ _ _ us hl => match us, hl with | [_, _], _ => rfl
theorem b_l_place (T : Txt K mg a) : Binds K a.d_l_place ["_law_cycle_here", "_law_tick_here"] [] := T.F_l_place.binds fun _ _ _ _ _ _ us hl => match us, hl with | [_, _], _ => rfl
theorem b_l_checks (T : Txt K mg a) : Binds K a.d_l_checks ["_law_d", "_law_text_here", "_law_cycle_here"] [] := T.F_l_checks.binds fun _ _ _ _ _ _ us hl => match us, hl with | [_, _, _], _ => rfl
end
end Sb


namespace Sb
open PySem PySem.Spec PyProof.Rows L2
theorem ixN_nat {n j : Nat} (h : j < n) : ixN n (j : Int) = some j := by
  unfold ixN
  rw [if_pos (Int.natCast_nonneg j), if_pos (by omega)]
  simp
theorem sq_nat {n j : Nat} (h : j < n) : seqIndex? (j : Int) n = some j := (ixN_seq (ixN_nat h)).1
theorem ix_of {n j : Nat} {z : Int} (e : z = (j : Int)) (h : j < n) : ixN n z = some j := by rw [e]; exact ixN_nat h
theorem sq_of {n j : Nat} {z : Int} (e : z = (j : Int)) (h : j < n) : seqIndex? z n = some j := by rw [e]; exact sq_nat h
theorem vint_eq {i j : Int} (h : i = j) : decide (V.int i = V.int j) = true := decide_eq_true (by rw [h])
theorem vint_ne {i j : Int} (h : ¬ i = j) : decide (V.int i = V.int j) = false := decide_eq_false (fun e => h (by injection e))

/-! ### the draws -/
def spRandom (K : PySem.W.Frag) : Sp := fun vs H Q _ => ∃ (a : Addr) (ns : List Int) (salt : Int), vs = [.ref a, .int salt] ∧ SqL K H a (ns.map V.int) ∧ ns.length ≤ 63 ∧ 0 ≤ salt ∧
  ∀ (H' : Hp) (p : Addr) (ds : List Int), Same H H' → H p = none → H' p = some (.lst (ds.map V.int)) → Src ds → Q (.ref p) H'
structure spBelow (vs : List V) (H : Hp) (Q : VK) (E : XK) : Prop where
  ex : ∃ (d : Addr) (ds : List Int) (n : Int), vs = [.ref d, .int n] ∧ H d = some (.lst (ds.map V.int)) ∧ Src ds ∧ 0 < n ∧ n < 1073741824 ∧
  ∀ (ds' : List Int) (k : Int), Src ds' → 0 ≤ k → k < n → Q (.int k) (upd H d (.lst (ds'.map V.int)))
section
variable {P : Program} {w : World} {K : PySem.W.Frag} {mg : Str → Option Value} {base : Heap} {a : Ad}
theorem ok_l_below (T : Txt K mg a) : FnOk P w K mg base CX0 1 a.f_l_below a.d_l_below ["_law_d", "_law_limit"] spBelow := by
  refine T.F_l_below.ok sc_l_below (fun vs H Q E h => ?_) (fun cdv A outer s H vs Q E hr h => ?_)
  · obtain ⟨⟨d, ds, n, rfl, _⟩⟩ := h
    rfl
  · obtain ⟨⟨d, ds, n, rfl, hd, ⟨⟨z, e, r, rfl, hz, he, hr2, hl⟩⟩, n0, n1, k⟩⟩ := h
    refine ⟨_, (pss_cons (ps_if (PW.pt (pw_and (pt_cmpR op_eq (pe_ix ix_list (pv 0) pe_int (fun _ _ => rfl)) pe_int (nomark _)) (pw_and1 (pt_cmpR op_gt (pe_callB call_len_seq (by rfl) T.z_len (by decide +kernel) (pa_cons (pv 0) pa_nil)) pe_int (nomark _))))) (pss_one (ps_asg (pe_bm PySem.F.plainAttrs_list PySem.F.slot_list_pop PySem.F.type_list_pop mt_popAt (pv 0) (pa_cons pe_int pa_nil)) (pg_sub (pv 0) pe_int set_list))) pss_nil)
      (pss_cons (ps_if (pt_cmpR op_gt (pe_ix ix_list (pv 0) pe_int (fun _ _ => rfl)) pe_int (nomark _)) (pss_cons (ps_set (i := 2) sc_l_below.nd rfl (Or.inl rfl) (pe_op op_mod (pe_ix ix_list (pv 0) pe_int (fun _ _ => rfl)) (pv 1)))
      (pss_cons (ps_asg (pe_op op_fdiv (pe_ix ix_list (pv 0) pe_int (fun _ _ => rfl)) (pv 1)) (pg_sub (pv 0) pe_int set_list))
      (pss_one (ps_ret (pv 2))))) pss_nil)
      (pss_cons (ps_asg (pe_op op_mod (pe_op op_add (pe_op op_mul (pe_ix ix_list (pv 0) pe_int (fun _ _ => rfl)) pe_int) pe_int) pe_int) (pg_sub (pv 0) pe_int set_list))
      (pss_one (ps_ret (pe_op op_mod (pe_op op_fdiv (pe_ix ix_list (pv 0) pe_int (fun _ _ => rfl)) pe_int) (pv 1))))))), ?_⟩
    -- the end: d[0] drawn on
    have last : ∀ (z : Int) (r : List Int), 0 ≤ z → (∀ x ∈ r, (0 : Int) ≤ x) → r.length ≤ 63 → Src (((z * 48271 + 11) % 2147483647) :: 0 :: r) := fun z r hz hr hl =>
      ⟨⟨_, _, _, rfl, Int.emod_nonneg _ (by decide), by decide, hr, hl⟩⟩
    have go2 : ∀ (e : Int) (r : List Int), 0 < e → (∀ x ∈ r, (0 : Int) ≤ x) → r.length ≤ 63 → Src (z :: (e / n) :: r) := fun e r he hr hl =>
      ⟨⟨_, _, _, rfl, hz, Int.ediv_nonneg (by omega) (by omega), hr, hl⟩⟩
    -- behind the first if
    have rest : ∀ (e : Int) (r : List Int) (H1 : Hp), 0 ≤ e → (∀ x ∈ r, (0 : Int) ≤ x) → r.length ≤ 63 → H1 d = some (.lst ((z :: e :: r).map V.int)) → (∀ o, upd H1 d o = upd H d o) →
        (tSeq (tIfS (tTest (tOp (rI0 fun i j => .bl (decide (j < i))) (tOp (rIxL K) (tVar 0) (tC (.int 1))) (tC (.int 0))))
          (tSeq (tAsg (tOp (rI (fun _ j => 0 < j) fun i j => .int (i % j)) (tOp (rIxL K) (tVar 0) (tC (.int 1))) (tVar 1)) (gName 2))
            (tSeq (tAsg (tOp (rI CDiv fun i j => .int (i / j)) (tOp (rIxL K) (tVar 0) (tC (.int 1))) (tVar 1)) (gSub (tVar 0) (tC (.int 1)) rSetL)) (tRet (tVar 2)))) tNext)
          (tSeq (tAsg (tOp (rI (fun _ j => 0 < j) fun i j => .int (i % j)) (tOp (rI0 fun i j => .int (i + j)) (tOp (rI CMul fun i j => .int (i * j)) (tOp (rIxL K) (tVar 0) (tC (.int 0))) (tC (.int 48271))) (tC (.int 11))) (tC (.int 2147483647))) (gSub (tVar 0) (tC (.int 0)) rSetL))
            (tRet (tOp (rI (fun _ j => 0 < j) fun i j => .int (i % j)) (tOp (rI CDiv fun i j => .int (i / j)) (tOp (rIxL K) (tVar 0) (tC (.int 0))) (tC (.int 64))) (tVar 1)))))
          { nx := fun _ H' => Q .non H', rt := Q } (start ["_law_d", "_law_limit", "_law_result"] [.ref d, .int n]) H1 := by
      intro e r H1 he hr hl h1 hu
      refine ⟨_, rfl, d, _, 1, .int e, rfl, rfl, SqL.of h1, at_of (j := 1) rfl rfl, _, _, rfl, rfl, _, rfl, ?_⟩
      refine ite2 (fun c => ?_) (fun c => ?_)
      · have he0 : 0 < e := of_decide_eq_true c
        refine ⟨_, rfl, d, _, 1, .int e, rfl, rfl, SqL.of h1, at_of (j := 1) rfl rfl, _, rfl, _, _, rfl, rfl, n0, ?_⟩
        refine ⟨_, rfl, d, _, 1, .int e, rfl, rfl, SqL.of h1, at_of (j := 1) rfl rfl, _, rfl, _, _, rfl, rfl, ⟨n0, n1⟩, ?_⟩
        refine ⟨_, rfl, d, _, 1, 1, rfl, rfl, h1, ix_of rfl (by show 1 < ((z :: e :: r).map V.int).length; rw [List.length_map]; exact Nat.succ_lt_succ (Nat.succ_pos _)), ?_⟩
        refine ⟨_, rfl, ?_⟩
        rw [hu]
        exact k (z :: (e / n) :: r) (e % n) (go2 e r he0 hr hl) (Int.emod_nonneg _ (by omega)) (Int.emod_lt_of_pos _ n0)
      · have he0 : e = 0 := by
          have h3 : ¬ (0 : Int) < e := fun q => c (decide_eq_true q)
          omega
        subst he0
        refine ⟨_, rfl, d, _, 0, .int z, rfl, rfl, SqL.of h1, at_of (j := 0) rfl rfl, _, _, rfl, rfl, .inr ⟨by decide, by decide⟩, _, _, rfl, rfl, _, _, rfl, rfl, (by show (0 : Int) < 2147483647; decide), ?_⟩
        refine ⟨_, rfl, d, _, 0, 0, rfl, rfl, h1, ix_of rfl (by show 0 < ((z :: (0 : Int) :: r).map V.int).length; rw [List.length_map]; exact Nat.succ_pos _), ?_⟩
        refine ⟨_, rfl, d, _, 0, .int ((z * 48271 + 11) % 2147483647), rfl, rfl, SqL.of upd_same, at_of (j := 0) rfl rfl, _, _, rfl, rfl, ⟨by decide, by decide⟩, _, rfl, _, _, rfl, rfl, n0, ?_⟩
        rw [hu]
        exact k (((z * 48271 + 11) % 2147483647) :: 0 :: r) _ (last z r hz hr hl) (Int.emod_nonneg _ (by omega)) (Int.emod_lt_of_pos _ n0)
    refine ⟨_, rfl, d, _, 1, .int e, rfl, rfl, SqL.of hd, at_of (j := 1) rfl rfl, rfl, _, rfl, ?_⟩
    refine ite2 (fun c => ?_) (fun c => ?_)
    · refine ⟨_, rfl, d, _, rfl, .inl (SqL.of hd), _, _, rfl, rfl, _, rfl, ?_⟩
      refine ite2 (fun c2 => ?_) (fun c2 => ?_)
      · -- there is a further one
        cases r with
        | nil =>
          have c3 := of_decide_eq_true c2
          simp at c3
        | cons y r =>
          refine ⟨_, rfl, .inl ⟨rfl, _, SqL.of hd⟩, d, _, 2, 2, .int y, rfl, rfl, hd, by decide, by decide, sq_of rfl (by simp), rfl, ?_⟩
          refine ⟨_, rfl, d, _, 1, 1, rfl, rfl, upd_same, ix_of rfl (by simp), ?_⟩
          refine rest y r _ (hr2 y List.mem_cons_self) (fun x hx => hr2 x (List.mem_cons_of_mem _ hx)) (by simp at hl; omega) ?_ ?_
          · rw [upd_same]; rfl
          · intro o
            rw [upd_upd, upd_upd]
      · exact rest e r H he hr2 hl hd (fun _ => rfl)
    · exact rest e r H he hr2 hl hd (fun _ => rfl)
end
end Sb

namespace Sb
open PySem PySem.Spec PyProof.Rows L2
section
variable {P : Program} {w : World} {K : PySem.W.Frag} {mg : Str → Option Value} {base : Heap} {a : Ad}
theorem ints_at {ns : List Int} {i : Nat} {x : V} (h : (ns.map V.int)[i]? = some x) : ∃ z, ns[i]? = some z ∧ x = V.int z := by
  rw [List.getElem?_map] at h
  cases e : ns[i]? with
  | none => rw [e] at h; cases h
  | some z => rw [e] at h; exact ⟨z, rfl, (Option.some.inj h).symm⟩
theorem take_more {α : Type} : ∀ {l : List α} {i : Nat} {x : α}, l[i]? = some x → l.take (i + 1) = l.take i ++ [x]
  | [], i, x, h => by simp at h
  | a :: l, 0, x, h => by
    have e : a = x := Option.some.inj h
    subst e
    rfl
  | a :: l, i + 1, x, h => by
    have ih := take_more (l := l) (i := i) (x := x) h
    show a :: l.take (i + 1) = a :: l.take i ++ [x]
    rw [ih]
    rfl
theorem ok_l_random (T : Txt K mg a) : FnOk P w K mg base CX0 1 a.f_l_random a.d_l_random ["_law_script", "_law_salt"] (spRandom K) := by
  refine T.F_l_random.ok sc_l_random (fun vs H Q E h => ?_) (fun cdv A outer s H vs Q E hr h => ?_)
  · obtain ⟨d, ds, n, rfl, _⟩ := h
    rfl
  · obtain ⟨l, ns, salt, rfl, hl, h63, h0, k⟩ := h
    refine ⟨_, (pss_cons (ps_set (i := 2) sc_l_random.nd rfl (Or.inl rfl) (pv 1))
      (pss_cons (ps_for PassesOwn.never rfl (pi_list (pv 0)) (pg_name (i := 3) sc_l_random.nd rfl (Or.inl rfl)) (pss_one (ps_set (i := 2) sc_l_random.nd rfl (Or.inl rfl) (pe_op op_mod (pe_op op_add (pe_op op_mul (pv 2) pe_int) (pe_callB call_abs (by rfl) T.z_abs (by decide +kernel) (pa_cons (pv 3) pa_nil))) pe_int))))
      (pss_one (ps_ret (pe_op op_cat (pe_lst (pa_cons (pv 2) (pa_cons pe_int pa_nil))) (pe_lc (own := [("_law_cell", 3)]) (g := gName 3) rfl sc_l_random.nd (pi_list (pv 0)) (blkOk_by (own := [("_law_cell", 3)]) (N := ["_law_script", "_law_salt", "_law_seed", "_law_cell"]) (sc := (defScope s_l_random)) (by decide +kernel)) (fun _ _ _ _ _ => (pg_name (i := 3) sc_l_random.nd rfl (Or.inl rfl))) (fun _ _ _ _ _ => by exact pts_one (pt_cmpR op_ge (pv 3) (pe_op op_pow pe_int pe_int) (nomark _))) (fun _ _ _ _ _ => by exact (pv 3)))))))), ?_⟩
    refine ⟨_, rfl, _, rfl, l, rfl, ⟨_, hl⟩, for_list (K := K) (a := l) (xs := ns.map V.int) (fun i σ H' => H' = H ∧ ∃ (z : Int) (v : Option V), σ = [some (.ref l), some (.int salt), some (.int z), v] ∧ 0 ≤ z)
      ⟨rfl, salt, none, rfl, h0⟩ (fun i σ H' _ ⟨e, _⟩ => by rw [e]; exact hl) ?_ ?_⟩
    · rintro i x σ H' hx ⟨rfl, z, v, rfl, hz⟩
      obtain ⟨u, hu, rfl⟩ := ints_at hx
      refine ⟨_, rfl, _, _, rfl, rfl, .inr ⟨by decide, by decide⟩, _, rfl, _, rfl, _, _, rfl, rfl, _, _, rfl, rfl, (by show (0 : Int) < 2147483647; decide), ?_⟩
      exact ⟨rfl, _, _, rfl, Int.emod_nonneg _ (by decide)⟩
    · rintro σ H' ⟨rfl, z, v, rfl, hz⟩
      refine ⟨_, rfl, (by show 2 ≤ sizeLine; decide), fun p hp => ?_⟩
      have hl1 : SqL K (upd H' p (.lst [.int z, .int 0])) l (ns.map V.int) := (same_new hp).seq hl
      refine ⟨_, rfl, l, rfl, ⟨_, hl1⟩, fun D hD => ?_⟩
      have npD : p ≠ D := fun e => by rw [← e, upd_same] at hD; cases hD
      refine lc_list (K := K) (a := l) (xs := ns.map V.int) (fun i H2 => ∃ bs : List Int, H2 = upd (upd H' p (.lst [.int z, .int 0])) D (.lst (bs.map V.int)) ∧ (∀ x ∈ bs, (0 : Int) ≤ x) ∧ bs.length ≤ i) ⟨[], rfl, (fun _ h => nomatch h), Nat.le_refl _⟩ ?_ ?_ ?_
      · rintro i H2 _ ⟨bs, rfl, _⟩
        exact (same_new hD).seq hl1
      · rintro i x H2 hx ⟨bs, rfl, hb, hbl⟩
        obtain ⟨u, hu, rfl⟩ := ints_at hx
        have hi : i < ns.length := (List.getElem?_eq_some_iff.mp hu).1
        refine ⟨rfl, _, rfl, _, _, rfl, rfl, ⟨by decide, by decide, by decide⟩, _, _, rfl, rfl, _, rfl, ?_⟩
        refine ite2 (fun c => ?_) (fun c => ?_)
        · have hu0 : (10 : Int) ^ (18 : Int).toNat ≤ u := of_decide_eq_true c
          have hu1 : (0 : Int) ≤ u := Int.le_trans (by decide) hu0
          refine ⟨_, rfl, bs.map V.int, upd_same, smaller 63 (by rw [List.length_map]; omega) (by decide), bs ++ [u], ?_, ?_, ?_⟩
          · rw [upd_upd, List.map_append]
            rfl
          · intro x hx
            rcases List.mem_append.mp hx with h | h
            · exact hb x h
            · rw [List.mem_singleton.mp h]; exact hu1
          · rw [List.length_append]; simp; omega
        · exact ⟨bs, rfl, hb, by omega⟩
      · rintro H2 ⟨bs, rfl, hb, hbl⟩
        have e1 : (upd (upd H' p (.lst [.int z, .int 0])) D (.lst (bs.map V.int))) p = some (.lst [.int z, .int 0]) := by rw [upd_ne npD, upd_same]
        rw [List.length_map] at hbl
        refine ⟨p, D, _, _, rfl, rfl, e1, upd_same, small 65 (by show 2 + (bs.map V.int).length ≤ 65; rw [List.length_map]; omega) (by decide), fun q hq => ?_⟩
        have q1 : q ≠ D := fun e => by rw [e, upd_same] at hq; cases hq
        have q2 : q ≠ p := fun e => by rw [e, e1] at hq; cases hq
        refine k _ q (z :: 0 :: bs) (((same_new hp).trans (same_new hD)).trans (same_new hq)) (by rw [upd_ne q1, upd_ne q2] at hq; exact hq) (by rw [upd_same]; rfl) ⟨⟨z, 0, bs, rfl, hz, by decide, hb, by omega⟩⟩
end
end Sb

namespace Sb
open PySem PySem.Spec PyProof.Rows L2
section
variable {K : PySem.W.Frag} {d : Addr} {G0 H0 G H : Hp} {n : Int} {Q : VK} {E : XK}
/-- a draw, used -/
theorem draw_go (h : At d G0 H0 G H) (n0 : 0 < n) (n1 : n < 1073741824) (k : ∀ (H1 : Hp) (i : Nat), At d G0 H0 G H1 → (∀ b, b ≠ d → H1 b = H b) → (i : Int) < n → Q (.int i) H1) : spBelow [.ref d, .int n] H Q E := by
  obtain ⟨ds, hd, hs⟩ := h.now.x
  refine ⟨⟨d, ds, n, rfl, hd, hs, n0, n1, fun ds' i s1 i0 i1 => ?_⟩⟩
  have e : i = (i.toNat : Int) := by omega
  rw [e]
  exact k _ i.toNat (h.draw s1) (fun b hb => upd_ne hb) (by omega)
end
theorem wds_len : wds.length = 8 := rfl
theorem wds_at {i : Nat} (h : i < 8) : (wds.map V.str)[i]? = some (.str (wS i)) := by
  rw [List.getElem?_map]
  have : wds[i]? = some (wS i) := by
    unfold wS
    rw [List.getElem?_eq_getElem (by rw [wds_len]; exact h), List.getD_eq_getElem?_getD, List.getElem?_eq_getElem (by rw [wds_len]; exact h)]
    rfl
  rw [this]
  rfl
def jmpV : List V := [.str "goto", .str "empty", .str "held"]
theorem jmp_in : ∀ {w : Nat}, w < 8 → inV (.str (wS w)) jmpV = decide (5 ≤ w) := by
  have h : ∀ w : _root_.Fin 8, inV (.str (wS w.val)) jmpV = decide (5 ≤ w.val) := by decide +kernel
  exact fun {w} hw => h ⟨w, hw⟩
theorem optD_some {K : PySem.W.Frag} {G : Hp} (k : Nat) : Dp K G (.int k) (optD (some k)) := .int k
theorem jmp_flat : jmpV.all flatV = true := by decide +kernel
structure spSteps (K : PySem.W.Frag) (vs : List V) (H : Hp) (Q : VK) (E : XK) : Prop where
  ex : ∃ (d : Addr) (G : Hp) (most : Nat), vs = [.ref d, .int most] ∧ 1 ≤ most ∧ most ≤ 20 ∧
  Drawn d G H Q fun G' v => ∃ ss : List Step, StepsOk ss ∧ Dp K G' v (stepsD ss) ∧ ss.length ≤ most
section
variable {P : Program} {w : World} {K : PySem.W.Frag} {mg : Str → Option Value} {base : Heap} {a : Ad}
theorem wS0 : wS 0 = "left" := rfl
theorem wS1 : wS 1 = "right" := rfl
theorem wS2 : wS 2 = "pick" := rfl
theorem wS3 : wS 3 = "put" := rfl
theorem stepD_no {K : PySem.W.Frag} {G : Hp} {t : Addr} {x : Nat} (h : SqT K G t [.str (wS x), .non]) : Dp K G (.ref t) (Step.D ⟨x, none⟩) := .tup h (.cons (.str _) (.cons .non .nil))
theorem ok_no {n x : Nat} (h : x < 5) : Step.Ok n ⟨x, none⟩ := ⟨by show x < 8; omega, fun _ => rfl, fun z => absurd (show 5 ≤ x from z) (by omega)⟩
theorem ok_l_steps (T : Txt K mg a) : FnOk P w K mg base CX0 2 a.f_l_steps a.d_l_steps ["_law_d", "_law_most"] (spSteps K) := by
  refine T.F_l_steps.ok sc_l_steps (fun vs H Q E h => ?_) (fun cdv A outer s H vs Q E hr h => ?_)
  · obtain ⟨⟨d, G, m, rfl, _⟩⟩ := h
    rfl
  · obtain ⟨⟨d, G, most, rfl, m1, m20, hN, k⟩⟩ := h
    refine ⟨_, (pss_cons (ps_par (i := 2) (j := 3) (by rfl) sc_l_steps.nd rfl rfl (by decide) rfl rfl (pa_cons (pe_op op_add pe_int (pe_call (ok_l_below T) (hr.mono (by decide)) rfl T.m_l_below T.F_l_below.kp (b_l_below T) .nil pass0 (pa_cons (pv 0) (pa_cons (pv 1) pa_nil)))) (pa_cons (pe_lst (pa_cons pe_str (pa_cons pe_str (pa_cons pe_str (pa_cons pe_str (pa_cons pe_str (pa_cons pe_str (pa_cons pe_str (pa_cons pe_str pa_nil))))))))) pa_nil)) (by rfl))
      (pss_cons (ps_if (PW.pt (pw_and (pt_cmpR op_gt (pv 1) pe_int (nomark _)) (pw_and1 (pt_cmpR op_eq (pe_call (ok_l_below T) (hr.mono (by decide)) rfl T.m_l_below T.F_l_below.kp (b_l_below T) .nil pass0 (pa_cons (pv 0) (pa_cons pe_int pa_nil))) pe_int (nomark _))))) (pss_cons (ps_set (i := 4) sc_l_steps.nd rfl (Or.inl rfl) (pe_ix ix_list (pe_lst (pa_cons (pe_lst (pa_cons pe_str (pa_cons pe_str pa_nil))) (pa_cons (pe_lst (pa_cons pe_str (pa_cons pe_str pa_nil))) pa_nil))) (pe_call (ok_l_below T) (hr.mono (by decide)) rfl T.m_l_below T.F_l_below.kp (b_l_below T) .nil pass0 (pa_cons (pv 0) (pa_cons pe_int pa_nil))) (fun _ _ => rfl)))
      (pss_one (ps_ret (pe_lst (pa_cons (pe_tup (pa_cons pe_str (pa_cons pe_non pa_nil))) (pa_cons (pe_tup (pa_cons (pe_ix ix_list (pv 4) pe_int (fun _ _ => rfl)) (pa_cons pe_non pa_nil))) (pa_cons (pe_tup (pa_cons pe_str (pa_cons pe_non pa_nil))) (pa_cons (pe_tup (pa_cons (pe_ix ix_list (pv 4) pe_int (fun _ _ => rfl)) (pa_cons pe_non pa_nil))) pa_nil)))))))) pss_nil)
      (pss_cons (ps_par (i := 5) (j := 6) (by rfl) sc_l_steps.nd rfl rfl (by decide) rfl rfl (pa_cons (pe_ix ix_list (pe_lst (pa_cons pe_int (pa_cons pe_int pa_nil))) (pe_call (ok_l_below T) (hr.mono (by decide)) rfl T.m_l_below T.F_l_below.kp (b_l_below T) .nil pass0 (pa_cons (pv 0) (pa_cons pe_int pa_nil))) (fun _ _ => rfl)) (pa_cons (pe_lst pa_nil) pa_nil)) (by rfl))
      (pss_cons (ps_for PassesOwn.never rfl (pi_range1 (by rfl) T.z_range (pa_cons (pv 2) pa_nil)) (pg_name (i := 7) sc_l_steps.nd rfl (Or.inl rfl)) (pss_cons (ps_set (i := 8) sc_l_steps.nd rfl (Or.inl rfl) (pe_ix ix_list (pv 3) (pe_call (ok_l_below T) (hr.mono (by decide)) rfl T.m_l_below T.F_l_below.kp (b_l_below T) .nil pass0 (pa_cons (pv 0) (pa_cons (pv 5) pa_nil))) (fun _ _ => rfl)))
      (pss_one (ps_expr (pe_bm PySem.F.plainAttrs_list PySem.F.slot_list_append PySem.F.type_list_append mt_append (pv 6) (pa_cons (pe_tup (pa_cons (pv 8) (pa_cons (pe_ifExp (pt_cmpR op_in_seq (pv 8) (pe_lst (pa_cons pe_str (pa_cons pe_str (pa_cons pe_str pa_nil)))) rfl) (pe_call (ok_l_below T) (hr.mono (by decide)) rfl T.m_l_below T.F_l_below.kp (b_l_below T) .nil pass0 (pa_cons (pv 0) (pa_cons (pv 2) pa_nil))) pe_non) pa_nil))) pa_nil))))))
      (pss_one (ps_ret (pv 6))))))), ?_⟩
    -- many, words
    refine ⟨_, rfl, _, rfl, draw_go hN.at (by omega) (by omega) fun H1 i A1 K1 hi => ?_⟩
    refine ⟨_, _, rfl, rfl, (by show 8 ≤ sizeLine; decide), fun W hW => ⟨_, _, rfl, ?_⟩⟩
    have A2 := A1.new hW (.lst (wds.map V.str))
    have hWG : SqL K (upd G W (.lst (wds.map V.str))) W (wds.map V.str) := SqL.of upd_same
    dsimp only
    -- behind the if
    refine seq_rest (fun H3 => At d G H (upd G W (.lst (wds.map V.str))) H3) [some (.ref d), some (.int most), some (.int (1 + (i : Int))), some (.ref W), none, none, none, none, none] (fun H3 A3 => ?r) (fun rest => ?m)
    case m =>
      refine ⟨_, rfl, _, _, rfl, rfl, _, rfl, ?_⟩
      refine ite2 (fun c4 => ?_) (fun c => ?_)
      · refine ⟨_, rfl, draw_go A2 (by decide) (by decide) fun H3 j A3 K3 hj => ?_⟩
        refine ⟨rfl, _, rfl, ?_⟩
        refine ite2 (fun c => ?_) (fun c => rest H3 A3)
        -- the four steps
        refine ⟨(by show 2 ≤ sizeLine; decide), fun q1 hq1 => ?_⟩
        have A4 := A3.new hq1 (.lst [.str "left", .str "right"])
        refine ⟨(by show 2 ≤ sizeLine; decide), fun q2 hq2 => ?_⟩
        have A5 := A4.new hq2 (.lst [.str "right", .str "left"])
        refine ⟨(by show 2 ≤ sizeLine; decide), fun q3 hq3 => ?_⟩
        have A6 := A5.new hq3 (.lst [.ref q1, .ref q2])
        refine ⟨_, rfl, draw_go A6 (by decide) (by decide) fun H7 m A7 K7 hm => ?_⟩
        have f1 : SqL K H7 q1 [.str "left", .str "right"] := A7.now.s.seq (SqL.of (by rw [upd_ne (ne_of_none (by rw [upd_ne (ne_of_none upd_same hq2), upd_same]) hq3), upd_ne (ne_of_none upd_same hq2), upd_same]))
        have f2 : SqL K H7 q2 [.str "right", .str "left"] := A7.now.s.seq (SqL.of (by rw [upd_ne (ne_of_none upd_same hq3), upd_same]))
        have f3 : SqL K H7 q3 [.ref q1, .ref q2] := A7.now.s.seq (SqL.of upd_same)
        obtain ⟨u, x, y, hu, hx, hy, hxy, hsq⟩ : ∃ (u : Addr) (x y : Nat), ([V.ref q1, V.ref q2] : List V)[m]? = some (.ref u) ∧ x < 5 ∧ y < 5 ∧ True ∧ SqL K H7 u [.str (wS x), .str (wS y)] := by
          match m, hm with
          | 0, _ => exact ⟨q1, 0, 1, rfl, by decide, by decide, trivial, f1⟩
          | 1, _ => exact ⟨q2, 1, 0, rfl, by decide, by decide, trivial, f2⟩
          | m + 2, h => exact absurd h (by omega)
        refine ⟨q3, _, _, .ref u, rfl, rfl, f3, atI_nat hu, ?_⟩
        refine ⟨(by show 2 ≤ sizeLine; decide), fun t1 ht1 => ?_⟩
        have B1 := A7.new ht1 (.tup [.str (wS 2), .non])
        have g1 := Same.seq (same_new ht1 (o := .tup [.str (wS 2), .non])) hsq
        refine ⟨_, rfl, u, _, 0, .str (wS x), rfl, rfl, g1, at_of (j := 0) rfl rfl, (by show 2 ≤ sizeLine; decide), fun t2 ht2 => ?_⟩
        have B2 := B1.new ht2 (.tup [.str (wS x), .non])
        refine ⟨(by show 2 ≤ sizeLine; decide), fun t3 ht3 => ?_⟩
        have B3 := B2.new ht3 (.tup [.str (wS 3), .non])
        have g3 := Same.seq (same_new ht3 (o := .tup [.str (wS 3), .non])) (Same.seq (same_new ht2 (o := .tup [.str (wS x), .non])) g1)
        refine ⟨_, rfl, u, _, 1, .str (wS y), rfl, rfl, g3, at_of (j := 1) rfl rfl, (by show 2 ≤ sizeLine; decide), fun t4 ht4 => ?_⟩
        have B4 := B3.new ht4 (.tup [.str (wS y), .non])
        refine ⟨(by show 4 ≤ sizeLine; decide), fun r hr' => ?_⟩
        have B5 := B4.new hr' (.lst [.ref t1, .ref t2, .ref t3, .ref t4])
        refine k _ _ _ B5 ⟨[⟨2, none⟩, ⟨x, none⟩, ⟨3, none⟩, ⟨y, none⟩], ⟨(by show 1 ≤ 4; decide), (by show 4 ≤ 20; decide), ?_⟩, ?_, ?_⟩
        · intro s hs
          rcases List.mem_cons.mp hs with rfl | hs
          · exact ok_no (by decide)
          rcases List.mem_cons.mp hs with rfl | hs
          · exact ok_no hx
          rcases List.mem_cons.mp hs with rfl | hs
          · exact ok_no (by decide)
          rcases List.mem_cons.mp hs with rfl | hs
          · exact ok_no hy
          · cases hs
        · have n5 := same_new (H := upd (upd (upd (upd _ t1 (.tup [.str (wS 2), .non])) t2 (.tup [.str (wS x), .non])) t3 (.tup [.str (wS 3), .non])) t4 (.tup [.str (wS y), .non])) (p := r) (o := .lst [.ref t1, .ref t2, .ref t3, .ref t4]) (Same.free B4.now.s hr')
          have n4 := same_new (H := upd (upd (upd _ t1 (.tup [.str (wS 2), .non])) t2 (.tup [.str (wS x), .non])) t3 (.tup [.str (wS 3), .non])) (p := t4) (o := .tup [.str (wS y), .non]) (Same.free B3.now.s ht4)
          have n3 := same_new (H := upd (upd _ t1 (.tup [.str (wS 2), .non])) t2 (.tup [.str (wS x), .non])) (p := t3) (o := .tup [.str (wS 3), .non]) (Same.free B2.now.s ht3)
          have n2 := same_new (H := upd _ t1 (.tup [.str (wS 2), .non])) (p := t2) (o := .tup [.str (wS x), .non]) (Same.free B1.now.s ht2)
          refine .lst (SqL.of upd_same) (.cons (stepD_no ?_) (.cons (stepD_no ?_) (.cons (stepD_no ?_) (.cons (stepD_no ?_) .nil))))
          · exact Same.seqT (((n2.trans n3).trans n4).trans n5) (SqT.of upd_same)
          · exact Same.seqT ((n3.trans n4).trans n5) (SqT.of upd_same)
          · exact Same.seqT (n4.trans n5) (SqT.of upd_same)
          · exact Same.seqT n5 (SqT.of upd_same)
        · have h3 : (3 : Int) < (most : Int) := of_decide_eq_true c4
          show 4 ≤ most
          omega
      · exact rest _ A2
    -- the loop
    refine ⟨(by show 2 ≤ sizeLine; decide), fun q hq => ?_⟩
    have A4 := A3.new hq (.lst [.int 5, .int 8])
    refine ⟨_, rfl, draw_go A4 (by decide) (by decide) fun H5 m A5 K5 hm => ?_⟩
    have f1 : SqL K H5 q [.int 5, .int 8] := A5.now.s.seq (SqL.of upd_same)
    obtain ⟨lim, hlim, l1, l8⟩ : ∃ lim : Nat, ([V.int 5, V.int 8] : List V)[m]? = some (.int lim) ∧ 0 < lim ∧ lim ≤ 8 := by
      match m, hm with
      | 0, _ => exact ⟨5, rfl, by decide, by decide⟩
      | 1, _ => exact ⟨8, rfl, by decide, by decide⟩
      | m + 2, h => exact absurd h (by omega)
    refine ⟨q, _, _, .int lim, rfl, rfl, f1, atI_nat hlim, Nat.zero_le _, fun l hl => ⟨_, _, rfl, ?_⟩⟩
    have A6 := A5.lay hl (.lst [])
    have lG : upd (upd G W (.lst (wds.map V.str))) q (.lst [.int 5, .int 8]) l = none := Same.free A5.now.s hl
    have l0 : H l = none := A5.ext.k l hl
    have ld : l ≠ d := A5.ne hl
    refine ⟨_, rfl, _, rfl, by omega, by omega, for_range (lo := 0) (n := (1 + (i : Int)).toNat) (fun j σ H' => ∃ (G' : Hp) (xs : List V) (ss : List Step) (v7 v8 : Option V), σ = [some (.ref d), some (.int most), some (.int (1 + (i : Int))), some (.ref W), none, some (.int lim), some (.ref l), v7, v8] ∧
      At d G H G' H' ∧ G' l = none ∧ H' l = some (.lst xs) ∧ SqL K G' W (wds.map V.str) ∧ DpAll K G' xs (ss.map Step.D) ∧ ss.length = j ∧ ∀ s ∈ ss, Step.Ok (1 + i) s) ?_ ?_ ?_⟩
    · exact ⟨_, [], [], none, none, rfl, A6, lG, upd_same, (same_new (Same.free A3.now.s hq)).seq hWG, .nil, rfl, fun _ h => nomatch h⟩
    · rintro j σ H' hj ⟨G', xs, ss, v7, v8, rfl, B, lG', hxs, hW', hss, hsl, hok⟩
      refine ⟨_, rfl, _, rfl, _, rfl, draw_go B (by omega) (by omega) fun H7 x B1 K1 hx => ?_⟩
      have hx8 : x < 8 := by omega
      refine ⟨W, _, _, .str (wS x), rfl, rfl, B1.now.s.seq hW', atI_nat (wds_at hx8), ?_⟩
      have hl7 : H7 l = some (.lst xs) := by rw [K1 l ld]; exact hxs
      refine ⟨_, rfl, .inl ⟨rfl, _, SqL.of hl7⟩, _, rfl, _, rfl, (by show 3 ≤ sizeLine; decide), fun q2 hq2 => ?_⟩
      have B2 := B1.lay hq2 (.lst jmpV)
      have hl8 : (upd H7 q2 (.lst jmpV)) l = some (.lst xs) := by rw [upd_ne (ne_of_none hl7 hq2)]; exact hl7
      refine ⟨q2, jmpV, rfl, .inl (SqL.of upd_same), rfl, jmp_flat, _, rfl, ?_⟩
      -- the tuple appended
      have fin : ∀ (H9 : Hp) (g : Option Nat) (v : V), At d G H G' H9 → H9 l = some (.lst xs) → (∀ G, Dp K G v (optD g)) → Step.Ok (1 + i) ⟨x, g⟩ →
          (2 ≤ sizeLine ∧ ∀ t, H9 t = none → ∃ l' ys y, (V.ref l) = .ref l' ∧ [V.ref t] = [y] ∧ (upd H9 t (.tup [.str (wS x), v])) l' = some (.lst ys) ∧ ys.length < sizeLine ∧
            (∃ (G' : Hp) (xs : List V) (ss : List Step) (v7 v8 : Option V), [some (V.ref d), some (.int most), some (.int (1 + (i : Int))), some (.ref W), none, some (.int lim), some (.ref l), some (.int (0 + (j : Int))), some (.str (wS x))] = [some (.ref d), some (.int most), some (.int (1 + (i : Int))), some (.ref W), none, some (.int lim), some (.ref l), v7, v8] ∧
              At d G H G' (upd (upd H9 t (.tup [.str (wS x), v])) l' (.lst (ys ++ [y]))) ∧ G' l = none ∧ (upd (upd H9 t (.tup [.str (wS x), v])) l' (.lst (ys ++ [y]))) l = some (.lst xs) ∧ SqL K G' W (wds.map V.str) ∧ DpAll K G' xs (ss.map Step.D) ∧ ss.length = j + 1 ∧ ∀ s ∈ ss, Step.Ok (1 + i) s)) := by
        intro H9 g v B9 h9 hv hokx
        refine ⟨by decide, fun t ht => ?_⟩
        have ntl : l ≠ t := ne_of_none h9 ht
        have B10 := B9.new ht (.tup [.str (wS x), v])
        have lG10 : upd G' t (.tup [.str (wS x), v]) l = none := by rw [upd_ne ntl]; exact lG'
        have nG := same_new (H := G') (p := t) (o := .tup [.str (wS x), v]) (Same.free B9.now.s ht)
        refine ⟨l, xs, _, rfl, rfl, by rw [upd_ne ntl]; exact h9, smaller 20 (by rw [DpAll.len hss, List.length_map]; omega) (by decide), _, xs ++ [.ref t], ss ++ [⟨x, g⟩], _, _, rfl, B10.put l0 lG10 ld _, lG10, upd_same, nG.seq hW', ?_, ?_, ?_⟩
        · rw [List.map_append]
          exact DpAll.snoc (Dp.monoAll nG _ _ hss) (.tup (SqT.of upd_same) (.cons (.str _) (.cons (hv _) .nil)))
        · rw [List.length_append, hsl]; rfl
        · intro s hs
          rcases List.mem_append.mp hs with h | h
          · exact hok s h
          · rw [List.mem_singleton.mp h]; exact hokx
      rw [if_neg Bool.false_ne_true, jmp_in hx8]
      refine ite2 (fun c => ?_) (fun c => ?_)
      · have hx5 : 5 ≤ x := of_decide_eq_true c
        refine ⟨_, rfl, _, rfl, draw_go B2 (by omega) (by omega) fun H9 g B3 K3 hg => ?_⟩
        refine fin H9 (some g) (.int g) B3 (by rw [K3 l ld]; exact hl8) (fun _ => .int g) ⟨hx8, fun z => absurd (show x < 5 from z) (by omega), fun _ => ⟨g, rfl, by omega⟩⟩
      · have hx5 : ¬ 5 ≤ x := fun z => c (decide_eq_true z)
        exact fin _ none .non B2 hl8 (fun _ => .non) (ok_no (by omega))
    · rintro σ H' ⟨G', xs, ss, v7, v8, rfl, B, lG', hxs, hW', hss, hsl, hok⟩
      refine ⟨_, rfl, ?_⟩
      have B1 := B.freeze l0 hxs ld
      have e : ss.length = 1 + i := by omega
      refine k _ _ _ B1 ⟨ss, ⟨by omega, by omega, by rw [e]; exact hok⟩, .lst (SqL.of upd_same) (Dp.monoAll ?_ _ _ hss), by omega⟩
      intro b o eb
      by_cases hb : b = l
      · rw [hb, lG'] at eb; cases eb
      · rw [upd_ne hb]; exact eb
end
end Sb

namespace Sb
open PySem PySem.Spec PyProof.Rows L2
theorem other_ne {n f s : Nat} (hf : f < n) (hs : s + 1 < n) : (f + 1 + s) % n ≠ f := by
  by_cases h : f + 1 + s < n
  · rw [Nat.mod_eq_of_lt h]; omega
  · rw [Nat.mod_eq_sub_mod (by omega), Nat.mod_eq_of_lt (by omega)]; omega
theorem other_eq (f s n : Nat) : ((f : Int) + 1 + (s : Int)) % (3 + (n : Int)) = (((f + 1 + s) % (3 + n) : Nat) : Int) := by
  rw [Int.natCast_emod]
  push_cast
  rfl
theorem nats_D (K : PySem.W.Frag) (G : Hp) (l : List Nat) : DpAll K G (l.map fun n : Nat => V.int n) (l.map natD) := by
  induction l with
  | nil => exact .nil
  | cons n l ih => exact .cons (.int _) ih
theorem draw_steps {K : PySem.W.Frag} {d : Addr} {G0 H0 G H : Hp} {most : Nat} {Q : VK} {E : XK} (h : At d G0 H0 G H) (m1 : 1 ≤ most) (m2 : most ≤ 20)
    (k : ∀ (G1 H1 : Hp) (v : V) (ss : List Step), At d G0 H0 G1 H1 → At d G H G1 H1 → StepsOk ss → Dp K G1 v (stepsD ss) → ss.length ≤ most → Q v H1) : spSteps K [.ref d, .int most] H Q E :=
  ⟨⟨d, G, most, rfl, m1, m2, h.now, fun G' H' v A ⟨ss, o, D, l⟩ => k G' H' v ss (h.trans A) A o D l⟩⟩
end Sb

namespace Sb
open PySem PySem.Spec PyProof.Rows L2 TL
theorem Ext.ofSame {G H H' : Hp} (s : Same G H) (h : Same H H') : Ext G H G H' := ⟨Same.refl G, s.trans h, fun _ _ e => .inl e, fun _ e => Same.free h e⟩
theorem log_ok {n : Nat} (h : n < 100) : ((n : Int)).natAbs.log2 < 1920 := by
  have e : ((n : Int)).natAbs = n := rfl
  have := Nat.log2_le_self n
  rw [e]
  omega
theorem at_n {α : Type} {xs : List α} {z : Int} {j : Nat} {v : α} (e : z = (j : Int)) (h : xs[j]? = some v) : atI xs z = some v := by
  rw [e]
  exact atI_nat h
theorem len1s (c : Nat) : (⟨#[c]⟩ : Str).length = 1 := rfl
theorem e_s : (Str.ofString "s").length = 1 := by decide +kernel
theorem e_cs : (Str.ofString ": ").length = 2 := by decide +kernel
theorem e_ss : (Str.ofString " s").length = 2 := by decide +kernel
theorem e_2 : (Str.ofString "  ").length = 2 := by decide +kernel
theorem addS {x y : Str} (m : Nat) (h : x.length + y.length ≤ m) (hm : m ≤ 16777216 := by decide) : x.length + y.length ≤ sizeLine := small m h hm
structure spLText (K : PySem.W.Frag) (vs : List V) (H : Hp) (Q : VK) (E : XK) : Prop where
  ex : ∃ (G : Hp) (v : V) (x : Pl), vs = [v] ∧ Same G H ∧ Dp K G v x.D ∧ x.Ok ∧ ∀ H', Same H H' → Q (.str (textS x)) H'
/-- the two robots, by number -/
def Pl.st (x : Pl) (i : Nat) : Nat := if i = 0 then x.a else x.b
def Pl.ss (x : Pl) (i : Nat) : List Step := if i = 0 then x.p else x.q
def Pl.robs (x : Pl) : Nat → List (List Nat)
  | 0 => []
  | i + 1 => Pl.robs x i ++ robotL (x.st i) (x.ss i)
theorem Pl.robs2 (x : Pl) : shelfL x.shelf :: x.robs 2 = linesL x := rfl
theorem sum_len : ∀ (l : List Str) (m : Nat), (∀ p ∈ l, p.length ≤ m) → (l.map (·.length)).sum ≤ l.length * m
  | [], _, _ => by simp
  | x :: r, m, h => by
    have h1 := h x (by simp)
    have ih := sum_len r m (fun p hp => h p (by simp [hp]))
    rw [List.map_cons, List.sum_cons, List.length_cons, Nat.add_mul, Nat.one_mul]
    omega
theorem len_of_map {l : List Str} {m : List (List Nat)} (h : l.map tl = m) : l.length = m.length := by rw [← h, List.length_map]
theorem mem_len {l : List Str} {m : List (List Nat)} {k : Nat} (h : l.map tl = m) (hm : ∀ p ∈ m, p.length ≤ k) : ∀ p ∈ l, p.length ≤ k := fun p hp => by
  rw [len_tl]
  exact hm (tl p) (by rw [← h]; exact List.mem_map.mpr ⟨p, hp, rfl⟩)
theorem robs_len {x : Pl} (h : x.Ok) : ∀ {i : Nat}, i ≤ 2 → (x.robs i).length ≤ 22 * i
  | 0, _ => by simp [Pl.robs]
  | i + 1, hi => by
    have ih := robs_len h (i := i) (by omega)
    show (x.robs i ++ robotL (x.st i) (x.ss i)).length ≤ _
    rw [List.length_append, robotL_len]
    have : (x.ss i).length ≤ 20 := by unfold Pl.ss; split; exact h.p.le; exact h.q.le
    omega
theorem join_txt {y : Str} {parts : List Str} {S : List Nat} {ps : List (List Nat)} (hy : tl y = S) (hp : parts.map tl = ps) : tl (Txt.join y parts) = joinL S ps := by
  rw [join_eq, tl_join, hy, hp]
/-- a plan's data, taken apart -/
theorem plan_inv {K : PySem.W.Frag} {G : Hp} {v : V} {x : Pl} (h : Dp K G v x.D) : ∃ t sh st bo l1 l2 xs1 xs2, v = .ref t ∧ SqT K G t [.ref sh, .ref st, .ref bo] ∧ SqT K G sh (x.shelf.map fun n : Nat => V.int n) ∧ SqT K G st [.int x.a, .int x.b] ∧
    SqL K G bo [.ref l1, .ref l2] ∧ SqL K G l1 xs1 ∧ SqL K G l2 xs2 ∧ DpAll K G xs1 (x.p.map Step.D) ∧ DpAll K G xs2 (x.q.map Step.D) := by
  obtain ⟨t, xs, rfl, ht, hx⟩ := Dp.tup_inv h
  obtain ⟨v1, r, rfl, h1, hx⟩ := DpAll.cons_inv hx
  obtain ⟨v2, r, rfl, h2, hx⟩ := DpAll.cons_inv hx
  obtain ⟨v3, r, rfl, h3, hx⟩ := DpAll.cons_inv hx
  cases DpAll.nil_inv hx
  obtain ⟨sh, ys, rfl, hsh, hy⟩ := Dp.tup_inv h1
  obtain ⟨st, zs, rfl, hst, hz⟩ := Dp.tup_inv h2
  obtain ⟨z1, r, rfl, e1, hz⟩ := DpAll.cons_inv hz
  obtain ⟨z2, r, rfl, e2, hz⟩ := DpAll.cons_inv hz
  cases DpAll.nil_inv hz
  obtain ⟨bo, ws, rfl, hbo, hw⟩ := Dp.lst_inv h3
  obtain ⟨b1, r, rfl, f1, hw⟩ := DpAll.cons_inv hw
  obtain ⟨b2, r, rfl, f2, hw⟩ := DpAll.cons_inv hw
  cases DpAll.nil_inv hw
  obtain ⟨l1, xs1, rfl, hl1, hx1⟩ := Dp.lst_inv f1
  obtain ⟨l2, xs2, rfl, hl2, hx2⟩ := Dp.lst_inv f2
  have e1' := Dp.int_inv e1
  have e2' := Dp.int_inv e2
  subst e1' e2'
  have ey : ys = x.shelf.map fun n : Nat => V.int n := by
    have : ∀ (l : List Nat) (ys : List V), DpAll K G ys (l.map natD) → ys = l.map fun n : Nat => V.int n := by
      intro l
      induction l with
      | nil => intro ys h; exact DpAll.nil_inv h
      | cons n l ih =>
        intro ys h
        obtain ⟨v, r, rfl, a, b⟩ := DpAll.cons_inv h
        rw [Dp.int_inv a, ih r b]
        rfl
    exact this _ _ hy
  subst ey
  exact ⟨t, sh, st, bo, l1, l2, xs1, xs2, rfl, ht, hsh, hst, hbo, hl1, hl2, hx1, hx2⟩
/-- a step's data -/
theorem step_inv {K : PySem.W.Frag} {G : Hp} {v : V} {s : Step} (h : Dp K G v s.D) : ∃ t g, v = .ref t ∧ SqT K G t [.str (wS s.w), g] ∧ ((s.g = none ∧ g = .non) ∨ ∃ k : Nat, s.g = some k ∧ g = .int k) := by
  obtain ⟨t, xs, rfl, ht, hx⟩ := Dp.tup_inv h
  obtain ⟨v1, r, rfl, h1, hx⟩ := DpAll.cons_inv hx
  obtain ⟨v2, r, rfl, h2, hx⟩ := DpAll.cons_inv hx
  cases DpAll.nil_inv hx
  have e1 := Dp.str_inv h1
  subst e1
  refine ⟨t, v2, rfl, ht, ?_⟩
  cases hg : s.g with
  | none =>
    rw [hg] at h2
    exact .inl ⟨rfl, Dp.none_inv h2⟩
  | some k =>
    rw [hg] at h2
    exact .inr ⟨k, rfl, Dp.int_inv h2⟩
theorem goals_take {ss : List Step} {i : Nat} {s : Step} (h : ss[i]? = some s) : goalsOf (ss.take (i + 1)) = goalsOf (ss.take i) ++ (match s.g with | none => [] | some k => [k]) := by
  unfold goalsOf
  rw [take_more h, List.filterMap_append]
  congr 1
  cases hg : s.g <;> simp [hg]
section
variable {P : Program} {w : World} {K : PySem.W.Frag} {mg : Str → Option Value} {base : Heap} {a : Ad}
theorem ok_l_text (T : Txt K mg a) : FnOk P w K mg base CX0 1 a.f_l_text a.d_l_text ["_law_plan_here"] (spLText K) := by
  refine T.F_l_text.ok sc_l_text (fun vs H Q E h => ?_) (fun cdv A outer s H vs Q E hr h => ?_)
  · obtain ⟨⟨G, v, x, rfl, _⟩⟩ := h
    rfl
  · obtain ⟨⟨G, v, x, rfl, hGH, hD, hx, k⟩⟩ := h
    obtain ⟨t, sh, st, bo, l1, l2, xs1, xs2, rfl, ht, hsh, hst, hbo, hl1, hl2, hx1, hx2⟩ := plan_inv hD
    refine ⟨_, (pss_cons (ps_asg (pv 0) (pg_tup (by rfl) (pgs_cons (pg_name (i := 1) sc_l_text.nd rfl (Or.inl rfl)) (pgs_cons (pg_name (i := 2) sc_l_text.nd rfl (Or.inl rfl)) (pgs_cons (pg_name (i := 3) sc_l_text.nd rfl (Or.inl rfl)) pgs_nil)))))
      (pss_cons (ps_set (i := 4) sc_l_text.nd rfl (Or.inl rfl) (pe_lst (pa_cons (pe_op op_add_str (pe_op op_add_str pe_str (pe_join pe_str (pe_lc (own := [("_law_pieces", 5)]) (g := gName 5) (tt := tYes) rfl sc_l_text.nd (pi_tup (pv 1)) (blkOk_by (own := [("_law_pieces", 5)]) (N := ["_law_plan_here", "_law_shelf", "_law_starts", "_law_both", "_law_lines", "_law_pieces", "_law_number", "_law_goals", "_law_word", "_law_goal", "_law_k", "_law_mark", "_law_target"]) (sc := (defScope s_l_text)) (by decide +kernel)) (fun _ _ _ _ _ => (pg_name (i := 5) sc_l_text.nd rfl (Or.inl rfl))) (fun _ _ _ _ _ => pts_nil) (fun _ _ _ _ _ => by exact (pe_callTy call_str_int (by rfl) T.z_str (by decide +kernel) (pa_cons (pv 5) pa_nil)))))) pe_str) pa_nil)))
      (pss_cons (ps_for PassesOwn.never rfl (pi_range1 (by rfl) T.z_range (pa_cons pe_int pa_nil)) (pg_name (i := 6) sc_l_text.nd rfl (Or.inl rfl)) (pss_cons (ps_expr (pe_bm PySem.F.plainAttrs_list PySem.F.slot_list_append PySem.F.type_list_append mt_append (pv 4) (pa_cons (pe_op op_add_str (pe_op op_add_str pe_str (pe_callTy call_str_int (by rfl) T.z_str (by decide +kernel) (pa_cons (pe_ix ix_tup (pv 2) (pv 6) (fun _ _ => rfl)) pa_nil))) pe_str) pa_nil)))
      (pss_cons (ps_setLc (i := 7) (own := [("_law_word", 8), ("_law_goal", 9)]) (g := gTup K 2 (gCons (gName 8) (gCons (gName 9) gNil))) rfl sc_l_text.nd rfl rfl (sw_true rfl rfl rfl (by decide +kernel)) (pi_list (pe_ix ix_list (pv 3) (pv 6) (fun _ _ => rfl))) (blkOk_by (own := [("_law_word", 8), ("_law_goal", 9)]) (N := ["_law_plan_here", "_law_shelf", "_law_starts", "_law_both", "_law_lines", "_law_pieces", "_law_number", "_law_goals", "_law_word", "_law_goal", "_law_k", "_law_mark", "_law_target"]) (sc := (defScope s_l_text)) (by decide +kernel)) (fun _ _ _ _ _ => (pg_tup (by rfl) (pgs_cons (pg_name (i := 8) sc_l_text.nd rfl (Or.inl rfl)) (pgs_cons (pg_name (i := 9) sc_l_text.nd rfl (Or.inl rfl)) pgs_nil)))) (fun _ _ _ _ _ => by exact pts_one (pt_cmpR op_notN (pv 9) pe_non (nomark _))) (fun _ _ _ _ _ => by exact (pv 9)))
      (pss_cons (ps_for PassesOwn.never rfl (pi_range1 (by rfl) T.z_range (pa_cons (pe_callB call_len_seq (by rfl) T.z_len (by decide +kernel) (pa_cons (pe_ix ix_list (pv 3) (pv 6) (fun _ _ => rfl)) pa_nil)) pa_nil)) (pg_name (i := 10) sc_l_text.nd rfl (Or.inl rfl)) (pss_cons (ps_asg (pe_ix ix_list (pe_ix ix_list (pv 3) (pv 6) (fun _ _ => rfl)) (pv 10) (fun _ _ => rfl)) (pg_tup (by rfl) (pgs_cons (pg_name (i := 8) sc_l_text.nd rfl (Or.inl rfl)) (pgs_cons (pg_name (i := 9) sc_l_text.nd rfl (Or.inl rfl)) pgs_nil))))
      (pss_cons (ps_set (i := 11) sc_l_text.nd rfl (Or.inl rfl) (pe_ifExp (pt_cmpR op_in_seq (pv 10) (pv 7) rfl) (pe_op op_add_str (pe_op op_add_str pe_str (pe_ix ix_str pe_str (pv 10) (fun _ _ => rfl))) pe_str) pe_str))
      (pss_cons (ps_set (i := 12) sc_l_text.nd rfl (Or.inl rfl) (pe_ifExp (pt_cmpR op_notN (pv 9) pe_non (nomark _)) (pe_op op_add_str pe_str (pe_ix ix_str pe_str (pv 9) (fun _ _ => rfl))) pe_str))
      (pss_one (ps_expr (pe_bm PySem.F.plainAttrs_list PySem.F.slot_list_append PySem.F.type_list_append mt_append (pv 4) (pa_cons (pe_op op_add_str (pe_op op_add_str (pe_op op_add_str (pe_op op_add_str pe_str (pv 11)) (pv 8)) (pv 12)) pe_str) pa_nil))))))))
      (pss_one (ps_expr (pe_bm PySem.F.plainAttrs_list PySem.F.slot_list_append PySem.F.type_list_append mt_append (pv 4) (pa_cons pe_str pa_nil))))))))
      (pss_one (ps_ret (pe_join pe_str (pv 4))))))), ?_⟩
    refine ⟨_, rfl, t, _, rfl, Same.seqT hGH ht, rfl, _, _, rfl, _, _, rfl, _, _, rfl, rfl, ?_⟩
    -- the shelf's line
    refine ⟨⟨_, rfl⟩, _, rfl, sh, rfl, ⟨_, Same.seqT hGH hsh⟩, fun D hD => ?_⟩
    refine lc_tup (K := K) (a := sh) (xs := x.shelf.map fun n : Nat => V.int n) (fun j H' => ∃ ls : List Str, Same H H' ∧ H' D = some (.lst (ls.map V.str)) ∧ ls.map tl = (x.shelf.take j).map numL) ⟨[], same_new hD, upd_same, rfl⟩ (fun j H' _ ⟨ls, s1, _⟩ => Same.seqT (hGH.trans s1) hsh) ?_ ?_
    · rintro j y H' hy ⟨ls, s1, h1, h2⟩
      obtain ⟨n, hn, rfl⟩ : ∃ n : Nat, x.shelf[j]? = some n ∧ y = V.int n := by
        rw [List.getElem?_map] at hy
        cases e : x.shelf[j]? with
        | none => rw [e] at hy; cases hy
        | some z => rw [e] at hy; exact ⟨z, rfl, (Option.some.inj hy).symm⟩
      have hj : j < x.shelf.length := (List.getElem?_eq_some_iff.mp hn).1
      have hn3 : n ≤ 3 := hx.b3 n (List.mem_of_getElem? hn)
      have h12 := hx.c12
      refine ⟨rfl, _, rfl, _, rfl, log_ok (by omega), _, h1, smaller 12 (by rw [List.length_map, len_of_map h2, List.length_map, List.length_take]; omega) (by decide), ls ++ [Str.ofString (toString ((n : Nat) : Int))], same_put s1 hD, ?_, ?_⟩
      · rw [upd_same, List.map_append]; rfl
      · rw [List.map_append, h2, take_more hn, List.map_append]
        show _ ++ [tl (Str.ofString (toString ((n : Nat) : Int)))] = _
        rw [tl_num]
        rfl
    rintro H1 ⟨ls0, s1, h1, h2⟩
    rw [List.length_map, List.take_length] at h2
    have ml : ∀ p ∈ ls0, p.length ≤ 2 := mem_len h2 (fun p hp => by
      obtain ⟨n, hn, rfl⟩ := List.mem_map.mp hp
      exact num_len (by have := hx.b3 n hn; omega))
    have ll : ls0.length ≤ 12 := by rw [len_of_map h2, List.length_map]; exact hx.c12
    have jl : (Txt.join (Str.ofString " ") ls0).length ≤ 36 := by
      rw [len_tl, join_txt t_sp h2]
      refine Nat.le_trans (joinL_len [32] 2 _ (fun p hp => ?_)) ?_
      · obtain ⟨n, hn, rfl⟩ := List.mem_map.mp hp
        exact num_len (by have := hx.b3 n hn; omega)
      · rw [List.length_map]
        have := hx.c12
        show _ * 3 ≤ 36
        omega
    have e6 : (Str.ofString "shelf ").length = 6 := by decide +kernel
    have e1s : (Str.ofString " ").length = 1 := by decide +kernel
    have e1 : (Str.ofString ";").length = 1 := by decide +kernel
    refine ⟨_, D, ls0, rfl, rfl, .inl (SqL.of h1), ?_, _, _, rfl, rfl, addS 42 (by rw [e6]; omega), _, _, rfl, rfl, addS 43 (by rw [len_app, e6, e1]; omega), (by show 1 ≤ sizeLine; decide), fun l hl => ?_⟩
    · have := sum_len ls0 2 ml
      rw [e1s]
      omega
    have l0 : H l = none := Same.free s1 hl
    have sl : tl (Str.ofString "shelf " ++ Txt.join (Str.ofString " ") ls0 ++ Str.ofString ";") = shelfL x.shelf := by
      rw [tl_append, tl_append, t_sh, t_sc, join_txt t_sp h2]
      rfl
    revert sl
    generalize (Str.ofString "shelf " ++ Txt.join (Str.ofString " ") ls0 ++ Str.ofString ";") = first
    intro sl
    -- the robots
    refine ⟨2, rfl, by decide, by decide, for_range (lo := 0) (n := 2) (fun i σ H' => ∃ (ls : List Str) (v5 v6 v7 v8 v9 v10 v11 v12 : Option V), σ = [some (.ref t), some (.ref sh), some (.ref st), some (.ref bo), some (.ref l), v5, v6, v7, v8, v9, v10, v11, v12] ∧
      Same H H' ∧ H' l = some (.lst (ls.map V.str)) ∧ ls.map tl = shelfL x.shelf :: x.robs i) ?_ ?_ ?_⟩
    · exact ⟨[first], none, none, none, none, none, none, none, none, rfl, s1.trans (same_new hl), upd_same, by show [tl first] = _; rw [sl]; rfl⟩
    · rintro i σ H2 hi ⟨ls, v5, v6, v7, v8, v9, v10, v11, v12, rfl, s2, hl2', hls⟩
      have hn : x.st i < 12 := by unfold Pl.st; have := hx.ha; have := hx.hb; have := hx.c12; split <;> omega
      have sti : ([V.int x.a, V.int x.b] : List V)[i]? = some (.int (x.st i)) := by
        match i, hi with
        | 0, _ => rfl
        | 1, _ => rfl
        | i + 2, h => exact absurd h (by omega)
      obtain ⟨li, xsi, hli, hsi, hdi⟩ : ∃ li xsi, ([V.ref l1, V.ref l2] : List V)[i]? = some (.ref li) ∧ SqL K G li xsi ∧ DpAll K G xsi ((x.ss i).map Step.D) := by
        match i, hi with
        | 0, _ => exact ⟨l1, xs1, rfl, hl1, hx1⟩
        | 1, _ => exact ⟨l2, xs2, rfl, hl2, hx2⟩
        | i + 2, h => exact absurd h (by omega)
      have hso : StepsOk (x.ss i) := by unfold Pl.ss; split; exact hx.p; exact hx.q
      have hsl := hso.le
      have hlen : ls.length ≤ 23 := by rw [len_of_map hls, List.length_cons]; have := robs_len hx (i := i) (by omega); omega
      have nl := numS_len (n := x.st i) (by omega)
      have e6r : (Str.ofString "robot ").length = 6 := by decide +kernel
      have e2r : (Str.ofString " {").length = 2 := by decide +kernel
      refine ⟨_, rfl, .inl ⟨rfl, _, SqL.of hl2'⟩, _, rfl, _, rfl, st, _, _, .int (x.st i), rfl, rfl, Same.seqT (hGH.trans s2) hst, at_of (j := i) (by omega) sti, _, rfl, log_ok (by omega), _, _, rfl, rfl, addS 8 (by rw [e6r]; omega), _, _, rfl, rfl, addS 10 (by rw [len_app, e6r, e2r]; omega), l, _, _, rfl, rfl, hl2', smaller 23 (by rw [List.length_map]; exact hlen) (by decide), ?_⟩
      have s3 : Same H (upd H2 l (.lst (ls.map V.str ++ [.str (Str.ofString "robot " ++ Str.ofString (toString ((x.st i : Nat) : Int)) ++ Str.ofString " {")]))) := same_put s2 l0
      have e3 : tl (Str.ofString "robot " ++ Str.ofString (toString ((x.st i : Nat) : Int)) ++ Str.ofString " {") = [114, 111, 98, 111, 116, 32] ++ numL (x.st i) ++ [32, 123] := by
        rw [tl_append, tl_append, t_rb, t_lb, tl_num]
      revert s3 e3
      generalize (Str.ofString "robot " ++ Str.ofString (toString ((x.st i : Nat) : Int)) ++ Str.ofString " {") = hd2
      intro s3 e3
      have h3 : (upd H2 l (.lst (ls.map V.str ++ [.str hd2]))) l = some (.lst ((ls ++ [hd2]).map V.str)) := by rw [upd_same, List.map_append]; rfl
      have hls3 : (ls ++ [hd2]).map tl = shelfL x.shelf :: x.robs i ++ [[114, 111, 98, 111, 116, 32] ++ numL (x.st i) ++ [32, 123]] := by
        rw [List.map_append, hls]
        show _ ++ [tl hd2] = _
        rw [e3]
      revert s3 h3
      generalize upd H2 l (.lst (ls.map V.str ++ [.str hd2])) = H3
      intro s3 h3
      -- the goals
      refine ⟨_, rfl, _, rfl, bo, _, _, .ref li, rfl, rfl, (hGH.trans s3).seq hbo, at_of (j := i) (by omega) hli, li, rfl, ⟨_, (hGH.trans s3).seq hsi⟩, fun D2 hD2 => ?_⟩
      have D20 : H D2 = none := Same.free s3 hD2
      have D2l : l ≠ D2 := ne_of_none h3 hD2
      refine lc_list (K := K) (a := li) (xs := xsi) (fun j H' => Same H H' ∧ H' l = some (.lst ((ls ++ [hd2]).map V.str)) ∧ H' D2 = some (.lst ((goalsOf ((x.ss i).take j)).map fun n : Nat => V.int n))) ⟨s3.trans (same_new hD2), by rw [upd_ne D2l]; exact h3, upd_same⟩ (fun j H' _ ⟨s4, _⟩ => (hGH.trans s4).seq hsi) ?_ ?_
      · rintro j y H' hy ⟨s4, h4, h5⟩
        obtain ⟨dd, hdd, hDd⟩ := DpAll.get hdi hy
        rw [List.getElem?_map] at hdd
        obtain ⟨sj, hsj, rfl⟩ : ∃ sj, (x.ss i)[j]? = some sj ∧ dd = sj.D := by
          cases e : (x.ss i)[j]? with
          | none => rw [e] at hdd; cases hdd
          | some z => rw [e] at hdd; exact ⟨z, rfl, (Option.some.inj hdd).symm⟩
        have hj : j < (x.ss i).length := (List.getElem?_eq_some_iff.mp hsj).1
        have gt := goals_take hsj
        have gl : (goalsOf ((x.ss i).take j)).length ≤ 20 := by
          have h1 : (goalsOf ((x.ss i).take j)).length ≤ ((x.ss i).take j).length := List.length_filterMap_le _ _
          rw [List.length_take] at h1
          omega
        obtain ⟨tt, g, rfl, htt, hg⟩ := step_inv hDd
        refine ⟨tt, _, rfl, Same.seqT (hGH.trans s4) htt, rfl, _, _, rfl, _, _, rfl, rfl, rfl, _, rfl, rfl, _, rfl, ?_⟩
        rcases hg with ⟨hg, rfl⟩ | ⟨kk, hg, rfl⟩
        · refine ite_f rfl ⟨s4, h4, ?_⟩
          rw [gt, hg, List.append_nil]
          exact h5
        · refine ite_t rfl ⟨_, rfl, _, h5, smaller 20 (by rw [List.length_map]; exact gl) (by decide), same_put s4 D20, by rw [upd_ne D2l]; exact h4, ?_⟩
          rw [upd_same, gt, hg, List.map_append]
          rfl
      rintro H4 ⟨s4, h4, h5⟩
      have exs : xsi.length = (x.ss i).length := by rw [DpAll.len hdi, List.length_map]
      rw [exs, List.take_length] at h5
      -- the steps
      refine ⟨_, rfl, _, rfl, bo, _, _, .ref li, rfl, rfl, (hGH.trans s4).seq hbo, at_of (j := i) (by omega) hli, li, _, rfl, .inl ((hGH.trans s4).seq hsi), _, rfl, by omega, by omega, for_range (lo := 0) (n := ((xsi.length : Nat) : Int).toNat) (fun j σ H' => ∃ (ls' : List Str) (v8 v9 v10 v11 v12 : Option V), σ = [some (.ref t), some (.ref sh), some (.ref st), some (.ref bo), some (.ref l), v5, some (.int (0 + (i : Int))), some (.ref D2), v8, v9, v10, v11, v12] ∧
        Same H H' ∧ H' D2 = some (.lst ((goalsOf (x.ss i)).map fun n : Nat => V.int n)) ∧ H' l = some (.lst (ls'.map V.str)) ∧ ls'.map tl = (shelfL x.shelf :: x.robs i ++ [[114, 111, 98, 111, 116, 32] ++ numL (x.st i) ++ [32, 123]]) ++ stepsL (goalsOf (x.ss i)) 0 ((x.ss i).take j)) ?_ ?_ ?_⟩
      · exact ⟨ls ++ [hd2], _, _, _, _, _, rfl, s4, h5, h4, by rw [hls3]; simp [stepsL]⟩
      · rintro j σ H5 hj ⟨ls', v8, v9, v10, v11, v12, rfl, s5, h6, h7, h8⟩
        have hj' : j < (x.ss i).length := by omega
        obtain ⟨sj, hsj⟩ : ∃ sj, (x.ss i)[j]? = some sj := ⟨_, List.getElem?_eq_getElem hj'⟩
        have hokj : Step.Ok (x.ss i).length sj := hso.all sj (List.mem_of_getElem? hsj)
        obtain ⟨y, hy, hDy⟩ := DpAll.at hdi (i := j) (d := sj.D) (by rw [List.getElem?_map, hsj]; rfl)
        obtain ⟨tt, g, rfl, htt, hg⟩ := step_inv hDy
        have hl8 : ls'.length ≤ 45 := by
          rw [len_of_map h8]
          simp only [List.length_append, List.length_cons, List.length_nil, stepsL_len, List.length_take]
          have := robs_len hx (i := i) (by omega)
          omega
        refine ⟨_, rfl, _, rfl, bo, _, _, .ref li, rfl, rfl, (hGH.trans s5).seq hbo, at_of (j := i) (by omega) hli, _, rfl, li, _, _, .ref tt, rfl, rfl, (hGH.trans s5).seq hsi, at_of (j := j) (by omega) hy, tt, _, rfl, Same.seqT (hGH.trans s5) htt, rfl, _, _, rfl, _, _, rfl, rfl, ?_⟩
        dsimp only
        -- the mark
        refine seq_restσ (fun σ H' => ∃ m : Str, σ = [some (.ref t), some (.ref sh), some (.ref st), some (.ref bo), some (.ref l), v5, some (.int (0 + (i : Int))), some (.ref D2), some (.str (wS sj.w)), some g, some (.int (0 + (j : Int))), some (.str m), v12] ∧ H5 = H' ∧ m.length ≤ 4 ∧ tl m = if j ∈ goalsOf (x.ss i) then [115, 97 + j, 58, 32] else []) (fun σ H' hm => ?r1) (fun rest1 => ?m1)
        case m1 =>
          have ej : (0 + (j : Int)) = ((j : Nat) : Int) := by omega
          refine ⟨_, rfl, _, rfl, D2, _, rfl, .inl (SqL.of h6), rfl, nats_flat _, _, rfl, ?_⟩
          rw [if_neg Bool.false_ne_true, show inV (V.int (0 + (j : Int))) ((goalsOf (x.ss i)).map fun n : Nat => V.int n) = decide (j ∈ goalsOf (x.ss i)) from by rw [ej]; exact in_nats _ _]
          refine ite2 (fun c => ?_) (fun c => ?_)
          · have c' := of_decide_eq_true c
            refine ⟨_, rfl, abc, 0 + (j : Int), 97 + j, rfl, rfl, small 20 (by rw [abc_len]; exact Nat.le_refl _) (by decide), at_n (j := j) ej (abc_at (by omega)), _, _, rfl, rfl, addS 2 (by rw [e_s, len1s]; decide), _, _, rfl, rfl, addS 4 (by rw [len_app, e_s, len1s, e_cs]; decide), rest1 _ _ ⟨_, rfl, rfl, ?_, ?_⟩⟩
            · rw [len_app, len_app, e_s, len1s, e_cs]; decide
            · rw [if_pos c', tl_append, tl_append, t_s, t_cs]; rfl
          · refine rest1 _ _ ⟨_, rfl, rfl, by decide +kernel, ?_⟩
            rw [if_neg (fun q => c (decide_eq_true q)), t_e]
        obtain ⟨m, rfl, rfl, hm4, hm⟩ := hm
        -- the target
        refine seq_restσ (fun σ H' => ∃ m2 : Str, σ = [some (.ref t), some (.ref sh), some (.ref st), some (.ref bo), some (.ref l), v5, some (.int (0 + (i : Int))), some (.ref D2), some (.str (wS sj.w)), some g, some (.int (0 + (j : Int))), some (.str m), some (.str m2)] ∧ H5 = H' ∧ m2.length ≤ 3 ∧ tl m2 = (match sj.g with | none => [] | some g => [32, 115, 97 + g])) (fun σ H' hm2 => ?r2) (fun rest2 => ?m2)
        case m2 =>
          refine ⟨_, rfl, rfl, _, rfl, ?_⟩
          rcases hg with ⟨hg, rfl⟩ | ⟨kk, hg, rfl⟩
          · refine ite_f rfl (rest2 _ _ ⟨_, rfl, rfl, by decide +kernel, ?_⟩)
            rw [hg, t_e]
          · have hk : kk < (x.ss i).length := by
              have h5 : 5 ≤ sj.w := by
                by_cases h : sj.w < 5
                · rw [hokj.no h] at hg; cases hg
                · omega
              obtain ⟨k2, e2, h2⟩ := hokj.yes h5
              rw [hg] at e2
              cases e2
              exact h2
            refine ite_t rfl ⟨_, rfl, abc, (kk : Int), 97 + kk, rfl, rfl, small 20 (by rw [abc_len]; exact Nat.le_refl _) (by decide), atI_nat (abc_at (by omega)), _, _, rfl, rfl, addS 3 (by rw [e_ss, len1s]; decide), rest2 _ _ ⟨_, rfl, rfl, ?_, ?_⟩⟩
            · rw [len_app, e_ss, len1s]; decide
            · rw [hg, tl_append, t_ss]; rfl
        obtain ⟨m2, rfl, rfl, hm23, hm2⟩ := hm2
        -- the line
        have hw5 := wS_len hokj.w8
        refine ⟨_, rfl, .inl ⟨rfl, _, SqL.of h7⟩, _, rfl, _, _, rfl, rfl, addS 6 (by rw [e_2]; omega), _, rfl, _, _, rfl, rfl, addS 11 (by rw [len_app, e_2]; omega), _, rfl, _, _, rfl, rfl, addS 14 (by rw [len_app, len_app, e_2]; omega), _, _, rfl, rfl, addS 15 (by rw [len_app, len_app, len_app, e_2, e1]; omega), l, _, _, rfl, rfl, h7, smaller 45 (by rw [List.length_map]; exact hl8) (by decide), ?_⟩
        refine ⟨ls' ++ [Str.ofString "  " ++ m ++ wS sj.w ++ m2 ++ Str.ofString ";"], _, _, _, _, _, rfl, same_put s5 l0, ?_, ?_, ?_⟩
        · rw [upd_ne D2l.symm]; exact h6
        · rw [upd_same, List.map_append]; rfl
        · rw [take_more hsj, stepsL_snoc, List.map_append, h8, ← List.append_assoc]
          congr 1
          show [tl (Str.ofString "  " ++ m ++ wS sj.w ++ m2 ++ Str.ofString ";")] = [stepL _ _ _]
          congr 1
          have e0 : 0 + ((x.ss i).take j).length = j := by rw [List.length_take]; omega
          rw [e0, tl_append, tl_append, tl_append, tl_append, sp2, hm, hm2, t_sc]
          rfl
      · rintro σ H5 ⟨ls', v8, v9, v10, v11, v12, rfl, s5, h6, h7, h8⟩
        have ej : ((xsi.length : Nat) : Int).toNat = (x.ss i).length := by omega
        rw [ej, List.take_length] at h8
        have hl8 : ls'.length ≤ 45 := by
          rw [len_of_map h8]
          simp only [List.length_append, List.length_cons, List.length_nil, stepsL_len]
          have := robs_len hx (i := i) (by omega)
          omega
        refine ⟨_, rfl, .inl ⟨rfl, _, SqL.of h7⟩, l, _, _, rfl, rfl, h7, smaller 45 (by rw [List.length_map]; exact hl8) (by decide), ?_⟩
        refine ⟨ls' ++ [Str.ofString "}"], _, _, _, _, _, _, _, _, rfl, same_put s5 l0, ?_, ?_⟩
        · rw [upd_same, List.map_append]; rfl
        · rw [List.map_append, h8]
          show _ ++ [tl (Str.ofString "}")] = shelfL x.shelf :: (x.robs i ++ robotL (x.st i) (x.ss i))
          rw [t_cb]
          unfold robotL
          simp only [List.cons_append, List.append_assoc, List.nil_append]
    · rintro σ H5 ⟨ls, v5, v6, v7, v8, v9, v10, v11, v12, rfl, s5, h6, h7⟩
      rw [Pl.robs2] at h7
      have hl8 : ls.length ≤ 45 := by rw [len_of_map h7]; exact linesL_len hx
      refine ⟨⟨_, rfl⟩, _, rfl, _, l, ls, rfl, rfl, .inl (SqL.of h6), ?_, ?_⟩
      · have := sum_len ls 60 (mem_len h7 (lines_len hx))
        have e : (Str.ofString "\n").length = 1 := by decide +kernel
        rw [e]
        omega
      · have e : Txt.join (Str.ofString "\n") ls = textS x := ext_tl (join_txt t_nl h7)
        dsimp only
        rw [e]
        exact k H5 s5
end
end Sb

namespace Sb
open PySem PySem.Spec PyProof.Rows L2 TL
section
variable {G H G0 H0 G1 H1 : Hp} {x dx : Addr} {o : HO}
theorem make_free (nx : H x = none) (ne : dx ≠ x) : upd H dx (.own x) x = none := by rw [upd_ne ne.symm]; exact nx
theorem Ext.make (e : Ext G0 H0 G H) (nx : H x = none) (nd : H dx = none) (ne : dx ≠ x) (o : HO) : Ext G0 H0 (upd (upd G dx (.own x)) x o) (upd (upd H dx (.own x)) x o) := (e.new nd).new (make_free nx ne)
theorem same_make (nx : H x = none) (nd : H dx = none) (ne : dx ≠ x) (o : HO) : Same H (upd (upd H dx (.own x)) x o) := (same_new nd).trans (same_new (make_free nx ne))
end
/-- a token in the data heap -/
def tokF (tk : Tk) (l c : Nat) : List (Str × V) := [("kind", .str (kS tk.k)), ("text", .str (mkS tk.t)), ("line", .int l), ("column", .int c)]
def TokAt (C : Addr) (G : Hp) (v : V) (tk : Tk) : Prop := ∃ (p dx : Addr) (l c : Nat), v = .ref p ∧ G p = some (.ins C dx (tokF tk l c))
theorem TokAt.mono {C : Addr} {G G' : Hp} {v : V} {tk : Tk} (s : Same G G') (h : TokAt C G v tk) : TokAt C G' v tk := by
  obtain ⟨p, dx, l, c, e, h⟩ := h
  exact ⟨p, dx, l, c, e, s _ _ h⟩
def ToksAt (C : Addr) (G : Hp) : List V → List Tk → Prop := Paired (TokAt C G)
theorem ToksAt.mono {C : Addr} {G G' : Hp} {vs : List V} {ts : List Tk} (s : Same G G') (h : ToksAt C G vs ts) : ToksAt C G' vs ts := Paired.mapP h fun _ _ => TokAt.mono s
theorem Paired.snoc {α β : Type} {F : α → β → Prop} : ∀ {l : List α} {m : List β} {x : α} {y : β}, Paired F l m → F x y → Paired F (l ++ [x]) (m ++ [y])
  | _, _, _, _, .nil, h => .cons h .nil
  | _, _, _, _, .cons r t, h => .cons r (Paired.snoc t h)
theorem Paired.app {α β : Type} {F : α → β → Prop} : ∀ {l l' : List α} {m m' : List β}, Paired F l m → Paired F l' m' → Paired F (l ++ l') (m ++ m')
  | _, _, _, _, .nil, h => h
  | _, _, _, _, .cons r t, h => .cons r (Paired.app t h)
theorem Paired.at_ {α β : Type} {F : α → β → Prop} : ∀ {l : List α} {m : List β} {i : Nat} {y : β}, Paired F l m → m[i]? = some y → ∃ x, l[i]? = some x ∧ F x y
  | _, _, _, _, .nil, e => by simp at e
  | _, _, 0, _, .cons r _, e => by simp at e; subst e; exact ⟨_, rfl, r⟩
  | _, _, i + 1, y, .cons _ t, e => by
    obtain ⟨u, h1, h2⟩ := Paired.at_ (i := i) (y := y) t (by simpa using e)
    exact ⟨u, by simpa using h1, h2⟩
theorem Paired.len {α β : Type} {F : α → β → Prop} : ∀ {l : List α} {m : List β}, Paired F l m → l.length = m.length
  | _, _, .nil => rfl
  | _, _, .cons _ t => congrArg (· + 1) (Paired.len t)
/-- the __init__ of a class that stores its arguments in fields -/
structure spInit (C : Addr) (fs : List Str) (vs : List V) (H : Hp) (Q : VK) (E : XK) : Prop where
  ex : ∃ (x dx : Addr) (us : List V), vs = .ref x :: us ∧ us.length = fs.length ∧ H x = some (.ins C dx []) ∧ Q .non (upd H x (.ins C dx (fs.zip us)))
theorem init_go {C x dx : Addr} {fs : List Str} {us : List V} {H : Hp} {Q : VK} {E : XK} (h : us.length = fs.length) (k : Q (.ref x) (upd (upd H dx (.own x)) x (.ins C dx (fs.zip us)))) :
    spInit C fs (.ref x :: us) (upd (upd H dx (.own x)) x (.ins C dx [])) (fun v H2 => v = .non ∧ Q (.ref x) H2) E :=
  ⟨⟨x, dx, us, rfl, h, upd_same, rfl, by rw [upd_upd]; exact k⟩⟩
theorem lf {f : Str} {v : V} {fs : List (Str × V)} {n : Nat} (h : fs.length ≤ n) : (putF f v fs).length ≤ n + 1 := Nat.le_trans (length_putF f v fs) (Nat.succ_le_succ h)
theorem lf1 {f : Str} {v : V} : (putF f v []).length < 1000 := Nat.lt_of_le_of_lt (lf (Nat.le_refl _)) (by decide)
theorem lf2 {f g : Str} {v u : V} : (putF f v (putF g u [])).length < 1000 := Nat.lt_of_le_of_lt (lf (lf (Nat.le_refl _))) (by decide)
theorem lf3 {f g h : Str} {v u y : V} : (putF f v (putF g u (putF h y []))).length < 1000 := Nat.lt_of_le_of_lt (lf (lf (lf (Nat.le_refl _)))) (by decide)
structure spRunEnd (vs : List V) (H : Hp) (Q : VK) (E : XK) : Prop where
  ex : ∃ (row : Str) (c : Nat) (ls : Str), vs = [.str row, .int c, .str ls] ∧ c ≤ (tl row).length ∧ (tl row).length ≤ 3000 ∧ Q (.int ((c + runL (tl ls) ((tl row).drop c) : Nat) : Int)) H
section
variable {P : Program} {w : World} {K : PySem.W.Frag} {mg : Str → Option Value} {base : Heap} {a : Ad}
theorem ok_Token_init (T : Txt K mg a) : FnOk P w K mg base CX0 1 a.f_Token_init a.d_Token_init ["self", "kind", "text", "line", "column"] (spInit a.C_Token ["kind", "text", "line", "column"]) := by
  refine T.F_Token_init.ok sc_Token_init (fun vs H Q E h => ?_) (fun cdv A outer s H vs Q E hr h => ?_)
  · obtain ⟨⟨x, dx, us, rfl, hl, _⟩⟩ := h
    exact congrArg (· + 1) hl
  · obtain ⟨⟨x, dx, us, rfl, hl, hx, k⟩⟩ := h
    match us, hl with
    | [u1, u2, u3, u4], _ =>
      refine ⟨_, (pss_cons (ps_fld (pv 0) (pv 1) rfl)
      (pss_cons (ps_fld (pv 0) (pv 2) rfl)
      (pss_cons (ps_fld (pv 0) (pv 3) rfl)
      (pss_one (ps_fld (pv 0) (pv 4) rfl))))), ?_⟩
      refine ⟨_, rfl, _, rfl, x, _, dx, _, rfl, hx, T.cl_Token, T.n_Token_kind, by decide, ?_⟩
      refine ⟨_, rfl, _, rfl, x, _, dx, _, rfl, upd_same, T.cl_Token, T.n_Token_text, lf1, ?_⟩
      refine ⟨_, rfl, _, rfl, x, _, dx, _, rfl, upd_same, T.cl_Token, T.n_Token_line, lf2, ?_⟩
      refine ⟨_, rfl, _, rfl, x, _, dx, _, rfl, upd_same, T.cl_Token, T.n_Token_column, lf3, ?_⟩
      rw [upd_upd, upd_upd, upd_upd]
      have e : putF "column" u4 (putF "line" u3 (putF "text" u2 (putF "kind" u1 []))) = (["kind", "text", "line", "column"] : List Str).zip [u1, u2, u3, u4] := by
        show putF "column" u4 (putF "line" u3 (putF "text" u2 [("kind", u1)])) = _
        rw [putF_new (fs := [("kind", u1)]) (show ("text" : Str) ∉ (["kind"] : List Str) by decide +kernel)]
        show putF "column" u4 (putF "line" u3 [("kind", u1), ("text", u2)]) = _
        rw [putF_new (fs := [("kind", u1), ("text", u2)]) (show ("line" : Str) ∉ (["kind", "text"] : List Str) by decide +kernel)]
        show putF "column" u4 [("kind", u1), ("text", u2), ("line", u3)] = _
        rw [putF_new (fs := [("kind", u1), ("text", u2), ("line", u3)]) (show ("column" : Str) ∉ (["kind", "text", "line"] : List Str) by decide +kernel)]
        rfl
      rw [e]
      exact k
theorem ok_run_end (T : Txt K mg a) : FnOk P w K mg base CX0 1 a.f_run_end a.d_run_end ["row", "start", "letters"] spRunEnd := by
  refine T.F_run_end.ok sc_run_end (fun vs H Q E h => ?_) (fun cdv A outer s H vs Q E hr h => ?_)
  · obtain ⟨⟨row, c, ls, rfl, _⟩⟩ := h
    rfl
  · obtain ⟨⟨row, c, ls, rfl, hc, hl, k⟩⟩ := h
    refine ⟨_, (pss_cons (ps_set (i := 3) sc_run_end.nd rfl (Or.inl rfl) (pv 1))
      (pss_cons (ps_while PassesOwn.never (PW.pt (pw_and (pt_cmpR op_lt (pv 3) (pe_callB call_len_str (by rfl) T.z_len (by decide +kernel) (pa_cons (pv 0) pa_nil)) (nomark _)) (pw_and1 (pt_cmpR op_in_sign (pe_ix ix_str (pv 0) (pv 3) (fun _ _ => rfl)) (pv 2) rfl)))) (pss_one (ps_aug (i := 3) sc_run_end.nd rfl (Or.inl rfl) pe_int ip_add)))
      (pss_one (ps_ret (pv 3))))), ?_⟩
    have hz : row.length ≤ sizeLine := small 3000 (by rw [len_tl]; exact hl) (by decide)
    refine ⟨_, rfl, ?_⟩
    refine while_by (fun σ H' => H' = H ∧ ∃ e : Nat, σ = [some (.str row), some (.int c), some (.str ls), some (.int e)] ∧ c ≤ e ∧ e ≤ (tl row).length ∧ e + runL (tl ls) ((tl row).drop e) = c + runL (tl ls) ((tl row).drop c))
      (fun σ _ => match σ with | [_, _, _, some (.int e)] => (tl row).length - e.toNat | _ => 0) ⟨rfl, c, rfl, Nat.le_refl _, hc, rfl⟩ ?_ ?_
    · rintro σ H' ⟨rfl, e, rfl, h1, h2, h3⟩
      refine ⟨_, rfl, _, rfl, _, rfl, hz, _, _, rfl, rfl, _, rfl, ?_⟩
      refine ite2 (fun q => ?_) (fun q => ?_)
      · have q1 : e < (tl row).length := by
          have := of_decide_eq_true q
          rw [len_tl] at this
          omega
        have q2 : (tl row)[e]? = some ((tl row)[e]) := List.getElem?_eq_getElem q1
        refine ⟨_, rfl, _, rfl, row, _, (tl row)[e], rfl, rfl, hz, atI_nat q2, _, rfl, _, _, rfl, rfl, _, rfl, ?_⟩
        have q3 : (tl row).drop e = (tl row)[e] :: (tl row).drop (e + 1) := List.drop_eq_getElem_cons q1
        refine ite2 (fun m => ?_) (fun m => ?_)
        · have m1 : (tl row)[e] ∈ tl ls := of_decide_eq_true m
          refine ⟨_, rfl, _, _, rfl, rfl, ⟨rfl, e + 1, rfl, by omega, by omega, ?_⟩, ?_⟩
          · rw [q3] at h3
            rw [← h3]
            show _ = e + (if _ then _ else _)
            rw [if_pos m1]
            omega
          · show (tl row).length - ((e : Int) + 1).toNat < (tl row).length - ((e : Int)).toNat
            omega
        · have m1 : ¬ (tl row)[e] ∈ tl ls := fun z => m (decide_eq_true z)
          refine ⟨_, rfl, ?_⟩
          have e0 : e = c + runL (tl ls) ((tl row).drop c) := by
            rw [← h3, q3]
            show _ = e + (if _ then _ else _)
            rw [if_neg m1]
            rfl
          rw [e0]
          exact k
      · have q1 : ¬ (e : Int) < ((row.length : Nat) : Int) := fun z => q (decide_eq_true z)
        rw [len_tl] at q1
        refine ⟨_, rfl, ?_⟩
        have e0 : e = c + runL (tl ls) ((tl row).drop c) := by
          rw [← h3, List.drop_eq_nil_of_le (by omega)]
          rfl
        rw [e0]
        exact k
    · intro σ H Q Q' hq h
      obtain ⟨v, hv, x, hx, z, e, hz, i, j, e1, e2, b, e3, h⟩ := h
      refine ⟨v, hv, x, hx, z, e, hz, i, j, e1, e2, b, e3, ?_⟩
      revert h
      cases b with
      | true =>
        intro h
        obtain ⟨v, hv, x, hx, z, i, c, e1, e2, hz, ha, y, hy, c', z', e3, e4, k', e5, h⟩ := h
        exact ⟨v, hv, x, hx, z, i, c, e1, e2, hz, ha, y, hy, c', z', e3, e4, k', e5, hq _ _ h⟩
      | false =>
        intro h
        exact hq _ _ h
end
end Sb

namespace Sb
open PySem PySem.Spec PyProof.Rows L2 TL
structure spReadToken (C : Addr) (vs : List V) (H : Hp) (Q : VK) (E : XK) : Prop where
  ex : ∃ (row : Str) (l c : Nat) (G : Hp) (tk : Tk) (rest : List Nat), vs = [.str row, .int l, .int c] ∧ c ≤ (tl row).length ∧ (tl row).length ≤ 3000 ∧ Rd ((tl row).drop c) tk rest ∧ Pure G H Q (fun G' v => TokAt C G' v tk)
theorem in_strs (x : Str) : ∀ l : List Str, inV (.str x) (l.map V.str) = decide (x ∈ l)
  | [] => by simp [inV]
  | n :: r => by
    have ih := in_strs x r
    unfold inV at ih ⊢
    rw [List.map_cons, List.any_cons, ih]
    have e : eqV (.str n) (.str x) = decide (n = x) := by
      unfold eqV
      by_cases h : n = x
      · subst h; simp
      · simp [h]
    rw [e]
    by_cases h : n = x
    · subst h; simp
    · have h' : ¬ x = n := fun q => h q.symm
      simp [h, h']
theorem strs_flat (l : List Str) : (l.map V.str).all flatV = true := by
  rw [List.all_eq_true]
  intro x hx
  obtain ⟨n, _, rfl⟩ := List.mem_map.mp hx
  rfl
theorem mem_tl {x : Str} {l : List Str} : x ∈ l ↔ tl x ∈ l.map tl := by
  constructor
  · exact fun h => List.mem_map.mpr ⟨x, h, rfl⟩
  · intro h
    obtain ⟨y, hy, e⟩ := List.mem_map.mp h
    rw [← ext_tl e]
    exact hy
theorem kw_ne : ∀ t ∈ kwL, t ≠ [] := by decide +kernel
theorem sgn_no_dig {c : Nat} (h : c ∈ tl digS) : c ∉ tl sgnS := by rw [mem_dig] at h; rw [mem_sgn]; omega
theorem sgn_no_let {c : Nat} (h : c ∈ tl letS) : c ∉ tl sgnS := by rw [mem_let] at h; rw [mem_sgn]; omega
theorem dig_no_let {c : Nat} (h : c ∈ tl letS) : c ∉ tl digS := by rw [mem_let] at h; rw [mem_dig]; omega
theorem tok_mk {C x dx : Addr} {G : Hp} {k : Kd} {t : Str} {l c : Nat} {tk : Tk} (h1 : k = tk.k) (h2 : tl t = tk.t) : TokAt C (upd (upd G dx (.own x)) x (.ins C dx ((["kind", "text", "line", "column"] : List Str).zip [.str (kS k), .str t, .int l, .int c]))) (.ref x) tk :=
  ⟨x, dx, l, c, rfl, by
    rw [upd_same]
    subst h1
    have e : t = mkS tk.t := mkS_of h2
    subst e
    rfl⟩
section
variable {P : Program} {w : World} {K : PySem.W.Frag} {mg : Str → Option Value} {base : Heap} {a : Ad}
theorem ok_read_token (T : Txt K mg a) : FnOk P w K mg base CX0 3 a.f_read_token a.d_read_token ["row", "line", "column"] (spReadToken a.C_Token) := by
  refine T.F_read_token.ok sc_read_token (fun vs H Q E h => ?_) (fun cdv A outer s H vs Q E hr h => ?_)
  · obtain ⟨⟨row, l, c, G, tk, rest, rfl, _⟩⟩ := h
    rfl
  · obtain ⟨⟨row, l, c, G, tk, rest, rfl, hc, hl, hR, hGH, k⟩⟩ := h
    refine ⟨_, (pss_cons (ps_set (i := 3) sc_read_token.nd rfl (Or.inl rfl) (pe_ix ix_str (pv 0) (pv 2) (fun _ _ => rfl)))
      (pss_cons (ps_if (pt_cmpR op_in_sign (pv 3) (pe_glob (v := V.str (Str.ofString ";:{}")) rfl T.c_SIGNS ⟨_, rfl⟩) rfl) (pss_one (ps_ret (pe_make T.mk_Token (ok_Token_init T) (hr.mono (by decide)) (by rfl) T.m_Token (b_Token_init T) .nil pass0 (pa_cons (pe_glob (v := V.str (Str.ofString "sign")) rfl T.c_SIGN ⟨_, rfl⟩) (pa_cons (pv 3) (pa_cons (pv 1) (pa_cons (pv 2) pa_nil))))))) pss_nil)
      (pss_cons (ps_if (pt_cmpR op_in_sign (pv 3) (pe_glob (v := V.str (Str.ofString "0123456789")) rfl T.c_DIGITS ⟨_, rfl⟩) rfl) (pss_cons (ps_set (i := 4) sc_read_token.nd rfl (Or.inl rfl) (pe_slice sl_str (pv 0) (po_some (pv 2)) (po_some (pe_call (ok_run_end T) (hr.mono (by decide)) rfl T.m_run_end T.F_run_end.kp (b_run_end T) .nil pass0 (pa_cons (pv 0) (pa_cons (pv 2) (pa_cons (pe_glob (v := V.str (Str.ofString "0123456789")) rfl T.c_DIGITS ⟨_, rfl⟩) pa_nil)))))))
      (pss_cons (ps_if (PW.pt (pw_or (pt_cmpR op_gt (pe_callB call_len_str (by rfl) T.z_len (by decide +kernel) (pa_cons (pv 4) pa_nil)) (pe_glob (v := V.int 2) rfl T.c_MAX_DIGITS ⟨_, rfl⟩) (nomark _)) (pw_or1 (PW.pt (pw_and (pt_cmpR op_gt (pe_callB call_len_str (by rfl) T.z_len (by decide +kernel) (pa_cons (pv 4) pa_nil)) pe_int (nomark _)) (pw_and1 (pt_cmpR op_eq (pv 3) pe_str (nomark _)))))))) pss_never pss_nil)
      (pss_one (ps_ret (pe_make T.mk_Token (ok_Token_init T) (hr.mono (by decide)) (by rfl) T.m_Token (b_Token_init T) .nil pass0 (pa_cons (pe_glob (v := V.str (Str.ofString "number")) rfl T.c_NUMBER ⟨_, rfl⟩) (pa_cons (pv 4) (pa_cons (pv 1) (pa_cons (pv 2) pa_nil))))))))) pss_nil)
      (pss_cons (ps_set (i := 4) sc_read_token.nd rfl (Or.inl rfl) (pe_slice sl_str (pv 0) (po_some (pv 2)) (po_some (pe_call (ok_run_end T) (hr.mono (by decide)) rfl T.m_run_end T.F_run_end.kp (b_run_end T) .nil pass0 (pa_cons (pv 0) (pa_cons (pv 2) (pa_cons (pe_glob (v := V.str (Str.ofString "abcdefghijklmnopqrstuvwxyz")) rfl T.c_LETTERS ⟨_, rfl⟩) pa_nil)))))))
      (pss_cons (ps_if (pt_cmpR op_in_seq (pv 4) (pe_glob (v := V.ref a.A_KEYWORDS) rfl T.c_KEYWORDS rfl) rfl) (pss_one (ps_ret (pe_make T.mk_Token (ok_Token_init T) (hr.mono (by decide)) (by rfl) T.m_Token (b_Token_init T) .nil pass0 (pa_cons (pe_glob (v := V.str (Str.ofString "keyword")) rfl T.c_KEYWORD ⟨_, rfl⟩) (pa_cons (pv 4) (pa_cons (pv 1) (pa_cons (pv 2) pa_nil))))))) pss_nil)
      (pss_cons (ps_if (pt_not (pt_chain op_le op_le pe_int (pe_callB call_len_str (by rfl) T.z_len (by decide +kernel) (pa_cons (pv 4) pa_nil)) (pe_glob (v := V.int 8) rfl T.c_MAX_LETTERS ⟨_, rfl⟩))) pss_never pss_nil)
      (pss_one (ps_ret (pe_make T.mk_Token (ok_Token_init T) (hr.mono (by decide)) (by rfl) T.m_Token (b_Token_init T) .nil pass0 (pa_cons (pe_glob (v := V.str (Str.ofString "name")) rfl T.c_NAME ⟨_, rfl⟩) (pa_cons (pv 4) (pa_cons (pv 1) (pa_cons (pv 2) pa_nil))))))))))))), ?_⟩
    have hz : row.length ≤ sizeLine := small 3000 (by rw [len_tl]; exact hl) (by decide)
    generalize hd : (tl row).drop c = rem at hR
    -- the first sign
    have start : ∀ ch r, rem = ch :: r → (tl row)[c]? = some ch := fun ch r e => by
      have h1 : ((tl row).drop c)[0]? = some ch := by rw [hd, e]; rfl
      rw [List.getElem?_drop] at h1
      exact h1
    -- the word that is cut
    have cut : ∀ (S : Str) (t r : List Nat), rem = t ++ r → (∀ x ∈ t, x ∈ tl S) → HeadNot (tl S) r → tl (cutS row (some (c : Int)) (some ((c + runL (tl S) ((tl row).drop c) : Nat) : Int))) = t := fun S t r e h1 h2 => by
      have e1 : runL (tl S) ((tl row).drop c) = t.length := by rw [hd, e]; exact runL_app h1 h2
      have e2 : c + t.length ≤ (tl row).length := by
        have := congrArg List.length (hd.trans e)
        rw [List.length_drop, List.length_append] at this
        omega
      rw [e1, cut_run e2, hd, e, List.take_left]
    cases hR with
    | @sign ch r hs =>
      refine ⟨_, rfl, _, rfl, row, _, ch, rfl, rfl, hz, atI_nat (start _ _ rfl), ?_⟩
      refine ⟨_, rfl, _, _, rfl, rfl, _, rfl, ite_t (decide_eq_true hs) ?_⟩
      refine ⟨_, rfl, _, rfl, _, rfl, fun x dx nx nd ne => init_go rfl ?_⟩
      exact k _ _ _ ((Ext.refl hGH).make nx nd ne _) (same_make nx nd ne _) (tok_mk (k := .sign) rfl rfl)
    | @num t r hne hdg hle h0 hr0 =>
      obtain ⟨ch, t', rfl⟩ : ∃ ch t', t = ch :: t' := by cases t with | nil => exact absurd rfl hne | cons x y => exact ⟨x, y, rfl⟩
      have hch := hdg ch (by simp)
      refine ⟨_, rfl, _, rfl, row, _, ch, rfl, rfl, hz, atI_nat (start _ _ rfl), ?_⟩
      refine ⟨_, rfl, _, _, rfl, rfl, _, rfl, ite_f (decide_eq_false (sgn_no_dig hch)) ?_⟩
      refine ⟨_, rfl, _, _, rfl, rfl, _, rfl, ite_t (decide_eq_true hch) ?_⟩
      refine ⟨_, rfl, _, rfl, _, rfl, _, rfl, _, rfl, ⟨row, c, digS, rfl, hc, hl, _, rfl, row, rfl, hz, ?_⟩⟩
      have hw := cut digS (ch :: t') rest rfl hdg hr0
      dsimp only [gName]
      revert hw
      generalize cutS row (some (c : Int)) (some ((c + runL (tl digS) ((tl row).drop c) : Nat) : Int)) = word
      intro hw
      have wl : word.length ≤ 2 := by rw [len_tl, hw]; exact hle
      have wz : word.length ≤ sizeLine := small 2 wl (by decide)
      refine ⟨_, rfl, word, rfl, wz, _, _, rfl, rfl, _, rfl, ite_f (decide_eq_false (by omega)) ?_⟩
      have fin : ∀ H' : Hp, H' = H → (tRet (tMake a.C_Token (spInit a.C_Token ["kind", "text", "line", "column"]) [] E0 (tCons (tC (.str (Str.ofString "number"))) (tCons (tVar 4) (tCons (tVar 1) (tCons (tVar 2) tNil)))))) { nx := fun _ H' => Q .non H', rt := Q } [some (.str row), some (.int l), some (.int c), some (.str ⟨#[ch]⟩), some (.str word)] H' := by
        rintro H' rfl
        refine ⟨_, rfl, _, rfl, _, rfl, fun x dx nx nd ne => init_go rfl ?_⟩
        exact k _ _ _ ((Ext.refl hGH).make nx nd ne _) (same_make nx nd ne _) (tok_mk (k := .number) rfl hw)
      refine ⟨_, rfl, word, rfl, wz, _, _, rfl, rfl, _, rfl, ?_⟩
      refine ite2 (fun q => ?_) (fun q => ?_)
      · have q1 : 1 < (ch :: t').length := by
          have := of_decide_eq_true q
          rw [len_tl, hw] at this
          exact_mod_cast this
        refine ⟨_, rfl, rfl, _, rfl, ite_f (decide_eq_false fun z => ?_) (fin H rfl)⟩
        injection z with z
        have z1 : [ch] = tl (Str.ofString "0") := by rw [← z]
        have z2 : tl (Str.ofString "0") = [48] := by decide +kernel
        rw [z2] at z1
        injection z1 with z1
        exact h0 q1 (by rw [z1]; rfl)
      · exact ite_f rfl (fin H rfl)
    | @kw t r hlt hkw hr0 =>
      obtain ⟨ch, t', rfl⟩ : ∃ ch t', t = ch :: t' := by cases t with | nil => exact absurd rfl (kw_ne _ hkw) | cons x y => exact ⟨x, y, rfl⟩
      have hch := hlt ch (by simp)
      refine ⟨_, rfl, _, rfl, row, _, ch, rfl, rfl, hz, atI_nat (start _ _ rfl), ?_⟩
      refine ⟨_, rfl, _, _, rfl, rfl, _, rfl, ite_f (decide_eq_false (sgn_no_let hch)) ?_⟩
      refine ⟨_, rfl, _, _, rfl, rfl, _, rfl, ite_f (decide_eq_false (dig_no_let hch)) ?_⟩
      refine ⟨_, rfl, _, rfl, _, rfl, _, rfl, _, rfl, ⟨row, c, letS, rfl, hc, hl, _, rfl, row, rfl, hz, ?_⟩⟩
      have hw := cut letS (ch :: t') rest rfl hlt hr0
      dsimp only [gName]
      revert hw
      generalize cutS row (some (c : Int)) (some ((c + runL (tl letS) ((tl row).drop c) : Nat) : Int)) = word
      intro hw
      have hk : word ∈ kwS := mem_tl.mpr (by rw [hw]; exact hkw)
      refine ⟨_, rfl, a.A_KEYWORDS, kwS.map V.str, rfl, .inr (T.q_KEYWORDS H), rfl, strs_flat _, _, rfl, ite_t ?_ ?_⟩
      · rw [if_neg Bool.false_ne_true, in_strs]; exact decide_eq_true hk
      refine ⟨_, rfl, _, rfl, _, rfl, fun x dx nx nd ne => init_go rfl ?_⟩
      exact k _ _ _ ((Ext.refl hGH).make nx nd ne _) (same_make nx nd ne _) (tok_mk (k := .keyword) rfl hw)
    | @nm t r hlt h1 h8 hkw hr0 =>
      obtain ⟨ch, t', rfl⟩ : ∃ ch t', t = ch :: t' := by cases t with | nil => exact absurd h1 (by decide) | cons x y => exact ⟨x, y, rfl⟩
      have hch := hlt ch (by simp)
      refine ⟨_, rfl, _, rfl, row, _, ch, rfl, rfl, hz, atI_nat (start _ _ rfl), ?_⟩
      refine ⟨_, rfl, _, _, rfl, rfl, _, rfl, ite_f (decide_eq_false (sgn_no_let hch)) ?_⟩
      refine ⟨_, rfl, _, _, rfl, rfl, _, rfl, ite_f (decide_eq_false (dig_no_let hch)) ?_⟩
      refine ⟨_, rfl, _, rfl, _, rfl, _, rfl, _, rfl, ⟨row, c, letS, rfl, hc, hl, _, rfl, row, rfl, hz, ?_⟩⟩
      have hw := cut letS (ch :: t') rest rfl hlt hr0
      dsimp only [gName]
      revert hw
      generalize cutS row (some (c : Int)) (some ((c + runL (tl letS) ((tl row).drop c) : Nat) : Int)) = word
      intro hw
      have hk : ¬ word ∈ kwS := fun z => hkw (by rw [← hw]; exact mem_tl.mp z)
      have wl : word.length ≤ 8 := by rw [len_tl, hw]; exact h8
      have wl1 : 1 ≤ word.length := by rw [len_tl, hw]; exact h1
      have wz : word.length ≤ sizeLine := small 8 wl (by decide)
      refine ⟨_, rfl, a.A_KEYWORDS, kwS.map V.str, rfl, .inr (T.q_KEYWORDS H), rfl, strs_flat _, _, rfl, ite_f ?_ ?_⟩
      · rw [if_neg Bool.false_ne_true, in_strs]; exact decide_eq_false hk
      refine ⟨_, rfl, word, rfl, wz, _, _, rfl, rfl, _, rfl, ite_t (decide_eq_true (by omega)) ⟨_, _, rfl, rfl, _, rfl, ?_⟩⟩
      refine ite_f (by rw [decide_eq_true (show ((word.length : Nat) : Int) ≤ 8 by omega)]; rfl) ?_
      refine ⟨_, rfl, _, rfl, _, rfl, fun x dx nx nd ne => init_go rfl ?_⟩
      exact k _ _ _ ((Ext.refl hGH).make nx nd ne _) (same_make nx nd ne _) (tok_mk (k := .name) rfl hw)
end
end Sb

namespace Sb
open PySem PySem.Spec PyProof.Rows L2 TL
/-! ### within a def that changes nothing that stood -/
structure Pt (G0 H0 G H : Hp) : Prop where
  ext : Ext G0 H0 G H
  sm : Same H0 H
section
variable {G0 H0 G H G1 H1 : Hp} {p l x dx : Addr} {o : HO}
theorem Pt.start (s : Same G H) : Pt G H G H := ⟨Ext.refl s, Same.refl H⟩
theorem Pt.new (a : Pt G0 H0 G H) (np : H p = none) (o : HO) : Pt G0 H0 (upd G p o) (upd H p o) := ⟨a.ext.new np, a.sm.trans (same_new np)⟩
theorem Pt.lay (a : Pt G0 H0 G H) (np : H p = none) (o : HO) : Pt G0 H0 G (upd H p o) := ⟨a.ext.lay np, a.sm.trans (same_new np)⟩
theorem Pt.put (a : Pt G0 H0 G H) (n0 : H0 l = none) (n : G l = none) (o : HO) : Pt G0 H0 G (upd H l o) := ⟨a.ext.put n, same_put a.sm n0⟩
theorem Pt.freeze (a : Pt G0 H0 G H) (n0 : H0 l = none) (h : H l = some o) : Pt G0 H0 (upd G l o) H := ⟨a.ext.freeze n0 h, a.sm⟩
theorem Pt.make (a : Pt G0 H0 G H) (nx : H x = none) (nd : H dx = none) (ne : dx ≠ x) (o : HO) : Pt G0 H0 (upd (upd G dx (.own x)) x o) (upd (upd H dx (.own x)) x o) := ⟨a.ext.make nx nd ne o, a.sm.trans (same_make nx nd ne o)⟩
theorem Pt.call (a : Pt G0 H0 G H) (e : Ext G H G1 H1) (s : Same H H1) : Pt G0 H0 G1 H1 := ⟨a.ext.trans e, a.sm.trans s⟩
theorem Pt.s (a : Pt G0 H0 G H) : Same G H := a.ext.h
theorem Pt.g (a : Pt G0 H0 G H) : Same G0 G := a.ext.g
theorem Pt.free (a : Pt G0 H0 G H) (np : H p = none) : H0 p = none := Same.free a.sm np
theorem Pt.freeG (a : Pt G0 H0 G H) (np : H p = none) : G p = none := Same.free a.ext.h np
theorem frozen (n : G l = none) : Same G (upd G l o) := same_new n
/-- what is not data stays so through a call -/
theorem out_call (e : Ext G H G1 H1) (n : G l = none) (h : H l = some o) : G1 l = none := e.out n h
end
theorem init_go2 {C x dx : Addr} {fs : List Str} {us : List V} {H : Hp} {Q : VK} {E : XK} (h : us.length = fs.length) (k : Q .non (upd (upd H dx (.own x)) x (.ins C dx (fs.zip us)))) :
    spInit C fs (.ref x :: us) (upd (upd H dx (.own x)) x (.ins C dx [])) Q E :=
  ⟨⟨x, dx, us, rfl, h, upd_same, by rw [upd_upd]; exact k⟩⟩
structure spTokenize (C : Addr) (vs : List V) (H : Hp) (Q : VK) (E : XK) : Prop where
  ex : ∃ (src : Str) (G : Hp) (rows : List (List Nat)) (tss : List (List Tk)), vs = [.str src] ∧ tl src = joinL [10] rows ∧ rows ≠ [] ∧ (∀ r ∈ rows, 10 ∉ r) ∧ (∀ r ∈ rows, r.length ≤ 3000) ∧ (tl src).length ≤ 3000000 ∧ Paired Lx rows tss ∧ tss.flatten.length ≤ 100000 ∧
    Pure G H Q (fun G' v => ∃ p vs, v = .ref p ∧ G' p = some (.lst vs) ∧ ToksAt C G' vs (tss.flatten ++ [⟨.fin, []⟩]))
theorem paired_get {α β : Type} {F : α → β → Prop} : ∀ {l : List α} {m : List β} {i : Nat} {x : α}, Paired F l m → l[i]? = some x → ∃ y, m[i]? = some y ∧ F x y
  | _, _, _, _, .nil, e => by simp at e
  | _, _, 0, _, .cons r _, e => by simp at e; subst e; exact ⟨_, rfl, r⟩
  | _, _, i + 1, y, .cons _ t, e => by
    obtain ⟨u, h1, h2⟩ := paired_get (i := i) (x := y) t (by simpa using e)
    exact ⟨u, by simpa using h1, h2⟩
theorem flat_take {α : Type} {l : List (List α)} {i : Nat} {x : List α} (h : l[i]? = some x) : (l.take (i + 1)).flatten = (l.take i).flatten ++ x := by
  rw [take_more h, List.flatten_append]
  simp
theorem flat_le {α : Type} : ∀ (l : List (List α)) (i : Nat), (l.take i).flatten.length ≤ l.flatten.length
  | [], i => by simp
  | x :: r, 0 => by simp
  | x :: r, i + 1 => by
    have := flat_le r i
    simp only [List.take_succ_cons, List.flatten_cons, List.length_append]
    omega
theorem rd_len {l r : List Nat} {k : Tk} (h : Rd l k r) : l = k.t ++ r ∧ k.t ≠ [] := by
  cases h with
  | sign h => exact ⟨rfl, by simp⟩
  | num h => exact ⟨rfl, h⟩
  | kw _ h => exact ⟨rfl, kw_ne _ h⟩
  | @nm t _ _ h => exact ⟨rfl, fun z => by cases t with | nil => exact absurd h (by decide) | cons _ _ => cases z⟩
theorem nsp_rd {c : Nat} {l r : List Nat} {k : Tk} (h : Rd (c :: l) k r) : c ∉ tl spcS := by
  have hs : c ∈ tl sgnS ∨ c ∈ tl digS ∨ c ∈ tl letS := by
    generalize e : c :: l = m at h
    cases h with
    | @sign d r h => injection e with e1 e2; subst e1; exact .inl h
    | @num t r hne h =>
      cases t with
      | nil => exact absurd rfl hne
      | cons x y => injection e with e1 e2; subst e1; exact .inr (.inl (h c (by simp)))
    | @kw t r h hk =>
      cases t with
      | nil => exact absurd rfl (kw_ne _ hk)
      | cons x y => injection e with e1 e2; subst e1; exact .inr (.inr (h c (by simp)))
    | @nm t r h h1 =>
      cases t with
      | nil => simp at h1
      | cons x y => injection e with e1 e2; subst e1; exact .inr (.inr (h c (by simp)))
  rw [mem_sgn, mem_dig, mem_let] at hs
  rw [spc_list]
  simp
  omega
section
variable {P : Program} {w : World} {K : PySem.W.Frag} {mg : Str → Option Value} {base : Heap} {a : Ad}
theorem ok_tokenize (T : Txt K mg a) : FnOk P w K mg base CX0 4 a.f_tokenize a.d_tokenize ["source"] (spTokenize a.C_Token) := by
  refine T.F_tokenize.ok sc_tokenize (fun vs H Q E h => ?_) (fun cdv A outer s H vs Q E hr h => ?_)
  · obtain ⟨⟨src, G, rows, tss, rfl, _⟩⟩ := h
    rfl
  · obtain ⟨⟨src, G, rows, tss, rfl, hsrc, hne, hno, hrl, hsl, hP, hfl, hGH, k⟩⟩ := h
    refine ⟨_, (pss_cons (ps_set (i := 1) sc_tokenize.nd rfl (Or.inl rfl) (pe_lst pa_nil))
      (pss_cons (ps_set (i := 2) sc_tokenize.nd rfl (Or.inl rfl) (pe_split (pv 0) pe_str))
      (pss_cons (ps_for PassesOwn.never rfl (pi_enum (by rfl) T.z_enumerate (pa_cons (pv 2) pa_nil)) (pg_tup (by rfl) (pgs_cons (pg_name (i := 3) sc_tokenize.nd rfl (Or.inl rfl)) (pgs_cons (pg_name (i := 4) sc_tokenize.nd rfl (Or.inl rfl)) pgs_nil))) (pss_cons (ps_set (i := 5) sc_tokenize.nd rfl (Or.inl rfl) pe_int)
      (pss_one (ps_while PassesOwn.never (pt_cmpR op_lt (pv 5) (pe_callB call_len_str (by rfl) T.z_len (by decide +kernel) (pa_cons (pv 4) pa_nil)) (nomark _)) (pss_one (ps_if (pt_cmpR op_in_sign (pe_ix ix_str (pv 4) (pv 5) (fun _ _ => rfl)) (pe_glob (v := V.str (Str.ofString " \n")) rfl T.c_SPACES ⟨_, rfl⟩) rfl) (pss_one (ps_aug (i := 5) sc_tokenize.nd rfl (Or.inl rfl) pe_int ip_add)) (pss_cons (ps_set (i := 6) sc_tokenize.nd rfl (Or.inl rfl) (pe_call (ok_read_token T) (hr.mono (by decide)) rfl T.m_read_token T.F_read_token.kp (b_read_token T) .nil pass0 (pa_cons (pv 4) (pa_cons (pv 3) (pa_cons (pv 5) pa_nil)))))
      (pss_cons (ps_expr (pe_bm PySem.F.plainAttrs_list PySem.F.slot_list_append PySem.F.type_list_append mt_append (pv 1) (pa_cons (pv 6) pa_nil)))
      (pss_one (ps_aug (i := 5) sc_tokenize.nd rfl (Or.inl rfl) (pe_callB call_len_str (by rfl) T.z_len (by decide +kernel) (pa_cons (pe_fld (pv 6) rfl) pa_nil)) ip_add))))))))))
      (pss_one (ps_ret (pe_op op_cat (pv 1) (pe_lst (pa_cons (pe_make T.mk_Token (ok_Token_init T) (hr.mono (by decide)) (by rfl) T.m_Token (b_Token_init T) .nil pass0 (pa_cons (pe_glob (v := V.str (Str.ofString "end")) rfl T.c_END ⟨_, rfl⟩) (pa_cons pe_str (pa_cons (pe_callB call_len_seq (by rfl) T.z_len (by decide +kernel) (pa_cons (pv 2) pa_nil)) (pa_cons pe_int pa_nil))))) pa_nil)))))))), ?_⟩
    refine ⟨Nat.zero_le _, fun l hl => ?_⟩
    have B1 := (Pt.start hGH).lay hl (.lst [])
    have lG : G l = none := Same.free hGH hl
    refine ⟨_, rfl, ⟨_, rfl⟩, src, _, rfl, rfl, by decide +kernel, small 3000002 (by rw [len_tl]; omega) (by decide), fun rp hrp => ?_⟩
    have hrs : (Txt.split src (Str.ofString "\n")).map tl = rows := by
      rw [split_spl _ _ (by rw [t_nl]; decide) (kind_ok (by decide +kernel)), t_nl, hsrc, spl_join hne hno]
    revert hrs
    generalize Txt.split src (Str.ofString "\n") = rs at *
    intro hrs
    have B2 := B1.new hrp (.lst (rs.map V.str))
    have lrp : l ≠ rp := ne_of_none upd_same hrp
    have hlen : rs.length = rows.length := by rw [← hrs, List.length_map]
    have hlen2 : tss.length = rows.length := (Paired.len hP).symm
    refine ⟨_, rfl, rp, _, rfl, SqL.of upd_same, for_it (walk_enum (K := K) (a := rp) (xs := rs.map V.str)) (fun i σ H' => ∃ (G' : Hp) (vs : List V) (v3 v4 v5 v6 : Option V), σ = [some (.str src), some (.ref l), some (.ref rp), v3, v4, v5, v6] ∧ Pt G H G' H' ∧ G' l = none ∧ G' rp = some (.lst (rs.map V.str)) ∧ H' l = some (.lst vs) ∧ ToksAt a.C_Token G' vs ((tss.take i).flatten)) ?_ ?_ ?_ ?_⟩
    · refine ⟨_, [], none, none, none, none, rfl, B2, ?_, upd_same, ?_, .nil⟩
      · rw [upd_ne lrp]; exact lG
      · rw [upd_ne lrp, upd_same]
    · rintro i σ H' _ ⟨G', vs, v3, v4, v5, v6, rfl, B, _, hrp', _⟩
      exact SqL.of (B.s _ _ hrp')
    · rintro i y σ H1 H2 hi ⟨G', vs, v3, v4, v5, v6, rfl, B, lG', hrp', hvs, htk⟩ ⟨T', x, z, rfl, hT', rfl, hx, hz⟩
      rw [List.length_map] at hi
      cases hx
      obtain ⟨row, hrow, rfl⟩ : ∃ row, rs[i]? = some row ∧ z = .str row := by
        have hz : (rs.map V.str)[i]? = some z := hz
        rw [List.getElem?_map] at hz
        cases e : rs[i]? with
        | none => rw [e] at hz; cases hz
        | some q => rw [e] at hz; exact ⟨q, rfl, (Option.some.inj hz).symm⟩
      have hrow2 : rows[i]? = some (tl row) := by rw [← hrs, List.getElem?_map, hrow]; rfl
      have hr30 : (tl row).length ≤ 3000 := hrl _ (List.mem_of_getElem? hrow2)
      obtain ⟨ts, hts, hLx⟩ := paired_get hP hrow2
      have hz' : row.length ≤ sizeLine := small 3000 (by rw [len_tl]; exact hr30) (by decide)
      have B3 := B.lay hT' (.tup [.int (i : Nat), .str row])
      have lT : l ≠ T' := ne_of_none hvs hT'
      refine ⟨T', _, rfl, SqT.of upd_same, rfl, _, _, rfl, _, _, rfl, rfl, ?_⟩
      -- the row
      refine while_by (fun σ H' => ∃ (c : Nat) (G' : Hp) (vs : List V) (done rem : List Tk) (v6 : Option V), σ = [some (.str src), some (.ref l), some (.ref rp), some (.int (i : Nat)), some (.str row), some (.int c), v6] ∧ Pt G H G' H' ∧ G' l = none ∧ G' rp = some (.lst (rs.map V.str)) ∧ H' l = some (.lst vs) ∧
          ToksAt a.C_Token G' vs ((tss.take i).flatten ++ done) ∧ ts = done ++ rem ∧ c ≤ (tl row).length ∧ Lx ((tl row).drop c) rem)
        (fun σ _ => match σ with | [_, _, _, _, _, some (.int e), _] => (tl row).length - e.toNat | _ => 0)
        ⟨0, G', vs, [], ts, _, rfl, B3, lG', hrp', by rw [upd_ne lT]; exact hvs, by rw [List.append_nil]; exact htk, rfl, Nat.zero_le _, hLx⟩ ?_ ?_
      · rintro σ H3 ⟨c, G3, vs3, done, rem, w6, rfl, C3, lG3, hrp3, hvs3, htk3, hdr, hc, hL⟩
        refine ⟨_, rfl, _, rfl, row, rfl, hz', _, _, rfl, rfl, _, rfl, ?_⟩
        refine ite2 (fun q => ?_) (fun q => ?_)
        · have q1 : c < (tl row).length := by
            have := of_decide_eq_true q
            rw [len_tl] at this
            omega
          have q2 : (tl row)[c]? = some ((tl row)[c]) := List.getElem?_eq_getElem q1
          have q3 : (tl row).drop c = (tl row)[c] :: (tl row).drop (c + 1) := List.drop_eq_getElem_cons q1
          refine ⟨_, rfl, _, rfl, row, _, (tl row)[c], rfl, rfl, hz', atI_nat q2, _, _, rfl, rfl, _, rfl, ?_⟩
          have hL0 := hL
          rw [q3] at hL0
          generalize hch : (tl row)[c] = ch at hL0 q3 ⊢
          cases hL0 with
          | sp hL1 =>
            refine ite_t (decide_eq_true (show 32 ∈ tl spcS by rw [spc_list]; decide)) ?_
            refine ⟨_, rfl, _, _, rfl, rfl, ⟨c + 1, G3, vs3, done, rem, _, rfl, C3, lG3, hrp3, hvs3, htk3, hdr, by omega, hL1⟩, ?_⟩
            show (tl row).length - ((c : Int) + 1).toNat < (tl row).length - ((c : Int)).toNat
            omega
          | @tok _ r tk rem' hR hL1 =>
            refine ite_f (decide_eq_false (nsp_rd hR)) ?_
            obtain ⟨hsp, hnt⟩ := rd_len hR
            have hR' : Rd ((tl row).drop c) tk r := by rw [q3]; exact hR
            refine ⟨_, rfl, _, rfl, _, rfl, ⟨row, i, c, G3, tk, r, rfl, by omega, hr30, hR', C3.s, fun G4 H4 v e4 s4 htok => ?_⟩⟩
            have C4 := C3.call e4 s4
            have hvs4 : H4 l = some (.lst vs3) := s4 _ _ hvs3
            have lG4 : G4 l = none := e4.out lG3 hvs3
            obtain ⟨p, dx, tl1, tc1, rfl, hp⟩ := id htok
            have hpH : H4 p = some (.ins a.C_Token dx (tokF tk tl1 tc1)) := e4.h _ _ hp
            have lp : p ≠ l := ne_of_none hp lG4
            have hsz : vs3.length ≤ 100000 := by
              rw [Paired.len htk3, List.length_append]
              have h1 := flat_le tss (i + 1)
              rw [flat_take hts, List.length_append, hdr, List.length_append] at h1
              omega
            refine ⟨_, rfl, .inl ⟨rfl, _, SqL.of hvs4⟩, _, rfl, l, _, _, rfl, rfl, hvs4, smaller 100000 hsz (by decide), ?_⟩
            have htl : tk.t.length + c ≤ (tl row).length := by
              have := congrArg List.length (q3.trans hsp)
              rw [List.length_drop, List.length_append] at this
              omega
            have hpos : 1 ≤ tk.t.length := by
              cases e : tk.t with
              | nil => exact absurd e hnt
              | cons _ _ => simp
            have ecol : (c : Int) + ((mkS tk.t).length : Int) = ((c + tk.t.length : Nat) : Int) := by rw [len_mkS]; omega
            refine ⟨_, rfl, _, rfl, p, _, dx, _, _, rfl, by rw [upd_ne lp]; exact hpH, T.cl_Token, T.n_Token_text, (by kernel_rfl), mkS tk.t, rfl, small 3000 (by rw [len_mkS]; omega) (by decide), _, _, rfl, rfl, ?_⟩
            refine ⟨⟨c + tk.t.length, G4, vs3 ++ [.ref p], done ++ [tk], rem', some (.ref p), ?_, C4.put hl lG4 _, lG4, e4.g _ _ hrp3, upd_same, ?_, ?_, by omega, ?_⟩, ?_⟩
            · show [some (V.str src), some (.ref l), some (.ref rp), some (.int (i : Nat)), some (.str row), some (.int ((c : Int) + ((mkS tk.t).length : Int))), some (.ref p)] = _
              rw [ecol]
            · rw [← List.append_assoc]
              exact Paired.snoc (ToksAt.mono e4.g htk3) htok
            · rw [hdr, List.append_assoc]; rfl
            · have : (tl row).drop (c + tk.t.length) = r := by
                rw [← List.drop_drop, q3, hsp, List.drop_left]
              rw [this]
              exact hL1
            · show (tl row).length - ((c : Int) + ((mkS tk.t).length : Int)).toNat < (tl row).length - ((c : Int)).toNat
              rw [ecol]
              omega
        · have q1 : ¬ (c : Int) < ((row.length : Nat) : Int) := fun z => q (decide_eq_true z)
          rw [len_tl] at q1
          have ec : (tl row).drop c = [] := List.drop_eq_nil_of_le (by omega)
          rw [ec] at hL
          have er : rem = [] := by
            generalize e0 : ([] : List Nat) = m at hL
            cases hL with
            | nil => rfl
            | sp _ => cases e0
            | tok hR _ =>
              obtain ⟨h1, h2⟩ := rd_len hR
              rw [← e0] at h1
              exact absurd (List.append_eq_nil_iff.mp h1.symm).1 h2
          refine ⟨G3, vs3, _, _, _, _, rfl, C3, lG3, hrp3, hvs3, ?_⟩
          rw [flat_take hts, hdr, er, List.append_nil]
          exact htk3
      · intro σ H Q Q' hq h
        obtain ⟨v, hv, x, hx, z, e, hz, i, j, e1, e2, b, e3, h⟩ := h
        exact ⟨v, hv, x, hx, z, e, hz, i, j, e1, e2, b, e3, hq _ _ h⟩
    · rintro σ H3 ⟨G3, vs3, v3, v4, v5, v6, rfl, C3, lG3, hrp3, hvs3, htk3⟩
      rw [List.length_map, hlen, ← hlen2, List.take_length] at htk3
      refine ⟨_, rfl, _, rfl, rp, _, rfl, .inl (SqL.of (C3.s _ _ hrp3)), fun x dx nx nd ne => init_go2 rfl ⟨rfl, ?_⟩⟩
      have C4 := C3.make nx nd ne (.ins a.C_Token dx ((["kind", "text", "line", "column"] : List Str).zip [.str (kS .fin), .str (Str.ofString ""), .int ((rs.map V.str).length : Nat), .int ((0 : Nat) : Int)]))
      have lx : l ≠ x := ne_of_none hvs3 nx
      have ldx : l ≠ dx := ne_of_none hvs3 nd
      refine ⟨(by show 1 ≤ sizeLine; decide), fun p1 hp1 => ?_⟩
      have C5 := C4.lay hp1 (.lst [.ref x])
      have lp1 : l ≠ p1 := fun e => by rw [← e, upd_ne lx, upd_ne ldx, hvs3] at hp1; cases hp1
      have hsz : vs3.length ≤ 100000 := by rw [Paired.len htk3]; exact hfl
      refine ⟨l, p1, vs3, _, rfl, rfl, by rw [upd_ne lp1, upd_ne lx, upd_ne ldx]; exact hvs3, upd_same, small 100001 (by show vs3.length + 1 ≤ _; omega) (by decide), fun p2 hp2 => ?_⟩
      have C6 := C5.new hp2 (.lst (vs3 ++ [.ref x]))
      refine k _ _ _ C6.ext C6.sm ⟨p2, _, rfl, upd_same, Paired.snoc (ToksAt.mono ((same_make (C3.freeG nx) (C3.freeG nd) ne _).trans (same_new (C5.freeG hp2))) htk3) (TokAt.mono (same_new (C5.freeG hp2)) (tok_mk (k := .fin) rfl t_e))⟩
end
end Sb

namespace Sb
open PySem PySem.Spec PyProof.Rows L2
/-! ### what the robots do, in plain Lean -/
structure Sit where
  cs : List Nat
  ns : List Nat
  hs : List Bool
  sh : List Nat
  deriving DecidableEq
def stepsOf (x : Pl) (i : Nat) : List Step := if i = 0 then x.p else x.q
/-- the number of what is done: a word's, or 8 for blocked -/
def actP (x : Pl) (s : Sit) (i : Nat) : Nat × Sit :=
  let st := (stepsOf x i).getD (s.ns.getD i 0) ⟨4, none⟩
  let c := s.cs.getD i 0
  let h := s.hs.getD i false
  let b := s.sh.getD c 0
  let go (c' : Nat) (h' : Bool) (sh' : List Nat) : Nat × Sit :=
    let n' := if st.w = 5 ∨ (st.w = 6 ∧ sh'.getD c' 0 = 0) ∨ (st.w = 7 ∧ h' = true) then st.g.getD 0 else (s.ns.getD i 0 + 1) % (stepsOf x i).length
    (st.w, ⟨s.cs.set i c', s.ns.set i n', s.hs.set i h', sh'⟩)
  match st.w with
  | 0 => if c = 0 ∨ c - 1 ∈ s.cs then (8, s) else go (c - 1) h s.sh
  | 1 => if s.sh.length ≤ c + 1 ∨ c + 1 ∈ s.cs then (8, s) else go (c + 1) h s.sh
  | 2 => if h = true ∨ b = 0 then (8, s) else go c true (s.sh.set c (b - 1))
  | 3 => if h = false ∨ 3 ≤ b then (8, s) else go c false (s.sh.set c (b + 1))
  | _ => go c h s.sh
def tickP (x : Pl) (s : Sit) : (Nat × Nat) × Sit :=
  let a := actP x s 0
  let b := actP x a.2 1
  ((a.1, b.1), b.2)
def sit0 (x : Pl) : Sit := ⟨[x.a, x.b], [0, 0], [false, false], x.shelf⟩
def sitAt (x : Pl) : Nat → Sit
  | 0 => sit0 x
  | n + 1 => (tickP x (sitAt x n)).2
structure SitOk (x : Pl) (s : Sit) : Prop where
  c2 : s.cs.length = 2
  n2 : s.ns.length = 2
  h2 : s.hs.length = 2
  len : s.sh.length = x.shelf.length
  b3 : ∀ n ∈ s.sh, n ≤ 3
  cl : ∀ i, i < 2 → s.cs.getD i 0 < s.sh.length
  ne : s.cs.getD 0 0 ≠ s.cs.getD 1 0
  nl : ∀ i, i < 2 → s.ns.getD i 0 < (stepsOf x i).length
theorem sit0_ok {x : Pl} (h : x.Ok) : SitOk x (sit0 x) := by
  refine ⟨rfl, rfl, rfl, rfl, h.b3, fun i hi => ?_, h.ne, fun i hi => ?_⟩
  · match i, hi with
    | 0, _ => exact h.ha
    | 1, _ => exact h.hb
    | i + 2, hi => exact absurd hi (by omega)
  · match i, hi with
    | 0, _ => exact h.p.pos
    | 1, _ => exact h.q.pos
    | i + 2, hi => exact absurd hi (by omega)
theorem getD_set {α : Type} {l : List α} {i j : Nat} {v d : α} (hi : i < l.length) : (l.set i v).getD j d = if j = i then v else l.getD j d := by
  rw [List.getD_eq_getElem?_getD, List.getD_eq_getElem?_getD]
  by_cases h : j = i
  · subst h
    rw [if_pos rfl, List.getElem?_set_self hi]
    rfl
  · rw [if_neg h, List.getElem?_set_ne (Ne.symm h)]
theorem mem_cs {s : Sit} (h : s.cs.length = 2) {n : Nat} : n ∈ s.cs ↔ n = s.cs.getD 0 0 ∨ n = s.cs.getD 1 0 := by
  match hc : s.cs, h with
  | [a, b], _ => simp
/-- a state after a step that is done -/
theorem go_ok {x : Pl} {s : Sit} {i c' n' : Nat} {h' : Bool} {sh' : List Nat} (o : SitOk x s) (hi : i < 2) (hc : c' < s.sh.length) (hne : ∀ j, j < 2 → j ≠ i → s.cs.getD j 0 ≠ c') (hn : n' < (stepsOf x i).length) (hl : sh'.length = s.sh.length) (hb : ∀ n ∈ sh', n ≤ 3) :
    SitOk x ⟨s.cs.set i c', s.ns.set i n', s.hs.set i h', sh'⟩ := by
  have i1 : i < s.cs.length := by rw [o.c2]; exact hi
  have i2 : i < s.ns.length := by rw [o.n2]; exact hi
  refine ⟨by rw [List.length_set]; exact o.c2, by rw [List.length_set]; exact o.n2, by rw [List.length_set]; exact o.h2, hl.trans o.len, hb, fun j hj => ?_, ?_, fun j hj => ?_⟩
  · show (s.cs.set i c').getD j 0 < sh'.length
    rw [getD_set i1, hl]
    split
    · exact hc
    · exact o.cl j hj
  · show (s.cs.set i c').getD 0 0 ≠ (s.cs.set i c').getD 1 0
    rw [getD_set i1, getD_set i1]
    match i, hi with
    | 0, _ => exact fun e => hne 1 (by decide) (by decide) e.symm
    | 1, _ => exact fun e => hne 0 (by decide) (by decide) e
    | i + 2, hi => exact absurd hi (by omega)
  · show (s.ns.set i n').getD j 0 < _
    rw [getD_set i2]
    by_cases h : j = i
    · rw [if_pos h, h]; exact hn
    · rw [if_neg h]; exact o.nl j hj
theorem steps_ok {x : Pl} (h : x.Ok) (i : Nat) : StepsOk (stepsOf x i) := by
  unfold stepsOf
  split
  · exact h.p
  · exact h.q
theorem act_ok {x : Pl} {s : Sit} {i : Nat} (hx : x.Ok) (o : SitOk x s) (hi : i < 2) : SitOk x (actP x s i).2 := by
  have so := steps_ok hx i
  have nl := o.nl i hi
  have cl := o.cl i hi
  have hpos := so.pos
  have hst : (stepsOf x i).getD (s.ns.getD i 0) ⟨4, none⟩ ∈ stepsOf x i := by
    rw [List.getD_eq_getElem?_getD, List.getElem?_eq_getElem nl]
    exact List.getElem_mem _
  have ok := so.all _ hst
  unfold actP
  generalize (stepsOf x i).getD (s.ns.getD i 0) ⟨4, none⟩ = st at ok
  have hb3 : s.sh.getD (s.cs.getD i 0) 0 ≤ 3 := by
    rw [List.getD_eq_getElem?_getD, List.getElem?_eq_getElem cl]
    exact o.b3 _ (List.getElem_mem _)
  have hn : ∀ (p : Prop) [Decidable p], (p → 5 ≤ st.w) → (if p then st.g.getD 0 else (s.ns.getD i 0 + 1) % (stepsOf x i).length) < (stepsOf x i).length := fun p _ hp => by
    split
    · rename_i hp'
      obtain ⟨k, e, hk⟩ := ok.yes (hp hp')
      rw [e]
      exact hk
    · exact Nat.mod_lt _ (by omega)
  have other : ∀ j, j < 2 → j ≠ i → s.cs.getD j 0 ≠ s.cs.getD i 0 := fun j hj hji => by
    match i, hi, j, hj with
    | 0, _, 0, _ => exact absurd rfl hji
    | 0, _, 1, _ => exact fun e => o.ne e.symm
    | 1, _, 0, _ => exact o.ne
    | 1, _, 1, _ => exact absurd rfl hji
  have mem : ∀ j, j < 2 → s.cs.getD j 0 ∈ s.cs := fun j hj => by
    rw [mem_cs o.c2]
    match j, hj with
    | 0, _ => exact .inl rfl
    | 1, _ => exact .inr rfl
  have setb : ∀ v, v ≤ 3 → ∀ n ∈ s.sh.set (s.cs.getD i 0) v, n ≤ 3 := fun v hv n hn => by
    rcases List.mem_or_eq_of_mem_set hn with h | h
    · exact o.b3 n h
    · rw [h]; exact hv
  have gp : ∀ {sh' : List Nat} {c' : Nat} {h' : Bool}, (st.w = 5 ∨ (st.w = 6 ∧ sh'.getD c' 0 = 0) ∨ (st.w = 7 ∧ h' = true)) → 5 ≤ st.w := fun h => by
    rcases h with h | h | h <;> omega
  dsimp only
  split
  · split
    · exact o
    · rename_i hc
      simp only [not_or] at hc
      exact go_ok o hi (by omega) (fun j hj hji e => hc.2 (by rw [← e]; exact mem j hj)) (hn _ gp) rfl o.b3
  · split
    · exact o
    · rename_i hc
      simp only [not_or] at hc
      exact go_ok o hi (by omega) (fun j hj hji e => hc.2 (by rw [← e]; exact mem j hj)) (hn _ gp) rfl o.b3
  · split
    · exact o
    · exact go_ok o hi cl other (hn _ gp) (List.length_set ..) (setb _ (by omega))
  · split
    · exact o
    · rename_i hc
      simp only [not_or] at hc
      exact go_ok o hi cl other (hn _ gp) (List.length_set ..) (setb _ (by omega))
  · exact go_ok o hi cl other (hn _ gp) rfl o.b3
theorem tick_ok {x : Pl} {s : Sit} (hx : x.Ok) (o : SitOk x s) : SitOk x (tickP x s).2 := act_ok hx (act_ok hx o (by decide)) (by decide)
theorem sitAt_ok {x : Pl} (hx : x.Ok) : ∀ n, SitOk x (sitAt x n)
  | 0 => sit0_ok hx
  | n + 1 => tick_ok hx (sitAt_ok hx n)
end Sb

namespace Sb
open PySem PySem.Spec PyProof.Rows L2
/-! ### when a state comes again -/
theorem sit_shift {x : Pl} {i j : Nat} (h : sitAt x i = sitAt x j) : ∀ k, sitAt x (i + k) = sitAt x (j + k)
  | 0 => h
  | k + 1 => by
    show (tickP x (sitAt x (i + k))).2 = (tickP x (sitAt x (j + k))).2
    rw [sit_shift h k]
theorem sit_rounds {x : Pl} {i p : Nat} (h : sitAt x i = sitAt x (i + p)) : ∀ m, sitAt x i = sitAt x (i + p * m)
  | 0 => rfl
  | m + 1 => by
    have := sit_shift h (p * m)
    rw [Nat.mul_succ, ← sit_rounds h m] at *
    rw [this]
    congr 1
    omega
/-- from the start i on all repeats after n - i ticks -/
theorem sit_mod {x : Pl} {i n t : Nat} (hin : i < n) (h : sitAt x i = sitAt x n) (ht : i ≤ t) : sitAt x t = sitAt x (i + (t - i) % (n - i)) := by
  have h' : sitAt x i = sitAt x (i + (n - i)) := by rw [h]; congr 1; omega
  have r := sit_rounds h' ((t - i) / (n - i))
  have s := sit_shift r ((t - i) % (n - i))
  rw [s]
  congr 1
  have := Nat.div_add_mod (t - i) (n - i)
  omega
/-- the first n states differ, the n-th is the one at i -/
structure Cyc (x : Pl) (i n : Nat) : Prop where
  lt : i < n
  eq : sitAt x i = sitAt x n
  nd : ∀ j k, j < n → k < n → sitAt x j = sitAt x k → j = k
theorem Cyc.uniq {x : Pl} {i n i' n' : Nat} (a : Cyc x i n) (b : Cyc x i' n') : i = i' ∧ n = n' := by
  have hn : n = n' := by
    rcases Nat.lt_trichotomy n n' with h | h | h
    · have := b.nd i n (by have := a.lt; omega) h a.eq
      have := a.lt
      omega
    · exact h
    · have := a.nd i' n' (by have := b.lt; omega) h b.eq
      have := b.lt
      omega
  subst hn
  exact ⟨a.nd i i' a.lt b.lt (a.eq.trans b.eq.symm), rfl⟩
end Sb

namespace Sb
open PySem PySem.Spec PyProof.Rows L2
/-! ### one step, way by way -/
def stOf (x : Pl) (s : Sit) (i : Nat) : Step := (stepsOf x i).getD (s.ns.getD i 0) ⟨4, none⟩
def cOf (s : Sit) (i : Nat) : Nat := s.cs.getD i 0
abbrev jumpP (x : Pl) (s : Sit) (i : Nat) (hs' : List Bool) (sh' : List Nat) : Prop := (stOf x s i).w = 5 ∨ ((stOf x s i).w = 6 ∧ sh'.getD (cOf s i) 0 = 0) ∨ ((stOf x s i).w = 7 ∧ hs'.getD i false = true)
def nextP (x : Pl) (s : Sit) (i : Nat) (hs' : List Bool) (sh' : List Nat) : Nat := if jumpP x s i hs' sh' then (stOf x s i).g.getD 0 else (s.ns.getD i 0 + 1) % (stepsOf x i).length
def finP (x : Pl) (s : Sit) (i : Nat) (cs' : List Nat) (hs' : List Bool) (sh' : List Nat) : Nat × Sit := ((stOf x s i).w, ⟨cs', s.ns.set i (nextP x s i hs' sh'), hs', sh'⟩)
theorem set_same {α : Type} {l : List α} {i : Nat} {d : α} : l.set i (l.getD i d) = l := by
  by_cases h : i < l.length
  · rw [List.getD_eq_getElem?_getD, List.getElem?_eq_getElem h]
    exact List.set_getElem_self h
  · rw [List.set_eq_of_length_le (by omega)]
section
variable {x : Pl} {s : Sit} {i : Nat}
theorem act_left (h : (stOf x s i).w = 0) : actP x s i = if cOf s i = 0 ∨ cOf s i - 1 ∈ s.cs then (8, s) else finP x s i (s.cs.set i (cOf s i - 1)) s.hs s.sh := by
  unfold actP finP nextP jumpP cOf
  unfold stOf at h ⊢
  generalize (stepsOf x i).getD (s.ns.getD i 0) ⟨4, none⟩ = st at h ⊢
  obtain ⟨w, g⟩ := st
  dsimp only at h
  subst h
  dsimp only
  simp only [set_same, show ¬ ((0 : Nat) = 5) by decide, show ¬ ((0 : Nat) = 6) by decide, show ¬ ((0 : Nat) = 7) by decide, false_and, false_or, or_false, if_false]
theorem act_right (h : (stOf x s i).w = 1) : actP x s i = if s.sh.length ≤ cOf s i + 1 ∨ cOf s i + 1 ∈ s.cs then (8, s) else finP x s i (s.cs.set i (cOf s i + 1)) s.hs s.sh := by
  unfold actP finP nextP jumpP cOf
  unfold stOf at h ⊢
  generalize (stepsOf x i).getD (s.ns.getD i 0) ⟨4, none⟩ = st at h ⊢
  obtain ⟨w, g⟩ := st
  dsimp only at h
  subst h
  dsimp only
  simp only [set_same, show ¬ ((1 : Nat) = 5) by decide, show ¬ ((1 : Nat) = 6) by decide, show ¬ ((1 : Nat) = 7) by decide, false_and, false_or, or_false, if_false]
theorem act_pick (h : (stOf x s i).w = 2) : actP x s i = if s.hs.getD i false = true ∨ s.sh.getD (cOf s i) 0 = 0 then (8, s) else finP x s i s.cs (s.hs.set i true) (s.sh.set (cOf s i) (s.sh.getD (cOf s i) 0 - 1)) := by
  unfold actP finP nextP jumpP cOf
  unfold stOf at h ⊢
  generalize (stepsOf x i).getD (s.ns.getD i 0) ⟨4, none⟩ = st at h ⊢
  obtain ⟨w, g⟩ := st
  dsimp only at h
  subst h
  dsimp only
  simp only [set_same, show ¬ ((2 : Nat) = 5) by decide, show ¬ ((2 : Nat) = 6) by decide, show ¬ ((2 : Nat) = 7) by decide, false_and, false_or, or_false, if_false]
theorem act_put (h : (stOf x s i).w = 3) : actP x s i = if s.hs.getD i false = false ∨ 3 ≤ s.sh.getD (cOf s i) 0 then (8, s) else finP x s i s.cs (s.hs.set i false) (s.sh.set (cOf s i) (s.sh.getD (cOf s i) 0 + 1)) := by
  unfold actP finP nextP jumpP cOf
  unfold stOf at h ⊢
  generalize (stepsOf x i).getD (s.ns.getD i 0) ⟨4, none⟩ = st at h ⊢
  obtain ⟨w, g⟩ := st
  dsimp only at h
  subst h
  dsimp only
  simp only [set_same, show ¬ ((3 : Nat) = 5) by decide, show ¬ ((3 : Nat) = 6) by decide, show ¬ ((3 : Nat) = 7) by decide, false_and, false_or, or_false, if_false]
theorem act_else (h : 4 ≤ (stOf x s i).w) : actP x s i = finP x s i s.cs s.hs s.sh := by
  unfold actP finP nextP jumpP cOf
  unfold stOf at h ⊢
  dsimp only
  split
  · omega
  · omega
  · omega
  · omega
  · rw [set_same, set_same]
end
theorem st_mem {x : Pl} {s : Sit} {i : Nat} (o : SitOk x s) (hi : i < 2) : (stepsOf x i)[s.ns.getD i 0]? = some (stOf x s i) ∧ stOf x s i ∈ stepsOf x i := by
  have nl := o.nl i hi
  have e : (stepsOf x i)[s.ns.getD i 0]? = some (stOf x s i) := by
    unfold stOf
    rw [List.getD_eq_getElem?_getD (l := stepsOf x i), List.getElem?_eq_getElem nl]
    rfl
  exact ⟨e, List.mem_of_getElem? e⟩
theorem st_ok {x : Pl} {s : Sit} {i : Nat} (hx : x.Ok) (o : SitOk x s) (hi : i < 2) : Step.Ok (stepsOf x i).length (stOf x s i) := (steps_ok hx i).all _ (st_mem o hi).2
theorem next_lt {x : Pl} {s : Sit} {i : Nat} {hs' : List Bool} {sh' : List Nat} (hx : x.Ok) (o : SitOk x s) (hi : i < 2) : nextP x s i hs' sh' < (stepsOf x i).length := by
  have ok := st_ok hx o hi
  have pos := (steps_ok hx i).pos
  unfold nextP
  split
  · rename_i h
    have h5 : 5 ≤ (stOf x s i).w := by unfold jumpP at h; rcases h with h | h | h <;> omega
    obtain ⟨k, e, hk⟩ := ok.yes h5
    rw [e]; exact hk
  · exact Nat.mod_lt _ (by omega)
/-- the other robot's cell -/
theorem mem_other {x : Pl} {s : Sit} {i n : Nat} (o : SitOk x s) (hi : i < 2) (hn : n ≠ cOf s i) : n ∈ s.cs ↔ n = s.cs.getD (1 - i) 0 := by
  rw [mem_cs o.c2]
  unfold cOf at hn
  match i, hi with
  | 0, _ => exact ⟨fun h => h.resolve_left hn, .inr⟩
  | 1, _ => exact ⟨fun h => h.resolve_right hn, .inl⟩
/-! ### what is done, as a text -/
def doS (w : Nat) : Str := if w = 8 then "blocked" else wS w
theorem doS8 : doS 8 = "blocked" := rfl
theorem doS_lt {w : Nat} (h : w < 8) : doS w = wS w := if_neg (by omega)
theorem act_w {x : Pl} {s : Sit} {i : Nat} (hx : x.Ok) (o : SitOk x s) (hi : i < 2) : (actP x s i).1 ≤ 8 := by
  have w8 := (st_ok hx o hi).w8
  match h : (stOf x s i).w with
  | 0 => rw [act_left h]; split; exact Nat.le_refl 8; show (stOf x s i).w ≤ 8; omega
  | 1 => rw [act_right h]; split; exact Nat.le_refl 8; show (stOf x s i).w ≤ 8; omega
  | 2 => rw [act_pick h]; split; exact Nat.le_refl 8; show (stOf x s i).w ≤ 8; omega
  | 3 => rw [act_put h]; split; exact Nat.le_refl 8; show (stOf x s i).w ≤ 8; omega
  | n + 4 => rw [act_else (by omega)]; show (stOf x s i).w ≤ 8; omega
/-! ### a state as data of the law: four lists -/
def natsD (l : List Nat) : PyData := .list (l.map natD)
def boolsD (l : List Bool) : PyData := .list (l.map PyData.bool)
def sitL (s : Sit) : PyData := .list [natsD s.cs, natsD s.ns, boolsD s.hs, natsD s.sh]
def wordsD (w : Nat × Nat) : PyData := .tuple [.str (doS w.1), .str (doS w.2)]
abbrev nV (l : List Nat) : List V := l.map fun n : Nat => V.int n
abbrev bV (l : List Bool) : List V := l.map V.bl
section
variable {K : PySem.W.Frag} {G : Hp}
theorem bools_D (l : List Bool) : DpAll K G (bV l) (l.map PyData.bool) := by
  induction l with
  | nil => exact .nil
  | cons n l ih => exact .cons (.bl _) ih
theorem bools_inv : ∀ {l : List Bool} {vs : List V}, DpAll K G vs (l.map PyData.bool) → vs = bV l
  | [], _, .nil => rfl
  | _ :: _, _, .cons h t => by rw [Dp.bool_inv h, bools_inv t]; rfl
theorem nats_D' (l : List Nat) : DpAll K G (nV l) (l.map natD) := by
  induction l with
  | nil => exact .nil
  | cons n l ih => exact .cons (.int _) ih
theorem nats_inv' : ∀ {l : List Nat} {vs : List V}, DpAll K G vs (l.map natD) → vs = nV l
  | [], _, .nil => rfl
  | _ :: _, _, .cons h t => by rw [Dp.int_inv h, nats_inv' t]; rfl
theorem natsD_inv {l : List Nat} {v : V} (h : Dp K G v (natsD l)) : ∃ a, v = .ref a ∧ SqL K G a (nV l) := by
  obtain ⟨a, xs, e, h1, h2⟩ := Dp.lst_inv h
  rw [nats_inv' h2] at h1
  exact ⟨a, e, h1⟩
theorem boolsD_inv {l : List Bool} {v : V} (h : Dp K G v (boolsD l)) : ∃ a, v = .ref a ∧ SqL K G a (bV l) := by
  obtain ⟨a, xs, e, h1, h2⟩ := Dp.lst_inv h
  rw [bools_inv h2] at h1
  exact ⟨a, e, h1⟩
theorem sitL_inv {s : Sit} {v : V} (h : Dp K G v (sitL s)) : ∃ a c n b e, v = .ref a ∧ SqL K G a [.ref c, .ref n, .ref b, .ref e] ∧ SqL K G c (nV s.cs) ∧ SqL K G n (nV s.ns) ∧ SqL K G b (bV s.hs) ∧ SqL K G e (nV s.sh) := by
  obtain ⟨a, xs, e, h1, h2⟩ := Dp.lst_inv h
  obtain ⟨v1, r, rfl, d1, h2⟩ := DpAll.cons_inv h2
  obtain ⟨v2, r, rfl, d2, h2⟩ := DpAll.cons_inv h2
  obtain ⟨v3, r, rfl, d3, h2⟩ := DpAll.cons_inv h2
  obtain ⟨v4, r, rfl, d4, h2⟩ := DpAll.cons_inv h2
  rw [DpAll.nil_inv h2] at h1
  obtain ⟨c, rfl, c1⟩ := natsD_inv d1
  obtain ⟨n, rfl, n1⟩ := natsD_inv d2
  obtain ⟨b, rfl, b1⟩ := boolsD_inv d3
  obtain ⟨f, rfl, f1⟩ := natsD_inv d4
  exact ⟨a, c, n, b, f, e, h1, c1, n1, b1, f1⟩
theorem sitL_mk {s : Sit} {a c n b e : Addr} (h : SqL K G a [.ref c, .ref n, .ref b, .ref e]) (h1 : SqL K G c (nV s.cs)) (h2 : SqL K G n (nV s.ns)) (h3 : SqL K G b (bV s.hs)) (h4 : SqL K G e (nV s.sh)) : Dp K G (.ref a) (sitL s) :=
  .lst h (.cons (.lst h1 (nats_D' _)) (.cons (.lst h2 (nats_D' _)) (.cons (.lst h3 (bools_D _)) (.cons (.lst h4 (nats_D' _)) .nil))))
end
theorem nV_at {l : List Nat} {i : Nat} (h : i < l.length) : (nV l)[i]? = some (.int (l.getD i 0 : Nat)) := by
  rw [List.getElem?_map, List.getElem?_eq_getElem h, List.getD_eq_getElem?_getD, List.getElem?_eq_getElem h]
  rfl
theorem bV_at {l : List Bool} {i : Nat} (h : i < l.length) : (bV l)[i]? = some (.bl (l.getD i false)) := by
  rw [List.getElem?_map, List.getElem?_eq_getElem h, List.getD_eq_getElem?_getD, List.getElem?_eq_getElem h]
  rfl
theorem nV_set {l : List Nat} {i n : Nat} : (nV l).set i (.int (n : Nat)) = nV (l.set i n) := by rw [nV, nV, List.map_set]
theorem bV_set {l : List Bool} {i : Nat} {b : Bool} : (bV l).set i (.bl b) = bV (l.set i b) := by rw [bV, bV, List.map_set]
end Sb

namespace Sb
open PySem PySem.Spec PyProof.Rows L2
/-! ### dicts whose keys are nested tuples -/
mutual
inductive Nk : PyData → NestedKey → Prop
  | int (i : Int) : Nk (.int i) (.num i)
  | bool (b : Bool) : Nk (.bool b) (.num (if b = true then 1 else 0))
  | none : Nk .none .none
  | text (x : Str) : Nk (.str x) (.text x)
  | tup {ds : List PyData} {ks : List NestedKey} : NkAll ds ks → Nk (.tuple ds) (.tup ks)
inductive NkAll : List PyData → List NestedKey → Prop
  | nil : NkAll [] []
  | cons {d : PyData} {k : NestedKey} {ds : List PyData} {ks : List NestedKey} : Nk d k → NkAll ds ks → NkAll (d :: ds) (k :: ks)
end
section
variable {X : Cx} {pins : List (Addr × Obj)} {σ : L2.St} {H : Hp} {s : Shared}
mutual
theorem nk_is (I : Inv X pins σ H s) : ∀ {d : PyData} {k : NestedKey} {v : V} {u : Value}, Nk d k → Dp X.K H v d → RelV v u → NestedIs s.heap k u
  | _, _, _, _, .int i, .int _, r => by obtain ⟨t, rfl⟩ := r; exact .int i t
  | _, _, _, _, .bool b, .bl _, r => by cases r; exact .bool rfl
  | _, _, _, _, .none, .non, r => by cases r; exact .none
  | _, _, _, _, .text x, .str _, r => by obtain ⟨t, rfl⟩ := r; exact .text x t
  | _, _, _, _, .tup h, .tup hs ha, r => by
    cases r
    obtain ⟨its, rv, ⟨o, e, c, n, hd⟩, _⟩ := I.tuple hs
    exact .tup e c hd (nk_all I h ha rv)
theorem nk_all (I : Inv X pins σ H s) : ∀ {ds : List PyData} {ks : List NestedKey} {vs : List V} {us : List Value}, NkAll ds ks → DpAll X.K H vs ds → Vals vs us → NestedAll s.heap ks us
  | _, _, _, _, .nil, .nil, .nil => .nil
  | _, _, _, _, .cons h t, .cons a b, .cons r q => .cons (nk_is I h a r) (nk_all I t b q)
end
end
abbrev Ents := List (NestedKey × Addr × V)
def EntR (p : NestedKey × Addr × V) (q : NestedKey × Addr × Value) : Prop := p.1 = q.1 ∧ p.2.1 = q.2.1 ∧ RelV p.2.2 q.2.2
def dNO (P : Program) (w : World) (a : Addr) (xs : Ents) : HO := .ext fun h => (a == sysModules) = false ∧ ∃ (ys : List (NestedKey × Addr × Value)) (o : Obj) (es : Array DictEntry) (ep : Nat), Paired EntR xs ys ∧
  h.get? a = some o ∧ o.ExactDict ∧ o.data = .dict es ep ∧ es.toList = ys.map (entryOfKey (nestedKind P w)) ∧ (ys.map (·.1)).Nodup
structure DN (P : Program) (w : World) (K : PySem.W.Frag) (H : Hp) (a : Addr) (xs : Ents) : Prop where
  at_ : H a = some (dNO P w a xs)
  ks : ∀ x ∈ xs, ∃ d, Dp K H (.ref x.2.1) d ∧ Nk d x.1 ∧ x.1.depth ≤ 8
theorem ent_keys : ∀ {xs : Ents} {ys : List (NestedKey × Addr × Value)}, Paired EntR xs ys → ys.map (·.1) = xs.map (·.1) ∧ ys.map (·.2.1) = xs.map (·.2.1)
  | _, _, .nil => ⟨rfl, rfl⟩
  | _, _, .cons r t => by
    obtain ⟨h1, h2⟩ := ent_keys t
    simp only [List.map_cons]
    exact ⟨by rw [h1, r.1], by rw [h2, r.2.1]⟩
theorem ent_mem : ∀ {xs : Ents} {ys : List (NestedKey × Addr × Value)} {y : NestedKey × Addr × Value}, Paired EntR xs ys → y ∈ ys → ∃ x ∈ xs, x.1 = y.1 ∧ x.2.1 = y.2.1
  | _, _, _, .cons r t, h => by
    rcases List.mem_cons.mp h with rfl | h
    · exact ⟨_, List.mem_cons_self, r.1, r.2.1⟩
    · obtain ⟨x, hx, e⟩ := ent_mem t h
      exact ⟨x, List.mem_cons_of_mem _ hx, e⟩
theorem atKey_some (ys : List (NestedKey × Addr × Value)) (k : NestedKey) : (atKey ys k).isSome = decide (k ∈ ys.map (·.1)) := by
  unfold atKey
  rw [Option.isSome_map]
  induction ys with
  | nil => rfl
  | cons y r ih =>
    rw [List.find?_cons]
    by_cases h : y.1 = k
    · simp [h]
    · have h' : ¬ k = y.1 := fun e => h e.symm
      simp only [h, decide_false, List.map_cons, List.mem_cons, h', false_or]
      exact ih
section
variable {X : Cx} {pins : List (Addr × Obj)} {σ : L2.St} {H : Hp} {s : Shared}
theorem dn_heap {a : Addr} {xs : Ents} (I : Inv X pins σ H s) (h : DN X.prog X.w X.K H a xs) : (a == sysModules) = false ∧ ∃ ys, Paired EntR xs ys ∧ s.heap.DictOfH (nestedKind X.prog X.w) a ys := by
  obtain ⟨⟨ha, ys, o, es, ep, r, h1, h2, h3, h4, h5⟩, _⟩ := (show ObjOk X.prog X.w H s.heap a (dNO X.prog X.w a xs) from I.hok a _ h.at_)
  refine ⟨ha, ys, r, o, es, ep, h1, h2, h3, h4, fun y hy => ?_, h5⟩
  obtain ⟨x, hx, e1, e2⟩ := ent_mem r hy
  obtain ⟨d, h6, h7, h8⟩ := h.ks x hx
  rw [← e1, ← e2]
  exact ⟨nk_is I h7 h6 rfl, h8⟩
theorem dn_ok {P : Program} {w : World} {H : Hp} {h : Heap} {a : Addr} {xs : Ents} {ys : List (NestedKey × Addr × Value)} (ha : (a == sysModules) = false) (r : Paired EntR xs ys) (hd : h.DictOfH (nestedKind P w) a ys) : ObjOk P w H h a (dNO P w a xs) := by
  obtain ⟨o, es, ep, h1, h2, h3, h4, _, h5⟩ := hd
  refine ⟨⟨ha, ys, o, es, ep, r, h1, h2, h3, h4, h5⟩, ⟨o, h1⟩, fun g1 g2 z k => ?_⟩
  obtain ⟨ha, ys, o, es, ep, r, h1, h2⟩ := z
  exact ⟨ha, ys, o, es, ep, r, k o h1, h2⟩
/-- {} -/
def tDNewN (P : Program) (w : World) : TE := fun _ H Q => ∀ p, H p = none → Q (.ref p) (upd H p (dNO P w p []))
theorem pe_dnewN {pos : Pos} : PE X (.Dict [] [] pos) (tDNewN X.prog X.w) := ⟨fun pins s σ H Q I h =>
  wpAny_Dict_empty ⟨.ref s.heap.objs.size, _, I.laid (a := s.heap.objs.size) (o := dNO X.prog X.w s.heap.objs.size []) (t' := s.toks) (fun _ _ q => Heap.get?_push_of_some _ q) (Nat.le_refl _) (dn_ok (beq_eq_false_iff_ne.mpr (Ne.symm (Nat.ne_of_lt I.big))) .nil (Heap.DictOfH.new s.heap)), rfl, h _ (I.hok.fresh (Nat.le_refl _))⟩⟩
/-- key in d -/
def rInN (P : Program) (w : World) (K : PySem.W.Frag) : R2 := fun x y H Q => ∃ (a b : Addr) (xs : Ents) (d : PyData) (k : NestedKey), x = .ref b ∧ y = .ref a ∧ DN P w K H a xs ∧ Dp K H (.ref b) d ∧ Nk d k ∧ k.depth ≤ 8 ∧ Q (.bl (decide (k ∈ xs.map (·.1)))) H
theorem op_inN (hu : X.A.units + 64 < cLine) : OpR X (compareOp .In) (rInN X.prog X.w X.K) := by
  intro pins s σ H x y v u Q I rx ry h
  obtain ⟨a, b, xs, d, k, rfl, rfl, hD, hd, hk, h8, q⟩ := h
  cases rx
  cases ry
  obtain ⟨ha, ys, r, hm⟩ := dn_heap I hD
  refine wpAny_in_heap (knd := nestedKind X.prog X.w) (k := k) (by show X.A.units + 1 + 8 < cLine; omega) ⟨nk_is I hk hd rfl, h8⟩ ha hm ?_
  rw [atKey_some, (ent_keys r).1]
  exact ⟨.bl _, H, I.tok _, rfl, q⟩
/-- d[key] = v, a new key -/
def rSetN (P : Program) (w : World) (K : PySem.W.Frag) : V → V → V → Hp → (Hp → Prop) → Prop := fun o i v H Q => ∃ (a b : Addr) (xs : Ents) (d : PyData) (k : NestedKey), o = .ref a ∧ i = .ref b ∧ DN P w K H a xs ∧ Dp K H (.ref b) d ∧ Nk d k ∧ k.depth ≤ 8 ∧
  k ∉ xs.map (·.1) ∧ xs.length ≤ sizeLine ∧ Q (upd H a (dNO P w a (xs ++ [(k, b, v)])))
theorem Paired.snocN {α β : Type} {F : α → β → Prop} : ∀ {l : List α} {m : List β} {x : α} {y : β}, Paired F l m → F x y → Paired F (l ++ [x]) (m ++ [y])
  | _, _, _, _, .nil, h => .cons h .nil
  | _, _, _, _, .cons r t, h => .cons r (Paired.snocN t h)
theorem set_newN (hu : X.A.units + 64 < cLine) : PSet X (rSetN X.prog X.w X.K) := by
  intro pins s σ H o i v ov iv u Q I ro ri rv h
  obtain ⟨a, b, xs, d, k, rfl, rfl, hD, hd, hk, h8, hno, hz, q⟩ := h
  cases ro
  cases ri
  obtain ⟨ha, ys, r, hm⟩ := dn_heap I hD
  refine wpAny_setItem_heap (knd := nestedKind X.prog X.w) (k := k) (by show X.A.units + 1 + 8 < cLine; omega) ⟨nk_is I hk hd rfl, h8⟩ hm (fun h' hm' hs => ⟨_, ?_, q⟩) (by rw [← Paired.length r]; exact hz)
  have hat : atKey ys k = none := by
    have := atKey_some ys k
    rw [(ent_keys r).1, decide_eq_false hno] at this
    cases e : atKey ys k with
    | none => rfl
    | some z => rw [e] at this; cases this
  rw [storedH_new hat] at hm'
  have new : ObjOk X.prog X.w (upd H a (dNO X.prog X.w a (xs ++ [(k, b, v)]))) h' a (dNO X.prog X.w a (xs ++ [(k, b, v)])) := dn_ok ha (Paired.snocN r ⟨rfl, rfl, rv⟩) hm'
  refine I.write (x := a) (e := a) (by rw [hD.at_]; exact trivial) (.inl rfl) (fun c o hc e => (hs.2 c hc).trans e) ?_ new
  obtain ⟨o, es, ep, e, _⟩ := hm'
  exact ⟨o, e⟩
theorem ent_at : ∀ {xs : Ents} {ys : List (NestedKey × Addr × Value)} {x : NestedKey × Addr × V}, Paired EntR xs ys → (xs.map (·.1)).Nodup → x ∈ xs → ∃ p, atKey ys x.1 = some p ∧ RelV x.2.2 p.2
  | x0 :: _, y0 :: _, x, .cons r t, hn, h => by
    unfold atKey
    rw [List.find?_cons]
    by_cases e : y0.1 = x.1
    · rw [decide_eq_true e]
      refine ⟨y0.2, rfl, ?_⟩
      rcases List.mem_cons.mp h with rfl | h
      · exact r.2.2
      · exfalso
        rw [List.map_cons, List.nodup_cons] at hn
        exact hn.1 (by rw [r.1, e]; exact List.mem_map.mpr ⟨x, h, rfl⟩)
    · rw [decide_eq_false e]
      rcases List.mem_cons.mp h with rfl | h
      · exact absurd r.1.symm e
      · rw [List.map_cons, List.nodup_cons] at hn
        exact ent_at t hn.2 h
/-- d[key], a key that is there -/
def tDGetN (P : Program) (w : World) (K : PySem.W.Frag) (td ty : TE) : TE := fun σ H Q => td σ H fun x H1 => ty σ H1 fun y H2 => ∃ (a b : Addr) (xs : Ents) (d : PyData) (z : NestedKey × Addr × V), x = .ref a ∧ y = .ref b ∧ DN P w K H2 a xs ∧ Dp K H2 (.ref b) d ∧ Nk d z.1 ∧ z.1.depth ≤ 8 ∧ z ∈ xs ∧ Q z.2.2 H2
theorem pe_dgetN {o i : Expr} {td ty : TE} {pos : Pos} (hu : X.A.units + 64 < cLine) (ho : PE X o td) (hi : PE X i ty) (hs : NoSl i) : PE X (.Subscript o i pos) (tDGetN X.prog X.w X.K td ty) := by
  refine ⟨fun pins s σ H Q I h => ?_⟩
  refine subD_of PySem.F.slot_dict_getitem.lookup hs (thn (ho.run pins s σ H _ I h) fun u s1 q => ?_)
  obtain ⟨x, H1, I1, rx, q1⟩ := q
  refine thn (hi.run pins s1 σ H1 _ I1 q1) fun iv s2 q => ?_
  obtain ⟨y, H2, I2, ry, a, b, xs, d, z, ex, ey, hD, hd, hk, h8, hz, q2⟩ := q
  subst ex
  subst ey
  obtain rfl : u = Value.ref a := rx
  obtain rfl : iv = Value.ref b := ry
  obtain ⟨ha, ys, r, hm⟩ := dn_heap I2 hD
  have hn : (xs.map (·.1)).Nodup := by
    obtain ⟨_, _, _, _, _, _, _, _, hn⟩ := hm
    rw [(ent_keys r).1] at hn
    exact hn
  obtain ⟨p, hp, rp⟩ := ent_at r hn hz
  exact ⟨hm.typeIs, wpAny_getItem_heap (knd := nestedKind X.prog X.w) (k := z.1) (by show X.A.units + 1 + 8 < cLine; omega) ⟨nk_is I2 hk hd rfl, h8⟩ hm hp ⟨z.2.2, H2, I2.tok _, rp, q2⟩⟩
end
end Sb

namespace Sb
open PySem PySem.Spec PyProof.Rows L2
/-! ### match over a text: case "a" | "b": .. case "c": .. -/
/-- a pattern of written texts: whether x is one of them -/
structure PatS (X : Cx) (p : Pattern) (ls : List Str) : Prop where
  run : ∀ (pins : List (Addr × Obj)) (s : Shared) (σ : L2.St) (H : Hp) (x : Str) (t : Tok) (Q : Option (List (Str × Value)) → Shared → Prop), Inv X pins σ H s →
    (∀ s', Inv X pins σ H s' → Q (if decide (x ∈ ls) = true then some [] else none) s') → wpAny (model X.prog X.w) X.A (matchPattern p X.env (.str x t)) Q X.xe s
structure CasesS (X : Cx) (cs : List MatchCase) (tc : Str → TS) : Prop where
  run : ∀ (pins : List (Addr × Obj)) (s : Shared) (σ : L2.St) (H : Hp) (D : Ends) (x : Str) (t : Tok) (b : Bool), Inv X pins σ H s → tc x D σ H →
    wpAny (model X.prog X.w) X.A (matchCases cs X.env (.str x t) b) (SP X pins D) X.xe s
section
variable {X : Cx}
theorem pat_val {y : Str} {j : Nat} {p1 p2 : Pos} : PatS X (.MatchValue (.Constant (.str y) j p1) p2) [y] := by
  refine ⟨fun pins s σ H x t Q I h => ?_⟩
  refine wpAny_matchPattern_Value (Calls.Constant_str (P.eq_str (wpAny_truthy_bool ?_)))
  have h' := h { s with toks := s.toks + 1 } (I.tok _)
  have e : (x.cps.toList == y.cps.toList) = decide (x ∈ [y]) := by
    by_cases q : x = y
    · subst q; simp
    · have : ¬ x.cps.toList = y.cps.toList := fun z => q (TL.ext_tl z)
      simp [q]
      intro z
      exact q (TL.ext_tl (congrArg Array.toList z))
  rw [e]
  cases hd : decide (x ∈ [y]) with
  | true => rw [hd] at h'; exact h'
  | false => rw [hd] at h'; exact h'
theorem pat_or {p q : Pattern} {ls ms : List Str} {pos : Pos} (hp : PatS X p ls) (hq : PatS X q ms) (hn : namesOfAll [p] = [] := by rfl) : PatS X (.MatchOr [p, q] pos) (ls ++ ms) := by
  refine ⟨fun pins s σ H x t Q I h => wpAny_matchPattern_Or (wpAny_matchFirst_cons (hp.run pins s σ H x t _ I fun s1 I1 => ?_))⟩
  have e : ((namesOfAll ([p, q].take 1)).filterMap fun n => (([] : List (Str × Value)).lookup n).map (n, ·)) = [] := by
    show ((namesOfAll [p]).filterMap _) = []
    rw [hn]
    rfl
  by_cases hl : x ∈ ls
  · rw [if_pos (decide_eq_true hl)]
    have h' := h s1 I1
    rw [if_pos (decide_eq_true (List.mem_append_left _ hl))] at h'
    show Q (some ((namesOfAll ([p, q].take 1)).filterMap fun n => (([] : List (Str × Value)).lookup n).map (n, ·))) s1
    rw [e]
    exact h'
  · rw [if_neg (fun z => hl (of_decide_eq_true z))]
    refine wpAny_matchFirst_cons (hq.run pins s1 σ H x t _ I1 fun s2 I2 => ?_)
    have h' := h s2 I2
    by_cases hm : x ∈ ms
    · rw [if_pos (decide_eq_true hm)]
      rw [if_pos (decide_eq_true (List.mem_append_right _ hm))] at h'
      show Q (some ((namesOfAll ([p, q].take 1)).filterMap fun n => (([] : List (Str × Value)).lookup n).map (n, ·))) s2
      rw [e]
      exact h'
    · rw [if_neg (fun z => hm (of_decide_eq_true z))]
      rw [if_neg (fun z => by have := of_decide_eq_true z; rcases List.mem_append.mp this with c | c; exact hl c; exact hm c)] at h'
      exact wpAny_matchFirst_nil h'
theorem cases_nil : CasesS X [] (fun _ => tNext) := ⟨fun pins s σ H D x t b I h => wpAny_matchCases_nil ⟨σ, H, I, h⟩⟩
theorem cases_cons {p : Pattern} {ls : List Str} {body : List Stmt} {tb : TS} {cs : List MatchCase} {tc : Str → TS} (hp : PatS X p ls) (hb : PSs X body tb) (hc : CasesS X cs tc) :
    CasesS X (⟨p, none, body⟩ :: cs) (fun x D σ H => if decide (x ∈ ls) = true then tb D σ H else tc x D σ H) := by
  refine ⟨fun pins s σ H D x t b I h => wpAny_matchCases_cons (hp.run pins s σ H x t _ I fun s' I' => ?_)⟩
  cases hd : decide (x ∈ ls) with
  | true =>
    rw [hd] at h
    exact wpAny_assignInOrder_none (hb.run pins s' σ H D I' h)
  | false =>
    rw [hd] at h
    exact hc.run pins s' σ H D x t false I' h
theorem ps_matchS {e : Expr} {te : TE} {cs : List MatchCase} {tc : Str → TS} {pos : Pos} (he : PE X e te) (hc : CasesS X cs tc) :
    PS X (.Match e cs pos) (fun D σ H => te σ H fun v H1 => ∃ x, v = .str x ∧ tc x D σ H1) := by
  refine ⟨fun pins s σ H D I h => wpAny_Match (thn (he.run pins s σ H _ I h) fun v s1 q => ?_)⟩
  obtain ⟨v', H1, I1, r1, x, e1, q⟩ := q
  subst e1
  obtain ⟨t, rfl⟩ := r1
  exact hc.run pins s1 σ H1 D x t true I1 q
end
end Sb

namespace Sb
open PySem PySem.Spec PyProof.Rows L2
/-! ### a state as a key: a tuple of four tuples -/
def natsT (l : List Nat) : PyData := .tuple (l.map natD)
def boolsT (l : List Bool) : PyData := .tuple (l.map PyData.bool)
def sitT (s : Sit) : PyData := .tuple [natsT s.cs, natsT s.ns, boolsT s.hs, natsT s.sh]
def nk1 (l : List Nat) : NestedKey := .tup (l.map fun n : Nat => .num n)
def nk2 (l : List Bool) : NestedKey := .tup (l.map fun b : Bool => .num (if b = true then 1 else 0))
def nkOf (s : Sit) : NestedKey := .tup [nk1 s.cs, nk1 s.ns, nk2 s.hs, nk1 s.sh]
theorem nk_nats : ∀ l : List Nat, NkAll (l.map natD) (l.map fun n : Nat => .num n)
  | [] => .nil
  | n :: l => .cons (.int _) (nk_nats l)
theorem nk_bools : ∀ l : List Bool, NkAll (l.map PyData.bool) (l.map fun b : Bool => .num (if b = true then 1 else 0))
  | [] => .nil
  | b :: l => .cons (.bool b) (nk_bools l)
theorem nk_sit (s : Sit) : Nk (sitT s) (nkOf s) := .tup (.cons (.tup (nk_nats _)) (.cons (.tup (nk_nats _)) (.cons (.tup (nk_bools _)) (.cons (.tup (nk_nats _)) .nil))))
theorem nk1_inj : ∀ {l m : List Nat}, (l.map fun n : Nat => NestedKey.num n) = (m.map fun n : Nat => NestedKey.num n) → l = m
  | [], [], _ => rfl
  | [], _ :: _, h => by cases h
  | _ :: _, [], h => by cases h
  | a :: l, b :: m, h => by
    rw [List.map_cons, List.map_cons] at h
    injection h with h1 h2
    injection h1 with h1
    rw [nk1_inj h2, show a = b by omega]
theorem nk2_inj : ∀ {l m : List Bool}, (l.map fun b : Bool => NestedKey.num (if b = true then 1 else 0)) = (m.map fun b : Bool => NestedKey.num (if b = true then 1 else 0)) → l = m
  | [], [], _ => rfl
  | [], _ :: _, h => by cases h
  | _ :: _, [], h => by cases h
  | a :: l, b :: m, h => by
    rw [List.map_cons, List.map_cons] at h
    injection h with h1 h2
    injection h1 with h1
    rw [nk2_inj h2]
    cases a <;> cases b <;> first | rfl | (simp at h1)
theorem nkOf_inj {s t : Sit} (h : nkOf s = nkOf t) : s = t := by
  unfold nkOf nk1 nk2 at h
  injection h with h
  injection h with h1 h
  injection h with h2 h
  injection h with h3 h
  injection h with h4 h
  injection h1 with h1
  injection h2 with h2
  injection h3 with h3
  injection h4 with h4
  obtain ⟨c, n, b, e⟩ := s
  obtain ⟨c', n', b', e'⟩ := t
  dsimp only at h1 h2 h3 h4
  rw [nk1_inj h1, nk1_inj h2, nk2_inj h3, nk1_inj h4]
theorem nk_depth (s : Sit) : (nkOf s).depth ≤ 8 := by
  have a : ∀ l : List Nat, NestedKey.depthAll (l.map fun n : Nat => NestedKey.num n) ≤ 1 := by
    intro l
    induction l with
    | nil => decide
    | cons n l ih => simp only [List.map_cons, NestedKey.depthAll, NestedKey.depth]; omega
  have b : ∀ l : List Bool, NestedKey.depthAll (l.map fun b : Bool => NestedKey.num (if b = true then 1 else 0)) ≤ 1 := by
    intro l
    induction l with
    | nil => decide
    | cons n l ih => simp only [List.map_cons, NestedKey.depthAll, NestedKey.depth]; omega
  have h1 := a s.cs
  have h2 := a s.ns
  have h3 := b s.hs
  have h4 := a s.sh
  unfold nkOf nk1 nk2
  simp only [NestedKey.depth, NestedKey.depthAll]
  omega
/-! ### the dict of the states met -/
structure DK (P : Program) (w : World) (K : PySem.W.Frag) (G H : Hp) (a : Addr) (xs : Ents) : Prop where
  at_ : H a = some (dNO P w a xs)
  out : G a = none
  ks : ∀ x ∈ xs, ∃ d, Dp K G (.ref x.2.1) d ∧ Nk d x.1 ∧ x.1.depth ≤ 8
section
variable {P : Program} {w : World} {K : PySem.W.Frag} {G G' H H' : Hp} {a b p : Addr} {xs : Ents} {o : HO}
theorem DK.dn (h : DK P w K G H a xs) (s : Same G H) : DN P w K H a xs := ⟨h.at_, fun x hx => by
  obtain ⟨d, h1, h2⟩ := h.ks x hx
  exact ⟨d, Dp.mono s _ _ h1, h2⟩⟩
theorem DK.grow (h : DK P w K G H a xs) (g : Same G G') (hp : ∀ o, H a = some o → H' a = some o) (n' : G' a = none) : DK P w K G' H' a xs := ⟨hp _ h.at_, n', fun x hx => by
  obtain ⟨d, h1, h2⟩ := h.ks x hx
  exact ⟨d, Dp.mono g _ _ h1, h2⟩⟩
theorem DK.put {s : Sit} {v : V} (h : DK P w K G H a xs) (hb : Dp K G (.ref b) (sitT s)) : DK P w K G (upd H a (dNO P w a (xs ++ [(nkOf s, b, v)]))) a (xs ++ [(nkOf s, b, v)]) := by
  refine ⟨upd_same, h.out, fun x hx => ?_⟩
  rcases List.mem_append.mp hx with h1 | h1
  · exact h.ks x h1
  · rw [List.mem_singleton.mp h1]
    exact ⟨_, hb, nk_sit s, nk_depth s⟩
end
/-- the states met so far, with what is stored beside each -/
def Met (x : Pl) (xs : Ents) (n : Nat) (f : Nat → V) : Prop := xs.length = n ∧ ∀ j, j < n → ∃ b, xs[j]? = some (nkOf (sitAt x j), b, f j)
theorem Met.keys {x : Pl} {xs : Ents} {n : Nat} {f : Nat → V} (h : Met x xs n f) (s : Sit) : nkOf s ∈ xs.map (·.1) ↔ ∃ j, j < n ∧ sitAt x j = s := by
  constructor
  · intro hm
    obtain ⟨e, he, h1⟩ := List.mem_map.mp hm
    obtain ⟨j, hj⟩ := List.getElem?_of_mem he
    have hjn : j < n := by rw [← h.1]; exact (List.getElem?_eq_some_iff.mp hj).1
    obtain ⟨b, hb⟩ := h.2 j hjn
    rw [hj] at hb
    cases hb
    exact ⟨j, hjn, nkOf_inj h1⟩
  · rintro ⟨j, hj, rfl⟩
    obtain ⟨b, hb⟩ := h.2 j hj
    exact List.mem_map.mpr ⟨_, List.mem_of_getElem? hb, rfl⟩
theorem Met.snoc {x : Pl} {xs : Ents} {n : Nat} {f : Nat → V} {b : Addr} (h : Met x xs n f) : Met x (xs ++ [(nkOf (sitAt x n), b, f n)]) (n + 1) f := by
  refine ⟨by rw [List.length_append, h.1]; rfl, fun j hj => ?_⟩
  by_cases hjn : j < n
  · obtain ⟨b', hb⟩ := h.2 j hjn
    exact ⟨b', by rw [List.getElem?_append_left (by rw [h.1]; exact hjn)]; exact hb⟩
  · have : j = n := by omega
    subst this
    exact ⟨b, by rw [List.getElem?_append_right (by rw [h.1]; exact Nat.le_refl _), h.1, Nat.sub_self]; rfl⟩
theorem Met.nil {x : Pl} {f : Nat → V} : Met x [] 0 f := ⟨rfl, fun j hj => by omega⟩
/-- no state twice among the first n -/
def Nod (x : Pl) (n : Nat) : Prop := ∀ j k, j < n → k < n → sitAt x j = sitAt x k → j = k
theorem Nod.zero {x : Pl} : Nod x 0 := fun j k h => by omega
theorem Nod.succ {x : Pl} {n : Nat} (h : Nod x n) (hn : ¬ ∃ j, j < n ∧ sitAt x j = sitAt x n) : Nod x (n + 1) := fun j k hj hk e => by
  by_cases h1 : j < n
  · by_cases h2 : k < n
    · exact h j k h1 h2 e
    · have : k = n := by omega
      subst this
      exact absurd ⟨j, h1, e⟩ hn
  · have : j = n := by omega
    subst this
    by_cases h2 : k < j
    · exact absurd ⟨k, h2, e.symm⟩ hn
    · omega
/-- the plan of two waits -/
def waits (x : Pl) : Pl := ⟨x.shelf, x.a, x.b, [⟨4, none⟩], [⟨4, none⟩]⟩
theorem waits_ok {x : Pl} (h : x.Ok) : (waits x).Ok := by
  have ok : StepsOk [⟨4, none⟩] := ⟨by decide, by decide, fun s hs => by
    rw [List.mem_singleton.mp hs]
    exact ⟨by decide, fun _ => rfl, fun h => absurd h (by decide)⟩⟩
  exact ⟨h.c3, h.c12, h.b3, h.ha, h.hb, h.ne, ok, ok⟩
theorem waits_st (x : Pl) (i : Nat) (s : Sit) (h : s.ns.getD i 0 = 0) : stOf (waits x) s i = ⟨4, none⟩ := by
  unfold stOf
  rw [h]
  unfold stepsOf waits
  split <;> rfl
theorem waits_len (x : Pl) (i : Nat) : (stepsOf (waits x) i).length = 1 := by
  unfold stepsOf waits
  split <;> rfl
theorem waits_act (x : Pl) (i : Nat) (s : Sit) (h : s.ns.getD i 0 = 0) : actP (waits x) s i = (4, s) := by
  have e := waits_st x i s h
  rw [act_else (by rw [e]; decide)]
  unfold finP nextP
  rw [if_neg (by unfold jumpP; rw [e]; simp), waits_len, e, h]
  have : s.ns.set i ((0 + 1) % 1) = s.ns := by
    have h2 : (0 + 1) % 1 = s.ns.getD i 0 := h.symm
    rw [h2, set_same]
  rw [this]
theorem waits_cyc (x : Pl) : Cyc (waits x) 0 1 := ⟨by decide, by
  show sit0 (waits x) = (tickP (waits x) (sit0 (waits x))).2
  unfold tickP
  dsimp only
  rw [waits_act x 0 _ rfl]
  dsimp only
  rw [waits_act x 1 _ rfl], fun j k hj hk _ => by omega⟩
end Sb

namespace Sb
open PySem PySem.Spec PyProof.Rows L2 TL
/-! ### four lists of one's own, the parts of a state -/
structure Wk (G H0 H : Hp) (c n b e : Addr) (s : Sit) : Prop where
  pt : Pt G H0 G H
  gh : Same G H0
  c0 : H0 c = none
  n0 : H0 n = none
  b0 : H0 b = none
  e0 : H0 e = none
  cn : c ≠ n
  cb : c ≠ b
  ce : c ≠ e
  nb : n ≠ b
  ne : n ≠ e
  be : b ≠ e
  hc : H c = some (.lst (nV s.cs))
  hn : H n = some (.lst (nV s.ns))
  hb : H b = some (.lst (bV s.hs))
  he : H e = some (.lst (nV s.sh))
section
variable {G H0 H : Hp} {c n b e p l t : Addr} {s : Sit} {K : PySem.W.Frag}
theorem Wk.lay (h : Wk G H0 H c n b e s) (np : H p = none) (o : HO) : Wk G H0 (upd H p o) c n b e s :=
  { h with
    pt := h.pt.lay np o
    hc := by rw [upd_ne (ne_of_none h.hc np)]; exact h.hc
    hn := by rw [upd_ne (ne_of_none h.hn np)]; exact h.hn
    hb := by rw [upd_ne (ne_of_none h.hb np)]; exact h.hb
    he := by rw [upd_ne (ne_of_none h.he np)]; exact h.he }
theorem Wk.setC (h : Wk G H0 H c n b e s) (l : List Nat) : Wk G H0 (upd H c (.lst (nV l))) c n b e ⟨l, s.ns, s.hs, s.sh⟩ :=
  { h with
    pt := h.pt.put h.c0 (Same.free h.gh h.c0) _
    hc := upd_same
    hn := by rw [upd_ne h.cn.symm]; exact h.hn
    hb := by rw [upd_ne h.cb.symm]; exact h.hb
    he := by rw [upd_ne h.ce.symm]; exact h.he }
theorem Wk.setN (h : Wk G H0 H c n b e s) (l : List Nat) : Wk G H0 (upd H n (.lst (nV l))) c n b e ⟨s.cs, l, s.hs, s.sh⟩ :=
  { h with
    pt := h.pt.put h.n0 (Same.free h.gh h.n0) _
    hc := by rw [upd_ne h.cn]; exact h.hc
    hn := upd_same
    hb := by rw [upd_ne h.nb.symm]; exact h.hb
    he := by rw [upd_ne h.ne.symm]; exact h.he }
theorem Wk.setB (h : Wk G H0 H c n b e s) (l : List Bool) : Wk G H0 (upd H b (.lst (bV l))) c n b e ⟨s.cs, s.ns, l, s.sh⟩ :=
  { h with
    pt := h.pt.put h.b0 (Same.free h.gh h.b0) _
    hc := by rw [upd_ne h.cb]; exact h.hc
    hn := by rw [upd_ne h.nb]; exact h.hn
    hb := upd_same
    he := by rw [upd_ne h.be.symm]; exact h.he }
theorem Wk.setE (h : Wk G H0 H c n b e s) (l : List Nat) : Wk G H0 (upd H e (.lst (nV l))) c n b e ⟨s.cs, s.ns, s.hs, l⟩ :=
  { h with
    pt := h.pt.put h.e0 (Same.free h.gh h.e0) _
    hc := by rw [upd_ne h.ce]; exact h.hc
    hn := by rw [upd_ne h.ne]; exact h.hn
    hb := by rw [upd_ne h.be]; exact h.hb
    he := upd_same }
/-- the four become data -/
theorem Wk.data (h : Wk G H0 H c n b e s) : ∃ G1, Pt G H0 G1 H ∧ SqL K G1 c (nV s.cs) ∧ SqL K G1 n (nV s.ns) ∧ SqL K G1 b (bV s.hs) ∧ SqL K G1 e (nV s.sh) := by
  have p1 := h.pt.freeze h.c0 h.hc
  have p2 := p1.freeze h.n0 h.hn
  have p3 := p2.freeze h.b0 h.hb
  have p4 := p3.freeze h.e0 h.he
  refine ⟨_, p4, SqL.of ?_, SqL.of ?_, SqL.of ?_, SqL.of ?_⟩
  · rw [upd_ne h.ce, upd_ne h.cb, upd_ne h.cn, upd_same]
  · rw [upd_ne h.ne, upd_ne h.nb, upd_same]
  · rw [upd_ne h.be, upd_same]
  · rw [upd_same]
end
def lrV : List V := [.str "left", .str "right"]
theorem lr_in : ∀ {w : Nat}, w < 8 → inV (.str (wS w)) lrV = decide (w < 2) := by
  have h : ∀ w : _root_.Fin 8, inV (.str (wS w.val)) lrV = decide (w.val < 2) := by decide +kernel
  exact fun {w} hw => h ⟨w, hw⟩
theorem lr_flat : lrV.all flatV = true := by decide +kernel
theorem wS_eq {w k : Nat} (hw : w < 8) (hk : k < 8) : decide (V.str (wS w) = V.str (wS k)) = decide (w = k) := by
  have h : ∀ w k : _root_.Fin 8, decide (V.str (wS w.val) = V.str (wS k.val)) = decide (w.val = k.val) := by decide +kernel
  exact h ⟨w, hw⟩ ⟨k, hk⟩
theorem ite_w {w : Nat} (k : Nat) {A B : Prop} (hw : w < 8) (h1 : w = k → A) (h2 : w ≠ k → B) (hk : k < 8 := by decide) : if decide (V.str (wS w) = V.str (wS k)) = true then A else B := by
  rw [wS_eq hw hk]
  exact ite2 (fun h => h1 (of_decide_eq_true h)) (fun h => h2 fun q => h (decide_eq_true q))
structure spEmpty (K : PySem.W.Frag) (vs : List V) (H : Hp) (Q : VK) (E : XK) : Prop where
  ex : ∃ (G : Hp) (v : V) (x : Pl), vs = [v] ∧ Dp K G v x.D ∧ Pure G H Q fun G' v => Dp K G' v (sitL (sit0 x))
structure spLAct (K : PySem.W.Frag) (vs : List V) (H : Hp) (Q : VK) (E : XK) : Prop where
  ex : ∃ (G : Hp) (v u : V) (x : Pl) (s : Sit) (i : Nat), vs = [v, u, .int i] ∧ Dp K G v x.D ∧ Dp K G u (sitL s) ∧ x.Ok ∧ SitOk x s ∧ i < 2 ∧ Pure G H Q fun G' v => Dp K G' v (.tuple [.str (doS (actP x s i).1), sitL (actP x s i).2])
structure spLTick (K : PySem.W.Frag) (vs : List V) (H : Hp) (Q : VK) (E : XK) : Prop where
  ex : ∃ (G : Hp) (v u : V) (x : Pl) (s : Sit), vs = [v, u] ∧ Dp K G v x.D ∧ Dp K G u (sitL s) ∧ x.Ok ∧ SitOk x s ∧ Pure G H Q fun G' v => Dp K G' v (.tuple [wordsD (tickP x s).1, sitL (tickP x s).2])
section
variable {P : Program} {w : World} {K : PySem.W.Frag} {mg : Str → Option Value} {base : Heap} {a : Ad}
theorem ok_l_empty (T : Txt K mg a) : FnOk P w K mg base CX0 1 a.f_l_empty a.d_l_empty ["_law_plan_here"] (spEmpty K) := by
  refine T.F_l_empty.ok sc_l_empty (fun vs H Q E h => ?_) (fun cdv A outer s H vs Q E hr h => ?_)
  · obtain ⟨⟨G, v, x, rfl, _⟩⟩ := h
    rfl
  · obtain ⟨⟨G, v, x, rfl, hp, hGH, k⟩⟩ := h
    refine ⟨_, (pss_one (ps_ret (pe_lst (pa_cons (pe_callTy call_list_of (by rfl) T.z_list (by decide +kernel) (pa_cons (pe_ix ix_tup (pv 0) pe_int (fun _ _ => rfl)) pa_nil)) (pa_cons (pe_lst (pa_cons pe_int (pa_cons pe_int pa_nil))) (pa_cons (pe_lst (pa_cons pe_bl (pa_cons pe_bl pa_nil))) (pa_cons (pe_callTy call_list_of (by rfl) T.z_list (by decide +kernel) (pa_cons (pe_ix ix_tup (pv 0) pe_int (fun _ _ => rfl)) pa_nil)) pa_nil))))))), ?_⟩
    obtain ⟨t, sh, st, bo, l1, l2, xs1, xs2, rfl, ht, hsh, hst, _⟩ := plan_inv hp
    refine ⟨_, rfl, t, _, _, .ref st, rfl, rfl, Same.seqT hGH ht, at_of (j := 1) rfl rfl, st, _, rfl, .inr (Same.seqT hGH hst), fun c hc => ?_⟩
    have p1 := (Pt.start hGH).new hc (.lst [.int x.a, .int x.b])
    refine ⟨(by show 2 ≤ sizeLine; decide), fun n hn => ?_⟩
    have p2 := p1.new hn (.lst [.int 0, .int 0])
    refine ⟨(by show 2 ≤ sizeLine; decide), fun b hb => ?_⟩
    have p3 := p2.new hb (.lst [.bl false, .bl false])
    refine ⟨_, rfl, t, _, _, .ref sh, rfl, rfl, Same.seqT (p3.g.trans p3.s) ht, at_of (j := 0) rfl rfl, sh, _, rfl, .inr (Same.seqT (p3.g.trans p3.s) hsh), fun e he => ?_⟩
    have p4 := p3.new he (.lst (nV x.shelf))
    refine ⟨(by show 4 ≤ sizeLine; decide), fun l hl => ?_⟩
    have p5 := p4.new hl (.lst [.ref c, .ref n, .ref b, .ref e])
    have g2 := same_new (o := .lst [.int 0, .int 0]) (p1.freeG hn)
    have g3 := same_new (o := .lst [.bl false, .bl false]) (p2.freeG hb)
    have g4 := same_new (o := .lst (nV x.shelf)) (p3.freeG he)
    have g5 := same_new (o := .lst [.ref c, .ref n, .ref b, .ref e]) (p4.freeG hl)
    refine k _ _ _ p5.ext p5.sm (sitL_mk (s := sit0 x) (SqL.of upd_same) ?_ ?_ ?_ ?_)
    · exact (((g2.trans g3).trans g4).trans g5).seq (SqL.of upd_same)
    · exact ((g3.trans g4).trans g5).seq (SqL.of upd_same)
    · exact (g4.trans g5).seq (SqL.of upd_same)
    · exact g5.seq (SqL.of upd_same)
end
end Sb

namespace Sb
open PySem PySem.Spec PyProof.Rows L2 TL
def partsV (s : Sit) : List (List V) := [nV s.cs, nV s.ns, bV s.hs, nV s.sh]
theorem mod_nat (n m : Nat) : ((n : Int) + 1) % (m : Int) = (((n + 1) % m : Nat) : Int) := by
  rw [Int.natCast_emod]
  push_cast
  rfl
section
variable {P : Program} {w : World} {K : PySem.W.Frag} {mg : Str → Option Value} {base : Heap} {a : Ad}
theorem ok_l_act (T : Txt K mg a) : FnOk P w K mg base CX0 1 a.f_l_act a.d_l_act ["_law_plan_here", "_law_state", "_law_number"] (spLAct K) := by
  refine T.F_l_act.ok sc_l_act (fun vs H Q E h => ?_) (fun cdv A outer s0 H vs Q E hr h => ?_)
  · obtain ⟨⟨G, v, u, x, s, i, rfl, _⟩⟩ := h
    rfl
  · obtain ⟨⟨G, v, u, x, s, i, rfl, hp, hu, hx, ho, hi, hGH, k⟩⟩ := h
    refine ⟨_, (pss_cons (ps_asg (pe_lc (own := [("_law_part", 7)]) (g := gName 7) (te := (tCB (fun xs H Q => ∃ p ys, xs = [.ref p] ∧ (SqL K H p ys ∨ SqT K H p ys) ∧ ∀ l, H l = none → Q (.ref l) (upd H l (.lst ys))) (tCons (tVar 7) tNil))) (tt := tYes) rfl sc_l_act.nd (pi_list (pv 1)) (blkOk_by (own := [("_law_part", 7)]) (N := ["_law_plan_here", "_law_state", "_law_number", "_law_places", "_law_nexts", "_law_holds", "_law_shelf", "_law_part", "_law_word", "_law_goal", "_law_here", "_law_there", "_law_jumps"]) (sc := (defScope s_l_act)) (by decide +kernel)) (fun _ _ _ _ _ => (pg_name (i := 7) sc_l_act.nd rfl (Or.inl rfl))) (fun _ _ _ _ _ => pts_nil) (fun _ _ _ _ _ => by exact (pe_callTy call_list_of (by rfl) T.z_list (by decide +kernel) (pa_cons (pv 7) pa_nil)))) (pg_lst (by rfl) (pgs_cons (pg_name (i := 3) sc_l_act.nd rfl (Or.inl rfl)) (pgs_cons (pg_name (i := 4) sc_l_act.nd rfl (Or.inl rfl)) (pgs_cons (pg_name (i := 5) sc_l_act.nd rfl (Or.inl rfl)) (pgs_cons (pg_name (i := 6) sc_l_act.nd rfl (Or.inl rfl)) pgs_nil))))))
      (pss_cons (ps_asg (pe_ix ix_list (pe_ix ix_list (pe_ix ix_tup (pv 0) pe_int (fun _ _ => rfl)) (pv 2) (fun _ _ => rfl)) (pe_ix ix_list (pv 4) (pv 2) (fun _ _ => rfl)) (fun _ _ => rfl)) (pg_tup (by rfl) (pgs_cons (pg_name (i := 8) sc_l_act.nd rfl (Or.inl rfl)) (pgs_cons (pg_name (i := 9) sc_l_act.nd rfl (Or.inl rfl)) pgs_nil))))
      (pss_cons (ps_set (i := 10) sc_l_act.nd rfl (Or.inl rfl) (pe_ix ix_list (pv 3) (pv 2) (fun _ _ => rfl)))
      (pss_cons (ps_if (pt_cmpR op_in_seq (pv 8) (pe_lst (pa_cons pe_str (pa_cons pe_str pa_nil))) rfl) (pss_cons (ps_set (i := 11) sc_l_act.nd rfl (Or.inl rfl) (pe_op op_add (pv 10) (pe_ifExp (pt_cmpR op_eq (pv 8) pe_str (nomark _)) pe_int (pe_op op_sub pe_int pe_int))))
      (pss_cons (ps_if (PW.pt (pw_or (pt_not (pt_chain op_le op_lt pe_int (pv 11) (pe_callB call_len_seq (by rfl) T.z_len (by decide +kernel) (pa_cons (pv 6) pa_nil)))) (pw_or1 (pt_cmpR op_eq (pv 11) (pe_ix ix_list (pv 3) (pe_op op_sub pe_int (pv 2)) (fun _ _ => rfl)) (nomark _))))) (pss_one (ps_ret (pe_tup (pa_cons pe_str (pa_cons (pv 1) pa_nil))))) pss_nil)
      (pss_one (ps_asg (pv 11) (pg_sub (pv 3) (pv 2) set_list))))) pss_nil)
      (pss_cons (ps_if (pt_cmpR op_eq (pv 8) pe_str (nomark _)) (pss_cons (ps_if (PW.pt (pw_or (pt_val (pe_ix ix_list (pv 5) (pv 2) (fun _ _ => rfl))) (pw_or1 (pt_cmpR op_eq (pe_ix ix_list (pv 6) (pv 10) (fun _ _ => rfl)) pe_int (nomark _))))) (pss_one (ps_ret (pe_tup (pa_cons pe_str (pa_cons (pv 1) pa_nil))))) pss_nil)
      (pss_one (ps_asg (pe_tup (pa_cons pe_bl (pa_cons (pe_op op_sub (pe_ix ix_list (pv 6) (pv 10) (fun _ _ => rfl)) pe_int) pa_nil))) (pg_tup (by rfl) (pgs_cons (pg_sub (pv 5) (pv 2) set_list) (pgs_cons (pg_sub (pv 6) (pv 10) set_list) pgs_nil)))))) pss_nil)
      (pss_cons (ps_if (pt_cmpR op_eq (pv 8) pe_str (nomark _)) (pss_cons (ps_if (PW.pt (pw_or (pt_not (pt_val (pe_ix ix_list (pv 5) (pv 2) (fun _ _ => rfl)))) (pw_or1 (pt_cmpR op_gt (pe_ix ix_list (pv 6) (pv 10) (fun _ _ => rfl)) pe_int (nomark _))))) (pss_one (ps_ret (pe_tup (pa_cons pe_str (pa_cons (pv 1) pa_nil))))) pss_nil)
      (pss_one (ps_asg (pe_tup (pa_cons pe_bl (pa_cons (pe_op op_add (pe_ix ix_list (pv 6) (pv 10) (fun _ _ => rfl)) pe_int) pa_nil))) (pg_tup (by rfl) (pgs_cons (pg_sub (pv 5) (pv 2) set_list) (pgs_cons (pg_sub (pv 6) (pv 10) set_list) pgs_nil)))))) pss_nil)
      (pss_cons (ps_set (i := 12) sc_l_act.nd rfl (Or.inl rfl) (pe_or (pe_cmpR op_eq (pv 8) pe_str (nomark _)) (pe_or (pe_and (pe_cmpR op_eq (pv 8) pe_str (nomark _)) (pe_one (pe_cmpR op_eq (pe_ix ix_list (pv 6) (pv 10) (fun _ _ => rfl)) pe_int (nomark _)))) (pe_one (pe_and (pe_cmpR op_eq (pv 8) pe_str (nomark _)) (pe_one (pe_ix ix_list (pv 5) (pv 2) (fun _ _ => rfl))))))))
      (pss_cons (ps_asg (pe_ifExp (pt_val (pv 12)) (pv 9) (pe_op op_mod (pe_op op_add (pe_ix ix_list (pv 4) (pv 2) (fun _ _ => rfl)) pe_int) (pe_callB call_len_seq (by rfl) T.z_len (by decide +kernel) (pa_cons (pe_ix ix_list (pe_ix ix_tup (pv 0) pe_int (fun _ _ => rfl)) (pv 2) (fun _ _ => rfl)) pa_nil)))) (pg_sub (pv 4) (pv 2) set_list))
      (pss_one (ps_ret (pe_tup (pa_cons (pv 8) (pa_cons (pe_lst (pa_cons (pv 3) (pa_cons (pv 4) (pa_cons (pv 5) (pa_cons (pv 6) pa_nil))))) pa_nil))))))))))))), ?_⟩
    obtain ⟨t, sh, st, bo, l1, l2, xs1, xs2, rfl, ht, hsh, hst, hbo, hl1, hl2, hx1, hx2⟩ := plan_inv hp
    obtain ⟨ua, uc, un, ub, ue, rfl, hua, huc, hun, hub, hue⟩ := sitL_inv hu
    obtain ⟨li, xsi, hli, hsi, hdi⟩ : ∃ li xsi, ([V.ref l1, V.ref l2] : List V)[i]? = some (.ref li) ∧ SqL K G li xsi ∧ DpAll K G xsi ((stepsOf x i).map Step.D) := by
      match i, hi with
      | 0, _ => exact ⟨l1, xs1, rfl, hl1, hx1⟩
      | 1, _ => exact ⟨l2, xs2, rfl, hl2, hx2⟩
    obtain ⟨est, _⟩ := st_mem ho hi
    have sok := st_ok hx ho hi
    have nl := ho.nl i hi
    have cl := ho.cl i hi
    obtain ⟨y, hy, hDy⟩ := DpAll.at hdi (i := s.ns.getD i 0) (d := (stOf x s i).D) (by rw [List.getElem?_map, est]; rfl)
    obtain ⟨tt, g, rfl, htt, hg⟩ := step_inv hDy
    have w8 := sok.w8
    have ic : i < s.cs.length := by rw [ho.c2]; exact hi
    have in_ : i < s.ns.length := by rw [ho.n2]; exact hi
    have ih : i < s.hs.length := by rw [ho.h2]; exact hi
    have ic1 : 1 - i < s.cs.length := by rw [ho.c2]; omega
    -- the copies
    refine ⟨_, rfl, ua, rfl, ⟨_, hGH.seq hua⟩, fun D hD => ?_⟩
    have D0 := hD
    refine lc_list (K := K) (a := ua) (xs := [.ref uc, .ref un, .ref ub, .ref ue]) (fun j H' => ∃ ps : List Addr, ps.length = j ∧ Pt G H G H' ∧ H' D = some (.lst (ps.map V.ref)) ∧ ps.Nodup ∧ D ∉ ps ∧ ∀ (m : Nat) (p : Addr), ps[m]? = some p → H p = none ∧ ∃ it, (partsV s)[m]? = some it ∧ H' p = some (.lst it))
      ⟨[], rfl, (Pt.start hGH).lay hD _, upd_same, List.nodup_nil, by simp, fun m p e => by simp at e⟩ (fun j H' _ ⟨ps, _, p1, _⟩ => (hGH.trans p1.sm).seq hua) ?_ ?_
    · rintro j y H' hy ⟨ps, hj, p1, hD', hnd, hDn, hps⟩
      obtain ⟨q, it, rfl, hit, hq⟩ : ∃ q it, y = .ref q ∧ (partsV s)[j]? = some it ∧ SqL K G q it := by
        match j, hy with
        | 0, hy => exact ⟨uc, _, (Option.some.inj hy).symm, rfl, huc⟩
        | 1, hy => exact ⟨un, _, (Option.some.inj hy).symm, rfl, hun⟩
        | 2, hy => exact ⟨ub, _, (Option.some.inj hy).symm, rfl, hub⟩
        | 3, hy => exact ⟨ue, _, (Option.some.inj hy).symm, rfl, hue⟩
        | m + 4, hy => simp at hy
      have hj4 : j < 4 := (List.getElem?_eq_some_iff.mp hy).1
      refine ⟨rfl, _, rfl, q, it, rfl, .inl ((hGH.trans p1.sm).seq hq), fun l hl => ?_⟩
      have Dl : D ≠ l := ne_of_none hD' hl
      have l0 : H l = none := p1.free hl
      refine ⟨_, by rw [upd_ne Dl]; exact hD', smaller 4 (by rw [List.length_map]; omega) (by decide), ps ++ [l], by rw [List.length_append, hj]; rfl, (p1.lay hl _).put D0 (Same.free hGH D0) _, by rw [upd_same, List.map_append]; rfl, ?_, ?_, ?_⟩
      · refine List.nodup_append.mpr ⟨hnd, by simp, fun p hp q hq e => ?_⟩
        rw [List.mem_singleton.mp hq] at e
        subst e
        obtain ⟨m, hm⟩ := List.getElem?_of_mem hp
        obtain ⟨_, it', _, h'⟩ := hps m p hm
        rw [h'] at hl
        cases hl
      · intro h
        rcases List.mem_append.mp h with h | h
        · exact hDn h
        · exact Dl (List.mem_singleton.mp h)
      · intro m p hm
        by_cases hmj : m < ps.length
        · rw [List.getElem?_append_left hmj] at hm
          obtain ⟨h1, it', h2, h3⟩ := hps m p hm
          have hpD : p ≠ D := fun e => hDn (by rw [← e]; exact List.mem_of_getElem? hm)
          refine ⟨h1, it', h2, ?_⟩
          rw [upd_ne hpD, upd_ne (ne_of_none h3 hl)]
          exact h3
        · rw [List.getElem?_append_right (by omega)] at hm
          have hm0 : m - ps.length = 0 := by
            cases e : m - ps.length with
            | zero => rfl
            | succ z => rw [e] at hm; simp at hm
          rw [hm0] at hm
          have : l = p := by simpa using hm
          subst this
          have : m = j := by omega
          subst this
          refine ⟨l0, it, hit, ?_⟩
          rw [upd_ne Dl.symm, upd_same]
    rintro H1 ⟨ps, hj, p1, hD1, hnd, hDn, hps⟩
    match ps, hj with
    | [c, n, b, e], _ =>
    have W1 : Wk G H H1 c n b e s := by
      obtain ⟨c0, _, q1, q2⟩ := hps 0 c rfl; cases q1
      obtain ⟨n0, _, q3, q4⟩ := hps 1 n rfl; cases q3
      obtain ⟨b0, _, q5, q6⟩ := hps 2 b rfl; cases q5
      obtain ⟨e0, _, q7, q8⟩ := hps 3 e rfl; cases q7
      simp only [List.nodup_cons, List.mem_cons, List.mem_singleton, List.not_mem_nil, or_false, not_or] at hnd
      exact ⟨p1, hGH, c0, n0, b0, e0, hnd.1.1, hnd.1.2.1, hnd.1.2.2, hnd.2.1.1, hnd.2.1.2, hnd.2.2.1, q2, q4, q6, q8⟩
    refine ⟨D, _, rfl, SqL.of hD1, rfl, _, _, rfl, _, _, rfl, _, _, rfl, _, _, rfl, rfl, ?_⟩
    -- word, goal
    refine ⟨_, rfl, t, _, _, .ref bo, rfl, rfl, Same.seqT (hGH.trans W1.pt.sm) ht, at_of (j := 2) rfl rfl, _, rfl, bo, _, _, .ref li, rfl, rfl, (hGH.trans W1.pt.sm).seq hbo, at_of (j := i) rfl hli, _, rfl, _, rfl, n, _, _, .int (s.ns.getD i 0 : Nat), rfl, rfl, SqL.of W1.hn, at_of (j := i) rfl (nV_at in_), li, _, _, .ref tt, rfl, rfl, (hGH.trans W1.pt.sm).seq hsi, at_of (j := s.ns.getD i 0) rfl hy, ?_⟩
    refine ⟨tt, _, rfl, Same.seqT (hGH.trans W1.pt.sm) htt, rfl, _, _, rfl, _, _, rfl, rfl, ?_⟩
    -- here
    refine ⟨_, rfl, _, rfl, c, _, _, .int (cOf s i : Nat), rfl, rfl, SqL.of W1.hc, at_of (j := i) rfl (nV_at ic), ?_⟩
    dsimp only
    have blk : actP x s i = (8, s) → ∀ H', Pt G H G H' → (2 ≤ sizeLine ∧ ∀ p, H' p = none → Q (.ref p) (upd H' p (.tup [.str "blocked", .ref ua]))) := fun e H' p' => by
      refine ⟨by decide, fun p hp' => ?_⟩
      have p2 := p'.new hp' (.tup [.str "blocked", .ref ua])
      refine k _ _ _ p2.ext p2.sm ?_
      rw [e]
      exact .tup (SqT.of upd_same) (.cons (.str _) (.cons (Dp.mono (same_new (p'.freeG hp')) _ _ hu) .nil))
    let Pk : Nat → L2.St → Hp → Prop := fun m σ H' => ∃ (v11 : Option V) (s' : Sit), σ = [some (.ref t), some (.ref ua), some (.int i), some (.ref c), some (.ref n), some (.ref b), some (.ref e), none, some (.str (wS (stOf x s i).w)), some g, some (.int (cOf s i : Nat)), v11, none] ∧
      Wk G H H' c n b e s' ∧ s'.ns = s.ns ∧ ((m ≤ (stOf x s i).w ∧ s' = s) ∨ ((stOf x s i).w < m ∧ s'.hs.length = 2 ∧ s'.sh.length = s.sh.length ∧ actP x s i = finP x s i s'.cs s'.hs s'.sh))
    refine seq_restσ (Pk 2) (fun σ H' hP => ?_) (fun rest => ?m4)
    case m4 =>
      refine ⟨_, rfl, (by show 2 ≤ sizeLine; decide), fun q hq => ?_⟩
      have W2 := W1.lay hq (.lst lrV)
      refine ⟨q, lrV, rfl, .inl (SqL.of upd_same), rfl, lr_flat, _, rfl, ?_⟩
      rw [if_neg Bool.false_ne_true, lr_in w8]
      refine ite2 (fun c2 => ?_) (fun c2 => rest _ _ ⟨none, s, rfl, W2, rfl, .inl ⟨by have : ¬ (stOf x s i).w < 2 := fun z => c2 (decide_eq_true z); omega, rfl⟩⟩)
      have hw2 : (stOf x s i).w < 2 := of_decide_eq_true c2
      refine seq_restσ (fun σ H' => ∃ (z : Int) (c' : Nat), σ = [some (.ref t), some (.ref ua), some (.int i), some (.ref c), some (.ref n), some (.ref b), some (.ref e), none, some (.str (wS (stOf x s i).w)), some g, some (.int (cOf s i : Nat)), some (.int z), none] ∧ upd H1 q (.lst lrV) = H' ∧
        ((¬ (0 ≤ z ∧ z < (s.sh.length : Int)) ∨ z = (s.cs.getD (1 - i) 0 : Nat)) ∧ actP x s i = (8, s) ∨ (0 ≤ z ∧ z < (s.sh.length : Int)) ∧ z ≠ (s.cs.getD (1 - i) 0 : Nat) ∧ z = (c' : Int) ∧ actP x s i = finP x s i (s.cs.set i c') s.hs s.sh)) (fun σ H' hz => ?r1) (fun rest1 => ?m1)
      case m1 =>
        refine ⟨_, rfl, _, rfl, rfl, _, rfl, ite_w 1 w8 (fun hw => ?_) (fun hw => ?_)⟩
        · refine ⟨_, _, rfl, rfl, rest1 _ _ ⟨_, cOf s i + 1, rfl, rfl, ?_⟩⟩
          have ea := act_right hw
          have mo := mem_other (n := cOf s i + 1) ho hi (by omega)
          unfold cOf at *
          by_cases hb : s.sh.length ≤ s.cs.getD i 0 + 1 ∨ s.cs.getD i 0 + 1 ∈ s.cs
          · rw [if_pos hb] at ea
            refine .inl ⟨?_, ea⟩
            rw [mo] at hb
            omega
          · rw [if_neg hb] at ea
            rw [mo] at hb
            exact .inr ⟨by omega, by omega, by omega, ea⟩
        · have hw0 : (stOf x s i).w = 0 := by omega
          refine ⟨_, _, rfl, rfl, _, _, rfl, rfl, rest1 _ _ ⟨_, cOf s i - 1, rfl, rfl, ?_⟩⟩
          have ea := act_left hw0
          unfold cOf at *
          by_cases hc0 : s.cs.getD i 0 = 0
          · rw [if_pos (.inl hc0)] at ea
            exact .inl ⟨.inl (by omega), ea⟩
          · have mo := mem_other (n := s.cs.getD i 0 - 1) ho hi (by unfold cOf; omega)
            by_cases hb : s.cs.getD i 0 - 1 ∈ s.cs
            · rw [if_pos (.inr hb)] at ea
              rw [mo] at hb
              exact .inl ⟨.inr (by omega), ea⟩
            · rw [if_neg (by simp only [not_or]; exact ⟨hc0, hb⟩)] at ea
              rw [mo] at hb
              exact .inr ⟨by omega, by omega, by omega, ea⟩
      obtain ⟨z, c', rfl, rfl, hz⟩ := hz
      have esh : (((nV s.sh).length : Nat) : Int) = (s.sh.length : Int) := by rw [List.length_map]
      have yes : (¬ (0 ≤ z ∧ z < (s.sh.length : Int)) ∨ z = (s.cs.getD (1 - i) 0 : Nat)) → actP x s i = (8, s) := fun h => by
        rcases hz with ⟨_, h1⟩ | ⟨h1, h2, _⟩
        · exact h1
        · rcases h with h | h
          · exact absurd h1 h
          · exact absurd h h2
      refine ⟨_, rfl, _, _, rfl, rfl, _, rfl, ite2 (fun d0 => ?_) (fun d0 => ?_)⟩
      · have d0' : (0 : Int) ≤ z := of_decide_eq_true d0
        refine ⟨_, rfl, e, _, rfl, .inl (SqL.of W2.he), _, _, rfl, rfl, _, rfl, ?_⟩
        rw [esh]
        refine ite2 (fun d1 => ?_) (fun d1 => ?_)
        · have d1' : ¬ z < (s.sh.length : Int) := by simpa using d1
          exact ite_t rfl ⟨_, rfl, blk (yes (.inl (by omega))) _ W2.pt⟩
        · have d1' : z < (s.sh.length : Int) := by simpa using d1
          refine ⟨_, rfl, _, rfl, _, rfl, _, _, rfl, rfl, c, _, _, .int (s.cs.getD (1 - i) 0 : Nat), rfl, rfl, SqL.of W2.hc, at_of (j := 1 - i) (by omega) (nV_at ic1), rfl, _, rfl, ?_⟩
          refine ite2 (fun d2 => ?_) (fun d2 => ?_)
          · have d2' : z = (s.cs.getD (1 - i) 0 : Nat) := by have := of_decide_eq_true d2; injection this
            exact ⟨_, rfl, blk (yes (.inr d2')) _ W2.pt⟩
          · have d2' : ¬ z = (s.cs.getD (1 - i) 0 : Nat) := fun q => d2 (decide_eq_true (by rw [q]))
            rcases hz with ⟨h1, _⟩ | ⟨_, _, h3, h4⟩
            · omega
            · refine ⟨_, rfl, _, rfl, _, rfl, c, _, _, i, rfl, rfl, W2.hc, ix_of rfl (by rw [List.length_map]; exact ic), ?_⟩
              rw [h3, nV_set]
              exact rest _ _ ⟨_, _, rfl, W2.setC _, rfl, .inr ⟨hw2, ho.h2, rfl, h4⟩⟩
      · exact ⟨_, rfl, ite_t rfl (ite_t rfl ⟨_, rfl, blk (yes (.inl (fun q => d0 (decide_eq_true q.1)))) _ W2.pt⟩)⟩
    obtain ⟨v11, s', rfl, W4, ens, hs4⟩ := hP
    -- pick
    refine seq_restσ (Pk 3) (fun σ H' hP => ?_) (fun rest => ?m5)
    case m5 =>
      refine ⟨_, rfl, rfl, _, rfl, ite_w 2 w8 (fun hw => ?_) (fun hw => rest _ _ ⟨_, _, rfl, W4, ens, ?_⟩)⟩
      · obtain ⟨_, rfl⟩ : 2 ≤ (stOf x s i).w ∧ s' = s := by
          rcases hs4 with h | ⟨h, _⟩
          · exact h
          · omega
        have ea := act_pick hw
        refine ⟨_, rfl, _, rfl, b, _, _, .bl (s'.hs.getD i false), rfl, rfl, SqL.of W4.hb, at_of (j := i) rfl (bV_at ih), _, rfl, ?_⟩
        refine ite_b (fun c1 => ?_) (fun c1 => ?_)
        · rw [if_pos (.inl c1)] at ea
          exact ite_t rfl ⟨_, rfl, blk ea _ W4.pt⟩
        · refine ⟨_, rfl, _, rfl, e, _, _, .int (s'.sh.getD (cOf s' i) 0 : Nat), rfl, rfl, SqL.of W4.he, at_of (j := cOf s' i) rfl (nV_at cl), rfl, _, rfl, ?_⟩
          refine ite2 (fun c2 => ?_) (fun c2 => ?_)
          · have c2' : s'.sh.getD (cOf s' i) 0 = 0 := by have := of_decide_eq_true c2; injection this; omega
            rw [if_pos (.inr c2')] at ea
            exact ⟨_, rfl, blk ea _ W4.pt⟩
          · have c2' : ¬ s'.sh.getD (cOf s' i) 0 = 0 := fun q => c2 (decide_eq_true (by rw [q]; rfl))
            rw [if_neg (by rw [c1]; simp only [Bool.false_eq_true, false_or]; exact c2')] at ea
            refine ⟨_, rfl, _, rfl, e, _, _, .int (s'.sh.getD (cOf s' i) 0 : Nat), rfl, rfl, SqL.of W4.he, at_of (j := cOf s' i) rfl (nV_at cl), _, _, rfl, rfl, (by show 2 ≤ sizeLine; decide), fun q hq => ?_⟩
            have W5 := W4.lay hq (.tup [.bl true, .int ((s'.sh.getD (cOf s' i) 0 : Nat) - 1)])
            refine ⟨q, _, rfl, SqT.of upd_same, rfl, _, _, rfl, _, rfl, _, rfl, b, _, _, i, rfl, rfl, W5.hb, ix_of rfl (by rw [List.length_map]; exact ih), ?_⟩
            rw [bV_set]
            have W6 := W5.setB (s'.hs.set i true)
            refine ⟨_, _, rfl, _, rfl, _, rfl, e, _, _, cOf s' i, rfl, rfl, W6.he, ix_of rfl (by rw [List.length_map]; exact cl), rfl, ?_⟩
            have e1 : ((s'.sh.getD (cOf s' i) 0 : Nat) : Int) - 1 = ((s'.sh.getD (cOf s' i) 0 - 1 : Nat) : Int) := by omega
            have W7 := W6.setE (s'.sh.set (cOf s' i) (s'.sh.getD (cOf s' i) 0 - 1))
            rw [← nV_set, ← e1] at W7
            exact rest _ _ ⟨_, _, rfl, W7, rfl, .inr ⟨by omega, by show (s'.hs.set i true).length = 2; rw [List.length_set]; exact ho.h2, by show (s'.sh.set _ _).length = _; rw [List.length_set], ea⟩⟩
      · rcases hs4 with ⟨h1, h2⟩ | ⟨h1, h2⟩
        · exact .inl ⟨by omega, h2⟩
        · exact .inr ⟨by omega, h2⟩
    clear ens hs4 W4
    obtain ⟨v11, s', rfl, W4, ens, hs4⟩ := hP
    -- put
    refine seq_restσ (Pk 4) (fun σ H' hP => ?_) (fun rest => ?m6)
    case m6 =>
      refine ⟨_, rfl, rfl, _, rfl, ite_w 3 w8 (fun hw => ?_) (fun hw => rest _ _ ⟨_, _, rfl, W4, ens, ?_⟩)⟩
      · obtain ⟨_, rfl⟩ : 3 ≤ (stOf x s i).w ∧ s' = s := by
          rcases hs4 with h | ⟨h, _⟩
          · exact h
          · omega
        have ea := act_put hw
        refine ⟨_, rfl, _, rfl, b, _, _, .bl (s'.hs.getD i false), rfl, rfl, SqL.of W4.hb, at_of (j := i) rfl (bV_at ih), _, rfl, ?_⟩
        cases c1 : s'.hs.getD i false with
        | false =>
          rw [if_pos (.inl c1)] at ea
          exact ite_t rfl (ite_t rfl ⟨_, rfl, blk ea _ W4.pt⟩)
        | true =>
          refine ite_f rfl ⟨_, rfl, _, rfl, e, _, _, .int (s'.sh.getD (cOf s' i) 0 : Nat), rfl, rfl, SqL.of W4.he, at_of (j := cOf s' i) rfl (nV_at cl), _, _, rfl, rfl, _, rfl, ?_⟩
          refine ite2 (fun c2 => ?_) (fun c2 => ?_)
          · have c2' : 3 ≤ s'.sh.getD (cOf s' i) 0 := by have := of_decide_eq_true c2; omega
            rw [if_pos (.inr c2')] at ea
            exact ⟨_, rfl, blk ea _ W4.pt⟩
          · have c2' : ¬ 3 ≤ s'.sh.getD (cOf s' i) 0 := fun q => c2 (decide_eq_true (by omega))
            rw [if_neg (by rw [c1]; simp only [Bool.true_eq_false, false_or]; exact c2')] at ea
            refine ⟨_, rfl, _, rfl, e, _, _, .int (s'.sh.getD (cOf s' i) 0 : Nat), rfl, rfl, SqL.of W4.he, at_of (j := cOf s' i) rfl (nV_at cl), _, _, rfl, rfl, (by show 2 ≤ sizeLine; decide), fun q hq => ?_⟩
            have W5 := W4.lay hq (.tup [.bl false, .int ((s'.sh.getD (cOf s' i) 0 : Nat) + 1)])
            refine ⟨q, _, rfl, SqT.of upd_same, rfl, _, _, rfl, _, rfl, _, rfl, b, _, _, i, rfl, rfl, W5.hb, ix_of rfl (by rw [List.length_map]; exact ih), ?_⟩
            rw [bV_set]
            have W6 := W5.setB (s'.hs.set i false)
            refine ⟨_, _, rfl, _, rfl, _, rfl, e, _, _, cOf s' i, rfl, rfl, W6.he, ix_of rfl (by rw [List.length_map]; exact cl), rfl, ?_⟩
            have e1 : ((s'.sh.getD (cOf s' i) 0 : Nat) : Int) + 1 = ((s'.sh.getD (cOf s' i) 0 + 1 : Nat) : Int) := by omega
            have W7 := W6.setE (s'.sh.set (cOf s' i) (s'.sh.getD (cOf s' i) 0 + 1))
            rw [← nV_set, ← e1] at W7
            exact rest _ _ ⟨_, _, rfl, W7, rfl, .inr ⟨by omega, by show (s'.hs.set i false).length = 2; rw [List.length_set]; exact ho.h2, by show (s'.sh.set _ _).length = _; rw [List.length_set], ea⟩⟩
      · rcases hs4 with ⟨h1, h2⟩ | ⟨h1, h2⟩
        · exact .inl ⟨by omega, h2⟩
        · exact .inr ⟨by omega, h2⟩
    clear ens hs4 W4
    obtain ⟨v11, s', rfl, W4, ens, hs4⟩ := hP
    have hfin : s'.hs.length = 2 ∧ s'.sh.length = s.sh.length ∧ actP x s i = finP x s i s'.cs s'.hs s'.sh := by
      rcases hs4 with ⟨h1, h2⟩ | ⟨_, h2⟩
      · rw [h2]; exact ⟨ho.h2, rfl, act_else h1⟩
      · exact h2
    clear hs4
    obtain ⟨h2', hsl', hfin⟩ := hfin
    have ih' : i < s'.hs.length := by rw [h2']; exact hi
    have cl' : cOf s i < s'.sh.length := by rw [hsl']; exact cl
    -- jumps
    refine seq_restσ (fun σ H' => W4.hc = W4.hc ∧ σ = [some (.ref t), some (.ref ua), some (.int i), some (.ref c), some (.ref n), some (.ref b), some (.ref e), none, some (.str (wS (stOf x s i).w)), some g, some (.int (cOf s i : Nat)), v11, some (.bl (decide (jumpP x s i s'.hs s'.sh)))] ∧ Wk G H H' c n b e s') (fun σ H' hP => ?_) (fun rest => ?m7)
    case m7 =>
      refine ⟨_, rfl, rfl, _, rfl, ite_w 5 w8 (fun hw => ?_) (fun hw => ?_)⟩
      · refine rest _ _ ⟨rfl, ?_, W4⟩
        rw [decide_eq_true (show jumpP x s i s'.hs s'.sh from .inl hw)]
        rfl
      have fin : ∀ bv : Bool, bv = decide (jumpP x s i s'.hs s'.sh) → _ := fun bv hbv => rest ([some (.ref t), some (.ref ua), some (.int i), some (.ref c), some (.ref n), some (.ref b), some (.ref e), none, some (.str (wS (stOf x s i).w)), some g, some (.int (cOf s i : Nat)), v11, some (.bl bv)]) _ ⟨rfl, by rw [hbv], W4⟩
      refine ⟨_, rfl, rfl, _, rfl, ite_w 6 w8 (fun h6 => ?_) (fun h6 => ?_)⟩
      · refine ⟨_, rfl, _, rfl, e, _, _, .int (s'.sh.getD (cOf s i) 0 : Nat), rfl, rfl, SqL.of W4.he, at_of (j := cOf s i) rfl (nV_at cl'), rfl, _, rfl, ?_⟩
        refine ite2 (fun c2 => ?_) (fun c2 => ?_)
        · have c2' : s'.sh.getD (cOf s i) 0 = 0 := by have := of_decide_eq_true c2; injection this; omega
          exact fin true (decide_eq_true (show jumpP x s i s'.hs s'.sh from .inr (.inl ⟨h6, c2'⟩))).symm
        · have c2' : ¬ s'.sh.getD (cOf s i) 0 = 0 := fun q => c2 (decide_eq_true (by rw [q]; rfl))
          refine ⟨_, rfl, rfl, _, rfl, ite_w 7 w8 (fun h7 => by omega) (fun h7 => ?_)⟩
          exact fin false (decide_eq_false (show ¬ jumpP x s i s'.hs s'.sh from fun z => by rcases z with z | z | z; exact hw z; exact c2' z.2; exact h7 z.1)).symm
      · refine ⟨_, rfl, ite_f rfl ⟨_, rfl, rfl, _, rfl, ite_w 7 w8 (fun h7 => ?_) (fun h7 => ?_)⟩⟩
        · refine ⟨_, rfl, _, rfl, b, _, _, .bl (s'.hs.getD i false), rfl, rfl, SqL.of W4.hb, at_of (j := i) rfl (bV_at ih'), fin _ ?_⟩
          have e1 : s'.hs.getD i false = decide (s'.hs.getD i false = true) := by simp
          exact e1.trans (decide_eq_decide.mpr ⟨fun z => .inr (.inr ⟨h7, z⟩), fun z => by rcases z with z | z | z; exact absurd z hw; exact absurd z.1 h6; exact z.2⟩)
        · exact fin false (decide_eq_false (show ¬ jumpP x s i s'.hs s'.sh from fun z => by rcases z with z | z | z; exact hw z; exact h6 z.1; exact h7 z.1)).symm
    obtain ⟨_, rfl, W4⟩ := hP
    -- the next step
    have in' : i < s'.ns.length := by rw [ens]; exact in_
    have lx : xsi.length = (stepsOf x i).length := by rw [DpAll.len hdi, List.length_map]
    have pos := (steps_ok hx i).pos
    refine seq_restσ (fun σ H' => σ = [some (.ref t), some (.ref ua), some (.int i), some (.ref c), some (.ref n), some (.ref b), some (.ref e), none, some (.str (wS (stOf x s i).w)), some g, some (.int (cOf s i : Nat)), v11, some (.bl (decide (jumpP x s i s'.hs s'.sh)))] ∧ Wk G H H' c n b e (actP x s i).2) (fun σ H' hP => ?_) (fun rest => ?m8)
    case m8 =>
      have put : ∀ nv : Int, nv = (nextP x s i s'.hs s'.sh : Nat) → Wk G H (upd H' n (.lst ((nV s'.ns).set i (.int nv)))) c n b e (actP x s i).2 := fun nv hnv => by
        rw [hnv, nV_set]
        have W5 := W4.setN (s'.ns.set i (nextP x s i s'.hs s'.sh))
        rw [hfin]
        rw [ens] at W5 ⊢
        exact W5
      have ixn : ixN (nV s'.ns).length (i : Int) = some i := ix_of rfl (by rw [List.length_map]; exact in')
      refine ⟨_, rfl, _, rfl, ite2 (fun c1 => ?_) (fun c1 => ?_)⟩
      · have hj : jumpP x s i s'.hs s'.sh := of_decide_eq_true c1
        have h5 : 5 ≤ (stOf x s i).w := by rcases hj with h | h | h <;> omega
        obtain ⟨kk, hk, _⟩ := sok.yes h5
        rcases hg with ⟨h1, _⟩ | ⟨k2, h1, rfl⟩
        · rw [h1] at hk; cases hk
        · refine ⟨_, rfl, _, rfl, _, rfl, n, _, _, i, rfl, rfl, W4.hn, ixn, rest _ _ ⟨rfl, put k2 ?_⟩⟩
          unfold nextP
          rw [if_pos hj, h1]
          rfl
      · have hj : ¬ jumpP x s i s'.hs s'.sh := fun q => c1 (decide_eq_true q)
        refine ⟨_, rfl, _, rfl, n, _, _, .int (s.ns.getD i 0 : Nat), rfl, rfl, SqL.of W4.hn, at_of (j := i) rfl (by rw [ens]; exact nV_at in_), _, _, rfl, rfl, ?_⟩
        refine ⟨_, rfl, t, _, _, .ref bo, rfl, rfl, Same.seqT (hGH.trans W4.pt.sm) ht, at_of (j := 2) rfl rfl, _, rfl, bo, _, _, .ref li, rfl, rfl, (hGH.trans W4.pt.sm).seq hbo, at_of (j := i) rfl hli, li, _, rfl, .inl ((hGH.trans W4.pt.sm).seq hsi), _, _, rfl, rfl, ?_, _, rfl, _, rfl, n, _, _, i, rfl, rfl, W4.hn, ixn, rest _ _ ⟨rfl, put _ ?_⟩⟩
        · show (0 : Int) < ((xsi.length : Nat) : Int)
          omega
        · rw [lx, mod_nat]
          unfold nextP
          rw [if_neg hj]
    obtain ⟨rfl, W5⟩ := hP
    -- the end
    obtain ⟨G1, p1, q1, q2, q3, q4⟩ := W5.data (K := K)
    refine ⟨_, rfl, _, rfl, _, rfl, _, rfl, _, rfl, (by show 4 ≤ sizeLine; decide), fun l hl => ?_⟩
    have p2 := p1.new hl (.lst [.ref c, .ref n, .ref b, .ref e])
    refine ⟨(by show 2 ≤ sizeLine; decide), fun r hr' => ?_⟩
    have p3 := p2.new hr' (.tup [.str (wS (stOf x s i).w), .ref l])
    have g2 := same_new (o := .lst [.ref c, .ref n, .ref b, .ref e]) (p1.freeG hl)
    have g3 := same_new (o := .tup [.str (wS (stOf x s i).w), .ref l]) (p2.freeG hr')
    refine k _ _ _ p3.ext p3.sm (.tup (SqT.of upd_same) (.cons ?_ (.cons (sitL_mk (g3.seq (SqL.of upd_same)) ((g2.trans g3).seq q1) ((g2.trans g3).seq q2) ((g2.trans g3).seq q3) ((g2.trans g3).seq q4)) .nil)))
    have ew : (actP x s i).1 = (stOf x s i).w := by rw [hfin]; rfl
    rw [ew, doS_lt w8]
    exact .str _
theorem ok_l_tick (T : Txt K mg a) : FnOk P w K mg base CX0 2 a.f_l_tick a.d_l_tick ["_law_plan_here", "_law_state"] (spLTick K) := by
  refine T.F_l_tick.ok sc_l_tick (fun vs H Q E h => ?_) (fun cdv A outer s0 H vs Q E hr h => ?_)
  · obtain ⟨⟨G, v, u, x, s, rfl, _⟩⟩ := h
    rfl
  · obtain ⟨⟨G, v, u, x, s, rfl, hp, hu, hx, ho, hGH, k⟩⟩ := h
    refine ⟨_, (pss_cons (ps_asg (pe_call (ok_l_act T) (hr.mono (by decide)) rfl T.m_l_act T.F_l_act.kp (b_l_act T) .nil pass0 (pa_cons (pv 0) (pa_cons (pv 1) (pa_cons pe_int pa_nil)))) (pg_tup (by rfl) (pgs_cons (pg_name (i := 2) sc_l_tick.nd rfl (Or.inl rfl)) (pgs_cons (pg_name (i := 1) sc_l_tick.nd rfl (Or.inl rfl)) pgs_nil))))
      (pss_cons (ps_asg (pe_call (ok_l_act T) (hr.mono (by decide)) rfl T.m_l_act T.F_l_act.kp (b_l_act T) .nil pass0 (pa_cons (pv 0) (pa_cons (pv 1) (pa_cons pe_int pa_nil)))) (pg_tup (by rfl) (pgs_cons (pg_name (i := 3) sc_l_tick.nd rfl (Or.inl rfl)) (pgs_cons (pg_name (i := 1) sc_l_tick.nd rfl (Or.inl rfl)) pgs_nil))))
      (pss_one (ps_ret (pe_tup (pa_cons (pe_tup (pa_cons (pv 2) (pa_cons (pv 3) pa_nil))) (pa_cons (pv 1) pa_nil))))))), ?_⟩
    refine ⟨_, rfl, _, rfl, ⟨⟨G, v, u, x, s, 0, rfl, hp, hu, hx, ho, by decide, hGH, fun G1 H1 v1 x1 s1 d1 => ?_⟩⟩⟩
    have p1 := (Pt.start hGH).call x1 s1
    obtain ⟨t1, ys1, rfl, ht1, hy1⟩ := Dp.tup_inv d1
    obtain ⟨u1, r1, rfl, e1, hy1⟩ := DpAll.cons_inv hy1
    obtain ⟨u2, r2, rfl, e2, hy1⟩ := DpAll.cons_inv hy1
    cases DpAll.nil_inv hy1
    cases Dp.str_inv e1
    refine ⟨t1, _, rfl, Same.seqT p1.s ht1, rfl, _, _, rfl, _, _, rfl, rfl, ?_⟩
    have ho1 := act_ok hx ho (i := 0) (by decide)
    refine ⟨_, rfl, _, rfl, ⟨⟨G1, v, u2, x, _, 1, rfl, Dp.mono p1.g _ _ hp, e2, hx, ho1, by decide, p1.s, fun G2 H2 v2 x2 s2 d2 => ?_⟩⟩⟩
    have p2 := p1.call x2 s2
    obtain ⟨t2, ys2, rfl, ht2, hy2⟩ := Dp.tup_inv d2
    obtain ⟨u3, r3, rfl, e3, hy2⟩ := DpAll.cons_inv hy2
    obtain ⟨u4, r4, rfl, e4, hy2⟩ := DpAll.cons_inv hy2
    cases DpAll.nil_inv hy2
    cases Dp.str_inv e3
    refine ⟨t2, _, rfl, Same.seqT p2.s ht2, rfl, _, _, rfl, _, _, rfl, rfl, ?_⟩
    refine ⟨_, rfl, _, rfl, (by show 2 ≤ sizeLine; decide), fun q hq => ?_⟩
    have p3 := p2.new hq (.tup [.str (doS (actP x s 0).1), .str (doS (actP x (actP x s 0).2 1).1)])
    refine ⟨_, rfl, (by show 2 ≤ sizeLine; decide), fun r hr' => ?_⟩
    have p4 := p3.new hr' (.tup [.ref q, u4])
    have g3 := same_new (o := .tup [.str (doS (actP x s 0).1), .str (doS (actP x (actP x s 0).2 1).1)]) (p2.freeG hq)
    have g4 := same_new (o := .tup [.ref q, u4]) (p3.freeG hr')
    refine k _ _ _ p4.ext p4.sm (.tup (SqT.of upd_same) (.cons (.tup (Same.seqT g4 (SqT.of upd_same)) (.cons (.str _) (.cons (.str _) .nil))) (.cons (Dp.mono (g3.trans g4) _ _ e4) .nil)))
end
end Sb

namespace Sb
open PySem PySem.Spec PyProof.Rows L2 TL
structure spRep (K : PySem.W.Frag) (vs : List V) (H : Hp) (Q : VK) (E : XK) : Prop where
  ex : ∃ (G : Hp) (v : V) (x : Pl), vs = [v] ∧ Dp K G v x.D ∧ x.Ok ∧ Pure G H Q fun G' v => ∃ r : Bool, v = .bl r ∧ (r = true → ∃ i n, Cyc x i n ∧ n < 4000)
section
variable {P : Program} {w : World} {K : PySem.W.Frag} {mg : Str → Option Value} {base : Heap} {a : Ad}
theorem ok_l_repeats (T : Txt K mg a) : FnOk P w K mg base CX0 3 a.f_l_repeats a.d_l_repeats ["_law_plan_here"] (spRep K) := by
  refine T.F_l_repeats.ok sc_l_repeats (fun vs H Q E h => ?_) (fun cdv A outer s0 H vs Q E hr h => ?_)
  · obtain ⟨⟨G, v, x, rfl, _⟩⟩ := h
    rfl
  · obtain ⟨⟨G, v, x, rfl, hp, hx, hGH, k⟩⟩ := h
    refine ⟨_, (pss_cons (ps_par (i := 1) (j := 2) (by rfl) sc_l_repeats.nd rfl rfl (by decide) rfl rfl (pa_cons (pe_call (ok_l_empty T) (hr.mono (by decide)) rfl T.m_l_empty T.F_l_empty.kp (b_l_empty T) .nil pass0 (pa_cons (pv 0) pa_nil)) (pa_cons pe_dnewN pa_nil)) (by rfl))
      (pss_cons (ps_for PassesOwn.never rfl (pi_range1 (by rfl) T.z_range (pa_cons pe_int pa_nil)) (pg_name (i := 3) sc_l_repeats.nd rfl (Or.inl rfl)) (pss_cons (ps_set (i := 4) sc_l_repeats.nd rfl (Or.inl rfl) (pe_callTy call_tuple_of (by rfl) T.z_tuple (by decide +kernel) (pa_cons (pe_lc (own := [("_law_part", 5)]) (g := gName 5) (te := (tCB (fun xs H Q => ∃ p ys, xs = [.ref p] ∧ ((SqL K H p ys ∧ ∀ l, H l = none → Q (.ref l) (upd H l (.tup ys))) ∨ (SqT K H p ys ∧ Q (.ref p) H))) (tCons (tVar 5) tNil))) (tt := tYes) rfl sc_l_repeats.nd (pi_list (pv 1)) (blkOk_by (own := [("_law_part", 5)]) (N := ["_law_plan_here", "_law_state", "_law_keys", "_law_tick_here", "_law_key", "_law_part"]) (sc := (defScope s_l_repeats)) (by decide +kernel)) (fun _ _ _ _ _ => (pg_name (i := 5) sc_l_repeats.nd rfl (Or.inl rfl))) (fun _ _ _ _ _ => pts_nil) (fun _ _ _ _ _ => by exact (pe_callTy call_tuple_of (by rfl) T.z_tuple (by decide +kernel) (pa_cons (pv 5) pa_nil)))) pa_nil)))
      (pss_cons (ps_if (pt_cmpR (op_inN hr.units) (pv 4) (pv 2) rfl) (pss_one (ps_ret pe_bl)) pss_nil)
      (pss_one (ps_asg (pe_tup (pa_cons pe_bl (pa_cons (pe_ix ix_tup (pe_call (ok_l_tick T) (hr.mono (by decide)) rfl T.m_l_tick T.F_l_tick.kp (b_l_tick T) .nil pass0 (pa_cons (pv 0) (pa_cons (pv 1) pa_nil))) pe_int (fun _ _ => rfl)) pa_nil))) (pg_tup (by rfl) (pgs_cons (pg_sub (pv 2) (pv 4) (set_newN hr.units)) (pgs_cons (pg_name (i := 1) sc_l_repeats.nd rfl (Or.inl rfl)) pgs_nil))))))))
      (pss_one (ps_ret pe_bl)))), ?_⟩
    refine ⟨_, rfl, ⟨⟨G, v, x, rfl, hp, hGH, fun G1 H1 u x1 s1 d1 => ?_⟩⟩⟩
    have p1 := (Pt.start hGH).call x1 s1
    intro kd hkd
    have kd0 : H kd = none := p1.free hkd
    refine ⟨_, _, rfl, ?_⟩
    refine ⟨4000, rfl, by decide, by decide, for_range (lo := 0) (n := 4000) (fun j σ H' => ∃ (G' : Hp) (u : V) (xs : Ents) (v3 v4 : Option V), σ = [some v, some u, some (.ref kd), v3, v4, none] ∧ Pt G H G' H' ∧ Dp K G' v x.D ∧ Dp K G' u (sitL (sitAt x j)) ∧ DK P w K G' H' kd xs ∧ Met x xs j (fun _ => .bl true) ∧ Nod x j) ?_ ?_ ?_⟩
    · exact ⟨G1, u, [], none, none, rfl, p1.lay hkd _, Dp.mono p1.g _ _ hp, d1, ⟨upd_same, p1.freeG hkd, fun _ h => nomatch h⟩, Met.nil, Nod.zero⟩
    · rintro j σ H' hj ⟨G', u, xs, v3, v4, rfl, B, hp', du, hK, hM, hN⟩
      have so := sitAt_ok hx j
      obtain ⟨ua, uc, un, ub, ue, rfl, hua, huc, hun, hub, hue⟩ := sitL_inv du
      -- the key
      refine ⟨_, rfl, ua, rfl, ⟨_, B.s.seq hua⟩, fun D hD => ?_⟩
      have D0 := B.free hD
      have DG := B.freeG hD
      have kD : kd ≠ D := ne_of_none hK.at_ hD
      refine lc_list (K := K) (a := ua) (xs := [.ref uc, .ref un, .ref ub, .ref ue]) (fun m H2 => ∃ (G2 : Hp) (us : List V), us.length = m ∧ Pt G H G2 H2 ∧ Same G' G2 ∧ H2 D = some (.lst us) ∧ G2 D = none ∧ DK P w K G2 H2 kd xs ∧ DpAll K G2 us (([natsT (sitAt x j).cs, natsT (sitAt x j).ns, boolsT (sitAt x j).hs, natsT (sitAt x j).sh] : List PyData).take m))
        ⟨G', [], rfl, B.lay hD _, Same.refl _, upd_same, DG, hK.grow (Same.refl _) (fun o ho => by rw [upd_ne kD]; exact ho) hK.out, .nil⟩ (fun m H2 _ ⟨G2, us, _, q1, q2, _⟩ => (q2.trans q1.s).seq hua) ?_ ?_
      · rintro m y H2 hy ⟨G2, us, hm, q1, q2, hD2, DG2, K2, hus⟩
        obtain ⟨q, it, dd, rfl, hq, hd, hit⟩ : ∃ (q : Addr) (it : List V) (dd : List PyData), y = .ref q ∧ SqL K G' q it ∧ ([natsT (sitAt x j).cs, natsT (sitAt x j).ns, boolsT (sitAt x j).hs, natsT (sitAt x j).sh] : List PyData)[m]? = some (.tuple dd) ∧ ∀ G, DpAll K G it dd := by
          match m, hy with
          | 0, hy => exact ⟨uc, _, _, (Option.some.inj hy).symm, huc, rfl, fun _ => nats_D' _⟩
          | 1, hy => exact ⟨un, _, _, (Option.some.inj hy).symm, hun, rfl, fun _ => nats_D' _⟩
          | 2, hy => exact ⟨ub, _, _, (Option.some.inj hy).symm, hub, rfl, fun _ => bools_D _⟩
          | 3, hy => exact ⟨ue, _, _, (Option.some.inj hy).symm, hue, rfl, fun _ => nats_D' _⟩
          | m + 4, hy => simp at hy
        have hm4 : m < 4 := (List.getElem?_eq_some_iff.mp hy).1
        refine ⟨rfl, _, rfl, q, it, rfl, .inl ⟨(q2.trans q1.s).seq hq, fun l hl => ?_⟩⟩
        have Dl : D ≠ l := ne_of_none hD2 hl
        have kl : kd ≠ l := ne_of_none K2.at_ hl
        have r1 := q1.new hl (.tup it)
        have gl := same_new (o := .tup it) (q1.freeG hl)
        refine ⟨_, by rw [upd_ne Dl]; exact hD2, smaller 4 (by omega) (by decide), upd G2 l (.tup it), us ++ [.ref l], by rw [List.length_append, hm]; rfl, r1.put D0 (by rw [upd_ne Dl]; exact DG2) _, q2.trans gl, upd_same, by rw [upd_ne Dl]; exact DG2, ?_, ?_⟩
        · exact K2.grow gl (fun o ho => by rw [upd_ne kD, upd_ne kl]; exact ho) (by rw [upd_ne kl]; exact K2.out)
        · rw [take_more hd]
          exact DpAll.snoc (Dp.monoAll gl _ _ hus) (.tup (SqT.of upd_same) (hit _))
      rintro H2 ⟨G2, us, hm, q1, q2, hD2, DG2, K2, hus⟩
      refine ⟨D, _, rfl, .inl ⟨SqL.of hD2, fun ky hky => ?_⟩⟩
      have r1 := q1.new hky (.tup us)
      have g3 := same_new (o := .tup us) (q1.freeG hky)
      have kk : kd ≠ ky := ne_of_none K2.at_ hky
      have K3 : DK P w K (upd G2 ky (.tup us)) (upd H2 ky (.tup us)) kd xs := K2.grow g3 (fun o ho => by rw [upd_ne kk]; exact ho) (by rw [upd_ne kk]; exact K2.out)
      have dky : Dp K (upd G2 ky (.tup us)) (.ref ky) (sitT (sitAt x j)) := .tup (SqT.of upd_same) (Dp.monoAll g3 _ _ hus)
      -- in
      refine ⟨_, rfl, _, rfl, kd, ky, xs, _, _, rfl, rfl, K3.dn r1.s, Dp.mono r1.s _ _ dky, nk_sit _, nk_depth _, _, rfl, ite2 (fun c => ?_) (fun c => ?_)⟩
      · have c' : nkOf (sitAt x j) ∈ xs.map (·.1) := of_decide_eq_true c
        obtain ⟨i, hi, e⟩ := (hM.keys _).mp c'
        exact k _ _ _ r1.ext r1.sm ⟨true, rfl, fun _ => ⟨i, j, ⟨hi, e, hN⟩, by omega⟩⟩
      · have c' : nkOf (sitAt x j) ∉ xs.map (·.1) := fun z => c (decide_eq_true z)
        have hno := fun z => c' ((hM.keys _).mpr z)
        have du3 : Dp K (upd G2 ky (.tup us)) (.ref ua) (sitL (sitAt x j)) := Dp.mono (q2.trans g3) _ _ du
        refine ⟨_, rfl, _, rfl, ⟨⟨_, v, .ref ua, x, _, rfl, Dp.mono (q2.trans g3) _ _ hp', du3, hx, so, r1.s, fun G4 H4 z x4 s4 d4 => ?_⟩⟩⟩
        have r2 := r1.call x4 s4
        have K4 := K3.grow x4.g (fun o ho => s4 _ _ ho) (x4.out K3.out K3.at_)
        obtain ⟨t4, ys4, rfl, ht4, hy4⟩ := Dp.tup_inv d4
        obtain ⟨z1, r4, rfl, e1, hy4⟩ := DpAll.cons_inv hy4
        obtain ⟨z2, r5, rfl, e2, hy4⟩ := DpAll.cons_inv hy4
        cases DpAll.nil_inv hy4
        refine ⟨t4, _, _, z2, rfl, rfl, Same.seqT r2.s ht4, at_of (j := 1) rfl rfl, (by show 2 ≤ sizeLine; decide), fun tp htp => ?_⟩
        have r3 := r2.new htp (.tup [.bl true, z2])
        have g5 := same_new (o := .tup [.bl true, z2]) (r2.freeG htp)
        have kt : kd ≠ tp := ne_of_none K4.at_ htp
        have K5 : DK P w K (upd G4 tp (.tup [.bl true, z2])) (upd H4 tp (.tup [.bl true, z2])) kd xs := K4.grow g5 (fun o ho => by rw [upd_ne kt]; exact ho) (by rw [upd_ne kt]; exact K4.out)
        have dky5 := Dp.mono (x4.g.trans g5) _ _ dky
        refine ⟨tp, _, rfl, SqT.of upd_same, rfl, _, _, rfl, _, rfl, _, rfl, kd, ky, xs, _, _, rfl, rfl, K5.dn r3.s, Dp.mono r3.s _ _ dky5, nk_sit _, nk_depth _, c', small 4000 (by rw [hM.1]; omega) (by decide), _, _, rfl, rfl, ?_⟩
        exact ⟨_, z2, _, _, _, rfl, r3.put kd0 K5.out _, Dp.mono (((q2.trans g3).trans x4.g).trans g5) _ _ hp', Dp.mono g5 _ _ e2, K5.put dky5, hM.snoc, hN.succ hno⟩
    · rintro σ H' ⟨G', u, xs, v3, v4, rfl, B, _⟩
      exact k _ _ _ B.ext B.sm ⟨false, rfl, fun h => by cases h⟩
end
end Sb

namespace Sb
open PySem PySem.Spec PyProof.Rows L2 TL
/-- a plan that comes round -/
structure Rnd (x : Pl) : Prop where
  ex : ∃ i n, Cyc x i n ∧ n < 4000
structure spPlan (K : PySem.W.Frag) (vs : List V) (H : Hp) (Q : VK) (E : XK) : Prop where
  ex : ∃ (d : Addr) (G : Hp) (most : Nat), vs = [.ref d, .int most] ∧ 1 ≤ most ∧ most ≤ 20 ∧
    Drawn d G H Q fun G' v => ∃ x : Pl, x.Ok ∧ Rnd x ∧ x.shelf.length ≤ 8 ∧ Dp K G' v x.D ∧ x.p.length ≤ most ∧ x.q.length ≤ most
theorem draw_plan {K : PySem.W.Frag} {d : Addr} {G0 H0 G H : Hp} {most : Nat} {Q : VK} {E : XK} (h : At d G0 H0 G H) (m1 : 1 ≤ most) (m2 : most ≤ 20)
    (k : ∀ (G1 H1 : Hp) (v : V) (x : Pl), At d G0 H0 G1 H1 → At d G H G1 H1 → x.Ok → Rnd x → x.shelf.length ≤ 8 → Dp K G1 v x.D → x.p.length ≤ most → x.q.length ≤ most → Q v H1) : spPlan K [.ref d, .int most] H Q E :=
  ⟨⟨d, G, most, rfl, m1, m2, h.now, fun G' H' v A ⟨ss, o, rn, o8, D, l1, l2⟩ => k G' H' v ss (h.trans A) A o rn o8 D l1 l2⟩⟩
section
variable {P : Program} {w : World} {K : PySem.W.Frag} {mg : Str → Option Value} {base : Heap} {a : Ad}
theorem ok_l_plan (T : Txt K mg a) : FnOk P w K mg base CX0 4 a.f_l_plan a.d_l_plan ["_law_d", "_law_most"] (spPlan K) := by
  refine T.F_l_plan.ok sc_l_plan (fun vs H Q E h => ?_) (fun cdv A outer s H vs Q E hr h => ?_)
  · obtain ⟨⟨d, G, m, rfl, _⟩⟩ := h
    rfl
  · obtain ⟨⟨d, G, most, rfl, m1, m20, hN, k⟩⟩ := h
    refine ⟨_, (pss_cons (ps_set (i := 2) sc_l_plan.nd rfl (Or.inl rfl) (pe_op op_add pe_int (pe_call (ok_l_below T) (hr.mono (by decide)) rfl T.m_l_below T.F_l_below.kp (b_l_below T) .nil pass0 (pa_cons (pv 0) (pa_cons (pe_ix ix_list (pe_lst (pa_cons pe_int (pa_cons pe_int pa_nil))) (pe_call (ok_l_below T) (hr.mono (by decide)) rfl T.m_l_below T.F_l_below.kp (b_l_below T) .nil pass0 (pa_cons (pv 0) (pa_cons pe_int pa_nil))) (fun _ _ => rfl)) pa_nil)))))
      (pss_cons (ps_set (i := 3) sc_l_plan.nd rfl (Or.inl rfl) (pe_call (ok_l_below T) (hr.mono (by decide)) rfl T.m_l_below T.F_l_below.kp (b_l_below T) .nil pass0 (pa_cons (pv 0) (pa_cons (pv 2) pa_nil))))
      (pss_cons (ps_set (i := 4) sc_l_plan.nd rfl (Or.inl rfl) (pe_op op_mod (pe_op op_add (pe_op op_add (pv 3) pe_int) (pe_call (ok_l_below T) (hr.mono (by decide)) rfl T.m_l_below T.F_l_below.kp (b_l_below T) .nil pass0 (pa_cons (pv 0) (pa_cons (pe_op op_sub (pv 2) pe_int) pa_nil)))) (pv 2)))
      (pss_cons (ps_set (i := 5) sc_l_plan.nd rfl (Or.inl rfl) (pe_callTy call_tuple_of (by rfl) T.z_tuple (by decide +kernel) (pa_cons (pe_lc (own := [("_law_k", 6)]) (g := gName 6) (tt := tYes) rfl sc_l_plan.nd (pi_range1 (by rfl) T.z_range (pa_cons (pv 2) pa_nil)) (blkOk_by (own := [("_law_k", 6)]) (N := ["_law_d", "_law_most", "_law_many_cells", "_law_first", "_law_second", "_law_shelf", "_law_k", "_law_plan_here"]) (sc := (defScope s_l_plan)) (by decide +kernel)) (fun _ _ _ _ _ => (pg_name (i := 6) sc_l_plan.nd rfl (Or.inl rfl))) (fun _ _ _ _ _ => pts_nil) (fun _ _ _ _ _ => by exact (pe_call (ok_l_below T) (hr.mono (by decide)) rfl T.m_l_below T.F_l_below.kp (b_l_below T) .nil pass0 (pa_cons (pv 0) (pa_cons pe_int pa_nil))))) pa_nil)))
      (pss_cons (ps_set (i := 7) sc_l_plan.nd rfl (Or.inl rfl) (pe_tup (pa_cons (pv 5) (pa_cons (pe_tup (pa_cons (pv 3) (pa_cons (pv 4) pa_nil))) (pa_cons (pe_lst (pa_cons (pe_call (ok_l_steps T) (hr.mono (by decide)) rfl T.m_l_steps T.F_l_steps.kp (b_l_steps T) .nil pass0 (pa_cons (pv 0) (pa_cons (pv 1) pa_nil))) (pa_cons (pe_call (ok_l_steps T) (hr.mono (by decide)) rfl T.m_l_steps T.F_l_steps.kp (b_l_steps T) .nil pass0 (pa_cons (pv 0) (pa_cons (pv 1) pa_nil))) pa_nil))) pa_nil)))))
      (pss_one (ps_ret (pe_ifExp (pt_val (pe_call (ok_l_repeats T) (hr.mono (by decide)) rfl T.m_l_repeats T.F_l_repeats.kp (b_l_repeats T) .nil pass0 (pa_cons (pv 7) pa_nil))) (pv 7) (pe_tup (pa_cons (pv 5) (pa_cons (pe_tup (pa_cons (pv 3) (pa_cons (pv 4) pa_nil))) (pa_cons (pe_lst (pa_cons (pe_lst (pa_cons (pe_tup (pa_cons pe_str (pa_cons pe_non pa_nil))) pa_nil)) (pa_cons (pe_lst (pa_cons (pe_tup (pa_cons pe_str (pa_cons pe_non pa_nil))) pa_nil)) pa_nil))) pa_nil)))))))))))), ?_⟩
    refine ⟨_, rfl, (by show 2 ≤ sizeLine; decide), fun q hq => ?_⟩
    have A1 := hN.at.new hq (.lst [.int 3, .int 6])
    refine ⟨_, rfl, draw_go A1 (by decide) (by decide) fun H2 m A2 K2 hm => ?_⟩
    obtain ⟨lim, hlim, l1, l6⟩ : ∃ lim : Nat, ([V.int 3, V.int 6] : List V)[m]? = some (.int lim) ∧ 0 < lim ∧ lim ≤ 6 := by
      match m, hm with
      | 0, _ => exact ⟨3, rfl, by decide, by decide⟩
      | 1, _ => exact ⟨6, rfl, by decide, by decide⟩
      | m + 2, h => exact absurd h (by omega)
    refine ⟨q, _, _, .int lim, rfl, rfl, A2.now.s.seq (SqL.of upd_same), atI_nat hlim, draw_go A2 (by omega) (by omega) fun H3 i A3 K3 hi => ?_⟩
    refine ⟨_, _, rfl, rfl, ?_⟩
    -- first
    refine ⟨_, rfl, _, rfl, draw_go A3 (by omega) (by omega) fun H4 f A4 K4 hf => ?_⟩
    -- second
    refine ⟨_, rfl, _, _, rfl, rfl, _, rfl, _, rfl, _, _, rfl, rfl, draw_go A4 (by omega) (by omega) fun H5 t A5 K5 ht => ?_⟩
    refine ⟨_, _, rfl, rfl, _, rfl, _, _, rfl, rfl, (by show (0 : Int) < 3 + (i : Int); omega), ?_⟩
    dsimp only
    rw [other_eq f t i]
    have hb : (f + 1 + t) % (3 + i) < 3 + i := Nat.mod_lt _ (by omega)
    have hne : f ≠ (f + 1 + t) % (3 + i) := (other_ne (by omega) (by omega)).symm
    generalize (f + 1 + t) % (3 + i) = b at hb hne ⊢
    -- the shelf
    refine ⟨_, rfl, _, rfl, by omega, by omega, fun D hD => ?_⟩
    have D0 : H D = none := A5.ext.k D hD
    have Dd : D ≠ d := A5.ne hD
    have DG := A5.ext.new_out hD
    refine lc_range (lo := 0) (n := (3 + (i : Int)).toNat) (fun j H' => ∃ l : List Nat, At d G H (upd G q (.lst [.int 3, .int 6])) H' ∧ H' D = some (.lst (l.map fun n : Nat => V.int n)) ∧ l.length = j ∧ ∀ n ∈ l, n ≤ 3) ⟨[], A5.lay hD _, upd_same, rfl, fun _ h => nomatch h⟩ ?_ ?_
    · rintro j H' hj ⟨l, B, hl, hlj, h3⟩
      refine ⟨rfl, _, rfl, draw_go B (by decide) (by decide) fun H6 x B1 K1 hx => ?_⟩
      refine ⟨_, (by rw [K1 D Dd]; exact hl), smaller 9 (by rw [List.length_map]; omega) (by decide), l ++ [x], B1.put D0 DG Dd _, ?_, ?_, ?_⟩
      · rw [upd_same, List.map_append]; rfl
      · rw [List.length_append, hlj]; rfl
      · intro n hn
        rcases List.mem_append.mp hn with h | h
        · exact h3 n h
        · rw [List.mem_singleton.mp h]; omega
    · rintro H6 ⟨l, B, hl, hlj, h3⟩
      refine ⟨D, _, rfl, .inl ⟨SqL.of hl, fun u hu => ?_⟩⟩
      have B1 := B.new hu (.tup (l.map fun n : Nat => V.int n))
      have s1 : SqT K (upd (upd G q (.lst [.int 3, .int 6])) u (.tup (l.map fun n : Nat => V.int n))) u (l.map fun n : Nat => V.int n) := SqT.of upd_same
      -- the plan
      refine ⟨_, rfl, _, rfl, _, rfl, (by show 2 ≤ sizeLine; decide), fun st hst => ?_⟩
      have B2 := B1.new hst (.tup [.int f, .int b])
      refine ⟨_, rfl, _, rfl, draw_steps B2 m1 m20 fun G7 H7 v1 ss1 B7 B7' o1 D1 le1 => ?_⟩
      refine ⟨_, rfl, _, rfl, draw_steps B7 m1 m20 fun G8 H8 v2 ss2 B8 B8' o2 D2 le2 => ?_⟩
      refine ⟨(by show 2 ≤ sizeLine; decide), fun r hr' => ?_⟩
      have B9 := B8.new hr' (.lst [v1, v2])
      refine ⟨(by show 3 ≤ sizeLine; decide), fun z hz => ?_⟩
      have B10 := B9.new hz (.tup [.ref u, .ref st, .ref r])
      have n1 := same_new (H := G8) (p := r) (o := .lst [v1, v2]) (B8.ext.new_out hr')
      have n2 := same_new (H := upd G8 r (.lst [v1, v2])) (p := z) (o := .tup [.ref u, .ref st, .ref r]) (B9.ext.new_out hz)
      have g8 : Same _ G8 := B7'.g.trans B8'.g
      have dx : Dp K (upd (upd G8 r (.lst [v1, v2])) z (.tup [.ref u, .ref st, .ref r])) (.ref z) (⟨l, f, b, ss1, ss2⟩ : Pl).D := by
        refine .tup (SqT.of upd_same) (.cons (.tup ?_ (nats_D _ _ l)) (.cons (.tup ?_ (.cons (.int _) (.cons (.int _) .nil))) (.cons (.lst (xs := [v1, v2]) ?_ (.cons ?_ (.cons ?_ .nil))) .nil)))
        · exact Same.seqT ((g8.trans n1).trans n2) (Same.seqT (same_new (B1.ext.new_out hst)) s1)
        · exact Same.seqT ((g8.trans n1).trans n2) (SqT.of upd_same)
        · exact n2.seq (SqL.of upd_same)
        · exact Dp.mono ((B8'.g.trans n1).trans n2) _ _ D1
        · exact Dp.mono (n1.trans n2) _ _ D2
      have ok : (⟨l, f, b, ss1, ss2⟩ : Pl).Ok := ⟨by show 3 ≤ l.length; omega, by show l.length ≤ 12; omega, h3, by show f < l.length; omega, by show b < l.length; omega, hne, o1, o2⟩
      -- the filter
      refine ⟨_, rfl, ⟨⟨_, _, _, rfl, dx, ok, B10.now.s, fun G9 H9 rv x9 s9 h9 => ?_⟩⟩⟩
      obtain ⟨rb, rfl, hrb⟩ := h9
      have C1 := B10.pure x9 s9
      refine ⟨_, rfl, ite_b (fun c => ?_) (fun c => ?_)⟩
      · exact ⟨_, rfl, k _ _ _ C1 ⟨_, ok, ⟨hrb c⟩, by show l.length ≤ 8; omega, Dp.mono x9.g _ _ dx, le1, le2⟩⟩
      · refine ⟨_, rfl, _, rfl, _, rfl, (by show 2 ≤ sizeLine; decide), fun t1 ht1 => ?_⟩
        have C2 := C1.new ht1 (.tup [.int f, .int b])
        refine ⟨(by show 2 ≤ sizeLine; decide), fun t2 ht2 => ?_⟩
        have C3 := C2.new ht2 (.tup [.str (wS 4), .non])
        refine ⟨(by show 1 ≤ sizeLine; decide), fun t3 ht3 => ?_⟩
        have C4 := C3.new ht3 (.lst [.ref t2])
        refine ⟨(by show 2 ≤ sizeLine; decide), fun t4 ht4 => ?_⟩
        have C5 := C4.new ht4 (.tup [.str (wS 4), .non])
        refine ⟨(by show 1 ≤ sizeLine; decide), fun t5 ht5 => ?_⟩
        have C6 := C5.new ht5 (.lst [.ref t4])
        refine ⟨(by show 2 ≤ sizeLine; decide), fun t6 ht6 => ?_⟩
        have C7 := C6.new ht6 (.lst [.ref t3, .ref t5])
        refine ⟨(by show 3 ≤ sizeLine; decide), fun t7 ht7 => ?_⟩
        have C8 := C7.new ht7 (.tup [.ref u, .ref t1, .ref t6])
        have e2 := same_new (o := .tup [.str (wS 4), .non]) (C2.ext.new_out ht2)
        have e3 := same_new (o := .lst [.ref t2]) (C3.ext.new_out ht3)
        have e4 := same_new (o := .tup [.str (wS 4), .non]) (C4.ext.new_out ht4)
        have e5 := same_new (o := .lst [.ref t4]) (C5.ext.new_out ht5)
        have e6 := same_new (o := .lst [.ref t3, .ref t5]) (C6.ext.new_out ht6)
        have e7 := same_new (o := .tup [.ref u, .ref t1, .ref t6]) (C7.ext.new_out ht7)
        have e1 := same_new (o := .tup [.int f, .int b]) (C1.ext.new_out ht1)
        have su : SqT K G9 u (l.map fun n : Nat => V.int n) := Same.seqT x9.g (Same.seqT ((g8.trans n1).trans n2) (Same.seqT (same_new (B1.ext.new_out hst)) s1))
        refine k _ _ _ C8 ⟨waits ⟨l, f, b, ss1, ss2⟩, waits_ok ok, ⟨_, _, waits_cyc _, by decide⟩, by show l.length ≤ 8; omega, ?_, m1, m1⟩
        refine .tup (SqT.of upd_same) (.cons (.tup ?_ (nats_D _ _ l)) (.cons (.tup ?_ (.cons (.int _) (.cons (.int _) .nil))) (.cons (.lst (xs := [.ref t3, .ref t5]) ?_ (.cons (.lst (xs := [.ref t2]) ?_ (.cons (stepD_no ?_) .nil)) (.cons (.lst (xs := [.ref t4]) ?_ (.cons (stepD_no ?_) .nil)) .nil))) .nil)))
        · exact Same.seqT ((((((e1.trans e2).trans e3).trans e4).trans e5).trans e6).trans e7) su
        · exact Same.seqT (((((e2.trans e3).trans e4).trans e5).trans e6).trans e7) (SqT.of upd_same)
        · exact e7.seq (SqL.of upd_same)
        · exact (((e4.trans e5).trans e6).trans e7).seq (SqL.of upd_same)
        · exact Same.seqT ((((e3.trans e4).trans e5).trans e6).trans e7) (SqT.of upd_same)
        · exact (e6.trans e7).seq (SqL.of upd_same)
        · exact Same.seqT ((e5.trans e6).trans e7) (SqT.of upd_same)
end
end Sb

namespace Sb
open PySem PySem.Spec PyProof.Rows L2 TL
/-! ### some things may be written: those of S -/
def wos (S : List Addr) (H : Hp) : Hp := fun b => if b ∈ S then none else H b
theorem wos_in {S : List Addr} {H : Hp} {b : Addr} (h : b ∈ S) : wos S H b = none := if_pos h
theorem wos_out {S : List Addr} {H : Hp} {b : Addr} (h : b ∉ S) : wos S H b = H b := if_neg h
theorem wos_some {S : List Addr} {H : Hp} {b : Addr} {o : HO} (h : wos S H b = some o) : b ∉ S ∧ H b = some o := by
  by_cases e : b ∈ S
  · rw [wos_in e] at h; cases h
  · rw [wos_out e] at h; exact ⟨e, h⟩
structure Mv (S : List Addr) (G0 H0 G H : Hp) : Prop where
  ext : Ext G0 H0 G H
  sm : Same (wos S H0) H
section
variable {S S' : List Addr} {G0 H0 G H G1 H1 : Hp} {p l x dx : Addr} {o : HO}
theorem Mv.start (s : Same G H) : Mv S G H G H := ⟨Ext.refl s, fun _ _ e => (wos_some e).2⟩
theorem Mv.new (a : Mv S G0 H0 G H) (np : H p = none) (o : HO) : Mv S G0 H0 (upd G p o) (upd H p o) := ⟨a.ext.new np, a.sm.trans (same_new np)⟩
theorem Mv.lay (a : Mv S G0 H0 G H) (np : H p = none) (o : HO) : Mv S G0 H0 G (upd H p o) := ⟨a.ext.lay np, a.sm.trans (same_new np)⟩
theorem Mv.put (a : Mv S G0 H0 G H) (n0 : l ∈ S ∨ H0 l = none) (n : G l = none) (o : HO) : Mv S G0 H0 G (upd H l o) := ⟨a.ext.put n, same_put a.sm (by
  rcases n0 with h | h
  · exact wos_in h
  · by_cases e : l ∈ S
    · exact wos_in e
    · rw [wos_out e]; exact h)⟩
theorem Mv.freeze (a : Mv S G0 H0 G H) (n0 : H0 l = none) (h : H l = some o) : Mv S G0 H0 (upd G l o) H := ⟨a.ext.freeze n0 h, a.sm⟩
theorem Mv.make (a : Mv S G0 H0 G H) (nx : H x = none) (nd : H dx = none) (ne : dx ≠ x) (o : HO) : Mv S G0 H0 (upd (upd G dx (.own x)) x o) (upd (upd H dx (.own x)) x o) := ⟨a.ext.make nx nd ne o, a.sm.trans (same_make nx nd ne o)⟩
theorem Mv.trans (a : Mv S G0 H0 G H) (b : Mv S G H G1 H1) : Mv S G0 H0 G1 H1 := by
  refine ⟨a.ext.trans b.ext, fun c o e => ?_⟩
  obtain ⟨h1, h2⟩ := wos_some e
  exact b.sm c o (by rw [wos_out h1]; exact a.sm c o e)
theorem Mv.mono (a : Mv S G0 H0 G H) (h : ∀ b ∈ S, b ∈ S' ∨ H0 b = none) : Mv S' G0 H0 G H := by
  refine ⟨a.ext, fun c o e => ?_⟩
  obtain ⟨h1, h2⟩ := wos_some e
  refine a.sm c o ?_
  by_cases hc : c ∈ S
  · rcases h c hc with h | h
    · exact absurd h h1
    · rw [h] at h2; cases h2
  · rw [wos_out hc]; exact h2
theorem Mv.kept (a : Mv S G0 H0 G H) (h : H0 l = some o) (n : l ∉ S) : H l = some o := a.sm l o (by rw [wos_out n]; exact h)
theorem Mv.s (a : Mv S G0 H0 G H) : Same G H := a.ext.h
theorem Mv.g (a : Mv S G0 H0 G H) : Same G0 G := a.ext.g
theorem Mv.free (a : Mv S G0 H0 G H) (np : H p = none) : H0 p = none := a.ext.k p np
theorem Mv.freeG (a : Mv S G0 H0 G H) (np : H p = none) : G p = none := Same.free a.ext.h np
theorem Mv.pt (a : Mv [] G0 H0 G H) : Pt G0 H0 G H := ⟨a.ext, fun c o e => a.sm c o (by rw [wos_out (by simp)]; exact e)⟩
theorem Mv.pure (a : Mv S G0 H0 G H) (e : Ext G H G1 H1) (s : Same H H1) : Mv S G0 H0 G1 H1 := ⟨a.ext.trans e, a.sm.trans s⟩
end
/-! ### the parser -/
def parF (tk fl : Addr) (n : Nat) : List (Str × V) := [("tokens", .ref tk), ("at", .int n), ("faults", .ref fl)]
def ParAt (a : Ad) (G H : Hp) (p : Addr) (n : Nat) (toks : List Tk) : Prop := ∃ (dx tk fl : Addr) (vs : List V), H p = some (.ins a.C_Parser dx (parF tk fl n)) ∧ G p = none ∧ G tk = some (.lst vs) ∧ ToksAt a.C_Token G vs toks ∧ G fl = some (.lst [])
theorem parF_put (tk fl : Addr) (n m : Nat) : putF "at" (.int ((n : Int) + (m : Int))) (parF tk fl n) = parF tk fl (n + m) := by
  show (if ("tokens" : Str) = "at" then _ else (("tokens" : Str), V.ref tk) :: (if ("at" : Str) = "at" then (("at" : Str), V.int ((n : Int) + (m : Int))) :: [(("faults" : Str), V.ref fl)] else _)) = _
  rw [if_neg (by decide +kernel), if_pos rfl]
  rfl
theorem ParAt.grow {a : Ad} {G G' H H' : Hp} {p : Addr} {n : Nat} {toks : List Tk} (h : ParAt a G H p n toks) (g : Same G G') (hp : ∀ o, H p = some o → H' p = some o) (n' : G' p = none) : ParAt a G' H' p n toks := by
  obtain ⟨dx, tk, fl, vs, h1, h2, h3, h4, h5⟩ := h
  exact ⟨dx, tk, fl, vs, hp _ h1, n', g _ _ h3, ToksAt.mono g h4, g _ _ h5⟩
theorem ParAt.some {a : Ad} {G H : Hp} {p : Addr} {n : Nat} {toks : List Tk} (h : ParAt a G H p n toks) : ∃ dx tk fl, H p = some (.ins a.C_Parser dx (parF tk fl n)) := by
  obtain ⟨dx, tk, fl, vs, h1, _⟩ := h
  exact ⟨dx, tk, fl, h1⟩
theorem ParAt.out {a : Ad} {G H : Hp} {p : Addr} {n : Nat} {toks : List Tk} (h : ParAt a G H p n toks) : G p = none := by
  obtain ⟨dx, tk, fl, vs, _, h1, _⟩ := h
  exact h1
/-- through a new object -/
theorem ParAt.new {a : Ad} {G H : Hp} {p q : Addr} {n : Nat} {toks : List Tk} {o : HO} (h : ParAt a G H p n toks) (s : Same G H) (nq : H q = none) : ParAt a (upd G q o) (upd H q o) p n toks := by
  obtain ⟨dx, tk, fl, h1⟩ := h.some
  have ne : p ≠ q := ne_of_none h1 nq
  exact h.grow (same_new (Same.free s nq)) (fun o e => by rw [upd_ne ne]; exact e) (by rw [upd_ne ne]; exact h.out)
theorem ParAt.lay {a : Ad} {G H : Hp} {p q : Addr} {n : Nat} {toks : List Tk} {o : HO} (h : ParAt a G H p n toks) (nq : H q = none) : ParAt a G (upd H q o) p n toks := by
  obtain ⟨dx, tk, fl, h1⟩ := h.some
  exact h.grow (Same.refl G) (fun o e => by rw [upd_ne (ne_of_none h1 nq)]; exact e) h.out
theorem ParAt.put {a : Ad} {G H : Hp} {p q : Addr} {n : Nat} {toks : List Tk} {o : HO} (h : ParAt a G H p n toks) (ne : p ≠ q) : ParAt a G (upd H q o) p n toks :=
  h.grow (Same.refl G) (fun o e => by rw [upd_ne ne]; exact e) h.out
structure spPeek (a : Ad) (vs : List V) (H : Hp) (Q : VK) (E : XK) : Prop where
  ex : ∃ (p : Addr) (G : Hp) (n : Nat) (toks : List Tk) (tk : Tk), vs = [.ref p] ∧ Same G H ∧ ParAt a G H p n toks ∧ toks[n]? = some tk ∧ ∀ v, TokAt a.C_Token G v tk → Q v H
structure spTake (a : Ad) (f : Tk → Str) (vs : List V) (H : Hp) (Q : VK) (E : XK) : Prop where
  ex : ∃ (p : Addr) (G : Hp) (n : Nat) (toks : List Tk) (tk : Tk), vs = [.ref p, .str (f tk)] ∧ Same G H ∧ ParAt a G H p n toks ∧ toks[n]? = some tk ∧ ∀ H1 v, Mv [p] G H G H1 → ParAt a G H1 p (n + 1) toks → TokAt a.C_Token G v tk → Q v H1
section
variable {P : Program} {w : World} {K : PySem.W.Frag} {mg : Str → Option Value} {base : Heap} {a : Ad}
theorem ok_Parser_peek (T : Txt K mg a) : FnOk P w K mg base CX0 1 a.f_Parser_peek a.d_Parser_peek ["self"] (spPeek a) := by
  refine T.F_Parser_peek.ok sc_Parser_peek (fun vs H Q E h => ?_) (fun cdv A outer s H vs Q E hr h => ?_)
  · obtain ⟨⟨p, G, n, toks, tk, rfl, _⟩⟩ := h
    rfl
  · obtain ⟨⟨p, G, n, toks, tk, rfl, hs, ⟨dx, ta, fl, vs, h1, h2, h3, h4, h5⟩, hn, k⟩⟩ := h
    obtain ⟨v, hv, htk⟩ := Paired.at_ h4 hn
    refine ⟨_, (pss_one (ps_ret (pe_ix ix_list (pe_fld (pv 0) rfl) (pe_fld (pv 0) rfl) (fun _ _ => rfl)))), ?_⟩
    refine ⟨_, rfl, p, _, dx, _, _, rfl, h1, T.cl_Parser, T.n_Parser_tokens, (by kernel_rfl), _, rfl, p, _, dx, _, _, rfl, h1, T.cl_Parser, T.n_Parser_at, (by kernel_rfl), ta, vs, _, v, rfl, rfl, SqL.of (hs _ _ h3), atI_nat hv, k v htk⟩
theorem peek_go {p : Addr} {G H : Hp} {n : Nat} {toks : List Tk} {tk : Tk} {Q : VK} {E : XK} (hs : Same G H) (hP : ParAt a G H p n toks) (hn : toks[n]? = some tk) (k : ∀ v, TokAt a.C_Token G v tk → Q v H) : spPeek a [.ref p] H Q E := ⟨⟨p, G, n, toks, tk, rfl, hs, hP, hn, k⟩⟩
theorem ok_Parser_take (T : Txt K mg a) : FnOk P w K mg base CX0 2 a.f_Parser_take a.d_Parser_take ["self", "kind"] (spTake a fun t => kS t.k) := by
  refine T.F_Parser_take.ok sc_Parser_take (fun vs H Q E h => ?_) (fun cdv A outer s H vs Q E hr h => ?_)
  · obtain ⟨⟨p, G, n, toks, tk, rfl, _⟩⟩ := h
    rfl
  · obtain ⟨⟨p, G, n, toks, tk, rfl, hs, hP, hn, k⟩⟩ := h
    obtain ⟨dx, ta, fl, vs, h1, h2, h3, h4, h5⟩ := id hP
    refine ⟨_, (pss_cons (ps_set (i := 2) sc_Parser_take.nd rfl (Or.inl rfl) (pe_meth0 (pv 0) T.cl_Parser T.M_Parser_peek (ok_Parser_peek T) (hr.mono (by decide)) (b_Parser_peek T) .nil pass0))
      (pss_cons (ps_if (pt_cmpR op_ne (pe_fld (pv 2) rfl) (pv 1) (nomark _)) pss_never pss_nil)
      (pss_cons (ps_fldaug (pv 0) pe_int in_add)
      (pss_one (ps_ret (pv 2)))))), ?_⟩
    refine ⟨_, rfl, p, dx, _, rfl, h1, (by kernel_rfl), peek_go hs hP hn fun v hv => ?_⟩
    obtain ⟨q, dq, l, c, rfl, hq⟩ := id hv
    refine ⟨_, rfl, q, _, dq, _, _, rfl, hs _ _ hq, T.cl_Token, T.n_Token_kind, (by kernel_rfl), _, rfl, rfl, _, rfl, ite_f (by rw [decide_eq_true rfl]; rfl) ?_⟩
    refine ⟨_, rfl, p, _, dx, _, .int n, rfl, h1, T.cl_Parser, T.n_Parser_at, (by kernel_rfl), _, _, rfl, rfl, dx, _, h1, (by show 3 < 1000; decide), ?_⟩
    refine ⟨_, rfl, k _ _ ((Mv.start hs).put (.inl (by simp)) h2 _) ⟨dx, ta, fl, vs, ?_, h2, h3, h4, h5⟩ hv⟩
    rw [upd_same]
    exact congrArg (fun z => some (HO.ins a.C_Parser dx z)) (parF_put ta fl n 1)
theorem ok_Parser_take_word (T : Txt K mg a) : FnOk P w K mg base CX0 2 a.f_Parser_take_word a.d_Parser_take_word ["self", "word"] (spTake a fun t => mkS t.t) := by
  refine T.F_Parser_take_word.ok sc_Parser_take_word (fun vs H Q E h => ?_) (fun cdv A outer s H vs Q E hr h => ?_)
  · obtain ⟨⟨p, G, n, toks, tk, rfl, _⟩⟩ := h
    rfl
  · obtain ⟨⟨p, G, n, toks, tk, rfl, hs, hP, hn, k⟩⟩ := h
    obtain ⟨dx, ta, fl, vs, h1, h2, h3, h4, h5⟩ := id hP
    refine ⟨_, (pss_cons (ps_set (i := 2) sc_Parser_take_word.nd rfl (Or.inl rfl) (pe_meth0 (pv 0) T.cl_Parser T.M_Parser_peek (ok_Parser_peek T) (hr.mono (by decide)) (b_Parser_peek T) .nil pass0))
      (pss_cons (ps_if (pt_cmpR op_ne (pe_fld (pv 2) rfl) (pv 1) (nomark _)) pss_never pss_nil)
      (pss_cons (ps_fldaug (pv 0) pe_int in_add)
      (pss_one (ps_ret (pv 2)))))), ?_⟩
    refine ⟨_, rfl, p, dx, _, rfl, h1, (by kernel_rfl), peek_go hs hP hn fun v hv => ?_⟩
    obtain ⟨q, dq, l, c, rfl, hq⟩ := id hv
    refine ⟨_, rfl, q, _, dq, _, _, rfl, hs _ _ hq, T.cl_Token, T.n_Token_text, (by kernel_rfl), _, rfl, rfl, _, rfl, ite_f (by rw [decide_eq_true rfl]; rfl) ?_⟩
    refine ⟨_, rfl, p, _, dx, _, .int n, rfl, h1, T.cl_Parser, T.n_Parser_at, (by kernel_rfl), _, _, rfl, rfl, dx, _, h1, (by show 3 < 1000; decide), ?_⟩
    refine ⟨_, rfl, k _ _ ((Mv.start hs).put (.inl (by simp)) h2 _) ⟨dx, ta, fl, vs, ?_, h2, h3, h4, h5⟩ hv⟩
    rw [upd_same]
    exact congrArg (fun z => some (HO.ins a.C_Parser dx z)) (parF_put ta fl n 1)
/-- the next token is taken, within a def that may write S -/
theorem take_go {f : Tk → Str} {z : Str} {S : List Addr} {p : Addr} {G0 H0 G H : Hp} {n : Nat} {toks : List Tk} {tk : Tk} {Q : VK} {E : XK} (hz : z = f tk) (m : Mv S G0 H0 G H) (hp : p ∈ S ∨ H0 p = none) (hP : ParAt a G H p n toks) (hn : toks[n]? = some tk)
    (k : ∀ H1 v, Mv S G0 H0 G H1 → Mv [p] G H G H1 → ParAt a G H1 p (n + 1) toks → TokAt a.C_Token G v tk → Q v H1) : spTake a f [.ref p, .str z] H Q E :=
  ⟨⟨p, G, n, toks, tk, by rw [hz], m.s, hP, hn, fun H1 v mv hP1 hv => k H1 v ⟨m.ext.trans mv.ext, fun c o e => by
    have e1 := m.sm c o e
    obtain ⟨h1, h2⟩ := wos_some e
    refine mv.sm c o ?_
    by_cases hc : c ∈ [p]
    · have : c = p := by simpa using hc
      subst this
      rcases hp with hp | hp
      · exact absurd hp h1
      · rw [hp] at h2; cases h2
    · rw [wos_out hc]; exact e1⟩ mv hP1 hv⟩⟩
end
end Sb

namespace Sb
open PySem PySem.Spec PyProof.Rows L2 TL
def numT (n : Nat) : Tk := ⟨.number, numL n⟩
def kwT (s : Str) : Tk := ⟨.keyword, tl s⟩
def sgT (c : Nat) : Tk := ⟨.sign, [c]⟩
def nmT (t : List Nat) : Tk := ⟨.name, t⟩
theorem drop_at {α : Type} {l : List α} {n : Nat} {x : α} {r : List α} (h : l.drop n = x :: r) : l[n]? = some x ∧ l.drop (n + 1) = r := by
  constructor
  · have h1 : (l.drop n)[0]? = some x := by rw [h]; rfl
    rw [List.getElem?_drop] at h1
    exact h1
  · rw [← List.drop_drop, h]
    rfl
theorem int_of {n : Nat} (h : n < 100) : intText? (mkS (numL n)) = some (n : Int) := by
  have e : Str.ofString (toString ((n : Nat) : Int)) = mkS (numL n) := mkS_of (tl_num n)
  rw [← e]
  exact int_num (by have := num_len h; omega)
theorem numT_len {n : Nat} (h : n < 100) : (mkS (numL n)).length ≤ 640 := by rw [len_mkS]; have := num_len h; omega
structure spShelf (a : Ad) (K : PySem.W.Frag) (vs : List V) (H : Hp) (Q : VK) (E : XK) : Prop where
  ex : ∃ (p : Addr) (G : Hp) (n : Nat) (toks : List Tk) (nums : List Nat) (rest : List Tk), vs = [.ref p] ∧ Same G H ∧ ParAt a G H p n toks ∧ toks.drop n = kwT "shelf" :: (nums.map numT ++ (sgT 59 :: rest)) ∧ 3 ≤ nums.length ∧ nums.length ≤ 12 ∧ (∀ x ∈ nums, x ≤ 3) ∧
    ∀ G1 H1 u, Mv [p] G H G1 H1 → ParAt a G1 H1 p (n + nums.length + 2) toks → SqT K G1 u (nums.map fun n : Nat => V.int n) → Q (.ref u) H1
section
variable {P : Program} {w : World} {K : PySem.W.Frag} {mg : Str → Option Value} {base : Heap} {a : Ad}
theorem ok_Parser_parse_shelf (T : Txt K mg a) : FnOk P w K mg base CX0 3 a.f_Parser_parse_shelf a.d_Parser_parse_shelf ["self"] (spShelf a K) := by
  refine T.F_Parser_parse_shelf.ok sc_Parser_parse_shelf (fun vs H Q E h => ?_) (fun cdv A outer s H vs Q E hr h => ?_)
  · obtain ⟨⟨p, G, n, toks, nums, rest, rfl, _⟩⟩ := h
    rfl
  · obtain ⟨⟨p, G, n, toks, nums, rest, rfl, hs, hP, hd, h3, h12, hb, k⟩⟩ := h
    refine ⟨_, (pss_cons (ps_set (i := 1) sc_Parser_parse_shelf.nd rfl (Or.inl rfl) (pe_meth (pv 0) T.cl_Parser T.M_Parser_take_word (ok_Parser_take_word T) (hr.mono (by decide)) (b_Parser_take_word T) .nil pass0 (pa_cons pe_str pa_nil)))
      (pss_cons (ps_set (i := 2) sc_Parser_parse_shelf.nd rfl (Or.inl rfl) (pe_lst (pa_cons (pe_meth (pv 0) T.cl_Parser T.M_Parser_take (ok_Parser_take T) (hr.mono (by decide)) (b_Parser_take T) .nil pass0 (pa_cons (pe_glob (v := V.str (Str.ofString "number")) rfl T.c_NUMBER ⟨_, rfl⟩) pa_nil)) pa_nil)))
      (pss_cons (ps_while PassesOwn.never (pt_cmpR op_eq (pe_fld (pe_meth0 (pv 0) T.cl_Parser T.M_Parser_peek (ok_Parser_peek T) (hr.mono (by decide)) (b_Parser_peek T) .nil pass0) rfl) (pe_glob (v := V.str (Str.ofString "number")) rfl T.c_NUMBER ⟨_, rfl⟩) (nomark _)) (pss_one (ps_expr (pe_bm PySem.F.plainAttrs_list PySem.F.slot_list_append PySem.F.type_list_append mt_append (pv 2) (pa_cons (pe_meth (pv 0) T.cl_Parser T.M_Parser_take (ok_Parser_take T) (hr.mono (by decide)) (b_Parser_take T) .nil pass0 (pa_cons (pe_glob (v := V.str (Str.ofString "number")) rfl T.c_NUMBER ⟨_, rfl⟩) pa_nil)) pa_nil)))))
      (pss_cons (ps_expr (pe_meth (pv 0) T.cl_Parser T.M_Parser_take_word (ok_Parser_take_word T) (hr.mono (by decide)) (b_Parser_take_word T) .nil pass0 (pa_cons pe_str pa_nil)))
      (pss_cons (ps_if (pt_cmpR op_lt (pe_callB call_len_seq (by rfl) T.z_len (by decide +kernel) (pa_cons (pv 2) pa_nil)) (pe_glob (v := V.int 3) rfl T.c_MIN_CELLS ⟨_, rfl⟩) (nomark _)) pss_never pss_nil)
      (pss_cons (ps_for PassesOwn.never rfl (pi_enum (by rfl) T.z_enumerate (pa_cons (pv 2) pa_nil)) (pg_tup (by rfl) (pgs_cons (pg_name (i := 3) sc_Parser_parse_shelf.nd rfl (Or.inl rfl)) (pgs_cons (pg_name (i := 4) sc_Parser_parse_shelf.nd rfl (Or.inl rfl)) pgs_nil))) (pss_one (ps_if (pt_cmpR op_eq (pv 3) (pe_glob (v := V.int 12) rfl T.c_MAX_CELLS ⟨_, rfl⟩) (nomark _)) pss_never (pss_one (ps_if (pt_cmpR op_gt (pe_callTy call_int_str (by rfl) T.z_int (by decide +kernel) (pa_cons (pe_fld (pv 4) rfl) pa_nil)) (pe_glob (v := V.int 3) rfl T.c_MAX_BOXES ⟨_, rfl⟩) (nomark _)) pss_never pss_nil)))))
      (pss_one (ps_ret (pe_callTy call_tuple_of (by rfl) T.z_tuple (by decide +kernel) (pa_cons (pe_lc (own := [("token", 4)]) (g := gName 4) (te := (tCB _ (tCons (tFld K (tVar 4) "text") tNil))) (tt := tYes) rfl sc_Parser_parse_shelf.nd (pi_list (pv 2)) (blkOk_by (own := [("token", 4)]) (N := ["self", "keyword", "tokens", "place", "token"]) (sc := (defScope s_Parser_parse_shelf)) (by decide +kernel)) (fun _ _ _ _ _ => (pg_name (i := 4) sc_Parser_parse_shelf.nd rfl (Or.inl rfl))) (fun _ _ _ _ _ => pts_nil) (fun _ _ _ _ _ => by exact (pe_callTy call_int_str (by rfl) T.z_int (by decide +kernel) (pa_cons (pe_fld (pv 4) rfl) pa_nil)))) pa_nil)))))))))), ?_⟩
    have M0 : Mv [p] G H G H := Mv.start hs
    obtain ⟨dx, ta, fl, h1⟩ := hP.some
    obtain ⟨n0, d1⟩ := drop_at hd
    -- keyword
    refine ⟨_, rfl, p, dx, _, rfl, h1, (by kernel_rfl), take_go (tk := kwT "shelf") (mkS_tl _).symm M0 (.inl (by simp)) hP n0 fun H1 v1 M1 _ P1 hv1 => ?_⟩
    obtain ⟨x0, nums', rfl⟩ : ∃ x0 nums', nums = x0 :: nums' := by cases nums with | nil => exact absurd h3 (by decide) | cons x y => exact ⟨x, y, rfl⟩
    generalize hnums : x0 :: nums' = nums at *
    have d1' : toks.drop (n + 1) = nums.map numT ++ (sgT 59 :: rest) := d1
    have at_j : ∀ j x, nums[j]? = some x → toks[n + 1 + j]? = some (numT x) := fun j x hj => by
      have hlt : j < nums.length := (List.getElem?_eq_some_iff.mp hj).1
      have e := congrArg (fun l => l[j]?) d1'
      simp only [List.getElem?_drop] at e
      rw [e, List.getElem?_append_left (by rw [List.length_map]; exact hlt), List.getElem?_map, hj]
      rfl
    have at_e : toks[n + 1 + nums.length]? = some (sgT 59) := by
      have e := congrArg (fun l => l[nums.length]?) d1'
      simp only [List.getElem?_drop] at e
      rw [e, List.getElem?_append_right (by rw [List.length_map]; exact Nat.le_refl _), List.length_map, Nat.sub_self]
      rfl
    have hx0 : nums[0]? = some x0 := by rw [← hnums]; rfl
    obtain ⟨dx1, ta1, fl1, h11⟩ := P1.some
    refine ⟨_, rfl, p, dx1, _, rfl, h11, (by kernel_rfl), take_go (tk := numT x0) rfl M1 (.inl (by simp)) P1 (at_j 0 x0 hx0) fun H2 v2 M2 _ P2 hv2 => ?_⟩
    refine ⟨(by show 1 ≤ sizeLine; decide), fun l hl => ?_⟩
    have l0 : H l = none := M2.free hl
    have lG : G l = none := M2.freeG hl
    have pl : p ≠ l := by obtain ⟨_, _, _, h⟩ := P2.some; exact ne_of_none h hl
    have M3 := M2.lay hl (.lst [v2])
    have P3 := P2.lay (o := .lst [v2]) hl
    -- the numbers
    obtain ⟨Iv, hIv⟩ : ∃ Iv : Nat → L2.St → Hp → Prop, Iv = fun j σ H' => ∃ (vs : List V), σ = [some (.ref p), some v1, some (.ref l), none, none] ∧ 1 ≤ j ∧ j ≤ nums.length ∧ Mv [p] G H G H' ∧ ParAt a G H' p (n + 1 + j) toks ∧ H' l = some (.lst vs) ∧ ToksAt a.C_Token G vs ((nums.take j).map numT) := ⟨_, rfl⟩
    dsimp only
    refine seq_restσ (fun σ H' => Iv nums.length σ H') (fun σ H' hI => ?r) (fun rest1 => ?m)
    case m =>
      refine ⟨fun m σ H' => ∃ j, m = nums.length - j ∧ Iv j σ H', ⟨_, 1, rfl, ?_⟩, ?_⟩
      · rw [hIv]
        refine ⟨[v2], rfl, Nat.le_refl _, by omega, M3, P3, upd_same, ?_⟩
        have : nums.take 1 = [x0] := by rw [← hnums]; rfl
        rw [this]
        exact .cons hv2 .nil
      · rintro m σ H' ⟨j, rfl, hI⟩
        have hI0 := hI
        rw [hIv] at hI
        obtain ⟨vs, rfl, j1, jn, M, PP, hlv, htk⟩ := hI
        obtain ⟨dx2, ta2, fl2, h12'⟩ := PP.some
        by_cases hj : j < nums.length
        · obtain ⟨y, hy⟩ : ∃ y, nums[j]? = some y := ⟨_, List.getElem?_eq_getElem hj⟩
          refine ⟨_, rfl, p, dx2, _, rfl, h12', (by kernel_rfl), peek_go M.s PP (at_j j y hy) fun v hv => ?_⟩
          obtain ⟨q, dq, lq, cq, rfl, hq⟩ := id hv
          refine ⟨q, _, dq, _, .str (kS .number), rfl, M.s _ _ hq, T.cl_Token, T.n_Token_kind, (by kernel_rfl), rfl, _, rfl, ite_t (decide_eq_true rfl) ?_⟩
          refine ⟨fun σ' H' => Iv (j + 1) σ' H', fun σ' H' hn => ⟨_, by omega, j + 1, rfl, hn⟩, ?_⟩
          refine ⟨_, rfl, .inl ⟨rfl, _, SqL.of hlv⟩, _, rfl, p, dx2, _, rfl, h12', (by kernel_rfl), take_go (tk := numT y) rfl M (.inl (by simp)) PP (at_j j y hy) fun H4 v4 M4 m4 P4 hv4 => ?_⟩
          have hl4 : H4 l = some (.lst vs) := m4.kept hlv (by simp [pl.symm])
          refine ⟨l, vs, _, rfl, rfl, hl4, smaller 12 (by rw [Paired.len htk, List.length_map, List.length_take]; omega) (by decide), ?_⟩
          rw [hIv]
          refine ⟨vs ++ [v4], rfl, by omega, by omega, M4.put (.inr l0) lG _, P4.put pl, upd_same, ?_⟩
          rw [take_more hy, List.map_append]
          exact Paired.snoc htk hv4
        · have ej : j = nums.length := by omega
          rw [ej] at PP hI0
          refine ⟨_, rfl, p, dx2, _, rfl, (by rw [ej] at h12'; exact h12'), (by kernel_rfl), peek_go M.s PP at_e fun v hv => ?_⟩
          obtain ⟨q, dq, lq, cq, rfl, hq⟩ := id hv
          refine ⟨q, _, dq, _, .str (kS .sign), rfl, M.s _ _ hq, T.cl_Token, T.n_Token_kind, (by kernel_rfl), rfl, _, rfl, ite_f (by decide +kernel) (rest1 _ _ hI0)⟩
    rw [hIv] at hI
    obtain ⟨vs, rfl, j1, jn, M, PP, hlv, htk⟩ := hI
    rw [List.take_length] at htk
    have hvl : vs.length = nums.length := by rw [Paired.len htk, List.length_map]
    obtain ⟨dx2, ta2, fl2, h12'⟩ := PP.some
    -- ;
    refine ⟨_, rfl, p, dx2, _, rfl, h12', (by kernel_rfl), take_go (tk := sgT 59) (mkS_of t_sc) M (.inl (by simp)) PP at_e fun H4 v4 M4 m4 P4 _ => ?_⟩
    have hl4 : H4 l = some (.lst vs) := m4.kept hlv (by simp [pl.symm])
    refine ⟨_, rfl, l, _, rfl, .inl (SqL.of hl4), _, _, rfl, rfl, _, rfl, ite_f (decide_eq_false (by rw [hvl]; omega)) ?_⟩
    -- the check
    refine ⟨_, rfl, l, _, rfl, SqL.of hl4, for_it (walk_enum (K := K) (a := l) (xs := vs)) (fun i σ H' => ∃ (v3 v4 : Option V), σ = [some (.ref p), some v1, some (.ref l), v3, v4] ∧ Mv [p] G H G H' ∧ ParAt a G H' p (n + 1 + nums.length + 1) toks ∧ H' l = some (.lst vs)) ⟨none, none, rfl, M4, P4, hl4⟩ (fun i σ H' _ ⟨_, _, _, _, _, h⟩ => SqL.of h) ?_ ?_⟩
    · rintro i y σ H5 H6 hi ⟨v3, v4', rfl, M5, P5, hl5⟩ ⟨T', x, z, rfl, hT', rfl, hx, hz⟩
      cases hx
      have hz : vs[i]? = some z := hz
      obtain ⟨tk, htk1, htok⟩ := paired_get htk hz
      rw [List.getElem?_map] at htk1
      obtain ⟨y, hy, rfl⟩ : ∃ y, nums[i]? = some y ∧ tk = numT y := by
        cases e : nums[i]? with
        | none => rw [e] at htk1; cases htk1
        | some q => rw [e] at htk1; exact ⟨q, rfl, (Option.some.inj htk1).symm⟩
      have hy3 : y ≤ 3 := hb y (List.mem_of_getElem? hy)
      obtain ⟨q, dq, lq, cq, rfl, hq⟩ := htok
      have M6 := M5.lay hT' (.tup [.int (i : Nat), .ref q])
      refine ⟨T', _, rfl, SqT.of upd_same, rfl, _, _, rfl, _, _, rfl, rfl, ?_⟩
      refine ⟨_, rfl, rfl, _, rfl, ite_f (vint_ne (by omega)) ?_⟩
      refine ⟨_, rfl, q, _, dq, _, .str (mkS (numL y)), rfl, M6.s _ _ hq, T.cl_Token, T.n_Token_text, (by kernel_rfl), _, (y : Int), rfl, int_of (by omega), numT_len (by omega), _, _, rfl, rfl, _, rfl, ite_f (decide_eq_false (by omega)) ?_⟩
      exact ⟨_, _, rfl, M6, P5.lay hT', by rw [upd_ne (ne_of_none hl5 hT')]; exact hl5⟩
    · rintro σ H5 ⟨v3, v4', rfl, M5, P5, hl5⟩
      refine ⟨_, rfl, l, rfl, ⟨_, SqL.of hl5⟩, fun D hD => ?_⟩
      have D0 : H D = none := M5.free hD
      have DG : G D = none := M5.freeG hD
      have lD : l ≠ D := ne_of_none hl5 hD
      have pD : p ≠ D := by obtain ⟨_, _, _, h⟩ := P5.some; exact ne_of_none h hD
      refine lc_list (K := K) (a := l) (xs := vs) (fun j H' => Mv [p] G H G H' ∧ ParAt a G H' p (n + 1 + nums.length + 1) toks ∧ H' l = some (.lst vs) ∧ H' D = some (.lst ((nums.take j).map fun n : Nat => V.int n))) ⟨M5.lay hD _, P5.lay hD, by rw [upd_ne lD]; exact hl5, upd_same⟩ (fun j H' _ ⟨_, _, h, _⟩ => SqL.of h) ?_ ?_
      · rintro j z H' hz ⟨M6, P6, hl6, hD6⟩
        obtain ⟨tk, htk1, htok⟩ := paired_get htk hz
        rw [List.getElem?_map] at htk1
        obtain ⟨y, hy, rfl⟩ : ∃ y, nums[j]? = some y ∧ tk = numT y := by
          cases e : nums[j]? with
          | none => rw [e] at htk1; cases htk1
          | some q => rw [e] at htk1; exact ⟨q, rfl, (Option.some.inj htk1).symm⟩
        have hy3 : y ≤ 3 := hb y (List.mem_of_getElem? hy)
        obtain ⟨q, dq, lq, cq, rfl, hq⟩ := htok
        refine ⟨rfl, _, rfl, q, _, dq, _, .str (mkS (numL y)), rfl, M6.s _ _ hq, T.cl_Token, T.n_Token_text, (by kernel_rfl), _, (y : Int), rfl, int_of (by omega), numT_len (by omega), _, hD6, smaller 12 (by rw [List.length_map, List.length_take]; omega) (by decide), M6.put (.inr D0) DG _, P6.put pD, by rw [upd_ne lD]; exact hl6, ?_⟩
        rw [upd_same, take_more hy, List.map_append]
        rfl
      · rintro H6 ⟨M6, P6, hl6, hD6⟩
        rw [hvl, List.take_length] at hD6
        refine ⟨D, _, rfl, .inl ⟨SqL.of hD6, fun u hu => ?_⟩⟩
        have e : n + 1 + nums.length + 1 = n + nums.length + 2 := by omega
        rw [e] at P6
        exact k _ _ u (M6.new hu _) (P6.new M6.s hu) (SqT.of upd_same)
end
end Sb

namespace Sb
open PySem PySem.Spec PyProof.Rows L2 TL
/-! ### labelled steps -/
structure LStep where
  lab : Option (List Nat)
  w : Nat
  tgt : Option (List Nat)
def labT : Option (List Nat) → List Tk
  | none => []
  | some t => [nmT t, sgT 58]
def tgtT : Option (List Nat) → List Tk
  | none => []
  | some t => [nmT t]
def stepT (s : LStep) : List Tk := labT s.lab ++ (kwT (wS s.w) :: (tgtT s.tgt ++ [sgT 59]))
def labV : Option (List Nat) → V
  | none => .non
  | some t => .str (mkS t)
structure LStep.Ok (s : LStep) : Prop where
  w8 : s.w < 8
  no : s.w < 5 → s.tgt = none
  yes : 5 ≤ s.w → ∃ t, s.tgt = some t
  lb : s.lab ≠ some [125]
def JmpAt (a : Ad) (G : Hp) (v : V) : Option (List Nat) → Prop
  | none => v = .non
  | some t => TokAt a.C_Token G v (nmT t)
theorem lab_in (x : List Nat) : ∀ l : List (Option (List Nat)), inV (.str (mkS x)) (l.map labV) = decide (some x ∈ l)
  | [] => by simp [inV]
  | n :: r => by
    have ih := lab_in x r
    unfold inV at ih ⊢
    rw [List.map_cons, List.any_cons, ih]
    have e : eqV (labV n) (.str (mkS x)) = decide (n = some x) := by
      cases n with
      | none => simp [labV, eqV]
      | some t =>
        unfold labV eqV
        by_cases h : t = x
        · subst h; simp
        · have h2 : ¬ mkS t = mkS x := fun q => h (by have := congrArg tl q; rwa [tl_mkS, tl_mkS] at this)
          simp [h, h2]
    rw [e]
    by_cases h : n = some x
    · subst h; simp
    · have h' : ¬ some x = n := fun q => h q.symm
      simp [h, h']
theorem lab_flat (l : List (Option (List Nat))) : (l.map labV).all flatV = true := by
  rw [List.all_eq_true]
  intro x hx
  obtain ⟨n, _, rfl⟩ := List.mem_map.mp hx
  cases n <;> rfl
theorem ixN_last {n : Nat} : ixN (n + 1) (-1) = some n := by
  unfold ixN
  rw [if_neg (by decide), if_pos (by omega)]
  congr 1
  omega
theorem set_last {α : Type} (l : List α) (x y : α) : (l ++ [x]).set l.length y = l ++ [y] := by simp
def movS : List Str := ["left", "right", "pick", "put", "wait"]
def jmpS : List Str := ["goto", "empty", "held"]
theorem jmpS_in : ∀ {w : Nat}, w < 8 → decide (wS w ∈ jmpS) = decide (5 ≤ w) := by
  have h : ∀ w : _root_.Fin 8, decide (wS w.val ∈ jmpS) = decide (5 ≤ w.val) := by decide +kernel
  exact fun {w} hw => h ⟨w, hw⟩
theorem movS_in : ∀ {w : Nat}, w < 8 → decide (wS w ∈ movS) = decide (w < 5) := by
  have h : ∀ w : _root_.Fin 8, decide (wS w.val ∈ movS) = decide (w.val < 5) := by decide +kernel
  exact fun {w} hw => h ⟨w, hw⟩
structure spPStep (a : Ad) (vs : List V) (H : Hp) (Q : VK) (E : XK) : Prop where
  ex : ∃ (p nl jl : Addr) (G : Hp) (n : Nat) (toks : List Tk) (s : LStep) (rest : List Tk) (labs : List (Option (List Nat))) (js : List V), vs = [.ref p, .ref nl, .ref jl] ∧ Same G H ∧ ParAt a G H p n toks ∧ G nl = none ∧ G jl = none ∧ nl ≠ jl ∧
    H nl = some (.lst (labs.map labV)) ∧ H jl = some (.lst js) ∧ toks.drop n = stepT s ++ rest ∧ s.Ok ∧ (∀ t, s.lab = some t → some t ∉ labs) ∧ labs.length ≤ 20 ∧ js.length ≤ 20 ∧
    ∀ H1 jv, Mv [p, nl, jl] G H G H1 → ParAt a G H1 p (n + (stepT s).length) toks → H1 nl = some (.lst ((labs ++ [s.lab]).map labV)) → H1 jl = some (.lst (js ++ [jv])) → JmpAt a G jv s.tgt → Q (.str (wS s.w)) H1
section
variable {P : Program} {w : World} {K : PySem.W.Frag} {mg : Str → Option Value} {base : Heap} {a : Ad}
theorem ok_Parser_parse_step (T : Txt K mg a) : FnOk P w K mg base CX0 3 a.f_Parser_parse_step a.d_Parser_parse_step ["self", "names", "jumps"] (spPStep a) := by
  refine T.F_Parser_parse_step.ok sc_Parser_parse_step (fun vs H Q E h => ?_) (fun cdv A outer s0 H vs Q E hr h => ?_)
  · obtain ⟨⟨p, nl, jl, G, n, toks, s, rest, labs, js, rfl, _⟩⟩ := h
    rfl
  · obtain ⟨⟨p, nl, jl, G, n, toks, s, rest, labs, js, rfl, hs, hP, nG, jG, nj, hn, hj, hd, ok, hdup, l20, j20, k⟩⟩ := h
    refine ⟨_, (pss_cons (ps_expr (pe_bm PySem.F.plainAttrs_list PySem.F.slot_list_append PySem.F.type_list_append mt_append (pv 1) (pa_cons pe_non pa_nil)))
      (pss_cons (ps_expr (pe_bm PySem.F.plainAttrs_list PySem.F.slot_list_append PySem.F.type_list_append mt_append (pv 2) (pa_cons pe_non pa_nil)))
      (pss_cons (ps_if (pt_cmpR op_eq (pe_fld (pe_meth0 (pv 0) T.cl_Parser T.M_Parser_peek (ok_Parser_peek T) (hr.mono (by decide)) (b_Parser_peek T) .nil pass0) rfl) (pe_glob (v := V.str (Str.ofString "name")) rfl T.c_NAME ⟨_, rfl⟩) (nomark _)) (pss_cons (ps_set (i := 3) sc_Parser_parse_step.nd rfl (Or.inl rfl) (pe_meth (pv 0) T.cl_Parser T.M_Parser_take (ok_Parser_take T) (hr.mono (by decide)) (b_Parser_take T) .nil pass0 (pa_cons (pe_glob (v := V.str (Str.ofString "name")) rfl T.c_NAME ⟨_, rfl⟩) pa_nil)))
      (pss_cons (ps_expr (pe_meth (pv 0) T.cl_Parser T.M_Parser_take_word (ok_Parser_take_word T) (hr.mono (by decide)) (b_Parser_take_word T) .nil pass0 (pa_cons pe_str pa_nil)))
      (pss_cons (ps_if (pt_cmpR op_in_seq (pe_fld (pv 3) rfl) (pv 1) rfl) pss_never pss_nil)
      (pss_one (ps_asg (pe_fld (pv 3) rfl) (pg_sub (pv 1) (pe_un un_neg pe_int) set_list)))))) pss_nil)
      (pss_cons (ps_set (i := 3) sc_Parser_parse_step.nd rfl (Or.inl rfl) (pe_meth (pv 0) T.cl_Parser T.M_Parser_take (ok_Parser_take T) (hr.mono (by decide)) (b_Parser_take T) .nil pass0 (pa_cons (pe_glob (v := V.str (Str.ofString "keyword")) rfl T.c_KEYWORD ⟨_, rfl⟩) pa_nil)))
      (pss_cons (ps_if (pt_cmpR op_in_seq (pe_fld (pv 3) rfl) (pe_glob (v := V.ref a.A_JUMPS) rfl T.c_JUMPS rfl) rfl) (pss_one (ps_asg (pe_meth (pv 0) T.cl_Parser T.M_Parser_take (ok_Parser_take T) (hr.mono (by decide)) (b_Parser_take T) .nil pass0 (pa_cons (pe_glob (v := V.str (Str.ofString "name")) rfl T.c_NAME ⟨_, rfl⟩) pa_nil)) (pg_sub (pv 2) (pe_un un_neg pe_int) set_list))) (pss_one (ps_if (pt_cmpR op_notIn_seq (pe_fld (pv 3) rfl) (pe_glob (v := V.ref a.A_MOVES) rfl T.c_MOVES rfl) rfl) pss_never pss_nil)))
      (pss_cons (ps_expr (pe_meth (pv 0) T.cl_Parser T.M_Parser_take_word (ok_Parser_take_word T) (hr.mono (by decide)) (b_Parser_take_word T) .nil pass0 (pa_cons pe_str pa_nil)))
      (pss_one (ps_ret (pe_fld (pv 3) rfl))))))))), ?_⟩
    have M0 : Mv [p, nl, jl] G H G H := Mv.start hs
    obtain ⟨dx, ta, fl, h1⟩ := hP.some
    have pn : p ≠ nl := ne_of h1 hn (by intro z; cases z)
    have pj : p ≠ jl := ne_of h1 hj (by intro z; cases z)
    refine ⟨_, rfl, .inl ⟨rfl, _, SqL.of hn⟩, nl, _, _, rfl, rfl, hn, smaller 20 (by rw [List.length_map]; exact l20) (by decide), ?_⟩
    have M1 := M0.put (l := nl) (.inl (by simp)) nG (.lst (labs.map labV ++ [.non]))
    have P1 := hP.put (o := .lst (labs.map labV ++ [.non])) pn
    have hj1 : (upd H nl (.lst (labs.map labV ++ [.non]))) jl = some (.lst js) := by rw [upd_ne nj.symm]; exact hj
    refine ⟨_, rfl, .inl ⟨rfl, _, SqL.of hj1⟩, jl, _, _, rfl, rfl, hj1, smaller 20 j20 (by decide), ?_⟩
    have M2 := M1.put (l := jl) (.inl (by simp)) jG (.lst (js ++ [.non]))
    have P2 := P1.put (o := .lst (js ++ [.non])) pj
    have hn2 : (upd (upd H nl (.lst (labs.map labV ++ [.non]))) jl (.lst (js ++ [.non]))) nl = some (.lst (labs.map labV ++ [.non])) := by rw [upd_ne nj, upd_same]
    have hj2 : (upd (upd H nl (.lst (labs.map labV ++ [.non]))) jl (.lst (js ++ [.non]))) jl = some (.lst (js ++ [.non])) := upd_same
    revert M2 P2 hn2 hj2
    generalize upd (upd H nl (.lst (labs.map labV ++ [.non]))) jl (.lst (js ++ [.non])) = H2
    intro M2 P2 hn2 hj2
    obtain ⟨dx2, ta2, fl2, h2⟩ := P2.some
    dsimp only
    -- the label
    refine seq_restσ (fun σ H' => ∃ v3 : Option V, σ = [some (.ref p), some (.ref nl), some (.ref jl), v3] ∧ Mv [p, nl, jl] G H G H' ∧ ParAt a G H' p (n + (labT s.lab).length) toks ∧ H' nl = some (.lst ((labs ++ [s.lab]).map labV)) ∧ H' jl = some (.lst (js ++ [.non]))) (fun σ H' hI => ?r) (fun rest1 => ?m)
    case m =>
      cases hlab : s.lab with
      | none =>
        rw [hlab] at rest1
        have d2 : toks.drop n = kwT (wS s.w) :: (tgtT s.tgt ++ [sgT 59] ++ rest) := by rw [hd]; unfold stepT; rw [hlab]; simp [labT]
        refine ⟨_, rfl, p, dx2, _, rfl, h2, (by kernel_rfl), peek_go M2.s P2 (drop_at d2).1 fun v hv => ?_⟩
        obtain ⟨q, dq, lq, cq, rfl, hq⟩ := id hv
        refine ⟨q, _, dq, _, .str (kS .keyword), rfl, M2.s _ _ hq, T.cl_Token, T.n_Token_kind, (by kernel_rfl), rfl, _, rfl, ite_f (by decide +kernel) ?_⟩
        exact rest1 _ _ ⟨_, rfl, M2, P2, by rw [hn2, List.map_append]; rfl, hj2⟩
      | some t =>
        rw [hlab] at rest1
        have d2 : toks.drop n = nmT t :: (sgT 58 :: (kwT (wS s.w) :: (tgtT s.tgt ++ [sgT 59] ++ rest))) := by rw [hd]; unfold stepT; rw [hlab]; simp [labT]
        obtain ⟨a0, d3⟩ := drop_at d2
        obtain ⟨a1, d4⟩ := drop_at d3
        refine ⟨_, rfl, p, dx2, _, rfl, h2, (by kernel_rfl), peek_go M2.s P2 a0 fun v hv => ?_⟩
        obtain ⟨q, dq, lq, cq, rfl, hq⟩ := id hv
        refine ⟨q, _, dq, _, .str (kS .name), rfl, M2.s _ _ hq, T.cl_Token, T.n_Token_kind, (by kernel_rfl), rfl, _, rfl, ite_t (decide_eq_true rfl) ?_⟩
        refine ⟨_, rfl, p, dx2, _, rfl, h2, (by kernel_rfl), take_go (tk := nmT t) rfl M2 (.inl (by simp)) P2 a0 fun H3 v3 M3 m3 P3 hv3 => ?_⟩
        obtain ⟨dx3, ta3, fl3, h3⟩ := P3.some
        refine ⟨_, rfl, p, dx3, _, rfl, h3, (by kernel_rfl), take_go (tk := sgT 58) (mkS_of (show tl (Str.ofString ":") = [58] by decide +kernel)) M3 (.inl (by simp)) P3 a1 fun H4 v4 M4 m4 P4 hv4 => ?_⟩
        have hn4 : H4 nl = some (.lst ((labs ++ [none]).map labV)) := by rw [List.map_append]; exact m4.kept (m3.kept hn2 (by simp [pn.symm])) (by simp [pn.symm])
        have hj4 : H4 jl = some (.lst (js ++ [.non])) := m4.kept (m3.kept hj2 (by simp [pj.symm])) (by simp [pj.symm])
        obtain ⟨q3, dq3, lq3, cq3, rfl, hq3⟩ := hv3
        refine ⟨_, rfl, q3, _, dq3, _, .str (mkS t), rfl, M4.s _ _ hq3, T.cl_Token, T.n_Token_text, (by kernel_rfl), _, rfl, nl, _, rfl, .inl (SqL.of hn4), rfl, lab_flat _, _, rfl, ite_f ?_ ?_⟩
        · rw [if_neg Bool.false_ne_true, lab_in]
          refine decide_eq_false fun z => ?_
          rcases List.mem_append.mp z with z | z
          · exact hdup t hlab z
          · simp at z
        refine ⟨_, rfl, q3, _, dq3, _, .str (mkS t), rfl, M4.s _ _ hq3, T.cl_Token, T.n_Token_text, (by kernel_rfl), _, rfl, _, rfl, nl, _, _, labs.length, rfl, rfl, hn4, (by rw [List.length_map, List.length_append]; exact ixN_last), ?_⟩
        refine rest1 _ _ ⟨_, rfl, M4.put (.inl (by simp)) nG _, P4.put pn, ?_, by rw [upd_ne nj.symm]; exact hj4⟩
        rw [upd_same, List.map_append, List.map_append]
        have := set_last (labs.map labV) (labV none) (.str (mkS t))
        rw [List.length_map] at this
        exact congrArg (fun z => some (HO.lst z)) this
    obtain ⟨v3, rfl, M5, P5, hn5, hj5⟩ := hI
    have d5 : toks.drop (n + (labT s.lab).length) = kwT (wS s.w) :: (tgtT s.tgt ++ [sgT 59] ++ rest) := by
      rw [← List.drop_drop, hd]
      unfold stepT
      rw [List.append_assoc, List.drop_left]
      simp
    obtain ⟨a5, d6⟩ := drop_at d5
    obtain ⟨dx5, ta5, fl5, h5⟩ := P5.some
    refine ⟨_, rfl, p, dx5, _, rfl, h5, (by kernel_rfl), take_go (tk := kwT (wS s.w)) rfl M5 (.inl (by simp)) P5 a5 fun H6 v6 M6 m6 P6 hv6 => ?_⟩
    have hn6 : H6 nl = some (.lst ((labs ++ [s.lab]).map labV)) := m6.kept hn5 (by simp [pn.symm])
    have hj6 : H6 jl = some (.lst (js ++ [.non])) := m6.kept hj5 (by simp [pj.symm])
    obtain ⟨q6, dq6, lq6, cq6, rfl, hq6⟩ := hv6
    obtain ⟨dx6, ta6, fl6, h6⟩ := P6.some
    dsimp only
    refine seq_restσ (fun σ H' => σ = [some (.ref p), some (.ref nl), some (.ref jl), some (.ref q6)] ∧ ∃ jv : V, Mv [p, nl, jl] G H G H' ∧ ParAt a G H' p (n + (labT s.lab).length + 1 + (tgtT s.tgt).length) toks ∧ H' nl = some (.lst ((labs ++ [s.lab]).map labV)) ∧ H' jl = some (.lst (js ++ [jv])) ∧ JmpAt a G jv s.tgt) (fun σ H' hI => ?r2) (fun rest2 => ?m2)
    case m2 =>
      have etx : mkS (tl (wS s.w)) = wS s.w := mkS_tl _
      refine ⟨_, rfl, q6, _, dq6, _, .str (mkS (tl (wS s.w))), rfl, M6.s _ _ hq6, T.cl_Token, T.n_Token_text, (by kernel_rfl), a.A_JUMPS, jmpS.map V.str, rfl, .inr (T.q_JUMPS H6), rfl, strs_flat _, _, rfl, ?_⟩
      rw [if_neg Bool.false_ne_true, in_strs, etx, jmpS_in ok.w8]
      refine ite2 (fun c => ?_) (fun c => ?_)
      · obtain ⟨t, ht⟩ := ok.yes (of_decide_eq_true c)
        rw [ht] at rest2 d6
        obtain ⟨a7, d7⟩ := drop_at (show _ = nmT t :: ([sgT 59] ++ rest) from d6)
        refine ⟨_, rfl, p, dx6, _, rfl, h6, (by kernel_rfl), take_go (tk := nmT t) rfl M6 (.inl (by simp)) P6 a7 fun H7 v7 M7 m7 P7 hv7 => ?_⟩
        have hn7 : H7 nl = some (.lst ((labs ++ [s.lab]).map labV)) := m7.kept hn6 (by simp [pn.symm])
        have hj7 : H7 jl = some (.lst (js ++ [.non])) := m7.kept hj6 (by simp [pj.symm])
        refine ⟨_, rfl, _, rfl, jl, _, _, js.length, rfl, rfl, hj7, (by rw [List.length_append]; exact ixN_last), ?_⟩
        refine rest2 _ _ ⟨rfl, v7, M7.put (.inl (by simp)) jG _, P7.put pj, by rw [upd_ne nj]; exact hn7, ?_, hv7⟩
        rw [upd_same, set_last]
      · have c' : ¬ 5 ≤ s.w := fun z => c (decide_eq_true z)
        have ht := ok.no (by omega)
        rw [ht] at rest2
        refine ⟨_, rfl, q6, _, dq6, _, .str (mkS (tl (wS s.w))), rfl, M6.s _ _ hq6, T.cl_Token, T.n_Token_text, (by kernel_rfl), a.A_MOVES, movS.map V.str, rfl, .inr (T.q_MOVES H6), rfl, strs_flat _, _, rfl, ite_f ?_ ?_⟩
        · rw [if_pos rfl, in_strs, etx, movS_in ok.w8, decide_eq_true (show s.w < 5 by omega)]
          rfl
        · exact rest2 _ _ ⟨rfl, .non, M6, P6, hn6, hj6, rfl⟩
    obtain ⟨rfl, jv, M8, P8, hn8, hj8, hjv⟩ := hI
    have d8 : toks.drop (n + (labT s.lab).length + 1 + (tgtT s.tgt).length) = sgT 59 :: rest := by
      rw [← List.drop_drop, d6, List.append_assoc, List.drop_left]
      rfl
    obtain ⟨a8, _⟩ := drop_at d8
    obtain ⟨dx8, ta8, fl8, h8⟩ := P8.some
    refine ⟨_, rfl, p, dx8, _, rfl, h8, (by kernel_rfl), take_go (tk := sgT 59) (mkS_of t_sc) M8 (.inl (by simp)) P8 a8 fun H9 v9 M9 m9 P9 _ => ?_⟩
    have hn9 := m9.kept hn8 (by simp [pn.symm])
    have hj9 := m9.kept hj8 (by simp [pj.symm])
    have el : n + (labT s.lab).length + 1 + (tgtT s.tgt).length + 1 = n + (stepT s).length := by
      unfold stepT
      simp only [List.length_append, List.length_cons, List.length_nil]
      omega
    rw [el] at P9
    refine ⟨_, rfl, q6, _, dq6, _, .str (wS s.w), rfl, M9.s _ _ hq6, T.cl_Token, T.n_Token_text, ?_, k H9 jv M9 P9 hn9 hj9 hjv⟩
    have : mkS (tl (wS s.w)) = wS s.w := mkS_tl _
    rw [← this]
    kernel_rfl
end
end Sb

namespace Sb
open PySem PySem.Spec PyProof.Rows L2 TL
theorem same_frz {G H : Hp} {l : Addr} {o : HO} (s : Same G H) (h : H l = some o) : Same G (upd G l o) := fun b u e => by
  by_cases hb : b = l
  · rw [hb, upd_same]
    rw [hb] at e
    have := s _ _ e
    rw [h] at this
    exact this
  · rw [upd_ne hb]; exact e
/-! ### shapes of data -/
theorem shaped_of {ds : List PyData} (h : ∀ d ∈ ds, d.canLay0 = true ∧ d.depth ≤ 10) : SeqAt.shaped (.list ds) = true ∧ SeqAt.shaped (.tuple ds) = true ∧ PyData.canLayAll0 ds = true ∧ PyData.depthAll ds ≤ 10 := by
  have h1 : PyData.canLayAll0 ds = true ∧ PyData.depthAll ds ≤ 10 := by
    induction ds with
    | nil => exact ⟨rfl, by show 0 ≤ 10; decide⟩
    | cons d ds ih =>
      obtain ⟨a1, a2⟩ := h d (by simp)
      obtain ⟨b1, b2⟩ := ih (fun d hd => h d (by simp [hd]))
      constructor
      · show (d.canLay0 && PyData.canLayAll0 ds) = true
        rw [a1, b1]; rfl
      · show max d.depth (PyData.depthAll ds) ≤ 10
        omega
  refine ⟨?_, ?_, h1⟩
  · show (PyData.canLayAll0 ds && decide (PyData.depthAll ds + 1 ≤ 64)) = true
    rw [h1.1, decide_eq_true (by omega)]; rfl
  · show (PyData.canLayAll0 ds && decide (PyData.depthAll ds + 1 ≤ 64)) = true
    rw [h1.1, decide_eq_true (by omega)]; rfl
theorem wS_ok : ∀ {w : Nat}, w < 8 → PyData.strOk (wS w) = true := by
  have h : ∀ w : _root_.Fin 8, PyData.strOk (wS w.val) = true := by decide +kernel
  exact fun {w} hw => h ⟨w, hw⟩
theorem str_lay {x : Str} (h : PyData.strOk x = true) : (PyData.str x).canLay0 = true ∧ (PyData.str x).depth ≤ 10 := ⟨h, by show 0 ≤ 10; decide⟩
theorem eqV_lab (n : Option (List Nat)) (x : List Nat) : eqV (labV n) (.str (mkS x)) = decide (n = some x) := by
  cases n with
  | none => simp [labV, eqV]
  | some t =>
    unfold labV eqV
    by_cases h : t = x
    · subst h; simp
    · have h2 : ¬ mkS t = mkS x := fun q => h (by have := congrArg tl q; rwa [tl_mkS, tl_mkS] at this)
      simp [h, h2]
/-! ### robots -/
def robotT (n : Nat) (ls : List LStep) : List Tk := kwT "robot" :: numT n :: sgT 123 :: (ls.flatMap stepT ++ [sgT 125])
def labsOf (ls : List LStep) : List (Option (List Nat)) := ls.map LStep.lab
structure Res (labs : List (Option (List Nat))) (s : LStep) (r : Step) : Prop where
  w : r.w = s.w
  no : s.tgt = none → r.g = none
  yes : ∀ t, s.tgt = some t → ∃ k, r.g = some k ∧ labs[k]? = some (some t) ∧ ∀ m, m < k → labs[m]? ≠ some (some t)
structure LOk (ls : List LStep) (ss : List Step) : Prop where
  pos : 1 ≤ ls.length
  le : ls.length ≤ 20
  all : ∀ s ∈ ls, s.Ok
  dup : ∀ i s t, ls[i]? = some s → s.lab = some t → some t ∉ labsOf (ls.take i)
  res : Paired (Res (labsOf ls)) ls ss
def robF (n : Nat) (sl nl : Addr) : List (Str × V) := [("start", .int n), ("steps", .ref sl), ("names", .ref nl)]
def RobAt (a : Ad) (K : PySem.W.Frag) (G : Hp) (v : V) (n : Nat) (ss : List Step) : Prop := ∃ (r dx sl nl : Addr), v = .ref r ∧ G r = some (.ins a.C_Robot dx (robF n sl nl)) ∧ Dp K G (.ref sl) (stepsD ss)
theorem RobAt.mono {a : Ad} {K : PySem.W.Frag} {G G' : Hp} {v : V} {n : Nat} {ss : List Step} (s : Same G G') (h : RobAt a K G v n ss) : RobAt a K G' v n ss := by
  obtain ⟨r, dx, sl, nl, e, h1, h2⟩ := h
  exact ⟨r, dx, sl, nl, e, s _ _ h1, Dp.mono s _ _ h2⟩
structure spPRobot (a : Ad) (K : PySem.W.Frag) (vs : List V) (H : Hp) (Q : VK) (E : XK) : Prop where
  ex : ∃ (p ot : Addr) (G : Hp) (pos : Nat) (toks : List Tk) (cells st : Nat) (os : List Nat) (ls : List LStep) (ss : List Step) (rest : List Tk), vs = [.ref p, .int cells, .ref ot] ∧ Same G H ∧ ParAt a G H p pos toks ∧ SqT K G ot (os.map fun n : Nat => V.int n) ∧
    toks.drop pos = robotT st ls ++ rest ∧ st < cells ∧ cells < 100 ∧ st ∉ os ∧ LOk ls ss ∧
    ∀ G1 H1 v, Mv [p] G H G1 H1 → ParAt a G1 H1 p (pos + (robotT st ls).length) toks → RobAt a K G1 v st ss → Q v H1
theorem step_head {s : LStep} (h : s.Ok) (r : List Tk) : ∃ tk r', stepT s ++ r = tk :: r' ∧ tk.t ≠ [125] := by
  unfold stepT
  cases hl : s.lab with
  | none =>
    refine ⟨kwT (wS s.w), _, rfl, ?_⟩
    have : ∀ w : _root_.Fin 8, tl (wS w.val) ≠ [125] := by decide +kernel
    exact this ⟨s.w, h.w8⟩
  | some t =>
    refine ⟨nmT t, _, rfl, fun z => ?_⟩
    have : t = [125] := z
    exact h.lb (by rw [hl, this])
theorem flat_more {α β : Type} {l : List α} {f : α → List β} {i : Nat} {x : α} (h : l[i]? = some x) : (l.take (i + 1)).flatMap f = (l.take i).flatMap f ++ f x := by
  rw [take_more h, List.flatMap_append]
  simp
theorem flat_split {α β : Type} {l : List α} {f : α → List β} {i : Nat} {x : α} (h : l[i]? = some x) : l.flatMap f = (l.take i).flatMap f ++ (f x ++ (l.drop (i + 1)).flatMap f) := by
  have hi : i < l.length := (List.getElem?_eq_some_iff.mp h).1
  have e : l = l.take i ++ (x :: l.drop (i + 1)) := by
    have h2 := List.drop_eq_getElem_cons hi
    have h3 : l[i] = x := (List.getElem?_eq_some_iff.mp h).2
    rw [h3] at h2
    rw [← h2, List.take_append_drop]
  conv => lhs; rw [e]
  rw [List.flatMap_append, List.flatMap_cons]
section
variable {P : Program} {w : World} {K : PySem.W.Frag} {mg : Str → Option Value} {base : Heap} {a : Ad}
theorem ok_Robot_init (T : Txt K mg a) : FnOk P w K mg base CX0 1 a.f_Robot_init a.d_Robot_init ["self", "start", "steps", "names"] (spInit a.C_Robot ["start", "steps", "names"]) := by
  refine T.F_Robot_init.ok sc_Robot_init (fun vs H Q E h => ?_) (fun cdv A outer s H vs Q E hr h => ?_)
  · obtain ⟨⟨x, dx, us, rfl, hl, _⟩⟩ := h
    exact congrArg (· + 1) hl
  · obtain ⟨⟨x, dx, us, rfl, hl, hx, k⟩⟩ := h
    match us, hl with
    | [u1, u2, u3], _ =>
      refine ⟨_, (pss_cons (ps_fld (pv 0) (pv 1) rfl)
      (pss_cons (ps_fld (pv 0) (pv 2) rfl)
      (pss_one (ps_fld (pv 0) (pv 3) rfl)))), ?_⟩
      refine ⟨_, rfl, _, rfl, x, _, dx, _, rfl, hx, T.cl_Robot, T.n_Robot_start, by decide, ?_⟩
      refine ⟨_, rfl, _, rfl, x, _, dx, _, rfl, upd_same, T.cl_Robot, T.n_Robot_steps, lf1, ?_⟩
      refine ⟨_, rfl, _, rfl, x, _, dx, _, rfl, upd_same, T.cl_Robot, T.n_Robot_names, lf2, ?_⟩
      rw [upd_upd, upd_upd]
      have e : putF "names" u3 (putF "steps" u2 (putF "start" u1 [])) = (["start", "steps", "names"] : List Str).zip [u1, u2, u3] := by
        show putF "names" u3 (putF "steps" u2 [("start", u1)]) = _
        rw [putF_new (fs := [("start", u1)]) (show ("steps" : Str) ∉ (["start"] : List Str) by decide +kernel)]
        show putF "names" u3 [("start", u1), ("steps", u2)] = _
        rw [putF_new (fs := [("start", u1), ("steps", u2)]) (show ("names" : Str) ∉ (["start", "steps"] : List Str) by decide +kernel)]
        rfl
      rw [e]
      exact k
theorem ok_Plan_init (T : Txt K mg a) : FnOk P w K mg base CX0 1 a.f_Plan_init a.d_Plan_init ["self", "shelf", "robots"] (spInit a.C_Plan ["shelf", "robots"]) := by
  refine T.F_Plan_init.ok sc_Plan_init (fun vs H Q E h => ?_) (fun cdv A outer s H vs Q E hr h => ?_)
  · obtain ⟨⟨x, dx, us, rfl, hl, _⟩⟩ := h
    exact congrArg (· + 1) hl
  · obtain ⟨⟨x, dx, us, rfl, hl, hx, k⟩⟩ := h
    match us, hl with
    | [u1, u2], _ =>
      refine ⟨_, (pss_cons (ps_fld (pv 0) (pv 1) rfl)
      (pss_one (ps_fld (pv 0) (pv 2) rfl))), ?_⟩
      refine ⟨_, rfl, _, rfl, x, _, dx, _, rfl, hx, T.cl_Plan, T.n_Plan_shelf, by decide, ?_⟩
      refine ⟨_, rfl, _, rfl, x, _, dx, _, rfl, upd_same, T.cl_Plan, T.n_Plan_robots, lf1, ?_⟩
      rw [upd_upd]
      have e : putF "robots" u2 (putF "shelf" u1 []) = (["shelf", "robots"] : List Str).zip [u1, u2] := by
        show putF "robots" u2 [("shelf", u1)] = _
        rw [putF_new (fs := [("shelf", u1)]) (show ("robots" : Str) ∉ (["shelf"] : List Str) by decide +kernel)]
        rfl
      rw [e]
      exact k
theorem ok_Parser_parse_robot (T : Txt K mg a) : FnOk P w K mg base CX0 4 a.f_Parser_parse_robot a.d_Parser_parse_robot ["self", "cells", "others"] (spPRobot a K) := by
  refine T.F_Parser_parse_robot.ok sc_Parser_parse_robot (fun vs H Q E h => ?_) (fun cdv A outer s0 H vs Q E hr h => ?_)
  · obtain ⟨⟨p, ot, G, pos, toks, cells, st, os, ls, ss, rest, rfl, _⟩⟩ := h
    rfl
  · obtain ⟨⟨p, ot, G, pos, toks, cells, st, os, ls, ss, rest, rfl, hs, hP, hot, hd, hst, hc, hos, ok, k⟩⟩ := h
    refine ⟨_, (pss_cons (ps_expr (pe_meth (pv 0) T.cl_Parser T.M_Parser_take_word (ok_Parser_take_word T) (hr.mono (by decide)) (b_Parser_take_word T) .nil pass0 (pa_cons pe_str pa_nil)))
      (pss_cons (ps_set (i := 3) sc_Parser_parse_robot.nd rfl (Or.inl rfl) (pe_meth (pv 0) T.cl_Parser T.M_Parser_take (ok_Parser_take T) (hr.mono (by decide)) (b_Parser_take T) .nil pass0 (pa_cons (pe_glob (v := V.str (Str.ofString "number")) rfl T.c_NUMBER ⟨_, rfl⟩) pa_nil)))
      (pss_cons (ps_if (pt_cmpR op_ge (pe_callTy call_int_str (by rfl) T.z_int (by decide +kernel) (pa_cons (pe_fld (pv 3) rfl) pa_nil)) (pv 1) (nomark _)) pss_never (pss_one (ps_if (pt_cmpR op_in_seq (pe_callTy call_int_str (by rfl) T.z_int (by decide +kernel) (pa_cons (pe_fld (pv 3) rfl) pa_nil)) (pv 2) rfl) pss_never pss_nil)))
      (pss_cons (ps_expr (pe_meth (pv 0) T.cl_Parser T.M_Parser_take_word (ok_Parser_take_word T) (hr.mono (by decide)) (b_Parser_take_word T) .nil pass0 (pa_cons pe_str pa_nil)))
      (pss_cons (ps_par3 (i := 4) (j := 5) (l := 6) (by rfl) sc_Parser_parse_robot.nd rfl rfl rfl (by decide) (by decide) (by decide) rfl rfl rfl (pa_cons (pe_lst pa_nil) (pa_cons (pe_lst pa_nil) (pa_cons (pe_lst pa_nil) pa_nil))) (by rfl))
      (pss_cons (ps_while PassesOwn.never (PW.pt (pw_or (pt_cmpR op_ne (pe_fld (pe_meth0 (pv 0) T.cl_Parser T.M_Parser_peek (ok_Parser_peek T) (hr.mono (by decide)) (b_Parser_peek T) .nil pass0) rfl) pe_str (nomark _)) (pw_or1 (pt_cmpR (op_eqD hr.units) (pv 4) (pe_lst pa_nil) (nomark _))))) (pss_cons (ps_if (pt_cmpR op_eq (pe_callB call_len_seq (by rfl) T.z_len (by decide +kernel) (pa_cons (pv 4) pa_nil)) (pe_glob (v := V.int 20) rfl T.c_MAX_STEPS ⟨_, rfl⟩) (nomark _)) pss_never pss_nil)
      (pss_one (ps_expr (pe_bm PySem.F.plainAttrs_list PySem.F.slot_list_append PySem.F.type_list_append mt_append (pv 4) (pa_cons (pe_meth (pv 0) T.cl_Parser T.M_Parser_parse_step (ok_Parser_parse_step T) (hr.mono (by decide)) (b_Parser_parse_step T) .nil pass0 (pa_cons (pv 5) (pa_cons (pv 6) pa_nil))) pa_nil))))))
      (pss_cons (ps_expr (pe_meth (pv 0) T.cl_Parser T.M_Parser_take_word (ok_Parser_take_word T) (hr.mono (by decide)) (b_Parser_take_word T) .nil pass0 (pa_cons pe_str pa_nil)))
      (pss_cons (ps_set (i := 7) sc_Parser_parse_robot.nd rfl (Or.inl rfl) (pe_lst pa_nil))
      (pss_cons (ps_for PassesOwn.never rfl (pi_zip (by rfl) T.z_zip (pa_cons (pv 4) (pa_cons (pv 6) pa_nil))) (pg_tup (by rfl) (pgs_cons (pg_name (i := 8) sc_Parser_parse_robot.nd rfl (Or.inl rfl)) (pgs_cons (pg_name (i := 9) sc_Parser_parse_robot.nd rfl (Or.inl rfl)) pgs_nil))) (pss_cons (ps_if (PW.pt (pw_and (pt_cmpR op_notN (pv 9) pe_non (nomark _)) (pw_and1 (pt_cmpR op_notIn_seq (pe_fld (pv 9) rfl) (pv 5) rfl)))) pss_never pss_nil)
      (pss_one (ps_expr (pe_bm PySem.F.plainAttrs_list PySem.F.slot_list_append PySem.F.type_list_append mt_append (pv 7) (pa_cons (pe_tup (pa_cons (pv 8) (pa_cons (pe_ifExp (PW.pt (pw_and (pt_cmpR op_notN (pv 9) pe_non (nomark _)) (pw_and1 (pt_cmpR op_in_seq (pe_fld (pv 9) rfl) (pv 5) rfl)))) (pe_bm PySem.F.plainAttrs_list PySem.F.slot_list_index PySem.F.type_list_index mt_index (pv 5) (pa_cons (pe_fld (pv 9) rfl) pa_nil)) pe_non) pa_nil))) pa_nil))))))
      (pss_one (ps_ret (pe_make T.mk_Robot (ok_Robot_init T) (hr.mono (by decide)) (by rfl) T.m_Robot (b_Robot_init T) .nil pass0 (pa_cons (pe_callTy call_int_str (by rfl) T.z_int (by decide +kernel) (pa_cons (pe_fld (pv 3) rfl) pa_nil)) (pa_cons (pv 7) (pa_cons (pv 5) pa_nil))))))))))))))), ?_⟩
    have M0 : Mv [p] G H G H := Mv.start hs
    obtain ⟨dx, ta, fl, h1⟩ := hP.some
    have d0 : toks.drop pos = kwT "robot" :: (numT st :: (sgT 123 :: (ls.flatMap stepT ++ (sgT 125 :: rest)))) := by rw [hd]; unfold robotT; simp
    obtain ⟨t0, d1⟩ := drop_at d0
    obtain ⟨t1, d2⟩ := drop_at d1
    obtain ⟨t2, d3⟩ := drop_at d2
    refine ⟨_, rfl, p, dx, _, rfl, h1, (by kernel_rfl), take_go (tk := kwT "robot") (mkS_tl _).symm M0 (.inl (by simp)) hP t0 fun H1 v1 M1 _ P1 _ => ?_⟩
    obtain ⟨dx1, ta1, fl1, h11⟩ := P1.some
    refine ⟨_, rfl, p, dx1, _, rfl, h11, (by kernel_rfl), take_go (tk := numT st) rfl M1 (.inl (by simp)) P1 t1 fun H2 v2 M2 _ P2 hv2 => ?_⟩
    obtain ⟨q2, dq2, lq2, cq2, rfl, hq2⟩ := hv2
    have io := int_of (n := st) (by omega)
    have nlen := numT_len (n := st) (by omega)
    refine ⟨_, rfl, q2, _, dq2, _, .str (mkS (numL st)), rfl, M2.s _ _ hq2, T.cl_Token, T.n_Token_text, (by kernel_rfl), _, (st : Int), rfl, io, nlen, _, rfl, _, _, rfl, rfl, _, rfl, ite_f (decide_eq_false (by omega)) ?_⟩
    refine ⟨_, rfl, q2, _, dq2, _, .str (mkS (numL st)), rfl, M2.s _ _ hq2, T.cl_Token, T.n_Token_text, (by kernel_rfl), _, (st : Int), rfl, io, nlen, _, rfl, ot, _, rfl, .inr (Same.seqT M2.s hot), rfl, nats_flat os, _, rfl, ite_f (by rw [if_neg Bool.false_ne_true, in_nats]; exact decide_eq_false hos) ?_⟩
    obtain ⟨dx2, ta2, fl2, h12⟩ := P2.some
    refine ⟨_, rfl, p, dx2, _, rfl, h12, (by kernel_rfl), take_go (tk := sgT 123) (mkS_of (show tl (Str.ofString "{") = [123] by decide +kernel)) M2 (.inl (by simp)) P2 t2 fun H3 v3 M3 _ P3 _ => ?_⟩
    -- words, names, jumps
    refine ⟨Nat.zero_le _, fun wl hw => ⟨Nat.zero_le _, fun nl hn => ⟨Nat.zero_le _, fun jl hj => ⟨_, _, _, rfl, ?_⟩⟩⟩⟩
    have M4 := ((M3.lay hw (.lst [])).lay hn (.lst [])).lay hj (.lst [])
    have P4 := ((P3.lay (o := .lst []) hw).lay (o := .lst []) hn).lay (o := .lst []) hj
    have wn : wl ≠ nl := ne_of_none upd_same hn
    have nj : nl ≠ jl := ne_of_none upd_same hj
    have wj : wl ≠ jl := ne_of_none (by rw [upd_ne wn, upd_same]) hj
    have w0 : H wl = none := M3.free hw
    have n0 : H nl = none := (M3.lay hw (.lst [])).free hn
    have j0 : H jl = none := ((M3.lay hw (.lst [])).lay hn (.lst [])).free hj
    have wG : G wl = none := M3.freeG hw
    have nG : G nl = none := (M3.lay hw (.lst [])).freeG hn
    have jG : G jl = none := ((M3.lay hw (.lst [])).lay hn (.lst [])).freeG hj
    have pw : p ≠ wl := fun e => by rw [← e, h1] at w0; cases w0
    have pn : p ≠ nl := fun e => by rw [← e, h1] at n0; cases n0
    have pj : p ≠ jl := fun e => by rw [← e, h1] at j0; cases j0
    have hw4 : (upd (upd (upd H3 wl (.lst [])) nl (.lst [])) jl (.lst [])) wl = some (.lst []) := by rw [upd_ne wj, upd_ne wn, upd_same]
    have hn4 : (upd (upd (upd H3 wl (.lst [])) nl (.lst [])) jl (.lst [])) nl = some (.lst []) := by rw [upd_ne nj, upd_same]
    have hj4 : (upd (upd (upd H3 wl (.lst [])) nl (.lst [])) jl (.lst [])) jl = some (.lst []) := upd_same
    revert M4 P4 hw4 hn4 hj4
    generalize upd (upd (upd H3 wl (.lst [])) nl (.lst [])) jl (.lst []) = H4
    intro M4 P4 hw4 hn4 hj4
    dsimp only
    -- the steps read
    obtain ⟨Iv, hIv⟩ : ∃ Iv : Nat → L2.St → Hp → Prop, Iv = fun j σ H' => ∃ (js : List V), σ = [some (.ref p), some (.int cells), some (.ref ot), some (.ref q2), some (.ref wl), some (.ref nl), some (.ref jl), none, none, none] ∧ j ≤ ls.length ∧ Mv [p] G H G H' ∧
      ParAt a G H' p (pos + 1 + 1 + 1 + ((ls.take j).flatMap stepT).length) toks ∧ H' wl = some (.lst (((ls.take j).map fun s => wS s.w).map V.str)) ∧ H' nl = some (.lst ((labsOf (ls.take j)).map labV)) ∧ H' jl = some (.lst js) ∧ Paired (JmpAt a G) js ((ls.take j).map LStep.tgt) := ⟨_, rfl⟩
    have d4 : ∀ j, j ≤ ls.length → toks.drop (pos + 1 + 1 + 1 + ((ls.take j).flatMap stepT).length) = (ls.drop j).flatMap stepT ++ (sgT 125 :: rest) := fun j hj => by
      rw [← List.drop_drop, d3]
      have e : ls.flatMap stepT = (ls.take j).flatMap stepT ++ (ls.drop j).flatMap stepT := by rw [← List.flatMap_append, List.take_append_drop]
      rw [e, List.append_assoc, List.drop_left]
    refine seq_restσ (fun σ H' => Iv ls.length σ H') (fun σ H' hI => ?r) (fun rest1 => ?m)
    case m =>
      refine ⟨fun m σ H' => ∃ j, m = ls.length - j ∧ Iv j σ H', ⟨_, 0, rfl, ?_⟩, ?_⟩
      · rw [hIv]
        exact ⟨[], rfl, Nat.zero_le _, M4, P4, hw4, hn4, hj4, .nil⟩
      · rintro m σ H' ⟨j, rfl, hI⟩
        have hI0 := hI
        rw [hIv] at hI
        obtain ⟨js, rfl, jn, M, PP, hwv, hnv, hjv, hjs⟩ := hI
        obtain ⟨dx5, ta5, fl5, h5⟩ := PP.some
        have jsl : js.length = j := by rw [Paired.len hjs, List.length_map, List.length_take]; omega
        by_cases hjl : j < ls.length
        · obtain ⟨s, hs5⟩ : ∃ s, ls[j]? = some s := ⟨_, List.getElem?_eq_getElem hjl⟩
          have oks : s.Ok := ok.all s (List.mem_of_getElem? hs5)
          have d5 : toks.drop (pos + 1 + 1 + 1 + ((ls.take j).flatMap stepT).length) = stepT s ++ ((ls.drop (j + 1)).flatMap stepT ++ (sgT 125 :: rest)) := by
            rw [d4 j jn]
            have h2 := List.drop_eq_getElem_cons hjl
            have h3 : ls[j] = s := (List.getElem?_eq_some_iff.mp hs5).2
            rw [h3] at h2
            rw [h2, List.flatMap_cons, List.append_assoc]
          obtain ⟨tk, r', e5, ne5⟩ := step_head oks ((ls.drop (j + 1)).flatMap stepT ++ (sgT 125 :: rest))
          have a5 := (drop_at (d5.trans e5)).1
          refine ⟨_, rfl, p, dx5, _, rfl, h5, (by kernel_rfl), peek_go M.s PP a5 fun v hv => ?_⟩
          obtain ⟨q, dq, lq, cq, rfl, hq⟩ := id hv
          refine ⟨q, _, dq, _, .str (mkS tk.t), rfl, M.s _ _ hq, T.cl_Token, T.n_Token_text, (by kernel_rfl), rfl, _, rfl, ite_t ?_ (ite_t rfl ?_)⟩
          · have : ¬ V.str (mkS tk.t) = V.str (Str.ofString "}") := fun z => by
              injection z with z
              have := congrArg tl z
              rw [tl_mkS, t_cb] at this
              exact ne5 this
            rw [decide_eq_false this]; rfl
          refine ⟨fun σ' H' => Iv (j + 1) σ' H', fun σ' H' hn => ⟨_, by omega, j + 1, rfl, hn⟩, ?_⟩
          have lle := ok.le
          refine ⟨_, rfl, wl, _, rfl, .inl (SqL.of hwv), rfl, _, rfl, ite_f (vint_ne (by rw [List.length_map, List.length_map, List.length_take]; omega)) ?_⟩
          refine ⟨_, rfl, .inl ⟨rfl, _, SqL.of hwv⟩, _, rfl, p, dx5, _, rfl, h5, (by kernel_rfl), _, rfl, _, rfl, ?_⟩
          refine ⟨⟨p, nl, jl, G, _, toks, s, _, labsOf (ls.take j), js, rfl, M.s, PP, nG, jG, nj, hnv, hjv, d5, oks, fun t ht => ok.dup j s t hs5 ht, ?_, by omega, fun H6 jv m6 P6 hn6 hj6 hjt => ?_⟩⟩
          · unfold labsOf; rw [List.length_map, List.length_take]; omega
          have hw6 : H6 wl = some (.lst (((ls.take j).map fun s => wS s.w).map V.str)) := m6.kept hwv (by simp [pw.symm, wn, wj])
          have M6 : Mv [p] G H G H6 := ⟨M.ext.trans m6.ext, fun c o e => by
            have e1 := M.sm c o e
            obtain ⟨h1', h2'⟩ := wos_some e
            refine m6.sm c o ?_
            rw [wos_out]
            · exact e1
            · intro hc'
              rcases List.mem_cons.mp hc' with rfl | hc'
              · exact h1' (by simp)
              rcases List.mem_cons.mp hc' with rfl | hc'
              · rw [n0] at h2'; cases h2'
              rcases List.mem_cons.mp hc' with rfl | hc'
              · rw [j0] at h2'; cases h2'
              · cases hc'⟩
          refine ⟨wl, _, _, rfl, rfl, hw6, smaller 20 (by rw [List.length_map, List.length_map, List.length_take]; omega) (by decide), ?_⟩
          rw [hIv]
          refine ⟨js ++ [jv], rfl, by omega, M6.put (.inr w0) wG _, ?_, ?_, ?_, ?_, ?_⟩
          · rw [flat_more hs5, List.length_append, ← Nat.add_assoc]
            exact P6.put pw
          · rw [upd_same, take_more hs5, List.map_append, List.map_append]; rfl
          · rw [upd_ne wn.symm, hn6]
            simp only [labsOf, take_more hs5, List.map_append]
            rfl
          · rw [upd_ne wj.symm]; exact hj6
          · rw [take_more hs5, List.map_append]
            exact Paired.snoc hjs hjt
        · have ej : j = ls.length := by omega
          subst ej
          have d6 := d4 ls.length (Nat.le_refl _)
          rw [List.drop_length] at d6
          have a6 := (drop_at (show _ = sgT 125 :: rest from d6)).1
          refine ⟨_, rfl, p, dx5, _, rfl, h5, (by kernel_rfl), peek_go M.s PP a6 fun v hv => ?_⟩
          obtain ⟨q, dq, lq, cq, rfl, hq⟩ := id hv
          refine ⟨q, _, dq, _, .str (mkS [125]), rfl, M.s _ _ hq, T.cl_Token, T.n_Token_text, (by kernel_rfl), rfl, _, rfl, ite_f (by decide +kernel) ?_⟩
          refine ⟨_, rfl, Nat.zero_le _, fun e1 he1 => ?_⟩
          have hw7 : (upd H' e1 (.lst [])) wl = some (.lst (((ls.take ls.length).map fun s => wS s.w).map V.str)) := by rw [upd_ne (ne_of_none hwv he1)]; exact hwv
          have shp := shaped_of (ds := ((ls.take ls.length).map fun s => wS s.w).map PyData.str) (fun d hd => by
            obtain ⟨x, hx, rfl⟩ := List.mem_map.mp hd
            obtain ⟨y, hy, rfl⟩ := List.mem_map.mp hx
            exact str_lay (wS_ok (ok.all y (List.mem_of_mem_take hy)).w8))
          refine ⟨.list (((ls.take ls.length).map fun s => wS s.w).map PyData.str), .list [], .lst (SqL.of hw7) (DpAll.strs _), .lst (SqL.of upd_same) .nil, shp.1, by decide, _, rfl, ite_f ?_ ?_⟩
          · have hp := ok.pos
            cases els : ls with
            | nil => rw [els] at hp; exact absurd hp (by decide)
            | cons x y => rfl
          refine rest1 _ _ ?_
          rw [hIv]
          exact ⟨js, rfl, Nat.le_refl _, M.lay he1 _, PP.lay he1, hw7, by rw [upd_ne (ne_of_none hnv he1)]; exact hnv, by rw [upd_ne (ne_of_none hjv he1)]; exact hjv, hjs⟩
    rw [hIv] at hI
    obtain ⟨js, rfl, _, M, PP, hwv, hnv, hjv, hjs⟩ := hI
    have d6 := d4 ls.length (Nat.le_refl _)
    rw [List.drop_length] at d6
    have a6 := (drop_at (show _ = sgT 125 :: rest from d6)).1
    rw [List.take_length] at PP hwv hnv hjs a6
    have lle := ok.le
    have jsl : js.length = ls.length := by rw [Paired.len hjs, List.length_map]
    have ssl : ss.length = ls.length := (Paired.len ok.res).symm
    obtain ⟨dx7, ta7, fl7, h7⟩ := PP.some
    refine ⟨_, rfl, p, dx7, _, rfl, h7, (by kernel_rfl), take_go (tk := sgT 125) (mkS_of t_cb) M (.inl (by simp)) PP a6 fun H8 v8 M8 m8 P8 _ => ?_⟩
    have hw8 := m8.kept hwv (by simp [pw.symm])
    have hn8 := m8.kept hnv (by simp [pn.symm])
    have hj8 := m8.kept hjv (by simp [pj.symm])
    refine ⟨Nat.zero_le _, fun sl hsl => ?_⟩
    have M9 := M8.lay hsl (.lst [])
    have P9 := P8.lay (o := .lst []) hsl
    have s0' : H sl = none := M8.free hsl
    have sG : G sl = none := M8.freeG hsl
    have ps : p ≠ sl := fun e => by rw [← e, h1] at s0'; cases s0'
    have sw : wl ≠ sl := ne_of_none hw8 hsl
    have sn : nl ≠ sl := ne_of_none hn8 hsl
    have sj : jl ≠ sl := ne_of_none hj8 hsl
    have hw9 : (upd H8 sl (.lst [])) wl = some (.lst ((ls.map fun s => wS s.w).map V.str)) := by rw [upd_ne sw]; exact hw8
    have hn9 : (upd H8 sl (.lst [])) nl = some (.lst ((labsOf ls).map labV)) := by rw [upd_ne sn]; exact hn8
    have hj9 : (upd H8 sl (.lst [])) jl = some (.lst js) := by rw [upd_ne sj]; exact hj8
    refine ⟨_, rfl, _, rfl, wl, jl, _, _, rfl, SqL.of hw9, SqL.of hj9, for_it (walk_zip (K := K) (a := wl) (b := jl) (xs := (ls.map fun s => wS s.w).map V.str) (ys := js) (n := ls.length) (by rw [List.length_map, List.length_map, jsl]; simp))
      (fun i σ H' => ∃ (G' : Hp) (xs : List V) (v8 v9 : Option V), σ = [some (.ref p), some (.int cells), some (.ref ot), some (.ref q2), some (.ref wl), some (.ref nl), some (.ref jl), some (.ref sl), v8, v9] ∧ Mv [p] G H G' H' ∧ ParAt a G' H' p (pos + 1 + 1 + 1 + (ls.flatMap stepT).length + 1) toks ∧
        H' wl = some (.lst ((ls.map fun s => wS s.w).map V.str)) ∧ H' nl = some (.lst ((labsOf ls).map labV)) ∧ H' jl = some (.lst js) ∧ G' sl = none ∧ H' sl = some (.lst xs) ∧ DpAll K G' xs ((ss.take i).map Step.D)) ?_ ?_ ?_ ?_⟩
    · exact ⟨G, [], none, none, rfl, M9, P9, hw9, hn9, hj9, sG, upd_same, .nil⟩
    · rintro i σ H' _ ⟨G', xs, v8, v9, rfl, _, _, hw', _, hj', _⟩
      exact ⟨SqL.of hw', SqL.of hj'⟩
    · rintro i y σ H10 H11 hi ⟨G', xs, v8', v9', rfl, M10, P10, hw10, hn10, hj10, sG10, hs10, hD10⟩ ⟨T', x, z, rfl, hT', rfl, hx, hz⟩
      have hx : ((ls.map fun s => wS s.w).map V.str)[i]? = some x := hx
      have hz : js[i]? = some z := hz
      obtain ⟨s, hsi⟩ : ∃ s, ls[i]? = some s := ⟨_, List.getElem?_eq_getElem hi⟩
      have ex : x = .str (wS s.w) := by
        rw [List.getElem?_map, List.getElem?_map, hsi] at hx
        exact (Option.some.inj hx).symm
      subst ex
      obtain ⟨r, hri, hres⟩ := paired_get ok.res hsi
      obtain ⟨tg, htg, hjt⟩ := paired_get hjs hz
      have etg : tg = s.tgt := by
        rw [List.getElem?_map, hsi] at htg
        exact (Option.some.inj htg).symm
      subst etg
      have xsl : xs.length ≤ 20 := by rw [DpAll.len hD10, List.length_map, List.length_take]; omega
      have M11 := M10.lay hT' (.tup [.str (wS s.w), z])
      have P11 := P10.lay (o := .tup [.str (wS s.w), z]) hT'
      have hw11 : (upd H10 T' (.tup [.str (wS s.w), z])) wl = _ := (upd_ne (ne_of_none hw10 hT')).trans hw10
      have hn11 : (upd H10 T' (.tup [.str (wS s.w), z])) nl = _ := (upd_ne (ne_of_none hn10 hT')).trans hn10
      have hj11 : (upd H10 T' (.tup [.str (wS s.w), z])) jl = _ := (upd_ne (ne_of_none hj10 hT')).trans hj10
      have hs11 : (upd H10 T' (.tup [.str (wS s.w), z])) sl = _ := (upd_ne (ne_of_none hs10 hT')).trans hs10
      refine ⟨T', _, rfl, SqT.of upd_same, rfl, _, _, rfl, _, _, rfl, rfl, ?_⟩
      revert M11 P11 hw11 hn11 hj11 hs11
      generalize upd H10 T' (.tup [.str (wS s.w), z]) = H11
      intro M11 P11 hw11 hn11 hj11 hs11
      -- the step appended
      have fin : ∀ (gv : V), (∀ G, Dp K G gv (optD r.g)) → (2 ≤ sizeLine ∧ ∀ t, H11 t = none → ∃ l' ys y, (V.ref sl) = .ref l' ∧ [V.ref t] = [y] ∧ (upd H11 t (.tup [.str (wS s.w), gv])) l' = some (.lst ys) ∧ ys.length < sizeLine ∧
          (∃ (G' : Hp) (xs : List V) (v8 v9 : Option V), [some (V.ref p), some (.int cells), some (.ref ot), some (.ref q2), some (.ref wl), some (.ref nl), some (.ref jl), some (.ref sl), some (.str (wS s.w)), some z] = [some (.ref p), some (.int cells), some (.ref ot), some (.ref q2), some (.ref wl), some (.ref nl), some (.ref jl), some (.ref sl), v8, v9] ∧ Mv [p] G H G' (upd (upd H11 t (.tup [.str (wS s.w), gv])) l' (.lst (ys ++ [y]))) ∧ ParAt a G' (upd (upd H11 t (.tup [.str (wS s.w), gv])) l' (.lst (ys ++ [y]))) p (pos + 1 + 1 + 1 + (ls.flatMap stepT).length + 1) toks ∧
            (upd (upd H11 t (.tup [.str (wS s.w), gv])) l' (.lst (ys ++ [y]))) wl = some (.lst ((ls.map fun s => wS s.w).map V.str)) ∧ (upd (upd H11 t (.tup [.str (wS s.w), gv])) l' (.lst (ys ++ [y]))) nl = some (.lst ((labsOf ls).map labV)) ∧ (upd (upd H11 t (.tup [.str (wS s.w), gv])) l' (.lst (ys ++ [y]))) jl = some (.lst js) ∧ G' sl = none ∧ (upd (upd H11 t (.tup [.str (wS s.w), gv])) l' (.lst (ys ++ [y]))) sl = some (.lst xs) ∧ DpAll K G' xs ((ss.take (i + 1)).map Step.D))) := by
        intro gv hgv
        refine ⟨by decide, fun t ht => ?_⟩
        have st' : sl ≠ t := ne_of_none hs11 ht
        have M12 := M11.new ht (.tup [.str (wS s.w), gv])
        have P12 := P11.new (o := .tup [.str (wS s.w), gv]) M11.s ht
        have sG12 : upd G' t (.tup [.str (wS s.w), gv]) sl = none := by rw [upd_ne st']; exact sG10
        have nGt := same_new (H := G') (p := t) (o := .tup [.str (wS s.w), gv]) (M11.freeG ht)
        refine ⟨sl, xs, _, rfl, rfl, by rw [upd_ne st']; exact hs11, smaller 20 xsl (by decide), _, xs ++ [.ref t], _, _, rfl, M12.put (.inr s0') sG12 _, P12.put ps, ?_, ?_, ?_, sG12, upd_same, ?_⟩
        · rw [upd_ne sw, upd_ne (ne_of_none hw11 ht)]; exact hw11
        · rw [upd_ne sn, upd_ne (ne_of_none hn11 ht)]; exact hn11
        · rw [upd_ne sj, upd_ne (ne_of_none hj11 ht)]; exact hj11
        · rw [take_more hri, List.map_append]
          refine DpAll.snoc (Dp.monoAll nGt _ _ hD10) (.tup (SqT.of upd_same) (.cons ?_ (.cons (hgv _) .nil)))
          rw [hres.w]
          exact .str _
      cases htg' : s.tgt with
      | none =>
        rw [htg'] at hjt
        have hz' : z = .non := hjt
        subst hz'
        refine ⟨_, rfl, rfl, _, rfl, ite_f rfl (ite_f rfl ?_)⟩
        refine ⟨_, rfl, .inl ⟨rfl, _, SqL.of hs11⟩, _, rfl, _, rfl, rfl, _, rfl, ite_f rfl (ite_f rfl ?_)⟩
        exact fin .non (fun G => by rw [hres.no htg']; exact .non)
      | some t =>
        rw [htg'] at hjt
        obtain ⟨kk, hg, hlk, hfirst⟩ := hres.yes t htg'
        obtain ⟨q, dq, lq, cq, rfl, hq⟩ := id hjt
        have hmem : some t ∈ labsOf ls := List.mem_of_getElem? hlk
        have hqH : H11 q = some (.ins a.C_Token dq (tokF (nmT t) lq cq)) := M11.s _ _ (M10.g _ _ hq)
        refine ⟨_, rfl, rfl, _, rfl, ite_t rfl ?_⟩
        refine ⟨_, rfl, q, _, dq, _, .str (mkS t), rfl, hqH, T.cl_Token, T.n_Token_text, (by kernel_rfl), _, rfl, nl, _, rfl, .inl (SqL.of hn11), rfl, lab_flat _, _, rfl, ite_f (by rw [if_pos rfl, lab_in, decide_eq_true hmem]; rfl) ?_⟩
        refine ⟨_, rfl, .inl ⟨rfl, _, SqL.of hs11⟩, _, rfl, _, rfl, rfl, _, rfl, ite_t rfl ?_⟩
        refine ⟨_, rfl, q, _, dq, _, .str (mkS t), rfl, hqH, T.cl_Token, T.n_Token_text, (by kernel_rfl), _, rfl, nl, _, rfl, .inl (SqL.of hn11), rfl, lab_flat _, _, rfl, ite_t (by rw [if_neg Bool.false_ne_true, lab_in, decide_eq_true hmem]) ?_⟩
        refine ⟨_, rfl, .inl ⟨rfl, _, SqL.of hn11⟩, _, rfl, q, _, dq, _, .str (mkS t), rfl, hqH, T.cl_Token, T.n_Token_text, (by kernel_rfl), nl, _, .str (mkS t), kk, labV (some t), rfl, rfl, SqL.of hn11, rfl, lab_flat _, (by rw [List.getElem?_map, hlk]; rfl), (by rw [eqV_lab]; exact decide_eq_true rfl), (fun m z' hm hz' => ?_), ?_⟩
        · rw [List.getElem?_map] at hz'
          cases em : (labsOf ls)[m]? with
          | none => rw [em] at hz'; cases hz'
          | some lm =>
            rw [em] at hz'
            have : z' = labV lm := (Option.some.inj hz').symm
            rw [this, eqV_lab]
            exact decide_eq_false fun e => hfirst m hm (by rw [em, e])
        · exact fin (.int kk) (fun G => by rw [hg]; exact .int kk)
    · rintro σ H10 ⟨G', xs, v8', v9', rfl, M10, P10, hw10, hn10, hj10, sG10, hs10, hD10⟩
      have ess : ss.take ls.length = ss := by rw [← ssl]; exact List.take_length
      rw [ess] at hD10
      have hq10 : H10 q2 = some (.ins a.C_Token dq2 (tokF (numT st) lq2 cq2)) := M10.s _ _ (M10.g _ _ hq2)
      refine ⟨_, rfl, q2, _, dq2, _, .str (mkS (numL st)), rfl, hq10, T.cl_Token, T.n_Token_text, (by kernel_rfl), _, (st : Int), rfl, io, nlen, _, rfl, _, rfl, fun x dx' nx nd ne => init_go2 rfl ⟨rfl, ?_⟩⟩
      have M11 := (M10.freeze s0' hs10).freeze n0 hn10
      have M12 := M11.make nx nd ne (.ins a.C_Robot dx' (robF st sl nl))
      have g1 : Same G' (upd G' sl (.lst xs)) := same_new sG10
      have M10' := M10.freeze s0' hs10
      have g2 := same_frz M10'.s hn10
      have g3 := same_make (M11.freeG nx) (M11.freeG nd) ne (.ins a.C_Robot dx' (robF st sl nl))
      have px : p ≠ x := by obtain ⟨_, _, _, h⟩ := P10.some; exact ne_of_none h nx
      have pdx : p ≠ dx' := by obtain ⟨_, _, _, h⟩ := P10.some; exact ne_of_none h nd
      refine k _ _ _ M12 ?_ ⟨x, dx', sl, nl, rfl, upd_same, .lst (SqL.of ?_) (Dp.monoAll ((g1.trans g2).trans g3) _ _ hD10)⟩
      · have el : pos + 1 + 1 + 1 + (ls.flatMap stepT).length + 1 = pos + (robotT st ls).length := by
          unfold robotT
          simp only [List.length_append, List.length_cons, List.length_nil]
          omega
        rw [el] at P10
        refine P10.grow ((g1.trans g2).trans g3) (fun o e => by rw [upd_ne px, upd_ne pdx]; exact e) ?_
        rw [upd_ne px, upd_ne pdx, upd_ne pn, upd_ne ps]
        exact P10.out
      · exact (g2.trans g3) _ _ upd_same
end
end Sb

namespace Sb
open PySem PySem.Spec PyProof.Rows L2 TL
def planF (sh rl : Addr) : List (Str × V) := [("shelf", .ref sh), ("robots", .ref rl)]
def PlanAt (a : Ad) (K : PySem.W.Frag) (G : Hp) (v : V) (x : Pl) : Prop := ∃ (r dx sh rl : Addr) (r1 r2 : V), v = .ref r ∧ G r = some (.ins a.C_Plan dx (planF sh rl)) ∧ SqT K G sh (x.shelf.map fun n : Nat => V.int n) ∧ SqL K G rl [r1, r2] ∧ RobAt a K G r1 x.a x.p ∧ RobAt a K G r2 x.b x.q
theorem PlanAt.mono {a : Ad} {K : PySem.W.Frag} {G G' : Hp} {v : V} {x : Pl} (s : Same G G') (h : PlanAt a K G v x) : PlanAt a K G' v x := by
  obtain ⟨r, dx, sh, rl, r1, r2, e, h1, h2, h3, h4, h5⟩ := h
  exact ⟨r, dx, sh, rl, r1, r2, e, s _ _ h1, Same.seqT s h2, s.seq h3, h4.mono s, h5.mono s⟩
def planT (x : Pl) (l1 l2 : List LStep) : List Tk := kwT "shelf" :: (x.shelf.map numT ++ (sgT 59 :: (robotT x.a l1 ++ robotT x.b l2)))
/-- a text whose tokens are those of the plan x -/
structure Loads (src : Str) (x : Pl) : Prop where
  ex : ∃ (l1 l2 : List LStep) (rows : List (List Nat)) (tss : List (List Tk)), tl src = joinL [10] rows ∧ rows ≠ [] ∧ (∀ r ∈ rows, 10 ∉ r) ∧ (∀ r ∈ rows, r.length ≤ 3000) ∧ (tl src).length ≤ 3000000 ∧ Paired Lx rows tss ∧ tss.flatten = planT x l1 l2 ∧ LOk l1 x.p ∧ LOk l2 x.q
structure spParInit (C : Addr) (vs : List V) (H : Hp) (Q : VK) (E : XK) : Prop where
  ex : ∃ (x dx tk : Addr), vs = [.ref x, .ref tk] ∧ H x = some (.ins C dx []) ∧ ∀ fl, H fl = none → Q .non (upd (upd H fl (.lst [])) x (.ins C dx (parF tk fl 0)))
structure spPPlan (a : Ad) (K : PySem.W.Frag) (vs : List V) (H : Hp) (Q : VK) (E : XK) : Prop where
  ex : ∃ (p : Addr) (G : Hp) (x : Pl) (l1 l2 : List LStep), vs = [.ref p] ∧ Same G H ∧ ParAt a G H p 0 (planT x l1 l2 ++ [⟨.fin, []⟩]) ∧ x.Ok ∧ LOk l1 x.p ∧ LOk l2 x.q ∧ ∀ G1 H1 v, Mv [p] G H G1 H1 → PlanAt a K G1 v x → Q v H1
structure spLoad (a : Ad) (K : PySem.W.Frag) (vs : List V) (H : Hp) (Q : VK) (E : XK) : Prop where
  ex : ∃ (src : Str) (G : Hp) (x : Pl), vs = [.str src] ∧ Loads src x ∧ x.Ok ∧ Pure G H Q (fun G' v => PlanAt a K G' v x)
theorem upd_swap {H : Hp} {x fl : Addr} {o1 o2 o3 : HO} (ne : fl ≠ x) : upd (upd (upd H x o1) fl o2) x o3 = upd (upd H fl o2) x o3 := by
  funext b
  unfold upd
  by_cases h : b = x
  · rw [if_pos h, if_pos h]
  · rw [if_neg h, if_neg h, if_neg h]
theorem stepT_len {s : LStep} : (stepT s).length ≤ 5 := by
  unfold stepT
  simp only [List.length_append, List.length_cons, List.length_nil]
  have h1 : (labT s.lab).length ≤ 2 := by cases s.lab <;> simp [labT]
  have h2 : (tgtT s.tgt).length ≤ 1 := by cases s.tgt <;> simp [tgtT]
  omega
theorem flat_stepT : ∀ l : List LStep, (l.flatMap stepT).length ≤ 5 * l.length
  | [] => by simp
  | s :: r => by
    have := flat_stepT r
    have h := stepT_len (s := s)
    rw [List.flatMap_cons, List.length_append, List.length_cons]
    omega
theorem planT_len {x : Pl} {l1 l2 : List LStep} (h : x.shelf.length ≤ 12) (h1 : l1.length ≤ 20) (h2 : l2.length ≤ 20) : (planT x l1 l2).length ≤ 1000 := by
  have a1 := flat_stepT l1
  have a2 := flat_stepT l2
  unfold planT robotT
  simp only [List.length_append, List.length_cons, List.length_nil, List.length_map]
  omega
section
variable {P : Program} {w : World} {K : PySem.W.Frag} {mg : Str → Option Value} {base : Heap} {a : Ad}
theorem ok_Parser_init (T : Txt K mg a) : FnOk P w K mg base CX0 1 a.f_Parser_init a.d_Parser_init ["self", "tokens"] (spParInit a.C_Parser) := by
  refine T.F_Parser_init.ok sc_Parser_init (fun vs H Q E h => ?_) (fun cdv A outer s H vs Q E hr h => ?_)
  · obtain ⟨⟨x, dx, tk, rfl, _⟩⟩ := h
    rfl
  · obtain ⟨⟨x, dx, tk, rfl, hx, k⟩⟩ := h
    refine ⟨_, (pss_cons (ps_fld (pv 0) (pv 1) rfl)
      (pss_cons (ps_fld (pv 0) pe_int rfl)
      (pss_one (ps_fld (pv 0) (pe_lst pa_nil) rfl)))), ?_⟩
    refine ⟨_, rfl, _, rfl, x, _, dx, _, rfl, hx, T.cl_Parser, T.n_Parser_tokens, by decide, ?_⟩
    refine ⟨_, rfl, x, _, dx, _, rfl, upd_same, T.cl_Parser, T.n_Parser_at, lf1, ?_⟩
    rw [upd_upd]
    refine ⟨Nat.zero_le _, fun fl hfl => ?_⟩
    have ne : fl ≠ x := fun e => by rw [e, upd_same] at hfl; cases hfl
    rw [upd_ne ne] at hfl
    refine ⟨_, rfl, x, _, dx, _, rfl, by rw [upd_ne ne.symm, upd_same], T.cl_Parser, T.n_Parser_faults, lf2, ?_⟩
    rw [upd_swap ne]
    have e : putF "faults" (V.ref fl) (putF "at" (V.int 0) (putF "tokens" (V.ref tk) [])) = parF tk fl 0 := by
      show putF "faults" (V.ref fl) (putF "at" (V.int 0) [("tokens", V.ref tk)]) = _
      rw [putF_new (fs := [("tokens", V.ref tk)]) (show ("at" : Str) ∉ (["tokens"] : List Str) by decide +kernel)]
      show putF "faults" (V.ref fl) [("tokens", V.ref tk), ("at", V.int 0)] = _
      rw [putF_new (fs := [("tokens", V.ref tk), ("at", V.int 0)]) (show ("faults" : Str) ∉ (["tokens", "at"] : List Str) by decide +kernel)]
      rfl
    rw [e]
    exact k fl hfl
theorem ok_Parser_parse_plan (T : Txt K mg a) : FnOk P w K mg base CX0 5 a.f_Parser_parse_plan a.d_Parser_parse_plan ["self"] (spPPlan a K) := by
  refine T.F_Parser_parse_plan.ok sc_Parser_parse_plan (fun vs H Q E h => ?_) (fun cdv A outer s H vs Q E hr h => ?_)
  · obtain ⟨⟨p, G, x, l1, l2, rfl, _⟩⟩ := h
    rfl
  · obtain ⟨⟨p, G, x, l1, l2, rfl, hs, hP, hx, o1, o2, k⟩⟩ := h
    refine ⟨_, (pss_cons (ps_set (i := 1) sc_Parser_parse_plan.nd rfl (Or.inl rfl) (pe_meth0 (pv 0) T.cl_Parser T.M_Parser_parse_shelf (ok_Parser_parse_shelf T) (hr.mono (by decide)) (b_Parser_parse_shelf T) .nil pass0))
      (pss_cons (ps_set (i := 2) sc_Parser_parse_plan.nd rfl (Or.inl rfl) (pe_meth (pv 0) T.cl_Parser T.M_Parser_parse_robot (ok_Parser_parse_robot T) (hr.mono (by decide)) (b_Parser_parse_robot T) .nil pass0 (pa_cons (pe_callB call_len_seq (by rfl) T.z_len (by decide +kernel) (pa_cons (pv 1) pa_nil)) (pa_cons (pe_tup pa_nil) pa_nil))))
      (pss_cons (ps_set (i := 3) sc_Parser_parse_plan.nd rfl (Or.inl rfl) (pe_meth (pv 0) T.cl_Parser T.M_Parser_parse_robot (ok_Parser_parse_robot T) (hr.mono (by decide)) (b_Parser_parse_robot T) .nil pass0 (pa_cons (pe_callB call_len_seq (by rfl) T.z_len (by decide +kernel) (pa_cons (pv 1) pa_nil)) (pa_cons (pe_tup (pa_cons (pe_fld (pv 2) rfl) pa_nil)) pa_nil))))
      (pss_cons (ps_if (pt_cmpR op_ne (pe_fld (pe_meth0 (pv 0) T.cl_Parser T.M_Parser_peek (ok_Parser_peek T) (hr.mono (by decide)) (b_Parser_peek T) .nil pass0) rfl) (pe_glob (v := V.str (Str.ofString "end")) rfl T.c_END ⟨_, rfl⟩) (nomark _)) pss_never pss_nil)
      (pss_cons (ps_if (pt_cmpR (op_neD hr.units) (pe_fld (pv 0) rfl) (pe_lst pa_nil) (nomark _)) pss_never pss_nil)
      (pss_one (ps_ret (pe_make T.mk_Plan (ok_Plan_init T) (hr.mono (by decide)) (by rfl) T.m_Plan (b_Plan_init T) .nil pass0 (pa_cons (pv 1) (pa_cons (pe_lst (pa_cons (pv 2) (pa_cons (pv 3) pa_nil))) pa_nil)))))))))), ?_⟩
    obtain ⟨dx, ta, fl, h1⟩ := hP.some
    have c12 := hx.c12
    have e0 : (planT x l1 l2 ++ [⟨.fin, []⟩] : List Tk).drop 0 = kwT "shelf" :: (x.shelf.map numT ++ (sgT 59 :: (robotT x.a l1 ++ (robotT x.b l2 ++ [⟨.fin, []⟩])))) := by unfold planT; simp
    refine ⟨_, rfl, p, dx, _, rfl, h1, (by kernel_rfl), ⟨⟨p, G, 0, _, x.shelf, _, rfl, hs, hP, e0, hx.c3, hx.c12, hx.b3, fun G1 H1 u M1 P1 hu => ?_⟩⟩⟩
    obtain ⟨dx1, ta1, fl1, h11⟩ := P1.some
    have d1 : (planT x l1 l2 ++ [⟨.fin, []⟩] : List Tk).drop (0 + x.shelf.length + 2) = robotT x.a l1 ++ (robotT x.b l2 ++ [⟨.fin, []⟩]) := by
      have e : (planT x l1 l2 ++ [⟨.fin, []⟩] : List Tk) = (kwT "shelf" :: (x.shelf.map numT ++ [sgT 59])) ++ (robotT x.a l1 ++ (robotT x.b l2 ++ [⟨.fin, []⟩])) := by unfold planT; simp
      have l : 0 + x.shelf.length + 2 = (kwT "shelf" :: (x.shelf.map numT ++ [sgT 59])).length := by simp
      rw [e, l, List.drop_left]
    refine ⟨_, rfl, p, dx1, _, rfl, h11, (by kernel_rfl), _, rfl, u, _, rfl, .inr (Same.seqT M1.s hu), (by show 0 ≤ sizeLine; decide), fun t0 ht0 => ?_⟩
    have M2 := M1.new ht0 (.tup [])
    have P2 := P1.new (o := .tup []) M1.s ht0
    have el : (x.shelf.map fun n : Nat => V.int n).length = x.shelf.length := List.length_map ..
    refine ⟨⟨p, t0, _, _, _, x.shelf.length, x.a, [], l1, x.p, _, by rw [el]; rfl, M2.s, P2, SqT.of upd_same, d1, hx.ha, by omega, by simp, o1, fun G3 H3 v3 m3 P3 hr3 => ?_⟩⟩
    have M3 := M2.trans m3
    have hu3 : SqT K G3 u _ := Same.seqT ((same_new (M1.freeG ht0)).trans m3.g) hu
    obtain ⟨r3, dr3, sl3, nl3, rfl, hr3', hD3⟩ := id hr3
    obtain ⟨dx3, ta3, fl3, h13⟩ := P3.some
    refine ⟨_, rfl, p, dx3, _, rfl, h13, (by kernel_rfl), _, rfl, u, _, rfl, .inr (Same.seqT M3.s hu3), _, rfl, r3, _, dr3, _, .int x.a, rfl, M3.s _ _ hr3', T.cl_Robot, T.n_Robot_start, (by kernel_rfl), (by show 1 ≤ sizeLine; decide), fun t1 ht1 => ?_⟩
    have M4 := M3.new ht1 (.tup [.int x.a])
    have P4 := P3.new (o := .tup [.int x.a]) M3.s ht1
    have d2 : (planT x l1 l2 ++ [⟨.fin, []⟩] : List Tk).drop (0 + x.shelf.length + 2 + (robotT x.a l1).length) = robotT x.b l2 ++ [⟨.fin, []⟩] := by
      rw [← List.drop_drop, d1, List.drop_left]
    refine ⟨⟨p, t1, _, _, _, x.shelf.length, x.b, [x.a], l2, x.q, _, by rw [el]; rfl, M4.s, P4, SqT.of upd_same, d2, hx.hb, by omega, by simp [hx.ne.symm], o2, fun G5 H5 v5 m5 P5 hr5 => ?_⟩⟩
    have M5 := M4.trans m5
    have g5 := (same_new (o := .tup [.int x.a]) (M3.freeG ht1)).trans m5.g
    have d3 : (planT x l1 l2 ++ [⟨.fin, []⟩] : List Tk).drop (0 + x.shelf.length + 2 + (robotT x.a l1).length + (robotT x.b l2).length) = [⟨.fin, []⟩] := by
      rw [← List.drop_drop, d2, List.drop_left]
    obtain ⟨dx5, ta5, fl5, vs5, h15, _, _, _, hf5⟩ := id P5
    -- END
    refine ⟨_, rfl, p, dx5, _, rfl, h15, (by kernel_rfl), peek_go M5.s P5 (drop_at d3).1 fun v hv => ?_⟩
    obtain ⟨q, dq, lq, cq, rfl, hq⟩ := id hv
    refine ⟨q, _, dq, _, .str (kS .fin), rfl, M5.s _ _ hq, T.cl_Token, T.n_Token_kind, (by kernel_rfl), rfl, _, rfl, ite_f (by decide +kernel) ?_⟩
    -- no faults
    refine ⟨_, rfl, p, _, dx5, _, .ref fl5, rfl, h15, T.cl_Parser, T.n_Parser_faults, (by kernel_rfl), Nat.zero_le _, fun e1 he1 => ?_⟩
    have M6 := M5.lay he1 (.lst [])
    refine ⟨.list [], .list [], .lst (SqL.of (M6.s _ _ hf5)) .nil, .lst (SqL.of upd_same) .nil, by decide, by decide, _, rfl, ite_f (by decide) ?_⟩
    refine ⟨_, rfl, _, rfl, _, rfl, (by show 2 ≤ sizeLine; decide), fun rl hrl => ?_⟩
    have M7 := M6.new hrl (.lst [.ref r3, v5])
    intro y dy ny nd ne
    refine init_go2 rfl ⟨rfl, ?_⟩
    have M8 := M7.make ny nd ne (.ins a.C_Plan dy (planF u rl))
    have g7 := same_new (o := .lst [.ref r3, v5]) (M6.freeG hrl)
    have g8 := same_make (M7.freeG ny) (M7.freeG nd) ne (.ins a.C_Plan dy (planF u rl))
    refine k _ _ _ M8 ⟨y, dy, u, rl, _, _, rfl, upd_same, Same.seqT ((g5.trans g7).trans g8) hu3, g8.seq (SqL.of upd_same), hr3.mono ((g5.trans g7).trans g8), hr5.mono (g7.trans g8)⟩
theorem ok_load (T : Txt K mg a) : FnOk P w K mg base CX0 6 a.f_load a.d_load ["plan"] (spLoad a K) := by
  refine T.F_load.ok sc_load (fun vs H Q E h => ?_) (fun cdv A outer s H vs Q E hr h => ?_)
  · obtain ⟨⟨src, G, x, rfl, _⟩⟩ := h
    rfl
  · obtain ⟨⟨src, G, x, rfl, ⟨⟨l1, l2, rows, tss, e1, e2, e3, e4, e5, e6, e7, o1, o2⟩⟩, hx, hGH, k⟩⟩ := h
    refine ⟨_, (pss_one (ps_ret (pe_meth0 (pe_make T.mk_Parser (ok_Parser_init T) (hr.mono (by decide)) (by rfl) T.m_Parser (b_Parser_init T) .nil pass0 (pa_cons (pe_call (ok_tokenize T) (hr.mono (by decide)) rfl T.m_tokenize T.F_tokenize.kp (b_tokenize T) .nil pass0 (pa_cons (pv 0) pa_nil)) pa_nil)) T.cl_Parser T.M_Parser_parse_plan (ok_Parser_parse_plan T) (hr.mono (by decide)) (b_Parser_parse_plan T) .nil pass0))), ?_⟩
    have hl : tss.flatten.length ≤ 100000 := by rw [e7]; have := planT_len (x := x) hx.c12 o1.le o2.le; omega
    refine ⟨_, rfl, ⟨⟨src, G, rows, tss, rfl, e1, e2, e3, e4, e5, e6, hl, hGH, fun G1 H1 v x1 s1 h1 => ?_⟩⟩⟩
    obtain ⟨tk, vs, rfl, htk, hts⟩ := h1
    intro y dy ny nd ne
    refine ⟨⟨y, dy, tk, rfl, upd_same, fun fl hfl => ⟨rfl, ?_⟩⟩⟩
    have B1 := (Pt.start hGH).call x1 s1
    have ydy : y ≠ dy := ne.symm
    have fy : fl ≠ y := fun e => by rw [e, upd_same] at hfl; cases hfl
    have hfl2 : (upd H1 dy (.own y)) fl = none := by rw [upd_ne fy] at hfl; exact hfl
    rw [upd_swap fy]
    have B2 := (B1.new nd (.own y)).new hfl2 (.lst [])
    have ny2 : (upd (upd H1 dy (.own y)) fl (.lst [])) y = none := by rw [upd_ne fy.symm, upd_ne ydy]; exact ny
    have B3 := B2.lay ny2 (.ins a.C_Parser dy (parF tk fl 0))
    have yG := B2.freeG ny2
    have gg := (same_new (o := .own y) (B1.freeG nd)).trans (same_new (o := .lst []) ((B1.new nd (.own y)).freeG hfl2))
    refine ⟨y, dy, _, rfl, upd_same, (by kernel_rfl), ?_⟩
    rw [e7] at hts
    refine ⟨⟨y, _, x, l1, l2, rfl, B3.s, ⟨dy, tk, fl, vs, upd_same, yG, gg _ _ htk, hts.mono gg, upd_same⟩, hx, o1, o2, fun G5 H5 v5 m5 hp5 => ?_⟩⟩
    have y0 : H y = none := B2.free ny2
    refine k _ _ _ (B3.ext.trans m5.ext) (fun b o e => ?_) hp5
    refine m5.sm b o ?_
    rw [wos_out (by intro hb; rw [List.mem_singleton.mp hb, y0] at e; cases e)]
    exact B3.sm b o e
end
end Sb

namespace Sb
open PySem PySem.Spec PyProof.Rows L2 TL
/-! ### the canonical text loads -/
theorem headNot_cons {S : List Nat} {c : Nat} {r : List Nat} (h : c ∉ S) : HeadNot S (c :: r) := fun d r' e => by injection e with e1 e2; rw [← e1]; exact h
theorem headNot_nil {S : List Nat} : HeadNot S [] := fun _ _ e => nomatch e
theorem no_let32 : 32 ∉ tl letS := by rw [mem_let]; omega
theorem no_let59 : 59 ∉ tl letS := by rw [mem_let]; omega
theorem no_let58 : 58 ∉ tl letS := by rw [mem_let]; omega
theorem no_dig32 : 32 ∉ tl digS := by rw [mem_dig]; omega
theorem no_dig59 : 59 ∉ tl digS := by rw [mem_dig]; omega
theorem kw_let : ∀ t ∈ kwL, ∀ c ∈ t, c ∈ tl letS := by decide +kernel
theorem kw_len : ∀ t ∈ kwL, 3 ≤ t.length := by decide +kernel
theorem lx_kw {s : Str} {r : List Nat} {ts : List Tk} (hs : s ∈ kwS) (hr : HeadNot (tl letS) r) (h : Lx r ts) : Lx (tl s ++ r) (kwT s :: ts) :=
  .tok (.kw (kw_let _ (mem_tl.mp hs)) (mem_tl.mp hs) hr) h
theorem lx_num {n : Nat} {r : List Nat} {ts : List Tk} (hn : n < 100) (hr : HeadNot (tl digS) r) (h : Lx r ts) : Lx (numL n ++ r) (numT n :: ts) := by
  refine .tok (.num (numL_ne n) (fun c hc => ?_) (num_len hn) (fun h1 => ?_) hr) h
  · by_cases h48 : 48 ≤ c ∧ c ≤ 57
    · exact mem_dig.mpr h48
    · exact absurd hc (numL_free (by omega))
  · by_cases h10 : n < 10
    · rw [numL_lt h10] at h1
      exact absurd h1 (by simp)
    · rw [numL_step (by omega), numL_lt (by omega)]
      show some (48 + n / 10) ≠ some 48
      intro e
      injection e with e
      omega
theorem lx_sg {c : Nat} {r : List Nat} {ts : List Tk} (hc : c ∈ tl sgnS) (h : Lx r ts) : Lx (c :: r) (sgT c :: ts) := .tok (.sign hc) h
theorem lx_nm {t r : List Nat} {ts : List Tk} (h1 : ∀ c ∈ t, c ∈ tl letS) (h2 : 1 ≤ t.length) (h3 : t.length ≤ 8) (h4 : t ∉ kwL) (hr : HeadNot (tl letS) r) (h : Lx r ts) : Lx (t ++ r) (nmT t :: ts) := .tok (.nm h1 h2 h3 h4 hr) h
theorem lx_lab {k : Nat} {r : List Nat} {ts : List Tk} (hk : k < 20) (hr : HeadNot (tl letS) r) (h : Lx r ts) : Lx (115 :: (97 + k) :: r) (nmT [115, 97 + k] :: ts) := by
  refine lx_nm (t := [115, 97 + k]) (fun c hc => ?_) (by decide +revert) (by decide +revert) (fun z => ?_) hr h
  · rcases List.mem_cons.mp hc with rfl | hc
    · rw [mem_let]; omega
    · rw [List.mem_singleton.mp hc, mem_let]; omega
  · have := kw_len _ z
    simp at this
theorem sg59 : 59 ∈ tl sgnS := by rw [mem_sgn]; omega
theorem sg58 : 58 ∈ tl sgnS := by rw [mem_sgn]; omega
theorem sg123 : 123 ∈ tl sgnS := by rw [mem_sgn]; omega
theorem sg125 : 125 ∈ tl sgnS := by rw [mem_sgn]; omega
theorem lx_nums : ∀ (l : List Nat), l ≠ [] → (∀ n ∈ l, n < 100) → Lx (joinL [32] (l.map numL) ++ [59]) (l.map numT ++ [sgT 59])
  | [], h, _ => absurd rfl h
  | [n], _, h => lx_num (h n (by simp)) (headNot_cons no_dig59) (lx_sg sg59 .nil)
  | n :: m :: r, _, h => by
    have ih := lx_nums (m :: r) (by simp) (fun x hx => h x (by simp only [List.mem_cons] at hx ⊢; exact .inr hx))
    show Lx ((numL n ++ ([32] ++ joinL [32] ((m :: r).map numL))) ++ [59]) _
    rw [List.append_assoc, List.append_assoc]
    exact lx_num (h n (by simp)) (headNot_cons no_dig32) (.sp ih)
theorem shelf_kw : Str.ofString "shelf" ∈ kwS := by decide +kernel
theorem robot_kw : Str.ofString "robot" ∈ kwS := by decide +kernel
theorem w_kw : ∀ {w : Nat}, w < 8 → wS w ∈ kwS := by
  have h : ∀ w : _root_.Fin 8, wS w.val ∈ kwS := by decide +kernel
  exact fun {w} hw => h ⟨w, hw⟩
theorem lx_shelf {l : List Nat} (h : l ≠ []) (hl : ∀ n ∈ l, n ≤ 3) : Lx (shelfL l) (kwT "shelf" :: (l.map numT ++ [sgT 59])) := by
  have e : shelfL l = tl (Str.ofString "shelf") ++ (32 :: (joinL [32] (l.map numL) ++ [59])) := by
    have e1 : tl (Str.ofString "shelf") = [115, 104, 101, 108, 102] := by decide +kernel
    rw [e1]
    unfold shelfL
    simp
  rw [e]
  exact lx_kw shelf_kw (headNot_cons no_let32) (.sp (lx_nums l h (fun n hn => by have := hl n hn; omega)))
theorem lx_robot {n : Nat} (h : n < 100) : Lx ([114, 111, 98, 111, 116, 32] ++ numL n ++ [32, 123]) [kwT "robot", numT n, sgT 123] := by
  have e : [114, 111, 98, 111, 116, 32] ++ numL n ++ [32, 123] = tl (Str.ofString "robot") ++ (32 :: (numL n ++ [32, 123])) := by
    have e1 : tl (Str.ofString "robot") = [114, 111, 98, 111, 116] := by decide +kernel
    rw [e1]
    simp
  rw [e]
  exact lx_kw robot_kw (headNot_cons no_let32) (.sp (lx_num h (headNot_cons no_dig32) (.sp (lx_sg sg123 .nil))))
def canL (gs : List Nat) (k : Nat) (s : Step) : LStep := ⟨if k ∈ gs then some [115, 97 + k] else none, s.w, s.g.map fun g => [115, 97 + g]⟩
def cans (gs : List Nat) (k : Nat) : List Step → List LStep
  | [] => []
  | s :: r => canL gs k s :: cans gs (k + 1) r
theorem lx_step {gs : List Nat} {k n : Nat} {s : Step} (hk : k < 20) (hn : n ≤ 20) (h : Step.Ok n s) : Lx (stepL gs k s) (stepT (canL gs k s)) := by
  have tail : Lx ((match s.g with | none => [] | some g => [32, 115, 97 + g]) ++ [59]) (tgtT (s.g.map fun g => [115, 97 + g]) ++ [sgT 59]) ∧ HeadNot (tl letS) ((match s.g with | none => [] | some g => [32, 115, 97 + g]) ++ [59]) := by
    cases hg : s.g with
    | none => exact ⟨lx_sg sg59 .nil, headNot_cons no_let59⟩
    | some g =>
      have hgn : g < 20 := by
        have h5 : 5 ≤ s.w := by
          by_cases h5 : s.w < 5
          · rw [h.no h5] at hg; cases hg
          · omega
        obtain ⟨k2, e2, h2⟩ := h.yes h5
        rw [hg] at e2
        cases e2
        omega
      exact ⟨.sp (lx_lab hgn (headNot_cons no_let59) (lx_sg sg59 .nil)), headNot_cons no_let32⟩
  have word : Lx (wL s.w ++ ((match s.g with | none => [] | some g => [32, 115, 97 + g]) ++ [59])) (kwT (wS s.w) :: (tgtT (s.g.map fun g => [115, 97 + g]) ++ [sgT 59])) := lx_kw (w_kw h.w8) tail.2 tail.1
  have e : stepL gs k s = 32 :: 32 :: ((if k ∈ gs then [115, 97 + k, 58, 32] else []) ++ (wL s.w ++ ((match s.g with | none => [] | some g => [32, 115, 97 + g]) ++ [59]))) := by
    unfold stepL
    cases s.g <;> simp
  rw [e]
  unfold stepT canL
  refine .sp (.sp ?_)
  by_cases hm : k ∈ gs
  · rw [if_pos hm, if_pos hm]
    exact lx_lab hk (headNot_cons no_let58) (lx_sg sg58 (.sp word))
  · rw [if_neg hm, if_neg hm]
    exact word
theorem lx_steps {gs : List Nat} {n : Nat} (hn : n ≤ 20) : ∀ (k : Nat) (ss : List Step), k + ss.length ≤ 20 → (∀ s ∈ ss, Step.Ok n s) → Paired Lx (stepsL gs k ss) ((cans gs k ss).map stepT)
  | _, [], _, _ => .nil
  | k, s :: r, h, ho => .cons (lx_step (by simp at h; omega) hn (ho s (by simp))) (lx_steps hn (k + 1) r (by simp at h; omega) (fun s hs => ho s (by simp [hs])))
theorem cans_len (gs : List Nat) : ∀ (k : Nat) (ss : List Step), (cans gs k ss).length = ss.length
  | _, [] => rfl
  | k, s :: r => congrArg (· + 1) (cans_len gs (k + 1) r)
theorem cans_at (gs : List Nat) : ∀ (k : Nat) (ss : List Step) (i : Nat), (cans gs k ss)[i]? = (ss[i]?).map (canL gs (k + i))
  | _, [], i => by simp [cans]
  | k, s :: r, 0 => rfl
  | k, s :: r, i + 1 => by
    show (cans gs (k + 1) r)[i]? = _
    rw [cans_at gs (k + 1) r i]
    have e : k + 1 + i = k + (i + 1) := by omega
    rw [e]
    rfl
theorem paired_of {α β : Type} {F : α → β → Prop} : ∀ {l : List α} {m : List β}, l.length = m.length → (∀ (i : Nat) (x : α) (y : β), l[i]? = some x → m[i]? = some y → F x y) → Paired F l m
  | [], [], _, _ => .nil
  | [], _ :: _, h, _ => nomatch h
  | _ :: _, [], h, _ => nomatch h
  | x :: l, y :: m, h, f => .cons (f 0 x y rfl rfl) (paired_of (by simpa using h) (fun i a b h1 h2 => f (i + 1) a b (by simpa using h1) (by simpa using h2)))
theorem labs_at (gs : List Nat) (ss : List Step) (i : Nat) : (labsOf (cans gs 0 ss))[i]? = (ss[i]?).map fun _ => if i ∈ gs then some [115, 97 + i] else none := by
  unfold labsOf
  rw [List.getElem?_map, cans_at]
  cases ss[i]? with
  | none => rfl
  | some s => show some (canL gs (0 + i) s).lab = _; rw [Nat.zero_add]; rfl
theorem cans_ok {ss : List Step} (h : StepsOk ss) : LOk (cans (goalsOf ss) 0 ss) ss := by
  refine ⟨by rw [cans_len]; exact h.pos, by rw [cans_len]; exact h.le, ?_, ?_, ?_⟩
  · intro s hs
    obtain ⟨i, hi⟩ := List.getElem?_of_mem hs
    rw [cans_at] at hi
    cases e : ss[i]? with
    | none => rw [e] at hi; cases hi
    | some s0 =>
      rw [e] at hi
      have es : canL (goalsOf ss) (0 + i) s0 = s := Option.some.inj hi
      subst es
      have ok := h.all s0 (List.mem_of_getElem? e)
      refine ⟨ok.w8, fun h5 => ?_, fun h5 => ?_, fun z => ?_⟩
      · show s0.g.map _ = none
        rw [ok.no h5]; rfl
      · obtain ⟨k, hk, _⟩ := ok.yes h5
        exact ⟨[115, 97 + k], by show s0.g.map _ = _; rw [hk]; rfl⟩
      · have z' : (if 0 + i ∈ goalsOf ss then some [115, 97 + (0 + i)] else none) = some [125] := z
        split at z'
        · injection z' with z'
          injection z' with z1 z2
          exact absurd z1 (by decide)
        · cases z'
  · intro i s t hi ht hm
    obtain ⟨m, hm⟩ := List.getElem?_of_mem hm
    unfold labsOf at hm
    rw [List.getElem?_map, List.getElem?_take] at hm
    by_cases hmi : m < i
    · rw [if_pos hmi, cans_at] at hm
      rw [cans_at] at hi
      cases e : ss[i]? with
      | none => rw [e] at hi; cases hi
      | some s0 =>
        rw [e] at hi
        have es : canL (goalsOf ss) (0 + i) s0 = s := Option.some.inj hi
        subst es
        cases e2 : ss[m]? with
        | none => rw [e2] at hm; cases hm
        | some s1 =>
          rw [e2] at hm
          have em : (canL (goalsOf ss) (0 + m) s1).lab = some t := Option.some.inj hm
          have h1 : (if 0 + i ∈ goalsOf ss then some [115, 97 + (0 + i)] else none) = some t := ht
          have h2 : (if 0 + m ∈ goalsOf ss then some [115, 97 + (0 + m)] else none) = some t := em
          split at h1
          · split at h2
            · rw [← h1] at h2
              injection h2 with h2
              injection h2 with _ h2
              injection h2 with h2 _
              omega
            · cases h2
          · cases h1
    · rw [if_neg hmi] at hm; cases hm
  · refine paired_of (cans_len _ _ _) fun i x y hx hy => ?_
    rw [cans_at, hy] at hx
    have es : canL (goalsOf ss) (0 + i) y = x := Option.some.inj hx
    subst es
    have ok := h.all y (List.mem_of_getElem? hy)
    refine ⟨rfl, fun hn => ?_, fun t ht => ?_⟩
    · have hn' : y.g.map (fun g => [115, 97 + g]) = none := hn
      cases hg : y.g with
      | none => rfl
      | some g => rw [hg] at hn'; cases hn'
    · have ht' : y.g.map (fun g => [115, 97 + g]) = some t := ht
      cases hg : y.g with
      | none => rw [hg] at ht'; cases ht'
      | some g =>
        rw [hg] at ht'
        have et : [115, 97 + g] = t := Option.some.inj ht'
        subst et
        have hgm : g ∈ goalsOf ss := List.mem_filterMap.mpr ⟨y, List.mem_of_getElem? hy, hg⟩
        have hgl : g < ss.length := by
          have h5 : 5 ≤ y.w := by
            by_cases h5 : y.w < 5
            · rw [ok.no h5] at hg; cases hg
            · omega
          obtain ⟨k2, e2, h2⟩ := ok.yes h5
          rw [hg] at e2
          cases e2
          exact h2
        refine ⟨g, rfl, ?_, fun m hm e => ?_⟩
        · rw [labs_at, List.getElem?_eq_getElem hgl]
          show some (if g ∈ goalsOf ss then _ else _) = _
          rw [if_pos hgm]
        · rw [labs_at] at e
          cases e2 : ss[m]? with
          | none => rw [e2] at e; cases e
          | some s1 =>
            rw [e2] at e
            have e3 : (if m ∈ goalsOf ss then some [115, 97 + m] else none) = some [115, 97 + g] := Option.some.inj e
            split at e3
            · injection e3 with e3
              injection e3 with _ e3
              injection e3 with e3 _
              omega
            · cases e3
theorem robot_lx {n : Nat} {ss : List Step} (hn : n < 100) (h : StepsOk ss) : ∃ tss, Paired Lx (robotL n ss) tss ∧ tss.flatten = robotT n (cans (goalsOf ss) 0 ss) := by
  refine ⟨[kwT "robot", numT n, sgT 123] :: ((cans (goalsOf ss) 0 ss).map stepT ++ [[sgT 125]]), .cons (lx_robot hn) (Paired.snoc (lx_steps h.le 0 ss (by have := h.le; omega) h.all) (lx_sg sg125 .nil)), ?_⟩
  unfold robotT
  simp [List.flatMap_def]
theorem no10_steps {gs : List Nat} {n : Nat} : ∀ (k : Nat) (ss : List Step), (∀ s ∈ ss, Step.Ok n s) → ∀ p ∈ stepsL gs k ss, 10 ∉ p
  | _, [], _, p, hp => nomatch hp
  | k, s :: r, ho, p, hp => by
    rcases List.mem_cons.mp hp with rfl | hp
    · have hw : ∀ w : _root_.Fin 8, 10 ∉ wL w.val := by decide +kernel
      have h1 := hw ⟨s.w, (ho s (by simp)).w8⟩
      unfold stepL
      intro hm
      simp only [List.mem_append] at hm
      rcases hm with (((hm | hm) | hm) | hm) | hm
      · simp at hm
      · split at hm
        · simp at hm; omega
        · cases hm
      · exact h1 hm
      · split at hm
        · cases hm
        · simp at hm; omega
      · simp at hm
    · exact no10_steps (k + 1) r (fun s hs => ho s (by simp [hs])) p hp
theorem no10_robot {n : Nat} {ss : List Step} (h : StepsOk ss) : ∀ p ∈ robotL n ss, 10 ∉ p := by
  intro p hp
  rcases List.mem_cons.mp hp with rfl | hp
  · intro hm
    simp only [List.mem_append] at hm
    rcases hm with (hm | hm) | hm
    · simp at hm
    · exact numL_free (by omega) hm
    · simp at hm
  · rcases List.mem_append.mp hp with hp | hp
    · exact no10_steps 0 ss h.all p hp
    · rw [List.mem_singleton.mp hp]; decide
theorem no10_join : ∀ (l : List Nat), 10 ∉ joinL [32] (l.map numL)
  | [] => by simp [joinL]
  | [n] => numL_free (by omega)
  | n :: m :: r => by
    have ih := no10_join (m :: r)
    show 10 ∉ (numL n ++ ([32] ++ joinL [32] ((m :: r).map numL)))
    simp only [List.mem_append, not_or]
    exact ⟨numL_free (by omega), by decide, ih⟩
theorem no10_shelf (l : List Nat) : 10 ∉ shelfL l := by
  unfold shelfL
  simp only [List.mem_append, not_or]
  exact ⟨⟨by decide, no10_join l⟩, by decide⟩
theorem loads_text {x : Pl} (h : x.Ok) : Loads (textS x) x := by
  have hne : x.shelf ≠ [] := fun e => by have := h.c3; rw [e] at this; exact absurd this (by decide)
  have c12 := h.c12
  obtain ⟨t1, p1, e1⟩ := robot_lx (n := x.a) (by have := h.ha; omega) h.p
  obtain ⟨t2, p2, e2⟩ := robot_lx (n := x.b) (by have := h.hb; omega) h.q
  refine ⟨⟨_, _, linesL x, (kwT "shelf" :: (x.shelf.map numT ++ [sgT 59])) :: (t1 ++ t2), rfl, by unfold linesL; simp, ?_, fun r hr => ?_, ?_, .cons (lx_shelf hne h.b3) (Paired.app p1 p2), ?_, cans_ok h.p, cans_ok h.q⟩⟩
  · intro r hr
    rcases List.mem_cons.mp hr with rfl | hr
    · exact no10_shelf _
    · rcases List.mem_append.mp hr with hr | hr
      · exact no10_robot h.p r hr
      · exact no10_robot h.q r hr
  · have := lines_len h r hr; omega
  · have := textL_len h
    show (textL x).length ≤ _
    omega
  · rw [List.flatten_cons, List.flatten_append, e1, e2]
    unfold planT
    simp
end Sb

namespace Sb
open PySem PySem.Spec PyProof.Rows L2 TL
/-! ### equal data are told equal -/
mutual
def okD : PyData → Bool
  | .none | .bool _ | .int _ | .str _ => true
  | .list xs | .tuple xs => decide (xs.length ≤ 1000000) && okAll xs
  | .dict _ => false
def okAll : List PyData → Bool
  | [] => true
  | x :: xs => okD x && okAll xs
end
theorem okAll_at : ∀ {xs : List PyData} {i : Nat} {d : PyData}, okAll xs = true → xs[i]? = some d → okD d = true
  | [], _, _, _, e => by simp at e
  | x :: xs, 0, d, h, e => by
    simp at e; subst e
    have h' : (okD x && okAll xs) = true := h
    rw [Bool.and_eq_true] at h'
    exact h'.1
  | x :: xs, i + 1, d, h, e => by
    have h' : (okD x && okAll xs) = true := h
    rw [Bool.and_eq_true] at h'
    exact okAll_at (i := i) h'.2 (by simpa using e)
theorem depthAll_at : ∀ {xs : List PyData} {i : Nat} {d : PyData}, xs[i]? = some d → d.depth ≤ PyData.depthAll xs
  | [], _, _, e => by simp at e
  | x :: xs, 0, d, e => by
    simp at e; subst e
    show x.depth ≤ max x.depth (PyData.depthAll xs)
    omega
  | x :: xs, i + 1, d, e => by
    have := depthAll_at (xs := xs) (i := i) (d := d) (by simpa using e)
    show d.depth ≤ max x.depth (PyData.depthAll xs)
    omega
theorem SqL.ty {K : PySem.W.Frag} {H : Hp} {p : Addr} {xs : List V} (h : SqL K H p xs) : TyX K H (.ref p) (.type "list") := by
  rcases h with (h | ⟨o, h⟩) | ⟨o, its, n, h1, h2, _⟩
  · exact .base (.lst h)
  · exact .base (.frz h)
  · exact .kList h1 h2
theorem SqT.ty {K : PySem.W.Frag} {H : Hp} {p : Addr} {xs : List V} (h : SqT K H p xs) : TyX K H (.ref p) (.type "tuple") := by
  rcases h with (h | ⟨o, h⟩) | ⟨o, its, n, h1, h2, _⟩
  · exact .base (.tup h)
  · exact .fTuple h
  · exact .kTuple h1 h2
structure spEqual (K : PySem.W.Frag) (n : Nat) (vs : List V) (H : Hp) (Q : VK) (E : XK) : Prop where
  ex : ∃ (v u : V) (d : PyData), vs = [v, u] ∧ Dp K H v d ∧ Dp K H u d ∧ d.depth ≤ n ∧ okD d = true ∧ ∀ H', Same H H' → Q (.bl true) H'
theorem kf {K : PySem.W.Frag} {x y : String} {b : Bool} (h : kitB x y = some b) : PySem.W.kitOne K (.type x) (.type y) = some b := kit_ty h
section
variable {P : Program} {w : World} {K : PySem.W.Frag} {mg : Str → Option Value} {base : Heap} {a : Ad}
theorem ok_l_equal (T : Txt K mg a) : ∀ n : Nat, FnOk P w K mg base CX0 (n + 1) a.f_l_equal a.d_l_equal ["_law_actual", "_law_expected"] (spEqual K n) := by
  intro n
  induction n with
  | zero =>
    refine T.F_l_equal.ok sc_l_equal (fun vs H Q E h => ?_) (fun cdv A outer s H vs Q E hr h => ?_)
    · obtain ⟨⟨v, u, d, rfl, _⟩⟩ := h
      rfl
    · obtain ⟨⟨v, u, d, rfl, hv, hu, hdep, hok, k⟩⟩ := h
      refine ⟨_, (pss_cons (ps_if (pt_cmpR op_isN (pv 1) pe_non (nomark _)) (pss_one (ps_ret (pe_cmpR op_isN (pv 0) pe_non (nomark _)))) pss_nil)
      (pss_cons (ps_if (pt_val (pe_callB call_isi (by rfl) T.z_isinstance (by decide +kernel) (pa_cons (pv 1) (pa_cons (pe_bltn (v := .ty "bool") (by rfl) T.z_bool (by decide +kernel) rfl) pa_nil)))) (pss_one (ps_ret (pe_and (pe_callB call_isi (by rfl) T.z_isinstance (by decide +kernel) (pa_cons (pv 0) (pa_cons (pe_bltn (v := .ty "bool") (by rfl) T.z_bool (by decide +kernel) rfl) pa_nil))) (pe_one (pe_cmpR op_eq (pv 0) (pv 1) (nomark _)))))) pss_nil)
      (pss_cons (ps_if (pt_val (pe_callB call_isi (by rfl) T.z_isinstance (by decide +kernel) (pa_cons (pv 1) (pa_cons (pe_bltn (v := .ty "int") (by rfl) T.z_int (by decide +kernel) rfl) pa_nil)))) (pss_one (ps_ret (pe_and (pe_callB call_isi (by rfl) T.z_isinstance (by decide +kernel) (pa_cons (pv 0) (pa_cons (pe_bltn (v := .ty "int") (by rfl) T.z_int (by decide +kernel) rfl) pa_nil))) (pe_and (pe_not (pe_callB call_isi (by rfl) T.z_isinstance (by decide +kernel) (pa_cons (pv 0) (pa_cons (pe_bltn (v := .ty "bool") (by rfl) T.z_bool (by decide +kernel) rfl) pa_nil)))) (pe_one (pe_cmpR op_eq (pv 0) (pv 1) (nomark _))))))) pss_nil)
      (pss_cons (ps_if (pt_val (pe_callB call_isi (by rfl) T.z_isinstance (by decide +kernel) (pa_cons (pv 1) (pa_cons (pe_bltn (v := .ty "str") (by rfl) T.z_str (by decide +kernel) rfl) pa_nil)))) (pss_one (ps_ret (pe_and (pe_callB call_isi (by rfl) T.z_isinstance (by decide +kernel) (pa_cons (pv 0) (pa_cons (pe_bltn (v := .ty "str") (by rfl) T.z_str (by decide +kernel) rfl) pa_nil))) (pe_one (pe_cmpR op_eq (pv 0) (pv 1) (nomark _)))))) pss_nil)
      pss_never)))), ?_⟩
      cases d with
      | none =>
        cases hv; cases hu
        exact ⟨_, rfl, rfl, _, rfl, ite_t rfl ⟨_, rfl, rfl, k H (Same.refl H)⟩⟩
      | bool b =>
        cases hv; cases hu
        refine ⟨_, rfl, rfl, _, rfl, ite_f rfl ?_⟩
        refine ⟨_, rfl, _, _, _, _, true, rfl, .ty "bool", .base (.bl b), kf (by decide +kernel), _, rfl, iteT ?_⟩
        refine ⟨_, rfl, _, _, _, _, true, rfl, .ty "bool", .base (.bl b), kf (by decide +kernel), _, rfl, iteT ⟨_, rfl, _, rfl, rfl, ?_⟩⟩
        rw [decide_eq_true rfl]
        exact k H (Same.refl H)
      | int i =>
        cases hv; cases hu
        refine ⟨_, rfl, rfl, _, rfl, ite_f rfl ?_⟩
        refine ⟨_, rfl, _, _, _, _, false, rfl, .ty "bool", .base (.int i), kf (by decide +kernel), _, rfl, iteF ?_⟩
        refine ⟨_, rfl, _, _, _, _, true, rfl, .ty "int", .base (.int i), kf (by decide +kernel), _, rfl, iteT ?_⟩
        refine ⟨_, rfl, _, _, _, _, true, rfl, .ty "int", .base (.int i), kf (by decide +kernel), _, rfl, iteT ?_⟩
        refine ⟨_, rfl, _, _, _, _, false, rfl, .ty "bool", .base (.int i), kf (by decide +kernel), _, rfl, _, rfl, iteT ⟨_, rfl, _, rfl, rfl, ?_⟩⟩
        rw [decide_eq_true rfl]
        exact k H (Same.refl H)
      | str z =>
        cases hv; cases hu
        refine ⟨_, rfl, rfl, _, rfl, ite_f rfl ?_⟩
        refine ⟨_, rfl, _, _, _, _, false, rfl, .ty "bool", .base (.str z), kf (by decide +kernel), _, rfl, iteF ?_⟩
        refine ⟨_, rfl, _, _, _, _, false, rfl, .ty "int", .base (.str z), kf (by decide +kernel), _, rfl, iteF ?_⟩
        refine ⟨_, rfl, _, _, _, _, true, rfl, .ty "str", .base (.str z), kf (by decide +kernel), _, rfl, iteT ?_⟩
        refine ⟨_, rfl, _, _, _, _, true, rfl, .ty "str", .base (.str z), kf (by decide +kernel), _, rfl, iteT ⟨_, rfl, _, rfl, rfl, ?_⟩⟩
        rw [decide_eq_true rfl]
        exact k H (Same.refl H)
      | dict _ => exact absurd hok (by simp [okD])
      | list ds =>
        have : PyData.depthAll ds + 1 ≤ 0 := hdep
        omega
      | tuple ds =>
        have : PyData.depthAll ds + 1 ≤ 0 := hdep
        omega
  | succ n IH =>
    refine T.F_l_equal.ok sc_l_equal (fun vs H Q E h => ?_) (fun cdv A outer s H vs Q E hr h => ?_)
    · obtain ⟨⟨v, u, d, rfl, _⟩⟩ := h
      rfl
    · obtain ⟨⟨v, u, d, rfl, hv, hu, hdep, hok, k⟩⟩ := h
      refine ⟨_, (pss_cons (ps_if (pt_cmpR op_isN (pv 1) pe_non (nomark _)) (pss_one (ps_ret (pe_cmpR op_isN (pv 0) pe_non (nomark _)))) pss_nil)
      (pss_cons (ps_if (pt_val (pe_callB call_isi (by rfl) T.z_isinstance (by decide +kernel) (pa_cons (pv 1) (pa_cons (pe_bltn (v := .ty "bool") (by rfl) T.z_bool (by decide +kernel) rfl) pa_nil)))) (pss_one (ps_ret (pe_and (pe_callB call_isi (by rfl) T.z_isinstance (by decide +kernel) (pa_cons (pv 0) (pa_cons (pe_bltn (v := .ty "bool") (by rfl) T.z_bool (by decide +kernel) rfl) pa_nil))) (pe_one (pe_cmpR op_eq (pv 0) (pv 1) (nomark _)))))) pss_nil)
      (pss_cons (ps_if (pt_val (pe_callB call_isi (by rfl) T.z_isinstance (by decide +kernel) (pa_cons (pv 1) (pa_cons (pe_bltn (v := .ty "int") (by rfl) T.z_int (by decide +kernel) rfl) pa_nil)))) (pss_one (ps_ret (pe_and (pe_callB call_isi (by rfl) T.z_isinstance (by decide +kernel) (pa_cons (pv 0) (pa_cons (pe_bltn (v := .ty "int") (by rfl) T.z_int (by decide +kernel) rfl) pa_nil))) (pe_and (pe_not (pe_callB call_isi (by rfl) T.z_isinstance (by decide +kernel) (pa_cons (pv 0) (pa_cons (pe_bltn (v := .ty "bool") (by rfl) T.z_bool (by decide +kernel) rfl) pa_nil)))) (pe_one (pe_cmpR op_eq (pv 0) (pv 1) (nomark _))))))) pss_nil)
      (pss_cons (ps_if (pt_val (pe_callB call_isi (by rfl) T.z_isinstance (by decide +kernel) (pa_cons (pv 1) (pa_cons (pe_bltn (v := .ty "str") (by rfl) T.z_str (by decide +kernel) rfl) pa_nil)))) (pss_one (ps_ret (pe_and (pe_callB call_isi (by rfl) T.z_isinstance (by decide +kernel) (pa_cons (pv 0) (pa_cons (pe_bltn (v := .ty "str") (by rfl) T.z_str (by decide +kernel) rfl) pa_nil))) (pe_one (pe_cmpR op_eq (pv 0) (pv 1) (nomark _)))))) pss_nil)
      (pss_cons (ps_if (pt_cmpR op_ne (pe_callB call_isi (by rfl) T.z_isinstance (by decide +kernel) (pa_cons (pv 1) (pa_cons (pe_bltn (v := .ty "tuple") (by rfl) T.z_tuple (by decide +kernel) rfl) pa_nil))) (pe_callB call_isi (by rfl) T.z_isinstance (by decide +kernel) (pa_cons (pv 0) (pa_cons (pe_bltn (v := .ty "tuple") (by rfl) T.z_tuple (by decide +kernel) rfl) pa_nil))) (nomark _)) (pss_one (ps_ret pe_bl)) pss_nil)
      (pss_cons (ps_if (pt_cmpR op_ne (pe_callB call_isi (by rfl) T.z_isinstance (by decide +kernel) (pa_cons (pv 1) (pa_cons (pe_bltn (v := .ty "list") (by rfl) T.z_list (by decide +kernel) rfl) pa_nil))) (pe_callB call_isi (by rfl) T.z_isinstance (by decide +kernel) (pa_cons (pv 0) (pa_cons (pe_bltn (v := .ty "list") (by rfl) T.z_list (by decide +kernel) rfl) pa_nil))) (nomark _)) (pss_one (ps_ret pe_bl)) pss_nil)
      (pss_cons (ps_if (pt_cmpR op_ne (pe_callB call_len_seq (by rfl) T.z_len (by decide +kernel) (pa_cons (pv 0) pa_nil)) (pe_callB call_len_seq (by rfl) T.z_len (by decide +kernel) (pa_cons (pv 1) pa_nil)) (nomark _)) (pss_one (ps_ret pe_bl)) pss_nil)
      (pss_one (ps_ret (pe_callB (cr_all rfl) (by rfl) T.z_all (by decide +kernel) (pa_cons (pe_lc (own := [("_law_k", 2)]) (g := gName 2) (te := (tCall _ [] E0 (tCons (tOp (rIx K) (tVar 0) (tVar 2)) (tCons (tOp (rIx K) (tVar 1) (tVar 2)) tNil)))) (tt := tYes) rfl sc_l_equal.nd (pi_range1 (by rfl) T.z_range (pa_cons (pe_callB call_len_seq (by rfl) T.z_len (by decide +kernel) (pa_cons (pv 1) pa_nil)) pa_nil)) (blkOk_by (own := [("_law_k", 2)]) (N := ["_law_actual", "_law_expected", "_law_k"]) (sc := (defScope s_l_equal)) (by decide +kernel)) (fun _ _ _ _ _ => (pg_name (i := 2) sc_l_equal.nd rfl (Or.inl rfl))) (fun _ _ _ _ _ => pts_nil) (fun _ _ _ _ _ => by exact (pe_call IH hr rfl T.m_l_equal T.F_l_equal.kp (b_l_equal T) .nil pass0 (pa_cons (pe_ix ix_seq (pv 0) (pv 2) (fun _ _ => rfl)) (pa_cons (pe_ix ix_seq (pv 1) (pv 2) (fun _ _ => rfl)) pa_nil))))) pa_nil))))))))))), ?_⟩
      cases d with
      | none =>
        cases hv; cases hu
        exact ⟨_, rfl, rfl, _, rfl, ite_t rfl ⟨_, rfl, rfl, k H (Same.refl H)⟩⟩
      | bool b =>
        cases hv; cases hu
        refine ⟨_, rfl, rfl, _, rfl, ite_f rfl ?_⟩
        refine ⟨_, rfl, _, _, _, _, true, rfl, .ty "bool", .base (.bl b), kf (by decide +kernel), _, rfl, iteT ?_⟩
        refine ⟨_, rfl, _, _, _, _, true, rfl, .ty "bool", .base (.bl b), kf (by decide +kernel), _, rfl, iteT ⟨_, rfl, _, rfl, rfl, ?_⟩⟩
        rw [decide_eq_true rfl]
        exact k H (Same.refl H)
      | int i =>
        cases hv; cases hu
        refine ⟨_, rfl, rfl, _, rfl, ite_f rfl ?_⟩
        refine ⟨_, rfl, _, _, _, _, false, rfl, .ty "bool", .base (.int i), kf (by decide +kernel), _, rfl, iteF ?_⟩
        refine ⟨_, rfl, _, _, _, _, true, rfl, .ty "int", .base (.int i), kf (by decide +kernel), _, rfl, iteT ?_⟩
        refine ⟨_, rfl, _, _, _, _, true, rfl, .ty "int", .base (.int i), kf (by decide +kernel), _, rfl, iteT ?_⟩
        refine ⟨_, rfl, _, _, _, _, false, rfl, .ty "bool", .base (.int i), kf (by decide +kernel), _, rfl, _, rfl, iteT ⟨_, rfl, _, rfl, rfl, ?_⟩⟩
        rw [decide_eq_true rfl]
        exact k H (Same.refl H)
      | str z =>
        cases hv; cases hu
        refine ⟨_, rfl, rfl, _, rfl, ite_f rfl ?_⟩
        refine ⟨_, rfl, _, _, _, _, false, rfl, .ty "bool", .base (.str z), kf (by decide +kernel), _, rfl, iteF ?_⟩
        refine ⟨_, rfl, _, _, _, _, false, rfl, .ty "int", .base (.str z), kf (by decide +kernel), _, rfl, iteF ?_⟩
        refine ⟨_, rfl, _, _, _, _, true, rfl, .ty "str", .base (.str z), kf (by decide +kernel), _, rfl, iteT ?_⟩
        refine ⟨_, rfl, _, _, _, _, true, rfl, .ty "str", .base (.str z), kf (by decide +kernel), _, rfl, iteT ⟨_, rfl, _, rfl, rfl, ?_⟩⟩
        rw [decide_eq_true rfl]
        exact k H (Same.refl H)
      | dict _ => exact absurd hok (by simp [okD])
      | list ds =>
        obtain ⟨p, xs, rfl, hp, hxs⟩ := Dp.lst_inv hv
        obtain ⟨q, ys, rfl, hq, hys⟩ := Dp.lst_inv hu
        have hok' : decide (ds.length ≤ 1000000) = true ∧ okAll ds = true := by
          have : (decide (ds.length ≤ 1000000) && okAll ds) = true := hok
          rw [Bool.and_eq_true] at this
          exact this
        have hl : ds.length ≤ 1000000 := of_decide_eq_true hok'.1
        have hdep' : PyData.depthAll ds ≤ n := by
          have : PyData.depthAll ds + 1 ≤ n + 1 := hdep
          omega
        have xl : xs.length = ds.length := DpAll.len hxs
        have yl : ys.length = ds.length := DpAll.len hys
        have ty1 := SqL.ty hp
        have ty2 := SqL.ty hq
        refine ⟨_, rfl, rfl, _, rfl, ite_f rfl ?_⟩
        refine ⟨_, rfl, _, _, _, _, false, rfl, .ty "bool", ty2, kf (by decide +kernel), _, rfl, iteF ?_⟩
        refine ⟨_, rfl, _, _, _, _, false, rfl, .ty "int", ty2, kf (by decide +kernel), _, rfl, iteF ?_⟩
        refine ⟨_, rfl, _, _, _, _, false, rfl, .ty "str", ty2, kf (by decide +kernel), _, rfl, iteF ?_⟩
        refine ⟨_, rfl, _, _, _, _, false, rfl, .ty "tuple", ty2, kf (by decide +kernel), _, rfl, _, _, _, _, false, rfl, .ty "tuple", ty1, kf (by decide +kernel), rfl, _, rfl, ite_f (by decide) ?_⟩
        refine ⟨_, rfl, _, _, _, _, true, rfl, .ty "list", ty2, kf (by decide +kernel), _, rfl, _, _, _, _, true, rfl, .ty "list", ty1, kf (by decide +kernel), rfl, _, rfl, ite_f (by decide) ?_⟩
        refine ⟨_, rfl, p, _, rfl, .inl hp, _, rfl, q, _, rfl, .inl hq, rfl, _, rfl, ite_f (by rw [xl, yl, decide_eq_true rfl]; rfl) ?_⟩
        refine ⟨_, rfl, q, _, rfl, .inl hq, _, rfl, by omega, by omega, fun D hD => ?_⟩
        refine lc_range (lo := 0) (n := ((ys.length : Nat) : Int).toNat) (fun j H' => Same H H' ∧ H' D = some (.lst ((List.replicate j true).map V.bl))) ⟨same_new hD, upd_same⟩ ?_ ?_
        · rintro j H' hj ⟨s1, h1⟩
          have hj' : j < ds.length := by omega
          obtain ⟨dj, hdj⟩ : ∃ dj, ds[j]? = some dj := ⟨_, List.getElem?_eq_getElem hj'⟩
          obtain ⟨x1, hx1, e1⟩ := DpAll.at hxs hdj
          obtain ⟨y1, hy1, e2⟩ := DpAll.at hys hdj
          have ej : (0 + (j : Int)) = ((j : Nat) : Int) := by omega
          refine ⟨rfl, _, rfl, _, rfl, .inl ⟨p, xs, _, x1, rfl, rfl, s1.seq hp, at_n (j := j) ej hx1, _, rfl, _, rfl, .inl ⟨q, ys, _, y1, rfl, rfl, s1.seq hq, at_n (j := j) ej hy1, ?_⟩⟩⟩
          refine ⟨⟨x1, y1, dj, rfl, Dp.mono s1 _ _ e1, Dp.mono s1 _ _ e2, Nat.le_trans (depthAll_at hdj) hdep', okAll_at hok'.2 hdj, fun H2 s2 => ?_⟩⟩
          have h2 := s2 _ _ h1
          refine ⟨_, h2, smaller 1000000 (by rw [List.length_map, List.length_replicate]; omega) (by decide), same_put (s1.trans s2) hD, ?_⟩
          rw [upd_same, List.replicate_succ', List.map_append]
          rfl
        · rintro H' ⟨s1, h1⟩
          refine ⟨D, List.replicate ((ys.length : Nat) : Int).toNat true, rfl, SqL.of h1, ?_⟩
          have e : (List.replicate ((ys.length : Nat) : Int).toNat true).all id = true := by simp
          rw [e]
          exact k H' s1
      | tuple ds =>
        obtain ⟨p, xs, rfl, hp, hxs⟩ := Dp.tup_inv hv
        obtain ⟨q, ys, rfl, hq, hys⟩ := Dp.tup_inv hu
        have hok' : decide (ds.length ≤ 1000000) = true ∧ okAll ds = true := by
          have : (decide (ds.length ≤ 1000000) && okAll ds) = true := hok
          rw [Bool.and_eq_true] at this
          exact this
        have hl : ds.length ≤ 1000000 := of_decide_eq_true hok'.1
        have hdep' : PyData.depthAll ds ≤ n := by
          have : PyData.depthAll ds + 1 ≤ n + 1 := hdep
          omega
        have xl : xs.length = ds.length := DpAll.len hxs
        have yl : ys.length = ds.length := DpAll.len hys
        have ty1 := SqT.ty hp
        have ty2 := SqT.ty hq
        refine ⟨_, rfl, rfl, _, rfl, ite_f rfl ?_⟩
        refine ⟨_, rfl, _, _, _, _, false, rfl, .ty "bool", ty2, kf (by decide +kernel), _, rfl, iteF ?_⟩
        refine ⟨_, rfl, _, _, _, _, false, rfl, .ty "int", ty2, kf (by decide +kernel), _, rfl, iteF ?_⟩
        refine ⟨_, rfl, _, _, _, _, false, rfl, .ty "str", ty2, kf (by decide +kernel), _, rfl, iteF ?_⟩
        refine ⟨_, rfl, _, _, _, _, true, rfl, .ty "tuple", ty2, kf (by decide +kernel), _, rfl, _, _, _, _, true, rfl, .ty "tuple", ty1, kf (by decide +kernel), rfl, _, rfl, ite_f (by decide) ?_⟩
        refine ⟨_, rfl, _, _, _, _, false, rfl, .ty "list", ty2, kf (by decide +kernel), _, rfl, _, _, _, _, false, rfl, .ty "list", ty1, kf (by decide +kernel), rfl, _, rfl, ite_f (by decide) ?_⟩
        refine ⟨_, rfl, p, _, rfl, .inr hp, _, rfl, q, _, rfl, .inr hq, rfl, _, rfl, ite_f (by rw [xl, yl, decide_eq_true rfl]; rfl) ?_⟩
        refine ⟨_, rfl, q, _, rfl, .inr hq, _, rfl, by omega, by omega, fun D hD => ?_⟩
        refine lc_range (lo := 0) (n := ((ys.length : Nat) : Int).toNat) (fun j H' => Same H H' ∧ H' D = some (.lst ((List.replicate j true).map V.bl))) ⟨same_new hD, upd_same⟩ ?_ ?_
        · rintro j H' hj ⟨s1, h1⟩
          have hj' : j < ds.length := by omega
          obtain ⟨dj, hdj⟩ : ∃ dj, ds[j]? = some dj := ⟨_, List.getElem?_eq_getElem hj'⟩
          obtain ⟨x1, hx1, e1⟩ := DpAll.at hxs hdj
          obtain ⟨y1, hy1, e2⟩ := DpAll.at hys hdj
          have ej : (0 + (j : Int)) = ((j : Nat) : Int) := by omega
          refine ⟨rfl, _, rfl, _, rfl, .inr (.inl ⟨p, xs, _, x1, rfl, rfl, Same.seqT s1 hp, at_n (j := j) ej hx1, _, rfl, _, rfl, .inr (.inl ⟨q, ys, _, y1, rfl, rfl, Same.seqT s1 hq, at_n (j := j) ej hy1, ?_⟩)⟩)⟩
          refine ⟨⟨x1, y1, dj, rfl, Dp.mono s1 _ _ e1, Dp.mono s1 _ _ e2, Nat.le_trans (depthAll_at hdj) hdep', okAll_at hok'.2 hdj, fun H2 s2 => ?_⟩⟩
          have h2 := s2 _ _ h1
          refine ⟨_, h2, smaller 1000000 (by rw [List.length_map, List.length_replicate]; omega) (by decide), same_put (s1.trans s2) hD, ?_⟩
          rw [upd_same, List.replicate_succ', List.map_append]
          rfl
        · rintro H' ⟨s1, h1⟩
          refine ⟨D, List.replicate ((ys.length : Nat) : Int).toNat true, rfl, SqL.of h1, ?_⟩
          have e : (List.replicate ((ys.length : Nat) : Int).toNat true).all id = true := by simp
          rw [e]
          exact k H' s1
end
end Sb

namespace Sb
open PySem PySem.Spec PyProof.Rows L2
/-! ### enumerate(tuple) -/
theorem meets_enumerate_new1 {v : Value} {o : Obj} {H : Heap → Prop} (B : Begins v o H) :
    Meets (Builtin.«enumerate.__new__» ⟨[.type "enumerate", v], []⟩) (fun _ R s => H s.heap ∧
      R (.ok (.ret (.ref (s.heap.push o).objs.size))) { s with heap := (s.heap.push o).push { cls := .type "enumerate", data := .fields #[.none, .bool false, .ref s.heap.objs.size, rawInt 0, .none, .none] } }) :=
  .of_wp fun prog w A R s h => by
    obtain ⟨hp, g, d, tk, os⟩ := s; obtain ⟨h1, h⟩ := h
    have hsub := sub_enumerate
    have q1 : ∀ {A' : Around} {E : Value → Shared → Prop} {Q : Value → Shared → Prop}, Q (.ref hp.objs.size) ⟨hp.push o, g, d, tk, os⟩ → wpAny (model prog w) A' (pyIter v) Q E ⟨hp, g, d, tk, os⟩ :=
      fun q => B.iter prog w _ _ ⟨hp, g, d, tk, os⟩ _ h1 q
    wp_walk using q1
    refine wpAny_stack_any fun st => wpAny_pure ?_
    split
    · rename_i c _ _ _ _ _
      cases (c == Value.type "enumerate")
      · wp_walk using q1
        exact ⟨_, rfl, h⟩
      · wp_walk using q1
        exact ⟨_, rfl, h⟩
    · wp_walk using q1
      exact ⟨_, rfl, h⟩
section
variable {prog : Program} {w : World} {A : Around} {E : Value → Shared → Prop} {s : Shared}
theorem enum_begins1 {v : Value} {o : Obj} {H : Heap → Prop} {Q : Value → Shared → Prop} (B : Begins v o H) (h1 : H s.heap)
    (h : ∀ h', IsEnum h' (s.heap.objs.size + 1) s.heap.objs.size 0 .none → h'.get? s.heap.objs.size = some o → h'.objs.size = s.heap.objs.size + 2 →
      (∀ b o, s.heap.get? b = some o → h'.get? b = some o) → Q (.ref (s.heap.objs.size + 1)) { s with heap := h' }) :
    wpAny (model prog w) A (call (.type "enumerate") [v]) Q E s := by
  refine callType_new F.called_enumerate (by decide) (F.typeCall_enumerate_1 _) (F.newCall_enumerate_1 _) (fun obj => F.args_object_init_2 obj _) F.entry_enumerate_new
    (meets_enumerate_new1 B) ⟨h1, ?_⟩
  have hz : (s.heap.push o).objs.size = s.heap.objs.size + 1 := Heap.size_push ..
  show _ ∧ _
  rw [hz]
  have he : IsEnum ((s.heap.push o).push { cls := .type "enumerate", data := .fields #[.none, .bool false, .ref s.heap.objs.size, rawInt 0, .none, .none] }) (s.heap.objs.size + 1) s.heap.objs.size 0 .none := by
    have := Heap.get?_push_size (s.heap.push o) (o := { cls := .type "enumerate", data := .fields #[.none, .bool false, .ref s.heap.objs.size, rawInt 0, .none, .none] }) rfl
    rw [hz] at this; exact this
  refine ⟨⟨_, he, rfl⟩, h _ he (Heap.get?_push_of_some _ (Heap.get?_push_size _ B.free)) (by rw [Heap.size_push, hz]) fun b o x => Heap.get?_push_of_some _ (Heap.get?_push_of_some _ x)⟩
end
def IteT (K : PySem.W.Frag) (a : Addr) : It :=
  ⟨fun i H => ∃ (xs : List V) (x : V), SqT K H a xs ∧ xs[i]? = some x, fun i H v H' => ∃ T x, v = .ref T ∧ H T = none ∧ H' = upd H T (.tup [.int (i : Nat), x]) ∧ ∀ xs, SqT K H a xs → xs[i]? = some x, fun i H => ∃ xs : List V, SqT K H a xs ∧ xs.length = i⟩
theorem turn_enumT {P : Program} {w : World} {K : PySem.W.Frag} {elts : List Expr} {kk : Nat} {tpos : Pos} (a e it : Addr) :
    Turn P w K (.Tuple elts kk tpos) (IteT K a) [e, it] e (fun i h => (∃ old, IsEnum h e it ((i : Nat) : Int) old) ∧ h.IsTupleIter it a i ∧ e ≠ it) where
  mem := by simp
  obj := fun i h st b hb => by
    obtain ⟨⟨old, he⟩, ⟨o, ho, hc, hd⟩, _⟩ := st
    have e' : b = e ∨ b = it := by simpa using hb
    rcases e' with z | z
    · rw [z]; exact ⟨_, he, fun v q => nomatch q⟩
    · rw [z]; exact ⟨o, ho, fun v q => by rw [hd] at q; cases q⟩
  keep := fun i h h' st k => let ⟨⟨old, he⟩, hi, hne⟩ := st; ⟨⟨old, k e (by simp) _ he⟩, hi.at fun o q => k it (by simp) o q, hne⟩
  item := by
    intro X hP hw hK hc i pins s σ H E I hf st hg
    subst hP hw hK
    obtain ⟨⟨old, he⟩, hit, hne⟩ := st
    obtain ⟨xs, x, hq, hx⟩ := hg
    obtain ⟨its, rv, p, hz⟩ := I.tuple hq
    obtain ⟨u, hu, ru⟩ := rv.get hx
    have hel : e < s.heap.objs.size := Heap.lt_size he
    have hil : it < s.heap.objs.size := by obtain ⟨_, q, _⟩ := id hit; exact Heap.lt_size q
    have pt : s.heap.IsTuple a its.toArray := p
    have hai : a ≠ it := fun z => by
      obtain ⟨o, q1, q2, _⟩ := id hit
      obtain ⟨o', p1, p2, _⟩ := id pt
      rw [z, q1] at p1
      cases p1
      rw [q2] at p2
      injection p2 with p2
      exact absurd p2 (by decide)
    have hea : e ≠ a := fun z => by
      obtain ⟨o', p1, p2, _⟩ := id pt
      rw [← z, he] at p1
      cases p1
      have p3 : (Value.type "enumerate") = .type "tuple" := p2
      injection p3 with p3
      exact absurd p3 (by decide)
    have hi : i < its.toArray.size := by
      have := (List.getElem?_eq_some_iff.mp hu).1
      simpa using this
    have D := Draws.tuple (prog := X.prog) (w := X.w) (A := X.A.in1) (I.ok.hd hc) it a hai its.toArray
    refine wpAny_pyNext_enum_itemD D he ⟨hit, pt⟩ hi hne (by simp [hne, hea]) fun x' h' tk hPx ho hst' hT hsz hk => ?_
    have hxu : x' = u := by
      have h1 : its.toArray[i]? = some x' := hPx
      rw [List.getElem?_toArray, hu] at h1
      exact (Option.some.inj h1).symm
    subst hxu
    obtain ⟨hit', pt'⟩ := hst'
    refine ⟨_, rfl, wpAny_letOwnedTupleGo_enum (s := { s with heap := h', toks := tk + 1 }) ho fun h'' he' sb => ?_⟩
    have hT2 : h''.get? s.heap.objs.size = some { cls := .type "tuple", data := .seq #[.int i tk, x'] } := (sb.2 _ (Nat.ne_of_gt hel)).trans hT
    have new : ObjOk X.prog X.w (upd H s.heap.objs.size (.tup [.int (i : Nat), x])) h'' s.heap.objs.size (.tup [.int (i : Nat), x]) :=
      ⟨by show 2 ≤ sizeLine; decide, [.int i tk, x'], .cons ⟨_, rfl⟩ (.cons ru .nil), ⟨_, hT2, rfl, _, rfl⟩⟩
    have I1 : Inv X pins σ (upd H s.heap.objs.size (.tup [.int (i : Nat), x])) { s with heap := h'', toks := tk + 1 } :=
      I.turnedNew (ch := [e, it]) (fun b ob hb q => (sb.2 b (fun z => hb (by simp [z]))).trans (hk b ob (fun z => hb (by simp [z])) (fun z => hb (by simp [z])) q)) hf (Nat.le_refl _) new
    refine ⟨.ref s.heap.objs.size, _, I1, rfl, ⟨_, x, rfl, I.hok.fresh (Nat.le_refl _), rfl, fun ys hy => by rw [I.tuple_inj hy hq]; exact hx⟩, ⟨⟨x', ?_⟩, hit'.at fun o q => (sb.2 it (Ne.symm hne)).trans q, hne⟩, fun b hb => ?_⟩
    · have e1 : ((i + 1 : Nat) : Int) = (i : Int) + 1 := by omega
      rw [e1]; exact he'
    · have hb' : b < s.heap.objs.size := by
        have e' : b = e ∨ b = it := by simpa using hb
        rcases e' with z | z
        · rw [z]; exact hel
        · rw [z]; exact hil
      rw [upd_ne (Nat.ne_of_lt hb')]
      exact (hf b hb).1
  done := by
    intro X hP hw hK hc i pins s σ H E I hf st hg
    subst hP hw hK
    obtain ⟨⟨old, he⟩, hit, hne⟩ := st
    obtain ⟨xs, hq, hx⟩ := hg
    obtain ⟨its, rv, p, hz⟩ := I.tuple hq
    obtain ⟨f0, f1, f2, f3, f4, f5⟩ := hf it (by simp)
    have hl := rv.length
    have pt : s.heap.IsTuple a its.toArray := p
    have hai : a ≠ it := fun z => by
      obtain ⟨o, q1, q2, _⟩ := id hit
      obtain ⟨o', p1, p2, _⟩ := id pt
      rw [z, q1] at p1
      cases p1
      rw [q2] at p2
      injection p2 with p2
      exact absurd p2 (by decide)
    have D := Draws.tuple (prog := X.prog) (w := X.w) (A := X.A.in1) (I.ok.hd hc) it a hai its.toArray
    have ei : i = its.toArray.size := by simp; omega
    refine wpAny_pyNext_enum_endD D he ⟨by rw [← ei]; exact hit, pt⟩ fun h' eb => ⟨rfl, I.turned (t' := s.toks) (fun b o hb q => eb b o hb q) f0 f1 f3 f4 f5⟩
  self := fun A i s Q E st h => let ⟨⟨_, he⟩, _⟩ := st; wpAny_pyIter_enum he h
def iEnumT (K : PySem.W.Frag) (ta : TA) : TI := fun σ H R => ta σ H fun vs H1 => ∃ a xs, vs = [.ref a] ∧ SqT K H1 a xs ∧ R (IteT K a) H1
theorem pi_enumT {X : Cx} {e : Expr} {ta : TA} {p pos tpos : Pos} {elts : List Expr} {kk : Nat} (hg : Gl X "enumerate") (hm : X.mg "enumerate" = none) (ha : PA X [e] ta) (hs : starEach [e] X.env = [(false, eval e X.env)] := by rfl) :
    PI X (.Tuple elts kk tpos) (.Call (.Name "enumerate" p) [e] [] pos) (iEnumT X.K ta) := by
  refine ⟨fun pins s σ H R I h => ?_⟩
  refine Call_ (ld_blt I hg hm boot_enumerate (PyProof.Rows.callWith_type1 (thn (ha.run pos pins s σ H _ I h) fun us s1 ⟨vs, H1, I1, r1, q1⟩ => ?_) hs rfl))
  obtain ⟨a, xs, ex, hq, q⟩ := q1
  subst ex
  cases r1 with
  | cons r rr =>
    cases rr
    cases r
    obtain ⟨its, rv, p', hz⟩ := I1.tuple hq
    refine enum_begins1 (begins_tuple a its.toArray) p' fun h' he hit hsz hk => wpAny_pyIter_enum he ?_
    have I2 : Inv X pins σ H1 { s1 with heap := h' } := I1.kept (t' := s1.toks) hk
    refine ⟨s1.heap.objs.size + 1, [s1.heap.objs.size + 1, s1.heap.objs.size], _, _, H1, rfl, I2, turn_enumT a (s1.heap.objs.size + 1) s1.heap.objs.size, ⟨⟨.none, he⟩, ⟨_, hit, rfl, rfl⟩, Nat.succ_ne_self _⟩, fun b hb => ?_, q⟩
    have e' : b = s1.heap.objs.size + 1 ∨ b = s1.heap.objs.size := by simpa using hb
    have hle : s1.heap.objs.size ≤ b := by
      rcases e' with z | z
      · rw [z]; exact Nat.le_add_right _ _
      · rw [z]; exact Nat.le_refl _
    exact I1.fpOk hle (I1.hok.fresh hle)
/-- a comprehension over enumerate(tuple) -/
theorem lc_enumT {K : PySem.W.Frag} {a : Addr} {xs : List V} {g : TG} {tt : TT} {te : TE} {vs : List Nat} {σ : L2.St} {H1 : Hp} {D : Addr} {Qd : Hp → Prop} (Pv : Nat → Hp → Prop) (h0 : Pv 0 (upd H1 D (.lst []))) (hl : ∀ i H, i ≤ xs.length → Pv i H → SqT K H a xs)
    (hs : ∀ i x H T, xs[i]? = some x → Pv i H → H T = none → g (.ref T) (wipe σ vs) (upd H T (.tup [.int (i : Nat), x])) fun σ2 H2 => wipe σ2 vs = wipe σ vs ∧ tt σ2 H2 fun b H3 =>
      if b = true then te σ2 H3 fun y H4 => ∃ acc, H4 D = some (.lst acc) ∧ acc.length < sizeLine ∧ Pv (i + 1) (upd H4 D (.lst (acc ++ [y]))) else Pv (i + 1) H3) (hd : ∀ H, Pv xs.length H → Qd H) :
    ∃ W : Nat → Nat → Hp → Prop, (∃ m, W 0 m (upd H1 D (.lst []))) ∧ ∀ i m H, W i m H →
      ((IteT K a).stop i H ∧ Qd H) ∨ ((IteT K a).go i H ∧ ∃ Nx : Hp → Prop, (∀ H', Nx H' → ∃ m', m' < m ∧ W (i + 1) m' H') ∧ ∀ x H', (IteT K a).yld i H x H' → g x (wipe σ vs) H' fun σ2 H2 => wipe σ2 vs = wipe σ vs ∧ tt σ2 H2 fun b H3 =>
        if b = true then te σ2 H3 fun y H4 => ∃ acc, H4 D = some (.lst acc) ∧ acc.length < sizeLine ∧ Nx (upd H4 D (.lst (acc ++ [y]))) else Nx H3) := by
  refine ⟨fun i m H => m = xs.length - i ∧ i ≤ xs.length ∧ Pv i H, ⟨xs.length, by simp, Nat.zero_le _, h0⟩, ?_⟩
  rintro i m H ⟨rfl, hi, p⟩
  have q := hl i H hi p
  by_cases hlt : i < xs.length
  · refine .inr ⟨⟨xs, xs[i], q, by simp [hlt]⟩, Pv (i + 1), fun H' p' => ⟨xs.length - (i + 1), by omega, rfl, hlt, p'⟩, fun x H' y => ?_⟩
    obtain ⟨T, z, rfl, hT, rfl, y⟩ := y
    exact hs i z H T (y xs q) p hT
  · have e : i = xs.length := by omega
    subst e
    exact .inl ⟨⟨xs, q, rfl⟩, hd H p⟩
end Sb

namespace Sb
open PySem PySem.Spec PyProof.Rows L2 TL
structure spIsInt (K : PySem.W.Frag) (vs : List V) (H : Hp) (Q : VK) (E : XK) : Prop where
  ex : ∃ (v : V) (lo hi : Int), vs = [v, .int lo, .int hi] ∧ ((∃ i, v = .int i ∧ Q (.bl (decide (lo ≤ i ∧ i ≤ hi))) H) ∨ (∃ b, v = .bl b ∧ Q (.bl false) H) ∨ (∃ n, TyX K H v (.type n) ∧ PySem.W.kitOne K (.type n) (.type "int") = some false ∧ Q (.bl false) H))
section
variable {P : Program} {w : World} {K : PySem.W.Frag} {mg : Str → Option Value} {base : Heap} {a : Ad}
theorem isint_go {i lo hi : Int} {H : Hp} {Q : VK} {E : XK} (h1 : lo ≤ i) (h2 : i ≤ hi) (q : Q (.bl true) H) : spIsInt K [.int i, .int lo, .int hi] H Q E :=
  ⟨⟨.int i, lo, hi, rfl, .inl ⟨i, rfl, by rw [decide_eq_true ⟨h1, h2⟩]; exact q⟩⟩⟩
end
end Sb

namespace Sb
open PySem PySem.Spec PyProof.Rows L2 TL
section
variable {K : PySem.W.Frag} {G0 H0 G H : Hp}
theorem catA_pt {t u : Addr} {xs ys : List V} {Q : VK} (pt : Pt G0 H0 G H) (ha : SqT K G t xs) (hb : SqT K G u ys) (hz : xs.length + ys.length ≤ sizeLine)
    (k : ∀ (q : Addr) (G' H' : Hp), Pt G0 H0 G' H' → Same G G' → SqT K G' q (xs ++ ys) → Q (.ref q) H') : rCatA K (.ref t) (.ref u) H Q := by
  refine ⟨t, u, xs, ys, rfl, rfl, Same.seqT pt.s ha, Same.seqT pt.s hb, hz, fun e => ?_, fun _ e => ?_, fun _ _ p hp => ?_⟩
  · subst e
    exact k u G H pt (Same.refl G) hb
  · subst e
    exact k t G H pt (Same.refl G) (by rw [List.append_nil]; exact ha)
  · exact k p _ _ (pt.new hp _) (same_new (pt.freeG hp)) (SqT.of upd_same)
theorem slA_pt {t : Addr} {xs : List V} {lo hi : Option Int} {Q : VK} (pt : Pt G0 H0 G H) (ha : SqT K G t xs)
    (k : ∀ (q : Addr) (G' H' : Hp), Pt G0 H0 G' H' → Same G G' → SqT K G' q (cutV xs lo hi) → Q (.ref q) H') : rSlA K (.ref t) lo hi H Q := by
  refine ⟨t, xs, rfl, Same.seqT pt.s ha, fun e => ?_, fun _ p hp => ?_⟩
  · refine k t G H pt (Same.refl G) ?_
    unfold cutV
    rw [e.1, e.2, List.drop_zero, Nat.sub_zero, List.take_length]
    exact ha
  · exact k p _ _ (pt.new hp _) (same_new (pt.freeG hp)) (SqT.of upd_same)
end
theorem cut_hi {xs : List V} {i : Nat} (h : i < xs.length) : cutV xs none (some (i : Int)) = xs.take i := by
  unfold cutV
  rw [HT.sIx_none, HT.sIx_nat, List.drop_zero, Nat.sub_zero, Nat.min_eq_left (by omega)]
theorem cut_lo {xs : List V} {i : Nat} (h : i < xs.length) : cutV xs (some ((i : Int) + 1)) none = xs.drop (i + 1) := by
  unfold cutV
  rw [show ((i : Int) + 1) = ((i + 1 : Nat) : Int) by omega, HT.sIx_none, HT.sIx_nat, Nat.min_eq_left (by omega)]
  exact List.take_of_length_le (by rw [List.length_drop]; omega)
structure spReplaced (K : PySem.W.Frag) (vs : List V) (H : Hp) (Q : VK) (E : XK) : Prop where
  ex : ∃ (G : Hp) (t : Addr) (xs : List V) (i : Nat) (v : V), vs = [.ref t, .int i, v] ∧ SqT K G t xs ∧ i < xs.length ∧ xs.length ≤ 1000 ∧ Pure G H Q fun G' u => ∃ r, u = .ref r ∧ SqT K G' r (xs.set i v)
theorem replaced_go {K : PySem.W.Frag} {G0 H0 G H : Hp} {t : Addr} {xs : List V} {i : Nat} {v : V} {Q : VK} {E : XK} (pt : Pt G0 H0 G H) (ha : SqT K G t xs) (hi : i < xs.length) (hl : xs.length ≤ 1000)
    (k : ∀ (r : Addr) (G' H' : Hp), Pt G0 H0 G' H' → Same G G' → SqT K G' r (xs.set i v) → Q (.ref r) H') : spReplaced K [.ref t, .int i, v] H Q E :=
  ⟨⟨G, t, xs, i, v, rfl, ha, hi, hl, pt.s, fun G' H' u e s ⟨r, hu, hr⟩ => by subst hu; exact k r G' H' (pt.call e s) e.g hr⟩⟩
def stF (c n b e : Addr) : List (Str × V) := [("cells", .ref c), ("nexts", .ref n), ("holds", .ref b), ("shelf", .ref e)]
def StateAt (a : Ad) (K : PySem.W.Frag) (G : Hp) (v : V) (s : Sit) : Prop := ∃ (r dx c n b e : Addr), v = .ref r ∧ G r = some (.ins a.C_State dx (stF c n b e)) ∧ SqT K G c (nV s.cs) ∧ SqT K G n (nV s.ns) ∧ SqT K G b (bV s.hs) ∧ SqT K G e (nV s.sh)
theorem StateAt.mono {a : Ad} {K : PySem.W.Frag} {G G' : Hp} {v : V} {s : Sit} (m : Same G G') (h : StateAt a K G v s) : StateAt a K G' v s := by
  obtain ⟨r, dx, c, n, b, e, h0, h1, h2, h3, h4, h5⟩ := h
  exact ⟨r, dx, c, n, b, e, h0, m _ _ h1, Same.seqT m h2, Same.seqT m h3, Same.seqT m h4, Same.seqT m h5⟩
def tkF (w : Addr) (v : V) : List (Str × V) := [("words", .ref w), ("state", v)]
def TickAt (a : Ad) (K : PySem.W.Frag) (G : Hp) (v : V) (w : Nat × Nat) (s : Sit) : Prop := ∃ (r dx t : Addr) (u : V), v = .ref r ∧ G r = some (.ins a.C_Tick dx (tkF t u)) ∧ SqT K G t [.str (doS w.1), .str (doS w.2)] ∧ StateAt a K G u s
theorem TickAt.mono {a : Ad} {K : PySem.W.Frag} {G G' : Hp} {v : V} {w : Nat × Nat} {s : Sit} (m : Same G G') (h : TickAt a K G v w s) : TickAt a K G' v w s := by
  obtain ⟨r, dx, t, u, h0, h1, h2, h3⟩ := h
  exact ⟨r, dx, t, u, h0, m _ _ h1, Same.seqT m h2, h3.mono m⟩
structure spKey (a : Ad) (K : PySem.W.Frag) (vs : List V) (H : Hp) (Q : VK) (E : XK) : Prop where
  ex : ∃ (G : Hp) (v : V) (s : Sit), vs = [v] ∧ StateAt a K G v s ∧ Pure G H Q fun G' u => ∃ p, u = .ref p ∧ Dp K G' (.ref p) (sitT s)
structure spFirst (a : Ad) (K : PySem.W.Frag) (vs : List V) (H : Hp) (Q : VK) (E : XK) : Prop where
  ex : ∃ (G : Hp) (v : V) (x : Pl), vs = [v] ∧ PlanAt a K G v x ∧ Pure G H Q fun G' u => StateAt a K G' u (sit0 x)
section
variable {P : Program} {w : World} {K : PySem.W.Frag} {mg : Str → Option Value} {base : Heap} {a : Ad}
theorem ok_replaced (T : Txt K mg a) : FnOk P w K mg base CX0 1 a.f_replaced a.d_replaced ["values", "place", "value"] (spReplaced K) := by
  refine T.F_replaced.ok sc_replaced (fun vs H Q E h => ?_) (fun cdv A outer s H vs Q E hr h => ?_)
  · obtain ⟨⟨G, t, xs, i, v, rfl, _⟩⟩ := h
    rfl
  · obtain ⟨⟨G, t, xs, i, v, rfl, ht, hi, hl, hGH, k⟩⟩ := h
    refine ⟨_, (pss_one (ps_ret (pe_op op_catA (pe_op op_catA (pe_slice sl_tupA (pv 0) po_none (po_some (pv 1))) (pe_tup (pa_cons (pv 2) pa_nil))) (pe_slice sl_tupA (pv 0) (po_some (pe_op op_add (pv 1) pe_int)) po_none)))), ?_⟩
    refine ⟨_, rfl, _, rfl, _, rfl, slA_pt (Pt.start hGH) ht fun p1 G1 H1 B1 S1 h1 => ?_⟩
    rw [cut_hi hi] at h1
    refine ⟨_, rfl, (by show 1 ≤ sizeLine; decide), fun p2 hp2 => ?_⟩
    have B2 := B1.new hp2 (.tup [v])
    have S2 := same_new (o := .tup [v]) (B1.freeG hp2)
    refine catA_pt B2 (Same.seqT S2 h1) (SqT.of upd_same) (small 2000 (by rw [List.length_take, List.length_singleton]; omega) (by decide)) fun p3 G3 H3 B3 S3 h3 => ?_
    refine ⟨_, rfl, _, rfl, _, _, rfl, rfl, _, rfl, ?_⟩
    dsimp only [tNoPart]
    refine slA_pt (K := K) B3 (Same.seqT ((S1.trans S2).trans S3) ht) fun p4 G4 H4 B4 S4 h4 => ?_
    rw [cut_lo hi] at h4
    refine catA_pt B4 (Same.seqT S4 h3) h4 (small 2000 (by rw [List.length_append, List.length_take, List.length_singleton, List.length_drop]; omega) (by decide)) fun p5 G5 H5 B5 S5 h5 => ?_
    refine k _ _ _ B5.ext B5.sm ⟨p5, rfl, ?_⟩
    rw [List.set_eq_take_append_cons_drop, if_pos hi]
    rw [List.append_assoc] at h5
    exact h5
theorem ok_State_init (T : Txt K mg a) : FnOk P w K mg base CX0 1 a.f_State_init a.d_State_init ["self", "cells", "nexts", "holds", "shelf"] (spInit a.C_State ["cells", "nexts", "holds", "shelf"]) := by
  refine T.F_State_init.ok sc_State_init (fun vs H Q E h => ?_) (fun cdv A outer s H vs Q E hr h => ?_)
  · obtain ⟨⟨x, dx, us, rfl, hl, _⟩⟩ := h
    exact congrArg (· + 1) hl
  · obtain ⟨⟨x, dx, us, rfl, hl, hx, k⟩⟩ := h
    match us, hl with
    | [u1, u2, u3, u4], _ =>
      refine ⟨_, (pss_cons (ps_fld (pv 0) (pv 1) rfl)
      (pss_cons (ps_fld (pv 0) (pv 2) rfl)
      (pss_cons (ps_fld (pv 0) (pv 3) rfl)
      (pss_one (ps_fld (pv 0) (pv 4) rfl))))), ?_⟩
      refine ⟨_, rfl, _, rfl, x, _, dx, _, rfl, hx, T.cl_State, T.n_State_cells, by decide, ?_⟩
      refine ⟨_, rfl, _, rfl, x, _, dx, _, rfl, upd_same, T.cl_State, T.n_State_nexts, lf1, ?_⟩
      refine ⟨_, rfl, _, rfl, x, _, dx, _, rfl, upd_same, T.cl_State, T.n_State_holds, lf2, ?_⟩
      refine ⟨_, rfl, _, rfl, x, _, dx, _, rfl, upd_same, T.cl_State, T.n_State_shelf, lf3, ?_⟩
      rw [upd_upd, upd_upd, upd_upd]
      have e : putF "shelf" u4 (putF "holds" u3 (putF "nexts" u2 (putF "cells" u1 []))) = (["cells", "nexts", "holds", "shelf"] : List Str).zip [u1, u2, u3, u4] := by
        show putF "shelf" u4 (putF "holds" u3 (putF "nexts" u2 [("cells", u1)])) = _
        rw [putF_new (fs := [("cells", u1)]) (show ("nexts" : Str) ∉ (["cells"] : List Str) by decide +kernel)]
        show putF "shelf" u4 (putF "holds" u3 [("cells", u1), ("nexts", u2)]) = _
        rw [putF_new (fs := [("cells", u1), ("nexts", u2)]) (show ("holds" : Str) ∉ (["cells", "nexts"] : List Str) by decide +kernel)]
        show putF "shelf" u4 [("cells", u1), ("nexts", u2), ("holds", u3)] = _
        rw [putF_new (fs := [("cells", u1), ("nexts", u2), ("holds", u3)]) (show ("shelf" : Str) ∉ (["cells", "nexts", "holds"] : List Str) by decide +kernel)]
        rfl
      rw [e]
      exact k
theorem ok_Tick_init (T : Txt K mg a) : FnOk P w K mg base CX0 1 a.f_Tick_init a.d_Tick_init ["self", "words", "state"] (spInit a.C_Tick ["words", "state"]) := by
  refine T.F_Tick_init.ok sc_Tick_init (fun vs H Q E h => ?_) (fun cdv A outer s H vs Q E hr h => ?_)
  · obtain ⟨⟨x, dx, us, rfl, hl, _⟩⟩ := h
    exact congrArg (· + 1) hl
  · obtain ⟨⟨x, dx, us, rfl, hl, hx, k⟩⟩ := h
    match us, hl with
    | [u1, u2], _ =>
      refine ⟨_, (pss_cons (ps_fld (pv 0) (pv 1) rfl)
      (pss_one (ps_fld (pv 0) (pv 2) rfl))), ?_⟩
      refine ⟨_, rfl, _, rfl, x, _, dx, _, rfl, hx, T.cl_Tick, T.n_Tick_words, by decide, ?_⟩
      refine ⟨_, rfl, _, rfl, x, _, dx, _, rfl, upd_same, T.cl_Tick, T.n_Tick_state, lf1, ?_⟩
      rw [upd_upd]
      have e : putF "state" u2 (putF "words" u1 []) = (["words", "state"] : List Str).zip [u1, u2] := by
        show putF "state" u2 [("words", u1)] = _
        rw [putF_new (fs := [("words", u1)]) (show ("state" : Str) ∉ (["words"] : List Str) by decide +kernel)]
        rfl
      rw [e]
      exact k
theorem ok_State_key (T : Txt K mg a) : FnOk P w K mg base CX0 1 a.f_State_key a.d_State_key ["self"] (spKey a K) := by
  refine T.F_State_key.ok sc_State_key (fun vs H Q E h => ?_) (fun cdv A outer s H vs Q E hr h => ?_)
  · obtain ⟨⟨G, v, s, rfl, _⟩⟩ := h
    rfl
  · obtain ⟨⟨G, v, s, rfl, ⟨r, dx, c, n, b, e, rfl, h1, h2, h3, h4, h5⟩, hGH, k⟩⟩ := h
    refine ⟨_, (pss_one (ps_ret (pe_tup (pa_cons (pe_fld (pv 0) rfl) (pa_cons (pe_fld (pv 0) rfl) (pa_cons (pe_fld (pv 0) rfl) (pa_cons (pe_fld (pv 0) rfl) pa_nil))))))), ?_⟩
    have h1' := hGH _ _ h1
    refine ⟨_, rfl, r, _, dx, _, .ref c, rfl, h1', T.cl_State, T.n_State_cells, (by kernel_rfl), _, rfl, r, _, dx, _, .ref n, rfl, h1', T.cl_State, T.n_State_nexts, (by kernel_rfl), _, rfl, r, _, dx, _, .ref b, rfl, h1', T.cl_State, T.n_State_holds, (by kernel_rfl), _, rfl, r, _, dx, _, .ref e, rfl, h1', T.cl_State, T.n_State_shelf, (by kernel_rfl), (by show 4 ≤ sizeLine; decide), fun p hp => ?_⟩
    have B1 := (Pt.start hGH).new hp (.tup [.ref c, .ref n, .ref b, .ref e])
    have S1 := same_new (o := .tup [.ref c, .ref n, .ref b, .ref e]) (Same.free hGH hp)
    exact k _ _ _ B1.ext B1.sm ⟨p, rfl, .tup (SqT.of upd_same) (.cons (.tup (Same.seqT S1 h2) (nats_D' _)) (.cons (.tup (Same.seqT S1 h3) (nats_D' _)) (.cons (.tup (Same.seqT S1 h4) (bools_D _)) (.cons (.tup (Same.seqT S1 h5) (nats_D' _)) .nil))))⟩
theorem ok_first_state (T : Txt K mg a) : FnOk P w K mg base CX0 3 a.f_first_state a.d_first_state ["parsed"] (spFirst a K) := by
  refine T.F_first_state.ok sc_first_state (fun vs H Q E h => ?_) (fun cdv A outer s H vs Q E hr h => ?_)
  · obtain ⟨⟨G, v, x, rfl, _⟩⟩ := h
    rfl
  · obtain ⟨⟨G, v, x, rfl, ⟨r, dx, sh, rl, r1, r2, rfl, h1, h2, h3, h4, h5⟩, hGH, k⟩⟩ := h
    refine ⟨_, (pss_one (ps_ret (pe_make T.mk_State (ok_State_init T) (hr.mono (by decide)) (by rfl) T.m_State (b_State_init T) .nil pass0 (pa_cons (pe_callTy call_tuple_of (by rfl) T.z_tuple (by decide +kernel) (pa_cons (pe_lc (own := [("robot", 1)]) (g := gName 1) (te := (tFld K (tVar 1) "start")) (tt := tYes) rfl sc_first_state.nd (pi_list (pe_fld (pv 0) rfl)) (blkOk_by (own := [("robot", 1)]) (N := ["parsed", "robot"]) (sc := (defScope s_first_state)) (by decide +kernel)) (fun _ _ _ _ _ => (pg_name (i := 1) sc_first_state.nd rfl (Or.inl rfl))) (fun _ _ _ _ _ => pts_nil) (fun _ _ _ _ _ => by exact (pe_fld (pv 1) rfl))) pa_nil)) (pa_cons (pe_tup (pa_cons pe_int (pa_cons pe_int pa_nil))) (pa_cons (pe_tup (pa_cons pe_bl (pa_cons pe_bl pa_nil))) (pa_cons (pe_fld (pv 0) rfl) pa_nil))))))), ?_⟩
    obtain ⟨q1, dq1, sl1, nl1, rfl, hq1, _⟩ := h4
    obtain ⟨q2, dq2, sl2, nl2, rfl, hq2, _⟩ := h5
    refine ⟨_, rfl, r, _, dx, _, .ref rl, rfl, hGH _ _ h1, T.cl_Plan, T.n_Plan_robots, (by kernel_rfl), rl, rfl, ⟨_, hGH.seq h3⟩, fun D hD => ?_⟩
    refine lc_list (K := K) (a := rl) (xs := [.ref q1, .ref q2]) (fun j H' => Pt G H G H' ∧ H' D = some (.lst (([.int x.a, .int x.b] : List V).take j)))
      ⟨(Pt.start hGH).lay hD _, upd_same⟩ (fun j H' _ ⟨p1, _⟩ => (hGH.trans p1.sm).seq h3) ?_ ?_
    · rintro j y H' hy ⟨p1, hD'⟩
      match j, hy with
      | 0, hy =>
        cases hy
        refine ⟨rfl, _, rfl, q1, _, dq1, _, .int x.a, rfl, p1.sm _ _ (hGH _ _ hq1), T.cl_Robot, T.n_Robot_start, (by kernel_rfl), ?_⟩
        exact ⟨_, hD', smaller 2 (by simp) (by decide), p1.put hD (Same.free hGH hD) _, upd_same⟩
      | 1, hy =>
        cases hy
        refine ⟨rfl, _, rfl, q2, _, dq2, _, .int x.b, rfl, p1.sm _ _ (hGH _ _ hq2), T.cl_Robot, T.n_Robot_start, (by kernel_rfl), ?_⟩
        exact ⟨_, hD', smaller 2 (by simp) (by decide), p1.put hD (Same.free hGH hD) _, upd_same⟩
      | j + 2, hy => simp at hy
    rintro H1 ⟨p1, hD1⟩
    refine ⟨D, _, rfl, .inl ⟨SqL.of hD1, fun tc htc => ?_⟩⟩
    have B1 := p1.new htc (.tup [.int x.a, .int x.b])
    refine ⟨(by show 2 ≤ sizeLine; decide), fun tn htn => ?_⟩
    have B2 := B1.new htn (.tup [.int 0, .int 0])
    refine ⟨(by show 2 ≤ sizeLine; decide), fun tb htb => ?_⟩
    have B3 := B2.new htb (.tup [.bl false, .bl false])
    refine ⟨_, rfl, r, _, dx, _, .ref sh, rfl, (B3.g.trans B3.s) _ _ h1, T.cl_Plan, T.n_Plan_shelf, (by kernel_rfl), ?_⟩
    intro y dy ny nd ne
    refine init_go2 rfl ⟨rfl, ?_⟩
    have B4 := B3.make ny nd ne (.ins a.C_State dy (stF tc tn tb sh))
    have g1 := same_new (o := .tup [.int x.a, .int x.b]) (p1.freeG htc)
    have g2 := same_new (o := .tup [.int 0, .int 0]) (B1.freeG htn)
    have g3 := same_new (o := .tup [.bl false, .bl false]) (B2.freeG htb)
    have g4 := same_make (B3.freeG ny) (B3.freeG nd) ne (.ins a.C_State dy (stF tc tn tb sh))
    exact k _ _ _ B4.ext B4.sm ⟨y, dy, tc, tn, tb, sh, rfl, upd_same, Same.seqT ((g2.trans g3).trans g4) (SqT.of upd_same), Same.seqT (g3.trans g4) (SqT.of upd_same), Same.seqT g4 (SqT.of upd_same), Same.seqT (((g1.trans g2).trans g3).trans g4) h2⟩
end
end Sb

namespace Sb
open PySem PySem.Spec PyProof.Rows L2 TL
theorem lr_mem : ∀ {w : Nat}, w < 8 → decide (wS w ∈ ([Str.ofString "left"] ++ [Str.ofString "right"] : List Str)) = decide (w < 2) := by
  have h : ∀ w : _root_.Fin 8, decide (wS w.val ∈ ([Str.ofString "left"] ++ [Str.ofString "right"] : List Str)) = decide (w.val < 2) := by decide +kernel
  exact fun {w} hw => h ⟨w, hw⟩
theorem pick_mem : ∀ {w : Nat}, w < 8 → decide (wS w ∈ [Str.ofString "pick"]) = decide (w = 2) := by
  have h : ∀ w : _root_.Fin 8, decide (wS w.val ∈ [Str.ofString "pick"]) = decide (w.val = 2) := by decide +kernel
  exact fun {w} hw => h ⟨w, hw⟩
theorem put_mem : ∀ {w : Nat}, w < 8 → decide (wS w ∈ [Str.ofString "put"]) = decide (w = 3) := by
  have h : ∀ w : _root_.Fin 8, decide (wS w.val ∈ [Str.ofString "put"]) = decide (w.val = 3) := by decide +kernel
  exact fun {w} hw => h ⟨w, hw⟩
theorem nV_flat (l : List Nat) : (nV l).all flatV = true := by
  rw [List.all_eq_true]
  intro v hv
  obtain ⟨n, _, rfl⟩ := List.mem_map.mp hv
  rfl
theorem modn (n m : Nat) : ((n : Int) + 1) % (m : Int) = (((n + 1) % m : Nat) : Int) := by
  rw [Int.natCast_emod]
  push_cast
  rfl
structure spAct (a : Ad) (K : PySem.W.Frag) (vs : List V) (H : Hp) (Q : VK) (E : XK) : Prop where
  ex : ∃ (G : Hp) (v u : V) (x : Pl) (s : Sit) (i : Nat), vs = [v, u, .int i] ∧ PlanAt a K G v x ∧ StateAt a K G u s ∧ x.Ok ∧ SitOk x s ∧ i < 2 ∧ Pure G H Q fun G' v => ∃ t u', v = .ref t ∧ SqT K G' t [.str (doS (actP x s i).1), u'] ∧ StateAt a K G' u' (actP x s i).2
structure spNext (a : Ad) (K : PySem.W.Frag) (vs : List V) (H : Hp) (Q : VK) (E : XK) : Prop where
  ex : ∃ (G : Hp) (v u : V) (x : Pl) (s : Sit), vs = [v, u] ∧ PlanAt a K G v x ∧ StateAt a K G u s ∧ x.Ok ∧ SitOk x s ∧ Pure G H Q fun G' v => TickAt a K G' v (tickP x s).1 (tickP x s).2
section
variable {P : Program} {w : World} {K : PySem.W.Frag} {mg : Str → Option Value} {base : Heap} {a : Ad}
theorem ok_act (T : Txt K mg a) : FnOk P w K mg base CX0 3 a.f_act a.d_act ["parsed", "state", "number"] (spAct a K) := by
  refine T.F_act.ok sc_act (fun vs H Q E h => ?_) (fun cdv A outer s0 H vs Q E hr h => ?_)
  · obtain ⟨⟨G, v, u, x, s, i, rfl, _⟩⟩ := h
    rfl
  · obtain ⟨⟨G, v, u, x, s, i, rfl, hp, hu, hx, ho, hi, hGH, k⟩⟩ := h
    refine ⟨_, (pss_cons (ps_set (i := 3) sc_act.nd rfl (Or.inl rfl) (pe_ix ix_list (pe_fld (pv 0) rfl) (pv 2) (fun _ _ => rfl)))
      (pss_cons (ps_set (i := 4) sc_act.nd rfl (Or.inl rfl) (pe_ix ix_tup (pe_fld (pv 1) rfl) (pv 2) (fun _ _ => rfl)))
      (pss_cons (ps_asg (pe_ix ix_list (pe_fld (pv 3) rfl) (pv 4) (fun _ _ => rfl)) (pg_tup (by rfl) (pgs_cons (pg_name (i := 5) sc_act.nd rfl (Or.inl rfl)) (pgs_cons (pg_name (i := 6) sc_act.nd rfl (Or.inl rfl)) pgs_nil))))
      (pss_cons (ps_par3 (i := 7) (j := 8) (l := 9) (by rfl) sc_act.nd rfl rfl rfl (by decide) (by decide) (by decide) rfl rfl rfl (pa_cons (pe_ix ix_tup (pe_fld (pv 1) rfl) (pv 2) (fun _ _ => rfl)) (pa_cons (pe_ix ix_tup (pe_fld (pv 1) rfl) (pv 2) (fun _ _ => rfl)) (pa_cons (pe_fld (pv 1) rfl) pa_nil))) (by rfl))
      (pss_cons (ps_matchS (pv 5) (cases_cons (pat_or pat_val pat_val) (pss_cons (ps_set (i := 10) sc_act.nd rfl (Or.inl rfl) (pe_ifExp (pt_cmpR op_eq (pv 5) pe_str (nomark _)) (pe_op op_sub (pv 7) pe_int) (pe_op op_add (pv 7) pe_int)))
      (pss_cons (ps_if (PW.pt (pw_or (pt_not (pt_chain op_le op_lt pe_int (pv 10) (pe_callB call_len_seq (by rfl) T.z_len (by decide +kernel) (pa_cons (pv 9) pa_nil)))) (pw_or1 (pt_cmpR op_in_seq (pv 10) (pe_fld (pv 1) rfl) rfl)))) (pss_one (ps_ret (pe_tup (pa_cons (pe_glob (v := V.str (Str.ofString "blocked")) rfl T.c_BLOCKED ⟨_, rfl⟩) (pa_cons (pv 1) pa_nil))))) pss_nil)
      (pss_one (ps_set (i := 7) sc_act.nd rfl (Or.inl rfl) (pv 10))))) (cases_cons pat_val (pss_cons (ps_if (PW.pt (pw_or (pt_val (pv 8)) (pw_or1 (pt_cmpR op_eq (pe_ix ix_tup (pv 9) (pv 7) (fun _ _ => rfl)) pe_int (nomark _))))) (pss_one (ps_ret (pe_tup (pa_cons (pe_glob (v := V.str (Str.ofString "blocked")) rfl T.c_BLOCKED ⟨_, rfl⟩) (pa_cons (pv 1) pa_nil))))) pss_nil)
      (pss_one (ps_par (i := 8) (j := 9) (by rfl) sc_act.nd rfl rfl (by decide) rfl rfl (pa_cons pe_bl (pa_cons (pe_call (ok_replaced T) (hr.mono (by decide)) rfl T.m_replaced T.F_replaced.kp (b_replaced T) .nil pass0 (pa_cons (pv 9) (pa_cons (pv 7) (pa_cons (pe_op op_sub (pe_ix ix_tup (pv 9) (pv 7) (fun _ _ => rfl)) pe_int) pa_nil)))) pa_nil)) (by rfl)))) (cases_cons pat_val (pss_cons (ps_if (PW.pt (pw_or (pt_not (pt_val (pv 8))) (pw_or1 (pt_cmpR op_eq (pe_ix ix_tup (pv 9) (pv 7) (fun _ _ => rfl)) (pe_glob (v := V.int 3) rfl T.c_MAX_BOXES ⟨_, rfl⟩) (nomark _))))) (pss_one (ps_ret (pe_tup (pa_cons (pe_glob (v := V.str (Str.ofString "blocked")) rfl T.c_BLOCKED ⟨_, rfl⟩) (pa_cons (pv 1) pa_nil))))) pss_nil)
      (pss_one (ps_par (i := 8) (j := 9) (by rfl) sc_act.nd rfl rfl (by decide) rfl rfl (pa_cons pe_bl (pa_cons (pe_call (ok_replaced T) (hr.mono (by decide)) rfl T.m_replaced T.F_replaced.kp (b_replaced T) .nil pass0 (pa_cons (pv 9) (pa_cons (pv 7) (pa_cons (pe_op op_add (pe_ix ix_tup (pv 9) (pv 7) (fun _ _ => rfl)) pe_int) pa_nil)))) pa_nil)) (by rfl)))) cases_nil))))
      (pss_cons (ps_set (i := 11) sc_act.nd rfl (Or.inl rfl) (pe_or (pe_cmpR op_eq (pv 5) pe_str (nomark _)) (pe_or (pe_and (pe_cmpR op_eq (pv 5) pe_str (nomark _)) (pe_one (pe_cmpR op_eq (pe_ix ix_tup (pv 9) (pv 7) (fun _ _ => rfl)) pe_int (nomark _)))) (pe_one (pe_and (pe_cmpR op_eq (pv 5) pe_str (nomark _)) (pe_one (pv 8)))))))
      (pss_cons (ps_set (i := 10) sc_act.nd rfl (Or.inl rfl) (pe_ifExp (pt_val (pv 11)) (pv 6) (pe_op op_mod (pe_op op_add (pv 4) pe_int) (pe_callB call_len_seq (by rfl) T.z_len (by decide +kernel) (pa_cons (pe_fld (pv 3) rfl) pa_nil)))))
      (pss_cons (ps_par (i := 12) (j := 13) (by rfl) sc_act.nd rfl rfl (by decide) rfl rfl (pa_cons (pe_call (ok_replaced T) (hr.mono (by decide)) rfl T.m_replaced T.F_replaced.kp (b_replaced T) .nil pass0 (pa_cons (pe_fld (pv 1) rfl) (pa_cons (pv 2) (pa_cons (pv 7) pa_nil)))) (pa_cons (pe_call (ok_replaced T) (hr.mono (by decide)) rfl T.m_replaced T.F_replaced.kp (b_replaced T) .nil pass0 (pa_cons (pe_fld (pv 1) rfl) (pa_cons (pv 2) (pa_cons (pv 8) pa_nil)))) pa_nil)) (by rfl))
      (pss_one (ps_ret (pe_tup (pa_cons (pv 5) (pa_cons (pe_make T.mk_State (ok_State_init T) (hr.mono (by decide)) (by rfl) T.m_State (b_State_init T) .nil pass0 (pa_cons (pv 12) (pa_cons (pe_call (ok_replaced T) (hr.mono (by decide)) rfl T.m_replaced T.F_replaced.kp (b_replaced T) .nil pass0 (pa_cons (pe_fld (pv 1) rfl) (pa_cons (pv 2) (pa_cons (pv 10) pa_nil)))) (pa_cons (pv 13) (pa_cons (pv 9) pa_nil))))) pa_nil))))))))))))), ?_⟩
    obtain ⟨r, dx, sh, rl, r1, r2, rfl, hr1, hsh, hrl, hb1, hb2⟩ := hp
    obtain ⟨sa, ds, sc, sn, sb, se, rfl, hs0, hsc, hsn, hsb, hse⟩ := id hu
    obtain ⟨q, dq, sl, nl, hq1, hq, hsl⟩ : ∃ (q dq sl nl : Addr), ([r1, r2] : List V)[i]? = some (.ref q) ∧ (∃ n, G q = some (.ins a.C_Robot dq (robF n sl nl))) ∧ Dp K G (.ref sl) (stepsD (stepsOf x i)) := by
      match i, hi with
      | 0, _ =>
        obtain ⟨q, dq, sl, nl, rfl, h1, h2⟩ := hb1
        exact ⟨q, dq, sl, nl, rfl, ⟨_, h1⟩, h2⟩
      | 1, _ =>
        obtain ⟨q, dq, sl, nl, rfl, h1, h2⟩ := hb2
        exact ⟨q, dq, sl, nl, rfl, ⟨_, h1⟩, h2⟩
    obtain ⟨nq, hq⟩ := hq
    obtain ⟨sl', xsi, esl, hsi, hdi⟩ := Dp.lst_inv hsl
    cases esl
    obtain ⟨est, _⟩ := st_mem ho hi
    have sok := st_ok hx ho hi
    have nl' := ho.nl i hi
    have cl := ho.cl i hi
    obtain ⟨y, hy, hDy⟩ := DpAll.at hdi (i := s.ns.getD i 0) (d := (stOf x s i).D) (by rw [List.getElem?_map, est]; rfl)
    obtain ⟨tt, g, rfl, htt, hg⟩ := step_inv hDy
    have w8 := sok.w8
    have ic : i < s.cs.length := by rw [ho.c2]; exact hi
    have in_ : i < s.ns.length := by rw [ho.n2]; exact hi
    have ih : i < s.hs.length := by rw [ho.h2]; exact hi
    have l12 : s.sh.length ≤ 12 := by rw [ho.len]; exact hx.c12
    -- robot, at, word, goal
    refine ⟨_, rfl, r, _, dx, _, .ref rl, rfl, hGH _ _ hr1, T.cl_Plan, T.n_Plan_robots, (by kernel_rfl), _, rfl, rl, _, _, .ref q, rfl, rfl, hGH.seq hrl, at_of (j := i) rfl hq1, ?_⟩
    refine ⟨_, rfl, sa, _, ds, _, .ref sn, rfl, hGH _ _ hs0, T.cl_State, T.n_State_nexts, (by kernel_rfl), _, rfl, sn, _, _, .int (s.ns.getD i 0 : Nat), rfl, rfl, Same.seqT hGH hsn, at_of (j := i) rfl (nV_at in_), ?_⟩
    refine ⟨_, rfl, q, _, dq, _, .ref sl, rfl, hGH _ _ hq, T.cl_Robot, T.n_Robot_steps, (by kernel_rfl), _, rfl, sl, _, _, .ref tt, rfl, rfl, hGH.seq hsi, at_of (j := s.ns.getD i 0) rfl hy, tt, _, rfl, Same.seqT hGH htt, rfl, _, _, rfl, _, _, rfl, rfl, ?_⟩
    -- cell, held, shelf
    refine ⟨_, rfl, sa, _, ds, _, .ref sc, rfl, hGH _ _ hs0, T.cl_State, T.n_State_cells, (by kernel_rfl), _, rfl, sc, _, _, .int (cOf s i : Nat), rfl, rfl, Same.seqT hGH hsc, at_of (j := i) rfl (nV_at ic), ?_⟩
    refine ⟨_, rfl, sa, _, ds, _, .ref sb, rfl, hGH _ _ hs0, T.cl_State, T.n_State_holds, (by kernel_rfl), _, rfl, sb, _, _, .bl (s.hs.getD i false), rfl, rfl, Same.seqT hGH hsb, at_of (j := i) rfl (bV_at ih), ?_⟩
    refine ⟨_, rfl, sa, _, ds, _, .ref se, rfl, hGH _ _ hs0, T.cl_State, T.n_State_shelf, (by kernel_rfl), _, _, _, rfl, ?_⟩
    dsimp only
    have blk : actP x s i = (8, s) → ∀ G1 H', Pt G H G1 H' → (2 ≤ sizeLine ∧ ∀ p, H' p = none → Q (.ref p) (upd H' p (.tup [.str (Str.ofString "blocked"), .ref sa]))) := fun e G1 H' p' => by
      refine ⟨by decide, fun p hp' => ?_⟩
      have p2 := p'.new hp' (.tup [.str (Str.ofString "blocked"), .ref sa])
      refine k _ _ _ p2.ext p2.sm ?_
      rw [e]
      exact ⟨p, _, rfl, SqT.of upd_same, hu.mono (p'.g.trans (same_new (p'.freeG hp')))⟩
    let Pk : L2.St → Hp → Prop := fun σ H' => ∃ (v10 : Option V) (cn : Nat) (hn : Bool) (e : Addr) (sh' : List Nat) (G1 : Hp), σ = [some (.ref r), some (.ref sa), some (.int i), some (.ref q), some (.int (s.ns.getD i 0 : Nat)), some (.str (wS (stOf x s i).w)), some g, some (.int (cn : Nat)), some (.bl hn), some (.ref e), v10, none, none, none] ∧
      Pt G H G1 H' ∧ SqT K G1 e (nV sh') ∧ sh'.length = s.sh.length ∧ cn < s.sh.length ∧ (5 ≤ (stOf x s i).w → cn = cOf s i) ∧ actP x s i = finP x s i (s.cs.set i cn) (s.hs.set i hn) sh'
    have B0 := Pt.start hGH
    have hset : s.hs = s.hs.set i (s.hs.getD i false) := set_same.symm
    have cset : s.cs = s.cs.set i (cOf s i) := set_same.symm
    refine seq_restσ Pk (fun σ H' hP => ?_) (fun rest => ?m4)
    case m4 =>
      refine ⟨_, rfl, _, rfl, ?_⟩
      rw [lr_mem w8]
      refine ite2 (fun c2 => ?_) (fun c2 => ?_)
      · have hw2 : (stOf x s i).w < 2 := of_decide_eq_true c2
        refine seq_restσ (fun σ H' => ∃ (z : Int) (c' : Nat), σ = [some (.ref r), some (.ref sa), some (.int i), some (.ref q), some (.int (s.ns.getD i 0 : Nat)), some (.str (wS (stOf x s i).w)), some g, some (.int (cOf s i : Nat)), some (.bl (s.hs.getD i false)), some (.ref se), some (.int z), none, none, none] ∧ H = H' ∧
          ((z < 0 ∧ actP x s i = (8, s)) ∨ (z = (c' : Int) ∧ actP x s i = if s.sh.length ≤ c' ∨ c' ∈ s.cs then (8, s) else finP x s i (s.cs.set i c') s.hs s.sh))) (fun σ H' hz => ?r1) (fun rest1 => ?m1)
        case m1 =>
          refine ⟨_, rfl, rfl, _, rfl, ite_w 0 w8 (fun hw => ?_) (fun hw => ?_)⟩
          · refine ⟨_, rfl, _, _, rfl, rfl, rest1 _ _ ⟨_, cOf s i - 1, rfl, rfl, ?_⟩⟩
            have ea := act_left hw
            by_cases hc0 : cOf s i = 0
            · rw [if_pos (.inl hc0)] at ea
              exact .inl ⟨by omega, ea⟩
            · refine .inr ⟨by omega, ?_⟩
              rw [ea]
              have : ¬ s.sh.length ≤ cOf s i - 1 := by unfold cOf; omega
              simp only [hc0, this, false_or]
          · refine ⟨_, rfl, _, _, rfl, rfl, rest1 _ _ ⟨_, cOf s i + 1, rfl, rfl, ?_⟩⟩
            exact .inr ⟨by omega, act_right (by omega)⟩
        obtain ⟨z, c', rfl, rfl, hz⟩ := hz
        have esh : (((nV s.sh).length : Nat) : Int) = (s.sh.length : Int) := by rw [List.length_map]
        refine ⟨_, rfl, _, _, rfl, rfl, _, rfl, ite2 (fun d0 => ?_) (fun d0 => ?_)⟩
        · have d0' : (0 : Int) ≤ z := of_decide_eq_true d0
          rcases hz with ⟨hz, _⟩ | ⟨rfl, ea⟩
          · omega
          refine ⟨_, rfl, se, _, rfl, .inr (Same.seqT hGH hse), _, _, rfl, rfl, _, rfl, ?_⟩
          rw [esh]
          refine ite2 (fun d1 => ?_) (fun d1 => ?_)
          · have d1' : ¬ (c' : Int) < (s.sh.length : Int) := by simpa using d1
            rw [if_pos (.inl (by omega))] at ea
            exact ite_t rfl ⟨_, rfl, blk ea _ _ B0⟩
          · have d1' : (c' : Int) < (s.sh.length : Int) := by simpa using d1
            refine ⟨_, rfl, _, rfl, sa, _, ds, _, .ref sc, rfl, hGH _ _ hs0, T.cl_State, T.n_State_cells, (by kernel_rfl), sc, _, rfl, .inr (Same.seqT hGH hsc), rfl, nV_flat _, _, rfl, ?_⟩
            rw [if_neg Bool.false_ne_true, in_nats]
            refine ite2 (fun d2 => ?_) (fun d2 => ?_)
            · rw [if_pos (.inr (of_decide_eq_true d2))] at ea
              exact ⟨_, rfl, blk ea _ _ B0⟩
            · have d2' : ¬ c' ∈ s.cs := fun z => d2 (decide_eq_true z)
              rw [if_neg (by simp only [not_or]; exact ⟨by omega, d2'⟩), hset] at ea
              exact ⟨_, rfl, rest _ _ ⟨_, c', _, se, s.sh, G, rfl, B0, hse, rfl, by omega, fun h => by omega, ea⟩⟩
        · rcases hz with ⟨_, ea⟩ | ⟨hz, _⟩
          · exact ⟨_, rfl, ite_t rfl (ite_t rfl ⟨_, rfl, blk ea _ _ B0⟩)⟩
          · exact absurd (decide_eq_true (by omega)) d0
      have hw2 : ¬ (stOf x s i).w < 2 := fun z => c2 (decide_eq_true z)
      rw [pick_mem w8]
      refine ite2 (fun c2 => ?_) (fun c2 => ?_)
      · have hw : (stOf x s i).w = 2 := of_decide_eq_true c2
        have ea := act_pick hw
        refine ⟨_, rfl, _, rfl, ?_⟩
        refine ite_b (fun c1 => ?_) (fun c1 => ?_)
        · rw [if_pos (.inl c1)] at ea
          exact ite_t rfl ⟨_, rfl, blk ea _ _ B0⟩
        · refine ⟨_, rfl, _, rfl, se, _, _, .int (s.sh.getD (cOf s i) 0 : Nat), rfl, rfl, Same.seqT hGH hse, at_of (j := cOf s i) rfl (nV_at cl), rfl, _, rfl, ?_⟩
          refine ite2 (fun c2 => ?_) (fun c2 => ?_)
          · have c2' : s.sh.getD (cOf s i) 0 = 0 := by have := of_decide_eq_true c2; injection this; omega
            rw [if_pos (.inr c2')] at ea
            exact ⟨_, rfl, blk ea _ _ B0⟩
          · have c2' : ¬ s.sh.getD (cOf s i) 0 = 0 := fun q => c2 (decide_eq_true (by rw [q]; rfl))
            rw [if_neg (by rw [c1]; simp only [Bool.false_eq_true, false_or]; exact c2')] at ea
            refine ⟨_, rfl, _, rfl, _, rfl, _, rfl, se, _, _, .int (s.sh.getD (cOf s i) 0 : Nat), rfl, rfl, Same.seqT hGH hse, at_of (j := cOf s i) rfl (nV_at cl), _, _, rfl, rfl, ?_⟩
            refine replaced_go B0 hse (by rw [List.length_map]; exact cl) (by rw [List.length_map]; omega) fun e' G1 H1 B1 S1 h1 => ?_
            have e1 : ((s.sh.getD (cOf s i) 0 : Nat) : Int) - 1 = ((s.sh.getD (cOf s i) 0 - 1 : Nat) : Int) := by omega
            dsimp only at h1
            rw [e1, nV_set] at h1
            rw [cset] at ea
            exact ⟨_, _, rfl, rest _ _ ⟨_, cOf s i, true, e', _, G1, rfl, B1, h1, by rw [List.length_set], cl, fun _ => rfl, ea⟩⟩
      have hw3 : ¬ (stOf x s i).w = 2 := fun z => c2 (decide_eq_true z)
      rw [put_mem w8]
      refine ite2 (fun c2 => ?_) (fun c2 => ?_)
      · have hw : (stOf x s i).w = 3 := of_decide_eq_true c2
        have ea := act_put hw
        have b3 : s.sh.getD (cOf s i) 0 ≤ 3 := by
          have cl' : cOf s i < s.sh.length := cl
          rw [List.getD_eq_getElem?_getD, List.getElem?_eq_getElem cl']
          exact ho.b3 _ (List.getElem_mem _)
        refine ⟨_, rfl, _, rfl, ?_⟩
        cases c1 : s.hs.getD i false with
        | false =>
          rw [if_pos (.inl c1)] at ea
          exact ite_t rfl (ite_t rfl ⟨_, rfl, blk ea _ _ B0⟩)
        | true =>
          refine ite_f rfl ⟨_, rfl, _, rfl, se, _, _, .int (s.sh.getD (cOf s i) 0 : Nat), rfl, rfl, Same.seqT hGH hse, at_of (j := cOf s i) rfl (nV_at cl), rfl, _, rfl, ?_⟩
          refine ite2 (fun c2 => ?_) (fun c2 => ?_)
          · have c2' : s.sh.getD (cOf s i) 0 = 3 := by have := of_decide_eq_true c2; injection this; omega
            rw [if_pos (.inr (by omega))] at ea
            exact ⟨_, rfl, blk ea _ _ B0⟩
          · have c2' : ¬ s.sh.getD (cOf s i) 0 = 3 := fun q => c2 (decide_eq_true (by rw [q]; rfl))
            rw [if_neg (by rw [c1]; simp only [Bool.true_eq_false, false_or]; omega)] at ea
            refine ⟨_, rfl, _, rfl, _, rfl, _, rfl, se, _, _, .int (s.sh.getD (cOf s i) 0 : Nat), rfl, rfl, Same.seqT hGH hse, at_of (j := cOf s i) rfl (nV_at cl), _, _, rfl, rfl, ?_⟩
            refine replaced_go B0 hse (by rw [List.length_map]; exact cl) (by rw [List.length_map]; omega) fun e' G1 H1 B1 S1 h1 => ?_
            have e1 : ((s.sh.getD (cOf s i) 0 : Nat) : Int) + 1 = ((s.sh.getD (cOf s i) 0 + 1 : Nat) : Int) := by omega
            dsimp only at h1
            rw [e1, nV_set] at h1
            rw [cset] at ea
            exact ⟨_, _, rfl, rest _ _ ⟨_, cOf s i, false, e', _, G1, rfl, B1, h1, by rw [List.length_set], cl, fun _ => rfl, ea⟩⟩
      have hw4 : ¬ (stOf x s i).w = 3 := fun z => c2 (decide_eq_true z)
      have ea := act_else (x := x) (s := s) (i := i) (by omega)
      rw [cset, hset] at ea
      exact rest _ _ ⟨_, cOf s i, _, se, s.sh, G, rfl, B0, hse, rfl, cl, fun _ => rfl, ea⟩
    obtain ⟨v10, cn, hn, e, sh', G1, rfl, B1, he, hl', hcn, hc5, ea⟩ := hP
    have hcn' : cn < sh'.length := by rw [hl']; exact hcn
    have hgetD : (s.hs.set i hn).getD i false = hn := by rw [getD_set ih, if_pos rfl]
    have s1 : Same G H' := B1.g.trans B1.s
    -- is_jump
    refine seq_restσ (fun σ H1 => H' = H1 ∧ σ = [some (.ref r), some (.ref sa), some (.int i), some (.ref q), some (.int (s.ns.getD i 0 : Nat)), some (.str (wS (stOf x s i).w)), some g, some (.int (cn : Nat)), some (.bl hn), some (.ref e), v10, some (.bl (decide (jumpP x s i (s.hs.set i hn) sh'))), none, none]) (fun σ H1 hP => ?_) (fun rest => ?m7)
    case m7 =>
      have fin : ∀ bv : Bool, bv = decide (jumpP x s i (s.hs.set i hn) sh') → _ := fun bv hbv => rest ([some (.ref r), some (.ref sa), some (.int i), some (.ref q), some (.int (s.ns.getD i 0 : Nat)), some (.str (wS (stOf x s i).w)), some g, some (.int (cn : Nat)), some (.bl hn), some (.ref e), v10, some (.bl bv), none, none]) _ ⟨rfl, by rw [hbv]⟩
      refine ⟨_, rfl, rfl, _, rfl, ite_w 5 w8 (fun hw => ?_) (fun hw => ?_)⟩
      · exact fin true (decide_eq_true (show jumpP x s i (s.hs.set i hn) sh' from .inl hw)).symm
      refine ⟨_, rfl, rfl, _, rfl, ite_w 6 w8 (fun h6 => ?_) (fun h6 => ?_)⟩
      · have ecn := hc5 (by omega)
        refine ⟨_, rfl, _, rfl, e, _, _, .int (sh'.getD cn 0 : Nat), rfl, rfl, Same.seqT B1.s he, at_of (j := cn) rfl (nV_at hcn'), rfl, _, rfl, ?_⟩
        refine ite2 (fun c2 => ?_) (fun c2 => ?_)
        · have c2' : sh'.getD cn 0 = 0 := by have := of_decide_eq_true c2; injection this; omega
          exact fin true (decide_eq_true (show jumpP x s i (s.hs.set i hn) sh' from .inr (.inl ⟨h6, by rw [← ecn]; exact c2'⟩))).symm
        · have c2' : ¬ sh'.getD cn 0 = 0 := fun q => c2 (decide_eq_true (by rw [q]; rfl))
          refine ⟨_, rfl, rfl, _, rfl, ite_w 7 w8 (fun h7 => by omega) (fun h7 => ?_)⟩
          exact fin false (decide_eq_false (show ¬ jumpP x s i (s.hs.set i hn) sh' from fun z => by rcases z with z | z | z; exact hw z; exact c2' (by rw [ecn]; exact z.2); exact h7 z.1)).symm
      · refine ⟨_, rfl, ite_f rfl ⟨_, rfl, rfl, _, rfl, ite_w 7 w8 (fun h7 => ?_) (fun h7 => ?_)⟩⟩
        · refine ⟨_, rfl, fin _ ?_⟩
          have e1 : hn = decide ((s.hs.set i hn).getD i false = true) := by rw [hgetD]; simp
          exact e1.trans (decide_eq_decide.mpr ⟨fun z => .inr (.inr ⟨h7, z⟩), fun z => by rcases z with z | z | z; exact absurd z hw; exact absurd z.1 h6; exact z.2⟩)
        · exact fin false (decide_eq_false (show ¬ jumpP x s i (s.hs.set i hn) sh' from fun z => by rcases z with z | z | z; exact hw z; exact h6 z.1; exact h7 z.1)).symm
    obtain ⟨rfl, rfl⟩ := hP
    -- later
    have lx : xsi.length = (stepsOf x i).length := by rw [DpAll.len hdi, List.length_map]
    have pos := (steps_ok hx i).pos
    refine seq_restσ (fun σ H1 => H' = H1 ∧ σ = [some (.ref r), some (.ref sa), some (.int i), some (.ref q), some (.int (s.ns.getD i 0 : Nat)), some (.str (wS (stOf x s i).w)), some g, some (.int (cn : Nat)), some (.bl hn), some (.ref e), some (.int (nextP x s i (s.hs.set i hn) sh' : Nat)), some (.bl (decide (jumpP x s i (s.hs.set i hn) sh'))), none, none]) (fun σ H1 hP => ?_) (fun rest => ?m8)
    case m8 =>
      have fin : ∀ nv : Int, nv = (nextP x s i (s.hs.set i hn) sh' : Nat) → _ := fun nv hnv => rest ([some (.ref r), some (.ref sa), some (.int i), some (.ref q), some (.int (s.ns.getD i 0 : Nat)), some (.str (wS (stOf x s i).w)), some g, some (.int (cn : Nat)), some (.bl hn), some (.ref e), some (.int nv), some (.bl (decide (jumpP x s i (s.hs.set i hn) sh'))), none, none]) _ ⟨rfl, by rw [hnv]⟩
      refine ⟨_, rfl, _, rfl, ite2 (fun c1 => ?_) (fun c1 => ?_)⟩
      · have hj : jumpP x s i (s.hs.set i hn) sh' := of_decide_eq_true c1
        have h5 : 5 ≤ (stOf x s i).w := by rcases hj with h | h | h <;> omega
        obtain ⟨kk, hk, _⟩ := sok.yes h5
        rcases hg with ⟨h1, _⟩ | ⟨k2, h1, rfl⟩
        · rw [h1] at hk; cases hk
        · refine ⟨_, rfl, fin k2 ?_⟩
          unfold nextP
          rw [if_pos hj, h1]
          rfl
      · have hj : ¬ jumpP x s i (s.hs.set i hn) sh' := fun q => c1 (decide_eq_true q)
        refine ⟨_, rfl, _, _, rfl, rfl, _, rfl, q, _, dq, _, .ref sl, rfl, s1 _ _ hq, T.cl_Robot, T.n_Robot_steps, (by kernel_rfl), sl, _, rfl, .inl (s1.seq hsi), _, _, rfl, rfl, ?_, fin _ ?_⟩
        · show (0 : Int) < ((xsi.length : Nat) : Int)
          omega
        · rw [lx, modn]
          unfold nextP
          rw [if_neg hj]
    obtain ⟨rfl, rfl⟩ := hP
    -- cells, holds
    have hl2 : ∀ {α : Type} {l : List α} (f : α → V), l.length = 2 → (l.map f).length ≤ 1000 := fun {α l} f h => by rw [List.length_map]; omega
    refine ⟨_, rfl, sa, _, ds, _, .ref sc, rfl, s1 _ _ hs0, T.cl_State, T.n_State_cells, (by kernel_rfl), _, rfl, _, rfl, ?_⟩
    refine replaced_go B1 (Same.seqT B1.g hsc) (by rw [List.length_map]; exact ic) (hl2 _ ho.c2) fun c2 G2 H2 B2 S2 h2 => ?_
    rw [nV_set] at h2
    have s2 : Same G H2 := B2.g.trans B2.s
    refine ⟨_, rfl, sa, _, ds, _, .ref sb, rfl, s2 _ _ hs0, T.cl_State, T.n_State_holds, (by kernel_rfl), _, rfl, _, rfl, ?_⟩
    refine replaced_go B2 (Same.seqT B2.g hsb) (by rw [List.length_map]; exact ih) (hl2 _ ho.h2) fun c3 G3 H3 B3 S3 h3 => ?_
    rw [bV_set] at h3
    have s3 : Same G H3 := B3.g.trans B3.s
    refine ⟨_, _, rfl, ?_⟩
    dsimp only
    refine ⟨_, rfl, _, rfl, _, rfl, sa, _, ds, _, .ref sn, rfl, s3 _ _ hs0, T.cl_State, T.n_State_nexts, (by kernel_rfl), _, rfl, _, rfl, ?_⟩
    refine replaced_go B3 (Same.seqT B3.g hsn) (by rw [List.length_map]; exact in_) (hl2 _ ho.n2) fun c4 G4 H4 B4 S4 h4 => ?_
    rw [nV_set] at h4
    refine ⟨_, rfl, _, rfl, ?_⟩
    intro y dy ny nd ne
    refine init_go2 rfl ⟨rfl, ?_⟩
    have B5 := B4.make ny nd ne (.ins a.C_State dy (stF c2 c4 c3 e))
    have g5 := same_make (B4.freeG ny) (B4.freeG nd) ne (.ins a.C_State dy (stF c2 c4 c3 e))
    refine ⟨(by show 2 ≤ sizeLine; decide), fun p hp => ?_⟩
    have B6 := B5.new hp (.tup [.str (wS (stOf x s i).w), .ref y])
    have g6 := same_new (o := .tup [.str (wS (stOf x s i).w), .ref y]) (B5.freeG hp)
    refine k _ _ _ B6.ext B6.sm ?_
    have ew : (actP x s i).1 = (stOf x s i).w := by rw [ea]; rfl
    rw [ew, doS_lt w8, ea]
    exact ⟨p, .ref y, rfl, SqT.of upd_same, y, dy, c2, c4, c3, e, rfl, g6 _ _ upd_same, Same.seqT (((S3.trans S4).trans g5).trans g6) h2, Same.seqT (g5.trans g6) h4, Same.seqT ((S4.trans g5).trans g6) h3, Same.seqT ((((S2.trans S3).trans S4).trans g5).trans g6) he⟩
theorem ok_next_tick (T : Txt K mg a) : FnOk P w K mg base CX0 5 a.f_next_tick a.d_next_tick ["parsed", "state"] (spNext a K) := by
  refine T.F_next_tick.ok sc_next_tick (fun vs H Q E h => ?_) (fun cdv A outer s0 H vs Q E hr h => ?_)
  · obtain ⟨⟨G, v, u, x, s, rfl, _⟩⟩ := h
    rfl
  · obtain ⟨⟨G, v, u, x, s, rfl, hp, hu, hx, ho, hGH, k⟩⟩ := h
    refine ⟨_, (pss_cons (ps_asg (pe_call (ok_act T) (hr.mono (by decide)) rfl T.m_act T.F_act.kp (b_act T) .nil pass0 (pa_cons (pv 0) (pa_cons (pv 1) (pa_cons pe_int pa_nil)))) (pg_tup (by rfl) (pgs_cons (pg_name (i := 2) sc_next_tick.nd rfl (Or.inl rfl)) (pgs_cons (pg_name (i := 1) sc_next_tick.nd rfl (Or.inl rfl)) pgs_nil))))
      (pss_cons (ps_asg (pe_call (ok_act T) (hr.mono (by decide)) rfl T.m_act T.F_act.kp (b_act T) .nil pass0 (pa_cons (pv 0) (pa_cons (pv 1) (pa_cons pe_int pa_nil)))) (pg_tup (by rfl) (pgs_cons (pg_name (i := 3) sc_next_tick.nd rfl (Or.inl rfl)) (pgs_cons (pg_name (i := 1) sc_next_tick.nd rfl (Or.inl rfl)) pgs_nil))))
      (pss_one (ps_ret (pe_make T.mk_Tick (ok_Tick_init T) (hr.mono (by decide)) (by rfl) T.m_Tick (b_Tick_init T) .nil pass0 (pa_cons (pe_tup (pa_cons (pv 2) (pa_cons (pv 3) pa_nil))) (pa_cons (pv 1) pa_nil))))))), ?_⟩
    refine ⟨_, rfl, _, rfl, ⟨⟨G, v, u, x, s, 0, rfl, hp, hu, hx, ho, by decide, hGH, fun G1 H1 v1 x1 s1 d1 => ?_⟩⟩⟩
    obtain ⟨t1, u1, rfl, ht1, hu1⟩ := d1
    have B1 := (Pt.start hGH).call x1 s1
    refine ⟨t1, _, rfl, Same.seqT B1.s ht1, rfl, _, _, rfl, _, _, rfl, rfl, ?_⟩
    have ho1 := act_ok hx ho (i := 0) (by decide)
    refine ⟨_, rfl, _, rfl, ⟨⟨G1, v, u1, x, _, 1, rfl, hp.mono B1.g, hu1, hx, ho1, by decide, B1.s, fun G2 H2 v2 x2 s2 d2 => ?_⟩⟩⟩
    obtain ⟨t2, u2, rfl, ht2, hu2⟩ := d2
    have B2 := B1.call x2 s2
    refine ⟨t2, _, rfl, Same.seqT B2.s ht2, rfl, _, _, rfl, _, _, rfl, rfl, ?_⟩
    refine ⟨_, rfl, _, rfl, (by show 2 ≤ sizeLine; decide), fun p hp => ?_⟩
    have B3 := B2.new hp (.tup [.str (doS (actP x s 0).1), .str (doS (actP x (actP x s 0).2 1).1)])
    refine ⟨_, rfl, ?_⟩
    intro y dy ny nd ne
    refine init_go2 rfl ⟨rfl, ?_⟩
    have B4 := B3.make ny nd ne (.ins a.C_Tick dy (tkF p u2))
    have g3 := same_new (o := .tup [.str (doS (actP x s 0).1), .str (doS (actP x (actP x s 0).2 1).1)]) (B2.freeG hp)
    have g4 := same_make (B3.freeG ny) (B3.freeG nd) ne (.ins a.C_Tick dy (tkF p u2))
    exact k _ _ _ B4.ext B4.sm ⟨y, dy, p, u2, rfl, upd_same, Same.seqT g4 (SqT.of upd_same), hu2.mono (g3.trans g4)⟩
end
end Sb

namespace Sb
open PySem PySem.Spec PyProof.Rows L2 TL
def stoF (l : Addr) (st : V) : List (Str × V) := [("ticks", .ref l), ("start", st)]
def wordsAt (x : Pl) (j : Nat) : Nat × Nat := (tickP x (sitAt x j)).1
def TicksAt (a : Ad) (K : PySem.W.Frag) (G : Hp) (vs : List V) (x : Pl) (n : Nat) : Prop := vs.length = n ∧ ∀ j, j < n → ∃ u, vs[j]? = some u ∧ TickAt a K G u (wordsAt x j) (sitAt x (j + 1))
theorem TicksAt.mono {a : Ad} {K : PySem.W.Frag} {G G' : Hp} {vs : List V} {x : Pl} {n : Nat} (m : Same G G') (h : TicksAt a K G vs x n) : TicksAt a K G' vs x n := ⟨h.1, fun j hj => by
  obtain ⟨u, h1, h2⟩ := h.2 j hj
  exact ⟨u, h1, h2.mono m⟩⟩
theorem TicksAt.snoc {a : Ad} {K : PySem.W.Frag} {G : Hp} {vs : List V} {x : Pl} {n : Nat} {v : V} (h : TicksAt a K G vs x n) (hv : TickAt a K G v (wordsAt x n) (sitAt x (n + 1))) : TicksAt a K G (vs ++ [v]) x (n + 1) := by
  refine ⟨by rw [List.length_append, h.1]; rfl, fun j hj => ?_⟩
  by_cases hjn : j < n
  · obtain ⟨u, h1, h2⟩ := h.2 j hjn
    exact ⟨u, by rw [List.getElem?_append_left (by rw [h.1]; exact hjn)]; exact h1, h2⟩
  · have : j = n := by omega
    subst this
    exact ⟨v, by rw [List.getElem?_append_right (by rw [h.1]; exact Nat.le_refl _), h.1, Nat.sub_self]; rfl, hv⟩
def StoryAt (a : Ad) (K : PySem.W.Frag) (G : Hp) (v : V) (x : Pl) (i n : Nat) : Prop := ∃ (y dy l : Addr) (vs : List V), v = .ref y ∧ G y = some (.ins a.C_Story dy (stoF l (.int i))) ∧ SqL K G l vs ∧ TicksAt a K G vs x n
theorem StoryAt.mono {a : Ad} {K : PySem.W.Frag} {G G' : Hp} {v : V} {x : Pl} {i n : Nat} (m : Same G G') (h : StoryAt a K G v x i n) : StoryAt a K G' v x i n := by
  obtain ⟨y, dy, l, vs, h0, h1, h2, h3⟩ := h
  exact ⟨y, dy, l, vs, h0, m _ _ h1, m.seq h2, h3.mono m⟩
structure spStoryInit (a : Ad) (K : PySem.W.Frag) (vs : List V) (H : Hp) (Q : VK) (E : XK) : Prop where
  ex : ∃ (y dy : Addr) (G : Hp) (v : V) (x : Pl) (i n : Nat), vs = [.ref y, v] ∧ H y = some (.ins a.C_Story dy []) ∧ G y = none ∧ Same G H ∧ PlanAt a K G v x ∧ x.Ok ∧ Cyc x i n ∧ n ≤ 20000 ∧
    ∀ (G' H' : Hp) (l : Addr) (vs : List V), Mv [y] G H G' H' → G' y = none → H' y = some (.ins a.C_Story dy (stoF l (.int i))) → SqL K G' l vs → TicksAt a K G' vs x n → Q .non H'
theorem stoF_put {l : Addr} {st st' : V} : putF "start" st' (stoF l st) = stoF l st' := by
  unfold stoF
  rw [putF, if_neg (by decide +kernel), putF, if_pos rfl]
theorem cyc_found {x : Pl} {i n j : Nat} (hc : Cyc x i n) (hj : j ≤ n) (h : ∃ m, m < j ∧ sitAt x m = sitAt x j) : j = n := by
  obtain ⟨m, h1, h2⟩ := h
  by_cases e : j = n
  · exact e
  · have := hc.nd m j (by omega) (by omega) h2
    omega
section
variable {P : Program} {w : World} {K : PySem.W.Frag} {mg : Str → Option Value} {base : Heap} {a : Ad}
theorem ok_Story_init (T : Txt K mg a) : FnOk P w K mg base CX0 7 a.f_Story_init a.d_Story_init ["self", "parsed"] (spStoryInit a K) := by
  refine T.F_Story_init.ok sc_Story_init (fun vs H Q E h => ?_) (fun cdv A outer s0 H vs Q E hr h => ?_)
  · obtain ⟨⟨y, dy, G, v, x, i, n, rfl, _⟩⟩ := h
    rfl
  · obtain ⟨⟨y, dy, G, v, x, i, n, rfl, hy, hyG, hGH, hp, hx, hc, hn, k⟩⟩ := h
    refine ⟨_, (pss_cons (ps_fld (pv 0) (pe_lst pa_nil) rfl)
      (pss_cons (ps_fld (pv 0) pe_non rfl)
      (pss_cons (ps_par (i := 2) (j := 3) (by rfl) sc_Story_init.nd rfl rfl (by decide) rfl rfl (pa_cons (pe_call (ok_first_state T) (hr.mono (by decide)) rfl T.m_first_state T.F_first_state.kp (b_first_state T) .nil pass0 (pa_cons (pv 1) pa_nil)) (pa_cons pe_dnewN pa_nil)) (by rfl))
      (pss_one (ps_while PassesOwn.never (pt_cmpR op_isN (pe_fld (pv 0) rfl) pe_non (nomark _)) (pss_one (ps_if (pt_cmpR (op_inN hr.units) (pe_prop (pv 2) T.cl_State T.P_State_key (ok_State_key T) (hr.mono (by decide)) (b_State_key T) .nil pass0 rfl) (pv 3) rfl) (pss_one (ps_fld (pv 0) (pe_dgetN hr.units (pv 3) (pe_prop (pv 2) T.cl_State T.P_State_key (ok_State_key T) (hr.mono (by decide)) (b_State_key T) .nil pass0 rfl) (fun _ _ => rfl)) rfl)) (pss_cons (ps_if (pt_cmpR op_eq (pe_callB call_len_seq (by rfl) T.z_len (by decide +kernel) (pa_cons (pe_fld (pv 0) rfl) pa_nil)) (pe_glob (v := V.int 20000) rfl T.c_MAX_STATES ⟨_, rfl⟩) (nomark _)) pss_never pss_nil)
      (pss_cons (ps_asg (pe_callB call_len_seq (by rfl) T.z_len (by decide +kernel) (pa_cons (pe_fld (pv 0) rfl) pa_nil)) (pg_sub (pv 3) (pe_prop (pv 2) T.cl_State T.P_State_key (ok_State_key T) (hr.mono (by decide)) (b_State_key T) .nil pass0 rfl) (set_newN hr.units)))
      (pss_cons (ps_expr (pe_bm PySem.F.plainAttrs_list PySem.F.slot_list_append PySem.F.type_list_append mt_append (pe_fld (pv 0) rfl) (pa_cons (pe_call (ok_next_tick T) (hr.mono (by decide)) rfl T.m_next_tick T.F_next_tick.kp (b_next_tick T) .nil pass0 (pa_cons (pv 1) (pa_cons (pv 2) pa_nil))) pa_nil)))
      (pss_one (ps_set (i := 2) sc_Story_init.nd rfl (Or.inl rfl) (pe_fld (pe_ix ix_list (pe_fld (pv 0) rfl) (pe_un un_neg pe_int) (fun _ _ => rfl)) rfl))))))))))))), ?_⟩
    -- ticks, start
    refine ⟨Nat.zero_le _, fun l hl => ?_⟩
    have ly : l ≠ y := (ne_of_none hy hl).symm
    refine ⟨_, rfl, y, _, dy, _, rfl, by rw [upd_ne ly.symm]; exact hy, T.cl_Story, T.n_Story_ticks, by decide, ?_⟩
    refine ⟨_, rfl, y, _, dy, _, rfl, upd_same, T.cl_Story, T.n_Story_start, lf1, ?_⟩
    rw [upd_upd]
    have e : putF "start" V.non (putF "ticks" (V.ref l) []) = stoF l .non := by
      show putF "start" V.non [("ticks", V.ref l)] = _
      rw [putF_new (fs := [("ticks", V.ref l)]) (show ("start" : Str) ∉ (["ticks"] : List Str) by decide +kernel)]
      rfl
    rw [e]
    have M1 : Mv [y] G H G (upd (upd H l (.lst [])) y (.ins a.C_Story dy (stoF l .non))) := ((Mv.start hGH).lay hl _).put (.inl (by simp)) hyG _
    have l0 : H l = none := hl
    have hl1 : (upd (upd H l (.lst [])) y (.ins a.C_Story dy (stoF l .non))) l = some (.lst []) := by rw [upd_ne ly, upd_same]
    -- state, seen
    refine ⟨_, rfl, ⟨⟨G, v, x, rfl, hp, M1.s, fun G2 H2 sv x2 s2 h2 => ?_⟩⟩⟩
    have M2 := M1.pure x2 s2
    intro kd hkd
    have k0 : H kd = none := M2.free hkd
    have hl2 := s2 _ _ hl1
    have hy2 := s2 _ _ (upd_same (H := upd H l (.lst [])) (a := y) (o := .ins a.C_Story dy (stoF l .non)))
    have kl : kd ≠ l := (ne_of_none hl2 hkd).symm
    have ky : kd ≠ y := (ne_of_none hy2 hkd).symm
    have M3 := M2.lay hkd (dNO P w kd [])
    refine ⟨_, _, rfl, ?_⟩
    refine ⟨fun m σ H' => ∃ (j : Nat) (G' : Hp) (sv : V) (xs : Ents) (vs : List V) (st : V), σ = [some (.ref y), some v, some sv, some (.ref kd)] ∧ Mv [y] G H G' H' ∧ G' y = none ∧ H' y = some (.ins a.C_Story dy (stoF l st)) ∧ H' l = some (.lst vs) ∧ G' l = none ∧
      TicksAt a K G' vs x j ∧ StateAt a K G' sv (sitAt x j) ∧ DK P w K G' H' kd xs ∧ Met x xs j (fun m => .int m) ∧ ((st = .non ∧ j ≤ n ∧ m = n + 1 - j) ∨ (st = .int i ∧ j = n ∧ m = 0)), ⟨n + 1, 0, G2, sv, [], [], .non, rfl, M3, ?_, ?_, ?_, ?_, ?_, h2, ?_, Met.nil, .inl ⟨rfl, Nat.zero_le _, rfl⟩⟩, ?_⟩
    · exact x2.out hyG upd_same
    · rw [upd_ne ky.symm]; exact hy2
    · rw [upd_ne kl.symm]; exact hl2
    · exact x2.out (Same.free hGH l0) hl1
    · exact ⟨rfl, fun j hj => by omega⟩
    · exact ⟨upd_same, M2.freeG hkd, fun _ h => nomatch h⟩
    rintro m σ H' ⟨j, G', sv, xs, vs, st, rfl, M, yG, hy', hl', lG, hts, hst, hK, hM, hcase⟩
    refine ⟨_, rfl, y, _, dy, _, st, rfl, hy', T.cl_Story, T.n_Story_start, (by kernel_rfl), rfl, _, rfl, ite2 (fun c => ?_) (fun c => ?_)⟩
    · have c' : st = .non := of_decide_eq_true c
      subst c'
      obtain ⟨hjn, hm⟩ : j ≤ n ∧ m = n + 1 - j := by
        rcases hcase with h | h
        · exact h.2
        · cases h.1
      have so := sitAt_ok hx j
      obtain ⟨sa, ds, sc, sn, sb, se, rfl, hsa, _⟩ := id hst
      refine ⟨fun σ' H' => _, fun σ' H' h => h, ?_⟩
      -- state.key in seen
      refine ⟨_, rfl, sa, ds, _, rfl, M.s _ _ hsa, ⟨⟨G', _, _, rfl, hst, M.s, fun G3 H3 u3 x3 s3 h3 => ?_⟩⟩⟩
      obtain ⟨p3, rfl, d3⟩ := h3
      have M3 := M.pure x3 s3
      have hK3 := hK.grow x3.g (fun o ho => s3 _ _ ho) (x3.out hK.out hK.at_)
      refine ⟨_, rfl, kd, p3, xs, _, _, rfl, rfl, hK3.dn M3.s, Dp.mono M3.s _ _ d3, nk_sit _, nk_depth _, _, rfl, ite2 (fun c => ?_) (fun c => ?_)⟩
      · have c' : nkOf (sitAt x j) ∈ xs.map (·.1) := of_decide_eq_true c
        have ej : j = n := cyc_found hc hjn ((hM.keys _).mp c')
        subst ej
        have hst3 := hst.mono x3.g
        -- self.start = seen[state.key]
        refine ⟨_, rfl, _, rfl, sa, ds, _, rfl, M3.s _ _ (x3.g _ _ hsa), ⟨⟨G3, _, _, rfl, hst3, M3.s, fun G4 H4 u4 x4 s4 h4 => ?_⟩⟩⟩
        obtain ⟨p4, rfl, d4⟩ := h4
        have M4 := M3.pure x4 s4
        have hK4 := hK3.grow x4.g (fun o ho => s4 _ _ ho) (x4.out hK3.out hK3.at_)
        obtain ⟨b, hb⟩ := hM.2 i hc.lt
        rw [hc.eq] at hb
        have hy4 := s4 _ _ (s3 _ _ hy')
        have yG3 := x3.out yG hy'
        have yG4 := x4.out yG3 (s3 _ _ hy')
        refine ⟨kd, p4, xs, _, _, rfl, rfl, hK4.dn M4.s, Dp.mono M4.s _ _ d4, nk_sit _, nk_depth _, List.mem_of_getElem? hb, ?_⟩
        refine ⟨_, rfl, y, _, dy, _, rfl, hy4, T.cl_Story, T.n_Story_start, (by show 2 < 1000; decide), ?_⟩
        rw [stoF_put]
        refine ⟨0, by omega, j, G4, .ref sa, xs, vs, .int i, rfl, M4.put (.inl (by simp)) yG4 _, yG4, upd_same, ?_, ?_, hts.mono (x3.g.trans x4.g), hst3.mono x4.g, ?_, hM, .inr ⟨rfl, rfl, rfl⟩⟩
        · rw [upd_ne ly]; exact s4 _ _ (s3 _ _ hl')
        · exact x4.out (x3.out lG hl') (s3 _ _ hl')
        · exact hK4.grow (Same.refl _) (fun o ho => by rw [upd_ne ky]; exact ho) hK4.out
      · have c' : nkOf (sitAt x j) ∉ xs.map (·.1) := fun z => c (decide_eq_true z)
        have hno := fun z => c' ((hM.keys _).mpr z)
        have hjlt : j < n := by
          rcases Nat.lt_or_ge j n with h | h
          · exact h
          · exfalso
            have ej : j = n := by omega
            subst ej
            exact hno ⟨i, hc.lt, hc.eq⟩
        have hl3 := s3 _ _ hl'
        have hy3 := s3 _ _ hy'
        -- the limit
        refine ⟨_, rfl, y, _, dy, _, .ref l, rfl, hy3, T.cl_Story, T.n_Story_ticks, (by kernel_rfl), l, _, rfl, .inl (SqL.of hl3), rfl, _, rfl, ite2 (fun c => ?_) (fun _ => ?_)⟩
        · exfalso
          have := of_decide_eq_true c
          injection this with this
          have := hts.1
          omega
        -- seen[state.key] = len(self.ticks)
        refine ⟨_, rfl, y, _, dy, _, .ref l, rfl, hy3, T.cl_Story, T.n_Story_ticks, (by kernel_rfl), l, _, rfl, .inl (SqL.of hl3), ?_⟩
        have hst3 := hst.mono x3.g
        refine ⟨_, rfl, _, rfl, sa, ds, _, rfl, M3.s _ _ (x3.g _ _ hsa), ⟨⟨G3, _, _, rfl, hst3, M3.s, fun G4 H4 u4 x4 s4 h4 => ?_⟩⟩⟩
        obtain ⟨p4, rfl, d4⟩ := h4
        have M4 := M3.pure x4 s4
        have hK4 := hK3.grow x4.g (fun o ho => s4 _ _ ho) (x4.out hK3.out hK3.at_)
        refine ⟨kd, p4, xs, _, _, rfl, rfl, hK4.dn M4.s, Dp.mono M4.s _ _ d4, nk_sit _, nk_depth _, c', small 20000 (by rw [hM.1]; omega) (by decide), ?_⟩
        rw [hts.1]
        have M5 := M4.put (l := kd) (.inr k0) hK4.out (dNO P w kd (xs ++ [(nkOf (sitAt x j), p4, .int j)]))
        have K5 := hK4.put (v := .int j) d4
        have yG4 := x4.out (x3.out yG hy') hy3
        have lG4 := x4.out (x3.out lG hl') hl3
        have hy5 : (upd H4 kd (dNO P w kd (xs ++ [(nkOf (sitAt x j), p4, .int j)]))) y = some (.ins a.C_Story dy (stoF l .non)) := by rw [upd_ne ky.symm]; exact s4 _ _ hy3
        have hl5 : (upd H4 kd (dNO P w kd (xs ++ [(nkOf (sitAt x j), p4, .int j)]))) l = some (.lst vs) := by rw [upd_ne kl.symm]; exact s4 _ _ hl3
        -- append
        refine ⟨_, rfl, y, _, dy, _, .ref l, rfl, hy5, T.cl_Story, T.n_Story_ticks, (by kernel_rfl), .inl ⟨rfl, _, SqL.of hl5⟩, ?_⟩
        refine ⟨_, rfl, _, rfl, ⟨⟨G4, v, .ref sa, x, _, rfl, hp.mono M5.g, hst3.mono x4.g, hx, so, M5.s, fun G6 H6 tv x6 s6 h6 => ?_⟩⟩⟩
        have M6 := M5.pure x6 s6
        have yG6 := x6.out yG4 hy5
        have lG6 := x6.out lG4 hl5
        have K6 := K5.grow x6.g (fun o ho => s6 _ _ ho) (x6.out K5.out K5.at_)
        refine ⟨l, vs, tv, rfl, rfl, s6 _ _ hl5, smaller 20000 (by rw [hts.1]; omega) (by decide), ?_⟩
        have M7 := M6.put (l := l) (.inr l0) lG6 (.lst (vs ++ [tv]))
        have hy7 : (upd H6 l (.lst (vs ++ [tv]))) y = some (.ins a.C_Story dy (stoF l .non)) := by rw [upd_ne ly.symm]; exact s6 _ _ hy5
        have K7 := K6.grow (Same.refl _) (H' := upd H6 l (.lst (vs ++ [tv]))) (fun o ho => by rw [upd_ne kl]; exact ho) K6.out
        obtain ⟨tk, dt, tw, su, rfl, htk, htw, hsu⟩ := id h6
        have hts7 := (hts.mono ((x3.g.trans x4.g).trans x6.g)).snoc h6
        -- state = self.ticks[-1].state
        have hix : atI (vs ++ [V.ref tk]) (-1) = some (.ref tk) := by
          have := ixN_last (n := vs.length)
          unfold atI
          rw [List.length_append, List.length_singleton, this]
          simp
        refine ⟨_, rfl, y, _, dy, _, .ref l, rfl, hy7, T.cl_Story, T.n_Story_ticks, (by kernel_rfl), _, rfl, l, _, _, .ref tk, rfl, rfl, SqL.of upd_same, hix, tk, _, dt, _, su, rfl, M7.s _ _ htk, T.cl_Tick, T.n_Tick_state, (by kernel_rfl), ?_⟩
        exact ⟨n + 1 - (j + 1), by omega, j + 1, G6, su, _, _, .non, rfl, M7, yG6, hy7, upd_same, lG6, hts7, hsu, K7, hM.snoc, .inl ⟨rfl, hjlt, rfl⟩⟩
    · rcases hcase with ⟨h, _⟩ | ⟨rfl, rfl, _⟩
      · exact absurd (decide_eq_true h) c
      · have M8 := M.freeze l0 hl'
        have g8 : Same G' (upd G' l (.lst vs)) := same_new lG
        exact k _ H' l vs M8 (by rw [upd_ne ly.symm]; exact yG) hy' (SqL.of upd_same) (hts.mono g8)
/-- Story(parsed) -/
theorem story_pre {G0 H0 G H : Hp} {v : V} {x : Pl} {y dy : Addr} (pt : Pt G0 H0 G H) (hp : PlanAt a K G v x) (ny : H y = none) (nd : H dy = none) (ne : dy ≠ y) :
    (upd G dy (.own y)) y = none ∧ Same (upd G dy (.own y)) (upd (upd H dy (.own y)) y (.ins a.C_Story dy [])) ∧ PlanAt a K (upd G dy (.own y)) v x := by
  have B1 := pt.new nd (.own y)
  have ny1 : (upd H dy (.own y)) y = none := by rw [upd_ne ne.symm]; exact ny
  have B2 := B1.lay ny1 (.ins a.C_Story dy [])
  exact ⟨B1.freeG ny1, B2.s, hp.mono (same_new (o := .own y) (pt.freeG nd))⟩
theorem story_post {G0 H0 G H G' H' : Hp} {x : Pl} {i n : Nat} {y dy l : Addr} {vs : List V} (pt : Pt G0 H0 G H) (ny : H y = none) (nd : H dy = none) (ne : dy ≠ y)
    (M : Mv [y] (upd G dy (.own y)) (upd (upd H dy (.own y)) y (.ins a.C_Story dy [])) G' H') (yG' : G' y = none) (hy' : H' y = some (.ins a.C_Story dy (stoF l (.int i)))) (hl : SqL K G' l vs) (ht : TicksAt a K G' vs x n) :
    ∃ G2, Pt G0 H0 G2 H' ∧ Same G G2 ∧ StoryAt a K G2 (.ref y) x i n := by
  have B1 := pt.new nd (.own y)
  have ny1 : (upd H dy (.own y)) y = none := by rw [upd_ne ne.symm]; exact ny
  have B2 := B1.lay ny1 (.ins a.C_Story dy [])
  have g1 := same_new (o := .own y) (pt.freeG nd)
  have y0 : H0 y = none := B1.free ny1
  have B3 : Pt G0 H0 G' H' := by
    refine ⟨B2.ext.trans M.ext, fun b o e => M.sm b o ?_⟩
    rw [wos_out (by intro hb; rw [List.mem_singleton.mp hb, y0] at e; cases e)]
    exact B2.sm b o e
  have B4 := B3.freeze y0 hy'
  have g4 : Same G' (upd G' y (.ins a.C_Story dy (stoF l (.int i)))) := same_new yG'
  exact ⟨_, B4, (g1.trans M.g).trans g4, y, dy, l, vs, rfl, upd_same, g4.seq hl, ht.mono g4⟩
end
end Sb

namespace Sb
open PySem PySem.Spec PyProof.Rows L2 TL
/-! ### what happens at a tick -/
def placeP (i n t : Nat) : Nat := if t < n then t else i + (t - i) % (n - i)
theorem place_lt {x : Pl} {i n t : Nat} (h : Cyc x i n) : placeP i n t < n := by
  unfold placeP
  have := h.lt
  split
  · assumption
  · have := Nat.mod_lt (t - i) (show n - i > 0 by omega)
    omega
theorem place_sit {x : Pl} {i n t : Nat} (h : Cyc x i n) : sitAt x (placeP i n t) = sitAt x t := by
  unfold placeP
  split
  · rfl
  · have := h.lt
    exact (sit_mod h.lt h.eq (by omega)).symm
theorem place_next {x : Pl} {i n t : Nat} (h : Cyc x i n) : sitAt x (placeP i n t + 1) = sitAt x (t + 1) := by
  show (tickP x (sitAt x (placeP i n t))).2 = (tickP x (sitAt x t)).2
  rw [place_sit h]
theorem place_words {x : Pl} {i n t : Nat} (h : Cyc x i n) : wordsAt x (placeP i n t) = wordsAt x t := by
  unfold wordsAt
  rw [place_sit h]
structure spSize (a : Ad) (K : PySem.W.Frag) (vs : List V) (H : Hp) (Q : VK) (E : XK) : Prop where
  ex : ∃ (v : V) (x : Pl) (i n : Nat), vs = [v] ∧ StoryAt a K H v x i n ∧ Q (.int ((n : Int) - (i : Int))) H
structure spCheckTick (vs : List V) (H : Hp) (Q : VK) (E : XK) : Prop where
  ex : ∃ t : Nat, vs = [.int t] ∧ t ≤ 1000000000000000000 ∧ Q .non H
theorem check_go {t : Nat} {H : Hp} {Q : VK} {E : XK} (h : t ≤ 1000000000000000000) (q : Q .non H) : spCheckTick [.int t] H Q E := ⟨⟨t, rfl, h, q⟩⟩
/-- a plan's text that loads, and comes round -/
structure Told (src : Str) (x : Pl) (i n : Nat) : Prop where
  ld : Loads src x
  ok : x.Ok
  cy : Cyc x i n
  le : n ≤ 20000
section
variable {P : Program} {w : World} {K : PySem.W.Frag} {mg : Str → Option Value} {base : Heap} {a : Ad}
theorem ok_Story_size (T : Txt K mg a) : FnOk P w K mg base CX0 1 a.f_Story_size a.d_Story_size ["self"] (spSize a K) := by
  refine T.F_Story_size.ok sc_Story_size (fun vs H Q E h => ?_) (fun cdv A outer s H vs Q E hr h => ?_)
  · obtain ⟨⟨v, x, i, n, rfl, _⟩⟩ := h
    rfl
  · obtain ⟨⟨v, x, i, n, rfl, ⟨y, dy, l, vs, rfl, hy, hl, ht⟩, k⟩⟩ := h
    refine ⟨_, (pss_one (ps_ret (pe_op op_sub (pe_callB call_len_seq (by rfl) T.z_len (by decide +kernel) (pa_cons (pe_fld (pv 0) rfl) pa_nil)) (pe_fld (pv 0) rfl)))), ?_⟩
    refine ⟨_, rfl, y, _, dy, _, .ref l, rfl, hy, T.cl_Story, T.n_Story_ticks, (by kernel_rfl), l, _, rfl, .inl hl, _, rfl, y, _, dy, _, .int i, rfl, hy, T.cl_Story, T.n_Story_start, (by kernel_rfl), _, _, rfl, rfl, ?_⟩
    dsimp only
    rw [ht.1]
    exact k
end
end Sb

namespace Sb
open PySem PySem.Spec PyProof.Rows L2
/-! ### sums over ticks -/
def cntF (f : Nat → Nat) (t : Nat) : Nat := ((List.range t).map f).sum
theorem cntF_succ (f : Nat → Nat) (t : Nat) : cntF f (t + 1) = cntF f t + f t := by
  unfold cntF
  rw [List.range_succ, List.map_append, List.sum_append]
  simp
theorem cntF_mono (f : Nat → Nat) (a k : Nat) : cntF f a ≤ cntF f (a + k) := by
  induction k with
  | zero => exact Nat.le_refl _
  | succ k ih => rw [show a + (k + 1) = (a + k) + 1 by omega, cntF_succ]; omega
theorem cntF_shift {f : Nat → Nat} {i p : Nat} (h : ∀ t, i ≤ t → f (t + p) = f t) (k : Nat) : cntF f (i + k + p) = cntF f (i + k) + (cntF f (i + p) - cntF f i) := by
  induction k with
  | zero =>
    have := cntF_mono f i p
    show cntF f (i + p) = cntF f i + _
    omega
  | succ k ih =>
    rw [show i + (k + 1) + p = (i + k + p) + 1 by omega, cntF_succ, ih, show i + (k + 1) = (i + k) + 1 by omega, cntF_succ, h (i + k) (by omega)]
    omega
theorem cntF_rounds {f : Nat → Nat} {i p : Nat} (h : ∀ t, i ≤ t → f (t + p) = f t) (q r : Nat) : cntF f (i + q + r * p) = cntF f (i + q) + r * (cntF f (i + p) - cntF f i) := by
  induction r with
  | zero => simp
  | succ r ih =>
    have := cntF_shift h (q + r * p)
    rw [show i + q + (r + 1) * p = i + (q + r * p) + p by rw [Nat.succ_mul]; omega, this, show i + (q + r * p) = i + q + r * p by omega, ih, Nat.succ_mul]
    omega
/-- by the tick at the beginning, and what is left of a round -/
theorem cntF_far {f : Nat → Nat} {i n t : Nat} (h : ∀ t, i ≤ t → f (t + (n - i)) = f t) (hin : i < n) (ht : i ≤ t) : cntF f t = cntF f (i + (t - i) % (n - i)) + ((t - i) / (n - i)) * (cntF f n - cntF f i) := by
  have e := cntF_rounds h ((t - i) % (n - i)) ((t - i) / (n - i))
  rw [show i + (n - i) = n by omega] at e
  rw [← e]
  congr 1
  have := Nat.div_add_mod (t - i) (n - i)
  rw [Nat.mul_comm] at this
  omega
theorem take_range {α : Type} (f : Nat → α) {n k : Nat} (h : k ≤ n) : ((List.range n).map f).take k = (List.range k).map f := by
  rw [← List.map_take, List.take_range, Nat.min_eq_left h]
theorem sum_drop (f : Nat → Nat) {n i : Nat} (h : i ≤ n) : (((List.range n).map f).drop i).sum = cntF f n - cntF f i := by
  have e : ((List.range n).map f).sum = (((List.range n).map f).take i).sum + (((List.range n).map f).drop i).sum := by
    rw [← List.sum_append, List.take_append_drop]
  rw [take_range f h] at e
  unfold cntF
  omega
theorem range_more {α : Type} (f : Nat → α) (j : Nat) : (List.range (j + 1)).map f = (List.range j).map f ++ [f j] := by rw [List.range_succ, List.map_append]; rfl
theorem filt_succ (f : Nat → Bool) (j : Nat) : (List.range (j + 1)).filter f = (List.range j).filter f ++ (if f j = true then [j] else []) := by
  rw [List.range_succ, List.filter_append]
  congr 1
  by_cases h : f j = true
  · rw [if_pos h, List.filter_cons_of_pos h]; rfl
  · rw [if_neg h, List.filter_cons_of_neg h]; rfl
theorem int_sum (l : List Nat) : (l.map fun n : Nat => (n : Int)).sum = ((l.sum : Nat) : Int) := by
  induction l with
  | nil => rfl
  | cons a l ih => simp only [List.map_cons, List.sum_cons, ih]; push_cast; rfl
/-- from the start i on what is done comes again -/
theorem words_per {x : Pl} {i n : Nat} (h : Cyc x i n) (t : Nat) (ht : i ≤ t) : (tickP x (sitAt x (t + (n - i)))).1 = (tickP x (sitAt x t)).1 := by
  have lt := h.lt
  have e : sitAt x i = sitAt x (i + (n - i)) := by rw [h.eq]; congr 1; omega
  have := sit_shift e (t - i)
  rw [show i + (t - i) = t by omega, show i + (n - i) + (t - i) = t + (n - i) by omega] at this
  rw [this]
end Sb

namespace Sb
open PySem PySem.Spec PyProof.Rows L2 TL
structure spHappens (a : Ad) (K : PySem.W.Frag) (vs : List V) (H : Hp) (Q : VK) (E : XK) : Prop where
  ex : ∃ (G : Hp) (v : V) (x : Pl) (i n t : Nat), vs = [v, .int t] ∧ StoryAt a K G v x i n ∧ Cyc x i n ∧ Same G H ∧ ∀ u, TickAt a K G u (wordsAt x t) (sitAt x (t + 1)) → Q u H
section
variable {P : Program} {w : World} {K : PySem.W.Frag} {mg : Str → Option Value} {base : Heap} {a : Ad}
theorem ok_Story_happens (T : Txt K mg a) : FnOk P w K mg base CX0 3 a.f_Story_happens a.d_Story_happens ["self", "tick"] (spHappens a K) := by
  refine T.F_Story_happens.ok sc_Story_happens (fun vs H Q E h => ?_) (fun cdv A outer s H vs Q E hr h => ?_)
  · obtain ⟨⟨G, v, x, i, n, t, rfl, _⟩⟩ := h
    rfl
  · obtain ⟨⟨G, v, x, i, n, t, rfl, hS, hc, hGH, k⟩⟩ := h
    refine ⟨_, (pss_one (ps_ret (pe_ix ix_list (pe_fld (pv 0) rfl) (pe_ifExp (pt_cmpR op_lt (pv 1) (pe_callB call_len_seq (by rfl) T.z_len (by decide +kernel) (pa_cons (pe_fld (pv 0) rfl) pa_nil)) (nomark _)) (pv 1) (pe_op op_add (pe_fld (pv 0) rfl) (pe_op op_mod (pe_op op_sub (pv 1) (pe_fld (pv 0) rfl)) (pe_prop (pv 0) T.cl_Story T.P_Story_size (ok_Story_size T) (hr.mono (by decide)) (b_Story_size T) .nil pass0 rfl)))) (fun _ _ => rfl)))), ?_⟩
    have hS' := hS.mono hGH
    obtain ⟨y, dy, l, vs, rfl, hy, hl, ht⟩ := hS
    have hy' := hGH _ _ hy
    have lt := hc.lt
    obtain ⟨u, hu, hT⟩ := ht.2 _ (place_lt (t := t) hc)
    rw [place_words hc, place_next hc] at hT
    refine ⟨_, rfl, y, _, dy, _, .ref l, rfl, hy', T.cl_Story, T.n_Story_ticks, (by kernel_rfl), ?_⟩
    refine ⟨_, rfl, _, rfl, y, _, dy, _, .ref l, rfl, hy', T.cl_Story, T.n_Story_ticks, (by kernel_rfl), l, _, rfl, .inl (hGH.seq hl), _, _, rfl, rfl, _, rfl, ?_⟩
    rw [ht.1]
    refine ite2 (fun c => ?_) (fun c => ?_)
    · have c' : t < n := by have := of_decide_eq_true c; omega
      have e : placeP i n t = t := if_pos c'
      rw [e] at hu
      exact ⟨_, rfl, l, _, _, u, rfl, rfl, hGH.seq hl, at_of (j := t) rfl hu, k u hT⟩
    · have c' : ¬ t < n := fun z => c (decide_eq_true (by omega))
      have e : placeP i n t = i + (t - i) % (n - i) := if_neg c'
      rw [e] at hu
      refine ⟨_, rfl, y, _, dy, _, .int i, rfl, hy', T.cl_Story, T.n_Story_start, (by kernel_rfl), ?_⟩
      refine ⟨_, rfl, _, rfl, y, _, dy, _, .int i, rfl, hy', T.cl_Story, T.n_Story_start, (by kernel_rfl), _, _, rfl, rfl, ?_⟩
      refine ⟨_, rfl, y, dy, _, rfl, hy', ⟨⟨_, x, i, n, rfl, hS', ?_⟩⟩⟩
      refine ⟨_, _, rfl, rfl, (by show (0 : Int) < (n : Int) - (i : Int); omega), _, _, rfl, rfl, l, _, _, u, rfl, rfl, hGH.seq hl, at_of (j := i + (t - i) % (n - i)) ?_ hu, k u hT⟩
      rw [show (t : Int) - (i : Int) = ((t - i : Nat) : Int) by omega, show (n : Int) - (i : Int) = ((n - i : Nat) : Int) by omega]
      push_cast
      rfl
end
end Sb

namespace Sb
open PySem PySem.Spec PyProof.Rows L2 TL LamX
theorem cutL_hi {xs : List V} {i : Nat} (h : i ≤ xs.length) : cutV xs none (some (i : Int)) = xs.take i := by
  unfold cutV
  rw [HT.sIx_none, HT.sIx_nat, List.drop_zero, Nat.sub_zero, Nat.min_eq_left h]
theorem cutL_lo {xs : List V} {i : Nat} (h : i ≤ xs.length) : cutV xs (some (i : Int)) none = xs.drop i := by
  unfold cutV
  rw [HT.sIx_none, HT.sIx_nat, Nat.min_eq_left h]
  exact List.take_of_length_le (by rw [List.length_drop]; omega)
theorem nV_int (l : List Nat) : nV l = (l.map fun n : Nat => (n : Int)).map V.int := by rw [List.map_map]; rfl
/-- a number of each tick, by what is done in it -/
abbrev phiAt (x : Pl) (φ : Nat × Nat → Nat) (j : Nat) : Nat := φ (wordsAt x j)
theorem phi_per {x : Pl} {i n : Nat} {φ : Nat × Nat → Nat} (h : Cyc x i n) (t : Nat) (ht : i ≤ t) : phiAt x φ (t + (n - i)) = phiAt x φ t := by
  unfold phiAt wordsAt
  rw [words_per h t ht]
theorem cntF_le {f : Nat → Nat} (h : ∀ j, f j ≤ 1) (t : Nat) : cntF f t ≤ t := by
  induction t with
  | zero => exact Nat.le_refl _
  | succ t ih => rw [cntF_succ]; have := h t; omega
def TickR (a : Ad) (K : PySem.W.Frag) (S : List Addr) (φ : Nat × Nat → Nat) : V → Hp → V → Prop := fun v H z => ∃ w s, TickAt a K (cut S H) v w s ∧ z = .int (φ w)
structure spCount (P : Program) (w : World) (mg : Str → Option Value) (base : Heap) (a : Ad) (K : PySem.W.Frag) (vs : List V) (H : Hp) (Q : VK) (E : XK) : Prop where
  ex : ∃ (G : Hp) (v : V) (x : Pl) (i n t : Nat) (f : Addr) (D : Hp → Prop) (φ : Nat × Nat → Nat) (S : List Addr), vs = [v, .int t, .ref f] ∧ StoryAt a K G v x i n ∧ Cyc x i n ∧ n ≤ 20000 ∧ t ≤ 1000000000000000000 ∧ (∀ w, φ w ≤ 1) ∧ Same G H ∧ (∀ b ∈ S, G b = none ∧ H b ≠ none) ∧
    Lam1 P w K mg base 2 f D (TickR a K S φ) ∧ D H ∧ (∀ H', Same H H' → D H') ∧ ∀ G' H', Ext G H G' H' → Same H H' → Q (.int (cntF (phiAt x φ) t : Nat)) H'
section
variable {P : Program} {w : World} {K : PySem.W.Frag} {mg : Str → Option Value} {base : Heap} {a : Ad}
theorem ok_Story_count (T : Txt K mg a) : FnOk P w K mg base CX0 4 a.f_Story_count a.d_Story_count ["self", "ticks", "measure"] (spCount P w mg base a K) := by
  refine T.F_Story_count.ok sc_Story_count (fun vs H Q E h => ?_) (fun cdv A outer s H vs Q E hr h => ?_)
  · obtain ⟨⟨G, v, x, i, n, t, f, D, φ, S, rfl, _⟩⟩ := h
    rfl
  · obtain ⟨⟨G, v, x, i, n, t, f, D, φ, S, rfl, hS, hc, hn, ht18, h1, hGH, hSG, hL, hD, hDm, k⟩⟩ := h
    refine ⟨_, (pss_cons (ps_setLc (i := 3) (own := [("one", 4)]) (g := gName 4) (te := (tCallM P w K mg base 2 2 (tCons (tVar 4) tNil))) (tt := tYes) rfl sc_Story_count.nd rfl rfl (sw_true rfl rfl rfl (by decide +kernel)) (pi_list (pe_fld (pv 0) rfl)) (blkOk_by (own := [("one", 4)]) (N := ["self", "ticks", "measure", "known", "one", "rounds", "rest"]) (sc := (defScope s_Story_count)) (by decide +kernel)) (fun _ _ _ _ _ => (pg_name (i := 4) sc_Story_count.nd rfl (Or.inl rfl))) (fun _ _ _ _ _ => pts_nil) (fun _ _ _ _ _ => by exact (pe_callM (i := 2) (k := 2) (hr.mono (by decide)) rfl (by first | exact Or.inl rfl | exact Or.inr (Or.inl rfl) | exact Or.inr (Or.inr rfl)) (pa_cons (pv 4) pa_nil))))
      (pss_cons (ps_if (pt_cmpR op_le (pv 1) (pe_callB call_len_seq (by rfl) T.z_len (by decide +kernel) (pa_cons (pv 3) pa_nil)) (nomark _)) (pss_one (ps_ret (pe_callB (cr_sum rfl) (by rfl) T.z_sum (by decide +kernel) (pa_cons (pe_slice sl_list (pv 3) po_none (po_some (pv 1))) pa_nil)))) pss_nil)
      (pss_cons (ps_asg (pe_callB call_divmod (by rfl) T.z_divmod (by decide +kernel) (pa_cons (pe_op op_sub (pv 1) (pe_fld (pv 0) rfl)) (pa_cons (pe_prop (pv 0) T.cl_Story T.P_Story_size (ok_Story_size T) (hr.mono (by decide)) (b_Story_size T) .nil pass0 rfl) pa_nil))) (pg_tup (by rfl) (pgs_cons (pg_name (i := 5) sc_Story_count.nd rfl (Or.inl rfl)) (pgs_cons (pg_name (i := 6) sc_Story_count.nd rfl (Or.inl rfl)) pgs_nil))))
      (pss_one (ps_ret (pe_op op_add (pe_callB (cr_sum rfl) (by rfl) T.z_sum (by decide +kernel) (pa_cons (pe_slice sl_list (pv 3) po_none (po_some (pe_op op_add (pe_fld (pv 0) rfl) (pv 6)))) pa_nil)) (pe_op op_mul (pv 5) (pe_callB (cr_sum rfl) (by rfl) T.z_sum (by decide +kernel) (pa_cons (pe_slice sl_list (pv 3) (po_some (pe_fld (pv 0) rfl)) po_none) pa_nil))))))))), ?_⟩
    have hS' := hS.mono hGH
    obtain ⟨y, dy, l, vs, rfl, hy, hl, ht⟩ := hS
    have lt := hc.lt
    have hy' := hGH _ _ hy
    -- known
    refine ⟨_, rfl, y, _, dy, _, .ref l, rfl, hy', T.cl_Story, T.n_Story_ticks, (by kernel_rfl), l, rfl, ⟨_, hGH.seq hl⟩, fun E1 hE1 => ?_⟩
    have E0' : G E1 = none := Same.free hGH hE1
    refine lc_list (K := K) (a := l) (xs := vs) (fun j H' => Pt G H G H' ∧ H' E1 = some (.lst (nV ((List.range j).map (phiAt x φ))))) ⟨(Pt.start hGH).lay hE1 _, upd_same⟩ (fun j H' _ ⟨p1, _⟩ => p1.s.seq hl) ?_ ?_
    · rintro j u H' hu ⟨p1, hE'⟩
      have hj : j < n := by rw [← ht.1]; exact (List.getElem?_eq_some_iff.mp hu).1
      obtain ⟨u', hu', hT⟩ := ht.2 j hj
      rw [hu] at hu'
      cases hu'
      have sm : Same H H' := p1.sm
      have gc : Same G (cut S H') := fun b o e => by
        have nb : b ∉ S := fun z => by rw [(hSG b z).1] at e; cases e
        rw [cut_out nb]
        exact p1.s _ _ e
      refine ⟨rfl, f, D, TickR a K S φ, hL, rfl, hDm H' sm, _, rfl, u, rfl, hDm H' sm, _, ⟨_, _, hT.mono gc, rfl⟩, _, hE', smaller 20000 ?_ (by decide), p1.put hE1 E0' _, ?_⟩
      · rw [List.length_map, List.length_map, List.length_range]; omega
      · rw [upd_same, range_more, nV, nV, List.map_append]
        rfl
    rintro H1 ⟨p1, hE'⟩
    rw [ht.1] at hE'
    have hkn : (nV ((List.range n).map (phiAt x φ))).length = n := by rw [List.length_map, List.length_map, List.length_range]
    -- ticks <= len(known)
    refine ⟨_, rfl, _, rfl, E1, _, rfl, .inl (SqL.of hE'), _, _, rfl, rfl, _, rfl, ?_⟩
    rw [hkn]
    refine ite2 (fun c => ?_) (fun c => ?_)
    · have c' : t ≤ n := by have := of_decide_eq_true c; omega
      refine ⟨_, rfl, _, rfl, _, rfl, E1, _, rfl, SqL.of hE', fun q hq => ?_⟩
      rw [cutL_hi (by rw [hkn]; exact c'), nV, ← List.map_take, take_range _ c', ← nV] at *
      have p2 := p1.lay hq (.lst (nV ((List.range t).map (phiAt x φ))))
      refine ⟨q, ((List.range t).map (phiAt x φ)).map (fun n : Nat => (n : Int)), rfl, by rw [← nV_int]; exact SqL.of upd_same, ?_⟩
      rw [int_sum]
      exact k _ _ p2.ext p2.sm
    · have c' : ¬ t ≤ n := fun z => c (decide_eq_true (by omega))
      have hy1 := p1.sm _ _ hy'
      -- divmod
      refine ⟨_, rfl, _, rfl, y, _, dy, _, .int i, rfl, hy1, T.cl_Story, T.n_Story_start, (by kernel_rfl), _, _, rfl, rfl, _, rfl, y, dy, _, rfl, hy1, ⟨⟨_, x, i, n, rfl, hS'.mono p1.sm, ?_⟩⟩⟩
      refine ⟨_, _, rfl, ⟨by show (0 : Int) < (n : Int) - (i : Int); omega, by show (n : Int) - (i : Int) < 1073741824; omega⟩, fun q hq => ?_⟩
      have p2 := p1.lay hq (.tup [.int (((t : Int) - (i : Int)) / ((n : Int) - (i : Int))), .int (((t : Int) - (i : Int)) % ((n : Int) - (i : Int)))])
      refine ⟨q, _, rfl, SqT.of upd_same, rfl, _, _, rfl, _, _, rfl, rfl, ?_⟩
      have hE2 : (upd H1 q (.tup [.int (((t : Int) - (i : Int)) / ((n : Int) - (i : Int))), .int (((t : Int) - (i : Int)) % ((n : Int) - (i : Int)))])) E1 = some (.lst (nV ((List.range n).map (phiAt x φ)))) := by rw [upd_ne (ne_of_none hE' hq)]; exact hE'
      have e1 : ((t : Int) - (i : Int)) / ((n : Int) - (i : Int)) = (((t - i) / (n - i) : Nat) : Int) := by
        rw [show (t : Int) - (i : Int) = ((t - i : Nat) : Int) by omega, show (n : Int) - (i : Int) = ((n - i : Nat) : Int) by omega]; push_cast; rfl
      have e2 : ((t : Int) - (i : Int)) % ((n : Int) - (i : Int)) = (((t - i) % (n - i) : Nat) : Int) := by
        rw [show (t : Int) - (i : Int) = ((t - i : Nat) : Int) by omega, show (n : Int) - (i : Int) = ((n - i : Nat) : Int) by omega]; push_cast; rfl
      have hy2 := p2.sm _ _ hy'
      have hmod := Nat.mod_lt (t - i) (show n - i > 0 by omega)
      -- the sums
      refine ⟨_, rfl, _, rfl, y, _, dy, _, .int i, rfl, hy2, T.cl_Story, T.n_Story_start, (by kernel_rfl), _, rfl, _, _, rfl, rfl, _, rfl, E1, _, rfl, SqL.of hE2, fun q2 hq2 => ?_⟩
      have e3 : (i : Int) + ((t : Int) - (i : Int)) % ((n : Int) - (i : Int)) = ((i + (t - i) % (n - i) : Nat) : Int) := by rw [e2]; push_cast; rfl
      have e4 : cutV (nV ((List.range n).map (phiAt x φ))) none (some ((i : Int) + ((t : Int) - (i : Int)) % ((n : Int) - (i : Int)))) = nV ((List.range (i + (t - i) % (n - i))).map (phiAt x φ)) := by
        rw [e3, cutL_hi (by rw [hkn]; omega), nV, ← List.map_take, take_range _ (by omega)]
      dsimp only
      rw [e4]
      have p3 := p2.lay hq2 (.lst (nV ((List.range (i + (t - i) % (n - i))).map (phiAt x φ))))
      refine ⟨q2, ((List.range (i + (t - i) % (n - i))).map (phiAt x φ)).map (fun n : Nat => (n : Int)), rfl, by rw [← nV_int]; exact SqL.of upd_same, ?_⟩
      rw [int_sum]
      have hE3 : (upd (upd H1 q (.tup [.int (((t : Int) - (i : Int)) / ((n : Int) - (i : Int))), .int (((t : Int) - (i : Int)) % ((n : Int) - (i : Int)))])) q2 (.lst (nV ((List.range (i + (t - i) % (n - i))).map (phiAt x φ))))) E1 = some (.lst (nV ((List.range n).map (phiAt x φ)))) := by rw [upd_ne (ne_of_none hE2 hq2)]; exact hE2
      refine ⟨_, rfl, _, rfl, _, rfl, y, _, dy, _, .int i, rfl, p3.sm _ _ hy', T.cl_Story, T.n_Story_start, (by kernel_rfl), _, rfl, E1, _, rfl, SqL.of hE3, fun q3 hq3 => ?_⟩
      have e5 : cutV (nV ((List.range n).map (phiAt x φ))) (some (i : Int)) none = nV (((List.range n).map (phiAt x φ)).drop i) := by
        rw [cutL_lo (by rw [hkn]; omega), nV, nV, List.map_drop]
      rw [e5]
      have p4 := p3.lay hq3 (.lst (nV (((List.range n).map (phiAt x φ)).drop i)))
      refine ⟨q3, (((List.range n).map (phiAt x φ)).drop i).map (fun n : Nat => (n : Int)), rfl, by rw [← nV_int]; exact SqL.of upd_same, ?_⟩
      rw [int_sum, sum_drop _ (by omega)]
      have hdv : (t - i) / (n - i) ≤ 1000000000000000000 := Nat.le_trans (Nat.div_le_self _ _) (by omega)
      have hcn := cntF_le (f := phiAt x φ) (fun j => h1 _) n
      refine ⟨_, _, rfl, rfl, ?_, ?_⟩
      · rw [e1]
        revert hdv
        generalize (t - i) / (n - i) = z
        intro hdv
        exact .inl ⟨by omega, by omega⟩
      refine ⟨_, _, rfl, rfl, ?_⟩
      have far := cntF_far (f := phiAt x φ) (t := t) (fun t h => phi_per hc t h) lt (by omega)
      have e6 : ((((List.range (i + (t - i) % (n - i))).map (phiAt x φ)).sum : Nat) : Int) + ((t : Int) - (i : Int)) / ((n : Int) - (i : Int)) * ((cntF (phiAt x φ) n - cntF (phiAt x φ) i : Nat) : Int) = ((cntF (phiAt x φ) t : Nat) : Int) := by
        rw [e1, far]
        show ((cntF (phiAt x φ) (i + (t - i) % (n - i)) : Nat) : Int) + _ = _
        push_cast
        rfl
      dsimp only
      rw [e6]
      exact k _ _ p4.ext p4.sm
end
end Sb

namespace Sb
open PySem PySem.Spec PyProof.Rows L2 TL LamX NdefX
structure spCheckRobot (vs : List V) (H : Hp) (Q : VK) (E : XK) : Prop where
  ex : ∃ t : Nat, vs = [.int t] ∧ t < 2 ∧ Q .non H
theorem robot_go {t : Nat} {H : Hp} {Q : VK} {E : XK} (h : t < 2) (q : Q .non H) : spCheckRobot [.int t] H Q E := ⟨⟨t, rfl, h, q⟩⟩
/-- what the robot of a number does -/
def wdN (w : Nat × Nat) (num : Nat) : Nat := if num = 0 then w.1 else w.2
def phiS (num : Nat) (word : Str) (w : Nat × Nat) : Nat := if doS (wdN w num) = word then 1 else 0
/-! ### behind a lambda and the call that got it -/
theorem lam_post {T : List (Addr × Str)} {P : Addr} {tb : List Addr} {G H G2 H2 H3 H4 G' H' : Hp} {cells : List (Addr × Obj)} (B : Pt G H G2 H2) (hP : P ∈ tb) (hPG : G2 P = none) (h3 : ∀ b o, b ≠ P → H2 b = some o → H3 b = some o) (nn : ∀ b, H3 b = none → H2 b = none) (t3 : Tabs T H3) (tr : Trk cells H3 H4)
    (e : Ext G2 H4 G' H') (sm : Same H4 H') : Ext G H G' (cut (cells.map (·.1)) H') ∧ Same (wos tb H) (cut (cells.map (·.1)) H') ∧ Tabs T (cut (cells.map (·.1)) H') := by
  have up : ∀ b o, H3 b = some o → cut (cells.map (·.1)) H' b = some o := fun b o q => by
    have nb : b ∉ cells.map (·.1) := fun z => by rw [(tr.none z).1] at q; cases q
    rw [cut_out nb]
    exact sm _ _ (by rw [tr.out b nb]; exact q)
  have inS : ∀ b, b ∈ cells.map (·.1) → H b = none := fun b z => B.ext.k _ (nn b (tr.none z).1)
  refine ⟨⟨B.g.trans e.g, fun b o q => ?_, fun b o q => ?_, fun b q => ?_⟩, fun b o q => ?_, t3.ext up⟩
  · have nb : b ∉ cells.map (·.1) := fun z => by
      obtain ⟨z1, o', z2⟩ := tr.none z
      rcases e.n b o q with q1 | q1
      · have : H2 b = some o := B.s _ _ q1
        rw [nn b z1] at this; cases this
      · rw [z2] at q1; cases q1
    rw [cut_out nb]
    exact e.h _ _ q
  · rcases e.n b o q with q1 | q1
    · exact B.ext.n b o q1
    · refine .inr (B.ext.k b (nn b ?_))
      by_cases z : b ∈ cells.map (·.1)
      · exact (tr.none z).1
      · rw [← tr.out b z]; exact q1
  · by_cases z : b ∈ cells.map (·.1)
    · exact inS b z
    · rw [cut_out z] at q
      have := e.k b q
      rw [tr.out b z] at this
      exact B.ext.k b (nn b this)
  · obtain ⟨nb, q⟩ := wos_some q
    exact up b o (h3 b o (fun z => nb (by rw [z]; exact hP)) (B.sm _ _ q))
/-- .. and ahead of it -/
theorem lam_pre {P : Addr} {G2 H2 H3 H4 : Hp} {cells : List (Addr × Obj)} (s2 : Same G2 H2) (hPG : G2 P = none) (h3 : ∀ b o, b ≠ P → H2 b = some o → H3 b = some o) (nn : ∀ b, H3 b = none → H2 b = none) (tr : Trk cells H3 H4) :
    Same G2 H4 ∧ ∀ b ∈ cells.map (·.1), G2 b = none ∧ H4 b ≠ none := by
  refine ⟨fun b o q => ?_, fun b z => ?_⟩
  · have q3 := h3 b o (fun z => by rw [z, hPG] at q; cases q) (s2 _ _ q)
    rw [tr.out b fun z => by rw [(tr.none z).1] at q3; cases q3]
    exact q3
  · obtain ⟨z1, o, z2⟩ := tr.none z
    refine ⟨?_, by rw [z2]; exact Option.some_ne_none _⟩
    cases q : G2 b with
    | none => rfl
    | some u =>
      have := s2 _ _ q
      rw [nn b z1] at this; cases this
theorem phiS_le {num : Nat} {word : Str} : ∀ w, phiS num word w ≤ 1 := fun w => by unfold phiS; split <;> decide
theorem wd_at {w : Nat × Nat} {num : Nat} (h : num < 2) : ([V.str (doS w.1), V.str (doS w.2)] : List V)[num]? = some (.str (doS (wdN w num))) := by
  match num, h with
  | 0, _ => rfl
  | 1, _ => rfl
theorem lamD_mono {f c' : Addr} {q : Str} {o : Obj} {cells : List (Addr × Obj)} {H H' : Hp} (s : Same H H') (h : LamD f c' q o cells H) : LamD f c' q o cells H' := ⟨s _ _ h.1, s _ _ h.2.1, fun p hp => s _ _ (h.2.2 p hp)⟩
section
variable {P : Program} {w : World} {K : PySem.W.Frag} {mg : Str → Option Value} {base : Heap} {a : Ad}
end
end Sb

namespace Sb
open PySem PySem.Spec PyProof.Rows L2 TL LamX NdefX
theorem units1 {A : Around} (h : A.units + 64 < cLine) : A.units + 1 < cLine := by omega
/-! ### `in` of a dict with ints as keys -/
def rInK : R2 := fun x y H Q => ∃ a o, y = .ref a ∧ DGet H a x o ∧ Q (.bl o.isSome) H
def rNotInK : R2 := fun x y H Q => ∃ a o, y = .ref a ∧ DGet H a x o ∧ Q (.bl (!o.isSome)) H
theorem op_inK {X : Cx} (hu : X.A.units + 1 < cLine) : OpR X (compareOp .In) rInK := by
  intro pins s σ H x y v u Q I rx ry h
  obtain ⟨a, o, rfl, g, q⟩ := h
  cases ry
  exact d_in hu I g rx fun s' I' => ⟨.bl o.isSome, H, I', rfl, q⟩
theorem op_notInK {X : Cx} (hu : X.A.units + 1 < cLine) : OpR X (compareOp .NotIn) rNotInK := by
  intro pins s σ H x y v u Q I rx ry h
  obtain ⟨a, o, rfl, g, q⟩ := h
  cases ry
  exact d_notIn hu I g rx fun s' I' => ⟨.bl (!o.isSome), H, I', rfl, q⟩
/-! ### robots that are blocked -/
def blkAt (x : Pl) (num j : Nat) : Bool := decide (doS (wdN (wordsAt x j) num) = "blocked")
def stuckB (x : Pl) (i n num : Nat) : Bool := ((List.range n).drop i).all fun j => blkAt x num j
def stuckL (x : Pl) (i n : Nat) : List Nat := (List.range 2).filter fun k => stuckB x i n k
def blkD : PyData := .tuple [.str "blocked", .str "blocked"]
def lockP (x : Pl) (i : Nat) : Option Nat := if PyData.eqv (wordsD (wordsAt x i)) blkD = true then some i else none
def downP (f : Nat → Bool) : Nat → Nat
  | 0 => 0
  | m + 1 => if f m = true then downP f m else m + 1
def fromP (x : Pl) (i n num : Nat) : Option Nat := if num ∈ stuckL x i n then some (downP (blkAt x num) i) else none
def nsAt (x : Pl) (num j : Nat) : Nat := (sitAt x j).ns.getD num 0
def usedB (x : Pl) (n num k : Nat) : Bool := (List.range n).any fun j => !blkAt x num j && decide (nsAt x num j = k)
def unusedL (x : Pl) (n num : Nat) : List Nat := (List.range (stepsOf x num).length).filter fun k => !usedB x n num k
theorem words_shaped (w : Nat × Nat) (h1 : w.1 ≤ 8) (h2 : w.2 ≤ 8) : SeqAt.shaped (wordsD w) = true := by
  have h : ∀ a b : _root_.Fin 9, SeqAt.shaped (wordsD (a.val, b.val)) = true := by decide +kernel
  exact h ⟨w.1, by omega⟩ ⟨w.2, by omega⟩
theorem words_le {x : Pl} (hx : x.Ok) (j : Nat) : (wordsAt x j).1 ≤ 8 ∧ (wordsAt x j).2 ≤ 8 := by
  have so := sitAt_ok hx j
  exact ⟨act_w hx so (i := 0) (by decide), act_w hx (act_ok hx so (i := 0) (by decide)) (i := 1) (by decide)⟩
structure spLockOf (a : Ad) (K : PySem.W.Frag) (vs : List V) (H : Hp) (Q : VK) (E : XK) : Prop where
  ex : ∃ (G : Hp) (v : V) (x : Pl) (i n : Nat), vs = [v] ∧ StoryAt a K G v x i n ∧ x.Ok ∧ Cyc x i n ∧ Pure G H Q fun G' v => Dp K G' v (optD (lockP x i))
structure spStuckIn (a : Ad) (K : PySem.W.Frag) (vs : List V) (H : Hp) (Q : VK) (E : XK) : Prop where
  ex : ∃ (G : Hp) (v : V) (x : Pl) (i n : Nat), vs = [v] ∧ StoryAt a K G v x i n ∧ Cyc x i n ∧ n ≤ 20000 ∧ Same G H ∧ ∀ G1 H1 p, Pt G H G1 H1 → G1 p = none → H p = none → H1 p = some (.lst (nV (stuckL x i n))) → Q (.ref p) H1
structure spLockTick (K : PySem.W.Frag) (vs : List V) (H : Hp) (Q : VK) (E : XK) : Prop where
  ex : ∃ (src : Str) (G : Hp) (x : Pl) (i n : Nat), vs = [.str src] ∧ Told src x i n ∧ Pure G H Q fun G' v => Dp K G' v (optD (lockP x i))
structure spStuckRobots (K : PySem.W.Frag) (vs : List V) (H : Hp) (Q : VK) (E : XK) : Prop where
  ex : ∃ (src : Str) (G : Hp) (x : Pl) (i n : Nat), vs = [.str src] ∧ Told src x i n ∧ Same G H ∧ ∀ G1 H1 p, Pt G H G1 H1 → G1 p = none → H p = none → H1 p = some (.lst (nV (stuckL x i n))) → Q (.ref p) H1
structure spStuckFrom (K : PySem.W.Frag) (vs : List V) (H : Hp) (Q : VK) (E : XK) : Prop where
  ex : ∃ (src : Str) (G : Hp) (x : Pl) (i n num : Nat), vs = [.str src, .int num] ∧ Told src x i n ∧ num < 2 ∧ Pure G H Q fun G' v => Dp K G' v (optD (fromP x i n num))
structure spUnused (K : PySem.W.Frag) (vs : List V) (H : Hp) (Q : VK) (E : XK) : Prop where
  ex : ∃ (src : Str) (G : Hp) (x : Pl) (i n num : Nat), vs = [.str src, .int num] ∧ Told src x i n ∧ num < 2 ∧ Pure G H Q fun G' v => ∃ p, v = .ref p ∧ G' p = some (.lst (nV (unusedL x n num)))
theorem ite_bl {x : Pl} {num j : Nat} {A B : Prop} (h1 : blkAt x num j = true → A) (h2 : blkAt x num j = false → B) : if decide (V.str (doS (wdN (wordsAt x j) num)) = V.str "blocked") = true then A else B := by
  have e : decide (V.str (doS (wdN (wordsAt x j) num)) = V.str "blocked") = blkAt x num j := by
    unfold blkAt
    exact decide_eq_decide.mpr ⟨fun z => by injection z, fun z => by rw [z]⟩
  rw [e]
  exact ite_b h1 h2
theorem blk_V (x : Pl) (num j : Nat) : decide (V.str (doS (wdN (wordsAt x j) num)) = V.str "blocked") = blkAt x num j := by
  unfold blkAt
  exact decide_eq_decide.mpr ⟨fun z => by injection z, fun z => by rw [z]⟩
theorem drop_map_range {α : Type} (f : Nat → α) (n i : Nat) : ((List.range n).map f).drop i = ((List.range n).drop i).map f := by rw [List.map_drop]
section
variable {P : Program} {w : World} {K : PySem.W.Frag} {mg : Str → Option Value} {base : Heap} {a : Ad}
end
end Sb

namespace Sb
open PySem PySem.Spec PyProof.Rows L2 TL
/-! ### data that _law_equal walks -/
structure Fine (n : Nat) (d : PyData) : Prop where
  ok : okD d = true
  dep : d.depth ≤ n
theorem okAll_of : ∀ {ds : List PyData}, (∀ d ∈ ds, okD d = true) → okAll ds = true
  | [], _ => rfl
  | d :: ds, h => by
    show (okD d && okAll ds) = true
    rw [h d List.mem_cons_self, okAll_of fun e he => h e (List.mem_cons_of_mem _ he)]
    rfl
theorem depthAll_of {n : Nat} : ∀ {ds : List PyData}, (∀ d ∈ ds, d.depth ≤ n) → PyData.depthAll ds ≤ n
  | [], _ => Nat.zero_le _
  | d :: ds, h => by
    show max d.depth (PyData.depthAll ds) ≤ n
    exact Nat.max_le.mpr ⟨h d List.mem_cons_self, depthAll_of fun e he => h e (List.mem_cons_of_mem _ he)⟩
theorem Fine.list {n : Nat} {ds : List PyData} (h : ∀ d ∈ ds, Fine n d) (l : ds.length ≤ 1000000) : Fine (n + 1) (.list ds) := by
  refine ⟨?_, ?_⟩
  · show (decide (ds.length ≤ 1000000) && okAll ds) = true
    rw [decide_eq_true l, okAll_of fun d hd => (h d hd).ok]
    rfl
  · show PyData.depthAll ds + 1 ≤ n + 1
    exact Nat.succ_le_succ (depthAll_of fun d hd => (h d hd).dep)
theorem Fine.tuple {n : Nat} {ds : List PyData} (h : ∀ d ∈ ds, Fine n d) (l : ds.length ≤ 1000000) : Fine (n + 1) (.tuple ds) := by
  refine ⟨?_, ?_⟩
  · show (decide (ds.length ≤ 1000000) && okAll ds) = true
    rw [decide_eq_true l, okAll_of fun d hd => (h d hd).ok]
    rfl
  · show PyData.depthAll ds + 1 ≤ n + 1
    exact Nat.succ_le_succ (depthAll_of fun d hd => (h d hd).dep)
theorem Fine.mono {n m : Nat} {d : PyData} (h : Fine n d) (l : n ≤ m) : Fine m d := ⟨h.ok, Nat.le_trans h.dep l⟩
theorem Fine.int {n : Nat} (i : Int) : Fine n (.int i) := ⟨rfl, Nat.zero_le _⟩
theorem Fine.str {n : Nat} (i : Str) : Fine n (.str i) := ⟨rfl, Nat.zero_le _⟩
theorem Fine.bool {n : Nat} (i : Bool) : Fine n (.bool i) := ⟨rfl, Nat.zero_le _⟩
theorem Fine.none {n : Nat} : Fine n .none := ⟨rfl, Nat.zero_le _⟩
theorem fine_natsD {n : Nat} {l : List Nat} (h : l.length ≤ 1000000) : Fine (n + 1) (natsD l) := Fine.list (fun d hd => by obtain ⟨k, _, rfl⟩ := List.mem_map.mp hd; exact .int _) (by rw [List.length_map]; exact h)
theorem fine_natsT {n : Nat} {l : List Nat} (h : l.length ≤ 1000000) : Fine (n + 1) (natsT l) := Fine.tuple (fun d hd => by obtain ⟨k, _, rfl⟩ := List.mem_map.mp hd; exact .int _) (by rw [List.length_map]; exact h)
theorem fine2 {n : Nat} {P : PyData → Prop} {a b : PyData} (ha : P a) (hb : P b) : ∀ d ∈ [a, b], P d := fun d hd => by
  rcases List.mem_cons.mp hd with rfl | hd
  · exact ha
  · rw [List.mem_singleton.mp hd]; exact hb
theorem fine3 {n : Nat} {P : PyData → Prop} {a b c : PyData} (ha : P a) (hb : P b) (hc : P c) : ∀ d ∈ [a, b, c], P d := fun d hd => by
  rcases List.mem_cons.mp hd with rfl | hd
  · exact ha
  · exact fine2 (n := 0) hb hc d hd
theorem equal_go {K : PySem.W.Frag} {n : Nat} {v u : V} {d : PyData} {H : Hp} {Q : VK} {E : XK} (hv : Dp K H v d) (hu : Dp K H u d) (f : Fine n d) (k : ∀ H', Same H H' → Q (.bl true) H') : spEqual K n [v, u] H Q E := ⟨⟨v, u, d, rfl, hv, hu, f.dep, f.ok, k⟩⟩
/-! ### the days -/
def dayD (x : Pl) (j : Nat) : PyData := .tuple [wordsD (wordsAt x j), sitL (sitAt x (j + 1))]
theorem last_at {xs : List V} {v : V} : atI (xs ++ [v]) (-1) = some v := by
  have := ixN_last (n := xs.length)
  unfold atI
  rw [List.length_append, List.length_singleton, this]
  simp
end Sb

namespace Sb
open PySem PySem.Spec PyProof.Rows L2 TL
structure spLCycle (K : PySem.W.Frag) (vs : List V) (H : Hp) (Q : VK) (E : XK) : Prop where
  ex : ∃ (G : Hp) (v : V) (x : Pl) (i n : Nat), vs = [v] ∧ Dp K G v x.D ∧ x.Ok ∧ Cyc x i n ∧ n ≤ 20000 ∧ Pure G H Q fun G' u => Dp K G' u (.tuple [.list ((List.range n).map (dayD x)), natD i])
section
variable {P : Program} {w : World} {K : PySem.W.Frag} {mg : Str → Option Value} {base : Heap} {a : Ad}
theorem ok_l_cycle (T : Txt K mg a) : FnOk P w K mg base CX0 3 a.f_l_cycle a.d_l_cycle ["_law_plan_here"] (spLCycle K) := by
  refine T.F_l_cycle.ok sc_l_cycle (fun vs H Q E h => ?_) (fun cdv A outer s0 H vs Q E hr h => ?_)
  · obtain ⟨⟨G, v, x, i, n, rfl, _⟩⟩ := h
    rfl
  · obtain ⟨⟨G, v, x, i, n, rfl, hp, hx, hc, hn, hGH, k⟩⟩ := h
    refine ⟨_, (pss_cons (ps_par3 (i := 1) (j := 2) (l := 3) (by rfl) sc_l_cycle.nd rfl rfl rfl (by decide) (by decide) (by decide) rfl rfl rfl (pa_cons (pe_call (ok_l_empty T) (hr.mono (by decide)) rfl T.m_l_empty T.F_l_empty.kp (b_l_empty T) .nil pass0 (pa_cons (pv 0) pa_nil)) (pa_cons (pe_lst pa_nil) (pa_cons pe_dnewN pa_nil))) (by rfl))
      (pss_one (ps_while PassesOwn.never (pt_val pe_bl) (pss_cons (ps_set (i := 4) sc_l_cycle.nd rfl (Or.inl rfl) (pe_callTy call_tuple_of (by rfl) T.z_tuple (by decide +kernel) (pa_cons (pe_lc (own := [("_law_part", 5)]) (g := gName 5) (te := (tCB (fun xs H Q => ∃ p ys, xs = [.ref p] ∧ ((SqL K H p ys ∧ ∀ l, H l = none → Q (.ref l) (upd H l (.tup ys))) ∨ (SqT K H p ys ∧ Q (.ref p) H))) (tCons (tVar 5) tNil))) (tt := tYes) rfl sc_l_cycle.nd (pi_list (pv 1)) (blkOk_by (own := [("_law_part", 5)]) (N := ["_law_plan_here", "_law_state", "_law_found", "_law_keys", "_law_key", "_law_part"]) (sc := (defScope s_l_cycle)) (by decide +kernel)) (fun _ _ _ _ _ => (pg_name (i := 5) sc_l_cycle.nd rfl (Or.inl rfl))) (fun _ _ _ _ _ => pts_nil) (fun _ _ _ _ _ => by exact (pe_callTy call_tuple_of (by rfl) T.z_tuple (by decide +kernel) (pa_cons (pv 5) pa_nil)))) pa_nil)))
      (pss_cons (ps_if (pt_cmpR (op_inN hr.units) (pv 4) (pv 3) rfl) (pss_one (ps_ret (pe_tup (pa_cons (pv 2) (pa_cons (pe_dgetN hr.units (pv 3) (pv 4) (fun _ _ => rfl)) pa_nil))))) pss_nil)
      (pss_cons (ps_asg (pe_callB call_len_seq (by rfl) T.z_len (by decide +kernel) (pa_cons (pv 2) pa_nil)) (pg_sub (pv 3) (pv 4) (set_newN hr.units)))
      (pss_cons (ps_expr (pe_bm PySem.F.plainAttrs_list PySem.F.slot_list_append PySem.F.type_list_append mt_append (pv 2) (pa_cons (pe_call (ok_l_tick T) (hr.mono (by decide)) rfl T.m_l_tick T.F_l_tick.kp (b_l_tick T) .nil pass0 (pa_cons (pv 0) (pa_cons (pv 1) pa_nil))) pa_nil)))
      (pss_one (ps_set (i := 1) sc_l_cycle.nd rfl (Or.inl rfl) (pe_ix ix_tup (pe_ix ix_list (pv 2) (pe_un un_neg pe_int) (fun _ _ => rfl)) pe_int (fun _ _ => rfl))))))))))), ?_⟩
    refine ⟨_, rfl, ⟨⟨G, v, x, rfl, hp, hGH, fun G1 H1 u x1 s1 d1 => ?_⟩⟩⟩
    have p1 := (Pt.start hGH).call x1 s1
    refine ⟨Nat.zero_le _, fun fl hfl => ?_⟩
    have fl0 : H fl = none := p1.free hfl
    have p2 := p1.lay hfl (.lst [])
    intro kd hkd
    have kd0 : H kd = none := p2.free hkd
    have kf : fl ≠ kd := ne_of_none upd_same hkd
    refine ⟨_, _, _, rfl, ?_⟩
    refine ⟨fun m σ H' => ∃ (j : Nat) (G' : Hp) (u : V) (xs : Ents) (vs : List V) (v4 : Option V), σ = [some v, some u, some (.ref fl), some (.ref kd), v4, none] ∧ Pt G H G' H' ∧ G' fl = none ∧ H' fl = some (.lst vs) ∧ vs.length = j ∧ DpAll K G' vs ((List.range j).map (dayD x)) ∧ Dp K G' u (sitL (sitAt x j)) ∧ DK P w K G' H' kd xs ∧ Met x xs j (fun m => .int m) ∧ j ≤ n ∧ m = n + 1 - j,
      ⟨n + 1, 0, G1, u, [], [], none, rfl, p2.lay hkd _, p1.freeG hfl, by rw [upd_ne kf, upd_same], rfl, .nil, d1, ⟨upd_same, p2.freeG hkd, fun _ h => nomatch h⟩, Met.nil, Nat.zero_le _, rfl⟩, ?_⟩
    rintro m σ H' ⟨j, G', u, xs, vs, v4, rfl, B, flG, hfl', hvs, hdv, du, hK, hM, hjn, hm⟩
    refine ⟨_, rfl, iteT ⟨_, fun σ' H' h => h, ?_⟩⟩
    have so := sitAt_ok hx j
    obtain ⟨ua, uc, un, ub, ue, rfl, hua, huc, hun, hub, hue⟩ := sitL_inv du
    -- the key
    refine ⟨_, rfl, ua, rfl, ⟨_, B.s.seq hua⟩, fun D hD => ?_⟩
    have D0 := B.free hD
    have DG := B.freeG hD
    refine lc_list (K := K) (a := ua) (xs := [.ref uc, .ref un, .ref ub, .ref ue]) (fun m H2 => ∃ (G2 : Hp) (us : List V), us.length = m ∧ Pt G' H' G2 H2 ∧ H2 D = some (.lst us) ∧ G2 D = none ∧ DpAll K G2 us (([natsT (sitAt x j).cs, natsT (sitAt x j).ns, boolsT (sitAt x j).hs, natsT (sitAt x j).sh] : List PyData).take m))
      ⟨G', [], rfl, (Pt.start B.s).lay hD _, upd_same, DG, .nil⟩ (fun m H2 _ ⟨G2, us, _, q1, _⟩ => (q1.g.trans q1.s).seq hua) ?_ ?_
    · rintro m y H2 hy ⟨G2, us, hm, q1, hD2, DG2, hus⟩
      obtain ⟨q, it, dd, rfl, hq, hd, hit⟩ : ∃ (q : Addr) (it : List V) (dd : List PyData), y = .ref q ∧ SqL K G' q it ∧ ([natsT (sitAt x j).cs, natsT (sitAt x j).ns, boolsT (sitAt x j).hs, natsT (sitAt x j).sh] : List PyData)[m]? = some (.tuple dd) ∧ ∀ G, DpAll K G it dd := by
        match m, hy with
        | 0, hy => exact ⟨uc, _, _, (Option.some.inj hy).symm, huc, rfl, fun _ => nats_D' _⟩
        | 1, hy => exact ⟨un, _, _, (Option.some.inj hy).symm, hun, rfl, fun _ => nats_D' _⟩
        | 2, hy => exact ⟨ub, _, _, (Option.some.inj hy).symm, hub, rfl, fun _ => bools_D _⟩
        | 3, hy => exact ⟨ue, _, _, (Option.some.inj hy).symm, hue, rfl, fun _ => nats_D' _⟩
        | m + 4, hy => simp at hy
      have hm4 : m < 4 := (List.getElem?_eq_some_iff.mp hy).1
      refine ⟨rfl, _, rfl, q, it, rfl, .inl ⟨(q1.g.trans q1.s).seq hq, fun l hl => ?_⟩⟩
      have Dl : D ≠ l := ne_of_none hD2 hl
      have r1 := q1.new hl (.tup it)
      have gl := same_new (o := .tup it) (q1.freeG hl)
      have DG3 : (upd G2 l (.tup it)) D = none := by rw [upd_ne Dl]; exact DG2
      refine ⟨_, by rw [upd_ne Dl]; exact hD2, smaller 4 (by omega) (by decide), upd G2 l (.tup it), us ++ [.ref l], by rw [List.length_append, hm]; rfl, r1.put hD DG3 _, upd_same, DG3, ?_⟩
      rw [take_more hd]
      exact DpAll.snoc (Dp.monoAll gl _ _ hus) (.tup (SqT.of upd_same) (hit _))
    rintro H2 ⟨G2, us, _, q1, hD2, DG2, hus⟩
    refine ⟨D, _, rfl, .inl ⟨SqL.of hD2, fun ky hky => ?_⟩⟩
    have q2 := q1.new hky (.tup us)
    have r2 := B.call q2.ext q2.sm
    have g2 := same_new (o := .tup us) (q1.freeG hky)
    have K2 : DK P w K (upd G2 ky (.tup us)) (upd H2 ky (.tup us)) kd xs := hK.grow q2.g (fun o ho => q2.sm _ _ ho) (q2.ext.out hK.out hK.at_)
    have hfl2 := q2.sm _ _ hfl'
    have flG2 := q2.ext.out flG hfl'
    have dky : Dp K (upd G2 ky (.tup us)) (.ref ky) (sitT (sitAt x j)) := .tup (SqT.of upd_same) (Dp.monoAll g2 _ _ hus)
    have hdv2 := Dp.monoAll q2.g _ _ hdv
    have du2 := Dp.mono q2.g _ _ du
    revert r2 K2 hfl2 flG2 dky hdv2 du2 q2
    generalize upd G2 ky (.tup us) = G3
    generalize upd H2 ky (.tup us) = H3
    intro q2 r2 K2 hfl2 flG2 dky hdv2 du2
    -- in
    refine ⟨_, rfl, _, rfl, kd, ky, xs, _, _, rfl, rfl, K2.dn r2.s, Dp.mono r2.s _ _ dky, nk_sit _, nk_depth _, _, rfl, ite2 (fun c => ?_) (fun c => ?_)⟩
    · have c' : nkOf (sitAt x j) ∈ xs.map (·.1) := of_decide_eq_true c
      have ej : j = n := cyc_found hc hjn ((hM.keys _).mp c')
      subst ej
      obtain ⟨b, hb⟩ := hM.2 i hc.lt
      rw [hc.eq] at hb
      refine ⟨_, rfl, _, rfl, _, rfl, kd, ky, xs, _, _, rfl, rfl, K2.dn r2.s, Dp.mono r2.s _ _ dky, nk_sit _, nk_depth _, List.mem_of_getElem? hb, (by show 2 ≤ sizeLine; decide), fun p hp => ?_⟩
      have r3 := (r2.freeze fl0 hfl2).new hp (.tup [.ref fl, .int i])
      have g3 := same_new (H := G3) (p := fl) (o := .lst vs) flG2
      have g4 := same_new (H := upd G3 fl (.lst vs)) (p := p) (o := .tup [.ref fl, .int i]) ((r2.freeze fl0 hfl2).freeG hp)
      exact k _ _ _ r3.ext r3.sm (.tup (SqT.of upd_same) (.cons (.lst (g4.seq (SqL.of upd_same)) (Dp.monoAll (g3.trans g4) _ _ hdv2)) (.cons (.int _) .nil)))
    · have c' : nkOf (sitAt x j) ∉ xs.map (·.1) := fun z => c (decide_eq_true z)
      have hno := fun z => c' ((hM.keys _).mpr z)
      have hjlt : j < n := by
        rcases Nat.lt_or_ge j n with h | h
        · exact h
        · exfalso
          have ej : j = n := by omega
          subst ej
          exact hno ⟨i, hc.lt, hc.eq⟩
      -- keys[key] = len(found)
      refine ⟨_, rfl, fl, _, rfl, .inl (SqL.of hfl2), _, rfl, _, rfl, kd, ky, xs, _, _, rfl, rfl, K2.dn r2.s, Dp.mono r2.s _ _ dky, nk_sit _, nk_depth _, c', small 20000 (by rw [hM.1]; omega) (by decide), ?_⟩
      rw [hvs]
      have r3 := r2.put kd0 K2.out (dNO P w kd (xs ++ [(nkOf (sitAt x j), ky, .int j)]))
      have K3 := K2.put (v := .int j) dky
      have hfl3 : (upd H3 kd (dNO P w kd (xs ++ [(nkOf (sitAt x j), ky, .int j)]))) fl = some (.lst vs) := by rw [upd_ne kf]; exact hfl2
      -- append
      refine ⟨_, rfl, .inl ⟨rfl, _, SqL.of hfl3⟩, ?_⟩
      refine ⟨_, rfl, _, rfl, ⟨⟨G3, v, .ref ua, x, _, rfl, Dp.mono r3.g _ _ hp, du2, hx, so, r3.s, fun G4 H4 z x4 s4 d4 => ?_⟩⟩⟩
      have r4 := r3.call x4 s4
      have flG4 := x4.out flG2 hfl3
      have K4 := K3.grow x4.g (fun o ho => s4 _ _ ho) (x4.out K3.out K3.at_)
      refine ⟨fl, vs, z, rfl, rfl, s4 _ _ hfl3, smaller 20000 (by omega) (by decide), ?_⟩
      have r5 := r4.put fl0 flG4 (.lst (vs ++ [z]))
      have K5 := K4.grow (Same.refl _) (H' := upd H4 fl (.lst (vs ++ [z]))) (fun o ho => by rw [upd_ne kf.symm]; exact ho) K4.out
      obtain ⟨t4, ys4, rfl, ht4, hy4⟩ := Dp.tup_inv d4
      obtain ⟨z1, r6, rfl, e1, hy4⟩ := DpAll.cons_inv hy4
      obtain ⟨z2, r7, rfl, e2, hy4⟩ := DpAll.cons_inv hy4
      cases DpAll.nil_inv hy4
      refine ⟨_, rfl, _, rfl, fl, _, _, .ref t4, rfl, rfl, SqL.of upd_same, last_at, t4, _, _, z2, rfl, rfl, Same.seqT r5.s ht4, at_of (j := 1) rfl rfl, ?_⟩
      refine ⟨n + 1 - (j + 1), by omega, j + 1, G4, z2, _, _, _, rfl, r5, flG4, upd_same, by rw [List.length_append, hvs]; rfl, ?_, e2, K5, hM.snoc, hjlt, rfl⟩
      rw [range_more]
      exact DpAll.snoc (Dp.monoAll x4.g _ _ hdv2) d4
end
end Sb

namespace Sb
open PySem PySem.Spec PyProof.Rows L2 TL
structure spSomeTick (vs : List V) (H : Hp) (Q : VK) (E : XK) : Prop where
  ex : ∃ (d : Addr) (G : Hp), vs = [.ref d] ∧ Drawn d G H Q fun _ v => ∃ t : Nat, v = .int t ∧ t ≤ 1000000000000000000
structure spLPlace (K : PySem.W.Frag) (vs : List V) (H : Hp) (Q : VK) (E : XK) : Prop where
  ex : ∃ (G : Hp) (v : V) (ds : List PyData) (i n t : Nat), vs = [v, .int t] ∧ Dp K G v (.tuple [.list ds, natD i]) ∧ ds.length = n ∧ i < n ∧ Same G H ∧ Q (.int (placeP i n t : Nat)) H
section
variable {P : Program} {w : World} {K : PySem.W.Frag} {mg : Str → Option Value} {base : Heap} {a : Ad}
theorem ok_l_place (T : Txt K mg a) : FnOk P w K mg base CX0 1 a.f_l_place a.d_l_place ["_law_cycle_here", "_law_tick_here"] (spLPlace K) := by
  refine T.F_l_place.ok sc_l_place (fun vs H Q E h => ?_) (fun cdv A outer s H vs Q E hr h => ?_)
  · obtain ⟨⟨G, v, ds, i, n, t, rfl, _⟩⟩ := h
    rfl
  · obtain ⟨⟨G, v, ds, i, n, t, rfl, hD, hds, hin, hGH, k⟩⟩ := h
    refine ⟨_, (pss_cons (ps_par (i := 2) (j := 3) (by rfl) sc_l_place.nd rfl rfl (by decide) rfl rfl (pa_cons (pe_callB call_len_seq (by rfl) T.z_len (by decide +kernel) (pa_cons (pe_ix ix_tup (pv 0) pe_int (fun _ _ => rfl)) pa_nil)) (pa_cons (pe_ix ix_tup (pv 0) pe_int (fun _ _ => rfl)) pa_nil)) (by rfl))
      (pss_one (ps_ret (pe_ifExp (pt_cmpR op_lt (pv 1) (pv 2) (nomark _)) (pv 1) (pe_op op_add (pv 3) (pe_op op_mod (pe_op op_sub (pv 1) (pv 3)) (pe_op op_sub (pv 2) (pv 3)))))))), ?_⟩
    obtain ⟨tc, ys, rfl, htc, hys⟩ := Dp.tup_inv hD
    obtain ⟨fv, r1, rfl, hfv, hys⟩ := DpAll.cons_inv hys
    obtain ⟨iv, r2, rfl, hiv, hys⟩ := DpAll.cons_inv hys
    cases DpAll.nil_inv hys
    obtain ⟨fl, xs, rfl, hfl, hxs⟩ := Dp.lst_inv hfv
    cases Dp.int_inv hiv
    have lx : xs.length = n := (DpAll.len hxs).trans hds
    refine ⟨_, rfl, tc, _, _, .ref fl, rfl, rfl, Same.seqT hGH htc, at_of (j := 0) rfl rfl, fl, _, rfl, .inl (hGH.seq hfl), _, rfl, tc, _, _, .int i, rfl, rfl, Same.seqT hGH htc, at_of (j := 1) rfl rfl, _, _, rfl, ?_⟩
    rw [lx]
    refine ⟨_, rfl, _, rfl, _, _, rfl, rfl, _, rfl, ite2 (fun c => ?_) (fun c => ?_)⟩
    · have c' : t < n := by have := of_decide_eq_true c; omega
      have e : placeP i n t = t := if_pos c'
      rw [e] at k
      exact ⟨_, rfl, k⟩
    · have c' : ¬ t < n := fun z => c (decide_eq_true (by omega))
      have e : placeP i n t = i + (t - i) % (n - i) := if_neg c'
      rw [e] at k
      refine ⟨_, rfl, _, rfl, _, rfl, _, _, rfl, rfl, _, rfl, _, rfl, _, _, rfl, rfl, _, _, rfl, rfl, (by show (0 : Int) < (n : Int) - (i : Int); omega), _, _, rfl, rfl, ?_⟩
      dsimp only
      rw [show (t : Int) - (i : Int) = ((t - i : Nat) : Int) by omega, show (n : Int) - (i : Int) = ((n - i : Nat) : Int) by omega]
      have e2 : (i : Int) + ((t - i : Nat) : Int) % ((n - i : Nat) : Int) = ((i + (t - i) % (n - i) : Nat) : Int) := by push_cast; rfl
      rw [e2]
      exact k
end
end Sb

namespace Sb
open PySem PySem.Spec PyProof.Rows L2 TL LamX NdefX
/-! ### data that == walks -/
structure Lay (n : Nat) (d : PyData) : Prop where
  lay : d.canLay0 = true
  dep : d.depth ≤ n
theorem layAll_of : ∀ {ds : List PyData}, (∀ d ∈ ds, d.canLay0 = true) → PyData.canLayAll0 ds = true
  | [], _ => rfl
  | d :: ds, h => by
    show (d.canLay0 && PyData.canLayAll0 ds) = true
    rw [h d List.mem_cons_self, layAll_of fun e he => h e (List.mem_cons_of_mem _ he)]
    rfl
theorem Lay.list {n : Nat} {ds : List PyData} (h : ∀ d ∈ ds, Lay n d) : Lay (n + 1) (.list ds) := ⟨layAll_of fun d hd => (h d hd).lay, Nat.succ_le_succ (depthAll_of fun d hd => (h d hd).dep)⟩
theorem Lay.tuple {n : Nat} {ds : List PyData} (h : ∀ d ∈ ds, Lay n d) : Lay (n + 1) (.tuple ds) := ⟨layAll_of fun d hd => (h d hd).lay, Nat.succ_le_succ (depthAll_of fun d hd => (h d hd).dep)⟩
theorem Lay.mono {n m : Nat} {d : PyData} (h : Lay n d) (l : n ≤ m) : Lay m d := ⟨h.lay, Nat.le_trans h.dep l⟩
theorem Lay.int {n : Nat} (i : Int) : Lay n (.int i) := ⟨rfl, Nat.zero_le _⟩
theorem Lay.bool {n : Nat} (i : Bool) : Lay n (.bool i) := ⟨rfl, Nat.zero_le _⟩
theorem Lay.none {n : Nat} : Lay n .none := ⟨rfl, Nat.zero_le _⟩
theorem Lay.str {n : Nat} {x : Str} (h : PyData.strOk x = true) : Lay n (.str x) := ⟨h, Nat.zero_le _⟩
theorem Lay.shaped {n : Nat} {ds : List PyData} (h : Lay n (.list ds)) (hn : n ≤ 64) : SeqAt.shaped (.list ds) = true := by
  have h1 : PyData.canLayAll0 ds = true := h.lay
  have h2 : PyData.depthAll ds + 1 ≤ n := h.dep
  show (PyData.canLayAll0 ds && decide (PyData.depthAll ds + 1 ≤ 64)) = true
  rw [h1, decide_eq_true (by omega)]; rfl
theorem Lay.shapedT {n : Nat} {ds : List PyData} (h : Lay n (.tuple ds)) (hn : n ≤ 64) : SeqAt.shaped (.tuple ds) = true := by
  have h1 : PyData.canLayAll0 ds = true := h.lay
  have h2 : PyData.depthAll ds + 1 ≤ n := h.dep
  show (PyData.canLayAll0 ds && decide (PyData.depthAll ds + 1 ≤ 64)) = true
  rw [h1, decide_eq_true (by omega)]; rfl
theorem lay_nats {n : Nat} (l : List Nat) : Lay (n + 1) (natsD l) := Lay.list fun d hd => by obtain ⟨k, _, rfl⟩ := List.mem_map.mp hd; exact .int _
theorem lay_natsT {n : Nat} (l : List Nat) : Lay (n + 1) (natsT l) := Lay.tuple fun d hd => by obtain ⟨k, _, rfl⟩ := List.mem_map.mp hd; exact .int _
theorem lay_bools {n : Nat} (l : List Bool) : Lay (n + 1) (boolsD l) := Lay.list fun d hd => by obtain ⟨k, _, rfl⟩ := List.mem_map.mp hd; exact .bool _
theorem doS_ok {w : Nat} (h : w ≤ 8) : PyData.strOk (doS w) = true := by
  have h' : ∀ w : _root_.Fin 9, PyData.strOk (doS w.val) = true := by decide +kernel
  exact h' ⟨w, by omega⟩
theorem lay2 {P : PyData → Prop} {a b : PyData} (ha : P a) (hb : P b) : ∀ d ∈ [a, b], P d := fine2 (n := 0) ha hb
theorem lay4 {P : PyData → Prop} {a b c e : PyData} (ha : P a) (hb : P b) (hc : P c) (he : P e) : ∀ d ∈ [a, b, c, e], P d := fun d hd => by
  rcases List.mem_cons.mp hd with rfl | hd
  · exact ha
  · exact fine3 (n := 0) hb hc he d hd
theorem lay_words {n : Nat} {w : Nat × Nat} (h1 : w.1 ≤ 8) (h2 : w.2 ≤ 8) : Lay (n + 1) (wordsD w) := Lay.tuple (lay2 (.str (doS_ok h1)) (.str (doS_ok h2)))
theorem lay_sit (s : Sit) : Lay 2 (sitL s) := Lay.list (lay4 (lay_nats _) (lay_nats _) (lay_bools _) (lay_nats _))
theorem lay_day {x : Pl} (hx : x.Ok) (j : Nat) : Lay 3 (dayD x j) := Lay.tuple (lay2 ((lay_words (n := 0) (words_le hx j).1 (words_le hx j).2).mono (by decide)) (lay_sit _))
theorem eqv_nil (ds : List PyData) : PyData.eqv (.list ds) (.list []) = ds.isEmpty := by cases ds <;> rfl
theorem filt_empty {α : Type} (l : List Nat) (b : Nat → Bool) (f : Nat → α) : ((l.filter fun j => !b j).map f).isEmpty = l.all b := by
  induction l with
  | nil => rfl
  | cons a l ih =>
    rw [List.filter_cons]
    cases h : b a with
    | true => simpa [h] using ih
    | false => simp [h]
theorem filt_more {α : Type} {l : List α} {t : Nat} {x : α} (p : α → Bool) (h : l[t]? = some x) : (l.take (t + 1)).filter p = (l.take t).filter p ++ (if p x = true then [x] else []) := by
  rw [take_more h, List.filter_append]
  congr 1
  by_cases q : p x = true
  · rw [if_pos q, List.filter_cons_of_pos q]; rfl
  · rw [if_neg q, List.filter_cons_of_neg q]; rfl
theorem sum_mid (f : Nat → Nat) {n i q : Nat} (h : i + q ≤ n) : ((((List.range n).map f).drop i).take q).sum = cntF f (i + q) - cntF f i := by
  have e : (((List.range n).map f).drop i).take q = (((List.range n).map f).take (i + q)).drop i := by
    rw [List.drop_take, show i + q - i = q by omega]
  rw [e, take_range f h, sum_drop f (by omega)]
/-! ### the draws, with the tables of the code objects -/
/-! ### the law's own words on blocked robots -/
structure spLStuck (K : PySem.W.Frag) (vs : List V) (H : Hp) (Q : VK) (E : XK) : Prop where
  ex : ∃ (G : Hp) (v : V) (x : Pl) (i n : Nat), vs = [v] ∧ Dp K G v (.tuple [.list ((List.range n).map (dayD x)), natD i]) ∧ x.Ok ∧ i < n ∧ n ≤ 20000 ∧ Pure G H Q fun G' v => Dp K G' v (natsD (stuckL x i n))
structure spLSum (K : PySem.W.Frag) (vs : List V) (H : Hp) (Q : VK) (E : XK) : Prop where
  ex : ∃ (G : Hp) (v : V) (l : Addr) (d0 : PyData) (f : Nat → Nat) (i n t : Nat), vs = [v, .ref l, .int t] ∧ Dp K G v (.tuple [d0, natD i]) ∧ Same G H ∧ H l = some (.lst (nV ((List.range n).map f))) ∧ i < n ∧ n ≤ 20000 ∧ t ≤ 1000000000000000000 ∧ (∀ t, i ≤ t → f (t + (n - i)) = f t) ∧ (∀ j, f j ≤ 1) ∧
    ∀ H', Same H H' → Q (.int (cntF f t : Nat)) H'
section
variable {P : Program} {w : World} {K : PySem.W.Frag} {mg : Str → Option Value} {base : Heap} {a : Ad}
end
end Sb

namespace Sb
open PySem PySem.Spec PyProof.Rows L2 TL LamX NdefX
def optV : Option Nat → V
  | none => .non
  | some k => .int k
theorem optV_D {K : PySem.W.Frag} {H : Hp} (o : Option Nat) : Dp K H (optV o) (optD o) := by
  cases o with
  | none => exact .non
  | some k => exact .int _
theorem find_some {f : Nat → Bool} {n j : Nat} (hj : j < n) (h : ∀ m, m < j → f m = false) (hf : f j = true) : (List.range n).find? f = some j := by
  rw [List.find?_range_eq_some]
  exact ⟨hf, List.mem_range.mpr hj, fun m hm => by rw [h m hm]; rfl⟩
theorem find_none {f : Nat → Bool} {n : Nat} (h : ∀ m, m < n → f m = false) : (List.range n).find? f = none := by
  rw [List.find?_eq_none]
  intro m hm
  rw [h m (List.mem_range.mp hm)]
  decide
/-- where a log is wrong first -/
def errP (x : Pl) (ds : List PyData) : Option Nat := (List.range ds.length).find? fun j => !PyData.eqv (ds.getD j .none) (wordsD (wordsAt x j))
structure spFirstErr (K : PySem.W.Frag) (vs : List V) (H : Hp) (Q : VK) (E : XK) : Prop where
  ex : ∃ (src : Str) (G : Hp) (l : Addr) (us : List V) (ds : List PyData) (x : Pl) (i n : Nat), vs = [.str src, .ref l] ∧ Told src x i n ∧ H l = some (.lst us) ∧ DpAll K G us ds ∧ (∀ d ∈ ds, SeqAt.shaped d = true) ∧ Same G H ∧
    ∀ G' H', Ext G H G' H' → Same H H' → Q (optV (errP x ds)) H'
section
variable {P : Program} {w : World} {K : PySem.W.Frag} {mg : Str → Option Value} {base : Heap} {a : Ad}
theorem ok_first_error (T : Txt K mg a) : FnOk P w K mg base CX0 9 a.f_first_error a.d_first_error ["plan", "log"] (spFirstErr K) := by
  refine T.F_first_error.ok sc_first_error (fun vs H Q E h => ?_) (fun cdv A outer s H vs Q E hr h => ?_)
  · obtain ⟨⟨src, G, l, us, ds, x, i, n, rfl, _⟩⟩ := h
    rfl
  · obtain ⟨⟨src, G, l, us, ds, x, i, n, rfl, ⟨ld, ok, cy, le⟩, hl, hus, hsh, hGH, k⟩⟩ := h
    refine ⟨_, (pss_cons (ps_set (i := 2) sc_first_error.nd rfl (Or.inl rfl) (pe_make T.mk_Story (ok_Story_init T) (hr.mono (by decide)) (by rfl) T.m_Story (b_Story_init T) .nil pass0 (pa_cons (pe_call (ok_load T) (hr.mono (by decide)) rfl T.m_load T.F_load.kp (b_load T) .nil pass0 (pa_cons (pv 0) pa_nil)) pa_nil)))
      (pss_cons (ps_if (pt_not (pt_val (pe_callB call_isi (by rfl) T.z_isinstance (by decide +kernel) (pa_cons (pv 1) (pa_cons (pe_bltn (v := .ty "list") (by rfl) T.z_list (by decide +kernel) rfl) pa_nil))))) (pss_one (ps_ret pe_int)) pss_nil)
      (pss_cons (ps_for PassesOwn.never rfl (pi_enum (by rfl) T.z_enumerate (pa_cons (pv 1) pa_nil)) (pg_tup (by rfl) (pgs_cons (pg_name (i := 3) sc_first_error.nd rfl (Or.inl rfl)) (pgs_cons (pg_name (i := 4) sc_first_error.nd rfl (Or.inl rfl)) pgs_nil))) (pss_one (ps_if (pt_cmpR (op_neD hr.units) (pv 4) (pe_fld (pe_meth (pv 2) T.cl_Story T.M_Story_happens (ok_Story_happens T) (hr.mono (by decide)) (b_Story_happens T) .nil pass0 (pa_cons (pv 3) pa_nil)) rfl) (nomark _)) (pss_one (ps_ret (pv 3))) pss_nil)))
      (pss_one (ps_ret pe_non))))), ?_⟩
    refine ⟨_, rfl, ⟨⟨src, G, x, rfl, ld, ok, hGH, fun G1 H1 v1 x1 s1 h1 => ?_⟩⟩⟩
    have B1 := (Pt.start hGH).call x1 s1
    intro y dy ny nd ne
    obtain ⟨yG, sS, hp2⟩ := story_pre B1 h1 ny nd ne
    refine ⟨⟨y, dy, _, _, x, i, n, rfl, upd_same, yG, sS, hp2, ok, cy, le, fun G' H2 l0 vs0 M yG' hy' hl0 ht0 => ⟨rfl, ?_⟩⟩⟩
    obtain ⟨G2, B2, S2, hS⟩ := story_post B1 ny nd ne M yG' hy' hl0 ht0
    obtain ⟨y', dy2, l1, vs1, eY, hy, hl1, hts⟩ := id hS
    cases eY
    have hl2 := B2.sm _ _ hl
    have lu : us.length = ds.length := DpAll.len hus
    refine ⟨_, rfl, _, _, _, _, true, rfl, .ty _, .base (.lst hl2), rfl, _, rfl, ite_f rfl ?_⟩
    refine ⟨_, rfl, l, _, rfl, SqL.of hl2, for_it (walk_enum (K := K) (a := l) (xs := us)) (fun j σ H' => ∃ (v3 v4 : Option V), σ = [some (.str src), some (.ref l), some (.ref y), v3, v4] ∧ Pt G H G2 H' ∧ ∀ m, m < j → (!PyData.eqv (ds.getD m .none) (wordsD (wordsAt x m))) = false) ?_ ?_ ?_ ?_⟩
    · exact ⟨none, none, rfl, B2, fun m hm => absurd hm (Nat.not_lt_zero _)⟩
    · rintro j σ H' _ ⟨v3, v4, rfl, B, _⟩
      exact SqL.of (B.sm _ _ hl)
    · rintro j z σ H3 H4 hj ⟨v3, v4, rfl, B, hall⟩ ⟨T', p, q, rfl, hT', rfl, hp, hq⟩
      cases hp
      have hq : us[j]? = some q := hq
      obtain ⟨dd, hdd, hDd⟩ := DpAll.get hus hq
      have B3 := B.lay hT' (.tup [.int (j : Nat), q])
      have hjd : j < ds.length := by omega
      refine ⟨T', _, rfl, SqT.of upd_same, rfl, _, _, rfl, _, _, rfl, rfl, ?_⟩
      refine ⟨_, rfl, _, rfl, y, dy2, _, rfl, B3.s _ _ hy, (by kernel_rfl), _, rfl, ⟨⟨G2, _, x, i, n, j, rfl, hS, cy, B3.s, fun u hu => ?_⟩⟩⟩
      obtain ⟨r, dr, tw, su, rfl, hr1, hr2, _⟩ := hu
      obtain ⟨w1, w2⟩ := words_le ok j
      refine ⟨r, _, dr, _, .ref tw, rfl, B3.s _ _ hr1, T.cl_Tick, T.n_Tick_words, (by kernel_rfl), dd, wordsD (wordsAt x j), Dp.mono (B2.g.trans B3.s) _ _ hDd, .tup (Same.seqT B3.s hr2) (.cons (.str _) (.cons (.str _) .nil)), hsh dd (List.mem_of_getElem? hdd), words_shaped _ w1 w2, _, rfl, ?_⟩
      have ed : ds.getD j .none = dd := by rw [List.getD_eq_getElem?_getD, hdd]; rfl
      refine ite_b (fun c => ?_) (fun c => ?_)
      · refine ⟨_, rfl, ?_⟩
        have : errP x ds = some j := find_some hjd hall (by rw [ed]; exact c)
        rw [this] at k
        exact k _ _ B3.ext B3.sm
      · refine ⟨_, _, rfl, B3, fun m hm => ?_⟩
        by_cases e : m = j
        · subst e; rw [ed]; exact c
        · exact hall m (by omega)
    · rintro σ H3 ⟨v3, v4, rfl, B, hall⟩
      have : errP x ds = none := find_none fun m hm => hall m (by omega)
      rw [this] at k
      exact k _ _ B.ext B.sm
end
end Sb

namespace Sb
open PySem PySem.Spec PyProof.Rows L2 TL LamX NdefX
/-- what first_difference looks at -/
def csD (x : Pl) (t : Nat) : PyData := .tuple [natsT (sitAt x (t + 1)).cs, natsT (sitAt x (t + 1)).sh]
def diffP (x z : Pl) (b : Nat) : Option Nat := (List.range b).find? fun t => !PyData.eqv (csD x t) (csD z t)
theorem nats_lay (l : List Nat) : PyData.canLayAll0 (l.map natD) = true := by
  induction l with
  | nil => rfl
  | cons n l ih => show (true && PyData.canLayAll0 (l.map natD)) = true; rw [ih]; rfl
theorem nats_dep (l : List Nat) : PyData.depthAll (l.map natD) = 0 := by
  induction l with
  | nil => rfl
  | cons n l ih => show max 0 (PyData.depthAll (l.map natD)) = 0; rw [ih]; rfl
theorem cs_shaped (x : Pl) (t : Nat) : SeqAt.shaped (csD x t) = true := by
  unfold csD natsT
  have e1 : (PyData.tuple ((sitAt x (t + 1)).cs.map natD)).depth = 1 := by show PyData.depthAll _ + 1 = 1; rw [nats_dep]
  have e2 : (PyData.tuple ((sitAt x (t + 1)).sh.map natD)).depth = 1 := by show PyData.depthAll _ + 1 = 1; rw [nats_dep]
  show ((PyData.canLayAll0 ((sitAt x (t + 1)).cs.map natD) && (PyData.canLayAll0 ((sitAt x (t + 1)).sh.map natD) && true)) && decide (max (PyData.tuple ((sitAt x (t + 1)).cs.map natD)).depth (max (PyData.tuple ((sitAt x (t + 1)).sh.map natD)).depth 0) + 1 ≤ 64)) = true
  rw [nats_lay, nats_lay, e1, e2]
  decide
structure spFirstDiff (K : PySem.W.Frag) (vs : List V) (H : Hp) (Q : VK) (E : XK) : Prop where
  ex : ∃ (s1 s2 : Str) (G : Hp) (x z : Pl) (i n i2 n2 : Nat), vs = [.str s1, .str s2] ∧ Told s1 x i n ∧ Told s2 z i2 n2 ∧ x.shelf.length = z.shelf.length ∧ Same G H ∧
    ∀ M, (n - i) ∣ M → (n2 - i2) ∣ M → 0 < M → ∀ G' H', Ext G H G' H' → Same H H' → Q (optV (diffP x z (max i i2 + M))) H'
section
variable {P : Program} {w : World} {K : PySem.W.Frag} {mg : Str → Option Value} {base : Heap} {a : Ad}
theorem ok_first_difference (T : Txt K mg a) : FnOk P w K mg base CX0 9 a.f_first_difference a.d_first_difference ["plan", "other"] (spFirstDiff K) := by
  refine T.F_first_difference.ok sc_first_difference (fun vs H Q E h => ?_) (fun cdv A outer s H vs Q E hr h => ?_)
  · obtain ⟨⟨s1, s2, G, x, z, i, n, i2, n2, rfl, _⟩⟩ := h
    rfl
  · obtain ⟨⟨s1, s2, G, x, z, i, n, i2, n2, rfl, ⟨ld, ok, cy, le⟩, ⟨ld2, ok2, cy2, le2⟩, hlen, hGH, k⟩⟩ := h
    refine ⟨_, (pss_cons (ps_par (i := 2) (j := 3) (by rfl) sc_first_difference.nd rfl rfl (by decide) rfl rfl (pa_cons (pe_call (ok_load T) (hr.mono (by decide)) rfl T.m_load T.F_load.kp (b_load T) .nil pass0 (pa_cons (pv 0) pa_nil)) (pa_cons (pe_call (ok_load T) (hr.mono (by decide)) rfl T.m_load T.F_load.kp (b_load T) .nil pass0 (pa_cons (pv 1) pa_nil)) pa_nil)) (by rfl))
      (pss_cons (ps_if (pt_cmpR op_ne (pe_callB call_len_seq (by rfl) T.z_len (by decide +kernel) (pa_cons (pe_fld (pv 2) rfl) pa_nil)) (pe_callB call_len_seq (by rfl) T.z_len (by decide +kernel) (pa_cons (pe_fld (pv 3) rfl) pa_nil)) (nomark _)) pss_never pss_nil)
      (pss_cons (ps_par (i := 4) (j := 5) (by rfl) sc_first_difference.nd rfl rfl (by decide) rfl rfl (pa_cons (pe_make T.mk_Story (ok_Story_init T) (hr.mono (by decide)) (by rfl) T.m_Story (b_Story_init T) .nil pass0 (pa_cons (pv 2) pa_nil)) (pa_cons (pe_make T.mk_Story (ok_Story_init T) (hr.mono (by decide)) (by rfl) T.m_Story (b_Story_init T) .nil pass0 (pa_cons (pv 3) pa_nil)) pa_nil)) (by rfl))
      (pss_cons (ps_set (i := 6) sc_first_difference.nd rfl (Or.inl rfl) (pe_prop (pv 4) T.cl_Story T.P_Story_size (ok_Story_size T) (hr.mono (by decide)) (b_Story_size T) .nil pass0 rfl))
      (pss_cons (ps_while PassesOwn.never (pt_cmpR op_ne (pe_op op_mul (pe_op op_fdiv (pv 6) (pe_prop (pv 5) T.cl_Story T.P_Story_size (ok_Story_size T) (hr.mono (by decide)) (b_Story_size T) .nil pass0 rfl)) (pe_prop (pv 5) T.cl_Story T.P_Story_size (ok_Story_size T) (hr.mono (by decide)) (b_Story_size T) .nil pass0 rfl)) (pv 6) (nomark _)) (pss_one (ps_aug (i := 6) sc_first_difference.nd rfl (Or.inl rfl) (pe_prop (pv 4) T.cl_Story T.P_Story_size (ok_Story_size T) (hr.mono (by decide)) (b_Story_size T) .nil pass0 rfl) ip_add)))
      (pss_cons (ps_for PassesOwn.never rfl (pi_range1 (by rfl) T.z_range (pa_cons (pe_op op_add (pe_callB (call_max2 rfl) (by rfl) T.z_max (by decide +kernel) (pa_cons (pe_fld (pv 4) rfl) (pa_cons (pe_fld (pv 5) rfl) pa_nil))) (pv 6)) pa_nil)) (pg_name (i := 7) sc_first_difference.nd rfl (Or.inl rfl)) (pss_cons (ps_set (i := 8) sc_first_difference.nd rfl (Or.inl rfl) (pe_tup (pa_cons (pe_fld (pe_meth (pv 4) T.cl_Story T.M_Story_happens (ok_Story_happens T) (hr.mono (by decide)) (b_Story_happens T) .nil pass0 (pa_cons (pv 7) pa_nil)) rfl) (pa_cons (pe_fld (pe_meth (pv 5) T.cl_Story T.M_Story_happens (ok_Story_happens T) (hr.mono (by decide)) (b_Story_happens T) .nil pass0 (pa_cons (pv 7) pa_nil)) rfl) pa_nil))))
      (pss_one (ps_if (pt_cmpR (op_neD hr.units) (pe_tup (pa_cons (pe_fld (pe_ix ix_tup (pv 8) pe_int (fun _ _ => rfl)) rfl) (pa_cons (pe_fld (pe_ix ix_tup (pv 8) pe_int (fun _ _ => rfl)) rfl) pa_nil))) (pe_tup (pa_cons (pe_fld (pe_ix ix_tup (pv 8) pe_int (fun _ _ => rfl)) rfl) (pa_cons (pe_fld (pe_ix ix_tup (pv 8) pe_int (fun _ _ => rfl)) rfl) pa_nil))) (nomark _)) (pss_one (ps_ret (pv 7))) pss_nil))))
      (pss_one (ps_ret pe_non)))))))), ?_⟩
    have lt := cy.lt
    have lt2 := cy2.lt
    refine ⟨_, rfl, ⟨⟨s1, G, x, rfl, ld, ok, hGH, fun G1 H1 v1 x1 t1 h1 => ?_⟩⟩⟩
    have B1 := (Pt.start hGH).call x1 t1
    refine ⟨_, rfl, ⟨⟨s2, G1, z, rfl, ld2, ok2, B1.s, fun G2 H2 v2 x2 t2 h2 => ?_⟩⟩⟩
    have B2 := B1.call x2 t2
    refine ⟨_, _, rfl, ?_⟩
    dsimp only
    have h1' := h1.mono x2.g
    obtain ⟨r, dr, sh, rl, r1, r2, rfl, hr1, hsh, _⟩ := id h1'
    obtain ⟨q, dq, sh2, rl2, q1, q2, rfl, hq1, hsh2, _⟩ := id h2
    refine ⟨_, rfl, r, _, dr, _, .ref sh, rfl, B2.s _ _ hr1, T.cl_Plan, T.n_Plan_shelf, (by kernel_rfl), sh, _, rfl, .inr (Same.seqT B2.s hsh), _, rfl, q, _, dq, _, .ref sh2, rfl, B2.s _ _ hq1, T.cl_Plan, T.n_Plan_shelf, (by kernel_rfl), sh2, _, rfl, .inr (Same.seqT B2.s hsh2), rfl, _, rfl, ite_f ?_ ?_⟩
    · rw [List.length_map, List.length_map, hlen]
      simp
    refine ⟨_, rfl, ?_⟩
    intro y dy ny nd ne
    obtain ⟨yG, sS, hp2⟩ := story_pre B2 h1' ny nd ne
    refine ⟨⟨y, dy, _, _, x, i, n, rfl, upd_same, yG, sS, hp2, ok, cy, le, fun G' H3 l0 vs0 M yG' hy' hl0 ht0 => ⟨rfl, ?_⟩⟩⟩
    obtain ⟨G3, B3, S3, hS⟩ := story_post B2 ny nd ne M yG' hy' hl0 ht0
    refine ⟨_, rfl, ?_⟩
    intro y2 dy2 ny2 nd2 ne2
    obtain ⟨yG2, sS2, hp22⟩ := story_pre B3 (h2.mono S3) ny2 nd2 ne2
    refine ⟨⟨y2, dy2, _, _, z, i2, n2, rfl, upd_same, yG2, sS2, hp22, ok2, cy2, le2, fun G' H4 l0 vs0 M yG' hy' hl0 ht0 => ⟨rfl, ?_⟩⟩⟩
    obtain ⟨G4, B4, S4, hS2⟩ := story_post B3 ny2 nd2 ne2 M yG' hy' hl0 ht0
    have hS := hS.mono S4
    refine ⟨_, _, rfl, ?_⟩
    dsimp only
    obtain ⟨y', da, l1, vs1, eY, hy, hl1, hts1⟩ := id hS
    cases eY
    obtain ⟨y2', da2, l2, vs2, eY2, hy2, hl2, hts2⟩ := id hS2
    cases eY2
    have hyH := B4.s _ _ hy
    have hyH2 := B4.s _ _ hy2
    have hSH := hS.mono B4.s
    have hSH2 := hS2.mono B4.s
    refine ⟨_, rfl, y, da, _, rfl, hyH, ⟨⟨_, x, i, n, rfl, hSH, ?_⟩⟩⟩
    have en : (n : Int) - (i : Int) = ((n - i : Nat) : Int) := by omega
    have en2 : (n2 : Int) - (i2 : Int) = ((n2 - i2 : Nat) : Int) := by omega
    rw [en]
    refine ⟨fun m σ H' => ∃ kq : Nat, 1 ≤ kq ∧ kq ≤ n2 - i2 ∧ m = n2 - i2 - kq ∧ σ = [some (.str s1), some (.str s2), some (.ref r), some (.ref q), some (.ref y), some (.ref y2), some (.int ((kq * (n - i) : Nat) : Int)), none, none] ∧ H' = H4, ⟨_, 1, Nat.le_refl _, by omega, rfl, ?_, rfl⟩, ?_⟩
    · rw [Nat.one_mul]; rfl
    rintro m σ H' ⟨kq, hk1, hk2, hm, rfl, rfl⟩
    refine ⟨_, rfl, _, rfl, y2, da2, _, rfl, hyH2, ⟨⟨_, z, i2, n2, rfl, hSH2, _, _, rfl, rfl, ⟨by omega, by omega⟩, _, rfl, y2, da2, _, rfl, hyH2, ⟨⟨_, z, i2, n2, rfl, hSH2, _, _, rfl, rfl, .inr ⟨by omega, by omega⟩, _, rfl, rfl, _, rfl, ?_⟩⟩⟩⟩⟩
    dsimp only
    rw [en2]
    by_cases hd : (n2 - i2) ∣ kq * (n - i)
    · refine ite_f ?_ ?_
      · obtain ⟨c, hc⟩ := hd
        rw [hc]
        have e1 : ((n2 - i2) * c / (n2 - i2)) = c := Nat.mul_div_cancel_left c (by omega)
        have e2 : (((n2 - i2) * c : Nat) : Int) / ((n2 - i2 : Nat) : Int) * ((n2 - i2 : Nat) : Int) = (((n2 - i2) * c : Nat) : Int) := by
          rw [← Int.natCast_ediv, e1, ← Int.natCast_mul, Nat.mul_comm]
        exact congrArg Bool.not (decide_eq_true (congrArg V.int e2))
      have kM := k (kq * (n - i)) ⟨kq, Nat.mul_comm _ _⟩ hd (Nat.mul_pos hk1 (by omega))
      have hmul : kq * (n - i) ≤ 20000 * 20000 := Nat.mul_le_mul (by omega) (by omega)
      revert kM hmul
      generalize kq * (n - i) = M
      intro kM hmul
      refine ⟨_, rfl, y, _, da, _, .int i, rfl, hyH, T.cl_Story, T.n_Story_start, (by kernel_rfl), _, rfl, y2, _, da2, _, .int i2, rfl, hyH2, T.cl_Story, T.n_Story_start, (by kernel_rfl), _, _, rfl, _, rfl, _, _, rfl, rfl, max i i2 + M, ?_, by omega, by omega, ?_⟩
      · have e : (if (i2 : Int) > (i : Int) then (i2 : Int) else (i : Int)) = ((max i i2 : Nat) : Int) := by split <;> omega
        show [V.int ((if (i2 : Int) > (i : Int) then (i2 : Int) else (i : Int)) + (M : Int))] = _
        rw [e]
      refine for_range (lo := 0) (n := max i i2 + M) (fun t σ H' => ∃ (v7 v8 : Option V), σ = [some (.str s1), some (.str s2), some (.ref r), some (.ref q), some (.ref y), some (.ref y2), some (.int (M : Nat)), v7, v8] ∧ Pt G H G4 H' ∧ ∀ m, m < t → (!PyData.eqv (csD x m) (csD z m)) = false) ?_ ?_ ?_
      · exact ⟨none, none, rfl, B4, fun m hm => absurd hm (Nat.not_lt_zero _)⟩
      · rintro t σ H5 ht ⟨v7, v8, rfl, B5, hall⟩
        have et : (0 : Int) + (t : Int) = ((t : Nat) : Int) := by omega
        rw [et]
        refine ⟨_, rfl, y, da, _, rfl, B5.s _ _ hy, (by kernel_rfl), _, rfl, ⟨⟨G4, _, x, i, n, t, rfl, hS, cy, B5.s, fun u hu => ?_⟩⟩⟩
        obtain ⟨e1, de1, tw1, su1, rfl, he1, he2, hst1⟩ := hu
        obtain ⟨sa1, dsa1, c1, nn1, b1, f1, rfl, g1, gc1, gn1, gb1, gf1⟩ := hst1
        refine ⟨e1, _, de1, _, .ref sa1, rfl, B5.s _ _ he1, T.cl_Tick, T.n_Tick_state, (by kernel_rfl), ?_⟩
        refine ⟨_, rfl, y2, da2, _, rfl, B5.s _ _ hy2, (by kernel_rfl), _, rfl, ⟨⟨G4, _, z, i2, n2, t, rfl, hS2, cy2, B5.s, fun u hu => ?_⟩⟩⟩
        obtain ⟨e2, de2, tw2, su2, rfl, hf1, hf2, hst2⟩ := hu
        obtain ⟨sa2, dsa2, c2, nn2, b2, f2, rfl, g2, gc2, gn2, gb2, gf2⟩ := hst2
        refine ⟨e2, _, de2, _, .ref sa2, rfl, B5.s _ _ hf1, T.cl_Tick, T.n_Tick_state, (by kernel_rfl), (by show 2 ≤ sizeLine; decide), fun p hp => ?_⟩
        have B6 := B5.lay hp (.tup [.ref sa1, .ref sa2])
        have hp6 : (upd H5 p (.tup [.ref sa1, .ref sa2])) p = some (.tup [.ref sa1, .ref sa2]) := upd_same
        revert B6 hp6
        generalize upd H5 p (.tup [.ref sa1, .ref sa2]) = H6
        intro B6 hp6
        refine ⟨_, rfl, p, _, _, .ref sa1, rfl, rfl, SqT.of hp6, at_of (j := 0) rfl rfl, sa1, _, dsa1, _, .ref c1, rfl, B6.s _ _ g1, T.cl_State, T.n_State_cells, (by kernel_rfl), _, rfl, p, _, _, .ref sa1, rfl, rfl, SqT.of hp6, at_of (j := 0) rfl rfl, sa1, _, dsa1, _, .ref f1, rfl, B6.s _ _ g1, T.cl_State, T.n_State_shelf, (by kernel_rfl), (by show 2 ≤ sizeLine; decide), fun p1 hp1 => ?_⟩
        have B7 := B6.lay hp1 (.tup [.ref c1, .ref f1])
        have hp7 : (upd H6 p1 (.tup [.ref c1, .ref f1])) p = some (.tup [.ref sa1, .ref sa2]) := by rw [upd_ne (ne_of_none hp6 hp1)]; exact hp6
        refine ⟨_, rfl, p, _, _, .ref sa2, rfl, rfl, SqT.of hp7, at_of (j := 1) rfl rfl, sa2, _, dsa2, _, .ref c2, rfl, B7.s _ _ g2, T.cl_State, T.n_State_cells, (by kernel_rfl), _, rfl, p, _, _, .ref sa2, rfl, rfl, SqT.of hp7, at_of (j := 1) rfl rfl, sa2, _, dsa2, _, .ref f2, rfl, B7.s _ _ g2, T.cl_State, T.n_State_shelf, (by kernel_rfl), (by show 2 ≤ sizeLine; decide), fun p2 hp2 => ?_⟩
        have B8 := B7.lay hp2 (.tup [.ref c2, .ref f2])
        have hp8 : (upd (upd H6 p1 (.tup [.ref c1, .ref f1])) p2 (.tup [.ref c2, .ref f2])) p1 = some (.tup [.ref c1, .ref f1]) := by rw [upd_ne (ne_of_none upd_same hp2), upd_same]
        refine ⟨csD x t, csD z t, .tup (SqT.of hp8) (.cons (.tup (Same.seqT B8.s gc1) (nats_D' _)) (.cons (.tup (Same.seqT B8.s gf1) (nats_D' _)) .nil)), .tup (SqT.of upd_same) (.cons (.tup (Same.seqT B8.s gc2) (nats_D' _)) (.cons (.tup (Same.seqT B8.s gf2) (nats_D' _)) .nil)), cs_shaped _ _, cs_shaped _ _, _, rfl, ite_b (fun c => ?_) (fun c => ?_)⟩
        · refine ⟨_, rfl, ?_⟩
          have : diffP x z (max i i2 + M) = some t := find_some ht hall c
          rw [this] at kM
          exact kM _ _ B8.ext B8.sm
        · refine ⟨_, _, rfl, B8, fun m hm => ?_⟩
          by_cases e : m = t
          · subst e; exact c
          · exact hall m (by omega)
      · rintro σ H5 ⟨v7, v8, rfl, B5, hall⟩
        have : diffP x z (max i i2 + M) = none := find_none fun m hm => hall m hm
        rw [this] at kM
        exact kM _ _ B5.ext B5.sm
    · refine ite_t ?_ ⟨_, fun σ' H' h => h, ?_⟩
      · refine congrArg Bool.not (decide_eq_false fun z => ?_)
        injection z with z
        rw [← Int.natCast_ediv, ← Int.natCast_mul] at z
        have z' : kq * (n - i) / (n2 - i2) * (n2 - i2) = kq * (n - i) := by omega
        exact hd ⟨kq * (n - i) / (n2 - i2), z'.symm.trans (Nat.mul_comm _ _)⟩
      · have hne : kq ≠ n2 - i2 := fun e => hd ⟨n - i, by rw [e]⟩
        refine ⟨_, rfl, _, rfl, y, da, _, rfl, hyH, ⟨⟨_, x, i, n, rfl, hSH, _, _, rfl, rfl, ?_⟩⟩⟩
        refine ⟨n2 - i2 - (kq + 1), by omega, kq + 1, by omega, by omega, rfl, ?_, rfl⟩
        have e : (kq * (n - i) : Nat) + ((n : Int) - (i : Int)) = (((kq + 1) * (n - i) : Nat) : Int) := by
          rw [en, Nat.add_mul, Nat.one_mul, Int.natCast_add]
        dsimp only
        rw [e]
        rfl
end
end Sb

namespace Sb
open PySem PySem.Spec PyProof.Rows L2 TL LamX NdefX
/-! ### steps that no robot stands at may be changed -/
theorem getD_set_ne {l : List Nat} {i j n : Nat} (h : j ≠ i) : (l.set i n).getD j 0 = l.getD j 0 := by
  rw [List.getD_eq_getElem?_getD, List.getD_eq_getElem?_getD, List.getElem?_set_ne (fun e => h e.symm)]
theorem act_form (x : Pl) (s : Sit) (i : Nat) : actP x s i = (8, s) ∨ ∃ cs hs sh, actP x s i = finP x s i cs hs sh := by
  match h : (stOf x s i).w with
  | 0 => rw [act_left h]; split; exact .inl rfl; exact .inr ⟨_, _, _, rfl⟩
  | 1 => rw [act_right h]; split; exact .inl rfl; exact .inr ⟨_, _, _, rfl⟩
  | 2 => rw [act_pick h]; split; exact .inl rfl; exact .inr ⟨_, _, _, rfl⟩
  | 3 => rw [act_put h]; split; exact .inl rfl; exact .inr ⟨_, _, _, rfl⟩
  | n + 4 => rw [act_else (by omega)]; exact .inr ⟨_, _, _, rfl⟩
theorem act_ns {x : Pl} {s : Sit} {i j : Nat} (h : j ≠ i) : (actP x s i).2.ns.getD j 0 = s.ns.getD j 0 := by
  rcases act_form x s i with e | ⟨cs, hs, sh, e⟩
  · rw [e]
  · rw [e]; exact getD_set_ne h
theorem act_blk {x : Pl} {s : Sit} {i : Nat} (hx : x.Ok) (o : SitOk x s) (hi : i < 2) (h : (actP x s i).1 = 8) : (actP x s i).2 = s := by
  rcases act_form x s i with e | ⟨cs, hs, sh, e⟩
  · rw [e]
  · rw [e] at h
    have w8 := (st_ok hx o hi).w8
    exact absurd h (by show ¬ (stOf x s i).w = 8; omega)
theorem doS_blk {w : Nat} (h : w ≤ 8) (e : doS w = "blocked") : w = 8 := by
  have h' : ∀ w : _root_.Fin 9, doS w.val = "blocked" → w.val = 8 := by decide +kernel
  exact h' ⟨w, by omega⟩ e
theorem blk_word {x : Pl} (hx : x.Ok) {num j : Nat} (hn : num < 2) (h : blkAt x num j = true) : wdN (wordsAt x j) num = 8 := by
  obtain ⟨w1, w2⟩ := words_le hx j
  have e := of_decide_eq_true h
  refine doS_blk ?_ e
  unfold wdN
  split
  · exact w1
  · exact w2
theorem blk_keep {x : Pl} (hx : x.Ok) {num j : Nat} (hn : num < 2) (h : blkAt x num j = true) : nsAt x num (j + 1) = nsAt x num j := by
  have e := blk_word hx hn h
  have o := sitAt_ok hx j
  unfold nsAt
  show (actP x (actP x (sitAt x j) 0).2 1).2.ns.getD num 0 = _
  match num, hn with
  | 0, _ =>
    have e0 : (actP x (sitAt x j) 0).1 = 8 := e
    rw [act_ns (by decide), act_blk hx o (by decide) e0]
  | 1, _ =>
    have e1 : (actP x (actP x (sitAt x j) 0).2 1).1 = 8 := e
    rw [act_blk hx (act_ok hx o (by decide)) (by decide) e1, act_ns (by decide)]
theorem ns_place {x : Pl} {i n num t : Nat} (h : Cyc x i n) : nsAt x num (placeP i n t) = nsAt x num t := by
  unfold nsAt
  rw [place_sit h]
theorem blk_place {x : Pl} {i n num t : Nat} (h : Cyc x i n) : blkAt x num (placeP i n t) = blkAt x num t := by
  unfold blkAt
  rw [place_words h]
theorem unused_blk {x : Pl} {i n num k t : Nat} (h : Cyc x i n) (hu : usedB x n num k = false) (e : nsAt x num t = k) : blkAt x num t = true := by
  rw [← blk_place h]
  cases hb : blkAt x num (placeP i n t) with
  | true => rfl
  | false =>
    exfalso
    have : usedB x n num k = true := by
      unfold usedB
      rw [List.any_eq_true]
      refine ⟨placeP i n t, List.mem_range.mpr (place_lt h), ?_⟩
      rw [hb, ns_place h, decide_eq_true e]
      rfl
    rw [hu] at this
    cases this
theorem unused_on {x : Pl} (hx : x.Ok) {i n num k t : Nat} (h : Cyc x i n) (hn : num < 2) (hu : usedB x n num k = false) (e : nsAt x num t = k) : ∀ m, nsAt x num (t + m) = k
  | 0 => e
  | m + 1 => by
    have ih := unused_on hx h hn hu e m
    have := blk_keep hx hn (unused_blk h hu ih)
    rw [← Nat.add_assoc, this, ih]
theorem never_at {x : Pl} (hx : x.Ok) {i n num k : Nat} (h : Cyc x i n) (hn : num < 2) (hu : usedB x n num k = false) (hs : num ∉ stuckL x i n) (t : Nat) : nsAt x num t ≠ k := fun e => by
  refine hs (List.mem_filter.mpr ⟨List.mem_range.mpr hn, ?_⟩)
  unfold stuckB
  rw [List.all_eq_true]
  intro j hj
  have lt := h.lt
  obtain ⟨m, hm⟩ := List.mem_iff_getElem?.mp hj
  rw [List.getElem?_drop] at hm
  have hlt : i + m < n := by
    rcases Nat.lt_or_ge (i + m) n with q | q
    · exact q
    · rw [List.getElem?_eq_none (by rw [List.length_range]; exact q)] at hm; cases hm
  rw [List.getElem?_range hlt] at hm
  cases hm
  have ep : placeP i n (i + m + (n - i) * (t + 1)) = i + m := by
    unfold placeP
    have hge : n - i ≤ (n - i) * (t + 1) := Nat.le_mul_of_pos_right _ (by omega)
    rw [if_neg (by omega)]
    have e1 : i + m + (n - i) * (t + 1) - i = m + (n - i) * (t + 1) := by omega
    rw [e1, Nat.add_mul_mod_self_left, Nat.mod_eq_of_lt (by omega)]
  rw [← ep, blk_place h]
  have hge : t + 1 ≤ (n - i) * (t + 1) := Nat.le_mul_of_pos_left _ (by omega)
  have on := unused_on hx h hn hu e (i + m + (n - i) * (t + 1) - t)
  rw [show t + (i + m + (n - i) * (t + 1) - t) = i + m + (n - i) * (t + 1) by omega] at on
  exact unused_blk h hu on
theorem act_congr {x z : Pl} {s : Sit} {i : Nat} (hl : (stepsOf x i).length = (stepsOf z i).length) (he : (stepsOf x i).getD (s.ns.getD i 0) ⟨4, none⟩ = (stepsOf z i).getD (s.ns.getD i 0) ⟨4, none⟩) : actP x s i = actP z s i := by
  unfold actP
  rw [he, hl]
/-- two plans alike wherever the first one's robots stand -/
structure Alike (x z : Pl) : Prop where
  a : x.a = z.a
  b : x.b = z.b
  sh : x.shelf = z.shelf
  len : ∀ i, i < 2 → (stepsOf x i).length = (stepsOf z i).length
  st : ∀ i, i < 2 → ∀ t, (stepsOf x i).getD (nsAt x i t) ⟨4, none⟩ = (stepsOf z i).getD (nsAt x i t) ⟨4, none⟩
theorem Alike.tick {x z : Pl} (h : Alike x z) (j : Nat) : tickP x (sitAt x j) = tickP z (sitAt x j) := by
  have e0 : actP x (sitAt x j) 0 = actP z (sitAt x j) 0 := act_congr (h.len 0 (by decide)) (h.st 0 (by decide) j)
  have e1 : actP x (actP x (sitAt x j) 0).2 1 = actP z (actP x (sitAt x j) 0).2 1 := by
    refine act_congr (h.len 1 (by decide)) ?_
    rw [act_ns (by decide)]
    exact h.st 1 (by decide) j
  unfold tickP
  dsimp only
  rw [e1, e0]
theorem Alike.sit {x z : Pl} (h : Alike x z) : ∀ j, sitAt x j = sitAt z j
  | 0 => by
    show sit0 x = sit0 z
    unfold sit0
    rw [h.a, h.b, h.sh]
  | j + 1 => by
    show (tickP x (sitAt x j)).2 = (tickP z (sitAt z j)).2
    rw [h.tick, h.sit j]
theorem Alike.words {x z : Pl} (h : Alike x z) (j : Nat) : wordsAt x j = wordsAt z j := by
  unfold wordsAt
  rw [h.tick, h.sit j]
theorem Alike.cyc {x z : Pl} (h : Alike x z) {i n : Nat} (c : Cyc x i n) : Cyc z i n := ⟨c.lt, by rw [← h.sit, ← h.sit]; exact c.eq, fun j k hj hk e => c.nd j k hj hk (by rw [h.sit, h.sit]; exact e)⟩
end Sb

namespace Sb
open PySem PySem.Spec PyProof.Rows L2
section
variable {x : Pl} {i n : Nat}
theorem sit_far (c : Cyc x i n) {t : Nat} (ht : i ≤ t) (r : Nat) : sitAt x (t + r * (n - i)) = sitAt x t := by
  have lt := c.lt
  have e : sitAt x i = sitAt x (i + (n - i)) := by rw [c.eq]; congr 1; omega
  have h := sit_shift e (t - i)
  rw [show i + (t - i) = t by omega, show i + (n - i) + (t - i) = t + (n - i) by omega] at h
  rw [sit_rounds h r, Nat.mul_comm]
theorem words_far (c : Cyc x i n) {t : Nat} (ht : i ≤ t) (r : Nat) : wordsAt x (t + r * (n - i)) = wordsAt x t := by
  unfold wordsAt
  rw [sit_far c ht]
theorem cnt_far {f : Nat → Nat} {p t : Nat} (h : ∀ j, t ≤ j → f (j + p) = f j) (r : Nat) : cntF f (t + r * p) = cntF f t + r * (cntF f (t + p) - cntF f t) := by
  have := cntF_rounds h 0 r
  simpa using this
theorem words_stay (hx : x.Ok) {j : Nat} (e : wordsAt x j = (8, 8)) : sitAt x (j + 1) = sitAt x j := by
  have o := sitAt_ok hx j
  have e0 : (actP x (sitAt x j) 0).1 = 8 := congrArg (·.1) e
  have e1 : (actP x (actP x (sitAt x j) 0).2 1).1 = 8 := congrArg (·.2) e
  show (actP x (actP x (sitAt x j) 0).2 1).2 = _
  rw [act_blk hx (act_ok hx o (by decide)) (by decide) e1, act_blk hx o (by decide) e0]
theorem blk_iff (hx : x.Ok) {num j : Nat} : blkAt x num j = true ↔ wdN (wordsAt x j) num = 8 := by
  have w := words_le hx j
  have h : ∀ a : _root_.Fin 9, doS a.val = "blocked" ↔ a.val = 8 := by decide +kernel
  have hw : wdN (wordsAt x j) num ≤ 8 := by unfold wdN; split <;> omega
  unfold blkAt
  rw [decide_eq_true_iff]
  exact h ⟨wdN (wordsAt x j) num, by omega⟩
theorem both_iff (hx : x.Ok) {j : Nat} : PyData.eqv (wordsD (wordsAt x j)) blkD = true ↔ wordsAt x j = (8, 8) := by
  have w := words_le hx j
  have h' : ∀ a b : _root_.Fin 9, PyData.eqv (wordsD (a.val, b.val)) blkD = true ↔ a.val = 8 ∧ b.val = 8 := by decide +kernel
  rw [show PyData.eqv (wordsD (wordsAt x j)) blkD = true ↔ (wordsAt x j).1 = 8 ∧ (wordsAt x j).2 = 8 from h' ⟨(wordsAt x j).1, by omega⟩ ⟨(wordsAt x j).2, by omega⟩]
  exact ⟨fun z => Prod.ext z.1 z.2, fun z => by rw [z]; exact ⟨rfl, rfl⟩⟩
theorem lock_one (hx : x.Ok) (c : Cyc x i n) (e : wordsAt x i = (8, 8)) : n = i + 1 := by
  have lt := c.lt
  rcases Nat.lt_or_ge (i + 1) n with q | q
  · have := c.nd (i + 1) i q lt (words_stay hx e); omega
  · omega
theorem stuckB_iff {num : Nat} : stuckB x i n num = true ↔ ∀ j, i ≤ j → j < n → blkAt x num j = true := by
  unfold stuckB
  rw [List.all_eq_true]
  constructor
  · intro h j h1 h2
    refine h j ?_
    rw [List.mem_iff_getElem?]
    exact ⟨j - i, by rw [List.getElem?_drop, show i + (j - i) = j by omega, List.getElem?_range h2]⟩
  · intro h j hj
    rw [List.mem_iff_getElem?] at hj
    obtain ⟨k, hk⟩ := hj
    rw [List.getElem?_drop] at hk
    have lt := (List.getElem?_eq_some_iff.mp hk).1
    rw [List.length_range] at lt
    rw [List.getElem?_range lt] at hk
    cases hk
    exact h _ (by omega) lt
theorem stuckL_two : stuckL x i n = [0, 1] ↔ stuckB x i n 0 = true ∧ stuckB x i n 1 = true := by
  unfold stuckL
  rw [show List.range 2 = [0, 1] from rfl]
  cases h0 : stuckB x i n 0 <;> cases h1 : stuckB x i n 1 <;> simp [List.filter, h0, h1]
/-- both are stuck where both are blocked at the beginning of the cycle -/
theorem lock_iff (hx : x.Ok) (c : Cyc x i n) : stuckL x i n = [0, 1] ↔ wordsAt x i = (8, 8) := by
  rw [stuckL_two, stuckB_iff, stuckB_iff]
  have lt := c.lt
  constructor
  · rintro ⟨h0, h1⟩
    have e0 := (blk_iff hx).mp (h0 i (Nat.le_refl _) lt)
    have e1 := (blk_iff hx).mp (h1 i (Nat.le_refl _) lt)
    exact Prod.ext e0 e1
  · intro e
    have := lock_one hx c e
    refine ⟨fun j h1 h2 => ?_, fun j h1 h2 => ?_⟩
    all_goals
      have : j = i := by omega
      subst this
      rw [blk_iff hx, e]
      rfl
theorem lock_none (hx : x.Ok) : lockP x i = none ↔ wordsAt x i ≠ (8, 8) := by
  unfold lockP
  by_cases h : wordsAt x i = (8, 8)
  · rw [if_pos ((both_iff hx).mpr h)]
    simp [h]
  · rw [if_neg (fun z => h ((both_iff hx).mp z))]
    simp [h]
end
end Sb

namespace Sb
open PySem PySem.Spec PyProof.Rows L2 TL LamX NdefX
/-! ### steps written twice tell the same story -/
def shS (m : Nat) (s : Step) : Step := ⟨s.w, s.g.map (· + m)⟩
structure Dbl (x z : Pl) (num : Nat) : Prop where
  a : x.a = z.a
  b : x.b = z.b
  sh : x.shelf = z.shelf
  other : ∀ i, i < 2 → i ≠ num → stepsOf z i = stepsOf x i
  own : stepsOf z num = stepsOf x num ++ (stepsOf x num).map (shS (stepsOf x num).length)
structure Sim (m num : Nat) (s t : Sit) : Prop where
  cs : t.cs = s.cs
  hs : t.hs = s.hs
  sh : t.sh = s.sh
  ns : ∀ i, i < 2 → i ≠ num → t.ns.getD i 0 = s.ns.getD i 0
  own : t.ns.getD num 0 % m = s.ns.getD num 0
  lt : t.ns.getD num 0 < 2 * m
  l1 : s.ns.length = 2
  l2 : t.ns.length = 2
section
variable {x z : Pl} {num : Nat} {s t : Sit}
theorem dbl_len (h : Dbl x z num) : (stepsOf z num).length = 2 * (stepsOf x num).length := by
  rw [h.own, List.length_append, List.length_map]; omega
theorem st_other (h : Dbl x z num) (S : Sim (stepsOf x num).length num s t) {i : Nat} (hi : i < 2) (hn : i ≠ num) : stOf z t i = stOf x s i := by
  unfold stOf
  rw [h.other i hi hn, S.ns i hi hn]
theorem st_own (h : Dbl x z num) (S : Sim (stepsOf x num).length num s t) : stOf z t num = shS (if t.ns.getD num 0 < (stepsOf x num).length then 0 else (stepsOf x num).length) (stOf x s num) := by
  unfold stOf
  have e := S.own
  have l := S.lt
  rw [h.own]
  revert e l
  generalize t.ns.getD num 0 = k
  generalize s.ns.getD num 0 = j
  generalize stepsOf x num = L
  intro e l
  by_cases hk : k < L.length
  · rw [Nat.mod_eq_of_lt hk] at e
    subst e
    rw [if_pos hk, List.getD_eq_getElem?_getD, List.getElem?_append_left hk, ← List.getD_eq_getElem?_getD]
    generalize L.getD k ⟨4, none⟩ = st
    obtain ⟨w, g⟩ := st
    unfold shS
    cases g <;> rfl
  · have e2 : k - L.length = j := by
      rw [← e, Nat.mod_eq_sub_mod (by omega), Nat.mod_eq_of_lt (by omega)]
    rw [if_neg hk, List.getD_eq_getElem?_getD, List.getElem?_append_right (by omega), List.getElem?_map, e2, List.getD_eq_getElem?_getD, List.getElem?_eq_getElem (show j < L.length by omega)]
    rfl
theorem st_w (h : Dbl x z num) (S : Sim (stepsOf x num).length num s t) {i : Nat} (hi : i < 2) : (stOf z t i).w = (stOf x s i).w := by
  by_cases hn : i = num
  · subst hn; rw [st_own h S]; rfl
  · rw [st_other h S hi hn]
theorem jump_iff (h : Dbl x z num) (S : Sim (stepsOf x num).length num s t) {i : Nat} (hi : i < 2) {hs' : List Bool} {sh' : List Nat} : jumpP z t i hs' sh' ↔ jumpP x s i hs' sh' := by
  unfold jumpP cOf
  rw [st_w h S hi, S.cs]
theorem next_other (h : Dbl x z num) (S : Sim (stepsOf x num).length num s t) {i : Nat} (hi : i < 2) (hn : i ≠ num) {hs' : List Bool} {sh' : List Nat} : nextP z t i hs' sh' = nextP x s i hs' sh' := by
  unfold nextP
  by_cases hj : jumpP x s i hs' sh'
  · rw [if_pos hj, if_pos ((jump_iff h S hi).mpr hj), st_other h S hi hn]
  · rw [if_neg hj, if_neg (fun q => hj ((jump_iff h S hi).mp q)), S.ns i hi hn, h.other i hi hn]
theorem next_own (hx : x.Ok) (o : SitOk x s) (h : Dbl x z num) (S : Sim (stepsOf x num).length num s t) (hi : num < 2) {hs' : List Bool} {sh' : List Nat} : nextP z t num hs' sh' % (stepsOf x num).length = nextP x s num hs' sh' ∧ nextP z t num hs' sh' < 2 * (stepsOf x num).length := by
  have pos := (steps_ok hx num).pos
  have ok := st_ok hx o hi
  unfold nextP
  by_cases hj : jumpP x s num hs' sh'
  · rw [if_pos hj, if_pos ((jump_iff h S hi).mpr hj), st_own h S]
    have h5 : 5 ≤ (stOf x s num).w := by rcases hj with q | q | q <;> omega
    obtain ⟨k, e, hk⟩ := ok.yes h5
    unfold shS
    rw [e]
    show (k + _) % _ = k ∧ k + _ < _
    split
    · exact ⟨Nat.mod_eq_of_lt (by omega), by omega⟩
    · refine ⟨?_, by omega⟩
      rw [Nat.add_mod_right, Nat.mod_eq_of_lt hk]
  · rw [if_neg hj, if_neg (fun q => hj ((jump_iff h S hi).mp q)), dbl_len h]
    refine ⟨?_, Nat.mod_lt _ (by omega)⟩
    rw [Nat.mod_mod_of_dvd _ ⟨2, Nat.mul_comm _ _⟩, Nat.add_mod, S.own, Nat.add_mod_mod]
theorem fin_sim (hx : x.Ok) (o : SitOk x s) (h : Dbl x z num) (S : Sim (stepsOf x num).length num s t) (hnum : num < 2) {i : Nat} (hi : i < 2) {cs' : List Nat} {hs' : List Bool} {sh' : List Nat} :
    (finP z t i cs' hs' sh').1 = (finP x s i cs' hs' sh').1 ∧ Sim (stepsOf x num).length num (finP x s i cs' hs' sh').2 (finP z t i cs' hs' sh').2 := by
  have i1 : i < s.ns.length := by rw [S.l1]; exact hi
  have i2 : i < t.ns.length := by rw [S.l2]; exact hi
  refine ⟨st_w h S hi, rfl, rfl, rfl, fun j hj hn => ?_, ?_, ?_, ?_, ?_⟩
  · show (t.ns.set i _).getD j 0 = (s.ns.set i _).getD j 0
    rw [getD_set i1, getD_set i2]
    by_cases e : j = i
    · subst e
      rw [if_pos rfl, if_pos rfl]
      exact next_other h S hj hn
    · rw [if_neg e, if_neg e]
      exact S.ns j hj hn
  · show (t.ns.set i _).getD num 0 % _ = (s.ns.set i _).getD num 0
    rw [getD_set i1, getD_set i2]
    by_cases e : num = i
    · subst e
      rw [if_pos rfl, if_pos rfl]
      exact (next_own hx o h S hnum).1
    · rw [if_neg e, if_neg e]
      exact S.own
  · show (t.ns.set i _).getD num 0 < _
    rw [getD_set i2]
    by_cases e : num = i
    · subst e
      rw [if_pos rfl]
      exact (next_own hx o h S hnum).2
    · rw [if_neg e]
      exact S.lt
  · show (s.ns.set i _).length = 2
    rw [List.length_set]; exact S.l1
  · show (t.ns.set i _).length = 2
    rw [List.length_set]; exact S.l2
theorem act_sim (hx : x.Ok) (o : SitOk x s) (h : Dbl x z num) (S : Sim (stepsOf x num).length num s t) (hnum : num < 2) {i : Nat} (hi : i < 2) : (actP z t i).1 = (actP x s i).1 ∧ Sim (stepsOf x num).length num (actP x s i).2 (actP z t i).2 := by
  have hw := st_w h S hi
  have hc : cOf t i = cOf s i := by unfold cOf; rw [S.cs]
  match e : (stOf x s i).w with
  | 0 =>
    rw [act_left e, act_left (hw.trans e), hc, S.cs, S.hs, S.sh]
    by_cases c : cOf s i = 0 ∨ cOf s i - 1 ∈ s.cs
    · rw [if_pos c, if_pos c]; exact ⟨rfl, S⟩
    · rw [if_neg c, if_neg c]; exact fin_sim hx o h S hnum hi
  | 1 =>
    rw [act_right e, act_right (hw.trans e), hc, S.cs, S.hs, S.sh]
    by_cases c : s.sh.length ≤ cOf s i + 1 ∨ cOf s i + 1 ∈ s.cs
    · rw [if_pos c, if_pos c]; exact ⟨rfl, S⟩
    · rw [if_neg c, if_neg c]; exact fin_sim hx o h S hnum hi
  | 2 =>
    rw [act_pick e, act_pick (hw.trans e), hc, S.cs, S.hs, S.sh]
    by_cases c : s.hs.getD i false = true ∨ s.sh.getD (cOf s i) 0 = 0
    · rw [if_pos c, if_pos c]; exact ⟨rfl, S⟩
    · rw [if_neg c, if_neg c]; exact fin_sim hx o h S hnum hi
  | 3 =>
    rw [act_put e, act_put (hw.trans e), hc, S.cs, S.hs, S.sh]
    by_cases c : s.hs.getD i false = false ∨ 3 ≤ s.sh.getD (cOf s i) 0
    · rw [if_pos c, if_pos c]; exact ⟨rfl, S⟩
    · rw [if_neg c, if_neg c]; exact fin_sim hx o h S hnum hi
  | n + 4 =>
    rw [act_else (show 4 ≤ (stOf x s i).w by omega), act_else (show 4 ≤ (stOf z t i).w by omega), S.cs, S.hs, S.sh]
    exact fin_sim hx o h S hnum hi
theorem tick_sim (hx : x.Ok) (o : SitOk x s) (h : Dbl x z num) (S : Sim (stepsOf x num).length num s t) (hnum : num < 2) : (tickP z t).1 = (tickP x s).1 ∧ Sim (stepsOf x num).length num (tickP x s).2 (tickP z t).2 := by
  obtain ⟨e0, S0⟩ := act_sim hx o h S hnum (i := 0) (by decide)
  obtain ⟨e1, S1⟩ := act_sim hx (act_ok hx o (by decide)) h S0 hnum (i := 1) (by decide)
  unfold tickP
  dsimp only
  exact ⟨by rw [e0, e1], S1⟩
theorem sit_sim (hx : x.Ok) (h : Dbl x z num) (hnum : num < 2) : ∀ j, Sim (stepsOf x num).length num (sitAt x j) (sitAt z j)
  | 0 => by
    have pos := (steps_ok hx num).pos
    refine ⟨?_, rfl, h.sh.symm, fun i hi _ => rfl, ?_, ?_, rfl, rfl⟩
    · show [z.a, z.b] = [x.a, x.b]; rw [h.a, h.b]
    · show ([0, 0] : List Nat).getD num 0 % _ = ([0, 0] : List Nat).getD num 0
      match num, hnum with
      | 0, _ => exact Nat.zero_mod _
      | 1, _ => exact Nat.zero_mod _
    · show ([0, 0] : List Nat).getD num 0 < _
      match num, hnum with
      | 0, _ => show 0 < _; omega
      | 1, _ => show 0 < _; omega
  | j + 1 => (tick_sim hx (sitAt_ok hx j) h (sit_sim hx h hnum j) hnum).2
theorem words_sim (hx : x.Ok) (h : Dbl x z num) (hnum : num < 2) (j : Nat) : wordsAt z j = wordsAt x j := (tick_sim hx (sitAt_ok hx j) h (sit_sim hx h hnum j) hnum).1
end
end Sb

namespace Sb
open PySem PySem.Spec PyProof.Rows L2 TL LamX NdefX
theorem cyc_of {x : Pl} : ∀ (q p : Nat), p < q → sitAt x p = sitAt x q → ∃ i n, Cyc x i n ∧ n ≤ q := by
  intro q
  induction q using Nat.strongRecOn with
  | _ q ih =>
    intro p hp e
    by_cases h : ∃ j k, j < k ∧ k < q ∧ sitAt x j = sitAt x k
    · obtain ⟨j, k, h1, h2, h3⟩ := h
      obtain ⟨i, n, c, hn⟩ := ih k h2 j h1 h3
      exact ⟨i, n, c, by omega⟩
    · refine ⟨p, q, ⟨hp, e, fun j k hj hk e' => ?_⟩, Nat.le_refl _⟩
      rcases Nat.lt_trichotomy j k with q1 | q1 | q1
      · exact absurd ⟨j, k, q1, hk, e'⟩ h
      · exact q1
      · exact absurd ⟨k, j, q1, hj, e'.symm⟩ h
theorem two_ext : ∀ {a b : List Nat}, a.length = 2 → b.length = 2 → a.getD 0 0 = b.getD 0 0 → a.getD 1 0 = b.getD 1 0 → a = b
  | [p, q], [r, t], _, _, h1, h2 => by
    have h1 : p = r := h1
    have h2 : q = t := h2
    rw [h1, h2]
theorem sim_ext {m num : Nat} {s t u : Sit} (hn : num < 2) (a : Sim m num s t) (b : Sim m num s u) (e : t.ns.getD num 0 = u.ns.getD num 0) : t = u := by
  have hns : t.ns = u.ns := by
    refine two_ext a.l2 b.l2 ?_ ?_
    · by_cases h : num = 0
      · subst h; exact e
      · rw [a.ns 0 (by decide) (fun z => h z.symm), b.ns 0 (by decide) (fun z => h z.symm)]
    · by_cases h : num = 1
      · subst h; exact e
      · rw [a.ns 1 (by decide) (fun z => h z.symm), b.ns 1 (by decide) (fun z => h z.symm)]
  have h1 := a.cs.trans b.cs.symm
  have h2 := a.hs.trans b.hs.symm
  have h3 := a.sh.trans b.sh.symm
  obtain ⟨t1, t2, t3, t4⟩ := t
  obtain ⟨u1, u2, u3, u4⟩ := u
  dsimp only at hns h1 h2 h3
  rw [hns, h1, h2, h3]
section
variable {x z : Pl} {num i n : Nat}
theorem dbl_cyc (hx : x.Ok) (h : Dbl x z num) (hn : num < 2) (c : Cyc x i n) : ∃ i2 n2, Cyc z i2 n2 ∧ n2 ≤ 2 * n := by
  have lt := c.lt
  have pos := (steps_ok hx num).pos
  have S0 := sit_sim hx h hn i
  have S1 := sit_sim hx h hn n
  have S2 := sit_sim hx h hn (n + (n - i))
  have e2 : sitAt x i = sitAt x (n + (n - i)) := by
    have := sit_shift c.eq (n - i)
    rw [show i + (n - i) = n by omega, ← c.eq] at this
    exact this
  rw [← c.eq] at S1
  rw [← e2] at S2
  have two : ∀ {k m j : Nat}, k % m = j → k < 2 * m → k = j ∨ k = j + m := fun {k m j} h1 h2 => by
    by_cases q : k < m
    · rw [Nat.mod_eq_of_lt q] at h1; exact .inl h1
    · rw [Nat.mod_eq_sub_mod (by omega), Nat.mod_eq_of_lt (by omega)] at h1; exact .inr (by omega)
  have d0 := two S0.own S0.lt
  have d1 := two S1.own S1.lt
  have d2 := two S2.own S2.lt
  by_cases q1 : (sitAt z i).ns.getD num 0 = (sitAt z n).ns.getD num 0
  · obtain ⟨i2, n2, c2, h2⟩ := cyc_of n i lt (sim_ext hn S0 S1 q1)
    exact ⟨i2, n2, c2, by omega⟩
  · by_cases q2 : (sitAt z i).ns.getD num 0 = (sitAt z (n + (n - i))).ns.getD num 0
    · obtain ⟨i2, n2, c2, h2⟩ := cyc_of (n + (n - i)) i (by omega) (sim_ext hn S0 S2 q2)
      exact ⟨i2, n2, c2, by omega⟩
    · have q3 : (sitAt z n).ns.getD num 0 = (sitAt z (n + (n - i))).ns.getD num 0 := by omega
      obtain ⟨i2, n2, c2, h2⟩ := cyc_of (n + (n - i)) n (by omega) (sim_ext hn S1 S2 q3)
      exact ⟨i2, n2, c2, by omega⟩
theorem dbl_blk (hx : x.Ok) (h : Dbl x z num) (hn : num < 2) (k j : Nat) : blkAt z k j = blkAt x k j := by
  unfold blkAt
  rw [words_sim hx h hn]
theorem dbl_cs (hx : x.Ok) (h : Dbl x z num) (hn : num < 2) (t : Nat) : csD x t = csD z t := by
  have S := sit_sim hx h hn (t + 1)
  unfold csD
  rw [S.cs, S.sh]
/-- a step unused is unused in both halves -/
theorem dbl_unused (hx : x.Ok) (h : Dbl x z num) (hn : num < 2) (c : Cyc x i n) {n2 k : Nat} (hk : k < (stepsOf x num).length) (hu : usedB x n num k = false) : usedB z n2 num k = false ∧ usedB z n2 num (k + (stepsOf x num).length) = false := by
  have go : ∀ k', k' % (stepsOf x num).length = k → usedB z n2 num k' = false := fun k' hk' => by
    cases hb : usedB z n2 num k' with
    | false => rfl
    | true =>
      exfalso
      unfold usedB at hb
      rw [List.any_eq_true] at hb
      obtain ⟨j, _, hj⟩ := hb
      rw [Bool.and_eq_true, decide_eq_true_iff] at hj
      have S := sit_sim hx h hn j
      have e : nsAt x num j = k := by
        have := S.own
        unfold nsAt at hj ⊢
        rw [← this, hj.2, hk']
      have hb := unused_blk c hu e
      rw [dbl_blk hx h hn, hb] at hj
      exact absurd hj.1 (by decide)
  exact ⟨go k (Nat.mod_eq_of_lt hk), go _ (by rw [Nat.add_mod_right, Nat.mod_eq_of_lt hk])⟩
/-- where both robots are locked, they are locked in the doubled plan -/
theorem dbl_lock (hx : x.Ok) (hz : z.Ok) (h : Dbl x z num) (hn : num < 2) (c : Cyc x i n) {i2 n2 : Nat} (c2 : Cyc z i2 n2) (hl : lockP x i = some i) : lockP z i2 = some i := by
  unfold lockP at hl
  split at hl
  · rename_i hb
    have w := words_le hx i
    have wz : wordsAt x i = (8, 8) := by
      have h' : ∀ a b : _root_.Fin 9, PyData.eqv (wordsD (a.val, b.val)) blkD = true → a.val = 8 ∧ b.val = 8 := by decide +kernel
      obtain ⟨e1, e2⟩ := h' ⟨(wordsAt x i).1, by omega⟩ ⟨(wordsAt x i).2, by omega⟩ hb
      exact Prod.ext e1 e2
    -- the state stays
    have stay : ∀ {y : Pl} {j : Nat}, y.Ok → wordsAt y j = (8, 8) → sitAt y (j + 1) = sitAt y j := fun {y j} hy e => by
      have o := sitAt_ok hy j
      have e0 : (actP y (sitAt y j) 0).1 = 8 := congrArg (·.1) e
      have e1 : (actP y (actP y (sitAt y j) 0).2 1).1 = 8 := congrArg (·.2) e
      show (actP y (actP y (sitAt y j) 0).2 1).2 = _
      rw [act_blk hy (act_ok hy o (by decide)) (by decide) e1, act_blk hy o (by decide) e0]
    have ez : wordsAt z i = (8, 8) := by rw [words_sim hx h hn]; exact wz
    have sx := stay hx wz
    have sz := stay hz ez
    have lt := c.lt
    have lt2 := c2.lt
    have n1 : n = i + 1 := by
      rcases Nat.lt_or_ge (i + 1) n with q | q
      · have := c.nd (i + 1) i q lt sx; omega
      · omega
    -- the doubled plan comes back no sooner
    have low : ∀ j k, j < k → k ≤ i → sitAt z j ≠ sitAt z k := fun j k h1 h2 e => by
      have Sj := sit_sim hx h hn j
      have Sk := sit_sim hx h hn k
      have : sitAt x j = sitAt x k := by
        have hns : (sitAt x j).ns = (sitAt x k).ns := by
          refine two_ext Sj.l1 Sk.l1 ?_ ?_
          · by_cases q : num = 0
            · subst q; rw [← Sj.own, ← Sk.own, e]
            · rw [← Sj.ns 0 (by decide) (fun w => q w.symm), ← Sk.ns 0 (by decide) (fun w => q w.symm), e]
          · by_cases q : num = 1
            · subst q; rw [← Sj.own, ← Sk.own, e]
            · rw [← Sj.ns 1 (by decide) (fun w => q w.symm), ← Sk.ns 1 (by decide) (fun w => q w.symm), e]
        have h1 := Sj.cs.symm.trans ((congrArg (·.cs) e).trans Sk.cs)
        have h2 := Sj.hs.symm.trans ((congrArg (·.hs) e).trans Sk.hs)
        have h3 := Sj.sh.symm.trans ((congrArg (·.sh) e).trans Sk.sh)
        revert hns h1 h2 h3
        generalize sitAt x j = u
        generalize sitAt x k = v
        obtain ⟨t1, t2, t3, t4⟩ := u
        obtain ⟨u1, u2, u3, u4⟩ := v
        intro hns h1 h2 h3
        dsimp only at hns h1 h2 h3
        rw [hns, h1, h2, h3]
      have := c.nd j k (by omega) (by omega) this
      omega
    have hi2 : n2 = i + 1 := by
      rcases Nat.lt_trichotomy n2 (i + 1) with q | q | q
      · exact absurd c2.eq (low i2 n2 lt2 (by omega))
      · exact q
      · have := c2.nd (i + 1) i q (by omega) sz; omega
    have hi3 : i2 = i := by
      have e := c2.eq
      rw [hi2, sz] at e
      exact c2.nd i2 i lt2 (by omega) e
    subst hi3
    unfold lockP
    rw [ez]
    rfl
  · cases hl
end
end Sb

/-! a list and a list, wherever they stand -/
namespace Sb
open PySem PySem.Spec PyProof.Rows L2
section
variable {X : Cx}
def rCatS (K : PySem.W.Frag) : R2 := fun x y H Q => ∃ l b xs zs, x = .ref l ∧ y = .ref b ∧ SqL K H l xs ∧ SqL K H b zs ∧ xs.length + zs.length ≤ sizeLine ∧ ∀ p, H p = none → Q (.ref p) (upd H p (.lst (xs ++ zs)))
theorem op_catS : OpR X (binaryOp .Add) (rCatS X.K) := by
  intro pins s σ H x y v u Q I rx ry h
  obtain ⟨l, b, xs, zs, rfl, rfl, hH, hB, hz, q⟩ := h
  cases rx
  cases ry
  obtain ⟨its, r, ⟨⟨cls, dd, data, sl⟩, n, ho, hc, hdn, hd⟩, hl⟩ := I.list hH
  obtain ⟨its2, r2, ⟨⟨cls2, dd2, data2, sl2⟩, n2, ho2, hc2, hdn2, hd2⟩, hl2⟩ := I.list hB
  simp only at hc hd hc2 hd2
  subst hc hd hc2 hd2
  have e1 := r.length
  have e2 := r2.length
  refine concat_meets ⟨_, ho, rfl⟩ ⟨_, ho2, rfl⟩ noFill_list_add seq_list_add PySem.F.slot_list_add PySem.F.entry_list_add (PySem.F.args_list_add_2 _ _) (list_addW l b its.toArray its2.toArray n n2 dd dd2 sl sl2 (by simp only [List.size_toArray]; omega)) ⟨ho, ho2, ?_⟩
  have ea : its.toArray ++ its2.toArray = (its ++ its2).toArray := by simp
  rw [ea]
  exact ⟨.ref _, _, I.lnew (t' := s.toks) (r.append r2) (by rw [List.length_append]; omega), rfl, q _ I.fresh⟩
end
end Sb

namespace Sb
open PySem PySem.Spec PyProof.Rows L2 TL LamX NdefX
structure spDoubled (K : PySem.W.Frag) (vs : List V) (H : Hp) (Q : VK) (E : XK) : Prop where
  ex : ∃ (G : Hp) (v : V) (l : List Step), vs = [v] ∧ Dp K G v (stepsD l) ∧ l.length ≤ 10 ∧ Pure G H Q fun G' u => Dp K G' u (stepsD (l ++ l.map (shS l.length)))
section
variable {P : Program} {w : World} {K : PySem.W.Frag} {mg : Str → Option Value} {base : Heap} {a : Ad}
theorem ok_l_doubled (T : Txt K mg a) : FnOk P w K mg base CX0 1 a.f_l_doubled a.d_l_doubled ["_law_steps_here"] (spDoubled K) := by
  refine T.F_l_doubled.ok sc_l_doubled (fun vs H Q E h => ?_) (fun cdv A outer s H vs Q E hr h => ?_)
  · obtain ⟨⟨G, v, l, rfl, _⟩⟩ := h
    rfl
  · obtain ⟨⟨G, v, l, rfl, hD, hl, hGH, k⟩⟩ := h
    refine ⟨_, (pss_cons (ps_set (i := 1) sc_l_doubled.nd rfl (Or.inr rfl) (pe_callB call_len_seq (by rfl) T.z_len (by decide +kernel) (pa_cons (pv 0) pa_nil)))
      (pss_cons (ps_if (pt_cmpR op_gt (pv 1) pe_int (nomark _)) (pss_one (ps_ret (pv 0))) pss_nil)
      (pss_one (ps_ret (pe_op op_catS (pv 0) (pe_lc (own := [("_law_word", 2), ("_law_goal", 3)]) (g := gTup K 2 (gCons (gName 2) (gCons (gName 3) gNil))) (tt := tYes) rfl sc_l_doubled.nd (pi_list (pv 0)) (blkOk_by (own := [("_law_word", 2), ("_law_goal", 3)]) (N := ["_law_steps_here", "_law_many", "_law_word", "_law_goal"]) (sc := (defScope s_l_doubled)) (by decide +kernel)) (fun _ _ _ _ _ => (pg_tup (by rfl) (pgs_cons (pg_name (i := 2) sc_l_doubled.nd rfl (Or.inl rfl)) (pgs_cons (pg_name (i := 3) sc_l_doubled.nd rfl (Or.inl rfl)) pgs_nil)))) (fun _ _ _ _ _ => pts_nil) (fun _ _ _ _ _ => by exact (pe_tup (pa_cons (pv 2) (pa_cons (pe_ifExp (pt_cmpR op_notN (pv 3) pe_non (nomark _)) (pe_op op_add (pv 3) (pv 1)) pe_non) pa_nil)))))))))), ?_⟩
    obtain ⟨sl, xs, rfl, hsl, hxs⟩ := Dp.lst_inv hD
    have lx : xs.length = l.length := by rw [DpAll.len hxs, List.length_map]
    refine ⟨_, rfl, sl, _, rfl, .inl (hGH.seq hsl), ?_⟩
    rw [lx]
    refine ⟨_, rfl, _, _, rfl, rfl, _, rfl, ite_f (decide_eq_false (by omega)) ?_⟩
    refine ⟨_, rfl, _, rfl, sl, rfl, ⟨_, hGH.seq hsl⟩, fun D hD' => ?_⟩
    have D0 : H D = none := hD'
    have DG : G D = none := Same.free hGH hD'
    refine lc_list (K := K) (a := sl) (xs := xs) (fun j H' => ∃ (G' : Hp) (us : List V), Pt G H G' H' ∧ G' D = none ∧ H' D = some (.lst us) ∧ us.length = j ∧ DpAll K G' us (((l.take j).map (shS l.length)).map Step.D)) ⟨G, [], (Pt.start hGH).lay hD' _, DG, upd_same, rfl, .nil⟩ (fun j H' _ ⟨G', us, B, _⟩ => (B.g.trans B.s).seq hsl) ?_ ?_
    · rintro j y H' hy ⟨G', us, B, DG', hD2, hul, hus⟩
      obtain ⟨dd, hdd, hDd⟩ := DpAll.get hxs hy
      rw [List.getElem?_map] at hdd
      obtain ⟨st, hst, rfl⟩ : ∃ st, l[j]? = some st ∧ dd = st.D := by
        cases e : l[j]? with
        | none => rw [e] at hdd; cases hdd
        | some q => rw [e] at hdd; exact ⟨q, rfl, (Option.some.inj hdd).symm⟩
      have hj : j < l.length := (List.getElem?_eq_some_iff.mp hst).1
      obtain ⟨t, g, rfl, ht, hg⟩ := step_inv hDd
      have et : (l.take (j + 1)).map (shS l.length) = (l.take j).map (shS l.length) ++ [shS l.length st] := by rw [take_more hst, List.map_append]; rfl
      refine ⟨t, _, rfl, Same.seqT (B.g.trans B.s) ht, rfl, _, _, rfl, _, _, rfl, rfl, ?_⟩
      -- what is laid
      have fin : ∀ (v : V), Dp K G' v (match (shS l.length st).g with | none => .none | some k => natD k) → ∀ p, H' p = none → ∃ acc, (upd H' p (.tup [.str (wS st.w), v])) D = some (.lst acc) ∧ acc.length < sizeLine ∧
          ∃ (G2 : Hp) (us : List V), Pt G H G2 (upd (upd H' p (.tup [.str (wS st.w), v])) D (.lst (acc ++ [.ref p]))) ∧ G2 D = none ∧ (upd (upd H' p (.tup [.str (wS st.w), v])) D (.lst (acc ++ [.ref p]))) D = some (.lst us) ∧ us.length = j + 1 ∧ DpAll K G2 us (((l.take (j + 1)).map (shS l.length)).map Step.D) := fun v hv p hp => by
        have Dn : D ≠ p := ne_of_none hD2 hp
        have C := B.new hp (.tup [.str (wS st.w), v])
        have g := same_new (o := .tup [.str (wS st.w), v]) (B.freeG hp)
        have DG2 : (upd G' p (.tup [.str (wS st.w), v])) D = none := by rw [upd_ne Dn]; exact DG'
        refine ⟨us, by rw [upd_ne Dn]; exact hD2, smaller 20 (by omega) (by decide), _, us ++ [.ref p], C.put D0 DG2 _, DG2, upd_same, by rw [List.length_append, hul]; rfl, ?_⟩
        rw [et, List.map_append]
        exact DpAll.snoc (Dp.monoAll g _ _ hus) (.tup (SqT.of upd_same) (.cons (.str _) (.cons (Dp.mono g _ _ hv) .nil)))
      refine ⟨rfl, _, rfl, _, rfl, rfl, _, rfl, ?_⟩
      rcases hg with ⟨e1, rfl⟩ | ⟨kk, e1, rfl⟩
      · refine ite_f rfl ⟨(by show 2 ≤ sizeLine; decide), fun p hp => fin .non ?_ p hp⟩
        unfold shS
        rw [e1]
        exact .non
      · refine ite_t rfl ⟨_, rfl, _, rfl, _, _, rfl, rfl, (by show 2 ≤ sizeLine; decide), fun p hp => fin (.int ((kk : Int) + (l.length : Int))) ?_ p hp⟩
        unfold shS
        rw [e1]
        exact .int _
    rintro H' ⟨G', us, B, DG', hD2, hul, hus⟩
    rw [lx, List.take_of_length_le (Nat.le_refl _)] at hus
    refine ⟨sl, D, _, _, rfl, rfl, (B.g.trans B.s).seq hsl, SqL.of hD2, small 20 (by omega) (by decide), fun p hp => ?_⟩
    have C := B.new hp (.lst (xs ++ us))
    have g := same_new (o := .lst (xs ++ us)) (B.freeG hp)
    refine k _ _ _ C.ext C.sm (.lst (SqL.of upd_same) ?_)
    rw [List.map_append]
    exact DpAll.append (Dp.monoAll (B.g.trans g) _ _ hxs) (Dp.monoAll g _ _ hus)
end
end Sb

namespace Sb
open PySem PySem.Spec PyProof.Rows L2 HT
/-! ### t[::-1], t a tuple of two -/
section
variable {prog : Program} {w : World} {A : Around} {E : Value → Shared → Prop} {s : Shared}
theorem applied_back {sl : Addr} {t : Tok} {Q : Int × Int × Nat → Shared → Prop} (hs : s.heap.IsSliceOf sl .none .none (.int (-1) t)) (h : Q (1, -1, 2) s) : wpAny (model prog w) A (Builtin.Slice.sliceApplied (.ref sl) (pure (2 : Int))) Q E s := by
  obtain ⟨os, hos, hcs, hds⟩ := id hs
  unfold Builtin.Slice.sliceApplied Builtin.Slice.sliceFields
  refine wpAny_bind (wpAny_bind (wpAny_field hos hds (x := .none) rfl (wpAny_bind (wpAny_field hos hds (x := .none) rfl (wpAny_bind (wpAny_field hos hds (x := .int (-1) t) rfl (wpAny_pure ?_)))))))
  refine wpAny_bind (slicePart_int ?_)
  show wpAny _ _ (if ((-1 : Int) == 0) = true then _ else _) _ _ s
  rw [if_neg (by decide)]
  refine wpAny_bind (slicePart_none (wpAny_bind (slicePart_none (wpAny_bind (wpAny_pure ?_)))))
  exact wpAny_pure h
theorem getItem_back {t sl : Addr} {x y : Value} {u : Tok} {Q : Value → Shared → Prop} (ht : IsTup s.heap t #[x, y]) (hs : s.heap.IsSliceOf sl .none .none (.int (-1) u))
    (h : Q (.ref s.heap.objs.size) { s with heap := s.heap.push { cls := .type "tuple", data := .seq #[y, x] } }) : wpAny (model prog w) A (getItem (.ref t) (.ref sl)) Q E s := by
  obtain ⟨os, hos, hcs, hds⟩ := id hs
  have hTs : s.TypeIs (.ref sl) "slice" := ⟨os, hos, hcs⟩
  unfold getItem
  try with_reducible refine wpAny_holding ?_
  first | refine wpAny_bind (wpAny_pure ?_) | skip
  refine wpAny_bind (wpAny_sequenceKey ht.typeIs (by decide) ?_)
  refine wpAny_bind (wpAny_callSpecial?_slot (name := Str.ofString "__getitem__") ht.typeIs PyProof.Rows.slot_tuple_getitem (wpAny_call_entry PyProof.Rows.slot_tuple_getitem ht.typeIs entry_tuple_getitem ?_ (args_tuple_getitem _ _)))
  show wpAny _ _ (Builtin.Tuple.tupleItemsOf (.ref t) >>= _) _ _ s
  refine wpAny_bind (tupleItemsOf_ ht ?_)
  refine wpAny_bind (wpAny_typeOf hTs ?_)
  rw [if_pos (by decide)]
  refine wpAny_bind (applied_back hs ?_)
  show wpAny _ _ (if ((1 : Int) == 0 && (-1 : Int) == 1 && (2 : Nat) == 2) = true then _ else _) _ _ s
  rw [if_neg (by decide)]
  have e : ((List.range 2).filterMap fun (k : Nat) => (#[x, y] : Array Value)[((1 : Int) + (k : Int) * (-1)).toNat]?).toArray = #[y, x] := rfl
  rw [e]
  have hz : sizeOk (.seq #[y, x]) := by show 2 ≤ sizeLine; decide
  first
    | exact wpAny_bind (m := Builtin.Tuple.tupleExact _) (wpAny_newObj_type (wpAny_pure ⟨_, rfl, wpAny_pure h⟩) hz)
    | exact wpAny_bind (m := Builtin.Tuple.tupleExact _) (wpAny_newObj_type (wpAny_bind (wpAny_pure (wpAny_pure ⟨_, rfl, wpAny_pure h⟩))) hz)
    | exact wpAny_bind (wpAny_bind (m := Builtin.Tuple.tupleExact _) (wpAny_newObj_type (wpAny_pure (wpAny_pure ⟨_, rfl, wpAny_pure h⟩)) hz))
    | exact wpAny_bind (wpAny_bind (m := Builtin.Tuple.tupleExact _) (wpAny_newObj_type (wpAny_pure ⟨_, rfl, wpAny_pure h⟩) hz))
end
section
variable {X : Cx}
def tRevT (K : PySem.W.Frag) (te : TE) : TE := fun σ H Q => te σ H fun x H1 => ∃ a u v, x = .ref a ∧ SqT K H1 a [u, v] ∧ ∀ p, H1 p = none → Q (.ref p) (upd H1 p (.tup [v, u]))
theorem pe_revT {e : Expr} {te : TE} {k : Nat} {p1 p2 p3 pos : Pos} (he : PE X e te) : PE X (.Subscript e (.Slice none none (some (.UnaryOp .USub (.Constant (.int 1) k p1) p2)) p3) pos) (tRevT X.K te) := by
  refine ⟨fun pins s σ H Q I h => ?_⟩
  refine Subscript_ (thn (he.run pins s σ H _ I h) fun v s1 ⟨x, H1, I1, r1, q1⟩ => ?_)
  obtain ⟨a, u0, v0, ex, hx, q⟩ := q1
  subst ex
  cases r1
  have hst : PO X (some (.UnaryOp .USub (.Constant (.int 1) k p1) p2)) (tPart (tUn (rU fun i => .int (-i)) (tC (.int 1)))) := po_some (pe_un un_neg pe_int)
  refine wpAny_Slice ?_
  rw [evalPart_none]
  refine wpAny_pure (wpAny_pure ?_)
  refine thn (hst.run pins s1 σ H1 (fun o H4 => o = some (-1) ∧ H4 = H1) I1 ⟨1, rfl, -1, rfl, rfl, rfl⟩) fun vs s4 ⟨o, H4, I4, ps, eo, e4⟩ => ?_
  subst eo e4
  obtain ⟨tk, rfl⟩ : ∃ tk, vs = .int (-1) tk := by
    cases ps with
    | int i t => exact ⟨t, rfl⟩
  have I5 : Inv X pins σ H4 { s4 with heap := s4.heap.push { cls := .type "slice", data := .fields #[.none, .none, .int (-1) tk] } } := I4.kept (t' := s4.toks) fun b ob q => Heap.get?_push_of_some _ q
  obtain ⟨its, r, ht, hz⟩ := I5.tuple hx
  obtain ⟨w1, w2, rfl, r1, r2⟩ : ∃ w1 w2, its = [w1, w2] ∧ RelV u0 w1 ∧ RelV v0 w2 := by
    cases r with
    | cons p q => cases q with | cons p' q' => cases q'; exact ⟨_, _, rfl, p, p'⟩
  show wpAny (model X.prog X.w) X.A (subscriptTail e (.Slice none none (some (.UnaryOp .USub (.Constant (.int 1) k p1) p2)) p3) (.ref a) (.ref s4.heap.objs.size)) (EP X pins σ Q) X.xe { s4 with heap := s4.heap.push { cls := .type "slice", data := .fields #[.none, .none, .int (-1) tk] } }
  refine tail_any (ops := [.ref a, .ref s4.heap.objs.size]) ht.typeIs PyProof.Rows.slot_tuple_getitem.lookup ?_ (by with_unfolding_all rfl)
  refine getItem_back ht (Heap.IsSliceOf.new _ _ _ _) ?_
  refine ⟨.ref _, _, I5.laid (t' := s4.toks) (o := .tup [v0, u0]) (fun b ob q => Heap.get?_push_of_some _ q) (Nat.le_refl _) ?_, rfl, q _ (I5.hok.fresh (Nat.le_refl _))⟩
  exact ⟨by show 2 ≤ sizeLine; decide, [w2, w1], .cons r2 (.cons r1 .nil), IsTup.new _ _⟩
end
end Sb

namespace Sb
open PySem PySem.Spec PyProof.Rows L2
/-! ### xs.count(x), all flat -/
theorem cnt_eqU {x : V} : ∀ {xs : List V} {us : List Value}, Vals xs us → xs.all flatV = true → us.countP (eqU x) = xs.countP fun y => eqV y x
  | _, _, .nil, _ => rfl
  | y :: xs, u :: us, .cons r rs, f => by
    rw [List.all_cons, Bool.and_eq_true] at f
    rw [List.countP_cons, List.countP_cons, cnt_eqU rs f.2, eqU_of r f.1]
section
variable {X : Cx}
def rCntF (K : PySem.W.Frag) : V → List V → Hp → VK → Prop := fun x xs H Q => ∃ (p : Addr) (ys : List V) (y : V), x = .ref p ∧ xs = [y] ∧ SqL K H p ys ∧ flatV y = true ∧ ys.all flatV = true ∧ Q (.int ((ys.countP fun z => eqV z y) : Nat)) H
theorem mt_lcountF : MtR X "list.count" (rCntF X.K) := by
  intro pins s σ H x xs v us Q I rx rxs h
  obtain ⟨p, ys, y, rfl, rfl, hs, fy, fys, q⟩ := h
  cases rx
  obtain ⟨u, rfl, ru⟩ := rxs.one
  obtain ⟨its, rv, ⟨⟨cls, dd, data, sl⟩, n, ho, hc, hdn, hd⟩, hlen⟩ := I.list hs
  simp only at hc hd
  subst hc hd
  refine call_meets PySem.F.slot_list_count ⟨_, ho, rfl⟩ PySem.F.entry_list_count (PySem.F.args_list_count_2 _ _)
    (SeqAt.list_countAt p its.toArray n dd sl u (eqU y)) ⟨ho, fun z hz => mem_eqAt ru fy rv fys z (by simpa using hz), ?_⟩
  have ec : its.toArray.toList.countP (eqU y) = ys.countP fun z => eqV z y := cnt_eqU rv fys
  refine ⟨.int ((ys.countP fun z => eqV z y) : Nat), H, I.tok _, ⟨s.toks, ?_⟩, q⟩
  show Value.int ((its.toArray.toList.countP (eqU y) : Nat) : Int) s.toks = Value.int (((ys.countP fun z => eqV z y) : Nat) : Int) s.toks
  rw [ec]
end
end Sb

namespace Sb
open PySem PySem.Spec PyProof.Rows L2
/-! ### an except suite that does not know the class of its error: the reading tells it -/
section
variable {X : Cx} {a : Addr} {oe : Obj} {cls : Value} {d : Option Addr} {pn : List (Addr × Obj)}
def rIsX (K : PySem.W.Frag) (a : Addr) (cls : Value) (d : Option Addr) : List V → Hp → VK → Prop := fun xs H Q => ∃ (D : Addr) (c : V) (cv : Value) (b : Bool), cls = .ref D ∧ d = none ∧ ExcC K D ∧ xs = [.ref a, c] ∧ (∀ u, RelV c u → u = cv) ∧ PySem.W.kitOne K (.ref D) cv = some b ∧ Q (.bl b) H
theorem call_isX (hz : Zc cls d oe) (hf : ∃ vs, oe.data = .fields vs) : CallR (X.suite a ((a, oe) :: pn)) (.builtin "isinstance") (rIsX X.K a cls d) := by
  intro pins s σ H xs us Q I r h
  obtain ⟨D, c, cv, b, ec, ed, C, h⟩ := h
  subst ec ed
  exact call_isE C hz hf pins s σ H xs us Q I r ⟨c, cv, b, h⟩
def tXfG (K : PySem.W.Frag) (a : Addr) (cls : Value) (d : Option Addr) (f : Str) (te : TE) : TE := fun σ H Q => te σ H fun x H1 => x = .ref a ∧ ∃ (C : Addr), cls = .ref C ∧ XfC K C ∧ PySem.W.findIn K (.ref C) f = some none ∧ ∃ (dd : Addr) (fs : List (Str × V)) (v : V), d = some dd ∧ H1 dd = some (.xd fs) ∧ fs.lookup f = some v ∧ Q v H1
theorem pe_xfG {e : Expr} {te : TE} {pos : Pos} {n : Str} (hz : Zc cls d oe) (hf : ∃ vs, oe.data = .fields vs) (he : PE (X.suite a ((a, oe) :: pn)) e te) (hb : attributeBase e n X.env (eval e X.env) = eval e X.env := by rfl) :
    PE (X.suite a ((a, oe) :: pn)) (.Attribute e n pos) (tXfG X.K a cls d n te) := by
  refine ⟨fun pins s σ H Q I h => ?_⟩
  refine attr_of hb (thn (he.run pins s σ H _ I h) fun u s1 hh => ?_)
  obtain ⟨x, H1, I1, rx, ex, C, ec, T, hno, dd, fs, v, ed, ea, l, q⟩ := hh
  subst ex
  obtain rfl : u = Value.ref a := rx
  subst ec
  subst ed
  obtain ⟨ha, _⟩ := I1.pin (a, oe) (List.mem_append_left _ List.mem_cons_self)
  obtain ⟨vs, hd⟩ := hf
  have hx : ObjOk X.prog X.w H1 s1.heap dd (.xd fs) := I1.hok dd _ ea
  obtain ⟨mA, hns, hr⟩ := hx
  obtain ⟨od, ho, hl⟩ := lookIn_ns hns
  obtain ⟨u, hu, ru⟩ := RelO.some_of (v := v) (o := mA n) (by rw [← l]; exact hr n)
  have J : PySem.W.InstAt s1.heap a oe C (some od) := ⟨ha, hz.1, by unfold PySem.W.notCls; rw [hd] <;> rfl, by rw [hz.2]; exact ho⟩
  exact HandSPX.exc_get I1.kIn J T.ga T.gg T.exC (PySem.W.findObj_own T.hdC hno rfl (by rw [hl, hu])) (handed_of ru) ⟨v, H1, I1.tok _, ru, q⟩
/-! ### rules whose reading names the frozen part: in a suite it is the def's own -/
abbrev Su (X : Cx) (a : Addr) (oe : Obj) (pn : List (Addr × Obj)) : Cx := X.suite a ((a, oe) :: pn)
theorem op_in_seqS (X : Cx) (a : Addr) (oe : Obj) (pn : List (Addr × Obj)) : OpR (Su X a oe pn) (compareOp .In) (rIn X.K false) := op_in_seq (X := Su X a oe pn)
theorem ix_listS (X : Cx) (a : Addr) (oe : Obj) (pn : List (Addr × Obj)) : IxR (Su X a oe pn) (rIxL X.K) := ix_list (X := Su X a oe pn)
theorem mt_lcountFS (X : Cx) (a : Addr) (oe : Obj) (pn : List (Addr × Obj)) : MtR (Su X a oe pn) "list.count" (rCntF X.K) := mt_lcountF (X := Su X a oe pn)
theorem mt_indexS (X : Cx) (a : Addr) (oe : Obj) (pn : List (Addr × Obj)) : MtR (Su X a oe pn) "list.index" (rIndex X.K) := mt_index (X := Su X a oe pn)
theorem pe_bmS (X : Cx) (a : Addr) (oe : Obj) (pn : List (Addr × Obj)) {o e : Expr} {es : List Expr} {to : TE} {t : TA} {name : Str} {apos cpos : Pos} {T id : String} {r : V → List V → Hp → VK → Prop} (pa : PlainAttrs T) (slot : Slot T name id) (hty : typeOf (.builtin id) = pure (.type "method_descriptor")) (hm : MtR (Su X a oe pn) id r) (ho : PE (Su X a oe pn) o to) (ha : PA (Su X a oe pn) (e :: es) t)
    (hbase : attributeBase o name X.env (eval o X.env) = eval o X.env := by rfl)
    (hfew : ((backTo cpos (starEach (e :: es) X.env)).all (fun x => !x.1) && (backToKw cpos (keywordEach [] X.env)).all (fun x => x.1.isSome) && decide ((e :: es).length + ([] : List Keyword).length + (if ([] : List Keyword).isEmpty then 0 else 1) < 30)) = true := by rfl)
    (hline : (apos.endLine == cpos.line) = true := by rfl) (hs : starEach (e :: es) X.env = (false, eval e X.env) :: starEach es X.env := by rfl) (hplain : (backTo cpos (starEach es X.env)).any (·.1) = false := by rfl) :
    PE (Su X a oe pn) (.Call (.Attribute o name apos) (e :: es) [] cpos) (tBM X.K T r to t) := pe_bm (X := Su X a oe pn) pa slot hty hm ho ha hbase hfew hline hs hplain
end
end Sb

namespace Sb
open PySem PySem.Spec PyProof.Rows L2 LamX
/-! ### x(lambda: body), where x's except clause reads x's own slots: the wish is asked at the slots as they stand -/
section
variable {X : Cx} {pins : List (Addr × Obj)} {σ : L2.St} {H HZ : Hp} {s s1 : Shared}
theorem pe_actS {CXg : CXT} {Eg : XK} {Ng : List Str} {qg : Str} {sg : Scope} {g f c' : Addr} {cdg pm ctv : Value} {params : Arguments} {body : Expr} {scope : Scope} {k i : Nat} {a : Str} {pn : List (Addr × Obj)} {xe : Value → Shared → Prop} {W : WX} {E : XK} {tb : TE} {p1 p2 : Pos}
    (I : Inv X pins σ H s) (L : LamS X.env.scope scope) (hf : s.heap.get? f = some (PySem.W.kla_obj "<lambda>" (X.env.qual ++ "<lambda>") params body scope (cloFrom X.env.cells scope.names []) pm c' ctv)) (hfn : H f = none) (hfr : f ∉ frs X.stack)
    (hbind : bindArgs (PySem.W.kla_fn "<lambda>" (X.env.qual ++ "<lambda>") params body scope (cloFrom X.env.cells scope.names []) pm (.ref c') ctv) ⟨[], []⟩ = pure [])
    (tk : Takes ((cxOf CXg X.prog X.w X.K X.mg X.base Ng qg sg g cdg X.A X.stack s H Eg).tr pn xe) W) (hr : Room (k + 1) (X.A.deeper (envOfC qg sg s.heap.objs.size g cdg)))
    (hbody : ∀ (A : Around) (outer : List Env) (s : Shared) (H : Hp), Room k (A.deeper (lamEnv X scope s.heap.objs.size f c')) → PE (lamCx X A outer s H E scope f c') body tb)
    (hN : Ng[i]? = some a) (hv : Vis sg a) (hd : (a == ("__debug__" : Str)) = false := by decide) (hcd : (a == ("__classdict__" : Str)) = false := by decide) :
    PE ((cxOf CXg X.prog X.w X.K X.mg X.base Ng qg sg g cdg X.A X.stack s H Eg).tr pn xe) (.Call (.Name a p1) [] [] p2)
      (fun σZ HZ Q => σZ[i]? = some (some (.ref f)) ∧ HZ c' = some (CodeO c' (X.env.qual ++ "<lambda>")) ∧ (∀ cls d H', E cls d H' → W cls d σZ H') ∧ tb σ HZ Q) := by
  refine ⟨fun pinsZ sZ σZ HZ Q IZ hh => ?_⟩
  obtain ⟨hs, hc, hW, ht⟩ := hh
  refine wpAny_Call_Name_kw (thn ((pe_var (pos := p1) (i := i) hN hv hd hcd).run pinsZ sZ σZ HZ (fun v H1 => v = .ref f ∧ H1 = HZ) IZ ⟨.ref f, hs, rfl, rfl⟩) fun u s1 ⟨v, H1, I1, r1, ev, eH⟩ => ?_)
  subst ev
  rw [eH] at I1
  obtain rfl : u = Value.ref f := r1
  have ofn : s1.heap.get? f = some (PySem.W.kla_obj "<lambda>" (X.env.qual ++ "<lambda>") params body scope (cloFrom X.env.cells scope.names []) pm c' ctv) := I1.base.keep f _ hf hfn hfr (fun z => nomatch (show f ∈ ([] : List Addr) from z))
  refine PySem.W.callWith_F0 ⟨_, _, _, _, ofn⟩ ?_
  have un : Un (frs X.stack) [] H HZ s.heap s1.heap := I1.base
  obtain ⟨⟨oc, vs, t, hoc, hdc, hvc⟩, _, _⟩ := I1.hok c' _ hc
  have rc : codeAny (model X.prog X.w) (X.A.deeper (envOfC qg sg s.heap.objs.size g cdg)) (.call (.ref f) ⟨[], []⟩) (CR (L2.CX X.prog X.w) (envOfC qg sg s.heap.objs.size g cdg :: X.stack) X.prog X.w HZ s1 Q E) s1 := by
    refine PySem.W.kla_callFunE hr.depth ofn rfl L.co L.gen rfl ⟨c', oc, vs, t, rfl, hoc, hdc, hvc⟩ ?_
    rw [hbind]
    refine wpAny_pure (wpAny_newFunctionEnv (fun y hy => (L.own y hy).2) (fun y hy => absurd hy (by simp)) (fun h₁ hns hsb => ⟨I1.nolimit.fresh _ hsb, ?_⟩) L.kind)
    show codeAny _ _ (.expr body (lamEnv X scope s1.heap.objs.size f c')) _ _
    have kp : ∀ b o, s1.heap.get? b = some o → h₁.get? b = some o := fun b o e => hsb.extBut b o (Nat.ne_of_lt (Heap.lt_size e)) (Heap.get?_push_of_some _ e)
    have J : Inv (lamCx X (X.A.deeper (envOfC qg sg s.heap.objs.size g cdg)) (envOfC qg sg s.heap.objs.size g cdg :: X.stack) s1 HZ E scope f c') [] σ HZ { s1 with heap := h₁, toks := s1.toks + ([] : List (Str × Value)).length } :=
      lam_start2 I L I1.env0 hr.hd un hns kp
    refine PySem.W.kla_codeExpr (wpAny_mono ((hbody _ _ s1 HZ (hr.deeper _)).run [] _ _ HZ Q J ht) (fun v s' ⟨w', H', J', rv, q⟩ => ?_) fun e s' hq => hq)
    exact ⟨w', H', J'.os, J'.bare, J'.base, J'.hok, rv, q⟩
  refine wpAny_call (codeAny_mono rc fun r s' hq => ?_)
  cases r with
  | error e => exact tk e s' (XE.of_call I1 (fun cls d H' z => hW cls d H' z) hq)
  | ok fl =>
    cases fl with
    | ret u => exact I1.after hq
    | next => exact False.elim hq
    | brk => exact False.elim hq
    | cont => exact False.elim hq
end
def GivesS (X : Cx) (Ng : List Str) (x : Str) (sg : Scope) (g : Addr) (cdg : Value) (bg : List Stmt) (a : Str) (q : Str) (TT : (XK → Hp → VK → Prop) → Hp → VK → Prop) : Prop :=
  ∀ (f c' : Addr) (s : Shared) (H : Hp) (Q : VK) (tl : XK → Hp → VK → Prop),
    (∀ (W : WX) (pn : List (Addr × Obj)) (xe : Value → Shared → Prop) (E : XK) (p1 p2 : Pos), Takes ((cxOf C8.CX0 X.prog X.w X.K X.mg X.base Ng x sg g cdg X.A X.stack s H C8.E0).tr pn xe) W →
      PE ((cxOf C8.CX0 X.prog X.w X.K X.mg X.base Ng x sg g cdg X.A X.stack s H C8.E0).tr pn xe) (.Call (.Name a p1) [] [] p2) (fun σZ HZ Q => σZ[0]? = some (some (.ref f)) ∧ HZ c' = some (CodeO c' q) ∧ (∀ cls d H', E cls d H' → W cls d σZ H') ∧ tl E HZ Q)) →
    H c' = some (CodeO c' q) → TT tl H Q →
    ∃ t, PSs (cxOf C8.CX0 X.prog X.w X.K X.mg X.base Ng x sg g cdg X.A X.stack s H C8.E0).nox bg t ∧ t { nx := fun _ H' => Q .non H', rt := Q } (L2.start Ng [.ref f]) H
section
variable {X : Cx}
theorem pe_lamS {T : List (Addr × Str)} {TT : (XK → Hp → VK → Prop) → Hp → VK → Prop} {x a : Str} {g c P : Addr} {k : Nat} {pg : Arguments} {bg : List Stmt} {sg : Scope} {dV kV doc pm cdv ct oc : Value} {an od : Option Addr} {osl : Array (Option Value)} {Ng : List Str}
    {params : Arguments} {body : Expr} {scope : Scope} {t : XK → TE} {p lpos pos : Pos} (hg : Gl X x) (hm : X.mg x = some (.ref g)) (hk : PySem.W.keepIn X.K (.ref g) = true)
    (lk : X.K.lookup g = some ⟨oc, od, .func (PySem.W.fnOf x x pg bg sg dV kV doc pm an cdv ct), osl⟩) (hcg : PySem.W.codeIn X.K cdv x = true) (hb : L2.Binds X.K (PySem.W.fnOf x x pg bg sg dV kV doc pm an cdv ct) [a] []) (Sg : FnScope Ng [a] sg) (hNg : Ng[0]? = some a) (hva : Vis sg a)
    (hG : GivesS X Ng x sg g cdv bg a (X.env.qual ++ "<lambda>") TT)
    (TB : TabB X.base X.mg c P) (hcode : X.env.code = .ref c) (hmT : (P, X.env.qual ++ "<lambda>") ∈ T) (hu : ∀ p ∈ T, p.1 = P → p.2 = X.env.qual ++ "<lambda>") (hr : Room (k + 2) X.A) (L : LamS X.env.scope scope) (hdef : defaultsOf params X.env = ([], []))
    (hbind : ∀ (q : Str) (cl : List (Str × Addr)) (pm cv ctv : Value), bindArgs (PySem.W.kla_fn "<lambda>" q params body scope cl pm cv ctv) ⟨[], []⟩ = pure [])
    (hbody : ∀ (A : Around) (outer : List Env) (s : Shared) (H : Hp) (E : XK) (f c' : Addr), Room k (A.deeper (lamEnv X scope s.heap.objs.size f c')) → PE (lamCx X A outer s H E scope f c') body (t E))
    (hdb : (x == ("__debug__" : Str)) = false := by decide) (hd : (a == ("__debug__" : Str)) = false := by decide) (hcd : (a == ("__classdict__" : Str)) = false := by decide) :
    PE X (.Call (.Name x p) [.Lambda params body scope lpos] [] pos) (tLam T TT t) := by
  refine ⟨fun pins s σ H Q I ⟨hT, h⟩ => ?_⟩
  refine wpAny_Call_Name_kw (ld_glob I hg hm ?_ hdb)
  refine PySem.W.callWith_K (h₀ := X.base) I.ok.mod.kin hk ?_ (by rfl) (by rfl)
  show wpAny _ _ (spliced ((false, eval (.Lambda params body scope lpos) X.env) :: backTo pos (starEach [] X.env))) _ _ s
  refine Calls.spliced_cons (lam_make2 I TB hcode hmT hu hT hdef (L.has I.ok) fun f c' pm' ctv H1 s' I1 eN T1 hf hfn hfr hco => ?_)
  refine Calls.spliced_nil ⟨I1.kIn, ?_⟩
  have rc : codeAny (model X.prog X.w) X.A (.call (.ref g) ⟨[.ref f], []⟩) (CR C8.CX0 X.stack X.prog X.w H1 s' Q C8.E0) s' := by
    refine run_ofS (N := Ng) (ps := [a]) (us := [.ref f]) (vs := [.ref f]) lk hcg Sg hr I1.env0 (hb s' [.ref f] I1.kIn rfl) (.cons rfl .nil) rfl fun hr' => ?_
    obtain ⟨t', ht', hq'⟩ := hG f c' s' H1 Q (fun E H' Q' => t E σ H' Q') (fun W pn xe E p1 p2 tk => pe_actS (i := 0) I1 L hf hfn hfr (hbind _ _ _ _ _) tk hr' (fun A outer s H hr2 => hbody A outer s H E f c' hr2) hNg hva hd hcd) hco (h H1 eN T1)
    exact ⟨t', ht'.nox, hq'⟩
  refine wpAny_call (codeAny_mono rc fun r s2 hq => ?_)
  cases r with
  | error e => exact (show False from hq).elim
  | ok fl =>
    cases fl with
    | ret u => exact I1.after hq
    | next => exact False.elim hq
    | brk => exact False.elim hq
    | cont => exact False.elim hq
end
end Sb

namespace Sb
open PySem PySem.Spec PyProof.Rows L2 LamX
/-! ### an error that leaves a lambda's body -/
theorem takes_lam {X : Cx} {A : Around} {outer : List Env} {s : Shared} {H : Hp} {E : XK} {scope : Scope} {f c' : Addr} : Takes (lamCx X A outer s H E scope f c') (fun cls d _ H' => E cls d H') :=
  takes_of rfl rfl rfl rfl
theorem pass_lam {X : Cx} {A : Around} {outer : List Env} {s : Shared} {H : Hp} {E : XK} {scope : Scope} {f c' : Addr} : Passes (L2.CX X.prog X.w) (lamCx X A outer s H E scope f c') E :=
  passes_call takes_lam (fun _ _ _ _ h => h)
end Sb

namespace Sb
open PySem PySem.Spec PyProof.Rows L2 TL LamX
/-! ### _law_error_of -/
/-- the error's class, its word; E: what is wanted of the tuple (word, 0) -/
def TErr (a : Ad) : (XK → Hp → VK → Prop) → Hp → VK → Prop := fun tl H Q =>
  tl (fun cls d H' => cls = .ref a.X_DifferentShelves ∧ d = none ∧ ∀ (H2 : Hp) (p : Addr), Same H' H2 → H' p = none → H2 p = some (.tup [.str "different", .int 0]) → Q (.ref p) H2) H fun _ H' => Q .non H'
section
variable {a : Ad}
abbrev eCx (X : Cx) (a : Ad) (cdg : Value) (s : Shared) (H : Hp) : Cx := (cxOf C8.CX0 X.prog X.w X.K X.mg X.base ["_law_call", "e", "_law_kinds", "_law_names", "_law_name"] "_law_error_of" (defScope s_l_error_of) a.f_l_error_of cdg X.A X.stack s H C8.E0).nox
theorem err_gives {X : Cx} (T : Txt X.K X.mg a) {cdg : Value} {q : Str} : GivesS X ["_law_call", "e", "_law_kinds", "_law_names", "_law_name"] "_law_error_of" (defScope s_l_error_of) a.f_l_error_of cdg (defBody s_l_error_of) "_law_call" q (TErr a) := by
  intro f c' s H Q tl act hc h
  refine ⟨_, pss_cons (ps_try_as (X := eCx X a cdg s H) (i := 1) (c := .ref a.X_BotError)
      (tb := fun W D σ H => ∃ Ech : XK, σ[0]? = some (some (.ref f)) ∧ H c' = some (CodeO c' q) ∧ (∀ cls d H', Ech cls d H' → W cls d σ H') ∧ tl Ech H fun _ H' => D.nx σ H')
      rfl rfl sc_l_error_of.nd rfl rfl ⟨rfl, by decide, .inl T.e_BotError⟩ L2.takes0 (fun W pn xe tk _ => ?_) (fun ea oe cls d pn hz hf => by exact (pss_cons (ps_set (i := 2) sc_l_error_of.nd rfl (Or.inl rfl) (pe_lst (pa_cons (pe_callB (call_isX hz hf) (by rfl) T.z_isinstance (by decide +kernel) (pa_cons (pv 1) (pa_cons (pe_glob (v := V.ref a.X_InvalidTick) rfl T.e_InvalidTick rfl) pa_nil))) (pa_cons (pe_callB (call_isX hz hf) (by rfl) T.z_isinstance (by decide +kernel) (pa_cons (pv 1) (pa_cons (pe_glob (v := V.ref a.X_InvalidNumber) rfl T.e_InvalidNumber rfl) pa_nil))) (pa_cons (pe_callB (call_isX hz hf) (by rfl) T.z_isinstance (by decide +kernel) (pa_cons (pv 1) (pa_cons (pe_glob (v := V.ref a.X_TooLong) rfl T.e_TooLong rfl) pa_nil))) pa_nil)))))
      (pss_cons (ps_set (i := 2) sc_l_error_of.nd rfl (Or.inl rfl) (pe_op op_cat (pv 2) (pe_lst (pa_cons (pe_callB (call_isX hz hf) (by rfl) T.z_isinstance (by decide +kernel) (pa_cons (pv 1) (pa_cons (pe_glob (v := V.ref a.X_DifferentShelves) rfl T.e_DifferentShelves rfl) pa_nil))) (pa_cons (pe_callB (call_isX hz hf) (by rfl) T.z_isinstance (by decide +kernel) (pa_cons (pv 1) (pa_cons (pe_glob (v := V.ref a.X_Contradiction) rfl T.e_Contradiction rfl) pa_nil))) (pa_cons (pe_callB (call_isX hz hf) (by rfl) T.z_isinstance (by decide +kernel) (pa_cons (pv 1) (pa_cons (pe_glob (v := V.ref a.X_CellFull) rfl T.e_CellFull rfl) pa_nil))) pa_nil))))))
      (pss_cons (ps_set (i := 2) sc_l_error_of.nd rfl (Or.inl rfl) (pe_op op_cat (pv 2) (pe_lst (pa_cons (pe_callB (call_isX hz hf) (by rfl) T.z_isinstance (by decide +kernel) (pa_cons (pv 1) (pa_cons (pe_glob (v := V.ref a.X_CellEmpty) rfl T.e_CellEmpty rfl) pa_nil))) (pa_cons (pe_callB (call_isX hz hf) (by rfl) T.z_isinstance (by decide +kernel) (pa_cons (pv 1) (pa_cons (pe_glob (v := V.ref a.X_InvalidName) rfl T.e_InvalidName rfl) pa_nil))) (pa_cons (pe_callB (call_isX hz hf) (by rfl) T.z_isinstance (by decide +kernel) (pa_cons (pv 1) (pa_cons (pe_glob (v := V.ref a.X_UnknownName) rfl T.e_UnknownName rfl) pa_nil))) pa_nil))))))
      (pss_cons (ps_set (i := 2) sc_l_error_of.nd rfl (Or.inl rfl) (pe_op op_cat (pv 2) (pe_lst (pa_cons (pe_callB (call_isX hz hf) (by rfl) T.z_isinstance (by decide +kernel) (pa_cons (pv 1) (pa_cons (pe_glob (v := V.ref a.X_SyntaxFault) rfl T.e_SyntaxFault rfl) pa_nil))) (pa_cons (pe_callB (call_isX hz hf) (by rfl) T.z_isinstance (by decide +kernel) (pa_cons (pv 1) (pa_cons (pe_glob (v := V.ref a.X_CheckFault) rfl T.e_CheckFault rfl) pa_nil))) (pa_cons (pe_callB (call_isX hz hf) (by rfl) T.z_isinstance (by decide +kernel) (pa_cons (pv 1) (pa_cons (pe_glob (v := V.ref a.X_InvalidCode) rfl T.e_InvalidCode rfl) pa_nil))) pa_nil))))))
      (pss_cons (ps_set (i := 2) sc_l_error_of.nd rfl (Or.inl rfl) (pe_op op_cat (pv 2) (pe_lst (pa_cons (pe_callB (call_isX hz hf) (by rfl) T.z_isinstance (by decide +kernel) (pa_cons (pv 1) (pa_cons (pe_glob (v := V.ref a.X_InvalidOperation) rfl T.e_InvalidOperation rfl) pa_nil))) pa_nil))))
      (pss_cons (ps_if (PW.pt (pw_or (pt_cmpR op_ne (pe_bmS (eCx X a cdg s H) ea oe pn PySem.F.plainAttrs_list PySem.F.slot_list_count PySem.F.type_list_count (mt_lcountFS (eCx X a cdg s H) ea oe pn) (pv 2) (pa_cons pe_bl pa_nil)) pe_int (nomark _)) (pw_or1 (pt_not (pt_val (pe_callB (call_isX hz hf) (by rfl) T.z_isinstance (by decide +kernel) (pa_cons (pv 1) (pa_cons (pe_bltn (v := .ty "ValueError") (by rfl) T.z_ValueError (by decide +kernel) rfl) pa_nil)))))))) (pss_one (ps_ret (pe_tup (pa_cons pe_str (pa_cons pe_int pa_nil))))) pss_nil)
      (pss_cons (ps_set (i := 3) sc_l_error_of.nd rfl (Or.inl rfl) (pe_lst (pa_cons pe_str (pa_cons pe_str (pa_cons pe_str (pa_cons pe_str (pa_cons pe_str (pa_cons pe_str (pa_cons pe_str (pa_cons pe_str (pa_cons pe_str pa_nil)))))))))))
      (pss_cons (ps_set (i := 4) sc_l_error_of.nd rfl (Or.inl rfl) (pe_ix (ix_listS (eCx X a cdg s H) ea oe pn) (pe_op op_cat (pv 3) (pe_lst (pa_cons pe_str (pa_cons pe_str (pa_cons pe_str (pa_cons pe_str pa_nil)))))) (pe_bmS (eCx X a cdg s H) ea oe pn PySem.F.plainAttrs_list PySem.F.slot_list_index PySem.F.type_list_index (mt_indexS (eCx X a cdg s H) ea oe pn) (pv 2) (pa_cons pe_bl pa_nil)) (fun _ _ => rfl)))
      (pss_cons (ps_if (pt_cmpR (op_in_seqS (eCx X a cdg s H) ea oe pn) (pv 4) (pe_lst (pa_cons pe_str (pa_cons pe_str pa_nil))) rfl) (pss_one (ps_ret (pe_tup (pa_cons (pv 4) (pa_cons (pe_ifExp (pt_cmpR op_eq (pv 4) pe_str (nomark _)) (pe_tup (pa_cons (pe_xfG hz hf (pv 1)) (pa_cons (pe_xfG hz hf (pv 1)) pa_nil))) (pe_tup (pa_cons (pe_xfG hz hf (pv 1)) (pa_cons (pe_xfG hz hf (pv 1)) (pa_cons (pe_xfG hz hf (pv 1)) pa_nil))))) pa_nil))))) pss_nil)
      (pss_one (ps_ret (pe_tup (pa_cons (pv 4) (pa_cons (pe_ifExp (pt_cmpR (op_in_seqS (eCx X a cdg s H) ea oe pn) (pv 4) (pe_lst (pa_cons pe_str (pa_cons pe_str pa_nil))) rfl) (pe_xfG hz hf (pv 1)) pe_int) pa_nil)))))))))))))))) (pss_one (ps_ret pe_non)), ?_⟩
  · refine ⟨fun pins s' σ H' D I h' => ?_⟩
    obtain ⟨Ech, h1, h2, hW, h3⟩ := h'
    exact (pss_one (ps_expr (act W pn xe Ech _ _ tk))).run pins s' σ H' D I ⟨h1, h2, hW, h3⟩
  · refine ⟨fun cls d H' => cls = .ref a.X_DifferentShelves ∧ d = none ∧ ∀ (H2 : Hp) (p : Addr), Same H' H2 → H' p = none → H2 p = some (.tup [.str "different", .int 0]) → Q (.ref p) H2, rfl, hc, fun cls d H' ⟨ec, ed, k⟩ => ⟨true, by rw [ec]; exact T.xe_DifferentShelves, fun _ ea hea => ?_, fun z => by cases z⟩, h⟩
    subst ec ed
    refine ⟨_, rfl, a.X_DifferentShelves, .ref a.X_InvalidTick, .ref a.X_InvalidTick, false, rfl, rfl, T.xc_DifferentShelves, rfl, (fun u r => r), T.xo_DifferentShelves_InvalidTick, _, rfl, a.X_DifferentShelves, .ref a.X_InvalidNumber, .ref a.X_InvalidNumber, false, rfl, rfl, T.xc_DifferentShelves, rfl, (fun u r => r), T.xo_DifferentShelves_InvalidNumber, _, rfl, a.X_DifferentShelves, .ref a.X_TooLong, .ref a.X_TooLong, false, rfl, rfl, T.xc_DifferentShelves, rfl, (fun u r => r), T.xo_DifferentShelves_TooLong, (by show 3 ≤ sizeLine; decide), fun l0 hl0 => ?_⟩
    have m0 := same_new (o := .lst [.bl false, .bl false, .bl false]) hl0
    have e0 : (upd H' l0 (.lst [.bl false, .bl false, .bl false])) l0 = some (.lst [.bl false, .bl false, .bl false]) := upd_same
    revert m0 e0
    generalize upd H' l0 (.lst [.bl false, .bl false, .bl false]) = H0
    intro m0 e0
    refine ⟨_, rfl, _, rfl, a.X_DifferentShelves, .ref a.X_DifferentShelves, .ref a.X_DifferentShelves, true, rfl, rfl, T.xc_DifferentShelves, rfl, (fun u r => r), T.xo_DifferentShelves_DifferentShelves, _, rfl, a.X_DifferentShelves, .ref a.X_Contradiction, .ref a.X_Contradiction, false, rfl, rfl, T.xc_DifferentShelves, rfl, (fun u r => r), T.xo_DifferentShelves_Contradiction, _, rfl, a.X_DifferentShelves, .ref a.X_CellFull, .ref a.X_CellFull, false, rfl, rfl, T.xc_DifferentShelves, rfl, (fun u r => r), T.xo_DifferentShelves_CellFull, (by show 3 ≤ sizeLine; decide), fun k1 hk1 => ?_⟩
    refine ⟨l0, k1, _, _, rfl, rfl, by rw [upd_ne (ne_of_none e0 hk1)]; exact e0, upd_same, (by show 6 ≤ sizeLine; decide), fun l1 hl1 => ?_⟩
    have m1 := (m0.trans (same_new (o := .lst [.bl true, .bl false, .bl false]) hk1)).trans (same_new (o := .lst ([.bl false, .bl false, .bl false] ++ [.bl true, .bl false, .bl false])) hl1)
    have e1 : (upd (upd H0 k1 (.lst [.bl true, .bl false, .bl false])) l1 (.lst ([.bl false, .bl false, .bl false] ++ [.bl true, .bl false, .bl false]))) l1 = some (.lst [.bl false, .bl false, .bl false, .bl true, .bl false, .bl false]) := upd_same
    revert m1 e1
    generalize upd (upd H0 k1 (.lst [.bl true, .bl false, .bl false])) l1 (.lst ([.bl false, .bl false, .bl false] ++ [.bl true, .bl false, .bl false])) = H1
    intro m1 e1
    refine ⟨_, rfl, _, rfl, a.X_DifferentShelves, .ref a.X_CellEmpty, .ref a.X_CellEmpty, false, rfl, rfl, T.xc_DifferentShelves, rfl, (fun u r => r), T.xo_DifferentShelves_CellEmpty, _, rfl, a.X_DifferentShelves, .ref a.X_InvalidName, .ref a.X_InvalidName, false, rfl, rfl, T.xc_DifferentShelves, rfl, (fun u r => r), T.xo_DifferentShelves_InvalidName, _, rfl, a.X_DifferentShelves, .ref a.X_UnknownName, .ref a.X_UnknownName, false, rfl, rfl, T.xc_DifferentShelves, rfl, (fun u r => r), T.xo_DifferentShelves_UnknownName, (by show 3 ≤ sizeLine; decide), fun k2 hk2 => ?_⟩
    refine ⟨l1, k2, _, _, rfl, rfl, by rw [upd_ne (ne_of_none e1 hk2)]; exact e1, upd_same, (by show 9 ≤ sizeLine; decide), fun l2 hl2 => ?_⟩
    have m2 := (m1.trans (same_new (o := .lst [.bl false, .bl false, .bl false]) hk2)).trans (same_new (o := .lst ([.bl false, .bl false, .bl false, .bl true, .bl false, .bl false] ++ [.bl false, .bl false, .bl false])) hl2)
    have e2 : (upd (upd H1 k2 (.lst [.bl false, .bl false, .bl false])) l2 (.lst ([.bl false, .bl false, .bl false, .bl true, .bl false, .bl false] ++ [.bl false, .bl false, .bl false]))) l2 = some (.lst [.bl false, .bl false, .bl false, .bl true, .bl false, .bl false, .bl false, .bl false, .bl false]) := upd_same
    revert m2 e2
    generalize upd (upd H1 k2 (.lst [.bl false, .bl false, .bl false])) l2 (.lst ([.bl false, .bl false, .bl false, .bl true, .bl false, .bl false] ++ [.bl false, .bl false, .bl false])) = H2
    intro m2 e2
    refine ⟨_, rfl, _, rfl, a.X_DifferentShelves, .ref a.X_SyntaxFault, .ref a.X_SyntaxFault, false, rfl, rfl, T.xc_DifferentShelves, rfl, (fun u r => r), T.xo_DifferentShelves_SyntaxFault, _, rfl, a.X_DifferentShelves, .ref a.X_CheckFault, .ref a.X_CheckFault, false, rfl, rfl, T.xc_DifferentShelves, rfl, (fun u r => r), T.xo_DifferentShelves_CheckFault, _, rfl, a.X_DifferentShelves, .ref a.X_InvalidCode, .ref a.X_InvalidCode, false, rfl, rfl, T.xc_DifferentShelves, rfl, (fun u r => r), T.xo_DifferentShelves_InvalidCode, (by show 3 ≤ sizeLine; decide), fun k3 hk3 => ?_⟩
    refine ⟨l2, k3, _, _, rfl, rfl, by rw [upd_ne (ne_of_none e2 hk3)]; exact e2, upd_same, (by show 12 ≤ sizeLine; decide), fun l3 hl3 => ?_⟩
    have m3 := (m2.trans (same_new (o := .lst [.bl false, .bl false, .bl false]) hk3)).trans (same_new (o := .lst ([.bl false, .bl false, .bl false, .bl true, .bl false, .bl false, .bl false, .bl false, .bl false] ++ [.bl false, .bl false, .bl false])) hl3)
    have e3 : (upd (upd H2 k3 (.lst [.bl false, .bl false, .bl false])) l3 (.lst ([.bl false, .bl false, .bl false, .bl true, .bl false, .bl false, .bl false, .bl false, .bl false] ++ [.bl false, .bl false, .bl false]))) l3 = some (.lst [.bl false, .bl false, .bl false, .bl true, .bl false, .bl false, .bl false, .bl false, .bl false, .bl false, .bl false, .bl false]) := upd_same
    revert m3 e3
    generalize upd (upd H2 k3 (.lst [.bl false, .bl false, .bl false])) l3 (.lst ([.bl false, .bl false, .bl false, .bl true, .bl false, .bl false, .bl false, .bl false, .bl false] ++ [.bl false, .bl false, .bl false])) = H3
    intro m3 e3
    refine ⟨_, rfl, _, rfl, a.X_DifferentShelves, .ref a.X_InvalidOperation, .ref a.X_InvalidOperation, false, rfl, rfl, T.xc_DifferentShelves, rfl, (fun u r => r), T.xo_DifferentShelves_InvalidOperation, (by show 1 ≤ sizeLine; decide), fun k4 hk4 => ?_⟩
    refine ⟨l3, k4, _, _, rfl, rfl, by rw [upd_ne (ne_of_none e3 hk4)]; exact e3, upd_same, (by show 13 ≤ sizeLine; decide), fun l4 hl4 => ?_⟩
    have m4 := (m3.trans (same_new (o := .lst [.bl false]) hk4)).trans (same_new (o := .lst ([.bl false, .bl false, .bl false, .bl true, .bl false, .bl false, .bl false, .bl false, .bl false, .bl false, .bl false, .bl false] ++ [.bl false])) hl4)
    have e4 : (upd (upd H3 k4 (.lst [.bl false])) l4 (.lst ([.bl false, .bl false, .bl false, .bl true, .bl false, .bl false, .bl false, .bl false, .bl false, .bl false, .bl false, .bl false] ++ [.bl false]))) l4 = some (.lst [.bl false, .bl false, .bl false, .bl true, .bl false, .bl false, .bl false, .bl false, .bl false, .bl false, .bl false, .bl false, .bl false]) := upd_same
    revert m4 e4
    generalize upd (upd H3 k4 (.lst [.bl false])) l4 (.lst ([.bl false, .bl false, .bl false, .bl true, .bl false, .bl false, .bl false, .bl false, .bl false, .bl false, .bl false, .bl false] ++ [.bl false])) = H4
    intro m4 e4
    refine ⟨_, rfl, .inl ⟨rfl, _, SqL.of e4⟩, l4, _, .bl true, rfl, rfl, SqL.of e4, rfl, rfl, rfl, _, rfl, ite_f rfl ?_⟩
    refine ⟨_, rfl, a.X_DifferentShelves, .ty "ValueError", .type "ValueError", true, rfl, rfl, T.xc_DifferentShelves, rfl, (fun u r => r), T.xv_DifferentShelves, _, rfl, ite_f rfl ?_⟩
    refine ⟨(by show 9 ≤ sizeLine; decide), fun n0 hn0 => ?_⟩
    have m5 := m4.trans (same_new (o := .lst [.str "tick", .str "number", .str "long", .str "different", .str "contradiction", .str "full", .str "empty", .str "name", .str "unknown"]) hn0)
    have e5 : (upd H4 n0 (.lst [.str "tick", .str "number", .str "long", .str "different", .str "contradiction", .str "full", .str "empty", .str "name", .str "unknown"])) l4 = _ := (upd_ne (ne_of_none e4 hn0)).trans e4
    have f5 : (upd H4 n0 (.lst [.str "tick", .str "number", .str "long", .str "different", .str "contradiction", .str "full", .str "empty", .str "name", .str "unknown"])) n0 = some (.lst [.str "tick", .str "number", .str "long", .str "different", .str "contradiction", .str "full", .str "empty", .str "name", .str "unknown"]) := upd_same
    revert m5 e5 f5
    generalize upd H4 n0 (.lst [.str "tick", .str "number", .str "long", .str "different", .str "contradiction", .str "full", .str "empty", .str "name", .str "unknown"]) = H5
    intro m5 e5 f5
    refine ⟨_, rfl, (by show 4 ≤ sizeLine; decide), fun n1 hn1 => ?_⟩
    refine ⟨n0, n1, _, _, rfl, rfl, by rw [upd_ne (ne_of_none f5 hn1)]; exact f5, upd_same, (by show 13 ≤ sizeLine; decide), fun n2 hn2 => ?_⟩
    have m6 := (m5.trans (same_new (o := .lst [.str "syntax", .str "check", .str "code", .str "operation"]) hn1)).trans (same_new (o := .lst ([.str "tick", .str "number", .str "long", .str "different", .str "contradiction", .str "full", .str "empty", .str "name", .str "unknown"] ++ [.str "syntax", .str "check", .str "code", .str "operation"])) hn2)
    have g6 : (upd H5 n1 (.lst [.str "syntax", .str "check", .str "code", .str "operation"])) l4 = _ := (upd_ne (ne_of_none e5 hn1)).trans e5
    have e6 : (upd (upd H5 n1 (.lst [.str "syntax", .str "check", .str "code", .str "operation"])) n2 (.lst ([.str "tick", .str "number", .str "long", .str "different", .str "contradiction", .str "full", .str "empty", .str "name", .str "unknown"] ++ [.str "syntax", .str "check", .str "code", .str "operation"]))) l4 = _ := (upd_ne (ne_of_none g6 hn2)).trans g6
    have f6 : (upd (upd H5 n1 (.lst [.str "syntax", .str "check", .str "code", .str "operation"])) n2 (.lst ([.str "tick", .str "number", .str "long", .str "different", .str "contradiction", .str "full", .str "empty", .str "name", .str "unknown"] ++ [.str "syntax", .str "check", .str "code", .str "operation"]))) n2 = some (.lst [.str "tick", .str "number", .str "long", .str "different", .str "contradiction", .str "full", .str "empty", .str "name", .str "unknown", .str "syntax", .str "check", .str "code", .str "operation"]) := upd_same
    revert m6 e6 f6
    generalize upd (upd H5 n1 (.lst [.str "syntax", .str "check", .str "code", .str "operation"])) n2 (.lst ([.str "tick", .str "number", .str "long", .str "different", .str "contradiction", .str "full", .str "empty", .str "name", .str "unknown"] ++ [.str "syntax", .str "check", .str "code", .str "operation"])) = H6
    intro m6 e6 f6
    refine ⟨_, rfl, .inl ⟨rfl, _, SqL.of e6⟩, l4, _, .bl true, 3, .bl true, rfl, rfl, SqL.of e6, rfl, rfl, rfl, rfl, (fun m z hm hz => ?_), n2, _, _, .str "different", rfl, rfl, SqL.of f6, at_of (j := 3) rfl rfl, ?_⟩
    · match m, hm with
      | 0, _ => cases hz; rfl
      | 1, _ => cases hz; rfl
      | 2, _ => cases hz; rfl
    refine ⟨_, rfl, (by show 2 ≤ sizeLine; decide), fun n3 hn3 => ?_⟩
    have m7 := m6.trans (same_new (o := .lst [.str "syntax", .str "check"]) hn3)
    refine ⟨n3, _, rfl, .inl (SqL.of upd_same), rfl, rfl, _, rfl, ite_f rfl ?_⟩
    revert m7
    generalize upd H6 n3 (.lst [.str "syntax", .str "check"]) = H7
    intro m7
    refine ⟨_, rfl, _, rfl, (by show 2 ≤ sizeLine; decide), fun n4 hn4 => ?_⟩
    have m8 := m7.trans (same_new (o := .lst [.str "code", .str "operation"]) hn4)
    refine ⟨n4, _, rfl, .inl (SqL.of upd_same), rfl, rfl, _, rfl, ite_f rfl ?_⟩
    revert m8
    generalize upd H7 n4 (.lst [.str "code", .str "operation"]) = H8
    intro m8
    refine ⟨(by show 2 ≤ sizeLine; decide), fun tp htp => ?_⟩
    exact k _ tp (m8.trans (same_new htp)) (Same.free m8 htp) upd_same
end
end Sb

namespace Sb
open PySem PySem.Spec PyProof.Rows L2 TL LamX NdefX
structure spFDX (a : Ad) (K : PySem.W.Frag) (vs : List V) (H : Hp) (Q : VK) (E : XK) : Prop where
  ex : ∃ (s1 s2 : Str) (G : Hp) (x z : Pl), vs = [.str s1, .str s2] ∧ Loads s1 x ∧ x.Ok ∧ Loads s2 z ∧ z.Ok ∧ x.shelf.length ≠ z.shelf.length ∧ Same G H ∧ ∀ G' H', Ext G H G' H' → Same H H' → E (.ref a.X_DifferentShelves) none H'
section
variable {P : Program} {w : World} {K : PySem.W.Frag} {mg : Str → Option Value} {base : Heap} {a : Ad}
theorem ok_fdX (T : Txt K mg a) : FnOk P w K mg base (L2.CX P w) 9 a.f_first_difference a.d_first_difference ["plan", "other"] (spFDX a K) := by
  refine T.F_first_difference.okX sc_first_difference (fun vs H Q E h => ?_) (fun cdv A outer s H vs Q E hr h => ?_)
  · obtain ⟨⟨s1, s2, G, x, z, rfl, _⟩⟩ := h
    rfl
  · obtain ⟨⟨s1, s2, G, x, z, rfl, ld, ok, ld2, ok2, hlen, hGH, k⟩⟩ := h
    refine ⟨_, (pss_cons (ps_par (i := 2) (j := 3) (by rfl) sc_first_difference.nd rfl rfl (by decide) rfl rfl (pa_cons (pe_call (ok_load T) (hr.mono (by decide)) rfl T.m_load T.F_load.kp (b_load T) .nil pass0 (pa_cons (pv 0) pa_nil)) (pa_cons (pe_call (ok_load T) (hr.mono (by decide)) rfl T.m_load T.F_load.kp (b_load T) .nil pass0 (pa_cons (pv 1) pa_nil)) pa_nil)) (by rfl))
      (pss_cons (ps_if (pt_cmpR op_ne (pe_callB call_len_seq (by rfl) T.z_len (by decide +kernel) (pa_cons (pe_fld (pv 2) rfl) pa_nil)) (pe_callB call_len_seq (by rfl) T.z_len (by decide +kernel) (pa_cons (pe_fld (pv 3) rfl) pa_nil)) (nomark _)) (pss_one (ps_raise rfl (takes_of rfl rfl rfl rfl) (pmk_own PySem.F.excBase_ValueError T.xr_DifferentShelves T.e_DifferentShelves T.xk_DifferentShelves (raises_own T.xb_DifferentShelves T.xt_DifferentShelves) (by exact rfl)))) pss_nil)
      pss_never)), ?_⟩
    refine ⟨_, rfl, ⟨⟨s1, G, x, rfl, ld, ok, hGH, fun G1 H1 v1 x1 t1 h1 => ?_⟩⟩⟩
    have B1 := (Pt.start hGH).call x1 t1
    refine ⟨_, rfl, ⟨⟨s2, G1, z, rfl, ld2, ok2, B1.s, fun G2 H2 v2 x2 t2 h2 => ?_⟩⟩⟩
    have B2 := B1.call x2 t2
    refine ⟨_, _, rfl, ?_⟩
    dsimp only
    have h1' := h1.mono x2.g
    obtain ⟨r, dr, sh, rl, r1, r2, rfl, hr1, hsh, _⟩ := id h1'
    obtain ⟨q, dq, sh2, rl2, q1, q2, rfl, hq1, hsh2, _⟩ := id h2
    refine ⟨_, rfl, r, _, dr, _, .ref sh, rfl, B2.s _ _ hr1, T.cl_Plan, T.n_Plan_shelf, (by kernel_rfl), sh, _, rfl, .inr (Same.seqT B2.s hsh), _, rfl, q, _, dq, _, .ref sh2, rfl, B2.s _ _ hq1, T.cl_Plan, T.n_Plan_shelf, (by kernel_rfl), sh2, _, rfl, .inr (Same.seqT B2.s hsh2), rfl, _, rfl, ite_t ?_ ?_⟩
    · rw [List.length_map, List.length_map]
      refine congrArg (fun b => !b) (decide_eq_false fun e => hlen ?_)
      injection e with e
      omega
    · exact k _ _ B2.ext B2.sm
end
end Sb

namespace Sb
open PySem PySem.Spec PyProof.Rows L2
/-! ### text * n, n at least 2 -/
def repS (z : Str) (k : Nat) : Str := ⟨(List.replicate k z.cps).foldl (· ++ ·) #[]⟩
theorem fold_app (l : List (Array Nat)) : ∀ a : Array Nat, (l.foldl (· ++ ·) a).toList = a.toList ++ l.flatMap Array.toList := by
  induction l with
  | nil => intro a; simp
  | cons b l ih => intro a; rw [List.foldl_cons, ih]; simp
theorem repS_list (z : Str) (k : Nat) : (repS z k).cps.toList = (List.replicate k z.cps.toList).flatten := by
  unfold repS
  show ((List.replicate k z.cps).foldl (· ++ ·) #[]).toList = _
  rw [fold_app]
  simp [List.flatMap]
def rMulS : R2 := fun x y H Q => ∃ (z : Str) (k : Nat), x = .str z ∧ y = .int k ∧ 2 ≤ k ∧ k ≤ 1000 ∧ 1 ≤ z.length ∧ z.length ≤ 1000 ∧ Q (.str (repS z k)) H
section
variable {X : Cx}
theorem op_mulS : OpR X (binaryOp .Mult) rMulS := by
  intro pins s σ H x y v u Q I rx ry h
  obtain ⟨z, k, rfl, rfl, h2, h1000, hz1, hz, q⟩ := h
  obtain ⟨t, rfl⟩ := rx
  obtain ⟨t2, rfl⟩ := ry
  have n1 : ¬ ((k : Int) < 1) := by omega
  have n2 : ((k : Int) == 1 || z.length == 0) = false := by
    rw [Bool.or_eq_false_iff]
    exact ⟨beq_eq_false_iff_ne.mpr (by omega), beq_eq_false_iff_ne.mpr (by omega)⟩
  have hm : z.length * k ≤ 1000 * 1000 := Nat.mul_le_mul hz h1000
  refine PySem.P.mul_str ?_ (fun _ _ => ?_) (fun _ _ => ?_) ?_
  · rw [Bool.or_eq_false_iff]
    exact ⟨decide_eq_false (by omega), decide_eq_false (by omega)⟩
  · have hd : (1000 : Int) ≤ (2 ^ 63 - 1) / (k : Int) := by
      rw [Int.le_ediv_iff_mul_le (by omega)]
      omega
    omega
  · rw [Int.toNat_natCast]
    unfold Builtin.Str.tooLong
    first
      | exact decide_eq_false (by have := sizeLine_eq; omega)
      | (simp; omega)
  · rw [if_neg n1, if_neg (by rw [n2]; decide), Int.toNat_natCast]
    refine ⟨?_, .str (repS z k), H, I.tok _, ⟨_, rfl⟩, q⟩
    have e : (repS z k).length = k * z.length := by
      show (repS z k).cps.size = k * z.cps.size
      rw [← Array.length_toList, repS_list, List.length_flatten, List.map_replicate, List.sum_replicate_nat, Array.length_toList]
    show (repS z k).length ≤ sizeLine
    rw [e, Nat.mul_comm]
    exact Nat.le_trans hm (by rw [sizeLine_eq]; decide)
end
end Sb

namespace Sb
open PySem PySem.Spec PyProof.Rows L2 TL
/-! ### tokens of a written row, by looking -/
def headB (S : List Nat) : List Nat → Bool
  | [] => true
  | c :: _ => !decide (c ∈ S)
theorem headB_ok {S r : List Nat} (h : headB S r = true) : HeadNot S r := fun c r' e => by
  subst e
  simpa [headB] using h
def rdB (k : Tk) (l : List Nat) : Bool := decide (l = k.t ++ l.drop k.t.length) && match k.k with
  | .sign => decide (k.t.length = 1) && k.t.all fun c => decide (c ∈ tl sgnS)
  | .number => decide (1 ≤ k.t.length) && decide (k.t.length ≤ 2) && (k.t.all fun c => decide (c ∈ tl digS)) && (decide (k.t.length ≤ 1) || !decide (k.t.head? = some 48)) && headB (tl digS) (l.drop k.t.length)
  | .keyword => (k.t.all fun c => decide (c ∈ tl letS)) && decide (k.t ∈ kwL) && headB (tl letS) (l.drop k.t.length)
  | .name => (k.t.all fun c => decide (c ∈ tl letS)) && decide (1 ≤ k.t.length) && decide (k.t.length ≤ 8) && !decide (k.t ∈ kwL) && headB (tl letS) (l.drop k.t.length)
  | .fin => false
theorem rdB_ok {k : Tk} {l : List Nat} (h : rdB k l = true) : Rd l k (l.drop k.t.length) := by
  obtain ⟨kk, t⟩ := k
  unfold rdB at h
  rw [Bool.and_eq_true] at h
  obtain ⟨h1, h2⟩ := h
  have e : l = t ++ l.drop t.length := of_decide_eq_true h1
  show Rd l ⟨kk, t⟩ (l.drop t.length)
  cases kk with
  | sign =>
    simp only [Bool.and_eq_true, decide_eq_true_eq, List.all_eq_true] at h2
    match t, h2 with
    | [c], ⟨_, hc⟩ =>
      rw [e]
      exact .sign (hc c (by simp))
  | number =>
    simp only [Bool.and_eq_true, Bool.or_eq_true, decide_eq_true_eq, List.all_eq_true, Bool.not_eq_true', decide_eq_false_iff_not] at h2
    obtain ⟨⟨⟨⟨a1, a2⟩, a3⟩, a4⟩, a5⟩ := h2
    have := Rd.num (t := t) (r := l.drop t.length) (by intro z; rw [z] at a1; exact absurd a1 (by decide)) a3 a2 (fun q => a4.elim (fun z => absurd q (by omega)) fun z => z) (headB_ok a5)
    rw [← e] at this
    exact this
  | keyword =>
    simp only [Bool.and_eq_true, decide_eq_true_eq, List.all_eq_true] at h2
    have := Rd.kw (t := t) (r := l.drop t.length) h2.1.1 h2.1.2 (headB_ok h2.2)
    rw [← e] at this
    exact this
  | name =>
    simp only [Bool.and_eq_true, decide_eq_true_eq, List.all_eq_true, Bool.not_eq_true', decide_eq_false_iff_not] at h2
    obtain ⟨⟨⟨⟨a1, a2⟩, a3⟩, a4⟩, a5⟩ := h2
    have := Rd.nm (t := t) (r := l.drop t.length) a1 a2 a3 a4 (headB_ok a5)
    rw [← e] at this
    exact this
  | fin => cases h2
def lxB : Nat → List Tk → List Nat → Bool
  | 0, ts, l => l.isEmpty && ts.isEmpty
  | n + 1, ts, l => match l with
    | [] => ts.isEmpty
    | c :: r => if c = 32 then lxB n ts r else match ts with
      | [] => false
      | k :: us => rdB k (c :: r) && lxB n us ((c :: r).drop k.t.length)
theorem lxB_ok : ∀ (n : Nat) {ts : List Tk} {l : List Nat}, lxB n ts l = true → Lx l ts
  | 0, ts, l, h => by
    unfold lxB at h
    simp only [Bool.and_eq_true, List.isEmpty_iff] at h
    rw [h.1, h.2]
    exact .nil
  | n + 1, ts, [], h => by
    have h : ts.isEmpty = true := h
    rw [List.isEmpty_iff] at h
    rw [h]
    exact .nil
  | n + 1, ts, c :: r, h => by
    unfold lxB at h
    dsimp only at h
    by_cases hc : c = 32
    · rw [if_pos hc] at h
      rw [hc]
      exact .sp (lxB_ok n h)
    · rw [if_neg hc] at h
      cases ts with
      | nil => cases h
      | cons k us =>
        have h : (rdB k (c :: r) && lxB n us ((c :: r).drop k.t.length)) = true := h
        rw [Bool.and_eq_true] at h
        exact .tok (rdB_ok h.1) (lxB_ok n h.2)
/-! ### a plan in one row -/
def plL (s : Step) : LStep := ⟨none, s.w, none⟩
theorem plain_ok {ss : List Step} (h : StepsOk ss) (hg : ∀ s ∈ ss, s.w < 5) : LOk (ss.map plL) ss := by
  have no : ∀ s ∈ ss, s.g = none := fun s hs => (h.all s hs).no (hg s hs)
  have lab : ∀ t, some t ∉ labsOf (ss.map plL) := fun t z => by
    unfold labsOf at z
    rw [List.map_map] at z
    obtain ⟨s, _, e⟩ := List.mem_map.mp z
    cases e
  refine ⟨by rw [List.length_map]; exact h.pos, by rw [List.length_map]; exact h.le, fun s hs => ?_, fun i s t e1 e2 => ?_, paired_of (by rw [List.length_map]) fun i l s e1 e2 => ?_⟩
  · obtain ⟨s', hs', rfl⟩ := List.mem_map.mp hs
    have := hg s' hs'
    exact ⟨by show s'.w < 8; omega, fun _ => rfl, fun z => absurd (show 5 ≤ s'.w from z) (by omega), fun z => by cases z⟩
  · obtain ⟨s', _, rfl⟩ := List.mem_map.mp (List.mem_of_getElem? e1)
    cases e2
  · rw [List.getElem?_map, e2] at e1
    cases e1
    exact ⟨rfl, fun _ => no s (List.mem_of_getElem? e2), fun t z => by cases z⟩
def longX (n : Nat) : Pl := ⟨List.replicate n 0, 0, 1, [⟨4, none⟩], [⟨4, none⟩]⟩
theorem loads_row {src : Str} {x : Pl} (hx : x.Ok) (hp : ∀ s ∈ x.p, s.w < 5) (hq : ∀ s ∈ x.q, s.w < 5) (h10 : 10 ∉ tl src) (hl : (tl src).length ≤ 3000) (n : Nat) (h : lxB n (planT x (x.p.map plL) (x.q.map plL)) (tl src) = true) : Loads src x := by
  refine ⟨⟨x.p.map plL, x.q.map plL, [tl src], [planT x (x.p.map plL) (x.q.map plL)], rfl, by simp, fun r hr => ?_, fun r hr => ?_, by omega, .cons (lxB_ok n h) .nil, by simp, plain_ok hx.p hp, plain_ok hx.q hq⟩⟩
  · rw [List.mem_singleton.mp hr]; exact h10
  · rw [List.mem_singleton.mp hr]; exact hl
theorem longX_ok {c : Nat} (h4 : 4 ≤ c) (h9 : c ≤ 9) : (longX c).Ok := by
  have so : StepsOk [⟨4, none⟩] := ⟨by decide, by decide, fun s hs => by rw [List.mem_singleton.mp hs]; exact ⟨by show (4 : Nat) < 8; decide, fun _ => rfl, fun q => absurd (show 5 ≤ 4 from q) (by decide)⟩⟩
  have l : (longX c).shelf.length = c := List.length_replicate
  exact ⟨by rw [l]; omega, by rw [l]; omega, fun n hn => by rw [List.eq_of_mem_replicate hn]; exact Nat.zero_le _, by rw [l]; show 0 < c; omega, by rw [l]; show 1 < c; omega, (by show (0 : Nat) ≠ 1; decide), so, so⟩
def longS (c : Nat) : Str := Str.ofString "shelf" ++ repS " 0" c ++ "; robot 0 { wait; } robot 1 { wait; }"
theorem loads_long {c : Nat} (h4 : 4 ≤ c) (h9 : c ≤ 9) : Loads (longS c) (longX c) := by
  have w : ∀ s ∈ ([⟨4, none⟩] : List Step), s.w < 5 := fun s hs => by rw [List.mem_singleton.mp hs]; decide
  have all : ∀ k : _root_.Fin 6, 10 ∉ tl (longS (k.val + 4)) ∧ (tl (longS (k.val + 4))).length ≤ 3000 ∧ lxB 200 (planT (longX (k.val + 4)) ((longX (k.val + 4)).p.map plL) ((longX (k.val + 4)).q.map plL)) (tl (longS (k.val + 4))) = true := by decide +kernel
  obtain ⟨a1, a2, a3⟩ := all ⟨c - 4, by omega⟩
  have e : c - 4 + 4 = c := by omega
  dsimp only at a1 a2 a3
  rw [e] at a1 a2 a3
  exact loads_row (longX_ok h4 h9) w w a1 a2 200 a3
/-! ### the two late plans -/
def lateX (l : List Step) : Pl := ⟨List.replicate 7 0, 0, 6, l, [⟨4, none⟩]⟩
def late0 : List Step := [⟨4, none⟩, ⟨4, none⟩, ⟨4, none⟩, ⟨1, none⟩]
def late1 : List Step := [⟨4, none⟩, ⟨4, none⟩, ⟨4, none⟩, ⟨1, none⟩, ⟨4, none⟩, ⟨4, none⟩]
theorem lateX_ok {l : List Step} (h1 : 1 ≤ l.length) (h20 : l.length ≤ 20) (h : ∀ s ∈ l, s.w < 5 ∧ s.g = none) : (lateX l).Ok := by
  have so : StepsOk [⟨4, none⟩] := ⟨by decide, by decide, fun s hs => by rw [List.mem_singleton.mp hs]; exact ⟨by show (4 : Nat) < 8; decide, fun _ => rfl, fun q => absurd (show 5 ≤ 4 from q) (by decide)⟩⟩
  refine ⟨by show 3 ≤ 7; decide, by show 7 ≤ 12; decide, fun n hn => by rw [List.eq_of_mem_replicate hn]; exact Nat.zero_le _, by show 0 < 7; decide, by show 6 < 7; decide, (by show (0 : Nat) ≠ 6; decide), ⟨h1, h20, fun s hs => ?_⟩, so⟩
  have := h s hs
  exact ⟨by omega, fun _ => this.2, fun q => absurd q (by omega)⟩
def lateS (b : String) : Str := Str.ofString "shelf 0 0 0 0 0 0 0; robot 0 { " ++ Str.ofString b ++ " } robot 6 { wait; }"
theorem ok0 : (lateX late0).Ok := lateX_ok (by decide) (by decide) (by decide)
theorem ok1 : (lateX late1).Ok := lateX_ok (by decide) (by decide) (by decide)
theorem loads0 : Loads (lateS "wait; wait; wait; right;") (lateX late0) := loads_row ok0 (by decide) (by decide) (by decide +kernel) (by decide +kernel) 200 (by decide +kernel)
theorem loads1 : Loads (lateS "wait; wait; wait; right; wait; wait;") (lateX late1) := loads_row ok1 (by decide) (by decide) (by decide +kernel) (by decide +kernel) 200 (by decide +kernel)
end Sb

namespace Sb
open PySem PySem.Spec PyProof.Rows L2
theorem eqv_nats : ∀ l m : List Nat, PyData.eqvAll (l.map natD) (m.map natD) = decide (l = m)
  | [], [] => rfl
  | [], _ :: _ => rfl
  | _ :: _, [] => rfl
  | a :: l, b :: m => by
    show (PyData.eqv (natD a) (natD b) && PyData.eqvAll (l.map natD) (m.map natD)) = _
    rw [eqv_nats l m]
    have e : PyData.eqv (natD a) (natD b) = decide (a = b) := by
      show ((a : Int) == (b : Int)) = decide (a = b)
      by_cases h : a = b
      · subst h; simp
      · rw [decide_eq_false h]
        exact beq_eq_false_iff_ne.mpr fun z => h (by omega)
    rw [e, ← Bool.decide_and, decide_eq_decide]
    exact ⟨fun z => by rw [z.1, z.2], fun z => by injection z with z1 z2; exact ⟨z1, z2⟩⟩
/-- the robots or the boxes are elsewhere after this tick -/
def neB (x z : Pl) (t : Nat) : Bool := !decide ((sitAt x (t + 1)).cs = (sitAt z (t + 1)).cs ∧ (sitAt x (t + 1)).sh = (sitAt z (t + 1)).sh)
theorem neB_cs (x z : Pl) (t : Nat) : (!PyData.eqv (csD x t) (csD z t)) = neB x z t := by
  show (!(PyData.eqvAll ((sitAt x (t + 1)).cs.map natD) ((sitAt z (t + 1)).cs.map natD) && (PyData.eqvAll ((sitAt x (t + 1)).sh.map natD) ((sitAt z (t + 1)).sh.map natD) && true))) = _
  rw [eqv_nats, eqv_nats, Bool.and_true, ← Bool.decide_and]
  rfl
def stD (x : Pl) (t : Nat) : PyData := .tuple [natsT (sitAt x (t + 1)).cs, natsD (sitAt x (t + 1)).sh]
theorem neB_st (x z : Pl) (t : Nat) : (!PyData.eqv (stD x t) (stD z t)) = neB x z t := by
  show (!(PyData.eqvAll ((sitAt x (t + 1)).cs.map natD) ((sitAt z (t + 1)).cs.map natD) && (PyData.eqvAll ((sitAt x (t + 1)).sh.map natD) ((sitAt z (t + 1)).sh.map natD) && true))) = _
  rw [eqv_nats, eqv_nats, Bool.and_true, ← Bool.decide_and]
  rfl
theorem neB_comm (x z : Pl) (t : Nat) : neB x z t = neB z x t := by
  unfold neB
  congr 1
  rw [decide_eq_decide]
  exact ⟨fun h => ⟨h.1.symm, h.2.symm⟩, fun h => ⟨h.1.symm, h.2.symm⟩⟩
theorem diff_eq (x z : Pl) (b : Nat) : diffP x z b = (List.range b).find? (neB x z) := by
  unfold diffP
  congr 1
  exact funext fun t => neB_cs x z t
theorem diff_comm (x z : Pl) (b : Nat) : diffP x z b = diffP z x b := by
  rw [diff_eq, diff_eq]
  congr 1
  exact funext fun t => neB_comm x z t
theorem sit_mult {x : Pl} {i n M : Nat} (c : Cyc x i n) (hM : (n - i) ∣ M) {t : Nat} (ht : i ≤ t) : sitAt x (t + M) = sitAt x t := by
  obtain ⟨r, rfl⟩ := hM
  rw [Nat.mul_comm]
  exact sit_far c ht r
/-- what does not differ so far never does -/
theorem ne_ever {x z : Pl} {i n i2 n2 M : Nat} (c : Cyc x i n) (c2 : Cyc z i2 n2) (h1 : (n - i) ∣ M) (h2 : (n2 - i2) ∣ M) (hp : 0 < M) (h : ∀ t, t < max i i2 + M → neB x z t = false) : ∀ t, neB x z t = false := fun t => by
  induction t using Nat.strongRecOn with
  | ind t ih =>
    rcases Nat.lt_or_ge t (max i i2 + M) with q | q
    · exact h t q
    · have e1 := sit_mult c h1 (t := t - M + 1) (by omega)
      have e2 := sit_mult c2 h2 (t := t - M + 1) (by omega)
      have := ih (t - M) (by omega)
      unfold neB at this ⊢
      rw [← e1, ← e2, show t - M + 1 + M = t + 1 by omega] at this
      exact this
/-- the first one, or none at all -/
theorem diff_first {x z : Pl} {i n i2 n2 M : Nat} (c : Cyc x i n) (c2 : Cyc z i2 n2) (h1 : (n - i) ∣ M) (h2 : (n2 - i2) ∣ M) (hp : 0 < M) :
    (diffP x z (max i i2 + M) = none ∧ ∀ t, neB x z t = false) ∨ ∃ f, diffP x z (max i i2 + M) = some f ∧ f < max i i2 + M ∧ neB x z f = true ∧ ∀ t, t < f → neB x z t = false := by
  rw [diff_eq]
  cases e : (List.range (max i i2 + M)).find? (neB x z) with
  | none =>
    refine .inl ⟨rfl, ne_ever c c2 h1 h2 hp fun t ht => ?_⟩
    rw [List.find?_eq_none] at e
    simpa using e t (List.mem_range.mpr ht)
  | some f =>
    rw [List.find?_range_eq_some] at e
    exact .inr ⟨f, rfl, List.mem_range.mp e.2.1, e.1, fun t ht => by simpa using e.2.2 t ht⟩
def FD (x z : Pl) : Option Nat → Prop
  | none => ∀ t, neB x z t = false
  | some f => neB x z f = true ∧ ∀ t, t < f → neB x z t = false
theorem diff_FD {x z : Pl} {i n i2 n2 M : Nat} (c : Cyc x i n) (c2 : Cyc z i2 n2) (h1 : (n - i) ∣ M) (h2 : (n2 - i2) ∣ M) (hp : 0 < M) : FD x z (diffP x z (max i i2 + M)) := by
  rcases diff_first c c2 h1 h2 hp with ⟨e, h⟩ | ⟨f, e, _, h3, h4⟩
  · rw [e]; exact h
  · rw [e]; exact ⟨h3, h4⟩
theorem FD_uniq {x z : Pl} {o p : Option Nat} (h : FD x z o) (q : FD x z p) : o = p := by
  cases o with
  | none => cases p with
    | none => rfl
    | some f => have := q.1; rw [h f] at this; cases this
  | some e => cases p with
    | none => have := h.1; rw [q e] at this; cases this
    | some f =>
      rcases Nat.lt_trichotomy e f with l | l | l
      · have := h.1; rw [q.2 e l] at this; cases this
      · rw [l]
      · have := q.1; rw [h.2 f l] at this; cases this
theorem FD_comm {x z : Pl} {o : Option Nat} (h : FD z x o) : FD x z o := by
  cases o with
  | none => exact fun t => by rw [neB_comm]; exact h t
  | some f => exact ⟨by rw [neB_comm]; exact h.1, fun t ht => by rw [neB_comm]; exact h.2 t ht⟩
theorem neB_self (x : Pl) (t : Nat) : neB x x t = false := by
  unfold neB
  simp
theorem FD_self {x : Pl} {o : Option Nat} (h : FD x x o) : o = none := FD_uniq h (fun t => neB_self x t)
theorem filt_head {f : Nat → Bool} {n j : Nat} (hj : j < n) (hf : f j = true) (h : ∀ m, m < j → f m = false) : ∃ r, (List.range n).filter f = j :: r := by
  have e : List.range n = List.range j ++ (j :: (List.range n).drop (j + 1)) := by
    have := List.take_append_drop j (List.range n)
    rw [List.take_range, Nat.min_eq_left (by omega), List.drop_eq_getElem_cons (by rw [List.length_range]; exact hj), List.getElem_range] at this
    exact this.symm
  refine ⟨((List.range n).drop (j + 1)).filter f, ?_⟩
  conv => lhs; rw [e]
  rw [List.filter_append, List.filter_cons_of_pos hf]
  have : (List.range j).filter f = [] := by
    rw [List.filter_eq_nil_iff]
    intro a ha
    rw [h a (List.mem_range.mp ha)]
    decide
  rw [this]
  rfl
theorem filt_nil {f : Nat → Bool} {n : Nat} (h : ∀ m, m < n → f m = false) : (List.range n).filter f = [] := by
  rw [List.filter_eq_nil_iff]
  intro a ha
  rw [h a (List.mem_range.mp ha)]
  decide
/-- the head of a filtered range is what find? finds -/
theorem filt_find (f : Nat → Bool) (n : Nat) : ((List.range n).filter f).head? = (List.range n).find? f := by
  cases e : (List.range n).find? f with
  | none =>
    rw [List.find?_eq_none] at e
    rw [filt_nil fun m hm => by simpa using e m (List.mem_range.mpr hm)]
    rfl
  | some j =>
    rw [List.find?_range_eq_some] at e
    obtain ⟨r, hr⟩ := filt_head (List.mem_range.mp e.2.1) e.1 fun m hm => by simpa using e.2.2 m hm
    rw [hr]
    rfl
end Sb

namespace Sb
open PySem PySem.Spec PyProof.Rows L2 TL LamX NdefX
theorem Rnd.told {x : Pl} (hr : Rnd x) (hx : x.Ok) : ∃ i n, Told (textS x) x i n ∧ n < 4000 := by
  obtain ⟨i, n, hc, hn⟩ := hr.ex
  exact ⟨i, n, ⟨loads_text hx, hx, hc, by omega⟩, hn⟩
/-- the plan with these steps -/
def withS (x : Pl) (L : Nat → List Step) : Pl := { x with p := L 0, q := L 1 }
theorem withS_steps (x : Pl) (L : Nat → List Step) {i : Nat} (hi : i < 2) : stepsOf (withS x L) i = L i := by
  match i, hi with
  | 0, _ => rfl
  | 1, _ => rfl
theorem dblL_ok {l : List Step} (h : StepsOk l) (h9 : l.length ≤ 10) : StepsOk (l ++ l.map (shS l.length)) := by
  have pos := h.pos
  have hl : (l ++ l.map (shS l.length)).length = 2 * l.length := by rw [List.length_append, List.length_map]; omega
  refine ⟨by omega, by omega, fun s hs => ?_⟩
  rw [hl]
  rcases List.mem_append.mp hs with hs | hs
  · have o := h.all s hs
    exact ⟨o.w8, o.no, fun q => by obtain ⟨k, e, hk⟩ := o.yes q; exact ⟨k, e, by omega⟩⟩
  · obtain ⟨t, ht, rfl⟩ := List.mem_map.mp hs
    have o := h.all t ht
    refine ⟨o.w8, fun q => ?_, fun q => ?_⟩
    · show t.g.map _ = none
      rw [o.no q]; rfl
    · obtain ⟨k, e, hk⟩ := o.yes q
      exact ⟨k + l.length, by show t.g.map _ = _; rw [e]; rfl, by omega⟩
/-- the plan with the steps of one robot doubled -/
def dblF (x : Pl) (num : Nat) (k : Nat) : List Step := if k = num then stepsOf x num ++ (stepsOf x num).map (shS (stepsOf x num).length) else stepsOf x k
theorem dblF_ok {x : Pl} (hx : x.Ok) {num : Nat} (h9 : ∀ k, k < 2 → (stepsOf x k).length ≤ 9) (hn : num < 2) : (withS x (dblF x num)).Ok := by
  have all : ∀ k, k < 2 → StepsOk (dblF x num k) := fun k hk => by
    unfold dblF
    split
    · exact dblL_ok (steps_ok hx num) (by have := h9 num hn; omega)
    · exact steps_ok hx k
  exact ⟨hx.c3, hx.c12, hx.b3, hx.ha, hx.hb, hx.ne, all 0 (by decide), all 1 (by decide)⟩
theorem cs_lay (x : Pl) (t : Nat) : (csD x t).canLay0 = true := by
  show (PyData.canLayAll0 ((sitAt x (t + 1)).cs.map natD) && (PyData.canLayAll0 ((sitAt x (t + 1)).sh.map natD) && true)) = true
  rw [nats_lay, nats_lay]
  rfl
end Sb

namespace Sb
open PySem PySem.Spec PyProof.Rows L2 TL LamX NdefX
structure spOther (K : PySem.W.Frag) (vs : List V) (H : Hp) (Q : VK) (E : XK) : Prop where
  ex : ∃ (d : Addr) (G : Hp) (v : V) (x : Pl), vs = [.ref d, v] ∧ Dp K G v x.D ∧ x.Ok ∧ (∀ k, k < 2 → (stepsOf x k).length ≤ 9) ∧ Drawn d G H Q fun G' u => ∃ z : Pl, z.Ok ∧ Dp K G' u z.D ∧ z.shelf.length = x.shelf.length
theorem dp_set {K : PySem.W.Frag} {G : Hp} : ∀ {vs : List V} {ds : List PyData} {k : Nat} {v : V} {d : PyData}, DpAll K G vs ds → Dp K G v d → DpAll K G (vs.set k v) (ds.set k d)
  | _, _, _, _, _, .nil, _ => .nil
  | _, _, 0, _, _, .cons _ r, h => .cons h r
  | _, _, _ + 1, _, _, .cons a r, h => .cons a (dp_set r h)
theorem wait_ok {l : List Step} (h : StepsOk l) (k : Nat) : StepsOk (l.set k ⟨4, none⟩) := by
  refine ⟨by rw [List.length_set]; exact h.pos, by rw [List.length_set]; exact h.le, fun s hs => ?_⟩
  rw [List.length_set]
  rcases List.mem_or_eq_of_mem_set hs with q | rfl
  · exact h.all s q
  · exact ⟨by show (4 : Nat) < 8; decide, fun _ => rfl, fun q => absurd (show 5 ≤ 4 from q) (by decide)⟩
section
variable {P : Program} {w : World} {K : PySem.W.Frag} {mg : Str → Option Value} {base : Heap} {a : Ad}
theorem ok_l_other (T : Txt K mg a) : FnOk P w K mg base CX0 3 a.f_l_other a.d_l_other ["_law_d", "_law_first"] (spOther K) := by
  refine T.F_l_other.ok sc_l_other (fun vs H Q E h => ?_) (fun cdv A outer s H vs Q E hr h => ?_)
  · obtain ⟨⟨d, G, v, x, rfl, _⟩⟩ := h
    rfl
  · obtain ⟨⟨d, G, v, x, rfl, hD, hx, h9, hN, k⟩⟩ := h
    refine ⟨_, (pss_cons (ps_asg (pv 1) (pg_tup (by rfl) (pgs_cons (pg_name (i := 2) sc_l_other.nd rfl (Or.inl rfl)) (pgs_cons (pg_name (i := 3) sc_l_other.nd rfl (Or.inl rfl)) (pgs_cons (pg_name (i := 4) sc_l_other.nd rfl (Or.inl rfl)) pgs_nil)))))
      (pss_cons (ps_par (i := 5) (j := 6) (by rfl) sc_l_other.nd rfl rfl (by decide) rfl rfl (pa_cons (pe_call (ok_l_below T) (hr.mono (by decide)) rfl T.m_l_below T.F_l_below.kp (b_l_below T) .nil pass0 (pa_cons (pv 0) (pa_cons pe_int pa_nil))) (pa_cons (pe_lc (own := [("_law_steps_here", 7)]) (g := gName 7) (te := (tCB (fun xs H Q => ∃ p ys, xs = [.ref p] ∧ (SqL K H p ys ∨ SqT K H p ys) ∧ ∀ l, H l = none → Q (.ref l) (upd H l (.lst ys))) (tCons (tVar 7) tNil))) (tt := tYes) rfl sc_l_other.nd (pi_list (pv 4)) (blkOk_by (own := [("_law_steps_here", 7)]) (N := ["_law_d", "_law_first", "_law_shelf", "_law_starts", "_law_both", "_law_kind", "_law_changed", "_law_steps_here", "_law_number", "_law_at"]) (sc := (defScope s_l_other)) (by decide +kernel)) (fun _ _ _ _ _ => (pg_name (i := 7) sc_l_other.nd rfl (Or.inl rfl))) (fun _ _ _ _ _ => pts_nil) (fun _ _ _ _ _ => by exact (pe_callTy call_list_of (by rfl) T.z_list (by decide +kernel) (pa_cons (pv 7) pa_nil)))) pa_nil)) (by rfl))
      (pss_cons (ps_set (i := 8) sc_l_other.nd rfl (Or.inl rfl) (pe_call (ok_l_below T) (hr.mono (by decide)) rfl T.m_l_below T.F_l_below.kp (b_l_below T) .nil pass0 (pa_cons (pv 0) (pa_cons pe_int pa_nil))))
      (pss_cons (ps_if (pt_cmpR op_eq (pv 5) pe_int (nomark _)) (pss_one (ps_asg (pe_call (ok_l_doubled T) (hr.mono (by decide)) rfl T.m_l_doubled T.F_l_doubled.kp (b_l_doubled T) .nil pass0 (pa_cons (pe_ix ix_list (pv 6) (pv 8) (fun _ _ => rfl)) pa_nil)) (pg_sub (pv 6) (pv 8) set_list))) pss_nil)
      (pss_cons (ps_if (pt_cmpR op_eq (pv 5) pe_int (nomark _)) (pss_cons (ps_set (i := 9) sc_l_other.nd rfl (Or.inl rfl) (pe_call (ok_l_below T) (hr.mono (by decide)) rfl T.m_l_below T.F_l_below.kp (b_l_below T) .nil pass0 (pa_cons (pv 0) (pa_cons (pe_callB call_len_seq (by rfl) T.z_len (by decide +kernel) (pa_cons (pe_ix ix_list (pv 6) (pv 8) (fun _ _ => rfl)) pa_nil)) pa_nil))))
      (pss_one (ps_asg (pe_tup (pa_cons pe_str (pa_cons pe_non pa_nil))) (pg_sub (pe_ix ix_list (pv 6) (pv 8) (fun _ _ => rfl)) (pv 9) set_list)))) pss_nil)
      (pss_cons (ps_if (pt_cmpR op_eq (pv 5) pe_int (nomark _)) (pss_cons (ps_set (i := 9) sc_l_other.nd rfl (Or.inl rfl) (pe_call (ok_l_below T) (hr.mono (by decide)) rfl T.m_l_below T.F_l_below.kp (b_l_below T) .nil pass0 (pa_cons (pv 0) (pa_cons (pe_callB call_len_seq (by rfl) T.z_len (by decide +kernel) (pa_cons (pv 2) pa_nil)) pa_nil))))
      (pss_one (ps_set (i := 2) sc_l_other.nd rfl (Or.inl rfl) (pe_op op_catA (pe_op op_catA (pe_slice sl_tupA (pv 2) po_none (po_some (pv 9))) (pe_tup (pa_cons (pe_call (ok_l_below T) (hr.mono (by decide)) rfl T.m_l_below T.F_l_below.kp (b_l_below T) .nil pass0 (pa_cons (pv 0) (pa_cons pe_int pa_nil))) pa_nil))) (pe_slice sl_tupA (pv 2) (po_some (pe_op op_add (pv 9) pe_int)) po_none))))) pss_nil)
      (pss_cons (ps_if (pt_cmpR op_eq (pv 5) pe_int (nomark _)) (pss_one (ps_set (i := 3) sc_l_other.nd rfl (Or.inl rfl) (pe_revT (pv 3)))) pss_nil)
      (pss_one (ps_ret (pe_tup (pa_cons (pv 2) (pa_cons (pv 3) (pa_cons (pv 6) pa_nil))))))))))))), ?_⟩
    obtain ⟨pt, sh, st, bo, l1, l2, xs1, xs2, rfl, hpt, hsh, hst, hbo, hl1, hl2, hxs1, hxs2⟩ := plan_inv hD
    have B0 := hN.at
    refine ⟨_, rfl, pt, _, rfl, Same.seqT B0.now.s hpt, rfl, _, _, rfl, _, _, rfl, _, _, rfl, rfl, ?_⟩
    refine ⟨_, rfl, draw_go B0 (by decide) (by decide) fun H1 kd B1 K1 hkd => ?_⟩
    refine ⟨_, rfl, bo, rfl, ⟨_, B1.now.s.seq hbo⟩, fun D hD' => ?_⟩
    have D0 : H D = none := B1.ext.k _ hD'
    have DG : G D = none := Same.free B1.now.s hD'
    have Dd : D ≠ d := B1.ne hD'
    refine lc_list (K := K) (a := bo) (xs := [.ref l1, .ref l2]) (fun j H' => ∃ bs : List Addr, At d G H G H' ∧ bs.length = j ∧ bs.Nodup ∧ H' D = some (.lst (bs.map V.ref)) ∧ ∀ k b, bs[k]? = some b → H' b = some (.lst (if k = 0 then xs1 else xs2)) ∧ b ≠ D ∧ b ≠ d ∧ G b = none ∧ H b = none) ⟨[], B1.lay hD' _, rfl, .nil, upd_same, fun k b e => by cases e⟩ (fun j H' _ ⟨_, B, _⟩ => B.now.s.seq hbo) ?_ ?_
    · rintro j y H' hy ⟨bs, B, hbl, hnd, hDD, hall⟩
      obtain ⟨lk, xk, rfl, hlk, exk⟩ : ∃ (lk : Addr) (xk : List V), y = .ref lk ∧ SqL K G lk xk ∧ xk = (if j = 0 then xs1 else xs2) := by
        match j, hy with
        | 0, hy => exact ⟨l1, xs1, (Option.some.inj hy).symm, hl1, rfl⟩
        | 1, hy => exact ⟨l2, xs2, (Option.some.inj hy).symm, hl2, rfl⟩
        | j + 2, hy => simp at hy
      have hj2 : j < 2 := (List.getElem?_eq_some_iff.mp hy).1
      refine ⟨rfl, _, rfl, lk, _, rfl, .inl (B.now.s.seq hlk), fun b hb => ?_⟩
      have bD : D ≠ b := ne_of_none hDD hb
      have C := B.lay hb (.lst xk)
      refine ⟨_, by rw [upd_ne bD]; exact hDD, smaller 2 (by rw [List.length_map]; omega) (by decide), bs ++ [b], C.put D0 DG Dd _, by rw [List.length_append, hbl]; rfl, ?_, by rw [upd_same, List.map_append]; rfl, fun k c e => ?_⟩
      · rw [List.nodup_append]
        refine ⟨hnd, by simp, fun u hu v hv e => ?_⟩
        rw [List.mem_singleton.mp hv] at e
        subst e
        obtain ⟨k, hk⟩ := List.mem_iff_getElem?.mp hu
        have := (hall k _ hk).1
        rw [hb] at this
        cases this
      · by_cases hk : k < bs.length
        · rw [List.getElem?_append_left hk] at e
          obtain ⟨h1, h2, h3, h4, h5⟩ := hall k c e
          exact ⟨by rw [upd_ne h2, upd_ne (ne_of_none h1 hb)]; exact h1, h2, h3, h4, h5⟩
        · rw [List.getElem?_append_right (by omega)] at e
          have hk0 : k - bs.length = 0 := by
            rcases Nat.eq_zero_or_pos (k - bs.length) with q | q
            · exact q
            · rw [List.getElem?_eq_none (by show 1 ≤ _; omega)] at e; cases e
          rw [hk0] at e
          cases e
          have ekj : k = j := by omega
          rw [ekj, ← exk]
          exact ⟨by rw [upd_ne bD.symm, upd_same], bD.symm, B.ne hb, Same.free B.now.s hb, B.ext.k _ hb⟩
    rintro H2 ⟨bs, B2, hbl, hnd, hDD, hall⟩
    obtain ⟨bb, ebs, hb⟩ : ∃ bb : Nat → Addr, bs = [bb 0, bb 1] ∧ ∀ k, k < 2 → H2 (bb k) = some (.lst (if k = 0 then xs1 else xs2)) ∧ bb k ≠ D ∧ bb k ≠ d ∧ G (bb k) = none ∧ H (bb k) = none := by
      match bs, hbl, hall with
      | [p, q], _, hall =>
        refine ⟨fun k => if k = 0 then p else q, rfl, fun k hk => ?_⟩
        match k, hk with
        | 0, _ => exact hall 0 p rfl
        | 1, _ => exact hall 1 q rfl
    have bne : bb 0 ≠ bb 1 := by
      rw [ebs] at hnd
      have := (List.nodup_cons.mp hnd).1
      exact fun e => this (by rw [e]; exact List.mem_cons_self)
    rw [ebs] at hDD
    refine ⟨_, _, rfl, ?_⟩
    dsimp only
    refine ⟨_, rfl, draw_go B2 (by decide) (by decide) fun H3 num B3 K3 hnum' => ?_⟩
    have hnum : num < 2 := by omega
    have hDD3 : H3 D = some (.lst [.ref (bb 0), .ref (bb 1)]) := by rw [K3 D Dd]; exact hDD
    have hb3 : ∀ k, k < 2 → H3 (bb k) = some (.lst (if k = 0 then xs1 else xs2)) := fun k hk => by rw [K3 _ (hb k hk).2.2.1]; exact (hb k hk).1
    -- the end
    have fin : ∀ {G' H' : Hp} {shv stv u0 u1 : V} {z : Pl}, At d G H G' H' → G' D = none → H' D = some (.lst [u0, u1]) → Dp K G' shv (.tuple (z.shelf.map natD)) → Dp K G' stv (.tuple [natD z.a, natD z.b]) → Dp K G' u0 (stepsD z.p) → Dp K G' u1 (stepsD z.q) → z.Ok → z.shelf.length = x.shelf.length →
        ∀ p, H' p = none → Q (.ref p) (upd H' p (.tup [shv, stv, .ref D])) := fun {G' H' shv stv u0 u1 z} C cG cD e1 e2 e3 e4 zok zl p hp => by
      have C1 := C.freeze D0 cD Dd
      have g1 := same_new (H := G') (p := D) (o := .lst [u0, u1]) cG
      have C2 := C1.new hp (.tup [shv, stv, .ref D])
      have g2 := same_new (o := .tup [shv, stv, .ref D]) (Same.free C1.now.s hp)
      have g := g1.trans g2
      refine k _ _ _ C2 ⟨z, zok, ?_, zl⟩
      exact .tup (SqT.of upd_same) (.cons (Dp.mono g _ _ e1) (.cons (Dp.mono g _ _ e2) (.cons (.lst (g2.seq (SqL.of upd_same)) (.cons (Dp.mono g _ _ e3) (.cons (Dp.mono g _ _ e4) .nil))) .nil)))
    have dsh : Dp K G (.ref sh) (.tuple (x.shelf.map natD)) := .tup hsh (nats_D' _)
    have dst : Dp K G (.ref st) (.tuple [natD x.a, natD x.b]) := .tup hst (.cons (.int _) (.cons (.int _) .nil))
    have hbat : ([V.ref (bb 0), V.ref (bb 1)] : List V)[num]? = some (.ref (bb num)) := by
      match num, hnum with
      | 0, _ => rfl
      | 1, _ => rfl
    have e0 := hb3 0 (by decide)
    have e1 := hb3 1 (by decide)
    rw [if_pos rfl] at e0
    rw [if_neg (by decide)] at e1
    obtain ⟨_, b0D, b0d, b0G, b0H⟩ := hb 0 (by decide)
    obtain ⟨_, b1D, b1d, b1G, b1H⟩ := hb 1 (by decide)
    -- both lists stand
    have B4 := (B3.freeze b0H e0 b0d).freeze b1H e1 b1d
    have g0 := same_new (H := G) (p := bb 0) (o := .lst xs1) b0G
    have g4 := g0.trans (same_new (H := upd G (bb 0) (.lst xs1)) (p := bb 1) (o := .lst xs2) (by rw [upd_ne bne.symm]; exact b1G))
    have d0 : Dp K (upd (upd G (bb 0) (.lst xs1)) (bb 1) (.lst xs2)) (.ref (bb 0)) (stepsD x.p) := .lst (SqL.of (by rw [upd_ne bne, upd_same])) (Dp.monoAll g4 _ _ hxs1)
    have d1 : Dp K (upd (upd G (bb 0) (.lst xs1)) (bb 1) (.lst xs2)) (.ref (bb 1)) (stepsD x.q) := .lst (SqL.of upd_same) (Dp.monoAll g4 _ _ hxs2)
    have DG4 : (upd (upd G (bb 0) (.lst xs1)) (bb 1) (.lst xs2)) D = none := by rw [upd_ne b1D.symm, upd_ne b0D.symm]; exact DG
    revert B4 g4 d0 d1 DG4
    generalize upd (upd G (bb 0) (.lst xs1)) (bb 1) (.lst xs2) = G4
    intro B4 g4 d0 d1 DG4
    match kd, hkd with
    | 0, _ =>
      refine ⟨_, rfl, rfl, _, rfl, ite_t (decide_eq_true rfl) ?_⟩
      have dk : Dp K G4 (.ref (bb num)) (stepsD (stepsOf x num)) := by
        match num, hnum with
        | 0, _ => exact d0
        | 1, _ => exact d1
      refine ⟨_, rfl, _, rfl, D, _, _, .ref (bb num), rfl, rfl, SqL.of hDD3, at_of (j := num) rfl hbat, ⟨⟨G4, .ref (bb num), stepsOf x num, rfl, dk, by have := h9 num hnum; omega, B4.now.s, fun G5 H5 u x5 s5 d5 => ?_⟩⟩⟩
      have C5 := B4.pure x5 s5
      have hD5 := s5 _ _ hDD3
      have DG5 : G5 D = none := x5.out DG4 hDD3
      refine ⟨_, rfl, _, rfl, D, _, (num : Int), num, rfl, rfl, hD5, ixN_nat (by show num < 2; exact hnum), ?_⟩
      have C6 := C5.put D0 DG5 Dd (.lst (([.ref (bb 0), .ref (bb 1)] : List V).set num u))
      refine ⟨_, rfl, rfl, _, rfl, ite_f (decide_eq_false fun z => by cases z) ?_⟩
      refine ⟨_, rfl, rfl, _, rfl, ite_f (decide_eq_false fun z => by cases z) ?_⟩
      refine ⟨_, rfl, rfl, _, rfl, ite_f (decide_eq_false fun z => by cases z) ?_⟩
      refine ⟨_, rfl, _, rfl, _, rfl, (by show 3 ≤ sizeLine; decide), fun p hp => ?_⟩
      have oky := dblF_ok hx h9 hnum
      match num, hnum with
      | 0, _ => exact fin (z := withS x (dblF x 0)) C6 DG5 upd_same (Dp.mono (g4.trans x5.g) _ _ dsh) (Dp.mono (g4.trans x5.g) _ _ dst) d5 (Dp.mono x5.g _ _ d1) oky rfl p hp
      | 1, _ => exact fin (z := withS x (dblF x 1)) C6 DG5 upd_same (Dp.mono (g4.trans x5.g) _ _ dsh) (Dp.mono (g4.trans x5.g) _ _ dst) (Dp.mono x5.g _ _ d0) d5 oky rfl p hp
    | 1, _ =>
      refine ⟨_, rfl, rfl, _, rfl, ite_f (decide_eq_false fun z => by cases z) ?_⟩
      refine ⟨_, rfl, rfl, _, rfl, ite_t (decide_eq_true rfl) ?_⟩
      obtain ⟨XS, hXS, hXH⟩ : ∃ XS : Nat → List V, (∀ k, k < 2 → DpAll K G (XS k) ((stepsOf x k).map Step.D)) ∧ ∀ k, k < 2 → H3 (bb k) = some (.lst (XS k)) := ⟨fun k => if k = 0 then xs1 else xs2, fun k hk => by
        match k, hk with
        | 0, _ => exact hxs1
        | 1, _ => exact hxs2, hb3⟩
      have lXS : (XS num).length = (stepsOf x num).length := by rw [DpAll.len (hXS num hnum), List.length_map]
      have lpos := (steps_ok hx num).pos
      have l9 := h9 num hnum
      obtain ⟨_, bD, bd, bG, bH⟩ := hb num hnum
      refine ⟨_, rfl, _, rfl, _, rfl, D, _, _, .ref (bb num), rfl, rfl, SqL.of hDD3, at_of (j := num) rfl hbat, bb num, _, rfl, .inl (SqL.of (hXH num hnum)), ?_⟩
      rw [lXS]
      refine draw_go B3 (by omega) (by omega) fun H5 at5 C5 K5 hat' => ?_
      have hat : at5 < (stepsOf x num).length := by omega
      have hD5 : H5 D = some (.lst [.ref (bb 0), .ref (bb 1)]) := by rw [K5 D Dd]; exact hDD3
      have hX5 : ∀ k, k < 2 → H5 (bb k) = some (.lst (XS k)) := fun k hk => by rw [K5 _ (hb k hk).2.2.1]; exact hXH k hk
      refine ⟨(by show 2 ≤ sizeLine; decide), fun tp htp => ?_⟩
      have C6 := C5.new htp (.tup [.str "wait", .non])
      have g6 := same_new (o := .tup [.str "wait", .non]) (Same.free C5.now.s htp)
      have tD : D ≠ tp := ne_of_none hD5 htp
      have tb : ∀ k, k < 2 → bb k ≠ tp := fun k hk => ne_of_none (hX5 k hk) htp
      refine ⟨_, rfl, _, rfl, D, _, _, .ref (bb num), rfl, rfl, SqL.of (by rw [upd_ne tD]; exact hD5), at_of (j := num) rfl hbat, _, rfl, bb num, XS num, (at5 : Int), at5, rfl, rfl, by rw [upd_ne (tb num hnum)]; exact hX5 num hnum, ixN_nat (by rw [lXS]; exact hat), ?_⟩
      have bG6 : ∀ k, k < 2 → (upd G tp (.tup [.str "wait", .non])) (bb k) = none := fun k hk => by rw [upd_ne (tb k hk)]; exact (hb k hk).2.2.2.1
      have C7 := C6.put bH (bG6 num hnum) bd (.lst ((XS num).set at5 (.ref tp)))
      have hX7 : ∀ k, k < 2 → (upd (upd H5 tp (.tup [.str "wait", .non])) (bb num) (.lst ((XS num).set at5 (.ref tp)))) (bb k) = some (.lst (if k = num then (XS num).set at5 (.ref tp) else XS k)) := fun k hk => by
        by_cases ek : k = num
        · subst ek
          rw [upd_same, if_pos rfl]
        · have bk : bb k ≠ bb num := by
            have ek' : (k = 0 ∧ num = 1) ∨ (k = 1 ∧ num = 0) := by omega
            rcases ek' with ⟨rfl, rfl⟩ | ⟨rfl, rfl⟩
            · exact bne
            · exact bne.symm
          rw [upd_ne bk, upd_ne (tb k hk), if_neg ek]
          exact hX5 k hk
      have hD7 : (upd (upd H5 tp (.tup [.str "wait", .non])) (bb num) (.lst ((XS num).set at5 (.ref tp)))) D = some (.lst [.ref (bb 0), .ref (bb 1)]) := by rw [upd_ne bD.symm, upd_ne tD]; exact hD5
      have dX : ∀ k, k < 2 → DpAll K (upd G tp (.tup [.str "wait", .non])) (if k = num then (XS num).set at5 (.ref tp) else XS k) ((if k = num then (stepsOf x num).set at5 ⟨4, none⟩ else stepsOf x k).map Step.D) := fun k hk => by
        by_cases ek : k = num
        · subst ek
          rw [if_pos rfl, if_pos rfl, List.map_set]
          exact dp_set (Dp.monoAll g6 _ _ (hXS k hk)) (.tup (SqT.of upd_same) (.cons (.str _) (.cons .non .nil)))
        · rw [if_neg ek, if_neg ek]
          exact Dp.monoAll g6 _ _ (hXS k hk)
      have DG6 : (upd G tp (.tup [.str "wait", .non])) D = none := by rw [upd_ne tD]; exact DG
      revert g6 bG6 C7 hX7 hD7 dX DG6
      generalize upd (upd H5 tp (.tup [.str "wait", .non])) (bb num) (.lst ((XS num).set at5 (.ref tp))) = H7
      generalize upd G tp (.tup [.str "wait", .non]) = G6
      intro g6 bG6 C7 hX7 hD7 dX DG6
      refine ⟨_, rfl, rfl, _, rfl, ite_f (decide_eq_false fun z => by cases z) ?_⟩
      refine ⟨_, rfl, rfl, _, rfl, ite_f (decide_eq_false fun z => by cases z) ?_⟩
      refine ⟨_, rfl, _, rfl, _, rfl, (by show 3 ≤ sizeLine; decide), fun p hp => ?_⟩
      obtain ⟨XZ, hXZ⟩ : ∃ XZ : Nat → List V, XZ = fun k => if k = num then (XS num).set at5 (.ref tp) else XS k := ⟨_, rfl⟩
      obtain ⟨LZ, hLZ⟩ : ∃ LZ : Nat → List Step, LZ = fun k => if k = num then (stepsOf x num).set at5 ⟨4, none⟩ else stepsOf x k := ⟨_, rfl⟩
      have hX8 : ∀ k, k < 2 → H7 (bb k) = some (.lst (XZ k)) := fun k hk => by rw [hXZ]; exact hX7 k hk
      have dX8 : ∀ k, k < 2 → DpAll K G6 (XZ k) ((LZ k).map Step.D) := fun k hk => by rw [hXZ, hLZ]; exact dX k hk
      have okZ : ∀ k, k < 2 → StepsOk (LZ k) := fun k hk => by
        rw [hLZ]
        dsimp only
        split
        · exact wait_ok (steps_ok hx num) _
        · exact steps_ok hx k
      have C8 := (C7.freeze b0H (hX8 0 (by decide)) b0d).freeze b1H (hX8 1 (by decide)) b1d
      have g8 := (same_new (H := G6) (p := bb 0) (o := .lst (XZ 0)) (bG6 0 (by decide))).trans (same_new (H := upd G6 (bb 0) (.lst (XZ 0))) (p := bb 1) (o := .lst (XZ 1)) (by rw [upd_ne bne.symm]; exact bG6 1 (by decide)))
      have z0 : Dp K (upd (upd G6 (bb 0) (.lst (XZ 0))) (bb 1) (.lst (XZ 1))) (.ref (bb 0)) (stepsD (LZ 0)) := .lst (SqL.of (by rw [upd_ne bne, upd_same])) (Dp.monoAll g8 _ _ (dX8 0 (by decide)))
      have z1 : Dp K (upd (upd G6 (bb 0) (.lst (XZ 0))) (bb 1) (.lst (XZ 1))) (.ref (bb 1)) (stepsD (LZ 1)) := .lst (SqL.of upd_same) (Dp.monoAll g8 _ _ (dX8 1 (by decide)))
      have DG8 : (upd (upd G6 (bb 0) (.lst (XZ 0))) (bb 1) (.lst (XZ 1))) D = none := by rw [upd_ne b1D.symm, upd_ne b0D.symm]; exact DG6
      exact fin (z := withS x LZ) C8 DG8 hD7 (Dp.mono (g6.trans g8) _ _ dsh) (Dp.mono (g6.trans g8) _ _ dst) z0 z1 ⟨hx.c3, hx.c12, hx.b3, hx.ha, hx.hb, hx.ne, okZ 0 (by decide), okZ 1 (by decide)⟩ rfl p hp
    | 2, _ =>
      refine ⟨_, rfl, rfl, _, rfl, ite_f (decide_eq_false fun z => by cases z) ?_⟩
      refine ⟨_, rfl, rfl, _, rfl, ite_f (decide_eq_false fun z => by cases z) ?_⟩
      refine ⟨_, rfl, rfl, _, rfl, ite_t (decide_eq_true rfl) ?_⟩
      have c3 := hx.c3
      have c12 := hx.c12
      refine ⟨_, rfl, _, rfl, sh, _, rfl, .inr (Same.seqT (g4.trans B4.now.s) hsh), ?_⟩
      rw [List.length_map]
      refine draw_go B4 (by omega) (by omega) fun H5 at5 C5 K5 hat' => ?_
      have hat : at5 < x.shelf.length := by omega
      have hat2 : at5 < (nV x.shelf).length := by rw [nV, List.length_map]; exact hat
      have hD5 : H5 D = some (.lst [.ref (bb 0), .ref (bb 1)]) := by rw [K5 D Dd]; exact hDD3
      have hsh4 : SqT K G4 sh (nV x.shelf) := Same.seqT g4 hsh
      refine ⟨_, rfl, _, rfl, _, rfl, slA_pt (Pt.start C5.now.s) hsh4 fun p1 G6 H6 P6 S6 h6 => ?_⟩
      rw [cut_hi hat2] at h6
      have C6 := C5.pure P6.ext P6.sm
      refine ⟨_, rfl, draw_go C6 (by decide) (by decide) fun H7 b7 C7 K7 hb7' => ?_⟩
      have hb7 : b7 < 4 := by omega
      refine ⟨(by show 1 ≤ sizeLine; decide), fun p2 hp2 => ?_⟩
      have C8 := C7.new hp2 (.tup [.int b7])
      have g8 := same_new (o := .tup [.int b7]) (Same.free C7.now.s hp2)
      refine catA_pt (Pt.start C8.now.s) (Same.seqT g8 h6) (SqT.of upd_same) (small 2000 (by rw [List.length_take, List.length_singleton]; omega) (by decide)) fun p3 G9 H9 P9 S9 h9' => ?_
      have C9 := C8.pure P9.ext P9.sm
      refine ⟨_, rfl, _, rfl, _, _, rfl, rfl, _, rfl, ?_⟩
      dsimp only [tNoPart]
      have S49 : Same G4 G9 := S6.trans (g8.trans S9)
      refine slA_pt (K := K) (Pt.start C9.now.s) (Same.seqT S49 hsh4) fun p4 G10 H10 P10 S10 h10 => ?_
      rw [cut_lo hat2] at h10
      have C10 := C9.pure P10.ext P10.sm
      refine catA_pt (Pt.start C10.now.s) (Same.seqT S10 h9') h10 (small 2000 (by rw [List.length_append, List.length_take, List.length_singleton, List.length_drop, nV, List.length_map]; omega) (by decide)) fun p5 G11 H11 P11 S11 h11 => ?_
      have C11 := C10.pure P11.ext P11.sm
      have esh : (nV x.shelf).take at5 ++ [V.int (b7 : Int)] ++ (nV x.shelf).drop (at5 + 1) = nV (x.shelf.set at5 b7) := by
        rw [List.append_assoc, nV, nV, List.map_set, List.set_eq_take_append_cons_drop, if_pos (by rw [List.length_map]; exact hat)]
        rfl
      rw [esh] at h11
      refine ⟨_, rfl, rfl, _, rfl, ite_f (decide_eq_false fun z => by cases z) ?_⟩
      refine ⟨_, rfl, _, rfl, _, rfl, (by show 3 ≤ sizeLine; decide), fun p hp => ?_⟩
      have S4 : Same G4 G11 := S49.trans (S10.trans S11)
      have hD6 := P6.sm _ _ hD5
      have hD7 : H7 D = some (.lst [.ref (bb 0), .ref (bb 1)]) := by rw [K7 D Dd]; exact hD6
      have Dp2 : D ≠ p2 := ne_of_none hD7 hp2
      have hD8 : (upd H7 p2 (.tup [.int b7])) D = some (.lst [.ref (bb 0), .ref (bb 1)]) := by rw [upd_ne Dp2]; exact hD7
      have hD11 := P11.sm _ _ (P10.sm _ _ (P9.sm _ _ hD8))
      have DG11 : G11 D = none := P11.ext.out (P10.ext.out (P9.ext.out (by rw [upd_ne Dp2]; exact P6.ext.out DG4 hD5) hD8) (P9.sm _ _ hD8)) (P10.sm _ _ (P9.sm _ _ hD8))
      refine fin (z := { x with shelf := x.shelf.set at5 b7 }) C11 DG11 hD11 (.tup h11 (nats_D' _)) (Dp.mono (g4.trans S4) _ _ dst) (Dp.mono S4 _ _ d0) (Dp.mono S4 _ _ d1) ⟨by rw [List.length_set]; exact hx.c3, by rw [List.length_set]; exact hx.c12, fun n hn => ?_, by rw [List.length_set]; exact hx.ha, by rw [List.length_set]; exact hx.hb, hx.ne, hx.p, hx.q⟩ (List.length_set ..) p hp
      rcases List.mem_or_eq_of_mem_set hn with q | rfl
      · exact hx.b3 n q
      · omega
    | 3, _ =>
      refine ⟨_, rfl, rfl, _, rfl, ite_f (decide_eq_false fun z => by cases z) ?_⟩
      refine ⟨_, rfl, rfl, _, rfl, ite_f (decide_eq_false fun z => by cases z) ?_⟩
      refine ⟨_, rfl, rfl, _, rfl, ite_f (decide_eq_false fun z => by cases z) ?_⟩
      refine ⟨_, rfl, rfl, _, rfl, ite_t (decide_eq_true rfl) ?_⟩
      refine ⟨_, rfl, st, _, _, rfl, Same.seqT (g4.trans B4.now.s) hst, fun rv hrv => ?_⟩
      have C5 := B4.new hrv (.tup [.int x.b, .int x.a])
      have g5 := same_new (o := .tup [.int x.b, .int x.a]) (Same.free B4.now.s hrv)
      have Drv : D ≠ rv := ne_of_none hDD3 hrv
      refine ⟨_, rfl, _, rfl, _, rfl, (by show 3 ≤ sizeLine; decide), fun p hp => ?_⟩
      exact fin (z := { x with a := x.b, b := x.a }) C5 (by rw [upd_ne Drv]; exact DG4) (by rw [upd_ne Drv]; exact hDD3) (Dp.mono (g4.trans g5) _ _ dsh) (.tup (SqT.of upd_same) (.cons (.int _) (.cons (.int _) .nil))) (Dp.mono g5 _ _ d0) (Dp.mono g5 _ _ d1) ⟨hx.c3, hx.c12, hx.b3, hx.hb, hx.ha, hx.ne.symm, hx.p, hx.q⟩ rfl p hp
    | n + 4, h => exact absurd h (by omega)
end
end Sb

namespace Sb
open PySem PySem.Spec PyProof.Rows L2
theorem cycX_of {x : Pl} {i n : Nat} (hi : i < n) (e : sitAt x i = sitAt x n) (h : ((List.range n).map (sitAt x)).Nodup) : Cyc x i n := by
  refine ⟨hi, e, fun j k hj hk q => ?_⟩
  have e1 : ((List.range n).map (sitAt x))[j]? = some (sitAt x j) := by rw [List.getElem?_map, List.getElem?_range hj]; rfl
  have e2 : ((List.range n).map (sitAt x))[k]? = some (sitAt x k) := by rw [List.getElem?_map, List.getElem?_range hk]; rfl
  rw [← q] at e2
  exact (List.getElem?_inj (by rw [List.length_map, List.length_range]; exact hj) h).mp (e1.trans e2.symm)
theorem cyc0 : Cyc (lateX late0) 23 24 := cycX_of (by decide) (by decide +kernel) (by decide +kernel)
theorem cyc1 : Cyc (lateX late1) 33 34 := cycX_of (by decide) (by decide +kernel) (by decide +kernel)
theorem fd_late : FD (lateX late0) (lateX late1) (some 7) := by
  have h : ∀ t : _root_.Fin 7, neB (lateX late0) (lateX late1) t.val = false := by decide +kernel
  exact ⟨by decide +kernel, fun t ht => h ⟨t, ht⟩⟩
end Sb

namespace Sb
open PySem PySem.Spec PyProof.Rows L2 TL LamX NdefX
/-- first_error of what is no list -/
structure spFEO (K : PySem.W.Frag) (vs : List V) (H : Hp) (Q : VK) (E : XK) : Prop where
  ex : ∃ (src : Str) (G : Hp) (v : V) (x : Pl) (i n : Nat) (t : Value), vs = [.str src, v] ∧ Told src x i n ∧ (∀ H', Same H H' → TyX K H' v t) ∧ PySem.W.kitOne K t (.type "list") = some false ∧ Same G H ∧ ∀ G' H', Ext G H G' H' → Same H H' → Q (.int 0) H'
section
variable {P : Program} {w : World} {K : PySem.W.Frag} {mg : Str → Option Value} {base : Heap} {a : Ad}
theorem ok_feO (T : Txt K mg a) : FnOk P w K mg base CX0 9 a.f_first_error a.d_first_error ["plan", "log"] (spFEO K) := by
  refine T.F_first_error.ok sc_first_error (fun vs H Q E h => ?_) (fun cdv A outer s H vs Q E hr h => ?_)
  · obtain ⟨⟨src, G, v, x, i, n, t, rfl, _⟩⟩ := h
    rfl
  · obtain ⟨⟨src, G, v, x, i, n, t, rfl, ⟨ld, ok, cy, le⟩, ty, kt, hGH, k⟩⟩ := h
    refine ⟨_, (pss_cons (ps_set (i := 2) sc_first_error.nd rfl (Or.inl rfl) (pe_make T.mk_Story (ok_Story_init T) (hr.mono (by decide)) (by rfl) T.m_Story (b_Story_init T) .nil pass0 (pa_cons (pe_call (ok_load T) (hr.mono (by decide)) rfl T.m_load T.F_load.kp (b_load T) .nil pass0 (pa_cons (pv 0) pa_nil)) pa_nil)))
      (pss_cons (ps_if (pt_not (pt_val (pe_callB call_isi (by rfl) T.z_isinstance (by decide +kernel) (pa_cons (pv 1) (pa_cons (pe_bltn (v := .ty "list") (by rfl) T.z_list (by decide +kernel) rfl) pa_nil))))) (pss_one (ps_ret pe_int)) pss_nil)
      pss_never)), ?_⟩
    refine ⟨_, rfl, ⟨⟨src, G, x, rfl, ld, ok, hGH, fun G1 H1 v1 x1 s1 h1 => ?_⟩⟩⟩
    have B1 := (Pt.start hGH).call x1 s1
    intro y dy ny nd ne
    obtain ⟨yG, sS, hp2⟩ := story_pre B1 h1 ny nd ne
    refine ⟨⟨y, dy, _, _, x, i, n, rfl, upd_same, yG, sS, hp2, ok, cy, le, fun G' H2 l0 vs0 M yG' hy' hl0 ht0 => ⟨rfl, ?_⟩⟩⟩
    obtain ⟨G2, B2, S2, hS⟩ := story_post B1 ny nd ne M yG' hy' hl0 ht0
    refine ⟨_, rfl, _, _, _, _, false, rfl, .ty _, ty _ B2.sm, kt, _, rfl, ite_t rfl ?_⟩
    exact k _ _ B2.ext B2.sm
end
end Sb

namespace Sb
open PySem PySem.Spec PyProof.Rows L2 TL LamX NdefX
theorem FnOk.or {P : Program} {w : World} {K : PySem.W.Frag} {mg : Str → Option Value} {base : Heap} {CX : CXT} {k : Nat} {f : Addr} {fd : FuncData} {ps : List Str} {s1 s2 : Sp} (F : FnOk P w K mg base CX k f fd ps s1) (F2 : FnOk P w K mg base CX k f fd ps s2) :
    FnOk P w K mg base CX k f fd ps (fun vs H Q E => s1 vs H Q E ∨ s2 vs H Q E) :=
  ⟨fun vs H Q E h => h.elim (F.len vs H Q E) (F2.len vs H Q E), fun A outer s H args us vs Q E hr e0 hb r h => h.elim (F.run A outer s H args us vs Q E hr e0 hb r) (F2.run A outer s H args us vs Q E hr e0 hb r)⟩
def badsD (w : Nat × Nat) : List PyData := [.tuple [.str (doS w.2), .str (doS w.1), .str ""], .list [.str (doS w.1), .str (doS w.2)], .none, .int 5, .str "wait", .tuple [.str (doS w.1), .str "Wait"]]
theorem bads_ok {w : Nat × Nat} (h1 : w.1 ≤ 8) (h2 : w.2 ≤ 8) {m : Nat} (hm : m < 6) : SeqAt.shaped ((badsD w).getD m .none) = true ∧ PyData.eqv ((badsD w).getD m .none) (wordsD w) = false := by
  have all : ∀ (a b : _root_.Fin 9) (k : _root_.Fin 6), SeqAt.shaped ((badsD (a.val, b.val)).getD k.val .none) = true ∧ PyData.eqv ((badsD (a.val, b.val)).getD k.val .none) (wordsD (a.val, b.val)) = false := by decide +kernel
  exact all ⟨w.1, by omega⟩ ⟨w.2, by omega⟩ ⟨m, hm⟩
theorem eqv_words (w : Nat × Nat) (h1 : w.1 ≤ 8) (h2 : w.2 ≤ 8) : PyData.eqv (wordsD w) (wordsD w) = true := by
  have h : ∀ a b : _root_.Fin 9, PyData.eqv (wordsD (a.val, b.val)) (wordsD (a.val, b.val)) = true := by decide +kernel
  exact h ⟨w.1, by omega⟩ ⟨w.2, by omega⟩
theorem errP_none {x : Pl} {n : Nat} (hx : x.Ok) : errP x ((List.range n).map fun j => wordsD (wordsAt x j)) = none := by
  refine find_none fun m hm => ?_
  rw [List.length_map, List.length_range] at hm
  have e : (((List.range n).map fun j => wordsD (wordsAt x j)).getD m .none) = wordsD (wordsAt x m) := by
    rw [List.getD_eq_getElem?_getD, List.getElem?_map, List.getElem?_range hm]; rfl
  rw [e, eqv_words _ (words_le hx m).1 (words_le hx m).2]
  rfl
theorem errP_bad {x : Pl} {n at3 : Nat} {b : PyData} (hx : x.Ok) (h : at3 ≤ n) (hb : PyData.eqv b (wordsD (wordsAt x at3)) = false) :
    errP x (((List.range n).map fun j => wordsD (wordsAt x j)).take at3 ++ [b, .none] ++ ((List.range n).map fun j => wordsD (wordsAt x j)).drop at3) = some at3 := by
  have lt : (((List.range n).map fun j => wordsD (wordsAt x j)).take at3).length = at3 := by
    rw [List.length_take, List.length_map, List.length_range]; omega
  refine find_some ?_ (fun m hm => ?_) ?_
  · rw [List.length_append, List.length_append, lt]
    show at3 < at3 + 2 + _
    omega
  · have e : ((((List.range n).map fun j => wordsD (wordsAt x j)).take at3 ++ [b, .none] ++ ((List.range n).map fun j => wordsD (wordsAt x j)).drop at3).getD m .none) = wordsD (wordsAt x m) := by
      rw [List.getD_eq_getElem?_getD, List.append_assoc, List.getElem?_append_left (by omega), List.getElem?_take, if_pos hm, List.getElem?_map, List.getElem?_range (by omega)]; rfl
    rw [e, eqv_words _ (words_le hx m).1 (words_le hx m).2]
    rfl
  · have e : ((((List.range n).map fun j => wordsD (wordsAt x j)).take at3 ++ [b, .none] ++ ((List.range n).map fun j => wordsD (wordsAt x j)).drop at3).getD at3 .none) = b := by
      rw [List.getD_eq_getElem?_getD, List.append_assoc, List.getElem?_append_right (by omega), lt, Nat.sub_self]; rfl
    rw [e, hb]
    rfl
theorem DpAll.part {K : PySem.W.Frag} {G : Hp} : ∀ {vs : List V} {ds : List PyData} (k : Nat), DpAll K G vs ds → DpAll K G (vs.take k) (ds.take k) ∧ DpAll K G (vs.drop k) (ds.drop k)
  | _, _, 0, h => by rw [List.take_zero, List.take_zero]; exact ⟨.nil, h⟩
  | _, _, k + 1, .nil => ⟨.nil, .nil⟩
  | _, _, k + 1, .cons h t => ⟨.cons h (DpAll.part k t).1, (DpAll.part k t).2⟩
theorem cut_to {xs : List V} {i : Nat} (h : i ≤ xs.length) : cutV xs none (some (i : Int)) = xs.take i := by
  unfold cutV
  have e : HT.sIx xs.length xs.length (some (i : Int)) = i := by
    unfold HT.sIx
    simp only
    rw [if_neg (by omega)]
    omega
  rw [e]
  show (xs.drop 0).take (i - 0) = _
  rw [List.drop_zero, Nat.sub_zero]
theorem cut_from {xs : List V} {i : Nat} (h : i ≤ xs.length) : cutV xs (some (i : Int)) none = xs.drop i := by
  unfold cutV
  have e : HT.sIx xs.length 0 (some (i : Int)) = i := by
    unfold HT.sIx
    simp only
    rw [if_neg (by omega)]
    omega
  rw [e]
  show (xs.drop i).take (xs.length - i) = _
  rw [← List.length_drop, List.take_length]
structure spChecks (K : PySem.W.Frag) (vs : List V) (H : Hp) (Q : VK) (E : XK) : Prop where
  ex : ∃ (d : Addr) (G : Hp) (src : Str) (v : V) (x : Pl) (i n : Nat), vs = [.ref d, .str src, v] ∧ Told src x i n ∧ Dp K G v (.tuple [.list ((List.range n).map (dayD x)), natD i]) ∧ Drawn d G H Q fun _ u => u = .bl true
section
variable {P : Program} {w : World} {K : PySem.W.Frag} {mg : Str → Option Value} {base : Heap} {a : Ad}
theorem ok_feB (T : Txt K mg a) : FnOk P w K mg base CX0 9 a.f_first_error a.d_first_error ["plan", "log"] (fun vs H Q E => spFirstErr K vs H Q E ∨ spFEO K vs H Q E) := FnOk.or (ok_first_error T) (ok_feO T)
theorem ok_l_checks (T : Txt K mg a) : FnOk P w K mg base CX0 12 a.f_l_checks a.d_l_checks ["_law_d", "_law_text_here", "_law_cycle_here"] (spChecks K) := by
  refine T.F_l_checks.ok sc_l_checks (fun vs H Q E h => ?_) (fun cdv A outer s H vs Q E hr h => ?_)
  · obtain ⟨⟨d, G, src, v, x, i, n, rfl, _⟩⟩ := h
    rfl
  · obtain ⟨⟨d, G, src, v, x, i, n, rfl, told, hD, hN, k⟩⟩ := h
    refine ⟨_, (pss_cons (ps_setLc (i := 3) (own := [("_law_tick_here", 4)]) (g := gName 4) (te := (tOp (rIxT K) (tOp (rIxL K) (tOp (rIxT K) (tVar 2) (tC _)) (tCall _ [] E0 (tCons (tVar 2) (tCons (tVar 4) tNil)))) (tC _))) (tt := tYes) rfl sc_l_checks.nd rfl rfl (sw_true rfl rfl rfl (by decide +kernel)) (pi_range1 (by rfl) T.z_range (pa_cons (pe_call (ok_l_below T) (hr.mono (by decide)) rfl T.m_l_below T.F_l_below.kp (b_l_below T) .nil pass0 (pa_cons (pv 0) (pa_cons pe_int pa_nil))) pa_nil)) (blkOk_by (own := [("_law_tick_here", 4)]) (N := ["_law_d", "_law_text_here", "_law_cycle_here", "_law_log", "_law_tick_here", "_law_at", "_law_right", "_law_bad", "_law_found", "_law_none"]) (sc := (defScope s_l_checks)) (by decide +kernel)) (fun _ _ _ _ _ => (pg_name (i := 4) sc_l_checks.nd rfl (Or.inl rfl))) (fun _ _ _ _ _ => pts_nil) (fun _ _ _ _ _ => by exact (pe_ix ix_tup (pe_ix ix_list (pe_ix ix_tup (pv 2) pe_int (fun _ _ => rfl)) (pe_call (ok_l_place T) (hr.mono (by decide)) rfl T.m_l_place T.F_l_place.kp (b_l_place T) .nil pass0 (pa_cons (pv 2) (pa_cons (pv 4) pa_nil))) (fun _ _ => rfl)) pe_int (fun _ _ => rfl))))
      (pss_cons (ps_set (i := 5) sc_l_checks.nd rfl (Or.inl rfl) (pe_call (ok_l_below T) (hr.mono (by decide)) rfl T.m_l_below T.F_l_below.kp (b_l_below T) .nil pass0 (pa_cons (pv 0) (pa_cons (pe_op op_add (pe_callB call_len_seq (by rfl) T.z_len (by decide +kernel) (pa_cons (pv 3) pa_nil)) pe_int) pa_nil))))
      (pss_cons (ps_set (i := 6) sc_l_checks.nd rfl (Or.inl rfl) (pe_ix ix_tup (pe_ix ix_list (pe_ix ix_tup (pv 2) pe_int (fun _ _ => rfl)) (pe_call (ok_l_place T) (hr.mono (by decide)) rfl T.m_l_place T.F_l_place.kp (b_l_place T) .nil pass0 (pa_cons (pv 2) (pa_cons (pv 5) pa_nil))) (fun _ _ => rfl)) pe_int (fun _ _ => rfl)))
      (pss_cons (ps_set (i := 7) sc_l_checks.nd rfl (Or.inl rfl) (pe_ix ix_list (pe_lst (pa_cons (pe_op op_catT (pe_revT (pv 6)) (pe_tup (pa_cons pe_str pa_nil))) (pa_cons (pe_callTy call_list_of (by rfl) T.z_list (by decide +kernel) (pa_cons (pv 6) pa_nil)) (pa_cons pe_non (pa_cons pe_int (pa_cons pe_str (pa_cons (pe_tup (pa_cons (pe_ix ix_tup (pv 6) pe_int (fun _ _ => rfl)) (pa_cons pe_str pa_nil))) pa_nil))))))) (pe_call (ok_l_below T) (hr.mono (by decide)) rfl T.m_l_below T.F_l_below.kp (b_l_below T) .nil pass0 (pa_cons (pv 0) (pa_cons pe_int pa_nil))) (fun _ _ => rfl)))
      (pss_cons (ps_set (i := 8) sc_l_checks.nd rfl (Or.inl rfl) (pe_lst (pa_cons (pe_call (ok_feB T) (hr.mono (by decide)) rfl T.m_first_error T.F_first_error.kp (b_first_error T) .nil pass0 (pa_cons (pv 1) (pa_cons (pv 3) pa_nil))) (pa_cons (pe_call (ok_feB T) (hr.mono (by decide)) rfl T.m_first_error T.F_first_error.kp (b_first_error T) .nil pass0 (pa_cons (pv 1) (pa_cons (pe_op op_cat (pe_op op_cat (pe_slice sl_list (pv 3) po_none (po_some (pv 5))) (pe_lst (pa_cons (pv 7) (pa_cons pe_non pa_nil)))) (pe_slice sl_list (pv 3) (po_some (pv 5)) po_none)) pa_nil))) pa_nil))))
      (pss_cons (ps_set (i := 9) sc_l_checks.nd rfl (Or.inl rfl) (pe_ix ix_list (pe_lst (pa_cons pe_non (pa_cons (pe_tup pa_nil) (pa_cons pe_int (pa_cons pe_bl (pa_cons pe_str pa_nil)))))) (pe_call (ok_l_below T) (hr.mono (by decide)) rfl T.m_l_below T.F_l_below.kp (b_l_below T) .nil pass0 (pa_cons (pv 0) (pa_cons pe_int pa_nil))) (fun _ _ => rfl)))
      (pss_one (ps_ret (pe_call (ok_l_equal T 2) (hr.mono (by decide)) rfl T.m_l_equal T.F_l_equal.kp (b_l_equal T) .nil pass0 (pa_cons (pe_op op_cat (pv 8) (pe_lst (pa_cons (pe_call (ok_feB T) (hr.mono (by decide)) rfl T.m_first_error T.F_first_error.kp (b_first_error T) .nil pass0 (pa_cons (pv 1) (pa_cons (pv 9) pa_nil))) pa_nil))) (pa_cons (pe_lst (pa_cons pe_non (pa_cons (pv 5) (pa_cons pe_int pa_nil)))) pa_nil))))))))))), ?_⟩
    have lt := told.cy.lt
    have hx := told.ok
    obtain ⟨tc, ys, rfl, htc, hys⟩ := Dp.tup_inv hD
    obtain ⟨fv, r1, rfl, hfv, hys⟩ := DpAll.cons_inv hys
    obtain ⟨iv, r2, rfl, hiv, hys⟩ := DpAll.cons_inv hys
    cases DpAll.nil_inv hys
    obtain ⟨fl, xs, rfl, hfl, hxs⟩ := Dp.lst_inv hfv
    cases Dp.int_inv hiv
    have wat : ∀ t, ∃ tj wt sv, xs[placeP i n t]? = some (.ref tj) ∧ SqT K G tj [.ref wt, sv] ∧ SqT K G wt [.str (doS (wordsAt x t).1), .str (doS (wordsAt x t).2)] := fun t => by
      have hpl := place_lt (t := t) told.cy
      obtain ⟨tv, htv, hDt⟩ := DpAll.at hxs (i := placeP i n t) (d := dayD x (placeP i n t)) (by rw [List.getElem?_map, List.getElem?_range hpl]; rfl)
      unfold dayD at hDt
      rw [place_words told.cy] at hDt
      obtain ⟨tj, ys, rfl, htj, hys⟩ := Dp.tup_inv hDt
      obtain ⟨wv, r1, rfl, hwv, hys⟩ := DpAll.cons_inv hys
      obtain ⟨sv, r2, rfl, hsv, hys⟩ := DpAll.cons_inv hys
      cases DpAll.nil_inv hys
      obtain ⟨wt, ws, rfl, hwt, hws⟩ := Dp.tup_inv hwv
      obtain ⟨w1, r3, rfl, hw1, hws⟩ := DpAll.cons_inv hws
      obtain ⟨w2, r4, rfl, hw2, hws⟩ := DpAll.cons_inv hws
      cases DpAll.nil_inv hws
      rw [Dp.str_inv hw1, Dp.str_inv hw2] at hwt
      exact ⟨tj, wt, sv, htv, htj, hwt⟩
    -- the log
    refine ⟨_, rfl, draw_go hN.at (by decide) (by decide) fun H1 lg B1 K1 hlg' => ?_⟩
    have hlg : lg < 60 := by omega
    refine ⟨lg, rfl, by omega, by omega, fun D hD' => ?_⟩
    have D0 : H D = none := B1.ext.k _ hD'
    have DG : G D = none := Same.free B1.now.s hD'
    have Dd : D ≠ d := B1.ne hD'
    refine lc_range (lo := 0) (n := lg) (fun m H' => ∃ us : List V, At d G H G H' ∧ H' D = some (.lst us) ∧ us.length = m ∧ DpAll K G us ((List.range m).map fun j => wordsD (wordsAt x j))) ⟨[], B1.lay hD' _, upd_same, rfl, .nil⟩ ?_ ?_
    · rintro m H' hm ⟨us, C, hDl, hul, hus⟩
      have et : (0 : Int) + (m : Int) = ((m : Nat) : Int) := by omega
      rw [et]
      obtain ⟨tj, wt, sv, htv, htj, hwt⟩ := wat m
      have s := C.now.s
      refine ⟨rfl, _, rfl, tc, _, _, .ref fl, rfl, rfl, Same.seqT s htc, at_of (j := 0) rfl rfl, _, rfl, _, rfl, ⟨⟨G, .ref tc, _, i, n, m, rfl, hD, by rw [List.length_map, List.length_range], lt, s, ?_⟩⟩⟩
      refine ⟨fl, _, _, .ref tj, rfl, rfl, s.seq hfl, at_of (j := placeP i n m) rfl htv, tj, _, _, .ref wt, rfl, rfl, Same.seqT s htj, at_of (j := 0) rfl rfl, us, hDl, smaller 70 (by omega) (by decide), us ++ [.ref wt], C.put D0 DG Dd _, upd_same, by rw [List.length_append, hul]; rfl, ?_⟩
      rw [range_more]
      exact DpAll.snoc hus (.tup hwt (.cons (.str _) (.cons (.str _) .nil)))
    rintro H2 ⟨us, C2, hD2, hul, hus⟩
    -- at
    refine ⟨_, rfl, _, rfl, D, _, rfl, .inl (SqL.of hD2), _, _, rfl, rfl, ?_⟩
    rw [hul]
    have e1 : (lg : Int) + 1 = ((lg + 1 : Nat) : Int) := by omega
    dsimp only
    rw [e1]
    refine draw_go C2 (by omega) (by omega) fun H3 at3 C3 K3 hat' => ?_
    have hat : at3 ≤ lg := by omega
    have hD3 : H3 D = some (.lst us) := by rw [K3 D Dd]; exact hD2
    -- right
    obtain ⟨tj, wt, sv, htv, htj, hwt⟩ := wat at3
    have s3 := C3.now.s
    refine ⟨_, rfl, tc, _, _, .ref fl, rfl, rfl, Same.seqT s3 htc, at_of (j := 0) rfl rfl, _, rfl, _, rfl, ⟨⟨G, .ref tc, _, i, n, at3, rfl, hD, by rw [List.length_map, List.length_range], lt, s3, ?_⟩⟩⟩
    refine ⟨fl, _, _, .ref tj, rfl, rfl, s3.seq hfl, at_of (j := placeP i n at3) rfl htv, tj, _, _, .ref wt, rfl, rfl, Same.seqT s3 htj, at_of (j := 0) rfl rfl, ?_⟩
    -- bad
    refine ⟨_, rfl, wt, _, _, rfl, Same.seqT s3 hwt, fun p1 hp1 => ?_⟩
    have C4 := C3.lay hp1 (.tup [.str (doS (wordsAt x at3).2), .str (doS (wordsAt x at3).1)])
    refine ⟨(by show 1 ≤ sizeLine; decide), fun p2 hp2 => ?_⟩
    have C5 := C4.lay hp2 (.tup [.str ""])
    refine ⟨p1, p2, _, _, rfl, rfl, SqT.of (by rw [upd_ne (ne_of_none upd_same hp2), upd_same]), SqT.of upd_same, by simp, (by show 3 ≤ sizeLine; decide), (fun z => by cases z), fun _ p3 hp3 => ?_⟩
    have C6 := C5.new hp3 (.tup ([.str (doS (wordsAt x at3).2), .str (doS (wordsAt x at3).1)] ++ [.str ""]))
    have g6 := same_new (o := .tup ([V.str (doS (wordsAt x at3).2), .str (doS (wordsAt x at3).1)] ++ [.str ""])) (Same.free C5.now.s hp3)
    have b0 : Dp K (upd G p3 (.tup ([.str (doS (wordsAt x at3).2), .str (doS (wordsAt x at3).1)] ++ [.str ""]))) (.ref p3) (.tuple [.str (doS (wordsAt x at3).2), .str (doS (wordsAt x at3).1), .str ""]) := .tup (SqT.of upd_same) (.cons (.str _) (.cons (.str _) (.cons (.str _) .nil)))
    have hD6 : (upd (upd (upd H3 p1 (.tup [.str (doS (wordsAt x at3).2), .str (doS (wordsAt x at3).1)])) p2 (.tup [.str ""])) p3 (.tup ([.str (doS (wordsAt x at3).2), .str (doS (wordsAt x at3).1)] ++ [.str ""]))) D = some (.lst us) := by
      have q1 : (upd H3 p1 (.tup [.str (doS (wordsAt x at3).2), .str (doS (wordsAt x at3).1)])) D = some (.lst us) := by rw [upd_ne (ne_of_none hD3 hp1)]; exact hD3
      have q2 : (upd (upd H3 p1 (.tup [.str (doS (wordsAt x at3).2), .str (doS (wordsAt x at3).1)])) p2 (.tup [.str ""])) D = some (.lst us) := by rw [upd_ne (ne_of_none q1 hp2)]; exact q1
      rw [upd_ne (ne_of_none q2 hp3)]
      exact q2
    revert C6 g6 b0 hD6
    generalize upd G p3 (.tup ([.str (doS (wordsAt x at3).2), .str (doS (wordsAt x at3).1)] ++ [.str ""])) = G6
    generalize upd (upd (upd H3 p1 (.tup [.str (doS (wordsAt x at3).2), .str (doS (wordsAt x at3).1)])) p2 (.tup [.str ""])) p3 (.tup ([.str (doS (wordsAt x at3).2), .str (doS (wordsAt x at3).1)] ++ [.str ""])) = H6
    intro C6 g6 b0 hD6
    have s6 := g6.trans C6.now.s
    refine ⟨_, rfl, wt, _, rfl, .inr (Same.seqT s6 hwt), fun l7 hl7 => ?_⟩
    have C7 := C6.new hl7 (.lst [.str (doS (wordsAt x at3).1), .str (doS (wordsAt x at3).2)])
    have g7 := same_new (o := .lst [V.str (doS (wordsAt x at3).1), .str (doS (wordsAt x at3).2)]) (Same.free C6.now.s hl7)
    have b1 : Dp K (upd G6 l7 (.lst [.str (doS (wordsAt x at3).1), .str (doS (wordsAt x at3).2)])) (.ref l7) (.list [.str (doS (wordsAt x at3).1), .str (doS (wordsAt x at3).2)]) := .lst (SqL.of upd_same) (.cons (.str _) (.cons (.str _) .nil))
    have hD7 : (upd H6 l7 (.lst [.str (doS (wordsAt x at3).1), .str (doS (wordsAt x at3).2)])) D = some (.lst us) := by rw [upd_ne (ne_of_none hD6 hl7)]; exact hD6
    revert C7 g7 b1 hD7
    generalize upd G6 l7 (.lst [.str (doS (wordsAt x at3).1), .str (doS (wordsAt x at3).2)]) = G7
    generalize upd H6 l7 (.lst [.str (doS (wordsAt x at3).1), .str (doS (wordsAt x at3).2)]) = H7
    intro C7 g7 b1 hD7
    have s7 := (g6.trans g7).trans C7.now.s
    refine ⟨_, rfl, wt, _, _, .str (doS (wordsAt x at3).1), rfl, rfl, Same.seqT s7 hwt, at_of (j := 0) rfl rfl, (by show 2 ≤ sizeLine; decide), fun p8 hp8 => ?_⟩
    have C8 := C7.new hp8 (.tup [.str (doS (wordsAt x at3).1), .str "Wait"])
    have g8 := same_new (o := .tup [V.str (doS (wordsAt x at3).1), .str "Wait"]) (Same.free C7.now.s hp8)
    have b5 : Dp K (upd G7 p8 (.tup [.str (doS (wordsAt x at3).1), .str "Wait"])) (.ref p8) (.tuple [.str (doS (wordsAt x at3).1), .str "Wait"]) := .tup (SqT.of upd_same) (.cons (.str _) (.cons (.str _) .nil))
    have hD8 : (upd H7 p8 (.tup [.str (doS (wordsAt x at3).1), .str "Wait"])) D = some (.lst us) := by rw [upd_ne (ne_of_none hD7 hp8)]; exact hD7
    revert C8 g8 b5 hD8
    generalize upd G7 p8 (.tup [.str (doS (wordsAt x at3).1), .str "Wait"]) = G8
    generalize upd H7 p8 (.tup [.str (doS (wordsAt x at3).1), .str "Wait"]) = H8
    intro C8 g8 b5 hD8
    refine ⟨(by show 6 ≤ sizeLine; decide), fun lb hlb => ?_⟩
    have C9 := C8.lay hlb (.lst [.ref p3, .ref l7, .non, .int 5, .str "wait", .ref p8])
    have lbd := C8.ne hlb
    refine ⟨_, rfl, draw_go C9 (by decide) (by decide) fun H10 m C10 K10 hm' => ?_⟩
    have hm : m < 6 := by omega
    have hD10 : H10 D = some (.lst us) := by rw [K10 D Dd, upd_ne (ne_of_none hD8 hlb)]; exact hD8
    obtain ⟨vb, hvb, hdb⟩ : ∃ vb, ([V.ref p3, .ref l7, .non, .int 5, .str "wait", .ref p8] : List V)[m]? = some vb ∧ Dp K G8 vb ((badsD (wordsAt x at3)).getD m .none) := by
      match m, hm with
      | 0, _ => exact ⟨_, rfl, Dp.mono (g7.trans g8) _ _ b0⟩
      | 1, _ => exact ⟨_, rfl, Dp.mono g8 _ _ b1⟩
      | 2, _ => exact ⟨_, rfl, .non⟩
      | 3, _ => exact ⟨_, rfl, .int _⟩
      | 4, _ => exact ⟨_, rfl, .str _⟩
      | 5, _ => exact ⟨_, rfl, b5⟩
    refine ⟨lb, _, _, vb, rfl, rfl, SqL.of (by rw [K10 lb lbd]; exact upd_same), atI_nat hvb, ?_⟩
    obtain ⟨bsh, beq⟩ := bads_ok (words_le hx at3).1 (words_le hx at3).2 hm
    have g68 : Same G G8 := C8.g
    have shw : ∀ k, SeqAt.shaped (wordsD (wordsAt x k)) = true := fun k => words_shaped _ (words_le hx k).1 (words_le hx k).2
    have shl : ∀ z ∈ (List.range lg).map (fun j => wordsD (wordsAt x j)), SeqAt.shaped z = true := by
      intro z hz
      obtain ⟨k, _, rfl⟩ := List.mem_map.mp hz
      exact shw k
    have hus8 := Dp.monoAll g68 _ _ hus
    refine ⟨_, rfl, _, rfl, .inl ⟨⟨src, G8, D, us, _, x, i, n, rfl, told, hD10, hus8, shl, C10.now.s, fun G11 H11 E11 S11 => ?_⟩⟩⟩
    have C11 := C10.pure E11 S11
    have hD11 := S11 _ _ hD10
    have en : errP x ((List.range lg).map fun j => wordsD (wordsAt x j)) = none := errP_none hx
    rw [en]
    refine ⟨_, rfl, _, rfl, _, rfl, _, rfl, D, us, rfl, SqL.of hD11, fun q1 hq1 => ?_⟩
    have C12 := C11.lay hq1 (.lst (cutV us none (some (at3 : Int))))
    have hD12 : (upd H11 q1 (.lst (cutV us none (some (at3 : Int))))) D = some (.lst us) := by rw [upd_ne (ne_of_none hD11 hq1)]; exact hD11
    refine ⟨_, rfl, (by show 2 ≤ sizeLine; decide), fun q2 hq2 => ?_⟩
    have C13 := C12.lay hq2 (.lst [vb, .non])
    have hq12 : (upd (upd H11 q1 (.lst (cutV us none (some (at3 : Int))))) q2 (.lst [vb, .non])) q1 = some (.lst (cutV us none (some (at3 : Int)))) := by rw [upd_ne (ne_of_none upd_same hq2)]; exact upd_same
    have hD13 : (upd (upd H11 q1 (.lst (cutV us none (some (at3 : Int))))) q2 (.lst [vb, .non])) D = some (.lst us) := by rw [upd_ne (ne_of_none hD12 hq2)]; exact hD12
    have el : us.length ≤ 60 := by omega
    have l1 := cutV_length us none (some (at3 : Int))
    refine ⟨q1, q2, _, _, rfl, rfl, hq12, upd_same, Nat.le_of_lt <| smaller (n := (cutV us none (some (at3 : Int))).length + [vb, V.non].length) 62 (by show _ + 2 ≤ 62; omega) (by decide), fun q3 hq3 => ?_⟩
    have C14 := C13.lay hq3 (.lst (cutV us none (some (at3 : Int)) ++ [vb, .non]))
    have hD14 := (upd_ne (o := .lst (cutV us none (some (at3 : Int)) ++ [vb, .non])) (ne_of_none hD13 hq3)).trans hD13
    refine ⟨_, rfl, _, rfl, _, rfl, D, us, rfl, SqL.of hD14, fun q4 hq4 => ?_⟩
    have C15 := C14.lay hq4 (.lst (cutV us (some (at3 : Int)) none))
    have l2 := cutV_length us (some (at3 : Int)) none
    refine ⟨q3, q4, _, _, rfl, rfl, (by rw [upd_ne (ne_of_none upd_same hq4)]; exact upd_same), upd_same, Nat.le_of_lt <| smaller (n := (cutV us none (some (at3 : Int)) ++ [vb, V.non]).length + (cutV us (some (at3 : Int)) none).length) 122 (by rw [List.length_append]; show _ + 2 + _ ≤ 122; omega) (by decide), fun q5 hq5 => ?_⟩
    have C16 := C15.lay hq5 (.lst (cutV us none (some (at3 : Int)) ++ [vb, .non] ++ cutV us (some (at3 : Int)) none))
    rw [cut_to (by omega), cut_from (by omega)] at C16 ⊢
    have pt := DpAll.part at3 (Dp.monoAll E11.g _ _ hus8)
    refine .inl ⟨⟨src, G11, q5, _, _, x, i, n, rfl, told, upd_same, DpAll.append (DpAll.append pt.1 (.cons (Dp.mono E11.g _ _ hdb) (.cons .non .nil))) pt.2, ?_, C16.now.s, fun G17 H17 E17 S17 => ?_⟩⟩
    · intro z hz
      rcases List.mem_append.mp hz with hz | hz
      · rcases List.mem_append.mp hz with hz | hz
        · exact shl z (List.mem_of_mem_take hz)
        · rcases List.mem_cons.mp hz with rfl | hz
          · exact bsh
          · rcases List.mem_cons.mp hz with rfl | hz
            · rfl
            · cases hz
      · exact shl z (List.mem_of_mem_drop hz)
    rw [errP_bad hx hat beq]
    have C17 := C16.pure E17 S17
    refine ⟨(by show 2 ≤ sizeLine; decide), fun F hF => ?_⟩
    have C18 := C17.lay hF (.lst [.non, .int at3])
    have Fd := C17.ne hF
    -- no list
    refine ⟨(by show 0 ≤ sizeLine; decide), fun e9 he9 => ?_⟩
    have C19 := C18.lay he9 (.tup [])
    refine ⟨(by show 5 ≤ sizeLine; decide), fun lz hlz => ?_⟩
    have C20 := C19.lay hlz (.lst [.non, .ref e9, .int 5, .bl true, .str "log"])
    have lzd := C19.ne hlz
    refine ⟨_, rfl, draw_go C20 (by decide) (by decide) fun H21 m2 C21 K21 hm2' => ?_⟩
    have hm2 : m2 < 5 := by omega
    have hF18 : (upd H17 F (.lst [.non, .int at3])) F = some (.lst [.non, .int at3]) := upd_same
    have hF19 := (upd_ne (o := .tup []) (ne_of_none hF18 he9)).trans hF18
    have hF20 := (upd_ne (o := .lst [.non, .ref e9, .int 5, .bl true, .str "log"]) (ne_of_none hF19 hlz)).trans hF19
    have hF21 : H21 F = some (.lst [.non, .int at3]) := by rw [K21 F Fd]; exact hF20
    have e9d := C18.ne he9
    have he21 : H21 e9 = some (.tup []) := by rw [K21 e9 e9d, upd_ne (ne_of_none upd_same hlz)]; exact upd_same
    obtain ⟨vz, tz, hvz, hty, hkt⟩ : ∃ (vz : V) (tz : Value), ([V.non, .ref e9, .int 5, .bl true, .str "log"] : List V)[m2]? = some vz ∧ (∀ H', Same H21 H' → TyX K H' vz tz) ∧ PySem.W.kitOne K tz (.type "list") = some false := by
      match m2, hm2 with
      | 0, _ => exact ⟨_, _, rfl, fun _ _ => .base .non, kf (by decide)⟩
      | 1, _ => exact ⟨_, _, rfl, fun _ s => .base (.tup (s _ _ he21)), kf (by decide)⟩
      | 2, _ => exact ⟨_, _, rfl, fun _ _ => .base (.int _), kf (by decide)⟩
      | 3, _ => exact ⟨_, _, rfl, fun _ _ => .base (.bl _), kf (by decide)⟩
      | 4, _ => exact ⟨_, _, rfl, fun _ _ => .base (.str _), kf (by decide)⟩
    refine ⟨lz, _, _, vz, rfl, rfl, SqL.of (by rw [K21 lz lzd]; exact upd_same), atI_nat hvz, ?_⟩
    refine ⟨_, rfl, _, rfl, _, rfl, .inr ⟨⟨src, G17, vz, x, i, n, tz, rfl, told, hty, hkt, C21.now.s, fun G22 H22 E22 S22 => ?_⟩⟩⟩
    have C22 := C21.pure E22 S22
    refine ⟨(by show 1 ≤ sizeLine; decide), fun r1 hr1 => ?_⟩
    have hF22 := S22 _ _ hF21
    have C23 := C22.lay hr1 (.lst [.int 0])
    have hF23 := (upd_ne (o := .lst [.int 0]) (ne_of_none hF22 hr1)).trans hF22
    refine ⟨F, r1, _, _, rfl, rfl, hF23, upd_same, (by show 3 ≤ sizeLine; decide), fun r2 hr2 => ?_⟩
    have C24 := C23.lay hr2 (.lst ([.non, .int at3] ++ [.int 0]))
    refine ⟨_, rfl, (by show 3 ≤ sizeLine; decide), fun r3 hr3 => ?_⟩
    have C25 := C24.lay hr3 (.lst [.non, .int at3, .int 0])
    refine equal_go (d := .list [.none, natD at3, .int 0]) (.lst (SqL.of (by rw [upd_ne (ne_of_none upd_same hr3)]; exact upd_same)) (.cons .non (.cons (.int _) (.cons (.int _) .nil)))) (.lst (SqL.of upd_same) (.cons .non (.cons (.int _) (.cons (.int _) .nil)))) ?_ fun H26 S26 => ?_
    · refine Fine.list (fun z hz => ?_) (by show 3 ≤ 1000000; decide)
      rcases List.mem_cons.mp hz with rfl | hz
      · exact Fine.none
      rcases List.mem_cons.mp hz with rfl | hz
      · exact Fine.int _
      rcases List.mem_cons.mp hz with rfl | hz
      · exact Fine.int _
      cases hz
    have C26 := C25.pure (Ext.ofSame C25.now.s S26) S26
    exact k _ _ _ C26 rfl
end
end Sb

namespace Sb
open PySem PySem.Spec PyProof.Rows L2 TL LamX NdefX
/-! ### _law_error_of(lambda: first_difference(_law_texts[0], _law_longer)) -/
def lamP0 : Arguments := { posonlyargs := [], args := [], vararg := none, kwonlyargs := [], kw_defaults := [], kwarg := none, defaults := [] }
def lamSc10 : Scope := { kind := .function, names := [(Str.ofString "_law_longer", .free), (Str.ofString "_law_texts", .free), (Str.ofString "first_difference", .globalImplicit)], isGenerator := false, isCoroutine := false, more := [] }
theorem lamS10 : LamS (defScope s_law) lamSc10 := lamS_by (by decide +kernel)
def spE10 (a : Ad) (K : PySem.W.Frag) : TE := fun σ H Q => ∃ (l : Addr) (s1 s2 : Str) (vs : List V) (x z : Pl), σ[12]? = some (some (.ref l)) ∧ H l = some (.lst (.str s1 :: vs)) ∧ σ[13]? = some (some (.str s2)) ∧ Loads s1 x ∧ x.Ok ∧ Loads s2 z ∧ z.Ok ∧ x.shelf.length ≠ z.shelf.length ∧ Tabs (Ts a) H ∧
  ∀ (H2 : Hp) (p : Addr), ExtN H H2 → Tabs (Ts a) H2 → H2 p = some (.tup [.str "different", .int 0]) → Q (.ref p) H2
theorem pe_err10 {X : Cx} {a : Ad} {p p1 p2 p3 p4 p5 p6 lp pos : Pos} (T : Txt X.K X.mg a) (TB : Tbl X.mg X.base a) (hg : Gl X "_law_error_of") (hN : X.N[12]? = some (Str.ofString "_law_texts")) (hN2 : X.N[13]? = some (Str.ofString "_law_longer")) (hs : X.env.scope = defScope s_law) (hq : X.env.qual ++ "<lambda>" = Str.ofString "law" ++ ".<locals>." ++ "<lambda>") (hc : X.env.code = .ref a.cc_law) (hr : Room 12 X.A) :
    PE X (.Call (.Name "_law_error_of" p) [.Lambda lamP0 (.Call (.Name "first_difference" p1) [.Subscript (.Name "_law_texts" p2) (.Constant (.int 0) 0 p3) p4, .Name "_law_longer" p5] [] p6) lamSc10 lp] [] pos) (spE10 a X.K) := by
  obtain ⟨oc, od, kV, doc, pm, an, cdE, ct, osl, efE, lkE, hcE⟩ := T.F_l_error_of.ex
  have hbE := b_l_error_of T
  rw [efE] at lkE hbE
  have hu : ∀ p ∈ Ts a, p.1 = a.tb_law → p.2 = X.env.qual ++ "<lambda>" := fun p hp e => by
    simp only [Ts, List.mem_cons, List.not_mem_nil, or_false] at hp
    subst hp
    exact hq.symm
  have hm : (a.tb_law, X.env.qual ++ "<lambda>") ∈ Ts a := by rw [hq]; exact List.mem_cons_self
  have L : LamS X.env.scope lamSc10 := by rw [hs]; exact lamS10
  have main := pe_lamS (X := X) (T := Ts a) (TT := TErr a) (k := 10) (p := p) (lpos := lp) (pos := pos) (params := lamP0) (scope := lamSc10) (body := .Call (.Name "first_difference" p1) [.Subscript (.Name "_law_texts" p2) (.Constant (.int 0) 0 p3) p4, .Name "_law_longer" p5] [] p6) hg T.m_l_error_of T.F_l_error_of.kp lkE hcE hbE sc_l_error_of rfl (by first | exact Or.inl rfl | exact Or.inr (Or.inl rfl) | exact Or.inr (Or.inr rfl)) (err_gives T) TB.t_law hc hm hu hr L rfl (fun _ _ _ _ _ => rfl)
    (fun A outer s H E f c hr2 => (pe_call (ok_fdX T) (hr2.mono (by decide)) rfl T.m_first_difference T.F_first_difference.kp (b_first_difference T) .nil (pass_lam (X := X) (A := A) (outer := outer) (s := s) (H := H) (E := E) (scope := lamSc10) (f := f) (c' := c)) (pa_cons (pe_ix (r := rIxL X.K) (by exact ix_list) (pe_var (i := 12) hN (Or.inr (Or.inr rfl))) pe_int (fun _ _ => rfl)) (pa_cons (pe_var (i := 13) hN2 (Or.inr (Or.inr rfl))) pa_nil))))
  refine ⟨fun pins s σ H Q I ⟨l, s1, s2, vs, x, z, h12, hl, h13, ld1, ok1, ld2, ok2, hne, hT, k⟩ => main.run pins s σ H Q I ⟨hT, fun H1 eN T1 => ?_⟩⟩
  have hl1 := eN _ _ hl (fun _ e => nomatch e)
  refine ⟨.ref l, h12, l, _, 0, .str s1, rfl, rfl, SqL.of hl1, at_of (j := 0) rfl rfl, .str s2, h13, ⟨⟨s1, s2, (fun _ => none), x, z, rfl, ld1, ok1, ld2, ok2, hne, (fun _ _ e => nomatch e), fun G' H' _ sm => ⟨rfl, rfl, fun H2 p s2' _ hp => ?_⟩⟩⟩⟩
  exact k H2 p (fun b o e n => s2' _ _ (sm _ _ (eN b o e n))) (T1.ext fun b o e => s2' _ _ (sm _ _ e)) hp
end Sb

namespace Sb
open PySem PySem.Spec PyProof.Rows L2 TL LamX NdefX
structure NowX (a : Ad) (d : Addr) (G H : Hp) : Prop where
  now : Now d G H
  tb : Tabs (Ts a) H
  gt : ∀ b ∈ tbs a, G b = none
theorem tbsX_at {a : Ad} {H : Hp} (t : Tabs (Ts a) H) {b : Addr} (hb : b ∈ tbs a) : ∃ ps, H b = some (.tbl ps) := by
  simp only [tbs, List.mem_cons, List.not_mem_nil, or_false] at hb
  first
    | (subst hb
       obtain ⟨ps, h, _⟩ := t _ (List.mem_cons_self)
       exact ⟨ps, h⟩)
    | (rcases hb with rfl | rfl
       · obtain ⟨ps, h, _⟩ := t _ (List.mem_cons_self)
         exact ⟨ps, h⟩
       · obtain ⟨ps, h, _⟩ := t _ (List.mem_cons_of_mem _ List.mem_cons_self)
         exact ⟨ps, h⟩)
theorem NowX.of_at {a : Ad} {d : Addr} {G0 H0 G H : Hp} (n : NowX a d G0 H0) (b : At d G0 H0 G H) : NowX a d G H := by
  obtain ⟨ds, hd, _⟩ := n.now.x
  refine ⟨b.now, fun p hp => ?_, fun c hc => ?_⟩
  · obtain ⟨ps, h1, h2, h3⟩ := n.tb p hp
    have e1 : p.1 ≠ d := fun z => by rw [z, hd] at h1; cases h1
    refine ⟨ps, b.kept h1 e1, h2, fun pos cv hcv => ?_⟩
    obtain ⟨c, ec, hc⟩ := h3 pos cv hcv
    exact ⟨c, ec, b.kept hc fun z => by rw [z, hd] at hc; unfold CodeO at hc; cases hc⟩
  · obtain ⟨ps, h1⟩ := tbsX_at n.tb hc
    exact b.ext.out (n.gt c hc) h1
theorem cyc_open {K : PySem.W.Frag} {G : Hp} {v : V} {x : Pl} {i n : Nat} (cy : Cyc x i n) (h : Dp K G v (.tuple [.list ((List.range n).map (dayD x)), natD i])) : ∃ (tc fl : Addr) (xs : List V), v = .ref tc ∧ SqT K G tc [.ref fl, .int i] ∧ SqL K G fl xs ∧ xs.length = n ∧
    ∀ t, ∃ (tj : Addr) (wv : V) (sl : Addr) (u0 u1 u2 u3 : V), xs[placeP i n t]? = some (.ref tj) ∧ SqT K G tj [wv, .ref sl] ∧ SqL K G sl [u0, u1, u2, u3] ∧ Dp K G u0 (natsD (sitAt x (t + 1)).cs) ∧ Dp K G u3 (natsD (sitAt x (t + 1)).sh) := by
  obtain ⟨tc, ys, rfl, htc, hys⟩ := Dp.tup_inv h
  obtain ⟨fv, r1, rfl, hfv, hys⟩ := DpAll.cons_inv hys
  obtain ⟨iv, r2, rfl, hiv, hys⟩ := DpAll.cons_inv hys
  cases DpAll.nil_inv hys
  obtain ⟨fl, xs, rfl, hfl, hxs⟩ := Dp.lst_inv hfv
  cases Dp.int_inv hiv
  refine ⟨tc, fl, xs, rfl, htc, hfl, by rw [DpAll.len hxs, List.length_map, List.length_range], fun t => ?_⟩
  have hpl := place_lt (t := t) cy
  obtain ⟨tv, htv, hDt⟩ := DpAll.at hxs (i := placeP i n t) (d := dayD x (placeP i n t)) (by rw [List.getElem?_map, List.getElem?_range hpl]; rfl)
  unfold dayD at hDt
  rw [place_next cy] at hDt
  obtain ⟨tj, ys, rfl, htj, hys⟩ := Dp.tup_inv hDt
  obtain ⟨wv, r1, rfl, hwv, hys⟩ := DpAll.cons_inv hys
  obtain ⟨sv, r2, rfl, hsv, hys⟩ := DpAll.cons_inv hys
  cases DpAll.nil_inv hys
  unfold sitL at hsv
  obtain ⟨sl, us, rfl, hsl, hus⟩ := Dp.lst_inv hsv
  obtain ⟨u0, q0, rfl, h0, hus⟩ := DpAll.cons_inv hus
  obtain ⟨u1, q1, rfl, h1, hus⟩ := DpAll.cons_inv hus
  obtain ⟨u2, q2, rfl, h2, hus⟩ := DpAll.cons_inv hus
  obtain ⟨u3, q3, rfl, h3, hus⟩ := DpAll.cons_inv hus
  cases DpAll.nil_inv hus
  exact ⟨tj, wv, sl, u0, u1, u2, u3, htv, htj, hsl, h0, h3⟩
theorem NowX.clear {a : Ad} {d : Addr} {G H : Hp} (n : NowX a d G H) : NowX a d (fun _ => none) H := ⟨⟨(fun _ _ e => nomatch e), rfl, n.now.x⟩, n.tb, fun _ _ => rfl⟩
theorem find_more (f : Nat → Bool) (t : Nat) : (List.range (t + 1)).find? f = match (List.range t).find? f with | some k => some k | none => if f t = true then some t else none := by
  rw [List.range_succ, List.find?_append]
  cases (List.range t).find? f with
  | some k => rfl
  | none =>
    show ([t].find? f) = _
    rw [List.find?_cons]
    cases h : f t <;> simp
def lsD (x : Pl) (t : Nat) : PyData := .list [natsD (sitAt x (t + 1)).cs, natsD (sitAt x (t + 1)).sh]
theorem neB_ls (x z : Pl) (t : Nat) : (!PyData.eqv (lsD x t) (lsD z t)) = neB x z t := by
  show (!(PyData.eqvAll ((sitAt x (t + 1)).cs.map natD) ((sitAt z (t + 1)).cs.map natD) && (PyData.eqvAll ((sitAt x (t + 1)).sh.map natD) ((sitAt z (t + 1)).sh.map natD) && true))) = _
  rw [eqv_nats, eqv_nats, Bool.and_true, ← Bool.decide_and]
  rfl
theorem lay_ls (x : Pl) (t : Nat) : Lay 4 (lsD x t) := Lay.list (n := 3) (lay2 (lay_nats _) (lay_nats _))
theorem late_len (a b : Str) (h : decide (a.length + b.length ≤ 1000) = true) : a.length + b.length ≤ sizeLine := by
  have := of_decide_eq_true h
  rw [sizeLine_eq]
  omega
theorem long_len : ∀ c, c < 10 → (repS (Str.ofString " 0") c).length ≤ 100 ∧ (Str.ofString "shelf" ++ repS (Str.ofString " 0") c).length ≤ 100 := by decide +kernel
theorem fine_optX {n : Nat} (o : Option Nat) : Fine n (optD o) := by
  cases o with
  | none => exact Fine.none
  | some k => exact Fine.int _
def spLaw (a : Ad) (K : PySem.W.Frag) : Sp := fun vs H Q _ => ∃ (sc : Addr) (ns : List Int), vs = [.ref sc] ∧ SqL K H sc (ns.map V.int) ∧ ns.length ≤ 63 ∧ Tabs (Ts a) H ∧ ∀ H', Q (.bl true) H'
section
variable {P : Program} {w : World} {K : PySem.W.Frag} {mg : Str → Option Value} {base : Heap} {a : Ad}
theorem ok_law (T : Txt K mg a) (TB : Tbl mg base a) : FnOk P w K mg base CX0 20 a.f_law a.d_law ["_law_script"] (spLaw a K) := by
  refine fun_okC T.F_law T.ce_law sc_law (fun vs H Q E h => ?_) (fun A outer s H vs Q E hr h => ?_)
  · obtain ⟨sc, ns, rfl, _⟩ := h
    rfl
  · obtain ⟨sc, ns, rfl, hsc, hns, hTab, k⟩ := h
    refine ⟨_, (pss_cons (ps_set (i := 1) sc_law.nd rfl (Or.inl rfl) (pe_call (ok_l_random T) (hr.mono (by decide)) rfl T.m_l_random T.F_l_random.kp (b_l_random T) .nil pass0 (pa_cons (pv 0) (pa_cons pe_int pa_nil))))
      (pss_cons (ps_for PassesOwn.never rfl (pi_range1 (by rfl) T.z_range (pa_cons pe_int pa_nil)) (pg_name (i := 2) sc_law.nd rfl (Or.inl rfl)) (pss_cons (ps_set (i := 3) sc_law.nd rfl (Or.inl rfl) (pe_call (ok_l_plan T) (hr.mono (by decide)) rfl T.m_l_plan T.F_l_plan.kp (b_l_plan T) .nil pass0 (pa_cons (pv 1) (pa_cons pe_int pa_nil))))
      (pss_cons (ps_set (i := 4) sc_law.nd rfl (Or.inl rfl) (pe_call (ok_l_other T) (hr.mono (by decide)) rfl T.m_l_other T.F_l_other.kp (b_l_other T) .nil pass0 (pa_cons (pv 1) (pa_cons (pv 3) pa_nil))))
      (pss_cons (ps_set (i := 4) sc_law.nd rfl (Or.inl rfl) (pe_ifExp (pt_val (pe_call (ok_l_repeats T) (hr.mono (by decide)) rfl T.m_l_repeats T.F_l_repeats.kp (b_l_repeats T) .nil pass0 (pa_cons (pv 4) pa_nil))) (pv 4) (pv 3)))
      (pss_cons (ps_par (i := 5) (j := 6) (by rfl) sc_law.nd rfl rfl (by decide) rfl rfl (pa_cons (pe_lst (pa_cons (pe_call (ok_l_cycle T) (hr.mono (by decide)) rfl T.m_l_cycle T.F_l_cycle.kp (b_l_cycle T) .nil pass0 (pa_cons (pv 3) pa_nil)) (pa_cons (pe_call (ok_l_cycle T) (hr.mono (by decide)) rfl T.m_l_cycle T.F_l_cycle.kp (b_l_cycle T) .nil pass0 (pa_cons (pv 4) pa_nil)) pa_nil))) (pa_cons pe_non pa_nil)) (by rfl))
      (pss_cons (ps_setLc (i := 7) (own := [("_law_cycle_here", 8)]) (g := gName 8) (te := (tOp _ (tCB (fun xs H Q => ∃ p ys, xs = [.ref p] ∧ (SqL K H p ys ∨ SqT K H p ys) ∧ Q (.int ys.length) H) (tCons (tOp (rIxT K) (tVar 8) (tC _)) tNil)) (tOp (rIxT K) (tVar 8) (tC _)))) (tt := tYes) rfl sc_law.nd rfl rfl (sw_true rfl rfl rfl (by decide +kernel)) (pi_list (pv 5)) (blkOk_by (own := [("_law_cycle_here", 8)]) (N := ["_law_script", "_law_d", "_law_step", "_law_first", "_law_second", "_law_cycles", "_law_expected", "_law_sizes", "_law_cycle_here", "_law_span", "_law_tick_here", "_law_states", "_law_texts", "_law_longer", "_law_late", "_law_one"]) (sc := (defScope s_law)) (by decide +kernel)) (fun _ _ _ _ _ => (pg_name (i := 8) sc_law.nd rfl (Or.inl rfl))) (fun _ _ _ _ _ => pts_nil) (fun _ _ _ _ _ => by exact (pe_op op_sub (pe_callB call_len_seq (by rfl) T.z_len (by decide +kernel) (pa_cons (pe_ix ix_tup (pv 8) pe_int (fun _ _ => rfl)) pa_nil)) (pe_ix ix_tup (pv 8) pe_int (fun _ _ => rfl)))))
      (pss_cons (ps_set (i := 9) sc_law.nd rfl (Or.inl rfl) (pe_ix ix_list (pv 7) pe_int (fun _ _ => rfl)))
      (pss_cons (ps_while PassesOwn.never (pt_cmpR op_gt (pe_op op_mod (pv 9) (pe_ix ix_list (pv 7) pe_int (fun _ _ => rfl))) pe_int (nomark _)) (pss_one (ps_set (i := 9) sc_law.nd rfl (Or.inl rfl) (pe_op op_add (pv 9) (pe_ix ix_list (pv 7) pe_int (fun _ _ => rfl))))))
      (pss_cons (ps_if (pt_cmpR op_gt (pv 9) pe_int (nomark _)) (pss_one ps_continue) pss_nil)
      (pss_cons (ps_for PassesOwn.never rfl (pi_range1 (by rfl) T.z_range (pa_cons (pe_op op_add (pe_callB (call_max2 rfl) (by rfl) T.z_max (by decide +kernel) (pa_cons (pe_ix ix_tup (pe_ix ix_list (pv 5) pe_int (fun _ _ => rfl)) pe_int (fun _ _ => rfl)) (pa_cons (pe_ix ix_tup (pe_ix ix_list (pv 5) pe_int (fun _ _ => rfl)) pe_int (fun _ _ => rfl)) pa_nil))) (pv 9)) pa_nil)) (pg_name (i := 10) sc_law.nd rfl (Or.inr rfl)) (pss_cons (ps_setLc (i := 11) (own := [("_law_cycle_here", 8)]) (g := gName 8) (te := (tOp (rIxT K) (tOp (rIxL K) (tOp (rIxT K) (tVar 8) (tC _)) (tCall _ [] E0 (tCons (tVar 8) (tCons (tVar 10) tNil)))) (tC _))) (tt := tYes) rfl sc_law.nd rfl rfl (sw_true rfl rfl rfl (by decide +kernel)) (pi_list (pv 5)) (blkOk_by (own := [("_law_cycle_here", 8)]) (N := ["_law_script", "_law_d", "_law_step", "_law_first", "_law_second", "_law_cycles", "_law_expected", "_law_sizes", "_law_cycle_here", "_law_span", "_law_tick_here", "_law_states", "_law_texts", "_law_longer", "_law_late", "_law_one"]) (sc := (defScope s_law)) (by decide +kernel)) (fun _ _ _ _ _ => (pg_name (i := 8) sc_law.nd rfl (Or.inl rfl))) (fun _ _ _ _ _ => pts_nil) (fun _ _ _ _ _ => by exact (pe_ix ix_tup (pe_ix ix_list (pe_ix ix_tup (pv 8) pe_int (fun _ _ => rfl)) (pe_call (ok_l_place T) (hr.mono (by decide)) rfl T.m_l_place T.F_l_place.kp (b_l_place T) .nil pass0 (pa_cons (pv 8) (pa_cons (pv 10) pa_nil))) (fun _ _ => rfl)) pe_int (fun _ _ => rfl))))
      (pss_one (ps_if (PW.pt (pw_and (pt_cmpR op_isN (pv 6) pe_non (nomark _)) (pw_and1 (pt_cmpR (op_neD hr.units) (pe_lst (pa_cons (pe_ix ix_list (pe_ix ix_list (pv 11) pe_int (fun _ _ => rfl)) pe_int (fun _ _ => rfl)) (pa_cons (pe_ix ix_list (pe_ix ix_list (pv 11) pe_int (fun _ _ => rfl)) pe_int (fun _ _ => rfl)) pa_nil))) (pe_lst (pa_cons (pe_ix ix_list (pe_ix ix_list (pv 11) pe_int (fun _ _ => rfl)) pe_int (fun _ _ => rfl)) (pa_cons (pe_ix ix_list (pe_ix ix_list (pv 11) pe_int (fun _ _ => rfl)) pe_int (fun _ _ => rfl)) pa_nil))) (nomark _))))) (pss_one (ps_set (i := 6) sc_law.nd rfl (Or.inl rfl) (pv 10))) pss_nil))))
      (pss_cons (ps_set (i := 12) sc_law.nd rfl (Or.inr rfl) (pe_lst (pa_cons (pe_call (ok_l_text T) (hr.mono (by decide)) rfl T.m_l_text T.F_l_text.kp (b_l_text T) .nil pass0 (pa_cons (pv 3) pa_nil)) (pa_cons (pe_call (ok_l_text T) (hr.mono (by decide)) rfl T.m_l_text T.F_l_text.kp (b_l_text T) .nil pass0 (pa_cons (pv 4) pa_nil)) pa_nil))))
      (pss_cons (ps_if (pt_not (pt_val (pe_call (ok_l_equal T 5) (hr.mono (by decide)) rfl T.m_l_equal T.F_l_equal.kp (b_l_equal T) .nil pass0 (pa_cons (pe_call (ok_first_difference T) (hr.mono (by decide)) rfl T.m_first_difference T.F_first_difference.kp (b_first_difference T) .nil pass0 (pa_cons (pe_ix ix_list (pv 12) pe_int (fun _ _ => rfl)) (pa_cons (pe_ix ix_list (pv 12) pe_int (fun _ _ => rfl)) pa_nil))) (pa_cons (pv 6) pa_nil))))) (pss_one (ps_ret pe_bl)) pss_nil)
      (pss_cons (ps_if (PW.pt (pw_or (pt_not (pt_val (pe_call (ok_l_equal T 5) (hr.mono (by decide)) rfl T.m_l_equal T.F_l_equal.kp (b_l_equal T) .nil pass0 (pa_cons (pe_call (ok_first_difference T) (hr.mono (by decide)) rfl T.m_first_difference T.F_first_difference.kp (b_first_difference T) .nil pass0 (pa_cons (pe_ix ix_list (pv 12) pe_int (fun _ _ => rfl)) (pa_cons (pe_ix ix_list (pv 12) pe_int (fun _ _ => rfl)) pa_nil))) (pa_cons (pv 6) pa_nil))))) (pw_or1 (pt_not (pt_val (pe_call (ok_l_checks T) (hr.mono (by decide)) rfl T.m_l_checks T.F_l_checks.kp (b_l_checks T) .nil pass0 (pa_cons (pv 1) (pa_cons (pe_ix ix_list (pv 12) pe_int (fun _ _ => rfl)) (pa_cons (pe_ix ix_list (pv 5) pe_int (fun _ _ => rfl)) pa_nil))))))))) (pss_one (ps_ret pe_bl)) pss_nil)
      (pss_cons (ps_set (i := 13) sc_law.nd rfl (Or.inr rfl) (pe_op op_add_str (pe_op op_add_str pe_str (pe_op op_mulS pe_str (pe_op op_add pe_int (pe_op op_mod (pe_op op_sub (pe_callB call_len_seq (by rfl) T.z_len (by decide +kernel) (pa_cons (pe_ix ix_tup (pv 3) pe_int (fun _ _ => rfl)) pa_nil)) pe_int) pe_int)))) pe_str))
      (pss_one (ps_if (pt_cmpR (op_neD hr.units) (pe_err10 T TB rfl rfl rfl rfl rfl rfl (hr.mono (by decide))) (pe_tup (pa_cons pe_str (pa_cons pe_int pa_nil))) (nomark _)) (pss_one (ps_ret pe_bl)) pss_nil))))))))))))))))
      (pss_cons (ps_set (i := 14) sc_law.nd rfl (Or.inl rfl) (pe_lst (pa_cons pe_str (pa_cons pe_str pa_nil))))
      (pss_cons (ps_setLc (i := 14) (own := [("_law_one", 15)]) (g := gName 15) (tt := tYes) rfl sc_law.nd rfl rfl (sw_true rfl rfl rfl (by decide +kernel)) (pi_list (pv 14)) (blkOk_by (own := [("_law_one", 15)]) (N := ["_law_script", "_law_d", "_law_step", "_law_first", "_law_second", "_law_cycles", "_law_expected", "_law_sizes", "_law_cycle_here", "_law_span", "_law_tick_here", "_law_states", "_law_texts", "_law_longer", "_law_late", "_law_one"]) (sc := (defScope s_law)) (by decide +kernel)) (fun _ _ _ _ _ => (pg_name (i := 15) sc_law.nd rfl (Or.inl rfl))) (fun _ _ _ _ _ => pts_nil) (fun _ _ _ _ _ => by exact (pe_op op_add_str (pe_op op_add_str pe_str (pv 15)) pe_str)))
      (pss_one (ps_ret (pe_cmpR op_eq (pe_call (ok_first_difference T) (hr.mono (by decide)) rfl T.m_first_difference T.F_first_difference.kp (b_first_difference T) .nil pass0 (pa_cons (pe_ix ix_list (pv 14) pe_int (fun _ _ => rfl)) (pa_cons (pe_ix ix_list (pv 14) pe_int (fun _ _ => rfl)) pa_nil))) pe_int (nomark _)))))))), ?_⟩
    refine ⟨_, rfl, sc, ns, 10, rfl, hsc, hns, by decide, fun H1 d ds s1 d0 hd hsrc => ?_⟩
    have N0 : NowX a d (fun _ => none) H1 := ⟨⟨(fun _ _ e => nomatch e), rfl, ds, hd, hsrc⟩, hTab.ext s1, fun _ _ => rfl⟩
    refine ⟨3, rfl, by decide, by decide, for_range (lo := 0) (n := 3) (fun i σ H' => ∃ (v2 v3 v4 v5 v6 v7 v8 v9 v10 v11 v12 v13 v14 v15 : Option V), σ = [some (.ref sc), some (.ref d), v2, v3, v4, v5, v6, v7, v8, v9, v10, v11, v12, v13, v14, v15] ∧ NowX a d (fun _ => none) H') ?_ ?_ ?_⟩
    · exact ⟨none, none, none, none, none, none, none, none, none, none, none, none, none, none, rfl, N0⟩
    · rintro i σ H2 hi ⟨v2, v3, v4, v5, v6, v7, v8, v9, v10, v11, v12, v13, v14, v15, rfl, NT⟩
      dsimp only [gName]
      refine ⟨_, rfl, draw_plan NT.now.at (by decide) (by decide) fun G5 H5 v x B5 B5' hx hrn hx8 hD hp6 hq6 => ?_⟩
      obtain ⟨ci, cn, told, hcn⟩ := hrn.told hx
      have h9 : ∀ k, k < 2 → (stepsOf x k).length ≤ 9 := fun k hk => by
        match k, hk with
        | 0, _ => exact Nat.le_trans hp6 (by decide)
        | 1, _ => exact Nat.le_trans hq6 (by decide)
      refine ⟨_, rfl, _, rfl, ⟨⟨d, G5, v, x, rfl, hD, hx, h9, B5.now, fun G6 H6 u C6 ⟨z, hz, hDz, hzl⟩ => ?_⟩⟩⟩
      have B6 := B5.trans C6
      dsimp only [gName]
      refine seq_restσ (fun σ H' => ∃ (G7 : Hp) (y : Pl) (vy : V) (i2 n2 : Nat), σ = [some (.ref sc), some (.ref d), some (.int (0 + (i : Int))), some v, some vy, v5, v6, v7, v8, v9, v10, v11, v12, v13, v14, v15] ∧ At d (fun _ => none) H2 G7 H' ∧ Same G5 G7 ∧ Dp K G7 vy y.D ∧ y.Ok ∧ Told (textS y) y i2 n2 ∧ n2 < 4000 ∧ y.shelf.length = x.shelf.length) ?rest (fun rest => ?here)
      case here =>
        refine ⟨_, rfl, ⟨⟨G6, u, z, rfl, hDz, hz, B6.now.s, fun G7 H7 rv x7 s7 ⟨r, er, hrep⟩ => ?_⟩⟩⟩
        subst er
        have B7 := B6.pure x7 s7
        refine ⟨_, rfl, ?_⟩
        cases r with
        | true =>
          obtain ⟨i2, n2, c2, hn2⟩ := hrep rfl
          exact ite_t rfl ⟨_, rfl, rest _ _ ⟨G7, z, u, i2, n2, rfl, B7, C6.g.trans x7.g, Dp.mono x7.g _ _ hDz, hz, ⟨loads_text hz, hz, c2, by omega⟩, hn2, hzl⟩⟩
        | false => exact ite_f rfl ⟨_, rfl, rest _ _ ⟨G7, x, v, ci, cn, rfl, B7, C6.g.trans x7.g, Dp.mono (C6.g.trans x7.g) _ _ hD, hx, told, hcn, rfl⟩⟩
      rintro σ H7 ⟨G7, y, vy, i2, n2, rfl, B7, S7, hDy, hy, told2, hn2, hyl⟩
      have lt1 := told.cy.lt
      have lt2 := told2.cy.lt
      -- the cycles
      refine ⟨_, rfl, ⟨⟨G7, v, x, ci, cn, rfl, Dp.mono S7 _ _ hD, hx, told.cy, by omega, B7.now.s, fun G8 H8 c0 x8 s8 hc0 => ?_⟩⟩⟩
      have B8 := B7.pure x8 s8
      refine ⟨_, rfl, ⟨⟨G8, vy, y, i2, n2, rfl, Dp.mono x8.g _ _ hDy, hy, told2.cy, by omega, B8.now.s, fun G9 H9 c1 x9 s9 hc1 => ?_⟩⟩⟩
      have B9 := B8.pure x9 s9
      have hc0 := Dp.mono x9.g _ _ hc0
      have hc1 : Dp K G9 c1 _ := hc1
      have hc0 : Dp K G9 c0 _ := hc0
      refine ⟨(by show 2 ≤ sizeLine; decide), fun pc hpc => ⟨_, _, rfl, ?_⟩⟩
      dsimp only
      have B10 := B9.new hpc (.lst [c0, c1])
      have g10 := same_new (o := .lst [c0, c1]) (Same.free B9.now.s hpc)
      have pG : (upd G9 pc (.lst [c0, c1])) pc = some (.lst [c0, c1]) := upd_same
      have hc0' := hc0
      have hc1' := hc1
      have hc0 := Dp.mono g10 _ _ hc0
      have hc1 := Dp.mono g10 _ _ hc1
      have gg10 : Same G5 (upd G9 pc (.lst [c0, c1])) := ((S7.trans x8.g).trans x9.g).trans g10
      have gy10 : Same G7 (upd G9 pc (.lst [c0, c1])) := (x8.g.trans x9.g).trans g10
      revert B10 pG hc0 hc1 gg10 gy10
      clear hc0' hc1' g10
      generalize upd G9 pc (.lst [c0, c1]) = G10
      generalize upd H9 pc (.lst [c0, c1]) = H10
      intro B10 pG hc0 hc1 gg10 gy10
      obtain ⟨tc0, fl0, xs0, rfl, htc0, hfl0, hln0, day0⟩ := cyc_open told.cy hc0
      obtain ⟨tc1, fl1, xs1, rfl, htc1, hfl1, hln1, day1⟩ := cyc_open told2.cy hc1
      -- the sizes
      refine ⟨_, rfl, pc, rfl, ⟨_, B10.now.s.seq (SqL.of pG)⟩, fun D hD' => ?_⟩
      have D0 : H2 D = none := B10.ext.k _ hD'
      have DG := B10.ext.new_out hD'
      have Dd := B10.ne hD'
      refine lc_list (K := K) (a := pc) (xs := [.ref tc0, .ref tc1]) (fun m H' => At d (fun _ => none) H2 G10 H' ∧ H' D = some (.lst (([V.int ((cn - ci : Nat) : Int), V.int ((n2 - i2 : Nat) : Int)]).take m))) ⟨B10.lay hD' _, upd_same⟩ (fun m H' _ ⟨h, _⟩ => h.now.s.seq (SqL.of pG)) ?_ ?_
      · rintro m z H' hz ⟨C, hDl⟩
        have s := C.now.s
        match m, hz with
        | 0, hz =>
          cases hz
          refine ⟨rfl, _, rfl, tc0, _, _, .ref fl0, rfl, rfl, Same.seqT s htc0, at_of (j := 0) rfl rfl, fl0, _, rfl, .inl (s.seq hfl0), _, rfl, tc0, _, _, .int ci, rfl, rfl, Same.seqT s htc0, at_of (j := 1) rfl rfl, _, _, rfl, rfl, _, hDl, smaller 2 (by simp) (by decide), C.put D0 DG Dd _, ?_⟩
          rw [upd_same, hln0]
          dsimp only
          have e : (cn : Int) - (ci : Int) = ((cn - ci : Nat) : Int) := by omega
          rw [e]
          rfl
        | 1, hz =>
          cases hz
          refine ⟨rfl, _, rfl, tc1, _, _, .ref fl1, rfl, rfl, Same.seqT s htc1, at_of (j := 0) rfl rfl, fl1, _, rfl, .inl (s.seq hfl1), _, rfl, tc1, _, _, .int i2, rfl, rfl, Same.seqT s htc1, at_of (j := 1) rfl rfl, _, _, rfl, rfl, _, hDl, smaller 2 (by simp) (by decide), C.put D0 DG Dd _, ?_⟩
          rw [upd_same, hln1]
          dsimp only
          have e : (n2 : Int) - (i2 : Int) = ((n2 - i2 : Nat) : Int) := by omega
          rw [e]
          rfl
      rintro H11 ⟨C11, hD11⟩
      have hD11 : H11 D = some (.lst [V.int ((cn - ci : Nat) : Int), V.int ((n2 - i2 : Nat) : Int)]) := hD11
      have C12 := C11.freeze D0 hD11 Dd
      have g12 := same_new (H := G10) (p := D) (o := .lst [V.int ((cn - ci : Nat) : Int), V.int ((n2 - i2 : Nat) : Int)]) DG
      have hD12 : (upd G10 D (.lst [V.int ((cn - ci : Nat) : Int), V.int ((n2 - i2 : Nat) : Int)])) D = some (.lst [V.int ((cn - ci : Nat) : Int), V.int ((n2 - i2 : Nat) : Int)]) := upd_same
      revert C12 g12 hD12
      generalize upd G10 D (.lst [V.int ((cn - ci : Nat) : Int), V.int ((n2 - i2 : Nat) : Int)]) = G12
      intro C12 g12 hD12
      have sq12 := C12.now.s.seq (K := K) (SqL.of hD12)
      -- the span
      refine ⟨_, rfl, D, _, _, .int ((cn - ci : Nat) : Int), rfl, rfl, sq12, at_of (j := 0) rfl rfl, ?_⟩
      dsimp only [gName]
      refine ⟨fun m σ H' => ∃ kq : Nat, 1 ≤ kq ∧ kq ≤ n2 - i2 ∧ m = n2 - i2 - kq ∧ σ = [some (.ref sc), some (.ref d), some (.int (0 + (i : Int))), some v, some vy, some (.ref pc), some .non, some (.ref D), v8, some (.int ((kq * (cn - ci) : Nat) : Int)), v10, v11, v12, v13, v14, v15] ∧ H' = H11, ⟨_, 1, Nat.le_refl _, by omega, rfl, ?_, rfl⟩, ?_⟩
      · rw [Nat.one_mul]; rfl
      rintro m σ H' ⟨kq, hk1, hk2, hm, rfl, eH⟩
      subst eH
      refine ⟨_, rfl, _, rfl, D, _, _, .int ((n2 - i2 : Nat) : Int), rfl, rfl, sq12, at_of (j := 1) rfl rfl, ?_⟩
      refine ⟨_, _, rfl, rfl, (by show (0 : Int) < ((n2 - i2 : Nat) : Int); omega), ?_⟩
      have em : ((kq * (cn - ci) : Nat) : Int) % ((n2 - i2 : Nat) : Int) = ((kq * (cn - ci) % (n2 - i2) : Nat) : Int) := (Int.natCast_emod _ _).symm
      dsimp only
      rw [em]
      refine ⟨_, _, rfl, rfl, _, rfl, ?_⟩
      by_cases hd : (n2 - i2) ∣ kq * (cn - ci)
      · refine ite_f ?_ ?_
        · rw [Nat.mod_eq_zero_of_dvd hd]; rfl
        have hM0 : 0 < kq * (cn - ci) := Nat.mul_pos hk1 (by omega)
        have hMx : (cn - ci) ∣ kq * (cn - ci) := Nat.dvd_mul_left _ _
        have hMl : kq * (cn - ci) ≤ 4000 * 4000 := Nat.mul_le_mul (by omega) (by omega)
        clear em
        revert hd hM0 hMx hMl
        generalize kq * (cn - ci) = M
        intro hd hM0 hMx hMl
        refine ⟨_, rfl, _, _, rfl, rfl, _, rfl, ite_b (fun _ => ⟨_, _, _, _, _, _, _, _, _, _, _, _, _, _, rfl, (NT.of_at C12).clear⟩) (fun hle => ?_)⟩
        have hle : M ≤ 20000 := by have := of_decide_eq_false hle; omega
        have s12 := C12.now.s
        have s10 := g12.trans s12
        refine ⟨_, rfl, pc, _, _, .ref tc0, rfl, rfl, s10.seq (SqL.of pG), at_of (j := 0) rfl rfl, tc0, _, _, .int ci, rfl, rfl, Same.seqT s10 htc0, at_of (j := 1) rfl rfl, ?_⟩
        refine ⟨_, rfl, pc, _, _, .ref tc1, rfl, rfl, s10.seq (SqL.of pG), at_of (j := 1) rfl rfl, tc1, _, _, .int i2, rfl, rfl, Same.seqT s10 htc1, at_of (j := 1) rfl rfl, ?_⟩
        refine ⟨_, _, rfl, _, rfl, _, _, rfl, rfl, max ci i2 + M, ?_, by omega, by omega, ?_⟩
        · have e : (if (i2 : Int) > (ci : Int) then (i2 : Int) else (ci : Int)) = ((max ci i2 : Nat) : Int) := by split <;> omega
          show [V.int ((if (i2 : Int) > (ci : Int) then (i2 : Int) else (ci : Int)) + (M : Int))] = _
          rw [e]
        refine for_range (lo := 0) (n := max ci i2 + M) (fun t σ H' => ∃ (w8 w10 w11 : Option V), σ = [some (.ref sc), some (.ref d), some (.int (0 + (i : Int))), some v, some vy, some (.ref pc), some (optV ((List.range t).find? (neB x y))), some (.ref D), w8, some (.int (M : Int)), w10, w11, v12, v13, v14, v15] ∧ At d (fun _ => none) H2 G12 H') ?_ ?_ ?_
        · exact ⟨v8, v10, v11, rfl, C12⟩
        · rintro t σ H3 ht ⟨w8, w10, w11, rfl, C3⟩
          have et : (0 : Int) + (t : Int) = ((t : Nat) : Int) := by omega
          rw [et]
          dsimp only [gName]
          obtain ⟨tj0, wv0, sl0, a0, a1, a2, a3, hat0, htj0, hsl0, dc0, dh0⟩ := day0 t
          obtain ⟨tj1, wv1, sl1, b0, b1, b2, b3, hat1, htj1, hsl1, dc1, dh1⟩ := day1 t
          have s3 := g12.trans C3.now.s
          refine ⟨_, rfl, pc, rfl, ⟨_, s3.seq (SqL.of pG)⟩, fun D2 hD2' => ?_⟩
          have D20 : H2 D2 = none := C3.ext.k _ hD2'
          have D2G := Same.free C3.now.s hD2'
          have D2d := C3.ne hD2'
          refine lc_list (K := K) (a := pc) (xs := [.ref tc0, .ref tc1]) (fun m H' => At d (fun _ => none) H2 G12 H' ∧ H' D2 = some (.lst (([V.ref sl0, V.ref sl1]).take m))) ⟨C3.lay hD2' _, upd_same⟩ (fun m H' _ ⟨h, _⟩ => (g12.trans h.now.s).seq (SqL.of pG)) ?_ ?_
          · rintro m z H' hz ⟨C, hDl⟩
            have s := g12.trans C.now.s
            match m, hz with
            | 0, hz =>
              cases hz
              refine ⟨rfl, _, rfl, tc0, _, _, .ref fl0, rfl, rfl, Same.seqT s htc0, at_of (j := 0) rfl rfl, _, rfl, _, rfl, ⟨⟨G10, .ref tc0, _, ci, cn, t, rfl, hc0, by rw [List.length_map, List.length_range], lt1, s, ?_⟩⟩⟩
              exact ⟨fl0, _, _, .ref tj0, rfl, rfl, s.seq hfl0, at_of (j := placeP ci cn t) rfl hat0, tj0, _, _, .ref sl0, rfl, rfl, Same.seqT s htj0, at_of (j := 1) rfl rfl, _, hDl, smaller 2 (by simp) (by decide), C.put D20 D2G D2d _, by rw [upd_same]; rfl⟩
            | 1, hz =>
              cases hz
              refine ⟨rfl, _, rfl, tc1, _, _, .ref fl1, rfl, rfl, Same.seqT s htc1, at_of (j := 0) rfl rfl, _, rfl, _, rfl, ⟨⟨G10, .ref tc1, _, i2, n2, t, rfl, hc1, by rw [List.length_map, List.length_range], lt2, s, ?_⟩⟩⟩
              exact ⟨fl1, _, _, .ref tj1, rfl, rfl, s.seq hfl1, at_of (j := placeP i2 n2 t) rfl hat1, tj1, _, _, .ref sl1, rfl, rfl, Same.seqT s htj1, at_of (j := 1) rfl rfl, _, hDl, smaller 2 (by simp) (by decide), C.put D20 D2G D2d _, by rw [upd_same]; rfl⟩
          rintro H4 ⟨C4, hD4⟩
          have hD4 : H4 D2 = some (.lst [.ref sl0, .ref sl1]) := hD4
          have s4 := g12.trans C4.now.s
          have fm := find_more (neB x y) t
          refine ⟨_, rfl, rfl, _, rfl, ?_⟩
          revert fm
          generalize (List.range t).find? (neB x y) = o
          intro fm
          cases o with
          | some k =>
            refine ite_f rfl (ite_f rfl ⟨w8, some (.int (t : Nat)), some (.ref D2), ?_, C4⟩)
            rw [fm]
            rfl
          | none =>
            refine ite_t rfl ⟨_, rfl, D2, _, _, .ref sl0, rfl, rfl, SqL.of hD4, at_of (j := 0) rfl rfl, sl0, _, _, a0, rfl, rfl, s4.seq hsl0, at_of (j := 0) rfl rfl, _, rfl, D2, _, _, .ref sl0, rfl, rfl, SqL.of hD4, at_of (j := 0) rfl rfl, sl0, _, _, a3, rfl, rfl, s4.seq hsl0, at_of (j := 3) rfl rfl, (by show 2 ≤ sizeLine; decide), fun p1 hp1 => ?_⟩
            have C5 := C4.lay hp1 (.lst [a0, a3])
            have s5 := g12.trans C5.now.s
            have hD5 : (upd H4 p1 (.lst [a0, a3])) D2 = some (.lst [.ref sl0, .ref sl1]) := by rw [upd_ne (ne_of_none hD4 hp1)]; exact hD4
            refine ⟨_, rfl, D2, _, _, .ref sl1, rfl, rfl, SqL.of hD5, at_of (j := 1) rfl rfl, sl1, _, _, b0, rfl, rfl, s5.seq hsl1, at_of (j := 0) rfl rfl, _, rfl, D2, _, _, .ref sl1, rfl, rfl, SqL.of hD5, at_of (j := 1) rfl rfl, sl1, _, _, b3, rfl, rfl, s5.seq hsl1, at_of (j := 3) rfl rfl, (by show 2 ≤ sizeLine; decide), fun p2 hp2 => ?_⟩
            have C6 := C5.lay hp2 (.lst [b0, b3])
            have s6 := g12.trans C6.now.s
            refine ⟨lsD x t, lsD y t, .lst (SqL.of (by rw [upd_ne (ne_of_none upd_same hp2), upd_same])) (.cons (Dp.mono s6 _ _ dc0) (.cons (Dp.mono s6 _ _ dh0) .nil)), .lst (SqL.of upd_same) (.cons (Dp.mono s6 _ _ dc1) (.cons (Dp.mono s6 _ _ dh1) .nil)), (lay_ls x t).shaped (by decide), (lay_ls y t).shaped (by decide), _, rfl, ?_⟩
            rw [neB_ls]
            refine ite_b (fun c => ⟨_, rfl, w8, some (.int (t : Nat)), some (.ref D2), ?_, C6⟩) (fun c => ⟨w8, some (.int (t : Nat)), some (.ref D2), ?_, C6⟩)
            · rw [fm]
              dsimp only
              rw [if_pos c]
              rfl
            · rw [fm]
              dsimp only
              rw [c]
              rfl
        rintro σ H13 ⟨w8, w10, w11, rfl, C13⟩
        have ed : (List.range (max ci i2 + M)).find? (neB x y) = diffP x y (max ci i2 + M) := (diff_eq x y _).symm
        rw [ed]
        obtain ⟨o, ho, hFD⟩ : ∃ o, diffP x y (max ci i2 + M) = o ∧ FD x y o := ⟨_, rfl, diff_FD told.cy told2.cy hMx hd hM0⟩
        rw [ho]
        -- the texts
        have gx12 := gg10.trans g12
        have gy12 := gy10.trans g12
        refine ⟨_, rfl, ⟨⟨G12, v, x, rfl, C13.now.s, Dp.mono gx12 _ _ hD, hx, fun H14 s14 => ?_⟩⟩⟩
        have C14 := C13.pure (Ext.ofSame C13.now.s s14) s14
        refine ⟨_, rfl, ⟨⟨G12, vy, y, rfl, C14.now.s, Dp.mono gy12 _ _ hDy, hy, fun H15 s15 => ?_⟩⟩⟩
        have C15 := C14.pure (Ext.ofSame C14.now.s s15) s15
        refine ⟨(by show 2 ≤ sizeLine; decide), fun tl htl => ?_⟩
        dsimp only [gName]
        have C16 := C15.new htl (.lst [.str (textS x), .str (textS y)])
        have g16 := same_new (o := .lst [V.str (textS x), .str (textS y)]) (Same.free C15.now.s htl)
        have tG : (upd G12 tl (.lst [.str (textS x), .str (textS y)])) tl = some (.lst [.str (textS x), .str (textS y)]) := upd_same
        revert C16 g16 tG
        generalize upd G12 tl (.lst [.str (textS x), .str (textS y)]) = G16
        generalize upd H15 tl (.lst [.str (textS x), .str (textS y)]) = H16
        intro C16 g16 tG
        -- the first difference
        refine ⟨_, rfl, tl, _, _, .str (textS x), rfl, rfl, C16.now.s.seq (SqL.of tG), at_of (j := 0) rfl rfl, _, rfl, tl, _, _, .str (textS y), rfl, rfl, C16.now.s.seq (SqL.of tG), at_of (j := 1) rfl rfl, ?_⟩
        refine ⟨⟨textS x, textS y, G16, x, y, ci, cn, i2, n2, rfl, told, told2, hyl.symm, C16.now.s, fun M1 h1 h2 h0 G17 H17 x17 s17 => ?_⟩⟩
        have C17 := C16.pure x17 s17
        rw [FD_uniq (diff_FD told.cy told2.cy h1 h2 h0) hFD]
        refine ⟨_, rfl, equal_go (optV_D o) (optV_D o) (fine_optX o) fun H18 s18 => ⟨_, rfl, ite_f rfl ?_⟩⟩
        have C18 := C17.pure (Ext.ofSame C17.now.s s18) s18
        have tG := x17.g _ _ tG
        have g17 := g16.trans x17.g
        clear h1 h2 h0 M1
        -- the other way about
        refine ⟨_, rfl, tl, _, _, .str (textS y), rfl, rfl, C18.now.s.seq (SqL.of tG), at_of (j := 1) rfl rfl, _, rfl, tl, _, _, .str (textS x), rfl, rfl, C18.now.s.seq (SqL.of tG), at_of (j := 0) rfl rfl, ?_⟩
        refine ⟨⟨textS y, textS x, G17, y, x, i2, n2, ci, cn, rfl, told2, told, hyl, C18.now.s, fun M1 h1 h2 h0 G19 H19 x19 s19 => ?_⟩⟩
        have C19 := C18.pure x19 s19
        rw [FD_uniq (FD_comm (diff_FD told2.cy told.cy h1 h2 h0)) hFD]
        refine ⟨_, rfl, equal_go (optV_D o) (optV_D o) (fine_optX o) fun H20 s20 => ⟨_, rfl, ite_f rfl ?_⟩⟩
        have C20 := C19.pure (Ext.ofSame C19.now.s s20) s20
        have tG := x19.g _ _ tG
        have g19 := g17.trans x19.g
        clear h1 h2 h0 M1
        -- the logs
        have pG20 := g19 _ _ (g12 _ _ pG)
        refine ⟨_, rfl, _, rfl, tl, _, _, .str (textS x), rfl, rfl, C20.now.s.seq (SqL.of tG), at_of (j := 0) rfl rfl, _, rfl, pc, _, _, .ref tc0, rfl, rfl, C20.now.s.seq (SqL.of pG20), at_of (j := 0) rfl rfl, ?_⟩
        refine ⟨⟨d, G19, textS x, .ref tc0, x, ci, cn, rfl, told, Dp.mono (g12.trans g19) _ _ hc0, C20.now, fun G21 H21 u A21 eu => ?_⟩⟩
        subst eu
        have C21 := C20.trans A21
        have tG := A21.g _ _ tG
        refine ⟨_, rfl, ite_f rfl ?_⟩
        have hD21 := Dp.mono (((gx12.trans g19).trans A21.g).trans C21.now.s) _ _ hD
        -- the longer shelf
        obtain ⟨va, ys, rfl, hva, hys⟩ := Dp.tup_inv hD21
        obtain ⟨sv, r1, rfl, hsv, hys⟩ := DpAll.cons_inv hys
        obtain ⟨sa, zs, rfl, hsa, hzs⟩ := Dp.tup_inv hsv
        have hzl : zs.length = x.shelf.length := by rw [DpAll.len hzs, List.length_map]
        have c3 := hx.c3
        have e1 : ((zs.length : Nat) : Int) - 2 = ((x.shelf.length - 2 : Nat) : Int) := by rw [hzl]; omega
        have e2 : ((x.shelf.length - 2 : Nat) : Int) % 10 = ((x.shelf.length - 2 : Nat) : Int) := by omega
        have e3 : (3 : Int) + ((x.shelf.length - 2 : Nat) : Int) = ((x.shelf.length + 1 : Nat) : Int) := by omega
        obtain ⟨L1, L2⟩ := long_len (x.shelf.length + 1) (by omega)
        refine ⟨_, rfl, va, _, _, .ref sa, rfl, rfl, hva, at_of (j := 0) rfl rfl, sa, _, rfl, .inr hsa, _, _, rfl, rfl, ?_⟩
        dsimp only
        rw [e1]
        refine ⟨_, _, rfl, rfl, (by show (0 : Int) < 10; decide), ?_⟩
        dsimp only
        rw [e2]
        refine ⟨_, _, rfl, rfl, ?_⟩
        dsimp only
        rw [e3]
        refine ⟨_, x.shelf.length + 1, rfl, rfl, by omega, by omega, (by decide), (by decide), ?_⟩
        have L3 : (Str.ofString "shelf").length = 5 := by decide
        have L4 : (Str.ofString "; robot 0 { wait; } robot 1 { wait; }").length = 37 := by decide
        refine ⟨_, _, rfl, rfl, by rw [sizeLine_eq]; omega, _, _, rfl, rfl, by rw [sizeLine_eq]; omega, ?_⟩
        have N21 := NT.of_at C21
        refine ⟨tl, textS x, longS (x.shelf.length + 1), [.str (textS y)], x, longX (x.shelf.length + 1), rfl, C21.now.s _ _ tG, rfl, told.ld, hx, loads_long (by omega) (by omega), longX_ok (by omega) (by omega), ?_, N21.tb, fun H22 p e22 T22 hp => ?_⟩
        · show x.shelf.length ≠ (List.replicate (x.shelf.length + 1) 0).length
          rw [List.length_replicate]
          omega
        refine ⟨(by show 2 ≤ sizeLine; decide), fun p2 hp2 => ?_⟩
        have hp' : (upd H22 p2 (.tup [.str "different", .int 0])) p = some (.tup [.str "different", .int 0]) := by rw [upd_ne (ne_of_none hp hp2)]; exact hp
        refine ⟨.tuple [.str "different", .int 0], .tuple [.str "different", .int 0], .tup (SqT.of hp') (.cons (.str _) (.cons (.int _) .nil)), .tup (SqT.of upd_same) (.cons (.str _) (.cons (.int _) .nil)), by decide +kernel, by decide +kernel, _, rfl, ite_f (by decide +kernel) ?_⟩
        obtain ⟨ds', hd', hs'⟩ := N21.now.x
        have hd22 := e22 _ _ hd' (fun _ z => nomatch z)
        exact ⟨_, _, _, _, _, _, _, _, _, _, _, _, _, _, rfl, ⟨⟨(fun _ _ e => nomatch e), rfl, ds', by rw [upd_ne (ne_of_none hd22 hp2)]; exact hd22, hs'⟩, T22.ext fun b o e => by rw [upd_ne (ne_of_none e hp2)]; exact e, fun _ _ => rfl⟩⟩
      · refine ite_t ?_ ?_
        · have : kq * (cn - ci) % (n2 - i2) ≠ 0 := fun e => hd (Nat.dvd_of_mod_eq_zero e)
          exact decide_eq_true (by omega)
        refine ⟨fun σ Hn => ∃ kq : Nat, 1 ≤ kq ∧ kq ≤ n2 - i2 ∧ m > n2 - i2 - kq ∧ σ = [some (.ref sc), some (.ref d), some (.int (0 + (i : Int))), some v, some vy, some (.ref pc), some .non, some (.ref D), v8, some (.int ((kq * (cn - ci) : Nat) : Int)), v10, v11, v12, v13, v14, v15] ∧ Hn = H', fun σ' Hn ⟨kq, a1, a2, a3, a4, a5⟩ => ⟨_, a3, kq, a1, a2, rfl, a4, a5⟩, ?_⟩
        have hlt : kq < n2 - i2 := Nat.lt_of_le_of_ne hk2 fun e => hd (by rw [e]; exact Nat.dvd_mul_right _ _)
        refine ⟨_, rfl, _, rfl, D, _, _, .int ((cn - ci : Nat) : Int), rfl, rfl, sq12, at_of (j := 0) rfl rfl, _, _, rfl, rfl, kq + 1, by omega, hlt, by omega, ?_, rfl⟩
        have e : ((kq * (cn - ci) : Nat) : Int) + ((cn - ci : Nat) : Int) = (((kq + 1) * (cn - ci) : Nat) : Int) := by rw [Nat.succ_mul]; omega
        dsimp only
        rw [e]
        rfl
    rintro σ H3 ⟨v2, v3, v4, v5, v6, v7, v8, v9, v10, v11, v12, v13, v14, v15, rfl, NT⟩
    refine ⟨(by show 2 ≤ sizeLine; decide), fun p hp => ?_⟩
    dsimp only [gName]
    have B4 := NT.now.at.new hp (.lst [.str "wait; wait; wait; right;", .str "wait; wait; wait; right; wait; wait;"])
    have pG : (upd (fun _ => none : Hp) p (.lst [.str "wait; wait; wait; right;", .str "wait; wait; wait; right; wait; wait;"])) p = some (.lst [.str "wait; wait; wait; right;", .str "wait; wait; wait; right; wait; wait;"]) := upd_same
    revert B4 pG
    generalize upd (fun _ => none : Hp) p (.lst [.str "wait; wait; wait; right;", .str "wait; wait; wait; right; wait; wait;"]) = G4
    generalize upd H3 p (.lst [.str "wait; wait; wait; right;", .str "wait; wait; wait; right; wait; wait;"]) = H4
    intro B4 pG
    refine ⟨_, rfl, p, rfl, ⟨_, B4.now.s.seq (SqL.of pG)⟩, fun D hD' => ?_⟩
    have D0 : H3 D = none := B4.ext.k _ hD'
    have DG := B4.ext.new_out hD'
    have Dd := B4.ne hD'
    refine lc_list (K := K) (a := p) (xs := [.str "wait; wait; wait; right;", .str "wait; wait; wait; right; wait; wait;"]) (fun m H' => At d (fun _ => none) H3 G4 H' ∧ H' D = some (.lst (([V.str (lateS "wait; wait; wait; right;"), V.str (lateS "wait; wait; wait; right; wait; wait;")]).take m))) ⟨B4.lay hD' _, upd_same⟩ (fun m H' _ ⟨h, _⟩ => h.now.s.seq (SqL.of pG)) ?_ ?_
    · rintro m z H' hz ⟨C, hDl⟩
      match m, hz with
      | 0, hz =>
        cases hz
        exact ⟨rfl, _, rfl, _, _, rfl, rfl, late_len _ _ (by decide), _, _, rfl, rfl, late_len _ _ (by decide), _, hDl, smaller 2 (by simp) (by decide), C.put D0 DG Dd _, by rw [upd_same]; rfl⟩
      | 1, hz =>
        cases hz
        exact ⟨rfl, _, rfl, _, _, rfl, rfl, late_len _ _ (by decide), _, _, rfl, rfl, late_len _ _ (by decide), _, hDl, smaller 2 (by simp) (by decide), C.put D0 DG Dd _, by rw [upd_same]; rfl⟩
    rintro H5 ⟨C5, hD5⟩
    have hD5 : H5 D = some (.lst [.str (lateS "wait; wait; wait; right;"), .str (lateS "wait; wait; wait; right; wait; wait;")]) := hD5
    refine ⟨_, rfl, D, _, _, .str (lateS "wait; wait; wait; right;"), rfl, rfl, SqL.of hD5, at_of (j := 0) rfl rfl, _, rfl, D, _, _, .str (lateS "wait; wait; wait; right; wait; wait;"), rfl, rfl, SqL.of hD5, at_of (j := 1) rfl rfl, ?_⟩
    refine ⟨⟨_, _, G4, lateX late0, lateX late1, 23, 24, 33, 34, rfl, ⟨loads0, ok0, cyc0, by decide⟩, ⟨loads1, ok1, cyc1, by decide⟩, rfl, C5.now.s, fun M1 h1 h2 h0 G6 H6 x6 s6 => ?_⟩⟩
    rw [FD_uniq (diff_FD cyc0 cyc1 h1 h2 h0) fd_late]
    exact ⟨rfl, k _⟩
end
end Sb

section
open PySem PySem.W PyProof.Rows
open_top hd for PySem.Challenge.rw_shelfbots_k10_first_differences
end

namespace Sb
open PySem PySem.Spec PyProof.Rows L2
/-- the tables of the top's defs are empty -/
def AllTabs (K : PySem.W.Frag) (q : Program) (mg : Str → Option Value) (h : Heap) : Prop := ∀ (f c P : Addr) (x : Str) (o : Obj) (fd : FuncData) (e : Value) (dd : Option Addr) (vs : Array Value) (sl : Array (Option Value)), ((recsOf q).any fun d => d.name == x) = true → mg x = some (.ref f) → K.lookup f = some o → o.data = .func fd → fd.code = .ref c → K.lookup c = some ⟨e, dd, .fields vs, sl⟩ → vs[11]? = some (.ref P) →
  h.get? P = some { cls := .none, data := .fields #[] }
theorem walkT {l : PySem.W.OpenLaw} {n k : Nat} {q : Program} {loose : List Str} {XP : (Str → Option Value) → Heap → Prop} {YP : World → Heap → Prop} {d : DefRec} {K : Params → PySem.W.Frag} {x : Str}
    (hn : l.most = some n) (hn2 : n ≤ sizeLine) (hdf : d.params.defaults = []) (hr : Room k callerA) (hY : ∀ (w : World) (h : Heap), YP w h → (K w.params).In h)
    (F : ∀ (w : World) (mg : Str → Option Value) (fa : Addr) (h : Heap), (K w.params).In h → h.Ns mainGlobals mg → mg d.name = some (.ref fa) → AllTabs (K w.params) q mg h → LamX.LawAtS l w (K w.params) CX0 k n x mg fa h) :
    PySem.W.WalkO q loose XP YP l.row.toRowW d [] (fun f vs => PySem.call f vs) := by
  refine Att.attach_callB hn hdf fun w s₀ s₁ mg mb fa o pm cd doc a vs ns G Y ho hd hcd hmg hobj hints hlen hbits hg => ?_
  have KX := hY w _ Y
  have own : AllTabs (K w.params) q mg s₁.heap := fun f c P x o1 fd1 e dd vs1 sl hrec hf k1 k2 k3 k4 k5 => by
    obtain ⟨dL, hm, hn1⟩ := List.any_eq_true.mp hrec
    have hn2 : dL.name = x := beq_iff_eq.mp hn1
    obtain ⟨a', o', fd', c', P', h1, h2, h3, h4, h5, h6⟩ := G.T.tab dL hm
    rw [hn2, hf] at h1
    cases h1
    have g1 := KX _ _ k1
    rw [g1] at h2
    cases h2
    rw [k2] at h3
    cases h3
    rw [k3] at h4
    cases h4
    obtain ⟨⟨oc, vc, e1, _, e3, e4⟩, hP⟩ := h6
    have g2 := KX _ _ k4
    rw [g2] at e1
    cases e1
    cases e3
    rw [k5] at e4
    cases e4
    exact hP
  obtain ⟨fd, cs, sp, hT, nT, C, hb, hsp, hF⟩ := F w mg fa _ KX G.T.g hmg own
  exact LamX.law_callTs KX G.T.g G.T.b G.T.builtins G.T.nolimit hg hT nT C G.T.bmain hobj hints (Nat.le_trans hlen hn2) hr hF hb (fun H hH hS => hsp H a ns hlen hbits hH hS) fun H e s' z => z.elim
theorem all_mk {l : PySem.W.OpenLaw} {w : World} {K : PySem.W.Frag} {h : Heap} {q : Program} {mg : Str → Option Value} {fa : Addr} (X : K.In h) (G : h.Ns mainGlobals mg) (hfa : mg "law" = some (.ref fa)) (AT : AllTabs K q mg h) {C_Token C_Robot C_Plan C_Parser C_State C_Tick C_Story f_l_random f_l_below f_l_empty f_l_act f_l_tick f_l_repeats f_l_steps f_l_plan f_l_doubled f_l_other f_Story_size p_Story_size f_Parser_peek f_Token_init f_Robot_init f_Plan_init f_Parser_init f_State_init f_Tick_init f_first_state f_State_key p_State_key f_replaced f_act f_next_tick f_Story_init f_Parser_fail f_Parser_take_word f_Parser_take f_Parser_found f_Parser_parse_shelf f_Parser_parse_step f_Parser_parse_robot f_Parser_parse_plan f_run_end f_read_token f_tokenize f_load f_Story_happens f_first_difference f_l_text f_l_equal f_Story_count f_l_error_of f_l_cycle f_first_error f_l_place f_l_checks f_law cc_law tb_law X_BotError X_InvalidTick X_InvalidNumber X_TooLong X_DifferentShelves X_Contradiction X_CellFull X_CellEmpty X_InvalidName X_UnknownName X_SyntaxFault X_CheckFault X_InvalidCode X_InvalidOperation A_MOVES A_JUMPS A_KEYWORDS : Addr}
    {oc_l_random kV_l_random dc_l_random pm_l_random ct_l_random : Value} {od_l_random an_l_random : Option Addr} {sl_l_random : Array (Option Value)} {cd_l_random : Value}
    {oc_l_below kV_l_below dc_l_below pm_l_below ct_l_below : Value} {od_l_below an_l_below : Option Addr} {sl_l_below : Array (Option Value)} {cd_l_below : Value}
    {oc_l_empty kV_l_empty dc_l_empty pm_l_empty ct_l_empty : Value} {od_l_empty an_l_empty : Option Addr} {sl_l_empty : Array (Option Value)} {cd_l_empty : Value}
    {oc_l_act kV_l_act dc_l_act pm_l_act ct_l_act : Value} {od_l_act an_l_act : Option Addr} {sl_l_act : Array (Option Value)} {cd_l_act : Value}
    {oc_l_tick kV_l_tick dc_l_tick pm_l_tick ct_l_tick : Value} {od_l_tick an_l_tick : Option Addr} {sl_l_tick : Array (Option Value)} {cd_l_tick : Value}
    {oc_l_repeats kV_l_repeats dc_l_repeats pm_l_repeats ct_l_repeats : Value} {od_l_repeats an_l_repeats : Option Addr} {sl_l_repeats : Array (Option Value)} {cd_l_repeats : Value}
    {oc_l_steps kV_l_steps dc_l_steps pm_l_steps ct_l_steps : Value} {od_l_steps an_l_steps : Option Addr} {sl_l_steps : Array (Option Value)} {cd_l_steps : Value}
    {oc_l_plan kV_l_plan dc_l_plan pm_l_plan ct_l_plan : Value} {od_l_plan an_l_plan : Option Addr} {sl_l_plan : Array (Option Value)} {cd_l_plan : Value}
    {oc_l_doubled kV_l_doubled dc_l_doubled pm_l_doubled ct_l_doubled : Value} {od_l_doubled an_l_doubled : Option Addr} {sl_l_doubled : Array (Option Value)} {cd_l_doubled : Value}
    {oc_l_other kV_l_other dc_l_other pm_l_other ct_l_other : Value} {od_l_other an_l_other : Option Addr} {sl_l_other : Array (Option Value)} {cd_l_other : Value}
    {oc_Story_size kV_Story_size dc_Story_size pm_Story_size ct_Story_size : Value} {od_Story_size an_Story_size : Option Addr} {sl_Story_size : Array (Option Value)} {cd_Story_size : Value}
    {rs_Story_size : List Value}
    {oc_Parser_peek kV_Parser_peek dc_Parser_peek pm_Parser_peek ct_Parser_peek : Value} {od_Parser_peek an_Parser_peek : Option Addr} {sl_Parser_peek : Array (Option Value)} {cd_Parser_peek : Value}
    {oc_Token_init kV_Token_init dc_Token_init pm_Token_init ct_Token_init : Value} {od_Token_init an_Token_init : Option Addr} {sl_Token_init : Array (Option Value)} {cd_Token_init : Value}
    {oc_Robot_init kV_Robot_init dc_Robot_init pm_Robot_init ct_Robot_init : Value} {od_Robot_init an_Robot_init : Option Addr} {sl_Robot_init : Array (Option Value)} {cd_Robot_init : Value}
    {oc_Plan_init kV_Plan_init dc_Plan_init pm_Plan_init ct_Plan_init : Value} {od_Plan_init an_Plan_init : Option Addr} {sl_Plan_init : Array (Option Value)} {cd_Plan_init : Value}
    {oc_Parser_init kV_Parser_init dc_Parser_init pm_Parser_init ct_Parser_init : Value} {od_Parser_init an_Parser_init : Option Addr} {sl_Parser_init : Array (Option Value)} {cd_Parser_init : Value}
    {oc_State_init kV_State_init dc_State_init pm_State_init ct_State_init : Value} {od_State_init an_State_init : Option Addr} {sl_State_init : Array (Option Value)} {cd_State_init : Value}
    {oc_Tick_init kV_Tick_init dc_Tick_init pm_Tick_init ct_Tick_init : Value} {od_Tick_init an_Tick_init : Option Addr} {sl_Tick_init : Array (Option Value)} {cd_Tick_init : Value}
    {oc_first_state kV_first_state dc_first_state pm_first_state ct_first_state : Value} {od_first_state an_first_state : Option Addr} {sl_first_state : Array (Option Value)} {cd_first_state : Value}
    {oc_State_key kV_State_key dc_State_key pm_State_key ct_State_key : Value} {od_State_key an_State_key : Option Addr} {sl_State_key : Array (Option Value)} {cd_State_key : Value}
    {rs_State_key : List Value}
    {oc_replaced kV_replaced dc_replaced pm_replaced ct_replaced : Value} {od_replaced an_replaced : Option Addr} {sl_replaced : Array (Option Value)} {cd_replaced : Value}
    {oc_act kV_act dc_act pm_act ct_act : Value} {od_act an_act : Option Addr} {sl_act : Array (Option Value)} {cd_act : Value}
    {oc_next_tick kV_next_tick dc_next_tick pm_next_tick ct_next_tick : Value} {od_next_tick an_next_tick : Option Addr} {sl_next_tick : Array (Option Value)} {cd_next_tick : Value}
    {oc_Story_init kV_Story_init dc_Story_init pm_Story_init ct_Story_init : Value} {od_Story_init an_Story_init : Option Addr} {sl_Story_init : Array (Option Value)} {cd_Story_init : Value}
    {oc_Parser_fail kV_Parser_fail dc_Parser_fail pm_Parser_fail ct_Parser_fail : Value} {od_Parser_fail an_Parser_fail : Option Addr} {sl_Parser_fail : Array (Option Value)} {cd_Parser_fail : Value}
    {oc_Parser_take_word kV_Parser_take_word dc_Parser_take_word pm_Parser_take_word ct_Parser_take_word : Value} {od_Parser_take_word an_Parser_take_word : Option Addr} {sl_Parser_take_word : Array (Option Value)} {cd_Parser_take_word : Value}
    {oc_Parser_take kV_Parser_take dc_Parser_take pm_Parser_take ct_Parser_take : Value} {od_Parser_take an_Parser_take : Option Addr} {sl_Parser_take : Array (Option Value)} {cd_Parser_take : Value}
    {oc_Parser_found kV_Parser_found dc_Parser_found pm_Parser_found ct_Parser_found : Value} {od_Parser_found an_Parser_found : Option Addr} {sl_Parser_found : Array (Option Value)} {cd_Parser_found : Value}
    {oc_Parser_parse_shelf kV_Parser_parse_shelf dc_Parser_parse_shelf pm_Parser_parse_shelf ct_Parser_parse_shelf : Value} {od_Parser_parse_shelf an_Parser_parse_shelf : Option Addr} {sl_Parser_parse_shelf : Array (Option Value)} {cd_Parser_parse_shelf : Value}
    {oc_Parser_parse_step kV_Parser_parse_step dc_Parser_parse_step pm_Parser_parse_step ct_Parser_parse_step : Value} {od_Parser_parse_step an_Parser_parse_step : Option Addr} {sl_Parser_parse_step : Array (Option Value)} {cd_Parser_parse_step : Value}
    {oc_Parser_parse_robot kV_Parser_parse_robot dc_Parser_parse_robot pm_Parser_parse_robot ct_Parser_parse_robot : Value} {od_Parser_parse_robot an_Parser_parse_robot : Option Addr} {sl_Parser_parse_robot : Array (Option Value)} {cd_Parser_parse_robot : Value}
    {oc_Parser_parse_plan kV_Parser_parse_plan dc_Parser_parse_plan pm_Parser_parse_plan ct_Parser_parse_plan : Value} {od_Parser_parse_plan an_Parser_parse_plan : Option Addr} {sl_Parser_parse_plan : Array (Option Value)} {cd_Parser_parse_plan : Value}
    {oc_run_end kV_run_end dc_run_end pm_run_end ct_run_end : Value} {od_run_end an_run_end : Option Addr} {sl_run_end : Array (Option Value)} {cd_run_end : Value}
    {oc_read_token kV_read_token dc_read_token pm_read_token ct_read_token : Value} {od_read_token an_read_token : Option Addr} {sl_read_token : Array (Option Value)} {cd_read_token : Value}
    {oc_tokenize kV_tokenize dc_tokenize pm_tokenize ct_tokenize : Value} {od_tokenize an_tokenize : Option Addr} {sl_tokenize : Array (Option Value)} {cd_tokenize : Value}
    {oc_load kV_load dc_load pm_load ct_load : Value} {od_load an_load : Option Addr} {sl_load : Array (Option Value)} {cd_load : Value}
    {oc_Story_happens kV_Story_happens dc_Story_happens pm_Story_happens ct_Story_happens : Value} {od_Story_happens an_Story_happens : Option Addr} {sl_Story_happens : Array (Option Value)} {cd_Story_happens : Value}
    {oc_first_difference kV_first_difference dc_first_difference pm_first_difference ct_first_difference : Value} {od_first_difference an_first_difference : Option Addr} {sl_first_difference : Array (Option Value)} {cd_first_difference : Value}
    {oc_l_text kV_l_text dc_l_text pm_l_text ct_l_text : Value} {od_l_text an_l_text : Option Addr} {sl_l_text : Array (Option Value)} {cd_l_text : Value}
    {oc_l_equal kV_l_equal dc_l_equal pm_l_equal ct_l_equal : Value} {od_l_equal an_l_equal : Option Addr} {sl_l_equal : Array (Option Value)} {cd_l_equal : Value}
    {oc_Story_count kV_Story_count dc_Story_count pm_Story_count ct_Story_count : Value} {od_Story_count an_Story_count : Option Addr} {sl_Story_count : Array (Option Value)} {cd_Story_count : Value}
    {oc_l_error_of kV_l_error_of dc_l_error_of pm_l_error_of ct_l_error_of : Value} {od_l_error_of an_l_error_of : Option Addr} {sl_l_error_of : Array (Option Value)} {cd_l_error_of : Value}
    {oc_l_cycle kV_l_cycle dc_l_cycle pm_l_cycle ct_l_cycle : Value} {od_l_cycle an_l_cycle : Option Addr} {sl_l_cycle : Array (Option Value)} {cd_l_cycle : Value}
    {oc_first_error kV_first_error dc_first_error pm_first_error ct_first_error : Value} {od_first_error an_first_error : Option Addr} {sl_first_error : Array (Option Value)} {cd_first_error : Value}
    {oc_l_place kV_l_place dc_l_place pm_l_place ct_l_place : Value} {od_l_place an_l_place : Option Addr} {sl_l_place : Array (Option Value)} {cd_l_place : Value}
    {oc_l_checks kV_l_checks dc_l_checks pm_l_checks ct_l_checks : Value} {od_l_checks an_l_checks : Option Addr} {sl_l_checks : Array (Option Value)} {cd_l_checks : Value}
    {e1_law : Value} {e2_law : Option Addr} {vs_law : Array Value} {e3_law : Array (Option Value)}
    {oc_law kV_law dc_law pm_law ct_law : Value} {od_law an_law : Option Addr} {sl_law : Array (Option Value)}
    {t0_MOVES t1_MOVES t2_MOVES t3_MOVES t4_MOVES : Tok} {sl_MOVES : Array (Option Value)} {nn_MOVES : Nat}
    {t0_JUMPS t1_JUMPS t2_JUMPS : Tok} {sl_JUMPS : Array (Option Value)} {nn_JUMPS : Nat}
    {t0_KEYWORDS t1_KEYWORDS t2_KEYWORDS t3_KEYWORDS t4_KEYWORDS t5_KEYWORDS t6_KEYWORDS t7_KEYWORDS t8_KEYWORDS t9_KEYWORDS : Tok} {sl_KEYWORDS : Array (Option Value)} {nn_KEYWORDS : Nat}
    {t_LETTERS : Tok}
    {t_DIGITS : Tok}
    {t_SPACES : Tok}
    {t_SIGNS : Tok}
    {t_MAX_LETTERS : Tok}
    {t_MAX_DIGITS : Tok}
    {t_NAME : Tok}
    {t_NUMBER : Tok}
    {t_KEYWORD : Tok}
    {t_SIGN : Tok}
    {t_END : Tok}
    {t_MIN_CELLS : Tok}
    {t_MAX_CELLS : Tok}
    {t_MAX_BOXES : Tok}
    {t_MAX_STEPS : Tok}
    {t_MAX_STATES : Tok}
    {t_BLOCKED : Tok}
    (aC_Token : PySem.W.nsIn K mainGlobals "Token" = some (some (.ref C_Token)))
    (aC_Robot : PySem.W.nsIn K mainGlobals "Robot" = some (some (.ref C_Robot)))
    (aC_Plan : PySem.W.nsIn K mainGlobals "Plan" = some (some (.ref C_Plan)))
    (aC_Parser : PySem.W.nsIn K mainGlobals "Parser" = some (some (.ref C_Parser)))
    (aC_State : PySem.W.nsIn K mainGlobals "State" = some (some (.ref C_State)))
    (aC_Tick : PySem.W.nsIn K mainGlobals "Tick" = some (some (.ref C_Tick)))
    (aC_Story : PySem.W.nsIn K mainGlobals "Story" = some (some (.ref C_Story)))
    (a_l_random : PySem.W.nsIn K mainGlobals "_law_random" = some (some (.ref f_l_random)))
    (l_l_random : K.lookup f_l_random = some ⟨oc_l_random, od_l_random, .func (PySem.W.fnOf "_law_random" "_law_random" (defArgs s_l_random) (defBody s_l_random) (defScope s_l_random) .none kV_l_random dc_l_random pm_l_random an_l_random cd_l_random ct_l_random), sl_l_random⟩)
    (c_l_random : PySem.W.codeIn K cd_l_random "_law_random" = true)
    (k_l_random : PySem.W.keepIn K (.ref f_l_random) = true)
    (a_l_below : PySem.W.nsIn K mainGlobals "_law_below" = some (some (.ref f_l_below)))
    (l_l_below : K.lookup f_l_below = some ⟨oc_l_below, od_l_below, .func (PySem.W.fnOf "_law_below" "_law_below" (defArgs s_l_below) (defBody s_l_below) (defScope s_l_below) .none kV_l_below dc_l_below pm_l_below an_l_below cd_l_below ct_l_below), sl_l_below⟩)
    (c_l_below : PySem.W.codeIn K cd_l_below "_law_below" = true)
    (k_l_below : PySem.W.keepIn K (.ref f_l_below) = true)
    (a_l_empty : PySem.W.nsIn K mainGlobals "_law_empty" = some (some (.ref f_l_empty)))
    (l_l_empty : K.lookup f_l_empty = some ⟨oc_l_empty, od_l_empty, .func (PySem.W.fnOf "_law_empty" "_law_empty" (defArgs s_l_empty) (defBody s_l_empty) (defScope s_l_empty) .none kV_l_empty dc_l_empty pm_l_empty an_l_empty cd_l_empty ct_l_empty), sl_l_empty⟩)
    (c_l_empty : PySem.W.codeIn K cd_l_empty "_law_empty" = true)
    (k_l_empty : PySem.W.keepIn K (.ref f_l_empty) = true)
    (a_l_act : PySem.W.nsIn K mainGlobals "_law_act" = some (some (.ref f_l_act)))
    (l_l_act : K.lookup f_l_act = some ⟨oc_l_act, od_l_act, .func (PySem.W.fnOf "_law_act" "_law_act" (defArgs s_l_act) (defBody s_l_act) (defScope s_l_act) .none kV_l_act dc_l_act pm_l_act an_l_act cd_l_act ct_l_act), sl_l_act⟩)
    (c_l_act : PySem.W.codeIn K cd_l_act "_law_act" = true)
    (k_l_act : PySem.W.keepIn K (.ref f_l_act) = true)
    (a_l_tick : PySem.W.nsIn K mainGlobals "_law_tick" = some (some (.ref f_l_tick)))
    (l_l_tick : K.lookup f_l_tick = some ⟨oc_l_tick, od_l_tick, .func (PySem.W.fnOf "_law_tick" "_law_tick" (defArgs s_l_tick) (defBody s_l_tick) (defScope s_l_tick) .none kV_l_tick dc_l_tick pm_l_tick an_l_tick cd_l_tick ct_l_tick), sl_l_tick⟩)
    (c_l_tick : PySem.W.codeIn K cd_l_tick "_law_tick" = true)
    (k_l_tick : PySem.W.keepIn K (.ref f_l_tick) = true)
    (a_l_repeats : PySem.W.nsIn K mainGlobals "_law_repeats" = some (some (.ref f_l_repeats)))
    (l_l_repeats : K.lookup f_l_repeats = some ⟨oc_l_repeats, od_l_repeats, .func (PySem.W.fnOf "_law_repeats" "_law_repeats" (defArgs s_l_repeats) (defBody s_l_repeats) (defScope s_l_repeats) .none kV_l_repeats dc_l_repeats pm_l_repeats an_l_repeats cd_l_repeats ct_l_repeats), sl_l_repeats⟩)
    (c_l_repeats : PySem.W.codeIn K cd_l_repeats "_law_repeats" = true)
    (k_l_repeats : PySem.W.keepIn K (.ref f_l_repeats) = true)
    (a_l_steps : PySem.W.nsIn K mainGlobals "_law_steps" = some (some (.ref f_l_steps)))
    (l_l_steps : K.lookup f_l_steps = some ⟨oc_l_steps, od_l_steps, .func (PySem.W.fnOf "_law_steps" "_law_steps" (defArgs s_l_steps) (defBody s_l_steps) (defScope s_l_steps) .none kV_l_steps dc_l_steps pm_l_steps an_l_steps cd_l_steps ct_l_steps), sl_l_steps⟩)
    (c_l_steps : PySem.W.codeIn K cd_l_steps "_law_steps" = true)
    (k_l_steps : PySem.W.keepIn K (.ref f_l_steps) = true)
    (a_l_plan : PySem.W.nsIn K mainGlobals "_law_plan" = some (some (.ref f_l_plan)))
    (l_l_plan : K.lookup f_l_plan = some ⟨oc_l_plan, od_l_plan, .func (PySem.W.fnOf "_law_plan" "_law_plan" (defArgs s_l_plan) (defBody s_l_plan) (defScope s_l_plan) .none kV_l_plan dc_l_plan pm_l_plan an_l_plan cd_l_plan ct_l_plan), sl_l_plan⟩)
    (c_l_plan : PySem.W.codeIn K cd_l_plan "_law_plan" = true)
    (k_l_plan : PySem.W.keepIn K (.ref f_l_plan) = true)
    (a_l_doubled : PySem.W.nsIn K mainGlobals "_law_doubled" = some (some (.ref f_l_doubled)))
    (l_l_doubled : K.lookup f_l_doubled = some ⟨oc_l_doubled, od_l_doubled, .func (PySem.W.fnOf "_law_doubled" "_law_doubled" (defArgs s_l_doubled) (defBody s_l_doubled) (defScope s_l_doubled) .none kV_l_doubled dc_l_doubled pm_l_doubled an_l_doubled cd_l_doubled ct_l_doubled), sl_l_doubled⟩)
    (c_l_doubled : PySem.W.codeIn K cd_l_doubled "_law_doubled" = true)
    (k_l_doubled : PySem.W.keepIn K (.ref f_l_doubled) = true)
    (a_l_other : PySem.W.nsIn K mainGlobals "_law_other" = some (some (.ref f_l_other)))
    (l_l_other : K.lookup f_l_other = some ⟨oc_l_other, od_l_other, .func (PySem.W.fnOf "_law_other" "_law_other" (defArgs s_l_other) (defBody s_l_other) (defScope s_l_other) .none kV_l_other dc_l_other pm_l_other an_l_other cd_l_other ct_l_other), sl_l_other⟩)
    (c_l_other : PySem.W.codeIn K cd_l_other "_law_other" = true)
    (k_l_other : PySem.W.keepIn K (.ref f_l_other) = true)
    (pa_Story_size : PySem.W.findIn K (.ref C_Story) "size" = some (some (.ref p_Story_size)))
    (pg_Story_size : PySem.W.specialIn K (.ref p_Story_size) "__get__" = some (some (.builtin "property.__get__")))
    (pt_Story_size : PySem.W.takesIn K (.ref p_Story_size) = some true)
    (pr_Story_size : PySem.W.recIn K p_Story_size "property" = some (.ref f_Story_size :: rs_Story_size))
    (l_Story_size : K.lookup f_Story_size = some ⟨oc_Story_size, od_Story_size, .func (PySem.W.fnOf "size" "Story.size" (defArgs s_Story_size) (defBody s_Story_size) (defScope s_Story_size) .none kV_Story_size dc_Story_size pm_Story_size an_Story_size cd_Story_size ct_Story_size), sl_Story_size⟩)
    (c_Story_size : PySem.W.codeIn K cd_Story_size "Story.size" = true)
    (k_Story_size : PySem.W.keepIn K (.ref f_Story_size) = true)
    (a_Parser_peek : PySem.W.findIn K (.ref C_Parser) "peek" = some (some (.ref f_Parser_peek)))
    (i_Parser_peek : PySem.W.isFn K (.ref f_Parser_peek) = true)
    (l_Parser_peek : K.lookup f_Parser_peek = some ⟨oc_Parser_peek, od_Parser_peek, .func (PySem.W.fnOf "peek" "Parser.peek" (defArgs s_Parser_peek) (defBody s_Parser_peek) (defScope s_Parser_peek) .none kV_Parser_peek dc_Parser_peek pm_Parser_peek an_Parser_peek cd_Parser_peek ct_Parser_peek), sl_Parser_peek⟩)
    (c_Parser_peek : PySem.W.codeIn K cd_Parser_peek "Parser.peek" = true)
    (k_Parser_peek : PySem.W.keepIn K (.ref f_Parser_peek) = true)
    (a_Token_init : PySem.W.findIn K (.ref C_Token) "__init__" = some (some (.ref f_Token_init)))
    (i_Token_init : PySem.W.isFn K (.ref f_Token_init) = true)
    (l_Token_init : K.lookup f_Token_init = some ⟨oc_Token_init, od_Token_init, .func (PySem.W.fnOf "__init__" "Token.__init__" (defArgs s_Token_init) (defBody s_Token_init) (defScope s_Token_init) .none kV_Token_init dc_Token_init pm_Token_init an_Token_init cd_Token_init ct_Token_init), sl_Token_init⟩)
    (c_Token_init : PySem.W.codeIn K cd_Token_init "Token.__init__" = true)
    (k_Token_init : PySem.W.keepIn K (.ref f_Token_init) = true)
    (a_Robot_init : PySem.W.findIn K (.ref C_Robot) "__init__" = some (some (.ref f_Robot_init)))
    (i_Robot_init : PySem.W.isFn K (.ref f_Robot_init) = true)
    (l_Robot_init : K.lookup f_Robot_init = some ⟨oc_Robot_init, od_Robot_init, .func (PySem.W.fnOf "__init__" "Robot.__init__" (defArgs s_Robot_init) (defBody s_Robot_init) (defScope s_Robot_init) .none kV_Robot_init dc_Robot_init pm_Robot_init an_Robot_init cd_Robot_init ct_Robot_init), sl_Robot_init⟩)
    (c_Robot_init : PySem.W.codeIn K cd_Robot_init "Robot.__init__" = true)
    (k_Robot_init : PySem.W.keepIn K (.ref f_Robot_init) = true)
    (a_Plan_init : PySem.W.findIn K (.ref C_Plan) "__init__" = some (some (.ref f_Plan_init)))
    (i_Plan_init : PySem.W.isFn K (.ref f_Plan_init) = true)
    (l_Plan_init : K.lookup f_Plan_init = some ⟨oc_Plan_init, od_Plan_init, .func (PySem.W.fnOf "__init__" "Plan.__init__" (defArgs s_Plan_init) (defBody s_Plan_init) (defScope s_Plan_init) .none kV_Plan_init dc_Plan_init pm_Plan_init an_Plan_init cd_Plan_init ct_Plan_init), sl_Plan_init⟩)
    (c_Plan_init : PySem.W.codeIn K cd_Plan_init "Plan.__init__" = true)
    (k_Plan_init : PySem.W.keepIn K (.ref f_Plan_init) = true)
    (a_Parser_init : PySem.W.findIn K (.ref C_Parser) "__init__" = some (some (.ref f_Parser_init)))
    (i_Parser_init : PySem.W.isFn K (.ref f_Parser_init) = true)
    (l_Parser_init : K.lookup f_Parser_init = some ⟨oc_Parser_init, od_Parser_init, .func (PySem.W.fnOf "__init__" "Parser.__init__" (defArgs s_Parser_init) (defBody s_Parser_init) (defScope s_Parser_init) .none kV_Parser_init dc_Parser_init pm_Parser_init an_Parser_init cd_Parser_init ct_Parser_init), sl_Parser_init⟩)
    (c_Parser_init : PySem.W.codeIn K cd_Parser_init "Parser.__init__" = true)
    (k_Parser_init : PySem.W.keepIn K (.ref f_Parser_init) = true)
    (a_State_init : PySem.W.findIn K (.ref C_State) "__init__" = some (some (.ref f_State_init)))
    (i_State_init : PySem.W.isFn K (.ref f_State_init) = true)
    (l_State_init : K.lookup f_State_init = some ⟨oc_State_init, od_State_init, .func (PySem.W.fnOf "__init__" "State.__init__" (defArgs s_State_init) (defBody s_State_init) (defScope s_State_init) .none kV_State_init dc_State_init pm_State_init an_State_init cd_State_init ct_State_init), sl_State_init⟩)
    (c_State_init : PySem.W.codeIn K cd_State_init "State.__init__" = true)
    (k_State_init : PySem.W.keepIn K (.ref f_State_init) = true)
    (a_Tick_init : PySem.W.findIn K (.ref C_Tick) "__init__" = some (some (.ref f_Tick_init)))
    (i_Tick_init : PySem.W.isFn K (.ref f_Tick_init) = true)
    (l_Tick_init : K.lookup f_Tick_init = some ⟨oc_Tick_init, od_Tick_init, .func (PySem.W.fnOf "__init__" "Tick.__init__" (defArgs s_Tick_init) (defBody s_Tick_init) (defScope s_Tick_init) .none kV_Tick_init dc_Tick_init pm_Tick_init an_Tick_init cd_Tick_init ct_Tick_init), sl_Tick_init⟩)
    (c_Tick_init : PySem.W.codeIn K cd_Tick_init "Tick.__init__" = true)
    (k_Tick_init : PySem.W.keepIn K (.ref f_Tick_init) = true)
    (a_first_state : PySem.W.nsIn K mainGlobals "first_state" = some (some (.ref f_first_state)))
    (l_first_state : K.lookup f_first_state = some ⟨oc_first_state, od_first_state, .func (PySem.W.fnOf "first_state" "first_state" (defArgs s_first_state) (defBody s_first_state) (defScope s_first_state) .none kV_first_state dc_first_state pm_first_state an_first_state cd_first_state ct_first_state), sl_first_state⟩)
    (c_first_state : PySem.W.codeIn K cd_first_state "first_state" = true)
    (k_first_state : PySem.W.keepIn K (.ref f_first_state) = true)
    (pa_State_key : PySem.W.findIn K (.ref C_State) "key" = some (some (.ref p_State_key)))
    (pg_State_key : PySem.W.specialIn K (.ref p_State_key) "__get__" = some (some (.builtin "property.__get__")))
    (pt_State_key : PySem.W.takesIn K (.ref p_State_key) = some true)
    (pr_State_key : PySem.W.recIn K p_State_key "property" = some (.ref f_State_key :: rs_State_key))
    (l_State_key : K.lookup f_State_key = some ⟨oc_State_key, od_State_key, .func (PySem.W.fnOf "key" "State.key" (defArgs s_State_key) (defBody s_State_key) (defScope s_State_key) .none kV_State_key dc_State_key pm_State_key an_State_key cd_State_key ct_State_key), sl_State_key⟩)
    (c_State_key : PySem.W.codeIn K cd_State_key "State.key" = true)
    (k_State_key : PySem.W.keepIn K (.ref f_State_key) = true)
    (a_replaced : PySem.W.nsIn K mainGlobals "replaced" = some (some (.ref f_replaced)))
    (l_replaced : K.lookup f_replaced = some ⟨oc_replaced, od_replaced, .func (PySem.W.fnOf "replaced" "replaced" (defArgs s_replaced) (defBody s_replaced) (defScope s_replaced) .none kV_replaced dc_replaced pm_replaced an_replaced cd_replaced ct_replaced), sl_replaced⟩)
    (c_replaced : PySem.W.codeIn K cd_replaced "replaced" = true)
    (k_replaced : PySem.W.keepIn K (.ref f_replaced) = true)
    (a_act : PySem.W.nsIn K mainGlobals "act" = some (some (.ref f_act)))
    (l_act : K.lookup f_act = some ⟨oc_act, od_act, .func (PySem.W.fnOf "act" "act" (defArgs s_act) (defBody s_act) (defScope s_act) .none kV_act dc_act pm_act an_act cd_act ct_act), sl_act⟩)
    (c_act : PySem.W.codeIn K cd_act "act" = true)
    (k_act : PySem.W.keepIn K (.ref f_act) = true)
    (a_next_tick : PySem.W.nsIn K mainGlobals "next_tick" = some (some (.ref f_next_tick)))
    (l_next_tick : K.lookup f_next_tick = some ⟨oc_next_tick, od_next_tick, .func (PySem.W.fnOf "next_tick" "next_tick" (defArgs s_next_tick) (defBody s_next_tick) (defScope s_next_tick) .none kV_next_tick dc_next_tick pm_next_tick an_next_tick cd_next_tick ct_next_tick), sl_next_tick⟩)
    (c_next_tick : PySem.W.codeIn K cd_next_tick "next_tick" = true)
    (k_next_tick : PySem.W.keepIn K (.ref f_next_tick) = true)
    (a_Story_init : PySem.W.findIn K (.ref C_Story) "__init__" = some (some (.ref f_Story_init)))
    (i_Story_init : PySem.W.isFn K (.ref f_Story_init) = true)
    (l_Story_init : K.lookup f_Story_init = some ⟨oc_Story_init, od_Story_init, .func (PySem.W.fnOf "__init__" "Story.__init__" (defArgs s_Story_init) (defBody s_Story_init) (defScope s_Story_init) .none kV_Story_init dc_Story_init pm_Story_init an_Story_init cd_Story_init ct_Story_init), sl_Story_init⟩)
    (c_Story_init : PySem.W.codeIn K cd_Story_init "Story.__init__" = true)
    (k_Story_init : PySem.W.keepIn K (.ref f_Story_init) = true)
    (a_Parser_fail : PySem.W.findIn K (.ref C_Parser) "fail" = some (some (.ref f_Parser_fail)))
    (i_Parser_fail : PySem.W.isFn K (.ref f_Parser_fail) = true)
    (l_Parser_fail : K.lookup f_Parser_fail = some ⟨oc_Parser_fail, od_Parser_fail, .func (PySem.W.fnOf "fail" "Parser.fail" (defArgs s_Parser_fail) (defBody s_Parser_fail) (defScope s_Parser_fail) .none kV_Parser_fail dc_Parser_fail pm_Parser_fail an_Parser_fail cd_Parser_fail ct_Parser_fail), sl_Parser_fail⟩)
    (c_Parser_fail : PySem.W.codeIn K cd_Parser_fail "Parser.fail" = true)
    (k_Parser_fail : PySem.W.keepIn K (.ref f_Parser_fail) = true)
    (a_Parser_take_word : PySem.W.findIn K (.ref C_Parser) "take_word" = some (some (.ref f_Parser_take_word)))
    (i_Parser_take_word : PySem.W.isFn K (.ref f_Parser_take_word) = true)
    (l_Parser_take_word : K.lookup f_Parser_take_word = some ⟨oc_Parser_take_word, od_Parser_take_word, .func (PySem.W.fnOf "take_word" "Parser.take_word" (defArgs s_Parser_take_word) (defBody s_Parser_take_word) (defScope s_Parser_take_word) .none kV_Parser_take_word dc_Parser_take_word pm_Parser_take_word an_Parser_take_word cd_Parser_take_word ct_Parser_take_word), sl_Parser_take_word⟩)
    (c_Parser_take_word : PySem.W.codeIn K cd_Parser_take_word "Parser.take_word" = true)
    (k_Parser_take_word : PySem.W.keepIn K (.ref f_Parser_take_word) = true)
    (a_Parser_take : PySem.W.findIn K (.ref C_Parser) "take" = some (some (.ref f_Parser_take)))
    (i_Parser_take : PySem.W.isFn K (.ref f_Parser_take) = true)
    (l_Parser_take : K.lookup f_Parser_take = some ⟨oc_Parser_take, od_Parser_take, .func (PySem.W.fnOf "take" "Parser.take" (defArgs s_Parser_take) (defBody s_Parser_take) (defScope s_Parser_take) .none kV_Parser_take dc_Parser_take pm_Parser_take an_Parser_take cd_Parser_take ct_Parser_take), sl_Parser_take⟩)
    (c_Parser_take : PySem.W.codeIn K cd_Parser_take "Parser.take" = true)
    (k_Parser_take : PySem.W.keepIn K (.ref f_Parser_take) = true)
    (a_Parser_found : PySem.W.findIn K (.ref C_Parser) "found" = some (some (.ref f_Parser_found)))
    (i_Parser_found : PySem.W.isFn K (.ref f_Parser_found) = true)
    (l_Parser_found : K.lookup f_Parser_found = some ⟨oc_Parser_found, od_Parser_found, .func (PySem.W.fnOf "found" "Parser.found" (defArgs s_Parser_found) (defBody s_Parser_found) (defScope s_Parser_found) .none kV_Parser_found dc_Parser_found pm_Parser_found an_Parser_found cd_Parser_found ct_Parser_found), sl_Parser_found⟩)
    (c_Parser_found : PySem.W.codeIn K cd_Parser_found "Parser.found" = true)
    (k_Parser_found : PySem.W.keepIn K (.ref f_Parser_found) = true)
    (a_Parser_parse_shelf : PySem.W.findIn K (.ref C_Parser) "parse_shelf" = some (some (.ref f_Parser_parse_shelf)))
    (i_Parser_parse_shelf : PySem.W.isFn K (.ref f_Parser_parse_shelf) = true)
    (l_Parser_parse_shelf : K.lookup f_Parser_parse_shelf = some ⟨oc_Parser_parse_shelf, od_Parser_parse_shelf, .func (PySem.W.fnOf "parse_shelf" "Parser.parse_shelf" (defArgs s_Parser_parse_shelf) (defBody s_Parser_parse_shelf) (defScope s_Parser_parse_shelf) .none kV_Parser_parse_shelf dc_Parser_parse_shelf pm_Parser_parse_shelf an_Parser_parse_shelf cd_Parser_parse_shelf ct_Parser_parse_shelf), sl_Parser_parse_shelf⟩)
    (c_Parser_parse_shelf : PySem.W.codeIn K cd_Parser_parse_shelf "Parser.parse_shelf" = true)
    (k_Parser_parse_shelf : PySem.W.keepIn K (.ref f_Parser_parse_shelf) = true)
    (a_Parser_parse_step : PySem.W.findIn K (.ref C_Parser) "parse_step" = some (some (.ref f_Parser_parse_step)))
    (i_Parser_parse_step : PySem.W.isFn K (.ref f_Parser_parse_step) = true)
    (l_Parser_parse_step : K.lookup f_Parser_parse_step = some ⟨oc_Parser_parse_step, od_Parser_parse_step, .func (PySem.W.fnOf "parse_step" "Parser.parse_step" (defArgs s_Parser_parse_step) (defBody s_Parser_parse_step) (defScope s_Parser_parse_step) .none kV_Parser_parse_step dc_Parser_parse_step pm_Parser_parse_step an_Parser_parse_step cd_Parser_parse_step ct_Parser_parse_step), sl_Parser_parse_step⟩)
    (c_Parser_parse_step : PySem.W.codeIn K cd_Parser_parse_step "Parser.parse_step" = true)
    (k_Parser_parse_step : PySem.W.keepIn K (.ref f_Parser_parse_step) = true)
    (a_Parser_parse_robot : PySem.W.findIn K (.ref C_Parser) "parse_robot" = some (some (.ref f_Parser_parse_robot)))
    (i_Parser_parse_robot : PySem.W.isFn K (.ref f_Parser_parse_robot) = true)
    (l_Parser_parse_robot : K.lookup f_Parser_parse_robot = some ⟨oc_Parser_parse_robot, od_Parser_parse_robot, .func (PySem.W.fnOf "parse_robot" "Parser.parse_robot" (defArgs s_Parser_parse_robot) (defBody s_Parser_parse_robot) (defScope s_Parser_parse_robot) .none kV_Parser_parse_robot dc_Parser_parse_robot pm_Parser_parse_robot an_Parser_parse_robot cd_Parser_parse_robot ct_Parser_parse_robot), sl_Parser_parse_robot⟩)
    (c_Parser_parse_robot : PySem.W.codeIn K cd_Parser_parse_robot "Parser.parse_robot" = true)
    (k_Parser_parse_robot : PySem.W.keepIn K (.ref f_Parser_parse_robot) = true)
    (a_Parser_parse_plan : PySem.W.findIn K (.ref C_Parser) "parse_plan" = some (some (.ref f_Parser_parse_plan)))
    (i_Parser_parse_plan : PySem.W.isFn K (.ref f_Parser_parse_plan) = true)
    (l_Parser_parse_plan : K.lookup f_Parser_parse_plan = some ⟨oc_Parser_parse_plan, od_Parser_parse_plan, .func (PySem.W.fnOf "parse_plan" "Parser.parse_plan" (defArgs s_Parser_parse_plan) (defBody s_Parser_parse_plan) (defScope s_Parser_parse_plan) .none kV_Parser_parse_plan dc_Parser_parse_plan pm_Parser_parse_plan an_Parser_parse_plan cd_Parser_parse_plan ct_Parser_parse_plan), sl_Parser_parse_plan⟩)
    (c_Parser_parse_plan : PySem.W.codeIn K cd_Parser_parse_plan "Parser.parse_plan" = true)
    (k_Parser_parse_plan : PySem.W.keepIn K (.ref f_Parser_parse_plan) = true)
    (a_run_end : PySem.W.nsIn K mainGlobals "run_end" = some (some (.ref f_run_end)))
    (l_run_end : K.lookup f_run_end = some ⟨oc_run_end, od_run_end, .func (PySem.W.fnOf "run_end" "run_end" (defArgs s_run_end) (defBody s_run_end) (defScope s_run_end) .none kV_run_end dc_run_end pm_run_end an_run_end cd_run_end ct_run_end), sl_run_end⟩)
    (c_run_end : PySem.W.codeIn K cd_run_end "run_end" = true)
    (k_run_end : PySem.W.keepIn K (.ref f_run_end) = true)
    (a_read_token : PySem.W.nsIn K mainGlobals "read_token" = some (some (.ref f_read_token)))
    (l_read_token : K.lookup f_read_token = some ⟨oc_read_token, od_read_token, .func (PySem.W.fnOf "read_token" "read_token" (defArgs s_read_token) (defBody s_read_token) (defScope s_read_token) .none kV_read_token dc_read_token pm_read_token an_read_token cd_read_token ct_read_token), sl_read_token⟩)
    (c_read_token : PySem.W.codeIn K cd_read_token "read_token" = true)
    (k_read_token : PySem.W.keepIn K (.ref f_read_token) = true)
    (a_tokenize : PySem.W.nsIn K mainGlobals "tokenize" = some (some (.ref f_tokenize)))
    (l_tokenize : K.lookup f_tokenize = some ⟨oc_tokenize, od_tokenize, .func (PySem.W.fnOf "tokenize" "tokenize" (defArgs s_tokenize) (defBody s_tokenize) (defScope s_tokenize) .none kV_tokenize dc_tokenize pm_tokenize an_tokenize cd_tokenize ct_tokenize), sl_tokenize⟩)
    (c_tokenize : PySem.W.codeIn K cd_tokenize "tokenize" = true)
    (k_tokenize : PySem.W.keepIn K (.ref f_tokenize) = true)
    (a_load : PySem.W.nsIn K mainGlobals "load" = some (some (.ref f_load)))
    (l_load : K.lookup f_load = some ⟨oc_load, od_load, .func (PySem.W.fnOf "load" "load" (defArgs s_load) (defBody s_load) (defScope s_load) .none kV_load dc_load pm_load an_load cd_load ct_load), sl_load⟩)
    (c_load : PySem.W.codeIn K cd_load "load" = true)
    (k_load : PySem.W.keepIn K (.ref f_load) = true)
    (a_Story_happens : PySem.W.findIn K (.ref C_Story) "happens" = some (some (.ref f_Story_happens)))
    (i_Story_happens : PySem.W.isFn K (.ref f_Story_happens) = true)
    (l_Story_happens : K.lookup f_Story_happens = some ⟨oc_Story_happens, od_Story_happens, .func (PySem.W.fnOf "happens" "Story.happens" (defArgs s_Story_happens) (defBody s_Story_happens) (defScope s_Story_happens) .none kV_Story_happens dc_Story_happens pm_Story_happens an_Story_happens cd_Story_happens ct_Story_happens), sl_Story_happens⟩)
    (c_Story_happens : PySem.W.codeIn K cd_Story_happens "Story.happens" = true)
    (k_Story_happens : PySem.W.keepIn K (.ref f_Story_happens) = true)
    (a_first_difference : PySem.W.nsIn K mainGlobals "first_difference" = some (some (.ref f_first_difference)))
    (l_first_difference : K.lookup f_first_difference = some ⟨oc_first_difference, od_first_difference, .func (PySem.W.fnOf "first_difference" "first_difference" (defArgs s_first_difference) (defBody s_first_difference) (defScope s_first_difference) .none kV_first_difference dc_first_difference pm_first_difference an_first_difference cd_first_difference ct_first_difference), sl_first_difference⟩)
    (c_first_difference : PySem.W.codeIn K cd_first_difference "first_difference" = true)
    (k_first_difference : PySem.W.keepIn K (.ref f_first_difference) = true)
    (a_l_text : PySem.W.nsIn K mainGlobals "_law_text" = some (some (.ref f_l_text)))
    (l_l_text : K.lookup f_l_text = some ⟨oc_l_text, od_l_text, .func (PySem.W.fnOf "_law_text" "_law_text" (defArgs s_l_text) (defBody s_l_text) (defScope s_l_text) .none kV_l_text dc_l_text pm_l_text an_l_text cd_l_text ct_l_text), sl_l_text⟩)
    (c_l_text : PySem.W.codeIn K cd_l_text "_law_text" = true)
    (k_l_text : PySem.W.keepIn K (.ref f_l_text) = true)
    (a_l_equal : PySem.W.nsIn K mainGlobals "_law_equal" = some (some (.ref f_l_equal)))
    (l_l_equal : K.lookup f_l_equal = some ⟨oc_l_equal, od_l_equal, .func (PySem.W.fnOf "_law_equal" "_law_equal" (defArgs s_l_equal) (defBody s_l_equal) (defScope s_l_equal) .none kV_l_equal dc_l_equal pm_l_equal an_l_equal cd_l_equal ct_l_equal), sl_l_equal⟩)
    (c_l_equal : PySem.W.codeIn K cd_l_equal "_law_equal" = true)
    (k_l_equal : PySem.W.keepIn K (.ref f_l_equal) = true)
    (a_Story_count : PySem.W.findIn K (.ref C_Story) "count" = some (some (.ref f_Story_count)))
    (i_Story_count : PySem.W.isFn K (.ref f_Story_count) = true)
    (l_Story_count : K.lookup f_Story_count = some ⟨oc_Story_count, od_Story_count, .func (PySem.W.fnOf "count" "Story.count" (defArgs s_Story_count) (defBody s_Story_count) (defScope s_Story_count) .none kV_Story_count dc_Story_count pm_Story_count an_Story_count cd_Story_count ct_Story_count), sl_Story_count⟩)
    (c_Story_count : PySem.W.codeIn K cd_Story_count "Story.count" = true)
    (k_Story_count : PySem.W.keepIn K (.ref f_Story_count) = true)
    (a_l_error_of : PySem.W.nsIn K mainGlobals "_law_error_of" = some (some (.ref f_l_error_of)))
    (l_l_error_of : K.lookup f_l_error_of = some ⟨oc_l_error_of, od_l_error_of, .func (PySem.W.fnOf "_law_error_of" "_law_error_of" (defArgs s_l_error_of) (defBody s_l_error_of) (defScope s_l_error_of) .none kV_l_error_of dc_l_error_of pm_l_error_of an_l_error_of cd_l_error_of ct_l_error_of), sl_l_error_of⟩)
    (c_l_error_of : PySem.W.codeIn K cd_l_error_of "_law_error_of" = true)
    (k_l_error_of : PySem.W.keepIn K (.ref f_l_error_of) = true)
    (a_l_cycle : PySem.W.nsIn K mainGlobals "_law_cycle" = some (some (.ref f_l_cycle)))
    (l_l_cycle : K.lookup f_l_cycle = some ⟨oc_l_cycle, od_l_cycle, .func (PySem.W.fnOf "_law_cycle" "_law_cycle" (defArgs s_l_cycle) (defBody s_l_cycle) (defScope s_l_cycle) .none kV_l_cycle dc_l_cycle pm_l_cycle an_l_cycle cd_l_cycle ct_l_cycle), sl_l_cycle⟩)
    (c_l_cycle : PySem.W.codeIn K cd_l_cycle "_law_cycle" = true)
    (k_l_cycle : PySem.W.keepIn K (.ref f_l_cycle) = true)
    (a_first_error : PySem.W.nsIn K mainGlobals "first_error" = some (some (.ref f_first_error)))
    (l_first_error : K.lookup f_first_error = some ⟨oc_first_error, od_first_error, .func (PySem.W.fnOf "first_error" "first_error" (defArgs s_first_error) (defBody s_first_error) (defScope s_first_error) .none kV_first_error dc_first_error pm_first_error an_first_error cd_first_error ct_first_error), sl_first_error⟩)
    (c_first_error : PySem.W.codeIn K cd_first_error "first_error" = true)
    (k_first_error : PySem.W.keepIn K (.ref f_first_error) = true)
    (a_l_place : PySem.W.nsIn K mainGlobals "_law_place" = some (some (.ref f_l_place)))
    (l_l_place : K.lookup f_l_place = some ⟨oc_l_place, od_l_place, .func (PySem.W.fnOf "_law_place" "_law_place" (defArgs s_l_place) (defBody s_l_place) (defScope s_l_place) .none kV_l_place dc_l_place pm_l_place an_l_place cd_l_place ct_l_place), sl_l_place⟩)
    (c_l_place : PySem.W.codeIn K cd_l_place "_law_place" = true)
    (k_l_place : PySem.W.keepIn K (.ref f_l_place) = true)
    (a_l_checks : PySem.W.nsIn K mainGlobals "_law_checks" = some (some (.ref f_l_checks)))
    (l_l_checks : K.lookup f_l_checks = some ⟨oc_l_checks, od_l_checks, .func (PySem.W.fnOf "_law_checks" "_law_checks" (defArgs s_l_checks) (defBody s_l_checks) (defScope s_l_checks) .none kV_l_checks dc_l_checks pm_l_checks an_l_checks cd_l_checks ct_l_checks), sl_l_checks⟩)
    (c_l_checks : PySem.W.codeIn K cd_l_checks "_law_checks" = true)
    (k_l_checks : PySem.W.keepIn K (.ref f_l_checks) = true)
    (a_law : PySem.W.nsIn K mainGlobals "law" = some (some (.ref f_law)))
    (l_law : K.lookup f_law = some ⟨oc_law, od_law, .func (PySem.W.fnOf "law" "law" (defArgs s_law) (defBody s_law) (defScope s_law) .none kV_law dc_law pm_law an_law (.ref cc_law) ct_law), sl_law⟩)
    (c_law : PySem.W.codeIn K (.ref cc_law) "law" = true)
    (cl_law : K.lookup cc_law = some ⟨e1_law, e2_law, .fields vs_law, e3_law⟩)
    (cv_law : vs_law[11]? = some (.ref tb_law))
    (ch_law : PySem.W.codeHdIn K cc_law tb_law = true)
    (cn_law : K.lookup tb_law = none)
    (k_law : PySem.W.keepIn K (.ref f_law) = true)
    (pg_Token : PySem.W.plainGet K C_Token Str.empty = true)
    (hd_Token : PySem.W.hasDictIn K C_Token = true)
    (po_Token : PySem.W.plainOver K C_Token = true)
    (sa_Token : PySem.W.findIn K (.ref C_Token) "__setattr__" = some (some (.builtin "object.__setattr__")))
    (mk_Token : PySem.W.makesIn K C_Token = true)
    (kc_Token : PySem.W.keepIn K (.ref C_Token) = true)
    (n_Token_kind : PySem.W.findIn K (.ref C_Token) "kind" = some none)
    (n_Token_text : PySem.W.findIn K (.ref C_Token) "text" = some none)
    (n_Token_line : PySem.W.findIn K (.ref C_Token) "line" = some none)
    (n_Token_column : PySem.W.findIn K (.ref C_Token) "column" = some none)
    (pg_Robot : PySem.W.plainGet K C_Robot Str.empty = true)
    (hd_Robot : PySem.W.hasDictIn K C_Robot = true)
    (po_Robot : PySem.W.plainOver K C_Robot = true)
    (sa_Robot : PySem.W.findIn K (.ref C_Robot) "__setattr__" = some (some (.builtin "object.__setattr__")))
    (mk_Robot : PySem.W.makesIn K C_Robot = true)
    (kc_Robot : PySem.W.keepIn K (.ref C_Robot) = true)
    (n_Robot_start : PySem.W.findIn K (.ref C_Robot) "start" = some none)
    (n_Robot_steps : PySem.W.findIn K (.ref C_Robot) "steps" = some none)
    (n_Robot_names : PySem.W.findIn K (.ref C_Robot) "names" = some none)
    (pg_Plan : PySem.W.plainGet K C_Plan Str.empty = true)
    (hd_Plan : PySem.W.hasDictIn K C_Plan = true)
    (po_Plan : PySem.W.plainOver K C_Plan = true)
    (sa_Plan : PySem.W.findIn K (.ref C_Plan) "__setattr__" = some (some (.builtin "object.__setattr__")))
    (mk_Plan : PySem.W.makesIn K C_Plan = true)
    (kc_Plan : PySem.W.keepIn K (.ref C_Plan) = true)
    (n_Plan_shelf : PySem.W.findIn K (.ref C_Plan) "shelf" = some none)
    (n_Plan_robots : PySem.W.findIn K (.ref C_Plan) "robots" = some none)
    (pg_Parser : PySem.W.plainGet K C_Parser Str.empty = true)
    (hd_Parser : PySem.W.hasDictIn K C_Parser = true)
    (po_Parser : PySem.W.plainOver K C_Parser = true)
    (sa_Parser : PySem.W.findIn K (.ref C_Parser) "__setattr__" = some (some (.builtin "object.__setattr__")))
    (mk_Parser : PySem.W.makesIn K C_Parser = true)
    (kc_Parser : PySem.W.keepIn K (.ref C_Parser) = true)
    (n_Parser_tokens : PySem.W.findIn K (.ref C_Parser) "tokens" = some none)
    (n_Parser_at : PySem.W.findIn K (.ref C_Parser) "at" = some none)
    (n_Parser_faults : PySem.W.findIn K (.ref C_Parser) "faults" = some none)
    (pg_State : PySem.W.plainGet K C_State Str.empty = true)
    (hd_State : PySem.W.hasDictIn K C_State = true)
    (po_State : PySem.W.plainOver K C_State = true)
    (sa_State : PySem.W.findIn K (.ref C_State) "__setattr__" = some (some (.builtin "object.__setattr__")))
    (mk_State : PySem.W.makesIn K C_State = true)
    (kc_State : PySem.W.keepIn K (.ref C_State) = true)
    (n_State_cells : PySem.W.findIn K (.ref C_State) "cells" = some none)
    (n_State_nexts : PySem.W.findIn K (.ref C_State) "nexts" = some none)
    (n_State_holds : PySem.W.findIn K (.ref C_State) "holds" = some none)
    (n_State_shelf : PySem.W.findIn K (.ref C_State) "shelf" = some none)
    (pg_Tick : PySem.W.plainGet K C_Tick Str.empty = true)
    (hd_Tick : PySem.W.hasDictIn K C_Tick = true)
    (po_Tick : PySem.W.plainOver K C_Tick = true)
    (sa_Tick : PySem.W.findIn K (.ref C_Tick) "__setattr__" = some (some (.builtin "object.__setattr__")))
    (mk_Tick : PySem.W.makesIn K C_Tick = true)
    (kc_Tick : PySem.W.keepIn K (.ref C_Tick) = true)
    (n_Tick_words : PySem.W.findIn K (.ref C_Tick) "words" = some none)
    (n_Tick_state : PySem.W.findIn K (.ref C_Tick) "state" = some none)
    (pg_Story : PySem.W.plainGet K C_Story Str.empty = true)
    (hd_Story : PySem.W.hasDictIn K C_Story = true)
    (po_Story : PySem.W.plainOver K C_Story = true)
    (sa_Story : PySem.W.findIn K (.ref C_Story) "__setattr__" = some (some (.builtin "object.__setattr__")))
    (mk_Story : PySem.W.makesIn K C_Story = true)
    (kc_Story : PySem.W.keepIn K (.ref C_Story) = true)
    (n_Story_ticks : PySem.W.findIn K (.ref C_Story) "ticks" = some none)
    (n_Story_start : PySem.W.findIn K (.ref C_Story) "start" = some none)
    (aX_BotError : PySem.W.nsIn K mainGlobals "BotError" = some (some (.ref X_BotError)))
    (aX_InvalidTick : PySem.W.nsIn K mainGlobals "InvalidTick" = some (some (.ref X_InvalidTick)))
    (aX_InvalidNumber : PySem.W.nsIn K mainGlobals "InvalidNumber" = some (some (.ref X_InvalidNumber)))
    (aX_TooLong : PySem.W.nsIn K mainGlobals "TooLong" = some (some (.ref X_TooLong)))
    (aX_DifferentShelves : PySem.W.nsIn K mainGlobals "DifferentShelves" = some (some (.ref X_DifferentShelves)))
    (aX_Contradiction : PySem.W.nsIn K mainGlobals "Contradiction" = some (some (.ref X_Contradiction)))
    (aX_CellFull : PySem.W.nsIn K mainGlobals "CellFull" = some (some (.ref X_CellFull)))
    (aX_CellEmpty : PySem.W.nsIn K mainGlobals "CellEmpty" = some (some (.ref X_CellEmpty)))
    (aX_InvalidName : PySem.W.nsIn K mainGlobals "InvalidName" = some (some (.ref X_InvalidName)))
    (aX_UnknownName : PySem.W.nsIn K mainGlobals "UnknownName" = some (some (.ref X_UnknownName)))
    (aX_SyntaxFault : PySem.W.nsIn K mainGlobals "SyntaxFault" = some (some (.ref X_SyntaxFault)))
    (aX_CheckFault : PySem.W.nsIn K mainGlobals "CheckFault" = some (some (.ref X_CheckFault)))
    (aX_InvalidCode : PySem.W.nsIn K mainGlobals "InvalidCode" = some (some (.ref X_InvalidCode)))
    (aX_InvalidOperation : PySem.W.nsIn K mainGlobals "InvalidOperation" = some (some (.ref X_InvalidOperation)))
    (xr_DifferentShelves : PySem.W.excIn K X_DifferentShelves [.type "ValueError", .type "Exception", .type "BaseException", .type "object"] "ValueError.__new__" = true)
    (xk_DifferentShelves : PySem.W.keepIn K (.ref X_DifferentShelves) = true)
    (xb_DifferentShelves : PySem.W.subIn K (.ref X_DifferentShelves) (.type "BaseException") = some true)
    (xt_DifferentShelves : PySem.W.typeIn K (.ref X_DifferentShelves) = some (.type "type"))
    (xe_DifferentShelves : PySem.W.exmOne K (.ref X_DifferentShelves) (.ref X_BotError) = some true)
    (xcg_DifferentShelves : PySem.W.findIn K (.ref X_DifferentShelves) "__getattribute__" = some (some (.builtin "BaseException.__getattribute__")))
    (xck_DifferentShelves : PySem.W.findIn K (.ref X_DifferentShelves) "__getattr__" = some none)
    (xcs_DifferentShelves : PySem.W.subIn K (.ref X_DifferentShelves) (.type "BaseException") = some true)
    (xcd_DifferentShelves : PySem.W.hasDictIn K X_DifferentShelves = true)
    (xca_DifferentShelves : PySem.W.findIn K (.ref X_DifferentShelves) "__class__" = some (some (.builtin "object.__class__")))
    (xcn_DifferentShelves : PySem.W.specialIn K (.builtin "object.__class__") "__get__" = some (some (.builtin "getset_descriptor.__get__")))
    (xct_DifferentShelves : PySem.W.takesIn K (.builtin "object.__class__") = some true)
    (xcm_DifferentShelves : PySem.W.mroIn K X_DifferentShelves (.type "object") = some true)
    (xo_DifferentShelves_InvalidTick : PySem.W.kitOne K (.ref X_DifferentShelves) (.ref X_InvalidTick) = some false)
    (xo_DifferentShelves_InvalidNumber : PySem.W.kitOne K (.ref X_DifferentShelves) (.ref X_InvalidNumber) = some false)
    (xo_DifferentShelves_TooLong : PySem.W.kitOne K (.ref X_DifferentShelves) (.ref X_TooLong) = some false)
    (xo_DifferentShelves_DifferentShelves : PySem.W.kitOne K (.ref X_DifferentShelves) (.ref X_DifferentShelves) = some true)
    (xo_DifferentShelves_Contradiction : PySem.W.kitOne K (.ref X_DifferentShelves) (.ref X_Contradiction) = some false)
    (xo_DifferentShelves_CellFull : PySem.W.kitOne K (.ref X_DifferentShelves) (.ref X_CellFull) = some false)
    (xo_DifferentShelves_CellEmpty : PySem.W.kitOne K (.ref X_DifferentShelves) (.ref X_CellEmpty) = some false)
    (xo_DifferentShelves_InvalidName : PySem.W.kitOne K (.ref X_DifferentShelves) (.ref X_InvalidName) = some false)
    (xo_DifferentShelves_UnknownName : PySem.W.kitOne K (.ref X_DifferentShelves) (.ref X_UnknownName) = some false)
    (xo_DifferentShelves_SyntaxFault : PySem.W.kitOne K (.ref X_DifferentShelves) (.ref X_SyntaxFault) = some false)
    (xo_DifferentShelves_CheckFault : PySem.W.kitOne K (.ref X_DifferentShelves) (.ref X_CheckFault) = some false)
    (xo_DifferentShelves_InvalidCode : PySem.W.kitOne K (.ref X_DifferentShelves) (.ref X_InvalidCode) = some false)
    (xo_DifferentShelves_InvalidOperation : PySem.W.kitOne K (.ref X_DifferentShelves) (.ref X_InvalidOperation) = some false)
    (xv_DifferentShelves : PySem.W.kitOne K (.ref X_DifferentShelves) (.type "ValueError") = some true)
    (z_len : PySem.W.nsIn K mainGlobals "len" = some none)
    (z_abs : PySem.W.nsIn K mainGlobals "abs" = some none)
    (z_range : PySem.W.nsIn K mainGlobals "range" = some none)
    (z_str : PySem.W.nsIn K mainGlobals "str" = some none)
    (z_int : PySem.W.nsIn K mainGlobals "int" = some none)
    (z_tuple : PySem.W.nsIn K mainGlobals "tuple" = some none)
    (z_list : PySem.W.nsIn K mainGlobals "list" = some none)
    (z_sum : PySem.W.nsIn K mainGlobals "sum" = some none)
    (z_isinstance : PySem.W.nsIn K mainGlobals "isinstance" = some none)
    (z_bool : PySem.W.nsIn K mainGlobals "bool" = some none)
    (z_enumerate : PySem.W.nsIn K mainGlobals "enumerate" = some none)
    (z_zip : PySem.W.nsIn K mainGlobals "zip" = some none)
    (z_min : PySem.W.nsIn K mainGlobals "min" = some none)
    (z_all : PySem.W.nsIn K mainGlobals "all" = some none)
    (z_divmod : PySem.W.nsIn K mainGlobals "divmod" = some none)
    (z_max : PySem.W.nsIn K mainGlobals "max" = some none)
    (z_dict : PySem.W.nsIn K mainGlobals "dict" = some none)
    (z_sorted : PySem.W.nsIn K mainGlobals "sorted" = some none)
    (z_ValueError : PySem.W.nsIn K mainGlobals "ValueError" = some none)
    (a_MOVES : PySem.W.nsIn K mainGlobals "MOVES" = some (some (.ref A_MOVES)))
    (l_MOVES : K.lookup A_MOVES = some ⟨.type "tuple", none, .seq #[.str (Str.ofString "left") t0_MOVES, .str (Str.ofString "right") t1_MOVES, .str (Str.ofString "pick") t2_MOVES, .str (Str.ofString "put") t3_MOVES, .str (Str.ofString "wait") t4_MOVES] nn_MOVES, sl_MOVES⟩)
    (a_JUMPS : PySem.W.nsIn K mainGlobals "JUMPS" = some (some (.ref A_JUMPS)))
    (l_JUMPS : K.lookup A_JUMPS = some ⟨.type "tuple", none, .seq #[.str (Str.ofString "goto") t0_JUMPS, .str (Str.ofString "empty") t1_JUMPS, .str (Str.ofString "held") t2_JUMPS] nn_JUMPS, sl_JUMPS⟩)
    (a_KEYWORDS : PySem.W.nsIn K mainGlobals "KEYWORDS" = some (some (.ref A_KEYWORDS)))
    (l_KEYWORDS : K.lookup A_KEYWORDS = some ⟨.type "tuple", none, .seq #[.str (Str.ofString "shelf") t0_KEYWORDS, .str (Str.ofString "robot") t1_KEYWORDS, .str (Str.ofString "left") t2_KEYWORDS, .str (Str.ofString "right") t3_KEYWORDS, .str (Str.ofString "pick") t4_KEYWORDS, .str (Str.ofString "put") t5_KEYWORDS, .str (Str.ofString "wait") t6_KEYWORDS, .str (Str.ofString "goto") t7_KEYWORDS, .str (Str.ofString "empty") t8_KEYWORDS, .str (Str.ofString "held") t9_KEYWORDS] nn_KEYWORDS, sl_KEYWORDS⟩)
    (a_LETTERS : PySem.W.nsIn K mainGlobals "LETTERS" = some (some (.str (Str.ofString "abcdefghijklmnopqrstuvwxyz") t_LETTERS)))
    (a_DIGITS : PySem.W.nsIn K mainGlobals "DIGITS" = some (some (.str (Str.ofString "0123456789") t_DIGITS)))
    (a_SPACES : PySem.W.nsIn K mainGlobals "SPACES" = some (some (.str (Str.ofString " \n") t_SPACES)))
    (a_SIGNS : PySem.W.nsIn K mainGlobals "SIGNS" = some (some (.str (Str.ofString ";:{}") t_SIGNS)))
    (a_MAX_LETTERS : PySem.W.nsIn K mainGlobals "MAX_LETTERS" = some (some (.int 8 t_MAX_LETTERS)))
    (a_MAX_DIGITS : PySem.W.nsIn K mainGlobals "MAX_DIGITS" = some (some (.int 2 t_MAX_DIGITS)))
    (a_NAME : PySem.W.nsIn K mainGlobals "NAME" = some (some (.str (Str.ofString "name") t_NAME)))
    (a_NUMBER : PySem.W.nsIn K mainGlobals "NUMBER" = some (some (.str (Str.ofString "number") t_NUMBER)))
    (a_KEYWORD : PySem.W.nsIn K mainGlobals "KEYWORD" = some (some (.str (Str.ofString "keyword") t_KEYWORD)))
    (a_SIGN : PySem.W.nsIn K mainGlobals "SIGN" = some (some (.str (Str.ofString "sign") t_SIGN)))
    (a_END : PySem.W.nsIn K mainGlobals "END" = some (some (.str (Str.ofString "end") t_END)))
    (a_MIN_CELLS : PySem.W.nsIn K mainGlobals "MIN_CELLS" = some (some (.int 3 t_MIN_CELLS)))
    (a_MAX_CELLS : PySem.W.nsIn K mainGlobals "MAX_CELLS" = some (some (.int 12 t_MAX_CELLS)))
    (a_MAX_BOXES : PySem.W.nsIn K mainGlobals "MAX_BOXES" = some (some (.int 3 t_MAX_BOXES)))
    (a_MAX_STEPS : PySem.W.nsIn K mainGlobals "MAX_STEPS" = some (some (.int 20 t_MAX_STEPS)))
    (a_MAX_STATES : PySem.W.nsIn K mainGlobals "MAX_STATES" = some (some (.int 20000 t_MAX_STATES)))
    (a_BLOCKED : PySem.W.nsIn K mainGlobals "BLOCKED" = some (some (.str (Str.ofString "blocked") t_BLOCKED)))
    (tnd : ([tb_law] : List Addr).Nodup)
    (rec_law : ((recsOf q).any fun d => d.name == "law") = true)
    : LamX.LawAtS l w K CX0 20 63 "_law_script" mg fa h := by
  have e := hfa.symm.trans (PySem.W.mg_of X G a_law)
  injection e with e
  injection e with e
  rw [e]
  let ad : Ad := { f_l_random := f_l_random, d_l_random := PySem.W.fnOf "_law_random" "_law_random" (defArgs s_l_random) (defBody s_l_random) (defScope s_l_random) .none kV_l_random dc_l_random pm_l_random an_l_random cd_l_random ct_l_random, f_l_below := f_l_below, d_l_below := PySem.W.fnOf "_law_below" "_law_below" (defArgs s_l_below) (defBody s_l_below) (defScope s_l_below) .none kV_l_below dc_l_below pm_l_below an_l_below cd_l_below ct_l_below, f_l_empty := f_l_empty, d_l_empty := PySem.W.fnOf "_law_empty" "_law_empty" (defArgs s_l_empty) (defBody s_l_empty) (defScope s_l_empty) .none kV_l_empty dc_l_empty pm_l_empty an_l_empty cd_l_empty ct_l_empty, f_l_act := f_l_act, d_l_act := PySem.W.fnOf "_law_act" "_law_act" (defArgs s_l_act) (defBody s_l_act) (defScope s_l_act) .none kV_l_act dc_l_act pm_l_act an_l_act cd_l_act ct_l_act, f_l_tick := f_l_tick, d_l_tick := PySem.W.fnOf "_law_tick" "_law_tick" (defArgs s_l_tick) (defBody s_l_tick) (defScope s_l_tick) .none kV_l_tick dc_l_tick pm_l_tick an_l_tick cd_l_tick ct_l_tick, f_l_repeats := f_l_repeats, d_l_repeats := PySem.W.fnOf "_law_repeats" "_law_repeats" (defArgs s_l_repeats) (defBody s_l_repeats) (defScope s_l_repeats) .none kV_l_repeats dc_l_repeats pm_l_repeats an_l_repeats cd_l_repeats ct_l_repeats, f_l_steps := f_l_steps, d_l_steps := PySem.W.fnOf "_law_steps" "_law_steps" (defArgs s_l_steps) (defBody s_l_steps) (defScope s_l_steps) .none kV_l_steps dc_l_steps pm_l_steps an_l_steps cd_l_steps ct_l_steps, f_l_plan := f_l_plan, d_l_plan := PySem.W.fnOf "_law_plan" "_law_plan" (defArgs s_l_plan) (defBody s_l_plan) (defScope s_l_plan) .none kV_l_plan dc_l_plan pm_l_plan an_l_plan cd_l_plan ct_l_plan, f_l_doubled := f_l_doubled, d_l_doubled := PySem.W.fnOf "_law_doubled" "_law_doubled" (defArgs s_l_doubled) (defBody s_l_doubled) (defScope s_l_doubled) .none kV_l_doubled dc_l_doubled pm_l_doubled an_l_doubled cd_l_doubled ct_l_doubled, f_l_other := f_l_other, d_l_other := PySem.W.fnOf "_law_other" "_law_other" (defArgs s_l_other) (defBody s_l_other) (defScope s_l_other) .none kV_l_other dc_l_other pm_l_other an_l_other cd_l_other ct_l_other, p_Story_size := p_Story_size, f_Story_size := f_Story_size, d_Story_size := PySem.W.fnOf "size" "Story.size" (defArgs s_Story_size) (defBody s_Story_size) (defScope s_Story_size) .none kV_Story_size dc_Story_size pm_Story_size an_Story_size cd_Story_size ct_Story_size, f_Parser_peek := f_Parser_peek, d_Parser_peek := PySem.W.fnOf "peek" "Parser.peek" (defArgs s_Parser_peek) (defBody s_Parser_peek) (defScope s_Parser_peek) .none kV_Parser_peek dc_Parser_peek pm_Parser_peek an_Parser_peek cd_Parser_peek ct_Parser_peek, f_Token_init := f_Token_init, d_Token_init := PySem.W.fnOf "__init__" "Token.__init__" (defArgs s_Token_init) (defBody s_Token_init) (defScope s_Token_init) .none kV_Token_init dc_Token_init pm_Token_init an_Token_init cd_Token_init ct_Token_init, f_Robot_init := f_Robot_init, d_Robot_init := PySem.W.fnOf "__init__" "Robot.__init__" (defArgs s_Robot_init) (defBody s_Robot_init) (defScope s_Robot_init) .none kV_Robot_init dc_Robot_init pm_Robot_init an_Robot_init cd_Robot_init ct_Robot_init, f_Plan_init := f_Plan_init, d_Plan_init := PySem.W.fnOf "__init__" "Plan.__init__" (defArgs s_Plan_init) (defBody s_Plan_init) (defScope s_Plan_init) .none kV_Plan_init dc_Plan_init pm_Plan_init an_Plan_init cd_Plan_init ct_Plan_init, f_Parser_init := f_Parser_init, d_Parser_init := PySem.W.fnOf "__init__" "Parser.__init__" (defArgs s_Parser_init) (defBody s_Parser_init) (defScope s_Parser_init) .none kV_Parser_init dc_Parser_init pm_Parser_init an_Parser_init cd_Parser_init ct_Parser_init, f_State_init := f_State_init, d_State_init := PySem.W.fnOf "__init__" "State.__init__" (defArgs s_State_init) (defBody s_State_init) (defScope s_State_init) .none kV_State_init dc_State_init pm_State_init an_State_init cd_State_init ct_State_init, f_Tick_init := f_Tick_init, d_Tick_init := PySem.W.fnOf "__init__" "Tick.__init__" (defArgs s_Tick_init) (defBody s_Tick_init) (defScope s_Tick_init) .none kV_Tick_init dc_Tick_init pm_Tick_init an_Tick_init cd_Tick_init ct_Tick_init, f_first_state := f_first_state, d_first_state := PySem.W.fnOf "first_state" "first_state" (defArgs s_first_state) (defBody s_first_state) (defScope s_first_state) .none kV_first_state dc_first_state pm_first_state an_first_state cd_first_state ct_first_state, p_State_key := p_State_key, f_State_key := f_State_key, d_State_key := PySem.W.fnOf "key" "State.key" (defArgs s_State_key) (defBody s_State_key) (defScope s_State_key) .none kV_State_key dc_State_key pm_State_key an_State_key cd_State_key ct_State_key, f_replaced := f_replaced, d_replaced := PySem.W.fnOf "replaced" "replaced" (defArgs s_replaced) (defBody s_replaced) (defScope s_replaced) .none kV_replaced dc_replaced pm_replaced an_replaced cd_replaced ct_replaced, f_act := f_act, d_act := PySem.W.fnOf "act" "act" (defArgs s_act) (defBody s_act) (defScope s_act) .none kV_act dc_act pm_act an_act cd_act ct_act, f_next_tick := f_next_tick, d_next_tick := PySem.W.fnOf "next_tick" "next_tick" (defArgs s_next_tick) (defBody s_next_tick) (defScope s_next_tick) .none kV_next_tick dc_next_tick pm_next_tick an_next_tick cd_next_tick ct_next_tick, f_Story_init := f_Story_init, d_Story_init := PySem.W.fnOf "__init__" "Story.__init__" (defArgs s_Story_init) (defBody s_Story_init) (defScope s_Story_init) .none kV_Story_init dc_Story_init pm_Story_init an_Story_init cd_Story_init ct_Story_init, f_Parser_fail := f_Parser_fail, d_Parser_fail := PySem.W.fnOf "fail" "Parser.fail" (defArgs s_Parser_fail) (defBody s_Parser_fail) (defScope s_Parser_fail) .none kV_Parser_fail dc_Parser_fail pm_Parser_fail an_Parser_fail cd_Parser_fail ct_Parser_fail, f_Parser_take_word := f_Parser_take_word, d_Parser_take_word := PySem.W.fnOf "take_word" "Parser.take_word" (defArgs s_Parser_take_word) (defBody s_Parser_take_word) (defScope s_Parser_take_word) .none kV_Parser_take_word dc_Parser_take_word pm_Parser_take_word an_Parser_take_word cd_Parser_take_word ct_Parser_take_word, f_Parser_take := f_Parser_take, d_Parser_take := PySem.W.fnOf "take" "Parser.take" (defArgs s_Parser_take) (defBody s_Parser_take) (defScope s_Parser_take) .none kV_Parser_take dc_Parser_take pm_Parser_take an_Parser_take cd_Parser_take ct_Parser_take, f_Parser_found := f_Parser_found, d_Parser_found := PySem.W.fnOf "found" "Parser.found" (defArgs s_Parser_found) (defBody s_Parser_found) (defScope s_Parser_found) .none kV_Parser_found dc_Parser_found pm_Parser_found an_Parser_found cd_Parser_found ct_Parser_found, f_Parser_parse_shelf := f_Parser_parse_shelf, d_Parser_parse_shelf := PySem.W.fnOf "parse_shelf" "Parser.parse_shelf" (defArgs s_Parser_parse_shelf) (defBody s_Parser_parse_shelf) (defScope s_Parser_parse_shelf) .none kV_Parser_parse_shelf dc_Parser_parse_shelf pm_Parser_parse_shelf an_Parser_parse_shelf cd_Parser_parse_shelf ct_Parser_parse_shelf, f_Parser_parse_step := f_Parser_parse_step, d_Parser_parse_step := PySem.W.fnOf "parse_step" "Parser.parse_step" (defArgs s_Parser_parse_step) (defBody s_Parser_parse_step) (defScope s_Parser_parse_step) .none kV_Parser_parse_step dc_Parser_parse_step pm_Parser_parse_step an_Parser_parse_step cd_Parser_parse_step ct_Parser_parse_step, f_Parser_parse_robot := f_Parser_parse_robot, d_Parser_parse_robot := PySem.W.fnOf "parse_robot" "Parser.parse_robot" (defArgs s_Parser_parse_robot) (defBody s_Parser_parse_robot) (defScope s_Parser_parse_robot) .none kV_Parser_parse_robot dc_Parser_parse_robot pm_Parser_parse_robot an_Parser_parse_robot cd_Parser_parse_robot ct_Parser_parse_robot, f_Parser_parse_plan := f_Parser_parse_plan, d_Parser_parse_plan := PySem.W.fnOf "parse_plan" "Parser.parse_plan" (defArgs s_Parser_parse_plan) (defBody s_Parser_parse_plan) (defScope s_Parser_parse_plan) .none kV_Parser_parse_plan dc_Parser_parse_plan pm_Parser_parse_plan an_Parser_parse_plan cd_Parser_parse_plan ct_Parser_parse_plan, f_run_end := f_run_end, d_run_end := PySem.W.fnOf "run_end" "run_end" (defArgs s_run_end) (defBody s_run_end) (defScope s_run_end) .none kV_run_end dc_run_end pm_run_end an_run_end cd_run_end ct_run_end, f_read_token := f_read_token, d_read_token := PySem.W.fnOf "read_token" "read_token" (defArgs s_read_token) (defBody s_read_token) (defScope s_read_token) .none kV_read_token dc_read_token pm_read_token an_read_token cd_read_token ct_read_token, f_tokenize := f_tokenize, d_tokenize := PySem.W.fnOf "tokenize" "tokenize" (defArgs s_tokenize) (defBody s_tokenize) (defScope s_tokenize) .none kV_tokenize dc_tokenize pm_tokenize an_tokenize cd_tokenize ct_tokenize, f_load := f_load, d_load := PySem.W.fnOf "load" "load" (defArgs s_load) (defBody s_load) (defScope s_load) .none kV_load dc_load pm_load an_load cd_load ct_load, f_Story_happens := f_Story_happens, d_Story_happens := PySem.W.fnOf "happens" "Story.happens" (defArgs s_Story_happens) (defBody s_Story_happens) (defScope s_Story_happens) .none kV_Story_happens dc_Story_happens pm_Story_happens an_Story_happens cd_Story_happens ct_Story_happens, f_first_difference := f_first_difference, d_first_difference := PySem.W.fnOf "first_difference" "first_difference" (defArgs s_first_difference) (defBody s_first_difference) (defScope s_first_difference) .none kV_first_difference dc_first_difference pm_first_difference an_first_difference cd_first_difference ct_first_difference, f_l_text := f_l_text, d_l_text := PySem.W.fnOf "_law_text" "_law_text" (defArgs s_l_text) (defBody s_l_text) (defScope s_l_text) .none kV_l_text dc_l_text pm_l_text an_l_text cd_l_text ct_l_text, f_l_equal := f_l_equal, d_l_equal := PySem.W.fnOf "_law_equal" "_law_equal" (defArgs s_l_equal) (defBody s_l_equal) (defScope s_l_equal) .none kV_l_equal dc_l_equal pm_l_equal an_l_equal cd_l_equal ct_l_equal, f_Story_count := f_Story_count, d_Story_count := PySem.W.fnOf "count" "Story.count" (defArgs s_Story_count) (defBody s_Story_count) (defScope s_Story_count) .none kV_Story_count dc_Story_count pm_Story_count an_Story_count cd_Story_count ct_Story_count, f_l_error_of := f_l_error_of, d_l_error_of := PySem.W.fnOf "_law_error_of" "_law_error_of" (defArgs s_l_error_of) (defBody s_l_error_of) (defScope s_l_error_of) .none kV_l_error_of dc_l_error_of pm_l_error_of an_l_error_of cd_l_error_of ct_l_error_of, f_l_cycle := f_l_cycle, d_l_cycle := PySem.W.fnOf "_law_cycle" "_law_cycle" (defArgs s_l_cycle) (defBody s_l_cycle) (defScope s_l_cycle) .none kV_l_cycle dc_l_cycle pm_l_cycle an_l_cycle cd_l_cycle ct_l_cycle, f_first_error := f_first_error, d_first_error := PySem.W.fnOf "first_error" "first_error" (defArgs s_first_error) (defBody s_first_error) (defScope s_first_error) .none kV_first_error dc_first_error pm_first_error an_first_error cd_first_error ct_first_error, f_l_place := f_l_place, d_l_place := PySem.W.fnOf "_law_place" "_law_place" (defArgs s_l_place) (defBody s_l_place) (defScope s_l_place) .none kV_l_place dc_l_place pm_l_place an_l_place cd_l_place ct_l_place, f_l_checks := f_l_checks, d_l_checks := PySem.W.fnOf "_law_checks" "_law_checks" (defArgs s_l_checks) (defBody s_l_checks) (defScope s_l_checks) .none kV_l_checks dc_l_checks pm_l_checks an_l_checks cd_l_checks ct_l_checks, cc_law := cc_law, tb_law := tb_law, f_law := f_law, d_law := PySem.W.fnOf "law" "law" (defArgs s_law) (defBody s_law) (defScope s_law) .none kV_law dc_law pm_law an_law (.ref cc_law) ct_law, C_Token := C_Token, C_Robot := C_Robot, C_Plan := C_Plan, C_Parser := C_Parser, C_State := C_State, C_Tick := C_Tick, C_Story := C_Story, X_BotError := X_BotError, X_InvalidTick := X_InvalidTick, X_InvalidNumber := X_InvalidNumber, X_TooLong := X_TooLong, X_DifferentShelves := X_DifferentShelves, X_Contradiction := X_Contradiction, X_CellFull := X_CellFull, X_CellEmpty := X_CellEmpty, X_InvalidName := X_InvalidName, X_UnknownName := X_UnknownName, X_SyntaxFault := X_SyntaxFault, X_CheckFault := X_CheckFault, X_InvalidCode := X_InvalidCode, X_InvalidOperation := X_InvalidOperation, A_MOVES := A_MOVES, A_JUMPS := A_JUMPS, A_KEYWORDS := A_KEYWORDS, t_LETTERS := t_LETTERS, t_DIGITS := t_DIGITS, t_SPACES := t_SPACES, t_SIGNS := t_SIGNS, t_MAX_LETTERS := t_MAX_LETTERS, t_MAX_DIGITS := t_MAX_DIGITS, t_NAME := t_NAME, t_NUMBER := t_NUMBER, t_KEYWORD := t_KEYWORD, t_SIGN := t_SIGN, t_END := t_END, t_MIN_CELLS := t_MIN_CELLS, t_MAX_CELLS := t_MAX_CELLS, t_MAX_BOXES := t_MAX_BOXES, t_MAX_STEPS := t_MAX_STEPS, t_MAX_STATES := t_MAX_STATES, t_BLOCKED := t_BLOCKED }
  have T : Txt K mg ad := { F_l_random := fun_mk (st := s_l_random) l_l_random c_l_random k_l_random, m_l_random := PySem.W.mg_of X G a_l_random, F_l_below := fun_mk (st := s_l_below) l_l_below c_l_below k_l_below, m_l_below := PySem.W.mg_of X G a_l_below, F_l_empty := fun_mk (st := s_l_empty) l_l_empty c_l_empty k_l_empty, m_l_empty := PySem.W.mg_of X G a_l_empty, F_l_act := fun_mk (st := s_l_act) l_l_act c_l_act k_l_act, m_l_act := PySem.W.mg_of X G a_l_act, F_l_tick := fun_mk (st := s_l_tick) l_l_tick c_l_tick k_l_tick, m_l_tick := PySem.W.mg_of X G a_l_tick, F_l_repeats := fun_mk (st := s_l_repeats) l_l_repeats c_l_repeats k_l_repeats, m_l_repeats := PySem.W.mg_of X G a_l_repeats, F_l_steps := fun_mk (st := s_l_steps) l_l_steps c_l_steps k_l_steps, m_l_steps := PySem.W.mg_of X G a_l_steps, F_l_plan := fun_mk (st := s_l_plan) l_l_plan c_l_plan k_l_plan, m_l_plan := PySem.W.mg_of X G a_l_plan, F_l_doubled := fun_mk (st := s_l_doubled) l_l_doubled c_l_doubled k_l_doubled, m_l_doubled := PySem.W.mg_of X G a_l_doubled, F_l_other := fun_mk (st := s_l_other) l_l_other c_l_other k_l_other, m_l_other := PySem.W.mg_of X G a_l_other, P_Story_size := ⟨pa_Story_size, pg_Story_size, pt_Story_size, _, pr_Story_size⟩, F_Story_size := fun_mk (st := s_Story_size) l_Story_size c_Story_size k_Story_size, F_Parser_peek := fun_mk (st := s_Parser_peek) l_Parser_peek c_Parser_peek k_Parser_peek, M_Parser_peek := ⟨a_Parser_peek, i_Parser_peek, k_Parser_peek⟩, F_Token_init := fun_mk (st := s_Token_init) l_Token_init c_Token_init k_Token_init, F_Robot_init := fun_mk (st := s_Robot_init) l_Robot_init c_Robot_init k_Robot_init, F_Plan_init := fun_mk (st := s_Plan_init) l_Plan_init c_Plan_init k_Plan_init, F_Parser_init := fun_mk (st := s_Parser_init) l_Parser_init c_Parser_init k_Parser_init, F_State_init := fun_mk (st := s_State_init) l_State_init c_State_init k_State_init, F_Tick_init := fun_mk (st := s_Tick_init) l_Tick_init c_Tick_init k_Tick_init, F_first_state := fun_mk (st := s_first_state) l_first_state c_first_state k_first_state, m_first_state := PySem.W.mg_of X G a_first_state, P_State_key := ⟨pa_State_key, pg_State_key, pt_State_key, _, pr_State_key⟩, F_State_key := fun_mk (st := s_State_key) l_State_key c_State_key k_State_key, F_replaced := fun_mk (st := s_replaced) l_replaced c_replaced k_replaced, m_replaced := PySem.W.mg_of X G a_replaced, F_act := fun_mk (st := s_act) l_act c_act k_act, m_act := PySem.W.mg_of X G a_act, F_next_tick := fun_mk (st := s_next_tick) l_next_tick c_next_tick k_next_tick, m_next_tick := PySem.W.mg_of X G a_next_tick, F_Story_init := fun_mk (st := s_Story_init) l_Story_init c_Story_init k_Story_init, F_Parser_fail := fun_mk (st := s_Parser_fail) l_Parser_fail c_Parser_fail k_Parser_fail, M_Parser_fail := ⟨a_Parser_fail, i_Parser_fail, k_Parser_fail⟩, F_Parser_take_word := fun_mk (st := s_Parser_take_word) l_Parser_take_word c_Parser_take_word k_Parser_take_word, M_Parser_take_word := ⟨a_Parser_take_word, i_Parser_take_word, k_Parser_take_word⟩, F_Parser_take := fun_mk (st := s_Parser_take) l_Parser_take c_Parser_take k_Parser_take, M_Parser_take := ⟨a_Parser_take, i_Parser_take, k_Parser_take⟩, F_Parser_found := fun_mk (st := s_Parser_found) l_Parser_found c_Parser_found k_Parser_found, M_Parser_found := ⟨a_Parser_found, i_Parser_found, k_Parser_found⟩, F_Parser_parse_shelf := fun_mk (st := s_Parser_parse_shelf) l_Parser_parse_shelf c_Parser_parse_shelf k_Parser_parse_shelf, M_Parser_parse_shelf := ⟨a_Parser_parse_shelf, i_Parser_parse_shelf, k_Parser_parse_shelf⟩, F_Parser_parse_step := fun_mk (st := s_Parser_parse_step) l_Parser_parse_step c_Parser_parse_step k_Parser_parse_step, M_Parser_parse_step := ⟨a_Parser_parse_step, i_Parser_parse_step, k_Parser_parse_step⟩, F_Parser_parse_robot := fun_mk (st := s_Parser_parse_robot) l_Parser_parse_robot c_Parser_parse_robot k_Parser_parse_robot, M_Parser_parse_robot := ⟨a_Parser_parse_robot, i_Parser_parse_robot, k_Parser_parse_robot⟩, F_Parser_parse_plan := fun_mk (st := s_Parser_parse_plan) l_Parser_parse_plan c_Parser_parse_plan k_Parser_parse_plan, M_Parser_parse_plan := ⟨a_Parser_parse_plan, i_Parser_parse_plan, k_Parser_parse_plan⟩, F_run_end := fun_mk (st := s_run_end) l_run_end c_run_end k_run_end, m_run_end := PySem.W.mg_of X G a_run_end, F_read_token := fun_mk (st := s_read_token) l_read_token c_read_token k_read_token, m_read_token := PySem.W.mg_of X G a_read_token, F_tokenize := fun_mk (st := s_tokenize) l_tokenize c_tokenize k_tokenize, m_tokenize := PySem.W.mg_of X G a_tokenize, F_load := fun_mk (st := s_load) l_load c_load k_load, m_load := PySem.W.mg_of X G a_load, F_Story_happens := fun_mk (st := s_Story_happens) l_Story_happens c_Story_happens k_Story_happens, M_Story_happens := ⟨a_Story_happens, i_Story_happens, k_Story_happens⟩, F_first_difference := fun_mk (st := s_first_difference) l_first_difference c_first_difference k_first_difference, m_first_difference := PySem.W.mg_of X G a_first_difference, F_l_text := fun_mk (st := s_l_text) l_l_text c_l_text k_l_text, m_l_text := PySem.W.mg_of X G a_l_text, F_l_equal := fun_mk (st := s_l_equal) l_l_equal c_l_equal k_l_equal, m_l_equal := PySem.W.mg_of X G a_l_equal, F_Story_count := fun_mk (st := s_Story_count) l_Story_count c_Story_count k_Story_count, M_Story_count := ⟨a_Story_count, i_Story_count, k_Story_count⟩, F_l_error_of := fun_mk (st := s_l_error_of) l_l_error_of c_l_error_of k_l_error_of, m_l_error_of := PySem.W.mg_of X G a_l_error_of, F_l_cycle := fun_mk (st := s_l_cycle) l_l_cycle c_l_cycle k_l_cycle, m_l_cycle := PySem.W.mg_of X G a_l_cycle, F_first_error := fun_mk (st := s_first_error) l_first_error c_first_error k_first_error, m_first_error := PySem.W.mg_of X G a_first_error, F_l_place := fun_mk (st := s_l_place) l_l_place c_l_place k_l_place, m_l_place := PySem.W.mg_of X G a_l_place, F_l_checks := fun_mk (st := s_l_checks) l_l_checks c_l_checks k_l_checks, m_l_checks := PySem.W.mg_of X G a_l_checks, ce_law := rfl, F_law := fun_mk (st := s_law) l_law c_law k_law, m_law := PySem.W.mg_of X G a_law, m_Token := PySem.W.mg_of X G aC_Token, cl_Token := ⟨pg_Token, hd_Token, po_Token, sa_Token⟩, mk_Token := ⟨mk_Token, a_Token_init, i_Token_init, kc_Token⟩, n_Token_kind := n_Token_kind, n_Token_text := n_Token_text, n_Token_line := n_Token_line, n_Token_column := n_Token_column, m_Robot := PySem.W.mg_of X G aC_Robot, cl_Robot := ⟨pg_Robot, hd_Robot, po_Robot, sa_Robot⟩, mk_Robot := ⟨mk_Robot, a_Robot_init, i_Robot_init, kc_Robot⟩, n_Robot_start := n_Robot_start, n_Robot_steps := n_Robot_steps, n_Robot_names := n_Robot_names, m_Plan := PySem.W.mg_of X G aC_Plan, cl_Plan := ⟨pg_Plan, hd_Plan, po_Plan, sa_Plan⟩, mk_Plan := ⟨mk_Plan, a_Plan_init, i_Plan_init, kc_Plan⟩, n_Plan_shelf := n_Plan_shelf, n_Plan_robots := n_Plan_robots, m_Parser := PySem.W.mg_of X G aC_Parser, cl_Parser := ⟨pg_Parser, hd_Parser, po_Parser, sa_Parser⟩, mk_Parser := ⟨mk_Parser, a_Parser_init, i_Parser_init, kc_Parser⟩, n_Parser_tokens := n_Parser_tokens, n_Parser_at := n_Parser_at, n_Parser_faults := n_Parser_faults, m_State := PySem.W.mg_of X G aC_State, cl_State := ⟨pg_State, hd_State, po_State, sa_State⟩, mk_State := ⟨mk_State, a_State_init, i_State_init, kc_State⟩, n_State_cells := n_State_cells, n_State_nexts := n_State_nexts, n_State_holds := n_State_holds, n_State_shelf := n_State_shelf, m_Tick := PySem.W.mg_of X G aC_Tick, cl_Tick := ⟨pg_Tick, hd_Tick, po_Tick, sa_Tick⟩, mk_Tick := ⟨mk_Tick, a_Tick_init, i_Tick_init, kc_Tick⟩, n_Tick_words := n_Tick_words, n_Tick_state := n_Tick_state, m_Story := PySem.W.mg_of X G aC_Story, cl_Story := ⟨pg_Story, hd_Story, po_Story, sa_Story⟩, mk_Story := ⟨mk_Story, a_Story_init, i_Story_init, kc_Story⟩, n_Story_ticks := n_Story_ticks, n_Story_start := n_Story_start, e_BotError := PySem.W.mg_of X G aX_BotError, e_InvalidTick := PySem.W.mg_of X G aX_InvalidTick, e_InvalidNumber := PySem.W.mg_of X G aX_InvalidNumber, e_TooLong := PySem.W.mg_of X G aX_TooLong, e_DifferentShelves := PySem.W.mg_of X G aX_DifferentShelves, e_Contradiction := PySem.W.mg_of X G aX_Contradiction, e_CellFull := PySem.W.mg_of X G aX_CellFull, e_CellEmpty := PySem.W.mg_of X G aX_CellEmpty, e_InvalidName := PySem.W.mg_of X G aX_InvalidName, e_UnknownName := PySem.W.mg_of X G aX_UnknownName, e_SyntaxFault := PySem.W.mg_of X G aX_SyntaxFault, e_CheckFault := PySem.W.mg_of X G aX_CheckFault, e_InvalidCode := PySem.W.mg_of X G aX_InvalidCode, e_InvalidOperation := PySem.W.mg_of X G aX_InvalidOperation, xr_DifferentShelves := xr_DifferentShelves, xk_DifferentShelves := xk_DifferentShelves, xb_DifferentShelves := xb_DifferentShelves, xt_DifferentShelves := xt_DifferentShelves, xe_DifferentShelves := xe_DifferentShelves, xc_DifferentShelves := ⟨xcg_DifferentShelves, xck_DifferentShelves, xcs_DifferentShelves, xcd_DifferentShelves, xca_DifferentShelves, xcn_DifferentShelves, xct_DifferentShelves, xcm_DifferentShelves⟩, xo_DifferentShelves_InvalidTick := xo_DifferentShelves_InvalidTick, xo_DifferentShelves_InvalidNumber := xo_DifferentShelves_InvalidNumber, xo_DifferentShelves_TooLong := xo_DifferentShelves_TooLong, xo_DifferentShelves_DifferentShelves := xo_DifferentShelves_DifferentShelves, xo_DifferentShelves_Contradiction := xo_DifferentShelves_Contradiction, xo_DifferentShelves_CellFull := xo_DifferentShelves_CellFull, xo_DifferentShelves_CellEmpty := xo_DifferentShelves_CellEmpty, xo_DifferentShelves_InvalidName := xo_DifferentShelves_InvalidName, xo_DifferentShelves_UnknownName := xo_DifferentShelves_UnknownName, xo_DifferentShelves_SyntaxFault := xo_DifferentShelves_SyntaxFault, xo_DifferentShelves_CheckFault := xo_DifferentShelves_CheckFault, xo_DifferentShelves_InvalidCode := xo_DifferentShelves_InvalidCode, xo_DifferentShelves_InvalidOperation := xo_DifferentShelves_InvalidOperation, xv_DifferentShelves := xv_DifferentShelves, z_len := PySem.W.mg_none_of X G z_len, z_abs := PySem.W.mg_none_of X G z_abs, z_range := PySem.W.mg_none_of X G z_range, z_str := PySem.W.mg_none_of X G z_str, z_int := PySem.W.mg_none_of X G z_int, z_tuple := PySem.W.mg_none_of X G z_tuple, z_list := PySem.W.mg_none_of X G z_list, z_sum := PySem.W.mg_none_of X G z_sum, z_isinstance := PySem.W.mg_none_of X G z_isinstance, z_bool := PySem.W.mg_none_of X G z_bool, z_enumerate := PySem.W.mg_none_of X G z_enumerate, z_zip := PySem.W.mg_none_of X G z_zip, z_min := PySem.W.mg_none_of X G z_min, z_all := PySem.W.mg_none_of X G z_all, z_divmod := PySem.W.mg_none_of X G z_divmod, z_max := PySem.W.mg_none_of X G z_max, z_dict := PySem.W.mg_none_of X G z_dict, z_sorted := PySem.W.mg_none_of X G z_sorted, z_ValueError := PySem.W.mg_none_of X G z_ValueError, c_MOVES := PySem.W.mg_of X G a_MOVES, k_MOVES := ⟨_, l_MOVES, rfl, rfl⟩, q_MOVES := fun H => .inr ⟨_, _, _, l_MOVES, rfl, rfl, (small 5 (Nat.le_refl _) (by decide)), .cons ⟨_, rfl⟩ (.cons ⟨_, rfl⟩ (.cons ⟨_, rfl⟩ (.cons ⟨_, rfl⟩ (.cons ⟨_, rfl⟩ (.nil)))))⟩, c_JUMPS := PySem.W.mg_of X G a_JUMPS, k_JUMPS := ⟨_, l_JUMPS, rfl, rfl⟩, q_JUMPS := fun H => .inr ⟨_, _, _, l_JUMPS, rfl, rfl, (small 3 (Nat.le_refl _) (by decide)), .cons ⟨_, rfl⟩ (.cons ⟨_, rfl⟩ (.cons ⟨_, rfl⟩ (.nil)))⟩, c_KEYWORDS := PySem.W.mg_of X G a_KEYWORDS, k_KEYWORDS := ⟨_, l_KEYWORDS, rfl, rfl⟩, q_KEYWORDS := fun H => .inr ⟨_, _, _, l_KEYWORDS, rfl, rfl, (small 10 (Nat.le_refl _) (by decide)), .cons ⟨_, rfl⟩ (.cons ⟨_, rfl⟩ (.cons ⟨_, rfl⟩ (.cons ⟨_, rfl⟩ (.cons ⟨_, rfl⟩ (.cons ⟨_, rfl⟩ (.cons ⟨_, rfl⟩ (.cons ⟨_, rfl⟩ (.cons ⟨_, rfl⟩ (.cons ⟨_, rfl⟩ (.nil))))))))))⟩, c_LETTERS := PySem.W.mg_of X G a_LETTERS, c_DIGITS := PySem.W.mg_of X G a_DIGITS, c_SPACES := PySem.W.mg_of X G a_SPACES, c_SIGNS := PySem.W.mg_of X G a_SIGNS, c_MAX_LETTERS := PySem.W.mg_of X G a_MAX_LETTERS, c_MAX_DIGITS := PySem.W.mg_of X G a_MAX_DIGITS, c_NAME := PySem.W.mg_of X G a_NAME, c_NUMBER := PySem.W.mg_of X G a_NUMBER, c_KEYWORD := PySem.W.mg_of X G a_KEYWORD, c_SIGN := PySem.W.mg_of X G a_SIGN, c_END := PySem.W.mg_of X G a_END, c_MIN_CELLS := PySem.W.mg_of X G a_MIN_CELLS, c_MAX_CELLS := PySem.W.mg_of X G a_MAX_CELLS, c_MAX_BOXES := PySem.W.mg_of X G a_MAX_BOXES, c_MAX_STEPS := PySem.W.mg_of X G a_MAX_STEPS, c_MAX_STATES := PySem.W.mg_of X G a_MAX_STATES, c_BLOCKED := PySem.W.mg_of X G a_BLOCKED, tnd := tnd }
  have E_law : h.get? tb_law = some { cls := .none, data := .fields #[] } := AT f_law cc_law tb_law "law" _ _ _ _ _ _ rec_law (PySem.W.mg_of X G a_law) l_law rfl rfl cl_law cv_law
  refine ⟨ad.d_law, [(cc_law, tb_law)], spLaw ad K, (fun p hp => by rcases List.mem_cons.mp hp with rfl | hp; exact E_law; exact absurd hp (by simp)), (fun p hp => by rcases List.mem_cons.mp hp with rfl | hp; exact cn_law; exact absurd hp (by simp)), (fun p hp => by rcases List.mem_cons.mp hp with rfl | hp; exact PySem.W.codeHd_of_K X ch_law; exact absurd hp (by simp)), fun s v => .of_eq rfl, fun H a ns hl _ hH hS => ⟨a, ns, rfl, hS, hl, fun p hp => ?_, fun _ => rfl⟩, fun base _ _ hTB => ok_law T { t_law := hTB (cc_law, tb_law) (by simp) }⟩
  rcases List.mem_cons.mp hp with rfl | hp
  · exact LamX.TabS.nil (hH (cc_law, tb_law) (by simp))
  exact absurd hp (by simp)
end Sb
open PySem PySem.W PyProof.Rows in
set_option maxRecDepth 100000 in
set_option maxHeartbeats 0 in
theorem PySem.Challenge.cw_shelfbots_k10_first_differences_holds : PySem.Challenge.rw_shelfbots_k10_first_differences.Holds := by
  refine hd ?_
  k_fill
  refine Sb.walkT (l := PySem.Challenge.rw_shelfbots_k10_first_differences) (n := 63) (k := 20) (x := "_law_script") rfl (by decide) rfl ⟨rfl, by decide, by decide⟩ (fun w h Y => (by first | exact PySem.W.km_in_of Y | exact PySem.W.kIn_of Y)) ?F
  case F =>
    intro w mg fa h KX G hmg AT
    refine' Sb.all_mk KX G hmg AT ?aC_Token ?aC_Robot ?aC_Plan ?aC_Parser ?aC_State ?aC_Tick ?aC_Story ?a_l_random ?l_l_random ?c_l_random ?k_l_random ?a_l_below ?l_l_below ?c_l_below ?k_l_below ?a_l_empty ?l_l_empty ?c_l_empty ?k_l_empty ?a_l_act ?l_l_act ?c_l_act ?k_l_act ?a_l_tick ?l_l_tick ?c_l_tick ?k_l_tick ?a_l_repeats ?l_l_repeats ?c_l_repeats ?k_l_repeats ?a_l_steps ?l_l_steps ?c_l_steps ?k_l_steps ?a_l_plan ?l_l_plan ?c_l_plan ?k_l_plan ?a_l_doubled ?l_l_doubled ?c_l_doubled ?k_l_doubled ?a_l_other ?l_l_other ?c_l_other ?k_l_other ?pa_Story_size ?pg_Story_size ?pt_Story_size ?pr_Story_size ?l_Story_size ?c_Story_size ?k_Story_size ?a_Parser_peek ?i_Parser_peek ?l_Parser_peek ?c_Parser_peek ?k_Parser_peek ?a_Token_init ?i_Token_init ?l_Token_init ?c_Token_init ?k_Token_init ?a_Robot_init ?i_Robot_init ?l_Robot_init ?c_Robot_init ?k_Robot_init ?a_Plan_init ?i_Plan_init ?l_Plan_init ?c_Plan_init ?k_Plan_init ?a_Parser_init ?i_Parser_init ?l_Parser_init ?c_Parser_init ?k_Parser_init ?a_State_init ?i_State_init ?l_State_init ?c_State_init ?k_State_init ?a_Tick_init ?i_Tick_init ?l_Tick_init ?c_Tick_init ?k_Tick_init ?a_first_state ?l_first_state ?c_first_state ?k_first_state ?pa_State_key ?pg_State_key ?pt_State_key ?pr_State_key ?l_State_key ?c_State_key ?k_State_key ?a_replaced ?l_replaced ?c_replaced ?k_replaced ?a_act ?l_act ?c_act ?k_act ?a_next_tick ?l_next_tick ?c_next_tick ?k_next_tick ?a_Story_init ?i_Story_init ?l_Story_init ?c_Story_init ?k_Story_init ?a_Parser_fail ?i_Parser_fail ?l_Parser_fail ?c_Parser_fail ?k_Parser_fail ?a_Parser_take_word ?i_Parser_take_word ?l_Parser_take_word ?c_Parser_take_word ?k_Parser_take_word ?a_Parser_take ?i_Parser_take ?l_Parser_take ?c_Parser_take ?k_Parser_take ?a_Parser_found ?i_Parser_found ?l_Parser_found ?c_Parser_found ?k_Parser_found ?a_Parser_parse_shelf ?i_Parser_parse_shelf ?l_Parser_parse_shelf ?c_Parser_parse_shelf ?k_Parser_parse_shelf ?a_Parser_parse_step ?i_Parser_parse_step ?l_Parser_parse_step ?c_Parser_parse_step ?k_Parser_parse_step ?a_Parser_parse_robot ?i_Parser_parse_robot ?l_Parser_parse_robot ?c_Parser_parse_robot ?k_Parser_parse_robot ?a_Parser_parse_plan ?i_Parser_parse_plan ?l_Parser_parse_plan ?c_Parser_parse_plan ?k_Parser_parse_plan ?a_run_end ?l_run_end ?c_run_end ?k_run_end ?a_read_token ?l_read_token ?c_read_token ?k_read_token ?a_tokenize ?l_tokenize ?c_tokenize ?k_tokenize ?a_load ?l_load ?c_load ?k_load ?a_Story_happens ?i_Story_happens ?l_Story_happens ?c_Story_happens ?k_Story_happens ?a_first_difference ?l_first_difference ?c_first_difference ?k_first_difference ?a_l_text ?l_l_text ?c_l_text ?k_l_text ?a_l_equal ?l_l_equal ?c_l_equal ?k_l_equal ?a_Story_count ?i_Story_count ?l_Story_count ?c_Story_count ?k_Story_count ?a_l_error_of ?l_l_error_of ?c_l_error_of ?k_l_error_of ?a_l_cycle ?l_l_cycle ?c_l_cycle ?k_l_cycle ?a_first_error ?l_first_error ?c_first_error ?k_first_error ?a_l_place ?l_l_place ?c_l_place ?k_l_place ?a_l_checks ?l_l_checks ?c_l_checks ?k_l_checks ?a_law ?l_law ?c_law ?cl_law ?cv_law ?ch_law ?cn_law ?k_law ?pg_Token ?hd_Token ?po_Token ?sa_Token ?mk_Token ?kc_Token ?n_Token_kind ?n_Token_text ?n_Token_line ?n_Token_column ?pg_Robot ?hd_Robot ?po_Robot ?sa_Robot ?mk_Robot ?kc_Robot ?n_Robot_start ?n_Robot_steps ?n_Robot_names ?pg_Plan ?hd_Plan ?po_Plan ?sa_Plan ?mk_Plan ?kc_Plan ?n_Plan_shelf ?n_Plan_robots ?pg_Parser ?hd_Parser ?po_Parser ?sa_Parser ?mk_Parser ?kc_Parser ?n_Parser_tokens ?n_Parser_at ?n_Parser_faults ?pg_State ?hd_State ?po_State ?sa_State ?mk_State ?kc_State ?n_State_cells ?n_State_nexts ?n_State_holds ?n_State_shelf ?pg_Tick ?hd_Tick ?po_Tick ?sa_Tick ?mk_Tick ?kc_Tick ?n_Tick_words ?n_Tick_state ?pg_Story ?hd_Story ?po_Story ?sa_Story ?mk_Story ?kc_Story ?n_Story_ticks ?n_Story_start ?aX_BotError ?aX_InvalidTick ?aX_InvalidNumber ?aX_TooLong ?aX_DifferentShelves ?aX_Contradiction ?aX_CellFull ?aX_CellEmpty ?aX_InvalidName ?aX_UnknownName ?aX_SyntaxFault ?aX_CheckFault ?aX_InvalidCode ?aX_InvalidOperation ?xr_DifferentShelves ?xk_DifferentShelves ?xb_DifferentShelves ?xt_DifferentShelves ?xe_DifferentShelves ?xcg_DifferentShelves ?xck_DifferentShelves ?xcs_DifferentShelves ?xcd_DifferentShelves ?xca_DifferentShelves ?xcn_DifferentShelves ?xct_DifferentShelves ?xcm_DifferentShelves ?xo_DifferentShelves_InvalidTick ?xo_DifferentShelves_InvalidNumber ?xo_DifferentShelves_TooLong ?xo_DifferentShelves_DifferentShelves ?xo_DifferentShelves_Contradiction ?xo_DifferentShelves_CellFull ?xo_DifferentShelves_CellEmpty ?xo_DifferentShelves_InvalidName ?xo_DifferentShelves_UnknownName ?xo_DifferentShelves_SyntaxFault ?xo_DifferentShelves_CheckFault ?xo_DifferentShelves_InvalidCode ?xo_DifferentShelves_InvalidOperation ?xv_DifferentShelves ?z_len ?z_abs ?z_range ?z_str ?z_int ?z_tuple ?z_list ?z_sum ?z_isinstance ?z_bool ?z_enumerate ?z_zip ?z_min ?z_all ?z_divmod ?z_max ?z_dict ?z_sorted ?z_ValueError ?a_MOVES ?l_MOVES ?a_JUMPS ?l_JUMPS ?a_KEYWORDS ?l_KEYWORDS ?a_LETTERS ?a_DIGITS ?a_SPACES ?a_SIGNS ?a_MAX_LETTERS ?a_MAX_DIGITS ?a_NAME ?a_NUMBER ?a_KEYWORD ?a_SIGN ?a_END ?a_MIN_CELLS ?a_MAX_CELLS ?a_MAX_BOXES ?a_MAX_STEPS ?a_MAX_STATES ?a_BLOCKED ?tnd ?rec_law
    (case aC_Token => first | k_is | k_exc | rfl | decide +kernel | fail "EC aC_Token")
    (case aC_Robot => first | k_is | k_exc | rfl | decide +kernel | fail "EC aC_Robot")
    (case aC_Plan => first | k_is | k_exc | rfl | decide +kernel | fail "EC aC_Plan")
    (case aC_Parser => first | k_is | k_exc | rfl | decide +kernel | fail "EC aC_Parser")
    (case aC_State => first | k_is | k_exc | rfl | decide +kernel | fail "EC aC_State")
    (case aC_Tick => first | k_is | k_exc | rfl | decide +kernel | fail "EC aC_Tick")
    (case aC_Story => first | k_is | k_exc | rfl | decide +kernel | fail "EC aC_Story")
    (case a_l_random => first | k_is | k_exc | rfl | decide +kernel | fail "EC a_l_random")
    (case l_l_random => first | k_is | k_exc | rfl | decide +kernel | fail "EC l_l_random")
    (case c_l_random => first | k_is | k_exc | rfl | decide +kernel | fail "EC c_l_random")
    (case k_l_random => first | k_is | k_exc | rfl | decide +kernel | fail "EC k_l_random")
    (case a_l_below => first | k_is | k_exc | rfl | decide +kernel | fail "EC a_l_below")
    (case l_l_below => first | k_is | k_exc | rfl | decide +kernel | fail "EC l_l_below")
    (case c_l_below => first | k_is | k_exc | rfl | decide +kernel | fail "EC c_l_below")
    (case k_l_below => first | k_is | k_exc | rfl | decide +kernel | fail "EC k_l_below")
    (case a_l_empty => first | k_is | k_exc | rfl | decide +kernel | fail "EC a_l_empty")
    (case l_l_empty => first | k_is | k_exc | rfl | decide +kernel | fail "EC l_l_empty")
    (case c_l_empty => first | k_is | k_exc | rfl | decide +kernel | fail "EC c_l_empty")
    (case k_l_empty => first | k_is | k_exc | rfl | decide +kernel | fail "EC k_l_empty")
    (case a_l_act => first | k_is | k_exc | rfl | decide +kernel | fail "EC a_l_act")
    (case l_l_act => first | k_is | k_exc | rfl | decide +kernel | fail "EC l_l_act")
    (case c_l_act => first | k_is | k_exc | rfl | decide +kernel | fail "EC c_l_act")
    (case k_l_act => first | k_is | k_exc | rfl | decide +kernel | fail "EC k_l_act")
    (case a_l_tick => first | k_is | k_exc | rfl | decide +kernel | fail "EC a_l_tick")
    (case l_l_tick => first | k_is | k_exc | rfl | decide +kernel | fail "EC l_l_tick")
    (case c_l_tick => first | k_is | k_exc | rfl | decide +kernel | fail "EC c_l_tick")
    (case k_l_tick => first | k_is | k_exc | rfl | decide +kernel | fail "EC k_l_tick")
    (case a_l_repeats => first | k_is | k_exc | rfl | decide +kernel | fail "EC a_l_repeats")
    (case l_l_repeats => first | k_is | k_exc | rfl | decide +kernel | fail "EC l_l_repeats")
    (case c_l_repeats => first | k_is | k_exc | rfl | decide +kernel | fail "EC c_l_repeats")
    (case k_l_repeats => first | k_is | k_exc | rfl | decide +kernel | fail "EC k_l_repeats")
    (case a_l_steps => first | k_is | k_exc | rfl | decide +kernel | fail "EC a_l_steps")
    (case l_l_steps => first | k_is | k_exc | rfl | decide +kernel | fail "EC l_l_steps")
    (case c_l_steps => first | k_is | k_exc | rfl | decide +kernel | fail "EC c_l_steps")
    (case k_l_steps => first | k_is | k_exc | rfl | decide +kernel | fail "EC k_l_steps")
    (case a_l_plan => first | k_is | k_exc | rfl | decide +kernel | fail "EC a_l_plan")
    (case l_l_plan => first | k_is | k_exc | rfl | decide +kernel | fail "EC l_l_plan")
    (case c_l_plan => first | k_is | k_exc | rfl | decide +kernel | fail "EC c_l_plan")
    (case k_l_plan => first | k_is | k_exc | rfl | decide +kernel | fail "EC k_l_plan")
    (case a_l_doubled => first | k_is | k_exc | rfl | decide +kernel | fail "EC a_l_doubled")
    (case l_l_doubled => first | k_is | k_exc | rfl | decide +kernel | fail "EC l_l_doubled")
    (case c_l_doubled => first | k_is | k_exc | rfl | decide +kernel | fail "EC c_l_doubled")
    (case k_l_doubled => first | k_is | k_exc | rfl | decide +kernel | fail "EC k_l_doubled")
    (case a_l_other => first | k_is | k_exc | rfl | decide +kernel | fail "EC a_l_other")
    (case l_l_other => first | k_is | k_exc | rfl | decide +kernel | fail "EC l_l_other")
    (case c_l_other => first | k_is | k_exc | rfl | decide +kernel | fail "EC c_l_other")
    (case k_l_other => first | k_is | k_exc | rfl | decide +kernel | fail "EC k_l_other")
    (case pa_Story_size => first | k_is | k_exc | rfl | decide +kernel | fail "EC pa_Story_size")
    (case pg_Story_size => first | k_is | k_exc | rfl | decide +kernel | fail "EC pg_Story_size")
    (case pt_Story_size => first | k_is | k_exc | rfl | decide +kernel | fail "EC pt_Story_size")
    (case pr_Story_size => first | k_is | k_exc | rfl | decide +kernel | fail "EC pr_Story_size")
    (case l_Story_size => first | k_is | k_exc | rfl | decide +kernel | fail "EC l_Story_size")
    (case c_Story_size => first | k_is | k_exc | rfl | decide +kernel | fail "EC c_Story_size")
    (case k_Story_size => first | k_is | k_exc | rfl | decide +kernel | fail "EC k_Story_size")
    (case a_Parser_peek => first | k_is | k_exc | rfl | decide +kernel | fail "EC a_Parser_peek")
    (case i_Parser_peek => first | k_is | k_exc | rfl | decide +kernel | fail "EC i_Parser_peek")
    (case l_Parser_peek => first | k_is | k_exc | rfl | decide +kernel | fail "EC l_Parser_peek")
    (case c_Parser_peek => first | k_is | k_exc | rfl | decide +kernel | fail "EC c_Parser_peek")
    (case k_Parser_peek => first | k_is | k_exc | rfl | decide +kernel | fail "EC k_Parser_peek")
    (case a_Token_init => first | k_is | k_exc | rfl | decide +kernel | fail "EC a_Token_init")
    (case i_Token_init => first | k_is | k_exc | rfl | decide +kernel | fail "EC i_Token_init")
    (case l_Token_init => first | k_is | k_exc | rfl | decide +kernel | fail "EC l_Token_init")
    (case c_Token_init => first | k_is | k_exc | rfl | decide +kernel | fail "EC c_Token_init")
    (case k_Token_init => first | k_is | k_exc | rfl | decide +kernel | fail "EC k_Token_init")
    (case a_Robot_init => first | k_is | k_exc | rfl | decide +kernel | fail "EC a_Robot_init")
    (case i_Robot_init => first | k_is | k_exc | rfl | decide +kernel | fail "EC i_Robot_init")
    (case l_Robot_init => first | k_is | k_exc | rfl | decide +kernel | fail "EC l_Robot_init")
    (case c_Robot_init => first | k_is | k_exc | rfl | decide +kernel | fail "EC c_Robot_init")
    (case k_Robot_init => first | k_is | k_exc | rfl | decide +kernel | fail "EC k_Robot_init")
    (case a_Plan_init => first | k_is | k_exc | rfl | decide +kernel | fail "EC a_Plan_init")
    (case i_Plan_init => first | k_is | k_exc | rfl | decide +kernel | fail "EC i_Plan_init")
    (case l_Plan_init => first | k_is | k_exc | rfl | decide +kernel | fail "EC l_Plan_init")
    (case c_Plan_init => first | k_is | k_exc | rfl | decide +kernel | fail "EC c_Plan_init")
    (case k_Plan_init => first | k_is | k_exc | rfl | decide +kernel | fail "EC k_Plan_init")
    (case a_Parser_init => first | k_is | k_exc | rfl | decide +kernel | fail "EC a_Parser_init")
    (case i_Parser_init => first | k_is | k_exc | rfl | decide +kernel | fail "EC i_Parser_init")
    (case l_Parser_init => first | k_is | k_exc | rfl | decide +kernel | fail "EC l_Parser_init")
    (case c_Parser_init => first | k_is | k_exc | rfl | decide +kernel | fail "EC c_Parser_init")
    (case k_Parser_init => first | k_is | k_exc | rfl | decide +kernel | fail "EC k_Parser_init")
    (case a_State_init => first | k_is | k_exc | rfl | decide +kernel | fail "EC a_State_init")
    (case i_State_init => first | k_is | k_exc | rfl | decide +kernel | fail "EC i_State_init")
    (case l_State_init => first | k_is | k_exc | rfl | decide +kernel | fail "EC l_State_init")
    (case c_State_init => first | k_is | k_exc | rfl | decide +kernel | fail "EC c_State_init")
    (case k_State_init => first | k_is | k_exc | rfl | decide +kernel | fail "EC k_State_init")
    (case a_Tick_init => first | k_is | k_exc | rfl | decide +kernel | fail "EC a_Tick_init")
    (case i_Tick_init => first | k_is | k_exc | rfl | decide +kernel | fail "EC i_Tick_init")
    (case l_Tick_init => first | k_is | k_exc | rfl | decide +kernel | fail "EC l_Tick_init")
    (case c_Tick_init => first | k_is | k_exc | rfl | decide +kernel | fail "EC c_Tick_init")
    (case k_Tick_init => first | k_is | k_exc | rfl | decide +kernel | fail "EC k_Tick_init")
    (case a_first_state => first | k_is | k_exc | rfl | decide +kernel | fail "EC a_first_state")
    (case l_first_state => first | k_is | k_exc | rfl | decide +kernel | fail "EC l_first_state")
    (case c_first_state => first | k_is | k_exc | rfl | decide +kernel | fail "EC c_first_state")
    (case k_first_state => first | k_is | k_exc | rfl | decide +kernel | fail "EC k_first_state")
    (case pa_State_key => first | k_is | k_exc | rfl | decide +kernel | fail "EC pa_State_key")
    (case pg_State_key => first | k_is | k_exc | rfl | decide +kernel | fail "EC pg_State_key")
    (case pt_State_key => first | k_is | k_exc | rfl | decide +kernel | fail "EC pt_State_key")
    (case pr_State_key => first | k_is | k_exc | rfl | decide +kernel | fail "EC pr_State_key")
    (case l_State_key => first | k_is | k_exc | rfl | decide +kernel | fail "EC l_State_key")
    (case c_State_key => first | k_is | k_exc | rfl | decide +kernel | fail "EC c_State_key")
    (case k_State_key => first | k_is | k_exc | rfl | decide +kernel | fail "EC k_State_key")
    (case a_replaced => first | k_is | k_exc | rfl | decide +kernel | fail "EC a_replaced")
    (case l_replaced => first | k_is | k_exc | rfl | decide +kernel | fail "EC l_replaced")
    (case c_replaced => first | k_is | k_exc | rfl | decide +kernel | fail "EC c_replaced")
    (case k_replaced => first | k_is | k_exc | rfl | decide +kernel | fail "EC k_replaced")
    (case a_act => first | k_is | k_exc | rfl | decide +kernel | fail "EC a_act")
    (case l_act => first | k_is | k_exc | rfl | decide +kernel | fail "EC l_act")
    (case c_act => first | k_is | k_exc | rfl | decide +kernel | fail "EC c_act")
    (case k_act => first | k_is | k_exc | rfl | decide +kernel | fail "EC k_act")
    (case a_next_tick => first | k_is | k_exc | rfl | decide +kernel | fail "EC a_next_tick")
    (case l_next_tick => first | k_is | k_exc | rfl | decide +kernel | fail "EC l_next_tick")
    (case c_next_tick => first | k_is | k_exc | rfl | decide +kernel | fail "EC c_next_tick")
    (case k_next_tick => first | k_is | k_exc | rfl | decide +kernel | fail "EC k_next_tick")
    (case a_Story_init => first | k_is | k_exc | rfl | decide +kernel | fail "EC a_Story_init")
    (case i_Story_init => first | k_is | k_exc | rfl | decide +kernel | fail "EC i_Story_init")
    (case l_Story_init => first | k_is | k_exc | rfl | decide +kernel | fail "EC l_Story_init")
    (case c_Story_init => first | k_is | k_exc | rfl | decide +kernel | fail "EC c_Story_init")
    (case k_Story_init => first | k_is | k_exc | rfl | decide +kernel | fail "EC k_Story_init")
    (case a_Parser_fail => first | k_is | k_exc | rfl | decide +kernel | fail "EC a_Parser_fail")
    (case i_Parser_fail => first | k_is | k_exc | rfl | decide +kernel | fail "EC i_Parser_fail")
    (case l_Parser_fail => first | k_is | k_exc | rfl | decide +kernel | fail "EC l_Parser_fail")
    (case c_Parser_fail => first | k_is | k_exc | rfl | decide +kernel | fail "EC c_Parser_fail")
    (case k_Parser_fail => first | k_is | k_exc | rfl | decide +kernel | fail "EC k_Parser_fail")
    (case a_Parser_take_word => first | k_is | k_exc | rfl | decide +kernel | fail "EC a_Parser_take_word")
    (case i_Parser_take_word => first | k_is | k_exc | rfl | decide +kernel | fail "EC i_Parser_take_word")
    (case l_Parser_take_word => first | k_is | k_exc | rfl | decide +kernel | fail "EC l_Parser_take_word")
    (case c_Parser_take_word => first | k_is | k_exc | rfl | decide +kernel | fail "EC c_Parser_take_word")
    (case k_Parser_take_word => first | k_is | k_exc | rfl | decide +kernel | fail "EC k_Parser_take_word")
    (case a_Parser_take => first | k_is | k_exc | rfl | decide +kernel | fail "EC a_Parser_take")
    (case i_Parser_take => first | k_is | k_exc | rfl | decide +kernel | fail "EC i_Parser_take")
    (case l_Parser_take => first | k_is | k_exc | rfl | decide +kernel | fail "EC l_Parser_take")
    (case c_Parser_take => first | k_is | k_exc | rfl | decide +kernel | fail "EC c_Parser_take")
    (case k_Parser_take => first | k_is | k_exc | rfl | decide +kernel | fail "EC k_Parser_take")
    (case a_Parser_found => first | k_is | k_exc | rfl | decide +kernel | fail "EC a_Parser_found")
    (case i_Parser_found => first | k_is | k_exc | rfl | decide +kernel | fail "EC i_Parser_found")
    (case l_Parser_found => first | k_is | k_exc | rfl | decide +kernel | fail "EC l_Parser_found")
    (case c_Parser_found => first | k_is | k_exc | rfl | decide +kernel | fail "EC c_Parser_found")
    (case k_Parser_found => first | k_is | k_exc | rfl | decide +kernel | fail "EC k_Parser_found")
    (case a_Parser_parse_shelf => first | k_is | k_exc | rfl | decide +kernel | fail "EC a_Parser_parse_shelf")
    (case i_Parser_parse_shelf => first | k_is | k_exc | rfl | decide +kernel | fail "EC i_Parser_parse_shelf")
    (case l_Parser_parse_shelf => first | k_is | k_exc | rfl | decide +kernel | fail "EC l_Parser_parse_shelf")
    (case c_Parser_parse_shelf => first | k_is | k_exc | rfl | decide +kernel | fail "EC c_Parser_parse_shelf")
    (case k_Parser_parse_shelf => first | k_is | k_exc | rfl | decide +kernel | fail "EC k_Parser_parse_shelf")
    (case a_Parser_parse_step => first | k_is | k_exc | rfl | decide +kernel | fail "EC a_Parser_parse_step")
    (case i_Parser_parse_step => first | k_is | k_exc | rfl | decide +kernel | fail "EC i_Parser_parse_step")
    (case l_Parser_parse_step => first | k_is | k_exc | rfl | decide +kernel | fail "EC l_Parser_parse_step")
    (case c_Parser_parse_step => first | k_is | k_exc | rfl | decide +kernel | fail "EC c_Parser_parse_step")
    (case k_Parser_parse_step => first | k_is | k_exc | rfl | decide +kernel | fail "EC k_Parser_parse_step")
    (case a_Parser_parse_robot => first | k_is | k_exc | rfl | decide +kernel | fail "EC a_Parser_parse_robot")
    (case i_Parser_parse_robot => first | k_is | k_exc | rfl | decide +kernel | fail "EC i_Parser_parse_robot")
    (case l_Parser_parse_robot => first | k_is | k_exc | rfl | decide +kernel | fail "EC l_Parser_parse_robot")
    (case c_Parser_parse_robot => first | k_is | k_exc | rfl | decide +kernel | fail "EC c_Parser_parse_robot")
    (case k_Parser_parse_robot => first | k_is | k_exc | rfl | decide +kernel | fail "EC k_Parser_parse_robot")
    (case a_Parser_parse_plan => first | k_is | k_exc | rfl | decide +kernel | fail "EC a_Parser_parse_plan")
    (case i_Parser_parse_plan => first | k_is | k_exc | rfl | decide +kernel | fail "EC i_Parser_parse_plan")
    (case l_Parser_parse_plan => first | k_is | k_exc | rfl | decide +kernel | fail "EC l_Parser_parse_plan")
    (case c_Parser_parse_plan => first | k_is | k_exc | rfl | decide +kernel | fail "EC c_Parser_parse_plan")
    (case k_Parser_parse_plan => first | k_is | k_exc | rfl | decide +kernel | fail "EC k_Parser_parse_plan")
    (case a_run_end => first | k_is | k_exc | rfl | decide +kernel | fail "EC a_run_end")
    (case l_run_end => first | k_is | k_exc | rfl | decide +kernel | fail "EC l_run_end")
    (case c_run_end => first | k_is | k_exc | rfl | decide +kernel | fail "EC c_run_end")
    (case k_run_end => first | k_is | k_exc | rfl | decide +kernel | fail "EC k_run_end")
    (case a_read_token => first | k_is | k_exc | rfl | decide +kernel | fail "EC a_read_token")
    (case l_read_token => first | k_is | k_exc | rfl | decide +kernel | fail "EC l_read_token")
    (case c_read_token => first | k_is | k_exc | rfl | decide +kernel | fail "EC c_read_token")
    (case k_read_token => first | k_is | k_exc | rfl | decide +kernel | fail "EC k_read_token")
    (case a_tokenize => first | k_is | k_exc | rfl | decide +kernel | fail "EC a_tokenize")
    (case l_tokenize => first | k_is | k_exc | rfl | decide +kernel | fail "EC l_tokenize")
    (case c_tokenize => first | k_is | k_exc | rfl | decide +kernel | fail "EC c_tokenize")
    (case k_tokenize => first | k_is | k_exc | rfl | decide +kernel | fail "EC k_tokenize")
    (case a_load => first | k_is | k_exc | rfl | decide +kernel | fail "EC a_load")
    (case l_load => first | k_is | k_exc | rfl | decide +kernel | fail "EC l_load")
    (case c_load => first | k_is | k_exc | rfl | decide +kernel | fail "EC c_load")
    (case k_load => first | k_is | k_exc | rfl | decide +kernel | fail "EC k_load")
    (case a_Story_happens => first | k_is | k_exc | rfl | decide +kernel | fail "EC a_Story_happens")
    (case i_Story_happens => first | k_is | k_exc | rfl | decide +kernel | fail "EC i_Story_happens")
    (case l_Story_happens => first | k_is | k_exc | rfl | decide +kernel | fail "EC l_Story_happens")
    (case c_Story_happens => first | k_is | k_exc | rfl | decide +kernel | fail "EC c_Story_happens")
    (case k_Story_happens => first | k_is | k_exc | rfl | decide +kernel | fail "EC k_Story_happens")
    (case a_first_difference => first | k_is | k_exc | rfl | decide +kernel | fail "EC a_first_difference")
    (case l_first_difference => first | k_is | k_exc | rfl | decide +kernel | fail "EC l_first_difference")
    (case c_first_difference => first | k_is | k_exc | rfl | decide +kernel | fail "EC c_first_difference")
    (case k_first_difference => first | k_is | k_exc | rfl | decide +kernel | fail "EC k_first_difference")
    (case a_l_text => first | k_is | k_exc | rfl | decide +kernel | fail "EC a_l_text")
    (case l_l_text => first | k_is | k_exc | rfl | decide +kernel | fail "EC l_l_text")
    (case c_l_text => first | k_is | k_exc | rfl | decide +kernel | fail "EC c_l_text")
    (case k_l_text => first | k_is | k_exc | rfl | decide +kernel | fail "EC k_l_text")
    (case a_l_equal => first | k_is | k_exc | rfl | decide +kernel | fail "EC a_l_equal")
    (case l_l_equal => first | k_is | k_exc | rfl | decide +kernel | fail "EC l_l_equal")
    (case c_l_equal => first | k_is | k_exc | rfl | decide +kernel | fail "EC c_l_equal")
    (case k_l_equal => first | k_is | k_exc | rfl | decide +kernel | fail "EC k_l_equal")
    (case a_Story_count => first | k_is | k_exc | rfl | decide +kernel | fail "EC a_Story_count")
    (case i_Story_count => first | k_is | k_exc | rfl | decide +kernel | fail "EC i_Story_count")
    (case l_Story_count => first | k_is | k_exc | rfl | decide +kernel | fail "EC l_Story_count")
    (case c_Story_count => first | k_is | k_exc | rfl | decide +kernel | fail "EC c_Story_count")
    (case k_Story_count => first | k_is | k_exc | rfl | decide +kernel | fail "EC k_Story_count")
    (case a_l_error_of => first | k_is | k_exc | rfl | decide +kernel | fail "EC a_l_error_of")
    (case l_l_error_of => first | k_is | k_exc | rfl | decide +kernel | fail "EC l_l_error_of")
    (case c_l_error_of => first | k_is | k_exc | rfl | decide +kernel | fail "EC c_l_error_of")
    (case k_l_error_of => first | k_is | k_exc | rfl | decide +kernel | fail "EC k_l_error_of")
    (case a_l_cycle => first | k_is | k_exc | rfl | decide +kernel | fail "EC a_l_cycle")
    (case l_l_cycle => first | k_is | k_exc | rfl | decide +kernel | fail "EC l_l_cycle")
    (case c_l_cycle => first | k_is | k_exc | rfl | decide +kernel | fail "EC c_l_cycle")
    (case k_l_cycle => first | k_is | k_exc | rfl | decide +kernel | fail "EC k_l_cycle")
    (case a_first_error => first | k_is | k_exc | rfl | decide +kernel | fail "EC a_first_error")
    (case l_first_error => first | k_is | k_exc | rfl | decide +kernel | fail "EC l_first_error")
    (case c_first_error => first | k_is | k_exc | rfl | decide +kernel | fail "EC c_first_error")
    (case k_first_error => first | k_is | k_exc | rfl | decide +kernel | fail "EC k_first_error")
    (case a_l_place => first | k_is | k_exc | rfl | decide +kernel | fail "EC a_l_place")
    (case l_l_place => first | k_is | k_exc | rfl | decide +kernel | fail "EC l_l_place")
    (case c_l_place => first | k_is | k_exc | rfl | decide +kernel | fail "EC c_l_place")
    (case k_l_place => first | k_is | k_exc | rfl | decide +kernel | fail "EC k_l_place")
    (case a_l_checks => first | k_is | k_exc | rfl | decide +kernel | fail "EC a_l_checks")
    (case l_l_checks => first | k_is | k_exc | rfl | decide +kernel | fail "EC l_l_checks")
    (case c_l_checks => first | k_is | k_exc | rfl | decide +kernel | fail "EC c_l_checks")
    (case k_l_checks => first | k_is | k_exc | rfl | decide +kernel | fail "EC k_l_checks")
    (case a_law => first | k_is | k_exc | rfl | decide +kernel | fail "EC a_law")
    (case l_law => first | k_is | k_exc | rfl | decide +kernel | fail "EC l_law")
    (case c_law => first | k_is | k_exc | rfl | decide +kernel | fail "EC c_law")
    (case cl_law => first | k_is | k_exc | rfl | decide +kernel | fail "EC cl_law")
    (case cv_law => first | k_is | k_exc | rfl | decide +kernel | fail "EC cv_law")
    (case ch_law => first | k_is | k_exc | rfl | decide +kernel | fail "EC ch_law")
    (case cn_law => first | k_is | k_exc | rfl | decide +kernel | fail "EC cn_law")
    (case k_law => first | k_is | k_exc | rfl | decide +kernel | fail "EC k_law")
    (case pg_Token => first | k_is | k_exc | rfl | decide +kernel | fail "EC pg_Token")
    (case hd_Token => first | k_is | k_exc | rfl | decide +kernel | fail "EC hd_Token")
    (case po_Token => first | k_is | k_exc | rfl | decide +kernel | fail "EC po_Token")
    (case sa_Token => first | k_is | k_exc | rfl | decide +kernel | fail "EC sa_Token")
    (case mk_Token => first | k_is | k_exc | rfl | decide +kernel | fail "EC mk_Token")
    (case kc_Token => first | k_is | k_exc | rfl | decide +kernel | fail "EC kc_Token")
    (case n_Token_kind => first | k_is | k_exc | rfl | decide +kernel | fail "EC n_Token_kind")
    (case n_Token_text => first | k_is | k_exc | rfl | decide +kernel | fail "EC n_Token_text")
    (case n_Token_line => first | k_is | k_exc | rfl | decide +kernel | fail "EC n_Token_line")
    (case n_Token_column => first | k_is | k_exc | rfl | decide +kernel | fail "EC n_Token_column")
    (case pg_Robot => first | k_is | k_exc | rfl | decide +kernel | fail "EC pg_Robot")
    (case hd_Robot => first | k_is | k_exc | rfl | decide +kernel | fail "EC hd_Robot")
    (case po_Robot => first | k_is | k_exc | rfl | decide +kernel | fail "EC po_Robot")
    (case sa_Robot => first | k_is | k_exc | rfl | decide +kernel | fail "EC sa_Robot")
    (case mk_Robot => first | k_is | k_exc | rfl | decide +kernel | fail "EC mk_Robot")
    (case kc_Robot => first | k_is | k_exc | rfl | decide +kernel | fail "EC kc_Robot")
    (case n_Robot_start => first | k_is | k_exc | rfl | decide +kernel | fail "EC n_Robot_start")
    (case n_Robot_steps => first | k_is | k_exc | rfl | decide +kernel | fail "EC n_Robot_steps")
    (case n_Robot_names => first | k_is | k_exc | rfl | decide +kernel | fail "EC n_Robot_names")
    (case pg_Plan => first | k_is | k_exc | rfl | decide +kernel | fail "EC pg_Plan")
    (case hd_Plan => first | k_is | k_exc | rfl | decide +kernel | fail "EC hd_Plan")
    (case po_Plan => first | k_is | k_exc | rfl | decide +kernel | fail "EC po_Plan")
    (case sa_Plan => first | k_is | k_exc | rfl | decide +kernel | fail "EC sa_Plan")
    (case mk_Plan => first | k_is | k_exc | rfl | decide +kernel | fail "EC mk_Plan")
    (case kc_Plan => first | k_is | k_exc | rfl | decide +kernel | fail "EC kc_Plan")
    (case n_Plan_shelf => first | k_is | k_exc | rfl | decide +kernel | fail "EC n_Plan_shelf")
    (case n_Plan_robots => first | k_is | k_exc | rfl | decide +kernel | fail "EC n_Plan_robots")
    (case pg_Parser => first | k_is | k_exc | rfl | decide +kernel | fail "EC pg_Parser")
    (case hd_Parser => first | k_is | k_exc | rfl | decide +kernel | fail "EC hd_Parser")
    (case po_Parser => first | k_is | k_exc | rfl | decide +kernel | fail "EC po_Parser")
    (case sa_Parser => first | k_is | k_exc | rfl | decide +kernel | fail "EC sa_Parser")
    (case mk_Parser => first | k_is | k_exc | rfl | decide +kernel | fail "EC mk_Parser")
    (case kc_Parser => first | k_is | k_exc | rfl | decide +kernel | fail "EC kc_Parser")
    (case n_Parser_tokens => first | k_is | k_exc | rfl | decide +kernel | fail "EC n_Parser_tokens")
    (case n_Parser_at => first | k_is | k_exc | rfl | decide +kernel | fail "EC n_Parser_at")
    (case n_Parser_faults => first | k_is | k_exc | rfl | decide +kernel | fail "EC n_Parser_faults")
    (case pg_State => first | k_is | k_exc | rfl | decide +kernel | fail "EC pg_State")
    (case hd_State => first | k_is | k_exc | rfl | decide +kernel | fail "EC hd_State")
    (case po_State => first | k_is | k_exc | rfl | decide +kernel | fail "EC po_State")
    (case sa_State => first | k_is | k_exc | rfl | decide +kernel | fail "EC sa_State")
    (case mk_State => first | k_is | k_exc | rfl | decide +kernel | fail "EC mk_State")
    (case kc_State => first | k_is | k_exc | rfl | decide +kernel | fail "EC kc_State")
    (case n_State_cells => first | k_is | k_exc | rfl | decide +kernel | fail "EC n_State_cells")
    (case n_State_nexts => first | k_is | k_exc | rfl | decide +kernel | fail "EC n_State_nexts")
    (case n_State_holds => first | k_is | k_exc | rfl | decide +kernel | fail "EC n_State_holds")
    (case n_State_shelf => first | k_is | k_exc | rfl | decide +kernel | fail "EC n_State_shelf")
    (case pg_Tick => first | k_is | k_exc | rfl | decide +kernel | fail "EC pg_Tick")
    (case hd_Tick => first | k_is | k_exc | rfl | decide +kernel | fail "EC hd_Tick")
    (case po_Tick => first | k_is | k_exc | rfl | decide +kernel | fail "EC po_Tick")
    (case sa_Tick => first | k_is | k_exc | rfl | decide +kernel | fail "EC sa_Tick")
    (case mk_Tick => first | k_is | k_exc | rfl | decide +kernel | fail "EC mk_Tick")
    (case kc_Tick => first | k_is | k_exc | rfl | decide +kernel | fail "EC kc_Tick")
    (case n_Tick_words => first | k_is | k_exc | rfl | decide +kernel | fail "EC n_Tick_words")
    (case n_Tick_state => first | k_is | k_exc | rfl | decide +kernel | fail "EC n_Tick_state")
    (case pg_Story => first | k_is | k_exc | rfl | decide +kernel | fail "EC pg_Story")
    (case hd_Story => first | k_is | k_exc | rfl | decide +kernel | fail "EC hd_Story")
    (case po_Story => first | k_is | k_exc | rfl | decide +kernel | fail "EC po_Story")
    (case sa_Story => first | k_is | k_exc | rfl | decide +kernel | fail "EC sa_Story")
    (case mk_Story => first | k_is | k_exc | rfl | decide +kernel | fail "EC mk_Story")
    (case kc_Story => first | k_is | k_exc | rfl | decide +kernel | fail "EC kc_Story")
    (case n_Story_ticks => first | k_is | k_exc | rfl | decide +kernel | fail "EC n_Story_ticks")
    (case n_Story_start => first | k_is | k_exc | rfl | decide +kernel | fail "EC n_Story_start")
    (case aX_BotError => first | k_is | k_exc | rfl | decide +kernel | fail "EC aX_BotError")
    (case aX_InvalidTick => first | k_is | k_exc | rfl | decide +kernel | fail "EC aX_InvalidTick")
    (case aX_InvalidNumber => first | k_is | k_exc | rfl | decide +kernel | fail "EC aX_InvalidNumber")
    (case aX_TooLong => first | k_is | k_exc | rfl | decide +kernel | fail "EC aX_TooLong")
    (case aX_DifferentShelves => first | k_is | k_exc | rfl | decide +kernel | fail "EC aX_DifferentShelves")
    (case aX_Contradiction => first | k_is | k_exc | rfl | decide +kernel | fail "EC aX_Contradiction")
    (case aX_CellFull => first | k_is | k_exc | rfl | decide +kernel | fail "EC aX_CellFull")
    (case aX_CellEmpty => first | k_is | k_exc | rfl | decide +kernel | fail "EC aX_CellEmpty")
    (case aX_InvalidName => first | k_is | k_exc | rfl | decide +kernel | fail "EC aX_InvalidName")
    (case aX_UnknownName => first | k_is | k_exc | rfl | decide +kernel | fail "EC aX_UnknownName")
    (case aX_SyntaxFault => first | k_is | k_exc | rfl | decide +kernel | fail "EC aX_SyntaxFault")
    (case aX_CheckFault => first | k_is | k_exc | rfl | decide +kernel | fail "EC aX_CheckFault")
    (case aX_InvalidCode => first | k_is | k_exc | rfl | decide +kernel | fail "EC aX_InvalidCode")
    (case aX_InvalidOperation => first | k_is | k_exc | rfl | decide +kernel | fail "EC aX_InvalidOperation")
    (case xr_DifferentShelves => first | k_is | k_exc | rfl | decide +kernel | fail "EC xr_DifferentShelves")
    (case xk_DifferentShelves => first | k_is | k_exc | rfl | decide +kernel | fail "EC xk_DifferentShelves")
    (case xb_DifferentShelves => first | k_is | k_exc | rfl | decide +kernel | fail "EC xb_DifferentShelves")
    (case xt_DifferentShelves => first | k_is | k_exc | rfl | decide +kernel | fail "EC xt_DifferentShelves")
    (case xe_DifferentShelves => first | k_is | k_exc | rfl | decide +kernel | fail "EC xe_DifferentShelves")
    (case xcg_DifferentShelves => first | k_is | k_exc | rfl | decide +kernel | fail "EC xcg_DifferentShelves")
    (case xck_DifferentShelves => first | k_is | k_exc | rfl | decide +kernel | fail "EC xck_DifferentShelves")
    (case xcs_DifferentShelves => first | k_is | k_exc | rfl | decide +kernel | fail "EC xcs_DifferentShelves")
    (case xcd_DifferentShelves => first | k_is | k_exc | rfl | decide +kernel | fail "EC xcd_DifferentShelves")
    (case xca_DifferentShelves => first | k_is | k_exc | rfl | decide +kernel | fail "EC xca_DifferentShelves")
    (case xcn_DifferentShelves => first | k_is | k_exc | rfl | decide +kernel | fail "EC xcn_DifferentShelves")
    (case xct_DifferentShelves => first | k_is | k_exc | rfl | decide +kernel | fail "EC xct_DifferentShelves")
    (case xcm_DifferentShelves => first | k_is | k_exc | rfl | decide +kernel | fail "EC xcm_DifferentShelves")
    (case xo_DifferentShelves_InvalidTick => first | k_is | k_exc | rfl | decide +kernel | fail "EC xo_DifferentShelves_InvalidTick")
    (case xo_DifferentShelves_InvalidNumber => first | k_is | k_exc | rfl | decide +kernel | fail "EC xo_DifferentShelves_InvalidNumber")
    (case xo_DifferentShelves_TooLong => first | k_is | k_exc | rfl | decide +kernel | fail "EC xo_DifferentShelves_TooLong")
    (case xo_DifferentShelves_DifferentShelves => first | k_is | k_exc | rfl | decide +kernel | fail "EC xo_DifferentShelves_DifferentShelves")
    (case xo_DifferentShelves_Contradiction => first | k_is | k_exc | rfl | decide +kernel | fail "EC xo_DifferentShelves_Contradiction")
    (case xo_DifferentShelves_CellFull => first | k_is | k_exc | rfl | decide +kernel | fail "EC xo_DifferentShelves_CellFull")
    (case xo_DifferentShelves_CellEmpty => first | k_is | k_exc | rfl | decide +kernel | fail "EC xo_DifferentShelves_CellEmpty")
    (case xo_DifferentShelves_InvalidName => first | k_is | k_exc | rfl | decide +kernel | fail "EC xo_DifferentShelves_InvalidName")
    (case xo_DifferentShelves_UnknownName => first | k_is | k_exc | rfl | decide +kernel | fail "EC xo_DifferentShelves_UnknownName")
    (case xo_DifferentShelves_SyntaxFault => first | k_is | k_exc | rfl | decide +kernel | fail "EC xo_DifferentShelves_SyntaxFault")
    (case xo_DifferentShelves_CheckFault => first | k_is | k_exc | rfl | decide +kernel | fail "EC xo_DifferentShelves_CheckFault")
    (case xo_DifferentShelves_InvalidCode => first | k_is | k_exc | rfl | decide +kernel | fail "EC xo_DifferentShelves_InvalidCode")
    (case xo_DifferentShelves_InvalidOperation => first | k_is | k_exc | rfl | decide +kernel | fail "EC xo_DifferentShelves_InvalidOperation")
    (case xv_DifferentShelves => first | k_is | k_exc | rfl | decide +kernel | fail "EC xv_DifferentShelves")
    (case z_len => first | k_is | k_exc | rfl | decide +kernel | fail "EC z_len")
    (case z_abs => first | k_is | k_exc | rfl | decide +kernel | fail "EC z_abs")
    (case z_range => first | k_is | k_exc | rfl | decide +kernel | fail "EC z_range")
    (case z_str => first | k_is | k_exc | rfl | decide +kernel | fail "EC z_str")
    (case z_int => first | k_is | k_exc | rfl | decide +kernel | fail "EC z_int")
    (case z_tuple => first | k_is | k_exc | rfl | decide +kernel | fail "EC z_tuple")
    (case z_list => first | k_is | k_exc | rfl | decide +kernel | fail "EC z_list")
    (case z_sum => first | k_is | k_exc | rfl | decide +kernel | fail "EC z_sum")
    (case z_isinstance => first | k_is | k_exc | rfl | decide +kernel | fail "EC z_isinstance")
    (case z_bool => first | k_is | k_exc | rfl | decide +kernel | fail "EC z_bool")
    (case z_enumerate => first | k_is | k_exc | rfl | decide +kernel | fail "EC z_enumerate")
    (case z_zip => first | k_is | k_exc | rfl | decide +kernel | fail "EC z_zip")
    (case z_min => first | k_is | k_exc | rfl | decide +kernel | fail "EC z_min")
    (case z_all => first | k_is | k_exc | rfl | decide +kernel | fail "EC z_all")
    (case z_divmod => first | k_is | k_exc | rfl | decide +kernel | fail "EC z_divmod")
    (case z_max => first | k_is | k_exc | rfl | decide +kernel | fail "EC z_max")
    (case z_dict => first | k_is | k_exc | rfl | decide +kernel | fail "EC z_dict")
    (case z_sorted => first | k_is | k_exc | rfl | decide +kernel | fail "EC z_sorted")
    (case z_ValueError => first | k_is | k_exc | rfl | decide +kernel | fail "EC z_ValueError")
    (case a_MOVES => first | k_is | k_exc | rfl | decide +kernel | fail "EC a_MOVES")
    (case l_MOVES => first | k_is | k_exc | rfl | decide +kernel | fail "EC l_MOVES")
    (case a_JUMPS => first | k_is | k_exc | rfl | decide +kernel | fail "EC a_JUMPS")
    (case l_JUMPS => first | k_is | k_exc | rfl | decide +kernel | fail "EC l_JUMPS")
    (case a_KEYWORDS => first | k_is | k_exc | rfl | decide +kernel | fail "EC a_KEYWORDS")
    (case l_KEYWORDS => first | k_is | k_exc | rfl | decide +kernel | fail "EC l_KEYWORDS")
    (case a_LETTERS => first | k_is | k_exc | rfl | decide +kernel | fail "EC a_LETTERS")
    (case a_DIGITS => first | k_is | k_exc | rfl | decide +kernel | fail "EC a_DIGITS")
    (case a_SPACES => first | k_is | k_exc | rfl | decide +kernel | fail "EC a_SPACES")
    (case a_SIGNS => first | k_is | k_exc | rfl | decide +kernel | fail "EC a_SIGNS")
    (case a_MAX_LETTERS => first | k_is | k_exc | rfl | decide +kernel | fail "EC a_MAX_LETTERS")
    (case a_MAX_DIGITS => first | k_is | k_exc | rfl | decide +kernel | fail "EC a_MAX_DIGITS")
    (case a_NAME => first | k_is | k_exc | rfl | decide +kernel | fail "EC a_NAME")
    (case a_NUMBER => first | k_is | k_exc | rfl | decide +kernel | fail "EC a_NUMBER")
    (case a_KEYWORD => first | k_is | k_exc | rfl | decide +kernel | fail "EC a_KEYWORD")
    (case a_SIGN => first | k_is | k_exc | rfl | decide +kernel | fail "EC a_SIGN")
    (case a_END => first | k_is | k_exc | rfl | decide +kernel | fail "EC a_END")
    (case a_MIN_CELLS => first | k_is | k_exc | rfl | decide +kernel | fail "EC a_MIN_CELLS")
    (case a_MAX_CELLS => first | k_is | k_exc | rfl | decide +kernel | fail "EC a_MAX_CELLS")
    (case a_MAX_BOXES => first | k_is | k_exc | rfl | decide +kernel | fail "EC a_MAX_BOXES")
    (case a_MAX_STEPS => first | k_is | k_exc | rfl | decide +kernel | fail "EC a_MAX_STEPS")
    (case a_MAX_STATES => first | k_is | k_exc | rfl | decide +kernel | fail "EC a_MAX_STATES")
    (case a_BLOCKED => first | k_is | k_exc | rfl | decide +kernel | fail "EC a_BLOCKED")
    (case tnd => first | k_is | k_exc | rfl | decide +kernel | fail "EC tnd")
    (case rec_law => first | k_is | k_exc | rfl | decide +kernel | fail "EC rec_law")


