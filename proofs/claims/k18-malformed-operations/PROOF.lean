import PyProof.Rows.All
import Wide.All
import OpenK.AllK
import Wide.FinOn
import HandS.ForMost
import HandS.ForExc
import HandS.Walk
import HandS.Lambda
import HandS.Nested
import HandS.EndTab
import PySem.Challenge.RW_shelfbots_k18_malformed_operations
import HandS.Property
import HandS.GenCall
import HandS.GenList
import HandS.ExcIs
import HandS.ExcInit
import HandS.ExcField
import HandS.ClsMeth
import KE.KStateDown
import HandS.Head0
import HandS.Head1
import HandS.Head2
import HandS.HeadEnd
import HandS.HeadHook1
import HandS.HeadHook2
import HandS.HeadHook3
import HandS.HeadHook4
import HandS.HeadNt
import HandS.HeadWalk
import HandS.Zip
import KE.KDictKeyed
import PyProof.RulesMatch
import HandS.Style
import HandS.IsInst
import HandS.Star
import HandS.Strs
import KE.GoesMore
import KE.GoesEnum
import HandS.TupAny
import HandS.DeepEq
import PyProof.Rows.MatchSeqLen
import PyProof.Rows.TupIter
import HandS.More
import HandS.Dict
import HandS.CallLocal
import HandS.Small
import HandS.TryOnly
import HandS.Exc
import HandS.List
import HandS.SetFor
import HandS.ExcInitHot
import HandS.SuiteRaise
import HandS.RaiseFrom
import KE.KAsSuite
import HandS.WordsExc
import HandS.ExcOwn
set_option Elab.async false
set_option linter.all false
set_option maxRecDepth 100000
set_option maxHeartbeats 0
namespace Sb
open PySem PySem.Spec PyProof.Rows L2

/-! ### the data heap G within the heap H, grown by new objects alone -/
structure Ext (G H G' H' : Hp) : Prop where
  g : Same G G'
  h : Same G' H'
  n : ∀ b o, G' b = some o → G b = some o ∨ H b = none
  k : ∀ b, H' b = none → H b = none
/-- H without d -/
def wo (d : Addr) (H : Hp) : Hp := fun b => if b = d then none else H b
theorem wo_self {d : Addr} {H : Hp} : wo d H d = none := if_pos rfl
theorem wo_ne {d b : Addr} {H : Hp} (h : b ≠ d) : wo d H b = H b := if_neg h
theorem wo_some {d b : Addr} {H : Hp} {o : HO} (h : wo d H b = some o) : b ≠ d ∧ H b = some o := by
  by_cases e : b = d
  · rw [e, wo_self] at h; cases h
  · rw [wo_ne e] at h; exact ⟨e, h⟩
section
variable {G H G' H' G1 H1 G2 H2 : Hp} {d p l b : Addr} {o o' : HO}
theorem same_new (np : H p = none) : Same H (upd H p o) := fun b u e => by rw [upd_ne (ne_of_none e np)]; exact e
theorem same_up (s : Same G H) (np : H p = none) : Same (upd G p o) (upd H p o) := fun b u e => by
  by_cases h : b = p
  · subst h; rw [upd_same] at e ⊢; exact e
  · rw [upd_ne h] at e ⊢; exact s _ _ e
theorem same_put (s : Same G H) (n : G l = none) : Same G (upd H l o) := fun b u e => by rw [upd_ne (ne_of_none e n)]; exact s _ _ e
theorem same_add (s : Same G H) (h : H l = some o) : Same (upd G l o) H := fun b u e => by
  by_cases hb : b = l
  · subst hb; rw [upd_same] at e; rw [h]; exact e
  · rw [upd_ne hb] at e; exact s _ _ e
theorem Ext.refl (s : Same G H) : Ext G H G H := ⟨Same.refl G, s, fun _ _ e => .inl e, fun _ e => e⟩
theorem Ext.trans (a : Ext G H G1 H1) (b : Ext G1 H1 G2 H2) : Ext G H G2 H2 :=
  ⟨a.g.trans b.g, b.h, fun c o e => (b.n c o e).elim (fun e1 => a.n c o e1) fun e1 => .inr (a.k c e1), fun c e => a.k c (b.k c e)⟩
theorem Ext.start (a : Ext G H G' H') (s : Same G H) : Ext G H G H := Ext.refl s
/-- a new object, data -/
theorem Ext.new (a : Ext G H G1 H1) (np : H1 p = none) : Ext G H (upd G1 p o) (upd H1 p o) := by
  refine ⟨fun b u e => ?_, same_up a.h np, fun b u e => ?_, fun b e => ?_⟩
  · exact same_new (Same.free a.h np) _ _ (a.g b u e)
  · by_cases hb : b = p
    · rw [hb]; exact .inr (a.k p np)
    · rw [upd_ne hb] at e; exact a.n b u e
  · by_cases hb : b = p
    · rw [hb]; exact a.k p np
    · rw [upd_ne hb] at e; exact a.k b e
/-- a new object, not (yet) data -/
theorem Ext.lay (a : Ext G H G1 H1) (np : H1 p = none) : Ext G H G1 (upd H1 p o) := by
  refine ⟨a.g, same_put a.h (Same.free a.h np), a.n, fun b e => ?_⟩
  by_cases hb : b = p
  · rw [hb]; exact a.k p np
  · rw [upd_ne hb] at e; exact a.k b e
/-- a thing that is not data is written -/
theorem Ext.put (a : Ext G H G1 H1) (n : G1 l = none) : Ext G H G1 (upd H1 l o) := by
  refine ⟨a.g, same_put a.h n, a.n, fun b e => ?_⟩
  by_cases hb : b = l
  · rw [hb, upd_same] at e; cases e
  · rw [upd_ne hb] at e; exact a.k b e
/-- a thing made since becomes data -/
theorem Ext.freeze (a : Ext G H G1 H1) (n : H l = none) (h : H1 l = some o) : Ext G H (upd G1 l o) H1 := by
  refine ⟨fun b u e => ?_, same_add a.h h, fun b u e => ?_, a.k⟩
  · have e1 := a.g b u e
    by_cases hb : b = l
    · subst hb; rw [upd_same]; rw [← h]; exact a.h _ _ e1
    · rw [upd_ne hb]; exact e1
  · by_cases hb : b = l
    · rw [hb]; exact .inr n
    · rw [upd_ne hb] at e; exact a.n b u e
theorem Ext.out (a : Ext G H G1 H1) (g : G d = none) (h : H d = some o) : G1 d = none := by
  cases e : G1 d with
  | none => rfl
  | some u =>
    rcases a.n d u e with e1 | e1
    · rw [g] at e1; cases e1
    · rw [h] at e1; cases e1
theorem Ext.same (a : Ext G H G1 H1) : Same G H1 := a.g.trans a.h
theorem Ext.new_out (a : Ext G H G1 H1) (np : H1 p = none) : G1 p = none := Same.free a.h np
/-- the caller's wider data heap -/
theorem same_wo (s : Same G H) (g : G d = none) : Same G (wo d H) := fun b u e => by
  rw [wo_ne (ne_of_none e g)]; exact s _ _ e
end

/-! ### data -/
section
variable {K : PySem.W.Frag} {G H : Hp}
theorem Same.seqT {a : Addr} {xs : List V} (e : Same G H) (h : SqT K G a xs) : SqT K H a xs := by
  rcases h with (h | ⟨o, h⟩) | h
  · exact .inl (.inl (e _ _ h))
  · exact .inl (.inr ⟨o, e _ _ h⟩)
  · exact .inr h
mutual
theorem Dp.mono (s : Same G H) : ∀ (d : PyData) (v : V), Dp K G v d → Dp K H v d
  | _, _, .non => .non
  | _, _, .bl b => .bl b
  | _, _, .int i => .int i
  | _, _, .str x => .str x
  | .list ds, _, .lst h t => .lst (s.seq h) (Dp.monoAll s ds _ t)
  | .tuple ds, _, .tup h t => .tup (Same.seqT s h) (Dp.monoAll s ds _ t)
theorem Dp.monoAll (s : Same G H) : ∀ (ds : List PyData) (vs : List V), DpAll K G vs ds → DpAll K H vs ds
  | _, _, .nil => .nil
  | d :: ds, v :: vs, .cons h t => .cons (Dp.mono s d v h) (Dp.monoAll s ds vs t)
end
theorem DpAll.len : ∀ {vs : List V} {ds : List PyData}, DpAll K G vs ds → vs.length = ds.length
  | _, _, .nil => rfl
  | _, _, .cons _ t => congrArg (· + 1) (DpAll.len t)
theorem DpAll.get : ∀ {vs : List V} {ds : List PyData} {i : Nat} {v : V}, DpAll K G vs ds → vs[i]? = some v → ∃ d, ds[i]? = some d ∧ Dp K G v d
  | _, _, _, _, .nil, e => by simp at e
  | _, _, 0, _, .cons h _, e => by simp at e; subst e; exact ⟨_, rfl, h⟩
  | _, _, i + 1, v, .cons _ t, e => by
    obtain ⟨d, h1, h2⟩ := DpAll.get (i := i) (v := v) t (by simpa using e)
    exact ⟨d, by simpa using h1, h2⟩
theorem DpAll.at : ∀ {vs : List V} {ds : List PyData} {i : Nat} {d : PyData}, DpAll K G vs ds → ds[i]? = some d → ∃ v, vs[i]? = some v ∧ Dp K G v d
  | _, _, _, _, .nil, e => by simp at e
  | _, _, 0, _, .cons h _, e => by simp at e; subst e; exact ⟨_, rfl, h⟩
  | _, _, i + 1, v, .cons _ t, e => by
    obtain ⟨d, h1, h2⟩ := DpAll.at (i := i) t (by simpa using e)
    exact ⟨d, by simpa using h1, h2⟩
theorem DpAll.snoc : ∀ {vs : List V} {ds : List PyData} {v : V} {d : PyData}, DpAll K G vs ds → Dp K G v d → DpAll K G (vs ++ [v]) (ds ++ [d])
  | _, _, _, _, .nil, h => .cons h .nil
  | _, _, _, _, .cons h t, h' => .cons h (DpAll.snoc t h')
theorem DpAll.append : ∀ {vs us : List V} {ds es : List PyData}, DpAll K G vs ds → DpAll K G us es → DpAll K G (vs ++ us) (ds ++ es)
  | _, _, _, _, .nil, h => h
  | _, _, _, _, .cons h t, h' => .cons h (DpAll.append t h')
theorem DpAll.ints : ∀ (ns : List Int), DpAll K G (ns.map V.int) (ns.map PyData.int)
  | [] => .nil
  | n :: ns => .cons (.int n) (DpAll.ints ns)
theorem DpAll.strs : ∀ (ns : List Str), DpAll K G (ns.map V.str) (ns.map PyData.str)
  | [] => .nil
  | n :: ns => .cons (.str n) (DpAll.strs ns)
theorem Dp.int_inv {v : V} {i : Int} (h : Dp K G v (.int i)) : v = .int i := by cases h; rfl
theorem Dp.str_inv {v : V} {i : Str} (h : Dp K G v (.str i)) : v = .str i := by cases h; rfl
theorem Dp.none_inv {v : V} (h : Dp K G v .none) : v = .non := by cases h; rfl
theorem Dp.bool_inv {v : V} {b : Bool} (h : Dp K G v (.bool b)) : v = .bl b := by cases h; rfl
theorem Dp.tup_inv {v : V} {ds : List PyData} (h : Dp K G v (.tuple ds)) : ∃ a xs, v = .ref a ∧ SqT K G a xs ∧ DpAll K G xs ds := by
  cases h with
  | tup h t => exact ⟨_, _, rfl, h, t⟩
theorem Dp.lst_inv {v : V} {ds : List PyData} (h : Dp K G v (.list ds)) : ∃ a xs, v = .ref a ∧ SqL K G a xs ∧ DpAll K G xs ds := by
  cases h with
  | lst h t => exact ⟨_, _, rfl, h, t⟩
theorem DpAll.nil_inv {vs : List V} (h : DpAll K G vs []) : vs = [] := by cases h; rfl
theorem DpAll.cons_inv {vs : List V} {d : PyData} {ds : List PyData} (h : DpAll K G vs (d :: ds)) : ∃ v r, vs = v :: r ∧ Dp K G v d ∧ DpAll K G r ds := by
  cases h with
  | cons h t => exact ⟨_, _, rfl, h, t⟩
theorem DpAll.ints_inv : ∀ {ns : List Int} {vs : List V}, DpAll K G vs (ns.map PyData.int) → vs = ns.map V.int
  | [], _, .nil => rfl
  | _ :: _, _, .cons h t => by rw [Dp.int_inv h, DpAll.ints_inv t]; rfl
theorem DpAll.strs_inv : ∀ {ns : List Str} {vs : List V}, DpAll K G vs (ns.map PyData.str) → vs = ns.map V.str
  | [], _, .nil => rfl
  | _ :: _, _, .cons h t => by rw [Dp.str_inv h, DpAll.strs_inv t]; rfl
end

/-! ### fields of a new instance -/
theorem putF_new {f : Str} {v : V} : ∀ {fs : List (Str × V)}, f ∉ fs.map (·.1) → putF f v fs = fs ++ [(f, v)]
  | [], _ => rfl
  | (g, u) :: r, h => by
    have h1 : ¬ g = f := fun e => h (by simp [e])
    have h2 : f ∉ r.map (·.1) := fun e => h (by simp only [List.map_cons, List.mem_cons]; exact .inr e)
    show (if g = f then _ else (g, u) :: putF f v r) = _
    rw [if_neg h1, putF_new h2]
    rfl
theorem ite_b {c : Bool} {A B : Prop} (h1 : c = true → A) (h2 : c = false → B) : if c = true then A else B := by
  cases c with
  | true => rw [if_pos rfl]; exact h1 rfl
  | false => rw [if_neg Bool.false_ne_true]; exact h2 rfl
theorem ite_t {c : Bool} {A B : Prop} (hc : c = true) (h : A) : if c = true then A else B := by rw [if_pos hc]; exact h
theorem ite_f {c : Bool} {A B : Prop} (hc : c = false) (h : B) : if c = true then A else B := by rw [hc, if_neg Bool.false_ne_true]; exact h
theorem small {n : Nat} (m : Nat) (h : n ≤ m) (hm : m ≤ 16777216) : n ≤ sizeLine := by rw [sizeLine_eq]; omega
theorem smaller {n : Nat} (m : Nat) (h : n ≤ m) (hm : m < 16777216) : n < sizeLine := by rw [sizeLine_eq]; omega

/-! ### the source of draws: d = [seed, digits, further..] -/
structure Src (ds : List Int) : Prop where
  ex : ∃ s e r, ds = s :: e :: r ∧ 0 ≤ s ∧ 0 ≤ e ∧ (∀ x ∈ r, (0 : Int) ≤ x) ∧ r.length ≤ 63
end Sb

namespace Sb
open PySem PySem.Spec PyProof.Rows L2 LamX NdefX
/-! ### a thing held still -/
def Fz (o : Obj) : HO := .frz o (.ext fun _ => True)
theorem fz_ok {P : Program} {w : World} {H : Hp} {h : Heap} {a : Addr} {o : Obj} (e : h.get? a = some o) : ObjOk P w H h a (Fz o) := ⟨e, trivial, ⟨o, e⟩, fun _ _ _ _ => trivial⟩
theorem fz_at {P : Program} {w : World} {H : Hp} {h : Heap} {a : Addr} {o : Obj} (hok : HOk P w H h) (e : H a = some (Fz o)) : h.get? a = some o := (hok a _ e).1
/-- without these -/
def cut (S : List Addr) (H : Hp) : Hp := fun b => if b ∈ S then none else H b
theorem cut_in {S : List Addr} {H : Hp} {b : Addr} (h : b ∈ S) : cut S H b = none := if_pos h
theorem cut_out {S : List Addr} {H : Hp} {b : Addr} (h : b ∉ S) : cut S H b = H b := if_neg h
theorem cut_some {S : List Addr} {H : Hp} {b : Addr} {o : HO} (h : cut S H b = some o) : b ∉ S ∧ H b = some o := by
  by_cases e : b ∈ S
  · rw [cut_in e] at h; cases h
  · rw [cut_out e] at h; exact ⟨e, h⟩
/-- H4 is H with the cells tracked -/
structure Trk (cells : List (Addr × Obj)) (H H4 : Hp) : Prop where
  out : ∀ b, b ∉ cells.map (·.1) → H4 b = H b
  was : ∀ p ∈ cells, H p.1 = none
  at_ : ∀ p ∈ cells, H4 p.1 = some (Fz p.2)
section
variable {P : Program} {w : World} {K : PySem.W.Frag} {mg : Str → Option Value} {base : Heap} {A : Around} {outer : List Env} {s s' : Shared} {H H4 : Hp} {cells : List (Addr × Obj)} {Q : VK} {u : Value}
theorem Trk.none (t : Trk cells H H4) {b : Addr} (h : b ∈ cells.map (·.1)) : H b = Option.none ∧ ∃ o, H4 b = some (Fz o) := by
  obtain ⟨p, hp, rfl⟩ := List.mem_map.mp h
  exact ⟨t.was p hp, _, t.at_ p hp⟩
theorem Trk.cut (t : Trk cells H H4) : cut (cells.map (·.1)) H4 = H := by
  funext b
  by_cases h : b ∈ cells.map (·.1)
  · rw [cut_in h, (t.none h).1]
  · rw [cut_out h, t.out b h]
theorem Trk.hok (t : Trk cells H H4) (hok : HOk P w H s.heap) (hc : ∀ p ∈ cells, s.heap.get? p.1 = some p.2) : HOk P w H4 s.heap := fun b o e => by
  by_cases h : b ∈ cells.map (·.1)
  · obtain ⟨p, hp, rfl⟩ := List.mem_map.mp h
    rw [t.at_ p hp] at e
    cases e
    exact fz_ok (hc p hp)
  · rw [t.out b h] at e
    refine (hok b o e).stay (fun _ _ _ z => z) (fun c z => ?_) fun c xs z => ?_
    · rw [t.out c fun q => by rw [(t.none q).1] at z; cases z]; exact z
    · rw [t.out c fun q => by rw [(t.none q).1] at z; cases z]; exact z
theorem Trk.env0 (t : Trk cells H H4) (e0 : Env0 P w K mg base A outer s H) (hc : ∀ p ∈ cells, s.heap.get? p.1 = some p.2) (hb : ∀ p ∈ cells, base.get? p.1 = Option.none) (hf : ∀ p ∈ cells, p.1 ∉ frs outer) : Env0 P w K mg base A outer s H4 := by
  refine ⟨e0.frames, e0.mod, fun b o e => ⟨(e0.bs b o e).1, ?_⟩, e0.bsz, e0.funs, fun b hb' => ?_, t.hok e0.hok hc, e0.bare⟩
  · rw [t.out b fun q => ?_]
    · exact (e0.bs b o e).2
    · obtain ⟨p, hp, rfl⟩ := List.mem_map.mp q
      rw [hb p hp] at e; cases e
  · rw [t.out b fun q => ?_]
    · exact e0.frf b hb'
    · obtain ⟨p, hp, rfl⟩ := List.mem_map.mp q
      exact hf p hp hb'
/-- behind a call with the cells tracked -/
theorem Trk.after (t : Trk cells H H4) (hc : ∀ p ∈ cells, s.heap.get? p.1 = some p.2) (h : CE outer P w H4 s (fun v H' => Q v (Sb.cut (cells.map (·.1)) H')) u s') : CE outer P w H s Q u s' := by
  obtain ⟨v, H5, os, bare, un, hok, r, q⟩ := h
  have fz5 : ∀ p ∈ cells, H5 p.1 = some (Fz p.2) := fun p hp => un.frzs _ _ _ (t.at_ p hp)
  have at5 : ∀ p ∈ cells, s'.heap.get? p.1 = some p.2 := fun p hp => fz_at hok (fz5 p hp)
  have nS : ∀ {b : Addr} {o : HO}, H b = some o → b ∉ cells.map (·.1) := fun {b o} e q => by rw [(t.none q).1] at e; cases e
  refine ⟨v, _, os, bare, ⟨fun b o e n nf nx => ?_, fun b o e n nf nx => ?_, fun b o e n nx => ?_, un.there, fun b xs e => ?_, fun b o u e => ?_, fun b ps e => ?_⟩, fun b o e => ?_, r, q⟩
  · by_cases h : b ∈ cells.map (·.1)
    · obtain ⟨p, hp, rfl⟩ := List.mem_map.mp h
      rw [hc p hp] at e; cases e
      exact at5 p hp
    · exact un.keep b o e (by rw [t.out b h]; exact n) nf nx
  · by_cases h : b ∈ cells.map (·.1)
    · obtain ⟨p, hp, rfl⟩ := List.mem_map.mp h
      rw [hc p hp] at e; cases e
      exact ⟨p.2.slots, at5 p hp⟩
    · exact un.slot b o e (by rw [t.out b h]; exact n) nf nx
  · by_cases h : b ∈ cells.map (·.1)
    · exact cut_in h
    · rw [cut_out h]; exact un.free b o e (by rw [t.out b h]; exact n) nx
  · rw [cut_out (nS e)]; exact un.tups b xs (by rw [t.out b (nS e)]; exact e)
  · rw [cut_out (nS e)]; exact un.frzs b o u (by rw [t.out b (nS e)]; exact e)
  · rw [cut_out (nS e)]; exact un.tbls b ps (by rw [t.out b (nS e)]; exact e)
  · obtain ⟨hb, e5⟩ := cut_some e
    refine (hok b o e5).stay (fun _ _ _ z => z) (fun c z => ?_) fun c xs z => ?_
    · rw [cut_out fun q => ?_]; exact z
      obtain ⟨p, hp, rfl⟩ := List.mem_map.mp q
      rw [fz5 p hp] at z; cases z
    · rw [cut_out fun q => ?_]; exact z
      obtain ⟨p, hp, rfl⟩ := List.mem_map.mp q
      rw [fz5 p hp] at z; cases z
/-- the other way: they are untracked through a call -/
theorem Trk.env0_cut (hF : ∀ p ∈ cells, H4 p.1 = some (Fz p.2)) (e0 : Env0 P w K mg base A outer s H4) : Env0 P w K mg base A outer s (Sb.cut (cells.map (·.1)) H4) := by
  refine ⟨e0.frames, e0.mod, fun b o e => ⟨(e0.bs b o e).1, ?_⟩, e0.bsz, e0.funs, fun b hb => ?_, fun b o e => ?_, e0.bare⟩
  · unfold Sb.cut; split; rfl; exact (e0.bs b o e).2
  · unfold Sb.cut; split; rfl; exact e0.frf b hb
  · obtain ⟨hb, e4⟩ := cut_some e
    refine (e0.hok b o e4).stay (fun _ _ _ z => z) (fun c z => ?_) fun c xs z => ?_
    · rw [cut_out fun q => ?_]; exact z
      obtain ⟨p, hp, rfl⟩ := List.mem_map.mp q
      rw [hF p hp] at z; cases z
    · rw [cut_out fun q => ?_]; exact z
      obtain ⟨p, hp, rfl⟩ := List.mem_map.mp q
      rw [hF p hp] at z; cases z
def rejoin (S : List Addr) (H H' : Hp) : Hp := fun b => if b ∈ S then H b else H' b
theorem Trk.after_cut (hF : ∀ p ∈ cells, H4 p.1 = some (Fz p.2)) (e0 : Env0 P w K mg base A outer s H4) (h : CE outer P w (Sb.cut (cells.map (·.1)) H4) s (fun v H' => Q v (rejoin (cells.map (·.1)) H4 H')) u s') : CE outer P w H4 s Q u s' := by
  obtain ⟨v, H5, os, bare, un, hok, r, q⟩ := h
  have obj : ∀ {b : Addr}, b ∈ cells.map (·.1) → ∃ o, H4 b = some (Fz o) ∧ s.heap.get? b = some o ∧ b ∉ frs outer := fun {b} h => by
    obtain ⟨p, hp, rfl⟩ := List.mem_map.mp h
    refine ⟨p.2, hF p hp, fz_at e0.hok (hF p hp), fun z => ?_⟩
    have := e0.frf _ z
    rw [hF p hp] at this; cases this
  have n5 : ∀ {b : Addr}, b ∈ cells.map (·.1) → H5 b = Option.none := fun {b} h => by
    obtain ⟨o, _, h2, _⟩ := obj h
    exact un.free b o h2 (cut_in h) (by simp)
  have rin : ∀ {b : Addr}, b ∈ cells.map (·.1) → rejoin (cells.map (·.1)) H4 H5 b = H4 b := fun h => if_pos h
  have rout : ∀ {b : Addr}, b ∉ cells.map (·.1) → rejoin (cells.map (·.1)) H4 H5 b = H5 b := fun h => if_neg h
  refine ⟨v, _, os, bare, ⟨fun b o e n nf nx => ?_, fun b o e n nf nx => ?_, fun b o e n nx => ?_, un.there, fun b xs e => ?_, fun b o u e => ?_, fun b ps e => ?_⟩, fun b o e => ?_, r, q⟩
  · refine un.keep b o e ?_ nf nx
    unfold Sb.cut; split; rfl; exact n
  · refine un.slot b o e ?_ nf nx
    unfold Sb.cut; split; rfl; exact n
  · by_cases h : b ∈ cells.map (·.1)
    · rw [rin h]; exact n
    · rw [rout h]; exact un.free b o e (by rw [cut_out h]; exact n) nx
  · by_cases h : b ∈ cells.map (·.1)
    · rw [rin h]; exact e
    · rw [rout h]; exact un.tups b xs (by rw [cut_out h]; exact e)
  · by_cases h : b ∈ cells.map (·.1)
    · rw [rin h]; exact e
    · rw [rout h]; exact un.frzs b o u (by rw [cut_out h]; exact e)
  · by_cases h : b ∈ cells.map (·.1)
    · rw [rin h]; exact ⟨#[], by rw [e]; simp⟩
    · rw [rout h]; exact un.tbls b ps (by rw [cut_out h]; exact e)
  · by_cases h : b ∈ cells.map (·.1)
    · rw [rin h] at e
      obtain ⟨o', h1, h2, h3⟩ := obj h
      rw [h1] at e; cases e
      exact fz_ok (un.keep b o' h2 (cut_in h) h3 (by simp))
    · rw [rout h] at e
      refine (hok b o e).stay (fun _ _ _ z => z) (fun c z => ?_) fun c xs z => ?_
      · rw [rout fun q => ?_]; exact z
        rw [n5 q] at z; cases z
      · rw [rout fun q => ?_]; exact z
        rw [n5 q] at z; cases z
theorem rejoin_cut {S : List Addr} {H : Hp} : rejoin S H (Sb.cut S H) = H := by
  funext b
  by_cases h : b ∈ S
  · exact if_pos h
  · show (if b ∈ S then H b else Sb.cut S H b) = H b
    rw [if_neg h, cut_out h]
end
/-! ### a lambda is made, and tracked -/
section
variable {X : Cx} {pins : List (Addr × Obj)} {σ : L2.St} {H : Hp} {s : Shared}
theorem inv_fz {o : Obj} {t' : Nat} (I : Inv X pins σ H s) (hf : o.isFreed = false) : Inv X pins σ (upd H s.heap.objs.size (Fz o)) { s with heap := s.heap.push o, toks := t' } :=
  I.laid (a := s.heap.objs.size) (fun b u e => Heap.get?_push_of_some _ e) (Nat.le_refl _) (fz_ok (Heap.get?_push_size _ hf))
theorem lam_make3 {T : List (Addr × Str)} {c P : Addr} {params : Arguments} {body : Expr} {scope : Scope} {pos : Pos} {E : Value → Shared → Prop} {Q : Value → Shared → Prop} (I : Inv X pins σ H s) (TB : TabB X.base X.mg c P) (hcode : X.env.code = .ref c)
    (hm : (P, X.env.qual ++ "<lambda>") ∈ T) (hu : ∀ p ∈ T, p.1 = P → p.2 = X.env.qual ++ "<lambda>") (hT : Tabs T H) (hdef : defaultsOf params X.env = ([], [])) (hfree : ∀ y ∈ scope.names, y.2 = .free → ∃ c, X.env.cells.lookup y.1 = some c)
    (h : ∀ (f c' : Addr) (pm ctv : Value) (H1 : Hp) (s' : Shared), Inv X pins σ H1 s' → (∀ b o, b ≠ P → H b = some o → H1 b = some o) → (∀ b, H1 b = none → H b = none) → Tabs T H1 → H f = none →
      H1 f = some (Fz (PySem.W.kla_obj "<lambda>" (X.env.qual ++ "<lambda>") params body scope (cloFrom X.env.cells scope.names []) pm c' ctv)) → H1 c' = some (CodeO c' (X.env.qual ++ "<lambda>")) → Q (.ref f) s') :
    wpAny (model X.prog X.w) X.A (eval (.Lambda params body scope pos) X.env) Q E s := by
  obtain ⟨ps, hP, ht, ha⟩ := hT _ hm
  refine PySem.W.kla_eval hdef ?_
  have bP : s.heap.BuiltinsAt X.mg P := TB.bm.keeps I.bk
  have hP' : s.heap.get? P = some { cls := .none, data := .fields ps } := I.hok P _ hP
  cases hc : codeAmong pos ps.toList with
  | none =>
    refine PySem.W.kla_makeFunction (mg := X.mg) (c := c) (P := P) (ps := ps) (closure_ok hfree) I.ok.glob (I.mod.glob.keeps I.bk) hcode (TB.code.keeps I.bk) hP' ht hc TB.gP bP fun c' ctv h' tk hx hge hlt hrec htb => ?_
    obtain ⟨c2, oc, vs, t, e2, hoc, hd, hv⟩ := hrec
    cases e2
    have hsz : s.heap.objs.size ≤ h'.objs.size := Nat.le_trans hge (Nat.le_of_lt hlt)
    have nC : H c' = none := I.hok.fresh hge
    have I1 := inv_table (t' := tk) (more := #[rawInt pos.line, rawInt pos.col, .ref c']) (h' := h') I hP (fun b o hb e => hx b o hb e) htb hge ⟨oc, vs, t, hoc, hd, hv⟩
    have hE : ExtN H (upd (upd H P (.tbl (ps ++ #[rawInt pos.line, rawInt pos.col, .ref c']))) c' (CodeO c' (X.env.qual ++ "<lambda>"))) := fun b o e n => by
      rw [upd_ne (ne_of_none e nC), upd_ne (fun z => n ps (Option.some.inj (e.symm.trans (by rw [z]; exact hP))))]
      exact e
    have eL : (ps ++ #[rawInt pos.line, rawInt pos.col, .ref c']).toList = ps.toList ++ [rawInt pos.line, rawInt pos.col, .ref c'] := by simp
    have T1 : Tabs T (upd (upd H P (.tbl (ps ++ #[rawInt pos.line, rawInt pos.col, .ref c']))) c' (CodeO c' (X.env.qual ++ "<lambda>"))) := fun p hp => by
      by_cases hb : p.1 = P
      · rw [hu p hp hb, hb]
        refine ⟨_, by rw [upd_ne (ne_of_none hP nC), upd_same], by rw [eL]; exact PySem.TriplesOk_snoc _ _ _ _ ht, fun p' cv hcv => ?_⟩
        rw [eL] at hcv
        rcases among_app _ ht hcv with z | z
        · obtain ⟨c0, e1, e2⟩ := ha p' cv z
          exact ⟨c0, e1, hE _ _ e2 codeO_ne⟩
        · exact ⟨c', z, upd_same⟩
      · obtain ⟨ps', a1, a2, a3⟩ := hT p hp
        refine ⟨ps', by rw [upd_ne (ne_of_none a1 nC), upd_ne hb]; exact a1, a2, fun p' cv hcv => ?_⟩
        obtain ⟨c0, e1, e2⟩ := a3 p' cv hcv
        exact ⟨c0, e1, hE _ _ e2 codeO_ne⟩
    have nF := I1.hok.fresh (Nat.le_refl _)
    have I2 := inv_fz (o := PySem.W.kla_obj "<lambda>" (X.env.qual ++ "<lambda>") params body scope (cloFrom X.env.cells scope.names []) ((X.mg "__name__").getD .none) c' ctv) (t' := tk) I1 rfl
    refine h h'.objs.size c' ((X.mg "__name__").getD .none) ctv _ _ I2 (fun b o n e => ?_) (fun b e => upd_none (upd_none (upd_none e))) (T1.ext fun b o e => ?_) (I.hok.fresh hsz) upd_same ?_
    · have e1 : (upd (upd H P (.tbl (ps ++ #[rawInt pos.line, rawInt pos.col, .ref c']))) c' (CodeO c' (X.env.qual ++ "<lambda>"))) b = some o := by rw [upd_ne (ne_of_none e nC), upd_ne n]; exact e
      exact (upd_ne (ne_of_none e1 nF)).trans e1
    · exact (upd_ne (ne_of_none e nF)).trans e
    · exact (upd_ne (Nat.ne_of_lt hlt)).trans upd_same
  | some cv =>
    obtain ⟨c', e, hco⟩ := ha pos cv hc
    subst e
    refine PySem.W.kla_makeFunctionHit (mg := X.mg) (c := c) (P := P) (ps := ps) (closure_ok hfree) I.ok.glob (I.mod.glob.keeps I.bk) hcode (TB.code.keeps I.bk) hP' ht hc bP fun ctv h' tk hx hsz => ?_
    have I1 : Inv X pins σ H { s with heap := h', toks := tk } := I.kept fun b o e => hx b o e
    have nF : H h'.objs.size = none := I1.hok.fresh (Nat.le_refl _)
    have I2 := inv_fz (o := PySem.W.kla_obj "<lambda>" (X.env.qual ++ "<lambda>") params body scope (cloFrom X.env.cells scope.names []) ((X.mg "__name__").getD .none) c' ctv) (t' := tk) I1 rfl
    refine h h'.objs.size c' ((X.mg "__name__").getD .none) ctv _ _ I2 (fun b o n e => ?_) (fun b e => upd_none e) (hT.ext fun b o e => ?_) nF upd_same ?_
    · exact (upd_ne (ne_of_none e nF)).trans e
    · exact (upd_ne (ne_of_none e nF)).trans e
    · exact (upd_ne (ne_of_none hco nF)).trans hco
end
/-- lambda ..: .. as a value -/
def tLamV (T : List (Addr × Str)) (P : Addr) (q : Str) (params : Arguments) (body : Expr) (scope : Scope) (cl : List (Str × Addr)) : TE := fun σ H Q => Tabs T H ∧ ∀ (f c' : Addr) (pm ctv : Value) (H1 : Hp), (∀ b o, b ≠ P → H b = some o → H1 b = some o) → (∀ b, H1 b = none → H b = none) → Tabs T H1 → H f = none →
  H1 f = some (Fz (PySem.W.kla_obj "<lambda>" q params body scope cl pm c' ctv)) → H1 c' = some (CodeO c' q) → Q (.ref f) H1
section
variable {X : Cx}
theorem pe_lamV {T : List (Addr × Str)} {c P : Addr} {params : Arguments} {body : Expr} {scope : Scope} {pos : Pos} (TB : TabB X.base X.mg c P) (hcode : X.env.code = .ref c) (hm : (P, X.env.qual ++ "<lambda>") ∈ T) (hu : ∀ p ∈ T, p.1 = P → p.2 = X.env.qual ++ "<lambda>")
    (hdef : defaultsOf params X.env = ([], [])) (hfree : ∀ y ∈ scope.names, y.2 = .free → X.env.scope.names.lookup y.1 = some .cell ∨ X.env.scope.names.lookup y.1 = some .free) :
    PE X (.Lambda params body scope pos) (tLamV T P (X.env.qual ++ "<lambda>") params body scope (cloFrom X.env.cells scope.names [])) := by
  refine ⟨fun pins s σ H Q I h => ?_⟩
  obtain ⟨hT, h⟩ := h
  refine lam_make3 I TB hcode hm hu hT hdef (fun y hy e => (hfree y hy e).elim (fun z => I.ok.has _ (.inl z)) fun z => I.ok.has _ (.inr z)) fun f c' pm ctv H1 s' I1 eN nn T1 f0 f1 c1 => ?_
  exact ⟨.ref f, H1, I1, rfl, h f c' pm ctv H1 eN nn T1 f0 f1 c1⟩
end
/-! ### a method is called, the captured cells tracked -/
structure CapT (cl : List (Str × Addr)) (fr : List Str) (ws : List (Option V)) (cells : List (Addr × Obj)) : Prop where
  len : ws.length = fr.length
  all : ∀ y c, cl.lookup y = some c → ∃ o v, (c, o) ∈ cells ∧ o.data = .cell v
  inj : ∀ x y c, cl.lookup x = some c → cl.lookup y = some c → x = y
  has : ∀ (i : Nat) (y : Str), fr[i]? = some y → ∃ c, cl.lookup y = some c ∧ ∀ v, ws[i]? = some (some v) → ∃ o u, (c, o) ∈ cells ∧ o.data = .cell (some u) ∧ L2.RelV v u
theorem capT_cells {cl : List (Str × Addr)} {fr : List Str} {ws : List (Option V)} {cells : List (Addr × Obj)} {P : Program} {w : World} {H : Hp} {h : Heap} (C : CapT cl fr ws cells) (hok : HOk P w H h) (hF : ∀ p ∈ cells, H p.1 = some (Fz p.2)) : CellsAt cl fr ws h (cut (cells.map (·.1)) H) := by
  refine ⟨C.len, fun y c e => ?_, C.inj, fun i y e => ?_⟩
  · obtain ⟨o, v, hm, hd⟩ := C.all y c e
    exact ⟨cut_in (List.mem_map.mpr ⟨_, hm, rfl⟩), v, o, fz_at hok (hF _ hm), hd⟩
  · obtain ⟨c, hc, hv⟩ := C.has i y e
    refine ⟨c, hc, fun v ev => ?_⟩
    obtain ⟨o, u, hm, hd, r⟩ := hv v ev
    exact ⟨u, r, o, fz_at hok (hF _ hm), hd⟩
def tMethT (C : Addr) (m : Str) (sp : Sp) (E : XK) (ta : TE) (t : TA) (cl : List (Str × Addr)) (fr : List Str) (js : List Nat) : TE := fun σ H Q => ta σ H fun x H1 => ∃ a dx fs, x = .ref a ∧ H1 a = some (.ins C dx fs) ∧ fs.lookup m = none ∧
  t σ H1 fun vs H3 => ∀ (cells : List (Addr × Obj)) (H4 : Hp), CapT cl fr (js.map (slotAt σ)) cells → Trk cells H3 H4 → sp (x :: vs) H4 (fun v H5 => Q v (cut (cells.map (·.1)) H5)) E
section
variable {X : Cx} {C f : Addr} {k : Nat} {fd : FuncData} {ps : List Str} {sp : Sp} {m : Str} {o e : Expr} {es : List Expr} {ta : TE} {t : TA} {pos apos : Pos} {scope : Scope} {fr : List Str} {js : List Nat}
theorem pe_methT {pl : Sem Bool} (he : PE X o ta) (c : Cls X.K C) (hm : Meth X.K C m f) (F : FnOk X.prog X.w X.K X.mg X.base CX0 k f fd ps sp) (hr : Room k X.A) (hb : Binds X.K fd ps []) (ha : PA X (e :: es) t)
    (hfn : ∀ x, X.fn x = true) (hfree : ∀ y ∈ scope.names, y.2 = .free → X.env.scope.names.lookup y.1 = some .cell ∨ X.env.scope.names.lookup y.1 = some .free) (hfr : ∀ y ∈ fr, (y, NameKind.free) ∈ scope.names) (hjs : js.map (fun j => X.N[j]?) = fr.map some)
    (hst : starEach (e :: es) X.env = (false, eval e X.env) :: starEach es X.env := by rfl) (hpl : (backTo pos (starEach es X.env)).any (·.1) = false := by rfl)
    (ht : eval (.Call (.Attribute o m apos) (e :: es) [] pos) X.env = (do
      let ov ← eval o X.env
      standAt apos.atName
      let (f, first) ← holding [ov] (getMethod ov m pl)
      callWith pos f first (backTo pos (starEach (e :: es) X.env)) (backToKw pos (keywordEach [] X.env))) := by rfl) :
    PE X (.Call (.Attribute o m apos) (e :: es) [] pos) (tMethT C m sp E0 ta t (cloFrom X.env.cells scope.names []) fr js) := by
  refine ⟨fun pins s σ H Q I h => ?_⟩
  refine PySem.W.methodCall_KW (pl := pl) (thn (he.run pins s σ H _ I h) fun u s1 ⟨x, H1, I1, rx, a, dx, fs, ex, ea, l, q⟩ => ?_) ht
  subst ex
  obtain rfl : u = Value.ref a := rx
  refine getmeth_ok I1 ea c hm l ?_
  refine PySem.W.callWith_K (first := [.ref a]) (h₀ := X.base) I.ok.mod.kin hm.kp (thn (ha.run pos pins s1 σ H1 _ I1 q) fun us s2 ⟨vs, H2, I2, r, q2⟩ => ⟨I2.kIn, ?_⟩) hst hpl
  have cp : Caps X (cloFrom X.env.cells scope.names []) fr js := Caps.made I2.ok hfree hfr hjs
  have hf : ∀ y ∈ scope.names, y.2 = .free → ∃ c, X.env.cells.lookup y.1 = some c := fun y hy e => (hfree y hy e).elim (fun z => I2.ok.has _ (.inl z)) fun z => I2.ok.has _ (.inr z)
  have CA := cells_of I2 cp
  generalize hcl : cloFrom X.env.cells scope.names [] = cl at *
  -- the cells, as they stand
  have mem : ∀ p ∈ pinsAt (cl.map (·.2)) s2.heap, ∃ y, X.env.cells.lookup y = some p.1 := fun p hp => by
    obtain ⟨h1, _⟩ := of_pinsAt hp
    obtain ⟨⟨y, b⟩, hyb, eb⟩ := List.mem_map.mp h1
    have eb : b = p.1 := eb
    rw [← hcl] at hyb
    rcases cloFrom_mem hyb with z | ⟨z1, z2⟩
    · cases z
    · obtain ⟨c1, hc1⟩ := hf _ z1 rfl
      have hc1 : X.env.cells.lookup y = some c1 := hc1
      refine ⟨y, ?_⟩
      rw [← eb, hc1]
      have z2 : b = ((X.env.cells.lookup y).getD 0) := z2
      rw [z2, hc1]
      rfl
  have hcS : ∀ p ∈ pinsAt (cl.map (·.2)) s2.heap, s2.heap.get? p.1 = some p.2 := fun p hp => (of_pinsAt hp).2
  have T4 : Trk (pinsAt (cl.map (·.2)) s2.heap) H2 (fun b => if b ∈ (pinsAt (cl.map (·.2)) s2.heap).map (·.1) then (s2.heap.get? b).map Fz else H2 b) := by
    refine ⟨fun b hb => if_neg hb, fun p hp => ?_, fun p hp => ?_⟩
    · obtain ⟨y, hy⟩ := mem p hp
      exact I2.freeC y _ hy
    · show (if p.1 ∈ _ then _ else _) = _
      rw [if_pos (List.mem_map.mpr ⟨p, hp, rfl⟩), hcS p hp]
      rfl
  have CT : CapT cl fr (js.map (slotAt σ)) (pinsAt (cl.map (·.2)) s2.heap) := by
    have inC : ∀ {y : Str} {c : Addr}, cl.lookup y = some c → c ∈ cl.map (·.2) := fun {y c} e => List.mem_map.mpr ⟨_, PySem.mem_of_lookup e, rfl⟩
    refine ⟨CA.len, fun y c e => ?_, CA.inj, fun i y e => ?_⟩
    · obtain ⟨_, v, o, ho, hd⟩ := CA.all y c e
      exact ⟨o, v, mem_pinsAt (inC e) ho, hd⟩
    · obtain ⟨c, hc, hv⟩ := CA.has i y e
      refine ⟨c, hc, fun v ev => ?_⟩
      obtain ⟨u, r, o, ho, hd⟩ := hv v ev
      exact ⟨o, u, mem_pinsAt (inC hc) ho, hd, r⟩
  have e0 := T4.env0 I2.env0 hcS (fun p hp => ?_) (fun p hp => ?_)
  · have q3 := q2 _ _ CT T4
    have r2 : Vals (V.ref a :: vs) (.ref a :: us) := .cons rfl r
    have hl : (Value.ref a :: us).length = ps.length := by rw [← r2.length]; exact F.len _ _ _ _ q3
    refine wpAny_call (codeAny_mono (F.run X.A X.stack s2 _ ⟨.ref a :: us, []⟩ (.ref a :: us) (.ref a :: vs) _ _ hr e0 ?_ r2 q3) fun r' s' hq => ?_)
    · have := hb s2 (.ref a :: us) I2.kIn (by rw [List.append_nil]; exact hl)
      rw [List.append_nil] at this
      exact this
    · cases r' with
      | error e => exact False.elim hq
      | ok fl =>
        cases fl with
        | ret u => exact I2.after (T4.after hcS hq)
        | next => exact False.elim hq
        | brk => exact False.elim hq
        | cont => exact False.elim hq
  · obtain ⟨y, hy⟩ := mem p hp
    have h1 := I2.ok.cab y _ (hfn y) hy
    cases e : X.base.get? p.1 with
    | none => rfl
    | some o => exact absurd (Nat.lt_of_lt_of_le (Heap.lt_size e) (Nat.le_trans I2.ok.bsz h1)) (Nat.lt_irrefl _)
  · obtain ⟨y, hy⟩ := mem p hp
    obtain ⟨v, o, ho, hd⟩ := I2.cell y _ hy
    intro hfrm
    rcases List.mem_cons.mp (I2.stkSub _ hfrm) with z | z
    · obtain ⟨m, hns, _⟩ := I2.loc
      obtain ⟨o2, es2, ep2, ho2, hd2, _⟩ := hns
      rw [← z, ho] at ho2; cases ho2
      rw [hd] at hd2; cases hd2
    · obtain ⟨_, o2, ho2, _⟩ := I2.ok.funs.mem z
      exact absurd (Nat.lt_of_lt_of_le (Heap.lt_size ho2) (I2.ok.cab y _ (hfn y) hy)) (Nat.lt_irrefl _)
end
/-! ### a function of one argument that gives a value and changes nothing -/
structure Lam1 (P : Program) (w : World) (K : PySem.W.Frag) (mg : Str → Option Value) (base : Heap) (k : Nat) (f : Addr) (D : Hp → Prop) (R : V → Hp → V → Prop) : Prop where
  fn : ∀ (H : Hp) (h : Heap), HOk P w H h → D H → PySem.W.FnAt f h
  run : ∀ (A : Around) (outer : List Env) (s : Shared) (H : Hp) (u : Value) (v : V) (Q : VK), Room k A → Env0 P w K mg base A outer s H → D H → L2.RelV v u → (∃ z, R v H z ∧ Q z H) →
    codeAny (model P w) A (.call (.ref f) ⟨[u], []⟩) (CR CX0 outer P w H s Q E0) s
def tCallM (P : Program) (w : World) (K : PySem.W.Frag) (mg : Str → Option Value) (base : Heap) (k i : Nat) (t : TA) : TE := fun σ H Q => ∃ f D R, Lam1 P w K mg base k f D R ∧ σ[i]? = some (some (.ref f)) ∧ D H ∧ t σ H fun vs H1 => ∃ v, vs = [v] ∧ D H1 ∧ ∃ z, R v H1 z ∧ Q z H1
section
variable {X : Cx} {i k : Nat} {x : Str} {e : Expr} {t : TA} {p pos : Pos}
theorem pe_callM (hr : Room k X.A) (hN : X.N[i]? = some x) (hv : Vis X.env.scope x) (ha : PA X [e] t) (hd : (x == ("__debug__" : Str)) = false := by decide) (hcd : (x == ("__classdict__" : Str)) = false := by decide)
    (he : starEach [e] X.env = (false, eval e X.env) :: starEach [] X.env := by rfl) : PE X (.Call (.Name x p) [e] [] pos) (tCallM X.prog X.w X.K X.mg X.base k i t) := by
  refine ⟨fun pins s σ H Q I h => ?_⟩
  obtain ⟨f, D, R, L, hs, hD, ht⟩ := h
  refine wpAny_Call_Name_kw (thn ((pe_var (pos := p) hN hv hd hcd).run pins s σ H (fun v H1 => v = .ref f ∧ H1 = H) I ⟨.ref f, hs, rfl, rfl⟩) fun u s1 ⟨v, H1, I1, r1, q1⟩ => ?_)
  obtain ⟨ev, eH⟩ := q1
  subst ev
  rw [eH] at I1
  obtain rfl : u = Value.ref f := r1
  refine PySem.W.callWith_F (first := []) (L.fn _ _ I1.hok hD) (thn (ha.run pos pins s1 σ H _ I1 ht) fun us s2 ⟨vs, H2, I2, r, v, ev, h1, q⟩ => ⟨L.fn _ _ I2.hok h1, ?_⟩) he (by rfl)
  subst ev
  cases r with
  | cons rv rr =>
    cases rr
    show wpAny _ _ (call (.ref f) _) _ _ _
    refine wpAny_call (codeAny_mono (L.run X.A X.stack s2 H2 _ v Q hr I2.env0 h1 rv q) fun r' s' hq => ?_)
    cases r' with
    | error e => exact False.elim hq
    | ok fl =>
      cases fl with
      | ret u => exact I2.after hq
      | next => exact False.elim hq
      | brk => exact False.elim hq
      | cont => exact False.elim hq
end
/-! ### a lambda of one parameter -/
abbrev lamF (q : Str) (params : Arguments) (scope : Scope) (cl : List (Str × Addr)) (c' : Addr) : NF := ⟨"<lambda>", q, params, [], scope, cl, c'⟩
def LamD (f c' : Addr) (q : Str) (o : Obj) (cells : List (Addr × Obj)) (H : Hp) : Prop := H f = some (Fz o) ∧ H c' = some (CodeO c' q) ∧ ∀ p ∈ cells, H p.1 = some (Fz p.2)
theorem lam1_of {P : Program} {w : World} {K : PySem.W.Frag} {mg : Str → Option Value} {base : Heap} {k : Nat} {N fr : List Str} {ws : List (Option V)} {cells : List (Addr × Obj)} {cl : List (Str × Addr)} {f c' : Addr} {q x : Str} {params : Arguments} {body : Expr} {scope : Scope} {pm ctv : Value} {R : V → Hp → V → Prop}
    (S : NScope N [x] fr scope) (hb : ∀ u : Value, bindArgs (PySem.W.kla_fn "<lambda>" q params body scope cl pm (.ref c') ctv) ⟨[u], []⟩ = pure [(x, u)]) (C : CapT cl fr ws cells)
    (hbody : ∀ (A : Around) (outer : List Env) (s : Shared) (H : Hp) (v z : V), Room k (A.deeper (envF (lamF q params scope cl c') f s.heap.objs.size)) → R v H z →
      ∃ t : TE, PE (ncx CX0 P w K mg base N (lamF q params scope cl c') f A outer s (cut (cells.map (·.1)) H) E0) body t ∧ ∀ Q : VK, Q z (cut (cells.map (·.1)) H) → t (startF N [v] ws) (cut (cells.map (·.1)) H) Q) :
    Lam1 P w K mg base (k + 1) f (LamD f c' q (PySem.W.kla_obj "<lambda>" q params body scope cl pm c' ctv) cells) R := by
  refine ⟨fun H h hok D => ⟨_, _, _, _, fz_at hok D.1⟩, fun A outer s H u v Q hr e0 D rv qq => ?_⟩
  obtain ⟨hf, hc, hF⟩ := D
  obtain ⟨z, hR, hQ⟩ := qq
  have e1 := Trk.env0_cut hF e0
  have CA := capT_cells C e0.hok hF
  have of := fz_at e0.hok hf
  have hcode := codeO_at e0.hok hc
  have lim : s.heap.NoLimit := e0.mod.nolimit.keeps fun b o e => (e0.bs b o e).1
  have rc : codeAny (model P w) A (.call (.ref f) ⟨[u], []⟩) (CR CX0 outer P w (cut (cells.map (·.1)) H) s (fun v H' => Q v (rejoin (cells.map (·.1)) H H')) E0) s := by
    refine PySem.W.kla_callFunE hr.depth of rfl S.co S.gen rfl hcode ?_
    rw [hb u]
    refine wpAny_pure (wpAny_newFunctionEnv S.nocell (fun y hy => ?_) (fun h₁ hns hsb => ⟨lim.fresh _ hsb, ?_⟩) S.kind)
    · rw [List.mem_singleton.mp hy]
      exact S.par x (List.mem_singleton.mpr rfl)
    show codeAny _ _ (.expr body (envF (lamF q params scope cl c') f s.heap.objs.size)) _ _
    have kp : ∀ b o, s.heap.get? b = some o → h₁.get? b = some o := fun b o e => hsb.extBut b o (Nat.ne_of_lt (Heap.lt_size e)) (Heap.get?_push_of_some _ e)
    have J : Inv (ncx CX0 P w K mg base N (lamF q params scope cl c') f A outer s (cut (cells.map (·.1)) H) E0) [] (startF N [v] ws) (cut (cells.map (·.1)) H) { s with heap := h₁, toks := s.toks + ([(x, u)] : List (Str × Value)).length } :=
      inv_startN (F := lamF q params scope cl c') (ps := [x]) (us := [u]) (vs := [v]) S hr.hd e1 rfl (.cons rv .nil) CA hns kp
    obtain ⟨t, ht, hq⟩ := hbody A outer s H v z (hr.deeper _) hR
    refine PySem.W.kla_codeExpr (wpAny_mono (ht.run [] _ _ _ (fun v H' => Q v (rejoin (cells.map (·.1)) H H')) J (hq _ (by rw [rejoin_cut]; exact hQ))) (fun v s' hq' => ?_) fun e s' hq' => hq')
    obtain ⟨w', H', J', rv', q'⟩ := hq'
    exact ⟨w', H', J'.os, J'.bare, J'.base, J'.hok, rv', q'⟩
  refine codeAny_mono rc fun r s' hq => ?_
  cases r with
  | error e => exact hq
  | ok fl =>
    cases fl with
    | ret u => exact Trk.after_cut hF e0 hq
    | next => exact hq
    | brk => exact hq
    | cont => exact hq
end Sb

namespace Sb
open PySem PySem.Spec PyProof.Rows L2
/-- the lambda that stands last among the arguments of the call that a def returns -/
def lamArg (st : Stmt) : Expr := match (defBody st).getLast? with
  | some (.Return (some (.Call _ es _ _)) _) => es.getLast?.getD (.Constant .none 0 ⟨0, 0, 0, 0⟩)
  | _ => .Constant .none 0 ⟨0, 0, 0, 0⟩
def lamScope : Expr → Scope
  | .Lambda _ _ sc _ => sc
  | _ => default
def lamPar : Expr → Arguments
  | .Lambda ps _ _ _ => ps
  | _ => default
def lamBody : Expr → Expr
  | .Lambda _ b _ _ => b
  | e => e
theorem fun_okC {P : Program} {w : World} {K : PySem.W.Frag} {mg : Str → Option Value} {base : Heap} {x qual : Str} {st : Stmt} {f c : Addr} {fd : FuncData} {N ps : List Str} {k : Nat} {sp : Sp} (F : L2.Fun K x qual st f fd) (hc : fd.code = .ref c) (S : FnScope N ps (defScope st)) (len : ∀ vs H Q E, sp vs H Q E → vs.length = ps.length)
    (hbody : ∀ (A : Around) (outer : List Env) (s : Shared) (H : Hp) (vs : List V) (Q : VK) (E : XK), Room k (A.deeper (envOfC qual (defScope st) s.heap.objs.size f (.ref c))) → sp vs H Q E →
      ∃ t, PSs (cxOf CX0 P w K mg base N qual (defScope st) f (.ref c) A outer s H E).nox (defBody st) t ∧ t { nx := fun _ H' => Q .non H', rt := Q } (start N vs) H) : FnOk P w K mg base CX0 (k + 1) f fd ps sp := by
  obtain ⟨oc, od, kV, doc, pm, an, cdv, ct, osl, rfl, lk, hcd⟩ := F.ex
  have hc' : cdv = .ref c := hc
  subst hc'
  refine fn_of lk hcd S len fun A outer s H vs Q E hr hsp => ?_
  obtain ⟨t, h, q⟩ := hbody A outer s H vs Q E hr hsp
  exact ⟨t, h.nox, q⟩
end Sb

namespace Sb
open PySem PySem.Spec PyProof.Rows L2
/-! ### the heap with the source of draws at d, beside the data heap G -/
structure Now (d : Addr) (G H : Hp) : Prop where
  s : Same G H
  o : G d = none
  x : ∃ ds : List Int, H d = some (.lst (ds.map V.int)) ∧ Src ds
structure At (d : Addr) (G0 H0 G H : Hp) : Prop where
  now : Now d G H
  ext : Ext G0 H0 G H
  sm : Same (wo d H0) H
section
variable {d p l : Addr} {G0 H0 G H G1 H1 G2 H2 : Hp} {o : HO} {ds : List Int}
theorem Now.at (h : Now d G H) : At d G H G H := ⟨h, Ext.refl h.s, fun b o e => (wo_some e).2⟩
theorem Now.ne (h : Now d G H) (np : H p = none) : p ≠ d := by
  obtain ⟨ds, h1, _⟩ := h.x
  exact fun e => by rw [e, h1] at np; cases np
theorem At.ne (h : At d G0 H0 G H) (np : H p = none) : p ≠ d := h.now.ne np
theorem At.new (h : At d G0 H0 G H) (np : H p = none) (o : HO) : At d G0 H0 (upd G p o) (upd H p o) := by
  refine ⟨⟨same_up h.now.s np, ?_, ?_⟩, h.ext.new np, h.sm.trans (same_new np)⟩
  · rw [upd_ne (h.ne np).symm]; exact h.now.o
  · rw [upd_ne (h.ne np).symm]; exact h.now.x
theorem At.lay (h : At d G0 H0 G H) (np : H p = none) (o : HO) : At d G0 H0 G (upd H p o) := by
  refine ⟨⟨same_put h.now.s (Same.free h.now.s np), h.now.o, ?_⟩, h.ext.lay np, h.sm.trans (same_new np)⟩
  rw [upd_ne (h.ne np).symm]; exact h.now.x
theorem At.draw (h : At d G0 H0 G H) (s : Src ds) : At d G0 H0 G (upd H d (.lst (ds.map V.int))) :=
  ⟨⟨same_put h.now.s h.now.o, h.now.o, ⟨ds, upd_same, s⟩⟩, h.ext.put h.now.o, same_put h.sm wo_self⟩
/-- a thing made since, not data, is written -/
theorem At.put (h : At d G0 H0 G H) (n0 : H0 l = none) (n : G l = none) (hd : l ≠ d) (o : HO) : At d G0 H0 G (upd H l o) := by
  refine ⟨⟨same_put h.now.s n, h.now.o, ?_⟩, h.ext.put n, same_put h.sm ?_⟩
  · rw [upd_ne hd.symm]; exact h.now.x
  · rw [wo_ne hd]; exact n0
theorem At.freeze (h : At d G0 H0 G H) (n0 : H0 l = none) (hl : H l = some o) (hd : l ≠ d) : At d G0 H0 (upd G l o) H :=
  ⟨⟨same_add h.now.s hl, by rw [upd_ne hd.symm]; exact h.now.o, h.now.x⟩, h.ext.freeze n0 hl, h.sm⟩
theorem At.trans (a : At d G0 H0 G H) (b : At d G H G1 H1) : At d G0 H0 G1 H1 := by
  refine ⟨b.now, a.ext.trans b.ext, fun c o e => ?_⟩
  have e1 := a.sm c o e
  exact b.sm c o (by rw [wo_ne (wo_some e).1]; exact e1)
theorem At.g (a : At d G0 H0 G H) : Same G0 G := a.ext.g
/-- what is not the source stands through a call -/
theorem At.kept (a : At d G H G1 H1) (h : H l = some o) (hd : l ≠ d) : H1 l = some o := a.sm l o (by rw [wo_ne hd]; exact h)
/-- behind a pure call -/
theorem At.pure (a : At d G0 H0 G H) (e : Ext G H G1 H1) (s : Same H H1) : At d G0 H0 G1 H1 := by
  obtain ⟨ds, h1, h2⟩ := a.now.x
  exact ⟨⟨e.h, e.out a.now.o h1, ⟨ds, s _ _ h1, h2⟩⟩, a.ext.trans e, a.sm.trans s⟩
end

/-- what follows a statement, shown once -/
theorem seq_rest {t u : TS} {D : Ends} {σ : L2.St} {H : Hp} (P : Hp → Prop) (σ' : L2.St) (hr : ∀ H, P H → u D σ' H) (h : (∀ H, P H → u D σ' H) → t { D with nx := u D } σ H) : tSeq t u D σ H := h hr
theorem seq_restσ {t u : TS} {D : Ends} {σ : L2.St} {H : Hp} (P : L2.St → Hp → Prop) (hr : ∀ σ H, P σ H → u D σ H) (h : (∀ σ H, P σ H → u D σ H) → t { D with nx := u D } σ H) : tSeq t u D σ H := h hr

/-! ### plans -/
def wds : List Str := ["left", "right", "pick", "put", "wait", "goto", "empty", "held"]
def wS (w : Nat) : Str := wds.getD w Str.empty
structure Step where
  w : Nat
  g : Option Nat
  deriving DecidableEq
def optD : Option Nat → PyData
  | none => .none
  | some k => .int k
def natD (n : Nat) : PyData := .int n
def Step.D (s : Step) : PyData := .tuple [.str (wS s.w), optD s.g]
structure Step.Ok (n : Nat) (s : Step) : Prop where
  w8 : s.w < 8
  no : s.w < 5 → s.g = none
  yes : 5 ≤ s.w → ∃ k, s.g = some k ∧ k < n
def stepsD (l : List Step) : PyData := .list (l.map Step.D)
structure StepsOk (l : List Step) : Prop where
  pos : 1 ≤ l.length
  le : l.length ≤ 20
  all : ∀ s ∈ l, Step.Ok l.length s
structure Pl where
  shelf : List Nat
  a : Nat
  b : Nat
  p : List Step
  q : List Step
def Pl.D (x : Pl) : PyData := .tuple [.tuple (x.shelf.map natD), .tuple [natD x.a, natD x.b], .list [stepsD x.p, stepsD x.q]]
structure Pl.Ok (x : Pl) : Prop where
  c3 : 3 ≤ x.shelf.length
  c12 : x.shelf.length ≤ 12
  b3 : ∀ n ∈ x.shelf, n ≤ 3
  ha : x.a < x.shelf.length
  hb : x.b < x.shelf.length
  ne : x.a ≠ x.b
  p : StepsOk x.p
  q : StepsOk x.q
/-- a def that draws: from the heap as it stands to one with R of its value -/
def Drawn (d : Addr) (G H : Hp) (Q : VK) (R : Hp → V → Prop) : Prop := Now d G H ∧ ∀ (G' H' : Hp) (v : V), At d G H G' H' → R G' v → Q v H'
/-- a def that changes nothing that stood -/
def Pure (G H : Hp) (Q : VK) (R : Hp → V → Prop) : Prop := Same G H ∧ ∀ (G' H' : Hp) (v : V), Ext G H G' H' → Same H H' → R G' v → Q v H'
end Sb

namespace Sb
open PySem PySem.Spec PyProof.Rows L2 TL
/-! ### canonical texts, by codes -/
def mkS (l : List Nat) : Str := ⟨l.toArray⟩
theorem tl_mkS (l : List Nat) : tl (mkS l) = l := rfl
theorem mkS_tl (x : Str) : mkS (tl x) = x := mk_tl x
theorem mkS_of {x : Str} {l : List Nat} (h : tl x = l) : x = mkS l := ext_tl h
theorem len_mkS (l : List Nat) : (mkS l).length = l.length := len_tl _
theorem len_app (x y : Str) : (x ++ y).length = x.length + y.length := by rw [len_tl, tl_append, List.length_append, ← len_tl, ← len_tl]
def wL (w : Nat) : List Nat := tl (wS w)
def goalsOf (ss : List Step) : List Nat := ss.filterMap Step.g
def stepL (gs : List Nat) (k : Nat) (s : Step) : List Nat :=
  [32, 32] ++ (if k ∈ gs then [115, 97 + k, 58, 32] else []) ++ wL s.w ++ (match s.g with | none => [] | some g => [32, 115, 97 + g]) ++ [59]
def stepsL (gs : List Nat) (k : Nat) : List Step → List (List Nat)
  | [] => []
  | s :: r => stepL gs k s :: stepsL gs (k + 1) r
def robotL (n : Nat) (ss : List Step) : List (List Nat) := ([114, 111, 98, 111, 116, 32] ++ numL n ++ [32, 123]) :: (stepsL (goalsOf ss) 0 ss ++ [[125]])
def shelfL (l : List Nat) : List Nat := [115, 104, 101, 108, 102, 32] ++ joinL [32] (l.map numL) ++ [59]
def linesL (x : Pl) : List (List Nat) := shelfL x.shelf :: (robotL x.a x.p ++ robotL x.b x.q)
def textL (x : Pl) : List Nat := joinL [10] (linesL x)
def textS (x : Pl) : Str := mkS (textL x)
theorem stepsL_len (gs : List Nat) : ∀ (k : Nat) (ss : List Step), (stepsL gs k ss).length = ss.length
  | _, [] => rfl
  | k, s :: r => by show (stepsL gs (k + 1) r).length + 1 = _; rw [stepsL_len gs (k + 1) r]; rfl
theorem stepsL_snoc (gs : List Nat) : ∀ (k : Nat) (ss : List Step) (s : Step), stepsL gs k (ss ++ [s]) = stepsL gs k ss ++ [stepL gs (k + ss.length) s]
  | k, [], s => rfl
  | k, t :: r, s => by
    show stepL gs k t :: stepsL gs (k + 1) (r ++ [s]) = _
    rw [stepsL_snoc gs (k + 1) r s]
    show _ = stepL gs k t :: (stepsL gs (k + 1) r ++ [stepL gs (k + (r.length + 1)) s])
    have e : k + 1 + r.length = k + (r.length + 1) := by omega
    rw [e]
/-! lengths -/
theorem wL_len : ∀ {w : Nat}, w < 8 → (wL w).length ≤ 5 := by
  have h : ∀ w : _root_.Fin 8, (wL w.val).length ≤ 5 := by decide +kernel
  exact fun {w} hw => h ⟨w, hw⟩
theorem wS_len {w : Nat} (h : w < 8) : (wS w).length ≤ 5 := by rw [len_tl]; exact wL_len h
theorem stepL_len {gs : List Nat} {k n : Nat} {s : Step} (h : Step.Ok n s) : (stepL gs k s).length ≤ 15 := by
  have h1 := wL_len h.w8
  unfold stepL
  simp only [List.length_append]
  have h2 : (if k ∈ gs then [115, 97 + k, 58, 32] else ([] : List Nat)).length ≤ 4 := by split <;> simp
  have h3 : (match s.g with | none => ([] : List Nat) | some g => [32, 115, 97 + g]).length ≤ 3 := by split <;> simp
  have h4 : ([32, 32] : List Nat).length = 2 := rfl
  have h5 : ([59] : List Nat).length = 1 := rfl
  omega
theorem joinL_len (S : List Nat) (m : Nat) : ∀ l : List (List Nat), (∀ p ∈ l, p.length ≤ m) → (joinL S l).length ≤ l.length * (m + S.length)
  | [], _ => by simp [joinL]
  | [x], h => by
    have := h x (by simp)
    show x.length ≤ 1 * (m + S.length)
    omega
  | x :: y :: r, h => by
    have h1 := h x (by simp)
    have ih := joinL_len S m (y :: r) (fun p hp => h p (by simp only [List.mem_cons] at hp ⊢; exact .inr hp))
    show (x ++ (S ++ joinL S (y :: r))).length ≤ _
    rw [List.length_append, List.length_append]
    have e : (x :: y :: r).length = (y :: r).length + 1 := rfl
    rw [e, Nat.add_mul, Nat.one_mul]
    omega
theorem numS_tl (n : Nat) : tl (Str.ofString (toString ((n : Nat) : Int))) = numL n := tl_num n
theorem num_len {n : Nat} (h : n < 100) : (numL n).length ≤ 2 := numL_len (by decide) (by show n < 10 ^ 2; omega)
theorem numS_len {n : Nat} (h : n < 100) : (Str.ofString (toString ((n : Nat) : Int))).length ≤ 2 := by rw [len_tl, tl_num]; exact num_len h
def abc : Str := "abcdefghijklmnopqrst"
theorem abc_at : ∀ {k : Nat}, k < 20 → abc.cps.toList[k]? = some (97 + k) := by
  have h : ∀ k : _root_.Fin 20, abc.cps.toList[k.val]? = some (97 + k.val) := by decide +kernel
  exact fun {k} hk => h ⟨k, hk⟩
theorem abc_len : abc.length = 20 := by decide +kernel
theorem in_nats (k : Nat) : ∀ l : List Nat, inV (.int k) (l.map fun n : Nat => V.int n) = decide (k ∈ l)
  | [] => by simp [inV]
  | n :: r => by
    have ih := in_nats k r
    unfold inV at ih ⊢
    rw [List.map_cons, List.any_cons, ih]
    have e : eqV (.int n) (.int k) = decide (n = k) := by
      unfold eqV
      by_cases h : n = k
      · subst h; simp
      · have h2 : ¬ (n : Int) = (k : Int) := fun q => h (by exact_mod_cast q)
        simp [h, h2]
    rw [e]
    by_cases h : n = k
    · subst h; simp
    · have h' : ¬ k = n := fun q => h q.symm
      simp [h, h']
theorem nats_flat (l : List Nat) : (l.map fun n : Nat => V.int n).all flatV = true := by
  rw [List.all_eq_true]
  intro x hx
  obtain ⟨n, _, rfl⟩ := List.mem_map.mp hx
  rfl
/-! the pieces as texts -/
theorem sp2 : tl (Str.ofString "  ") = [32, 32] := by decide +kernel
theorem t_s : tl (Str.ofString "s") = [115] := by decide +kernel
theorem t_cs : tl (Str.ofString ": ") = [58, 32] := by decide +kernel
theorem t_sc : tl (Str.ofString ";") = [59] := by decide +kernel
theorem t_ss : tl (Str.ofString " s") = [32, 115] := by decide +kernel
theorem t_sp : tl (Str.ofString " ") = [32] := by decide +kernel
theorem t_nl : tl (Str.ofString "\n") = [10] := by decide +kernel
theorem t_e : tl (Str.ofString "") = [] := by decide +kernel
theorem t_rb : tl (Str.ofString "robot ") = [114, 111, 98, 111, 116, 32] := by decide +kernel
theorem t_lb : tl (Str.ofString " {") = [32, 123] := by decide +kernel
theorem t_cb : tl (Str.ofString "}") = [125] := by decide +kernel
theorem t_sh : tl (Str.ofString "shelf ") = [115, 104, 101, 108, 102, 32] := by decide +kernel
theorem lines_len {x : Pl} (h : x.Ok) : ∀ p ∈ linesL x, p.length ≤ 60 := by
  have rob : ∀ (n : Nat) (ss : List Step), n < 12 → StepsOk ss → ∀ p ∈ robotL n ss, p.length ≤ 60 := by
    intro n ss hn hs p hp
    rcases List.mem_cons.mp hp with rfl | hp
    · have := num_len (n := n) (by omega)
      simp only [List.length_append, List.length_cons, List.length_nil]
      omega
    · rcases List.mem_append.mp hp with hp | hp
      · have all : ∀ (gs : List Nat) (k : Nat) (l : List Step), (∀ s ∈ l, s ∈ ss) → ∀ p ∈ stepsL gs k l, p.length ≤ 15 := by
          intro gs k l
          induction l generalizing k with
          | nil => intro _ p hp; cases hp
          | cons s r ih =>
            intro hl p hp
            rcases List.mem_cons.mp hp with rfl | hp
            · exact stepL_len (hs.all s (hl s (by simp)))
            · exact ih (k + 1) (fun s h => hl s (by simp [h])) p hp
        have := all _ _ _ (fun s h => h) p hp
        omega
      · rw [List.mem_singleton.mp hp]
        decide
  intro p hp
  rcases List.mem_cons.mp hp with rfl | hp
  · unfold shelfL
    have h1 := joinL_len [32] 2 (x.shelf.map numL) (fun p hp => by
      obtain ⟨n, hn, rfl⟩ := List.mem_map.mp hp
      exact num_len (by have := h.b3 n hn; omega))
    have h2 := h.c12
    simp only [List.length_append, List.length_cons, List.length_nil, List.length_map] at h1 ⊢
    omega
  · rcases List.mem_append.mp hp with hp | hp
    · exact rob x.a x.p (by have := h.ha; have := h.c12; omega) h.p p hp
    · exact rob x.b x.q (by have := h.hb; have := h.c12; omega) h.q p hp
theorem robotL_len (n : Nat) (ss : List Step) : (robotL n ss).length = ss.length + 2 := by
  unfold robotL
  rw [List.length_cons, List.length_append, stepsL_len]
  rfl
theorem linesL_len {x : Pl} (h : x.Ok) : (linesL x).length ≤ 45 := by
  unfold linesL
  rw [List.length_cons, List.length_append, robotL_len, robotL_len]
  have := h.p.le
  have := h.q.le
  omega
theorem textL_len {x : Pl} (h : x.Ok) : (textL x).length ≤ 2745 := by
  have h1 := joinL_len [10] 60 (linesL x) (lines_len h)
  have h2 := linesL_len h
  have h3 : (linesL x).length * (60 + 1) ≤ 45 * 61 := Nat.mul_le_mul_right 61 h2
  exact Nat.le_trans h1 h3
end Sb

namespace Sb
open PySem PySem.Spec PyProof.Rows L2 TL
/-! ### tokens -/
inductive Kd where
  | name | number | keyword | sign | fin
  deriving DecidableEq
def kS : Kd → Str
  | .name => "name"
  | .number => "number"
  | .keyword => "keyword"
  | .sign => "sign"
  | .fin => "end"
structure Tk where
  k : Kd
  t : List Nat
  deriving DecidableEq
def sgnS : Str := ";:{}"
def digS : Str := "0123456789"
def letS : Str := "abcdefghijklmnopqrstuvwxyz"
def spcS : Str := " \n"
def kwS : List Str := ["shelf", "robot", "left", "right", "pick", "put", "wait", "goto", "empty", "held"]
def kwL : List (List Nat) := kwS.map tl
def HeadNot (S : List Nat) (r : List Nat) : Prop := ∀ c r', r = c :: r' → c ∉ S
inductive Rd : List Nat → Tk → List Nat → Prop
  | sign {c : Nat} {r : List Nat} : c ∈ tl sgnS → Rd (c :: r) ⟨.sign, [c]⟩ r
  | num {t r : List Nat} : t ≠ [] → (∀ c ∈ t, c ∈ tl digS) → t.length ≤ 2 → (1 < t.length → t.head? ≠ some 48) → HeadNot (tl digS) r → Rd (t ++ r) ⟨.number, t⟩ r
  | kw {t r : List Nat} : (∀ c ∈ t, c ∈ tl letS) → t ∈ kwL → HeadNot (tl letS) r → Rd (t ++ r) ⟨.keyword, t⟩ r
  | nm {t r : List Nat} : (∀ c ∈ t, c ∈ tl letS) → 1 ≤ t.length → t.length ≤ 8 → t ∉ kwL → HeadNot (tl letS) r → Rd (t ++ r) ⟨.name, t⟩ r
inductive Lx : List Nat → List Tk → Prop
  | nil : Lx [] []
  | sp {r : List Nat} {ts : List Tk} : Lx r ts → Lx (32 :: r) ts
  | tok {l r : List Nat} {k : Tk} {ts : List Tk} : Rd l k r → Lx r ts → Lx l (k :: ts)
/-- the tokens of all rows -/
inductive LxAll : List (List Nat) → List Tk → Prop
  | nil : LxAll [] []
  | cons {l : List Nat} {ls : List (List Nat)} {ts us : List Tk} : Lx l ts → LxAll ls us → LxAll (l :: ls) (ts ++ us)
theorem sgn_list : tl sgnS = [59, 58, 123, 125] := by decide +kernel
theorem dig_list : tl digS = [48, 49, 50, 51, 52, 53, 54, 55, 56, 57] := by decide +kernel
theorem let_list : tl letS = [97, 98, 99, 100, 101, 102, 103, 104, 105, 106, 107, 108, 109, 110, 111, 112, 113, 114, 115, 116, 117, 118, 119, 120, 121, 122] := by decide +kernel
theorem spc_list : tl spcS = [32, 10] := by decide +kernel
theorem mem_dig {c : Nat} : c ∈ tl digS ↔ 48 ≤ c ∧ c ≤ 57 := by
  rw [dig_list]; simp; omega
theorem mem_let {c : Nat} : c ∈ tl letS ↔ 97 ≤ c ∧ c ≤ 122 := by
  rw [let_list]; simp; omega
theorem mem_sgn {c : Nat} : c ∈ tl sgnS ↔ c = 59 ∨ c = 58 ∨ c = 123 ∨ c = 125 := by
  rw [sgn_list]; simp
/-- the run of signs of S at the head -/
def runL (S : List Nat) : List Nat → Nat
  | [] => 0
  | c :: r => if c ∈ S then runL S r + 1 else 0
theorem runL_app {S t r : List Nat} (h : ∀ c ∈ t, c ∈ S) (hr : HeadNot S r) : runL S (t ++ r) = t.length := by
  induction t with
  | nil =>
    cases r with
    | nil => rfl
    | cons c r => show (if c ∈ S then _ else 0) = 0; rw [if_neg (hr c r rfl)]
  | cons c t ih =>
    show (if c ∈ S then runL S (t ++ r) + 1 else 0) = _
    rw [if_pos (h c (by simp)), ih (fun c hc => h c (by simp [hc]))]
    rfl
theorem runL_le (S : List Nat) : ∀ l : List Nat, runL S l ≤ l.length
  | [] => Nat.le_refl _
  | c :: r => by
    show (if c ∈ S then runL S r + 1 else 0) ≤ r.length + 1
    have := runL_le S r
    split <;> omega
theorem cut_run {z : Str} {c n : Nat} (h : c + n ≤ (tl z).length) : tl (cutS z (some (c : Int)) (some ((c + n : Nat) : Int))) = ((tl z).drop c).take n := by
  show ((tl z).drop (HT.sIx z.length 0 (some (c : Int)))).take (HT.sIx z.length z.length (some ((c + n : Nat) : Int)) - HT.sIx z.length 0 (some (c : Int))) = _
  rw [HT.sIx_nat, HT.sIx_nat]
  have e1 : min c z.length = c := by rw [len_tl]; omega
  have e2 : min (c + n) z.length = c + n := by rw [len_tl]; omega
  rw [e1, e2, Nat.add_sub_cancel_left]
end Sb

namespace Sb
open PySem PySem.Spec PyProof.Rows L2
def topS (i : Nat) : Stmt := PySem.Challenge.pw_shelfbots_k18_malformed_operations.main.body.getD i (.Pass ⟨0, 0, 0, 0⟩)
abbrev s_l_random : Stmt := topS 66
theorem sc_l_random : FnScope ["_law_script", "_law_salt", "_law_seed", "_law_cell"] ["_law_script", "_law_salt"] (defScope s_l_random) := ⟨rfl, rfl, rfl, by decide +kernel, rfl, by decide +kernel, by decide +kernel⟩
abbrev s_Parser_peek : Stmt := inClass (topS 42) 1
theorem sc_Parser_peek : FnScope ["self"] ["self"] (defScope s_Parser_peek) := ⟨rfl, rfl, rfl, by decide +kernel, rfl, by decide +kernel, by decide +kernel⟩
abbrev s_Token_init : Stmt := inClass (topS 31) 0
theorem sc_Token_init : FnScope ["self", "kind", "text", "line", "column"] ["self", "kind", "text", "line", "column"] (defScope s_Token_init) := ⟨rfl, rfl, rfl, by decide +kernel, rfl, by decide +kernel, by decide +kernel⟩
abbrev s_Robot_init : Stmt := inClass (topS 40) 0
theorem sc_Robot_init : FnScope ["self", "start", "steps", "names"] ["self", "start", "steps", "names"] (defScope s_Robot_init) := ⟨rfl, rfl, rfl, by decide +kernel, rfl, by decide +kernel, by decide +kernel⟩
abbrev s_Plan_init : Stmt := inClass (topS 41) 0
theorem sc_Plan_init : FnScope ["self", "shelf", "robots"] ["self", "shelf", "robots"] (defScope s_Plan_init) := ⟨rfl, rfl, rfl, by decide +kernel, rfl, by decide +kernel, by decide +kernel⟩
abbrev s_Parser_init : Stmt := inClass (topS 42) 0
theorem sc_Parser_init : FnScope ["self", "tokens"] ["self", "tokens"] (defScope s_Parser_init) := ⟨rfl, rfl, rfl, by decide +kernel, rfl, by decide +kernel, by decide +kernel⟩
abbrev s_State_init : Stmt := inClass (topS 47) 0
theorem sc_State_init : FnScope ["self", "cells", "nexts", "holds", "shelf"] ["self", "cells", "nexts", "holds", "shelf"] (defScope s_State_init) := ⟨rfl, rfl, rfl, by decide +kernel, rfl, by decide +kernel, by decide +kernel⟩
abbrev s_Tick_init : Stmt := inClass (topS 51) 0
theorem sc_Tick_init : FnScope ["self", "words", "state"] ["self", "words", "state"] (defScope s_Tick_init) := ⟨rfl, rfl, rfl, by decide +kernel, rfl, by decide +kernel, by decide +kernel⟩
abbrev s_InvalidOperation_init : Stmt := inClass (topS 15) 0
theorem sc_InvalidOperation_init : FnScope ["self", "place"] ["self", "place"] (defScope s_InvalidOperation_init) := ⟨rfl, rfl, rfl, by decide +kernel, rfl, by decide +kernel, by decide +kernel⟩
abbrev s_SyntaxFault_init : Stmt := inClass (topS 3) 0
theorem sc_SyntaxFault_init : FnScope ["self", "line", "column"] ["self", "line", "column"] (defScope s_SyntaxFault_init) := ⟨rfl, rfl, rfl, by decide +kernel, rfl, by decide +kernel, by decide +kernel⟩
abbrev s_Parser_fail : Stmt := inClass (topS 42) 2
theorem sc_Parser_fail : FnScope ["self", "token"] ["self"] (defScope s_Parser_fail) := ⟨rfl, rfl, rfl, by decide +kernel, rfl, by decide +kernel, by decide +kernel⟩
abbrev s_Parser_take_word : Stmt := inClass (topS 42) 5
theorem sc_Parser_take_word : FnScope ["self", "word", "token"] ["self", "word"] (defScope s_Parser_take_word) := ⟨rfl, rfl, rfl, by decide +kernel, rfl, by decide +kernel, by decide +kernel⟩
abbrev s_Parser_take : Stmt := inClass (topS 42) 4
theorem sc_Parser_take : FnScope ["self", "kind", "token"] ["self", "kind"] (defScope s_Parser_take) := ⟨rfl, rfl, rfl, by decide +kernel, rfl, by decide +kernel, by decide +kernel⟩
abbrev s_is_int_in : Stmt := topS 46
theorem sc_is_int_in : FnScope ["value", "low", "high"] ["value", "low", "high"] (defScope s_is_int_in) := ⟨rfl, rfl, rfl, by decide +kernel, rfl, by decide +kernel, by decide +kernel⟩
abbrev s_Stage_check_cell : Stmt := inClass (topS 64) 4
theorem sc_Stage_check_cell : FnScope ["self", "cell"] ["self", "cell"] (defScope s_Stage_check_cell) := ⟨rfl, rfl, rfl, by decide +kernel, rfl, by decide +kernel, by decide +kernel⟩
abbrev s_Stage_record : Stmt := inClass (topS 64) 2
theorem sc_Stage_record : FnScope ["self", "word", "now"] ["self", "word", "now"] (defScope s_Stage_record) := ⟨rfl, rfl, rfl, by decide +kernel, rfl, by decide +kernel, by decide +kernel⟩
abbrev s_replaced : Stmt := topS 48
theorem sc_replaced : FnScope ["values", "place", "value"] ["values", "place", "value"] (defScope s_replaced) := ⟨rfl, rfl, rfl, by decide +kernel, rfl, by decide +kernel, by decide +kernel⟩
abbrev s_Stage_put_boxes : Stmt := inClass (topS 64) 5
theorem sc_Stage_put_boxes : FnScope ["self", "word", "cell", "boxes", "state", "tick", "blocked", "later"] ["self", "word", "cell", "boxes"] (defScope s_Stage_put_boxes) := ⟨rfl, rfl, rfl, by decide +kernel, rfl, by decide +kernel, by decide +kernel⟩
abbrev s_Stage_take : Stmt := inClass (topS 64) 7
theorem sc_Stage_take : FnScope ["self", "cell", "boxes"] ["self", "cell"] (defScope s_Stage_take) := ⟨rfl, rfl, rfl, by decide +kernel, rfl, by decide +kernel, by decide +kernel⟩
abbrev s_Parser_found : Stmt := inClass (topS 42) 3
theorem sc_Parser_found : FnScope ["self", "reason", "token"] ["self", "reason", "token"] (defScope s_Parser_found) := ⟨rfl, rfl, rfl, by decide +kernel, rfl, by decide +kernel, by decide +kernel⟩
abbrev s_Parser_parse_shelf : Stmt := inClass (topS 42) 6
theorem sc_Parser_parse_shelf : FnScope ["self", "keyword", "tokens", "place", "token"] ["self"] (defScope s_Parser_parse_shelf) := ⟨rfl, rfl, rfl, by decide +kernel, rfl, by decide +kernel, by decide +kernel⟩
abbrev s_Parser_parse_step : Stmt := inClass (topS 42) 7
theorem sc_Parser_parse_step : FnScope ["self", "names", "jumps", "token"] ["self", "names", "jumps"] (defScope s_Parser_parse_step) := ⟨rfl, rfl, rfl, by decide +kernel, rfl, by decide +kernel, by decide +kernel⟩
abbrev s_Parser_parse_robot : Stmt := inClass (topS 42) 8
theorem sc_Parser_parse_robot : FnScope ["self", "cells", "others", "token", "words", "names", "jumps", "steps", "word", "jump"] ["self", "cells", "others"] (defScope s_Parser_parse_robot) := ⟨rfl, rfl, rfl, by decide +kernel, rfl, by decide +kernel, by decide +kernel⟩
abbrev s_Parser_parse_plan : Stmt := inClass (topS 42) 9
theorem sc_Parser_parse_plan : FnScope ["self", "shelf", "first", "second", "line", "column", "number", "reason"] ["self"] (defScope s_Parser_parse_plan) := ⟨rfl, rfl, rfl, by decide +kernel, rfl, by decide +kernel, by decide +kernel⟩
abbrev s_run_end : Stmt := topS 32
theorem sc_run_end : FnScope ["row", "start", "letters", "end"] ["row", "start", "letters"] (defScope s_run_end) := ⟨rfl, rfl, rfl, by decide +kernel, rfl, by decide +kernel, by decide +kernel⟩
abbrev s_read_token : Stmt := topS 33
theorem sc_read_token : FnScope ["row", "line", "column", "first", "word"] ["row", "line", "column"] (defScope s_read_token) := ⟨rfl, rfl, rfl, by decide +kernel, rfl, by decide +kernel, by decide +kernel⟩
abbrev s_tokenize : Stmt := topS 34
theorem sc_tokenize : FnScope ["source", "tokens", "rows", "line", "row", "column", "token"] ["source"] (defScope s_tokenize) := ⟨rfl, rfl, rfl, by decide +kernel, rfl, by decide +kernel, by decide +kernel⟩
abbrev s_load : Stmt := topS 43
theorem sc_load : FnScope ["plan"] ["plan"] (defScope s_load) := ⟨rfl, rfl, rfl, by decide +kernel, rfl, by decide +kernel, by decide +kernel⟩
abbrev s_first_state : Stmt := topS 49
theorem sc_first_state : FnScope ["parsed", "robot"] ["parsed"] (defScope s_first_state) := ⟨rfl, rfl, rfl, by decide +kernel, rfl, by decide +kernel, by decide +kernel⟩
abbrev s_Stage_init : Stmt := inClass (topS 64) 0
theorem sc_Stage_init : FnScope ["self", "plan"] ["self", "plan"] (defScope s_Stage_init) := ⟨rfl, rfl, rfl, by decide +kernel, rfl, by decide +kernel, by decide +kernel⟩
abbrev s_l_below : Stmt := topS 67
theorem sc_l_below : FnScope ["_law_d", "_law_limit", "_law_result"] ["_law_d", "_law_limit"] (defScope s_l_below) := ⟨rfl, rfl, rfl, by decide +kernel, rfl, by decide +kernel, by decide +kernel⟩
abbrev s_l_error_of : Stmt := topS 68
theorem sc_l_error_of : FnScope ["_law_call", "e", "_law_kinds", "_law_names", "_law_name"] ["_law_call"] (defScope s_l_error_of) := ⟨rfl, rfl, rfl, by decide +kernel, rfl, by decide +kernel, by decide +kernel⟩
abbrev s_l_all_raise : Stmt := topS 69
theorem sc_l_all_raise : FnScope ["_law_calls", "_law_expected", "_law_call"] ["_law_calls", "_law_expected"] (defScope s_l_all_raise) := ⟨rfl, rfl, rfl, by decide +kernel, rfl, by decide +kernel, by decide +kernel⟩
abbrev s_Stage_operations : Stmt := inClass (topS 64) 16
theorem sc_Stage_operations : FnScope ["self", "entry"] ["self"] (defScope s_Stage_operations) := ⟨rfl, rfl, rfl, by decide +kernel, rfl, by decide +kernel, by decide +kernel⟩
abbrev s_is_operation : Stmt := topS 63
theorem sc_is_operation : FnScope ["value"] ["value"] (defScope s_is_operation) := ⟨rfl, rfl, rfl, by decide +kernel, rfl, by decide +kernel, by decide +kernel⟩
abbrev s_Stage_redo : Stmt := inClass (topS 64) 10
theorem sc_Stage_redo : FnScope ["self", "entry"] ["self"] (defScope s_Stage_redo) := ⟨rfl, rfl, rfl, by decide +kernel, rfl, by decide +kernel, by decide +kernel⟩
abbrev s_act : Stmt := topS 50
theorem sc_act : FnScope ["parsed", "state", "number", "robot", "at", "word", "goal", "cell", "held", "shelf", "later", "is_jump", "cells", "holds"] ["parsed", "state", "number"] (defScope s_act) := ⟨rfl, rfl, rfl, by decide +kernel, rfl, by decide +kernel, by decide +kernel⟩
abbrev s_next_tick : Stmt := topS 52
theorem sc_next_tick : FnScope ["parsed", "state", "first", "second"] ["parsed", "state"] (defScope s_next_tick) := ⟨rfl, rfl, rfl, by decide +kernel, rfl, by decide +kernel, by decide +kernel⟩
abbrev s_Stage_step : Stmt := inClass (topS 64) 3
theorem sc_Stage_step : FnScope ["self", "count", "state", "tick", "blocked", "found", "turn", "one", "times", "word"] ["self", "count"] (defScope s_Stage_step) := ⟨rfl, rfl, rfl, by decide +kernel, rfl, by decide +kernel, by decide +kernel⟩
abbrev s_Stage_add : Stmt := inClass (topS 64) 6
theorem sc_Stage_add : FnScope ["self", "cell", "boxes"] ["self", "cell"] (defScope s_Stage_add) := ⟨rfl, rfl, rfl, by decide +kernel, rfl, by decide +kernel, by decide +kernel⟩
abbrev s_Stage_jump : Stmt := inClass (topS 64) 8
theorem sc_Stage_jump : FnScope ["self", "number", "step", "state", "tick", "blocked", "later"] ["self", "number", "step"] (defScope s_Stage_jump) := ⟨rfl, rfl, rfl, by decide +kernel, rfl, by decide +kernel, by decide +kernel⟩
abbrev s_Stage_undo : Stmt := inClass (topS 64) 9
theorem sc_Stage_undo : FnScope ["self", "entry"] ["self"] (defScope s_Stage_undo) := ⟨rfl, rfl, rfl, by decide +kernel, rfl, by decide +kernel, by decide +kernel⟩
abbrev s_Stage_execute : Stmt := inClass (topS 64) 19
theorem sc_Stage_execute : FnScope ["self", "operation", "count", "cell", "number", "step"] ["self", "operation"] (defScope s_Stage_execute) := ⟨rfl, rfl, rfl, by decide +kernel, rfl, by decide +kernel, by decide +kernel⟩
abbrev s_Stage_batch : Stmt := inClass (topS 64) 20
theorem sc_Stage_batch : FnScope ["self", "operations", "place", "operation", "before"] ["self", "operations"] (defScope s_Stage_batch) := ⟨rfl, rfl, rfl, by decide +kernel, rfl, by decide +kernel, by decide +kernel⟩
abbrev s_Stage_replay : Stmt := inClass (topS 64) 1
theorem sc_Stage_replay : FnScope ["cls", "plan", "operations", "stage", "place", "operation", "e"] ["cls", "plan", "operations"] (defScope s_Stage_replay) := ⟨rfl, rfl, rfl, by decide +kernel, rfl, by decide +kernel, by decide +kernel⟩
abbrev s_law : Stmt := topS 70
theorem sc_law : FnScope ["_law_script", "_law_d", "_law_plan", "_law_stage", "_law_odd", "_law_good", "_law_operations", "_law_k", "_law_at", "_law_bad", "_law_calls", "_law_none"] ["_law_script"] (defScope s_law) := ⟨rfl, rfl, rfl, by decide +kernel, rfl, by decide +kernel, by decide +kernel⟩
structure Ad where
  f_l_random : Addr
  d_l_random : FuncData
  f_Parser_peek : Addr
  d_Parser_peek : FuncData
  f_Token_init : Addr
  d_Token_init : FuncData
  f_Robot_init : Addr
  d_Robot_init : FuncData
  f_Plan_init : Addr
  d_Plan_init : FuncData
  f_Parser_init : Addr
  d_Parser_init : FuncData
  f_State_init : Addr
  d_State_init : FuncData
  f_Tick_init : Addr
  d_Tick_init : FuncData
  f_InvalidOperation_init : Addr
  d_InvalidOperation_init : FuncData
  f_SyntaxFault_init : Addr
  d_SyntaxFault_init : FuncData
  f_Parser_fail : Addr
  d_Parser_fail : FuncData
  f_Parser_take_word : Addr
  d_Parser_take_word : FuncData
  f_Parser_take : Addr
  d_Parser_take : FuncData
  f_is_int_in : Addr
  d_is_int_in : FuncData
  f_Stage_check_cell : Addr
  d_Stage_check_cell : FuncData
  f_Stage_record : Addr
  d_Stage_record : FuncData
  f_replaced : Addr
  d_replaced : FuncData
  f_Stage_put_boxes : Addr
  d_Stage_put_boxes : FuncData
  f_Stage_take : Addr
  d_Stage_take : FuncData
  f_Parser_found : Addr
  d_Parser_found : FuncData
  f_Parser_parse_shelf : Addr
  d_Parser_parse_shelf : FuncData
  f_Parser_parse_step : Addr
  d_Parser_parse_step : FuncData
  f_Parser_parse_robot : Addr
  d_Parser_parse_robot : FuncData
  f_Parser_parse_plan : Addr
  d_Parser_parse_plan : FuncData
  f_run_end : Addr
  d_run_end : FuncData
  f_read_token : Addr
  d_read_token : FuncData
  f_tokenize : Addr
  d_tokenize : FuncData
  f_load : Addr
  d_load : FuncData
  f_first_state : Addr
  d_first_state : FuncData
  f_Stage_init : Addr
  d_Stage_init : FuncData
  f_l_below : Addr
  d_l_below : FuncData
  f_l_error_of : Addr
  d_l_error_of : FuncData
  f_l_all_raise : Addr
  d_l_all_raise : FuncData
  f_Stage_operations : Addr
  d_Stage_operations : FuncData
  p_Stage_operations : Addr
  f_is_operation : Addr
  d_is_operation : FuncData
  f_Stage_redo : Addr
  d_Stage_redo : FuncData
  f_act : Addr
  d_act : FuncData
  f_next_tick : Addr
  d_next_tick : FuncData
  f_Stage_step : Addr
  d_Stage_step : FuncData
  f_Stage_add : Addr
  d_Stage_add : FuncData
  f_Stage_jump : Addr
  d_Stage_jump : FuncData
  f_Stage_undo : Addr
  d_Stage_undo : FuncData
  f_Stage_execute : Addr
  d_Stage_execute : FuncData
  f_Stage_batch : Addr
  d_Stage_batch : FuncData
  f_Stage_replay : Addr
  d_Stage_replay : FuncData
  p_Stage_replay : Addr
  f_law : Addr
  d_law : FuncData
  cc_law : Addr
  tb_law : Addr
  C_Token : Addr
  C_Robot : Addr
  C_Plan : Addr
  C_Parser : Addr
  C_State : Addr
  C_Tick : Addr
  C_Stage : Addr
  A_MOVES : Addr
  A_JUMPS : Addr
  A_KEYWORDS : Addr
  t_LETTERS : Tok
  t_DIGITS : Tok
  t_SPACES : Tok
  t_SIGNS : Tok
  t_MAX_LETTERS_lexer : Tok
  t_MAX_DIGITS : Tok
  t_NAME : Tok
  t_NUMBER : Tok
  t_KEYWORD : Tok
  t_SIGN : Tok
  t_END : Tok
  t_MIN_CELLS : Tok
  t_MAX_CELLS : Tok
  t_MAX_BOXES : Tok
  t_MAX_STEPS : Tok
  t_BLOCKED : Tok
  t_MAX_STEP : Tok
  t_MAX_LETTERS_stage : Tok
  t_STEP : Tok
  t_ADD : Tok
  t_TAKE : Tok
  t_JUMP : Tok
  t_UNDO : Tok
  t_REDO : Tok
  A_LENGTHS : Addr
  X_BotError : Addr
  X_InvalidTick : Addr
  X_InvalidNumber : Addr
  X_TooLong : Addr
  X_DifferentShelves : Addr
  X_Contradiction : Addr
  X_CellFull : Addr
  X_CellEmpty : Addr
  X_InvalidName : Addr
  X_UnknownName : Addr
  X_SyntaxFault : Addr
  X_CheckFault : Addr
  X_InvalidCode : Addr
  X_InvalidOperation : Addr
structure Txt (K : PySem.W.Frag) (mg : Str → Option Value) (a : Ad) : Prop where
  F_l_random : Fun K "_law_random" "_law_random" s_l_random a.f_l_random a.d_l_random
  m_l_random : mg "_law_random" = some (.ref a.f_l_random)
  F_Parser_peek : Fun K "peek" "Parser.peek" s_Parser_peek a.f_Parser_peek a.d_Parser_peek
  M_Parser_peek : Meth K a.C_Parser "peek" a.f_Parser_peek
  F_Token_init : Fun K "__init__" "Token.__init__" s_Token_init a.f_Token_init a.d_Token_init
  F_Robot_init : Fun K "__init__" "Robot.__init__" s_Robot_init a.f_Robot_init a.d_Robot_init
  F_Plan_init : Fun K "__init__" "Plan.__init__" s_Plan_init a.f_Plan_init a.d_Plan_init
  F_Parser_init : Fun K "__init__" "Parser.__init__" s_Parser_init a.f_Parser_init a.d_Parser_init
  F_State_init : Fun K "__init__" "State.__init__" s_State_init a.f_State_init a.d_State_init
  F_Tick_init : Fun K "__init__" "Tick.__init__" s_Tick_init a.f_Tick_init a.d_Tick_init
  F_InvalidOperation_init : Fun K "__init__" "InvalidOperation.__init__" s_InvalidOperation_init a.f_InvalidOperation_init a.d_InvalidOperation_init
  F_SyntaxFault_init : Fun K "__init__" "SyntaxFault.__init__" s_SyntaxFault_init a.f_SyntaxFault_init a.d_SyntaxFault_init
  F_Parser_fail : Fun K "fail" "Parser.fail" s_Parser_fail a.f_Parser_fail a.d_Parser_fail
  M_Parser_fail : Meth K a.C_Parser "fail" a.f_Parser_fail
  F_Parser_take_word : Fun K "take_word" "Parser.take_word" s_Parser_take_word a.f_Parser_take_word a.d_Parser_take_word
  M_Parser_take_word : Meth K a.C_Parser "take_word" a.f_Parser_take_word
  F_Parser_take : Fun K "take" "Parser.take" s_Parser_take a.f_Parser_take a.d_Parser_take
  M_Parser_take : Meth K a.C_Parser "take" a.f_Parser_take
  F_is_int_in : Fun K "is_int_in" "is_int_in" s_is_int_in a.f_is_int_in a.d_is_int_in
  m_is_int_in : mg "is_int_in" = some (.ref a.f_is_int_in)
  F_Stage_check_cell : Fun K "check_cell" "Stage.check_cell" s_Stage_check_cell a.f_Stage_check_cell a.d_Stage_check_cell
  M_Stage_check_cell : Meth K a.C_Stage "check_cell" a.f_Stage_check_cell
  F_Stage_record : Fun K "record" "Stage.record" s_Stage_record a.f_Stage_record a.d_Stage_record
  M_Stage_record : Meth K a.C_Stage "record" a.f_Stage_record
  F_replaced : Fun K "replaced" "replaced" s_replaced a.f_replaced a.d_replaced
  m_replaced : mg "replaced" = some (.ref a.f_replaced)
  F_Stage_put_boxes : Fun K "put_boxes" "Stage.put_boxes" s_Stage_put_boxes a.f_Stage_put_boxes a.d_Stage_put_boxes
  M_Stage_put_boxes : Meth K a.C_Stage "put_boxes" a.f_Stage_put_boxes
  F_Stage_take : Fun K "take" "Stage.take" s_Stage_take a.f_Stage_take a.d_Stage_take
  M_Stage_take : Meth K a.C_Stage "take" a.f_Stage_take
  F_Parser_found : Fun K "found" "Parser.found" s_Parser_found a.f_Parser_found a.d_Parser_found
  M_Parser_found : Meth K a.C_Parser "found" a.f_Parser_found
  F_Parser_parse_shelf : Fun K "parse_shelf" "Parser.parse_shelf" s_Parser_parse_shelf a.f_Parser_parse_shelf a.d_Parser_parse_shelf
  M_Parser_parse_shelf : Meth K a.C_Parser "parse_shelf" a.f_Parser_parse_shelf
  F_Parser_parse_step : Fun K "parse_step" "Parser.parse_step" s_Parser_parse_step a.f_Parser_parse_step a.d_Parser_parse_step
  M_Parser_parse_step : Meth K a.C_Parser "parse_step" a.f_Parser_parse_step
  F_Parser_parse_robot : Fun K "parse_robot" "Parser.parse_robot" s_Parser_parse_robot a.f_Parser_parse_robot a.d_Parser_parse_robot
  M_Parser_parse_robot : Meth K a.C_Parser "parse_robot" a.f_Parser_parse_robot
  F_Parser_parse_plan : Fun K "parse_plan" "Parser.parse_plan" s_Parser_parse_plan a.f_Parser_parse_plan a.d_Parser_parse_plan
  M_Parser_parse_plan : Meth K a.C_Parser "parse_plan" a.f_Parser_parse_plan
  F_run_end : Fun K "run_end" "run_end" s_run_end a.f_run_end a.d_run_end
  m_run_end : mg "run_end" = some (.ref a.f_run_end)
  F_read_token : Fun K "read_token" "read_token" s_read_token a.f_read_token a.d_read_token
  m_read_token : mg "read_token" = some (.ref a.f_read_token)
  F_tokenize : Fun K "tokenize" "tokenize" s_tokenize a.f_tokenize a.d_tokenize
  m_tokenize : mg "tokenize" = some (.ref a.f_tokenize)
  F_load : Fun K "load" "load" s_load a.f_load a.d_load
  m_load : mg "load" = some (.ref a.f_load)
  F_first_state : Fun K "first_state" "first_state" s_first_state a.f_first_state a.d_first_state
  m_first_state : mg "first_state" = some (.ref a.f_first_state)
  F_Stage_init : Fun K "__init__" "Stage.__init__" s_Stage_init a.f_Stage_init a.d_Stage_init
  F_l_below : Fun K "_law_below" "_law_below" s_l_below a.f_l_below a.d_l_below
  m_l_below : mg "_law_below" = some (.ref a.f_l_below)
  F_l_error_of : Fun K "_law_error_of" "_law_error_of" s_l_error_of a.f_l_error_of a.d_l_error_of
  m_l_error_of : mg "_law_error_of" = some (.ref a.f_l_error_of)
  F_l_all_raise : Fun K "_law_all_raise" "_law_all_raise" s_l_all_raise a.f_l_all_raise a.d_l_all_raise
  m_l_all_raise : mg "_law_all_raise" = some (.ref a.f_l_all_raise)
  F_Stage_operations : Fun K "operations" "Stage.operations" s_Stage_operations a.f_Stage_operations a.d_Stage_operations
  P_Stage_operations : PropOf K a.C_Stage "operations" a.p_Stage_operations a.f_Stage_operations
  F_is_operation : Fun K "is_operation" "is_operation" s_is_operation a.f_is_operation a.d_is_operation
  m_is_operation : mg "is_operation" = some (.ref a.f_is_operation)
  F_Stage_redo : Fun K "redo" "Stage.redo" s_Stage_redo a.f_Stage_redo a.d_Stage_redo
  M_Stage_redo : Meth K a.C_Stage "redo" a.f_Stage_redo
  F_act : Fun K "act" "act" s_act a.f_act a.d_act
  m_act : mg "act" = some (.ref a.f_act)
  F_next_tick : Fun K "next_tick" "next_tick" s_next_tick a.f_next_tick a.d_next_tick
  m_next_tick : mg "next_tick" = some (.ref a.f_next_tick)
  F_Stage_step : Fun K "step" "Stage.step" s_Stage_step a.f_Stage_step a.d_Stage_step
  M_Stage_step : Meth K a.C_Stage "step" a.f_Stage_step
  F_Stage_add : Fun K "add" "Stage.add" s_Stage_add a.f_Stage_add a.d_Stage_add
  M_Stage_add : Meth K a.C_Stage "add" a.f_Stage_add
  F_Stage_jump : Fun K "jump" "Stage.jump" s_Stage_jump a.f_Stage_jump a.d_Stage_jump
  M_Stage_jump : Meth K a.C_Stage "jump" a.f_Stage_jump
  F_Stage_undo : Fun K "undo" "Stage.undo" s_Stage_undo a.f_Stage_undo a.d_Stage_undo
  M_Stage_undo : Meth K a.C_Stage "undo" a.f_Stage_undo
  F_Stage_execute : Fun K "execute" "Stage.execute" s_Stage_execute a.f_Stage_execute a.d_Stage_execute
  M_Stage_execute : Meth K a.C_Stage "execute" a.f_Stage_execute
  F_Stage_batch : Fun K "batch" "Stage.batch" s_Stage_batch a.f_Stage_batch a.d_Stage_batch
  M_Stage_batch : Meth K a.C_Stage "batch" a.f_Stage_batch
  F_Stage_replay : Fun K "replay" "Stage.replay" s_Stage_replay a.f_Stage_replay a.d_Stage_replay
  K_Stage_replay : ClX.CMet K a.C_Stage (.type "type") "replay" a.p_Stage_replay a.f_Stage_replay
  R_Stage_replay : ClX.CRead K a.C_Stage (.type "type")
  F_law : Fun K "law" "law" s_law a.f_law a.d_law
  m_law : mg "law" = some (.ref a.f_law)
  ce_law : a.d_law.code = .ref a.cc_law
  tnd : [a.tb_law].Nodup
  m_Token : mg "Token" = some (.ref a.C_Token)
  cl_Token : Cls K a.C_Token
  mk_Token : Mk K a.C_Token a.f_Token_init
  n_Token_kind : NoAttr K a.C_Token "kind"
  n_Token_text : NoAttr K a.C_Token "text"
  n_Token_line : NoAttr K a.C_Token "line"
  n_Token_column : NoAttr K a.C_Token "column"
  m_Robot : mg "Robot" = some (.ref a.C_Robot)
  cl_Robot : Cls K a.C_Robot
  mk_Robot : Mk K a.C_Robot a.f_Robot_init
  n_Robot_start : NoAttr K a.C_Robot "start"
  n_Robot_steps : NoAttr K a.C_Robot "steps"
  n_Robot_names : NoAttr K a.C_Robot "names"
  m_Plan : mg "Plan" = some (.ref a.C_Plan)
  cl_Plan : Cls K a.C_Plan
  mk_Plan : Mk K a.C_Plan a.f_Plan_init
  n_Plan_shelf : NoAttr K a.C_Plan "shelf"
  n_Plan_robots : NoAttr K a.C_Plan "robots"
  m_Parser : mg "Parser" = some (.ref a.C_Parser)
  cl_Parser : Cls K a.C_Parser
  mk_Parser : Mk K a.C_Parser a.f_Parser_init
  n_Parser_tokens : NoAttr K a.C_Parser "tokens"
  n_Parser_at : NoAttr K a.C_Parser "at"
  n_Parser_faults : NoAttr K a.C_Parser "faults"
  m_State : mg "State" = some (.ref a.C_State)
  cl_State : Cls K a.C_State
  mk_State : Mk K a.C_State a.f_State_init
  n_State_cells : NoAttr K a.C_State "cells"
  n_State_nexts : NoAttr K a.C_State "nexts"
  n_State_holds : NoAttr K a.C_State "holds"
  n_State_shelf : NoAttr K a.C_State "shelf"
  m_Tick : mg "Tick" = some (.ref a.C_Tick)
  cl_Tick : Cls K a.C_Tick
  mk_Tick : Mk K a.C_Tick a.f_Tick_init
  n_Tick_words : NoAttr K a.C_Tick "words"
  n_Tick_state : NoAttr K a.C_Tick "state"
  m_Stage : mg "Stage" = some (.ref a.C_Stage)
  cl_Stage : Cls K a.C_Stage
  mk_Stage : Mk K a.C_Stage a.f_Stage_init
  n_Stage_parsed : NoAttr K a.C_Stage "parsed"
  n_Stage_now : NoAttr K a.C_Stage "now"
  n_Stage_past : NoAttr K a.C_Stage "past"
  n_Stage_undone : NoAttr K a.C_Stage "undone"
  n_Stage_saved : NoAttr K a.C_Stage "saved"
  e_BotError : mg "BotError" = some (.ref a.X_BotError)
  e_InvalidTick : mg "InvalidTick" = some (.ref a.X_InvalidTick)
  e_InvalidNumber : mg "InvalidNumber" = some (.ref a.X_InvalidNumber)
  e_TooLong : mg "TooLong" = some (.ref a.X_TooLong)
  e_DifferentShelves : mg "DifferentShelves" = some (.ref a.X_DifferentShelves)
  e_Contradiction : mg "Contradiction" = some (.ref a.X_Contradiction)
  e_CellFull : mg "CellFull" = some (.ref a.X_CellFull)
  e_CellEmpty : mg "CellEmpty" = some (.ref a.X_CellEmpty)
  e_InvalidName : mg "InvalidName" = some (.ref a.X_InvalidName)
  e_UnknownName : mg "UnknownName" = some (.ref a.X_UnknownName)
  e_SyntaxFault : mg "SyntaxFault" = some (.ref a.X_SyntaxFault)
  e_CheckFault : mg "CheckFault" = some (.ref a.X_CheckFault)
  e_InvalidCode : mg "InvalidCode" = some (.ref a.X_InvalidCode)
  e_InvalidOperation : mg "InvalidOperation" = some (.ref a.X_InvalidOperation)
  xq_InvalidOperation : L2.OexC K a.X_InvalidOperation
  xi_InvalidOperation : PySem.W.findIn K (.ref a.X_InvalidOperation) "__init__" = some (some (.ref a.f_InvalidOperation_init))
  xj_InvalidOperation : PySem.W.typeIn K (.ref a.f_InvalidOperation_init) = some (.type "function")
  xn_place_InvalidOperation : PySem.W.findIn K (.ref a.X_InvalidOperation) "place" = some none
  xf_InvalidOperation : L2.XfC K a.X_InvalidOperation
  xd_InvalidOperation : ClX.CRead K a.X_BotError (.type "type")
  xw_InvalidOperation : PySem.W.findCls K (.ref a.X_BotError) (.type "type") "__init__" = some (.val (.builtin "ValueError.__init__"))
  xk_InvalidOperation : PySem.W.keepIn K (.ref a.X_InvalidOperation) = true
  xb_InvalidOperation : PySem.W.subIn K (.ref a.X_InvalidOperation) (.type "BaseException") = some true
  xt_InvalidOperation : PySem.W.typeIn K (.ref a.X_InvalidOperation) = some (.type "type")
  xe_InvalidOperation : PySem.W.exmOne K (.ref a.X_InvalidOperation) (.ref a.X_BotError) = some true
  xc_InvalidOperation : L2.ExcC K a.X_InvalidOperation
  xo_InvalidOperation_InvalidTick : PySem.W.kitOne K (.ref a.X_InvalidOperation) (.ref a.X_InvalidTick) = some false
  xo_InvalidOperation_InvalidNumber : PySem.W.kitOne K (.ref a.X_InvalidOperation) (.ref a.X_InvalidNumber) = some false
  xo_InvalidOperation_TooLong : PySem.W.kitOne K (.ref a.X_InvalidOperation) (.ref a.X_TooLong) = some false
  xo_InvalidOperation_DifferentShelves : PySem.W.kitOne K (.ref a.X_InvalidOperation) (.ref a.X_DifferentShelves) = some false
  xo_InvalidOperation_Contradiction : PySem.W.kitOne K (.ref a.X_InvalidOperation) (.ref a.X_Contradiction) = some false
  xo_InvalidOperation_CellFull : PySem.W.kitOne K (.ref a.X_InvalidOperation) (.ref a.X_CellFull) = some false
  xo_InvalidOperation_CellEmpty : PySem.W.kitOne K (.ref a.X_InvalidOperation) (.ref a.X_CellEmpty) = some false
  xo_InvalidOperation_InvalidName : PySem.W.kitOne K (.ref a.X_InvalidOperation) (.ref a.X_InvalidName) = some false
  xo_InvalidOperation_UnknownName : PySem.W.kitOne K (.ref a.X_InvalidOperation) (.ref a.X_UnknownName) = some false
  xo_InvalidOperation_SyntaxFault : PySem.W.kitOne K (.ref a.X_InvalidOperation) (.ref a.X_SyntaxFault) = some false
  xo_InvalidOperation_CheckFault : PySem.W.kitOne K (.ref a.X_InvalidOperation) (.ref a.X_CheckFault) = some false
  xo_InvalidOperation_InvalidCode : PySem.W.kitOne K (.ref a.X_InvalidOperation) (.ref a.X_InvalidCode) = some false
  xo_InvalidOperation_InvalidOperation : PySem.W.kitOne K (.ref a.X_InvalidOperation) (.ref a.X_InvalidOperation) = some true
  xv_InvalidOperation : PySem.W.kitOne K (.ref a.X_InvalidOperation) (.type "ValueError") = some true
  xq_SyntaxFault : L2.OexC K a.X_SyntaxFault
  xi_SyntaxFault : PySem.W.findIn K (.ref a.X_SyntaxFault) "__init__" = some (some (.ref a.f_SyntaxFault_init))
  xj_SyntaxFault : PySem.W.typeIn K (.ref a.f_SyntaxFault_init) = some (.type "function")
  xn_line_SyntaxFault : PySem.W.findIn K (.ref a.X_SyntaxFault) "line" = some none
  xn_column_SyntaxFault : PySem.W.findIn K (.ref a.X_SyntaxFault) "column" = some none
  xf_SyntaxFault : L2.XfC K a.X_SyntaxFault
  xd_SyntaxFault : ClX.CRead K a.X_BotError (.type "type")
  xw_SyntaxFault : PySem.W.findCls K (.ref a.X_BotError) (.type "type") "__init__" = some (.val (.builtin "ValueError.__init__"))
  xk_SyntaxFault : PySem.W.keepIn K (.ref a.X_SyntaxFault) = true
  xb_SyntaxFault : PySem.W.subIn K (.ref a.X_SyntaxFault) (.type "BaseException") = some true
  xt_SyntaxFault : PySem.W.typeIn K (.ref a.X_SyntaxFault) = some (.type "type")
  xe_SyntaxFault : PySem.W.exmOne K (.ref a.X_SyntaxFault) (.ref a.X_BotError) = some true
  xc_SyntaxFault : L2.ExcC K a.X_SyntaxFault
  xo_SyntaxFault_InvalidTick : PySem.W.kitOne K (.ref a.X_SyntaxFault) (.ref a.X_InvalidTick) = some false
  xo_SyntaxFault_InvalidNumber : PySem.W.kitOne K (.ref a.X_SyntaxFault) (.ref a.X_InvalidNumber) = some false
  xo_SyntaxFault_TooLong : PySem.W.kitOne K (.ref a.X_SyntaxFault) (.ref a.X_TooLong) = some false
  xo_SyntaxFault_DifferentShelves : PySem.W.kitOne K (.ref a.X_SyntaxFault) (.ref a.X_DifferentShelves) = some false
  xo_SyntaxFault_Contradiction : PySem.W.kitOne K (.ref a.X_SyntaxFault) (.ref a.X_Contradiction) = some false
  xo_SyntaxFault_CellFull : PySem.W.kitOne K (.ref a.X_SyntaxFault) (.ref a.X_CellFull) = some false
  xo_SyntaxFault_CellEmpty : PySem.W.kitOne K (.ref a.X_SyntaxFault) (.ref a.X_CellEmpty) = some false
  xo_SyntaxFault_InvalidName : PySem.W.kitOne K (.ref a.X_SyntaxFault) (.ref a.X_InvalidName) = some false
  xo_SyntaxFault_UnknownName : PySem.W.kitOne K (.ref a.X_SyntaxFault) (.ref a.X_UnknownName) = some false
  xo_SyntaxFault_SyntaxFault : PySem.W.kitOne K (.ref a.X_SyntaxFault) (.ref a.X_SyntaxFault) = some true
  xo_SyntaxFault_CheckFault : PySem.W.kitOne K (.ref a.X_SyntaxFault) (.ref a.X_CheckFault) = some false
  xo_SyntaxFault_InvalidCode : PySem.W.kitOne K (.ref a.X_SyntaxFault) (.ref a.X_InvalidCode) = some false
  xo_SyntaxFault_InvalidOperation : PySem.W.kitOne K (.ref a.X_SyntaxFault) (.ref a.X_InvalidOperation) = some false
  xv_SyntaxFault : PySem.W.kitOne K (.ref a.X_SyntaxFault) (.type "ValueError") = some true
  yi_Stage : PySem.W.findIn K (.ref a.C_Stage) "__class__" = some (some (.builtin "object.__class__"))
  yn_Stage : PySem.W.specialIn K (.builtin "object.__class__") "__get__" = some (some (.builtin "getset_descriptor.__get__"))
  yt_Stage : PySem.W.takesIn K (.builtin "object.__class__") = some true
  ym_Stage : PySem.W.mroIn K a.C_Stage (.type "object") = some true
  z_len : mg "len" = none
  z_abs : mg "abs" = none
  z_range : mg "range" = none
  z_str : mg "str" = none
  z_int : mg "int" = none
  z_tuple : mg "tuple" = none
  z_list : mg "list" = none
  z_sum : mg "sum" = none
  z_isinstance : mg "isinstance" = none
  z_bool : mg "bool" = none
  z_enumerate : mg "enumerate" = none
  z_zip : mg "zip" = none
  z_min : mg "min" = none
  z_all : mg "all" = none
  z_divmod : mg "divmod" = none
  z_max : mg "max" = none
  z_dict : mg "dict" = none
  z_sorted : mg "sorted" = none
  z_ValueError : mg "ValueError" = none
  c_MOVES : mg "MOVES" = some (.ref a.A_MOVES)
  q_MOVES : ∀ H, SqT K H a.A_MOVES (([(Str.ofString "left"), (Str.ofString "right"), (Str.ofString "pick"), (Str.ofString "put"), (Str.ofString "wait")] : List Str).map V.str)
  k_MOVES : ∃ o, K.lookup a.A_MOVES = some o ∧ o.cls = .type "tuple" ∧ o.dict = none
  c_JUMPS : mg "JUMPS" = some (.ref a.A_JUMPS)
  q_JUMPS : ∀ H, SqT K H a.A_JUMPS (([(Str.ofString "goto"), (Str.ofString "empty"), (Str.ofString "held")] : List Str).map V.str)
  k_JUMPS : ∃ o, K.lookup a.A_JUMPS = some o ∧ o.cls = .type "tuple" ∧ o.dict = none
  c_KEYWORDS : mg "KEYWORDS" = some (.ref a.A_KEYWORDS)
  q_KEYWORDS : ∀ H, SqT K H a.A_KEYWORDS (([(Str.ofString "shelf"), (Str.ofString "robot"), (Str.ofString "left"), (Str.ofString "right"), (Str.ofString "pick"), (Str.ofString "put"), (Str.ofString "wait"), (Str.ofString "goto"), (Str.ofString "empty"), (Str.ofString "held")] : List Str).map V.str)
  k_KEYWORDS : ∃ o, K.lookup a.A_KEYWORDS = some o ∧ o.cls = .type "tuple" ∧ o.dict = none
  c_LETTERS : mg "LETTERS" = some (.str (Str.ofString "abcdefghijklmnopqrstuvwxyz") a.t_LETTERS)
  c_DIGITS : mg "DIGITS" = some (.str (Str.ofString "0123456789") a.t_DIGITS)
  c_SPACES : mg "SPACES" = some (.str (Str.ofString " \n") a.t_SPACES)
  c_SIGNS : mg "SIGNS" = some (.str (Str.ofString ";:{}") a.t_SIGNS)
  c_MAX_LETTERS_lexer : mg "MAX_LETTERS_lexer" = some (.int 8 a.t_MAX_LETTERS_lexer)
  c_MAX_DIGITS : mg "MAX_DIGITS" = some (.int 2 a.t_MAX_DIGITS)
  c_NAME : mg "NAME" = some (.str (Str.ofString "name") a.t_NAME)
  c_NUMBER : mg "NUMBER" = some (.str (Str.ofString "number") a.t_NUMBER)
  c_KEYWORD : mg "KEYWORD" = some (.str (Str.ofString "keyword") a.t_KEYWORD)
  c_SIGN : mg "SIGN" = some (.str (Str.ofString "sign") a.t_SIGN)
  c_END : mg "END" = some (.str (Str.ofString "end") a.t_END)
  c_MIN_CELLS : mg "MIN_CELLS" = some (.int 3 a.t_MIN_CELLS)
  c_MAX_CELLS : mg "MAX_CELLS" = some (.int 12 a.t_MAX_CELLS)
  c_MAX_BOXES : mg "MAX_BOXES" = some (.int 3 a.t_MAX_BOXES)
  c_MAX_STEPS : mg "MAX_STEPS" = some (.int 20 a.t_MAX_STEPS)
  c_BLOCKED : mg "BLOCKED" = some (.str (Str.ofString "blocked") a.t_BLOCKED)
  c_MAX_STEP : mg "MAX_STEP" = some (.int 500 a.t_MAX_STEP)
  c_MAX_LETTERS_stage : mg "MAX_LETTERS_stage" = some (.int 8 a.t_MAX_LETTERS_stage)
  c_STEP : mg "STEP" = some (.str (Str.ofString "step") a.t_STEP)
  c_ADD : mg "ADD" = some (.str (Str.ofString "add") a.t_ADD)
  c_TAKE : mg "TAKE" = some (.str (Str.ofString "take") a.t_TAKE)
  c_JUMP : mg "JUMP" = some (.str (Str.ofString "jump") a.t_JUMP)
  c_UNDO : mg "UNDO" = some (.str (Str.ofString "undo") a.t_UNDO)
  c_REDO : mg "REDO" = some (.str (Str.ofString "redo") a.t_REDO)
  c_LENGTHS : mg "LENGTHS" = some (.ref a.A_LENGTHS)
structure TDic (w : World) (K : PySem.W.Frag) (a : Ad) : Prop where
  ds_LENGTHS : (a.A_LENGTHS == sysModules) = false
  dk_LENGTHS_step : KDct K w a.A_LENGTHS (Str.ofString "step") (.int 2)
  dk_LENGTHS_add : KDct K w a.A_LENGTHS (Str.ofString "add") (.int 2)
  dk_LENGTHS_take : KDct K w a.A_LENGTHS (Str.ofString "take") (.int 2)
  dk_LENGTHS_jump : KDct K w a.A_LENGTHS (Str.ofString "jump") (.int 3)
  dk_LENGTHS_undo : KDct K w a.A_LENGTHS (Str.ofString "undo") (.int 1)
  dk_LENGTHS_redo : KDct K w a.A_LENGTHS (Str.ofString "redo") (.int 1)
  dm_LENGTHS_save : PySem.W.nsIn K a.A_LENGTHS (Str.ofString "save") = some none
structure Tbl (mg : Str → Option Value) (base : Heap) (a : Ad) : Prop where
  t_law : LamX.TabB base mg a.cc_law a.tb_law
def Ts (a : Ad) : List (Addr × Str) := [(a.tb_law, Str.ofString "law" ++ ".<locals>." ++ "<lambda>")]
def tbs (a : Ad) : List Addr := [a.tb_law]
def lam_law : Expr := lamArg s_law
section
variable {K : PySem.W.Frag} {mg : Str → Option Value} {a : Ad}
theorem b_l_random (T : Txt K mg a) : Binds K a.d_l_random ["_law_script", "_law_salt"] [] := T.F_l_random.binds fun _ _ _ _ _ _ us hl => match us, hl with | [_, _], _ => rfl
theorem b_Parser_peek (T : Txt K mg a) : Binds K a.d_Parser_peek ["self"] [] := T.F_Parser_peek.binds fun _ _ _ _ _ _ us hl => match us, hl with | [_], _ => rfl
theorem b_Token_init (T : Txt K mg a) : Binds K a.d_Token_init ["self", "kind", "text", "line", "column"] [] := T.F_Token_init.binds fun _ _ _ _ _ _ us hl => match us, hl with | [_, _, _, _, _], _ => rfl
theorem b_Robot_init (T : Txt K mg a) : Binds K a.d_Robot_init ["self", "start", "steps", "names"] [] := T.F_Robot_init.binds fun _ _ _ _ _ _ us hl => match us, hl with | [_, _, _, _], _ => rfl
theorem b_Plan_init (T : Txt K mg a) : Binds K a.d_Plan_init ["self", "shelf", "robots"] [] := T.F_Plan_init.binds fun _ _ _ _ _ _ us hl => match us, hl with | [_, _, _], _ => rfl
theorem b_Parser_init (T : Txt K mg a) : Binds K a.d_Parser_init ["self", "tokens"] [] := T.F_Parser_init.binds fun _ _ _ _ _ _ us hl => match us, hl with | [_, _], _ => rfl
theorem b_State_init (T : Txt K mg a) : Binds K a.d_State_init ["self", "cells", "nexts", "holds", "shelf"] [] := T.F_State_init.binds fun _ _ _ _ _ _ us hl => match us, hl with | [_, _, _, _, _], _ => rfl
theorem b_Tick_init (T : Txt K mg a) : Binds K a.d_Tick_init ["self", "words", "state"] [] := T.F_Tick_init.binds fun _ _ _ _ _ _ us hl => match us, hl with | [_, _, _], _ => rfl
theorem b_InvalidOperation_init (T : Txt K mg a) : Binds K a.d_InvalidOperation_init ["self", "place"] [] := T.F_InvalidOperation_init.binds fun _ _ _ _ _ _ us hl => match us, hl with | [_, _], _ => rfl
theorem b_SyntaxFault_init (T : Txt K mg a) : Binds K a.d_SyntaxFault_init ["self", "line", "column"] [] := T.F_SyntaxFault_init.binds fun _ _ _ _ _ _ us hl => match us, hl with | [_, _, _], _ => rfl
theorem b_Parser_fail (T : Txt K mg a) : Binds K a.d_Parser_fail ["self"] [] := T.F_Parser_fail.binds fun _ _ _ _ _ _ us hl => match us, hl with | [_], _ => rfl
theorem b_Parser_take_word (T : Txt K mg a) : Binds K a.d_Parser_take_word ["self", "word"] [] := T.F_Parser_take_word.binds fun _ _ _ _ _ _ us hl => match us, hl with | [_, _], _ => rfl
theorem b_Parser_take (T : Txt K mg a) : Binds K a.d_Parser_take ["self", "kind"] [] := T.F_Parser_take.binds fun _ _ _ _ _ _ us hl => match us, hl with | [_, _], _ => rfl
theorem b_is_int_in (T : Txt K mg a) : Binds K a.d_is_int_in ["value", "low", "high"] [] := T.F_is_int_in.binds fun _ _ _ _ _ _ us hl => match us, hl with | [_, _, _], _ => rfl
theorem b_Stage_check_cell (T : Txt K mg a) : Binds K a.d_Stage_check_cell ["self", "cell"] [] := T.F_Stage_check_cell.binds fun _ _ _ _ _ _ us hl => match us, hl with | [_, _], _ => rfl
theorem b_Stage_record (T : Txt K mg a) : Binds K a.d_Stage_record ["self", "word", "now"] [] := T.F_Stage_record.binds fun _ _ _ _ _ _ us hl => match us, hl with | [_, _, _], _ => rfl
theorem b_replaced (T : Txt K mg a) : Binds K a.d_replaced ["values", "place", "value"] [] := T.F_replaced.binds fun _ _ _ _ _ _ us hl => match us, hl with | [_, _, _], _ => rfl
theorem b_Stage_put_boxes (T : Txt K mg a) : Binds K a.d_Stage_put_boxes ["self", "word", "cell", "boxes"] [] := T.F_Stage_put_boxes.binds fun _ _ _ _ _ _ us hl => match us, hl with | [_, _, _, _], _ => rfl
theorem b_Stage_take (T : Txt K mg a) : Binds K a.d_Stage_take ["self", "cell"] [] := T.F_Stage_take.binds fun _ _ _ _ _ _ us hl => match us, hl with | [_, _], _ => rfl
theorem b_Parser_found (T : Txt K mg a) : Binds K a.d_Parser_found ["self", "reason", "token"] [] := T.F_Parser_found.binds fun _ _ _ _ _ _ us hl => match us, hl with | [_, _, _], _ => rfl
theorem b_Parser_parse_shelf (T : Txt K mg a) : Binds K a.d_Parser_parse_shelf ["self"] [] := T.F_Parser_parse_shelf.binds fun _ _ _ _ _ _ us hl => match us, hl with | [_], _ => rfl
theorem b_Parser_parse_step (T : Txt K mg a) : Binds K a.d_Parser_parse_step ["self", "names", "jumps"] [] := T.F_Parser_parse_step.binds fun _ _ _ _ _ _ us hl => match us, hl with | [_, _, _], _ => rfl
theorem b_Parser_parse_robot (T : Txt K mg a) : Binds K a.d_Parser_parse_robot ["self", "cells", "others"] [] := T.F_Parser_parse_robot.binds fun _ _ _ _ _ _ us hl => match us, hl with | [_, _, _], _ => rfl
theorem b_Parser_parse_plan (T : Txt K mg a) : Binds K a.d_Parser_parse_plan ["self"] [] := T.F_Parser_parse_plan.binds fun _ _ _ _ _ _ us hl => match us, hl with | [_], _ => rfl
theorem b_run_end (T : Txt K mg a) : Binds K a.d_run_end ["row", "start", "letters"] [] := T.F_run_end.binds fun _ _ _ _ _ _ us hl => match us, hl with | [_, _, _], _ => rfl
theorem b_read_token (T : Txt K mg a) : Binds K a.d_read_token ["row", "line", "column"] [] := T.F_read_token.binds fun _ _ _ _ _ _ us hl => match us, hl with | [_, _, _], _ => rfl
theorem b_tokenize (T : Txt K mg a) : Binds K a.d_tokenize ["source"] [] := T.F_tokenize.binds fun _ _ _ _ _ _ us hl => match us, hl with | [_], _ => rfl
theorem b_load (T : Txt K mg a) : Binds K a.d_load ["plan"] [] := T.F_load.binds fun _ _ _ _ _ _ us hl => match us, hl with | [_], _ => rfl
theorem b_first_state (T : Txt K mg a) : Binds K a.d_first_state ["parsed"] [] := T.F_first_state.binds fun _ _ _ _ _ _ us hl => match us, hl with | [_], _ => rfl
theorem b_Stage_init (T : Txt K mg a) : Binds K a.d_Stage_init ["self", "plan"] [] := T.F_Stage_init.binds fun _ _ _ _ _ _ us hl => match us, hl with | [_, _], _ => rfl
theorem b_l_below (T : Txt K mg a) : Binds K a.d_l_below ["_law_d", "_law_limit"] [] := T.F_l_below.binds fun _ _ _ _ _ _ us hl => match us, hl with | [_, _], _ => rfl
theorem b_l_error_of (T : Txt K mg a) : Binds K a.d_l_error_of ["_law_call"] [] := T.F_l_error_of.binds fun _ _ _ _ _ _ us hl => match us, hl with | [_], _ => rfl
theorem b_l_all_raise (T : Txt K mg a) : Binds K a.d_l_all_raise ["_law_calls", "_law_expected"] [] := T.F_l_all_raise.binds fun _ _ _ _ _ _ us hl => match us, hl with | [_, _], _ => rfl
theorem b_Stage_operations (T : Txt K mg a) : Binds K a.d_Stage_operations ["self"] [] := T.F_Stage_operations.binds fun _ _ _ _ _ _ us hl => match us, hl with | [_], _ => rfl
theorem b_is_operation (T : Txt K mg a) : Binds K a.d_is_operation ["value"] [] := T.F_is_operation.binds fun _ _ _ _ _ _ us hl => match us, hl with | [_], _ => rfl
theorem b_Stage_redo (T : Txt K mg a) : Binds K a.d_Stage_redo ["self"] [] := T.F_Stage_redo.binds fun _ _ _ _ _ _ us hl => match us, hl with | [_], _ => rfl
theorem b_act (T : Txt K mg a) : Binds K a.d_act ["parsed", "state", "number"] [] := T.F_act.binds fun _ _ _ _ _ _ us hl => match us, hl with | [_, _, _], _ => rfl
theorem b_next_tick (T : Txt K mg a) : Binds K a.d_next_tick ["parsed", "state"] [] := T.F_next_tick.binds fun _ _ _ _ _ _ us hl => match us, hl with | [_, _], _ => rfl
theorem b_Stage_step (T : Txt K mg a) : Binds K a.d_Stage_step ["self", "count"] [] := T.F_Stage_step.binds fun _ _ _ _ _ _ us hl => match us, hl with | [_, _], _ => rfl
theorem b_Stage_add (T : Txt K mg a) : Binds K a.d_Stage_add ["self", "cell"] [] := T.F_Stage_add.binds fun _ _ _ _ _ _ us hl => match us, hl with | [_, _], _ => rfl
theorem b_Stage_jump (T : Txt K mg a) : Binds K a.d_Stage_jump ["self", "number", "step"] [] := T.F_Stage_jump.binds fun _ _ _ _ _ _ us hl => match us, hl with | [_, _, _], _ => rfl
theorem b_Stage_undo (T : Txt K mg a) : Binds K a.d_Stage_undo ["self"] [] := T.F_Stage_undo.binds fun _ _ _ _ _ _ us hl => match us, hl with | [_], _ => rfl
theorem b_Stage_execute (T : Txt K mg a) : Binds K a.d_Stage_execute ["self", "operation"] [] := T.F_Stage_execute.binds fun _ _ _ _ _ _ us hl => match us, hl with | [_, _], _ => rfl
theorem b_Stage_batch (T : Txt K mg a) : Binds K a.d_Stage_batch ["self", "operations"] [] := T.F_Stage_batch.binds fun _ _ _ _ _ _ us hl => match us, hl with | [_, _], _ => rfl
theorem b_Stage_replay (T : Txt K mg a) : Binds K a.d_Stage_replay ["cls", "plan", "operations"] [] := T.F_Stage_replay.binds fun _ _ _ _ _ _ us hl => match us, hl with | [_, _, _], _ => rfl
end
end Sb


namespace SbH
open PySem PySem.Spec PyProof.Rows L2
abbrev AlY : Type := Bool × List He5.FnW × List (Option (List (Option (Str × Int))))
def obsK (fa : List He.Fa) (fn : List He5.DefA) (ts : List He.Tab) (tf : List He.Defn) (ex : PySem.W.Frag → Bool) (g : Addr → Option Obj) (K : PySem.W.Frag) : AlY :=
  ((fa.all fun f => f.ok K) && ((fn.all fun d => d.ok K) && (ex K && He.tabsB g tf K)), fn.map (fun d => He5.fnA K (d.at_ K)), ts.map fun t => He.dicW K (t.1 K))
def obsY (n : Nat) (fa : List He.Fa) (fn : List He5.DefA) (ts : List He.Tab) (tf : List He.Defn) (ex : PySem.W.Frag → Bool) (g : Addr → Option Obj) : AlY := obsK fa fn ts tf ex g (He.frT g (He5.asA g n))
def valY (fn : List He5.DefA) (ts : List He.Tab) (w : World) : AlY := (true, fn.map He5.DefA.val, ts.map fun t => some (He.keysIn w.params t.2))
structure SaysY (fa : List He.Fa) (fn : List He5.DefA) (ts : List He.Tab) (tf : List He.Defn) (ex : PySem.W.Frag → Bool) (w : World) (h : Heap) (K : PySem.W.Frag) : Prop where
  fact : ∀ f ∈ fa, f.ok K = true
  defs : ∀ d ∈ fn, ∃ fd, L2.FunD K d.name d.qual d.params d.body d.scope (d.dvs K) (d.kws K) (d.at_ K) fd
  more : ex K = true
  dic : ∀ t ∈ ts, He.dicW K (t.1 K) = some (He.keysIn w.params t.2)
  hd : ∀ p ∈ tf, PySem.W.codeHdIn K (He.cT K p).1 (He.cT K p).2 = true
  out : ∀ p ∈ tf, K.lookup (He.cT K p).2 = none
  empty : ∀ p ∈ tf, h.get? (He.cT K p).2 = some { cls := .none, data := .fields #[] }
theorem map_eq_at {α β : Type} {f g : α → β} {l : List α} (h : l.map f = l.map g) : ∀ x ∈ l, f x = g x := by
  induction l with
  | nil => intro x hx; cases hx
  | cons a r ih =>
    injection h with h1 h2
    intro x hx
    rcases List.mem_cons.mp hx with rfl | hx
    · exact h1
    · exact ih h2 x hx
theorem saysY_of {n : Nat} {fa : List He.Fa} {fn : List He5.DefA} {ts : List He.Tab} {tf : List He.Defn} {ex : PySem.W.Frag → Bool} {w : World} {h : Heap} (e : obsY n fa fn ts tf ex h.get? = valY fn ts w) : SaysY fa fn ts tf ex w h (He.frT h.get? (He5.asA h.get? n)) := by
  generalize hK : He.frT h.get? (He5.asA h.get? n) = K at *
  have e0 : obsK fa fn ts tf ex h.get? K = valY fn ts w := by rw [← hK]; exact e
  have e1 : ((fa.all fun f => f.ok K) && ((fn.all fun d => d.ok K) && (ex K && He.tabsB h.get? tf K))) = true := congrArg (fun z : AlY => z.1) e0
  have e2 : fn.map (fun d => He5.fnA K (d.at_ K)) = fn.map He5.DefA.val := congrArg (fun z : AlY => z.2.1) e0
  have e3 : (ts.map fun t => He.dicW K (t.1 K)) = ts.map fun t => some (He.keysIn w.params t.2) := congrArg (fun z : AlY => z.2.2) e0
  obtain ⟨h1, h2⟩ := He.ba e1
  obtain ⟨h3, h4⟩ := He.ba h2
  obtain ⟨h5, h6⟩ := He.ba h4
  have key : ∀ p ∈ tf, PySem.W.codeHdIn K (He.cT K p).1 (He.cT K p).2 = true ∧ ∃ o, h.get? (He.cT K p).2 = some o ∧ He.emptyTab o = true := fun p hp => by
    obtain ⟨h7, h8⟩ := He.ba (List.all_eq_true.mp h6 p hp)
    refine ⟨h7, ?_⟩
    cases q : h.get? (He.cT K p).2 with
    | none => rw [q] at h8; cases h8
    | some o => rw [q] at h8; exact ⟨o, rfl, h8⟩
  refine ⟨fun f hf => List.all_eq_true.mp h1 f hf, fun d hd => He5.DefA.funD (map_eq_at e2 d hd) (List.all_eq_true.mp h3 d hd), h5, fun t ht => map_eq_at e3 t ht, fun p hp => (key p hp).1, fun p hp => ?_, fun p hp => ?_⟩
  · obtain ⟨_, o, q, z⟩ := key p hp
    rw [← hK] at q ⊢
    exact He.frT_none q z
  · obtain ⟨_, o, q, z⟩ := key p hp
    rw [q, He.emptyTab_eq z]
def hookY (n : Nat) (fa : List He.Fa) (fn : List He5.DefA) (ts : List He.Tab) (tf : List He.Defn) (ex : PySem.W.Frag → Bool) : PySem.W.Hook where
  α := AlY
  obs := fun s => obsY n fa fn ts tf ex s.heap.get?
  val := fun w => valY fn ts w
  says := fun w h => ∃ K : PySem.W.Frag, K.In h ∧ SaysY fa fn ts tf ex w h K
  of := fun _ _ e => ⟨_, He.frT_in, saysY_of e⟩
  keeps := fun _ _ _ ⟨K, hK, c⟩ k => ⟨K, PySem.W.Frag.In.keeps hK k, ⟨c.fact, c.defs, c.more, c.dic, c.hd, c.out, fun p hp => k _ _ (c.empty p hp)⟩⟩
theorem obsY_eq {n : Nat} {fa : List He.Fa} {fn : List He5.DefA} {ts : List He.Tab} {tf : List He.Defn} {ex : PySem.W.Frag → Bool} {g : Addr → Option Obj} {s : Shared} (h : ∀ a, g a = s.heap.get? a) : obsY n fa fn ts tf ex g = (hookY n fa fn ts tf ex).obs s := by
  have e : g = s.heap.get? := funext h
  rw [e] <;> rfl
/-! ### a classmethod -/
/-- C.__init__ read off the class C is ValueError's -/
def cinB (K : PySem.W.Frag) (C : Addr) : Bool := match PySem.W.findCls K (.ref C) (.type "type") "__init__" with
  | some (.val v) => v == .builtin "ValueError.__init__"
  | _ => false
theorem cinB_ok {K : PySem.W.Frag} {C : Addr} (q : cinB K C = true) : PySem.W.findCls K (.ref C) (.type "type") "__init__" = some (.val (.builtin "ValueError.__init__")) := by
  unfold cinB at q
  split at q
  · rename_i v e
    rw [e, eq_of_beq q]
  · cases q
/-- an exception class over ValueError that has an __init__ of its own -/
def oexB (K : PySem.W.Frag) (C : Addr) : Bool := match K.lookup C with
  | some ⟨.type "type", _, .cls cd, sl⟩ => (match cd.mro, sl.toList with
    | .ref C' :: bm, [_, _, _, _, some (.builtin n), _] => C' == C && n == "ValueError.__new__" && !cd.hasDel && cd.hasDict && PySem.HandSPX.refsVE bm
    | _, _ => false)
  | _ => false
theorem oexB_ok {K : PySem.W.Frag} {C : Addr} (q : oexB K C = true) : ∃ nm q N bs bm sn sub ab col dd k0 k1 k2 k3 k5, K.lookup C = some (excClassObj nm q C N bs bm true sn sub ab col dd k0 k1 k2 k3 k5 "ValueError.__new__") ∧ PySem.HandSPX.refsVE bm = true := by
  unfold oexB at q
  split at q
  · rename_i dd cd sl ho
    split at q
    · rename_i C' bm k0 k1 k2 k3 n k5 hm hs
      simp only [Bool.and_eq_true, beq_iff_eq, Bool.not_eq_true'] at q
      obtain ⟨⟨⟨⟨rfl, rfl⟩, hdel⟩, hdi⟩, ht⟩ := q
      obtain ⟨nm, bs, mro, ns, qn, hd, sn, sub, ab, col, del⟩ := cd
      dsimp only at hm hdel hdi
      subst hm hdel hdi
      have hsl : sl = #[k0, k1, k2, k3, some (.builtin "ValueError.__new__"), k5] := by
        obtain ⟨l⟩ := sl
        simp only at hs
        rw [hs]
      subst hsl
      exact ⟨_, _, _, _, _, _, _, _, _, _, _, _, _, _, _, ho, ht⟩
    · cases q
  · cases q
def cmB (K : PySem.W.Frag) (C f : Str) : Bool := (He5.wrapB K (He.ga K C) "classmethod" "classmethod.__get__" f && PySem.W.fnIn K (He5.wf K (He.ga K C) "classmethod" f)) && (PySem.W.readsIn K (He.ga K C) (.type "type") && He.eqO (PySem.W.specialIn K (.ref (He.ga K C)) "__getattribute__") (some (some (.builtin "type.__getattribute__"))))
theorem cmB_ok {K : PySem.W.Frag} {C f : Str} (c : cmB K C f = true) : ClX.CMet K (He.ga K C) (.type "type") f (He.ma K (He.ga K C) f) (He5.wf K (He.ga K C) "classmethod" f) ∧ ClX.CRead K (He.ga K C) (.type "type") := by
  obtain ⟨c1, c2⟩ := He.ba c
  obtain ⟨c3, c4⟩ := He.ba c1
  obtain ⟨c5, c6⟩ := He.ba c2
  exact ⟨He5.cmet_of c3 c4, ⟨c5, He.eqO_ok c6⟩⟩
/-! ### the run in pieces: each piece is one declaration's memory -/
abbrev KT (n : Nat) (s : PySem.W.SharedT) : PySem.W.Frag := He.frT (HandSHeadRun.getT s) (He5.asA (HandSHeadRun.getT s) n)
theorem run_join {σ : Type} {n : Nat} {fa : List He.Fa} {fn : List He5.DefA} {ts : List He.Tab} {tf : List He.Defn} {ex : PySem.W.Frag → Bool} {w : World} {o : Option PySem.W.SharedT} {L : PySem.W.SharedT → Bool} {S : PySem.W.SharedT → σ} {og : σ}
    (h0 : o.map (fun s => (L s, S s, fa.all fun f => f.ok (KT n s))) = some (true, og, true))
    (h1 : o.map (fun s => (fn.all fun d => d.ok (KT n s), fn.map fun d => He5.fnA (KT n s) (d.at_ (KT n s)), ex (KT n s) && He.tabsB (HandSHeadRun.getT s) tf (KT n s), ts.map fun t => He.dicW (KT n s) (t.1 (KT n s)))) = some (true, fn.map He5.DefA.val, true, ts.map fun t => some (He.keysIn w.params t.2))) :
    o.map (fun s => (L s, S s, obsY n fa fn ts tf ex (HandSHeadRun.getT s))) = some (true, og, valY fn ts w) := by
  cases o with
  | none => cases h0
  | some s =>
    have e0 := Option.some.inj h0
    have e1 := Option.some.inj h1
    have a1 := congrArg (fun z => z.1) e0
    have a2 := congrArg (fun z => z.2.1) e0
    have a3 := congrArg (fun z => z.2.2) e0
    have b1 := congrArg (fun z => z.1) e1
    have b2 := congrArg (fun z => z.2.1) e1
    have b3 := congrArg (fun z => z.2.2.1) e1
    have b4 := congrArg (fun z => z.2.2.2) e1
    dsimp only at a1 a2 a3 b1 b2 b3 b4
    show some (L s, S s, (fa.all fun f => f.ok (KT n s)) && ((fn.all fun d => d.ok (KT n s)) && (ex (KT n s) && He.tabsB (HandSHeadRun.getT s) tf (KT n s))), fn.map (fun d => He5.fnA (KT n s) (d.at_ (KT n s))), ts.map fun t => He.dicW (KT n s) (t.1 (KT n s))) = some (true, og, true, fn.map He5.DefA.val, ts.map fun t => some (He.keysIn w.params t.2))
    rw [a1, a2, a3, b1, b2, b3, b4]
    rfl
section
variable {fa : List He.Fa} {fn : List He5.DefA} {ts : List He.Tab} {tf : List He.Defn} {ex : PySem.W.Frag → Bool} {w : World} {h : Heap} {K : PySem.W.Frag}
theorem SaysY.at_ (c : SaysY fa fn ts tf ex w h K) (i : Nat) {f : He.Fa} (e : fa[i]? = some f) : f.ok K = true := c.fact f (List.mem_of_getElem? e)
theorem SaysY.def_ (c : SaysY fa fn ts tf ex w h K) (i : Nat) {d : He5.DefA} (e : fn[i]? = some d) : ∃ fd, L2.FunD K d.name d.qual d.params d.body d.scope (d.dvs K) (d.kws K) (d.at_ K) fd := c.defs d (List.mem_of_getElem? e)
/-! properties -/
def propG (K : PySem.W.Frag) (C f : Str) : Addr := match PySem.W.recIn K (He.ma K (He.ga K C) f) "property" with
  | some (.ref g :: _) => g
  | _ => 0
def propB (K : PySem.W.Frag) (C f : Str) : Bool := He.eqO (PySem.W.findIn K (.ref (He.ga K C)) f) (some (some (.ref (He.ma K (He.ga K C) f)))) && (He.eqO (PySem.W.specialIn K (.ref (He.ma K (He.ga K C) f)) "__get__") (some (some (.builtin "property.__get__"))) && (decide (PySem.W.takesIn K (.ref (He.ma K (He.ga K C) f)) = some true) && (match PySem.W.recIn K (He.ma K (He.ga K C) f) "property" with
  | some (.ref _ :: _) => true
  | _ => false)))
theorem propB_ok {C f : Str} (c : propB K C f = true) : PropOf K (He.ga K C) f (He.ma K (He.ga K C) f) (propG K C f) := by
  obtain ⟨h1, h2⟩ := He.ba c
  obtain ⟨h3, h4⟩ := He.ba h2
  obtain ⟨h5, h6⟩ := He.ba h4
  refine ⟨He.eqO_ok h1, He.eqO_ok h3, of_decide_eq_true h5, ?_⟩
  unfold propG
  cases q : PySem.W.recIn K (He.ma K (He.ga K C) f) "property" with
  | none => rw [q] at h6; cases h6
  | some l =>
    rw [q] at h6
    cases l with
    | nil => cases h6
    | cons v r =>
      cases v with
      | ref g => exact ⟨r, rfl⟩
      | _ => cases h6
/-! tuples of texts -/
def strOfV : Value → Option Str
  | .str x _ => some x
  | _ => none
def tupB (K : PySem.W.Frag) (x : Str) (l : List Str) : Bool := match K.lookup (He.ga K x) with
  | some ⟨.type c, none, .seq its _, _⟩ => decide (c = "tuple") && decide (its.toList.map strOfV = l.map some)
  | _ => false
theorem vals_of : ∀ {us : List Value} {l : List Str}, us.map strOfV = l.map some → Vals (l.map V.str) us
  | [], [], _ => .nil
  | [], _ :: _, h => by cases h
  | _ :: _, [], h => by cases h
  | u :: us, x :: l, h => by
    have h1 : strOfV u :: us.map strOfV = some x :: l.map some := h
    injection h1 with h2 h3
    refine .cons ?_ (vals_of h3)
    cases u with
    | str y t => cases h2; exact ⟨t, rfl⟩
    | _ => cases h2
theorem tupB_ok {x : Str} {l : List Str} (c : tupB K x l = true) (hl : l.length ≤ 1000) : (∀ H, SqT K H (He.ga K x) (l.map V.str)) ∧ ∃ o, K.lookup (He.ga K x) = some o ∧ o.cls = .type "tuple" ∧ o.dict = none := by
  unfold tupB at c
  cases q : K.lookup (He.ga K x) with
  | none => rw [q] at c; cases c
  | some o =>
    obtain ⟨oc, od, dt, sl⟩ := o
    rw [q] at c
    cases oc with
    | type cn =>
      cases od with
      | none =>
        cases dt with
        | seq its n =>
          obtain ⟨c1, c2⟩ := He.ba (show (decide (cn = "tuple") && decide (its.toList.map strOfV = l.map some)) = true from c)
          have e1 : cn = "tuple" := of_decide_eq_true c1
          have e2 := of_decide_eq_true c2
          subst e1
          have v := vals_of e2
          refine ⟨fun H => .inr ⟨_, _, _, q, rfl, rfl, ?_, v⟩, _, rfl, rfl, rfl⟩
          have := v.length
          rw [List.length_map] at this
          rw [← Array.length_toList, ← this, sizeLine_eq]
          omega
        | _ => cases c
      | some d => cases dt <;> cases c
    | _ => cases od <;> cases dt <;> cases c
theorem code_of {x qual q : Str} {params : Arguments} {body : List Stmt} {scope : Scope} {dvs : List V} {kws : List (Str × V)} {fd : FuncData} (g : FunD K x qual params body scope dvs kws (He.ga K q) fd) : fd.code = .ref (He.cT K (q, none)).1 := by
  obtain ⟨oc, od, dV, kV, doc, pm, an, cdv, ct, osl, e, lk, hc, _⟩ := g.ex
  obtain ⟨c, rfl⟩ := He.codeIn_ref hc
  have e2 : fd.code = .ref c := by rw [e]
  rw [e2]
  have := He.codeOf_eq (p := (q, none)) lk e2
  exact congrArg Value.ref this.symm
theorem dct_of {a : Addr} {es : Array DictEntry} {n : Nat} {z : Str} {v : V} (kd : KDict K w a es n) (h : ∃ u, PySem.W.nsIn K a z = some (some u) ∧ RelV v u) : KDct K w a z v := by
  obtain ⟨u, h1, h2⟩ := h
  exact ⟨es, n, u, kd.at_, kd.lit, h1, h2⟩
theorem dct_sys {a : Addr} {es : Array DictEntry} {n : Nat} (kd : KDict K w a es n) : (a == sysModules) = false := kd.low
end
end SbH

namespace Sb
open PySem PySem.Spec PyProof.Rows L2
def hNm0 : List Str := [(Str.ofString "_wall"), (Str.ofString "BotError"), (Str.ofString "SyntaxFault"), (Str.ofString "CheckFault"), (Str.ofString "InvalidTick"), (Str.ofString "InvalidNumber"), (Str.ofString "TooLong"), (Str.ofString "DifferentShelves"), (Str.ofString "Contradiction"), (Str.ofString "InvalidCode"), (Str.ofString "CellFull"), (Str.ofString "CellEmpty"), (Str.ofString "InvalidName"), (Str.ofString "UnknownName"), (Str.ofString "InvalidOperation"), (Str.ofString "MOVES"), (Str.ofString "JUMPS"), (Str.ofString "KEYWORDS"), (Str.ofString "LETTERS"), (Str.ofString "DIGITS"), (Str.ofString "SPACES"), (Str.ofString "SIGNS"), (Str.ofString "MAX_LETTERS_lexer"), (Str.ofString "MAX_DIGITS")]
def hNm1 : List Str := [(Str.ofString "NAME"), (Str.ofString "NUMBER"), (Str.ofString "KEYWORD"), (Str.ofString "SIGN"), (Str.ofString "END"), (Str.ofString "Token"), (Str.ofString "run_end"), (Str.ofString "read_token"), (Str.ofString "tokenize"), (Str.ofString "MIN_CELLS"), (Str.ofString "MAX_CELLS"), (Str.ofString "MAX_BOXES"), (Str.ofString "MAX_STEPS"), (Str.ofString "Robot"), (Str.ofString "Plan"), (Str.ofString "Parser"), (Str.ofString "load"), (Str.ofString "BLOCKED"), (Str.ofString "is_int_in"), (Str.ofString "State"), (Str.ofString "replaced"), (Str.ofString "first_state"), (Str.ofString "act"), (Str.ofString "Tick")]
def hNm2 : List Str := [(Str.ofString "next_tick"), (Str.ofString "MAX_STEP"), (Str.ofString "MAX_LETTERS_stage"), (Str.ofString "STEP"), (Str.ofString "ADD"), (Str.ofString "TAKE"), (Str.ofString "JUMP"), (Str.ofString "UNDO"), (Str.ofString "REDO"), (Str.ofString "LENGTHS"), (Str.ofString "is_operation"), (Str.ofString "Stage"), (Str.ofString "_law_random"), (Str.ofString "_law_below"), (Str.ofString "_law_error_of"), (Str.ofString "_law_all_raise")]
def hNm : List Str := hNm0 ++ (hNm1 ++ (hNm2))
def exb_InvalidOperation (K : PySem.W.Frag) : Bool := decide (SbH.oexB K (He.ga K (Str.ofString "InvalidOperation")) = true) && (decide (PySem.W.findIn K (.ref (He.ga K (Str.ofString "InvalidOperation"))) "__setattr__" = some (some (.builtin "object.__setattr__"))) && (decide (PySem.W.subIn K (.ref (He.ga K (Str.ofString "InvalidOperation"))) (.type "BaseException") = some true) && (decide (PySem.W.typeIn K (.ref (He.ga K (Str.ofString "InvalidOperation"))) = some (.type "type")) && (decide (PySem.W.keepIn K (.ref (He.ga K (Str.ofString "InvalidOperation"))) = true) && (decide (PySem.W.findIn K (.ref (He.ga K (Str.ofString "InvalidOperation"))) "__init__" = some (some (.ref (He.ma K (He.ga K (Str.ofString "InvalidOperation")) (Str.ofString "__init__"))))) && (decide (PySem.W.typeIn K (.ref (He.ma K (He.ga K (Str.ofString "InvalidOperation")) (Str.ofString "__init__"))) = some (.type "function")) && (decide (PySem.W.findIn K (.ref (He.ga K (Str.ofString "InvalidOperation"))) "place" = some none) && (decide (PySem.W.findIn K (.ref (He.ga K (Str.ofString "InvalidOperation"))) "__getattribute__" = some (some (.builtin "BaseException.__getattribute__"))) && (decide (PySem.W.findIn K (.ref (He.ga K (Str.ofString "InvalidOperation"))) "__getattr__" = some none) && (decide (PySem.W.subIn K (.ref (He.ga K (Str.ofString "InvalidOperation"))) (.type "BaseException") = some true) && (decide (PySem.W.hasDictIn K (He.ga K (Str.ofString "InvalidOperation")) = true) && (decide (PySem.W.readsIn K (He.ga K (Str.ofString "BotError")) (.type "type") = true) && (decide (PySem.W.specialIn K (.ref (He.ga K (Str.ofString "BotError"))) "__getattribute__" = some (some (.builtin "type.__getattribute__"))) && (decide (SbH.cinB K (He.ga K (Str.ofString "BotError")) = true) && (decide (PySem.W.keepIn K (.ref (He.ga K (Str.ofString "InvalidOperation"))) = true) && (decide (PySem.W.subIn K (.ref (He.ga K (Str.ofString "InvalidOperation"))) (.type "BaseException") = some true) && (decide (PySem.W.typeIn K (.ref (He.ga K (Str.ofString "InvalidOperation"))) = some (.type "type")) && (decide (PySem.W.exmOne K (.ref (He.ga K (Str.ofString "InvalidOperation"))) (.ref (He.ga K (Str.ofString "BotError"))) = some true) && (decide (PySem.W.findIn K (.ref (He.ga K (Str.ofString "InvalidOperation"))) "__getattribute__" = some (some (.builtin "BaseException.__getattribute__"))) && (decide (PySem.W.findIn K (.ref (He.ga K (Str.ofString "InvalidOperation"))) "__getattr__" = some none) && (decide (PySem.W.subIn K (.ref (He.ga K (Str.ofString "InvalidOperation"))) (.type "BaseException") = some true) && (decide (PySem.W.hasDictIn K (He.ga K (Str.ofString "InvalidOperation")) = true) && (decide (PySem.W.findIn K (.ref (He.ga K (Str.ofString "InvalidOperation"))) "__class__" = some (some (.builtin "object.__class__"))) && (decide (PySem.W.specialIn K (.builtin "object.__class__") "__get__" = some (some (.builtin "getset_descriptor.__get__"))) && (decide (PySem.W.takesIn K (.builtin "object.__class__") = some true) && (decide (PySem.W.mroIn K (He.ga K (Str.ofString "InvalidOperation")) (.type "object") = some true) && (decide (PySem.W.kitOne K (.ref (He.ga K (Str.ofString "InvalidOperation"))) (.ref (He.ga K (Str.ofString "InvalidTick"))) = some false) && (decide (PySem.W.kitOne K (.ref (He.ga K (Str.ofString "InvalidOperation"))) (.ref (He.ga K (Str.ofString "InvalidNumber"))) = some false) && (decide (PySem.W.kitOne K (.ref (He.ga K (Str.ofString "InvalidOperation"))) (.ref (He.ga K (Str.ofString "TooLong"))) = some false) && (decide (PySem.W.kitOne K (.ref (He.ga K (Str.ofString "InvalidOperation"))) (.ref (He.ga K (Str.ofString "DifferentShelves"))) = some false) && (decide (PySem.W.kitOne K (.ref (He.ga K (Str.ofString "InvalidOperation"))) (.ref (He.ga K (Str.ofString "Contradiction"))) = some false) && (decide (PySem.W.kitOne K (.ref (He.ga K (Str.ofString "InvalidOperation"))) (.ref (He.ga K (Str.ofString "CellFull"))) = some false) && (decide (PySem.W.kitOne K (.ref (He.ga K (Str.ofString "InvalidOperation"))) (.ref (He.ga K (Str.ofString "CellEmpty"))) = some false) && (decide (PySem.W.kitOne K (.ref (He.ga K (Str.ofString "InvalidOperation"))) (.ref (He.ga K (Str.ofString "InvalidName"))) = some false) && (decide (PySem.W.kitOne K (.ref (He.ga K (Str.ofString "InvalidOperation"))) (.ref (He.ga K (Str.ofString "UnknownName"))) = some false) && (decide (PySem.W.kitOne K (.ref (He.ga K (Str.ofString "InvalidOperation"))) (.ref (He.ga K (Str.ofString "SyntaxFault"))) = some false) && (decide (PySem.W.kitOne K (.ref (He.ga K (Str.ofString "InvalidOperation"))) (.ref (He.ga K (Str.ofString "CheckFault"))) = some false) && (decide (PySem.W.kitOne K (.ref (He.ga K (Str.ofString "InvalidOperation"))) (.ref (He.ga K (Str.ofString "InvalidCode"))) = some false) && (decide (PySem.W.kitOne K (.ref (He.ga K (Str.ofString "InvalidOperation"))) (.ref (He.ga K (Str.ofString "InvalidOperation"))) = some true) && (decide (PySem.W.kitOne K (.ref (He.ga K (Str.ofString "InvalidOperation"))) (.type "ValueError") = some true)))))))))))))))))))))))))))))))))))))))))
theorem exb_InvalidOperation_ok {K : PySem.W.Frag} (h : exb_InvalidOperation K = true) : (SbH.oexB K (He.ga K (Str.ofString "InvalidOperation")) = true) ∧ (PySem.W.findIn K (.ref (He.ga K (Str.ofString "InvalidOperation"))) "__setattr__" = some (some (.builtin "object.__setattr__"))) ∧ (PySem.W.subIn K (.ref (He.ga K (Str.ofString "InvalidOperation"))) (.type "BaseException") = some true) ∧ (PySem.W.typeIn K (.ref (He.ga K (Str.ofString "InvalidOperation"))) = some (.type "type")) ∧ (PySem.W.keepIn K (.ref (He.ga K (Str.ofString "InvalidOperation"))) = true) ∧ (PySem.W.findIn K (.ref (He.ga K (Str.ofString "InvalidOperation"))) "__init__" = some (some (.ref (He.ma K (He.ga K (Str.ofString "InvalidOperation")) (Str.ofString "__init__"))))) ∧ (PySem.W.typeIn K (.ref (He.ma K (He.ga K (Str.ofString "InvalidOperation")) (Str.ofString "__init__"))) = some (.type "function")) ∧ (PySem.W.findIn K (.ref (He.ga K (Str.ofString "InvalidOperation"))) "place" = some none) ∧ (PySem.W.findIn K (.ref (He.ga K (Str.ofString "InvalidOperation"))) "__getattribute__" = some (some (.builtin "BaseException.__getattribute__"))) ∧ (PySem.W.findIn K (.ref (He.ga K (Str.ofString "InvalidOperation"))) "__getattr__" = some none) ∧ (PySem.W.subIn K (.ref (He.ga K (Str.ofString "InvalidOperation"))) (.type "BaseException") = some true) ∧ (PySem.W.hasDictIn K (He.ga K (Str.ofString "InvalidOperation")) = true) ∧ (PySem.W.readsIn K (He.ga K (Str.ofString "BotError")) (.type "type") = true) ∧ (PySem.W.specialIn K (.ref (He.ga K (Str.ofString "BotError"))) "__getattribute__" = some (some (.builtin "type.__getattribute__"))) ∧ (SbH.cinB K (He.ga K (Str.ofString "BotError")) = true) ∧ (PySem.W.keepIn K (.ref (He.ga K (Str.ofString "InvalidOperation"))) = true) ∧ (PySem.W.subIn K (.ref (He.ga K (Str.ofString "InvalidOperation"))) (.type "BaseException") = some true) ∧ (PySem.W.typeIn K (.ref (He.ga K (Str.ofString "InvalidOperation"))) = some (.type "type")) ∧ (PySem.W.exmOne K (.ref (He.ga K (Str.ofString "InvalidOperation"))) (.ref (He.ga K (Str.ofString "BotError"))) = some true) ∧ (PySem.W.findIn K (.ref (He.ga K (Str.ofString "InvalidOperation"))) "__getattribute__" = some (some (.builtin "BaseException.__getattribute__"))) ∧ (PySem.W.findIn K (.ref (He.ga K (Str.ofString "InvalidOperation"))) "__getattr__" = some none) ∧ (PySem.W.subIn K (.ref (He.ga K (Str.ofString "InvalidOperation"))) (.type "BaseException") = some true) ∧ (PySem.W.hasDictIn K (He.ga K (Str.ofString "InvalidOperation")) = true) ∧ (PySem.W.findIn K (.ref (He.ga K (Str.ofString "InvalidOperation"))) "__class__" = some (some (.builtin "object.__class__"))) ∧ (PySem.W.specialIn K (.builtin "object.__class__") "__get__" = some (some (.builtin "getset_descriptor.__get__"))) ∧ (PySem.W.takesIn K (.builtin "object.__class__") = some true) ∧ (PySem.W.mroIn K (He.ga K (Str.ofString "InvalidOperation")) (.type "object") = some true) ∧ (PySem.W.kitOne K (.ref (He.ga K (Str.ofString "InvalidOperation"))) (.ref (He.ga K (Str.ofString "InvalidTick"))) = some false) ∧ (PySem.W.kitOne K (.ref (He.ga K (Str.ofString "InvalidOperation"))) (.ref (He.ga K (Str.ofString "InvalidNumber"))) = some false) ∧ (PySem.W.kitOne K (.ref (He.ga K (Str.ofString "InvalidOperation"))) (.ref (He.ga K (Str.ofString "TooLong"))) = some false) ∧ (PySem.W.kitOne K (.ref (He.ga K (Str.ofString "InvalidOperation"))) (.ref (He.ga K (Str.ofString "DifferentShelves"))) = some false) ∧ (PySem.W.kitOne K (.ref (He.ga K (Str.ofString "InvalidOperation"))) (.ref (He.ga K (Str.ofString "Contradiction"))) = some false) ∧ (PySem.W.kitOne K (.ref (He.ga K (Str.ofString "InvalidOperation"))) (.ref (He.ga K (Str.ofString "CellFull"))) = some false) ∧ (PySem.W.kitOne K (.ref (He.ga K (Str.ofString "InvalidOperation"))) (.ref (He.ga K (Str.ofString "CellEmpty"))) = some false) ∧ (PySem.W.kitOne K (.ref (He.ga K (Str.ofString "InvalidOperation"))) (.ref (He.ga K (Str.ofString "InvalidName"))) = some false) ∧ (PySem.W.kitOne K (.ref (He.ga K (Str.ofString "InvalidOperation"))) (.ref (He.ga K (Str.ofString "UnknownName"))) = some false) ∧ (PySem.W.kitOne K (.ref (He.ga K (Str.ofString "InvalidOperation"))) (.ref (He.ga K (Str.ofString "SyntaxFault"))) = some false) ∧ (PySem.W.kitOne K (.ref (He.ga K (Str.ofString "InvalidOperation"))) (.ref (He.ga K (Str.ofString "CheckFault"))) = some false) ∧ (PySem.W.kitOne K (.ref (He.ga K (Str.ofString "InvalidOperation"))) (.ref (He.ga K (Str.ofString "InvalidCode"))) = some false) ∧ (PySem.W.kitOne K (.ref (He.ga K (Str.ofString "InvalidOperation"))) (.ref (He.ga K (Str.ofString "InvalidOperation"))) = some true) ∧ (PySem.W.kitOne K (.ref (He.ga K (Str.ofString "InvalidOperation"))) (.type "ValueError") = some true) := by
  unfold exb_InvalidOperation at h
  simp only [Bool.and_eq_true, decide_eq_true_eq] at h
  exact h
def exb_SyntaxFault (K : PySem.W.Frag) : Bool := decide (SbH.oexB K (He.ga K (Str.ofString "SyntaxFault")) = true) && (decide (PySem.W.findIn K (.ref (He.ga K (Str.ofString "SyntaxFault"))) "__setattr__" = some (some (.builtin "object.__setattr__"))) && (decide (PySem.W.subIn K (.ref (He.ga K (Str.ofString "SyntaxFault"))) (.type "BaseException") = some true) && (decide (PySem.W.typeIn K (.ref (He.ga K (Str.ofString "SyntaxFault"))) = some (.type "type")) && (decide (PySem.W.keepIn K (.ref (He.ga K (Str.ofString "SyntaxFault"))) = true) && (decide (PySem.W.findIn K (.ref (He.ga K (Str.ofString "SyntaxFault"))) "__init__" = some (some (.ref (He.ma K (He.ga K (Str.ofString "SyntaxFault")) (Str.ofString "__init__"))))) && (decide (PySem.W.typeIn K (.ref (He.ma K (He.ga K (Str.ofString "SyntaxFault")) (Str.ofString "__init__"))) = some (.type "function")) && (decide (PySem.W.findIn K (.ref (He.ga K (Str.ofString "SyntaxFault"))) "line" = some none) && (decide (PySem.W.findIn K (.ref (He.ga K (Str.ofString "SyntaxFault"))) "column" = some none) && (decide (PySem.W.findIn K (.ref (He.ga K (Str.ofString "SyntaxFault"))) "__getattribute__" = some (some (.builtin "BaseException.__getattribute__"))) && (decide (PySem.W.findIn K (.ref (He.ga K (Str.ofString "SyntaxFault"))) "__getattr__" = some none) && (decide (PySem.W.subIn K (.ref (He.ga K (Str.ofString "SyntaxFault"))) (.type "BaseException") = some true) && (decide (PySem.W.hasDictIn K (He.ga K (Str.ofString "SyntaxFault")) = true) && (decide (PySem.W.readsIn K (He.ga K (Str.ofString "BotError")) (.type "type") = true) && (decide (PySem.W.specialIn K (.ref (He.ga K (Str.ofString "BotError"))) "__getattribute__" = some (some (.builtin "type.__getattribute__"))) && (decide (SbH.cinB K (He.ga K (Str.ofString "BotError")) = true) && (decide (PySem.W.keepIn K (.ref (He.ga K (Str.ofString "SyntaxFault"))) = true) && (decide (PySem.W.subIn K (.ref (He.ga K (Str.ofString "SyntaxFault"))) (.type "BaseException") = some true) && (decide (PySem.W.typeIn K (.ref (He.ga K (Str.ofString "SyntaxFault"))) = some (.type "type")) && (decide (PySem.W.exmOne K (.ref (He.ga K (Str.ofString "SyntaxFault"))) (.ref (He.ga K (Str.ofString "BotError"))) = some true) && (decide (PySem.W.findIn K (.ref (He.ga K (Str.ofString "SyntaxFault"))) "__getattribute__" = some (some (.builtin "BaseException.__getattribute__"))) && (decide (PySem.W.findIn K (.ref (He.ga K (Str.ofString "SyntaxFault"))) "__getattr__" = some none) && (decide (PySem.W.subIn K (.ref (He.ga K (Str.ofString "SyntaxFault"))) (.type "BaseException") = some true) && (decide (PySem.W.hasDictIn K (He.ga K (Str.ofString "SyntaxFault")) = true) && (decide (PySem.W.findIn K (.ref (He.ga K (Str.ofString "SyntaxFault"))) "__class__" = some (some (.builtin "object.__class__"))) && (decide (PySem.W.specialIn K (.builtin "object.__class__") "__get__" = some (some (.builtin "getset_descriptor.__get__"))) && (decide (PySem.W.takesIn K (.builtin "object.__class__") = some true) && (decide (PySem.W.mroIn K (He.ga K (Str.ofString "SyntaxFault")) (.type "object") = some true) && (decide (PySem.W.kitOne K (.ref (He.ga K (Str.ofString "SyntaxFault"))) (.ref (He.ga K (Str.ofString "InvalidTick"))) = some false) && (decide (PySem.W.kitOne K (.ref (He.ga K (Str.ofString "SyntaxFault"))) (.ref (He.ga K (Str.ofString "InvalidNumber"))) = some false) && (decide (PySem.W.kitOne K (.ref (He.ga K (Str.ofString "SyntaxFault"))) (.ref (He.ga K (Str.ofString "TooLong"))) = some false) && (decide (PySem.W.kitOne K (.ref (He.ga K (Str.ofString "SyntaxFault"))) (.ref (He.ga K (Str.ofString "DifferentShelves"))) = some false) && (decide (PySem.W.kitOne K (.ref (He.ga K (Str.ofString "SyntaxFault"))) (.ref (He.ga K (Str.ofString "Contradiction"))) = some false) && (decide (PySem.W.kitOne K (.ref (He.ga K (Str.ofString "SyntaxFault"))) (.ref (He.ga K (Str.ofString "CellFull"))) = some false) && (decide (PySem.W.kitOne K (.ref (He.ga K (Str.ofString "SyntaxFault"))) (.ref (He.ga K (Str.ofString "CellEmpty"))) = some false) && (decide (PySem.W.kitOne K (.ref (He.ga K (Str.ofString "SyntaxFault"))) (.ref (He.ga K (Str.ofString "InvalidName"))) = some false) && (decide (PySem.W.kitOne K (.ref (He.ga K (Str.ofString "SyntaxFault"))) (.ref (He.ga K (Str.ofString "UnknownName"))) = some false) && (decide (PySem.W.kitOne K (.ref (He.ga K (Str.ofString "SyntaxFault"))) (.ref (He.ga K (Str.ofString "SyntaxFault"))) = some true) && (decide (PySem.W.kitOne K (.ref (He.ga K (Str.ofString "SyntaxFault"))) (.ref (He.ga K (Str.ofString "CheckFault"))) = some false) && (decide (PySem.W.kitOne K (.ref (He.ga K (Str.ofString "SyntaxFault"))) (.ref (He.ga K (Str.ofString "InvalidCode"))) = some false) && (decide (PySem.W.kitOne K (.ref (He.ga K (Str.ofString "SyntaxFault"))) (.ref (He.ga K (Str.ofString "InvalidOperation"))) = some false) && (decide (PySem.W.kitOne K (.ref (He.ga K (Str.ofString "SyntaxFault"))) (.type "ValueError") = some true))))))))))))))))))))))))))))))))))))))))))
theorem exb_SyntaxFault_ok {K : PySem.W.Frag} (h : exb_SyntaxFault K = true) : (SbH.oexB K (He.ga K (Str.ofString "SyntaxFault")) = true) ∧ (PySem.W.findIn K (.ref (He.ga K (Str.ofString "SyntaxFault"))) "__setattr__" = some (some (.builtin "object.__setattr__"))) ∧ (PySem.W.subIn K (.ref (He.ga K (Str.ofString "SyntaxFault"))) (.type "BaseException") = some true) ∧ (PySem.W.typeIn K (.ref (He.ga K (Str.ofString "SyntaxFault"))) = some (.type "type")) ∧ (PySem.W.keepIn K (.ref (He.ga K (Str.ofString "SyntaxFault"))) = true) ∧ (PySem.W.findIn K (.ref (He.ga K (Str.ofString "SyntaxFault"))) "__init__" = some (some (.ref (He.ma K (He.ga K (Str.ofString "SyntaxFault")) (Str.ofString "__init__"))))) ∧ (PySem.W.typeIn K (.ref (He.ma K (He.ga K (Str.ofString "SyntaxFault")) (Str.ofString "__init__"))) = some (.type "function")) ∧ (PySem.W.findIn K (.ref (He.ga K (Str.ofString "SyntaxFault"))) "line" = some none) ∧ (PySem.W.findIn K (.ref (He.ga K (Str.ofString "SyntaxFault"))) "column" = some none) ∧ (PySem.W.findIn K (.ref (He.ga K (Str.ofString "SyntaxFault"))) "__getattribute__" = some (some (.builtin "BaseException.__getattribute__"))) ∧ (PySem.W.findIn K (.ref (He.ga K (Str.ofString "SyntaxFault"))) "__getattr__" = some none) ∧ (PySem.W.subIn K (.ref (He.ga K (Str.ofString "SyntaxFault"))) (.type "BaseException") = some true) ∧ (PySem.W.hasDictIn K (He.ga K (Str.ofString "SyntaxFault")) = true) ∧ (PySem.W.readsIn K (He.ga K (Str.ofString "BotError")) (.type "type") = true) ∧ (PySem.W.specialIn K (.ref (He.ga K (Str.ofString "BotError"))) "__getattribute__" = some (some (.builtin "type.__getattribute__"))) ∧ (SbH.cinB K (He.ga K (Str.ofString "BotError")) = true) ∧ (PySem.W.keepIn K (.ref (He.ga K (Str.ofString "SyntaxFault"))) = true) ∧ (PySem.W.subIn K (.ref (He.ga K (Str.ofString "SyntaxFault"))) (.type "BaseException") = some true) ∧ (PySem.W.typeIn K (.ref (He.ga K (Str.ofString "SyntaxFault"))) = some (.type "type")) ∧ (PySem.W.exmOne K (.ref (He.ga K (Str.ofString "SyntaxFault"))) (.ref (He.ga K (Str.ofString "BotError"))) = some true) ∧ (PySem.W.findIn K (.ref (He.ga K (Str.ofString "SyntaxFault"))) "__getattribute__" = some (some (.builtin "BaseException.__getattribute__"))) ∧ (PySem.W.findIn K (.ref (He.ga K (Str.ofString "SyntaxFault"))) "__getattr__" = some none) ∧ (PySem.W.subIn K (.ref (He.ga K (Str.ofString "SyntaxFault"))) (.type "BaseException") = some true) ∧ (PySem.W.hasDictIn K (He.ga K (Str.ofString "SyntaxFault")) = true) ∧ (PySem.W.findIn K (.ref (He.ga K (Str.ofString "SyntaxFault"))) "__class__" = some (some (.builtin "object.__class__"))) ∧ (PySem.W.specialIn K (.builtin "object.__class__") "__get__" = some (some (.builtin "getset_descriptor.__get__"))) ∧ (PySem.W.takesIn K (.builtin "object.__class__") = some true) ∧ (PySem.W.mroIn K (He.ga K (Str.ofString "SyntaxFault")) (.type "object") = some true) ∧ (PySem.W.kitOne K (.ref (He.ga K (Str.ofString "SyntaxFault"))) (.ref (He.ga K (Str.ofString "InvalidTick"))) = some false) ∧ (PySem.W.kitOne K (.ref (He.ga K (Str.ofString "SyntaxFault"))) (.ref (He.ga K (Str.ofString "InvalidNumber"))) = some false) ∧ (PySem.W.kitOne K (.ref (He.ga K (Str.ofString "SyntaxFault"))) (.ref (He.ga K (Str.ofString "TooLong"))) = some false) ∧ (PySem.W.kitOne K (.ref (He.ga K (Str.ofString "SyntaxFault"))) (.ref (He.ga K (Str.ofString "DifferentShelves"))) = some false) ∧ (PySem.W.kitOne K (.ref (He.ga K (Str.ofString "SyntaxFault"))) (.ref (He.ga K (Str.ofString "Contradiction"))) = some false) ∧ (PySem.W.kitOne K (.ref (He.ga K (Str.ofString "SyntaxFault"))) (.ref (He.ga K (Str.ofString "CellFull"))) = some false) ∧ (PySem.W.kitOne K (.ref (He.ga K (Str.ofString "SyntaxFault"))) (.ref (He.ga K (Str.ofString "CellEmpty"))) = some false) ∧ (PySem.W.kitOne K (.ref (He.ga K (Str.ofString "SyntaxFault"))) (.ref (He.ga K (Str.ofString "InvalidName"))) = some false) ∧ (PySem.W.kitOne K (.ref (He.ga K (Str.ofString "SyntaxFault"))) (.ref (He.ga K (Str.ofString "UnknownName"))) = some false) ∧ (PySem.W.kitOne K (.ref (He.ga K (Str.ofString "SyntaxFault"))) (.ref (He.ga K (Str.ofString "SyntaxFault"))) = some true) ∧ (PySem.W.kitOne K (.ref (He.ga K (Str.ofString "SyntaxFault"))) (.ref (He.ga K (Str.ofString "CheckFault"))) = some false) ∧ (PySem.W.kitOne K (.ref (He.ga K (Str.ofString "SyntaxFault"))) (.ref (He.ga K (Str.ofString "InvalidCode"))) = some false) ∧ (PySem.W.kitOne K (.ref (He.ga K (Str.ofString "SyntaxFault"))) (.ref (He.ga K (Str.ofString "InvalidOperation"))) = some false) ∧ (PySem.W.kitOne K (.ref (He.ga K (Str.ofString "SyntaxFault"))) (.type "ValueError") = some true) := by
  unfold exb_SyntaxFault at h
  simp only [Bool.and_eq_true, decide_eq_true_eq] at h
  exact h
def hFaA0 : List He.Fa := [.glo (Str.ofString "_law_random"), .meth (Str.ofString "Parser") (Str.ofString "peek"), .meth (Str.ofString "Parser") (Str.ofString "fail"), .meth (Str.ofString "Parser") (Str.ofString "take_word"), .meth (Str.ofString "Parser") (Str.ofString "take"), .glo (Str.ofString "is_int_in"), .meth (Str.ofString "Stage") (Str.ofString "check_cell"), .meth (Str.ofString "Stage") (Str.ofString "record"), .glo (Str.ofString "replaced"), .meth (Str.ofString "Stage") (Str.ofString "put_boxes"), .meth (Str.ofString "Stage") (Str.ofString "take"), .meth (Str.ofString "Parser") (Str.ofString "found"), .meth (Str.ofString "Parser") (Str.ofString "parse_shelf"), .meth (Str.ofString "Parser") (Str.ofString "parse_step"), .meth (Str.ofString "Parser") (Str.ofString "parse_robot"), .meth (Str.ofString "Parser") (Str.ofString "parse_plan"), .glo (Str.ofString "run_end"), .glo (Str.ofString "read_token"), .glo (Str.ofString "tokenize"), .glo (Str.ofString "load"), .glo (Str.ofString "first_state"), .glo (Str.ofString "_law_below"), .glo (Str.ofString "_law_error_of"), .glo (Str.ofString "_law_all_raise")]
def hFaA1 : List He.Fa := [.glo (Str.ofString "is_operation"), .meth (Str.ofString "Stage") (Str.ofString "redo"), .glo (Str.ofString "act"), .glo (Str.ofString "next_tick"), .meth (Str.ofString "Stage") (Str.ofString "step"), .meth (Str.ofString "Stage") (Str.ofString "add"), .meth (Str.ofString "Stage") (Str.ofString "jump"), .meth (Str.ofString "Stage") (Str.ofString "undo"), .meth (Str.ofString "Stage") (Str.ofString "execute"), .meth (Str.ofString "Stage") (Str.ofString "batch"), .glo (Str.ofString "law"), .glo (Str.ofString "Token"), .cls (Str.ofString "Token"), .mkr (Str.ofString "Token"), .noat (Str.ofString "Token") (Str.ofString "kind"), .noat (Str.ofString "Token") (Str.ofString "text"), .noat (Str.ofString "Token") (Str.ofString "line"), .noat (Str.ofString "Token") (Str.ofString "column"), .glo (Str.ofString "Robot"), .cls (Str.ofString "Robot"), .mkr (Str.ofString "Robot"), .noat (Str.ofString "Robot") (Str.ofString "start"), .noat (Str.ofString "Robot") (Str.ofString "steps"), .noat (Str.ofString "Robot") (Str.ofString "names")]
def hFaA2 : List He.Fa := [.glo (Str.ofString "Plan"), .cls (Str.ofString "Plan"), .mkr (Str.ofString "Plan"), .noat (Str.ofString "Plan") (Str.ofString "shelf"), .noat (Str.ofString "Plan") (Str.ofString "robots"), .glo (Str.ofString "Parser"), .cls (Str.ofString "Parser"), .mkr (Str.ofString "Parser"), .noat (Str.ofString "Parser") (Str.ofString "tokens"), .noat (Str.ofString "Parser") (Str.ofString "at"), .noat (Str.ofString "Parser") (Str.ofString "faults"), .glo (Str.ofString "State"), .cls (Str.ofString "State"), .mkr (Str.ofString "State"), .noat (Str.ofString "State") (Str.ofString "cells"), .noat (Str.ofString "State") (Str.ofString "nexts"), .noat (Str.ofString "State") (Str.ofString "holds"), .noat (Str.ofString "State") (Str.ofString "shelf"), .glo (Str.ofString "Tick"), .cls (Str.ofString "Tick"), .mkr (Str.ofString "Tick"), .noat (Str.ofString "Tick") (Str.ofString "words")]
def hFaA : List He.Fa := hFaA0 ++ (hFaA1 ++ (hFaA2))
def hFaB0 : List He.Fa := [.noat (Str.ofString "Tick") (Str.ofString "state"), .glo (Str.ofString "Stage"), .cls (Str.ofString "Stage"), .mkr (Str.ofString "Stage"), .noat (Str.ofString "Stage") (Str.ofString "parsed"), .noat (Str.ofString "Stage") (Str.ofString "now"), .noat (Str.ofString "Stage") (Str.ofString "past"), .noat (Str.ofString "Stage") (Str.ofString "undone"), .noat (Str.ofString "Stage") (Str.ofString "saved"), .glo (Str.ofString "BotError"), .glo (Str.ofString "InvalidTick"), .glo (Str.ofString "InvalidNumber"), .glo (Str.ofString "TooLong"), .glo (Str.ofString "DifferentShelves"), .glo (Str.ofString "Contradiction"), .glo (Str.ofString "CellFull"), .glo (Str.ofString "CellEmpty"), .glo (Str.ofString "InvalidName"), .glo (Str.ofString "UnknownName"), .glo (Str.ofString "SyntaxFault"), .glo (Str.ofString "CheckFault"), .glo (Str.ofString "InvalidCode"), .glo (Str.ofString "InvalidOperation"), .free (Str.ofString "len")]
def hFaB1 : List He.Fa := [.free (Str.ofString "abs"), .free (Str.ofString "range"), .free (Str.ofString "str"), .free (Str.ofString "int"), .free (Str.ofString "tuple"), .free (Str.ofString "list"), .free (Str.ofString "sum"), .free (Str.ofString "isinstance"), .free (Str.ofString "bool"), .free (Str.ofString "enumerate"), .free (Str.ofString "zip"), .free (Str.ofString "min"), .free (Str.ofString "all"), .free (Str.ofString "divmod"), .free (Str.ofString "max"), .free (Str.ofString "dict"), .free (Str.ofString "sorted"), .free (Str.ofString "ValueError"), .glo (Str.ofString "MOVES"), .glo (Str.ofString "JUMPS"), .glo (Str.ofString "KEYWORDS"), .str (Str.ofString "LETTERS") (Str.ofString "abcdefghijklmnopqrstuvwxyz"), .str (Str.ofString "DIGITS") (Str.ofString "0123456789"), .str (Str.ofString "SPACES") (Str.ofString " \n")]
def hFaB2 : List He.Fa := [.str (Str.ofString "SIGNS") (Str.ofString ";:{}"), .int (Str.ofString "MAX_LETTERS_lexer") 8, .int (Str.ofString "MAX_DIGITS") 2, .str (Str.ofString "NAME") (Str.ofString "name"), .str (Str.ofString "NUMBER") (Str.ofString "number"), .str (Str.ofString "KEYWORD") (Str.ofString "keyword"), .str (Str.ofString "SIGN") (Str.ofString "sign"), .str (Str.ofString "END") (Str.ofString "end"), .int (Str.ofString "MIN_CELLS") 3, .int (Str.ofString "MAX_CELLS") 12, .int (Str.ofString "MAX_BOXES") 3, .int (Str.ofString "MAX_STEPS") 20, .str (Str.ofString "BLOCKED") (Str.ofString "blocked"), .int (Str.ofString "MAX_STEP") 500, .int (Str.ofString "MAX_LETTERS_stage") 8, .str (Str.ofString "STEP") (Str.ofString "step"), .str (Str.ofString "ADD") (Str.ofString "add"), .str (Str.ofString "TAKE") (Str.ofString "take"), .str (Str.ofString "JUMP") (Str.ofString "jump"), .str (Str.ofString "UNDO") (Str.ofString "undo"), .str (Str.ofString "REDO") (Str.ofString "redo"), .glo (Str.ofString "LENGTHS")]
def hFaB : List He.Fa := hFaB0 ++ (hFaB1 ++ (hFaB2))
def hFa : List He.Fa := hFaA ++ hFaB
def hFn0 : List He5.DefA := [⟨fun K => (He.ga K (Str.ofString "_law_random")), (Str.ofString "_law_random"), (Str.ofString "_law_random"), defArgs s_l_random, defBody s_l_random, defScope s_l_random, [], []⟩, ⟨fun K => (He.ma K (He.ga K (Str.ofString "Parser")) (Str.ofString "peek")), (Str.ofString "peek"), (Str.ofString "Parser.peek"), defArgs s_Parser_peek, defBody s_Parser_peek, defScope s_Parser_peek, [], []⟩, ⟨fun K => (He.ma K (He.ga K (Str.ofString "Token")) (Str.ofString "__init__")), (Str.ofString "__init__"), (Str.ofString "Token.__init__"), defArgs s_Token_init, defBody s_Token_init, defScope s_Token_init, [], []⟩, ⟨fun K => (He.ma K (He.ga K (Str.ofString "Robot")) (Str.ofString "__init__")), (Str.ofString "__init__"), (Str.ofString "Robot.__init__"), defArgs s_Robot_init, defBody s_Robot_init, defScope s_Robot_init, [], []⟩, ⟨fun K => (He.ma K (He.ga K (Str.ofString "Plan")) (Str.ofString "__init__")), (Str.ofString "__init__"), (Str.ofString "Plan.__init__"), defArgs s_Plan_init, defBody s_Plan_init, defScope s_Plan_init, [], []⟩, ⟨fun K => (He.ma K (He.ga K (Str.ofString "Parser")) (Str.ofString "__init__")), (Str.ofString "__init__"), (Str.ofString "Parser.__init__"), defArgs s_Parser_init, defBody s_Parser_init, defScope s_Parser_init, [], []⟩, ⟨fun K => (He.ma K (He.ga K (Str.ofString "State")) (Str.ofString "__init__")), (Str.ofString "__init__"), (Str.ofString "State.__init__"), defArgs s_State_init, defBody s_State_init, defScope s_State_init, [], []⟩, ⟨fun K => (He.ma K (He.ga K (Str.ofString "Tick")) (Str.ofString "__init__")), (Str.ofString "__init__"), (Str.ofString "Tick.__init__"), defArgs s_Tick_init, defBody s_Tick_init, defScope s_Tick_init, [], []⟩, ⟨fun K => (He.ma K (He.ga K (Str.ofString "InvalidOperation")) (Str.ofString "__init__")), (Str.ofString "__init__"), (Str.ofString "InvalidOperation.__init__"), defArgs s_InvalidOperation_init, defBody s_InvalidOperation_init, defScope s_InvalidOperation_init, [], []⟩, ⟨fun K => (He.ma K (He.ga K (Str.ofString "SyntaxFault")) (Str.ofString "__init__")), (Str.ofString "__init__"), (Str.ofString "SyntaxFault.__init__"), defArgs s_SyntaxFault_init, defBody s_SyntaxFault_init, defScope s_SyntaxFault_init, [], []⟩, ⟨fun K => (He.ma K (He.ga K (Str.ofString "Parser")) (Str.ofString "fail")), (Str.ofString "fail"), (Str.ofString "Parser.fail"), defArgs s_Parser_fail, defBody s_Parser_fail, defScope s_Parser_fail, [], []⟩, ⟨fun K => (He.ma K (He.ga K (Str.ofString "Parser")) (Str.ofString "take_word")), (Str.ofString "take_word"), (Str.ofString "Parser.take_word"), defArgs s_Parser_take_word, defBody s_Parser_take_word, defScope s_Parser_take_word, [], []⟩]
def hFn1 : List He5.DefA := [⟨fun K => (He.ma K (He.ga K (Str.ofString "Parser")) (Str.ofString "take")), (Str.ofString "take"), (Str.ofString "Parser.take"), defArgs s_Parser_take, defBody s_Parser_take, defScope s_Parser_take, [], []⟩, ⟨fun K => (He.ga K (Str.ofString "is_int_in")), (Str.ofString "is_int_in"), (Str.ofString "is_int_in"), defArgs s_is_int_in, defBody s_is_int_in, defScope s_is_int_in, [], []⟩, ⟨fun K => (He.ma K (He.ga K (Str.ofString "Stage")) (Str.ofString "check_cell")), (Str.ofString "check_cell"), (Str.ofString "Stage.check_cell"), defArgs s_Stage_check_cell, defBody s_Stage_check_cell, defScope s_Stage_check_cell, [], []⟩, ⟨fun K => (He.ma K (He.ga K (Str.ofString "Stage")) (Str.ofString "record")), (Str.ofString "record"), (Str.ofString "Stage.record"), defArgs s_Stage_record, defBody s_Stage_record, defScope s_Stage_record, [], []⟩, ⟨fun K => (He.ga K (Str.ofString "replaced")), (Str.ofString "replaced"), (Str.ofString "replaced"), defArgs s_replaced, defBody s_replaced, defScope s_replaced, [], []⟩, ⟨fun K => (He.ma K (He.ga K (Str.ofString "Stage")) (Str.ofString "put_boxes")), (Str.ofString "put_boxes"), (Str.ofString "Stage.put_boxes"), defArgs s_Stage_put_boxes, defBody s_Stage_put_boxes, defScope s_Stage_put_boxes, [], []⟩, ⟨fun K => (He.ma K (He.ga K (Str.ofString "Stage")) (Str.ofString "take")), (Str.ofString "take"), (Str.ofString "Stage.take"), defArgs s_Stage_take, defBody s_Stage_take, defScope s_Stage_take, [], []⟩, ⟨fun K => (He.ma K (He.ga K (Str.ofString "Parser")) (Str.ofString "found")), (Str.ofString "found"), (Str.ofString "Parser.found"), defArgs s_Parser_found, defBody s_Parser_found, defScope s_Parser_found, [], []⟩, ⟨fun K => (He.ma K (He.ga K (Str.ofString "Parser")) (Str.ofString "parse_shelf")), (Str.ofString "parse_shelf"), (Str.ofString "Parser.parse_shelf"), defArgs s_Parser_parse_shelf, defBody s_Parser_parse_shelf, defScope s_Parser_parse_shelf, [], []⟩, ⟨fun K => (He.ma K (He.ga K (Str.ofString "Parser")) (Str.ofString "parse_step")), (Str.ofString "parse_step"), (Str.ofString "Parser.parse_step"), defArgs s_Parser_parse_step, defBody s_Parser_parse_step, defScope s_Parser_parse_step, [], []⟩, ⟨fun K => (He.ma K (He.ga K (Str.ofString "Parser")) (Str.ofString "parse_robot")), (Str.ofString "parse_robot"), (Str.ofString "Parser.parse_robot"), defArgs s_Parser_parse_robot, defBody s_Parser_parse_robot, defScope s_Parser_parse_robot, [], []⟩, ⟨fun K => (He.ma K (He.ga K (Str.ofString "Parser")) (Str.ofString "parse_plan")), (Str.ofString "parse_plan"), (Str.ofString "Parser.parse_plan"), defArgs s_Parser_parse_plan, defBody s_Parser_parse_plan, defScope s_Parser_parse_plan, [], []⟩]
def hFn2 : List He5.DefA := [⟨fun K => (He.ga K (Str.ofString "run_end")), (Str.ofString "run_end"), (Str.ofString "run_end"), defArgs s_run_end, defBody s_run_end, defScope s_run_end, [], []⟩, ⟨fun K => (He.ga K (Str.ofString "read_token")), (Str.ofString "read_token"), (Str.ofString "read_token"), defArgs s_read_token, defBody s_read_token, defScope s_read_token, [], []⟩, ⟨fun K => (He.ga K (Str.ofString "tokenize")), (Str.ofString "tokenize"), (Str.ofString "tokenize"), defArgs s_tokenize, defBody s_tokenize, defScope s_tokenize, [], []⟩, ⟨fun K => (He.ga K (Str.ofString "load")), (Str.ofString "load"), (Str.ofString "load"), defArgs s_load, defBody s_load, defScope s_load, [], []⟩, ⟨fun K => (He.ga K (Str.ofString "first_state")), (Str.ofString "first_state"), (Str.ofString "first_state"), defArgs s_first_state, defBody s_first_state, defScope s_first_state, [], []⟩, ⟨fun K => (He.ma K (He.ga K (Str.ofString "Stage")) (Str.ofString "__init__")), (Str.ofString "__init__"), (Str.ofString "Stage.__init__"), defArgs s_Stage_init, defBody s_Stage_init, defScope s_Stage_init, [], []⟩, ⟨fun K => (He.ga K (Str.ofString "_law_below")), (Str.ofString "_law_below"), (Str.ofString "_law_below"), defArgs s_l_below, defBody s_l_below, defScope s_l_below, [], []⟩, ⟨fun K => (He.ga K (Str.ofString "_law_error_of")), (Str.ofString "_law_error_of"), (Str.ofString "_law_error_of"), defArgs s_l_error_of, defBody s_l_error_of, defScope s_l_error_of, [], []⟩, ⟨fun K => (He.ga K (Str.ofString "_law_all_raise")), (Str.ofString "_law_all_raise"), (Str.ofString "_law_all_raise"), defArgs s_l_all_raise, defBody s_l_all_raise, defScope s_l_all_raise, [], []⟩, ⟨fun K => (SbH.propG K (Str.ofString "Stage") (Str.ofString "operations")), (Str.ofString "operations"), (Str.ofString "Stage.operations"), defArgs s_Stage_operations, defBody s_Stage_operations, defScope s_Stage_operations, [], []⟩, ⟨fun K => (He.ga K (Str.ofString "is_operation")), (Str.ofString "is_operation"), (Str.ofString "is_operation"), defArgs s_is_operation, defBody s_is_operation, defScope s_is_operation, [], []⟩, ⟨fun K => (He.ma K (He.ga K (Str.ofString "Stage")) (Str.ofString "redo")), (Str.ofString "redo"), (Str.ofString "Stage.redo"), defArgs s_Stage_redo, defBody s_Stage_redo, defScope s_Stage_redo, [], []⟩]
def hFn3 : List He5.DefA := [⟨fun K => (He.ga K (Str.ofString "act")), (Str.ofString "act"), (Str.ofString "act"), defArgs s_act, defBody s_act, defScope s_act, [], []⟩, ⟨fun K => (He.ga K (Str.ofString "next_tick")), (Str.ofString "next_tick"), (Str.ofString "next_tick"), defArgs s_next_tick, defBody s_next_tick, defScope s_next_tick, [], []⟩, ⟨fun K => (He.ma K (He.ga K (Str.ofString "Stage")) (Str.ofString "step")), (Str.ofString "step"), (Str.ofString "Stage.step"), defArgs s_Stage_step, defBody s_Stage_step, defScope s_Stage_step, [], []⟩, ⟨fun K => (He.ma K (He.ga K (Str.ofString "Stage")) (Str.ofString "add")), (Str.ofString "add"), (Str.ofString "Stage.add"), defArgs s_Stage_add, defBody s_Stage_add, defScope s_Stage_add, [], []⟩, ⟨fun K => (He.ma K (He.ga K (Str.ofString "Stage")) (Str.ofString "jump")), (Str.ofString "jump"), (Str.ofString "Stage.jump"), defArgs s_Stage_jump, defBody s_Stage_jump, defScope s_Stage_jump, [], []⟩, ⟨fun K => (He.ma K (He.ga K (Str.ofString "Stage")) (Str.ofString "undo")), (Str.ofString "undo"), (Str.ofString "Stage.undo"), defArgs s_Stage_undo, defBody s_Stage_undo, defScope s_Stage_undo, [], []⟩, ⟨fun K => (He.ma K (He.ga K (Str.ofString "Stage")) (Str.ofString "execute")), (Str.ofString "execute"), (Str.ofString "Stage.execute"), defArgs s_Stage_execute, defBody s_Stage_execute, defScope s_Stage_execute, [], []⟩, ⟨fun K => (He.ma K (He.ga K (Str.ofString "Stage")) (Str.ofString "batch")), (Str.ofString "batch"), (Str.ofString "Stage.batch"), defArgs s_Stage_batch, defBody s_Stage_batch, defScope s_Stage_batch, [], []⟩, ⟨fun K => (He5.wf K (He.ga K (Str.ofString "Stage")) "classmethod" (Str.ofString "replay")), (Str.ofString "replay"), (Str.ofString "Stage.replay"), defArgs s_Stage_replay, defBody s_Stage_replay, defScope s_Stage_replay, [], []⟩, ⟨fun K => (He.ga K (Str.ofString "law")), (Str.ofString "law"), (Str.ofString "law"), defArgs s_law, defBody s_law, defScope s_law, [], []⟩]
def hFn : List He5.DefA := hFn0 ++ (hFn1 ++ (hFn2 ++ (hFn3)))
def hTs : List He.Tab := [((fun K => He.ga K (Str.ofString "LENGTHS")), [(Str.ofString "step"), (Str.ofString "add"), (Str.ofString "take"), (Str.ofString "jump"), (Str.ofString "undo"), (Str.ofString "redo")])]
def hTf : List He.Defn := [((Str.ofString "law"), none)]
def hEx (K : PySem.W.Frag) : Bool := SbH.propB K (Str.ofString "Stage") (Str.ofString "operations") && (SbH.cmB K (Str.ofString "Stage") (Str.ofString "replay") && (exb_InvalidOperation K && (exb_SyntaxFault K && (decide (PySem.W.findIn K (.ref (He.ga K (Str.ofString "Stage"))) "__class__" = some (some (.builtin "object.__class__"))) && (decide (PySem.W.specialIn K (.builtin "object.__class__") "__get__" = some (some (.builtin "getset_descriptor.__get__"))) && (decide (PySem.W.takesIn K (.builtin "object.__class__") = some true) && (decide (PySem.W.mroIn K (He.ga K (Str.ofString "Stage")) (.type "object") = some true) && (SbH.tupB K (Str.ofString "MOVES") [(Str.ofString "left"), (Str.ofString "right"), (Str.ofString "pick"), (Str.ofString "put"), (Str.ofString "wait")] && (SbH.tupB K (Str.ofString "JUMPS") [(Str.ofString "goto"), (Str.ofString "empty"), (Str.ofString "held")] && (SbH.tupB K (Str.ofString "KEYWORDS") [(Str.ofString "shelf"), (Str.ofString "robot"), (Str.ofString "left"), (Str.ofString "right"), (Str.ofString "pick"), (Str.ofString "put"), (Str.ofString "wait"), (Str.ofString "goto"), (Str.ofString "empty"), (Str.ofString "held")] && (He.valsB K (He.ga K (Str.ofString "LENGTHS")) [((Str.ofString "step"), .int 2), ((Str.ofString "add"), .int 2), ((Str.ofString "take"), .int 2), ((Str.ofString "jump"), .int 3), ((Str.ofString "undo"), .int 1), ((Str.ofString "redo"), .int 1)] && (decide (PySem.W.nsIn K (He.ga K (Str.ofString "LENGTHS")) (Str.ofString "save") = some none)))))))))))))
abbrev hHk : PySem.W.Hook := SbH.hookY 5 hFa hFn hTs hTf hEx
def hOb (s : PySem.W.SharedT) : SbH.AlY := SbH.obsY 5 hFa hFn hTs hTf hEx (HandSHeadRun.getT s)
theorem hOb_eq (s : PySem.W.SharedT) : hOb s = hHk.obs s.abs := SbH.obsY_eq (HandSHeadRun.getT_eq s)
noncomputable abbrev hEnd (w : World) (os : OsState) : Option PySem.W.SharedT := HandSHeadRun.endF (HandSHeadRun.stepQ (HandSHeadRun.denQ HandSHeadRun.tabQ) (PySem.W.OpenLaw.row PySem.Challenge.rw_shelfbots_k18_malformed_operations).prog w) 40000 (PySem.W.OpenLaw.row PySem.Challenge.rw_shelfbots_k18_malformed_operations).prog w os
theorem hY1F (w : World) (os : OsState) : (hEnd (w.withFollow "special-get-raises" false) os).map (fun s => (HandSHeadRun.looksF (PySem.W.OpenLaw.row PySem.Challenge.rw_shelfbots_k18_malformed_operations).prog (PySem.W.boot_heap (World.params (w.withFollow "special-get-raises" false))) s.abs, HandSHeadRun.seenQ (PySem.W.view (PySem.W.OpenLaw.row PySem.Challenge.rw_shelfbots_k18_malformed_operations).prog [70]) hNm (importedModules (PySem.W.OpenLaw.row PySem.Challenge.rw_shelfbots_k18_malformed_operations).prog.main.body) (fun s => PySem.W.xlAt (PySem.W.view (PySem.W.OpenLaw.row PySem.Challenge.rw_shelfbots_k18_malformed_operations).prog [70]) [] s && PySem.W.recOk (PySem.W.OpenLaw.row PySem.Challenge.rw_shelfbots_k18_malformed_operations).toRowW.records s) s.abs, hFa.all fun f => f.ok (SbH.KT 5 s))) = some (true, PySem.W.openGood (PySem.W.view (PySem.W.OpenLaw.row PySem.Challenge.rw_shelfbots_k18_malformed_operations).prog [70]) hNm, true) := by kernel_rfl
theorem hY2F (w : World) (os : OsState) : (hEnd (w.withFollow "special-get-raises" false) os).map (fun s => (hFn.all fun d => d.ok (SbH.KT 5 s), hFn.map fun d => He5.fnA (SbH.KT 5 s) (d.at_ (SbH.KT 5 s)), hEx (SbH.KT 5 s) && He.tabsB (HandSHeadRun.getT s) hTf (SbH.KT 5 s), hTs.map fun t => He.dicW (SbH.KT 5 s) (t.1 (SbH.KT 5 s)))) = some (true, hFn.map He5.DefA.val, true, hTs.map fun t => some (He.keysIn (World.params (w.withFollow "special-get-raises" false)) t.2)) := by kernel_rfl
theorem hRunF (w : World) : HandSHeadRun.RunEq (PySem.W.OpenLaw.row PySem.Challenge.rw_shelfbots_k18_malformed_operations) (PySem.W.view (PySem.W.OpenLaw.row PySem.Challenge.rw_shelfbots_k18_malformed_operations).prog [70]) hHk hOb 40000 hNm (w.withFollow "special-get-raises" false) := fun os => SbH.run_join (hY1F w os) (hY2F w os)
theorem hY1T (w : World) (os : OsState) : (hEnd (w.withFollow "special-get-raises" true) os).map (fun s => (HandSHeadRun.looksF (PySem.W.OpenLaw.row PySem.Challenge.rw_shelfbots_k18_malformed_operations).prog (PySem.W.boot_heap (World.params (w.withFollow "special-get-raises" true))) s.abs, HandSHeadRun.seenQ (PySem.W.view (PySem.W.OpenLaw.row PySem.Challenge.rw_shelfbots_k18_malformed_operations).prog [70]) hNm (importedModules (PySem.W.OpenLaw.row PySem.Challenge.rw_shelfbots_k18_malformed_operations).prog.main.body) (fun s => PySem.W.xlAt (PySem.W.view (PySem.W.OpenLaw.row PySem.Challenge.rw_shelfbots_k18_malformed_operations).prog [70]) [] s && PySem.W.recOk (PySem.W.OpenLaw.row PySem.Challenge.rw_shelfbots_k18_malformed_operations).toRowW.records s) s.abs, hFa.all fun f => f.ok (SbH.KT 5 s))) = some (true, PySem.W.openGood (PySem.W.view (PySem.W.OpenLaw.row PySem.Challenge.rw_shelfbots_k18_malformed_operations).prog [70]) hNm, true) := by kernel_rfl
theorem hY2T (w : World) (os : OsState) : (hEnd (w.withFollow "special-get-raises" true) os).map (fun s => (hFn.all fun d => d.ok (SbH.KT 5 s), hFn.map fun d => He5.fnA (SbH.KT 5 s) (d.at_ (SbH.KT 5 s)), hEx (SbH.KT 5 s) && He.tabsB (HandSHeadRun.getT s) hTf (SbH.KT 5 s), hTs.map fun t => He.dicW (SbH.KT 5 s) (t.1 (SbH.KT 5 s)))) = some (true, hFn.map He5.DefA.val, true, hTs.map fun t => some (He.keysIn (World.params (w.withFollow "special-get-raises" true)) t.2)) := by kernel_rfl
theorem hRunT (w : World) : HandSHeadRun.RunEq (PySem.W.OpenLaw.row PySem.Challenge.rw_shelfbots_k18_malformed_operations) (PySem.W.view (PySem.W.OpenLaw.row PySem.Challenge.rw_shelfbots_k18_malformed_operations).prog [70]) hHk hOb 40000 hNm (w.withFollow "special-get-raises" true) := fun os => SbH.run_join (hY1T w os) (hY2T w os)
theorem hRun (w : World) : HandSHeadRun.RunEq (PySem.W.OpenLaw.row PySem.Challenge.rw_shelfbots_k18_malformed_operations) (PySem.W.view (PySem.W.OpenLaw.row PySem.Challenge.rw_shelfbots_k18_malformed_operations).prog [70]) hHk hOb 40000 hNm w := PySem.W.byRow2 "special-get-raises" (P := fun w => HandSHeadRun.RunEq (PySem.W.OpenLaw.row PySem.Challenge.rw_shelfbots_k18_malformed_operations) (PySem.W.view (PySem.W.OpenLaw.row PySem.Challenge.rw_shelfbots_k18_malformed_operations).prog [70]) hHk hOb 40000 hNm w) hRunF hRunT w
end Sb

namespace Sb
open PySem PySem.Spec PyProof.Rows L2
theorem ixN_nat {n j : Nat} (h : j < n) : ixN n (j : Int) = some j := by
  unfold ixN
  rw [if_pos (Int.natCast_nonneg j), if_pos (by omega)]
  simp
theorem sq_nat {n j : Nat} (h : j < n) : seqIndex? (j : Int) n = some j := (ixN_seq (ixN_nat h)).1
theorem ix_of {n j : Nat} {z : Int} (e : z = (j : Int)) (h : j < n) : ixN n z = some j := by rw [e]; exact ixN_nat h
theorem sq_of {n j : Nat} {z : Int} (e : z = (j : Int)) (h : j < n) : seqIndex? z n = some j := by rw [e]; exact sq_nat h
theorem vint_eq {i j : Int} (h : i = j) : decide (V.int i = V.int j) = true := decide_eq_true (by rw [h])
theorem vint_ne {i j : Int} (h : ¬ i = j) : decide (V.int i = V.int j) = false := decide_eq_false (fun e => h (by injection e))

/-! ### the draws -/
def spRandom (K : PySem.W.Frag) : Sp := fun vs H Q _ => ∃ (a : Addr) (ns : List Int) (salt : Int), vs = [.ref a, .int salt] ∧ SqL K H a (ns.map V.int) ∧ ns.length ≤ 63 ∧ 0 ≤ salt ∧
  ∀ (H' : Hp) (p : Addr) (ds : List Int), Same H H' → H p = none → H' p = some (.lst (ds.map V.int)) → Src ds → Q (.ref p) H'
structure spBelow (vs : List V) (H : Hp) (Q : VK) (E : XK) : Prop where
  ex : ∃ (d : Addr) (ds : List Int) (n : Int), vs = [.ref d, .int n] ∧ H d = some (.lst (ds.map V.int)) ∧ Src ds ∧ 0 < n ∧ n < 1073741824 ∧
  ∀ (ds' : List Int) (k : Int), Src ds' → 0 ≤ k → k < n → Q (.int k) (upd H d (.lst (ds'.map V.int)))
section
variable {P : Program} {w : World} {K : PySem.W.Frag} {mg : Str → Option Value} {base : Heap} {a : Ad}
theorem ok_l_below (T : Txt K mg a) : FnOk P w K mg base CX0 1 a.f_l_below a.d_l_below ["_law_d", "_law_limit"] spBelow := by
  refine T.F_l_below.ok sc_l_below (fun vs H Q E h => ?_) (fun cdv A outer s H vs Q E hr h => ?_)
  · obtain ⟨⟨d, ds, n, rfl, _⟩⟩ := h
    rfl
  · obtain ⟨⟨d, ds, n, rfl, hd, ⟨⟨z, e, r, rfl, hz, he, hr2, hl⟩⟩, n0, n1, k⟩⟩ := h
    refine ⟨_, (pss_cons (ps_if (PW.pt (pw_and (pt_cmpR op_eq (pe_ix ix_list (pv 0) pe_int (fun _ _ => rfl)) pe_int (nomark _)) (pw_and1 (pt_cmpR op_gt (pe_callB call_len_seq (by rfl) T.z_len (by decide +kernel) (pa_cons (pv 0) pa_nil)) pe_int (nomark _))))) (pss_one (ps_asg (pe_bm PySem.F.plainAttrs_list PySem.F.slot_list_pop PySem.F.type_list_pop mt_popAt (pv 0) (pa_cons pe_int pa_nil)) (pg_sub (pv 0) pe_int set_list))) pss_nil)
      (pss_cons (ps_if (pt_cmpR op_gt (pe_ix ix_list (pv 0) pe_int (fun _ _ => rfl)) pe_int (nomark _)) (pss_cons (ps_set (i := 2) sc_l_below.nd rfl (Or.inl rfl) (pe_op op_mod (pe_ix ix_list (pv 0) pe_int (fun _ _ => rfl)) (pv 1)))
      (pss_cons (ps_asg (pe_op op_fdiv (pe_ix ix_list (pv 0) pe_int (fun _ _ => rfl)) (pv 1)) (pg_sub (pv 0) pe_int set_list))
      (pss_one (ps_ret (pv 2))))) pss_nil)
      (pss_cons (ps_asg (pe_op op_mod (pe_op op_add (pe_op op_mul (pe_ix ix_list (pv 0) pe_int (fun _ _ => rfl)) pe_int) pe_int) pe_int) (pg_sub (pv 0) pe_int set_list))
      (pss_one (ps_ret (pe_op op_mod (pe_op op_fdiv (pe_ix ix_list (pv 0) pe_int (fun _ _ => rfl)) pe_int) (pv 1))))))), ?_⟩
    -- the end: d[0] drawn on
    have last : ∀ (z : Int) (r : List Int), 0 ≤ z → (∀ x ∈ r, (0 : Int) ≤ x) → r.length ≤ 63 → Src (((z * 48271 + 11) % 2147483647) :: 0 :: r) := fun z r hz hr hl =>
      ⟨⟨_, _, _, rfl, Int.emod_nonneg _ (by decide), by decide, hr, hl⟩⟩
    have go2 : ∀ (e : Int) (r : List Int), 0 < e → (∀ x ∈ r, (0 : Int) ≤ x) → r.length ≤ 63 → Src (z :: (e / n) :: r) := fun e r he hr hl =>
      ⟨⟨_, _, _, rfl, hz, Int.ediv_nonneg (by omega) (by omega), hr, hl⟩⟩
    -- behind the first if
    have rest : ∀ (e : Int) (r : List Int) (H1 : Hp), 0 ≤ e → (∀ x ∈ r, (0 : Int) ≤ x) → r.length ≤ 63 → H1 d = some (.lst ((z :: e :: r).map V.int)) → (∀ o, upd H1 d o = upd H d o) →
        (tSeq (tIfS (tTest (tOp (rI0 fun i j => .bl (decide (j < i))) (tOp (rIxL K) (tVar 0) (tC (.int 1))) (tC (.int 0))))
          (tSeq (tAsg (tOp (rI (fun _ j => 0 < j) fun i j => .int (i % j)) (tOp (rIxL K) (tVar 0) (tC (.int 1))) (tVar 1)) (gName 2))
            (tSeq (tAsg (tOp (rI CDiv fun i j => .int (i / j)) (tOp (rIxL K) (tVar 0) (tC (.int 1))) (tVar 1)) (gSub (tVar 0) (tC (.int 1)) rSetL)) (tRet (tVar 2)))) tNext)
          (tSeq (tAsg (tOp (rI (fun _ j => 0 < j) fun i j => .int (i % j)) (tOp (rI0 fun i j => .int (i + j)) (tOp (rI CMul fun i j => .int (i * j)) (tOp (rIxL K) (tVar 0) (tC (.int 0))) (tC (.int 48271))) (tC (.int 11))) (tC (.int 2147483647))) (gSub (tVar 0) (tC (.int 0)) rSetL))
            (tRet (tOp (rI (fun _ j => 0 < j) fun i j => .int (i % j)) (tOp (rI CDiv fun i j => .int (i / j)) (tOp (rIxL K) (tVar 0) (tC (.int 0))) (tC (.int 64))) (tVar 1)))))
          { nx := fun _ H' => Q .non H', rt := Q } (start ["_law_d", "_law_limit", "_law_result"] [.ref d, .int n]) H1 := by
      intro e r H1 he hr hl h1 hu
      refine ⟨_, rfl, d, _, 1, .int e, rfl, rfl, SqL.of h1, at_of (j := 1) rfl rfl, _, _, rfl, rfl, _, rfl, ?_⟩
      refine ite2 (fun c => ?_) (fun c => ?_)
      · have he0 : 0 < e := of_decide_eq_true c
        refine ⟨_, rfl, d, _, 1, .int e, rfl, rfl, SqL.of h1, at_of (j := 1) rfl rfl, _, rfl, _, _, rfl, rfl, n0, ?_⟩
        refine ⟨_, rfl, d, _, 1, .int e, rfl, rfl, SqL.of h1, at_of (j := 1) rfl rfl, _, rfl, _, _, rfl, rfl, ⟨n0, n1⟩, ?_⟩
        refine ⟨_, rfl, d, _, 1, 1, rfl, rfl, h1, ix_of rfl (by show 1 < ((z :: e :: r).map V.int).length; rw [List.length_map]; exact Nat.succ_lt_succ (Nat.succ_pos _)), ?_⟩
        refine ⟨_, rfl, ?_⟩
        rw [hu]
        exact k (z :: (e / n) :: r) (e % n) (go2 e r he0 hr hl) (Int.emod_nonneg _ (by omega)) (Int.emod_lt_of_pos _ n0)
      · have he0 : e = 0 := by
          have h3 : ¬ (0 : Int) < e := fun q => c (decide_eq_true q)
          omega
        subst he0
        refine ⟨_, rfl, d, _, 0, .int z, rfl, rfl, SqL.of h1, at_of (j := 0) rfl rfl, _, _, rfl, rfl, .inr ⟨by decide, by decide⟩, _, _, rfl, rfl, _, _, rfl, rfl, (by show (0 : Int) < 2147483647; decide), ?_⟩
        refine ⟨_, rfl, d, _, 0, 0, rfl, rfl, h1, ix_of rfl (by show 0 < ((z :: (0 : Int) :: r).map V.int).length; rw [List.length_map]; exact Nat.succ_pos _), ?_⟩
        refine ⟨_, rfl, d, _, 0, .int ((z * 48271 + 11) % 2147483647), rfl, rfl, SqL.of upd_same, at_of (j := 0) rfl rfl, _, _, rfl, rfl, ⟨by decide, by decide⟩, _, rfl, _, _, rfl, rfl, n0, ?_⟩
        rw [hu]
        exact k (((z * 48271 + 11) % 2147483647) :: 0 :: r) _ (last z r hz hr hl) (Int.emod_nonneg _ (by omega)) (Int.emod_lt_of_pos _ n0)
    refine ⟨_, rfl, d, _, 1, .int e, rfl, rfl, SqL.of hd, at_of (j := 1) rfl rfl, rfl, _, rfl, ?_⟩
    refine ite2 (fun c => ?_) (fun c => ?_)
    · refine ⟨_, rfl, d, _, rfl, .inl (SqL.of hd), _, _, rfl, rfl, _, rfl, ?_⟩
      refine ite2 (fun c2 => ?_) (fun c2 => ?_)
      · -- there is a further one
        cases r with
        | nil =>
          have c3 := of_decide_eq_true c2
          simp at c3
        | cons y r =>
          refine ⟨_, rfl, .inl ⟨rfl, _, SqL.of hd⟩, d, _, 2, 2, .int y, rfl, rfl, hd, by decide, by decide, sq_of rfl (by simp), rfl, ?_⟩
          refine ⟨_, rfl, d, _, 1, 1, rfl, rfl, upd_same, ix_of rfl (by simp), ?_⟩
          refine rest y r _ (hr2 y List.mem_cons_self) (fun x hx => hr2 x (List.mem_cons_of_mem _ hx)) (by simp at hl; omega) ?_ ?_
          · rw [upd_same]; rfl
          · intro o
            rw [upd_upd, upd_upd]
      · exact rest e r H he hr2 hl hd (fun _ => rfl)
    · exact rest e r H he hr2 hl hd (fun _ => rfl)
end
end Sb

namespace Sb
open PySem PySem.Spec PyProof.Rows L2
section
variable {P : Program} {w : World} {K : PySem.W.Frag} {mg : Str → Option Value} {base : Heap} {a : Ad}
theorem ints_at {ns : List Int} {i : Nat} {x : V} (h : (ns.map V.int)[i]? = some x) : ∃ z, ns[i]? = some z ∧ x = V.int z := by
  rw [List.getElem?_map] at h
  cases e : ns[i]? with
  | none => rw [e] at h; cases h
  | some z => rw [e] at h; exact ⟨z, rfl, (Option.some.inj h).symm⟩
theorem take_more {α : Type} : ∀ {l : List α} {i : Nat} {x : α}, l[i]? = some x → l.take (i + 1) = l.take i ++ [x]
  | [], i, x, h => by simp at h
  | a :: l, 0, x, h => by
    have e : a = x := Option.some.inj h
    subst e
    rfl
  | a :: l, i + 1, x, h => by
    have ih := take_more (l := l) (i := i) (x := x) h
    show a :: l.take (i + 1) = a :: l.take i ++ [x]
    rw [ih]
    rfl
theorem ok_l_random (T : Txt K mg a) : FnOk P w K mg base CX0 1 a.f_l_random a.d_l_random ["_law_script", "_law_salt"] (spRandom K) := by
  refine T.F_l_random.ok sc_l_random (fun vs H Q E h => ?_) (fun cdv A outer s H vs Q E hr h => ?_)
  · obtain ⟨d, ds, n, rfl, _⟩ := h
    rfl
  · obtain ⟨l, ns, salt, rfl, hl, h63, h0, k⟩ := h
    refine ⟨_, (pss_cons (ps_set (i := 2) sc_l_random.nd rfl (Or.inl rfl) (pv 1))
      (pss_cons (ps_for PassesOwn.never rfl (pi_list (pv 0)) (pg_name (i := 3) sc_l_random.nd rfl (Or.inl rfl)) (pss_one (ps_set (i := 2) sc_l_random.nd rfl (Or.inl rfl) (pe_op op_mod (pe_op op_add (pe_op op_mul (pv 2) pe_int) (pe_callB call_abs (by rfl) T.z_abs (by decide +kernel) (pa_cons (pv 3) pa_nil))) pe_int))))
      (pss_one (ps_ret (pe_op op_cat (pe_lst (pa_cons (pv 2) (pa_cons pe_int pa_nil))) (pe_lc (own := [("_law_cell", 3)]) (g := gName 3) rfl sc_l_random.nd (pi_list (pv 0)) (blkOk_by (own := [("_law_cell", 3)]) (N := ["_law_script", "_law_salt", "_law_seed", "_law_cell"]) (sc := (defScope s_l_random)) (by decide +kernel)) (fun _ _ _ _ _ => (pg_name (i := 3) sc_l_random.nd rfl (Or.inl rfl))) (fun _ _ _ _ _ => by exact pts_one (pt_cmpR op_ge (pv 3) (pe_op op_pow pe_int pe_int) (nomark _))) (fun _ _ _ _ _ => by exact (pv 3)))))))), ?_⟩
    refine ⟨_, rfl, _, rfl, l, rfl, ⟨_, hl⟩, for_list (K := K) (a := l) (xs := ns.map V.int) (fun i σ H' => H' = H ∧ ∃ (z : Int) (v : Option V), σ = [some (.ref l), some (.int salt), some (.int z), v] ∧ 0 ≤ z)
      ⟨rfl, salt, none, rfl, h0⟩ (fun i σ H' _ ⟨e, _⟩ => by rw [e]; exact hl) ?_ ?_⟩
    · rintro i x σ H' hx ⟨rfl, z, v, rfl, hz⟩
      obtain ⟨u, hu, rfl⟩ := ints_at hx
      refine ⟨_, rfl, _, _, rfl, rfl, .inr ⟨by decide, by decide⟩, _, rfl, _, rfl, _, _, rfl, rfl, _, _, rfl, rfl, (by show (0 : Int) < 2147483647; decide), ?_⟩
      exact ⟨rfl, _, _, rfl, Int.emod_nonneg _ (by decide)⟩
    · rintro σ H' ⟨rfl, z, v, rfl, hz⟩
      refine ⟨_, rfl, (by show 2 ≤ sizeLine; decide), fun p hp => ?_⟩
      have hl1 : SqL K (upd H' p (.lst [.int z, .int 0])) l (ns.map V.int) := (same_new hp).seq hl
      refine ⟨_, rfl, l, rfl, ⟨_, hl1⟩, fun D hD => ?_⟩
      have npD : p ≠ D := fun e => by rw [← e, upd_same] at hD; cases hD
      refine lc_list (K := K) (a := l) (xs := ns.map V.int) (fun i H2 => ∃ bs : List Int, H2 = upd (upd H' p (.lst [.int z, .int 0])) D (.lst (bs.map V.int)) ∧ (∀ x ∈ bs, (0 : Int) ≤ x) ∧ bs.length ≤ i) ⟨[], rfl, (fun _ h => nomatch h), Nat.le_refl _⟩ ?_ ?_ ?_
      · rintro i H2 _ ⟨bs, rfl, _⟩
        exact (same_new hD).seq hl1
      · rintro i x H2 hx ⟨bs, rfl, hb, hbl⟩
        obtain ⟨u, hu, rfl⟩ := ints_at hx
        have hi : i < ns.length := (List.getElem?_eq_some_iff.mp hu).1
        refine ⟨rfl, _, rfl, _, _, rfl, rfl, ⟨by decide, by decide, by decide⟩, _, _, rfl, rfl, _, rfl, ?_⟩
        refine ite2 (fun c => ?_) (fun c => ?_)
        · have hu0 : (10 : Int) ^ (18 : Int).toNat ≤ u := of_decide_eq_true c
          have hu1 : (0 : Int) ≤ u := Int.le_trans (by decide) hu0
          refine ⟨_, rfl, bs.map V.int, upd_same, smaller 63 (by rw [List.length_map]; omega) (by decide), bs ++ [u], ?_, ?_, ?_⟩
          · rw [upd_upd, List.map_append]
            rfl
          · intro x hx
            rcases List.mem_append.mp hx with h | h
            · exact hb x h
            · rw [List.mem_singleton.mp h]; exact hu1
          · rw [List.length_append]; simp; omega
        · exact ⟨bs, rfl, hb, by omega⟩
      · rintro H2 ⟨bs, rfl, hb, hbl⟩
        have e1 : (upd (upd H' p (.lst [.int z, .int 0])) D (.lst (bs.map V.int))) p = some (.lst [.int z, .int 0]) := by rw [upd_ne npD, upd_same]
        rw [List.length_map] at hbl
        refine ⟨p, D, _, _, rfl, rfl, e1, upd_same, small 65 (by show 2 + (bs.map V.int).length ≤ 65; rw [List.length_map]; omega) (by decide), fun q hq => ?_⟩
        have q1 : q ≠ D := fun e => by rw [e, upd_same] at hq; cases hq
        have q2 : q ≠ p := fun e => by rw [e, e1] at hq; cases hq
        refine k _ q (z :: 0 :: bs) (((same_new hp).trans (same_new hD)).trans (same_new hq)) (by rw [upd_ne q1, upd_ne q2] at hq; exact hq) (by rw [upd_same]; rfl) ⟨⟨z, 0, bs, rfl, hz, by decide, hb, by omega⟩⟩
end
end Sb

namespace Sb
open PySem PySem.Spec PyProof.Rows L2
section
variable {K : PySem.W.Frag} {d : Addr} {G0 H0 G H : Hp} {n : Int} {Q : VK} {E : XK}
/-- a draw, used -/
theorem draw_go (h : At d G0 H0 G H) (n0 : 0 < n) (n1 : n < 1073741824) (k : ∀ (H1 : Hp) (i : Nat), At d G0 H0 G H1 → (∀ b, b ≠ d → H1 b = H b) → (i : Int) < n → Q (.int i) H1) : spBelow [.ref d, .int n] H Q E := by
  obtain ⟨ds, hd, hs⟩ := h.now.x
  refine ⟨⟨d, ds, n, rfl, hd, hs, n0, n1, fun ds' i s1 i0 i1 => ?_⟩⟩
  have e : i = (i.toNat : Int) := by omega
  rw [e]
  exact k _ i.toNat (h.draw s1) (fun b hb => upd_ne hb) (by omega)
end
theorem wds_len : wds.length = 8 := rfl
theorem wds_at {i : Nat} (h : i < 8) : (wds.map V.str)[i]? = some (.str (wS i)) := by
  rw [List.getElem?_map]
  have : wds[i]? = some (wS i) := by
    unfold wS
    rw [List.getElem?_eq_getElem (by rw [wds_len]; exact h), List.getD_eq_getElem?_getD, List.getElem?_eq_getElem (by rw [wds_len]; exact h)]
    rfl
  rw [this]
  rfl
def jmpV : List V := [.str "goto", .str "empty", .str "held"]
theorem jmp_in : ∀ {w : Nat}, w < 8 → inV (.str (wS w)) jmpV = decide (5 ≤ w) := by
  have h : ∀ w : _root_.Fin 8, inV (.str (wS w.val)) jmpV = decide (5 ≤ w.val) := by decide +kernel
  exact fun {w} hw => h ⟨w, hw⟩
theorem optD_some {K : PySem.W.Frag} {G : Hp} (k : Nat) : Dp K G (.int k) (optD (some k)) := .int k
theorem jmp_flat : jmpV.all flatV = true := by decide +kernel
structure spSteps (K : PySem.W.Frag) (vs : List V) (H : Hp) (Q : VK) (E : XK) : Prop where
  ex : ∃ (d : Addr) (G : Hp) (most : Nat), vs = [.ref d, .int most] ∧ 1 ≤ most ∧ most ≤ 20 ∧
  Drawn d G H Q fun G' v => ∃ ss : List Step, StepsOk ss ∧ Dp K G' v (stepsD ss) ∧ ss.length ≤ most
section
variable {P : Program} {w : World} {K : PySem.W.Frag} {mg : Str → Option Value} {base : Heap} {a : Ad}
theorem wS0 : wS 0 = "left" := rfl
theorem wS1 : wS 1 = "right" := rfl
theorem wS2 : wS 2 = "pick" := rfl
theorem wS3 : wS 3 = "put" := rfl
theorem stepD_no {K : PySem.W.Frag} {G : Hp} {t : Addr} {x : Nat} (h : SqT K G t [.str (wS x), .non]) : Dp K G (.ref t) (Step.D ⟨x, none⟩) := .tup h (.cons (.str _) (.cons .non .nil))
theorem ok_no {n x : Nat} (h : x < 5) : Step.Ok n ⟨x, none⟩ := ⟨by show x < 8; omega, fun _ => rfl, fun z => absurd (show 5 ≤ x from z) (by omega)⟩
end
end Sb

namespace Sb
open PySem PySem.Spec PyProof.Rows L2
theorem other_ne {n f s : Nat} (hf : f < n) (hs : s + 1 < n) : (f + 1 + s) % n ≠ f := by
  by_cases h : f + 1 + s < n
  · rw [Nat.mod_eq_of_lt h]; omega
  · rw [Nat.mod_eq_sub_mod (by omega), Nat.mod_eq_of_lt (by omega)]; omega
theorem other_eq (f s n : Nat) : ((f : Int) + 1 + (s : Int)) % (3 + (n : Int)) = (((f + 1 + s) % (3 + n) : Nat) : Int) := by
  rw [Int.natCast_emod]
  push_cast
  rfl
theorem nats_D (K : PySem.W.Frag) (G : Hp) (l : List Nat) : DpAll K G (l.map fun n : Nat => V.int n) (l.map natD) := by
  induction l with
  | nil => exact .nil
  | cons n l ih => exact .cons (.int _) ih
theorem draw_steps {K : PySem.W.Frag} {d : Addr} {G0 H0 G H : Hp} {most : Nat} {Q : VK} {E : XK} (h : At d G0 H0 G H) (m1 : 1 ≤ most) (m2 : most ≤ 20)
    (k : ∀ (G1 H1 : Hp) (v : V) (ss : List Step), At d G0 H0 G1 H1 → At d G H G1 H1 → StepsOk ss → Dp K G1 v (stepsD ss) → ss.length ≤ most → Q v H1) : spSteps K [.ref d, .int most] H Q E :=
  ⟨⟨d, G, most, rfl, m1, m2, h.now, fun G' H' v A ⟨ss, o, D, l⟩ => k G' H' v ss (h.trans A) A o D l⟩⟩
end Sb

namespace Sb
open PySem PySem.Spec PyProof.Rows L2 TL
theorem Ext.ofSame {G H H' : Hp} (s : Same G H) (h : Same H H') : Ext G H G H' := ⟨Same.refl G, s.trans h, fun _ _ e => .inl e, fun _ e => Same.free h e⟩
theorem log_ok {n : Nat} (h : n < 100) : ((n : Int)).natAbs.log2 < 1920 := by
  have e : ((n : Int)).natAbs = n := rfl
  have := Nat.log2_le_self n
  rw [e]
  omega
theorem at_n {α : Type} {xs : List α} {z : Int} {j : Nat} {v : α} (e : z = (j : Int)) (h : xs[j]? = some v) : atI xs z = some v := by
  rw [e]
  exact atI_nat h
theorem len1s (c : Nat) : (⟨#[c]⟩ : Str).length = 1 := rfl
theorem e_s : (Str.ofString "s").length = 1 := by decide +kernel
theorem e_cs : (Str.ofString ": ").length = 2 := by decide +kernel
theorem e_ss : (Str.ofString " s").length = 2 := by decide +kernel
theorem e_2 : (Str.ofString "  ").length = 2 := by decide +kernel
theorem addS {x y : Str} (m : Nat) (h : x.length + y.length ≤ m) (hm : m ≤ 16777216 := by decide) : x.length + y.length ≤ sizeLine := small m h hm
structure spLText (K : PySem.W.Frag) (vs : List V) (H : Hp) (Q : VK) (E : XK) : Prop where
  ex : ∃ (G : Hp) (v : V) (x : Pl), vs = [v] ∧ Same G H ∧ Dp K G v x.D ∧ x.Ok ∧ ∀ H', Same H H' → Q (.str (textS x)) H'
/-- the two robots, by number -/
def Pl.st (x : Pl) (i : Nat) : Nat := if i = 0 then x.a else x.b
def Pl.ss (x : Pl) (i : Nat) : List Step := if i = 0 then x.p else x.q
def Pl.robs (x : Pl) : Nat → List (List Nat)
  | 0 => []
  | i + 1 => Pl.robs x i ++ robotL (x.st i) (x.ss i)
theorem Pl.robs2 (x : Pl) : shelfL x.shelf :: x.robs 2 = linesL x := rfl
theorem sum_len : ∀ (l : List Str) (m : Nat), (∀ p ∈ l, p.length ≤ m) → (l.map (·.length)).sum ≤ l.length * m
  | [], _, _ => by simp
  | x :: r, m, h => by
    have h1 := h x (by simp)
    have ih := sum_len r m (fun p hp => h p (by simp [hp]))
    rw [List.map_cons, List.sum_cons, List.length_cons, Nat.add_mul, Nat.one_mul]
    omega
theorem len_of_map {l : List Str} {m : List (List Nat)} (h : l.map tl = m) : l.length = m.length := by rw [← h, List.length_map]
theorem mem_len {l : List Str} {m : List (List Nat)} {k : Nat} (h : l.map tl = m) (hm : ∀ p ∈ m, p.length ≤ k) : ∀ p ∈ l, p.length ≤ k := fun p hp => by
  rw [len_tl]
  exact hm (tl p) (by rw [← h]; exact List.mem_map.mpr ⟨p, hp, rfl⟩)
theorem robs_len {x : Pl} (h : x.Ok) : ∀ {i : Nat}, i ≤ 2 → (x.robs i).length ≤ 22 * i
  | 0, _ => by simp [Pl.robs]
  | i + 1, hi => by
    have ih := robs_len h (i := i) (by omega)
    show (x.robs i ++ robotL (x.st i) (x.ss i)).length ≤ _
    rw [List.length_append, robotL_len]
    have : (x.ss i).length ≤ 20 := by unfold Pl.ss; split; exact h.p.le; exact h.q.le
    omega
theorem join_txt {y : Str} {parts : List Str} {S : List Nat} {ps : List (List Nat)} (hy : tl y = S) (hp : parts.map tl = ps) : tl (Txt.join y parts) = joinL S ps := by
  rw [join_eq, tl_join, hy, hp]
/-- a plan's data, taken apart -/
theorem plan_inv {K : PySem.W.Frag} {G : Hp} {v : V} {x : Pl} (h : Dp K G v x.D) : ∃ t sh st bo l1 l2 xs1 xs2, v = .ref t ∧ SqT K G t [.ref sh, .ref st, .ref bo] ∧ SqT K G sh (x.shelf.map fun n : Nat => V.int n) ∧ SqT K G st [.int x.a, .int x.b] ∧
    SqL K G bo [.ref l1, .ref l2] ∧ SqL K G l1 xs1 ∧ SqL K G l2 xs2 ∧ DpAll K G xs1 (x.p.map Step.D) ∧ DpAll K G xs2 (x.q.map Step.D) := by
  obtain ⟨t, xs, rfl, ht, hx⟩ := Dp.tup_inv h
  obtain ⟨v1, r, rfl, h1, hx⟩ := DpAll.cons_inv hx
  obtain ⟨v2, r, rfl, h2, hx⟩ := DpAll.cons_inv hx
  obtain ⟨v3, r, rfl, h3, hx⟩ := DpAll.cons_inv hx
  cases DpAll.nil_inv hx
  obtain ⟨sh, ys, rfl, hsh, hy⟩ := Dp.tup_inv h1
  obtain ⟨st, zs, rfl, hst, hz⟩ := Dp.tup_inv h2
  obtain ⟨z1, r, rfl, e1, hz⟩ := DpAll.cons_inv hz
  obtain ⟨z2, r, rfl, e2, hz⟩ := DpAll.cons_inv hz
  cases DpAll.nil_inv hz
  obtain ⟨bo, ws, rfl, hbo, hw⟩ := Dp.lst_inv h3
  obtain ⟨b1, r, rfl, f1, hw⟩ := DpAll.cons_inv hw
  obtain ⟨b2, r, rfl, f2, hw⟩ := DpAll.cons_inv hw
  cases DpAll.nil_inv hw
  obtain ⟨l1, xs1, rfl, hl1, hx1⟩ := Dp.lst_inv f1
  obtain ⟨l2, xs2, rfl, hl2, hx2⟩ := Dp.lst_inv f2
  have e1' := Dp.int_inv e1
  have e2' := Dp.int_inv e2
  subst e1' e2'
  have ey : ys = x.shelf.map fun n : Nat => V.int n := by
    have : ∀ (l : List Nat) (ys : List V), DpAll K G ys (l.map natD) → ys = l.map fun n : Nat => V.int n := by
      intro l
      induction l with
      | nil => intro ys h; exact DpAll.nil_inv h
      | cons n l ih =>
        intro ys h
        obtain ⟨v, r, rfl, a, b⟩ := DpAll.cons_inv h
        rw [Dp.int_inv a, ih r b]
        rfl
    exact this _ _ hy
  subst ey
  exact ⟨t, sh, st, bo, l1, l2, xs1, xs2, rfl, ht, hsh, hst, hbo, hl1, hl2, hx1, hx2⟩
/-- a step's data -/
theorem step_inv {K : PySem.W.Frag} {G : Hp} {v : V} {s : Step} (h : Dp K G v s.D) : ∃ t g, v = .ref t ∧ SqT K G t [.str (wS s.w), g] ∧ ((s.g = none ∧ g = .non) ∨ ∃ k : Nat, s.g = some k ∧ g = .int k) := by
  obtain ⟨t, xs, rfl, ht, hx⟩ := Dp.tup_inv h
  obtain ⟨v1, r, rfl, h1, hx⟩ := DpAll.cons_inv hx
  obtain ⟨v2, r, rfl, h2, hx⟩ := DpAll.cons_inv hx
  cases DpAll.nil_inv hx
  have e1 := Dp.str_inv h1
  subst e1
  refine ⟨t, v2, rfl, ht, ?_⟩
  cases hg : s.g with
  | none =>
    rw [hg] at h2
    exact .inl ⟨rfl, Dp.none_inv h2⟩
  | some k =>
    rw [hg] at h2
    exact .inr ⟨k, rfl, Dp.int_inv h2⟩
theorem goals_take {ss : List Step} {i : Nat} {s : Step} (h : ss[i]? = some s) : goalsOf (ss.take (i + 1)) = goalsOf (ss.take i) ++ (match s.g with | none => [] | some k => [k]) := by
  unfold goalsOf
  rw [take_more h, List.filterMap_append]
  congr 1
  cases hg : s.g <;> simp [hg]
section
variable {P : Program} {w : World} {K : PySem.W.Frag} {mg : Str → Option Value} {base : Heap} {a : Ad}
end
end Sb

namespace Sb
open PySem PySem.Spec PyProof.Rows L2 TL
section
variable {G H G0 H0 G1 H1 : Hp} {x dx : Addr} {o : HO}
theorem make_free (nx : H x = none) (ne : dx ≠ x) : upd H dx (.own x) x = none := by rw [upd_ne ne.symm]; exact nx
theorem Ext.make (e : Ext G0 H0 G H) (nx : H x = none) (nd : H dx = none) (ne : dx ≠ x) (o : HO) : Ext G0 H0 (upd (upd G dx (.own x)) x o) (upd (upd H dx (.own x)) x o) := (e.new nd).new (make_free nx ne)
theorem same_make (nx : H x = none) (nd : H dx = none) (ne : dx ≠ x) (o : HO) : Same H (upd (upd H dx (.own x)) x o) := (same_new nd).trans (same_new (make_free nx ne))
end
/-- a token in the data heap -/
def tokF (tk : Tk) (l c : Nat) : List (Str × V) := [("kind", .str (kS tk.k)), ("text", .str (mkS tk.t)), ("line", .int l), ("column", .int c)]
def TokAt (C : Addr) (G : Hp) (v : V) (tk : Tk) : Prop := ∃ (p dx : Addr) (l c : Nat), v = .ref p ∧ G p = some (.ins C dx (tokF tk l c))
theorem TokAt.mono {C : Addr} {G G' : Hp} {v : V} {tk : Tk} (s : Same G G') (h : TokAt C G v tk) : TokAt C G' v tk := by
  obtain ⟨p, dx, l, c, e, h⟩ := h
  exact ⟨p, dx, l, c, e, s _ _ h⟩
def ToksAt (C : Addr) (G : Hp) : List V → List Tk → Prop := Paired (TokAt C G)
theorem ToksAt.mono {C : Addr} {G G' : Hp} {vs : List V} {ts : List Tk} (s : Same G G') (h : ToksAt C G vs ts) : ToksAt C G' vs ts := Paired.mapP h fun _ _ => TokAt.mono s
theorem Paired.snoc {α β : Type} {F : α → β → Prop} : ∀ {l : List α} {m : List β} {x : α} {y : β}, Paired F l m → F x y → Paired F (l ++ [x]) (m ++ [y])
  | _, _, _, _, .nil, h => .cons h .nil
  | _, _, _, _, .cons r t, h => .cons r (Paired.snoc t h)
theorem Paired.app {α β : Type} {F : α → β → Prop} : ∀ {l l' : List α} {m m' : List β}, Paired F l m → Paired F l' m' → Paired F (l ++ l') (m ++ m')
  | _, _, _, _, .nil, h => h
  | _, _, _, _, .cons r t, h => .cons r (Paired.app t h)
theorem Paired.at_ {α β : Type} {F : α → β → Prop} : ∀ {l : List α} {m : List β} {i : Nat} {y : β}, Paired F l m → m[i]? = some y → ∃ x, l[i]? = some x ∧ F x y
  | _, _, _, _, .nil, e => by simp at e
  | _, _, 0, _, .cons r _, e => by simp at e; subst e; exact ⟨_, rfl, r⟩
  | _, _, i + 1, y, .cons _ t, e => by
    obtain ⟨u, h1, h2⟩ := Paired.at_ (i := i) (y := y) t (by simpa using e)
    exact ⟨u, by simpa using h1, h2⟩
theorem Paired.len {α β : Type} {F : α → β → Prop} : ∀ {l : List α} {m : List β}, Paired F l m → l.length = m.length
  | _, _, .nil => rfl
  | _, _, .cons _ t => congrArg (· + 1) (Paired.len t)
/-- the __init__ of a class that stores its arguments in fields -/
structure spInit (C : Addr) (fs : List Str) (vs : List V) (H : Hp) (Q : VK) (E : XK) : Prop where
  ex : ∃ (x dx : Addr) (us : List V), vs = .ref x :: us ∧ us.length = fs.length ∧ H x = some (.ins C dx []) ∧ Q .non (upd H x (.ins C dx (fs.zip us)))
theorem init_go {C x dx : Addr} {fs : List Str} {us : List V} {H : Hp} {Q : VK} {E : XK} (h : us.length = fs.length) (k : Q (.ref x) (upd (upd H dx (.own x)) x (.ins C dx (fs.zip us)))) :
    spInit C fs (.ref x :: us) (upd (upd H dx (.own x)) x (.ins C dx [])) (fun v H2 => v = .non ∧ Q (.ref x) H2) E :=
  ⟨⟨x, dx, us, rfl, h, upd_same, rfl, by rw [upd_upd]; exact k⟩⟩
theorem lf {f : Str} {v : V} {fs : List (Str × V)} {n : Nat} (h : fs.length ≤ n) : (putF f v fs).length ≤ n + 1 := Nat.le_trans (length_putF f v fs) (Nat.succ_le_succ h)
theorem lf1 {f : Str} {v : V} : (putF f v []).length < 1000 := Nat.lt_of_le_of_lt (lf (Nat.le_refl _)) (by decide)
theorem lf2 {f g : Str} {v u : V} : (putF f v (putF g u [])).length < 1000 := Nat.lt_of_le_of_lt (lf (lf (Nat.le_refl _))) (by decide)
theorem lf3 {f g h : Str} {v u y : V} : (putF f v (putF g u (putF h y []))).length < 1000 := Nat.lt_of_le_of_lt (lf (lf (lf (Nat.le_refl _)))) (by decide)
structure spRunEnd (vs : List V) (H : Hp) (Q : VK) (E : XK) : Prop where
  ex : ∃ (row : Str) (c : Nat) (ls : Str), vs = [.str row, .int c, .str ls] ∧ c ≤ (tl row).length ∧ (tl row).length ≤ 3000 ∧ Q (.int ((c + runL (tl ls) ((tl row).drop c) : Nat) : Int)) H
section
variable {P : Program} {w : World} {K : PySem.W.Frag} {mg : Str → Option Value} {base : Heap} {a : Ad}
theorem ok_Token_init (T : Txt K mg a) : FnOk P w K mg base CX0 1 a.f_Token_init a.d_Token_init ["self", "kind", "text", "line", "column"] (spInit a.C_Token ["kind", "text", "line", "column"]) := by
  refine T.F_Token_init.ok sc_Token_init (fun vs H Q E h => ?_) (fun cdv A outer s H vs Q E hr h => ?_)
  · obtain ⟨⟨x, dx, us, rfl, hl, _⟩⟩ := h
    exact congrArg (· + 1) hl
  · obtain ⟨⟨x, dx, us, rfl, hl, hx, k⟩⟩ := h
    match us, hl with
    | [u1, u2, u3, u4], _ =>
      refine ⟨_, (pss_cons (ps_fld (pv 0) (pv 1) rfl)
      (pss_cons (ps_fld (pv 0) (pv 2) rfl)
      (pss_cons (ps_fld (pv 0) (pv 3) rfl)
      (pss_one (ps_fld (pv 0) (pv 4) rfl))))), ?_⟩
      refine ⟨_, rfl, _, rfl, x, _, dx, _, rfl, hx, T.cl_Token, T.n_Token_kind, by decide, ?_⟩
      refine ⟨_, rfl, _, rfl, x, _, dx, _, rfl, upd_same, T.cl_Token, T.n_Token_text, lf1, ?_⟩
      refine ⟨_, rfl, _, rfl, x, _, dx, _, rfl, upd_same, T.cl_Token, T.n_Token_line, lf2, ?_⟩
      refine ⟨_, rfl, _, rfl, x, _, dx, _, rfl, upd_same, T.cl_Token, T.n_Token_column, lf3, ?_⟩
      rw [upd_upd, upd_upd, upd_upd]
      have e : putF "column" u4 (putF "line" u3 (putF "text" u2 (putF "kind" u1 []))) = (["kind", "text", "line", "column"] : List Str).zip [u1, u2, u3, u4] := by
        show putF "column" u4 (putF "line" u3 (putF "text" u2 [("kind", u1)])) = _
        rw [putF_new (fs := [("kind", u1)]) (show ("text" : Str) ∉ (["kind"] : List Str) by decide +kernel)]
        show putF "column" u4 (putF "line" u3 [("kind", u1), ("text", u2)]) = _
        rw [putF_new (fs := [("kind", u1), ("text", u2)]) (show ("line" : Str) ∉ (["kind", "text"] : List Str) by decide +kernel)]
        show putF "column" u4 [("kind", u1), ("text", u2), ("line", u3)] = _
        rw [putF_new (fs := [("kind", u1), ("text", u2), ("line", u3)]) (show ("column" : Str) ∉ (["kind", "text", "line"] : List Str) by decide +kernel)]
        rfl
      rw [e]
      exact k
theorem ok_run_end (T : Txt K mg a) : FnOk P w K mg base CX0 1 a.f_run_end a.d_run_end ["row", "start", "letters"] spRunEnd := by
  refine T.F_run_end.ok sc_run_end (fun vs H Q E h => ?_) (fun cdv A outer s H vs Q E hr h => ?_)
  · obtain ⟨⟨row, c, ls, rfl, _⟩⟩ := h
    rfl
  · obtain ⟨⟨row, c, ls, rfl, hc, hl, k⟩⟩ := h
    refine ⟨_, (pss_cons (ps_set (i := 3) sc_run_end.nd rfl (Or.inl rfl) (pv 1))
      (pss_cons (ps_while PassesOwn.never (PW.pt (pw_and (pt_cmpR op_lt (pv 3) (pe_callB call_len_str (by rfl) T.z_len (by decide +kernel) (pa_cons (pv 0) pa_nil)) (nomark _)) (pw_and1 (pt_cmpR op_in_sign (pe_ix ix_str (pv 0) (pv 3) (fun _ _ => rfl)) (pv 2) rfl)))) (pss_one (ps_aug (i := 3) sc_run_end.nd rfl (Or.inl rfl) pe_int ip_add)))
      (pss_one (ps_ret (pv 3))))), ?_⟩
    have hz : row.length ≤ sizeLine := small 3000 (by rw [len_tl]; exact hl) (by decide)
    refine ⟨_, rfl, ?_⟩
    refine while_by (fun σ H' => H' = H ∧ ∃ e : Nat, σ = [some (.str row), some (.int c), some (.str ls), some (.int e)] ∧ c ≤ e ∧ e ≤ (tl row).length ∧ e + runL (tl ls) ((tl row).drop e) = c + runL (tl ls) ((tl row).drop c))
      (fun σ _ => match σ with | [_, _, _, some (.int e)] => (tl row).length - e.toNat | _ => 0) ⟨rfl, c, rfl, Nat.le_refl _, hc, rfl⟩ ?_ ?_
    · rintro σ H' ⟨rfl, e, rfl, h1, h2, h3⟩
      refine ⟨_, rfl, _, rfl, _, rfl, hz, _, _, rfl, rfl, _, rfl, ?_⟩
      refine ite2 (fun q => ?_) (fun q => ?_)
      · have q1 : e < (tl row).length := by
          have := of_decide_eq_true q
          rw [len_tl] at this
          omega
        have q2 : (tl row)[e]? = some ((tl row)[e]) := List.getElem?_eq_getElem q1
        refine ⟨_, rfl, _, rfl, row, _, (tl row)[e], rfl, rfl, hz, atI_nat q2, _, rfl, _, _, rfl, rfl, _, rfl, ?_⟩
        have q3 : (tl row).drop e = (tl row)[e] :: (tl row).drop (e + 1) := List.drop_eq_getElem_cons q1
        refine ite2 (fun m => ?_) (fun m => ?_)
        · have m1 : (tl row)[e] ∈ tl ls := of_decide_eq_true m
          refine ⟨_, rfl, _, _, rfl, rfl, ⟨rfl, e + 1, rfl, by omega, by omega, ?_⟩, ?_⟩
          · rw [q3] at h3
            rw [← h3]
            show _ = e + (if _ then _ else _)
            rw [if_pos m1]
            omega
          · show (tl row).length - ((e : Int) + 1).toNat < (tl row).length - ((e : Int)).toNat
            omega
        · have m1 : ¬ (tl row)[e] ∈ tl ls := fun z => m (decide_eq_true z)
          refine ⟨_, rfl, ?_⟩
          have e0 : e = c + runL (tl ls) ((tl row).drop c) := by
            rw [← h3, q3]
            show _ = e + (if _ then _ else _)
            rw [if_neg m1]
            rfl
          rw [e0]
          exact k
      · have q1 : ¬ (e : Int) < ((row.length : Nat) : Int) := fun z => q (decide_eq_true z)
        rw [len_tl] at q1
        refine ⟨_, rfl, ?_⟩
        have e0 : e = c + runL (tl ls) ((tl row).drop c) := by
          rw [← h3, List.drop_eq_nil_of_le (by omega)]
          rfl
        rw [e0]
        exact k
    · intro σ H Q Q' hq h
      obtain ⟨v, hv, x, hx, z, e, hz, i, j, e1, e2, b, e3, h⟩ := h
      refine ⟨v, hv, x, hx, z, e, hz, i, j, e1, e2, b, e3, ?_⟩
      revert h
      cases b with
      | true =>
        intro h
        obtain ⟨v, hv, x, hx, z, i, c, e1, e2, hz, ha, y, hy, c', z', e3, e4, k', e5, h⟩ := h
        exact ⟨v, hv, x, hx, z, i, c, e1, e2, hz, ha, y, hy, c', z', e3, e4, k', e5, hq _ _ h⟩
      | false =>
        intro h
        exact hq _ _ h
end
end Sb

namespace Sb
open PySem PySem.Spec PyProof.Rows L2 TL
/-- a token in the data heap, with its place -/
def TokP (C : Addr) (G : Hp) (v : V) (q : Tk × Nat × Nat) : Prop := ∃ (p dx : Addr), v = .ref p ∧ G p = some (.ins C dx (tokF q.1 q.2.1 q.2.2))
theorem TokP.mono {C : Addr} {G G' : Hp} {v : V} {q : Tk × Nat × Nat} (s : Same G G') (h : TokP C G v q) : TokP C G' v q := by
  obtain ⟨p, dx, e, h⟩ := h
  exact ⟨p, dx, e, s _ _ h⟩
theorem TokP.tok {C : Addr} {G : Hp} {v : V} {q : Tk × Nat × Nat} (h : TokP C G v q) : TokAt C G v q.1 := by
  obtain ⟨p, dx, e, h⟩ := h
  exact ⟨p, dx, q.2.1, q.2.2, e, h⟩
def ToksP (C : Addr) (G : Hp) : List V → List (Tk × Nat × Nat) → Prop := Paired (TokP C G)
theorem ToksP.mono {C : Addr} {G G' : Hp} {vs : List V} {ts : List (Tk × Nat × Nat)} (s : Same G G') (h : ToksP C G vs ts) : ToksP C G' vs ts := Paired.mapP h fun _ _ => TokP.mono s
theorem ToksP.toks {C : Addr} {G : Hp} : ∀ {vs : List V} {ts : List (Tk × Nat × Nat)}, ToksP C G vs ts → ToksAt C G vs (ts.map (·.1))
  | _, _, .nil => .nil
  | _, _, .cons r t => .cons r.tok (ToksP.toks t)
structure spReadToken (C : Addr) (vs : List V) (H : Hp) (Q : VK) (E : XK) : Prop where
  ex : ∃ (row : Str) (l c : Nat) (G : Hp) (tk : Tk) (rest : List Nat), vs = [.str row, .int l, .int c] ∧ c ≤ (tl row).length ∧ (tl row).length ≤ 3000 ∧ Rd ((tl row).drop c) tk rest ∧ Pure G H Q (fun G' v => TokP C G' v (tk, l, c))
theorem in_strs (x : Str) : ∀ l : List Str, inV (.str x) (l.map V.str) = decide (x ∈ l)
  | [] => by simp [inV]
  | n :: r => by
    have ih := in_strs x r
    unfold inV at ih ⊢
    rw [List.map_cons, List.any_cons, ih]
    have e : eqV (.str n) (.str x) = decide (n = x) := by
      unfold eqV
      by_cases h : n = x
      · subst h; simp
      · simp [h]
    rw [e]
    by_cases h : n = x
    · subst h; simp
    · have h' : ¬ x = n := fun q => h q.symm
      simp [h, h']
theorem strs_flat (l : List Str) : (l.map V.str).all flatV = true := by
  rw [List.all_eq_true]
  intro x hx
  obtain ⟨n, _, rfl⟩ := List.mem_map.mp hx
  rfl
theorem mem_tl {x : Str} {l : List Str} : x ∈ l ↔ tl x ∈ l.map tl := by
  constructor
  · exact fun h => List.mem_map.mpr ⟨x, h, rfl⟩
  · intro h
    obtain ⟨y, hy, e⟩ := List.mem_map.mp h
    rw [← ext_tl e]
    exact hy
theorem kw_ne : ∀ t ∈ kwL, t ≠ [] := by decide +kernel
theorem sgn_no_dig {c : Nat} (h : c ∈ tl digS) : c ∉ tl sgnS := by rw [mem_dig] at h; rw [mem_sgn]; omega
theorem sgn_no_let {c : Nat} (h : c ∈ tl letS) : c ∉ tl sgnS := by rw [mem_let] at h; rw [mem_sgn]; omega
theorem dig_no_let {c : Nat} (h : c ∈ tl letS) : c ∉ tl digS := by rw [mem_let] at h; rw [mem_dig]; omega
theorem tok_mk {C x dx : Addr} {G : Hp} {k : Kd} {t : Str} {l c : Nat} {tk : Tk} (h1 : k = tk.k) (h2 : tl t = tk.t) : TokP C (upd (upd G dx (.own x)) x (.ins C dx ((["kind", "text", "line", "column"] : List Str).zip [.str (kS k), .str t, .int l, .int c]))) (.ref x) (tk, l, c) :=
  ⟨x, dx, rfl, by
    rw [upd_same]
    subst h1
    have e : t = mkS tk.t := mkS_of h2
    subst e
    rfl⟩
section
variable {P : Program} {w : World} {K : PySem.W.Frag} {mg : Str → Option Value} {base : Heap} {a : Ad}
theorem ok_read_token (T : Txt K mg a) : FnOk P w K mg base CX0 3 a.f_read_token a.d_read_token ["row", "line", "column"] (spReadToken a.C_Token) := by
  refine T.F_read_token.ok sc_read_token (fun vs H Q E h => ?_) (fun cdv A outer s H vs Q E hr h => ?_)
  · obtain ⟨⟨row, l, c, G, tk, rest, rfl, _⟩⟩ := h
    rfl
  · obtain ⟨⟨row, l, c, G, tk, rest, rfl, hc, hl, hR, hGH, k⟩⟩ := h
    refine ⟨_, (pss_cons (ps_set (i := 3) sc_read_token.nd rfl (Or.inl rfl) (pe_ix ix_str (pv 0) (pv 2) (fun _ _ => rfl)))
      (pss_cons (ps_if (pt_cmpR op_in_sign (pv 3) (pe_glob (v := V.str (Str.ofString ";:{}")) rfl T.c_SIGNS ⟨_, rfl⟩) rfl) (pss_one (ps_ret (pe_make T.mk_Token (ok_Token_init T) (hr.mono (by decide)) (by rfl) T.m_Token (b_Token_init T) .nil pass0 (pa_cons (pe_glob (v := V.str (Str.ofString "sign")) rfl T.c_SIGN ⟨_, rfl⟩) (pa_cons (pv 3) (pa_cons (pv 1) (pa_cons (pv 2) pa_nil))))))) pss_nil)
      (pss_cons (ps_if (pt_cmpR op_in_sign (pv 3) (pe_glob (v := V.str (Str.ofString "0123456789")) rfl T.c_DIGITS ⟨_, rfl⟩) rfl) (pss_cons (ps_set (i := 4) sc_read_token.nd rfl (Or.inl rfl) (pe_slice sl_str (pv 0) (po_some (pv 2)) (po_some (pe_call (ok_run_end T) (hr.mono (by decide)) rfl T.m_run_end T.F_run_end.kp (b_run_end T) .nil pass0 (pa_cons (pv 0) (pa_cons (pv 2) (pa_cons (pe_glob (v := V.str (Str.ofString "0123456789")) rfl T.c_DIGITS ⟨_, rfl⟩) pa_nil)))))))
      (pss_cons (ps_if (PW.pt (pw_or (pt_cmpR op_gt (pe_callB call_len_str (by rfl) T.z_len (by decide +kernel) (pa_cons (pv 4) pa_nil)) (pe_glob (v := V.int 2) rfl T.c_MAX_DIGITS ⟨_, rfl⟩) (nomark _)) (pw_or1 (PW.pt (pw_and (pt_cmpR op_gt (pe_callB call_len_str (by rfl) T.z_len (by decide +kernel) (pa_cons (pv 4) pa_nil)) pe_int (nomark _)) (pw_and1 (pt_cmpR op_eq (pv 3) pe_str (nomark _)))))))) pss_never pss_nil)
      (pss_one (ps_ret (pe_make T.mk_Token (ok_Token_init T) (hr.mono (by decide)) (by rfl) T.m_Token (b_Token_init T) .nil pass0 (pa_cons (pe_glob (v := V.str (Str.ofString "number")) rfl T.c_NUMBER ⟨_, rfl⟩) (pa_cons (pv 4) (pa_cons (pv 1) (pa_cons (pv 2) pa_nil))))))))) pss_nil)
      (pss_cons (ps_set (i := 4) sc_read_token.nd rfl (Or.inl rfl) (pe_slice sl_str (pv 0) (po_some (pv 2)) (po_some (pe_call (ok_run_end T) (hr.mono (by decide)) rfl T.m_run_end T.F_run_end.kp (b_run_end T) .nil pass0 (pa_cons (pv 0) (pa_cons (pv 2) (pa_cons (pe_glob (v := V.str (Str.ofString "abcdefghijklmnopqrstuvwxyz")) rfl T.c_LETTERS ⟨_, rfl⟩) pa_nil)))))))
      (pss_cons (ps_if (pt_cmpR op_in_seq (pv 4) (pe_glob (v := V.ref a.A_KEYWORDS) rfl T.c_KEYWORDS rfl) rfl) (pss_one (ps_ret (pe_make T.mk_Token (ok_Token_init T) (hr.mono (by decide)) (by rfl) T.m_Token (b_Token_init T) .nil pass0 (pa_cons (pe_glob (v := V.str (Str.ofString "keyword")) rfl T.c_KEYWORD ⟨_, rfl⟩) (pa_cons (pv 4) (pa_cons (pv 1) (pa_cons (pv 2) pa_nil))))))) pss_nil)
      (pss_cons (ps_if (pt_not (pt_chain op_le op_le pe_int (pe_callB call_len_str (by rfl) T.z_len (by decide +kernel) (pa_cons (pv 4) pa_nil)) (pe_glob (v := V.int 8) rfl T.c_MAX_LETTERS_lexer ⟨_, rfl⟩))) pss_never pss_nil)
      (pss_one (ps_ret (pe_make T.mk_Token (ok_Token_init T) (hr.mono (by decide)) (by rfl) T.m_Token (b_Token_init T) .nil pass0 (pa_cons (pe_glob (v := V.str (Str.ofString "name")) rfl T.c_NAME ⟨_, rfl⟩) (pa_cons (pv 4) (pa_cons (pv 1) (pa_cons (pv 2) pa_nil))))))))))))), ?_⟩
    have hz : row.length ≤ sizeLine := small 3000 (by rw [len_tl]; exact hl) (by decide)
    generalize hd : (tl row).drop c = rem at hR
    -- the first sign
    have start : ∀ ch r, rem = ch :: r → (tl row)[c]? = some ch := fun ch r e => by
      have h1 : ((tl row).drop c)[0]? = some ch := by rw [hd, e]; rfl
      rw [List.getElem?_drop] at h1
      exact h1
    -- the word that is cut
    have cut : ∀ (S : Str) (t r : List Nat), rem = t ++ r → (∀ x ∈ t, x ∈ tl S) → HeadNot (tl S) r → tl (cutS row (some (c : Int)) (some ((c + runL (tl S) ((tl row).drop c) : Nat) : Int))) = t := fun S t r e h1 h2 => by
      have e1 : runL (tl S) ((tl row).drop c) = t.length := by rw [hd, e]; exact runL_app h1 h2
      have e2 : c + t.length ≤ (tl row).length := by
        have := congrArg List.length (hd.trans e)
        rw [List.length_drop, List.length_append] at this
        omega
      rw [e1, cut_run e2, hd, e, List.take_left]
    cases hR with
    | @sign ch r hs =>
      refine ⟨_, rfl, _, rfl, row, _, ch, rfl, rfl, hz, atI_nat (start _ _ rfl), ?_⟩
      refine ⟨_, rfl, _, _, rfl, rfl, _, rfl, ite_t (decide_eq_true hs) ?_⟩
      refine ⟨_, rfl, _, rfl, _, rfl, fun x dx nx nd ne => init_go rfl ?_⟩
      exact k _ _ _ ((Ext.refl hGH).make nx nd ne _) (same_make nx nd ne _) (tok_mk (k := .sign) rfl rfl)
    | @num t r hne hdg hle h0 hr0 =>
      obtain ⟨ch, t', rfl⟩ : ∃ ch t', t = ch :: t' := by cases t with | nil => exact absurd rfl hne | cons x y => exact ⟨x, y, rfl⟩
      have hch := hdg ch (by simp)
      refine ⟨_, rfl, _, rfl, row, _, ch, rfl, rfl, hz, atI_nat (start _ _ rfl), ?_⟩
      refine ⟨_, rfl, _, _, rfl, rfl, _, rfl, ite_f (decide_eq_false (sgn_no_dig hch)) ?_⟩
      refine ⟨_, rfl, _, _, rfl, rfl, _, rfl, ite_t (decide_eq_true hch) ?_⟩
      refine ⟨_, rfl, _, rfl, _, rfl, _, rfl, _, rfl, ⟨row, c, digS, rfl, hc, hl, _, rfl, row, rfl, hz, ?_⟩⟩
      have hw := cut digS (ch :: t') rest rfl hdg hr0
      dsimp only [gName]
      revert hw
      generalize cutS row (some (c : Int)) (some ((c + runL (tl digS) ((tl row).drop c) : Nat) : Int)) = word
      intro hw
      have wl : word.length ≤ 2 := by rw [len_tl, hw]; exact hle
      have wz : word.length ≤ sizeLine := small 2 wl (by decide)
      refine ⟨_, rfl, word, rfl, wz, _, _, rfl, rfl, _, rfl, ite_f (decide_eq_false (by omega)) ?_⟩
      have fin : ∀ H' : Hp, H' = H → (tRet (tMake a.C_Token (spInit a.C_Token ["kind", "text", "line", "column"]) [] E0 (tCons (tC (.str (Str.ofString "number"))) (tCons (tVar 4) (tCons (tVar 1) (tCons (tVar 2) tNil)))))) { nx := fun _ H' => Q .non H', rt := Q } [some (.str row), some (.int l), some (.int c), some (.str ⟨#[ch]⟩), some (.str word)] H' := by
        rintro H' rfl
        refine ⟨_, rfl, _, rfl, _, rfl, fun x dx nx nd ne => init_go rfl ?_⟩
        exact k _ _ _ ((Ext.refl hGH).make nx nd ne _) (same_make nx nd ne _) (tok_mk (k := .number) rfl hw)
      refine ⟨_, rfl, word, rfl, wz, _, _, rfl, rfl, _, rfl, ?_⟩
      refine ite2 (fun q => ?_) (fun q => ?_)
      · have q1 : 1 < (ch :: t').length := by
          have := of_decide_eq_true q
          rw [len_tl, hw] at this
          exact_mod_cast this
        refine ⟨_, rfl, rfl, _, rfl, ite_f (decide_eq_false fun z => ?_) (fin H rfl)⟩
        injection z with z
        have z1 : [ch] = tl (Str.ofString "0") := by rw [← z]
        have z2 : tl (Str.ofString "0") = [48] := by decide +kernel
        rw [z2] at z1
        injection z1 with z1
        exact h0 q1 (by rw [z1]; rfl)
      · exact ite_f rfl (fin H rfl)
    | @kw t r hlt hkw hr0 =>
      obtain ⟨ch, t', rfl⟩ : ∃ ch t', t = ch :: t' := by cases t with | nil => exact absurd rfl (kw_ne _ hkw) | cons x y => exact ⟨x, y, rfl⟩
      have hch := hlt ch (by simp)
      refine ⟨_, rfl, _, rfl, row, _, ch, rfl, rfl, hz, atI_nat (start _ _ rfl), ?_⟩
      refine ⟨_, rfl, _, _, rfl, rfl, _, rfl, ite_f (decide_eq_false (sgn_no_let hch)) ?_⟩
      refine ⟨_, rfl, _, _, rfl, rfl, _, rfl, ite_f (decide_eq_false (dig_no_let hch)) ?_⟩
      refine ⟨_, rfl, _, rfl, _, rfl, _, rfl, _, rfl, ⟨row, c, letS, rfl, hc, hl, _, rfl, row, rfl, hz, ?_⟩⟩
      have hw := cut letS (ch :: t') rest rfl hlt hr0
      dsimp only [gName]
      revert hw
      generalize cutS row (some (c : Int)) (some ((c + runL (tl letS) ((tl row).drop c) : Nat) : Int)) = word
      intro hw
      have hk : word ∈ kwS := mem_tl.mpr (by rw [hw]; exact hkw)
      refine ⟨_, rfl, a.A_KEYWORDS, kwS.map V.str, rfl, .inr (T.q_KEYWORDS H), rfl, strs_flat _, _, rfl, ite_t ?_ ?_⟩
      · rw [if_neg Bool.false_ne_true, in_strs]; exact decide_eq_true hk
      refine ⟨_, rfl, _, rfl, _, rfl, fun x dx nx nd ne => init_go rfl ?_⟩
      exact k _ _ _ ((Ext.refl hGH).make nx nd ne _) (same_make nx nd ne _) (tok_mk (k := .keyword) rfl hw)
    | @nm t r hlt h1 h8 hkw hr0 =>
      obtain ⟨ch, t', rfl⟩ : ∃ ch t', t = ch :: t' := by cases t with | nil => exact absurd h1 (by decide) | cons x y => exact ⟨x, y, rfl⟩
      have hch := hlt ch (by simp)
      refine ⟨_, rfl, _, rfl, row, _, ch, rfl, rfl, hz, atI_nat (start _ _ rfl), ?_⟩
      refine ⟨_, rfl, _, _, rfl, rfl, _, rfl, ite_f (decide_eq_false (sgn_no_let hch)) ?_⟩
      refine ⟨_, rfl, _, _, rfl, rfl, _, rfl, ite_f (decide_eq_false (dig_no_let hch)) ?_⟩
      refine ⟨_, rfl, _, rfl, _, rfl, _, rfl, _, rfl, ⟨row, c, letS, rfl, hc, hl, _, rfl, row, rfl, hz, ?_⟩⟩
      have hw := cut letS (ch :: t') rest rfl hlt hr0
      dsimp only [gName]
      revert hw
      generalize cutS row (some (c : Int)) (some ((c + runL (tl letS) ((tl row).drop c) : Nat) : Int)) = word
      intro hw
      have hk : ¬ word ∈ kwS := fun z => hkw (by rw [← hw]; exact mem_tl.mp z)
      have wl : word.length ≤ 8 := by rw [len_tl, hw]; exact h8
      have wl1 : 1 ≤ word.length := by rw [len_tl, hw]; exact h1
      have wz : word.length ≤ sizeLine := small 8 wl (by decide)
      refine ⟨_, rfl, a.A_KEYWORDS, kwS.map V.str, rfl, .inr (T.q_KEYWORDS H), rfl, strs_flat _, _, rfl, ite_f ?_ ?_⟩
      · rw [if_neg Bool.false_ne_true, in_strs]; exact decide_eq_false hk
      refine ⟨_, rfl, word, rfl, wz, _, _, rfl, rfl, _, rfl, ite_t (decide_eq_true (by omega)) ⟨_, _, rfl, rfl, _, rfl, ?_⟩⟩
      refine ite_f (by rw [decide_eq_true (show ((word.length : Nat) : Int) ≤ 8 by omega)]; rfl) ?_
      refine ⟨_, rfl, _, rfl, _, rfl, fun x dx nx nd ne => init_go rfl ?_⟩
      exact k _ _ _ ((Ext.refl hGH).make nx nd ne _) (same_make nx nd ne _) (tok_mk (k := .name) rfl hw)
end
end Sb

namespace Sb
open PySem PySem.Spec PyProof.Rows L2 TL
/-! ### within a def that changes nothing that stood -/
structure Pt (G0 H0 G H : Hp) : Prop where
  ext : Ext G0 H0 G H
  sm : Same H0 H
section
variable {G0 H0 G H G1 H1 : Hp} {p l x dx : Addr} {o : HO}
theorem Pt.start (s : Same G H) : Pt G H G H := ⟨Ext.refl s, Same.refl H⟩
theorem Pt.new (a : Pt G0 H0 G H) (np : H p = none) (o : HO) : Pt G0 H0 (upd G p o) (upd H p o) := ⟨a.ext.new np, a.sm.trans (same_new np)⟩
theorem Pt.lay (a : Pt G0 H0 G H) (np : H p = none) (o : HO) : Pt G0 H0 G (upd H p o) := ⟨a.ext.lay np, a.sm.trans (same_new np)⟩
theorem Pt.put (a : Pt G0 H0 G H) (n0 : H0 l = none) (n : G l = none) (o : HO) : Pt G0 H0 G (upd H l o) := ⟨a.ext.put n, same_put a.sm n0⟩
theorem Pt.freeze (a : Pt G0 H0 G H) (n0 : H0 l = none) (h : H l = some o) : Pt G0 H0 (upd G l o) H := ⟨a.ext.freeze n0 h, a.sm⟩
theorem Pt.make (a : Pt G0 H0 G H) (nx : H x = none) (nd : H dx = none) (ne : dx ≠ x) (o : HO) : Pt G0 H0 (upd (upd G dx (.own x)) x o) (upd (upd H dx (.own x)) x o) := ⟨a.ext.make nx nd ne o, a.sm.trans (same_make nx nd ne o)⟩
theorem Pt.call (a : Pt G0 H0 G H) (e : Ext G H G1 H1) (s : Same H H1) : Pt G0 H0 G1 H1 := ⟨a.ext.trans e, a.sm.trans s⟩
theorem Pt.s (a : Pt G0 H0 G H) : Same G H := a.ext.h
theorem Pt.g (a : Pt G0 H0 G H) : Same G0 G := a.ext.g
theorem Pt.free (a : Pt G0 H0 G H) (np : H p = none) : H0 p = none := Same.free a.sm np
theorem Pt.freeG (a : Pt G0 H0 G H) (np : H p = none) : G p = none := Same.free a.ext.h np
theorem frozen (n : G l = none) : Same G (upd G l o) := same_new n
/-- what is not data stays so through a call -/
theorem out_call (e : Ext G H G1 H1) (n : G l = none) (h : H l = some o) : G1 l = none := e.out n h
end
theorem init_go2 {C x dx : Addr} {fs : List Str} {us : List V} {H : Hp} {Q : VK} {E : XK} (h : us.length = fs.length) (k : Q .non (upd (upd H dx (.own x)) x (.ins C dx (fs.zip us)))) :
    spInit C fs (.ref x :: us) (upd (upd H dx (.own x)) x (.ins C dx [])) Q E :=
  ⟨⟨x, dx, us, rfl, h, upd_same, by rw [upd_upd]; exact k⟩⟩
theorem paired_get {α β : Type} {F : α → β → Prop} : ∀ {l : List α} {m : List β} {i : Nat} {x : α}, Paired F l m → l[i]? = some x → ∃ y, m[i]? = some y ∧ F x y
  | _, _, _, _, .nil, e => by simp at e
  | _, _, 0, _, .cons r _, e => by simp at e; subst e; exact ⟨_, rfl, r⟩
  | _, _, i + 1, y, .cons _ t, e => by
    obtain ⟨u, h1, h2⟩ := paired_get (i := i) (x := y) t (by simpa using e)
    exact ⟨u, by simpa using h1, h2⟩
theorem flat_take {α : Type} {l : List (List α)} {i : Nat} {x : List α} (h : l[i]? = some x) : (l.take (i + 1)).flatten = (l.take i).flatten ++ x := by
  rw [take_more h, List.flatten_append]
  simp
theorem flat_le {α : Type} : ∀ (l : List (List α)) (i : Nat), (l.take i).flatten.length ≤ l.flatten.length
  | [], i => by simp
  | x :: r, 0 => by simp
  | x :: r, i + 1 => by
    have := flat_le r i
    simp only [List.take_succ_cons, List.flatten_cons, List.length_append]
    omega
/-- a row's tokens with their columns -/
inductive LxC : Nat → List Nat → List (Tk × Nat) → Prop
  | nil {c : Nat} : LxC c [] []
  | sp {c : Nat} {r : List Nat} {ts : List (Tk × Nat)} : LxC (c + 1) r ts → LxC c (32 :: r) ts
  | tok {c : Nat} {l r : List Nat} {tk : Tk} {ts : List (Tk × Nat)} : Rd l tk r → LxC (c + tk.t.length) r ts → LxC c l ((tk, c) :: ts)
theorem Lx.col {l : List Nat} {ts : List Tk} (h : Lx l ts) : ∀ c : Nat, ∃ qs, LxC c l qs ∧ qs.map (·.1) = ts := by
  induction h with
  | nil => exact fun c => ⟨[], .nil, rfl⟩
  | sp _ ih => exact fun c => (ih (c + 1)).imp fun qs h => ⟨.sp h.1, h.2⟩
  | tok hr _ ih => exact fun c => let ⟨qs, h1, h2⟩ := ih (c + _); ⟨_, .tok hr h1, by rw [List.map_cons, h2]⟩
def posT : Nat → List (List (Tk × Nat)) → List (Tk × Nat × Nat)
  | _, [] => []
  | i, q :: qs => q.map (fun z => (z.1, i, z.2)) ++ posT (i + 1) qs
theorem posT_take : ∀ {qss : List (List (Tk × Nat))} {i k : Nat} {q : List (Tk × Nat)}, qss[i]? = some q → posT k (qss.take (i + 1)) = posT k (qss.take i) ++ q.map (fun z => (z.1, k + i, z.2))
  | x :: r, 0, k, q, h => by
    cases h
    simp [posT]
  | x :: r, i + 1, k, q, h => by
    have ih := posT_take (qss := r) (i := i) (k := k + 1) h
    rw [List.take_succ_cons, List.take_succ_cons]
    unfold posT
    rw [ih, List.append_assoc, show k + 1 + i = k + (i + 1) from by omega]
theorem posT_fst : ∀ {qss : List (List (Tk × Nat))} {k : Nat}, (posT k qss).map (·.1) = (qss.map fun q => q.map (·.1)).flatten
  | [], _ => rfl
  | q :: qs, k => by
    unfold posT
    rw [List.map_append, List.map_cons, List.flatten_cons, posT_fst, List.map_map]
    rfl
theorem posT_le {qss : List (List (Tk × Nat))} (i : Nat) : (posT 0 (qss.take i)).length ≤ (posT 0 qss).length := by
  have e : ∀ {qs : List (List (Tk × Nat))} {k : Nat}, (posT k qs).length = ((qs.map fun q => q.map (·.1)).flatten).length := fun {qs k} => by rw [← posT_fst (k := k), List.length_map]
  rw [e, e, List.map_take]
  exact flat_le _ _
/-- .. with every token's place -/
structure spTokenizeP (C : Addr) (vs : List V) (H : Hp) (Q : VK) (E : XK) : Prop where
  ex : ∃ (src : Str) (G : Hp) (rows : List (List Nat)) (qss : List (List (Tk × Nat))), vs = [.str src] ∧ tl src = joinL [10] rows ∧ rows ≠ [] ∧ (∀ r ∈ rows, 10 ∉ r) ∧ (∀ r ∈ rows, r.length ≤ 3000) ∧ (tl src).length ≤ 3000000 ∧ Paired (LxC 0) rows qss ∧ (posT 0 qss).length ≤ 100000 ∧
    Pure G H Q (fun G' v => ∃ p vs, v = .ref p ∧ G' p = some (.lst vs) ∧ ToksP C G' vs (posT 0 qss ++ [(⟨.fin, []⟩, rows.length, 0)]))
structure spTokenize (C : Addr) (vs : List V) (H : Hp) (Q : VK) (E : XK) : Prop where
  ex : ∃ (src : Str) (G : Hp) (rows : List (List Nat)) (tss : List (List Tk)), vs = [.str src] ∧ tl src = joinL [10] rows ∧ rows ≠ [] ∧ (∀ r ∈ rows, 10 ∉ r) ∧ (∀ r ∈ rows, r.length ≤ 3000) ∧ (tl src).length ≤ 3000000 ∧ Paired Lx rows tss ∧ tss.flatten.length ≤ 100000 ∧
    Pure G H Q (fun G' v => ∃ p vs, v = .ref p ∧ G' p = some (.lst vs) ∧ ToksAt C G' vs (tss.flatten ++ [⟨.fin, []⟩]))
theorem rd_len {l r : List Nat} {k : Tk} (h : Rd l k r) : l = k.t ++ r ∧ k.t ≠ [] := by
  cases h with
  | sign h => exact ⟨rfl, by simp⟩
  | num h => exact ⟨rfl, h⟩
  | kw _ h => exact ⟨rfl, kw_ne _ h⟩
  | @nm t _ _ h => exact ⟨rfl, fun z => by cases t with | nil => exact absurd h (by decide) | cons _ _ => cases z⟩
theorem nsp_rd {c : Nat} {l r : List Nat} {k : Tk} (h : Rd (c :: l) k r) : c ∉ tl spcS := by
  have hs : c ∈ tl sgnS ∨ c ∈ tl digS ∨ c ∈ tl letS := by
    generalize e : c :: l = m at h
    cases h with
    | @sign d r h => injection e with e1 e2; subst e1; exact .inl h
    | @num t r hne h =>
      cases t with
      | nil => exact absurd rfl hne
      | cons x y => injection e with e1 e2; subst e1; exact .inr (.inl (h c (by simp)))
    | @kw t r h hk =>
      cases t with
      | nil => exact absurd rfl (kw_ne _ hk)
      | cons x y => injection e with e1 e2; subst e1; exact .inr (.inr (h c (by simp)))
    | @nm t r h h1 =>
      cases t with
      | nil => simp at h1
      | cons x y => injection e with e1 e2; subst e1; exact .inr (.inr (h c (by simp)))
  rw [mem_sgn, mem_dig, mem_let] at hs
  rw [spc_list]
  simp
  omega
section
variable {P : Program} {w : World} {K : PySem.W.Frag} {mg : Str → Option Value} {base : Heap} {a : Ad}
theorem ok_tokenizeP (T : Txt K mg a) : FnOk P w K mg base CX0 4 a.f_tokenize a.d_tokenize ["source"] (spTokenizeP a.C_Token) := by
  refine T.F_tokenize.ok sc_tokenize (fun vs H Q E h => ?_) (fun cdv A outer s H vs Q E hr h => ?_)
  · obtain ⟨⟨src, G, rows, qss, rfl, _⟩⟩ := h
    rfl
  · obtain ⟨⟨src, G, rows, qss, rfl, hsrc, hne, hno, hrl, hsl, hP, hfl, hGH, k⟩⟩ := h
    refine ⟨_, (pss_cons (ps_set (i := 1) sc_tokenize.nd rfl (Or.inl rfl) (pe_lst pa_nil))
      (pss_cons (ps_set (i := 2) sc_tokenize.nd rfl (Or.inl rfl) (pe_split (pv 0) pe_str))
      (pss_cons (ps_for PassesOwn.never rfl (pi_enum (by rfl) T.z_enumerate (pa_cons (pv 2) pa_nil)) (pg_tup (by rfl) (pgs_cons (pg_name (i := 3) sc_tokenize.nd rfl (Or.inl rfl)) (pgs_cons (pg_name (i := 4) sc_tokenize.nd rfl (Or.inl rfl)) pgs_nil))) (pss_cons (ps_set (i := 5) sc_tokenize.nd rfl (Or.inl rfl) pe_int)
      (pss_one (ps_while PassesOwn.never (pt_cmpR op_lt (pv 5) (pe_callB call_len_str (by rfl) T.z_len (by decide +kernel) (pa_cons (pv 4) pa_nil)) (nomark _)) (pss_one (ps_if (pt_cmpR op_in_sign (pe_ix ix_str (pv 4) (pv 5) (fun _ _ => rfl)) (pe_glob (v := V.str (Str.ofString " \n")) rfl T.c_SPACES ⟨_, rfl⟩) rfl) (pss_one (ps_aug (i := 5) sc_tokenize.nd rfl (Or.inl rfl) pe_int ip_add)) (pss_cons (ps_set (i := 6) sc_tokenize.nd rfl (Or.inl rfl) (pe_call (ok_read_token T) (hr.mono (by decide)) rfl T.m_read_token T.F_read_token.kp (b_read_token T) .nil pass0 (pa_cons (pv 4) (pa_cons (pv 3) (pa_cons (pv 5) pa_nil)))))
      (pss_cons (ps_expr (pe_bm PySem.F.plainAttrs_list PySem.F.slot_list_append PySem.F.type_list_append mt_append (pv 1) (pa_cons (pv 6) pa_nil)))
      (pss_one (ps_aug (i := 5) sc_tokenize.nd rfl (Or.inl rfl) (pe_callB call_len_str (by rfl) T.z_len (by decide +kernel) (pa_cons (pe_fld (pv 6) rfl) pa_nil)) ip_add))))))))))
      (pss_one (ps_ret (pe_op op_cat (pv 1) (pe_lst (pa_cons (pe_make T.mk_Token (ok_Token_init T) (hr.mono (by decide)) (by rfl) T.m_Token (b_Token_init T) .nil pass0 (pa_cons (pe_glob (v := V.str (Str.ofString "end")) rfl T.c_END ⟨_, rfl⟩) (pa_cons pe_str (pa_cons (pe_callB call_len_seq (by rfl) T.z_len (by decide +kernel) (pa_cons (pv 2) pa_nil)) (pa_cons pe_int pa_nil))))) pa_nil)))))))), ?_⟩
    refine ⟨Nat.zero_le _, fun l hl => ?_⟩
    have B1 := (Pt.start hGH).lay hl (.lst [])
    have lG : G l = none := Same.free hGH hl
    refine ⟨_, rfl, ⟨_, rfl⟩, src, _, rfl, rfl, by decide +kernel, small 3000002 (by rw [len_tl]; omega) (by decide), fun rp hrp => ?_⟩
    have hrs : (Txt.split src (Str.ofString "\n")).map tl = rows := by
      rw [split_spl _ _ (by rw [t_nl]; decide) (kind_ok (by decide +kernel)), t_nl, hsrc, spl_join hne hno]
    revert hrs
    generalize Txt.split src (Str.ofString "\n") = rs at *
    intro hrs
    have B2 := B1.new hrp (.lst (rs.map V.str))
    have lrp : l ≠ rp := ne_of_none upd_same hrp
    have hlen : rs.length = rows.length := by rw [← hrs, List.length_map]
    have hlen2 : qss.length = rows.length := (Paired.len hP).symm
    refine ⟨_, rfl, rp, _, rfl, SqL.of upd_same, for_it (walk_enum (K := K) (a := rp) (xs := rs.map V.str)) (fun i σ H' => ∃ (G' : Hp) (vs : List V) (v3 v4 v5 v6 : Option V), σ = [some (.str src), some (.ref l), some (.ref rp), v3, v4, v5, v6] ∧ Pt G H G' H' ∧ G' l = none ∧ G' rp = some (.lst (rs.map V.str)) ∧ H' l = some (.lst vs) ∧ ToksP a.C_Token G' vs (posT 0 (qss.take i))) ?_ ?_ ?_ ?_⟩
    · refine ⟨_, [], none, none, none, none, rfl, B2, ?_, upd_same, ?_, .nil⟩
      · rw [upd_ne lrp]; exact lG
      · rw [upd_ne lrp, upd_same]
    · rintro i σ H' _ ⟨G', vs, v3, v4, v5, v6, rfl, B, _, hrp', _⟩
      exact SqL.of (B.s _ _ hrp')
    · rintro i y σ H1 H2 hi ⟨G', vs, v3, v4, v5, v6, rfl, B, lG', hrp', hvs, htk⟩ ⟨T', x, z, rfl, hT', rfl, hx, hz⟩
      rw [List.length_map] at hi
      cases hx
      obtain ⟨row, hrow, rfl⟩ : ∃ row, rs[i]? = some row ∧ z = .str row := by
        have hz : (rs.map V.str)[i]? = some z := hz
        rw [List.getElem?_map] at hz
        cases e : rs[i]? with
        | none => rw [e] at hz; cases hz
        | some q => rw [e] at hz; exact ⟨q, rfl, (Option.some.inj hz).symm⟩
      have hrow2 : rows[i]? = some (tl row) := by rw [← hrs, List.getElem?_map, hrow]; rfl
      have hr30 : (tl row).length ≤ 3000 := hrl _ (List.mem_of_getElem? hrow2)
      obtain ⟨ts, hts, hLx⟩ := paired_get hP hrow2
      have hz' : row.length ≤ sizeLine := small 3000 (by rw [len_tl]; exact hr30) (by decide)
      have B3 := B.lay hT' (.tup [.int (i : Nat), .str row])
      have lT : l ≠ T' := ne_of_none hvs hT'
      refine ⟨T', _, rfl, SqT.of upd_same, rfl, _, _, rfl, _, _, rfl, rfl, ?_⟩
      -- the row
      refine while_by (fun σ H' => ∃ (c : Nat) (G' : Hp) (vs : List V) (done rem : List (Tk × Nat)) (v6 : Option V), σ = [some (.str src), some (.ref l), some (.ref rp), some (.int (i : Nat)), some (.str row), some (.int c), v6] ∧ Pt G H G' H' ∧ G' l = none ∧ G' rp = some (.lst (rs.map V.str)) ∧ H' l = some (.lst vs) ∧
          ToksP a.C_Token G' vs (posT 0 (qss.take i) ++ done.map (fun z => (z.1, i, z.2))) ∧ ts = done ++ rem ∧ c ≤ (tl row).length ∧ LxC c ((tl row).drop c) rem)
        (fun σ _ => match σ with | [_, _, _, _, _, some (.int e), _] => (tl row).length - e.toNat | _ => 0)
        ⟨0, G', vs, [], ts, _, rfl, B3, lG', hrp', by rw [upd_ne lT]; exact hvs, by rw [List.map_nil, List.append_nil]; exact htk, rfl, Nat.zero_le _, hLx⟩ ?_ ?_
      · rintro σ H3 ⟨c, G3, vs3, done, rem, w6, rfl, C3, lG3, hrp3, hvs3, htk3, hdr, hc, hL⟩
        refine ⟨_, rfl, _, rfl, row, rfl, hz', _, _, rfl, rfl, _, rfl, ?_⟩
        refine ite2 (fun q => ?_) (fun q => ?_)
        · have q1 : c < (tl row).length := by
            have := of_decide_eq_true q
            rw [len_tl] at this
            omega
          have q2 : (tl row)[c]? = some ((tl row)[c]) := List.getElem?_eq_getElem q1
          have q3 : (tl row).drop c = (tl row)[c] :: (tl row).drop (c + 1) := List.drop_eq_getElem_cons q1
          refine ⟨_, rfl, _, rfl, row, _, (tl row)[c], rfl, rfl, hz', atI_nat q2, _, _, rfl, rfl, _, rfl, ?_⟩
          have hL0 := hL
          rw [q3] at hL0
          generalize hch : (tl row)[c] = ch at hL0 q3 ⊢
          cases hL0 with
          | sp hL1 =>
            refine ite_t (decide_eq_true (show 32 ∈ tl spcS by rw [spc_list]; decide)) ?_
            refine ⟨_, rfl, _, _, rfl, rfl, ⟨c + 1, G3, vs3, done, rem, _, rfl, C3, lG3, hrp3, hvs3, htk3, hdr, by omega, hL1⟩, ?_⟩
            show (tl row).length - ((c : Int) + 1).toNat < (tl row).length - ((c : Int)).toNat
            omega
          | @tok _ _ r tk rem' hR hL1 =>
            refine ite_f (decide_eq_false (nsp_rd hR)) ?_
            obtain ⟨hsp, hnt⟩ := rd_len hR
            have hR' : Rd ((tl row).drop c) tk r := by rw [q3]; exact hR
            refine ⟨_, rfl, _, rfl, _, rfl, ⟨row, i, c, G3, tk, r, rfl, by omega, hr30, hR', C3.s, fun G4 H4 v e4 s4 htok => ?_⟩⟩
            have C4 := C3.call e4 s4
            have hvs4 : H4 l = some (.lst vs3) := s4 _ _ hvs3
            have lG4 : G4 l = none := e4.out lG3 hvs3
            obtain ⟨p, dx, rfl, hp⟩ := id htok
            have hpH : H4 p = some (.ins a.C_Token dx (tokF tk i c)) := e4.h _ _ hp
            have lp : p ≠ l := ne_of_none hp lG4
            have hsz : vs3.length ≤ 100000 := by
              rw [Paired.len htk3, List.length_append, List.length_map]
              have h1 := posT_le (qss := qss) (i + 1)
              rw [posT_take hts, List.length_append, List.length_map, hdr, List.length_append] at h1
              omega
            refine ⟨_, rfl, .inl ⟨rfl, _, SqL.of hvs4⟩, _, rfl, l, _, _, rfl, rfl, hvs4, smaller 100000 hsz (by decide), ?_⟩
            have htl : tk.t.length + c ≤ (tl row).length := by
              have := congrArg List.length (q3.trans hsp)
              rw [List.length_drop, List.length_append] at this
              omega
            have hpos : 1 ≤ tk.t.length := by
              cases e : tk.t with
              | nil => exact absurd e hnt
              | cons _ _ => simp
            have ecol : (c : Int) + ((mkS tk.t).length : Int) = ((c + tk.t.length : Nat) : Int) := by rw [len_mkS]; omega
            refine ⟨_, rfl, _, rfl, p, _, dx, _, _, rfl, by rw [upd_ne lp]; exact hpH, T.cl_Token, T.n_Token_text, (by kernel_rfl), mkS tk.t, rfl, small 3000 (by rw [len_mkS]; omega) (by decide), _, _, rfl, rfl, ?_⟩
            refine ⟨⟨c + tk.t.length, G4, vs3 ++ [.ref p], done ++ [(tk, c)], rem', some (.ref p), ?_, C4.put hl lG4 _, lG4, e4.g _ _ hrp3, upd_same, ?_, ?_, by omega, ?_⟩, ?_⟩
            · show [some (V.str src), some (.ref l), some (.ref rp), some (.int (i : Nat)), some (.str row), some (.int ((c : Int) + ((mkS tk.t).length : Int))), some (.ref p)] = _
              rw [ecol]
            · rw [List.map_append, ← List.append_assoc]
              exact Paired.snoc (ToksP.mono e4.g htk3) htok
            · rw [hdr, List.append_assoc]; rfl
            · have : (tl row).drop (c + tk.t.length) = r := by
                rw [← List.drop_drop, q3, hsp, List.drop_left]
              rw [this]
              exact hL1
            · show (tl row).length - ((c : Int) + ((mkS tk.t).length : Int)).toNat < (tl row).length - ((c : Int)).toNat
              rw [ecol]
              omega
        · have q1 : ¬ (c : Int) < ((row.length : Nat) : Int) := fun z => q (decide_eq_true z)
          rw [len_tl] at q1
          have ec : (tl row).drop c = [] := List.drop_eq_nil_of_le (by omega)
          rw [ec] at hL
          have er : rem = [] := by
            generalize e0 : ([] : List Nat) = m at hL
            cases hL with
            | nil => rfl
            | sp _ => cases e0
            | tok hR _ =>
              obtain ⟨h1, h2⟩ := rd_len hR
              rw [← e0] at h1
              exact absurd (List.append_eq_nil_iff.mp h1.symm).1 h2
          refine ⟨G3, vs3, _, _, _, _, rfl, C3, lG3, hrp3, hvs3, ?_⟩
          rw [posT_take hts, hdr, er, List.append_nil, Nat.zero_add]
          exact htk3
      · intro σ H Q Q' hq h
        obtain ⟨v, hv, x, hx, z, e, hz, i, j, e1, e2, b, e3, h⟩ := h
        exact ⟨v, hv, x, hx, z, e, hz, i, j, e1, e2, b, e3, hq _ _ h⟩
    · rintro σ H3 ⟨G3, vs3, v3, v4, v5, v6, rfl, C3, lG3, hrp3, hvs3, htk3⟩
      rw [List.length_map, hlen, ← hlen2, List.take_length] at htk3
      refine ⟨_, rfl, _, rfl, rp, _, rfl, .inl (SqL.of (C3.s _ _ hrp3)), fun x dx nx nd ne => init_go2 rfl ⟨rfl, ?_⟩⟩
      have C4 := C3.make nx nd ne (.ins a.C_Token dx ((["kind", "text", "line", "column"] : List Str).zip [.str (kS .fin), .str (Str.ofString ""), .int ((rs.map V.str).length : Nat), .int ((0 : Nat) : Int)]))
      have lx : l ≠ x := ne_of_none hvs3 nx
      have ldx : l ≠ dx := ne_of_none hvs3 nd
      refine ⟨(by show 1 ≤ sizeLine; decide), fun p1 hp1 => ?_⟩
      have C5 := C4.lay hp1 (.lst [.ref x])
      have lp1 : l ≠ p1 := fun e => by rw [← e, upd_ne lx, upd_ne ldx, hvs3] at hp1; cases hp1
      have hsz : vs3.length ≤ 100000 := by rw [Paired.len htk3]; exact hfl
      refine ⟨l, p1, vs3, _, rfl, rfl, by rw [upd_ne lp1, upd_ne lx, upd_ne ldx]; exact hvs3, upd_same, small 100001 (by show vs3.length + 1 ≤ _; omega) (by decide), fun p2 hp2 => ?_⟩
      have C6 := C5.new hp2 (.lst (vs3 ++ [.ref x]))
      refine k _ _ _ C6.ext C6.sm ⟨p2, _, rfl, upd_same, Paired.snoc (ToksP.mono ((same_make (C3.freeG nx) (C3.freeG nd) ne _).trans (same_new (C5.freeG hp2))) htk3) (by rw [← hlen, ← List.length_map (f := V.str)]; exact TokP.mono (same_new (C5.freeG hp2)) (tok_mk (c := 0) (k := .fin) rfl t_e))⟩
theorem ok_tokenize (T : Txt K mg a) : FnOk P w K mg base CX0 4 a.f_tokenize a.d_tokenize ["source"] (spTokenize a.C_Token) :=
  (ok_tokenizeP T).imp fun vs H Q E h => by
    obtain ⟨⟨src, G, rows, tss, rfl, h1, h2, h3, h4, h5, hP, hl, hGH, k⟩⟩ := h
    have cols : ∀ {rows : List (List Nat)} {tss : List (List Tk)}, Paired Lx rows tss → ∃ qss : List (List (Tk × Nat)), Paired (LxC 0) rows qss ∧ qss.map (fun q => q.map (·.1)) = tss := fun {rows tss} h => by
      induction h with
      | nil => exact ⟨[], .nil, rfl⟩
      | cons r _ ih =>
        obtain ⟨qs, z1, z2⟩ := r.col 0
        obtain ⟨qss, z3, z4⟩ := ih
        exact ⟨qs :: qss, .cons z1 z3, by rw [List.map_cons, z2, z4]⟩
    obtain ⟨qss, q1, q2⟩ := cols hP
    have e : (posT 0 qss).map (·.1) = tss.flatten := by rw [posT_fst, q2]
    refine ⟨⟨src, G, rows, qss, rfl, h1, h2, h3, h4, h5, q1, by rw [← List.length_map (f := (·.1)), e]; exact hl, hGH, fun G' H' v x s ⟨p, vs, ev, hp, hv⟩ => k G' H' v x s ⟨p, vs, ev, hp, ?_⟩⟩⟩
    have z := hv.toks
    rw [List.map_append, e] at z
    exact z
end
end Sb

namespace Sb
open PySem PySem.Spec PyProof.Rows L2
/-! ### what the robots do, in plain Lean -/
structure Sit where
  cs : List Nat
  ns : List Nat
  hs : List Bool
  sh : List Nat
  deriving DecidableEq
def stepsOf (x : Pl) (i : Nat) : List Step := if i = 0 then x.p else x.q
/-- the number of what is done: a word's, or 8 for blocked -/
def actP (x : Pl) (s : Sit) (i : Nat) : Nat × Sit :=
  let st := (stepsOf x i).getD (s.ns.getD i 0) ⟨4, none⟩
  let c := s.cs.getD i 0
  let h := s.hs.getD i false
  let b := s.sh.getD c 0
  let go (c' : Nat) (h' : Bool) (sh' : List Nat) : Nat × Sit :=
    let n' := if st.w = 5 ∨ (st.w = 6 ∧ sh'.getD c' 0 = 0) ∨ (st.w = 7 ∧ h' = true) then st.g.getD 0 else (s.ns.getD i 0 + 1) % (stepsOf x i).length
    (st.w, ⟨s.cs.set i c', s.ns.set i n', s.hs.set i h', sh'⟩)
  match st.w with
  | 0 => if c = 0 ∨ c - 1 ∈ s.cs then (8, s) else go (c - 1) h s.sh
  | 1 => if s.sh.length ≤ c + 1 ∨ c + 1 ∈ s.cs then (8, s) else go (c + 1) h s.sh
  | 2 => if h = true ∨ b = 0 then (8, s) else go c true (s.sh.set c (b - 1))
  | 3 => if h = false ∨ 3 ≤ b then (8, s) else go c false (s.sh.set c (b + 1))
  | _ => go c h s.sh
def tickP (x : Pl) (s : Sit) : (Nat × Nat) × Sit :=
  let a := actP x s 0
  let b := actP x a.2 1
  ((a.1, b.1), b.2)
def sit0 (x : Pl) : Sit := ⟨[x.a, x.b], [0, 0], [false, false], x.shelf⟩
def sitAt (x : Pl) : Nat → Sit
  | 0 => sit0 x
  | n + 1 => (tickP x (sitAt x n)).2
structure SitOk (x : Pl) (s : Sit) : Prop where
  c2 : s.cs.length = 2
  n2 : s.ns.length = 2
  h2 : s.hs.length = 2
  len : s.sh.length = x.shelf.length
  b3 : ∀ n ∈ s.sh, n ≤ 3
  cl : ∀ i, i < 2 → s.cs.getD i 0 < s.sh.length
  ne : s.cs.getD 0 0 ≠ s.cs.getD 1 0
  nl : ∀ i, i < 2 → s.ns.getD i 0 < (stepsOf x i).length
theorem sit0_ok {x : Pl} (h : x.Ok) : SitOk x (sit0 x) := by
  refine ⟨rfl, rfl, rfl, rfl, h.b3, fun i hi => ?_, h.ne, fun i hi => ?_⟩
  · match i, hi with
    | 0, _ => exact h.ha
    | 1, _ => exact h.hb
    | i + 2, hi => exact absurd hi (by omega)
  · match i, hi with
    | 0, _ => exact h.p.pos
    | 1, _ => exact h.q.pos
    | i + 2, hi => exact absurd hi (by omega)
theorem getD_set {α : Type} {l : List α} {i j : Nat} {v d : α} (hi : i < l.length) : (l.set i v).getD j d = if j = i then v else l.getD j d := by
  rw [List.getD_eq_getElem?_getD, List.getD_eq_getElem?_getD]
  by_cases h : j = i
  · subst h
    rw [if_pos rfl, List.getElem?_set_self hi]
    rfl
  · rw [if_neg h, List.getElem?_set_ne (Ne.symm h)]
theorem mem_cs {s : Sit} (h : s.cs.length = 2) {n : Nat} : n ∈ s.cs ↔ n = s.cs.getD 0 0 ∨ n = s.cs.getD 1 0 := by
  match hc : s.cs, h with
  | [a, b], _ => simp
/-- a state after a step that is done -/
theorem go_ok {x : Pl} {s : Sit} {i c' n' : Nat} {h' : Bool} {sh' : List Nat} (o : SitOk x s) (hi : i < 2) (hc : c' < s.sh.length) (hne : ∀ j, j < 2 → j ≠ i → s.cs.getD j 0 ≠ c') (hn : n' < (stepsOf x i).length) (hl : sh'.length = s.sh.length) (hb : ∀ n ∈ sh', n ≤ 3) :
    SitOk x ⟨s.cs.set i c', s.ns.set i n', s.hs.set i h', sh'⟩ := by
  have i1 : i < s.cs.length := by rw [o.c2]; exact hi
  have i2 : i < s.ns.length := by rw [o.n2]; exact hi
  refine ⟨by rw [List.length_set]; exact o.c2, by rw [List.length_set]; exact o.n2, by rw [List.length_set]; exact o.h2, hl.trans o.len, hb, fun j hj => ?_, ?_, fun j hj => ?_⟩
  · show (s.cs.set i c').getD j 0 < sh'.length
    rw [getD_set i1, hl]
    split
    · exact hc
    · exact o.cl j hj
  · show (s.cs.set i c').getD 0 0 ≠ (s.cs.set i c').getD 1 0
    rw [getD_set i1, getD_set i1]
    match i, hi with
    | 0, _ => exact fun e => hne 1 (by decide) (by decide) e.symm
    | 1, _ => exact fun e => hne 0 (by decide) (by decide) e
    | i + 2, hi => exact absurd hi (by omega)
  · show (s.ns.set i n').getD j 0 < _
    rw [getD_set i2]
    by_cases h : j = i
    · rw [if_pos h, h]; exact hn
    · rw [if_neg h]; exact o.nl j hj
theorem steps_ok {x : Pl} (h : x.Ok) (i : Nat) : StepsOk (stepsOf x i) := by
  unfold stepsOf
  split
  · exact h.p
  · exact h.q
theorem act_ok {x : Pl} {s : Sit} {i : Nat} (hx : x.Ok) (o : SitOk x s) (hi : i < 2) : SitOk x (actP x s i).2 := by
  have so := steps_ok hx i
  have nl := o.nl i hi
  have cl := o.cl i hi
  have hpos := so.pos
  have hst : (stepsOf x i).getD (s.ns.getD i 0) ⟨4, none⟩ ∈ stepsOf x i := by
    rw [List.getD_eq_getElem?_getD, List.getElem?_eq_getElem nl]
    exact List.getElem_mem _
  have ok := so.all _ hst
  unfold actP
  generalize (stepsOf x i).getD (s.ns.getD i 0) ⟨4, none⟩ = st at ok
  have hb3 : s.sh.getD (s.cs.getD i 0) 0 ≤ 3 := by
    rw [List.getD_eq_getElem?_getD, List.getElem?_eq_getElem cl]
    exact o.b3 _ (List.getElem_mem _)
  have hn : ∀ (p : Prop) [Decidable p], (p → 5 ≤ st.w) → (if p then st.g.getD 0 else (s.ns.getD i 0 + 1) % (stepsOf x i).length) < (stepsOf x i).length := fun p _ hp => by
    split
    · rename_i hp'
      obtain ⟨k, e, hk⟩ := ok.yes (hp hp')
      rw [e]
      exact hk
    · exact Nat.mod_lt _ (by omega)
  have other : ∀ j, j < 2 → j ≠ i → s.cs.getD j 0 ≠ s.cs.getD i 0 := fun j hj hji => by
    match i, hi, j, hj with
    | 0, _, 0, _ => exact absurd rfl hji
    | 0, _, 1, _ => exact fun e => o.ne e.symm
    | 1, _, 0, _ => exact o.ne
    | 1, _, 1, _ => exact absurd rfl hji
  have mem : ∀ j, j < 2 → s.cs.getD j 0 ∈ s.cs := fun j hj => by
    rw [mem_cs o.c2]
    match j, hj with
    | 0, _ => exact .inl rfl
    | 1, _ => exact .inr rfl
  have setb : ∀ v, v ≤ 3 → ∀ n ∈ s.sh.set (s.cs.getD i 0) v, n ≤ 3 := fun v hv n hn => by
    rcases List.mem_or_eq_of_mem_set hn with h | h
    · exact o.b3 n h
    · rw [h]; exact hv
  have gp : ∀ {sh' : List Nat} {c' : Nat} {h' : Bool}, (st.w = 5 ∨ (st.w = 6 ∧ sh'.getD c' 0 = 0) ∨ (st.w = 7 ∧ h' = true)) → 5 ≤ st.w := fun h => by
    rcases h with h | h | h <;> omega
  dsimp only
  split
  · split
    · exact o
    · rename_i hc
      simp only [not_or] at hc
      exact go_ok o hi (by omega) (fun j hj hji e => hc.2 (by rw [← e]; exact mem j hj)) (hn _ gp) rfl o.b3
  · split
    · exact o
    · rename_i hc
      simp only [not_or] at hc
      exact go_ok o hi (by omega) (fun j hj hji e => hc.2 (by rw [← e]; exact mem j hj)) (hn _ gp) rfl o.b3
  · split
    · exact o
    · exact go_ok o hi cl other (hn _ gp) (List.length_set ..) (setb _ (by omega))
  · split
    · exact o
    · rename_i hc
      simp only [not_or] at hc
      exact go_ok o hi cl other (hn _ gp) (List.length_set ..) (setb _ (by omega))
  · exact go_ok o hi cl other (hn _ gp) rfl o.b3
theorem tick_ok {x : Pl} {s : Sit} (hx : x.Ok) (o : SitOk x s) : SitOk x (tickP x s).2 := act_ok hx (act_ok hx o (by decide)) (by decide)
theorem sitAt_ok {x : Pl} (hx : x.Ok) : ∀ n, SitOk x (sitAt x n)
  | 0 => sit0_ok hx
  | n + 1 => tick_ok hx (sitAt_ok hx n)
end Sb

namespace Sb
open PySem PySem.Spec PyProof.Rows L2
/-! ### when a state comes again -/
theorem sit_shift {x : Pl} {i j : Nat} (h : sitAt x i = sitAt x j) : ∀ k, sitAt x (i + k) = sitAt x (j + k)
  | 0 => h
  | k + 1 => by
    show (tickP x (sitAt x (i + k))).2 = (tickP x (sitAt x (j + k))).2
    rw [sit_shift h k]
theorem sit_rounds {x : Pl} {i p : Nat} (h : sitAt x i = sitAt x (i + p)) : ∀ m, sitAt x i = sitAt x (i + p * m)
  | 0 => rfl
  | m + 1 => by
    have := sit_shift h (p * m)
    rw [Nat.mul_succ, ← sit_rounds h m] at *
    rw [this]
    congr 1
    omega
/-- from the start i on all repeats after n - i ticks -/
theorem sit_mod {x : Pl} {i n t : Nat} (hin : i < n) (h : sitAt x i = sitAt x n) (ht : i ≤ t) : sitAt x t = sitAt x (i + (t - i) % (n - i)) := by
  have h' : sitAt x i = sitAt x (i + (n - i)) := by rw [h]; congr 1; omega
  have r := sit_rounds h' ((t - i) / (n - i))
  have s := sit_shift r ((t - i) % (n - i))
  rw [s]
  congr 1
  have := Nat.div_add_mod (t - i) (n - i)
  omega
/-- the first n states differ, the n-th is the one at i -/
structure Cyc (x : Pl) (i n : Nat) : Prop where
  lt : i < n
  eq : sitAt x i = sitAt x n
  nd : ∀ j k, j < n → k < n → sitAt x j = sitAt x k → j = k
theorem Cyc.uniq {x : Pl} {i n i' n' : Nat} (a : Cyc x i n) (b : Cyc x i' n') : i = i' ∧ n = n' := by
  have hn : n = n' := by
    rcases Nat.lt_trichotomy n n' with h | h | h
    · have := b.nd i n (by have := a.lt; omega) h a.eq
      have := a.lt
      omega
    · exact h
    · have := a.nd i' n' (by have := b.lt; omega) h b.eq
      have := b.lt
      omega
  subst hn
  exact ⟨a.nd i i' a.lt b.lt (a.eq.trans b.eq.symm), rfl⟩
end Sb

namespace Sb
open PySem PySem.Spec PyProof.Rows L2
/-! ### one step, way by way -/
def stOf (x : Pl) (s : Sit) (i : Nat) : Step := (stepsOf x i).getD (s.ns.getD i 0) ⟨4, none⟩
def cOf (s : Sit) (i : Nat) : Nat := s.cs.getD i 0
abbrev jumpP (x : Pl) (s : Sit) (i : Nat) (hs' : List Bool) (sh' : List Nat) : Prop := (stOf x s i).w = 5 ∨ ((stOf x s i).w = 6 ∧ sh'.getD (cOf s i) 0 = 0) ∨ ((stOf x s i).w = 7 ∧ hs'.getD i false = true)
def nextP (x : Pl) (s : Sit) (i : Nat) (hs' : List Bool) (sh' : List Nat) : Nat := if jumpP x s i hs' sh' then (stOf x s i).g.getD 0 else (s.ns.getD i 0 + 1) % (stepsOf x i).length
def finP (x : Pl) (s : Sit) (i : Nat) (cs' : List Nat) (hs' : List Bool) (sh' : List Nat) : Nat × Sit := ((stOf x s i).w, ⟨cs', s.ns.set i (nextP x s i hs' sh'), hs', sh'⟩)
theorem set_same {α : Type} {l : List α} {i : Nat} {d : α} : l.set i (l.getD i d) = l := by
  by_cases h : i < l.length
  · rw [List.getD_eq_getElem?_getD, List.getElem?_eq_getElem h]
    exact List.set_getElem_self h
  · rw [List.set_eq_of_length_le (by omega)]
section
variable {x : Pl} {s : Sit} {i : Nat}
theorem act_left (h : (stOf x s i).w = 0) : actP x s i = if cOf s i = 0 ∨ cOf s i - 1 ∈ s.cs then (8, s) else finP x s i (s.cs.set i (cOf s i - 1)) s.hs s.sh := by
  unfold actP finP nextP jumpP cOf
  unfold stOf at h ⊢
  generalize (stepsOf x i).getD (s.ns.getD i 0) ⟨4, none⟩ = st at h ⊢
  obtain ⟨w, g⟩ := st
  dsimp only at h
  subst h
  dsimp only
  simp only [set_same, show ¬ ((0 : Nat) = 5) by decide, show ¬ ((0 : Nat) = 6) by decide, show ¬ ((0 : Nat) = 7) by decide, false_and, false_or, or_false, if_false]
theorem act_right (h : (stOf x s i).w = 1) : actP x s i = if s.sh.length ≤ cOf s i + 1 ∨ cOf s i + 1 ∈ s.cs then (8, s) else finP x s i (s.cs.set i (cOf s i + 1)) s.hs s.sh := by
  unfold actP finP nextP jumpP cOf
  unfold stOf at h ⊢
  generalize (stepsOf x i).getD (s.ns.getD i 0) ⟨4, none⟩ = st at h ⊢
  obtain ⟨w, g⟩ := st
  dsimp only at h
  subst h
  dsimp only
  simp only [set_same, show ¬ ((1 : Nat) = 5) by decide, show ¬ ((1 : Nat) = 6) by decide, show ¬ ((1 : Nat) = 7) by decide, false_and, false_or, or_false, if_false]
theorem act_pick (h : (stOf x s i).w = 2) : actP x s i = if s.hs.getD i false = true ∨ s.sh.getD (cOf s i) 0 = 0 then (8, s) else finP x s i s.cs (s.hs.set i true) (s.sh.set (cOf s i) (s.sh.getD (cOf s i) 0 - 1)) := by
  unfold actP finP nextP jumpP cOf
  unfold stOf at h ⊢
  generalize (stepsOf x i).getD (s.ns.getD i 0) ⟨4, none⟩ = st at h ⊢
  obtain ⟨w, g⟩ := st
  dsimp only at h
  subst h
  dsimp only
  simp only [set_same, show ¬ ((2 : Nat) = 5) by decide, show ¬ ((2 : Nat) = 6) by decide, show ¬ ((2 : Nat) = 7) by decide, false_and, false_or, or_false, if_false]
theorem act_put (h : (stOf x s i).w = 3) : actP x s i = if s.hs.getD i false = false ∨ 3 ≤ s.sh.getD (cOf s i) 0 then (8, s) else finP x s i s.cs (s.hs.set i false) (s.sh.set (cOf s i) (s.sh.getD (cOf s i) 0 + 1)) := by
  unfold actP finP nextP jumpP cOf
  unfold stOf at h ⊢
  generalize (stepsOf x i).getD (s.ns.getD i 0) ⟨4, none⟩ = st at h ⊢
  obtain ⟨w, g⟩ := st
  dsimp only at h
  subst h
  dsimp only
  simp only [set_same, show ¬ ((3 : Nat) = 5) by decide, show ¬ ((3 : Nat) = 6) by decide, show ¬ ((3 : Nat) = 7) by decide, false_and, false_or, or_false, if_false]
theorem act_else (h : 4 ≤ (stOf x s i).w) : actP x s i = finP x s i s.cs s.hs s.sh := by
  unfold actP finP nextP jumpP cOf
  unfold stOf at h ⊢
  dsimp only
  split
  · omega
  · omega
  · omega
  · omega
  · rw [set_same, set_same]
end
theorem st_mem {x : Pl} {s : Sit} {i : Nat} (o : SitOk x s) (hi : i < 2) : (stepsOf x i)[s.ns.getD i 0]? = some (stOf x s i) ∧ stOf x s i ∈ stepsOf x i := by
  have nl := o.nl i hi
  have e : (stepsOf x i)[s.ns.getD i 0]? = some (stOf x s i) := by
    unfold stOf
    rw [List.getD_eq_getElem?_getD (l := stepsOf x i), List.getElem?_eq_getElem nl]
    rfl
  exact ⟨e, List.mem_of_getElem? e⟩
theorem st_ok {x : Pl} {s : Sit} {i : Nat} (hx : x.Ok) (o : SitOk x s) (hi : i < 2) : Step.Ok (stepsOf x i).length (stOf x s i) := (steps_ok hx i).all _ (st_mem o hi).2
theorem next_lt {x : Pl} {s : Sit} {i : Nat} {hs' : List Bool} {sh' : List Nat} (hx : x.Ok) (o : SitOk x s) (hi : i < 2) : nextP x s i hs' sh' < (stepsOf x i).length := by
  have ok := st_ok hx o hi
  have pos := (steps_ok hx i).pos
  unfold nextP
  split
  · rename_i h
    have h5 : 5 ≤ (stOf x s i).w := by unfold jumpP at h; rcases h with h | h | h <;> omega
    obtain ⟨k, e, hk⟩ := ok.yes h5
    rw [e]; exact hk
  · exact Nat.mod_lt _ (by omega)
/-- the other robot's cell -/
theorem mem_other {x : Pl} {s : Sit} {i n : Nat} (o : SitOk x s) (hi : i < 2) (hn : n ≠ cOf s i) : n ∈ s.cs ↔ n = s.cs.getD (1 - i) 0 := by
  rw [mem_cs o.c2]
  unfold cOf at hn
  match i, hi with
  | 0, _ => exact ⟨fun h => h.resolve_left hn, .inr⟩
  | 1, _ => exact ⟨fun h => h.resolve_right hn, .inl⟩
/-! ### what is done, as a text -/
def doS (w : Nat) : Str := if w = 8 then "blocked" else wS w
theorem doS8 : doS 8 = "blocked" := rfl
theorem doS_lt {w : Nat} (h : w < 8) : doS w = wS w := if_neg (by omega)
theorem act_w {x : Pl} {s : Sit} {i : Nat} (hx : x.Ok) (o : SitOk x s) (hi : i < 2) : (actP x s i).1 ≤ 8 := by
  have w8 := (st_ok hx o hi).w8
  match h : (stOf x s i).w with
  | 0 => rw [act_left h]; split; exact Nat.le_refl 8; show (stOf x s i).w ≤ 8; omega
  | 1 => rw [act_right h]; split; exact Nat.le_refl 8; show (stOf x s i).w ≤ 8; omega
  | 2 => rw [act_pick h]; split; exact Nat.le_refl 8; show (stOf x s i).w ≤ 8; omega
  | 3 => rw [act_put h]; split; exact Nat.le_refl 8; show (stOf x s i).w ≤ 8; omega
  | n + 4 => rw [act_else (by omega)]; show (stOf x s i).w ≤ 8; omega
/-! ### a state as data of the law: four lists -/
def natsD (l : List Nat) : PyData := .list (l.map natD)
def boolsD (l : List Bool) : PyData := .list (l.map PyData.bool)
def sitL (s : Sit) : PyData := .list [natsD s.cs, natsD s.ns, boolsD s.hs, natsD s.sh]
def wordsD (w : Nat × Nat) : PyData := .tuple [.str (doS w.1), .str (doS w.2)]
abbrev nV (l : List Nat) : List V := l.map fun n : Nat => V.int n
abbrev bV (l : List Bool) : List V := l.map V.bl
section
variable {K : PySem.W.Frag} {G : Hp}
theorem bools_D (l : List Bool) : DpAll K G (bV l) (l.map PyData.bool) := by
  induction l with
  | nil => exact .nil
  | cons n l ih => exact .cons (.bl _) ih
theorem bools_inv : ∀ {l : List Bool} {vs : List V}, DpAll K G vs (l.map PyData.bool) → vs = bV l
  | [], _, .nil => rfl
  | _ :: _, _, .cons h t => by rw [Dp.bool_inv h, bools_inv t]; rfl
theorem nats_D' (l : List Nat) : DpAll K G (nV l) (l.map natD) := by
  induction l with
  | nil => exact .nil
  | cons n l ih => exact .cons (.int _) ih
theorem nats_inv' : ∀ {l : List Nat} {vs : List V}, DpAll K G vs (l.map natD) → vs = nV l
  | [], _, .nil => rfl
  | _ :: _, _, .cons h t => by rw [Dp.int_inv h, nats_inv' t]; rfl
theorem natsD_inv {l : List Nat} {v : V} (h : Dp K G v (natsD l)) : ∃ a, v = .ref a ∧ SqL K G a (nV l) := by
  obtain ⟨a, xs, e, h1, h2⟩ := Dp.lst_inv h
  rw [nats_inv' h2] at h1
  exact ⟨a, e, h1⟩
theorem boolsD_inv {l : List Bool} {v : V} (h : Dp K G v (boolsD l)) : ∃ a, v = .ref a ∧ SqL K G a (bV l) := by
  obtain ⟨a, xs, e, h1, h2⟩ := Dp.lst_inv h
  rw [bools_inv h2] at h1
  exact ⟨a, e, h1⟩
theorem sitL_inv {s : Sit} {v : V} (h : Dp K G v (sitL s)) : ∃ a c n b e, v = .ref a ∧ SqL K G a [.ref c, .ref n, .ref b, .ref e] ∧ SqL K G c (nV s.cs) ∧ SqL K G n (nV s.ns) ∧ SqL K G b (bV s.hs) ∧ SqL K G e (nV s.sh) := by
  obtain ⟨a, xs, e, h1, h2⟩ := Dp.lst_inv h
  obtain ⟨v1, r, rfl, d1, h2⟩ := DpAll.cons_inv h2
  obtain ⟨v2, r, rfl, d2, h2⟩ := DpAll.cons_inv h2
  obtain ⟨v3, r, rfl, d3, h2⟩ := DpAll.cons_inv h2
  obtain ⟨v4, r, rfl, d4, h2⟩ := DpAll.cons_inv h2
  rw [DpAll.nil_inv h2] at h1
  obtain ⟨c, rfl, c1⟩ := natsD_inv d1
  obtain ⟨n, rfl, n1⟩ := natsD_inv d2
  obtain ⟨b, rfl, b1⟩ := boolsD_inv d3
  obtain ⟨f, rfl, f1⟩ := natsD_inv d4
  exact ⟨a, c, n, b, f, e, h1, c1, n1, b1, f1⟩
theorem sitL_mk {s : Sit} {a c n b e : Addr} (h : SqL K G a [.ref c, .ref n, .ref b, .ref e]) (h1 : SqL K G c (nV s.cs)) (h2 : SqL K G n (nV s.ns)) (h3 : SqL K G b (bV s.hs)) (h4 : SqL K G e (nV s.sh)) : Dp K G (.ref a) (sitL s) :=
  .lst h (.cons (.lst h1 (nats_D' _)) (.cons (.lst h2 (nats_D' _)) (.cons (.lst h3 (bools_D _)) (.cons (.lst h4 (nats_D' _)) .nil))))
end
theorem nV_at {l : List Nat} {i : Nat} (h : i < l.length) : (nV l)[i]? = some (.int (l.getD i 0 : Nat)) := by
  rw [List.getElem?_map, List.getElem?_eq_getElem h, List.getD_eq_getElem?_getD, List.getElem?_eq_getElem h]
  rfl
theorem bV_at {l : List Bool} {i : Nat} (h : i < l.length) : (bV l)[i]? = some (.bl (l.getD i false)) := by
  rw [List.getElem?_map, List.getElem?_eq_getElem h, List.getD_eq_getElem?_getD, List.getElem?_eq_getElem h]
  rfl
theorem nV_set {l : List Nat} {i n : Nat} : (nV l).set i (.int (n : Nat)) = nV (l.set i n) := by rw [nV, nV, List.map_set]
theorem bV_set {l : List Bool} {i : Nat} {b : Bool} : (bV l).set i (.bl b) = bV (l.set i b) := by rw [bV, bV, List.map_set]
end Sb

namespace Sb
open PySem PySem.Spec PyProof.Rows L2
/-! ### dicts whose keys are nested tuples -/
mutual
inductive Nk : PyData → NestedKey → Prop
  | int (i : Int) : Nk (.int i) (.num i)
  | bool (b : Bool) : Nk (.bool b) (.num (if b = true then 1 else 0))
  | none : Nk .none .none
  | text (x : Str) : Nk (.str x) (.text x)
  | tup {ds : List PyData} {ks : List NestedKey} : NkAll ds ks → Nk (.tuple ds) (.tup ks)
inductive NkAll : List PyData → List NestedKey → Prop
  | nil : NkAll [] []
  | cons {d : PyData} {k : NestedKey} {ds : List PyData} {ks : List NestedKey} : Nk d k → NkAll ds ks → NkAll (d :: ds) (k :: ks)
end
section
variable {X : Cx} {pins : List (Addr × Obj)} {σ : L2.St} {H : Hp} {s : Shared}
mutual
theorem nk_is (I : Inv X pins σ H s) : ∀ {d : PyData} {k : NestedKey} {v : V} {u : Value}, Nk d k → Dp X.K H v d → RelV v u → NestedIs s.heap k u
  | _, _, _, _, .int i, .int _, r => by obtain ⟨t, rfl⟩ := r; exact .int i t
  | _, _, _, _, .bool b, .bl _, r => by cases r; exact .bool rfl
  | _, _, _, _, .none, .non, r => by cases r; exact .none
  | _, _, _, _, .text x, .str _, r => by obtain ⟨t, rfl⟩ := r; exact .text x t
  | _, _, _, _, .tup h, .tup hs ha, r => by
    cases r
    obtain ⟨its, rv, ⟨o, e, c, n, hd⟩, _⟩ := I.tuple hs
    exact .tup e c hd (nk_all I h ha rv)
theorem nk_all (I : Inv X pins σ H s) : ∀ {ds : List PyData} {ks : List NestedKey} {vs : List V} {us : List Value}, NkAll ds ks → DpAll X.K H vs ds → Vals vs us → NestedAll s.heap ks us
  | _, _, _, _, .nil, .nil, .nil => .nil
  | _, _, _, _, .cons h t, .cons a b, .cons r q => .cons (nk_is I h a r) (nk_all I t b q)
end
end
abbrev Ents := List (NestedKey × Addr × V)
def EntR (p : NestedKey × Addr × V) (q : NestedKey × Addr × Value) : Prop := p.1 = q.1 ∧ p.2.1 = q.2.1 ∧ RelV p.2.2 q.2.2
def dNO (P : Program) (w : World) (a : Addr) (xs : Ents) : HO := .ext fun h => (a == sysModules) = false ∧ ∃ (ys : List (NestedKey × Addr × Value)) (o : Obj) (es : Array DictEntry) (ep : Nat), Paired EntR xs ys ∧
  h.get? a = some o ∧ o.ExactDict ∧ o.data = .dict es ep ∧ es.toList = ys.map (entryOfKey (nestedKind P w)) ∧ (ys.map (·.1)).Nodup
structure DN (P : Program) (w : World) (K : PySem.W.Frag) (H : Hp) (a : Addr) (xs : Ents) : Prop where
  at_ : H a = some (dNO P w a xs)
  ks : ∀ x ∈ xs, ∃ d, Dp K H (.ref x.2.1) d ∧ Nk d x.1 ∧ x.1.depth ≤ 8
theorem ent_keys : ∀ {xs : Ents} {ys : List (NestedKey × Addr × Value)}, Paired EntR xs ys → ys.map (·.1) = xs.map (·.1) ∧ ys.map (·.2.1) = xs.map (·.2.1)
  | _, _, .nil => ⟨rfl, rfl⟩
  | _, _, .cons r t => by
    obtain ⟨h1, h2⟩ := ent_keys t
    simp only [List.map_cons]
    exact ⟨by rw [h1, r.1], by rw [h2, r.2.1]⟩
theorem ent_mem : ∀ {xs : Ents} {ys : List (NestedKey × Addr × Value)} {y : NestedKey × Addr × Value}, Paired EntR xs ys → y ∈ ys → ∃ x ∈ xs, x.1 = y.1 ∧ x.2.1 = y.2.1
  | _, _, _, .cons r t, h => by
    rcases List.mem_cons.mp h with rfl | h
    · exact ⟨_, List.mem_cons_self, r.1, r.2.1⟩
    · obtain ⟨x, hx, e⟩ := ent_mem t h
      exact ⟨x, List.mem_cons_of_mem _ hx, e⟩
theorem atKey_some (ys : List (NestedKey × Addr × Value)) (k : NestedKey) : (atKey ys k).isSome = decide (k ∈ ys.map (·.1)) := by
  unfold atKey
  rw [Option.isSome_map]
  induction ys with
  | nil => rfl
  | cons y r ih =>
    rw [List.find?_cons]
    by_cases h : y.1 = k
    · simp [h]
    · have h' : ¬ k = y.1 := fun e => h e.symm
      simp only [h, decide_false, List.map_cons, List.mem_cons, h', false_or]
      exact ih
section
variable {X : Cx} {pins : List (Addr × Obj)} {σ : L2.St} {H : Hp} {s : Shared}
theorem dn_heap {a : Addr} {xs : Ents} (I : Inv X pins σ H s) (h : DN X.prog X.w X.K H a xs) : (a == sysModules) = false ∧ ∃ ys, Paired EntR xs ys ∧ s.heap.DictOfH (nestedKind X.prog X.w) a ys := by
  obtain ⟨⟨ha, ys, o, es, ep, r, h1, h2, h3, h4, h5⟩, _⟩ := (show ObjOk X.prog X.w H s.heap a (dNO X.prog X.w a xs) from I.hok a _ h.at_)
  refine ⟨ha, ys, r, o, es, ep, h1, h2, h3, h4, fun y hy => ?_, h5⟩
  obtain ⟨x, hx, e1, e2⟩ := ent_mem r hy
  obtain ⟨d, h6, h7, h8⟩ := h.ks x hx
  rw [← e1, ← e2]
  exact ⟨nk_is I h7 h6 rfl, h8⟩
theorem dn_ok {P : Program} {w : World} {H : Hp} {h : Heap} {a : Addr} {xs : Ents} {ys : List (NestedKey × Addr × Value)} (ha : (a == sysModules) = false) (r : Paired EntR xs ys) (hd : h.DictOfH (nestedKind P w) a ys) : ObjOk P w H h a (dNO P w a xs) := by
  obtain ⟨o, es, ep, h1, h2, h3, h4, _, h5⟩ := hd
  refine ⟨⟨ha, ys, o, es, ep, r, h1, h2, h3, h4, h5⟩, ⟨o, h1⟩, fun g1 g2 z k => ?_⟩
  obtain ⟨ha, ys, o, es, ep, r, h1, h2⟩ := z
  exact ⟨ha, ys, o, es, ep, r, k o h1, h2⟩
/-- {} -/
def tDNewN (P : Program) (w : World) : TE := fun _ H Q => ∀ p, H p = none → Q (.ref p) (upd H p (dNO P w p []))
theorem pe_dnewN {pos : Pos} : PE X (.Dict [] [] pos) (tDNewN X.prog X.w) := ⟨fun pins s σ H Q I h =>
  wpAny_Dict_empty ⟨.ref s.heap.objs.size, _, I.laid (a := s.heap.objs.size) (o := dNO X.prog X.w s.heap.objs.size []) (t' := s.toks) (fun _ _ q => Heap.get?_push_of_some _ q) (Nat.le_refl _) (dn_ok (beq_eq_false_iff_ne.mpr (Ne.symm (Nat.ne_of_lt I.big))) .nil (Heap.DictOfH.new s.heap)), rfl, h _ (I.hok.fresh (Nat.le_refl _))⟩⟩
/-- key in d -/
def rInN (P : Program) (w : World) (K : PySem.W.Frag) : R2 := fun x y H Q => ∃ (a b : Addr) (xs : Ents) (d : PyData) (k : NestedKey), x = .ref b ∧ y = .ref a ∧ DN P w K H a xs ∧ Dp K H (.ref b) d ∧ Nk d k ∧ k.depth ≤ 8 ∧ Q (.bl (decide (k ∈ xs.map (·.1)))) H
theorem op_inN (hu : X.A.units + 64 < cLine) : OpR X (compareOp .In) (rInN X.prog X.w X.K) := by
  intro pins s σ H x y v u Q I rx ry h
  obtain ⟨a, b, xs, d, k, rfl, rfl, hD, hd, hk, h8, q⟩ := h
  cases rx
  cases ry
  obtain ⟨ha, ys, r, hm⟩ := dn_heap I hD
  refine wpAny_in_heap (knd := nestedKind X.prog X.w) (k := k) (by show X.A.units + 1 + 8 < cLine; omega) ⟨nk_is I hk hd rfl, h8⟩ ha hm ?_
  rw [atKey_some, (ent_keys r).1]
  exact ⟨.bl _, H, I.tok _, rfl, q⟩
/-- d[key] = v, a new key -/
def rSetN (P : Program) (w : World) (K : PySem.W.Frag) : V → V → V → Hp → (Hp → Prop) → Prop := fun o i v H Q => ∃ (a b : Addr) (xs : Ents) (d : PyData) (k : NestedKey), o = .ref a ∧ i = .ref b ∧ DN P w K H a xs ∧ Dp K H (.ref b) d ∧ Nk d k ∧ k.depth ≤ 8 ∧
  k ∉ xs.map (·.1) ∧ xs.length ≤ sizeLine ∧ Q (upd H a (dNO P w a (xs ++ [(k, b, v)])))
theorem Paired.snocN {α β : Type} {F : α → β → Prop} : ∀ {l : List α} {m : List β} {x : α} {y : β}, Paired F l m → F x y → Paired F (l ++ [x]) (m ++ [y])
  | _, _, _, _, .nil, h => .cons h .nil
  | _, _, _, _, .cons r t, h => .cons r (Paired.snocN t h)
theorem set_newN (hu : X.A.units + 64 < cLine) : PSet X (rSetN X.prog X.w X.K) := by
  intro pins s σ H o i v ov iv u Q I ro ri rv h
  obtain ⟨a, b, xs, d, k, rfl, rfl, hD, hd, hk, h8, hno, hz, q⟩ := h
  cases ro
  cases ri
  obtain ⟨ha, ys, r, hm⟩ := dn_heap I hD
  refine wpAny_setItem_heap (knd := nestedKind X.prog X.w) (k := k) (by show X.A.units + 1 + 8 < cLine; omega) ⟨nk_is I hk hd rfl, h8⟩ hm (fun h' hm' hs => ⟨_, ?_, q⟩) (by rw [← Paired.length r]; exact hz)
  have hat : atKey ys k = none := by
    have := atKey_some ys k
    rw [(ent_keys r).1, decide_eq_false hno] at this
    cases e : atKey ys k with
    | none => rfl
    | some z => rw [e] at this; cases this
  rw [storedH_new hat] at hm'
  have new : ObjOk X.prog X.w (upd H a (dNO X.prog X.w a (xs ++ [(k, b, v)]))) h' a (dNO X.prog X.w a (xs ++ [(k, b, v)])) := dn_ok ha (Paired.snocN r ⟨rfl, rfl, rv⟩) hm'
  refine I.write (x := a) (e := a) (by rw [hD.at_]; exact trivial) (.inl rfl) (fun c o hc e => (hs.2 c hc).trans e) ?_ new
  obtain ⟨o, es, ep, e, _⟩ := hm'
  exact ⟨o, e⟩
theorem ent_at : ∀ {xs : Ents} {ys : List (NestedKey × Addr × Value)} {x : NestedKey × Addr × V}, Paired EntR xs ys → (xs.map (·.1)).Nodup → x ∈ xs → ∃ p, atKey ys x.1 = some p ∧ RelV x.2.2 p.2
  | x0 :: _, y0 :: _, x, .cons r t, hn, h => by
    unfold atKey
    rw [List.find?_cons]
    by_cases e : y0.1 = x.1
    · rw [decide_eq_true e]
      refine ⟨y0.2, rfl, ?_⟩
      rcases List.mem_cons.mp h with rfl | h
      · exact r.2.2
      · exfalso
        rw [List.map_cons, List.nodup_cons] at hn
        exact hn.1 (by rw [r.1, e]; exact List.mem_map.mpr ⟨x, h, rfl⟩)
    · rw [decide_eq_false e]
      rcases List.mem_cons.mp h with rfl | h
      · exact absurd r.1.symm e
      · rw [List.map_cons, List.nodup_cons] at hn
        exact ent_at t hn.2 h
/-- d[key], a key that is there -/
def tDGetN (P : Program) (w : World) (K : PySem.W.Frag) (td ty : TE) : TE := fun σ H Q => td σ H fun x H1 => ty σ H1 fun y H2 => ∃ (a b : Addr) (xs : Ents) (d : PyData) (z : NestedKey × Addr × V), x = .ref a ∧ y = .ref b ∧ DN P w K H2 a xs ∧ Dp K H2 (.ref b) d ∧ Nk d z.1 ∧ z.1.depth ≤ 8 ∧ z ∈ xs ∧ Q z.2.2 H2
theorem pe_dgetN {o i : Expr} {td ty : TE} {pos : Pos} (hu : X.A.units + 64 < cLine) (ho : PE X o td) (hi : PE X i ty) (hs : NoSl i) : PE X (.Subscript o i pos) (tDGetN X.prog X.w X.K td ty) := by
  refine ⟨fun pins s σ H Q I h => ?_⟩
  refine subD_of PySem.F.slot_dict_getitem.lookup hs (thn (ho.run pins s σ H _ I h) fun u s1 q => ?_)
  obtain ⟨x, H1, I1, rx, q1⟩ := q
  refine thn (hi.run pins s1 σ H1 _ I1 q1) fun iv s2 q => ?_
  obtain ⟨y, H2, I2, ry, a, b, xs, d, z, ex, ey, hD, hd, hk, h8, hz, q2⟩ := q
  subst ex
  subst ey
  obtain rfl : u = Value.ref a := rx
  obtain rfl : iv = Value.ref b := ry
  obtain ⟨ha, ys, r, hm⟩ := dn_heap I2 hD
  have hn : (xs.map (·.1)).Nodup := by
    obtain ⟨_, _, _, _, _, _, _, _, hn⟩ := hm
    rw [(ent_keys r).1] at hn
    exact hn
  obtain ⟨p, hp, rp⟩ := ent_at r hn hz
  exact ⟨hm.typeIs, wpAny_getItem_heap (knd := nestedKind X.prog X.w) (k := z.1) (by show X.A.units + 1 + 8 < cLine; omega) ⟨nk_is I2 hk hd rfl, h8⟩ hm hp ⟨z.2.2, H2, I2.tok _, rp, q2⟩⟩
end
end Sb

namespace Sb
open PySem PySem.Spec PyProof.Rows L2
/-! ### match over a text: case "a" | "b": .. case "c": .. -/
/-- a pattern of written texts: whether x is one of them -/
structure PatS (X : Cx) (p : Pattern) (ls : List Str) : Prop where
  run : ∀ (pins : List (Addr × Obj)) (s : Shared) (σ : L2.St) (H : Hp) (x : Str) (t : Tok) (Q : Option (List (Str × Value)) → Shared → Prop), Inv X pins σ H s →
    (∀ s', Inv X pins σ H s' → Q (if decide (x ∈ ls) = true then some [] else none) s') → wpAny (model X.prog X.w) X.A (matchPattern p X.env (.str x t)) Q X.xe s
structure CasesS (X : Cx) (cs : List MatchCase) (tc : Str → TS) : Prop where
  run : ∀ (pins : List (Addr × Obj)) (s : Shared) (σ : L2.St) (H : Hp) (D : Ends) (x : Str) (t : Tok) (b : Bool), Inv X pins σ H s → tc x D σ H →
    wpAny (model X.prog X.w) X.A (matchCases cs X.env (.str x t) b) (SP X pins D) X.xe s
section
variable {X : Cx}
theorem pat_val {y : Str} {j : Nat} {p1 p2 : Pos} : PatS X (.MatchValue (.Constant (.str y) j p1) p2) [y] := by
  refine ⟨fun pins s σ H x t Q I h => ?_⟩
  refine wpAny_matchPattern_Value (Calls.Constant_str (P.eq_str (wpAny_truthy_bool ?_)))
  have h' := h { s with toks := s.toks + 1 } (I.tok _)
  have e : (x.cps.toList == y.cps.toList) = decide (x ∈ [y]) := by
    by_cases q : x = y
    · subst q; simp
    · have : ¬ x.cps.toList = y.cps.toList := fun z => q (TL.ext_tl z)
      simp [q]
      intro z
      exact q (TL.ext_tl (congrArg Array.toList z))
  rw [e]
  cases hd : decide (x ∈ [y]) with
  | true => rw [hd] at h'; exact h'
  | false => rw [hd] at h'; exact h'
theorem pat_or {p q : Pattern} {ls ms : List Str} {pos : Pos} (hp : PatS X p ls) (hq : PatS X q ms) (hn : namesOfAll [p] = [] := by rfl) : PatS X (.MatchOr [p, q] pos) (ls ++ ms) := by
  refine ⟨fun pins s σ H x t Q I h => wpAny_matchPattern_Or (wpAny_matchFirst_cons (hp.run pins s σ H x t _ I fun s1 I1 => ?_))⟩
  have e : ((namesOfAll ([p, q].take 1)).filterMap fun n => (([] : List (Str × Value)).lookup n).map (n, ·)) = [] := by
    show ((namesOfAll [p]).filterMap _) = []
    rw [hn]
    rfl
  by_cases hl : x ∈ ls
  · rw [if_pos (decide_eq_true hl)]
    have h' := h s1 I1
    rw [if_pos (decide_eq_true (List.mem_append_left _ hl))] at h'
    show Q (some ((namesOfAll ([p, q].take 1)).filterMap fun n => (([] : List (Str × Value)).lookup n).map (n, ·))) s1
    rw [e]
    exact h'
  · rw [if_neg (fun z => hl (of_decide_eq_true z))]
    refine wpAny_matchFirst_cons (hq.run pins s1 σ H x t _ I1 fun s2 I2 => ?_)
    have h' := h s2 I2
    by_cases hm : x ∈ ms
    · rw [if_pos (decide_eq_true hm)]
      rw [if_pos (decide_eq_true (List.mem_append_right _ hm))] at h'
      show Q (some ((namesOfAll ([p, q].take 1)).filterMap fun n => (([] : List (Str × Value)).lookup n).map (n, ·))) s2
      rw [e]
      exact h'
    · rw [if_neg (fun z => hm (of_decide_eq_true z))]
      rw [if_neg (fun z => by have := of_decide_eq_true z; rcases List.mem_append.mp this with c | c; exact hl c; exact hm c)] at h'
      exact wpAny_matchFirst_nil h'
theorem cases_nil : CasesS X [] (fun _ => tNext) := ⟨fun pins s σ H D x t b I h => wpAny_matchCases_nil ⟨σ, H, I, h⟩⟩
theorem cases_cons {p : Pattern} {ls : List Str} {body : List Stmt} {tb : TS} {cs : List MatchCase} {tc : Str → TS} (hp : PatS X p ls) (hb : PSs X body tb) (hc : CasesS X cs tc) :
    CasesS X (⟨p, none, body⟩ :: cs) (fun x D σ H => if decide (x ∈ ls) = true then tb D σ H else tc x D σ H) := by
  refine ⟨fun pins s σ H D x t b I h => wpAny_matchCases_cons (hp.run pins s σ H x t _ I fun s' I' => ?_)⟩
  cases hd : decide (x ∈ ls) with
  | true =>
    rw [hd] at h
    exact wpAny_assignInOrder_none (hb.run pins s' σ H D I' h)
  | false =>
    rw [hd] at h
    exact hc.run pins s' σ H D x t false I' h
theorem ps_matchS {e : Expr} {te : TE} {cs : List MatchCase} {tc : Str → TS} {pos : Pos} (he : PE X e te) (hc : CasesS X cs tc) :
    PS X (.Match e cs pos) (fun D σ H => te σ H fun v H1 => ∃ x, v = .str x ∧ tc x D σ H1) := by
  refine ⟨fun pins s σ H D I h => wpAny_Match (thn (he.run pins s σ H _ I h) fun v s1 q => ?_)⟩
  obtain ⟨v', H1, I1, r1, x, e1, q⟩ := q
  subst e1
  obtain ⟨t, rfl⟩ := r1
  exact hc.run pins s1 σ H1 D x t true I1 q
end
end Sb

namespace Sb
open PySem PySem.Spec PyProof.Rows L2
/-! ### a state as a key: a tuple of four tuples -/
def natsT (l : List Nat) : PyData := .tuple (l.map natD)
def boolsT (l : List Bool) : PyData := .tuple (l.map PyData.bool)
def sitT (s : Sit) : PyData := .tuple [natsT s.cs, natsT s.ns, boolsT s.hs, natsT s.sh]
def nk1 (l : List Nat) : NestedKey := .tup (l.map fun n : Nat => .num n)
def nk2 (l : List Bool) : NestedKey := .tup (l.map fun b : Bool => .num (if b = true then 1 else 0))
def nkOf (s : Sit) : NestedKey := .tup [nk1 s.cs, nk1 s.ns, nk2 s.hs, nk1 s.sh]
theorem nk_nats : ∀ l : List Nat, NkAll (l.map natD) (l.map fun n : Nat => .num n)
  | [] => .nil
  | n :: l => .cons (.int _) (nk_nats l)
theorem nk_bools : ∀ l : List Bool, NkAll (l.map PyData.bool) (l.map fun b : Bool => .num (if b = true then 1 else 0))
  | [] => .nil
  | b :: l => .cons (.bool b) (nk_bools l)
theorem nk_sit (s : Sit) : Nk (sitT s) (nkOf s) := .tup (.cons (.tup (nk_nats _)) (.cons (.tup (nk_nats _)) (.cons (.tup (nk_bools _)) (.cons (.tup (nk_nats _)) .nil))))
theorem nk1_inj : ∀ {l m : List Nat}, (l.map fun n : Nat => NestedKey.num n) = (m.map fun n : Nat => NestedKey.num n) → l = m
  | [], [], _ => rfl
  | [], _ :: _, h => by cases h
  | _ :: _, [], h => by cases h
  | a :: l, b :: m, h => by
    rw [List.map_cons, List.map_cons] at h
    injection h with h1 h2
    injection h1 with h1
    rw [nk1_inj h2, show a = b by omega]
theorem nk2_inj : ∀ {l m : List Bool}, (l.map fun b : Bool => NestedKey.num (if b = true then 1 else 0)) = (m.map fun b : Bool => NestedKey.num (if b = true then 1 else 0)) → l = m
  | [], [], _ => rfl
  | [], _ :: _, h => by cases h
  | _ :: _, [], h => by cases h
  | a :: l, b :: m, h => by
    rw [List.map_cons, List.map_cons] at h
    injection h with h1 h2
    injection h1 with h1
    rw [nk2_inj h2]
    cases a <;> cases b <;> first | rfl | (simp at h1)
theorem nkOf_inj {s t : Sit} (h : nkOf s = nkOf t) : s = t := by
  unfold nkOf nk1 nk2 at h
  injection h with h
  injection h with h1 h
  injection h with h2 h
  injection h with h3 h
  injection h with h4 h
  injection h1 with h1
  injection h2 with h2
  injection h3 with h3
  injection h4 with h4
  obtain ⟨c, n, b, e⟩ := s
  obtain ⟨c', n', b', e'⟩ := t
  dsimp only at h1 h2 h3 h4
  rw [nk1_inj h1, nk1_inj h2, nk2_inj h3, nk1_inj h4]
theorem nk_depth (s : Sit) : (nkOf s).depth ≤ 8 := by
  have a : ∀ l : List Nat, NestedKey.depthAll (l.map fun n : Nat => NestedKey.num n) ≤ 1 := by
    intro l
    induction l with
    | nil => decide
    | cons n l ih => simp only [List.map_cons, NestedKey.depthAll, NestedKey.depth]; omega
  have b : ∀ l : List Bool, NestedKey.depthAll (l.map fun b : Bool => NestedKey.num (if b = true then 1 else 0)) ≤ 1 := by
    intro l
    induction l with
    | nil => decide
    | cons n l ih => simp only [List.map_cons, NestedKey.depthAll, NestedKey.depth]; omega
  have h1 := a s.cs
  have h2 := a s.ns
  have h3 := b s.hs
  have h4 := a s.sh
  unfold nkOf nk1 nk2
  simp only [NestedKey.depth, NestedKey.depthAll]
  omega
/-! ### the dict of the states met -/
structure DK (P : Program) (w : World) (K : PySem.W.Frag) (G H : Hp) (a : Addr) (xs : Ents) : Prop where
  at_ : H a = some (dNO P w a xs)
  out : G a = none
  ks : ∀ x ∈ xs, ∃ d, Dp K G (.ref x.2.1) d ∧ Nk d x.1 ∧ x.1.depth ≤ 8
section
variable {P : Program} {w : World} {K : PySem.W.Frag} {G G' H H' : Hp} {a b p : Addr} {xs : Ents} {o : HO}
theorem DK.dn (h : DK P w K G H a xs) (s : Same G H) : DN P w K H a xs := ⟨h.at_, fun x hx => by
  obtain ⟨d, h1, h2⟩ := h.ks x hx
  exact ⟨d, Dp.mono s _ _ h1, h2⟩⟩
theorem DK.grow (h : DK P w K G H a xs) (g : Same G G') (hp : ∀ o, H a = some o → H' a = some o) (n' : G' a = none) : DK P w K G' H' a xs := ⟨hp _ h.at_, n', fun x hx => by
  obtain ⟨d, h1, h2⟩ := h.ks x hx
  exact ⟨d, Dp.mono g _ _ h1, h2⟩⟩
theorem DK.put {s : Sit} {v : V} (h : DK P w K G H a xs) (hb : Dp K G (.ref b) (sitT s)) : DK P w K G (upd H a (dNO P w a (xs ++ [(nkOf s, b, v)]))) a (xs ++ [(nkOf s, b, v)]) := by
  refine ⟨upd_same, h.out, fun x hx => ?_⟩
  rcases List.mem_append.mp hx with h1 | h1
  · exact h.ks x h1
  · rw [List.mem_singleton.mp h1]
    exact ⟨_, hb, nk_sit s, nk_depth s⟩
end
/-- the states met so far, with what is stored beside each -/
def Met (x : Pl) (xs : Ents) (n : Nat) (f : Nat → V) : Prop := xs.length = n ∧ ∀ j, j < n → ∃ b, xs[j]? = some (nkOf (sitAt x j), b, f j)
theorem Met.keys {x : Pl} {xs : Ents} {n : Nat} {f : Nat → V} (h : Met x xs n f) (s : Sit) : nkOf s ∈ xs.map (·.1) ↔ ∃ j, j < n ∧ sitAt x j = s := by
  constructor
  · intro hm
    obtain ⟨e, he, h1⟩ := List.mem_map.mp hm
    obtain ⟨j, hj⟩ := List.getElem?_of_mem he
    have hjn : j < n := by rw [← h.1]; exact (List.getElem?_eq_some_iff.mp hj).1
    obtain ⟨b, hb⟩ := h.2 j hjn
    rw [hj] at hb
    cases hb
    exact ⟨j, hjn, nkOf_inj h1⟩
  · rintro ⟨j, hj, rfl⟩
    obtain ⟨b, hb⟩ := h.2 j hj
    exact List.mem_map.mpr ⟨_, List.mem_of_getElem? hb, rfl⟩
theorem Met.snoc {x : Pl} {xs : Ents} {n : Nat} {f : Nat → V} {b : Addr} (h : Met x xs n f) : Met x (xs ++ [(nkOf (sitAt x n), b, f n)]) (n + 1) f := by
  refine ⟨by rw [List.length_append, h.1]; rfl, fun j hj => ?_⟩
  by_cases hjn : j < n
  · obtain ⟨b', hb⟩ := h.2 j hjn
    exact ⟨b', by rw [List.getElem?_append_left (by rw [h.1]; exact hjn)]; exact hb⟩
  · have : j = n := by omega
    subst this
    exact ⟨b, by rw [List.getElem?_append_right (by rw [h.1]; exact Nat.le_refl _), h.1, Nat.sub_self]; rfl⟩
theorem Met.nil {x : Pl} {f : Nat → V} : Met x [] 0 f := ⟨rfl, fun j hj => by omega⟩
/-- no state twice among the first n -/
def Nod (x : Pl) (n : Nat) : Prop := ∀ j k, j < n → k < n → sitAt x j = sitAt x k → j = k
theorem Nod.zero {x : Pl} : Nod x 0 := fun j k h => by omega
theorem Nod.succ {x : Pl} {n : Nat} (h : Nod x n) (hn : ¬ ∃ j, j < n ∧ sitAt x j = sitAt x n) : Nod x (n + 1) := fun j k hj hk e => by
  by_cases h1 : j < n
  · by_cases h2 : k < n
    · exact h j k h1 h2 e
    · have : k = n := by omega
      subst this
      exact absurd ⟨j, h1, e⟩ hn
  · have : j = n := by omega
    subst this
    by_cases h2 : k < j
    · exact absurd ⟨k, h2, e.symm⟩ hn
    · omega
/-- the plan of two waits -/
def waits (x : Pl) : Pl := ⟨x.shelf, x.a, x.b, [⟨4, none⟩], [⟨4, none⟩]⟩
theorem waits_ok {x : Pl} (h : x.Ok) : (waits x).Ok := by
  have ok : StepsOk [⟨4, none⟩] := ⟨by decide, by decide, fun s hs => by
    rw [List.mem_singleton.mp hs]
    exact ⟨by decide, fun _ => rfl, fun h => absurd h (by decide)⟩⟩
  exact ⟨h.c3, h.c12, h.b3, h.ha, h.hb, h.ne, ok, ok⟩
theorem waits_st (x : Pl) (i : Nat) (s : Sit) (h : s.ns.getD i 0 = 0) : stOf (waits x) s i = ⟨4, none⟩ := by
  unfold stOf
  rw [h]
  unfold stepsOf waits
  split <;> rfl
theorem waits_len (x : Pl) (i : Nat) : (stepsOf (waits x) i).length = 1 := by
  unfold stepsOf waits
  split <;> rfl
theorem waits_act (x : Pl) (i : Nat) (s : Sit) (h : s.ns.getD i 0 = 0) : actP (waits x) s i = (4, s) := by
  have e := waits_st x i s h
  rw [act_else (by rw [e]; decide)]
  unfold finP nextP
  rw [if_neg (by unfold jumpP; rw [e]; simp), waits_len, e, h]
  have : s.ns.set i ((0 + 1) % 1) = s.ns := by
    have h2 : (0 + 1) % 1 = s.ns.getD i 0 := h.symm
    rw [h2, set_same]
  rw [this]
theorem waits_cyc (x : Pl) : Cyc (waits x) 0 1 := ⟨by decide, by
  show sit0 (waits x) = (tickP (waits x) (sit0 (waits x))).2
  unfold tickP
  dsimp only
  rw [waits_act x 0 _ rfl]
  dsimp only
  rw [waits_act x 1 _ rfl], fun j k hj hk _ => by omega⟩
end Sb

namespace Sb
open PySem PySem.Spec PyProof.Rows L2 TL
/-! ### four lists of one's own, the parts of a state -/
structure Wk (G H0 H : Hp) (c n b e : Addr) (s : Sit) : Prop where
  pt : Pt G H0 G H
  gh : Same G H0
  c0 : H0 c = none
  n0 : H0 n = none
  b0 : H0 b = none
  e0 : H0 e = none
  cn : c ≠ n
  cb : c ≠ b
  ce : c ≠ e
  nb : n ≠ b
  ne : n ≠ e
  be : b ≠ e
  hc : H c = some (.lst (nV s.cs))
  hn : H n = some (.lst (nV s.ns))
  hb : H b = some (.lst (bV s.hs))
  he : H e = some (.lst (nV s.sh))
section
variable {G H0 H : Hp} {c n b e p l t : Addr} {s : Sit} {K : PySem.W.Frag}
theorem Wk.lay (h : Wk G H0 H c n b e s) (np : H p = none) (o : HO) : Wk G H0 (upd H p o) c n b e s :=
  { h with
    pt := h.pt.lay np o
    hc := by rw [upd_ne (ne_of_none h.hc np)]; exact h.hc
    hn := by rw [upd_ne (ne_of_none h.hn np)]; exact h.hn
    hb := by rw [upd_ne (ne_of_none h.hb np)]; exact h.hb
    he := by rw [upd_ne (ne_of_none h.he np)]; exact h.he }
theorem Wk.setC (h : Wk G H0 H c n b e s) (l : List Nat) : Wk G H0 (upd H c (.lst (nV l))) c n b e ⟨l, s.ns, s.hs, s.sh⟩ :=
  { h with
    pt := h.pt.put h.c0 (Same.free h.gh h.c0) _
    hc := upd_same
    hn := by rw [upd_ne h.cn.symm]; exact h.hn
    hb := by rw [upd_ne h.cb.symm]; exact h.hb
    he := by rw [upd_ne h.ce.symm]; exact h.he }
theorem Wk.setN (h : Wk G H0 H c n b e s) (l : List Nat) : Wk G H0 (upd H n (.lst (nV l))) c n b e ⟨s.cs, l, s.hs, s.sh⟩ :=
  { h with
    pt := h.pt.put h.n0 (Same.free h.gh h.n0) _
    hc := by rw [upd_ne h.cn]; exact h.hc
    hn := upd_same
    hb := by rw [upd_ne h.nb.symm]; exact h.hb
    he := by rw [upd_ne h.ne.symm]; exact h.he }
theorem Wk.setB (h : Wk G H0 H c n b e s) (l : List Bool) : Wk G H0 (upd H b (.lst (bV l))) c n b e ⟨s.cs, s.ns, l, s.sh⟩ :=
  { h with
    pt := h.pt.put h.b0 (Same.free h.gh h.b0) _
    hc := by rw [upd_ne h.cb]; exact h.hc
    hn := by rw [upd_ne h.nb]; exact h.hn
    hb := upd_same
    he := by rw [upd_ne h.be.symm]; exact h.he }
theorem Wk.setE (h : Wk G H0 H c n b e s) (l : List Nat) : Wk G H0 (upd H e (.lst (nV l))) c n b e ⟨s.cs, s.ns, s.hs, l⟩ :=
  { h with
    pt := h.pt.put h.e0 (Same.free h.gh h.e0) _
    hc := by rw [upd_ne h.ce]; exact h.hc
    hn := by rw [upd_ne h.ne]; exact h.hn
    hb := by rw [upd_ne h.be]; exact h.hb
    he := upd_same }
/-- the four become data -/
theorem Wk.data (h : Wk G H0 H c n b e s) : ∃ G1, Pt G H0 G1 H ∧ SqL K G1 c (nV s.cs) ∧ SqL K G1 n (nV s.ns) ∧ SqL K G1 b (bV s.hs) ∧ SqL K G1 e (nV s.sh) := by
  have p1 := h.pt.freeze h.c0 h.hc
  have p2 := p1.freeze h.n0 h.hn
  have p3 := p2.freeze h.b0 h.hb
  have p4 := p3.freeze h.e0 h.he
  refine ⟨_, p4, SqL.of ?_, SqL.of ?_, SqL.of ?_, SqL.of ?_⟩
  · rw [upd_ne h.ce, upd_ne h.cb, upd_ne h.cn, upd_same]
  · rw [upd_ne h.ne, upd_ne h.nb, upd_same]
  · rw [upd_ne h.be, upd_same]
  · rw [upd_same]
end
def lrV : List V := [.str "left", .str "right"]
theorem lr_in : ∀ {w : Nat}, w < 8 → inV (.str (wS w)) lrV = decide (w < 2) := by
  have h : ∀ w : _root_.Fin 8, inV (.str (wS w.val)) lrV = decide (w.val < 2) := by decide +kernel
  exact fun {w} hw => h ⟨w, hw⟩
theorem lr_flat : lrV.all flatV = true := by decide +kernel
theorem wS_eq {w k : Nat} (hw : w < 8) (hk : k < 8) : decide (V.str (wS w) = V.str (wS k)) = decide (w = k) := by
  have h : ∀ w k : _root_.Fin 8, decide (V.str (wS w.val) = V.str (wS k.val)) = decide (w.val = k.val) := by decide +kernel
  exact h ⟨w, hw⟩ ⟨k, hk⟩
theorem ite_w {w : Nat} (k : Nat) {A B : Prop} (hw : w < 8) (h1 : w = k → A) (h2 : w ≠ k → B) (hk : k < 8 := by decide) : if decide (V.str (wS w) = V.str (wS k)) = true then A else B := by
  rw [wS_eq hw hk]
  exact ite2 (fun h => h1 (of_decide_eq_true h)) (fun h => h2 fun q => h (decide_eq_true q))
structure spEmpty (K : PySem.W.Frag) (vs : List V) (H : Hp) (Q : VK) (E : XK) : Prop where
  ex : ∃ (G : Hp) (v : V) (x : Pl), vs = [v] ∧ Dp K G v x.D ∧ Pure G H Q fun G' v => Dp K G' v (sitL (sit0 x))
structure spLAct (K : PySem.W.Frag) (vs : List V) (H : Hp) (Q : VK) (E : XK) : Prop where
  ex : ∃ (G : Hp) (v u : V) (x : Pl) (s : Sit) (i : Nat), vs = [v, u, .int i] ∧ Dp K G v x.D ∧ Dp K G u (sitL s) ∧ x.Ok ∧ SitOk x s ∧ i < 2 ∧ Pure G H Q fun G' v => Dp K G' v (.tuple [.str (doS (actP x s i).1), sitL (actP x s i).2])
structure spLTick (K : PySem.W.Frag) (vs : List V) (H : Hp) (Q : VK) (E : XK) : Prop where
  ex : ∃ (G : Hp) (v u : V) (x : Pl) (s : Sit), vs = [v, u] ∧ Dp K G v x.D ∧ Dp K G u (sitL s) ∧ x.Ok ∧ SitOk x s ∧ Pure G H Q fun G' v => Dp K G' v (.tuple [wordsD (tickP x s).1, sitL (tickP x s).2])
section
variable {P : Program} {w : World} {K : PySem.W.Frag} {mg : Str → Option Value} {base : Heap} {a : Ad}
end
end Sb

namespace Sb
open PySem PySem.Spec PyProof.Rows L2 TL
def partsV (s : Sit) : List (List V) := [nV s.cs, nV s.ns, bV s.hs, nV s.sh]
theorem mod_nat (n m : Nat) : ((n : Int) + 1) % (m : Int) = (((n + 1) % m : Nat) : Int) := by
  rw [Int.natCast_emod]
  push_cast
  rfl
section
variable {P : Program} {w : World} {K : PySem.W.Frag} {mg : Str → Option Value} {base : Heap} {a : Ad}
end
end Sb

namespace Sb
open PySem PySem.Spec PyProof.Rows L2 TL
structure spRep (K : PySem.W.Frag) (vs : List V) (H : Hp) (Q : VK) (E : XK) : Prop where
  ex : ∃ (G : Hp) (v : V) (x : Pl), vs = [v] ∧ Dp K G v x.D ∧ x.Ok ∧ Pure G H Q fun G' v => ∃ r : Bool, v = .bl r ∧ (r = true → ∃ i n, Cyc x i n ∧ n < 4000)
section
variable {P : Program} {w : World} {K : PySem.W.Frag} {mg : Str → Option Value} {base : Heap} {a : Ad}
end
end Sb

namespace Sb
open PySem PySem.Spec PyProof.Rows L2 TL
/-- a plan that comes round -/
structure Rnd (x : Pl) : Prop where
  ex : ∃ i n, Cyc x i n ∧ n < 4000
structure spPlan (K : PySem.W.Frag) (vs : List V) (H : Hp) (Q : VK) (E : XK) : Prop where
  ex : ∃ (d : Addr) (G : Hp) (most : Nat), vs = [.ref d, .int most] ∧ 1 ≤ most ∧ most ≤ 20 ∧
    Drawn d G H Q fun G' v => ∃ x : Pl, x.Ok ∧ Rnd x ∧ x.shelf.length ≤ 8 ∧ Dp K G' v x.D ∧ x.p.length ≤ most ∧ x.q.length ≤ most
theorem draw_plan {K : PySem.W.Frag} {d : Addr} {G0 H0 G H : Hp} {most : Nat} {Q : VK} {E : XK} (h : At d G0 H0 G H) (m1 : 1 ≤ most) (m2 : most ≤ 20)
    (k : ∀ (G1 H1 : Hp) (v : V) (x : Pl), At d G0 H0 G1 H1 → At d G H G1 H1 → x.Ok → Rnd x → x.shelf.length ≤ 8 → Dp K G1 v x.D → x.p.length ≤ most → x.q.length ≤ most → Q v H1) : spPlan K [.ref d, .int most] H Q E :=
  ⟨⟨d, G, most, rfl, m1, m2, h.now, fun G' H' v A ⟨ss, o, rn, o8, D, l1, l2⟩ => k G' H' v ss (h.trans A) A o rn o8 D l1 l2⟩⟩
section
variable {P : Program} {w : World} {K : PySem.W.Frag} {mg : Str → Option Value} {base : Heap} {a : Ad}
end
end Sb

namespace Sb
open PySem PySem.Spec PyProof.Rows L2 TL
/-! ### some things may be written: those of S -/
def wos (S : List Addr) (H : Hp) : Hp := fun b => if b ∈ S then none else H b
theorem wos_in {S : List Addr} {H : Hp} {b : Addr} (h : b ∈ S) : wos S H b = none := if_pos h
theorem wos_out {S : List Addr} {H : Hp} {b : Addr} (h : b ∉ S) : wos S H b = H b := if_neg h
theorem wos_some {S : List Addr} {H : Hp} {b : Addr} {o : HO} (h : wos S H b = some o) : b ∉ S ∧ H b = some o := by
  by_cases e : b ∈ S
  · rw [wos_in e] at h; cases h
  · rw [wos_out e] at h; exact ⟨e, h⟩
structure Mv (S : List Addr) (G0 H0 G H : Hp) : Prop where
  ext : Ext G0 H0 G H
  sm : Same (wos S H0) H
section
variable {S S' : List Addr} {G0 H0 G H G1 H1 : Hp} {p l x dx : Addr} {o : HO}
theorem Mv.start (s : Same G H) : Mv S G H G H := ⟨Ext.refl s, fun _ _ e => (wos_some e).2⟩
theorem Mv.new (a : Mv S G0 H0 G H) (np : H p = none) (o : HO) : Mv S G0 H0 (upd G p o) (upd H p o) := ⟨a.ext.new np, a.sm.trans (same_new np)⟩
theorem Mv.lay (a : Mv S G0 H0 G H) (np : H p = none) (o : HO) : Mv S G0 H0 G (upd H p o) := ⟨a.ext.lay np, a.sm.trans (same_new np)⟩
theorem Mv.put (a : Mv S G0 H0 G H) (n0 : l ∈ S ∨ H0 l = none) (n : G l = none) (o : HO) : Mv S G0 H0 G (upd H l o) := ⟨a.ext.put n, same_put a.sm (by
  rcases n0 with h | h
  · exact wos_in h
  · by_cases e : l ∈ S
    · exact wos_in e
    · rw [wos_out e]; exact h)⟩
theorem Mv.freeze (a : Mv S G0 H0 G H) (n0 : H0 l = none) (h : H l = some o) : Mv S G0 H0 (upd G l o) H := ⟨a.ext.freeze n0 h, a.sm⟩
theorem Mv.make (a : Mv S G0 H0 G H) (nx : H x = none) (nd : H dx = none) (ne : dx ≠ x) (o : HO) : Mv S G0 H0 (upd (upd G dx (.own x)) x o) (upd (upd H dx (.own x)) x o) := ⟨a.ext.make nx nd ne o, a.sm.trans (same_make nx nd ne o)⟩
theorem Mv.trans (a : Mv S G0 H0 G H) (b : Mv S G H G1 H1) : Mv S G0 H0 G1 H1 := by
  refine ⟨a.ext.trans b.ext, fun c o e => ?_⟩
  obtain ⟨h1, h2⟩ := wos_some e
  exact b.sm c o (by rw [wos_out h1]; exact a.sm c o e)
theorem Mv.mono (a : Mv S G0 H0 G H) (h : ∀ b ∈ S, b ∈ S' ∨ H0 b = none) : Mv S' G0 H0 G H := by
  refine ⟨a.ext, fun c o e => ?_⟩
  obtain ⟨h1, h2⟩ := wos_some e
  refine a.sm c o ?_
  by_cases hc : c ∈ S
  · rcases h c hc with h | h
    · exact absurd h h1
    · rw [h] at h2; cases h2
  · rw [wos_out hc]; exact h2
theorem Mv.kept (a : Mv S G0 H0 G H) (h : H0 l = some o) (n : l ∉ S) : H l = some o := a.sm l o (by rw [wos_out n]; exact h)
theorem Mv.s (a : Mv S G0 H0 G H) : Same G H := a.ext.h
theorem Mv.g (a : Mv S G0 H0 G H) : Same G0 G := a.ext.g
theorem Mv.free (a : Mv S G0 H0 G H) (np : H p = none) : H0 p = none := a.ext.k p np
theorem Mv.freeG (a : Mv S G0 H0 G H) (np : H p = none) : G p = none := Same.free a.ext.h np
theorem Mv.pt (a : Mv [] G0 H0 G H) : Pt G0 H0 G H := ⟨a.ext, fun c o e => a.sm c o (by rw [wos_out (by simp)]; exact e)⟩
theorem Mv.pure (a : Mv S G0 H0 G H) (e : Ext G H G1 H1) (s : Same H H1) : Mv S G0 H0 G1 H1 := ⟨a.ext.trans e, a.sm.trans s⟩
end
/-! ### the parser -/
def parF (tk fl : Addr) (n : Nat) : List (Str × V) := [("tokens", .ref tk), ("at", .int n), ("faults", .ref fl)]
def ParAt (a : Ad) (G H : Hp) (p : Addr) (n : Nat) (toks : List Tk) : Prop := ∃ (dx tk fl : Addr) (vs : List V), H p = some (.ins a.C_Parser dx (parF tk fl n)) ∧ G p = none ∧ G tk = some (.lst vs) ∧ ToksAt a.C_Token G vs toks ∧ G fl = some (.lst [])
theorem parF_put (tk fl : Addr) (n m : Nat) : putF "at" (.int ((n : Int) + (m : Int))) (parF tk fl n) = parF tk fl (n + m) := by
  show (if ("tokens" : Str) = "at" then _ else (("tokens" : Str), V.ref tk) :: (if ("at" : Str) = "at" then (("at" : Str), V.int ((n : Int) + (m : Int))) :: [(("faults" : Str), V.ref fl)] else _)) = _
  rw [if_neg (by decide +kernel), if_pos rfl]
  rfl
theorem ParAt.grow {a : Ad} {G G' H H' : Hp} {p : Addr} {n : Nat} {toks : List Tk} (h : ParAt a G H p n toks) (g : Same G G') (hp : ∀ o, H p = some o → H' p = some o) (n' : G' p = none) : ParAt a G' H' p n toks := by
  obtain ⟨dx, tk, fl, vs, h1, h2, h3, h4, h5⟩ := h
  exact ⟨dx, tk, fl, vs, hp _ h1, n', g _ _ h3, ToksAt.mono g h4, g _ _ h5⟩
theorem ParAt.some {a : Ad} {G H : Hp} {p : Addr} {n : Nat} {toks : List Tk} (h : ParAt a G H p n toks) : ∃ dx tk fl, H p = some (.ins a.C_Parser dx (parF tk fl n)) := by
  obtain ⟨dx, tk, fl, vs, h1, _⟩ := h
  exact ⟨dx, tk, fl, h1⟩
theorem ParAt.out {a : Ad} {G H : Hp} {p : Addr} {n : Nat} {toks : List Tk} (h : ParAt a G H p n toks) : G p = none := by
  obtain ⟨dx, tk, fl, vs, _, h1, _⟩ := h
  exact h1
/-- through a new object -/
theorem ParAt.new {a : Ad} {G H : Hp} {p q : Addr} {n : Nat} {toks : List Tk} {o : HO} (h : ParAt a G H p n toks) (s : Same G H) (nq : H q = none) : ParAt a (upd G q o) (upd H q o) p n toks := by
  obtain ⟨dx, tk, fl, h1⟩ := h.some
  have ne : p ≠ q := ne_of_none h1 nq
  exact h.grow (same_new (Same.free s nq)) (fun o e => by rw [upd_ne ne]; exact e) (by rw [upd_ne ne]; exact h.out)
theorem ParAt.lay {a : Ad} {G H : Hp} {p q : Addr} {n : Nat} {toks : List Tk} {o : HO} (h : ParAt a G H p n toks) (nq : H q = none) : ParAt a G (upd H q o) p n toks := by
  obtain ⟨dx, tk, fl, h1⟩ := h.some
  exact h.grow (Same.refl G) (fun o e => by rw [upd_ne (ne_of_none h1 nq)]; exact e) h.out
theorem ParAt.put {a : Ad} {G H : Hp} {p q : Addr} {n : Nat} {toks : List Tk} {o : HO} (h : ParAt a G H p n toks) (ne : p ≠ q) : ParAt a G (upd H q o) p n toks :=
  h.grow (Same.refl G) (fun o e => by rw [upd_ne ne]; exact e) h.out
structure spPeek (a : Ad) (vs : List V) (H : Hp) (Q : VK) (E : XK) : Prop where
  ex : ∃ (p : Addr) (G : Hp) (n : Nat) (toks : List Tk) (tk : Tk), vs = [.ref p] ∧ Same G H ∧ ParAt a G H p n toks ∧ toks[n]? = some tk ∧ ∀ v, TokAt a.C_Token G v tk → Q v H
structure spTake (a : Ad) (f : Tk → Str) (vs : List V) (H : Hp) (Q : VK) (E : XK) : Prop where
  ex : ∃ (p : Addr) (G : Hp) (n : Nat) (toks : List Tk) (tk : Tk), vs = [.ref p, .str (f tk)] ∧ Same G H ∧ ParAt a G H p n toks ∧ toks[n]? = some tk ∧ ∀ H1 v, Mv [p] G H G H1 → ParAt a G H1 p (n + 1) toks → TokAt a.C_Token G v tk → Q v H1
section
variable {P : Program} {w : World} {K : PySem.W.Frag} {mg : Str → Option Value} {base : Heap} {a : Ad}
theorem ok_Parser_peek (T : Txt K mg a) : FnOk P w K mg base CX0 1 a.f_Parser_peek a.d_Parser_peek ["self"] (spPeek a) := by
  refine T.F_Parser_peek.ok sc_Parser_peek (fun vs H Q E h => ?_) (fun cdv A outer s H vs Q E hr h => ?_)
  · obtain ⟨⟨p, G, n, toks, tk, rfl, _⟩⟩ := h
    rfl
  · obtain ⟨⟨p, G, n, toks, tk, rfl, hs, ⟨dx, ta, fl, vs, h1, h2, h3, h4, h5⟩, hn, k⟩⟩ := h
    obtain ⟨v, hv, htk⟩ := Paired.at_ h4 hn
    refine ⟨_, (pss_one (ps_ret (pe_ix ix_list (pe_fld (pv 0) rfl) (pe_fld (pv 0) rfl) (fun _ _ => rfl)))), ?_⟩
    refine ⟨_, rfl, p, _, dx, _, _, rfl, h1, T.cl_Parser, T.n_Parser_tokens, (by kernel_rfl), _, rfl, p, _, dx, _, _, rfl, h1, T.cl_Parser, T.n_Parser_at, (by kernel_rfl), ta, vs, _, v, rfl, rfl, SqL.of (hs _ _ h3), atI_nat hv, k v htk⟩
theorem peek_go {p : Addr} {G H : Hp} {n : Nat} {toks : List Tk} {tk : Tk} {Q : VK} {E : XK} (hs : Same G H) (hP : ParAt a G H p n toks) (hn : toks[n]? = some tk) (k : ∀ v, TokAt a.C_Token G v tk → Q v H) : spPeek a [.ref p] H Q E := ⟨⟨p, G, n, toks, tk, rfl, hs, hP, hn, k⟩⟩
theorem ok_Parser_take (T : Txt K mg a) : FnOk P w K mg base CX0 2 a.f_Parser_take a.d_Parser_take ["self", "kind"] (spTake a fun t => kS t.k) := by
  refine T.F_Parser_take.ok sc_Parser_take (fun vs H Q E h => ?_) (fun cdv A outer s H vs Q E hr h => ?_)
  · obtain ⟨⟨p, G, n, toks, tk, rfl, _⟩⟩ := h
    rfl
  · obtain ⟨⟨p, G, n, toks, tk, rfl, hs, hP, hn, k⟩⟩ := h
    obtain ⟨dx, ta, fl, vs, h1, h2, h3, h4, h5⟩ := id hP
    refine ⟨_, (pss_cons (ps_set (i := 2) sc_Parser_take.nd rfl (Or.inl rfl) (pe_meth0 (pv 0) T.cl_Parser T.M_Parser_peek (ok_Parser_peek T) (hr.mono (by decide)) (b_Parser_peek T) .nil pass0))
      (pss_cons (ps_if (pt_cmpR op_ne (pe_fld (pv 2) rfl) (pv 1) (nomark _)) pss_never pss_nil)
      (pss_cons (ps_fldaug (pv 0) pe_int in_add)
      (pss_one (ps_ret (pv 2)))))), ?_⟩
    refine ⟨_, rfl, p, dx, _, rfl, h1, (by kernel_rfl), peek_go hs hP hn fun v hv => ?_⟩
    obtain ⟨q, dq, l, c, rfl, hq⟩ := id hv
    refine ⟨_, rfl, q, _, dq, _, _, rfl, hs _ _ hq, T.cl_Token, T.n_Token_kind, (by kernel_rfl), _, rfl, rfl, _, rfl, ite_f (by rw [decide_eq_true rfl]; rfl) ?_⟩
    refine ⟨_, rfl, p, _, dx, _, .int n, rfl, h1, T.cl_Parser, T.n_Parser_at, (by kernel_rfl), _, _, rfl, rfl, dx, _, h1, (by show 3 < 1000; decide), ?_⟩
    refine ⟨_, rfl, k _ _ ((Mv.start hs).put (.inl (by simp)) h2 _) ⟨dx, ta, fl, vs, ?_, h2, h3, h4, h5⟩ hv⟩
    rw [upd_same]
    exact congrArg (fun z => some (HO.ins a.C_Parser dx z)) (parF_put ta fl n 1)
theorem ok_Parser_take_word (T : Txt K mg a) : FnOk P w K mg base CX0 2 a.f_Parser_take_word a.d_Parser_take_word ["self", "word"] (spTake a fun t => mkS t.t) := by
  refine T.F_Parser_take_word.ok sc_Parser_take_word (fun vs H Q E h => ?_) (fun cdv A outer s H vs Q E hr h => ?_)
  · obtain ⟨⟨p, G, n, toks, tk, rfl, _⟩⟩ := h
    rfl
  · obtain ⟨⟨p, G, n, toks, tk, rfl, hs, hP, hn, k⟩⟩ := h
    obtain ⟨dx, ta, fl, vs, h1, h2, h3, h4, h5⟩ := id hP
    refine ⟨_, (pss_cons (ps_set (i := 2) sc_Parser_take_word.nd rfl (Or.inl rfl) (pe_meth0 (pv 0) T.cl_Parser T.M_Parser_peek (ok_Parser_peek T) (hr.mono (by decide)) (b_Parser_peek T) .nil pass0))
      (pss_cons (ps_if (pt_cmpR op_ne (pe_fld (pv 2) rfl) (pv 1) (nomark _)) pss_never pss_nil)
      (pss_cons (ps_fldaug (pv 0) pe_int in_add)
      (pss_one (ps_ret (pv 2)))))), ?_⟩
    refine ⟨_, rfl, p, dx, _, rfl, h1, (by kernel_rfl), peek_go hs hP hn fun v hv => ?_⟩
    obtain ⟨q, dq, l, c, rfl, hq⟩ := id hv
    refine ⟨_, rfl, q, _, dq, _, _, rfl, hs _ _ hq, T.cl_Token, T.n_Token_text, (by kernel_rfl), _, rfl, rfl, _, rfl, ite_f (by rw [decide_eq_true rfl]; rfl) ?_⟩
    refine ⟨_, rfl, p, _, dx, _, .int n, rfl, h1, T.cl_Parser, T.n_Parser_at, (by kernel_rfl), _, _, rfl, rfl, dx, _, h1, (by show 3 < 1000; decide), ?_⟩
    refine ⟨_, rfl, k _ _ ((Mv.start hs).put (.inl (by simp)) h2 _) ⟨dx, ta, fl, vs, ?_, h2, h3, h4, h5⟩ hv⟩
    rw [upd_same]
    exact congrArg (fun z => some (HO.ins a.C_Parser dx z)) (parF_put ta fl n 1)
/-- the next token is taken, within a def that may write S -/
theorem take_go {f : Tk → Str} {z : Str} {S : List Addr} {p : Addr} {G0 H0 G H : Hp} {n : Nat} {toks : List Tk} {tk : Tk} {Q : VK} {E : XK} (hz : z = f tk) (m : Mv S G0 H0 G H) (hp : p ∈ S ∨ H0 p = none) (hP : ParAt a G H p n toks) (hn : toks[n]? = some tk)
    (k : ∀ H1 v, Mv S G0 H0 G H1 → Mv [p] G H G H1 → ParAt a G H1 p (n + 1) toks → TokAt a.C_Token G v tk → Q v H1) : spTake a f [.ref p, .str z] H Q E :=
  ⟨⟨p, G, n, toks, tk, by rw [hz], m.s, hP, hn, fun H1 v mv hP1 hv => k H1 v ⟨m.ext.trans mv.ext, fun c o e => by
    have e1 := m.sm c o e
    obtain ⟨h1, h2⟩ := wos_some e
    refine mv.sm c o ?_
    by_cases hc : c ∈ [p]
    · have : c = p := by simpa using hc
      subst this
      rcases hp with hp | hp
      · exact absurd hp h1
      · rw [hp] at h2; cases h2
    · rw [wos_out hc]; exact e1⟩ mv hP1 hv⟩⟩
end
end Sb

namespace Sb
open PySem PySem.Spec PyProof.Rows L2 TL
def numT (n : Nat) : Tk := ⟨.number, numL n⟩
def kwT (s : Str) : Tk := ⟨.keyword, tl s⟩
def sgT (c : Nat) : Tk := ⟨.sign, [c]⟩
def nmT (t : List Nat) : Tk := ⟨.name, t⟩
theorem drop_at {α : Type} {l : List α} {n : Nat} {x : α} {r : List α} (h : l.drop n = x :: r) : l[n]? = some x ∧ l.drop (n + 1) = r := by
  constructor
  · have h1 : (l.drop n)[0]? = some x := by rw [h]; rfl
    rw [List.getElem?_drop] at h1
    exact h1
  · rw [← List.drop_drop, h]
    rfl
theorem int_of {n : Nat} (h : n < 100) : intText? (mkS (numL n)) = some (n : Int) := by
  have e : Str.ofString (toString ((n : Nat) : Int)) = mkS (numL n) := mkS_of (tl_num n)
  rw [← e]
  exact int_num (by have := num_len h; omega)
theorem numT_len {n : Nat} (h : n < 100) : (mkS (numL n)).length ≤ 640 := by rw [len_mkS]; have := num_len h; omega
structure spShelf (a : Ad) (K : PySem.W.Frag) (vs : List V) (H : Hp) (Q : VK) (E : XK) : Prop where
  ex : ∃ (p : Addr) (G : Hp) (n : Nat) (toks : List Tk) (nums : List Nat) (rest : List Tk), vs = [.ref p] ∧ Same G H ∧ ParAt a G H p n toks ∧ toks.drop n = kwT "shelf" :: (nums.map numT ++ (sgT 59 :: rest)) ∧ 3 ≤ nums.length ∧ nums.length ≤ 12 ∧ (∀ x ∈ nums, x ≤ 3) ∧
    ∀ G1 H1 u, Mv [p] G H G1 H1 → ParAt a G1 H1 p (n + nums.length + 2) toks → SqT K G1 u (nums.map fun n : Nat => V.int n) → Q (.ref u) H1
section
variable {P : Program} {w : World} {K : PySem.W.Frag} {mg : Str → Option Value} {base : Heap} {a : Ad}
theorem ok_Parser_parse_shelf (T : Txt K mg a) : FnOk P w K mg base CX0 3 a.f_Parser_parse_shelf a.d_Parser_parse_shelf ["self"] (spShelf a K) := by
  refine T.F_Parser_parse_shelf.ok sc_Parser_parse_shelf (fun vs H Q E h => ?_) (fun cdv A outer s H vs Q E hr h => ?_)
  · obtain ⟨⟨p, G, n, toks, nums, rest, rfl, _⟩⟩ := h
    rfl
  · obtain ⟨⟨p, G, n, toks, nums, rest, rfl, hs, hP, hd, h3, h12, hb, k⟩⟩ := h
    refine ⟨_, (pss_cons (ps_set (i := 1) sc_Parser_parse_shelf.nd rfl (Or.inl rfl) (pe_meth (pv 0) T.cl_Parser T.M_Parser_take_word (ok_Parser_take_word T) (hr.mono (by decide)) (b_Parser_take_word T) .nil pass0 (pa_cons pe_str pa_nil)))
      (pss_cons (ps_set (i := 2) sc_Parser_parse_shelf.nd rfl (Or.inl rfl) (pe_lst (pa_cons (pe_meth (pv 0) T.cl_Parser T.M_Parser_take (ok_Parser_take T) (hr.mono (by decide)) (b_Parser_take T) .nil pass0 (pa_cons (pe_glob (v := V.str (Str.ofString "number")) rfl T.c_NUMBER ⟨_, rfl⟩) pa_nil)) pa_nil)))
      (pss_cons (ps_while PassesOwn.never (pt_cmpR op_eq (pe_fld (pe_meth0 (pv 0) T.cl_Parser T.M_Parser_peek (ok_Parser_peek T) (hr.mono (by decide)) (b_Parser_peek T) .nil pass0) rfl) (pe_glob (v := V.str (Str.ofString "number")) rfl T.c_NUMBER ⟨_, rfl⟩) (nomark _)) (pss_one (ps_expr (pe_bm PySem.F.plainAttrs_list PySem.F.slot_list_append PySem.F.type_list_append mt_append (pv 2) (pa_cons (pe_meth (pv 0) T.cl_Parser T.M_Parser_take (ok_Parser_take T) (hr.mono (by decide)) (b_Parser_take T) .nil pass0 (pa_cons (pe_glob (v := V.str (Str.ofString "number")) rfl T.c_NUMBER ⟨_, rfl⟩) pa_nil)) pa_nil)))))
      (pss_cons (ps_expr (pe_meth (pv 0) T.cl_Parser T.M_Parser_take_word (ok_Parser_take_word T) (hr.mono (by decide)) (b_Parser_take_word T) .nil pass0 (pa_cons pe_str pa_nil)))
      (pss_cons (ps_if (pt_cmpR op_lt (pe_callB call_len_seq (by rfl) T.z_len (by decide +kernel) (pa_cons (pv 2) pa_nil)) (pe_glob (v := V.int 3) rfl T.c_MIN_CELLS ⟨_, rfl⟩) (nomark _)) pss_never pss_nil)
      (pss_cons (ps_for PassesOwn.never rfl (pi_enum (by rfl) T.z_enumerate (pa_cons (pv 2) pa_nil)) (pg_tup (by rfl) (pgs_cons (pg_name (i := 3) sc_Parser_parse_shelf.nd rfl (Or.inl rfl)) (pgs_cons (pg_name (i := 4) sc_Parser_parse_shelf.nd rfl (Or.inl rfl)) pgs_nil))) (pss_one (ps_if (pt_cmpR op_eq (pv 3) (pe_glob (v := V.int 12) rfl T.c_MAX_CELLS ⟨_, rfl⟩) (nomark _)) pss_never (pss_one (ps_if (pt_cmpR op_gt (pe_callTy call_int_str (by rfl) T.z_int (by decide +kernel) (pa_cons (pe_fld (pv 4) rfl) pa_nil)) (pe_glob (v := V.int 3) rfl T.c_MAX_BOXES ⟨_, rfl⟩) (nomark _)) pss_never pss_nil)))))
      (pss_one (ps_ret (pe_callTy call_tuple_of (by rfl) T.z_tuple (by decide +kernel) (pa_cons (pe_lc (own := [("token", 4)]) (g := gName 4) (te := (tCB _ (tCons (tFld K (tVar 4) "text") tNil))) (tt := tYes) rfl sc_Parser_parse_shelf.nd (pi_list (pv 2)) (blkOk_by (own := [("token", 4)]) (N := ["self", "keyword", "tokens", "place", "token"]) (sc := (defScope s_Parser_parse_shelf)) (by decide +kernel)) (fun _ _ _ _ _ => (pg_name (i := 4) sc_Parser_parse_shelf.nd rfl (Or.inl rfl))) (fun _ _ _ _ _ => pts_nil) (fun _ _ _ _ _ => by exact (pe_callTy call_int_str (by rfl) T.z_int (by decide +kernel) (pa_cons (pe_fld (pv 4) rfl) pa_nil)))) pa_nil)))))))))), ?_⟩
    have M0 : Mv [p] G H G H := Mv.start hs
    obtain ⟨dx, ta, fl, h1⟩ := hP.some
    obtain ⟨n0, d1⟩ := drop_at hd
    -- keyword
    refine ⟨_, rfl, p, dx, _, rfl, h1, (by kernel_rfl), take_go (tk := kwT "shelf") (mkS_tl _).symm M0 (.inl (by simp)) hP n0 fun H1 v1 M1 _ P1 hv1 => ?_⟩
    obtain ⟨x0, nums', rfl⟩ : ∃ x0 nums', nums = x0 :: nums' := by cases nums with | nil => exact absurd h3 (by decide) | cons x y => exact ⟨x, y, rfl⟩
    generalize hnums : x0 :: nums' = nums at *
    have d1' : toks.drop (n + 1) = nums.map numT ++ (sgT 59 :: rest) := d1
    have at_j : ∀ j x, nums[j]? = some x → toks[n + 1 + j]? = some (numT x) := fun j x hj => by
      have hlt : j < nums.length := (List.getElem?_eq_some_iff.mp hj).1
      have e := congrArg (fun l => l[j]?) d1'
      simp only [List.getElem?_drop] at e
      rw [e, List.getElem?_append_left (by rw [List.length_map]; exact hlt), List.getElem?_map, hj]
      rfl
    have at_e : toks[n + 1 + nums.length]? = some (sgT 59) := by
      have e := congrArg (fun l => l[nums.length]?) d1'
      simp only [List.getElem?_drop] at e
      rw [e, List.getElem?_append_right (by rw [List.length_map]; exact Nat.le_refl _), List.length_map, Nat.sub_self]
      rfl
    have hx0 : nums[0]? = some x0 := by rw [← hnums]; rfl
    obtain ⟨dx1, ta1, fl1, h11⟩ := P1.some
    refine ⟨_, rfl, p, dx1, _, rfl, h11, (by kernel_rfl), take_go (tk := numT x0) rfl M1 (.inl (by simp)) P1 (at_j 0 x0 hx0) fun H2 v2 M2 _ P2 hv2 => ?_⟩
    refine ⟨(by show 1 ≤ sizeLine; decide), fun l hl => ?_⟩
    have l0 : H l = none := M2.free hl
    have lG : G l = none := M2.freeG hl
    have pl : p ≠ l := by obtain ⟨_, _, _, h⟩ := P2.some; exact ne_of_none h hl
    have M3 := M2.lay hl (.lst [v2])
    have P3 := P2.lay (o := .lst [v2]) hl
    -- the numbers
    obtain ⟨Iv, hIv⟩ : ∃ Iv : Nat → L2.St → Hp → Prop, Iv = fun j σ H' => ∃ (vs : List V), σ = [some (.ref p), some v1, some (.ref l), none, none] ∧ 1 ≤ j ∧ j ≤ nums.length ∧ Mv [p] G H G H' ∧ ParAt a G H' p (n + 1 + j) toks ∧ H' l = some (.lst vs) ∧ ToksAt a.C_Token G vs ((nums.take j).map numT) := ⟨_, rfl⟩
    dsimp only
    refine seq_restσ (fun σ H' => Iv nums.length σ H') (fun σ H' hI => ?r) (fun rest1 => ?m)
    case m =>
      refine ⟨fun m σ H' => ∃ j, m = nums.length - j ∧ Iv j σ H', ⟨_, 1, rfl, ?_⟩, ?_⟩
      · rw [hIv]
        refine ⟨[v2], rfl, Nat.le_refl _, by omega, M3, P3, upd_same, ?_⟩
        have : nums.take 1 = [x0] := by rw [← hnums]; rfl
        rw [this]
        exact .cons hv2 .nil
      · rintro m σ H' ⟨j, rfl, hI⟩
        have hI0 := hI
        rw [hIv] at hI
        obtain ⟨vs, rfl, j1, jn, M, PP, hlv, htk⟩ := hI
        obtain ⟨dx2, ta2, fl2, h12'⟩ := PP.some
        by_cases hj : j < nums.length
        · obtain ⟨y, hy⟩ : ∃ y, nums[j]? = some y := ⟨_, List.getElem?_eq_getElem hj⟩
          refine ⟨_, rfl, p, dx2, _, rfl, h12', (by kernel_rfl), peek_go M.s PP (at_j j y hy) fun v hv => ?_⟩
          obtain ⟨q, dq, lq, cq, rfl, hq⟩ := id hv
          refine ⟨q, _, dq, _, .str (kS .number), rfl, M.s _ _ hq, T.cl_Token, T.n_Token_kind, (by kernel_rfl), rfl, _, rfl, ite_t (decide_eq_true rfl) ?_⟩
          refine ⟨fun σ' H' => Iv (j + 1) σ' H', fun σ' H' hn => ⟨_, by omega, j + 1, rfl, hn⟩, ?_⟩
          refine ⟨_, rfl, .inl ⟨rfl, _, SqL.of hlv⟩, _, rfl, p, dx2, _, rfl, h12', (by kernel_rfl), take_go (tk := numT y) rfl M (.inl (by simp)) PP (at_j j y hy) fun H4 v4 M4 m4 P4 hv4 => ?_⟩
          have hl4 : H4 l = some (.lst vs) := m4.kept hlv (by simp [pl.symm])
          refine ⟨l, vs, _, rfl, rfl, hl4, smaller 12 (by rw [Paired.len htk, List.length_map, List.length_take]; omega) (by decide), ?_⟩
          rw [hIv]
          refine ⟨vs ++ [v4], rfl, by omega, by omega, M4.put (.inr l0) lG _, P4.put pl, upd_same, ?_⟩
          rw [take_more hy, List.map_append]
          exact Paired.snoc htk hv4
        · have ej : j = nums.length := by omega
          rw [ej] at PP hI0
          refine ⟨_, rfl, p, dx2, _, rfl, (by rw [ej] at h12'; exact h12'), (by kernel_rfl), peek_go M.s PP at_e fun v hv => ?_⟩
          obtain ⟨q, dq, lq, cq, rfl, hq⟩ := id hv
          refine ⟨q, _, dq, _, .str (kS .sign), rfl, M.s _ _ hq, T.cl_Token, T.n_Token_kind, (by kernel_rfl), rfl, _, rfl, ite_f (by decide +kernel) (rest1 _ _ hI0)⟩
    rw [hIv] at hI
    obtain ⟨vs, rfl, j1, jn, M, PP, hlv, htk⟩ := hI
    rw [List.take_length] at htk
    have hvl : vs.length = nums.length := by rw [Paired.len htk, List.length_map]
    obtain ⟨dx2, ta2, fl2, h12'⟩ := PP.some
    -- ;
    refine ⟨_, rfl, p, dx2, _, rfl, h12', (by kernel_rfl), take_go (tk := sgT 59) (mkS_of t_sc) M (.inl (by simp)) PP at_e fun H4 v4 M4 m4 P4 _ => ?_⟩
    have hl4 : H4 l = some (.lst vs) := m4.kept hlv (by simp [pl.symm])
    refine ⟨_, rfl, l, _, rfl, .inl (SqL.of hl4), _, _, rfl, rfl, _, rfl, ite_f (decide_eq_false (by rw [hvl]; omega)) ?_⟩
    -- the check
    refine ⟨_, rfl, l, _, rfl, SqL.of hl4, for_it (walk_enum (K := K) (a := l) (xs := vs)) (fun i σ H' => ∃ (v3 v4 : Option V), σ = [some (.ref p), some v1, some (.ref l), v3, v4] ∧ Mv [p] G H G H' ∧ ParAt a G H' p (n + 1 + nums.length + 1) toks ∧ H' l = some (.lst vs)) ⟨none, none, rfl, M4, P4, hl4⟩ (fun i σ H' _ ⟨_, _, _, _, _, h⟩ => SqL.of h) ?_ ?_⟩
    · rintro i y σ H5 H6 hi ⟨v3, v4', rfl, M5, P5, hl5⟩ ⟨T', x, z, rfl, hT', rfl, hx, hz⟩
      cases hx
      have hz : vs[i]? = some z := hz
      obtain ⟨tk, htk1, htok⟩ := paired_get htk hz
      rw [List.getElem?_map] at htk1
      obtain ⟨y, hy, rfl⟩ : ∃ y, nums[i]? = some y ∧ tk = numT y := by
        cases e : nums[i]? with
        | none => rw [e] at htk1; cases htk1
        | some q => rw [e] at htk1; exact ⟨q, rfl, (Option.some.inj htk1).symm⟩
      have hy3 : y ≤ 3 := hb y (List.mem_of_getElem? hy)
      obtain ⟨q, dq, lq, cq, rfl, hq⟩ := htok
      have M6 := M5.lay hT' (.tup [.int (i : Nat), .ref q])
      refine ⟨T', _, rfl, SqT.of upd_same, rfl, _, _, rfl, _, _, rfl, rfl, ?_⟩
      refine ⟨_, rfl, rfl, _, rfl, ite_f (vint_ne (by omega)) ?_⟩
      refine ⟨_, rfl, q, _, dq, _, .str (mkS (numL y)), rfl, M6.s _ _ hq, T.cl_Token, T.n_Token_text, (by kernel_rfl), _, (y : Int), rfl, int_of (by omega), numT_len (by omega), _, _, rfl, rfl, _, rfl, ite_f (decide_eq_false (by omega)) ?_⟩
      exact ⟨_, _, rfl, M6, P5.lay hT', by rw [upd_ne (ne_of_none hl5 hT')]; exact hl5⟩
    · rintro σ H5 ⟨v3, v4', rfl, M5, P5, hl5⟩
      refine ⟨_, rfl, l, rfl, ⟨_, SqL.of hl5⟩, fun D hD => ?_⟩
      have D0 : H D = none := M5.free hD
      have DG : G D = none := M5.freeG hD
      have lD : l ≠ D := ne_of_none hl5 hD
      have pD : p ≠ D := by obtain ⟨_, _, _, h⟩ := P5.some; exact ne_of_none h hD
      refine lc_list (K := K) (a := l) (xs := vs) (fun j H' => Mv [p] G H G H' ∧ ParAt a G H' p (n + 1 + nums.length + 1) toks ∧ H' l = some (.lst vs) ∧ H' D = some (.lst ((nums.take j).map fun n : Nat => V.int n))) ⟨M5.lay hD _, P5.lay hD, by rw [upd_ne lD]; exact hl5, upd_same⟩ (fun j H' _ ⟨_, _, h, _⟩ => SqL.of h) ?_ ?_
      · rintro j z H' hz ⟨M6, P6, hl6, hD6⟩
        obtain ⟨tk, htk1, htok⟩ := paired_get htk hz
        rw [List.getElem?_map] at htk1
        obtain ⟨y, hy, rfl⟩ : ∃ y, nums[j]? = some y ∧ tk = numT y := by
          cases e : nums[j]? with
          | none => rw [e] at htk1; cases htk1
          | some q => rw [e] at htk1; exact ⟨q, rfl, (Option.some.inj htk1).symm⟩
        have hy3 : y ≤ 3 := hb y (List.mem_of_getElem? hy)
        obtain ⟨q, dq, lq, cq, rfl, hq⟩ := htok
        refine ⟨rfl, _, rfl, q, _, dq, _, .str (mkS (numL y)), rfl, M6.s _ _ hq, T.cl_Token, T.n_Token_text, (by kernel_rfl), _, (y : Int), rfl, int_of (by omega), numT_len (by omega), _, hD6, smaller 12 (by rw [List.length_map, List.length_take]; omega) (by decide), M6.put (.inr D0) DG _, P6.put pD, by rw [upd_ne lD]; exact hl6, ?_⟩
        rw [upd_same, take_more hy, List.map_append]
        rfl
      · rintro H6 ⟨M6, P6, hl6, hD6⟩
        rw [hvl, List.take_length] at hD6
        refine ⟨D, _, rfl, .inl ⟨SqL.of hD6, fun u hu => ?_⟩⟩
        have e : n + 1 + nums.length + 1 = n + nums.length + 2 := by omega
        rw [e] at P6
        exact k _ _ u (M6.new hu _) (P6.new M6.s hu) (SqT.of upd_same)
end
end Sb

namespace Sb
open PySem PySem.Spec PyProof.Rows L2 TL
/-! ### labelled steps -/
structure LStep where
  lab : Option (List Nat)
  w : Nat
  tgt : Option (List Nat)
def labT : Option (List Nat) → List Tk
  | none => []
  | some t => [nmT t, sgT 58]
def tgtT : Option (List Nat) → List Tk
  | none => []
  | some t => [nmT t]
def stepT (s : LStep) : List Tk := labT s.lab ++ (kwT (wS s.w) :: (tgtT s.tgt ++ [sgT 59]))
def labV : Option (List Nat) → V
  | none => .non
  | some t => .str (mkS t)
structure LStep.Ok (s : LStep) : Prop where
  w8 : s.w < 8
  no : s.w < 5 → s.tgt = none
  yes : 5 ≤ s.w → ∃ t, s.tgt = some t
  lb : s.lab ≠ some [125]
def JmpAt (a : Ad) (G : Hp) (v : V) : Option (List Nat) → Prop
  | none => v = .non
  | some t => TokAt a.C_Token G v (nmT t)
theorem lab_in (x : List Nat) : ∀ l : List (Option (List Nat)), inV (.str (mkS x)) (l.map labV) = decide (some x ∈ l)
  | [] => by simp [inV]
  | n :: r => by
    have ih := lab_in x r
    unfold inV at ih ⊢
    rw [List.map_cons, List.any_cons, ih]
    have e : eqV (labV n) (.str (mkS x)) = decide (n = some x) := by
      cases n with
      | none => simp [labV, eqV]
      | some t =>
        unfold labV eqV
        by_cases h : t = x
        · subst h; simp
        · have h2 : ¬ mkS t = mkS x := fun q => h (by have := congrArg tl q; rwa [tl_mkS, tl_mkS] at this)
          simp [h, h2]
    rw [e]
    by_cases h : n = some x
    · subst h; simp
    · have h' : ¬ some x = n := fun q => h q.symm
      simp [h, h']
theorem lab_flat (l : List (Option (List Nat))) : (l.map labV).all flatV = true := by
  rw [List.all_eq_true]
  intro x hx
  obtain ⟨n, _, rfl⟩ := List.mem_map.mp hx
  cases n <;> rfl
theorem ixN_last {n : Nat} : ixN (n + 1) (-1) = some n := by
  unfold ixN
  rw [if_neg (by decide), if_pos (by omega)]
  congr 1
  omega
theorem set_last {α : Type} (l : List α) (x y : α) : (l ++ [x]).set l.length y = l ++ [y] := by simp
def movS : List Str := ["left", "right", "pick", "put", "wait"]
def jmpS : List Str := ["goto", "empty", "held"]
theorem jmpS_in : ∀ {w : Nat}, w < 8 → decide (wS w ∈ jmpS) = decide (5 ≤ w) := by
  have h : ∀ w : _root_.Fin 8, decide (wS w.val ∈ jmpS) = decide (5 ≤ w.val) := by decide +kernel
  exact fun {w} hw => h ⟨w, hw⟩
theorem movS_in : ∀ {w : Nat}, w < 8 → decide (wS w ∈ movS) = decide (w < 5) := by
  have h : ∀ w : _root_.Fin 8, decide (wS w.val ∈ movS) = decide (w.val < 5) := by decide +kernel
  exact fun {w} hw => h ⟨w, hw⟩
structure spPStep (a : Ad) (vs : List V) (H : Hp) (Q : VK) (E : XK) : Prop where
  ex : ∃ (p nl jl : Addr) (G : Hp) (n : Nat) (toks : List Tk) (s : LStep) (rest : List Tk) (labs : List (Option (List Nat))) (js : List V), vs = [.ref p, .ref nl, .ref jl] ∧ Same G H ∧ ParAt a G H p n toks ∧ G nl = none ∧ G jl = none ∧ nl ≠ jl ∧
    H nl = some (.lst (labs.map labV)) ∧ H jl = some (.lst js) ∧ toks.drop n = stepT s ++ rest ∧ s.Ok ∧ (∀ t, s.lab = some t → some t ∉ labs) ∧ labs.length ≤ 20 ∧ js.length ≤ 20 ∧
    ∀ H1 jv, Mv [p, nl, jl] G H G H1 → ParAt a G H1 p (n + (stepT s).length) toks → H1 nl = some (.lst ((labs ++ [s.lab]).map labV)) → H1 jl = some (.lst (js ++ [jv])) → JmpAt a G jv s.tgt → Q (.str (wS s.w)) H1
section
variable {P : Program} {w : World} {K : PySem.W.Frag} {mg : Str → Option Value} {base : Heap} {a : Ad}
theorem ok_Parser_parse_step (T : Txt K mg a) : FnOk P w K mg base CX0 3 a.f_Parser_parse_step a.d_Parser_parse_step ["self", "names", "jumps"] (spPStep a) := by
  refine T.F_Parser_parse_step.ok sc_Parser_parse_step (fun vs H Q E h => ?_) (fun cdv A outer s0 H vs Q E hr h => ?_)
  · obtain ⟨⟨p, nl, jl, G, n, toks, s, rest, labs, js, rfl, _⟩⟩ := h
    rfl
  · obtain ⟨⟨p, nl, jl, G, n, toks, s, rest, labs, js, rfl, hs, hP, nG, jG, nj, hn, hj, hd, ok, hdup, l20, j20, k⟩⟩ := h
    refine ⟨_, (pss_cons (ps_expr (pe_bm PySem.F.plainAttrs_list PySem.F.slot_list_append PySem.F.type_list_append mt_append (pv 1) (pa_cons pe_non pa_nil)))
      (pss_cons (ps_expr (pe_bm PySem.F.plainAttrs_list PySem.F.slot_list_append PySem.F.type_list_append mt_append (pv 2) (pa_cons pe_non pa_nil)))
      (pss_cons (ps_if (pt_cmpR op_eq (pe_fld (pe_meth0 (pv 0) T.cl_Parser T.M_Parser_peek (ok_Parser_peek T) (hr.mono (by decide)) (b_Parser_peek T) .nil pass0) rfl) (pe_glob (v := V.str (Str.ofString "name")) rfl T.c_NAME ⟨_, rfl⟩) (nomark _)) (pss_cons (ps_set (i := 3) sc_Parser_parse_step.nd rfl (Or.inl rfl) (pe_meth (pv 0) T.cl_Parser T.M_Parser_take (ok_Parser_take T) (hr.mono (by decide)) (b_Parser_take T) .nil pass0 (pa_cons (pe_glob (v := V.str (Str.ofString "name")) rfl T.c_NAME ⟨_, rfl⟩) pa_nil)))
      (pss_cons (ps_expr (pe_meth (pv 0) T.cl_Parser T.M_Parser_take_word (ok_Parser_take_word T) (hr.mono (by decide)) (b_Parser_take_word T) .nil pass0 (pa_cons pe_str pa_nil)))
      (pss_cons (ps_if (pt_cmpR op_in_seq (pe_fld (pv 3) rfl) (pv 1) rfl) pss_never pss_nil)
      (pss_one (ps_asg (pe_fld (pv 3) rfl) (pg_sub (pv 1) (pe_un un_neg pe_int) set_list)))))) pss_nil)
      (pss_cons (ps_set (i := 3) sc_Parser_parse_step.nd rfl (Or.inl rfl) (pe_meth (pv 0) T.cl_Parser T.M_Parser_take (ok_Parser_take T) (hr.mono (by decide)) (b_Parser_take T) .nil pass0 (pa_cons (pe_glob (v := V.str (Str.ofString "keyword")) rfl T.c_KEYWORD ⟨_, rfl⟩) pa_nil)))
      (pss_cons (ps_if (pt_cmpR op_in_seq (pe_fld (pv 3) rfl) (pe_glob (v := V.ref a.A_JUMPS) rfl T.c_JUMPS rfl) rfl) (pss_one (ps_asg (pe_meth (pv 0) T.cl_Parser T.M_Parser_take (ok_Parser_take T) (hr.mono (by decide)) (b_Parser_take T) .nil pass0 (pa_cons (pe_glob (v := V.str (Str.ofString "name")) rfl T.c_NAME ⟨_, rfl⟩) pa_nil)) (pg_sub (pv 2) (pe_un un_neg pe_int) set_list))) (pss_one (ps_if (pt_cmpR op_notIn_seq (pe_fld (pv 3) rfl) (pe_glob (v := V.ref a.A_MOVES) rfl T.c_MOVES rfl) rfl) pss_never pss_nil)))
      (pss_cons (ps_expr (pe_meth (pv 0) T.cl_Parser T.M_Parser_take_word (ok_Parser_take_word T) (hr.mono (by decide)) (b_Parser_take_word T) .nil pass0 (pa_cons pe_str pa_nil)))
      (pss_one (ps_ret (pe_fld (pv 3) rfl))))))))), ?_⟩
    have M0 : Mv [p, nl, jl] G H G H := Mv.start hs
    obtain ⟨dx, ta, fl, h1⟩ := hP.some
    have pn : p ≠ nl := ne_of h1 hn (by intro z; cases z)
    have pj : p ≠ jl := ne_of h1 hj (by intro z; cases z)
    refine ⟨_, rfl, .inl ⟨rfl, _, SqL.of hn⟩, nl, _, _, rfl, rfl, hn, smaller 20 (by rw [List.length_map]; exact l20) (by decide), ?_⟩
    have M1 := M0.put (l := nl) (.inl (by simp)) nG (.lst (labs.map labV ++ [.non]))
    have P1 := hP.put (o := .lst (labs.map labV ++ [.non])) pn
    have hj1 : (upd H nl (.lst (labs.map labV ++ [.non]))) jl = some (.lst js) := by rw [upd_ne nj.symm]; exact hj
    refine ⟨_, rfl, .inl ⟨rfl, _, SqL.of hj1⟩, jl, _, _, rfl, rfl, hj1, smaller 20 j20 (by decide), ?_⟩
    have M2 := M1.put (l := jl) (.inl (by simp)) jG (.lst (js ++ [.non]))
    have P2 := P1.put (o := .lst (js ++ [.non])) pj
    have hn2 : (upd (upd H nl (.lst (labs.map labV ++ [.non]))) jl (.lst (js ++ [.non]))) nl = some (.lst (labs.map labV ++ [.non])) := by rw [upd_ne nj, upd_same]
    have hj2 : (upd (upd H nl (.lst (labs.map labV ++ [.non]))) jl (.lst (js ++ [.non]))) jl = some (.lst (js ++ [.non])) := upd_same
    revert M2 P2 hn2 hj2
    generalize upd (upd H nl (.lst (labs.map labV ++ [.non]))) jl (.lst (js ++ [.non])) = H2
    intro M2 P2 hn2 hj2
    obtain ⟨dx2, ta2, fl2, h2⟩ := P2.some
    dsimp only
    -- the label
    refine seq_restσ (fun σ H' => ∃ v3 : Option V, σ = [some (.ref p), some (.ref nl), some (.ref jl), v3] ∧ Mv [p, nl, jl] G H G H' ∧ ParAt a G H' p (n + (labT s.lab).length) toks ∧ H' nl = some (.lst ((labs ++ [s.lab]).map labV)) ∧ H' jl = some (.lst (js ++ [.non]))) (fun σ H' hI => ?r) (fun rest1 => ?m)
    case m =>
      cases hlab : s.lab with
      | none =>
        rw [hlab] at rest1
        have d2 : toks.drop n = kwT (wS s.w) :: (tgtT s.tgt ++ [sgT 59] ++ rest) := by rw [hd]; unfold stepT; rw [hlab]; simp [labT]
        refine ⟨_, rfl, p, dx2, _, rfl, h2, (by kernel_rfl), peek_go M2.s P2 (drop_at d2).1 fun v hv => ?_⟩
        obtain ⟨q, dq, lq, cq, rfl, hq⟩ := id hv
        refine ⟨q, _, dq, _, .str (kS .keyword), rfl, M2.s _ _ hq, T.cl_Token, T.n_Token_kind, (by kernel_rfl), rfl, _, rfl, ite_f (by decide +kernel) ?_⟩
        exact rest1 _ _ ⟨_, rfl, M2, P2, by rw [hn2, List.map_append]; rfl, hj2⟩
      | some t =>
        rw [hlab] at rest1
        have d2 : toks.drop n = nmT t :: (sgT 58 :: (kwT (wS s.w) :: (tgtT s.tgt ++ [sgT 59] ++ rest))) := by rw [hd]; unfold stepT; rw [hlab]; simp [labT]
        obtain ⟨a0, d3⟩ := drop_at d2
        obtain ⟨a1, d4⟩ := drop_at d3
        refine ⟨_, rfl, p, dx2, _, rfl, h2, (by kernel_rfl), peek_go M2.s P2 a0 fun v hv => ?_⟩
        obtain ⟨q, dq, lq, cq, rfl, hq⟩ := id hv
        refine ⟨q, _, dq, _, .str (kS .name), rfl, M2.s _ _ hq, T.cl_Token, T.n_Token_kind, (by kernel_rfl), rfl, _, rfl, ite_t (decide_eq_true rfl) ?_⟩
        refine ⟨_, rfl, p, dx2, _, rfl, h2, (by kernel_rfl), take_go (tk := nmT t) rfl M2 (.inl (by simp)) P2 a0 fun H3 v3 M3 m3 P3 hv3 => ?_⟩
        obtain ⟨dx3, ta3, fl3, h3⟩ := P3.some
        refine ⟨_, rfl, p, dx3, _, rfl, h3, (by kernel_rfl), take_go (tk := sgT 58) (mkS_of (show tl (Str.ofString ":") = [58] by decide +kernel)) M3 (.inl (by simp)) P3 a1 fun H4 v4 M4 m4 P4 hv4 => ?_⟩
        have hn4 : H4 nl = some (.lst ((labs ++ [none]).map labV)) := by rw [List.map_append]; exact m4.kept (m3.kept hn2 (by simp [pn.symm])) (by simp [pn.symm])
        have hj4 : H4 jl = some (.lst (js ++ [.non])) := m4.kept (m3.kept hj2 (by simp [pj.symm])) (by simp [pj.symm])
        obtain ⟨q3, dq3, lq3, cq3, rfl, hq3⟩ := hv3
        refine ⟨_, rfl, q3, _, dq3, _, .str (mkS t), rfl, M4.s _ _ hq3, T.cl_Token, T.n_Token_text, (by kernel_rfl), _, rfl, nl, _, rfl, .inl (SqL.of hn4), rfl, lab_flat _, _, rfl, ite_f ?_ ?_⟩
        · rw [if_neg Bool.false_ne_true, lab_in]
          refine decide_eq_false fun z => ?_
          rcases List.mem_append.mp z with z | z
          · exact hdup t hlab z
          · simp at z
        refine ⟨_, rfl, q3, _, dq3, _, .str (mkS t), rfl, M4.s _ _ hq3, T.cl_Token, T.n_Token_text, (by kernel_rfl), _, rfl, _, rfl, nl, _, _, labs.length, rfl, rfl, hn4, (by rw [List.length_map, List.length_append]; exact ixN_last), ?_⟩
        refine rest1 _ _ ⟨_, rfl, M4.put (.inl (by simp)) nG _, P4.put pn, ?_, by rw [upd_ne nj.symm]; exact hj4⟩
        rw [upd_same, List.map_append, List.map_append]
        have := set_last (labs.map labV) (labV none) (.str (mkS t))
        rw [List.length_map] at this
        exact congrArg (fun z => some (HO.lst z)) this
    obtain ⟨v3, rfl, M5, P5, hn5, hj5⟩ := hI
    have d5 : toks.drop (n + (labT s.lab).length) = kwT (wS s.w) :: (tgtT s.tgt ++ [sgT 59] ++ rest) := by
      rw [← List.drop_drop, hd]
      unfold stepT
      rw [List.append_assoc, List.drop_left]
      simp
    obtain ⟨a5, d6⟩ := drop_at d5
    obtain ⟨dx5, ta5, fl5, h5⟩ := P5.some
    refine ⟨_, rfl, p, dx5, _, rfl, h5, (by kernel_rfl), take_go (tk := kwT (wS s.w)) rfl M5 (.inl (by simp)) P5 a5 fun H6 v6 M6 m6 P6 hv6 => ?_⟩
    have hn6 : H6 nl = some (.lst ((labs ++ [s.lab]).map labV)) := m6.kept hn5 (by simp [pn.symm])
    have hj6 : H6 jl = some (.lst (js ++ [.non])) := m6.kept hj5 (by simp [pj.symm])
    obtain ⟨q6, dq6, lq6, cq6, rfl, hq6⟩ := hv6
    obtain ⟨dx6, ta6, fl6, h6⟩ := P6.some
    dsimp only
    refine seq_restσ (fun σ H' => σ = [some (.ref p), some (.ref nl), some (.ref jl), some (.ref q6)] ∧ ∃ jv : V, Mv [p, nl, jl] G H G H' ∧ ParAt a G H' p (n + (labT s.lab).length + 1 + (tgtT s.tgt).length) toks ∧ H' nl = some (.lst ((labs ++ [s.lab]).map labV)) ∧ H' jl = some (.lst (js ++ [jv])) ∧ JmpAt a G jv s.tgt) (fun σ H' hI => ?r2) (fun rest2 => ?m2)
    case m2 =>
      have etx : mkS (tl (wS s.w)) = wS s.w := mkS_tl _
      refine ⟨_, rfl, q6, _, dq6, _, .str (mkS (tl (wS s.w))), rfl, M6.s _ _ hq6, T.cl_Token, T.n_Token_text, (by kernel_rfl), a.A_JUMPS, jmpS.map V.str, rfl, .inr (T.q_JUMPS H6), rfl, strs_flat _, _, rfl, ?_⟩
      rw [if_neg Bool.false_ne_true, in_strs, etx, jmpS_in ok.w8]
      refine ite2 (fun c => ?_) (fun c => ?_)
      · obtain ⟨t, ht⟩ := ok.yes (of_decide_eq_true c)
        rw [ht] at rest2 d6
        obtain ⟨a7, d7⟩ := drop_at (show _ = nmT t :: ([sgT 59] ++ rest) from d6)
        refine ⟨_, rfl, p, dx6, _, rfl, h6, (by kernel_rfl), take_go (tk := nmT t) rfl M6 (.inl (by simp)) P6 a7 fun H7 v7 M7 m7 P7 hv7 => ?_⟩
        have hn7 : H7 nl = some (.lst ((labs ++ [s.lab]).map labV)) := m7.kept hn6 (by simp [pn.symm])
        have hj7 : H7 jl = some (.lst (js ++ [.non])) := m7.kept hj6 (by simp [pj.symm])
        refine ⟨_, rfl, _, rfl, jl, _, _, js.length, rfl, rfl, hj7, (by rw [List.length_append]; exact ixN_last), ?_⟩
        refine rest2 _ _ ⟨rfl, v7, M7.put (.inl (by simp)) jG _, P7.put pj, by rw [upd_ne nj]; exact hn7, ?_, hv7⟩
        rw [upd_same, set_last]
      · have c' : ¬ 5 ≤ s.w := fun z => c (decide_eq_true z)
        have ht := ok.no (by omega)
        rw [ht] at rest2
        refine ⟨_, rfl, q6, _, dq6, _, .str (mkS (tl (wS s.w))), rfl, M6.s _ _ hq6, T.cl_Token, T.n_Token_text, (by kernel_rfl), a.A_MOVES, movS.map V.str, rfl, .inr (T.q_MOVES H6), rfl, strs_flat _, _, rfl, ite_f ?_ ?_⟩
        · rw [if_pos rfl, in_strs, etx, movS_in ok.w8, decide_eq_true (show s.w < 5 by omega)]
          rfl
        · exact rest2 _ _ ⟨rfl, .non, M6, P6, hn6, hj6, rfl⟩
    obtain ⟨rfl, jv, M8, P8, hn8, hj8, hjv⟩ := hI
    have d8 : toks.drop (n + (labT s.lab).length + 1 + (tgtT s.tgt).length) = sgT 59 :: rest := by
      rw [← List.drop_drop, d6, List.append_assoc, List.drop_left]
      rfl
    obtain ⟨a8, _⟩ := drop_at d8
    obtain ⟨dx8, ta8, fl8, h8⟩ := P8.some
    refine ⟨_, rfl, p, dx8, _, rfl, h8, (by kernel_rfl), take_go (tk := sgT 59) (mkS_of t_sc) M8 (.inl (by simp)) P8 a8 fun H9 v9 M9 m9 P9 _ => ?_⟩
    have hn9 := m9.kept hn8 (by simp [pn.symm])
    have hj9 := m9.kept hj8 (by simp [pj.symm])
    have el : n + (labT s.lab).length + 1 + (tgtT s.tgt).length + 1 = n + (stepT s).length := by
      unfold stepT
      simp only [List.length_append, List.length_cons, List.length_nil]
      omega
    rw [el] at P9
    refine ⟨_, rfl, q6, _, dq6, _, .str (wS s.w), rfl, M9.s _ _ hq6, T.cl_Token, T.n_Token_text, ?_, k H9 jv M9 P9 hn9 hj9 hjv⟩
    have : mkS (tl (wS s.w)) = wS s.w := mkS_tl _
    rw [← this]
    kernel_rfl
end
end Sb

namespace Sb
open PySem PySem.Spec PyProof.Rows L2 TL
theorem same_frz {G H : Hp} {l : Addr} {o : HO} (s : Same G H) (h : H l = some o) : Same G (upd G l o) := fun b u e => by
  by_cases hb : b = l
  · rw [hb, upd_same]
    rw [hb] at e
    have := s _ _ e
    rw [h] at this
    exact this
  · rw [upd_ne hb]; exact e
/-! ### shapes of data -/
theorem shaped_of {ds : List PyData} (h : ∀ d ∈ ds, d.canLay0 = true ∧ d.depth ≤ 10) : SeqAt.shaped (.list ds) = true ∧ SeqAt.shaped (.tuple ds) = true ∧ PyData.canLayAll0 ds = true ∧ PyData.depthAll ds ≤ 10 := by
  have h1 : PyData.canLayAll0 ds = true ∧ PyData.depthAll ds ≤ 10 := by
    induction ds with
    | nil => exact ⟨rfl, by show 0 ≤ 10; decide⟩
    | cons d ds ih =>
      obtain ⟨a1, a2⟩ := h d (by simp)
      obtain ⟨b1, b2⟩ := ih (fun d hd => h d (by simp [hd]))
      constructor
      · show (d.canLay0 && PyData.canLayAll0 ds) = true
        rw [a1, b1]; rfl
      · show max d.depth (PyData.depthAll ds) ≤ 10
        omega
  refine ⟨?_, ?_, h1⟩
  · show (PyData.canLayAll0 ds && decide (PyData.depthAll ds + 1 ≤ 64)) = true
    rw [h1.1, decide_eq_true (by omega)]; rfl
  · show (PyData.canLayAll0 ds && decide (PyData.depthAll ds + 1 ≤ 64)) = true
    rw [h1.1, decide_eq_true (by omega)]; rfl
theorem wS_ok : ∀ {w : Nat}, w < 8 → PyData.strOk (wS w) = true := by
  have h : ∀ w : _root_.Fin 8, PyData.strOk (wS w.val) = true := by decide +kernel
  exact fun {w} hw => h ⟨w, hw⟩
theorem str_lay {x : Str} (h : PyData.strOk x = true) : (PyData.str x).canLay0 = true ∧ (PyData.str x).depth ≤ 10 := ⟨h, by show 0 ≤ 10; decide⟩
theorem eqV_lab (n : Option (List Nat)) (x : List Nat) : eqV (labV n) (.str (mkS x)) = decide (n = some x) := by
  cases n with
  | none => simp [labV, eqV]
  | some t =>
    unfold labV eqV
    by_cases h : t = x
    · subst h; simp
    · have h2 : ¬ mkS t = mkS x := fun q => h (by have := congrArg tl q; rwa [tl_mkS, tl_mkS] at this)
      simp [h, h2]
/-! ### robots -/
def robotT (n : Nat) (ls : List LStep) : List Tk := kwT "robot" :: numT n :: sgT 123 :: (ls.flatMap stepT ++ [sgT 125])
def labsOf (ls : List LStep) : List (Option (List Nat)) := ls.map LStep.lab
structure Res (labs : List (Option (List Nat))) (s : LStep) (r : Step) : Prop where
  w : r.w = s.w
  no : s.tgt = none → r.g = none
  yes : ∀ t, s.tgt = some t → ∃ k, r.g = some k ∧ labs[k]? = some (some t) ∧ ∀ m, m < k → labs[m]? ≠ some (some t)
structure LOk (ls : List LStep) (ss : List Step) : Prop where
  pos : 1 ≤ ls.length
  le : ls.length ≤ 20
  all : ∀ s ∈ ls, s.Ok
  dup : ∀ i s t, ls[i]? = some s → s.lab = some t → some t ∉ labsOf (ls.take i)
  res : Paired (Res (labsOf ls)) ls ss
def robF (n : Nat) (sl nl : Addr) : List (Str × V) := [("start", .int n), ("steps", .ref sl), ("names", .ref nl)]
def RobAt (a : Ad) (K : PySem.W.Frag) (G : Hp) (v : V) (n : Nat) (ss : List Step) : Prop := ∃ (r dx sl nl : Addr), v = .ref r ∧ G r = some (.ins a.C_Robot dx (robF n sl nl)) ∧ Dp K G (.ref sl) (stepsD ss)
theorem RobAt.mono {a : Ad} {K : PySem.W.Frag} {G G' : Hp} {v : V} {n : Nat} {ss : List Step} (s : Same G G') (h : RobAt a K G v n ss) : RobAt a K G' v n ss := by
  obtain ⟨r, dx, sl, nl, e, h1, h2⟩ := h
  exact ⟨r, dx, sl, nl, e, s _ _ h1, Dp.mono s _ _ h2⟩
structure spPRobot (a : Ad) (K : PySem.W.Frag) (vs : List V) (H : Hp) (Q : VK) (E : XK) : Prop where
  ex : ∃ (p ot : Addr) (G : Hp) (pos : Nat) (toks : List Tk) (cells st : Nat) (os : List Nat) (ls : List LStep) (ss : List Step) (rest : List Tk), vs = [.ref p, .int cells, .ref ot] ∧ Same G H ∧ ParAt a G H p pos toks ∧ SqT K G ot (os.map fun n : Nat => V.int n) ∧
    toks.drop pos = robotT st ls ++ rest ∧ st < cells ∧ cells < 100 ∧ st ∉ os ∧ LOk ls ss ∧
    ∀ G1 H1 v, Mv [p] G H G1 H1 → ParAt a G1 H1 p (pos + (robotT st ls).length) toks → RobAt a K G1 v st ss → Q v H1
theorem step_head {s : LStep} (h : s.Ok) (r : List Tk) : ∃ tk r', stepT s ++ r = tk :: r' ∧ tk.t ≠ [125] := by
  unfold stepT
  cases hl : s.lab with
  | none =>
    refine ⟨kwT (wS s.w), _, rfl, ?_⟩
    have : ∀ w : _root_.Fin 8, tl (wS w.val) ≠ [125] := by decide +kernel
    exact this ⟨s.w, h.w8⟩
  | some t =>
    refine ⟨nmT t, _, rfl, fun z => ?_⟩
    have : t = [125] := z
    exact h.lb (by rw [hl, this])
theorem flat_more {α β : Type} {l : List α} {f : α → List β} {i : Nat} {x : α} (h : l[i]? = some x) : (l.take (i + 1)).flatMap f = (l.take i).flatMap f ++ f x := by
  rw [take_more h, List.flatMap_append]
  simp
theorem flat_split {α β : Type} {l : List α} {f : α → List β} {i : Nat} {x : α} (h : l[i]? = some x) : l.flatMap f = (l.take i).flatMap f ++ (f x ++ (l.drop (i + 1)).flatMap f) := by
  have hi : i < l.length := (List.getElem?_eq_some_iff.mp h).1
  have e : l = l.take i ++ (x :: l.drop (i + 1)) := by
    have h2 := List.drop_eq_getElem_cons hi
    have h3 : l[i] = x := (List.getElem?_eq_some_iff.mp h).2
    rw [h3] at h2
    rw [← h2, List.take_append_drop]
  conv => lhs; rw [e]
  rw [List.flatMap_append, List.flatMap_cons]
section
variable {P : Program} {w : World} {K : PySem.W.Frag} {mg : Str → Option Value} {base : Heap} {a : Ad}
theorem ok_Robot_init (T : Txt K mg a) : FnOk P w K mg base CX0 1 a.f_Robot_init a.d_Robot_init ["self", "start", "steps", "names"] (spInit a.C_Robot ["start", "steps", "names"]) := by
  refine T.F_Robot_init.ok sc_Robot_init (fun vs H Q E h => ?_) (fun cdv A outer s H vs Q E hr h => ?_)
  · obtain ⟨⟨x, dx, us, rfl, hl, _⟩⟩ := h
    exact congrArg (· + 1) hl
  · obtain ⟨⟨x, dx, us, rfl, hl, hx, k⟩⟩ := h
    match us, hl with
    | [u1, u2, u3], _ =>
      refine ⟨_, (pss_cons (ps_fld (pv 0) (pv 1) rfl)
      (pss_cons (ps_fld (pv 0) (pv 2) rfl)
      (pss_one (ps_fld (pv 0) (pv 3) rfl)))), ?_⟩
      refine ⟨_, rfl, _, rfl, x, _, dx, _, rfl, hx, T.cl_Robot, T.n_Robot_start, by decide, ?_⟩
      refine ⟨_, rfl, _, rfl, x, _, dx, _, rfl, upd_same, T.cl_Robot, T.n_Robot_steps, lf1, ?_⟩
      refine ⟨_, rfl, _, rfl, x, _, dx, _, rfl, upd_same, T.cl_Robot, T.n_Robot_names, lf2, ?_⟩
      rw [upd_upd, upd_upd]
      have e : putF "names" u3 (putF "steps" u2 (putF "start" u1 [])) = (["start", "steps", "names"] : List Str).zip [u1, u2, u3] := by
        show putF "names" u3 (putF "steps" u2 [("start", u1)]) = _
        rw [putF_new (fs := [("start", u1)]) (show ("steps" : Str) ∉ (["start"] : List Str) by decide +kernel)]
        show putF "names" u3 [("start", u1), ("steps", u2)] = _
        rw [putF_new (fs := [("start", u1), ("steps", u2)]) (show ("names" : Str) ∉ (["start", "steps"] : List Str) by decide +kernel)]
        rfl
      rw [e]
      exact k
theorem ok_Plan_init (T : Txt K mg a) : FnOk P w K mg base CX0 1 a.f_Plan_init a.d_Plan_init ["self", "shelf", "robots"] (spInit a.C_Plan ["shelf", "robots"]) := by
  refine T.F_Plan_init.ok sc_Plan_init (fun vs H Q E h => ?_) (fun cdv A outer s H vs Q E hr h => ?_)
  · obtain ⟨⟨x, dx, us, rfl, hl, _⟩⟩ := h
    exact congrArg (· + 1) hl
  · obtain ⟨⟨x, dx, us, rfl, hl, hx, k⟩⟩ := h
    match us, hl with
    | [u1, u2], _ =>
      refine ⟨_, (pss_cons (ps_fld (pv 0) (pv 1) rfl)
      (pss_one (ps_fld (pv 0) (pv 2) rfl))), ?_⟩
      refine ⟨_, rfl, _, rfl, x, _, dx, _, rfl, hx, T.cl_Plan, T.n_Plan_shelf, by decide, ?_⟩
      refine ⟨_, rfl, _, rfl, x, _, dx, _, rfl, upd_same, T.cl_Plan, T.n_Plan_robots, lf1, ?_⟩
      rw [upd_upd]
      have e : putF "robots" u2 (putF "shelf" u1 []) = (["shelf", "robots"] : List Str).zip [u1, u2] := by
        show putF "robots" u2 [("shelf", u1)] = _
        rw [putF_new (fs := [("shelf", u1)]) (show ("robots" : Str) ∉ (["shelf"] : List Str) by decide +kernel)]
        rfl
      rw [e]
      exact k
theorem ok_Parser_parse_robot (T : Txt K mg a) : FnOk P w K mg base CX0 4 a.f_Parser_parse_robot a.d_Parser_parse_robot ["self", "cells", "others"] (spPRobot a K) := by
  refine T.F_Parser_parse_robot.ok sc_Parser_parse_robot (fun vs H Q E h => ?_) (fun cdv A outer s0 H vs Q E hr h => ?_)
  · obtain ⟨⟨p, ot, G, pos, toks, cells, st, os, ls, ss, rest, rfl, _⟩⟩ := h
    rfl
  · obtain ⟨⟨p, ot, G, pos, toks, cells, st, os, ls, ss, rest, rfl, hs, hP, hot, hd, hst, hc, hos, ok, k⟩⟩ := h
    refine ⟨_, (pss_cons (ps_expr (pe_meth (pv 0) T.cl_Parser T.M_Parser_take_word (ok_Parser_take_word T) (hr.mono (by decide)) (b_Parser_take_word T) .nil pass0 (pa_cons pe_str pa_nil)))
      (pss_cons (ps_set (i := 3) sc_Parser_parse_robot.nd rfl (Or.inl rfl) (pe_meth (pv 0) T.cl_Parser T.M_Parser_take (ok_Parser_take T) (hr.mono (by decide)) (b_Parser_take T) .nil pass0 (pa_cons (pe_glob (v := V.str (Str.ofString "number")) rfl T.c_NUMBER ⟨_, rfl⟩) pa_nil)))
      (pss_cons (ps_if (pt_cmpR op_ge (pe_callTy call_int_str (by rfl) T.z_int (by decide +kernel) (pa_cons (pe_fld (pv 3) rfl) pa_nil)) (pv 1) (nomark _)) pss_never (pss_one (ps_if (pt_cmpR op_in_seq (pe_callTy call_int_str (by rfl) T.z_int (by decide +kernel) (pa_cons (pe_fld (pv 3) rfl) pa_nil)) (pv 2) rfl) pss_never pss_nil)))
      (pss_cons (ps_expr (pe_meth (pv 0) T.cl_Parser T.M_Parser_take_word (ok_Parser_take_word T) (hr.mono (by decide)) (b_Parser_take_word T) .nil pass0 (pa_cons pe_str pa_nil)))
      (pss_cons (ps_par3 (i := 4) (j := 5) (l := 6) (by rfl) sc_Parser_parse_robot.nd rfl rfl rfl (by decide) (by decide) (by decide) rfl rfl rfl (pa_cons (pe_lst pa_nil) (pa_cons (pe_lst pa_nil) (pa_cons (pe_lst pa_nil) pa_nil))) (by rfl))
      (pss_cons (ps_while PassesOwn.never (PW.pt (pw_or (pt_cmpR op_ne (pe_fld (pe_meth0 (pv 0) T.cl_Parser T.M_Parser_peek (ok_Parser_peek T) (hr.mono (by decide)) (b_Parser_peek T) .nil pass0) rfl) pe_str (nomark _)) (pw_or1 (pt_cmpR (op_eqD hr.units) (pv 4) (pe_lst pa_nil) (nomark _))))) (pss_cons (ps_if (pt_cmpR op_eq (pe_callB call_len_seq (by rfl) T.z_len (by decide +kernel) (pa_cons (pv 4) pa_nil)) (pe_glob (v := V.int 20) rfl T.c_MAX_STEPS ⟨_, rfl⟩) (nomark _)) pss_never pss_nil)
      (pss_one (ps_expr (pe_bm PySem.F.plainAttrs_list PySem.F.slot_list_append PySem.F.type_list_append mt_append (pv 4) (pa_cons (pe_meth (pv 0) T.cl_Parser T.M_Parser_parse_step (ok_Parser_parse_step T) (hr.mono (by decide)) (b_Parser_parse_step T) .nil pass0 (pa_cons (pv 5) (pa_cons (pv 6) pa_nil))) pa_nil))))))
      (pss_cons (ps_expr (pe_meth (pv 0) T.cl_Parser T.M_Parser_take_word (ok_Parser_take_word T) (hr.mono (by decide)) (b_Parser_take_word T) .nil pass0 (pa_cons pe_str pa_nil)))
      (pss_cons (ps_set (i := 7) sc_Parser_parse_robot.nd rfl (Or.inl rfl) (pe_lst pa_nil))
      (pss_cons (ps_for PassesOwn.never rfl (pi_zip (by rfl) T.z_zip (pa_cons (pv 4) (pa_cons (pv 6) pa_nil))) (pg_tup (by rfl) (pgs_cons (pg_name (i := 8) sc_Parser_parse_robot.nd rfl (Or.inl rfl)) (pgs_cons (pg_name (i := 9) sc_Parser_parse_robot.nd rfl (Or.inl rfl)) pgs_nil))) (pss_cons (ps_if (PW.pt (pw_and (pt_cmpR op_notN (pv 9) pe_non (nomark _)) (pw_and1 (pt_cmpR op_notIn_seq (pe_fld (pv 9) rfl) (pv 5) rfl)))) pss_never pss_nil)
      (pss_one (ps_expr (pe_bm PySem.F.plainAttrs_list PySem.F.slot_list_append PySem.F.type_list_append mt_append (pv 7) (pa_cons (pe_tup (pa_cons (pv 8) (pa_cons (pe_ifExp (PW.pt (pw_and (pt_cmpR op_notN (pv 9) pe_non (nomark _)) (pw_and1 (pt_cmpR op_in_seq (pe_fld (pv 9) rfl) (pv 5) rfl)))) (pe_bm PySem.F.plainAttrs_list PySem.F.slot_list_index PySem.F.type_list_index mt_index (pv 5) (pa_cons (pe_fld (pv 9) rfl) pa_nil)) pe_non) pa_nil))) pa_nil))))))
      (pss_one (ps_ret (pe_make T.mk_Robot (ok_Robot_init T) (hr.mono (by decide)) (by rfl) T.m_Robot (b_Robot_init T) .nil pass0 (pa_cons (pe_callTy call_int_str (by rfl) T.z_int (by decide +kernel) (pa_cons (pe_fld (pv 3) rfl) pa_nil)) (pa_cons (pv 7) (pa_cons (pv 5) pa_nil))))))))))))))), ?_⟩
    have M0 : Mv [p] G H G H := Mv.start hs
    obtain ⟨dx, ta, fl, h1⟩ := hP.some
    have d0 : toks.drop pos = kwT "robot" :: (numT st :: (sgT 123 :: (ls.flatMap stepT ++ (sgT 125 :: rest)))) := by rw [hd]; unfold robotT; simp
    obtain ⟨t0, d1⟩ := drop_at d0
    obtain ⟨t1, d2⟩ := drop_at d1
    obtain ⟨t2, d3⟩ := drop_at d2
    refine ⟨_, rfl, p, dx, _, rfl, h1, (by kernel_rfl), take_go (tk := kwT "robot") (mkS_tl _).symm M0 (.inl (by simp)) hP t0 fun H1 v1 M1 _ P1 _ => ?_⟩
    obtain ⟨dx1, ta1, fl1, h11⟩ := P1.some
    refine ⟨_, rfl, p, dx1, _, rfl, h11, (by kernel_rfl), take_go (tk := numT st) rfl M1 (.inl (by simp)) P1 t1 fun H2 v2 M2 _ P2 hv2 => ?_⟩
    obtain ⟨q2, dq2, lq2, cq2, rfl, hq2⟩ := hv2
    have io := int_of (n := st) (by omega)
    have nlen := numT_len (n := st) (by omega)
    refine ⟨_, rfl, q2, _, dq2, _, .str (mkS (numL st)), rfl, M2.s _ _ hq2, T.cl_Token, T.n_Token_text, (by kernel_rfl), _, (st : Int), rfl, io, nlen, _, rfl, _, _, rfl, rfl, _, rfl, ite_f (decide_eq_false (by omega)) ?_⟩
    refine ⟨_, rfl, q2, _, dq2, _, .str (mkS (numL st)), rfl, M2.s _ _ hq2, T.cl_Token, T.n_Token_text, (by kernel_rfl), _, (st : Int), rfl, io, nlen, _, rfl, ot, _, rfl, .inr (Same.seqT M2.s hot), rfl, nats_flat os, _, rfl, ite_f (by rw [if_neg Bool.false_ne_true, in_nats]; exact decide_eq_false hos) ?_⟩
    obtain ⟨dx2, ta2, fl2, h12⟩ := P2.some
    refine ⟨_, rfl, p, dx2, _, rfl, h12, (by kernel_rfl), take_go (tk := sgT 123) (mkS_of (show tl (Str.ofString "{") = [123] by decide +kernel)) M2 (.inl (by simp)) P2 t2 fun H3 v3 M3 _ P3 _ => ?_⟩
    -- words, names, jumps
    refine ⟨Nat.zero_le _, fun wl hw => ⟨Nat.zero_le _, fun nl hn => ⟨Nat.zero_le _, fun jl hj => ⟨_, _, _, rfl, ?_⟩⟩⟩⟩
    have M4 := ((M3.lay hw (.lst [])).lay hn (.lst [])).lay hj (.lst [])
    have P4 := ((P3.lay (o := .lst []) hw).lay (o := .lst []) hn).lay (o := .lst []) hj
    have wn : wl ≠ nl := ne_of_none upd_same hn
    have nj : nl ≠ jl := ne_of_none upd_same hj
    have wj : wl ≠ jl := ne_of_none (by rw [upd_ne wn, upd_same]) hj
    have w0 : H wl = none := M3.free hw
    have n0 : H nl = none := (M3.lay hw (.lst [])).free hn
    have j0 : H jl = none := ((M3.lay hw (.lst [])).lay hn (.lst [])).free hj
    have wG : G wl = none := M3.freeG hw
    have nG : G nl = none := (M3.lay hw (.lst [])).freeG hn
    have jG : G jl = none := ((M3.lay hw (.lst [])).lay hn (.lst [])).freeG hj
    have pw : p ≠ wl := fun e => by rw [← e, h1] at w0; cases w0
    have pn : p ≠ nl := fun e => by rw [← e, h1] at n0; cases n0
    have pj : p ≠ jl := fun e => by rw [← e, h1] at j0; cases j0
    have hw4 : (upd (upd (upd H3 wl (.lst [])) nl (.lst [])) jl (.lst [])) wl = some (.lst []) := by rw [upd_ne wj, upd_ne wn, upd_same]
    have hn4 : (upd (upd (upd H3 wl (.lst [])) nl (.lst [])) jl (.lst [])) nl = some (.lst []) := by rw [upd_ne nj, upd_same]
    have hj4 : (upd (upd (upd H3 wl (.lst [])) nl (.lst [])) jl (.lst [])) jl = some (.lst []) := upd_same
    revert M4 P4 hw4 hn4 hj4
    generalize upd (upd (upd H3 wl (.lst [])) nl (.lst [])) jl (.lst []) = H4
    intro M4 P4 hw4 hn4 hj4
    dsimp only
    -- the steps read
    obtain ⟨Iv, hIv⟩ : ∃ Iv : Nat → L2.St → Hp → Prop, Iv = fun j σ H' => ∃ (js : List V), σ = [some (.ref p), some (.int cells), some (.ref ot), some (.ref q2), some (.ref wl), some (.ref nl), some (.ref jl), none, none, none] ∧ j ≤ ls.length ∧ Mv [p] G H G H' ∧
      ParAt a G H' p (pos + 1 + 1 + 1 + ((ls.take j).flatMap stepT).length) toks ∧ H' wl = some (.lst (((ls.take j).map fun s => wS s.w).map V.str)) ∧ H' nl = some (.lst ((labsOf (ls.take j)).map labV)) ∧ H' jl = some (.lst js) ∧ Paired (JmpAt a G) js ((ls.take j).map LStep.tgt) := ⟨_, rfl⟩
    have d4 : ∀ j, j ≤ ls.length → toks.drop (pos + 1 + 1 + 1 + ((ls.take j).flatMap stepT).length) = (ls.drop j).flatMap stepT ++ (sgT 125 :: rest) := fun j hj => by
      rw [← List.drop_drop, d3]
      have e : ls.flatMap stepT = (ls.take j).flatMap stepT ++ (ls.drop j).flatMap stepT := by rw [← List.flatMap_append, List.take_append_drop]
      rw [e, List.append_assoc, List.drop_left]
    refine seq_restσ (fun σ H' => Iv ls.length σ H') (fun σ H' hI => ?r) (fun rest1 => ?m)
    case m =>
      refine ⟨fun m σ H' => ∃ j, m = ls.length - j ∧ Iv j σ H', ⟨_, 0, rfl, ?_⟩, ?_⟩
      · rw [hIv]
        exact ⟨[], rfl, Nat.zero_le _, M4, P4, hw4, hn4, hj4, .nil⟩
      · rintro m σ H' ⟨j, rfl, hI⟩
        have hI0 := hI
        rw [hIv] at hI
        obtain ⟨js, rfl, jn, M, PP, hwv, hnv, hjv, hjs⟩ := hI
        obtain ⟨dx5, ta5, fl5, h5⟩ := PP.some
        have jsl : js.length = j := by rw [Paired.len hjs, List.length_map, List.length_take]; omega
        by_cases hjl : j < ls.length
        · obtain ⟨s, hs5⟩ : ∃ s, ls[j]? = some s := ⟨_, List.getElem?_eq_getElem hjl⟩
          have oks : s.Ok := ok.all s (List.mem_of_getElem? hs5)
          have d5 : toks.drop (pos + 1 + 1 + 1 + ((ls.take j).flatMap stepT).length) = stepT s ++ ((ls.drop (j + 1)).flatMap stepT ++ (sgT 125 :: rest)) := by
            rw [d4 j jn]
            have h2 := List.drop_eq_getElem_cons hjl
            have h3 : ls[j] = s := (List.getElem?_eq_some_iff.mp hs5).2
            rw [h3] at h2
            rw [h2, List.flatMap_cons, List.append_assoc]
          obtain ⟨tk, r', e5, ne5⟩ := step_head oks ((ls.drop (j + 1)).flatMap stepT ++ (sgT 125 :: rest))
          have a5 := (drop_at (d5.trans e5)).1
          refine ⟨_, rfl, p, dx5, _, rfl, h5, (by kernel_rfl), peek_go M.s PP a5 fun v hv => ?_⟩
          obtain ⟨q, dq, lq, cq, rfl, hq⟩ := id hv
          refine ⟨q, _, dq, _, .str (mkS tk.t), rfl, M.s _ _ hq, T.cl_Token, T.n_Token_text, (by kernel_rfl), rfl, _, rfl, ite_t ?_ (ite_t rfl ?_)⟩
          · have : ¬ V.str (mkS tk.t) = V.str (Str.ofString "}") := fun z => by
              injection z with z
              have := congrArg tl z
              rw [tl_mkS, t_cb] at this
              exact ne5 this
            rw [decide_eq_false this]; rfl
          refine ⟨fun σ' H' => Iv (j + 1) σ' H', fun σ' H' hn => ⟨_, by omega, j + 1, rfl, hn⟩, ?_⟩
          have lle := ok.le
          refine ⟨_, rfl, wl, _, rfl, .inl (SqL.of hwv), rfl, _, rfl, ite_f (vint_ne (by rw [List.length_map, List.length_map, List.length_take]; omega)) ?_⟩
          refine ⟨_, rfl, .inl ⟨rfl, _, SqL.of hwv⟩, _, rfl, p, dx5, _, rfl, h5, (by kernel_rfl), _, rfl, _, rfl, ?_⟩
          refine ⟨⟨p, nl, jl, G, _, toks, s, _, labsOf (ls.take j), js, rfl, M.s, PP, nG, jG, nj, hnv, hjv, d5, oks, fun t ht => ok.dup j s t hs5 ht, ?_, by omega, fun H6 jv m6 P6 hn6 hj6 hjt => ?_⟩⟩
          · unfold labsOf; rw [List.length_map, List.length_take]; omega
          have hw6 : H6 wl = some (.lst (((ls.take j).map fun s => wS s.w).map V.str)) := m6.kept hwv (by simp [pw.symm, wn, wj])
          have M6 : Mv [p] G H G H6 := ⟨M.ext.trans m6.ext, fun c o e => by
            have e1 := M.sm c o e
            obtain ⟨h1', h2'⟩ := wos_some e
            refine m6.sm c o ?_
            rw [wos_out]
            · exact e1
            · intro hc'
              rcases List.mem_cons.mp hc' with rfl | hc'
              · exact h1' (by simp)
              rcases List.mem_cons.mp hc' with rfl | hc'
              · rw [n0] at h2'; cases h2'
              rcases List.mem_cons.mp hc' with rfl | hc'
              · rw [j0] at h2'; cases h2'
              · cases hc'⟩
          refine ⟨wl, _, _, rfl, rfl, hw6, smaller 20 (by rw [List.length_map, List.length_map, List.length_take]; omega) (by decide), ?_⟩
          rw [hIv]
          refine ⟨js ++ [jv], rfl, by omega, M6.put (.inr w0) wG _, ?_, ?_, ?_, ?_, ?_⟩
          · rw [flat_more hs5, List.length_append, ← Nat.add_assoc]
            exact P6.put pw
          · rw [upd_same, take_more hs5, List.map_append, List.map_append]; rfl
          · rw [upd_ne wn.symm, hn6]
            simp only [labsOf, take_more hs5, List.map_append]
            rfl
          · rw [upd_ne wj.symm]; exact hj6
          · rw [take_more hs5, List.map_append]
            exact Paired.snoc hjs hjt
        · have ej : j = ls.length := by omega
          subst ej
          have d6 := d4 ls.length (Nat.le_refl _)
          rw [List.drop_length] at d6
          have a6 := (drop_at (show _ = sgT 125 :: rest from d6)).1
          refine ⟨_, rfl, p, dx5, _, rfl, h5, (by kernel_rfl), peek_go M.s PP a6 fun v hv => ?_⟩
          obtain ⟨q, dq, lq, cq, rfl, hq⟩ := id hv
          refine ⟨q, _, dq, _, .str (mkS [125]), rfl, M.s _ _ hq, T.cl_Token, T.n_Token_text, (by kernel_rfl), rfl, _, rfl, ite_f (by decide +kernel) ?_⟩
          refine ⟨_, rfl, Nat.zero_le _, fun e1 he1 => ?_⟩
          have hw7 : (upd H' e1 (.lst [])) wl = some (.lst (((ls.take ls.length).map fun s => wS s.w).map V.str)) := by rw [upd_ne (ne_of_none hwv he1)]; exact hwv
          have shp := shaped_of (ds := ((ls.take ls.length).map fun s => wS s.w).map PyData.str) (fun d hd => by
            obtain ⟨x, hx, rfl⟩ := List.mem_map.mp hd
            obtain ⟨y, hy, rfl⟩ := List.mem_map.mp hx
            exact str_lay (wS_ok (ok.all y (List.mem_of_mem_take hy)).w8))
          refine ⟨.list (((ls.take ls.length).map fun s => wS s.w).map PyData.str), .list [], .lst (SqL.of hw7) (DpAll.strs _), .lst (SqL.of upd_same) .nil, shp.1, by decide, _, rfl, ite_f ?_ ?_⟩
          · have hp := ok.pos
            cases els : ls with
            | nil => rw [els] at hp; exact absurd hp (by decide)
            | cons x y => rfl
          refine rest1 _ _ ?_
          rw [hIv]
          exact ⟨js, rfl, Nat.le_refl _, M.lay he1 _, PP.lay he1, hw7, by rw [upd_ne (ne_of_none hnv he1)]; exact hnv, by rw [upd_ne (ne_of_none hjv he1)]; exact hjv, hjs⟩
    rw [hIv] at hI
    obtain ⟨js, rfl, _, M, PP, hwv, hnv, hjv, hjs⟩ := hI
    have d6 := d4 ls.length (Nat.le_refl _)
    rw [List.drop_length] at d6
    have a6 := (drop_at (show _ = sgT 125 :: rest from d6)).1
    rw [List.take_length] at PP hwv hnv hjs a6
    have lle := ok.le
    have jsl : js.length = ls.length := by rw [Paired.len hjs, List.length_map]
    have ssl : ss.length = ls.length := (Paired.len ok.res).symm
    obtain ⟨dx7, ta7, fl7, h7⟩ := PP.some
    refine ⟨_, rfl, p, dx7, _, rfl, h7, (by kernel_rfl), take_go (tk := sgT 125) (mkS_of t_cb) M (.inl (by simp)) PP a6 fun H8 v8 M8 m8 P8 _ => ?_⟩
    have hw8 := m8.kept hwv (by simp [pw.symm])
    have hn8 := m8.kept hnv (by simp [pn.symm])
    have hj8 := m8.kept hjv (by simp [pj.symm])
    refine ⟨Nat.zero_le _, fun sl hsl => ?_⟩
    have M9 := M8.lay hsl (.lst [])
    have P9 := P8.lay (o := .lst []) hsl
    have s0' : H sl = none := M8.free hsl
    have sG : G sl = none := M8.freeG hsl
    have ps : p ≠ sl := fun e => by rw [← e, h1] at s0'; cases s0'
    have sw : wl ≠ sl := ne_of_none hw8 hsl
    have sn : nl ≠ sl := ne_of_none hn8 hsl
    have sj : jl ≠ sl := ne_of_none hj8 hsl
    have hw9 : (upd H8 sl (.lst [])) wl = some (.lst ((ls.map fun s => wS s.w).map V.str)) := by rw [upd_ne sw]; exact hw8
    have hn9 : (upd H8 sl (.lst [])) nl = some (.lst ((labsOf ls).map labV)) := by rw [upd_ne sn]; exact hn8
    have hj9 : (upd H8 sl (.lst [])) jl = some (.lst js) := by rw [upd_ne sj]; exact hj8
    refine ⟨_, rfl, _, rfl, wl, jl, _, _, rfl, SqL.of hw9, SqL.of hj9, for_it (walk_zip (K := K) (a := wl) (b := jl) (xs := (ls.map fun s => wS s.w).map V.str) (ys := js) (n := ls.length) (by rw [List.length_map, List.length_map, jsl]; simp))
      (fun i σ H' => ∃ (G' : Hp) (xs : List V) (v8 v9 : Option V), σ = [some (.ref p), some (.int cells), some (.ref ot), some (.ref q2), some (.ref wl), some (.ref nl), some (.ref jl), some (.ref sl), v8, v9] ∧ Mv [p] G H G' H' ∧ ParAt a G' H' p (pos + 1 + 1 + 1 + (ls.flatMap stepT).length + 1) toks ∧
        H' wl = some (.lst ((ls.map fun s => wS s.w).map V.str)) ∧ H' nl = some (.lst ((labsOf ls).map labV)) ∧ H' jl = some (.lst js) ∧ G' sl = none ∧ H' sl = some (.lst xs) ∧ DpAll K G' xs ((ss.take i).map Step.D)) ?_ ?_ ?_ ?_⟩
    · exact ⟨G, [], none, none, rfl, M9, P9, hw9, hn9, hj9, sG, upd_same, .nil⟩
    · rintro i σ H' _ ⟨G', xs, v8, v9, rfl, _, _, hw', _, hj', _⟩
      exact ⟨SqL.of hw', SqL.of hj'⟩
    · rintro i y σ H10 H11 hi ⟨G', xs, v8', v9', rfl, M10, P10, hw10, hn10, hj10, sG10, hs10, hD10⟩ ⟨T', x, z, rfl, hT', rfl, hx, hz⟩
      have hx : ((ls.map fun s => wS s.w).map V.str)[i]? = some x := hx
      have hz : js[i]? = some z := hz
      obtain ⟨s, hsi⟩ : ∃ s, ls[i]? = some s := ⟨_, List.getElem?_eq_getElem hi⟩
      have ex : x = .str (wS s.w) := by
        rw [List.getElem?_map, List.getElem?_map, hsi] at hx
        exact (Option.some.inj hx).symm
      subst ex
      obtain ⟨r, hri, hres⟩ := paired_get ok.res hsi
      obtain ⟨tg, htg, hjt⟩ := paired_get hjs hz
      have etg : tg = s.tgt := by
        rw [List.getElem?_map, hsi] at htg
        exact (Option.some.inj htg).symm
      subst etg
      have xsl : xs.length ≤ 20 := by rw [DpAll.len hD10, List.length_map, List.length_take]; omega
      have M11 := M10.lay hT' (.tup [.str (wS s.w), z])
      have P11 := P10.lay (o := .tup [.str (wS s.w), z]) hT'
      have hw11 : (upd H10 T' (.tup [.str (wS s.w), z])) wl = _ := (upd_ne (ne_of_none hw10 hT')).trans hw10
      have hn11 : (upd H10 T' (.tup [.str (wS s.w), z])) nl = _ := (upd_ne (ne_of_none hn10 hT')).trans hn10
      have hj11 : (upd H10 T' (.tup [.str (wS s.w), z])) jl = _ := (upd_ne (ne_of_none hj10 hT')).trans hj10
      have hs11 : (upd H10 T' (.tup [.str (wS s.w), z])) sl = _ := (upd_ne (ne_of_none hs10 hT')).trans hs10
      refine ⟨T', _, rfl, SqT.of upd_same, rfl, _, _, rfl, _, _, rfl, rfl, ?_⟩
      revert M11 P11 hw11 hn11 hj11 hs11
      generalize upd H10 T' (.tup [.str (wS s.w), z]) = H11
      intro M11 P11 hw11 hn11 hj11 hs11
      -- the step appended
      have fin : ∀ (gv : V), (∀ G, Dp K G gv (optD r.g)) → (2 ≤ sizeLine ∧ ∀ t, H11 t = none → ∃ l' ys y, (V.ref sl) = .ref l' ∧ [V.ref t] = [y] ∧ (upd H11 t (.tup [.str (wS s.w), gv])) l' = some (.lst ys) ∧ ys.length < sizeLine ∧
          (∃ (G' : Hp) (xs : List V) (v8 v9 : Option V), [some (V.ref p), some (.int cells), some (.ref ot), some (.ref q2), some (.ref wl), some (.ref nl), some (.ref jl), some (.ref sl), some (.str (wS s.w)), some z] = [some (.ref p), some (.int cells), some (.ref ot), some (.ref q2), some (.ref wl), some (.ref nl), some (.ref jl), some (.ref sl), v8, v9] ∧ Mv [p] G H G' (upd (upd H11 t (.tup [.str (wS s.w), gv])) l' (.lst (ys ++ [y]))) ∧ ParAt a G' (upd (upd H11 t (.tup [.str (wS s.w), gv])) l' (.lst (ys ++ [y]))) p (pos + 1 + 1 + 1 + (ls.flatMap stepT).length + 1) toks ∧
            (upd (upd H11 t (.tup [.str (wS s.w), gv])) l' (.lst (ys ++ [y]))) wl = some (.lst ((ls.map fun s => wS s.w).map V.str)) ∧ (upd (upd H11 t (.tup [.str (wS s.w), gv])) l' (.lst (ys ++ [y]))) nl = some (.lst ((labsOf ls).map labV)) ∧ (upd (upd H11 t (.tup [.str (wS s.w), gv])) l' (.lst (ys ++ [y]))) jl = some (.lst js) ∧ G' sl = none ∧ (upd (upd H11 t (.tup [.str (wS s.w), gv])) l' (.lst (ys ++ [y]))) sl = some (.lst xs) ∧ DpAll K G' xs ((ss.take (i + 1)).map Step.D))) := by
        intro gv hgv
        refine ⟨by decide, fun t ht => ?_⟩
        have st' : sl ≠ t := ne_of_none hs11 ht
        have M12 := M11.new ht (.tup [.str (wS s.w), gv])
        have P12 := P11.new (o := .tup [.str (wS s.w), gv]) M11.s ht
        have sG12 : upd G' t (.tup [.str (wS s.w), gv]) sl = none := by rw [upd_ne st']; exact sG10
        have nGt := same_new (H := G') (p := t) (o := .tup [.str (wS s.w), gv]) (M11.freeG ht)
        refine ⟨sl, xs, _, rfl, rfl, by rw [upd_ne st']; exact hs11, smaller 20 xsl (by decide), _, xs ++ [.ref t], _, _, rfl, M12.put (.inr s0') sG12 _, P12.put ps, ?_, ?_, ?_, sG12, upd_same, ?_⟩
        · rw [upd_ne sw, upd_ne (ne_of_none hw11 ht)]; exact hw11
        · rw [upd_ne sn, upd_ne (ne_of_none hn11 ht)]; exact hn11
        · rw [upd_ne sj, upd_ne (ne_of_none hj11 ht)]; exact hj11
        · rw [take_more hri, List.map_append]
          refine DpAll.snoc (Dp.monoAll nGt _ _ hD10) (.tup (SqT.of upd_same) (.cons ?_ (.cons (hgv _) .nil)))
          rw [hres.w]
          exact .str _
      cases htg' : s.tgt with
      | none =>
        rw [htg'] at hjt
        have hz' : z = .non := hjt
        subst hz'
        refine ⟨_, rfl, rfl, _, rfl, ite_f rfl (ite_f rfl ?_)⟩
        refine ⟨_, rfl, .inl ⟨rfl, _, SqL.of hs11⟩, _, rfl, _, rfl, rfl, _, rfl, ite_f rfl (ite_f rfl ?_)⟩
        exact fin .non (fun G => by rw [hres.no htg']; exact .non)
      | some t =>
        rw [htg'] at hjt
        obtain ⟨kk, hg, hlk, hfirst⟩ := hres.yes t htg'
        obtain ⟨q, dq, lq, cq, rfl, hq⟩ := id hjt
        have hmem : some t ∈ labsOf ls := List.mem_of_getElem? hlk
        have hqH : H11 q = some (.ins a.C_Token dq (tokF (nmT t) lq cq)) := M11.s _ _ (M10.g _ _ hq)
        refine ⟨_, rfl, rfl, _, rfl, ite_t rfl ?_⟩
        refine ⟨_, rfl, q, _, dq, _, .str (mkS t), rfl, hqH, T.cl_Token, T.n_Token_text, (by kernel_rfl), _, rfl, nl, _, rfl, .inl (SqL.of hn11), rfl, lab_flat _, _, rfl, ite_f (by rw [if_pos rfl, lab_in, decide_eq_true hmem]; rfl) ?_⟩
        refine ⟨_, rfl, .inl ⟨rfl, _, SqL.of hs11⟩, _, rfl, _, rfl, rfl, _, rfl, ite_t rfl ?_⟩
        refine ⟨_, rfl, q, _, dq, _, .str (mkS t), rfl, hqH, T.cl_Token, T.n_Token_text, (by kernel_rfl), _, rfl, nl, _, rfl, .inl (SqL.of hn11), rfl, lab_flat _, _, rfl, ite_t (by rw [if_neg Bool.false_ne_true, lab_in, decide_eq_true hmem]) ?_⟩
        refine ⟨_, rfl, .inl ⟨rfl, _, SqL.of hn11⟩, _, rfl, q, _, dq, _, .str (mkS t), rfl, hqH, T.cl_Token, T.n_Token_text, (by kernel_rfl), nl, _, .str (mkS t), kk, labV (some t), rfl, rfl, SqL.of hn11, rfl, lab_flat _, (by rw [List.getElem?_map, hlk]; rfl), (by rw [eqV_lab]; exact decide_eq_true rfl), (fun m z' hm hz' => ?_), ?_⟩
        · rw [List.getElem?_map] at hz'
          cases em : (labsOf ls)[m]? with
          | none => rw [em] at hz'; cases hz'
          | some lm =>
            rw [em] at hz'
            have : z' = labV lm := (Option.some.inj hz').symm
            rw [this, eqV_lab]
            exact decide_eq_false fun e => hfirst m hm (by rw [em, e])
        · exact fin (.int kk) (fun G => by rw [hg]; exact .int kk)
    · rintro σ H10 ⟨G', xs, v8', v9', rfl, M10, P10, hw10, hn10, hj10, sG10, hs10, hD10⟩
      have ess : ss.take ls.length = ss := by rw [← ssl]; exact List.take_length
      rw [ess] at hD10
      have hq10 : H10 q2 = some (.ins a.C_Token dq2 (tokF (numT st) lq2 cq2)) := M10.s _ _ (M10.g _ _ hq2)
      refine ⟨_, rfl, q2, _, dq2, _, .str (mkS (numL st)), rfl, hq10, T.cl_Token, T.n_Token_text, (by kernel_rfl), _, (st : Int), rfl, io, nlen, _, rfl, _, rfl, fun x dx' nx nd ne => init_go2 rfl ⟨rfl, ?_⟩⟩
      have M11 := (M10.freeze s0' hs10).freeze n0 hn10
      have M12 := M11.make nx nd ne (.ins a.C_Robot dx' (robF st sl nl))
      have g1 : Same G' (upd G' sl (.lst xs)) := same_new sG10
      have M10' := M10.freeze s0' hs10
      have g2 := same_frz M10'.s hn10
      have g3 := same_make (M11.freeG nx) (M11.freeG nd) ne (.ins a.C_Robot dx' (robF st sl nl))
      have px : p ≠ x := by obtain ⟨_, _, _, h⟩ := P10.some; exact ne_of_none h nx
      have pdx : p ≠ dx' := by obtain ⟨_, _, _, h⟩ := P10.some; exact ne_of_none h nd
      refine k _ _ _ M12 ?_ ⟨x, dx', sl, nl, rfl, upd_same, .lst (SqL.of ?_) (Dp.monoAll ((g1.trans g2).trans g3) _ _ hD10)⟩
      · have el : pos + 1 + 1 + 1 + (ls.flatMap stepT).length + 1 = pos + (robotT st ls).length := by
          unfold robotT
          simp only [List.length_append, List.length_cons, List.length_nil]
          omega
        rw [el] at P10
        refine P10.grow ((g1.trans g2).trans g3) (fun o e => by rw [upd_ne px, upd_ne pdx]; exact e) ?_
        rw [upd_ne px, upd_ne pdx, upd_ne pn, upd_ne ps]
        exact P10.out
      · exact (g2.trans g3) _ _ upd_same
end
end Sb

namespace Sb
open PySem PySem.Spec PyProof.Rows L2 TL
def planF (sh rl : Addr) : List (Str × V) := [("shelf", .ref sh), ("robots", .ref rl)]
def PlanAt (a : Ad) (K : PySem.W.Frag) (G : Hp) (v : V) (x : Pl) : Prop := ∃ (r dx sh rl : Addr) (r1 r2 : V), v = .ref r ∧ G r = some (.ins a.C_Plan dx (planF sh rl)) ∧ SqT K G sh (x.shelf.map fun n : Nat => V.int n) ∧ SqL K G rl [r1, r2] ∧ RobAt a K G r1 x.a x.p ∧ RobAt a K G r2 x.b x.q
theorem PlanAt.mono {a : Ad} {K : PySem.W.Frag} {G G' : Hp} {v : V} {x : Pl} (s : Same G G') (h : PlanAt a K G v x) : PlanAt a K G' v x := by
  obtain ⟨r, dx, sh, rl, r1, r2, e, h1, h2, h3, h4, h5⟩ := h
  exact ⟨r, dx, sh, rl, r1, r2, e, s _ _ h1, Same.seqT s h2, s.seq h3, h4.mono s, h5.mono s⟩
def planT (x : Pl) (l1 l2 : List LStep) : List Tk := kwT "shelf" :: (x.shelf.map numT ++ (sgT 59 :: (robotT x.a l1 ++ robotT x.b l2)))
/-- a text whose tokens are those of the plan x -/
structure Loads (src : Str) (x : Pl) : Prop where
  ex : ∃ (l1 l2 : List LStep) (rows : List (List Nat)) (tss : List (List Tk)), tl src = joinL [10] rows ∧ rows ≠ [] ∧ (∀ r ∈ rows, 10 ∉ r) ∧ (∀ r ∈ rows, r.length ≤ 3000) ∧ (tl src).length ≤ 3000000 ∧ Paired Lx rows tss ∧ tss.flatten = planT x l1 l2 ∧ LOk l1 x.p ∧ LOk l2 x.q
structure spParInit (C : Addr) (vs : List V) (H : Hp) (Q : VK) (E : XK) : Prop where
  ex : ∃ (x dx tk : Addr), vs = [.ref x, .ref tk] ∧ H x = some (.ins C dx []) ∧ ∀ fl, H fl = none → Q .non (upd (upd H fl (.lst [])) x (.ins C dx (parF tk fl 0)))
structure spPPlan (a : Ad) (K : PySem.W.Frag) (vs : List V) (H : Hp) (Q : VK) (E : XK) : Prop where
  ex : ∃ (p : Addr) (G : Hp) (x : Pl) (l1 l2 : List LStep), vs = [.ref p] ∧ Same G H ∧ ParAt a G H p 0 (planT x l1 l2 ++ [⟨.fin, []⟩]) ∧ x.Ok ∧ LOk l1 x.p ∧ LOk l2 x.q ∧ ∀ G1 H1 v, Mv [p] G H G1 H1 → PlanAt a K G1 v x → Q v H1
structure spLoad (a : Ad) (K : PySem.W.Frag) (vs : List V) (H : Hp) (Q : VK) (E : XK) : Prop where
  ex : ∃ (src : Str) (G : Hp) (x : Pl), vs = [.str src] ∧ Loads src x ∧ x.Ok ∧ Pure G H Q (fun G' v => PlanAt a K G' v x)
theorem upd_swap {H : Hp} {x fl : Addr} {o1 o2 o3 : HO} (ne : fl ≠ x) : upd (upd (upd H x o1) fl o2) x o3 = upd (upd H fl o2) x o3 := by
  funext b
  unfold upd
  by_cases h : b = x
  · rw [if_pos h, if_pos h]
  · rw [if_neg h, if_neg h, if_neg h]
theorem stepT_len {s : LStep} : (stepT s).length ≤ 5 := by
  unfold stepT
  simp only [List.length_append, List.length_cons, List.length_nil]
  have h1 : (labT s.lab).length ≤ 2 := by cases s.lab <;> simp [labT]
  have h2 : (tgtT s.tgt).length ≤ 1 := by cases s.tgt <;> simp [tgtT]
  omega
theorem flat_stepT : ∀ l : List LStep, (l.flatMap stepT).length ≤ 5 * l.length
  | [] => by simp
  | s :: r => by
    have := flat_stepT r
    have h := stepT_len (s := s)
    rw [List.flatMap_cons, List.length_append, List.length_cons]
    omega
theorem planT_len {x : Pl} {l1 l2 : List LStep} (h : x.shelf.length ≤ 12) (h1 : l1.length ≤ 20) (h2 : l2.length ≤ 20) : (planT x l1 l2).length ≤ 1000 := by
  have a1 := flat_stepT l1
  have a2 := flat_stepT l2
  unfold planT robotT
  simp only [List.length_append, List.length_cons, List.length_nil, List.length_map]
  omega
section
variable {P : Program} {w : World} {K : PySem.W.Frag} {mg : Str → Option Value} {base : Heap} {a : Ad}
theorem ok_Parser_init (T : Txt K mg a) : FnOk P w K mg base CX0 1 a.f_Parser_init a.d_Parser_init ["self", "tokens"] (spParInit a.C_Parser) := by
  refine T.F_Parser_init.ok sc_Parser_init (fun vs H Q E h => ?_) (fun cdv A outer s H vs Q E hr h => ?_)
  · obtain ⟨⟨x, dx, tk, rfl, _⟩⟩ := h
    rfl
  · obtain ⟨⟨x, dx, tk, rfl, hx, k⟩⟩ := h
    refine ⟨_, (pss_cons (ps_fld (pv 0) (pv 1) rfl)
      (pss_cons (ps_fld (pv 0) pe_int rfl)
      (pss_one (ps_fld (pv 0) (pe_lst pa_nil) rfl)))), ?_⟩
    refine ⟨_, rfl, _, rfl, x, _, dx, _, rfl, hx, T.cl_Parser, T.n_Parser_tokens, by decide, ?_⟩
    refine ⟨_, rfl, x, _, dx, _, rfl, upd_same, T.cl_Parser, T.n_Parser_at, lf1, ?_⟩
    rw [upd_upd]
    refine ⟨Nat.zero_le _, fun fl hfl => ?_⟩
    have ne : fl ≠ x := fun e => by rw [e, upd_same] at hfl; cases hfl
    rw [upd_ne ne] at hfl
    refine ⟨_, rfl, x, _, dx, _, rfl, by rw [upd_ne ne.symm, upd_same], T.cl_Parser, T.n_Parser_faults, lf2, ?_⟩
    rw [upd_swap ne]
    have e : putF "faults" (V.ref fl) (putF "at" (V.int 0) (putF "tokens" (V.ref tk) [])) = parF tk fl 0 := by
      show putF "faults" (V.ref fl) (putF "at" (V.int 0) [("tokens", V.ref tk)]) = _
      rw [putF_new (fs := [("tokens", V.ref tk)]) (show ("at" : Str) ∉ (["tokens"] : List Str) by decide +kernel)]
      show putF "faults" (V.ref fl) [("tokens", V.ref tk), ("at", V.int 0)] = _
      rw [putF_new (fs := [("tokens", V.ref tk), ("at", V.int 0)]) (show ("faults" : Str) ∉ (["tokens", "at"] : List Str) by decide +kernel)]
      rfl
    rw [e]
    exact k fl hfl
theorem ok_Parser_parse_plan (T : Txt K mg a) : FnOk P w K mg base CX0 5 a.f_Parser_parse_plan a.d_Parser_parse_plan ["self"] (spPPlan a K) := by
  refine T.F_Parser_parse_plan.ok sc_Parser_parse_plan (fun vs H Q E h => ?_) (fun cdv A outer s H vs Q E hr h => ?_)
  · obtain ⟨⟨p, G, x, l1, l2, rfl, _⟩⟩ := h
    rfl
  · obtain ⟨⟨p, G, x, l1, l2, rfl, hs, hP, hx, o1, o2, k⟩⟩ := h
    refine ⟨_, (pss_cons (ps_set (i := 1) sc_Parser_parse_plan.nd rfl (Or.inl rfl) (pe_meth0 (pv 0) T.cl_Parser T.M_Parser_parse_shelf (ok_Parser_parse_shelf T) (hr.mono (by decide)) (b_Parser_parse_shelf T) .nil pass0))
      (pss_cons (ps_set (i := 2) sc_Parser_parse_plan.nd rfl (Or.inl rfl) (pe_meth (pv 0) T.cl_Parser T.M_Parser_parse_robot (ok_Parser_parse_robot T) (hr.mono (by decide)) (b_Parser_parse_robot T) .nil pass0 (pa_cons (pe_callB call_len_seq (by rfl) T.z_len (by decide +kernel) (pa_cons (pv 1) pa_nil)) (pa_cons (pe_tup pa_nil) pa_nil))))
      (pss_cons (ps_set (i := 3) sc_Parser_parse_plan.nd rfl (Or.inl rfl) (pe_meth (pv 0) T.cl_Parser T.M_Parser_parse_robot (ok_Parser_parse_robot T) (hr.mono (by decide)) (b_Parser_parse_robot T) .nil pass0 (pa_cons (pe_callB call_len_seq (by rfl) T.z_len (by decide +kernel) (pa_cons (pv 1) pa_nil)) (pa_cons (pe_tup (pa_cons (pe_fld (pv 2) rfl) pa_nil)) pa_nil))))
      (pss_cons (ps_if (pt_cmpR op_ne (pe_fld (pe_meth0 (pv 0) T.cl_Parser T.M_Parser_peek (ok_Parser_peek T) (hr.mono (by decide)) (b_Parser_peek T) .nil pass0) rfl) (pe_glob (v := V.str (Str.ofString "end")) rfl T.c_END ⟨_, rfl⟩) (nomark _)) pss_never pss_nil)
      (pss_cons (ps_if (pt_cmpR (op_neD hr.units) (pe_fld (pv 0) rfl) (pe_lst pa_nil) (nomark _)) pss_never pss_nil)
      (pss_one (ps_ret (pe_make T.mk_Plan (ok_Plan_init T) (hr.mono (by decide)) (by rfl) T.m_Plan (b_Plan_init T) .nil pass0 (pa_cons (pv 1) (pa_cons (pe_lst (pa_cons (pv 2) (pa_cons (pv 3) pa_nil))) pa_nil)))))))))), ?_⟩
    obtain ⟨dx, ta, fl, h1⟩ := hP.some
    have c12 := hx.c12
    have e0 : (planT x l1 l2 ++ [⟨.fin, []⟩] : List Tk).drop 0 = kwT "shelf" :: (x.shelf.map numT ++ (sgT 59 :: (robotT x.a l1 ++ (robotT x.b l2 ++ [⟨.fin, []⟩])))) := by unfold planT; simp
    refine ⟨_, rfl, p, dx, _, rfl, h1, (by kernel_rfl), ⟨⟨p, G, 0, _, x.shelf, _, rfl, hs, hP, e0, hx.c3, hx.c12, hx.b3, fun G1 H1 u M1 P1 hu => ?_⟩⟩⟩
    obtain ⟨dx1, ta1, fl1, h11⟩ := P1.some
    have d1 : (planT x l1 l2 ++ [⟨.fin, []⟩] : List Tk).drop (0 + x.shelf.length + 2) = robotT x.a l1 ++ (robotT x.b l2 ++ [⟨.fin, []⟩]) := by
      have e : (planT x l1 l2 ++ [⟨.fin, []⟩] : List Tk) = (kwT "shelf" :: (x.shelf.map numT ++ [sgT 59])) ++ (robotT x.a l1 ++ (robotT x.b l2 ++ [⟨.fin, []⟩])) := by unfold planT; simp
      have l : 0 + x.shelf.length + 2 = (kwT "shelf" :: (x.shelf.map numT ++ [sgT 59])).length := by simp
      rw [e, l, List.drop_left]
    refine ⟨_, rfl, p, dx1, _, rfl, h11, (by kernel_rfl), _, rfl, u, _, rfl, .inr (Same.seqT M1.s hu), (by show 0 ≤ sizeLine; decide), fun t0 ht0 => ?_⟩
    have M2 := M1.new ht0 (.tup [])
    have P2 := P1.new (o := .tup []) M1.s ht0
    have el : (x.shelf.map fun n : Nat => V.int n).length = x.shelf.length := List.length_map ..
    refine ⟨⟨p, t0, _, _, _, x.shelf.length, x.a, [], l1, x.p, _, by rw [el]; rfl, M2.s, P2, SqT.of upd_same, d1, hx.ha, by omega, by simp, o1, fun G3 H3 v3 m3 P3 hr3 => ?_⟩⟩
    have M3 := M2.trans m3
    have hu3 : SqT K G3 u _ := Same.seqT ((same_new (M1.freeG ht0)).trans m3.g) hu
    obtain ⟨r3, dr3, sl3, nl3, rfl, hr3', hD3⟩ := id hr3
    obtain ⟨dx3, ta3, fl3, h13⟩ := P3.some
    refine ⟨_, rfl, p, dx3, _, rfl, h13, (by kernel_rfl), _, rfl, u, _, rfl, .inr (Same.seqT M3.s hu3), _, rfl, r3, _, dr3, _, .int x.a, rfl, M3.s _ _ hr3', T.cl_Robot, T.n_Robot_start, (by kernel_rfl), (by show 1 ≤ sizeLine; decide), fun t1 ht1 => ?_⟩
    have M4 := M3.new ht1 (.tup [.int x.a])
    have P4 := P3.new (o := .tup [.int x.a]) M3.s ht1
    have d2 : (planT x l1 l2 ++ [⟨.fin, []⟩] : List Tk).drop (0 + x.shelf.length + 2 + (robotT x.a l1).length) = robotT x.b l2 ++ [⟨.fin, []⟩] := by
      rw [← List.drop_drop, d1, List.drop_left]
    refine ⟨⟨p, t1, _, _, _, x.shelf.length, x.b, [x.a], l2, x.q, _, by rw [el]; rfl, M4.s, P4, SqT.of upd_same, d2, hx.hb, by omega, by simp [hx.ne.symm], o2, fun G5 H5 v5 m5 P5 hr5 => ?_⟩⟩
    have M5 := M4.trans m5
    have g5 := (same_new (o := .tup [.int x.a]) (M3.freeG ht1)).trans m5.g
    have d3 : (planT x l1 l2 ++ [⟨.fin, []⟩] : List Tk).drop (0 + x.shelf.length + 2 + (robotT x.a l1).length + (robotT x.b l2).length) = [⟨.fin, []⟩] := by
      rw [← List.drop_drop, d2, List.drop_left]
    obtain ⟨dx5, ta5, fl5, vs5, h15, _, _, _, hf5⟩ := id P5
    -- END
    refine ⟨_, rfl, p, dx5, _, rfl, h15, (by kernel_rfl), peek_go M5.s P5 (drop_at d3).1 fun v hv => ?_⟩
    obtain ⟨q, dq, lq, cq, rfl, hq⟩ := id hv
    refine ⟨q, _, dq, _, .str (kS .fin), rfl, M5.s _ _ hq, T.cl_Token, T.n_Token_kind, (by kernel_rfl), rfl, _, rfl, ite_f (by decide +kernel) ?_⟩
    -- no faults
    refine ⟨_, rfl, p, _, dx5, _, .ref fl5, rfl, h15, T.cl_Parser, T.n_Parser_faults, (by kernel_rfl), Nat.zero_le _, fun e1 he1 => ?_⟩
    have M6 := M5.lay he1 (.lst [])
    refine ⟨.list [], .list [], .lst (SqL.of (M6.s _ _ hf5)) .nil, .lst (SqL.of upd_same) .nil, by decide, by decide, _, rfl, ite_f (by decide) ?_⟩
    refine ⟨_, rfl, _, rfl, _, rfl, (by show 2 ≤ sizeLine; decide), fun rl hrl => ?_⟩
    have M7 := M6.new hrl (.lst [.ref r3, v5])
    intro y dy ny nd ne
    refine init_go2 rfl ⟨rfl, ?_⟩
    have M8 := M7.make ny nd ne (.ins a.C_Plan dy (planF u rl))
    have g7 := same_new (o := .lst [.ref r3, v5]) (M6.freeG hrl)
    have g8 := same_make (M7.freeG ny) (M7.freeG nd) ne (.ins a.C_Plan dy (planF u rl))
    refine k _ _ _ M8 ⟨y, dy, u, rl, _, _, rfl, upd_same, Same.seqT ((g5.trans g7).trans g8) hu3, g8.seq (SqL.of upd_same), hr3.mono ((g5.trans g7).trans g8), hr5.mono (g7.trans g8)⟩
theorem ok_load (T : Txt K mg a) : FnOk P w K mg base CX0 6 a.f_load a.d_load ["plan"] (spLoad a K) := by
  refine T.F_load.ok sc_load (fun vs H Q E h => ?_) (fun cdv A outer s H vs Q E hr h => ?_)
  · obtain ⟨⟨src, G, x, rfl, _⟩⟩ := h
    rfl
  · obtain ⟨⟨src, G, x, rfl, ⟨⟨l1, l2, rows, tss, e1, e2, e3, e4, e5, e6, e7, o1, o2⟩⟩, hx, hGH, k⟩⟩ := h
    refine ⟨_, (pss_one (ps_ret (pe_meth0 (pe_make T.mk_Parser (ok_Parser_init T) (hr.mono (by decide)) (by rfl) T.m_Parser (b_Parser_init T) .nil pass0 (pa_cons (pe_call (ok_tokenize T) (hr.mono (by decide)) rfl T.m_tokenize T.F_tokenize.kp (b_tokenize T) .nil pass0 (pa_cons (pv 0) pa_nil)) pa_nil)) T.cl_Parser T.M_Parser_parse_plan (ok_Parser_parse_plan T) (hr.mono (by decide)) (b_Parser_parse_plan T) .nil pass0))), ?_⟩
    have hl : tss.flatten.length ≤ 100000 := by rw [e7]; have := planT_len (x := x) hx.c12 o1.le o2.le; omega
    refine ⟨_, rfl, ⟨⟨src, G, rows, tss, rfl, e1, e2, e3, e4, e5, e6, hl, hGH, fun G1 H1 v x1 s1 h1 => ?_⟩⟩⟩
    obtain ⟨tk, vs, rfl, htk, hts⟩ := h1
    intro y dy ny nd ne
    refine ⟨⟨y, dy, tk, rfl, upd_same, fun fl hfl => ⟨rfl, ?_⟩⟩⟩
    have B1 := (Pt.start hGH).call x1 s1
    have ydy : y ≠ dy := ne.symm
    have fy : fl ≠ y := fun e => by rw [e, upd_same] at hfl; cases hfl
    have hfl2 : (upd H1 dy (.own y)) fl = none := by rw [upd_ne fy] at hfl; exact hfl
    rw [upd_swap fy]
    have B2 := (B1.new nd (.own y)).new hfl2 (.lst [])
    have ny2 : (upd (upd H1 dy (.own y)) fl (.lst [])) y = none := by rw [upd_ne fy.symm, upd_ne ydy]; exact ny
    have B3 := B2.lay ny2 (.ins a.C_Parser dy (parF tk fl 0))
    have yG := B2.freeG ny2
    have gg := (same_new (o := .own y) (B1.freeG nd)).trans (same_new (o := .lst []) ((B1.new nd (.own y)).freeG hfl2))
    refine ⟨y, dy, _, rfl, upd_same, (by kernel_rfl), ?_⟩
    rw [e7] at hts
    refine ⟨⟨y, _, x, l1, l2, rfl, B3.s, ⟨dy, tk, fl, vs, upd_same, yG, gg _ _ htk, hts.mono gg, upd_same⟩, hx, o1, o2, fun G5 H5 v5 m5 hp5 => ?_⟩⟩
    have y0 : H y = none := B2.free ny2
    refine k _ _ _ (B3.ext.trans m5.ext) (fun b o e => ?_) hp5
    refine m5.sm b o ?_
    rw [wos_out (by intro hb; rw [List.mem_singleton.mp hb, y0] at e; cases e)]
    exact B3.sm b o e
end
end Sb

namespace Sb
open PySem PySem.Spec PyProof.Rows L2 TL
/-! ### the canonical text loads -/
theorem headNot_cons {S : List Nat} {c : Nat} {r : List Nat} (h : c ∉ S) : HeadNot S (c :: r) := fun d r' e => by injection e with e1 e2; rw [← e1]; exact h
theorem headNot_nil {S : List Nat} : HeadNot S [] := fun _ _ e => nomatch e
theorem no_let32 : 32 ∉ tl letS := by rw [mem_let]; omega
theorem no_let59 : 59 ∉ tl letS := by rw [mem_let]; omega
theorem no_let58 : 58 ∉ tl letS := by rw [mem_let]; omega
theorem no_dig32 : 32 ∉ tl digS := by rw [mem_dig]; omega
theorem no_dig59 : 59 ∉ tl digS := by rw [mem_dig]; omega
theorem kw_let : ∀ t ∈ kwL, ∀ c ∈ t, c ∈ tl letS := by decide +kernel
theorem kw_len : ∀ t ∈ kwL, 3 ≤ t.length := by decide +kernel
theorem lx_kw {s : Str} {r : List Nat} {ts : List Tk} (hs : s ∈ kwS) (hr : HeadNot (tl letS) r) (h : Lx r ts) : Lx (tl s ++ r) (kwT s :: ts) :=
  .tok (.kw (kw_let _ (mem_tl.mp hs)) (mem_tl.mp hs) hr) h
theorem lx_num {n : Nat} {r : List Nat} {ts : List Tk} (hn : n < 100) (hr : HeadNot (tl digS) r) (h : Lx r ts) : Lx (numL n ++ r) (numT n :: ts) := by
  refine .tok (.num (numL_ne n) (fun c hc => ?_) (num_len hn) (fun h1 => ?_) hr) h
  · by_cases h48 : 48 ≤ c ∧ c ≤ 57
    · exact mem_dig.mpr h48
    · exact absurd hc (numL_free (by omega))
  · by_cases h10 : n < 10
    · rw [numL_lt h10] at h1
      exact absurd h1 (by simp)
    · rw [numL_step (by omega), numL_lt (by omega)]
      show some (48 + n / 10) ≠ some 48
      intro e
      injection e with e
      omega
theorem lx_sg {c : Nat} {r : List Nat} {ts : List Tk} (hc : c ∈ tl sgnS) (h : Lx r ts) : Lx (c :: r) (sgT c :: ts) := .tok (.sign hc) h
theorem lx_nm {t r : List Nat} {ts : List Tk} (h1 : ∀ c ∈ t, c ∈ tl letS) (h2 : 1 ≤ t.length) (h3 : t.length ≤ 8) (h4 : t ∉ kwL) (hr : HeadNot (tl letS) r) (h : Lx r ts) : Lx (t ++ r) (nmT t :: ts) := .tok (.nm h1 h2 h3 h4 hr) h
theorem lx_lab {k : Nat} {r : List Nat} {ts : List Tk} (hk : k < 20) (hr : HeadNot (tl letS) r) (h : Lx r ts) : Lx (115 :: (97 + k) :: r) (nmT [115, 97 + k] :: ts) := by
  refine lx_nm (t := [115, 97 + k]) (fun c hc => ?_) (by decide +revert) (by decide +revert) (fun z => ?_) hr h
  · rcases List.mem_cons.mp hc with rfl | hc
    · rw [mem_let]; omega
    · rw [List.mem_singleton.mp hc, mem_let]; omega
  · have := kw_len _ z
    simp at this
theorem sg59 : 59 ∈ tl sgnS := by rw [mem_sgn]; omega
theorem sg58 : 58 ∈ tl sgnS := by rw [mem_sgn]; omega
theorem sg123 : 123 ∈ tl sgnS := by rw [mem_sgn]; omega
theorem sg125 : 125 ∈ tl sgnS := by rw [mem_sgn]; omega
theorem lx_nums : ∀ (l : List Nat), l ≠ [] → (∀ n ∈ l, n < 100) → Lx (joinL [32] (l.map numL) ++ [59]) (l.map numT ++ [sgT 59])
  | [], h, _ => absurd rfl h
  | [n], _, h => lx_num (h n (by simp)) (headNot_cons no_dig59) (lx_sg sg59 .nil)
  | n :: m :: r, _, h => by
    have ih := lx_nums (m :: r) (by simp) (fun x hx => h x (by simp only [List.mem_cons] at hx ⊢; exact .inr hx))
    show Lx ((numL n ++ ([32] ++ joinL [32] ((m :: r).map numL))) ++ [59]) _
    rw [List.append_assoc, List.append_assoc]
    exact lx_num (h n (by simp)) (headNot_cons no_dig32) (.sp ih)
theorem shelf_kw : Str.ofString "shelf" ∈ kwS := by decide +kernel
theorem robot_kw : Str.ofString "robot" ∈ kwS := by decide +kernel
theorem w_kw : ∀ {w : Nat}, w < 8 → wS w ∈ kwS := by
  have h : ∀ w : _root_.Fin 8, wS w.val ∈ kwS := by decide +kernel
  exact fun {w} hw => h ⟨w, hw⟩
theorem lx_shelf {l : List Nat} (h : l ≠ []) (hl : ∀ n ∈ l, n ≤ 3) : Lx (shelfL l) (kwT "shelf" :: (l.map numT ++ [sgT 59])) := by
  have e : shelfL l = tl (Str.ofString "shelf") ++ (32 :: (joinL [32] (l.map numL) ++ [59])) := by
    have e1 : tl (Str.ofString "shelf") = [115, 104, 101, 108, 102] := by decide +kernel
    rw [e1]
    unfold shelfL
    simp
  rw [e]
  exact lx_kw shelf_kw (headNot_cons no_let32) (.sp (lx_nums l h (fun n hn => by have := hl n hn; omega)))
theorem lx_robot {n : Nat} (h : n < 100) : Lx ([114, 111, 98, 111, 116, 32] ++ numL n ++ [32, 123]) [kwT "robot", numT n, sgT 123] := by
  have e : [114, 111, 98, 111, 116, 32] ++ numL n ++ [32, 123] = tl (Str.ofString "robot") ++ (32 :: (numL n ++ [32, 123])) := by
    have e1 : tl (Str.ofString "robot") = [114, 111, 98, 111, 116] := by decide +kernel
    rw [e1]
    simp
  rw [e]
  exact lx_kw robot_kw (headNot_cons no_let32) (.sp (lx_num h (headNot_cons no_dig32) (.sp (lx_sg sg123 .nil))))
def canL (gs : List Nat) (k : Nat) (s : Step) : LStep := ⟨if k ∈ gs then some [115, 97 + k] else none, s.w, s.g.map fun g => [115, 97 + g]⟩
def cans (gs : List Nat) (k : Nat) : List Step → List LStep
  | [] => []
  | s :: r => canL gs k s :: cans gs (k + 1) r
theorem lx_step {gs : List Nat} {k n : Nat} {s : Step} (hk : k < 20) (hn : n ≤ 20) (h : Step.Ok n s) : Lx (stepL gs k s) (stepT (canL gs k s)) := by
  have tail : Lx ((match s.g with | none => [] | some g => [32, 115, 97 + g]) ++ [59]) (tgtT (s.g.map fun g => [115, 97 + g]) ++ [sgT 59]) ∧ HeadNot (tl letS) ((match s.g with | none => [] | some g => [32, 115, 97 + g]) ++ [59]) := by
    cases hg : s.g with
    | none => exact ⟨lx_sg sg59 .nil, headNot_cons no_let59⟩
    | some g =>
      have hgn : g < 20 := by
        have h5 : 5 ≤ s.w := by
          by_cases h5 : s.w < 5
          · rw [h.no h5] at hg; cases hg
          · omega
        obtain ⟨k2, e2, h2⟩ := h.yes h5
        rw [hg] at e2
        cases e2
        omega
      exact ⟨.sp (lx_lab hgn (headNot_cons no_let59) (lx_sg sg59 .nil)), headNot_cons no_let32⟩
  have word : Lx (wL s.w ++ ((match s.g with | none => [] | some g => [32, 115, 97 + g]) ++ [59])) (kwT (wS s.w) :: (tgtT (s.g.map fun g => [115, 97 + g]) ++ [sgT 59])) := lx_kw (w_kw h.w8) tail.2 tail.1
  have e : stepL gs k s = 32 :: 32 :: ((if k ∈ gs then [115, 97 + k, 58, 32] else []) ++ (wL s.w ++ ((match s.g with | none => [] | some g => [32, 115, 97 + g]) ++ [59]))) := by
    unfold stepL
    cases s.g <;> simp
  rw [e]
  unfold stepT canL
  refine .sp (.sp ?_)
  by_cases hm : k ∈ gs
  · rw [if_pos hm, if_pos hm]
    exact lx_lab hk (headNot_cons no_let58) (lx_sg sg58 (.sp word))
  · rw [if_neg hm, if_neg hm]
    exact word
theorem lx_steps {gs : List Nat} {n : Nat} (hn : n ≤ 20) : ∀ (k : Nat) (ss : List Step), k + ss.length ≤ 20 → (∀ s ∈ ss, Step.Ok n s) → Paired Lx (stepsL gs k ss) ((cans gs k ss).map stepT)
  | _, [], _, _ => .nil
  | k, s :: r, h, ho => .cons (lx_step (by simp at h; omega) hn (ho s (by simp))) (lx_steps hn (k + 1) r (by simp at h; omega) (fun s hs => ho s (by simp [hs])))
theorem cans_len (gs : List Nat) : ∀ (k : Nat) (ss : List Step), (cans gs k ss).length = ss.length
  | _, [] => rfl
  | k, s :: r => congrArg (· + 1) (cans_len gs (k + 1) r)
theorem cans_at (gs : List Nat) : ∀ (k : Nat) (ss : List Step) (i : Nat), (cans gs k ss)[i]? = (ss[i]?).map (canL gs (k + i))
  | _, [], i => by simp [cans]
  | k, s :: r, 0 => rfl
  | k, s :: r, i + 1 => by
    show (cans gs (k + 1) r)[i]? = _
    rw [cans_at gs (k + 1) r i]
    have e : k + 1 + i = k + (i + 1) := by omega
    rw [e]
    rfl
theorem paired_of {α β : Type} {F : α → β → Prop} : ∀ {l : List α} {m : List β}, l.length = m.length → (∀ (i : Nat) (x : α) (y : β), l[i]? = some x → m[i]? = some y → F x y) → Paired F l m
  | [], [], _, _ => .nil
  | [], _ :: _, h, _ => nomatch h
  | _ :: _, [], h, _ => nomatch h
  | x :: l, y :: m, h, f => .cons (f 0 x y rfl rfl) (paired_of (by simpa using h) (fun i a b h1 h2 => f (i + 1) a b (by simpa using h1) (by simpa using h2)))
theorem labs_at (gs : List Nat) (ss : List Step) (i : Nat) : (labsOf (cans gs 0 ss))[i]? = (ss[i]?).map fun _ => if i ∈ gs then some [115, 97 + i] else none := by
  unfold labsOf
  rw [List.getElem?_map, cans_at]
  cases ss[i]? with
  | none => rfl
  | some s => show some (canL gs (0 + i) s).lab = _; rw [Nat.zero_add]; rfl
theorem cans_ok {ss : List Step} (h : StepsOk ss) : LOk (cans (goalsOf ss) 0 ss) ss := by
  refine ⟨by rw [cans_len]; exact h.pos, by rw [cans_len]; exact h.le, ?_, ?_, ?_⟩
  · intro s hs
    obtain ⟨i, hi⟩ := List.getElem?_of_mem hs
    rw [cans_at] at hi
    cases e : ss[i]? with
    | none => rw [e] at hi; cases hi
    | some s0 =>
      rw [e] at hi
      have es : canL (goalsOf ss) (0 + i) s0 = s := Option.some.inj hi
      subst es
      have ok := h.all s0 (List.mem_of_getElem? e)
      refine ⟨ok.w8, fun h5 => ?_, fun h5 => ?_, fun z => ?_⟩
      · show s0.g.map _ = none
        rw [ok.no h5]; rfl
      · obtain ⟨k, hk, _⟩ := ok.yes h5
        exact ⟨[115, 97 + k], by show s0.g.map _ = _; rw [hk]; rfl⟩
      · have z' : (if 0 + i ∈ goalsOf ss then some [115, 97 + (0 + i)] else none) = some [125] := z
        split at z'
        · injection z' with z'
          injection z' with z1 z2
          exact absurd z1 (by decide)
        · cases z'
  · intro i s t hi ht hm
    obtain ⟨m, hm⟩ := List.getElem?_of_mem hm
    unfold labsOf at hm
    rw [List.getElem?_map, List.getElem?_take] at hm
    by_cases hmi : m < i
    · rw [if_pos hmi, cans_at] at hm
      rw [cans_at] at hi
      cases e : ss[i]? with
      | none => rw [e] at hi; cases hi
      | some s0 =>
        rw [e] at hi
        have es : canL (goalsOf ss) (0 + i) s0 = s := Option.some.inj hi
        subst es
        cases e2 : ss[m]? with
        | none => rw [e2] at hm; cases hm
        | some s1 =>
          rw [e2] at hm
          have em : (canL (goalsOf ss) (0 + m) s1).lab = some t := Option.some.inj hm
          have h1 : (if 0 + i ∈ goalsOf ss then some [115, 97 + (0 + i)] else none) = some t := ht
          have h2 : (if 0 + m ∈ goalsOf ss then some [115, 97 + (0 + m)] else none) = some t := em
          split at h1
          · split at h2
            · rw [← h1] at h2
              injection h2 with h2
              injection h2 with _ h2
              injection h2 with h2 _
              omega
            · cases h2
          · cases h1
    · rw [if_neg hmi] at hm; cases hm
  · refine paired_of (cans_len _ _ _) fun i x y hx hy => ?_
    rw [cans_at, hy] at hx
    have es : canL (goalsOf ss) (0 + i) y = x := Option.some.inj hx
    subst es
    have ok := h.all y (List.mem_of_getElem? hy)
    refine ⟨rfl, fun hn => ?_, fun t ht => ?_⟩
    · have hn' : y.g.map (fun g => [115, 97 + g]) = none := hn
      cases hg : y.g with
      | none => rfl
      | some g => rw [hg] at hn'; cases hn'
    · have ht' : y.g.map (fun g => [115, 97 + g]) = some t := ht
      cases hg : y.g with
      | none => rw [hg] at ht'; cases ht'
      | some g =>
        rw [hg] at ht'
        have et : [115, 97 + g] = t := Option.some.inj ht'
        subst et
        have hgm : g ∈ goalsOf ss := List.mem_filterMap.mpr ⟨y, List.mem_of_getElem? hy, hg⟩
        have hgl : g < ss.length := by
          have h5 : 5 ≤ y.w := by
            by_cases h5 : y.w < 5
            · rw [ok.no h5] at hg; cases hg
            · omega
          obtain ⟨k2, e2, h2⟩ := ok.yes h5
          rw [hg] at e2
          cases e2
          exact h2
        refine ⟨g, rfl, ?_, fun m hm e => ?_⟩
        · rw [labs_at, List.getElem?_eq_getElem hgl]
          show some (if g ∈ goalsOf ss then _ else _) = _
          rw [if_pos hgm]
        · rw [labs_at] at e
          cases e2 : ss[m]? with
          | none => rw [e2] at e; cases e
          | some s1 =>
            rw [e2] at e
            have e3 : (if m ∈ goalsOf ss then some [115, 97 + m] else none) = some [115, 97 + g] := Option.some.inj e
            split at e3
            · injection e3 with e3
              injection e3 with _ e3
              injection e3 with e3 _
              omega
            · cases e3
theorem robot_lx {n : Nat} {ss : List Step} (hn : n < 100) (h : StepsOk ss) : ∃ tss, Paired Lx (robotL n ss) tss ∧ tss.flatten = robotT n (cans (goalsOf ss) 0 ss) := by
  refine ⟨[kwT "robot", numT n, sgT 123] :: ((cans (goalsOf ss) 0 ss).map stepT ++ [[sgT 125]]), .cons (lx_robot hn) (Paired.snoc (lx_steps h.le 0 ss (by have := h.le; omega) h.all) (lx_sg sg125 .nil)), ?_⟩
  unfold robotT
  simp [List.flatMap_def]
theorem no10_steps {gs : List Nat} {n : Nat} : ∀ (k : Nat) (ss : List Step), (∀ s ∈ ss, Step.Ok n s) → ∀ p ∈ stepsL gs k ss, 10 ∉ p
  | _, [], _, p, hp => nomatch hp
  | k, s :: r, ho, p, hp => by
    rcases List.mem_cons.mp hp with rfl | hp
    · have hw : ∀ w : _root_.Fin 8, 10 ∉ wL w.val := by decide +kernel
      have h1 := hw ⟨s.w, (ho s (by simp)).w8⟩
      unfold stepL
      intro hm
      simp only [List.mem_append] at hm
      rcases hm with (((hm | hm) | hm) | hm) | hm
      · simp at hm
      · split at hm
        · simp at hm; omega
        · cases hm
      · exact h1 hm
      · split at hm
        · cases hm
        · simp at hm; omega
      · simp at hm
    · exact no10_steps (k + 1) r (fun s hs => ho s (by simp [hs])) p hp
theorem no10_robot {n : Nat} {ss : List Step} (h : StepsOk ss) : ∀ p ∈ robotL n ss, 10 ∉ p := by
  intro p hp
  rcases List.mem_cons.mp hp with rfl | hp
  · intro hm
    simp only [List.mem_append] at hm
    rcases hm with (hm | hm) | hm
    · simp at hm
    · exact numL_free (by omega) hm
    · simp at hm
  · rcases List.mem_append.mp hp with hp | hp
    · exact no10_steps 0 ss h.all p hp
    · rw [List.mem_singleton.mp hp]; decide
theorem no10_join : ∀ (l : List Nat), 10 ∉ joinL [32] (l.map numL)
  | [] => by simp [joinL]
  | [n] => numL_free (by omega)
  | n :: m :: r => by
    have ih := no10_join (m :: r)
    show 10 ∉ (numL n ++ ([32] ++ joinL [32] ((m :: r).map numL)))
    simp only [List.mem_append, not_or]
    exact ⟨numL_free (by omega), by decide, ih⟩
theorem no10_shelf (l : List Nat) : 10 ∉ shelfL l := by
  unfold shelfL
  simp only [List.mem_append, not_or]
  exact ⟨⟨by decide, no10_join l⟩, by decide⟩
theorem loads_text {x : Pl} (h : x.Ok) : Loads (textS x) x := by
  have hne : x.shelf ≠ [] := fun e => by have := h.c3; rw [e] at this; exact absurd this (by decide)
  have c12 := h.c12
  obtain ⟨t1, p1, e1⟩ := robot_lx (n := x.a) (by have := h.ha; omega) h.p
  obtain ⟨t2, p2, e2⟩ := robot_lx (n := x.b) (by have := h.hb; omega) h.q
  refine ⟨⟨_, _, linesL x, (kwT "shelf" :: (x.shelf.map numT ++ [sgT 59])) :: (t1 ++ t2), rfl, by unfold linesL; simp, ?_, fun r hr => ?_, ?_, .cons (lx_shelf hne h.b3) (Paired.app p1 p2), ?_, cans_ok h.p, cans_ok h.q⟩⟩
  · intro r hr
    rcases List.mem_cons.mp hr with rfl | hr
    · exact no10_shelf _
    · rcases List.mem_append.mp hr with hr | hr
      · exact no10_robot h.p r hr
      · exact no10_robot h.q r hr
  · have := lines_len h r hr; omega
  · have := textL_len h
    show (textL x).length ≤ _
    omega
  · rw [List.flatten_cons, List.flatten_append, e1, e2]
    unfold planT
    simp
end Sb

namespace Sb
open PySem PySem.Spec PyProof.Rows L2 TL
/-! ### equal data are told equal -/
mutual
def okD : PyData → Bool
  | .none | .bool _ | .int _ | .str _ => true
  | .list xs | .tuple xs => decide (xs.length ≤ 1000000) && okAll xs
  | .dict _ => false
def okAll : List PyData → Bool
  | [] => true
  | x :: xs => okD x && okAll xs
end
theorem okAll_at : ∀ {xs : List PyData} {i : Nat} {d : PyData}, okAll xs = true → xs[i]? = some d → okD d = true
  | [], _, _, _, e => by simp at e
  | x :: xs, 0, d, h, e => by
    simp at e; subst e
    have h' : (okD x && okAll xs) = true := h
    rw [Bool.and_eq_true] at h'
    exact h'.1
  | x :: xs, i + 1, d, h, e => by
    have h' : (okD x && okAll xs) = true := h
    rw [Bool.and_eq_true] at h'
    exact okAll_at (i := i) h'.2 (by simpa using e)
theorem depthAll_at : ∀ {xs : List PyData} {i : Nat} {d : PyData}, xs[i]? = some d → d.depth ≤ PyData.depthAll xs
  | [], _, _, e => by simp at e
  | x :: xs, 0, d, e => by
    simp at e; subst e
    show x.depth ≤ max x.depth (PyData.depthAll xs)
    omega
  | x :: xs, i + 1, d, e => by
    have := depthAll_at (xs := xs) (i := i) (d := d) (by simpa using e)
    show d.depth ≤ max x.depth (PyData.depthAll xs)
    omega
theorem SqL.ty {K : PySem.W.Frag} {H : Hp} {p : Addr} {xs : List V} (h : SqL K H p xs) : TyX K H (.ref p) (.type "list") := by
  rcases h with (h | ⟨o, h⟩) | ⟨o, its, n, h1, h2, _⟩
  · exact .base (.lst h)
  · exact .base (.frz h)
  · exact .kList h1 h2
theorem SqT.ty {K : PySem.W.Frag} {H : Hp} {p : Addr} {xs : List V} (h : SqT K H p xs) : TyX K H (.ref p) (.type "tuple") := by
  rcases h with (h | ⟨o, h⟩) | ⟨o, its, n, h1, h2, _⟩
  · exact .base (.tup h)
  · exact .fTuple h
  · exact .kTuple h1 h2
structure spEqual (K : PySem.W.Frag) (n : Nat) (vs : List V) (H : Hp) (Q : VK) (E : XK) : Prop where
  ex : ∃ (v u : V) (d : PyData), vs = [v, u] ∧ Dp K H v d ∧ Dp K H u d ∧ d.depth ≤ n ∧ okD d = true ∧ ∀ H', Same H H' → Q (.bl true) H'
theorem kf {K : PySem.W.Frag} {x y : String} {b : Bool} (h : kitB x y = some b) : PySem.W.kitOne K (.type x) (.type y) = some b := kit_ty h
section
variable {P : Program} {w : World} {K : PySem.W.Frag} {mg : Str → Option Value} {base : Heap} {a : Ad}
end
end Sb

namespace Sb
open PySem PySem.Spec PyProof.Rows L2
/-! ### enumerate(tuple) -/
theorem meets_enumerate_new1 {v : Value} {o : Obj} {H : Heap → Prop} (B : Begins v o H) :
    Meets (Builtin.«enumerate.__new__» ⟨[.type "enumerate", v], []⟩) (fun _ R s => H s.heap ∧
      R (.ok (.ret (.ref (s.heap.push o).objs.size))) { s with heap := (s.heap.push o).push { cls := .type "enumerate", data := .fields #[.none, .bool false, .ref s.heap.objs.size, rawInt 0, .none, .none] } }) :=
  .of_wp fun prog w A R s h => by
    obtain ⟨hp, g, d, tk, os⟩ := s; obtain ⟨h1, h⟩ := h
    have hsub := sub_enumerate
    have q1 : ∀ {A' : Around} {E : Value → Shared → Prop} {Q : Value → Shared → Prop}, Q (.ref hp.objs.size) ⟨hp.push o, g, d, tk, os⟩ → wpAny (model prog w) A' (pyIter v) Q E ⟨hp, g, d, tk, os⟩ :=
      fun q => B.iter prog w _ _ ⟨hp, g, d, tk, os⟩ _ h1 q
    wp_walk using q1
    refine wpAny_stack_any fun st => wpAny_pure ?_
    split
    · rename_i c _ _ _ _ _
      cases (c == Value.type "enumerate")
      · wp_walk using q1
        exact ⟨_, rfl, h⟩
      · wp_walk using q1
        exact ⟨_, rfl, h⟩
    · wp_walk using q1
      exact ⟨_, rfl, h⟩
section
variable {prog : Program} {w : World} {A : Around} {E : Value → Shared → Prop} {s : Shared}
theorem enum_begins1 {v : Value} {o : Obj} {H : Heap → Prop} {Q : Value → Shared → Prop} (B : Begins v o H) (h1 : H s.heap)
    (h : ∀ h', IsEnum h' (s.heap.objs.size + 1) s.heap.objs.size 0 .none → h'.get? s.heap.objs.size = some o → h'.objs.size = s.heap.objs.size + 2 →
      (∀ b o, s.heap.get? b = some o → h'.get? b = some o) → Q (.ref (s.heap.objs.size + 1)) { s with heap := h' }) :
    wpAny (model prog w) A (call (.type "enumerate") [v]) Q E s := by
  refine callType_new F.called_enumerate (by decide) (F.typeCall_enumerate_1 _) (F.newCall_enumerate_1 _) (fun obj => F.args_object_init_2 obj _) F.entry_enumerate_new
    (meets_enumerate_new1 B) ⟨h1, ?_⟩
  have hz : (s.heap.push o).objs.size = s.heap.objs.size + 1 := Heap.size_push ..
  show _ ∧ _
  rw [hz]
  have he : IsEnum ((s.heap.push o).push { cls := .type "enumerate", data := .fields #[.none, .bool false, .ref s.heap.objs.size, rawInt 0, .none, .none] }) (s.heap.objs.size + 1) s.heap.objs.size 0 .none := by
    have := Heap.get?_push_size (s.heap.push o) (o := { cls := .type "enumerate", data := .fields #[.none, .bool false, .ref s.heap.objs.size, rawInt 0, .none, .none] }) rfl
    rw [hz] at this; exact this
  refine ⟨⟨_, he, rfl⟩, h _ he (Heap.get?_push_of_some _ (Heap.get?_push_size _ B.free)) (by rw [Heap.size_push, hz]) fun b o x => Heap.get?_push_of_some _ (Heap.get?_push_of_some _ x)⟩
end
def IteT (K : PySem.W.Frag) (a : Addr) : It :=
  ⟨fun i H => ∃ (xs : List V) (x : V), SqT K H a xs ∧ xs[i]? = some x, fun i H v H' => ∃ T x, v = .ref T ∧ H T = none ∧ H' = upd H T (.tup [.int (i : Nat), x]) ∧ ∀ xs, SqT K H a xs → xs[i]? = some x, fun i H => ∃ xs : List V, SqT K H a xs ∧ xs.length = i⟩
theorem turn_enumT {P : Program} {w : World} {K : PySem.W.Frag} {elts : List Expr} {kk : Nat} {tpos : Pos} (a e it : Addr) :
    Turn P w K (.Tuple elts kk tpos) (IteT K a) [e, it] e (fun i h => (∃ old, IsEnum h e it ((i : Nat) : Int) old) ∧ h.IsTupleIter it a i ∧ e ≠ it) where
  mem := by simp
  obj := fun i h st b hb => by
    obtain ⟨⟨old, he⟩, ⟨o, ho, hc, hd⟩, _⟩ := st
    have e' : b = e ∨ b = it := by simpa using hb
    rcases e' with z | z
    · rw [z]; exact ⟨_, he, fun v q => nomatch q⟩
    · rw [z]; exact ⟨o, ho, fun v q => by rw [hd] at q; cases q⟩
  keep := fun i h h' st k => let ⟨⟨old, he⟩, hi, hne⟩ := st; ⟨⟨old, k e (by simp) _ he⟩, hi.at fun o q => k it (by simp) o q, hne⟩
  item := by
    intro X hP hw hK hc i pins s σ H E I hf st hg
    subst hP hw hK
    obtain ⟨⟨old, he⟩, hit, hne⟩ := st
    obtain ⟨xs, x, hq, hx⟩ := hg
    obtain ⟨its, rv, p, hz⟩ := I.tuple hq
    obtain ⟨u, hu, ru⟩ := rv.get hx
    have hel : e < s.heap.objs.size := Heap.lt_size he
    have hil : it < s.heap.objs.size := by obtain ⟨_, q, _⟩ := id hit; exact Heap.lt_size q
    have pt : s.heap.IsTuple a its.toArray := p
    have hai : a ≠ it := fun z => by
      obtain ⟨o, q1, q2, _⟩ := id hit
      obtain ⟨o', p1, p2, _⟩ := id pt
      rw [z, q1] at p1
      cases p1
      rw [q2] at p2
      injection p2 with p2
      exact absurd p2 (by decide)
    have hea : e ≠ a := fun z => by
      obtain ⟨o', p1, p2, _⟩ := id pt
      rw [← z, he] at p1
      cases p1
      have p3 : (Value.type "enumerate") = .type "tuple" := p2
      injection p3 with p3
      exact absurd p3 (by decide)
    have hi : i < its.toArray.size := by
      have := (List.getElem?_eq_some_iff.mp hu).1
      simpa using this
    have D := Draws.tuple (prog := X.prog) (w := X.w) (A := X.A.in1) (I.ok.hd hc) it a hai its.toArray
    refine wpAny_pyNext_enum_itemD D he ⟨hit, pt⟩ hi hne (by simp [hne, hea]) fun x' h' tk hPx ho hst' hT hsz hk => ?_
    have hxu : x' = u := by
      have h1 : its.toArray[i]? = some x' := hPx
      rw [List.getElem?_toArray, hu] at h1
      exact (Option.some.inj h1).symm
    subst hxu
    obtain ⟨hit', pt'⟩ := hst'
    refine ⟨_, rfl, wpAny_letOwnedTupleGo_enum (s := { s with heap := h', toks := tk + 1 }) ho fun h'' he' sb => ?_⟩
    have hT2 : h''.get? s.heap.objs.size = some { cls := .type "tuple", data := .seq #[.int i tk, x'] } := (sb.2 _ (Nat.ne_of_gt hel)).trans hT
    have new : ObjOk X.prog X.w (upd H s.heap.objs.size (.tup [.int (i : Nat), x])) h'' s.heap.objs.size (.tup [.int (i : Nat), x]) :=
      ⟨by show 2 ≤ sizeLine; decide, [.int i tk, x'], .cons ⟨_, rfl⟩ (.cons ru .nil), ⟨_, hT2, rfl, _, rfl⟩⟩
    have I1 : Inv X pins σ (upd H s.heap.objs.size (.tup [.int (i : Nat), x])) { s with heap := h'', toks := tk + 1 } :=
      I.turnedNew (ch := [e, it]) (fun b ob hb q => (sb.2 b (fun z => hb (by simp [z]))).trans (hk b ob (fun z => hb (by simp [z])) (fun z => hb (by simp [z])) q)) hf (Nat.le_refl _) new
    refine ⟨.ref s.heap.objs.size, _, I1, rfl, ⟨_, x, rfl, I.hok.fresh (Nat.le_refl _), rfl, fun ys hy => by rw [I.tuple_inj hy hq]; exact hx⟩, ⟨⟨x', ?_⟩, hit'.at fun o q => (sb.2 it (Ne.symm hne)).trans q, hne⟩, fun b hb => ?_⟩
    · have e1 : ((i + 1 : Nat) : Int) = (i : Int) + 1 := by omega
      rw [e1]; exact he'
    · have hb' : b < s.heap.objs.size := by
        have e' : b = e ∨ b = it := by simpa using hb
        rcases e' with z | z
        · rw [z]; exact hel
        · rw [z]; exact hil
      rw [upd_ne (Nat.ne_of_lt hb')]
      exact (hf b hb).1
  done := by
    intro X hP hw hK hc i pins s σ H E I hf st hg
    subst hP hw hK
    obtain ⟨⟨old, he⟩, hit, hne⟩ := st
    obtain ⟨xs, hq, hx⟩ := hg
    obtain ⟨its, rv, p, hz⟩ := I.tuple hq
    obtain ⟨f0, f1, f2, f3, f4, f5⟩ := hf it (by simp)
    have hl := rv.length
    have pt : s.heap.IsTuple a its.toArray := p
    have hai : a ≠ it := fun z => by
      obtain ⟨o, q1, q2, _⟩ := id hit
      obtain ⟨o', p1, p2, _⟩ := id pt
      rw [z, q1] at p1
      cases p1
      rw [q2] at p2
      injection p2 with p2
      exact absurd p2 (by decide)
    have D := Draws.tuple (prog := X.prog) (w := X.w) (A := X.A.in1) (I.ok.hd hc) it a hai its.toArray
    have ei : i = its.toArray.size := by simp; omega
    refine wpAny_pyNext_enum_endD D he ⟨by rw [← ei]; exact hit, pt⟩ fun h' eb => ⟨rfl, I.turned (t' := s.toks) (fun b o hb q => eb b o hb q) f0 f1 f3 f4 f5⟩
  self := fun A i s Q E st h => let ⟨⟨_, he⟩, _⟩ := st; wpAny_pyIter_enum he h
def iEnumT (K : PySem.W.Frag) (ta : TA) : TI := fun σ H R => ta σ H fun vs H1 => ∃ a xs, vs = [.ref a] ∧ SqT K H1 a xs ∧ R (IteT K a) H1
theorem pi_enumT {X : Cx} {e : Expr} {ta : TA} {p pos tpos : Pos} {elts : List Expr} {kk : Nat} (hg : Gl X "enumerate") (hm : X.mg "enumerate" = none) (ha : PA X [e] ta) (hs : starEach [e] X.env = [(false, eval e X.env)] := by rfl) :
    PI X (.Tuple elts kk tpos) (.Call (.Name "enumerate" p) [e] [] pos) (iEnumT X.K ta) := by
  refine ⟨fun pins s σ H R I h => ?_⟩
  refine Call_ (ld_blt I hg hm boot_enumerate (PyProof.Rows.callWith_type1 (thn (ha.run pos pins s σ H _ I h) fun us s1 ⟨vs, H1, I1, r1, q1⟩ => ?_) hs rfl))
  obtain ⟨a, xs, ex, hq, q⟩ := q1
  subst ex
  cases r1 with
  | cons r rr =>
    cases rr
    cases r
    obtain ⟨its, rv, p', hz⟩ := I1.tuple hq
    refine enum_begins1 (begins_tuple a its.toArray) p' fun h' he hit hsz hk => wpAny_pyIter_enum he ?_
    have I2 : Inv X pins σ H1 { s1 with heap := h' } := I1.kept (t' := s1.toks) hk
    refine ⟨s1.heap.objs.size + 1, [s1.heap.objs.size + 1, s1.heap.objs.size], _, _, H1, rfl, I2, turn_enumT a (s1.heap.objs.size + 1) s1.heap.objs.size, ⟨⟨.none, he⟩, ⟨_, hit, rfl, rfl⟩, Nat.succ_ne_self _⟩, fun b hb => ?_, q⟩
    have e' : b = s1.heap.objs.size + 1 ∨ b = s1.heap.objs.size := by simpa using hb
    have hle : s1.heap.objs.size ≤ b := by
      rcases e' with z | z
      · rw [z]; exact Nat.le_add_right _ _
      · rw [z]; exact Nat.le_refl _
    exact I1.fpOk hle (I1.hok.fresh hle)
/-- a comprehension over enumerate(tuple) -/
theorem lc_enumT {K : PySem.W.Frag} {a : Addr} {xs : List V} {g : TG} {tt : TT} {te : TE} {vs : List Nat} {σ : L2.St} {H1 : Hp} {D : Addr} {Qd : Hp → Prop} (Pv : Nat → Hp → Prop) (h0 : Pv 0 (upd H1 D (.lst []))) (hl : ∀ i H, i ≤ xs.length → Pv i H → SqT K H a xs)
    (hs : ∀ i x H T, xs[i]? = some x → Pv i H → H T = none → g (.ref T) (wipe σ vs) (upd H T (.tup [.int (i : Nat), x])) fun σ2 H2 => wipe σ2 vs = wipe σ vs ∧ tt σ2 H2 fun b H3 =>
      if b = true then te σ2 H3 fun y H4 => ∃ acc, H4 D = some (.lst acc) ∧ acc.length < sizeLine ∧ Pv (i + 1) (upd H4 D (.lst (acc ++ [y]))) else Pv (i + 1) H3) (hd : ∀ H, Pv xs.length H → Qd H) :
    ∃ W : Nat → Nat → Hp → Prop, (∃ m, W 0 m (upd H1 D (.lst []))) ∧ ∀ i m H, W i m H →
      ((IteT K a).stop i H ∧ Qd H) ∨ ((IteT K a).go i H ∧ ∃ Nx : Hp → Prop, (∀ H', Nx H' → ∃ m', m' < m ∧ W (i + 1) m' H') ∧ ∀ x H', (IteT K a).yld i H x H' → g x (wipe σ vs) H' fun σ2 H2 => wipe σ2 vs = wipe σ vs ∧ tt σ2 H2 fun b H3 =>
        if b = true then te σ2 H3 fun y H4 => ∃ acc, H4 D = some (.lst acc) ∧ acc.length < sizeLine ∧ Nx (upd H4 D (.lst (acc ++ [y]))) else Nx H3) := by
  refine ⟨fun i m H => m = xs.length - i ∧ i ≤ xs.length ∧ Pv i H, ⟨xs.length, by simp, Nat.zero_le _, h0⟩, ?_⟩
  rintro i m H ⟨rfl, hi, p⟩
  have q := hl i H hi p
  by_cases hlt : i < xs.length
  · refine .inr ⟨⟨xs, xs[i], q, by simp [hlt]⟩, Pv (i + 1), fun H' p' => ⟨xs.length - (i + 1), by omega, rfl, hlt, p'⟩, fun x H' y => ?_⟩
    obtain ⟨T, z, rfl, hT, rfl, y⟩ := y
    exact hs i z H T (y xs q) p hT
  · have e : i = xs.length := by omega
    subst e
    exact .inl ⟨⟨xs, q, rfl⟩, hd H p⟩
end Sb

namespace Sb
open PySem PySem.Spec PyProof.Rows L2 TL
structure spIsInt (K : PySem.W.Frag) (vs : List V) (H : Hp) (Q : VK) (E : XK) : Prop where
  ex : ∃ (v : V) (lo hi : Int), vs = [v, .int lo, .int hi] ∧ ((∃ i, v = .int i ∧ Q (.bl (decide (lo ≤ i ∧ i ≤ hi))) H) ∨ (∃ b, v = .bl b ∧ Q (.bl false) H) ∨ (∃ n, TyX K H v (.type n) ∧ PySem.W.kitOne K (.type n) (.type "int") = some false ∧ Q (.bl false) H))
section
variable {P : Program} {w : World} {K : PySem.W.Frag} {mg : Str → Option Value} {base : Heap} {a : Ad}
theorem ok_is_int_in (T : Txt K mg a) : FnOk P w K mg base CX0 1 a.f_is_int_in a.d_is_int_in ["value", "low", "high"] (spIsInt K) := by
  refine T.F_is_int_in.ok sc_is_int_in (fun vs H Q E h => ?_) (fun cdv A outer s H vs Q E hr h => ?_)
  · obtain ⟨⟨v, lo, hi, rfl, _⟩⟩ := h
    rfl
  · obtain ⟨⟨v, lo, hi, rfl, h⟩⟩ := h
    refine ⟨_, (pss_one (ps_ret (pe_and (pe_callB call_isi (by rfl) T.z_isinstance (by decide +kernel) (pa_cons (pv 0) (pa_cons (pe_bltn (v := .ty "int") (by rfl) T.z_int (by decide +kernel) rfl) pa_nil))) (pe_and (pe_not (pe_callB call_isi (by rfl) T.z_isinstance (by decide +kernel) (pa_cons (pv 0) (pa_cons (pe_bltn (v := .ty "bool") (by rfl) T.z_bool (by decide +kernel) rfl) pa_nil)))) (pe_one (pe_chain op_le op_le (pv 1) (pv 0) (pv 2))))))), ?_⟩
    rcases h with ⟨i, rfl, q⟩ | ⟨b, rfl, q⟩ | ⟨n, ty, kt, q⟩
    · refine ⟨_, rfl, _, _, _, _, true, rfl, .ty "int", .base (.int i), kit_ty (by decide +kernel), _, rfl, iteT ?_⟩
      refine ⟨_, rfl, _, _, _, _, false, rfl, .ty "bool", .base (.int i), kit_ty (by decide +kernel), _, rfl, _, rfl, ?_⟩
      refine ⟨_, rfl, _, rfl, _, _, rfl, rfl, _, rfl, ?_⟩
      refine ite2 (fun c => ?_) (fun c => ?_)
      · have c1 : lo ≤ i := of_decide_eq_true c
        refine ⟨_, rfl, _, _, rfl, rfl, ?_⟩
        have e : decide (i ≤ hi) = decide (lo ≤ i ∧ i ≤ hi) := by simp [c1]
        dsimp only
        rw [e]
        exact q
      · have c1 : ¬ lo ≤ i := fun z => c (decide_eq_true z)
        have e : decide (lo ≤ i ∧ i ≤ hi) = false := by simp [c1]
        rw [e] at q
        exact q
    · refine ⟨_, rfl, _, _, _, _, true, rfl, .ty "int", .base (.bl b), kit_ty (by decide +kernel), _, rfl, iteT ?_⟩
      exact ⟨_, rfl, _, _, _, _, true, rfl, .ty "bool", .base (.bl b), kit_ty (by decide +kernel), _, rfl, _, rfl, q⟩
    · exact ⟨_, rfl, _, _, _, _, false, rfl, .ty "int", ty, kt, _, rfl, q⟩
theorem isint_go {i lo hi : Int} {H : Hp} {Q : VK} {E : XK} (h1 : lo ≤ i) (h2 : i ≤ hi) (q : Q (.bl true) H) : spIsInt K [.int i, .int lo, .int hi] H Q E :=
  ⟨⟨.int i, lo, hi, rfl, .inl ⟨i, rfl, by rw [decide_eq_true ⟨h1, h2⟩]; exact q⟩⟩⟩
end
end Sb

namespace Sb
open PySem PySem.Spec PyProof.Rows L2 TL
section
variable {K : PySem.W.Frag} {G0 H0 G H : Hp}
theorem catA_pt {t u : Addr} {xs ys : List V} {Q : VK} (pt : Pt G0 H0 G H) (ha : SqT K G t xs) (hb : SqT K G u ys) (hz : xs.length + ys.length ≤ sizeLine)
    (k : ∀ (q : Addr) (G' H' : Hp), Pt G0 H0 G' H' → Same G G' → SqT K G' q (xs ++ ys) → Q (.ref q) H') : rCatA K (.ref t) (.ref u) H Q := by
  refine ⟨t, u, xs, ys, rfl, rfl, Same.seqT pt.s ha, Same.seqT pt.s hb, hz, fun e => ?_, fun _ e => ?_, fun _ _ p hp => ?_⟩
  · subst e
    exact k u G H pt (Same.refl G) hb
  · subst e
    exact k t G H pt (Same.refl G) (by rw [List.append_nil]; exact ha)
  · exact k p _ _ (pt.new hp _) (same_new (pt.freeG hp)) (SqT.of upd_same)
theorem slA_pt {t : Addr} {xs : List V} {lo hi : Option Int} {Q : VK} (pt : Pt G0 H0 G H) (ha : SqT K G t xs)
    (k : ∀ (q : Addr) (G' H' : Hp), Pt G0 H0 G' H' → Same G G' → SqT K G' q (cutV xs lo hi) → Q (.ref q) H') : rSlA K (.ref t) lo hi H Q := by
  refine ⟨t, xs, rfl, Same.seqT pt.s ha, fun e => ?_, fun _ p hp => ?_⟩
  · refine k t G H pt (Same.refl G) ?_
    unfold cutV
    rw [e.1, e.2, List.drop_zero, Nat.sub_zero, List.take_length]
    exact ha
  · exact k p _ _ (pt.new hp _) (same_new (pt.freeG hp)) (SqT.of upd_same)
end
theorem cut_hi {xs : List V} {i : Nat} (h : i < xs.length) : cutV xs none (some (i : Int)) = xs.take i := by
  unfold cutV
  rw [HT.sIx_none, HT.sIx_nat, List.drop_zero, Nat.sub_zero, Nat.min_eq_left (by omega)]
theorem cut_lo {xs : List V} {i : Nat} (h : i < xs.length) : cutV xs (some ((i : Int) + 1)) none = xs.drop (i + 1) := by
  unfold cutV
  rw [show ((i : Int) + 1) = ((i + 1 : Nat) : Int) by omega, HT.sIx_none, HT.sIx_nat, Nat.min_eq_left (by omega)]
  exact List.take_of_length_le (by rw [List.length_drop]; omega)
structure spReplaced (K : PySem.W.Frag) (vs : List V) (H : Hp) (Q : VK) (E : XK) : Prop where
  ex : ∃ (G : Hp) (t : Addr) (xs : List V) (i : Nat) (v : V), vs = [.ref t, .int i, v] ∧ SqT K G t xs ∧ i < xs.length ∧ xs.length ≤ 1000 ∧ Pure G H Q fun G' u => ∃ r, u = .ref r ∧ SqT K G' r (xs.set i v)
theorem replaced_go {K : PySem.W.Frag} {G0 H0 G H : Hp} {t : Addr} {xs : List V} {i : Nat} {v : V} {Q : VK} {E : XK} (pt : Pt G0 H0 G H) (ha : SqT K G t xs) (hi : i < xs.length) (hl : xs.length ≤ 1000)
    (k : ∀ (r : Addr) (G' H' : Hp), Pt G0 H0 G' H' → Same G G' → SqT K G' r (xs.set i v) → Q (.ref r) H') : spReplaced K [.ref t, .int i, v] H Q E :=
  ⟨⟨G, t, xs, i, v, rfl, ha, hi, hl, pt.s, fun G' H' u e s ⟨r, hu, hr⟩ => by subst hu; exact k r G' H' (pt.call e s) e.g hr⟩⟩
def stF (c n b e : Addr) : List (Str × V) := [("cells", .ref c), ("nexts", .ref n), ("holds", .ref b), ("shelf", .ref e)]
def StateAt (a : Ad) (K : PySem.W.Frag) (G : Hp) (v : V) (s : Sit) : Prop := ∃ (r dx c n b e : Addr), v = .ref r ∧ G r = some (.ins a.C_State dx (stF c n b e)) ∧ SqT K G c (nV s.cs) ∧ SqT K G n (nV s.ns) ∧ SqT K G b (bV s.hs) ∧ SqT K G e (nV s.sh)
theorem StateAt.mono {a : Ad} {K : PySem.W.Frag} {G G' : Hp} {v : V} {s : Sit} (m : Same G G') (h : StateAt a K G v s) : StateAt a K G' v s := by
  obtain ⟨r, dx, c, n, b, e, h0, h1, h2, h3, h4, h5⟩ := h
  exact ⟨r, dx, c, n, b, e, h0, m _ _ h1, Same.seqT m h2, Same.seqT m h3, Same.seqT m h4, Same.seqT m h5⟩
def tkF (w : Addr) (v : V) : List (Str × V) := [("words", .ref w), ("state", v)]
def TickAt (a : Ad) (K : PySem.W.Frag) (G : Hp) (v : V) (w : Nat × Nat) (s : Sit) : Prop := ∃ (r dx t : Addr) (u : V), v = .ref r ∧ G r = some (.ins a.C_Tick dx (tkF t u)) ∧ SqT K G t [.str (doS w.1), .str (doS w.2)] ∧ StateAt a K G u s
theorem TickAt.mono {a : Ad} {K : PySem.W.Frag} {G G' : Hp} {v : V} {w : Nat × Nat} {s : Sit} (m : Same G G') (h : TickAt a K G v w s) : TickAt a K G' v w s := by
  obtain ⟨r, dx, t, u, h0, h1, h2, h3⟩ := h
  exact ⟨r, dx, t, u, h0, m _ _ h1, Same.seqT m h2, h3.mono m⟩
structure spKey (a : Ad) (K : PySem.W.Frag) (vs : List V) (H : Hp) (Q : VK) (E : XK) : Prop where
  ex : ∃ (G : Hp) (v : V) (s : Sit), vs = [v] ∧ StateAt a K G v s ∧ Pure G H Q fun G' u => ∃ p, u = .ref p ∧ Dp K G' (.ref p) (sitT s)
structure spFirst (a : Ad) (K : PySem.W.Frag) (vs : List V) (H : Hp) (Q : VK) (E : XK) : Prop where
  ex : ∃ (G : Hp) (v : V) (x : Pl), vs = [v] ∧ PlanAt a K G v x ∧ Pure G H Q fun G' u => StateAt a K G' u (sit0 x)
section
variable {P : Program} {w : World} {K : PySem.W.Frag} {mg : Str → Option Value} {base : Heap} {a : Ad}
theorem ok_replaced (T : Txt K mg a) : FnOk P w K mg base CX0 1 a.f_replaced a.d_replaced ["values", "place", "value"] (spReplaced K) := by
  refine T.F_replaced.ok sc_replaced (fun vs H Q E h => ?_) (fun cdv A outer s H vs Q E hr h => ?_)
  · obtain ⟨⟨G, t, xs, i, v, rfl, _⟩⟩ := h
    rfl
  · obtain ⟨⟨G, t, xs, i, v, rfl, ht, hi, hl, hGH, k⟩⟩ := h
    refine ⟨_, (pss_one (ps_ret (pe_op op_catA (pe_op op_catA (pe_slice sl_tupA (pv 0) po_none (po_some (pv 1))) (pe_tup (pa_cons (pv 2) pa_nil))) (pe_slice sl_tupA (pv 0) (po_some (pe_op op_add (pv 1) pe_int)) po_none)))), ?_⟩
    refine ⟨_, rfl, _, rfl, _, rfl, slA_pt (Pt.start hGH) ht fun p1 G1 H1 B1 S1 h1 => ?_⟩
    rw [cut_hi hi] at h1
    refine ⟨_, rfl, (by show 1 ≤ sizeLine; decide), fun p2 hp2 => ?_⟩
    have B2 := B1.new hp2 (.tup [v])
    have S2 := same_new (o := .tup [v]) (B1.freeG hp2)
    refine catA_pt B2 (Same.seqT S2 h1) (SqT.of upd_same) (small 2000 (by rw [List.length_take, List.length_singleton]; omega) (by decide)) fun p3 G3 H3 B3 S3 h3 => ?_
    refine ⟨_, rfl, _, rfl, _, _, rfl, rfl, _, rfl, ?_⟩
    dsimp only [tNoPart]
    refine slA_pt (K := K) B3 (Same.seqT ((S1.trans S2).trans S3) ht) fun p4 G4 H4 B4 S4 h4 => ?_
    rw [cut_lo hi] at h4
    refine catA_pt B4 (Same.seqT S4 h3) h4 (small 2000 (by rw [List.length_append, List.length_take, List.length_singleton, List.length_drop]; omega) (by decide)) fun p5 G5 H5 B5 S5 h5 => ?_
    refine k _ _ _ B5.ext B5.sm ⟨p5, rfl, ?_⟩
    rw [List.set_eq_take_append_cons_drop, if_pos hi]
    rw [List.append_assoc] at h5
    exact h5
theorem ok_State_init (T : Txt K mg a) : FnOk P w K mg base CX0 1 a.f_State_init a.d_State_init ["self", "cells", "nexts", "holds", "shelf"] (spInit a.C_State ["cells", "nexts", "holds", "shelf"]) := by
  refine T.F_State_init.ok sc_State_init (fun vs H Q E h => ?_) (fun cdv A outer s H vs Q E hr h => ?_)
  · obtain ⟨⟨x, dx, us, rfl, hl, _⟩⟩ := h
    exact congrArg (· + 1) hl
  · obtain ⟨⟨x, dx, us, rfl, hl, hx, k⟩⟩ := h
    match us, hl with
    | [u1, u2, u3, u4], _ =>
      refine ⟨_, (pss_cons (ps_fld (pv 0) (pv 1) rfl)
      (pss_cons (ps_fld (pv 0) (pv 2) rfl)
      (pss_cons (ps_fld (pv 0) (pv 3) rfl)
      (pss_one (ps_fld (pv 0) (pv 4) rfl))))), ?_⟩
      refine ⟨_, rfl, _, rfl, x, _, dx, _, rfl, hx, T.cl_State, T.n_State_cells, by decide, ?_⟩
      refine ⟨_, rfl, _, rfl, x, _, dx, _, rfl, upd_same, T.cl_State, T.n_State_nexts, lf1, ?_⟩
      refine ⟨_, rfl, _, rfl, x, _, dx, _, rfl, upd_same, T.cl_State, T.n_State_holds, lf2, ?_⟩
      refine ⟨_, rfl, _, rfl, x, _, dx, _, rfl, upd_same, T.cl_State, T.n_State_shelf, lf3, ?_⟩
      rw [upd_upd, upd_upd, upd_upd]
      have e : putF "shelf" u4 (putF "holds" u3 (putF "nexts" u2 (putF "cells" u1 []))) = (["cells", "nexts", "holds", "shelf"] : List Str).zip [u1, u2, u3, u4] := by
        show putF "shelf" u4 (putF "holds" u3 (putF "nexts" u2 [("cells", u1)])) = _
        rw [putF_new (fs := [("cells", u1)]) (show ("nexts" : Str) ∉ (["cells"] : List Str) by decide +kernel)]
        show putF "shelf" u4 (putF "holds" u3 [("cells", u1), ("nexts", u2)]) = _
        rw [putF_new (fs := [("cells", u1), ("nexts", u2)]) (show ("holds" : Str) ∉ (["cells", "nexts"] : List Str) by decide +kernel)]
        show putF "shelf" u4 [("cells", u1), ("nexts", u2), ("holds", u3)] = _
        rw [putF_new (fs := [("cells", u1), ("nexts", u2), ("holds", u3)]) (show ("shelf" : Str) ∉ (["cells", "nexts", "holds"] : List Str) by decide +kernel)]
        rfl
      rw [e]
      exact k
theorem ok_Tick_init (T : Txt K mg a) : FnOk P w K mg base CX0 1 a.f_Tick_init a.d_Tick_init ["self", "words", "state"] (spInit a.C_Tick ["words", "state"]) := by
  refine T.F_Tick_init.ok sc_Tick_init (fun vs H Q E h => ?_) (fun cdv A outer s H vs Q E hr h => ?_)
  · obtain ⟨⟨x, dx, us, rfl, hl, _⟩⟩ := h
    exact congrArg (· + 1) hl
  · obtain ⟨⟨x, dx, us, rfl, hl, hx, k⟩⟩ := h
    match us, hl with
    | [u1, u2], _ =>
      refine ⟨_, (pss_cons (ps_fld (pv 0) (pv 1) rfl)
      (pss_one (ps_fld (pv 0) (pv 2) rfl))), ?_⟩
      refine ⟨_, rfl, _, rfl, x, _, dx, _, rfl, hx, T.cl_Tick, T.n_Tick_words, by decide, ?_⟩
      refine ⟨_, rfl, _, rfl, x, _, dx, _, rfl, upd_same, T.cl_Tick, T.n_Tick_state, lf1, ?_⟩
      rw [upd_upd]
      have e : putF "state" u2 (putF "words" u1 []) = (["words", "state"] : List Str).zip [u1, u2] := by
        show putF "state" u2 [("words", u1)] = _
        rw [putF_new (fs := [("words", u1)]) (show ("state" : Str) ∉ (["words"] : List Str) by decide +kernel)]
        rfl
      rw [e]
      exact k
theorem ok_first_state (T : Txt K mg a) : FnOk P w K mg base CX0 3 a.f_first_state a.d_first_state ["parsed"] (spFirst a K) := by
  refine T.F_first_state.ok sc_first_state (fun vs H Q E h => ?_) (fun cdv A outer s H vs Q E hr h => ?_)
  · obtain ⟨⟨G, v, x, rfl, _⟩⟩ := h
    rfl
  · obtain ⟨⟨G, v, x, rfl, ⟨r, dx, sh, rl, r1, r2, rfl, h1, h2, h3, h4, h5⟩, hGH, k⟩⟩ := h
    refine ⟨_, (pss_one (ps_ret (pe_make T.mk_State (ok_State_init T) (hr.mono (by decide)) (by rfl) T.m_State (b_State_init T) .nil pass0 (pa_cons (pe_callTy call_tuple_of (by rfl) T.z_tuple (by decide +kernel) (pa_cons (pe_lc (own := [("robot", 1)]) (g := gName 1) (te := (tFld K (tVar 1) "start")) (tt := tYes) rfl sc_first_state.nd (pi_list (pe_fld (pv 0) rfl)) (blkOk_by (own := [("robot", 1)]) (N := ["parsed", "robot"]) (sc := (defScope s_first_state)) (by decide +kernel)) (fun _ _ _ _ _ => (pg_name (i := 1) sc_first_state.nd rfl (Or.inl rfl))) (fun _ _ _ _ _ => pts_nil) (fun _ _ _ _ _ => by exact (pe_fld (pv 1) rfl))) pa_nil)) (pa_cons (pe_tup (pa_cons pe_int (pa_cons pe_int pa_nil))) (pa_cons (pe_tup (pa_cons pe_bl (pa_cons pe_bl pa_nil))) (pa_cons (pe_fld (pv 0) rfl) pa_nil))))))), ?_⟩
    obtain ⟨q1, dq1, sl1, nl1, rfl, hq1, _⟩ := h4
    obtain ⟨q2, dq2, sl2, nl2, rfl, hq2, _⟩ := h5
    refine ⟨_, rfl, r, _, dx, _, .ref rl, rfl, hGH _ _ h1, T.cl_Plan, T.n_Plan_robots, (by kernel_rfl), rl, rfl, ⟨_, hGH.seq h3⟩, fun D hD => ?_⟩
    refine lc_list (K := K) (a := rl) (xs := [.ref q1, .ref q2]) (fun j H' => Pt G H G H' ∧ H' D = some (.lst (([.int x.a, .int x.b] : List V).take j)))
      ⟨(Pt.start hGH).lay hD _, upd_same⟩ (fun j H' _ ⟨p1, _⟩ => (hGH.trans p1.sm).seq h3) ?_ ?_
    · rintro j y H' hy ⟨p1, hD'⟩
      match j, hy with
      | 0, hy =>
        cases hy
        refine ⟨rfl, _, rfl, q1, _, dq1, _, .int x.a, rfl, p1.sm _ _ (hGH _ _ hq1), T.cl_Robot, T.n_Robot_start, (by kernel_rfl), ?_⟩
        exact ⟨_, hD', smaller 2 (by simp) (by decide), p1.put hD (Same.free hGH hD) _, upd_same⟩
      | 1, hy =>
        cases hy
        refine ⟨rfl, _, rfl, q2, _, dq2, _, .int x.b, rfl, p1.sm _ _ (hGH _ _ hq2), T.cl_Robot, T.n_Robot_start, (by kernel_rfl), ?_⟩
        exact ⟨_, hD', smaller 2 (by simp) (by decide), p1.put hD (Same.free hGH hD) _, upd_same⟩
      | j + 2, hy => simp at hy
    rintro H1 ⟨p1, hD1⟩
    refine ⟨D, _, rfl, .inl ⟨SqL.of hD1, fun tc htc => ?_⟩⟩
    have B1 := p1.new htc (.tup [.int x.a, .int x.b])
    refine ⟨(by show 2 ≤ sizeLine; decide), fun tn htn => ?_⟩
    have B2 := B1.new htn (.tup [.int 0, .int 0])
    refine ⟨(by show 2 ≤ sizeLine; decide), fun tb htb => ?_⟩
    have B3 := B2.new htb (.tup [.bl false, .bl false])
    refine ⟨_, rfl, r, _, dx, _, .ref sh, rfl, (B3.g.trans B3.s) _ _ h1, T.cl_Plan, T.n_Plan_shelf, (by kernel_rfl), ?_⟩
    intro y dy ny nd ne
    refine init_go2 rfl ⟨rfl, ?_⟩
    have B4 := B3.make ny nd ne (.ins a.C_State dy (stF tc tn tb sh))
    have g1 := same_new (o := .tup [.int x.a, .int x.b]) (p1.freeG htc)
    have g2 := same_new (o := .tup [.int 0, .int 0]) (B1.freeG htn)
    have g3 := same_new (o := .tup [.bl false, .bl false]) (B2.freeG htb)
    have g4 := same_make (B3.freeG ny) (B3.freeG nd) ne (.ins a.C_State dy (stF tc tn tb sh))
    exact k _ _ _ B4.ext B4.sm ⟨y, dy, tc, tn, tb, sh, rfl, upd_same, Same.seqT ((g2.trans g3).trans g4) (SqT.of upd_same), Same.seqT (g3.trans g4) (SqT.of upd_same), Same.seqT g4 (SqT.of upd_same), Same.seqT (((g1.trans g2).trans g3).trans g4) h2⟩
end
end Sb

namespace Sb
open PySem PySem.Spec PyProof.Rows L2 TL
theorem lr_mem : ∀ {w : Nat}, w < 8 → decide (wS w ∈ ([Str.ofString "left"] ++ [Str.ofString "right"] : List Str)) = decide (w < 2) := by
  have h : ∀ w : _root_.Fin 8, decide (wS w.val ∈ ([Str.ofString "left"] ++ [Str.ofString "right"] : List Str)) = decide (w.val < 2) := by decide +kernel
  exact fun {w} hw => h ⟨w, hw⟩
theorem pick_mem : ∀ {w : Nat}, w < 8 → decide (wS w ∈ [Str.ofString "pick"]) = decide (w = 2) := by
  have h : ∀ w : _root_.Fin 8, decide (wS w.val ∈ [Str.ofString "pick"]) = decide (w.val = 2) := by decide +kernel
  exact fun {w} hw => h ⟨w, hw⟩
theorem put_mem : ∀ {w : Nat}, w < 8 → decide (wS w ∈ [Str.ofString "put"]) = decide (w = 3) := by
  have h : ∀ w : _root_.Fin 8, decide (wS w.val ∈ [Str.ofString "put"]) = decide (w.val = 3) := by decide +kernel
  exact fun {w} hw => h ⟨w, hw⟩
theorem nV_flat (l : List Nat) : (nV l).all flatV = true := by
  rw [List.all_eq_true]
  intro v hv
  obtain ⟨n, _, rfl⟩ := List.mem_map.mp hv
  rfl
theorem modn (n m : Nat) : ((n : Int) + 1) % (m : Int) = (((n + 1) % m : Nat) : Int) := by
  rw [Int.natCast_emod]
  push_cast
  rfl
structure spAct (a : Ad) (K : PySem.W.Frag) (vs : List V) (H : Hp) (Q : VK) (E : XK) : Prop where
  ex : ∃ (G : Hp) (v u : V) (x : Pl) (s : Sit) (i : Nat), vs = [v, u, .int i] ∧ PlanAt a K G v x ∧ StateAt a K G u s ∧ x.Ok ∧ SitOk x s ∧ i < 2 ∧ Pure G H Q fun G' v => ∃ t u', v = .ref t ∧ SqT K G' t [.str (doS (actP x s i).1), u'] ∧ StateAt a K G' u' (actP x s i).2
structure spNext (a : Ad) (K : PySem.W.Frag) (vs : List V) (H : Hp) (Q : VK) (E : XK) : Prop where
  ex : ∃ (G : Hp) (v u : V) (x : Pl) (s : Sit), vs = [v, u] ∧ PlanAt a K G v x ∧ StateAt a K G u s ∧ x.Ok ∧ SitOk x s ∧ Pure G H Q fun G' v => TickAt a K G' v (tickP x s).1 (tickP x s).2
section
variable {P : Program} {w : World} {K : PySem.W.Frag} {mg : Str → Option Value} {base : Heap} {a : Ad}
theorem ok_act (T : Txt K mg a) : FnOk P w K mg base CX0 3 a.f_act a.d_act ["parsed", "state", "number"] (spAct a K) := by
  refine T.F_act.ok sc_act (fun vs H Q E h => ?_) (fun cdv A outer s0 H vs Q E hr h => ?_)
  · obtain ⟨⟨G, v, u, x, s, i, rfl, _⟩⟩ := h
    rfl
  · obtain ⟨⟨G, v, u, x, s, i, rfl, hp, hu, hx, ho, hi, hGH, k⟩⟩ := h
    refine ⟨_, (pss_cons (ps_set (i := 3) sc_act.nd rfl (Or.inl rfl) (pe_ix ix_list (pe_fld (pv 0) rfl) (pv 2) (fun _ _ => rfl)))
      (pss_cons (ps_set (i := 4) sc_act.nd rfl (Or.inl rfl) (pe_ix ix_tup (pe_fld (pv 1) rfl) (pv 2) (fun _ _ => rfl)))
      (pss_cons (ps_asg (pe_ix ix_list (pe_fld (pv 3) rfl) (pv 4) (fun _ _ => rfl)) (pg_tup (by rfl) (pgs_cons (pg_name (i := 5) sc_act.nd rfl (Or.inl rfl)) (pgs_cons (pg_name (i := 6) sc_act.nd rfl (Or.inl rfl)) pgs_nil))))
      (pss_cons (ps_par3 (i := 7) (j := 8) (l := 9) (by rfl) sc_act.nd rfl rfl rfl (by decide) (by decide) (by decide) rfl rfl rfl (pa_cons (pe_ix ix_tup (pe_fld (pv 1) rfl) (pv 2) (fun _ _ => rfl)) (pa_cons (pe_ix ix_tup (pe_fld (pv 1) rfl) (pv 2) (fun _ _ => rfl)) (pa_cons (pe_fld (pv 1) rfl) pa_nil))) (by rfl))
      (pss_cons (ps_matchS (pv 5) (cases_cons (pat_or pat_val pat_val) (pss_cons (ps_set (i := 10) sc_act.nd rfl (Or.inl rfl) (pe_ifExp (pt_cmpR op_eq (pv 5) pe_str (nomark _)) (pe_op op_sub (pv 7) pe_int) (pe_op op_add (pv 7) pe_int)))
      (pss_cons (ps_if (PW.pt (pw_or (pt_not (pt_chain op_le op_lt pe_int (pv 10) (pe_callB call_len_seq (by rfl) T.z_len (by decide +kernel) (pa_cons (pv 9) pa_nil)))) (pw_or1 (pt_cmpR op_in_seq (pv 10) (pe_fld (pv 1) rfl) rfl)))) (pss_one (ps_ret (pe_tup (pa_cons (pe_glob (v := V.str (Str.ofString "blocked")) rfl T.c_BLOCKED ⟨_, rfl⟩) (pa_cons (pv 1) pa_nil))))) pss_nil)
      (pss_one (ps_set (i := 7) sc_act.nd rfl (Or.inl rfl) (pv 10))))) (cases_cons pat_val (pss_cons (ps_if (PW.pt (pw_or (pt_val (pv 8)) (pw_or1 (pt_cmpR op_eq (pe_ix ix_tup (pv 9) (pv 7) (fun _ _ => rfl)) pe_int (nomark _))))) (pss_one (ps_ret (pe_tup (pa_cons (pe_glob (v := V.str (Str.ofString "blocked")) rfl T.c_BLOCKED ⟨_, rfl⟩) (pa_cons (pv 1) pa_nil))))) pss_nil)
      (pss_one (ps_par (i := 8) (j := 9) (by rfl) sc_act.nd rfl rfl (by decide) rfl rfl (pa_cons pe_bl (pa_cons (pe_call (ok_replaced T) (hr.mono (by decide)) rfl T.m_replaced T.F_replaced.kp (b_replaced T) .nil pass0 (pa_cons (pv 9) (pa_cons (pv 7) (pa_cons (pe_op op_sub (pe_ix ix_tup (pv 9) (pv 7) (fun _ _ => rfl)) pe_int) pa_nil)))) pa_nil)) (by rfl)))) (cases_cons pat_val (pss_cons (ps_if (PW.pt (pw_or (pt_not (pt_val (pv 8))) (pw_or1 (pt_cmpR op_eq (pe_ix ix_tup (pv 9) (pv 7) (fun _ _ => rfl)) (pe_glob (v := V.int 3) rfl T.c_MAX_BOXES ⟨_, rfl⟩) (nomark _))))) (pss_one (ps_ret (pe_tup (pa_cons (pe_glob (v := V.str (Str.ofString "blocked")) rfl T.c_BLOCKED ⟨_, rfl⟩) (pa_cons (pv 1) pa_nil))))) pss_nil)
      (pss_one (ps_par (i := 8) (j := 9) (by rfl) sc_act.nd rfl rfl (by decide) rfl rfl (pa_cons pe_bl (pa_cons (pe_call (ok_replaced T) (hr.mono (by decide)) rfl T.m_replaced T.F_replaced.kp (b_replaced T) .nil pass0 (pa_cons (pv 9) (pa_cons (pv 7) (pa_cons (pe_op op_add (pe_ix ix_tup (pv 9) (pv 7) (fun _ _ => rfl)) pe_int) pa_nil)))) pa_nil)) (by rfl)))) cases_nil))))
      (pss_cons (ps_set (i := 11) sc_act.nd rfl (Or.inl rfl) (pe_or (pe_cmpR op_eq (pv 5) pe_str (nomark _)) (pe_or (pe_and (pe_cmpR op_eq (pv 5) pe_str (nomark _)) (pe_one (pe_cmpR op_eq (pe_ix ix_tup (pv 9) (pv 7) (fun _ _ => rfl)) pe_int (nomark _)))) (pe_one (pe_and (pe_cmpR op_eq (pv 5) pe_str (nomark _)) (pe_one (pv 8)))))))
      (pss_cons (ps_set (i := 10) sc_act.nd rfl (Or.inl rfl) (pe_ifExp (pt_val (pv 11)) (pv 6) (pe_op op_mod (pe_op op_add (pv 4) pe_int) (pe_callB call_len_seq (by rfl) T.z_len (by decide +kernel) (pa_cons (pe_fld (pv 3) rfl) pa_nil)))))
      (pss_cons (ps_par (i := 12) (j := 13) (by rfl) sc_act.nd rfl rfl (by decide) rfl rfl (pa_cons (pe_call (ok_replaced T) (hr.mono (by decide)) rfl T.m_replaced T.F_replaced.kp (b_replaced T) .nil pass0 (pa_cons (pe_fld (pv 1) rfl) (pa_cons (pv 2) (pa_cons (pv 7) pa_nil)))) (pa_cons (pe_call (ok_replaced T) (hr.mono (by decide)) rfl T.m_replaced T.F_replaced.kp (b_replaced T) .nil pass0 (pa_cons (pe_fld (pv 1) rfl) (pa_cons (pv 2) (pa_cons (pv 8) pa_nil)))) pa_nil)) (by rfl))
      (pss_one (ps_ret (pe_tup (pa_cons (pv 5) (pa_cons (pe_make T.mk_State (ok_State_init T) (hr.mono (by decide)) (by rfl) T.m_State (b_State_init T) .nil pass0 (pa_cons (pv 12) (pa_cons (pe_call (ok_replaced T) (hr.mono (by decide)) rfl T.m_replaced T.F_replaced.kp (b_replaced T) .nil pass0 (pa_cons (pe_fld (pv 1) rfl) (pa_cons (pv 2) (pa_cons (pv 10) pa_nil)))) (pa_cons (pv 13) (pa_cons (pv 9) pa_nil))))) pa_nil))))))))))))), ?_⟩
    obtain ⟨r, dx, sh, rl, r1, r2, rfl, hr1, hsh, hrl, hb1, hb2⟩ := hp
    obtain ⟨sa, ds, sc, sn, sb, se, rfl, hs0, hsc, hsn, hsb, hse⟩ := id hu
    obtain ⟨q, dq, sl, nl, hq1, hq, hsl⟩ : ∃ (q dq sl nl : Addr), ([r1, r2] : List V)[i]? = some (.ref q) ∧ (∃ n, G q = some (.ins a.C_Robot dq (robF n sl nl))) ∧ Dp K G (.ref sl) (stepsD (stepsOf x i)) := by
      match i, hi with
      | 0, _ =>
        obtain ⟨q, dq, sl, nl, rfl, h1, h2⟩ := hb1
        exact ⟨q, dq, sl, nl, rfl, ⟨_, h1⟩, h2⟩
      | 1, _ =>
        obtain ⟨q, dq, sl, nl, rfl, h1, h2⟩ := hb2
        exact ⟨q, dq, sl, nl, rfl, ⟨_, h1⟩, h2⟩
    obtain ⟨nq, hq⟩ := hq
    obtain ⟨sl', xsi, esl, hsi, hdi⟩ := Dp.lst_inv hsl
    cases esl
    obtain ⟨est, _⟩ := st_mem ho hi
    have sok := st_ok hx ho hi
    have nl' := ho.nl i hi
    have cl := ho.cl i hi
    obtain ⟨y, hy, hDy⟩ := DpAll.at hdi (i := s.ns.getD i 0) (d := (stOf x s i).D) (by rw [List.getElem?_map, est]; rfl)
    obtain ⟨tt, g, rfl, htt, hg⟩ := step_inv hDy
    have w8 := sok.w8
    have ic : i < s.cs.length := by rw [ho.c2]; exact hi
    have in_ : i < s.ns.length := by rw [ho.n2]; exact hi
    have ih : i < s.hs.length := by rw [ho.h2]; exact hi
    have l12 : s.sh.length ≤ 12 := by rw [ho.len]; exact hx.c12
    -- robot, at, word, goal
    refine ⟨_, rfl, r, _, dx, _, .ref rl, rfl, hGH _ _ hr1, T.cl_Plan, T.n_Plan_robots, (by kernel_rfl), _, rfl, rl, _, _, .ref q, rfl, rfl, hGH.seq hrl, at_of (j := i) rfl hq1, ?_⟩
    refine ⟨_, rfl, sa, _, ds, _, .ref sn, rfl, hGH _ _ hs0, T.cl_State, T.n_State_nexts, (by kernel_rfl), _, rfl, sn, _, _, .int (s.ns.getD i 0 : Nat), rfl, rfl, Same.seqT hGH hsn, at_of (j := i) rfl (nV_at in_), ?_⟩
    refine ⟨_, rfl, q, _, dq, _, .ref sl, rfl, hGH _ _ hq, T.cl_Robot, T.n_Robot_steps, (by kernel_rfl), _, rfl, sl, _, _, .ref tt, rfl, rfl, hGH.seq hsi, at_of (j := s.ns.getD i 0) rfl hy, tt, _, rfl, Same.seqT hGH htt, rfl, _, _, rfl, _, _, rfl, rfl, ?_⟩
    -- cell, held, shelf
    refine ⟨_, rfl, sa, _, ds, _, .ref sc, rfl, hGH _ _ hs0, T.cl_State, T.n_State_cells, (by kernel_rfl), _, rfl, sc, _, _, .int (cOf s i : Nat), rfl, rfl, Same.seqT hGH hsc, at_of (j := i) rfl (nV_at ic), ?_⟩
    refine ⟨_, rfl, sa, _, ds, _, .ref sb, rfl, hGH _ _ hs0, T.cl_State, T.n_State_holds, (by kernel_rfl), _, rfl, sb, _, _, .bl (s.hs.getD i false), rfl, rfl, Same.seqT hGH hsb, at_of (j := i) rfl (bV_at ih), ?_⟩
    refine ⟨_, rfl, sa, _, ds, _, .ref se, rfl, hGH _ _ hs0, T.cl_State, T.n_State_shelf, (by kernel_rfl), _, _, _, rfl, ?_⟩
    dsimp only
    have blk : actP x s i = (8, s) → ∀ G1 H', Pt G H G1 H' → (2 ≤ sizeLine ∧ ∀ p, H' p = none → Q (.ref p) (upd H' p (.tup [.str (Str.ofString "blocked"), .ref sa]))) := fun e G1 H' p' => by
      refine ⟨by decide, fun p hp' => ?_⟩
      have p2 := p'.new hp' (.tup [.str (Str.ofString "blocked"), .ref sa])
      refine k _ _ _ p2.ext p2.sm ?_
      rw [e]
      exact ⟨p, _, rfl, SqT.of upd_same, hu.mono (p'.g.trans (same_new (p'.freeG hp')))⟩
    let Pk : L2.St → Hp → Prop := fun σ H' => ∃ (v10 : Option V) (cn : Nat) (hn : Bool) (e : Addr) (sh' : List Nat) (G1 : Hp), σ = [some (.ref r), some (.ref sa), some (.int i), some (.ref q), some (.int (s.ns.getD i 0 : Nat)), some (.str (wS (stOf x s i).w)), some g, some (.int (cn : Nat)), some (.bl hn), some (.ref e), v10, none, none, none] ∧
      Pt G H G1 H' ∧ SqT K G1 e (nV sh') ∧ sh'.length = s.sh.length ∧ cn < s.sh.length ∧ (5 ≤ (stOf x s i).w → cn = cOf s i) ∧ actP x s i = finP x s i (s.cs.set i cn) (s.hs.set i hn) sh'
    have B0 := Pt.start hGH
    have hset : s.hs = s.hs.set i (s.hs.getD i false) := set_same.symm
    have cset : s.cs = s.cs.set i (cOf s i) := set_same.symm
    refine seq_restσ Pk (fun σ H' hP => ?_) (fun rest => ?m4)
    case m4 =>
      refine ⟨_, rfl, _, rfl, ?_⟩
      rw [lr_mem w8]
      refine ite2 (fun c2 => ?_) (fun c2 => ?_)
      · have hw2 : (stOf x s i).w < 2 := of_decide_eq_true c2
        refine seq_restσ (fun σ H' => ∃ (z : Int) (c' : Nat), σ = [some (.ref r), some (.ref sa), some (.int i), some (.ref q), some (.int (s.ns.getD i 0 : Nat)), some (.str (wS (stOf x s i).w)), some g, some (.int (cOf s i : Nat)), some (.bl (s.hs.getD i false)), some (.ref se), some (.int z), none, none, none] ∧ H = H' ∧
          ((z < 0 ∧ actP x s i = (8, s)) ∨ (z = (c' : Int) ∧ actP x s i = if s.sh.length ≤ c' ∨ c' ∈ s.cs then (8, s) else finP x s i (s.cs.set i c') s.hs s.sh))) (fun σ H' hz => ?r1) (fun rest1 => ?m1)
        case m1 =>
          refine ⟨_, rfl, rfl, _, rfl, ite_w 0 w8 (fun hw => ?_) (fun hw => ?_)⟩
          · refine ⟨_, rfl, _, _, rfl, rfl, rest1 _ _ ⟨_, cOf s i - 1, rfl, rfl, ?_⟩⟩
            have ea := act_left hw
            by_cases hc0 : cOf s i = 0
            · rw [if_pos (.inl hc0)] at ea
              exact .inl ⟨by omega, ea⟩
            · refine .inr ⟨by omega, ?_⟩
              rw [ea]
              have : ¬ s.sh.length ≤ cOf s i - 1 := by unfold cOf; omega
              simp only [hc0, this, false_or]
          · refine ⟨_, rfl, _, _, rfl, rfl, rest1 _ _ ⟨_, cOf s i + 1, rfl, rfl, ?_⟩⟩
            exact .inr ⟨by omega, act_right (by omega)⟩
        obtain ⟨z, c', rfl, rfl, hz⟩ := hz
        have esh : (((nV s.sh).length : Nat) : Int) = (s.sh.length : Int) := by rw [List.length_map]
        refine ⟨_, rfl, _, _, rfl, rfl, _, rfl, ite2 (fun d0 => ?_) (fun d0 => ?_)⟩
        · have d0' : (0 : Int) ≤ z := of_decide_eq_true d0
          rcases hz with ⟨hz, _⟩ | ⟨rfl, ea⟩
          · omega
          refine ⟨_, rfl, se, _, rfl, .inr (Same.seqT hGH hse), _, _, rfl, rfl, _, rfl, ?_⟩
          rw [esh]
          refine ite2 (fun d1 => ?_) (fun d1 => ?_)
          · have d1' : ¬ (c' : Int) < (s.sh.length : Int) := by simpa using d1
            rw [if_pos (.inl (by omega))] at ea
            exact ite_t rfl ⟨_, rfl, blk ea _ _ B0⟩
          · have d1' : (c' : Int) < (s.sh.length : Int) := by simpa using d1
            refine ⟨_, rfl, _, rfl, sa, _, ds, _, .ref sc, rfl, hGH _ _ hs0, T.cl_State, T.n_State_cells, (by kernel_rfl), sc, _, rfl, .inr (Same.seqT hGH hsc), rfl, nV_flat _, _, rfl, ?_⟩
            rw [if_neg Bool.false_ne_true, in_nats]
            refine ite2 (fun d2 => ?_) (fun d2 => ?_)
            · rw [if_pos (.inr (of_decide_eq_true d2))] at ea
              exact ⟨_, rfl, blk ea _ _ B0⟩
            · have d2' : ¬ c' ∈ s.cs := fun z => d2 (decide_eq_true z)
              rw [if_neg (by simp only [not_or]; exact ⟨by omega, d2'⟩), hset] at ea
              exact ⟨_, rfl, rest _ _ ⟨_, c', _, se, s.sh, G, rfl, B0, hse, rfl, by omega, fun h => by omega, ea⟩⟩
        · rcases hz with ⟨_, ea⟩ | ⟨hz, _⟩
          · exact ⟨_, rfl, ite_t rfl (ite_t rfl ⟨_, rfl, blk ea _ _ B0⟩)⟩
          · exact absurd (decide_eq_true (by omega)) d0
      have hw2 : ¬ (stOf x s i).w < 2 := fun z => c2 (decide_eq_true z)
      rw [pick_mem w8]
      refine ite2 (fun c2 => ?_) (fun c2 => ?_)
      · have hw : (stOf x s i).w = 2 := of_decide_eq_true c2
        have ea := act_pick hw
        refine ⟨_, rfl, _, rfl, ?_⟩
        refine ite_b (fun c1 => ?_) (fun c1 => ?_)
        · rw [if_pos (.inl c1)] at ea
          exact ite_t rfl ⟨_, rfl, blk ea _ _ B0⟩
        · refine ⟨_, rfl, _, rfl, se, _, _, .int (s.sh.getD (cOf s i) 0 : Nat), rfl, rfl, Same.seqT hGH hse, at_of (j := cOf s i) rfl (nV_at cl), rfl, _, rfl, ?_⟩
          refine ite2 (fun c2 => ?_) (fun c2 => ?_)
          · have c2' : s.sh.getD (cOf s i) 0 = 0 := by have := of_decide_eq_true c2; injection this; omega
            rw [if_pos (.inr c2')] at ea
            exact ⟨_, rfl, blk ea _ _ B0⟩
          · have c2' : ¬ s.sh.getD (cOf s i) 0 = 0 := fun q => c2 (decide_eq_true (by rw [q]; rfl))
            rw [if_neg (by rw [c1]; simp only [Bool.false_eq_true, false_or]; exact c2')] at ea
            refine ⟨_, rfl, _, rfl, _, rfl, _, rfl, se, _, _, .int (s.sh.getD (cOf s i) 0 : Nat), rfl, rfl, Same.seqT hGH hse, at_of (j := cOf s i) rfl (nV_at cl), _, _, rfl, rfl, ?_⟩
            refine replaced_go B0 hse (by rw [List.length_map]; exact cl) (by rw [List.length_map]; omega) fun e' G1 H1 B1 S1 h1 => ?_
            have e1 : ((s.sh.getD (cOf s i) 0 : Nat) : Int) - 1 = ((s.sh.getD (cOf s i) 0 - 1 : Nat) : Int) := by omega
            dsimp only at h1
            rw [e1, nV_set] at h1
            rw [cset] at ea
            exact ⟨_, _, rfl, rest _ _ ⟨_, cOf s i, true, e', _, G1, rfl, B1, h1, by rw [List.length_set], cl, fun _ => rfl, ea⟩⟩
      have hw3 : ¬ (stOf x s i).w = 2 := fun z => c2 (decide_eq_true z)
      rw [put_mem w8]
      refine ite2 (fun c2 => ?_) (fun c2 => ?_)
      · have hw : (stOf x s i).w = 3 := of_decide_eq_true c2
        have ea := act_put hw
        have b3 : s.sh.getD (cOf s i) 0 ≤ 3 := by
          have cl' : cOf s i < s.sh.length := cl
          rw [List.getD_eq_getElem?_getD, List.getElem?_eq_getElem cl']
          exact ho.b3 _ (List.getElem_mem _)
        refine ⟨_, rfl, _, rfl, ?_⟩
        cases c1 : s.hs.getD i false with
        | false =>
          rw [if_pos (.inl c1)] at ea
          exact ite_t rfl (ite_t rfl ⟨_, rfl, blk ea _ _ B0⟩)
        | true =>
          refine ite_f rfl ⟨_, rfl, _, rfl, se, _, _, .int (s.sh.getD (cOf s i) 0 : Nat), rfl, rfl, Same.seqT hGH hse, at_of (j := cOf s i) rfl (nV_at cl), rfl, _, rfl, ?_⟩
          refine ite2 (fun c2 => ?_) (fun c2 => ?_)
          · have c2' : s.sh.getD (cOf s i) 0 = 3 := by have := of_decide_eq_true c2; injection this; omega
            rw [if_pos (.inr (by omega))] at ea
            exact ⟨_, rfl, blk ea _ _ B0⟩
          · have c2' : ¬ s.sh.getD (cOf s i) 0 = 3 := fun q => c2 (decide_eq_true (by rw [q]; rfl))
            rw [if_neg (by rw [c1]; simp only [Bool.true_eq_false, false_or]; omega)] at ea
            refine ⟨_, rfl, _, rfl, _, rfl, _, rfl, se, _, _, .int (s.sh.getD (cOf s i) 0 : Nat), rfl, rfl, Same.seqT hGH hse, at_of (j := cOf s i) rfl (nV_at cl), _, _, rfl, rfl, ?_⟩
            refine replaced_go B0 hse (by rw [List.length_map]; exact cl) (by rw [List.length_map]; omega) fun e' G1 H1 B1 S1 h1 => ?_
            have e1 : ((s.sh.getD (cOf s i) 0 : Nat) : Int) + 1 = ((s.sh.getD (cOf s i) 0 + 1 : Nat) : Int) := by omega
            dsimp only at h1
            rw [e1, nV_set] at h1
            rw [cset] at ea
            exact ⟨_, _, rfl, rest _ _ ⟨_, cOf s i, false, e', _, G1, rfl, B1, h1, by rw [List.length_set], cl, fun _ => rfl, ea⟩⟩
      have hw4 : ¬ (stOf x s i).w = 3 := fun z => c2 (decide_eq_true z)
      have ea := act_else (x := x) (s := s) (i := i) (by omega)
      rw [cset, hset] at ea
      exact rest _ _ ⟨_, cOf s i, _, se, s.sh, G, rfl, B0, hse, rfl, cl, fun _ => rfl, ea⟩
    obtain ⟨v10, cn, hn, e, sh', G1, rfl, B1, he, hl', hcn, hc5, ea⟩ := hP
    have hcn' : cn < sh'.length := by rw [hl']; exact hcn
    have hgetD : (s.hs.set i hn).getD i false = hn := by rw [getD_set ih, if_pos rfl]
    have s1 : Same G H' := B1.g.trans B1.s
    -- is_jump
    refine seq_restσ (fun σ H1 => H' = H1 ∧ σ = [some (.ref r), some (.ref sa), some (.int i), some (.ref q), some (.int (s.ns.getD i 0 : Nat)), some (.str (wS (stOf x s i).w)), some g, some (.int (cn : Nat)), some (.bl hn), some (.ref e), v10, some (.bl (decide (jumpP x s i (s.hs.set i hn) sh'))), none, none]) (fun σ H1 hP => ?_) (fun rest => ?m7)
    case m7 =>
      have fin : ∀ bv : Bool, bv = decide (jumpP x s i (s.hs.set i hn) sh') → _ := fun bv hbv => rest ([some (.ref r), some (.ref sa), some (.int i), some (.ref q), some (.int (s.ns.getD i 0 : Nat)), some (.str (wS (stOf x s i).w)), some g, some (.int (cn : Nat)), some (.bl hn), some (.ref e), v10, some (.bl bv), none, none]) _ ⟨rfl, by rw [hbv]⟩
      refine ⟨_, rfl, rfl, _, rfl, ite_w 5 w8 (fun hw => ?_) (fun hw => ?_)⟩
      · exact fin true (decide_eq_true (show jumpP x s i (s.hs.set i hn) sh' from .inl hw)).symm
      refine ⟨_, rfl, rfl, _, rfl, ite_w 6 w8 (fun h6 => ?_) (fun h6 => ?_)⟩
      · have ecn := hc5 (by omega)
        refine ⟨_, rfl, _, rfl, e, _, _, .int (sh'.getD cn 0 : Nat), rfl, rfl, Same.seqT B1.s he, at_of (j := cn) rfl (nV_at hcn'), rfl, _, rfl, ?_⟩
        refine ite2 (fun c2 => ?_) (fun c2 => ?_)
        · have c2' : sh'.getD cn 0 = 0 := by have := of_decide_eq_true c2; injection this; omega
          exact fin true (decide_eq_true (show jumpP x s i (s.hs.set i hn) sh' from .inr (.inl ⟨h6, by rw [← ecn]; exact c2'⟩))).symm
        · have c2' : ¬ sh'.getD cn 0 = 0 := fun q => c2 (decide_eq_true (by rw [q]; rfl))
          refine ⟨_, rfl, rfl, _, rfl, ite_w 7 w8 (fun h7 => by omega) (fun h7 => ?_)⟩
          exact fin false (decide_eq_false (show ¬ jumpP x s i (s.hs.set i hn) sh' from fun z => by rcases z with z | z | z; exact hw z; exact c2' (by rw [ecn]; exact z.2); exact h7 z.1)).symm
      · refine ⟨_, rfl, ite_f rfl ⟨_, rfl, rfl, _, rfl, ite_w 7 w8 (fun h7 => ?_) (fun h7 => ?_)⟩⟩
        · refine ⟨_, rfl, fin _ ?_⟩
          have e1 : hn = decide ((s.hs.set i hn).getD i false = true) := by rw [hgetD]; simp
          exact e1.trans (decide_eq_decide.mpr ⟨fun z => .inr (.inr ⟨h7, z⟩), fun z => by rcases z with z | z | z; exact absurd z hw; exact absurd z.1 h6; exact z.2⟩)
        · exact fin false (decide_eq_false (show ¬ jumpP x s i (s.hs.set i hn) sh' from fun z => by rcases z with z | z | z; exact hw z; exact h6 z.1; exact h7 z.1)).symm
    obtain ⟨rfl, rfl⟩ := hP
    -- later
    have lx : xsi.length = (stepsOf x i).length := by rw [DpAll.len hdi, List.length_map]
    have pos := (steps_ok hx i).pos
    refine seq_restσ (fun σ H1 => H' = H1 ∧ σ = [some (.ref r), some (.ref sa), some (.int i), some (.ref q), some (.int (s.ns.getD i 0 : Nat)), some (.str (wS (stOf x s i).w)), some g, some (.int (cn : Nat)), some (.bl hn), some (.ref e), some (.int (nextP x s i (s.hs.set i hn) sh' : Nat)), some (.bl (decide (jumpP x s i (s.hs.set i hn) sh'))), none, none]) (fun σ H1 hP => ?_) (fun rest => ?m8)
    case m8 =>
      have fin : ∀ nv : Int, nv = (nextP x s i (s.hs.set i hn) sh' : Nat) → _ := fun nv hnv => rest ([some (.ref r), some (.ref sa), some (.int i), some (.ref q), some (.int (s.ns.getD i 0 : Nat)), some (.str (wS (stOf x s i).w)), some g, some (.int (cn : Nat)), some (.bl hn), some (.ref e), some (.int nv), some (.bl (decide (jumpP x s i (s.hs.set i hn) sh'))), none, none]) _ ⟨rfl, by rw [hnv]⟩
      refine ⟨_, rfl, _, rfl, ite2 (fun c1 => ?_) (fun c1 => ?_)⟩
      · have hj : jumpP x s i (s.hs.set i hn) sh' := of_decide_eq_true c1
        have h5 : 5 ≤ (stOf x s i).w := by rcases hj with h | h | h <;> omega
        obtain ⟨kk, hk, _⟩ := sok.yes h5
        rcases hg with ⟨h1, _⟩ | ⟨k2, h1, rfl⟩
        · rw [h1] at hk; cases hk
        · refine ⟨_, rfl, fin k2 ?_⟩
          unfold nextP
          rw [if_pos hj, h1]
          rfl
      · have hj : ¬ jumpP x s i (s.hs.set i hn) sh' := fun q => c1 (decide_eq_true q)
        refine ⟨_, rfl, _, _, rfl, rfl, _, rfl, q, _, dq, _, .ref sl, rfl, s1 _ _ hq, T.cl_Robot, T.n_Robot_steps, (by kernel_rfl), sl, _, rfl, .inl (s1.seq hsi), _, _, rfl, rfl, ?_, fin _ ?_⟩
        · show (0 : Int) < ((xsi.length : Nat) : Int)
          omega
        · rw [lx, modn]
          unfold nextP
          rw [if_neg hj]
    obtain ⟨rfl, rfl⟩ := hP
    -- cells, holds
    have hl2 : ∀ {α : Type} {l : List α} (f : α → V), l.length = 2 → (l.map f).length ≤ 1000 := fun {α l} f h => by rw [List.length_map]; omega
    refine ⟨_, rfl, sa, _, ds, _, .ref sc, rfl, s1 _ _ hs0, T.cl_State, T.n_State_cells, (by kernel_rfl), _, rfl, _, rfl, ?_⟩
    refine replaced_go B1 (Same.seqT B1.g hsc) (by rw [List.length_map]; exact ic) (hl2 _ ho.c2) fun c2 G2 H2 B2 S2 h2 => ?_
    rw [nV_set] at h2
    have s2 : Same G H2 := B2.g.trans B2.s
    refine ⟨_, rfl, sa, _, ds, _, .ref sb, rfl, s2 _ _ hs0, T.cl_State, T.n_State_holds, (by kernel_rfl), _, rfl, _, rfl, ?_⟩
    refine replaced_go B2 (Same.seqT B2.g hsb) (by rw [List.length_map]; exact ih) (hl2 _ ho.h2) fun c3 G3 H3 B3 S3 h3 => ?_
    rw [bV_set] at h3
    have s3 : Same G H3 := B3.g.trans B3.s
    refine ⟨_, _, rfl, ?_⟩
    dsimp only
    refine ⟨_, rfl, _, rfl, _, rfl, sa, _, ds, _, .ref sn, rfl, s3 _ _ hs0, T.cl_State, T.n_State_nexts, (by kernel_rfl), _, rfl, _, rfl, ?_⟩
    refine replaced_go B3 (Same.seqT B3.g hsn) (by rw [List.length_map]; exact in_) (hl2 _ ho.n2) fun c4 G4 H4 B4 S4 h4 => ?_
    rw [nV_set] at h4
    refine ⟨_, rfl, _, rfl, ?_⟩
    intro y dy ny nd ne
    refine init_go2 rfl ⟨rfl, ?_⟩
    have B5 := B4.make ny nd ne (.ins a.C_State dy (stF c2 c4 c3 e))
    have g5 := same_make (B4.freeG ny) (B4.freeG nd) ne (.ins a.C_State dy (stF c2 c4 c3 e))
    refine ⟨(by show 2 ≤ sizeLine; decide), fun p hp => ?_⟩
    have B6 := B5.new hp (.tup [.str (wS (stOf x s i).w), .ref y])
    have g6 := same_new (o := .tup [.str (wS (stOf x s i).w), .ref y]) (B5.freeG hp)
    refine k _ _ _ B6.ext B6.sm ?_
    have ew : (actP x s i).1 = (stOf x s i).w := by rw [ea]; rfl
    rw [ew, doS_lt w8, ea]
    exact ⟨p, .ref y, rfl, SqT.of upd_same, y, dy, c2, c4, c3, e, rfl, g6 _ _ upd_same, Same.seqT (((S3.trans S4).trans g5).trans g6) h2, Same.seqT (g5.trans g6) h4, Same.seqT ((S4.trans g5).trans g6) h3, Same.seqT ((((S2.trans S3).trans S4).trans g5).trans g6) he⟩
theorem ok_next_tick (T : Txt K mg a) : FnOk P w K mg base CX0 5 a.f_next_tick a.d_next_tick ["parsed", "state"] (spNext a K) := by
  refine T.F_next_tick.ok sc_next_tick (fun vs H Q E h => ?_) (fun cdv A outer s0 H vs Q E hr h => ?_)
  · obtain ⟨⟨G, v, u, x, s, rfl, _⟩⟩ := h
    rfl
  · obtain ⟨⟨G, v, u, x, s, rfl, hp, hu, hx, ho, hGH, k⟩⟩ := h
    refine ⟨_, (pss_cons (ps_asg (pe_call (ok_act T) (hr.mono (by decide)) rfl T.m_act T.F_act.kp (b_act T) .nil pass0 (pa_cons (pv 0) (pa_cons (pv 1) (pa_cons pe_int pa_nil)))) (pg_tup (by rfl) (pgs_cons (pg_name (i := 2) sc_next_tick.nd rfl (Or.inl rfl)) (pgs_cons (pg_name (i := 1) sc_next_tick.nd rfl (Or.inl rfl)) pgs_nil))))
      (pss_cons (ps_asg (pe_call (ok_act T) (hr.mono (by decide)) rfl T.m_act T.F_act.kp (b_act T) .nil pass0 (pa_cons (pv 0) (pa_cons (pv 1) (pa_cons pe_int pa_nil)))) (pg_tup (by rfl) (pgs_cons (pg_name (i := 3) sc_next_tick.nd rfl (Or.inl rfl)) (pgs_cons (pg_name (i := 1) sc_next_tick.nd rfl (Or.inl rfl)) pgs_nil))))
      (pss_one (ps_ret (pe_make T.mk_Tick (ok_Tick_init T) (hr.mono (by decide)) (by rfl) T.m_Tick (b_Tick_init T) .nil pass0 (pa_cons (pe_tup (pa_cons (pv 2) (pa_cons (pv 3) pa_nil))) (pa_cons (pv 1) pa_nil))))))), ?_⟩
    refine ⟨_, rfl, _, rfl, ⟨⟨G, v, u, x, s, 0, rfl, hp, hu, hx, ho, by decide, hGH, fun G1 H1 v1 x1 s1 d1 => ?_⟩⟩⟩
    obtain ⟨t1, u1, rfl, ht1, hu1⟩ := d1
    have B1 := (Pt.start hGH).call x1 s1
    refine ⟨t1, _, rfl, Same.seqT B1.s ht1, rfl, _, _, rfl, _, _, rfl, rfl, ?_⟩
    have ho1 := act_ok hx ho (i := 0) (by decide)
    refine ⟨_, rfl, _, rfl, ⟨⟨G1, v, u1, x, _, 1, rfl, hp.mono B1.g, hu1, hx, ho1, by decide, B1.s, fun G2 H2 v2 x2 s2 d2 => ?_⟩⟩⟩
    obtain ⟨t2, u2, rfl, ht2, hu2⟩ := d2
    have B2 := B1.call x2 s2
    refine ⟨t2, _, rfl, Same.seqT B2.s ht2, rfl, _, _, rfl, _, _, rfl, rfl, ?_⟩
    refine ⟨_, rfl, _, rfl, (by show 2 ≤ sizeLine; decide), fun p hp => ?_⟩
    have B3 := B2.new hp (.tup [.str (doS (actP x s 0).1), .str (doS (actP x (actP x s 0).2 1).1)])
    refine ⟨_, rfl, ?_⟩
    intro y dy ny nd ne
    refine init_go2 rfl ⟨rfl, ?_⟩
    have B4 := B3.make ny nd ne (.ins a.C_Tick dy (tkF p u2))
    have g3 := same_new (o := .tup [.str (doS (actP x s 0).1), .str (doS (actP x (actP x s 0).2 1).1)]) (B2.freeG hp)
    have g4 := same_make (B3.freeG ny) (B3.freeG nd) ne (.ins a.C_Tick dy (tkF p u2))
    exact k _ _ _ B4.ext B4.sm ⟨y, dy, p, u2, rfl, upd_same, Same.seqT g4 (SqT.of upd_same), hu2.mono (g3.trans g4)⟩
end
end Sb

namespace Sb
open PySem PySem.Spec PyProof.Rows L2 TL
/-! ### data that _law_equal walks -/
structure Fine (n : Nat) (d : PyData) : Prop where
  ok : okD d = true
  dep : d.depth ≤ n
theorem okAll_of : ∀ {ds : List PyData}, (∀ d ∈ ds, okD d = true) → okAll ds = true
  | [], _ => rfl
  | d :: ds, h => by
    show (okD d && okAll ds) = true
    rw [h d List.mem_cons_self, okAll_of fun e he => h e (List.mem_cons_of_mem _ he)]
    rfl
theorem depthAll_of {n : Nat} : ∀ {ds : List PyData}, (∀ d ∈ ds, d.depth ≤ n) → PyData.depthAll ds ≤ n
  | [], _ => Nat.zero_le _
  | d :: ds, h => by
    show max d.depth (PyData.depthAll ds) ≤ n
    exact Nat.max_le.mpr ⟨h d List.mem_cons_self, depthAll_of fun e he => h e (List.mem_cons_of_mem _ he)⟩
theorem Fine.list {n : Nat} {ds : List PyData} (h : ∀ d ∈ ds, Fine n d) (l : ds.length ≤ 1000000) : Fine (n + 1) (.list ds) := by
  refine ⟨?_, ?_⟩
  · show (decide (ds.length ≤ 1000000) && okAll ds) = true
    rw [decide_eq_true l, okAll_of fun d hd => (h d hd).ok]
    rfl
  · show PyData.depthAll ds + 1 ≤ n + 1
    exact Nat.succ_le_succ (depthAll_of fun d hd => (h d hd).dep)
theorem Fine.tuple {n : Nat} {ds : List PyData} (h : ∀ d ∈ ds, Fine n d) (l : ds.length ≤ 1000000) : Fine (n + 1) (.tuple ds) := by
  refine ⟨?_, ?_⟩
  · show (decide (ds.length ≤ 1000000) && okAll ds) = true
    rw [decide_eq_true l, okAll_of fun d hd => (h d hd).ok]
    rfl
  · show PyData.depthAll ds + 1 ≤ n + 1
    exact Nat.succ_le_succ (depthAll_of fun d hd => (h d hd).dep)
theorem Fine.mono {n m : Nat} {d : PyData} (h : Fine n d) (l : n ≤ m) : Fine m d := ⟨h.ok, Nat.le_trans h.dep l⟩
theorem Fine.int {n : Nat} (i : Int) : Fine n (.int i) := ⟨rfl, Nat.zero_le _⟩
theorem Fine.str {n : Nat} (i : Str) : Fine n (.str i) := ⟨rfl, Nat.zero_le _⟩
theorem Fine.bool {n : Nat} (i : Bool) : Fine n (.bool i) := ⟨rfl, Nat.zero_le _⟩
theorem Fine.none {n : Nat} : Fine n .none := ⟨rfl, Nat.zero_le _⟩
theorem fine_natsD {n : Nat} {l : List Nat} (h : l.length ≤ 1000000) : Fine (n + 1) (natsD l) := Fine.list (fun d hd => by obtain ⟨k, _, rfl⟩ := List.mem_map.mp hd; exact .int _) (by rw [List.length_map]; exact h)
theorem fine_natsT {n : Nat} {l : List Nat} (h : l.length ≤ 1000000) : Fine (n + 1) (natsT l) := Fine.tuple (fun d hd => by obtain ⟨k, _, rfl⟩ := List.mem_map.mp hd; exact .int _) (by rw [List.length_map]; exact h)
theorem fine2 {n : Nat} {P : PyData → Prop} {a b : PyData} (ha : P a) (hb : P b) : ∀ d ∈ [a, b], P d := fun d hd => by
  rcases List.mem_cons.mp hd with rfl | hd
  · exact ha
  · rw [List.mem_singleton.mp hd]; exact hb
theorem fine3 {n : Nat} {P : PyData → Prop} {a b c : PyData} (ha : P a) (hb : P b) (hc : P c) : ∀ d ∈ [a, b, c], P d := fun d hd => by
  rcases List.mem_cons.mp hd with rfl | hd
  · exact ha
  · exact fine2 (n := 0) hb hc d hd
theorem equal_go {K : PySem.W.Frag} {n : Nat} {v u : V} {d : PyData} {H : Hp} {Q : VK} {E : XK} (hv : Dp K H v d) (hu : Dp K H u d) (f : Fine n d) (k : ∀ H', Same H H' → Q (.bl true) H') : spEqual K n [v, u] H Q E := ⟨⟨v, u, d, rfl, hv, hu, f.dep, f.ok, k⟩⟩
/-! ### the days -/
theorem last_at {xs : List V} {v : V} : atI (xs ++ [v]) (-1) = some v := by
  have := ixN_last (n := xs.length)
  unfold atI
  rw [List.length_append, List.length_singleton, this]
  simp
end Sb

namespace Sb
open PySem PySem.Spec PyProof.Rows L2
/-! ### l == [] for a list of anything -/
def rEqNil (K : PySem.W.Frag) : R2 := fun x y H Q => ∃ p xs q, x = .ref p ∧ y = .ref q ∧ SqL K H p xs ∧ SqL K H q [] ∧ Q (.bl xs.isEmpty) H
section
variable {X : Cx}
theorem op_eqNil (hu : X.A.units + 64 < cLine) : OpR X (compareOp .Eq) (rEqNil X.K) := by
  intro pins s σ H x y v u Q I rx ry h
  obtain ⟨p, xs, q, rfl, rfl, hp, hq, k⟩ := h
  cases rx
  cases ry
  obtain ⟨its, r, pl, hz⟩ := I.list hp
  obtain ⟨its2, r2, pl2, hz2⟩ := I.list hq
  have hl2 := r2.length
  have e2 : its2 = [] := List.length_eq_zero_iff.mp (by rw [← hl2]; rfl)
  subst e2
  have hl := r.length
  cases xs with
  | nil =>
    have e1 : its = [] := List.length_eq_zero_iff.mp (by rw [← hl]; rfl)
    subst e1
    exact SeqAt.eq_listAt (e := fun _ => true) pl.isList pl2.isList rfl (by omega) (fun j h1 => absurd h1 (by simp)) ⟨.bl true, H, I, rfl, k⟩
  | cons z zs =>
    refine SeqAt.eq_list_lengthsAt pl.isList pl2.isList ?_ (by omega) ⟨.bl false, H, I, rfl, k⟩
    have : its.length = zs.length + 1 := by rw [← hl]; rfl
    simp [this]
end
end Sb

namespace Sb
open PySem PySem.Spec PyProof.Rows L2
/-! ### match over a tuple whose first item is a text: case ["a", x, ..]: .. -/
structure CasesT (X : Cx) (cs : List MatchCase) (tc : Str → List V → TS) : Prop where
  run : ∀ (pins : List (Addr × Obj)) (s : Shared) (σ : L2.St) (H : Hp) (D : Ends) (r : Addr) (z : Str) (zs : List V) (b : Bool), Inv X pins σ H s → SqT X.K H r (.str z :: zs) → tc z zs D σ H →
    wpAny (model X.prog X.w) X.A (matchCases cs X.env (.ref r) b) (SP X pins D) X.xe s
section
variable {X : Cx}
theorem casesT_nil : CasesT X [] (fun _ _ => tNext) := ⟨fun pins s σ H D r z zs b I _ h => wpAny_matchCases_nil ⟨σ, H, I, h⟩⟩
/-- the captured names -/
def caps (ns : List (Str × Pos)) : List Pattern := ns.map fun q => .MatchAs none (some q.1) q.2
def puts : List Nat → List V → L2.St → L2.St
  | i :: is, v :: vs, σ => puts is vs (σ.set i (some v))
  | _, _, σ => σ
theorem each_caps {pins : List (Addr × Obj)} {s : Shared} {σ : L2.St} {H : Hp} : ∀ (ns : List (Str × Pos)) (us : List Value) (Q : Option (List (Str × Value)) → Shared → Prop), us.length = ns.length → Inv X pins σ H s →
    Q (some ((ns.map (·.1)).zip us)) s → wpAny (model X.prog X.w) X.A (matchEach (caps ns) X.env us) Q X.xe s
  | [], us, Q, hl, I, h => by
    have : us = [] := List.length_eq_zero_iff.mp hl
    subst this
    exact wpAny_matchEach_nil h
  | q :: ns, [], Q, hl, I, h => nomatch hl
  | q :: ns, u :: us, Q, hl, I, h => by
    refine wpAny_matchEach_cons (wpAny_matchPattern_Capture ?_)
    show wpAny _ _ (matchEach (caps ns) X.env us) _ _ s
    refine each_caps ns us _ (Nat.succ.inj hl) I ?_
    exact h
theorem store_caps {pins : List (Addr × Obj)} {H : Hp} (hN : X.N.Nodup) : ∀ (ns : List (Str × Pos)) (is : List Nat) (us : List Value) (vs : List V) (s : Shared) (σ : L2.St) (Q : Unit → Shared → Prop), Vals vs us → us.length = ns.length → is.length = ns.length → Inv X pins σ H s →
    (∀ (j : Nat) (q : Str × Pos) (i : Nat), ns[j]? = some q → is[j]? = some i → X.N[i]? = some q.1 ∧ X.env.scope.names.lookup q.1 = some .local) →
    (∀ s', Inv X pins (puts is vs σ) H s' → Q () s') →
    wpAny (model X.prog X.w) X.A (assignInOrder (((ns.map (·.1)).zip us).map fun (n, _) => bindName X.env n) (((ns.map (·.1)).zip us).map (·.2))) Q X.xe s
  | [], is, us, vs, s, σ, Q, hv, hl, hi, I, hn, h => by
    have e1 : us = [] := List.length_eq_zero_iff.mp hl
    have e2 : is = [] := List.length_eq_zero_iff.mp hi
    subst e1 e2
    cases hv
    exact wpAny_assignInOrder_none (h s I)
  | q :: ns, [], us, vs, s, σ, Q, hv, hl, hi, I, hn, h => nomatch hi
  | q :: ns, i :: is, [], vs, s, σ, Q, hv, hl, hi, I, hn, h => nomatch hl
  | q :: ns, i :: is, u :: us, vs, s, σ, Q, hv, hl, hi, I, hn, h => by
    cases hv with
    | cons r rs =>
      obtain ⟨h1, h2⟩ := hn 0 q i rfl rfl
      refine wpAny_assignInOrder_more (wpAny_bindName (store_ok I hN h1 (Or.inl h2) r (fun s1 I1 => ?_) (Or.inr h2)))
      exact store_caps hN ns is us _ s1 _ Q rs (Nat.succ.inj hl) (Nat.succ.inj hi) I1 (fun j q' i' e1 e2 => hn (j + 1) q' i' e1 e2) h
theorem casesT_cons {y : Str} {j : Nat} {p1 p2 p3 : Pos} (ns : List (Str × Pos)) (is : List Nat) {body : List Stmt} {tb : TS} {cs : List MatchCase} {tc : Str → List V → TS} (hN : X.N.Nodup) (hc : X.calm = true) (hi : is.length = ns.length)
    (hn : ∀ (j : Nat) (q : Str × Pos) (i : Nat), ns[j]? = some q → is[j]? = some i → X.N[i]? = some q.1 ∧ X.env.scope.names.lookup q.1 = some .local)
    (hb : PSs X body tb) (hcs : CasesT X cs tc) :
    CasesT X (⟨.MatchSequence (.MatchValue (.Constant (.str y) j p1) p2 :: caps ns) p3, none, body⟩ :: cs) (fun z zs D σ H => if decide (z = y ∧ zs.length = ns.length) = true then tb D (puts is zs σ) H else tc z zs D σ H) := by
  have st : ∀ ns : List (Str × Pos), (caps ns).findIdx? (·.isStar) = none := fun ns => by
    rw [List.findIdx?_eq_none_iff]
    intro p hp
    obtain ⟨q, _, rfl⟩ := List.mem_map.mp hp
    rfl
  have hstar : (Pattern.MatchValue (.Constant (.str y) j p1) p2 :: caps ns).findIdx? (·.isStar) = none := by
    rw [List.findIdx?_cons, st]
    rfl
  have hwild : ((Pattern.MatchValue (.Constant (.str y) j p1) p2 :: caps ns).all fun p => p.isWildcard || (p.isStar && p.names.isEmpty)) = false := rfl
  have hlen : (Pattern.MatchValue (.Constant (.str y) j p1) p2 :: caps ns).length = ns.length + 1 := by rw [List.length_cons, caps, List.length_map]
  refine ⟨fun pins s σ H D r z zs b I hr h => wpAny_matchCases_cons ?_⟩
  obtain ⟨its, rv, ht, hz⟩ := I.tuple hr
  have hl := rv.length
  have hl' : its.length = zs.length + 1 := by rw [← hl]; rfl
  have h63 := line63
  by_cases hk : zs.length = ns.length
  · refine matchSeq_tuple_hit ht (by simp only [List.size_toArray] <;> omega) (by rw [hlen, List.size_toArray]; omega) ?_ hstar hwild
    have I0 : Inv X pins σ H { s with toks := s.toks + 1 + 1 } := (I.tok _).tok _
    have hsz : (Pattern.MatchValue (.Constant (.str y) j p1) p2 :: caps ns).length = its.toArray.size := by rw [hlen, List.size_toArray]; omega
    rw [hsz]
    refine unpackItems_tuple (s := { s with toks := s.toks + 1 + 1 }) (I0.ok.hd hc) ht fun h' hx => ?_
    have I1 : Inv X pins σ H { s with heap := h', toks := s.toks + 1 + 1 } := I0.kept (t' := s.toks + 1 + 1) fun b o e => hx b o (Nat.ne_of_lt (Heap.lt_size e)) e
    have rv' : Vals (.str z :: zs) its := by simpa using rv
    cases rv' with
    | @cons _ u _ us r0 rs =>
      obtain ⟨t, rfl⟩ := r0
      refine wpAny_matchEach_cons ((pat_val (X := X) (y := y) (j := j) (p1 := p1) (p2 := p2)).run pins _ σ H z t _ I1 fun s2 I2 => ?_)
      by_cases hy : z = y
      · subst hy
        rw [if_pos (decide_eq_true (List.mem_singleton.mpr rfl))]
        refine each_caps ns us _ (by rw [← rs.length]; exact hk) I2 ?_
        show wpAny _ _ (assignInOrder _ _) _ _ s2
        rw [if_pos (decide_eq_true ⟨rfl, hk⟩)] at h
        refine store_caps hN ns is us zs s2 σ _ rs (by rw [← rs.length]; exact hk) hi I2 hn fun s3 I3 => ?_
        exact hb.run pins s3 _ H D I3 h
      · rw [if_neg (fun e => hy (List.mem_singleton.mp (of_decide_eq_true e)))]
        rw [if_neg (fun e => hy (of_decide_eq_true e).1)] at h
        exact hcs.run pins s2 σ H D r z zs false I2 hr h
  · refine matchSeq_tuple_miss ht (by simp only [List.size_toArray] <;> omega) (by rw [hlen, List.size_toArray]; omega) ?_ hstar hwild
    rw [if_neg (fun e => hk (of_decide_eq_true e).2)] at h
    exact hcs.run pins _ σ H D r z zs false ((I.tok _).tok _) hr h
theorem casesT0 {y : Str} {j : Nat} {p1 p2 p3 : Pos} {body : List Stmt} {tb : TS} {cs : List MatchCase} {tc : Str → List V → TS} (hN : X.N.Nodup) (hc : X.calm = true) (hb : PSs X body tb) (hcs : CasesT X cs tc) :
    CasesT X (⟨.MatchSequence [.MatchValue (.Constant (.str y) j p1) p2] p3, none, body⟩ :: cs) (fun z zs D σ H => if decide (z = y ∧ zs.length = 0) = true then tb D (puts [] zs σ) H else tc z zs D σ H) :=
  casesT_cons [] [] hN hc rfl (fun _ _ _ h _ => by simp at h) hb hcs
theorem casesT1 {y n : Str} {i j : Nat} {p1 p2 p3 p4 : Pos} {body : List Stmt} {tb : TS} {cs : List MatchCase} {tc : Str → List V → TS} (hN : X.N.Nodup) (hc : X.calm = true) (h1 : X.N[i]? = some n) (h2 : X.env.scope.names.lookup n = some .local) (hb : PSs X body tb) (hcs : CasesT X cs tc) :
    CasesT X (⟨.MatchSequence [.MatchValue (.Constant (.str y) j p1) p2, .MatchAs none (some n) p4] p3, none, body⟩ :: cs) (fun z zs D σ H => if decide (z = y ∧ zs.length = 1) = true then tb D (puts [i] zs σ) H else tc z zs D σ H) :=
  casesT_cons [(n, p4)] [i] hN hc rfl (fun k q i' a b => by
    match k, a, b with
    | 0, a, b => cases a; cases b; exact ⟨h1, h2⟩
    | k + 1, a, b => simp at a) hb hcs
theorem casesT2 {y n n' : Str} {i i' j : Nat} {p1 p2 p3 p4 p5 : Pos} {body : List Stmt} {tb : TS} {cs : List MatchCase} {tc : Str → List V → TS} (hN : X.N.Nodup) (hc : X.calm = true) (h1 : X.N[i]? = some n) (h2 : X.env.scope.names.lookup n = some .local) (h3 : X.N[i']? = some n') (h4 : X.env.scope.names.lookup n' = some .local) (hb : PSs X body tb) (hcs : CasesT X cs tc) :
    CasesT X (⟨.MatchSequence [.MatchValue (.Constant (.str y) j p1) p2, .MatchAs none (some n) p4, .MatchAs none (some n') p5] p3, none, body⟩ :: cs) (fun z zs D σ H => if decide (z = y ∧ zs.length = 2) = true then tb D (puts [i, i'] zs σ) H else tc z zs D σ H) :=
  casesT_cons [(n, p4), (n', p5)] [i, i'] hN hc rfl (fun k q i' a b => by
    match k, a, b with
    | 0, a, b => cases a; cases b; exact ⟨h1, h2⟩
    | 1, a, b => cases a; cases b; exact ⟨h3, h4⟩
    | k + 2, a, b => simp at a) hb hcs
theorem ps_matchT {e : Expr} {te : TE} {cs : List MatchCase} {tc : Str → List V → TS} {pos : Pos} (he : PE X e te) (hc : CasesT X cs tc) :
    PS X (.Match e cs pos) (fun D σ H => te σ H fun v H1 => ∃ r z zs, v = .ref r ∧ SqT X.K H1 r (.str z :: zs) ∧ tc z zs D σ H1) := by
  refine ⟨fun pins s σ H D I h => wpAny_Match (thn (he.run pins s σ H _ I h) fun v s1 q => ?_)⟩
  obtain ⟨v', H1, I1, r1, r, z, zs, e1, hr, q⟩ := q
  subst e1
  cases r1
  exact hc.run pins s1 σ H1 D r z zs true I1 hr q
end
end Sb

namespace Sb
open PySem PySem.Spec PyProof.Rows L2
/-! ### d.get(k, x) of a written dict with text keys -/
def IsKD (K : PySem.W.Frag) (a : Addr) : Prop := (a == sysModules) = false ∧ ∃ es n, K.lookup a = some ⟨.type "dict", none, .dict es n, #[]⟩
def tKGet (K : PySem.W.Frag) (w : World) (td ty tx : TE) : TE := fun σ H Q => td σ H fun x H1 => ∃ a, x = .ref a ∧ IsKD K a ∧ ty σ H1 fun y H2 => tx σ H2 fun _ H3 => ∃ z v, y = .str z ∧ KDct K w a z v ∧ Q v H3
theorem KDct.kd {K : PySem.W.Frag} {w : World} {a : Addr} {z : Str} {v : V} (h : KDct K w a z v) (s : (a == sysModules) = false) : IsKD K a := by
  obtain ⟨es, n, u, hl, _⟩ := h
  exact ⟨s, es, n, hl⟩
section
variable {X : Cx} {o e f : Expr} {apos cpos : Pos} {td ty tx : TE}
theorem pe_kget2 (ho : PE X o td) (he : PE X e ty) (hf : PE X f tx) (m : M2 X o "get" apos e f cpos) : PE X (.Call (.Attribute o "get" apos) [e, f] [] cpos) (tKGet X.K X.w td ty tx) := by
  refine ⟨fun pins s σ H Q I h => ?_⟩
  refine wpAny_Call_method m.base m.few m.line PySem.F.plainAttrs_dict PySem.F.slot_dict_get PySem.F.type_dict_get (thn (ho.run pins s σ H _ I h) fun u s1 ⟨x, H1, I1, rx, a, ex, ⟨d1, es, n, d2⟩, q1⟩ => ?_)
  subst ex
  obtain rfl : u = Value.ref a := rx
  have hx := I1.kIn _ _ d2
  refine ⟨⟨_, hx, rfl⟩, fun b q => ?_, ?_⟩
  · cases q
    exact ⟨_, hx, rfl⟩
  rw [m.trees]
  refine Calls.callWith_builtin rfl (Calls.evalArgs_plain (Calls.spliced_cons (thn (he.run pins s1 σ H1 _ I1 q1) fun iv s2 ⟨y, H2, I2, ry, q2⟩ =>
    Calls.spliced_cons (thn (hf.run pins s2 σ H2 _ I2 q2) fun fv s3 ⟨z, H3, I3, rz, k, r, ek, ⟨es', n', u0, hl, hk, en, ru⟩, q3⟩ => Calls.spliced_nil ?_))))
  subst ek
  obtain ⟨t, rfl⟩ := ry
  have hm := PySem.W.mapOf_K (prog := X.prog) (w := X.w) I3.kIn hl hk
  refine call_meetsIn PySem.F.slot_dict_get hm.typeIs PySem.F.entry_dict_get (PySem.F.args_dict_get_3 _ _ _) (meets_dict_get_default (strKind X.prog X.w) a (strKind_is X.prog X.w k t) d1 fv) ⟨_, hm, ?_⟩
  rw [PySem.W.find_K hl en]
  exact ⟨r, H3, I3.tok _, ru, q3⟩
end
end Sb

/-! a class that a local name holds is called; what a classmethod's class must show -/
namespace Sb
open PySem PySem.Spec PyProof.Rows L2
def tMakeL (i : Nat) (C : Addr) (sp : Sp) (dvs : List V) (E : XK) (t : TA) : TE := fun σ H Q => σ[i]? = some (some (.ref C)) ∧ tMake C sp dvs E t σ H Q
section
variable {X : Cx} {CX : CXT} {i k : Nat} {f C : Addr} {fd : FuncData} {ps : List Str} {ds : List Value} {dvs : List V} {sp : Sp} {E : XK} {x : Str} {p pos : Pos} {e : Expr} {es : List Expr} {t : TA}
theorem pe_makeL (M : Mk X.K C f) (F : FnOk X.prog X.w X.K X.mg X.base CX k f fd ps sp) (hr : Room (k + 1) X.A) (hb : Binds X.K fd ps ds) (hd : Vals dvs ds) (hx : Passes CX X E) (ha : PA X (e :: es) t)
    (hN : X.N[i]? = some x := by rfl) (hv : Vis X.env.scope x := by first | exact Or.inl rfl | exact Or.inr (Or.inl rfl) | exact Or.inr (Or.inr rfl))
    (n1 : (x == ("__debug__" : Str)) = false := by decide) (n2 : (x == ("__classdict__" : Str)) = false := by decide)
    (st : starEach (e :: es) X.env = (false, eval e X.env) :: starEach es X.env := by rfl) (pl : (backTo pos (starEach es X.env)).any (·.1) = false := by rfl) : PE X (.Call (.Name x p) (e :: es) [] pos) (tMakeL i C sp dvs E t) := by
  refine ⟨fun pins s σ H Q I ⟨hi, ht⟩ => ?_⟩
  have load := (pe_var (X := X) (pos := p) hN hv n1 n2).run pins s σ H (fun v H1 => v = V.ref C ∧ H1 = H) I ⟨_, hi, rfl, rfl⟩
  refine wpAny_Call_Name_kw (thn load fun u s1 got => ?_)
  obtain ⟨v, H1, J, rv, ev, eh⟩ := got
  subst ev
  subst eh
  obtain rfl : u = Value.ref C := rv
  have args := ha.run pos pins s1 σ H1 _ J ht
  refine PySem.W.callWith_K (h₀ := X.base) J.ok.mod.kin M.kp (thn args fun us s2 got => ?_) st pl
  obtain ⟨vs, H2, J2, rs, q⟩ := got
  exact ⟨J2.kIn, run_make M F hr hb hd hx J2 rs q⟩
theorem fnR0 {P : Program} {w : World} {K : PySem.W.Frag} {mg : Str → Option Value} {base : Heap} (F : FnOk P w K mg base CX k f fd ps sp) (hb : Binds K fd ps []) : FnR P w K mg base CX k f sp := (F.raw hb .nil).imp fun vs H Q E h => by
  rw [List.append_nil]
  exact h
end
end Sb

/-! o.f as one of several targets -/
namespace Sb
open PySem PySem.Spec PyProof.Rows L2
def gFld (K : PySem.W.Frag) (to : TE) (f : Str) : TG := fun v σ H Q => to σ H fun x H1 => ∃ b C dy fs, x = .ref b ∧ H1 b = some (.ins C dy fs) ∧ Cls K C ∧ NoAttr K C f ∧ fs.length < 1000 ∧ Q σ (upd H1 b (.ins C dy (putF f v fs)))
theorem pg_fld {X : Cx} {o : Expr} {f : Str} {pos : Pos} {to : TE} (ho : PE X o to) : PG X (.Attribute o f pos) (gFld X.K to f) := by
  refine ⟨fun pins s σ H v u Q I r h => ?_⟩
  rw [assign_Attribute]
  refine wpAny_bind (wpAny_holding (thn (ho.run pins s σ H _ I h) fun ov s1 got => ?_))
  obtain ⟨x, H1, J, rx, b, C, dy, fs, ex, eb, c, n, l, q⟩ := got
  subst ex
  obtain rfl : ov = Value.ref b := rx
  refine wpAny_bind (wpAny_standAt (wpAny_bind (wpAny_holding (setattr_ok J eb c n l r fun s2 J2 => ?_))))
  exact wpAny_release ⟨σ, _, J2, q⟩
end Sb

/-! key in d, d a dict with texts (or ints) as keys: as in P9, for laws without P9 -/
namespace Sb
open PySem PySem.Spec PyProof.Rows L2
theorem units1 {A : Around} (h : A.units + 64 < cLine) : A.units + 1 < cLine := by omega
/-! ### `in` of a dict with ints as keys -/
def rInK : R2 := fun x y H Q => ∃ a o, y = .ref a ∧ DGet H a x o ∧ Q (.bl o.isSome) H
def rNotInK : R2 := fun x y H Q => ∃ a o, y = .ref a ∧ DGet H a x o ∧ Q (.bl (!o.isSome)) H
theorem op_inK {X : Cx} (hu : X.A.units + 1 < cLine) : OpR X (compareOp .In) rInK := by
  intro pins s σ H x y v u Q I rx ry h
  obtain ⟨a, o, rfl, g, q⟩ := h
  cases ry
  exact d_in hu I g rx fun s' I' => ⟨.bl o.isSome, H, I', rfl, q⟩
theorem op_notInK {X : Cx} (hu : X.A.units + 1 < cLine) : OpR X (compareOp .NotIn) rNotInK := by
  intro pins s σ H x y v u Q I rx ry h
  obtain ⟨a, o, rfl, g, q⟩ := h
  cases ry
  exact d_notIn hu I g rx fun s' I' => ⟨.bl (!o.isSome), H, I', rfl, q⟩
end Sb

namespace Sb
open PySem PySem.Spec PyProof.Rows L2 TL
/-! ### a stage -/
/-- the state, the ticks that have passed, the blocked steps of each robot -/
structure Nw where
  sit : Sit
  tick : Nat
  b0 : Nat
  b1 : Nat
structure Ent where
  word : Str
  bef : Nw
  aft : Nw
def blk (w : Nat) : Nat := if w = 8 then 1 else 0
/-- k ticks on -/
def runP (x : Pl) (n : Nw) : Nat → Nw
  | 0 => n
  | k + 1 => ⟨(tickP x (runP x n k).sit).2, (runP x n k).tick + 1, (runP x n k).b0 + blk (tickP x (runP x n k).sit).1.1, (runP x n k).b1 + blk (tickP x (runP x n k).sit).1.2⟩
theorem runP_tick (x : Pl) (n : Nw) : ∀ k, (runP x n k).tick = n.tick + k
  | 0 => rfl
  | k + 1 => by show (runP x n k).tick + 1 = _; rw [runP_tick x n k]; omega
theorem runP_ok {x : Pl} {n : Nw} (hx : x.Ok) (h : SitOk x n.sit) : ∀ k, SitOk x (runP x n k).sit
  | 0 => h
  | k + 1 => tick_ok hx (runP_ok hx h k)
def NwAt (a : Ad) (K : PySem.W.Frag) (G : Hp) (v : V) (n : Nw) : Prop := ∃ (t b : Addr) (s : V), v = .ref t ∧ SqT K G t [s, .int n.tick, .ref b] ∧ StateAt a K G s n.sit ∧ SqT K G b [.int n.b0, .int n.b1]
theorem NwAt.mono {a : Ad} {K : PySem.W.Frag} {G G' : Hp} {v : V} {n : Nw} (m : Same G G') (h : NwAt a K G v n) : NwAt a K G' v n := by
  obtain ⟨t, b, s, h0, h1, h2, h3⟩ := h
  exact ⟨t, b, s, h0, Same.seqT m h1, h2.mono m, Same.seqT m h3⟩
def EntAt (a : Ad) (K : PySem.W.Frag) (G : Hp) (v : V) (e : Ent) : Prop := ∃ (t : Addr) (v1 v2 : V), v = .ref t ∧ SqT K G t [.str e.word, v1, v2] ∧ NwAt a K G v1 e.bef ∧ NwAt a K G v2 e.aft
theorem EntAt.mono {a : Ad} {K : PySem.W.Frag} {G G' : Hp} {v : V} {e : Ent} (m : Same G G') (h : EntAt a K G v e) : EntAt a K G' v e := by
  obtain ⟨t, v1, v2, h0, h1, h2, h3⟩ := h
  exact ⟨t, v1, v2, h0, Same.seqT m h1, h2.mono m, h3.mono m⟩
inductive EntsAt (a : Ad) (K : PySem.W.Frag) (G : Hp) : List V → List Ent → Prop
  | nil : EntsAt a K G [] []
  | snoc {vs : List V} {es : List Ent} {v : V} {e : Ent} : EntsAt a K G vs es → EntAt a K G v e → EntsAt a K G (vs ++ [v]) (es ++ [e])
theorem EntsAt.mono {a : Ad} {K : PySem.W.Frag} {G G' : Hp} {vs : List V} {es : List Ent} (m : Same G G') (h : EntsAt a K G vs es) : EntsAt a K G' vs es := by
  induction h with
  | nil => exact .nil
  | snoc _ h2 ih => exact .snoc ih (h2.mono m)
theorem EntsAt.len {a : Ad} {K : PySem.W.Frag} {G : Hp} {vs : List V} {es : List Ent} (h : EntsAt a K G vs es) : vs.length = es.length := by
  induction h with
  | nil => rfl
  | snoc _ _ ih => rw [List.length_append, List.length_append, ih]; rfl
theorem EntsAt.pop {a : Ad} {K : PySem.W.Frag} {G : Hp} {vs : List V} {es : List Ent} {e : Ent} (h : EntsAt a K G vs (es ++ [e])) : ∃ ys v, vs = ys ++ [v] ∧ EntsAt a K G ys es ∧ EntAt a K G v e := by
  generalize hz : es ++ [e] = zs at h
  cases h with
  | nil => exact absurd hz (by simp)
  | snoc h1 h2 =>
    obtain ⟨e1, e2⟩ := List.append_inj' hz rfl
    cases e2
    subst e1
    exact ⟨_, _, rfl, h1, h2⟩
theorem EntsAt.get {a : Ad} {K : PySem.W.Frag} {G : Hp} {vs : List V} {es : List Ent} (h : EntsAt a K G vs es) : ∀ {j : Nat} {v : V}, vs[j]? = some v → ∃ e, es[j]? = some e ∧ EntAt a K G v e := by
  induction h with
  | nil => intro j v e; simp at e
  | snoc h1 h2 ih =>
    intro j v e
    by_cases hj : j < List.length ‹List V›
    · rw [List.getElem?_append_left hj] at e
      obtain ⟨e', h3, h4⟩ := ih e
      exact ⟨e', by rw [List.getElem?_append_left (by rw [← h1.len]; exact hj)]; exact h3, h4⟩
    · rw [List.getElem?_append_right (by omega)] at e
      have hl := h1.len
      have : j - List.length ‹List V› = 0 := by
        have := (List.getElem?_eq_some_iff.mp e).1
        simp at this
        omega
      rw [this] at e
      cases e
      exact ⟨_, by rw [List.getElem?_append_right (by omega), ← hl, this]; rfl, h2⟩
def stgF (pv nv : V) (p u sd : Addr) : List (Str × V) := [("parsed", pv), ("now", nv), ("past", .ref p), ("undone", .ref u), ("saved", .ref sd)]
/-- a stage: y itself, p its list of what is in effect, u its list of what is undone -/
structure StAt (a : Ad) (K : PySem.W.Frag) (G H : Hp) (y p u sd : Addr) (x : Pl) (n : Nw) (es us : List Ent) : Prop where
  ex : ∃ (dy : Addr) (pv nv : V) (vs ws : List V), H y = some (.ins a.C_Stage dy (stgF pv nv p u sd)) ∧ H p = some (.lst vs) ∧ H u = some (.lst ws) ∧ PlanAt a K G pv x ∧ NwAt a K G nv n ∧ EntsAt a K G vs es ∧ EntsAt a K G ws us
  gy : G y = none
  gp : G p = none
  gu : G u = none
  pu : p ≠ u
  ok : SitOk x n.sit
theorem StAt.grow {a : Ad} {K : PySem.W.Frag} {G H G' H' : Hp} {y p u sd : Addr} {x : Pl} {n : Nw} {es us : List Ent} (h : StAt a K G H y p u sd x n es us) (e : Ext G H G' H') (k : ∀ b, b = y ∨ b = p ∨ b = u → ∀ o, H b = some o → H' b = some o) : StAt a K G' H' y p u sd x n es us := by
  obtain ⟨dy, pv, nv, vs, ws, h1, h2, h3, h4, h5, h6, h7⟩ := h.ex
  exact ⟨⟨dy, pv, nv, vs, ws, k _ (.inl rfl) _ h1, k _ (.inr (.inl rfl)) _ h2, k _ (.inr (.inr rfl)) _ h3, h4.mono e.g, h5.mono e.g, h6.mono e.g, h7.mono e.g⟩, e.out h.gy h1, e.out h.gp h2, e.out h.gu h3, h.pu, h.ok⟩
theorem stgF_und {pv nv : V} {p u sd u' : Addr} : putF "undone" (.ref u') (stgF pv nv p u sd) = stgF pv nv p u' sd := by
  unfold stgF
  rw [putF, if_neg (by decide +kernel), putF, if_neg (by decide +kernel), putF, if_neg (by decide +kernel), putF, if_pos rfl]
theorem stgF_now {pv nv nv' : V} {p u sd : Addr} : putF "now" nv' (stgF pv nv p u sd) = stgF pv nv' p u sd := by
  unfold stgF
  rw [putF, if_neg (by decide +kernel), putF, if_pos rfl]
theorem stgF_new {pv nv : V} {p u sd : Addr} : putF "saved" (.ref sd) (putF "undone" (.ref u) (putF "past" (.ref p) (putF "now" nv (putF "parsed" pv [])))) = stgF pv nv p u sd := by
  have e1 : putF "parsed" pv [] = [(Str.ofString "parsed", pv)] := rfl
  have e2 : putF "now" nv [(Str.ofString "parsed", pv)] = [(Str.ofString "parsed", pv), (Str.ofString "now", nv)] := putF_new (fs := [(Str.ofString "parsed", pv)]) (show ("now" : Str) ∉ (["parsed"] : List Str) by decide +kernel)
  have e3 : putF "past" (.ref p) [(Str.ofString "parsed", pv), (Str.ofString "now", nv)] = [(Str.ofString "parsed", pv), (Str.ofString "now", nv), (Str.ofString "past", .ref p)] := putF_new (fs := [(Str.ofString "parsed", pv), (Str.ofString "now", nv)]) (show ("past" : Str) ∉ (["parsed", "now"] : List Str) by decide +kernel)
  have e4 : putF "undone" (.ref u) [(Str.ofString "parsed", pv), (Str.ofString "now", nv), (Str.ofString "past", .ref p)] = [(Str.ofString "parsed", pv), (Str.ofString "now", nv), (Str.ofString "past", .ref p), (Str.ofString "undone", .ref u)] := putF_new (fs := [(Str.ofString "parsed", pv), (Str.ofString "now", nv), (Str.ofString "past", .ref p)]) (show ("undone" : Str) ∉ (["parsed", "now", "past"] : List Str) by decide +kernel)
  have e5 : putF "saved" (.ref sd) [(Str.ofString "parsed", pv), (Str.ofString "now", nv), (Str.ofString "past", .ref p), (Str.ofString "undone", .ref u)] = stgF pv nv p u sd := putF_new (fs := [(Str.ofString "parsed", pv), (Str.ofString "now", nv), (Str.ofString "past", .ref p), (Str.ofString "undone", .ref u)]) (show ("saved" : Str) ∉ (["parsed", "now", "past", "undone"] : List Str) by decide +kernel)
  rw [e1, e2, e3, e4, e5]
theorem stgF_len {pv nv : V} {p u sd : Addr} : (stgF pv nv p u sd).length < 1000 := by show 5 < 1000; decide
theorem ins_lst {H : Hp} {y p C dy : Addr} {fs : List (Str × V)} {vs : List V} (h1 : H y = some (.ins C dy fs)) (h2 : H p = some (.lst vs)) : y ≠ p := fun e => by rw [e, h2] at h1; cases h1
structure spStageInit (a : Ad) (K : PySem.W.Frag) (vs : List V) (H : Hp) (Q : VK) (E : XK) : Prop where
  ex : ∃ (y dy : Addr) (G : Hp) (src : Str) (x : Pl), vs = [.ref y, .str src] ∧ H y = some (.ins a.C_Stage dy []) ∧ G y = none ∧ Same G H ∧ Loads src x ∧ x.Ok ∧
    ∀ (G' H' : Hp) (p u sd : Addr), Mv [y] G H G' H' → H p = none → H u = none → H sd = none → H' sd = some (.dK []) → G' sd = none → sd ≠ p → sd ≠ u → StAt a K G' H' y p u sd x ⟨sit0 x, 0, 0, 0⟩ [] [] → Q .non H'
structure spRecord (a : Ad) (K : PySem.W.Frag) (vs : List V) (H : Hp) (Q : VK) (E : XK) : Prop where
  ex : ∃ (y p u sd : Addr) (G : Hp) (wd : Str) (v : V) (x : Pl) (n n' : Nw) (es us : List Ent), vs = [.ref y, .str wd, v] ∧ StAt a K G H y p u sd x n es us ∧ Same G H ∧ NwAt a K G v n' ∧ SitOk x n'.sit ∧ es.length ≤ 100000 ∧
    ∀ (G' H' : Hp) (u' : Addr), Mv [y, p] G H G' H' → H u' = none → StAt a K G' H' y p u' sd x n' (es ++ [⟨wd, n, n'⟩]) [] → Q .non H'
section
variable {P : Program} {w : World} {K : PySem.W.Frag} {mg : Str → Option Value} {base : Heap} {a : Ad}
theorem ok_Stage_record (T : Txt K mg a) : FnOk P w K mg base CX0 1 a.f_Stage_record a.d_Stage_record ["self", "word", "now"] (spRecord a K) := by
  refine T.F_Stage_record.ok sc_Stage_record (fun vs H Q E h => ?_) (fun cdv A outer s0 H vs Q E hr h => ?_)
  · obtain ⟨⟨y, p, u, sd, G, wd, v, x, n, n', es, us, rfl, _⟩⟩ := h
    rfl
  · obtain ⟨⟨y, p, u, sd, G, wd, v, x, n, n', es, us, rfl, hS, hGH, hN, hok, hes, k⟩⟩ := h
    refine ⟨_, (pss_cons (ps_expr (pe_bm PySem.F.plainAttrs_list PySem.F.slot_list_append PySem.F.type_list_append mt_append (pe_fld (pv 0) rfl) (pa_cons (pe_tup (pa_cons (pv 1) (pa_cons (pe_fld (pv 0) rfl) (pa_cons (pv 2) pa_nil)))) pa_nil)))
      (pss_cons (ps_fld (pv 0) (pe_lst pa_nil) rfl)
      (pss_one (ps_fld (pv 0) (pv 2) rfl)))), ?_⟩
    obtain ⟨dy, pv, nv, vs, ws, h1, h2, h3, h4, h5, h6, h7⟩ := hS.ex
    have yp := ins_lst h1 h2
    have yu := ins_lst h1 h3
    have pu := hS.pu
    refine ⟨_, rfl, y, _, dy, _, .ref p, rfl, h1, T.cl_Stage, T.n_Stage_past, (by kernel_rfl), .inl ⟨rfl, _, SqL.of h2⟩, ?_⟩
    refine ⟨_, rfl, _, rfl, y, _, dy, _, nv, rfl, h1, T.cl_Stage, T.n_Stage_now, (by kernel_rfl), _, rfl, (by show 3 ≤ sizeLine; decide), fun t ht => ?_⟩
    have ty := ne_of_none h1 ht
    have tp := ne_of_none h2 ht
    have tu := ne_of_none h3 ht
    have M1 : Mv [y, p] G H _ _ := (Mv.start hGH).new ht (.tup [.str wd, nv, v])
    have g1 := same_new (o := .tup [.str wd, nv, v]) (Same.free hGH ht)
    have gy1 : (upd G t (.tup [.str wd, nv, v])) y = none := by rw [upd_ne ty]; exact hS.gy
    have gp1 : (upd G t (.tup [.str wd, nv, v])) p = none := by rw [upd_ne tp]; exact hS.gp
    have h1a : (upd H t (.tup [.str wd, nv, v])) y = _ := (upd_ne ty).trans h1
    have h2a : (upd H t (.tup [.str wd, nv, v])) p = _ := (upd_ne tp).trans h2
    have h4 := h4.mono g1
    have h6 := h6.mono g1
    have hN := hN.mono g1
    have frees : ∀ b, (upd H t (.tup [.str wd, nv, v])) b = none → H b = none := fun b e => by
      by_cases hb : b = t
      · rw [hb]; exact ht
      · rw [upd_ne hb] at e; exact e
    have hent : EntAt a K (upd G t (.tup [.str wd, nv, v])) (.ref t) ⟨wd, n, n'⟩ := ⟨t, nv, v, rfl, SqT.of upd_same, h5.mono g1, hN⟩
    revert M1 g1 gy1 gp1 h1a h2a h4 h6 hN frees hent
    generalize upd G t (.tup [.str wd, nv, v]) = G1
    generalize upd H t (.tup [.str wd, nv, v]) = H1
    intro M1 g1 gy1 gp1 h1a h2a h4 h6 hN frees hent
    have hvl := h6.len
    refine ⟨p, vs, .ref t, rfl, rfl, h2a, smaller 100000 (by omega) (by decide), ?_⟩
    have M2 := M1.put (.inl (by simp)) gp1 (.lst (vs ++ [.ref t]))
    refine ⟨Nat.zero_le _, fun u' hu' => ?_⟩
    have M3 := M2.lay hu' (.lst [])
    have h1b : (upd H1 p (.lst (vs ++ [.ref t]))) y = some (.ins a.C_Stage dy (stgF pv nv p u sd)) := by rw [upd_ne yp]; exact h1a
    have uy := ne_of_none h1b hu'
    have up := ne_of_none (upd_same (H := H1) (a := p) (o := .lst (vs ++ [.ref t]))) hu'
    have u0 : H u' = none := M2.free hu'
    have gu' : G1 u' = none := M2.freeG hu'
    refine ⟨_, rfl, y, _, dy, _, rfl, by rw [upd_ne uy]; exact h1b, T.cl_Stage, T.n_Stage_undone, stgF_len, ?_⟩
    rw [stgF_und]
    refine ⟨_, rfl, _, rfl, y, _, dy, _, rfl, upd_same, T.cl_Stage, T.n_Stage_now, stgF_len, ?_⟩
    rw [stgF_now, upd_upd]
    have M4 := M3.put (.inl (by simp)) gy1 (.ins a.C_Stage dy (stgF pv v p u' sd))
    refine k _ _ u' M4 u0 ⟨⟨dy, pv, v, _, [], upd_same, ?_, ?_, h4, hN, h6.snoc hent, .nil⟩, gy1, gp1, gu', up, hok⟩
    · rw [upd_ne yp.symm, upd_ne up, upd_same]
    · rw [upd_ne uy.symm, upd_same]
theorem ok_Stage_init (T : Txt K mg a) : FnOk P w K mg base CX0 9 a.f_Stage_init a.d_Stage_init ["self", "plan"] (spStageInit a K) := by
  refine T.F_Stage_init.ok sc_Stage_init (fun vs H Q E h => ?_) (fun cdv A outer s0 H vs Q E hr h => ?_)
  · obtain ⟨⟨y, dy, G, src, x, rfl, _⟩⟩ := h
    rfl
  · obtain ⟨⟨y, dy, G, src, x, rfl, hy, hyG, hGH, hld, hx, k⟩⟩ := h
    refine ⟨_, (pss_cons (ps_fld (pv 0) (pe_call (ok_load T) (hr.mono (by decide)) rfl T.m_load T.F_load.kp (b_load T) .nil pass0 (pa_cons (pv 1) pa_nil)) rfl)
      (pss_cons (ps_fld (pv 0) (pe_tup (pa_cons (pe_call (ok_first_state T) (hr.mono (by decide)) rfl T.m_first_state T.F_first_state.kp (b_first_state T) .nil pass0 (pa_cons (pe_fld (pv 0) rfl) pa_nil)) (pa_cons pe_int (pa_cons (pe_tup (pa_cons pe_int (pa_cons pe_int pa_nil))) pa_nil)))) rfl)
      (pss_cons (ps_fld (pv 0) (pe_lst pa_nil) rfl)
      (pss_cons (ps_fld (pv 0) (pe_lst pa_nil) rfl)
      (pss_one (ps_fld (pv 0) pe_dnewK rfl)))))), ?_⟩
    refine ⟨_, rfl, ⟨⟨src, G, x, rfl, hld, hx, hGH, fun G1 H1 pv x1 t1 h1 => ?_⟩⟩⟩
    have M1 := (Mv.start (S := [y]) hGH).pure x1 t1
    have hy1 := t1 _ _ hy
    have gy1 := x1.out hyG hy
    refine ⟨_, rfl, y, _, dy, _, rfl, hy1, T.cl_Stage, T.n_Stage_parsed, by decide, ?_⟩
    have M2 := M1.put (.inl (by simp)) gy1 (.ins a.C_Stage dy (putF "parsed" pv []))
    refine ⟨_, rfl, y, _, dy, _, pv, rfl, upd_same, T.cl_Stage, T.n_Stage_parsed, (by kernel_rfl), ⟨⟨G1, pv, x, rfl, h1, M2.s, fun G3 H3 sv x3 t3 h3 => ?_⟩⟩⟩
    have M3 := M2.pure x3 t3
    refine ⟨(by show 2 ≤ sizeLine; decide), fun t ht => ?_⟩
    have M4 := M3.new ht (.tup [.int 0, .int 0])
    refine ⟨(by show 3 ≤ sizeLine; decide), fun t2 ht2 => ?_⟩
    have ne1 : ∀ {b : Addr} {o : HO}, H3 b = some o → (upd (upd H3 t (.tup [.int 0, .int 0])) t2 (.tup [sv, .int 0, .ref t])) b = some o := fun {b o} e => by
      have q : (upd H3 t (.tup [.int 0, .int 0])) b = some o := by rw [upd_ne (ne_of_none e ht)]; exact e
      rw [upd_ne (ne_of_none q ht2)]
      exact q
    have M5 := M4.new ht2 (.tup [sv, .int 0, .ref t])
    have g4 := same_new (o := .tup [.int 0, .int 0]) (M3.freeG ht)
    have g5 := same_new (o := .tup [sv, .int 0, .ref t]) (M4.freeG ht2)
    have hnw : NwAt a K (upd (upd G3 t (.tup [.int 0, .int 0])) t2 (.tup [sv, .int 0, .ref t])) (.ref t2) ⟨sit0 x, 0, 0, 0⟩ := ⟨t2, t, sv, rfl, SqT.of upd_same, h3.mono (g4.trans g5), SqT.of (g5 _ _ upd_same)⟩
    have hpv := h1.mono (x3.g.trans (g4.trans g5))
    have hy5 := ne1 (t3 _ _ (upd_same (H := H1) (a := y) (o := .ins a.C_Stage dy (putF "parsed" pv []))))
    have gy5 := M5.ext.out hyG hy
    revert M5 hnw hpv hy5 gy5
    generalize upd (upd G3 t (.tup [.int 0, .int 0])) t2 (.tup [sv, .int 0, .ref t]) = G5
    generalize upd (upd H3 t (.tup [.int 0, .int 0])) t2 (.tup [sv, .int 0, .ref t]) = H5
    intro M5 hnw hpv hy5 gy5
    refine ⟨_, rfl, y, _, dy, _, rfl, hy5, T.cl_Stage, T.n_Stage_now, lf1, ?_⟩
    have M6 := M5.put (.inl (by simp)) gy5 (.ins a.C_Stage dy (putF "now" (.ref t2) (putF "parsed" pv [])))
    refine ⟨Nat.zero_le _, fun p hp => ?_⟩
    have M7 := M6.lay hp (.lst [])
    have py := ne_of_none (upd_same (H := H5) (a := y) (o := .ins a.C_Stage dy (putF "now" (.ref t2) (putF "parsed" pv [])))) hp
    refine ⟨_, rfl, y, _, dy, _, rfl, by rw [upd_ne py, upd_same], T.cl_Stage, T.n_Stage_past, lf2, ?_⟩
    have M8 := M7.put (.inl (by simp)) gy5 (.ins a.C_Stage dy (putF "past" (.ref p) (putF "now" (.ref t2) (putF "parsed" pv []))))
    refine ⟨Nat.zero_le _, fun u hu => ?_⟩
    have M9 := M8.lay hu (.lst [])
    have uy := ne_of_none upd_same hu
    refine ⟨_, rfl, y, _, dy, _, rfl, by rw [upd_ne uy, upd_same], T.cl_Stage, T.n_Stage_undone, lf3, ?_⟩
    have M10 := M9.put (.inl (by simp)) gy5 (.ins a.C_Stage dy (putF "undone" (.ref u) (putF "past" (.ref p) (putF "now" (.ref t2) (putF "parsed" pv [])))))
    intro sd hsd
    have M11 := M10.lay hsd (.dK [])
    have sy := ne_of_none upd_same hsd
    have pu : p ≠ u := ne_of_none (by rw [upd_ne py.symm, upd_same]) hu
    have gp : G5 p = none := M6.freeG hp
    have gu : G5 u = none := M8.freeG hu
    have hp0 : H p = none := M6.free hp
    have hu0 : H u = none := M8.free hu
    refine ⟨_, rfl, y, _, dy, _, rfl, by rw [upd_ne sy, upd_same], T.cl_Stage, T.n_Stage_saved, Nat.lt_of_le_of_lt (lf (lf (lf (lf (Nat.le_refl _))))) (by decide), ?_⟩
    rw [stgF_new]
    have M12 := M11.put (.inl (by simp)) gy5 (.ins a.C_Stage dy (stgF pv (.ref t2) p u sd))
    have ps : p ≠ sd := ne_of_none (by rw [upd_ne py.symm, upd_ne pu, upd_ne py.symm, upd_same]) hsd
    have us : u ≠ sd := ne_of_none (by rw [upd_ne uy.symm, upd_same]) hsd
    have hsd0 : H sd = none := M10.free hsd
    have gsd : G5 sd = none := M10.freeG hsd
    refine k _ _ p u sd M12 hp0 hu0 hsd0 (by rw [upd_ne sy.symm, upd_same]) gsd ps.symm us.symm ⟨⟨dy, pv, .ref t2, [], [], upd_same, ?_, ?_, hpv, hnw, .nil, .nil⟩, gy5, gp, gu, pu, sitAt_ok hx 0⟩
    · rw [upd_ne py.symm, upd_ne ps, upd_ne py.symm, upd_ne pu, upd_ne py.symm, upd_same]
    · rw [upd_ne uy.symm, upd_ne us, upd_ne uy.symm, upd_same]
end
end Sb

namespace Sb
open PySem PySem.Spec PyProof.Rows L2 TL RZ
/-- a comprehension over zip of two tuples of one length -/
theorem lc_zipT {K : PySem.W.Frag} {a b : Addr} {xs ys : List V} {g : TG} {tt : TT} {te : TE} {vs : List Nat} {σ : L2.St} {H1 : Hp} {D : Addr} {Qd : Hp → Prop} (hle : xs.length = ys.length) (Pv : Nat → Hp → Prop) (h0 : Pv 0 (upd H1 D (.lst []))) (hl : ∀ i H, i ≤ xs.length → Pv i H → SqT K H a xs ∧ SqT K H b ys)
    (hs : ∀ (i : Nat) (x y : V) (t : Addr) (H : Hp), xs[i]? = some x → ys[i]? = some y → Pv i H → H t = none → g (.ref t) (wipe σ vs) (upd H t (.tup [x, y])) fun σ2 H2 => wipe σ2 vs = wipe σ vs ∧ tt σ2 H2 fun b H3 =>
      if b = true then te σ2 H3 fun y H4 => ∃ acc, H4 D = some (.lst acc) ∧ acc.length < sizeLine ∧ Pv (i + 1) (upd H4 D (.lst (acc ++ [y]))) else Pv (i + 1) H3) (hd : ∀ H, Pv xs.length H → Qd H) :
    ∃ W : Nat → Nat → Hp → Prop, (∃ m, W 0 m (upd H1 D (.lst []))) ∧ ∀ i m H, W i m H →
      ((ItzT K a b).stop i H ∧ Qd H) ∨ ((ItzT K a b).go i H ∧ ∃ Nx : Hp → Prop, (∀ H', Nx H' → ∃ m', m' < m ∧ W (i + 1) m' H') ∧ ∀ x H', (ItzT K a b).yld i H x H' → g x (wipe σ vs) H' fun σ2 H2 => wipe σ2 vs = wipe σ vs ∧ tt σ2 H2 fun b H3 =>
        if b = true then te σ2 H3 fun y H4 => ∃ acc, H4 D = some (.lst acc) ∧ acc.length < sizeLine ∧ Nx (upd H4 D (.lst (acc ++ [y]))) else Nx H3) := by
  refine ⟨fun i m H => m = xs.length - i ∧ i ≤ xs.length ∧ Pv i H, ⟨xs.length, by simp, Nat.zero_le _, h0⟩, ?_⟩
  rintro i m H ⟨rfl, hi, p⟩
  obtain ⟨qx, qy⟩ := hl i H hi p
  by_cases hlt : i < xs.length
  · have hx : xs[i]? = some xs[i] := List.getElem?_eq_getElem hlt
    have hlt2 : i < ys.length := by omega
    have hy : ys[i]? = some ys[i] := List.getElem?_eq_getElem hlt2
    refine .inr ⟨⟨xs, ys, _, _, qx, qy, hx, hy⟩, Pv (i + 1), fun H' p' => ⟨xs.length - (i + 1), by omega, rfl, hlt, p'⟩, fun v H' y => ?_⟩
    obtain ⟨t, x', y', rfl, ht, rfl, f1, f2⟩ := y
    exact hs i x' y' t H (f1 xs qx) (f2 ys qy) p ht
  · have e : i = xs.length := by omega
    subst e
    exact .inl ⟨⟨xs, ys, qx, qy, Or.inl (Nat.le_refl _)⟩, hd H p⟩
theorem StAt.keep {a : Ad} {K : PySem.W.Frag} {G H G' H' : Hp} {y p u sd : Addr} {x : Pl} {n : Nw} {es us : List Ent} (h : StAt a K G H y p u sd x n es us) (g : Same G G') (gy : G' y = none) (gp : G' p = none) (gu : G' u = none) (k : ∀ b, b = y ∨ b = p ∨ b = u → ∀ o, H b = some o → H' b = some o) : StAt a K G' H' y p u sd x n es us := by
  obtain ⟨dy, pv, nv, vs, ws, h1, h2, h3, h4, h5, h6, h7⟩ := h.ex
  exact ⟨⟨dy, pv, nv, vs, ws, k _ (.inl rfl) _ h1, k _ (.inr (.inl rfl)) _ h2, k _ (.inr (.inr rfl)) _ h3, h4.mono g, h5.mono g, h6.mono g, h7.mono g⟩, gy, gp, gu, h.pu, h.ok⟩
theorem tick_w {x : Pl} {s : Sit} (hx : x.Ok) (o : SitOk x s) : (tickP x s).1.1 ≤ 8 ∧ (tickP x s).1.2 ≤ 8 := ⟨act_w hx o (by decide), act_w hx (act_ok hx o (by decide)) (by decide)⟩
theorem range_moreS {α : Type} (f : Nat → α) (m : Nat) : (List.range (m + 1)).map f = (List.range m).map f ++ [f m] := by rw [List.range_succ, List.map_append]; rfl
theorem no_blk : ∀ w, w < 8 → wS w ≠ Str.ofString "blocked" := by decide +kernel
theorem blk_int {w : Nat} (h : w ≤ 8) : (if decide (V.str (doS w) = V.str (Str.ofString "blocked")) = true then (1 : Int) else 0) = (blk w : Nat) := by
  by_cases e : w = 8
  · subst e
    rw [doS8, if_pos (decide_eq_true rfl)]
    rfl
  · rw [doS_lt (by omega), if_neg (fun z => no_blk w (by omega) (by injection of_decide_eq_true z))]
    unfold blk
    rw [if_neg e]
    rfl
structure spStep (a : Ad) (K : PySem.W.Frag) (vs : List V) (H : Hp) (Q : VK) (E : XK) : Prop where
  ex : ∃ (y p u sd : Addr) (G : Hp) (x : Pl) (n : Nw) (es us : List Ent) (c : Nat), vs = [.ref y, .int c] ∧ StAt a K G H y p u sd x n es us ∧ Same G H ∧ x.Ok ∧ c ≤ 500 ∧ es.length ≤ 100000 ∧
    ∀ (G' H' : Hp) (u' f : Addr), Mv [y, p] G H G' H' → H u' = none → StAt a K G' H' y p u' sd x (runP x n c) (es ++ [⟨"step", n, runP x n c⟩]) [] → Dp K G' (.ref f) (.list ((List.range c).map fun j => wordsD (tickP x (runP x n j).sit).1)) → Q (.ref f) H'
/-- .. the list of what was done is the caller's own -/
structure spStepR (a : Ad) (K : PySem.W.Frag) (vs : List V) (H : Hp) (Q : VK) (E : XK) : Prop where
  ex : ∃ (y p u sd : Addr) (G : Hp) (x : Pl) (n : Nw) (es us : List Ent) (c : Nat), vs = [.ref y, .int c] ∧ StAt a K G H y p u sd x n es us ∧ Same G H ∧ x.Ok ∧ c ≤ 500 ∧ es.length ≤ 100000 ∧
    ∀ (G' H' : Hp) (u' f : Addr) (fs : List V), Mv [y, p] G H G' H' → H u' = none → StAt a K G' H' y p u' sd x (runP x n c) (es ++ [⟨"step", n, runP x n c⟩]) [] → H f = none → f ≠ u' → G' f = none → H' f = some (.lst fs) → fs.length = c → DpAll K G' fs ((List.range c).map fun j => wordsD (tickP x (runP x n j).sit).1) → Q (.ref f) H'
section
variable {P : Program} {w : World} {K : PySem.W.Frag} {mg : Str → Option Value} {base : Heap} {a : Ad}
theorem ok_Stage_stepR (T : Txt K mg a) : FnOk P w K mg base CX0 7 a.f_Stage_step a.d_Stage_step ["self", "count"] (spStepR a K) := by
  refine T.F_Stage_step.ok sc_Stage_step (fun vs H Q E h => ?_) (fun cdv A outer s0 H vs Q E hr h => ?_)
  · obtain ⟨⟨y, p, u, sd, G, x, n, es, us, c, rfl, _⟩⟩ := h
    rfl
  · obtain ⟨⟨y, p, u, sd, G, x, n, es, us, c, rfl, hS, hGH, hx, hc, hes, k⟩⟩ := h
    refine ⟨_, (pss_cons (ps_if (pt_not (pt_val (pe_call (ok_is_int_in T) (hr.mono (by decide)) rfl T.m_is_int_in T.F_is_int_in.kp (b_is_int_in T) .nil pass0 (pa_cons (pv 1) (pa_cons pe_int (pa_cons (pe_glob (v := V.int 500) rfl T.c_MAX_STEP ⟨_, rfl⟩) pa_nil)))))) pss_never pss_nil)
      (pss_cons (ps_asg (pe_fld (pv 0) rfl) (pg_tup (by rfl) (pgs_cons (pg_name (i := 2) sc_Stage_step.nd rfl (Or.inl rfl)) (pgs_cons (pg_name (i := 3) sc_Stage_step.nd rfl (Or.inl rfl)) (pgs_cons (pg_name (i := 4) sc_Stage_step.nd rfl (Or.inl rfl)) pgs_nil)))))
      (pss_cons (ps_set (i := 5) sc_Stage_step.nd rfl (Or.inl rfl) (pe_lst pa_nil))
      (pss_cons (ps_for PassesOwn.never rfl (pi_range1 (by rfl) T.z_range (pa_cons (pv 1) pa_nil)) (pg_name (i := 6) sc_Stage_step.nd rfl (Or.inl rfl)) (pss_cons (ps_set (i := 7) sc_Stage_step.nd rfl (Or.inl rfl) (pe_call (ok_next_tick T) (hr.mono (by decide)) rfl T.m_next_tick T.F_next_tick.kp (b_next_tick T) .nil pass0 (pa_cons (pe_fld (pv 0) rfl) (pa_cons (pv 2) pa_nil))))
      (pss_cons (ps_set (i := 2) sc_Stage_step.nd rfl (Or.inl rfl) (pe_fld (pv 7) rfl))
      (pss_cons (ps_set (i := 4) sc_Stage_step.nd rfl (Or.inl rfl) (pe_callTy call_tuple_of (by rfl) T.z_tuple (by decide +kernel) (pa_cons (pe_lc (own := [("times", 8), ("word", 9)]) (g := gTup K 2 (gCons (gName 8) (gCons (gName 9) gNil))) (tt := tYes) rfl sc_Stage_step.nd (pi_zipA (by rfl) T.z_zip (pa_cons (pv 4) (pa_cons (pe_fld (pv 7) rfl) pa_nil))) (blkOk_by (own := [("times", 8), ("word", 9)]) (N := ["self", "count", "state", "tick", "blocked", "found", "turn", "one", "times", "word"]) (sc := (defScope s_Stage_step)) (by decide +kernel)) (fun _ _ _ _ _ => (pg_tup (by rfl) (pgs_cons (pg_name (i := 8) sc_Stage_step.nd rfl (Or.inl rfl)) (pgs_cons (pg_name (i := 9) sc_Stage_step.nd rfl (Or.inl rfl)) pgs_nil)))) (fun _ _ _ _ _ => pts_nil) (fun _ _ _ _ _ => by exact (pe_op op_add (pv 8) (pe_callTy call_int1 (by rfl) T.z_int (by decide +kernel) (pa_cons (pe_cmpR op_eq (pv 9) (pe_glob (v := V.str (Str.ofString "blocked")) rfl T.c_BLOCKED ⟨_, rfl⟩) (nomark _)) pa_nil))))) pa_nil)))
      (pss_one (ps_expr (pe_bm PySem.F.plainAttrs_list PySem.F.slot_list_append PySem.F.type_list_append mt_append (pv 5) (pa_cons (pe_fld (pv 7) rfl) pa_nil))))))))
      (pss_cons (ps_expr (pe_meth (pv 0) T.cl_Stage T.M_Stage_record (ok_Stage_record T) (hr.mono (by decide)) (b_Stage_record T) .nil pass0 (pa_cons (pe_glob (v := V.str (Str.ofString "step")) rfl T.c_STEP ⟨_, rfl⟩) (pa_cons (pe_tup (pa_cons (pv 2) (pa_cons (pe_op op_add (pv 3) (pv 1)) (pa_cons (pv 4) pa_nil)))) pa_nil))))
      (pss_one (ps_ret (pv 5)))))))), ?_⟩
    obtain ⟨dy, pv, nv, vs, ws, h1, h2, h3, h4, h5, h6, h7⟩ := hS.ex
    refine ⟨_, rfl, ⟨⟨.int c, 0, 500, rfl, .inl ⟨_, rfl, ?_⟩⟩⟩⟩
    refine ⟨_, rfl, ite_f (by rw [decide_eq_true (by omega)]; rfl) ?_⟩
    obtain ⟨t0, b0, sv0, rfl, ht0, hsv0, hb0⟩ := id h5
    refine ⟨_, rfl, y, _, dy, _, .ref t0, rfl, h1, T.cl_Stage, T.n_Stage_now, (by kernel_rfl), t0, _, rfl, Same.seqT hGH ht0, rfl, _, _, rfl, _, _, rfl, _, _, rfl, rfl, ?_⟩
    refine ⟨Nat.zero_le _, fun f hf => ?_⟩
    dsimp only [gName]
    have fy := ne_of_none h1 hf
    have fp := ne_of_none h2 hf
    have fu := ne_of_none h3 hf
    have M0 : Mv [y, p] G H G _ := (Mv.start hGH).lay hf (.lst [])
    have S0 : StAt a K G (upd H f (.lst [])) y p u sd x n es us := hS.grow (M0.ext) fun b hb o e => by
      rw [upd_ne (ne_of_none e hf)]
      exact e
    refine ⟨_, rfl, c, rfl, by omega, by omega, for_range (lo := 0) (n := c) (fun j σ H' => ∃ (G' : Hp) (sv : V) (b : Addr) (fs : List V) (v6 v7 : Option V), σ = [some (.ref y), some (.int c), some sv, some (.int n.tick), some (.ref b), some (.ref f), v6, v7, none, none] ∧ Mv [y, p] G H G' H' ∧ StAt a K G' H' y p u sd x n es us ∧ StateAt a K G' sv (runP x n j).sit ∧ SqT K G' b [.int (runP x n j).b0, .int (runP x n j).b1] ∧ G' f = none ∧ H' f = some (.lst fs) ∧ fs.length = j ∧ DpAll K G' fs ((List.range j).map fun j => wordsD (tickP x (runP x n j).sit).1)) ?_ ?_ ?_⟩
    · exact ⟨G, sv0, b0, [], none, none, rfl, M0, S0, hsv0, hb0, Same.free hGH hf, upd_same, rfl, .nil⟩
    · rintro j σ H1 hj ⟨G1, sv, b, fs, v6, v7, rfl, M1, S1, hsv, hb, fG, hfs, hfl, hdp⟩
      have hok := runP_ok hx hS.ok j
      obtain ⟨dy1, pv1, nv1, vs1, ws1, k1, k2, k3, k4, k5, k6, k7⟩ := S1.ex
      refine ⟨_, rfl, y, _, dy1, _, pv1, rfl, k1, T.cl_Stage, T.n_Stage_parsed, (by kernel_rfl), _, rfl, ⟨⟨G1, pv1, sv, x, _, rfl, k4, hsv, hx, hok, M1.s, fun G2 H2 tv x2 s2 q2 => ?_⟩⟩⟩
      have M2 := M1.pure x2 s2
      obtain ⟨r, dx, tw, su, rfl, hr1, hw, hsu⟩ := q2
      refine ⟨_, rfl, r, _, dx, _, su, rfl, M2.s _ _ hr1, T.cl_Tick, T.n_Tick_state, (by kernel_rfl), ?_⟩
      have hb2 := Same.seqT x2.g hb
      refine ⟨_, rfl, _, rfl, r, _, dx, _, .ref tw, rfl, M2.s _ _ hr1, T.cl_Tick, T.n_Tick_words, (by kernel_rfl), b, tw, _, _, rfl, .inr ⟨Same.seqT M2.s hb2, Same.seqT M2.s hw, fun D hD => ?_⟩⟩
      obtain ⟨w1, w2⟩ := tick_w hx hok
      have yD := ne_of_none (s2 _ _ k1) hD
      have fD := ne_of_none (s2 _ _ hfs) hD
      have D0 : H D = none := M2.free hD
      have DG : G2 D = none := M2.freeG hD
      refine lc_zipT (K := K) (a := b) (b := tw) (xs := [.int (runP x n j).b0, .int (runP x n j).b1]) (ys := [.str (doS (tickP x (runP x n j).sit).1.1), .str (doS (tickP x (runP x n j).sit).1.2)]) rfl (fun m H' => Mv [y, p] G H G2 H' ∧ (∀ b o, b ≠ D → H2 b = some o → H' b = some o) ∧ H' D = some (.lst (([V.int (runP x n (j + 1)).b0, V.int (runP x n (j + 1)).b1]).take m))) ⟨M2.lay hD _, fun b o hb e => by rw [upd_ne hb]; exact e, upd_same⟩ (fun m H' _ ⟨h, _⟩ => ⟨Same.seqT h.s hb2, Same.seqT h.s hw⟩) ?_ ?_
      · rintro m z1 z2 t H' hz1 hz2 ⟨C, kp, hDl⟩ ht
        have tD := ne_of_none hDl ht
        have C1 := C.lay ht (.tup [z1, z2])
        have C2 := fun o => C1.put (.inr D0) DG (l := D) o
        have kp1 : ∀ o b o', b ≠ D → H2 b = some o' → (upd (upd H' t (.tup [z1, z2])) D o) b = some o' := fun o b o' hb e => by
          rw [upd_ne hb, upd_ne (ne_of_none (kp b o' hb e) ht)]
          exact kp b o' hb e
        have hDl1 : (upd H' t (.tup [z1, z2])) D = _ := (upd_ne tD).trans hDl
        match m, hz1, hz2 with
        | 0, hz1, hz2 =>
          cases hz1
          cases hz2
          refine ⟨t, _, rfl, SqT.of upd_same, rfl, _, _, rfl, _, _, rfl, rfl, rfl, _, rfl, _, rfl, rfl, .inr ⟨_, rfl, _, _, rfl, rfl, _, hDl1, smaller 2 (by simp) (by decide), C2 _, kp1 _, ?_⟩⟩
          rw [upd_same, blk_int w1]
          rfl
        | 1, hz1, hz2 =>
          cases hz1
          cases hz2
          refine ⟨t, _, rfl, SqT.of upd_same, rfl, _, _, rfl, _, _, rfl, rfl, rfl, _, rfl, _, rfl, rfl, .inr ⟨_, rfl, _, _, rfl, rfl, _, hDl1, smaller 2 (by simp) (by decide), C2 _, kp1 _, ?_⟩⟩
          rw [upd_same, blk_int w2]
          rfl
      rintro H3 ⟨C3, kp, hD3⟩
      have hD3 : H3 D = some (.lst [V.int (runP x n (j + 1)).b0, V.int (runP x n (j + 1)).b1]) := hD3
      refine ⟨D, _, rfl, .inl ⟨SqL.of hD3, fun tb htb => ?_⟩⟩
      have M4 := C3.new htb (.tup [V.int (runP x n (j + 1)).b0, V.int (runP x n (j + 1)).b1])
      have g4 := same_new (o := .tup [V.int (runP x n (j + 1)).b0, V.int (runP x n (j + 1)).b1]) (C3.freeG htb)
      have hb4 : (upd G2 tb (.tup [V.int (runP x n (j + 1)).b0, V.int (runP x n (j + 1)).b1])) tb = _ := upd_same
      have kp4 : ∀ b o, b ≠ D → H2 b = some o → (upd H3 tb (.tup [V.int (runP x n (j + 1)).b0, V.int (runP x n (j + 1)).b1])) b = some o := fun b o hb e => by
        rw [upd_ne (ne_of_none (kp b o hb e) htb)]
        exact kp b o hb e
      have fG4 : (upd G2 tb (.tup [V.int (runP x n (j + 1)).b0, V.int (runP x n (j + 1)).b1])) f = none := by rw [upd_ne (ne_of_none (kp f _ fD (s2 _ _ hfs)) htb)]; exact x2.out fG hfs
      revert M4 g4 hb4 kp4 fG4
      generalize upd G2 tb (.tup [V.int (runP x n (j + 1)).b0, V.int (runP x n (j + 1)).b1]) = G4
      generalize upd H3 tb (.tup [V.int (runP x n (j + 1)).b0, V.int (runP x n (j + 1)).b1]) = H4
      intro M4 g4 hb4 kp4 fG4
      have hf4 := kp4 _ _ fD (s2 _ _ hfs)
      dsimp only [gName]
      refine ⟨_, rfl, .inl ⟨rfl, _, SqL.of hf4⟩, _, rfl, r, _, dx, _, .ref tw, rfl, M4.s _ _ (g4 _ _ hr1), T.cl_Tick, T.n_Tick_words, (by kernel_rfl), f, _, _, rfl, rfl, hf4, smaller 500 (by omega) (by decide), ?_⟩
      have M5 := M4.put (.inr hf) fG4 (.lst (fs ++ [.ref tw]))
      have gy4 := M4.ext.out hS.gy h1
      have gp4 := M4.ext.out hS.gp h2
      have gu4 := M4.ext.out hS.gu h3
      have g14 := x2.g.trans g4
      have pD := ne_of_none (s2 _ _ k2) hD
      have uD := ne_of_none (s2 _ _ k3) hD
      refine ⟨G4, su, tb, _, _, _, rfl, M5, ?_, hsu.mono g4, SqT.of hb4, fG4, upd_same, by rw [List.length_append, hfl]; rfl, ?_⟩
      · refine S1.keep g14 gy4 gp4 gu4 fun b hb o e => ?_
        rcases hb with rfl | rfl | rfl
        · rw [upd_ne fy]; exact kp4 _ _ yD (s2 _ _ e)
        · rw [upd_ne fp]; exact kp4 _ _ pD (s2 _ _ e)
        · rw [upd_ne fu]; exact kp4 _ _ uD (s2 _ _ e)
      · rw [range_moreS]
        exact DpAll.snoc (Dp.monoAll g14 _ _ hdp) (.tup (Same.seqT g4 hw) (.cons (.str _) (.cons (.str _) .nil)))
    rintro σ H1 ⟨G1, sv, b, fs, v6, v7, rfl, M1, S1, hsv, hb, fG, hfs, hfl, hdp⟩
    obtain ⟨dy1, pv1, nv1, vs1, ws1, k1, k2, k3, k4, k5, k6, k7⟩ := S1.ex
    have et : (n.tick : Int) + (c : Int) = (((runP x n c).tick : Nat) : Int) := by rw [runP_tick]; omega
    refine ⟨_, rfl, y, dy1, _, rfl, k1, (by kernel_rfl), _, rfl, _, rfl, _, rfl, _, _, rfl, rfl, _, rfl, (by show 3 ≤ sizeLine; decide), fun t ht => ?_⟩
    dsimp only
    rw [et]
    have M3 := M1.new ht (.tup [sv, .int ((runP x n c).tick : Nat), .ref b])
    have g3 := same_new (o := .tup [sv, .int ((runP x n c).tick : Nat), .ref b]) (M1.freeG ht)
    have S3 := S1.keep (H' := upd H1 t (.tup [sv, .int ((runP x n c).tick : Nat), .ref b])) g3 (M3.ext.out hS.gy h1) (M3.ext.out hS.gp h2) (M3.ext.out hS.gu h3) fun b hb o e => by
      rw [upd_ne (ne_of_none e ht)]
      exact e
    have hnw : NwAt a K (upd G1 t (.tup [sv, .int ((runP x n c).tick : Nat), .ref b])) (.ref t) (runP x n c) := ⟨t, b, sv, rfl, SqT.of upd_same, hsv.mono g3, Same.seqT g3 hb⟩
    have ft := ne_of_none hfs ht
    have hf3 : (upd H1 t (.tup [sv, .int ((runP x n c).tick : Nat), .ref b])) f = some (.lst fs) := by rw [upd_ne ft]; exact hfs
    have fG3 : (upd G1 t (.tup [sv, .int ((runP x n c).tick : Nat), .ref b])) f = none := by rw [upd_ne ft]; exact fG
    exact ⟨⟨y, p, u, sd, _, _, _, x, n, runP x n c, es, us, rfl, S3, M3.s, hnw, runP_ok hx hS.ok c, hes, fun G4 H4 u' M4 hu' S4 => ⟨_, rfl, k G4 H4 u' f fs (M3.trans M4) (M3.free hu') S4 hf (ne_of_none hf3 hu') (M4.ext.out fG3 hf3) (M4.kept hf3 (by simp [fy.symm, fp.symm])) hfl (Dp.monoAll (g3.trans M4.g) _ _ hdp)⟩⟩⟩
theorem ok_Stage_step (T : Txt K mg a) : FnOk P w K mg base CX0 7 a.f_Stage_step a.d_Stage_step ["self", "count"] (spStep a K) :=
  (ok_Stage_stepR T).imp fun vs H Q E h => by
    obtain ⟨⟨y, p, u, sd, G, x, n, es, us, c, rfl, hS, hGH, hx, hc, hes, k⟩⟩ := h
    refine ⟨⟨y, p, u, sd, G, x, n, es, us, c, rfl, hS, hGH, hx, hc, hes, fun G' H' u' f fs M hu S hf fu fG hH hl dp => ?_⟩⟩
    obtain ⟨dy, pv, nv, vs, ws, h1, h2, h3, _⟩ := hS.ex
    refine k (upd G' f (.lst fs)) H' u' f (M.freeze hf hH) hu (S.keep (same_new fG) ?_ ?_ ?_ fun b _ o e => e) (.lst (SqL.of upd_same) (Dp.monoAll (same_new fG) _ _ dp))
    · rw [upd_ne (ne_of_none h1 hf)]; exact S.gy
    · rw [upd_ne (ne_of_none h2 hf)]; exact S.gp
    · rw [upd_ne fu.symm]; exact S.gu
end
end Sb

namespace Sb
open PySem PySem.Spec PyProof.Rows L2 TL
def setSh (n : Nw) (c b : Nat) : Nw := ⟨⟨n.sit.cs, n.sit.ns, n.sit.hs, n.sit.sh.set c b⟩, n.tick, n.b0, n.b1⟩
def setNs (n : Nw) (i s : Nat) : Nw := ⟨⟨n.sit.cs, n.sit.ns.set i s, n.sit.hs, n.sit.sh⟩, n.tick, n.b0, n.b1⟩
theorem setSh_ok {x : Pl} {n : Nw} {c b : Nat} (h : SitOk x n.sit) (hb : b ≤ 3) : SitOk x (setSh n c b).sit where
  c2 := h.c2
  n2 := h.n2
  h2 := h.h2
  len := by show (n.sit.sh.set c b).length = _; rw [List.length_set]; exact h.len
  b3 := fun m hm => by
    rcases List.mem_or_eq_of_mem_set hm with q | q
    · exact h.b3 m q
    · rw [q]; exact hb
  cl := fun i hi => by show n.sit.cs.getD i 0 < (n.sit.sh.set c b).length; rw [List.length_set]; exact h.cl i hi
  ne := h.ne
  nl := h.nl
theorem setNs_ok {x : Pl} {n : Nw} {i s : Nat} (h : SitOk x n.sit) (hs : s < (stepsOf x i).length) : SitOk x (setNs n i s).sit where
  c2 := h.c2
  n2 := by show (n.sit.ns.set i s).length = _; rw [List.length_set]; exact h.n2
  h2 := h.h2
  len := h.len
  b3 := h.b3
  cl := h.cl
  ne := h.ne
  nl := fun j hj => by
    show (n.sit.ns.set i s).getD j 0 < _
    have h2 := h.n2
    by_cases e : i = j
    · subst e
      rw [List.getD_eq_getElem?_getD, List.getElem?_set_self (by omega)]
      exact hs
    · rw [List.getD_eq_getElem?_getD, List.getElem?_set_ne e, ← List.getD_eq_getElem?_getD]
      exact h.nl j hj
structure spCheckCell (a : Ad) (K : PySem.W.Frag) (vs : List V) (H : Hp) (Q : VK) (E : XK) : Prop where
  ex : ∃ (y p u sd : Addr) (G : Hp) (x : Pl) (n : Nw) (es us : List Ent) (c : Nat), vs = [.ref y, .int c] ∧ StAt a K G H y p u sd x n es us ∧ Same G H ∧ c < x.shelf.length ∧ Q .non H
structure spPutBoxes (a : Ad) (K : PySem.W.Frag) (vs : List V) (H : Hp) (Q : VK) (E : XK) : Prop where
  ex : ∃ (y p u sd : Addr) (G : Hp) (x : Pl) (n : Nw) (es us : List Ent) (wd : Str) (c b : Nat), vs = [.ref y, .str wd, .int c, .int b] ∧ StAt a K G H y p u sd x n es us ∧ Same G H ∧ c < x.shelf.length ∧ x.shelf.length ≤ 12 ∧ b ≤ 3 ∧ es.length ≤ 100000 ∧
    ∀ (G' H' : Hp) (u' : Addr), Mv [y, p] G H G' H' → H u' = none → StAt a K G' H' y p u' sd x (setSh n c b) (es ++ [⟨wd, n, setSh n c b⟩]) [] → Q (.int b) H'
structure spAdd (a : Ad) (K : PySem.W.Frag) (d : Bool) (vs : List V) (H : Hp) (Q : VK) (E : XK) : Prop where
  ex : ∃ (y p u sd : Addr) (G : Hp) (x : Pl) (n : Nw) (es us : List Ent) (c b b' : Nat), vs = [.ref y, .int c] ∧ StAt a K G H y p u sd x n es us ∧ Same G H ∧ n.sit.sh[c]? = some b ∧ (if d = true then b' = b + 1 else b = b' + 1) ∧ b ≤ 3 ∧ b' ≤ 3 ∧ x.Ok ∧ es.length ≤ 100000 ∧
    ∀ (G' H' : Hp) (u' : Addr), Mv [y, p] G H G' H' → H u' = none → StAt a K G' H' y p u' sd x (setSh n c b') (es ++ [⟨(if d = true then Str.ofString "add" else Str.ofString "take"), n, setSh n c b'⟩]) [] → Q (.int b') H'
structure spJump (a : Ad) (K : PySem.W.Frag) (vs : List V) (H : Hp) (Q : VK) (E : XK) : Prop where
  ex : ∃ (y p u sd : Addr) (G : Hp) (x : Pl) (n : Nw) (es us : List Ent) (i s b : Nat), vs = [.ref y, .int i, .int s] ∧ StAt a K G H y p u sd x n es us ∧ Same G H ∧ i < 2 ∧ s < (stepsOf x i).length ∧ n.sit.ns[i]? = some b ∧ es.length ≤ 100000 ∧
    ∀ (G' H' : Hp) (u' : Addr), Mv [y, p] G H G' H' → H u' = none → StAt a K G' H' y p u' sd x (setNs n i s) (es ++ [⟨"jump", n, setNs n i s⟩]) [] → Q (.int b) H'
section
variable {P : Program} {w : World} {K : PySem.W.Frag} {mg : Str → Option Value} {base : Heap} {a : Ad}
theorem ok_Stage_check_cell (T : Txt K mg a) : FnOk P w K mg base CX0 3 a.f_Stage_check_cell a.d_Stage_check_cell ["self", "cell"] (spCheckCell a K) := by
  refine T.F_Stage_check_cell.ok sc_Stage_check_cell (fun vs H Q E h => ?_) (fun cdv A outer s0 H vs Q E hr h => ?_)
  · obtain ⟨⟨y, p, u, sd, G, x, n, es, us, c, rfl, _⟩⟩ := h
    rfl
  · obtain ⟨⟨y, p, u, sd, G, x, n, es, us, c, rfl, hS, hGH, hc, k⟩⟩ := h
    refine ⟨_, (pss_one (ps_if (pt_not (pt_val (pe_call (ok_is_int_in T) (hr.mono (by decide)) rfl T.m_is_int_in T.F_is_int_in.kp (b_is_int_in T) .nil pass0 (pa_cons (pv 1) (pa_cons pe_int (pa_cons (pe_op op_sub (pe_callB call_len_seq (by rfl) T.z_len (by decide +kernel) (pa_cons (pe_fld (pe_fld (pv 0) rfl) rfl) pa_nil)) pe_int) pa_nil)))))) pss_never pss_nil)), ?_⟩
    obtain ⟨dy, pv, nv, vs, ws, h1, h2, h3, h4, h5, h6, h7⟩ := hS.ex
    obtain ⟨r, dr, sh, rl, r1, r2, rfl, hr1, hsh, _⟩ := id h4
    refine ⟨_, rfl, _, rfl, y, _, dy, _, .ref r, rfl, h1, T.cl_Stage, T.n_Stage_parsed, (by kernel_rfl), r, _, dr, _, .ref sh, rfl, hGH _ _ hr1, T.cl_Plan, T.n_Plan_shelf, (by kernel_rfl), sh, _, rfl, .inr (Same.seqT hGH hsh), _, _, rfl, rfl, ⟨⟨.int c, 0, _, rfl, .inl ⟨_, rfl, ?_⟩⟩⟩⟩
    refine ⟨_, rfl, ite_f ?_ k⟩
    rw [List.length_map, decide_eq_true (by omega)]
    rfl
theorem ok_Stage_put_boxes (T : Txt K mg a) : FnOk P w K mg base CX0 3 a.f_Stage_put_boxes a.d_Stage_put_boxes ["self", "word", "cell", "boxes"] (spPutBoxes a K) := by
  refine T.F_Stage_put_boxes.ok sc_Stage_put_boxes (fun vs H Q E h => ?_) (fun cdv A outer s0 H vs Q E hr h => ?_)
  · obtain ⟨⟨y, p, u, sd, G, x, n, es, us, wd, c, b, rfl, _⟩⟩ := h
    rfl
  · obtain ⟨⟨y, p, u, sd, G, x, n, es, us, wd, c, b, rfl, hS, hGH, hc, hx12, hb3, hes, k⟩⟩ := h
    refine ⟨_, (pss_cons (ps_asg (pe_fld (pv 0) rfl) (pg_tup (by rfl) (pgs_cons (pg_name (i := 4) sc_Stage_put_boxes.nd rfl (Or.inl rfl)) (pgs_cons (pg_name (i := 5) sc_Stage_put_boxes.nd rfl (Or.inl rfl)) (pgs_cons (pg_name (i := 6) sc_Stage_put_boxes.nd rfl (Or.inl rfl)) pgs_nil)))))
      (pss_cons (ps_set (i := 7) sc_Stage_put_boxes.nd rfl (Or.inl rfl) (pe_make T.mk_State (ok_State_init T) (hr.mono (by decide)) (by rfl) T.m_State (b_State_init T) .nil pass0 (pa_cons (pe_fld (pv 4) rfl) (pa_cons (pe_fld (pv 4) rfl) (pa_cons (pe_fld (pv 4) rfl) (pa_cons (pe_call (ok_replaced T) (hr.mono (by decide)) rfl T.m_replaced T.F_replaced.kp (b_replaced T) .nil pass0 (pa_cons (pe_fld (pv 4) rfl) (pa_cons (pv 2) (pa_cons (pv 3) pa_nil)))) pa_nil))))))
      (pss_cons (ps_expr (pe_meth (pv 0) T.cl_Stage T.M_Stage_record (ok_Stage_record T) (hr.mono (by decide)) (b_Stage_record T) .nil pass0 (pa_cons (pv 1) (pa_cons (pe_tup (pa_cons (pv 7) (pa_cons (pv 5) (pa_cons (pv 6) pa_nil)))) pa_nil))))
      (pss_one (ps_ret (pv 3)))))), ?_⟩
    obtain ⟨dy, pv, nv, vs, ws, h1, h2, h3, h4, h5, h6, h7⟩ := hS.ex
    obtain ⟨t0, b0, sv, rfl, ht0, hsv, hb0⟩ := id h5
    obtain ⟨r, dx, tc, tn, tb, te, rfl, hr1, hc1, hn1, hb1, he1⟩ := id hsv
    refine ⟨_, rfl, y, _, dy, _, .ref t0, rfl, h1, T.cl_Stage, T.n_Stage_now, (by kernel_rfl), t0, _, rfl, Same.seqT hGH ht0, rfl, _, _, rfl, _, _, rfl, _, _, rfl, rfl, ?_⟩
    dsimp only [gName]
    refine ⟨_, rfl, r, _, dx, _, .ref tc, rfl, hGH _ _ hr1, T.cl_State, T.n_State_cells, (by kernel_rfl), _, rfl, r, _, dx, _, .ref tn, rfl, hGH _ _ hr1, T.cl_State, T.n_State_nexts, (by kernel_rfl), _, rfl, r, _, dx, _, .ref tb, rfl, hGH _ _ hr1, T.cl_State, T.n_State_holds, (by kernel_rfl), _, rfl, r, _, dx, _, .ref te, rfl, hGH _ _ hr1, T.cl_State, T.n_State_shelf, (by kernel_rfl), _, rfl, _, rfl, ?_⟩
    have hl := hS.ok.len
    refine replaced_go (Pt.start hGH) he1 (by rw [List.length_map]; omega) (by rw [List.length_map]; omega) fun e2 G2 H2 B2 S2 q2 => ?_
    have q2 : SqT K G2 e2 (nV (n.sit.sh.set c b)) := by rw [← nV_set]; exact q2
    have M2 : Mv [y, p] G H G2 H2 := (Mv.start hGH).pure B2.ext B2.sm
    intro yn dn ny nd ne
    refine init_go2 rfl ⟨rfl, ?_⟩
    have M3 := M2.make ny nd ne (.ins a.C_State dn (stF tc tn tb e2))
    have g3 := same_make (M2.freeG ny) (M2.freeG nd) ne (.ins a.C_State dn (stF tc tn tb e2))
    have sm3 := same_make ny nd ne (.ins a.C_State dn (stF tc tn tb e2))
    have hst : StateAt a K (upd (upd G2 dn (.own yn)) yn (.ins a.C_State dn (stF tc tn tb e2))) (.ref yn) (setSh n c b).sit := ⟨yn, dn, tc, tn, tb, e2, rfl, upd_same, Same.seqT (S2.trans g3) hc1, Same.seqT (S2.trans g3) hn1, Same.seqT (S2.trans g3) hb1, Same.seqT g3 q2⟩
    have h1a := sm3 _ _ (B2.sm _ _ h1)
    refine ⟨_, rfl, y, dy, _, rfl, h1a, (by kernel_rfl), _, rfl, _, rfl, _, rfl, _, rfl, (by show 3 ≤ sizeLine; decide), fun t ht => ?_⟩
    have kp : ∀ b o, H b = some o → (upd (upd (upd H2 dn (.own yn)) yn (.ins a.C_State dn (stF tc tn tb e2))) t (.tup [.ref yn, .int n.tick, .ref b0])) b = some o := fun b o e => by
      have q := sm3 _ _ (B2.sm _ _ e)
      exact (upd_ne (ne_of_none q ht)).trans q
    have M4 := M3.new ht (.tup [.ref yn, .int n.tick, .ref b0])
    have g4 := same_new (o := .tup [.ref yn, .int n.tick, .ref b0]) (M3.freeG ht)
    have S4 := hS.keep (M4.g) (M4.ext.out hS.gy h1) (M4.ext.out hS.gp h2) (M4.ext.out hS.gu h3) fun b _ o e => kp b o e
    have hnw : NwAt a K (upd (upd (upd G2 dn (.own yn)) yn (.ins a.C_State dn (stF tc tn tb e2))) t (.tup [.ref yn, .int n.tick, .ref b0])) (.ref t) (setSh n c b) := ⟨t, b0, .ref yn, rfl, SqT.of upd_same, hst.mono g4, Same.seqT ((S2.trans g3).trans g4) hb0⟩
    exact ⟨⟨y, p, u, sd, _, _, _, x, n, setSh n c b, es, us, rfl, S4, M4.s, hnw, setSh_ok hS.ok hb3, hes, fun G5 H5 u' M5 hu' S5 => ⟨_, rfl, k G5 H5 u' (M4.trans M5) (M4.free hu') S5⟩⟩⟩
theorem sh_lt {x : Pl} {n : Nw} {c b : Nat} (h : SitOk x n.sit) (e : n.sit.sh[c]? = some b) : c < x.shelf.length := by
  rw [← h.len]
  exact (List.getElem?_eq_some_iff.mp e).1
theorem ok_Stage_add (T : Txt K mg a) : FnOk P w K mg base CX0 4 a.f_Stage_add a.d_Stage_add ["self", "cell"] (spAdd a K true) := by
  refine T.F_Stage_add.ok sc_Stage_add (fun vs H Q E h => ?_) (fun cdv A outer s0 H vs Q E hr h => ?_)
  · obtain ⟨⟨y, p, u, sd, G, x, n, es, us, c, b, b', rfl, _⟩⟩ := h
    rfl
  · obtain ⟨⟨y, p, u, sd, G, x, n, es, us, c, b, b', rfl, hS, hGH, hcb, hbb, hb3, hb3', hx, hes, k⟩⟩ := h
    refine ⟨_, (pss_cons (ps_expr (pe_meth (pv 0) T.cl_Stage T.M_Stage_check_cell (ok_Stage_check_cell T) (hr.mono (by decide)) (b_Stage_check_cell T) .nil pass0 (pa_cons (pv 1) pa_nil)))
      (pss_cons (ps_set (i := 2) sc_Stage_add.nd rfl (Or.inl rfl) (pe_ix ix_tup (pe_fld (pe_ix ix_tup (pe_fld (pv 0) rfl) pe_int (fun _ _ => rfl)) rfl) (pv 1) (fun _ _ => rfl)))
      (pss_cons (ps_if (pt_cmpR op_eq (pv 2) (pe_glob (v := V.int 3) rfl T.c_MAX_BOXES ⟨_, rfl⟩) (nomark _)) pss_never pss_nil)
      (pss_one (ps_ret (pe_meth (pv 0) T.cl_Stage T.M_Stage_put_boxes (ok_Stage_put_boxes T) (hr.mono (by decide)) (b_Stage_put_boxes T) .nil pass0 (pa_cons (pe_glob (v := V.str (Str.ofString "add")) rfl T.c_ADD ⟨_, rfl⟩) (pa_cons (pv 1) (pa_cons (pe_op op_add (pv 2) pe_int) pa_nil))))))))), ?_⟩
    obtain ⟨dy, pv, nv, vs, ws, h1, h2, h3, h4, h5, h6, h7⟩ := hS.ex
    obtain ⟨t0, b0, sv, rfl, ht0, hsv, hb0⟩ := id h5
    obtain ⟨r, dx, tc, tn, tb, te, rfl, hr1, hc1, hn1, hb1, he1⟩ := id hsv
    have hlt := sh_lt hS.ok hcb
    rw [if_pos rfl] at hbb
    refine ⟨_, rfl, y, dy, _, rfl, h1, (by kernel_rfl), _, rfl, ⟨⟨y, p, u, sd, G, x, n, es, us, c, rfl, hS, hGH, hlt, ?_⟩⟩⟩
    refine ⟨_, rfl, y, _, dy, _, .ref t0, rfl, h1, T.cl_Stage, T.n_Stage_now, (by kernel_rfl), t0, _, _, .ref r, rfl, rfl, Same.seqT hGH ht0, at_of (j := 0) rfl rfl, r, _, dx, _, .ref te, rfl, hGH _ _ hr1, T.cl_State, T.n_State_shelf, (by kernel_rfl), _, rfl, te, _, _, .int b, rfl, rfl, Same.seqT hGH he1, at_of (j := c) rfl (by rw [nV, List.getElem?_map, hcb]; rfl), ?_⟩
    refine ⟨_, rfl, rfl, _, rfl, ite_f (decide_eq_false fun e => by injection e with e; omega) ?_⟩
    have e : (b : Int) + 1 = ((b' : Nat) : Int) := by omega
    refine ⟨_, rfl, y, dy, _, rfl, h1, (by kernel_rfl), _, rfl, _, rfl, _, _, rfl, rfl, ?_⟩
    dsimp only
    rw [e]
    exact ⟨⟨y, p, u, sd, G, x, n, es, us, Str.ofString "add", c, b', rfl, hS, hGH, hlt, hx.c12, hb3', hes, k⟩⟩
theorem ok_Stage_take (T : Txt K mg a) : FnOk P w K mg base CX0 4 a.f_Stage_take a.d_Stage_take ["self", "cell"] (spAdd a K false) := by
  refine T.F_Stage_take.ok sc_Stage_take (fun vs H Q E h => ?_) (fun cdv A outer s0 H vs Q E hr h => ?_)
  · obtain ⟨⟨y, p, u, sd, G, x, n, es, us, c, b, b', rfl, _⟩⟩ := h
    rfl
  · obtain ⟨⟨y, p, u, sd, G, x, n, es, us, c, b, b', rfl, hS, hGH, hcb, hbb, hb3, hb3', hx, hes, k⟩⟩ := h
    refine ⟨_, (pss_cons (ps_expr (pe_meth (pv 0) T.cl_Stage T.M_Stage_check_cell (ok_Stage_check_cell T) (hr.mono (by decide)) (b_Stage_check_cell T) .nil pass0 (pa_cons (pv 1) pa_nil)))
      (pss_cons (ps_set (i := 2) sc_Stage_take.nd rfl (Or.inl rfl) (pe_ix ix_tup (pe_fld (pe_ix ix_tup (pe_fld (pv 0) rfl) pe_int (fun _ _ => rfl)) rfl) (pv 1) (fun _ _ => rfl)))
      (pss_cons (ps_if (pt_cmpR op_eq (pv 2) pe_int (nomark _)) pss_never pss_nil)
      (pss_one (ps_ret (pe_meth (pv 0) T.cl_Stage T.M_Stage_put_boxes (ok_Stage_put_boxes T) (hr.mono (by decide)) (b_Stage_put_boxes T) .nil pass0 (pa_cons (pe_glob (v := V.str (Str.ofString "take")) rfl T.c_TAKE ⟨_, rfl⟩) (pa_cons (pv 1) (pa_cons (pe_op op_sub (pv 2) pe_int) pa_nil))))))))), ?_⟩
    obtain ⟨dy, pv, nv, vs, ws, h1, h2, h3, h4, h5, h6, h7⟩ := hS.ex
    obtain ⟨t0, b0, sv, rfl, ht0, hsv, hb0⟩ := id h5
    obtain ⟨r, dx, tc, tn, tb, te, rfl, hr1, hc1, hn1, hb1, he1⟩ := id hsv
    have hlt := sh_lt hS.ok hcb
    rw [if_neg (by decide)] at hbb
    refine ⟨_, rfl, y, dy, _, rfl, h1, (by kernel_rfl), _, rfl, ⟨⟨y, p, u, sd, G, x, n, es, us, c, rfl, hS, hGH, hlt, ?_⟩⟩⟩
    refine ⟨_, rfl, y, _, dy, _, .ref t0, rfl, h1, T.cl_Stage, T.n_Stage_now, (by kernel_rfl), t0, _, _, .ref r, rfl, rfl, Same.seqT hGH ht0, at_of (j := 0) rfl rfl, r, _, dx, _, .ref te, rfl, hGH _ _ hr1, T.cl_State, T.n_State_shelf, (by kernel_rfl), _, rfl, te, _, _, .int b, rfl, rfl, Same.seqT hGH he1, at_of (j := c) rfl (by rw [nV, List.getElem?_map, hcb]; rfl), ?_⟩
    refine ⟨_, rfl, rfl, _, rfl, ite_f (decide_eq_false fun e => by injection e with e; omega) ?_⟩
    have e : (b : Int) - 1 = ((b' : Nat) : Int) := by omega
    refine ⟨_, rfl, y, dy, _, rfl, h1, (by kernel_rfl), _, rfl, _, rfl, _, _, rfl, rfl, ?_⟩
    dsimp only
    rw [e]
    exact ⟨⟨y, p, u, sd, G, x, n, es, us, Str.ofString "take", c, b', rfl, hS, hGH, hlt, hx.c12, hb3', hes, k⟩⟩
theorem rob_i {a : Ad} {K : PySem.W.Frag} {G : Hp} {r1 r2 : V} {x : Pl} (h1 : RobAt a K G r1 x.a x.p) (h2 : RobAt a K G r2 x.b x.q) {i : Nat} (hi : i < 2) : ∃ (r dx sl nl : Addr) (m : Nat) (xs : List V), [r1, r2][i]? = some (.ref r) ∧ G r = some (.ins a.C_Robot dx (robF m sl nl)) ∧ SqL K G sl xs ∧ xs.length = (stepsOf x i).length := by
  match i, hi with
  | 0, _ =>
    obtain ⟨r, dx, sl, nl, rfl, h3, h4⟩ := h1
    obtain ⟨_, xs, e, h5, h6⟩ := Dp.lst_inv h4
    cases e
    exact ⟨r, dx, sl, nl, _, xs, rfl, h3, h5, by rw [DpAll.len h6, List.length_map]; rfl⟩
  | 1, _ =>
    obtain ⟨r, dx, sl, nl, rfl, h3, h4⟩ := h2
    obtain ⟨_, xs, e, h5, h6⟩ := Dp.lst_inv h4
    cases e
    exact ⟨r, dx, sl, nl, _, xs, rfl, h3, h5, by rw [DpAll.len h6, List.length_map]; rfl⟩
theorem ok_Stage_jump (T : Txt K mg a) : FnOk P w K mg base CX0 3 a.f_Stage_jump a.d_Stage_jump ["self", "number", "step"] (spJump a K) := by
  refine T.F_Stage_jump.ok sc_Stage_jump (fun vs H Q E h => ?_) (fun cdv A outer s0 H vs Q E hr h => ?_)
  · obtain ⟨⟨y, p, u, sd, G, x, n, es, us, i, st, b, rfl, _⟩⟩ := h
    rfl
  · obtain ⟨⟨y, p, u, sd, G, x, n, es, us, i, st, b, rfl, hS, hGH, hi, hst, hnb, hes, k⟩⟩ := h
    refine ⟨_, (pss_cons (ps_if (PW.pt (pw_or (pt_not (pt_val (pe_call (ok_is_int_in T) (hr.mono (by decide)) rfl T.m_is_int_in T.F_is_int_in.kp (b_is_int_in T) .nil pass0 (pa_cons (pv 1) (pa_cons pe_int (pa_cons pe_int pa_nil)))))) (pw_or1 (pt_not (pt_val (pe_call (ok_is_int_in T) (hr.mono (by decide)) rfl T.m_is_int_in T.F_is_int_in.kp (b_is_int_in T) .nil pass0 (pa_cons (pv 2) (pa_cons pe_int (pa_cons (pe_op op_sub (pe_callB call_len_seq (by rfl) T.z_len (by decide +kernel) (pa_cons (pe_fld (pe_ix ix_list (pe_fld (pe_fld (pv 0) rfl) rfl) (pv 1) (fun _ _ => rfl)) rfl) pa_nil)) pe_int) pa_nil))))))))) pss_never pss_nil)
      (pss_cons (ps_asg (pe_fld (pv 0) rfl) (pg_tup (by rfl) (pgs_cons (pg_name (i := 3) sc_Stage_jump.nd rfl (Or.inl rfl)) (pgs_cons (pg_name (i := 4) sc_Stage_jump.nd rfl (Or.inl rfl)) (pgs_cons (pg_name (i := 5) sc_Stage_jump.nd rfl (Or.inl rfl)) pgs_nil)))))
      (pss_cons (ps_set (i := 6) sc_Stage_jump.nd rfl (Or.inl rfl) (pe_make T.mk_State (ok_State_init T) (hr.mono (by decide)) (by rfl) T.m_State (b_State_init T) .nil pass0 (pa_cons (pe_fld (pv 3) rfl) (pa_cons (pe_call (ok_replaced T) (hr.mono (by decide)) rfl T.m_replaced T.F_replaced.kp (b_replaced T) .nil pass0 (pa_cons (pe_fld (pv 3) rfl) (pa_cons (pv 1) (pa_cons (pv 2) pa_nil)))) (pa_cons (pe_fld (pv 3) rfl) (pa_cons (pe_fld (pv 3) rfl) pa_nil))))))
      (pss_cons (ps_expr (pe_meth (pv 0) T.cl_Stage T.M_Stage_record (ok_Stage_record T) (hr.mono (by decide)) (b_Stage_record T) .nil pass0 (pa_cons (pe_glob (v := V.str (Str.ofString "jump")) rfl T.c_JUMP ⟨_, rfl⟩) (pa_cons (pe_tup (pa_cons (pv 6) (pa_cons (pv 4) (pa_cons (pv 5) pa_nil)))) pa_nil))))
      (pss_one (ps_ret (pe_ix ix_tup (pe_fld (pv 3) rfl) (pv 1) (fun _ _ => rfl)))))))), ?_⟩
    obtain ⟨dy, pv, nv, vs, ws, h1, h2, h3, h4, h5, h6, h7⟩ := hS.ex
    obtain ⟨t0, b0, sv, rfl, ht0, hsv, hb0⟩ := id h5
    obtain ⟨r, dx, tc, tn, tb, te, rfl, hr1, hc1, hn1, hb1, he1⟩ := id hsv
    obtain ⟨pr, dr, sh, rl, r1, r2, rfl, hpr, hsh, hrl, hr1', hr2'⟩ := id h4
    obtain ⟨rr, dr2, sl, nl, m, xs, hat, hrr, hsl, hxl⟩ := rob_i hr1' hr2' hi
    refine ⟨_, rfl, ⟨⟨.int i, 0, 1, rfl, .inl ⟨_, rfl, _, rfl, ite_f (by rw [decide_eq_true (by omega)]; rfl) ?_⟩⟩⟩⟩
    refine ⟨_, rfl, _, rfl, y, _, dy, _, .ref pr, rfl, h1, T.cl_Stage, T.n_Stage_parsed, (by kernel_rfl), pr, _, dr, _, .ref rl, rfl, hGH _ _ hpr, T.cl_Plan, T.n_Plan_robots, (by kernel_rfl), _, rfl, rl, _, _, .ref rr, rfl, rfl, hGH.seq hrl, at_of (j := i) rfl hat, rr, _, dr2, _, .ref sl, rfl, hGH _ _ hrr, T.cl_Robot, T.n_Robot_steps, (by kernel_rfl), sl, _, rfl, .inl (hGH.seq hsl), _, _, rfl, rfl, ⟨⟨.int st, 0, _, rfl, .inl ⟨_, rfl, _, rfl, ite_f ?_ ?_⟩⟩⟩⟩
    · rw [hxl, decide_eq_true (by omega)]
      rfl
    refine ⟨_, rfl, y, _, dy, _, .ref t0, rfl, h1, T.cl_Stage, T.n_Stage_now, (by kernel_rfl), t0, _, rfl, Same.seqT hGH ht0, rfl, _, _, rfl, _, _, rfl, _, _, rfl, rfl, ?_⟩
    dsimp only [gName]
    have hn2 := hS.ok.n2
    refine ⟨_, rfl, r, _, dx, _, .ref tc, rfl, hGH _ _ hr1, T.cl_State, T.n_State_cells, (by kernel_rfl), _, rfl, r, _, dx, _, .ref tn, rfl, hGH _ _ hr1, T.cl_State, T.n_State_nexts, (by kernel_rfl), _, rfl, _, rfl, ?_⟩
    refine replaced_go (Pt.start hGH) hn1 (by rw [List.length_map]; omega) (by rw [List.length_map]; omega) fun e2 G2 H2 B2 S2 q2 => ?_
    have q2 : SqT K G2 e2 (nV (n.sit.ns.set i st)) := by rw [← nV_set]; exact q2
    have M2 : Mv [y, p] G H G2 H2 := (Mv.start hGH).pure B2.ext B2.sm
    have s2 : Same G H2 := S2.trans M2.s
    refine ⟨_, rfl, r, _, dx, _, .ref tb, rfl, s2 _ _ hr1, T.cl_State, T.n_State_holds, (by kernel_rfl), _, rfl, r, _, dx, _, .ref te, rfl, s2 _ _ hr1, T.cl_State, T.n_State_shelf, (by kernel_rfl), ?_⟩
    intro yn dn ny nd ne
    refine init_go2 rfl ⟨rfl, ?_⟩
    have M3 := M2.make ny nd ne (.ins a.C_State dn (stF tc e2 tb te))
    have g3 := same_make (M2.freeG ny) (M2.freeG nd) ne (.ins a.C_State dn (stF tc e2 tb te))
    have sm3 := same_make ny nd ne (.ins a.C_State dn (stF tc e2 tb te))
    have hst' : StateAt a K (upd (upd G2 dn (.own yn)) yn (.ins a.C_State dn (stF tc e2 tb te))) (.ref yn) (setNs n i st).sit := ⟨yn, dn, tc, e2, tb, te, rfl, upd_same, Same.seqT (S2.trans g3) hc1, Same.seqT g3 q2, Same.seqT (S2.trans g3) hb1, Same.seqT (S2.trans g3) he1⟩
    have h1a := sm3 _ _ (B2.sm _ _ h1)
    refine ⟨_, rfl, y, dy, _, rfl, h1a, (by kernel_rfl), _, rfl, _, rfl, _, rfl, (by show 3 ≤ sizeLine; decide), fun t ht => ?_⟩
    have kp : ∀ b o, H b = some o → (upd (upd (upd H2 dn (.own yn)) yn (.ins a.C_State dn (stF tc e2 tb te))) t (.tup [.ref yn, .int n.tick, .ref b0])) b = some o := fun b o e => by
      have q := sm3 _ _ (B2.sm _ _ e)
      exact (upd_ne (ne_of_none q ht)).trans q
    have M4 := M3.new ht (.tup [.ref yn, .int n.tick, .ref b0])
    have g4 := same_new (o := .tup [.ref yn, .int n.tick, .ref b0]) (M3.freeG ht)
    have S4 := hS.keep (M4.g) (M4.ext.out hS.gy h1) (M4.ext.out hS.gp h2) (M4.ext.out hS.gu h3) fun b _ o e => kp b o e
    have hnw : NwAt a K (upd (upd (upd G2 dn (.own yn)) yn (.ins a.C_State dn (stF tc e2 tb te))) t (.tup [.ref yn, .int n.tick, .ref b0])) (.ref t) (setNs n i st) := ⟨t, b0, .ref yn, rfl, SqT.of upd_same, hst'.mono g4, Same.seqT ((S2.trans g3).trans g4) hb0⟩
    refine ⟨⟨y, p, u, sd, _, _, _, x, n, setNs n i st, es, us, rfl, S4, M4.s, hnw, setNs_ok hS.ok hst, hes, fun G5 H5 u' M5 hu' S5 => ?_⟩⟩
    have g5 := M4.g.trans M5.g
    exact ⟨_, rfl, r, _, dx, _, .ref tn, rfl, M5.s _ _ (g5 _ _ hr1), T.cl_State, T.n_State_nexts, (by kernel_rfl), _, rfl, tn, _, _, .int b, rfl, rfl, Same.seqT (g5.trans M5.s) hn1, at_of (j := i) rfl (by rw [nV, List.getElem?_map, hnb]; rfl), k G5 H5 u' (M4.trans M5) (M4.free hu') S5⟩
end
end Sb

namespace Sb
open PySem PySem.Spec PyProof.Rows L2 TL
theorem take_one' {α : Type} : ∀ {l : List α} {i : Nat} {x : α}, l[i]? = some x → l.take (i + 1) = l.take i ++ [x]
  | y :: l, 0, x, h => by cases h; rfl
  | y :: l, i + 1, x, h => by rw [List.take_succ_cons, List.take_succ_cons, take_one' (l := l) h]; rfl
structure spUndo (a : Ad) (K : PySem.W.Frag) (vs : List V) (H : Hp) (Q : VK) (E : XK) : Prop where
  ex : ∃ (y p u sd : Addr) (G : Hp) (x : Pl) (n : Nw) (es us : List Ent), vs = [.ref y] ∧ StAt a K G H y p u sd x n es us ∧ Same G H ∧ us.length ≤ 100000 ∧
    ((es = [] ∧ ∀ (G' H' : Hp), Mv [y, p, u] G H G' H' → StAt a K G' H' y p u sd x n es us → Q (.bl false) H') ∨
     ∃ es0 e, es = es0 ++ [e] ∧ SitOk x e.bef.sit ∧ ∀ (G' H' : Hp), Mv [y, p, u] G H G' H' → StAt a K G' H' y p u sd x e.bef es0 (us ++ [e]) → Q (.bl true) H')
structure spRedo (a : Ad) (K : PySem.W.Frag) (vs : List V) (H : Hp) (Q : VK) (E : XK) : Prop where
  ex : ∃ (y p u sd : Addr) (G : Hp) (x : Pl) (n : Nw) (es us : List Ent), vs = [.ref y] ∧ StAt a K G H y p u sd x n es us ∧ Same G H ∧ es.length ≤ 100000 ∧
    ((us = [] ∧ ∀ (G' H' : Hp), Mv [y, p, u] G H G' H' → StAt a K G' H' y p u sd x n es us → Q (.bl false) H') ∨
     ∃ us0 e, us = us0 ++ [e] ∧ SitOk x e.aft.sit ∧ ∀ (G' H' : Hp), Mv [y, p, u] G H G' H' → StAt a K G' H' y p u sd x e.aft (es ++ [e]) us0 → Q (.bl true) H')
structure spOf (a : Ad) (K : PySem.W.Frag) (R : Hp → Nw → List Ent → Hp → VK → Prop) (vs : List V) (H : Hp) (Q : VK) (E : XK) : Prop where
  ex : ∃ (y p u sd : Addr) (G : Hp) (x : Pl) (n : Nw) (es us : List Ent), vs = [.ref y] ∧ StAt a K G H y p u sd x n es us ∧ Same G H ∧ es.length ≤ 1000000 ∧ R G n es H Q
def rPassed : Hp → Nw → List Ent → Hp → VK → Prop := fun _ n _ H Q => Q (.int n.tick) H
def rPlaces (K : PySem.W.Frag) : Hp → Nw → List Ent → Hp → VK → Prop := fun G n _ H Q => ∀ t, SqT K G t (nV n.sit.cs) → Q (.ref t) H
def rHeld (K : PySem.W.Frag) : Hp → Nw → List Ent → Hp → VK → Prop := fun G n _ H Q => ∀ t, SqT K G t (bV n.sit.hs) → Q (.ref t) H
def rBlocked (K : PySem.W.Frag) : Hp → Nw → List Ent → Hp → VK → Prop := fun G n _ H Q => ∀ t, SqT K G t [.int n.b0, .int n.b1] → Q (.ref t) H
def rBoxes : Hp → Nw → List Ent → Hp → VK → Prop := fun _ n _ H Q => ∀ l, H l = none → Q (.ref l) (upd H l (.lst (nV n.sit.sh)))
def rOps : Hp → Nw → List Ent → Hp → VK → Prop := fun _ _ es H Q => ∀ l, H l = none → Q (.ref l) (upd H l (.lst (es.map fun e => V.str e.word)))
section
variable {P : Program} {w : World} {K : PySem.W.Frag} {mg : Str → Option Value} {base : Heap} {a : Ad}
theorem ok_Stage_undo (T : Txt K mg a) : FnOk P w K mg base CX0 1 a.f_Stage_undo a.d_Stage_undo ["self"] (spUndo a K) := by
  refine T.F_Stage_undo.ok sc_Stage_undo (fun vs H Q E h => ?_) (fun cdv A outer s0 H vs Q E hr h => ?_)
  · obtain ⟨⟨y, p, u, sd, G, x, n, es, us, rfl, _⟩⟩ := h
    rfl
  · obtain ⟨⟨y, p, u, sd, G, x, n, es, us, rfl, hS, hGH, hus, hk⟩⟩ := h
    refine ⟨_, (pss_cons (ps_if (pt_cmpR (op_eqNil hr.units) (pe_fld (pv 0) rfl) (pe_lst pa_nil) (nomark _)) (pss_one (ps_ret pe_bl)) pss_nil)
      (pss_cons (ps_set (i := 1) sc_Stage_undo.nd rfl (Or.inl rfl) (pe_bm0 PySem.F.plainAttrs_list PySem.F.slot_list_pop PySem.F.type_list_pop mt_pop (pe_fld (pv 0) rfl)))
      (pss_cons (ps_expr (pe_bm PySem.F.plainAttrs_list PySem.F.slot_list_append PySem.F.type_list_append mt_append (pe_fld (pv 0) rfl) (pa_cons (pv 1) pa_nil)))
      (pss_cons (ps_fld (pv 0) (pe_ix ix_tup (pv 1) pe_int (fun _ _ => rfl)) rfl)
      (pss_one (ps_ret pe_bl)))))), ?_⟩
    obtain ⟨dy, pv, nv, vs, ws, h1, h2, h3, h4, h5, h6, h7⟩ := hS.ex
    have yp := ins_lst h1 h2
    have yu := ins_lst h1 h3
    have pu := hS.pu
    refine ⟨_, rfl, y, _, dy, _, .ref p, rfl, h1, T.cl_Stage, T.n_Stage_past, (by kernel_rfl), Nat.zero_le _, fun t ht => ?_⟩
    have ty := ne_of_none h1 ht
    have tp := ne_of_none h2 ht
    have tu := ne_of_none h3 ht
    have M1 : Mv [y, p, u] G H G _ := (Mv.start hGH).lay ht (.lst [])
    have h1a : (upd H t (.lst [])) y = _ := (upd_ne ty).trans h1
    have h2a : (upd H t (.lst [])) p = _ := (upd_ne tp).trans h2
    have h3a : (upd H t (.lst [])) u = _ := (upd_ne tu).trans h3
    refine ⟨p, vs, t, rfl, rfl, SqL.of h2a, SqL.of upd_same, _, rfl, ?_⟩
    rcases hk with ⟨rfl, k⟩ | ⟨es0, e, rfl, hok, k⟩
    · have e0 : vs = [] := List.length_eq_zero_iff.mp h6.len
      subst e0
      exact ite_t rfl (k _ _ M1 (hS.keep (Same.refl _) hS.gy hS.gp hS.gu fun b _ o e => by rw [upd_ne (ne_of_none e ht)]; exact e))
    · obtain ⟨ys, v, rfl, h8, h9⟩ := h6.pop
      obtain ⟨te, v1, v2, rfl, hte, hv1, hv2⟩ := id h9
      refine ite_f (by cases ys <;> rfl) ?_
      refine ⟨_, rfl, y, _, dy, _, .ref p, rfl, h1a, T.cl_Stage, T.n_Stage_past, (by kernel_rfl), .inl ⟨rfl, _, SqL.of h2a⟩, p, _, .ref te, rfl, rfl, h2a, by simp, ?_⟩
      rw [List.dropLast_concat]
      have M2 := M1.put (.inl (by simp)) hS.gp (.lst ys)
      have h1b : (upd (upd H t (.lst [])) p (.lst ys)) y = _ := (upd_ne yp).trans h1a
      have h3b : (upd (upd H t (.lst [])) p (.lst ys)) u = _ := (upd_ne pu.symm).trans h3a
      have hwl := h7.len
      refine ⟨_, rfl, y, _, dy, _, .ref u, rfl, h1b, T.cl_Stage, T.n_Stage_undone, (by kernel_rfl), .inl ⟨rfl, _, SqL.of h3b⟩, _, rfl, u, _, _, rfl, rfl, h3b, smaller 100000 (by omega) (by decide), ?_⟩
      have M3 := M2.put (.inl (by simp)) hS.gu (.lst (ws ++ [.ref te]))
      have h1c : (upd (upd (upd H t (.lst [])) p (.lst ys)) u (.lst (ws ++ [.ref te]))) y = _ := (upd_ne yu).trans h1b
      refine ⟨_, rfl, te, _, _, v1, rfl, rfl, Same.seqT M3.s hte, at_of (j := 1) rfl rfl, _, rfl, y, _, dy, _, rfl, h1c, T.cl_Stage, T.n_Stage_now, stgF_len, ?_⟩
      rw [stgF_now]
      have M4 := M3.put (.inl (by simp)) hS.gy (.ins a.C_Stage dy (stgF pv v1 p u sd))
      refine k _ _ M4 ⟨⟨dy, pv, v1, ys, ws ++ [.ref te], upd_same, ?_, ?_, h4, hv1, h8, h7.snoc h9⟩, hS.gy, hS.gp, hS.gu, pu, hok⟩
      · rw [upd_ne yp.symm, upd_ne pu, upd_same]
      · rw [upd_ne yu.symm, upd_same]
theorem ok_Stage_redo (T : Txt K mg a) : FnOk P w K mg base CX0 1 a.f_Stage_redo a.d_Stage_redo ["self"] (spRedo a K) := by
  refine T.F_Stage_redo.ok sc_Stage_redo (fun vs H Q E h => ?_) (fun cdv A outer s0 H vs Q E hr h => ?_)
  · obtain ⟨⟨y, p, u, sd, G, x, n, es, us, rfl, _⟩⟩ := h
    rfl
  · obtain ⟨⟨y, p, u, sd, G, x, n, es, us, rfl, hS, hGH, hes, hk⟩⟩ := h
    refine ⟨_, (pss_cons (ps_if (pt_cmpR (op_eqNil hr.units) (pe_fld (pv 0) rfl) (pe_lst pa_nil) (nomark _)) (pss_one (ps_ret pe_bl)) pss_nil)
      (pss_cons (ps_set (i := 1) sc_Stage_redo.nd rfl (Or.inl rfl) (pe_bm0 PySem.F.plainAttrs_list PySem.F.slot_list_pop PySem.F.type_list_pop mt_pop (pe_fld (pv 0) rfl)))
      (pss_cons (ps_expr (pe_bm PySem.F.plainAttrs_list PySem.F.slot_list_append PySem.F.type_list_append mt_append (pe_fld (pv 0) rfl) (pa_cons (pv 1) pa_nil)))
      (pss_cons (ps_fld (pv 0) (pe_ix ix_tup (pv 1) pe_int (fun _ _ => rfl)) rfl)
      (pss_one (ps_ret pe_bl)))))), ?_⟩
    obtain ⟨dy, pv, nv, vs, ws, h1, h2, h3, h4, h5, h6, h7⟩ := hS.ex
    have yp := ins_lst h1 h2
    have yu := ins_lst h1 h3
    have pu := hS.pu
    refine ⟨_, rfl, y, _, dy, _, .ref u, rfl, h1, T.cl_Stage, T.n_Stage_undone, (by kernel_rfl), Nat.zero_le _, fun t ht => ?_⟩
    have ty := ne_of_none h1 ht
    have tp := ne_of_none h2 ht
    have tu := ne_of_none h3 ht
    have M1 : Mv [y, p, u] G H G _ := (Mv.start hGH).lay ht (.lst [])
    have h1a : (upd H t (.lst [])) y = _ := (upd_ne ty).trans h1
    have h2a : (upd H t (.lst [])) p = _ := (upd_ne tp).trans h2
    have h3a : (upd H t (.lst [])) u = _ := (upd_ne tu).trans h3
    refine ⟨u, ws, t, rfl, rfl, SqL.of h3a, SqL.of upd_same, _, rfl, ?_⟩
    rcases hk with ⟨rfl, k⟩ | ⟨us0, e, rfl, hok, k⟩
    · have e0 : ws = [] := List.length_eq_zero_iff.mp h7.len
      subst e0
      exact ite_t rfl (k _ _ M1 (hS.keep (Same.refl _) hS.gy hS.gp hS.gu fun b _ o e => by rw [upd_ne (ne_of_none e ht)]; exact e))
    · obtain ⟨ys, v, rfl, h8, h9⟩ := h7.pop
      obtain ⟨te, v1, v2, rfl, hte, hv1, hv2⟩ := id h9
      refine ite_f (by cases ys <;> rfl) ?_
      refine ⟨_, rfl, y, _, dy, _, .ref u, rfl, h1a, T.cl_Stage, T.n_Stage_undone, (by kernel_rfl), .inl ⟨rfl, _, SqL.of h3a⟩, u, _, .ref te, rfl, rfl, h3a, by simp, ?_⟩
      rw [List.dropLast_concat]
      have M2 := M1.put (.inl (by simp)) hS.gu (.lst ys)
      have h1b : (upd (upd H t (.lst [])) u (.lst ys)) y = _ := (upd_ne yu).trans h1a
      have h2b : (upd (upd H t (.lst [])) u (.lst ys)) p = _ := (upd_ne pu).trans h2a
      have hwl := h6.len
      refine ⟨_, rfl, y, _, dy, _, .ref p, rfl, h1b, T.cl_Stage, T.n_Stage_past, (by kernel_rfl), .inl ⟨rfl, _, SqL.of h2b⟩, _, rfl, p, _, _, rfl, rfl, h2b, smaller 100000 (by omega) (by decide), ?_⟩
      have M3 := M2.put (.inl (by simp)) hS.gp (.lst (vs ++ [.ref te]))
      have h1c : (upd (upd (upd H t (.lst [])) u (.lst ys)) p (.lst (vs ++ [.ref te]))) y = _ := (upd_ne yp).trans h1b
      refine ⟨_, rfl, te, _, _, v2, rfl, rfl, Same.seqT M3.s hte, at_of (j := 2) rfl rfl, _, rfl, y, _, dy, _, rfl, h1c, T.cl_Stage, T.n_Stage_now, stgF_len, ?_⟩
      rw [stgF_now]
      have M4 := M3.put (.inl (by simp)) hS.gy (.ins a.C_Stage dy (stgF pv v2 p u sd))
      refine k _ _ M4 ⟨⟨dy, pv, v2, vs ++ [.ref te], ys, upd_same, ?_, ?_, h4, hv2, h6.snoc h9, h8⟩, hS.gy, hS.gp, hS.gu, pu, hok⟩
      · rw [upd_ne yp.symm, upd_same]
      · rw [upd_ne yu.symm, upd_ne pu.symm, upd_same]
theorem ok_Stage_operations (T : Txt K mg a) : FnOk P w K mg base CX0 1 a.f_Stage_operations a.d_Stage_operations ["self"] (spOf a K rOps) := by
  refine T.F_Stage_operations.ok sc_Stage_operations (fun vs H Q E h => ?_) (fun cdv A outer s0 H vs Q E hr h => ?_)
  · obtain ⟨⟨y, p, u, sd, G, x, n, es, us, rfl, _⟩⟩ := h
    rfl
  · obtain ⟨⟨y, p, u, sd, G, x, n, es, us, rfl, hS, hGH, hes, k⟩⟩ := h
    refine ⟨_, (pss_one (ps_ret (pe_lc (own := [("entry", 1)]) (g := gName 1) (te := (tOp (rIxT K) (tVar 1) (tC _))) (tt := tYes) rfl sc_Stage_operations.nd (pi_list (pe_fld (pv 0) rfl)) (blkOk_by (own := [("entry", 1)]) (N := ["self", "entry"]) (sc := (defScope s_Stage_operations)) (by decide +kernel)) (fun _ _ _ _ _ => (pg_name (i := 1) sc_Stage_operations.nd rfl (Or.inl rfl))) (fun _ _ _ _ _ => pts_nil) (fun _ _ _ _ _ => by exact (pe_ix ix_tup (pv 1) pe_int (fun _ _ => rfl)))))), ?_⟩
    obtain ⟨dy, pv, nv, vs, ws, h1, h2, h3, h4, h5, h6, h7⟩ := hS.ex
    have hl := h6.len
    refine ⟨_, rfl, y, _, dy, _, .ref p, rfl, h1, T.cl_Stage, T.n_Stage_past, (by kernel_rfl), p, rfl, ⟨_, SqL.of h2⟩, fun D hD => ?_⟩
    have pD := ne_of_none h2 hD
    refine lc_list (K := K) (a := p) (xs := vs) (fun m H' => H' = upd H D (.lst ((es.take m).map fun e => V.str e.word))) rfl (fun m H' _ e => by rw [e]; exact SqL.of (by rw [upd_ne pD]; exact h2)) ?_ ?_
    · rintro m z H' hz rfl
      obtain ⟨e, he, ha⟩ := h6.get hz
      obtain ⟨te, v1, v2, rfl, hte, hv1, hv2⟩ := id ha
      have hm : m < es.length := (List.getElem?_eq_some_iff.mp he).1
      refine ⟨rfl, _, rfl, te, _, _, .str e.word, rfl, rfl, Same.seqT (hGH.trans (same_new hD)) hte, at_of (j := 0) rfl rfl, _, upd_same, smaller 1000000 (by rw [List.length_map, List.length_take]; omega) (by decide), ?_⟩
      rw [upd_upd, take_one' he, List.map_append]
      rfl
    · rintro H' rfl
      rw [hl, List.take_length]
      exact k D hD
end
end Sb

namespace Sb
open PySem PySem.Spec PyProof.Rows L2 TL
def opLen (z : Str) (n : Nat) : Prop := (z = Str.ofString "step" ∧ n = 2) ∨ (z = Str.ofString "add" ∧ n = 2) ∨ (z = Str.ofString "take" ∧ n = 2) ∨ (z = Str.ofString "jump" ∧ n = 3) ∨ (z = Str.ofString "undo" ∧ n = 1) ∨ (z = Str.ofString "redo" ∧ n = 1)
theorem TDic.get {w : World} {K : PySem.W.Frag} {a : Ad} (D : TDic w K a) {z : Str} {n : Nat} (h : opLen z n) : KDct K w a.A_LENGTHS z (.int n) := by
  rcases h with ⟨rfl, rfl⟩ | ⟨rfl, rfl⟩ | ⟨rfl, rfl⟩ | ⟨rfl, rfl⟩ | ⟨rfl, rfl⟩ | ⟨rfl, rfl⟩
  · exact D.dk_LENGTHS_step
  · exact D.dk_LENGTHS_add
  · exact D.dk_LENGTHS_take
  · exact D.dk_LENGTHS_jump
  · exact D.dk_LENGTHS_undo
  · exact D.dk_LENGTHS_redo
structure spIsOp (K : PySem.W.Frag) (vs : List V) (H : Hp) (Q : VK) (E : XK) : Prop where
  ex : ∃ (r : Addr) (z : Str) (ds : List PyData), vs = [.ref r] ∧ Dp K H (.ref r) (.tuple (.str z :: ds)) ∧ SeqAt.shaped (.tuple (.str z :: ds)) = true ∧ opLen z (ds.length + 1) ∧ ∀ H', Same H H' → Q (.bl true) H'
structure spExec (a : Ad) (K : PySem.W.Frag) (vs : List V) (H : Hp) (Q : VK) (E : XK) : Prop where
  ex : ∃ (y r dy : Addr) (fs : List (Str × V)) (z : Str) (zs : List V), vs = [.ref y, .ref r] ∧ H y = some (.ins a.C_Stage dy fs) ∧ (∀ m ∈ [Str.ofString "step", Str.ofString "add", Str.ofString "take", Str.ofString "jump", Str.ofString "undo", Str.ofString "redo"], fs.lookup m = none) ∧ SqT K H r (.str z :: zs) ∧
    ((∃ v, z = Str.ofString "step" ∧ zs = [v] ∧ ∀ E', spStep a K [.ref y, v] H Q E') ∨ (∃ v, z = Str.ofString "add" ∧ zs = [v] ∧ ∀ E', spAdd a K true [.ref y, v] H Q E') ∨ (∃ v, z = Str.ofString "take" ∧ zs = [v] ∧ ∀ E', spAdd a K false [.ref y, v] H Q E') ∨
     (∃ v v', z = Str.ofString "jump" ∧ zs = [v, v'] ∧ ∀ E', spJump a K [.ref y, v, v'] H Q E') ∨ (z = Str.ofString "undo" ∧ zs = [] ∧ ∀ E', spUndo a K [.ref y] H Q E') ∨ (z = Str.ofString "redo" ∧ zs = [] ∧ ∀ E', spRedo a K [.ref y] H Q E'))
section
variable {P : Program} {w : World} {K : PySem.W.Frag} {mg : Str → Option Value} {base : Heap} {a : Ad}
theorem ok_is_operation (T : Txt K mg a) (TD : TDic w K a) : FnOk P w K mg base CX0 1 a.f_is_operation a.d_is_operation ["value"] (spIsOp K) := by
  refine T.F_is_operation.ok sc_is_operation (fun vs H Q E h => ?_) (fun cdv A outer s0 H vs Q E hr h => ?_)
  · obtain ⟨⟨r, z, ds, rfl, _⟩⟩ := h
    rfl
  · obtain ⟨⟨r, z, ds, rfl, hD, hsh, hlen, k⟩⟩ := h
    refine ⟨_, (pss_cons (ps_if (PW.pt (pw_or (pt_not (pt_val (pe_callB call_isi (by rfl) T.z_isinstance (by decide +kernel) (pa_cons (pv 0) (pa_cons (pe_bltn (v := .ty "tuple") (by rfl) T.z_tuple (by decide +kernel) rfl) pa_nil))))) (pw_or (pt_cmpR (op_eqD hr.units) (pv 0) (pe_tup pa_nil) (nomark _)) (pw_or1 (pt_not (pt_val (pe_callB call_isi (by rfl) T.z_isinstance (by decide +kernel) (pa_cons (pe_ix ix_tup (pv 0) pe_int (fun _ _ => rfl)) (pa_cons (pe_bltn (v := .ty "str") (by rfl) T.z_str (by decide +kernel) rfl) pa_nil))))))))) (pss_one (ps_ret pe_bl)) pss_nil)
      (pss_one (ps_ret (pe_cmpR op_eq (pe_kget2 (pe_glob (v := V.ref a.A_LENGTHS) rfl T.c_LENGTHS rfl) (pe_ix ix_tup (pv 0) pe_int (fun _ _ => rfl)) pe_int ⟨rfl, rfl, rfl, rfl⟩) (pe_callB call_len_seq (by rfl) T.z_len (by decide +kernel) (pa_cons (pv 0) pa_nil)) (nomark _))))), ?_⟩
    obtain ⟨_, xs, e, hr1, hxs⟩ := Dp.tup_inv hD
    cases e
    obtain ⟨v0, r1, rfl, h0, hxs'⟩ := DpAll.cons_inv hxs
    cases Dp.str_inv h0
    have hl := DpAll.len hxs'
    refine ⟨_, rfl, _, _, _, _, true, rfl, .ty _, SqT.ty hr1, kf (by decide +kernel), _, rfl, ite_f rfl ?_⟩
    refine ⟨_, rfl, Nat.zero_le _, fun t ht => ?_⟩
    have s1 : Same H (upd H t (.tup [])) := same_new ht
    refine ⟨.tuple (.str z :: ds), .tuple [], Dp.mono s1 _ _ hD, .tup (SqT.of upd_same) .nil, hsh, rfl, _, rfl, ite_f rfl ?_⟩
    refine ⟨_, rfl, r, _, _, .str z, rfl, rfl, Same.seqT s1 hr1, at_of (j := 0) rfl rfl, _, _, _, _, true, rfl, .ty _, .base (.str _), kf (by decide +kernel), _, rfl, ite_f rfl ?_⟩
    refine ⟨a.A_LENGTHS, rfl, KDct.kd (TD.get hlen) TD.ds_LENGTHS, _, rfl, r, _, _, .str z, rfl, rfl, Same.seqT s1 hr1, at_of (j := 0) rfl rfl, z, _, rfl, TD.get hlen, _, rfl, r, _, rfl, .inr (Same.seqT s1 hr1), rfl, ?_⟩
    rw [List.length_cons, hl, decide_eq_true rfl]
    exact k _ s1
theorem ok_Stage_execute (T : Txt K mg a) : FnOk P w K mg base CX0 8 a.f_Stage_execute a.d_Stage_execute ["self", "operation"] (spExec a K) := by
  refine T.F_Stage_execute.ok sc_Stage_execute (fun vs H Q E h => ?_) (fun cdv A outer s0 H vs Q E hr h => ?_)
  · obtain ⟨⟨y, r, dy, fs, z, zs, rfl, _⟩⟩ := h
    rfl
  · obtain ⟨⟨y, r, dy, fs, z, zs, rfl, hy, hno, hr1, hk⟩⟩ := h
    refine ⟨_, (pss_cons (ps_matchT (pv 1) (casesT1 (i := 2) sc_Stage_execute.nd rfl rfl rfl (pss_one (ps_ret (pe_meth (pv 0) T.cl_Stage T.M_Stage_step (ok_Stage_step T) (hr.mono (by decide)) (b_Stage_step T) .nil pass0 (pa_cons (pv 2) pa_nil)))) (casesT1 (i := 3) sc_Stage_execute.nd rfl rfl rfl (pss_one (ps_ret (pe_meth (pv 0) T.cl_Stage T.M_Stage_add (ok_Stage_add T) (hr.mono (by decide)) (b_Stage_add T) .nil pass0 (pa_cons (pv 3) pa_nil)))) (casesT1 (i := 3) sc_Stage_execute.nd rfl rfl rfl (pss_one (ps_ret (pe_meth (pv 0) T.cl_Stage T.M_Stage_take (ok_Stage_take T) (hr.mono (by decide)) (b_Stage_take T) .nil pass0 (pa_cons (pv 3) pa_nil)))) (casesT2 (i := 4) (i' := 5) sc_Stage_execute.nd rfl rfl rfl rfl rfl (pss_one (ps_ret (pe_meth (pv 0) T.cl_Stage T.M_Stage_jump (ok_Stage_jump T) (hr.mono (by decide)) (b_Stage_jump T) .nil pass0 (pa_cons (pv 4) (pa_cons (pv 5) pa_nil))))) (casesT0 sc_Stage_execute.nd rfl (pss_one (ps_ret (pe_meth0 (pv 0) T.cl_Stage T.M_Stage_undo (ok_Stage_undo T) (hr.mono (by decide)) (b_Stage_undo T) .nil pass0))) casesT_nil))))))
      (pss_one (ps_ret (pe_meth0 (pv 0) T.cl_Stage T.M_Stage_redo (ok_Stage_redo T) (hr.mono (by decide)) (b_Stage_redo T) .nil pass0)))), ?_⟩
    refine ⟨_, rfl, r, z, zs, rfl, hr1, ?_⟩
    rcases hk with ⟨v, rfl, rfl, k⟩ | ⟨v, rfl, rfl, k⟩ | ⟨v, rfl, rfl, k⟩ | ⟨v, v', rfl, rfl, k⟩ | ⟨rfl, rfl, k⟩ | ⟨rfl, rfl, k⟩
    · exact ite_t (decide_eq_true ⟨rfl, rfl⟩) ⟨_, rfl, y, dy, fs, rfl, hy, hno _ (by simp), _, rfl, k _⟩
    · exact ite_f (decide_eq_false fun h => absurd h.1 (by decide +kernel)) (ite_t (decide_eq_true ⟨rfl, rfl⟩) ⟨_, rfl, y, dy, fs, rfl, hy, hno _ (by simp), _, rfl, k _⟩)
    · exact ite_f (decide_eq_false fun h => absurd h.1 (by decide +kernel)) (ite_f (decide_eq_false fun h => absurd h.1 (by decide +kernel)) (ite_t (decide_eq_true ⟨rfl, rfl⟩) ⟨_, rfl, y, dy, fs, rfl, hy, hno _ (by simp), _, rfl, k _⟩))
    · exact ite_f (decide_eq_false fun h => absurd h.1 (by decide +kernel)) (ite_f (decide_eq_false fun h => absurd h.1 (by decide +kernel)) (ite_f (decide_eq_false fun h => absurd h.1 (by decide +kernel)) (ite_t (decide_eq_true ⟨rfl, rfl⟩) ⟨_, rfl, y, dy, fs, rfl, hy, hno _ (by simp), _, rfl, _, rfl, k _⟩)))
    · exact ite_f (decide_eq_false fun h => absurd h.1 (by decide +kernel)) (ite_f (decide_eq_false fun h => absurd h.1 (by decide +kernel)) (ite_f (decide_eq_false fun h => absurd h.1 (by decide +kernel)) (ite_f (decide_eq_false fun h => absurd h.1 (by decide +kernel)) (ite_t (decide_eq_true ⟨rfl, rfl⟩) ⟨_, rfl, y, dy, fs, rfl, hy, hno _ (by simp), k _⟩))))
    · exact ite_f (decide_eq_false fun h => absurd h.1 (by decide +kernel)) (ite_f (decide_eq_false fun h => absurd h.1 (by decide +kernel)) (ite_f (decide_eq_false fun h => absurd h.1 (by decide +kernel)) (ite_f (decide_eq_false fun h => absurd h.1 (by decide +kernel)) (ite_f (decide_eq_false fun h => absurd h.1 (by decide +kernel)) ⟨_, rfl, y, dy, fs, rfl, hy, hno _ (by simp), k _⟩))))
theorem for_enumL {K : PySem.W.Frag} {a : Addr} {xs : List V} {g : TG} {tb : TS} {D : Ends} {σ : L2.St} {H : Hp} (Pv : Nat → L2.St → Hp → Prop) (h0 : Pv 0 σ H) (hq : ∀ i σ H, Pv i σ H → SqL K H a xs)
    (hs : ∀ (i : Nat) (x : V) (t : Addr) (σ : L2.St) (H : Hp), xs[i]? = some x → Pv i σ H → H t = none → g (.ref t) σ (upd H t (.tup [.int (i : Nat), x])) fun σ2 H2 => tb { D with nx := Pv (i + 1), ct := Pv (i + 1), bk := D.nx } σ2 H2) (hd : ∀ σ H, Pv xs.length σ H → D.nx σ H) :
    ∃ W : Nat → Nat → L2.St → Hp → Prop, (∃ m, W 0 m σ H) ∧ ∀ i m σ H, W i m σ H →
      ((Ite K a).stop i H ∧ D.nx σ H) ∨ ((Ite K a).go i H ∧ ∃ N : L2.St → Hp → Prop, (∀ σ' H', N σ' H' → ∃ m', m' < m ∧ W (i + 1) m' σ' H') ∧ ∀ v H', (Ite K a).yld i H v H' → g v σ H' fun σ2 H2 => tb { D with nx := N, ct := N, bk := D.nx } σ2 H2) := by
  refine ⟨fun i m σ H => m = xs.length - i ∧ i ≤ xs.length ∧ Pv i σ H, ⟨xs.length, rfl, Nat.zero_le _, h0⟩, ?_⟩
  rintro i m σ H ⟨rfl, hi, p⟩
  have q := hq i σ H p
  by_cases hlt : i < xs.length
  · refine .inr ⟨⟨xs, _, q, List.getElem?_eq_getElem hlt⟩, Pv (i + 1), fun σ' H' p' => ⟨xs.length - (i + 1), by omega, rfl, hlt, p'⟩, fun v H' y => ?_⟩
    obtain ⟨t, x', rfl, ht, rfl, f1⟩ := y
    exact hs i x' t σ H (f1 xs q) p ht
  · have e : i = xs.length := by omega
    subst e
    exact .inl ⟨⟨xs, q, Nat.le_refl _⟩, hd σ H p⟩
theorem last_of {α : Type} {l : List α} (h : 0 < l.length) : ∃ r e, l = r ++ [e] := ⟨l.dropLast, l.getLast (List.length_pos_iff.mp h), (List.dropLast_concat_getLast _).symm⟩
theorem stg_no {pv nv : V} {p u sd : Addr} : ∀ m ∈ [Str.ofString "step", Str.ofString "add", Str.ofString "take", Str.ofString "jump", Str.ofString "undo", Str.ofString "redo"], (stgF pv nv p u sd).lookup m = none := by
  intro m hm
  simp only [List.mem_cons, List.not_mem_nil, or_false] at hm
  rcases hm with rfl | rfl | rfl | rfl | rfl | rfl <;> kernel_rfl
end
end Sb

namespace Sb
open PySem PySem.Spec PyProof.Rows L2 TL
/-! ### data that == walks -/
structure Lay (n : Nat) (d : PyData) : Prop where
  lay : d.canLay0 = true
  dep : d.depth ≤ n
theorem layAll_of : ∀ {ds : List PyData}, (∀ d ∈ ds, d.canLay0 = true) → PyData.canLayAll0 ds = true
  | [], _ => rfl
  | d :: ds, h => by
    show (d.canLay0 && PyData.canLayAll0 ds) = true
    rw [h d List.mem_cons_self, layAll_of fun e he => h e (List.mem_cons_of_mem _ he)]
    rfl
theorem Lay.list {n : Nat} {ds : List PyData} (h : ∀ d ∈ ds, Lay n d) : Lay (n + 1) (.list ds) := ⟨layAll_of fun d hd => (h d hd).lay, Nat.succ_le_succ (depthAll_of fun d hd => (h d hd).dep)⟩
theorem Lay.tuple {n : Nat} {ds : List PyData} (h : ∀ d ∈ ds, Lay n d) : Lay (n + 1) (.tuple ds) := ⟨layAll_of fun d hd => (h d hd).lay, Nat.succ_le_succ (depthAll_of fun d hd => (h d hd).dep)⟩
theorem Lay.mono {n m : Nat} {d : PyData} (h : Lay n d) (l : n ≤ m) : Lay m d := ⟨h.lay, Nat.le_trans h.dep l⟩
theorem Lay.int {n : Nat} (i : Int) : Lay n (.int i) := ⟨rfl, Nat.zero_le _⟩
theorem Lay.bool {n : Nat} (i : Bool) : Lay n (.bool i) := ⟨rfl, Nat.zero_le _⟩
theorem Lay.none {n : Nat} : Lay n .none := ⟨rfl, Nat.zero_le _⟩
theorem Lay.str {n : Nat} {x : Str} (h : PyData.strOk x = true) : Lay n (.str x) := ⟨h, Nat.zero_le _⟩
theorem Lay.shaped {n : Nat} {ds : List PyData} (h : Lay n (.list ds)) (hn : n ≤ 64) : SeqAt.shaped (.list ds) = true := by
  have h1 : PyData.canLayAll0 ds = true := h.lay
  have h2 : PyData.depthAll ds + 1 ≤ n := h.dep
  show (PyData.canLayAll0 ds && decide (PyData.depthAll ds + 1 ≤ 64)) = true
  rw [h1, decide_eq_true (by omega)]; rfl
theorem Lay.shapedT {n : Nat} {ds : List PyData} (h : Lay n (.tuple ds)) (hn : n ≤ 64) : SeqAt.shaped (.tuple ds) = true := by
  have h1 : PyData.canLayAll0 ds = true := h.lay
  have h2 : PyData.depthAll ds + 1 ≤ n := h.dep
  show (PyData.canLayAll0 ds && decide (PyData.depthAll ds + 1 ≤ 64)) = true
  rw [h1, decide_eq_true (by omega)]; rfl
theorem lay_nats {n : Nat} (l : List Nat) : Lay (n + 1) (natsD l) := Lay.list fun d hd => by obtain ⟨k, _, rfl⟩ := List.mem_map.mp hd; exact .int _
theorem lay_natsT {n : Nat} (l : List Nat) : Lay (n + 1) (natsT l) := Lay.tuple fun d hd => by obtain ⟨k, _, rfl⟩ := List.mem_map.mp hd; exact .int _
theorem lay_bools {n : Nat} (l : List Bool) : Lay (n + 1) (boolsD l) := Lay.list fun d hd => by obtain ⟨k, _, rfl⟩ := List.mem_map.mp hd; exact .bool _
theorem doS_ok {w : Nat} (h : w ≤ 8) : PyData.strOk (doS w) = true := by
  have h' : ∀ w : _root_.Fin 9, PyData.strOk (doS w.val) = true := by decide +kernel
  exact h' ⟨w, by omega⟩
theorem lay2 {P : PyData → Prop} {a b : PyData} (ha : P a) (hb : P b) : ∀ d ∈ [a, b], P d := fine2 (n := 0) ha hb
theorem lay4 {P : PyData → Prop} {a b c e : PyData} (ha : P a) (hb : P b) (hc : P c) (he : P e) : ∀ d ∈ [a, b, c, e], P d := fun d hd => by
  rcases List.mem_cons.mp hd with rfl | hd
  · exact ha
  · exact fine3 (n := 0) hb hc he d hd
theorem lay_words {n : Nat} {w : Nat × Nat} (h1 : w.1 ≤ 8) (h2 : w.2 ≤ 8) : Lay (n + 1) (wordsD w) := Lay.tuple (lay2 (.str (doS_ok h1)) (.str (doS_ok h2)))
theorem lay_sit (s : Sit) : Lay 2 (sitL s) := Lay.list (lay4 (lay_nats _) (lay_nats _) (lay_bools _) (lay_nats _))
end Sb

namespace Sb
open PySem PySem.Spec PyProof.Rows L2 TL
/-! ### operations of a stage, in plain words -/
inductive Op where
  | step (c : Nat)
  | add (c : Nat)
  | take (c : Nat)
  | jump (i s : Nat)
  | undo
  | redo
def opD : Op → PyData
  | .step c => .tuple [.str (Str.ofString "step"), natD c]
  | .add c => .tuple [.str (Str.ofString "add"), natD c]
  | .take c => .tuple [.str (Str.ofString "take"), natD c]
  | .jump i s => .tuple [.str (Str.ofString "jump"), natD i, natD s]
  | .undo => .tuple [.str (Str.ofString "undo")]
  | .redo => .tuple [.str (Str.ofString "redo")]
def opW : Op → Str
  | .step _ => Str.ofString "step"
  | .add _ => Str.ofString "add"
  | .take _ => Str.ofString "take"
  | .jump _ _ => Str.ofString "jump"
  | .undo => Str.ofString "undo"
  | .redo => Str.ofString "redo"
def Op.plain : Op → Prop
  | .undo => False
  | .redo => False
  | _ => True
def errOf (x : Pl) (n : Nw) : Op → Option Str
  | .step c => if 500 < c then some (Str.ofString "number") else none
  | .jump i s => if 1 < i ∨ (stepsOf x i).length ≤ s then some (Str.ofString "number") else none
  | .add c => if n.sit.sh.length ≤ c then some (Str.ofString "number") else if n.sit.sh.getD c 0 = 3 then some (Str.ofString "full") else none
  | .take c => if n.sit.sh.length ≤ c then some (Str.ofString "number") else if n.sit.sh.getD c 0 = 0 then some (Str.ofString "empty") else none
  | _ => none
def setShV (n : Nw) (c b : Nat) : Nw := ⟨⟨n.sit.cs, n.sit.ns, n.sit.hs, n.sit.sh.set c b⟩, n.tick, n.b0, n.b1⟩
def setNsV (n : Nw) (i s : Nat) : Nw := ⟨⟨n.sit.cs, n.sit.ns.set i s, n.sit.hs, n.sit.sh⟩, n.tick, n.b0, n.b1⟩
def aftOf (x : Pl) (n : Nw) : Op → Nw
  | .step c => runP x n c
  | .jump i s => setNsV n i s
  | .add c => setShV n c (n.sit.sh.getD c 0 + 1)
  | .take c => setShV n c (n.sit.sh.getD c 0 - 1)
  | _ => n
def valD (x : Pl) (n : Nw) : Op → PyData
  | .step c => .list ((List.range c).map fun j => wordsD (tickP x (runP x n j).sit).1)
  | .jump i _ => natD (n.sit.ns.getD i 0)
  | .add c => natD (n.sit.sh.getD c 0 + 1)
  | .take c => natD (n.sit.sh.getD c 0 - 1)
  | _ => .none
def nowD (n : Nw) : PyData := .tuple [sitL n.sit, natD n.tick, natsD [n.b0, n.b1]]
def pE (e : Ent) : PyData := .tuple [.str e.word, nowD e.bef]
def uE (e : Ent) : PyData := .tuple [pE e, nowD e.aft]
def wD (x : Pl) (n : Nw) (es us : List Ent) : PyData := .list [x.D, nowD n, .list (es.map pE), .list (us.map uE)]
def opA : Op → List V
  | .step c => [.int (c : Nat)]
  | .add c => [.int (c : Nat)]
  | .take c => [.int (c : Nat)]
  | .jump i s => [.int (i : Nat), .int (s : Nat)]
  | _ => []
theorem opD_inv {K : PySem.W.Frag} {G : Hp} {v : V} {o : Op} (h : Dp K G v (opD o)) : ∃ t, v = .ref t ∧ SqT K G t (.str (opW o) :: opA o) := by
  have one : ∀ {z : Str} {c : Nat} {v : V}, Dp K G v (.tuple [.str z, natD c]) → ∃ t, v = .ref t ∧ SqT K G t [.str z, .int (c : Nat)] := fun {z c v} h => by
    obtain ⟨t, ys, rfl, ht, hys⟩ := Dp.tup_inv h
    obtain ⟨v0, r1, rfl, h0, hys⟩ := DpAll.cons_inv hys
    obtain ⟨v1, r2, rfl, h1, hys⟩ := DpAll.cons_inv hys
    cases DpAll.nil_inv hys
    cases Dp.str_inv h0
    cases Dp.int_inv h1
    exact ⟨t, rfl, ht⟩
  have non : ∀ {z : Str} {v : V}, Dp K G v (.tuple [.str z]) → ∃ t, v = .ref t ∧ SqT K G t [.str z] := fun {z v} h => by
    obtain ⟨t, ys, rfl, ht, hys⟩ := Dp.tup_inv h
    obtain ⟨v0, r1, rfl, h0, hys⟩ := DpAll.cons_inv hys
    cases DpAll.nil_inv hys
    cases Dp.str_inv h0
    exact ⟨t, rfl, ht⟩
  cases o with
  | step c => exact one h
  | add c => exact one h
  | take c => exact one h
  | jump i s =>
    obtain ⟨t, ys, rfl, ht, hys⟩ := Dp.tup_inv h
    obtain ⟨v0, r1, rfl, h0, hys⟩ := DpAll.cons_inv hys
    obtain ⟨v1, r2, rfl, h1, hys⟩ := DpAll.cons_inv hys
    obtain ⟨v2, r3, rfl, h2, hys⟩ := DpAll.cons_inv hys
    cases DpAll.nil_inv hys
    cases Dp.str_inv h0
    cases Dp.int_inv h1
    cases Dp.int_inv h2
    exact ⟨t, rfl, ht⟩
  | undo => exact non h
  | redo => exact non h
theorem nowD_inv {K : PySem.W.Frag} {G : Hp} {v : V} {n : Nw} (h : Dp K G v (nowD n)) : ∃ (t sl : Addr) (sv : V), v = .ref t ∧ SqT K G t [sv, .int n.tick, .ref sl] ∧ Dp K G sv (sitL n.sit) ∧ SqL K G sl [.int n.b0, .int n.b1] := by
  obtain ⟨t, ys, rfl, ht, hys⟩ := Dp.tup_inv h
  obtain ⟨v0, r1, rfl, h0, hys⟩ := DpAll.cons_inv hys
  obtain ⟨v1, r2, rfl, h1, hys⟩ := DpAll.cons_inv hys
  obtain ⟨v2, r3, rfl, h2, hys⟩ := DpAll.cons_inv hys
  cases DpAll.nil_inv hys
  cases Dp.int_inv h1
  obtain ⟨sl, zs, rfl, hsl, hzs⟩ := Dp.lst_inv h2
  obtain ⟨w0, q1, rfl, k0, hzs⟩ := DpAll.cons_inv hzs
  obtain ⟨w1, q2, rfl, k1, hzs⟩ := DpAll.cons_inv hzs
  cases DpAll.nil_inv hzs
  cases Dp.int_inv k0
  cases Dp.int_inv k1
  exact ⟨t, sl, v0, rfl, ht, h0, hsl⟩
theorem wb_le {x : Pl} {s : Sit} (hx : x.Ok) (o : SitOk x s) : (tickP x s).1.1 ≤ 8 ∧ (tickP x s).1.2 ≤ 8 := ⟨act_w hx o (by decide), act_w hx (act_ok hx o (by decide)) (by decide)⟩
theorem wS_blk : ∀ w, w < 8 → wS w ≠ Str.ofString "blocked" := by decide +kernel
theorem blk_intV {w : Nat} (h : w ≤ 8) : (if decide (V.str (doS w) = V.str (Str.ofString "blocked")) = true then (1 : Int) else 0) = (blk w : Nat) := by
  by_cases e : w = 8
  · subst e
    rw [doS8, if_pos (decide_eq_true rfl)]
    rfl
  · rw [doS_lt (by omega), if_neg (fun z => wS_blk w (by omega) (by injection of_decide_eq_true z))]
    unfold blk
    rw [if_neg e]
    rfl
theorem range_moreV {α : Type} (f : Nat → α) (m : Nat) : (List.range (m + 1)).map f = (List.range m).map f ++ [f m] := by rw [List.range_succ, List.map_append]; rfl
theorem st_snoc {x : Pl} {n : Nw} (hx : x.Ok) {j : Nat} (hok : SitOk x (runP x n j).sit) {m : Nat} (hm : m < 2) :
    ∃ (b : Nat) (w : Nat), [V.int (runP x n j).b0, V.int (runP x n j).b1][m]? = some (.int (b : Nat)) ∧ [V.str (doS (tickP x (runP x n j).sit).1.1), V.str (doS (tickP x (runP x n j).sit).1.2)][m]? = some (.str (doS w)) ∧ w ≤ 8 ∧
      ([V.int (runP x n (j + 1)).b0, V.int (runP x n (j + 1)).b1]).take m ++ [V.int (((b + blk w : Nat) : Int))] = ([V.int (runP x n (j + 1)).b0, V.int (runP x n (j + 1)).b1]).take (m + 1) := by
  obtain ⟨w1, w2⟩ := wb_le hx hok
  match m, hm with
  | 0, _ => exact ⟨_, _, rfl, rfl, w1, rfl⟩
  | 1, _ => exact ⟨_, _, rfl, rfl, w2, rfl⟩
/-! ### a, b, c, d = [list(part) for part in state] -/
abbrev rLof (K : PySem.W.Frag) : List V → Hp → VK → Prop := fun xs H Q => ∃ p ys, xs = [V.ref p] ∧ (SqL K H p ys ∨ SqT K H p ys) ∧ ∀ (l : Addr), H l = none → Q (V.ref l) (upd H l (HO.lst ys))
structure Cp4 (G H H1 : Hp) (D l0 l1 l2 l3 : Addr) (p0 p1 p2 p3 : List V) : Prop where
  pt : Pt G H G H1
  hd : H1 D = some (.lst [.ref l0, .ref l1, .ref l2, .ref l3])
  n0 : H l0 = none
  n1 : H l1 = none
  n2 : H l2 = none
  n3 : H l3 = none
  h0 : H1 l0 = some (.lst p0)
  h1 : H1 l1 = some (.lst p1)
  h2 : H1 l2 = some (.lst p2)
  h3 : H1 l3 = some (.lst p3)
  nd : [l0, l1, l2, l3].Nodup
theorem copies_go {K : PySem.W.Frag} {σ : L2.St} {G H : Hp} {sa q0 q1 q2 q3 : Addr} {p0 p1 p2 p3 : List V} {Q : VK} (hσ : σ[3]? = some (some (.ref sa))) (h15 : 15 < σ.length) (hGH : Same G H) (hs : SqL K G sa [.ref q0, .ref q1, .ref q2, .ref q3]) (k0 : SqL K G q0 p0) (k1 : SqL K G q1 p1) (k2 : SqL K G q2 p2) (k3 : SqL K G q3 p3)
    (k : ∀ (H1 : Hp) (D l0 l1 l2 l3 : Addr), Cp4 G H H1 D l0 l1 l2 l3 p0 p1 p2 p3 → Q (.ref D) H1) : tLc (iList K (tVar 3)) (gName 15) tYes (tCB (rLof K) (tCons (tVar 15) tNil)) [15] σ H Q := by
  have parts : ∀ (j : Nat) (v : V), [V.ref q0, V.ref q1, V.ref q2, V.ref q3][j]? = some v → ∃ (q : Addr) (p : List V), v = V.ref q ∧ SqL K G q p ∧ [p0, p1, p2, p3][j]? = some p := fun j v e => by
    match j, e with
    | 0, e => cases e; exact ⟨_, _, rfl, k0, rfl⟩
    | 1, e => cases e; exact ⟨_, _, rfl, k1, rfl⟩
    | 2, e => cases e; exact ⟨_, _, rfl, k2, rfl⟩
    | 3, e => cases e; exact ⟨_, _, rfl, k3, rfl⟩
    | j + 4, e => simp at e
  refine ⟨_, hσ, sa, rfl, ⟨_, hGH.seq hs⟩, fun D hD => ?_⟩
  have D0 : H D = none := hD
  refine lc_list (K := K) (a := sa) (xs := [.ref q0, .ref q1, .ref q2, .ref q3]) (fun m H' => ∃ ls : List Addr, Pt G H G H' ∧ H' D = some (.lst (ls.map V.ref)) ∧ ls.length = m ∧ (D :: ls).Nodup ∧ ∀ (j : Nat) (l : Addr), ls[j]? = some l → H l = none ∧ ∃ p, [p0, p1, p2, p3][j]? = some p ∧ H' l = some (.lst p)) ⟨[], ⟨(Ext.refl hGH).lay hD, same_new hD⟩, upd_same, rfl, by simp, fun j l e => by simp at e⟩ (fun m H' _ ⟨_, B, _⟩ => B.s.seq hs) ?_ ?_
  · rintro m z H' hz ⟨ls, B, hDl, hl, nd, hls⟩
    obtain ⟨q, p, rfl, hq, hp⟩ := parts m z hz
    have hm4 : m < 4 := (List.getElem?_eq_some_iff.mp hz).1
    refine ⟨?_, _, ?_, q, p, rfl, .inl (B.s.seq hq), fun l hl9 => ?_⟩
    · show ((σ.set 15 none).set 15 (some (V.ref q))).set 15 none = σ.set 15 none
      rw [List.set_set, List.set_set]
    · show ((σ.set 15 none).set 15 (some (V.ref q)))[15]? = _
      exact List.getElem?_set_self (by rw [List.length_set]; exact h15)
    have lD := ne_of_none hDl hl9
    have l0 : H l = none := B.free hl9
    have hlG : G l = none := B.freeG hl9
    have old : ∀ (j : Nat) (b : Addr), ls[j]? = some b → b ≠ l ∧ b ≠ D := fun j b e => by
      obtain ⟨_, pp, _, e2⟩ := hls j b e
      refine ⟨ne_of_none e2 hl9, fun z => ?_⟩
      have := (List.nodup_cons.mp nd).1
      exact this (z ▸ List.mem_of_getElem? e)
    refine ⟨_, (upd_ne lD).trans hDl, smaller 4 (by rw [List.length_map]; omega) (by decide), ls ++ [l], (B.lay hl9 _).put D0 (Same.free hGH D0) _, ?_, by rw [List.length_append, hl]; rfl, ?_, ?_⟩
    · rw [upd_same, List.map_append]
      rfl
    · rw [← List.cons_append, List.nodup_append]
      refine ⟨nd, by simp, fun b hb z hz => ?_⟩
      rw [List.mem_singleton.mp hz]
      rcases List.mem_cons.mp hb with rfl | hb
      · exact lD
      · obtain ⟨j, hj, e⟩ := List.mem_iff_getElem.mp hb
        exact (old j b (by rw [List.getElem?_eq_getElem hj, e])).1
    · intro j b e
      by_cases hj : j < ls.length
      · rw [List.getElem?_append_left hj] at e
        obtain ⟨n1, pp, n2, n3⟩ := hls j b e
        obtain ⟨o1, o2⟩ := old j b e
        exact ⟨n1, pp, n2, by rw [upd_ne o2, upd_ne o1]; exact n3⟩
      · rw [List.getElem?_append_right (by omega)] at e
        have ej : j - ls.length = 0 := by have := (List.getElem?_eq_some_iff.mp e).1; simp at this; omega
        rw [ej] at e
        cases e
        have : j = m := by omega
        subst this
        exact ⟨l0, p, hp, by rw [upd_ne lD.symm, upd_same]⟩
  · rintro H1 ⟨ls, B, hDl, hl, nd, hls⟩
    match ls, hl, nd, hls, hDl with
    | [l0, l1, l2, l3], _, nd, hls, hDl =>
      obtain ⟨a1, _, e, a3⟩ := hls 0 l0 rfl
      cases e
      obtain ⟨b1, _, e, b3⟩ := hls 1 l1 rfl
      cases e
      obtain ⟨c1, _, e, c3⟩ := hls 2 l2 rfl
      cases e
      obtain ⟨d1, _, e, d3⟩ := hls 3 l3 rfl
      cases e
      exact k H1 D l0 l1 l2 l3 ⟨B, hDl, a1, b1, c1, d1, a3, b3, c3, d3, (List.nodup_cons.mp nd).2⟩
theorem plan_steps {K : PySem.W.Frag} {G : Hp} {v : V} {x : Pl} (h : Dp K G v x.D) {i : Nat} (hi : i < 2) : ∃ (va ll : Addr) (c0 c1 : V) (c2 : List V) (zz : Addr) (xs : List V), v = .ref va ∧ SqT K G va [c0, c1, .ref ll] ∧ SqL K G ll c2 ∧ c2[i]? = some (.ref zz) ∧ SqL K G zz xs ∧ xs.length = (stepsOf x i).length := by
  obtain ⟨va, ys, rfl, hva, hys⟩ := Dp.tup_inv h
  obtain ⟨c0, r1, rfl, _, hys⟩ := DpAll.cons_inv hys
  obtain ⟨c1, r2, rfl, _, hys⟩ := DpAll.cons_inv hys
  obtain ⟨c2, r3, rfl, h2, hys⟩ := DpAll.cons_inv hys
  cases DpAll.nil_inv hys
  obtain ⟨ll, zs, rfl, hll, hzs⟩ := Dp.lst_inv h2
  obtain ⟨z0, q1, rfl, k0, hzs⟩ := DpAll.cons_inv hzs
  obtain ⟨z1, q2, rfl, k1, hzs⟩ := DpAll.cons_inv hzs
  cases DpAll.nil_inv hzs
  obtain ⟨a0, x0, rfl, l0, m0⟩ := Dp.lst_inv k0
  obtain ⟨a1, x1, rfl, l1, m1⟩ := Dp.lst_inv k1
  match i, hi with
  | 0, _ => exact ⟨va, ll, c0, c1, _, a0, x0, rfl, hva, hll, rfl, l0, by rw [DpAll.len m0, List.length_map]; rfl⟩
  | 1, _ => exact ⟨va, ll, c0, c1, _, a1, x1, rfl, hva, hll, rfl, l1, by rw [DpAll.len m1, List.length_map]; rfl⟩
theorem frz4 {G H H2 : Hp} {l0 l1 l2 l3 : Addr} {p0 p1 p2 p3 : List V} (B : Pt G H G H2) (n0 : H l0 = none) (n1 : H l1 = none) (n2 : H l2 = none) (n3 : H l3 = none) (h0 : H2 l0 = some (.lst p0)) (h1 : H2 l1 = some (.lst p1)) (h2 : H2 l2 = some (.lst p2)) (h3 : H2 l3 = some (.lst p3)) (nd : [l0, l1, l2, l3].Nodup) (hGH : Same G H) :
    ∃ G4, Pt G H G4 H2 ∧ G4 l0 = some (.lst p0) ∧ G4 l1 = some (.lst p1) ∧ G4 l2 = some (.lst p2) ∧ G4 l3 = some (.lst p3) := by
  simp only [List.nodup_cons, List.mem_cons, List.not_mem_nil, or_false, not_or] at nd
  obtain ⟨⟨e01, e02, e03⟩, ⟨e12, e13⟩, e23, _⟩ := nd
  refine ⟨_, (((B.freeze n0 h0).freeze n1 h1).freeze n2 h2).freeze n3 h3, ?_, ?_, ?_, upd_same⟩
  · rw [upd_ne e03, upd_ne e02, upd_ne e01, upd_same]
  · rw [upd_ne e13, upd_ne e12, upd_same]
  · rw [upd_ne e23, upd_same]
theorem ret4 {K : PySem.W.Frag} {G H H2 : Hp} {l0 l1 l2 l3 sl : Addr} {n' : Nw} {b : Nat} {Q : VK} (hGH : Same G H) (B : Pt G H G H2) (n0 : H l0 = none) (n1 : H l1 = none) (n2 : H l2 = none) (n3 : H l3 = none) (h0 : H2 l0 = some (.lst (nV n'.sit.cs))) (h1 : H2 l1 = some (.lst (nV n'.sit.ns))) (h2 : H2 l2 = some (.lst (bV n'.sit.hs))) (h3 : H2 l3 = some (.lst (nV n'.sit.sh))) (nd : [l0, l1, l2, l3].Nodup) (hsl : SqL K G sl [.int n'.b0, .int n'.b1])
    (k : ∀ (G' H' : Hp) (r : V), Ext G H G' H' → Same H H' → Dp K G' r (.tuple [.str (Str.ofString ""), natD b, nowD n']) → Q r H') :
    4 ≤ sizeLine ∧ ∀ L, H2 L = none → 3 ≤ sizeLine ∧ ∀ p, (upd H2 L (.lst [.ref l0, .ref l1, .ref l2, .ref l3])) p = none → 3 ≤ sizeLine ∧ ∀ p2, (upd (upd H2 L (.lst [.ref l0, .ref l1, .ref l2, .ref l3])) p (.tup [.ref L, .int n'.tick, .ref sl])) p2 = none →
      Q (.ref p2) (upd (upd (upd H2 L (.lst [.ref l0, .ref l1, .ref l2, .ref l3])) p (.tup [.ref L, .int n'.tick, .ref sl])) p2 (.tup [.str (Str.ofString ""), .int (b : Nat), .ref p])) := by
  obtain ⟨G4, B4, f0, f1, f2, f3⟩ := frz4 B n0 n1 n2 n3 h0 h1 h2 h3 nd hGH
  refine ⟨by decide, fun L hL => ⟨by decide, fun p hp => ⟨by decide, fun p2 hp2 => ?_⟩⟩⟩
  have B5 := B4.new hL (.lst [.ref l0, .ref l1, .ref l2, .ref l3])
  have g5 := same_new (o := .lst [V.ref l0, .ref l1, .ref l2, .ref l3]) (B4.freeG hL)
  have B6 := B5.new hp (.tup [.ref L, .int n'.tick, .ref sl])
  have g6 := same_new (o := .tup [V.ref L, .int n'.tick, .ref sl]) (B5.freeG hp)
  have B7 := B6.new hp2 (.tup [.str (Str.ofString ""), .int (b : Nat), .ref p])
  have g7 := same_new (o := .tup [V.str (Str.ofString ""), .int (b : Nat), .ref p]) (B6.freeG hp2)
  have g47 := (g5.trans g6).trans g7
  refine k _ _ _ B7.ext B7.sm (.tup (SqT.of upd_same) (.cons (.str _) (.cons (.int _) (.cons (.tup (SqT.of (g7 _ _ upd_same)) (.cons (.lst (SqL.of (g7 _ _ (g6 _ _ upd_same))) (.cons (.lst (g47.seq (SqL.of f0)) (nats_D' _)) (.cons (.lst (g47.seq (SqL.of f1)) (nats_D' _)) (.cons (.lst (g47.seq (SqL.of f2)) (bools_D _)) (.cons (.lst (g47.seq (SqL.of f3)) (nats_D' _)) .nil))))) (.cons (.int _) (.cons (.lst ((B4.g.trans g47).seq hsl) (.cons (.int _) (.cons (.int _) .nil))) .nil)))) .nil))))
theorem w_js : ¬ Str.ofString "jump" = Str.ofString "step" := by decide +kernel
theorem w_as : ¬ Str.ofString "add" = Str.ofString "step" := by decide +kernel
theorem w_ts : ¬ Str.ofString "take" = Str.ofString "step" := by decide +kernel
theorem w_aj : ¬ Str.ofString "add" = Str.ofString "jump" := by decide +kernel
theorem w_tj : ¬ Str.ofString "take" = Str.ofString "jump" := by decide +kernel
theorem w_ta : ¬ Str.ofString "take" = Str.ofString "add" := by decide +kernel
structure spLOn (K : PySem.W.Frag) (vs : List V) (H : Hp) (Q : VK) (E : XK) : Prop where
  ex : ∃ (G : Hp) (v nv ov : V) (x : Pl) (n : Nw) (o : Op), vs = [v, nv, ov] ∧ Dp K G v x.D ∧ Dp K G nv (nowD n) ∧ Dp K G ov (opD o) ∧ x.Ok ∧ SitOk x n.sit ∧ o.plain ∧
    Pure G H Q fun G' r => (∃ er, errOf x n o = some er ∧ Dp K G' r (.tuple [.str er, natD 0, nowD n])) ∨ (errOf x n o = none ∧ Dp K G' r (.tuple [.str (Str.ofString ""), valD x n o, nowD (aftOf x n o)]))
section
variable {P : Program} {w : World} {K : PySem.W.Frag} {mg : Str → Option Value} {base : Heap} {a : Ad}
end
end Sb

namespace Sb
open PySem PySem.Spec PyProof.Rows L2 TL
/-! ### operations as they are drawn -/
def Op.small : Op → Prop
  | .step c => c ≤ 501
  | .add c => c ≤ 12
  | .take c => c ≤ 12
  | .jump i s => i ≤ 2 ∧ s ≤ 20
  | _ => True
structure spOper (K : PySem.W.Frag) (vs : List V) (H : Hp) (Q : VK) (E : XK) : Prop where
  ex : ∃ (d : Addr) (G : Hp) (v : V) (x : Pl), vs = [.ref d, v] ∧ Dp K G v x.D ∧ x.Ok ∧ Drawn d G H Q fun G' r => ∃ o : Op, o.small ∧ Dp K G' r (opD o)
def oneN (c : Bool) : Nat := if c = true then 1 else 0
theorem oneN_le (c : Bool) : oneN c ≤ 1 := by cases c <;> decide
theorem one_if {c : Bool} : (if c = true then (1 : Int) else 0) = ((oneN c : Nat) : Int) := by cases c <;> rfl
section
variable {P : Program} {w : World} {K : PySem.W.Frag} {mg : Str → Option Value} {base : Heap} {a : Ad}
end
end Sb

namespace Sb
open PySem PySem.Spec PyProof.Rows L2 TL
/-! ### the state of a stage, in plain words -/
structure Stt where
  now : Nw
  es : List Ent
  us : List Ent
def undS (s : Stt) : Option Ent → Stt
  | none => s
  | some e => ⟨e.bef, s.es.dropLast, s.us ++ [e]⟩
def redS (s : Stt) : Option Ent → Stt
  | none => s
  | some e => ⟨e.aft, s.es ++ [e], s.us.dropLast⟩
def aftS (x : Pl) (s : Stt) (o : Op) : Stt :=
  match o with
  | .undo => undS s s.es.getLast?
  | .redo => redS s s.us.getLast?
  | o => ⟨aftOf x s.now o, s.es ++ [⟨opW o, s.now, aftOf x s.now o⟩], []⟩
def valS (x : Pl) (s : Stt) (o : Op) : PyData :=
  match o with
  | .undo => .bool (!s.es.isEmpty)
  | .redo => .bool (!s.us.isEmpty)
  | o => valD x s.now o
theorem aftS_undo0 {x : Pl} {n : Nw} {us : List Ent} : aftS x ⟨n, [], us⟩ .undo = ⟨n, [], us⟩ := rfl
theorem aftS_undo1 {x : Pl} {n : Nw} {es us : List Ent} {e : Ent} : aftS x ⟨n, es ++ [e], us⟩ .undo = ⟨e.bef, es, us ++ [e]⟩ := by
  show undS ⟨n, es ++ [e], us⟩ (es ++ [e]).getLast? = _
  rw [List.getLast?_concat]
  show (⟨e.bef, (es ++ [e]).dropLast, us ++ [e]⟩ : Stt) = _
  rw [List.dropLast_concat]
theorem aftS_redo0 {x : Pl} {n : Nw} {es : List Ent} : aftS x ⟨n, es, []⟩ .redo = ⟨n, es, []⟩ := rfl
theorem aftS_redo1 {x : Pl} {n : Nw} {es us : List Ent} {e : Ent} : aftS x ⟨n, es, us ++ [e]⟩ .redo = ⟨e.aft, es ++ [e], us⟩ := by
  show redS ⟨n, es, us ++ [e]⟩ (us ++ [e]).getLast? = _
  rw [List.getLast?_concat]
  show (⟨e.aft, es ++ [e], (us ++ [e]).dropLast⟩ : Stt) = _
  rw [List.dropLast_concat]
theorem aftS_plain {x : Pl} {s : Stt} {o : Op} (h : o.plain) : aftS x s o = ⟨aftOf x s.now o, s.es ++ [⟨opW o, s.now, aftOf x s.now o⟩], []⟩ := by
  cases o with
  | undo => exact h.elim
  | redo => exact h.elim
  | step c => rfl
  | add c => rfl
  | take c => rfl
  | jump i t => rfl
theorem valS_plain {x : Pl} {s : Stt} {o : Op} (h : o.plain) : valS x s o = valD x s.now o := by
  cases o with
  | undo => exact h.elim
  | redo => exact h.elim
  | step c => rfl
  | add c => rfl
  | take c => rfl
  | jump i t => rfl
/-- what is in effect leads from the beginning to now -/
inductive Lnk (x : Pl) : List Ent → Nw → Prop
  | nil : Lnk x [] ⟨sit0 x, 0, 0, 0⟩
  | snoc {es : List Ent} {e : Ent} : Lnk x es e.bef → Lnk x (es ++ [e]) e.aft
inductive RLnk : List Ent → Nw → Prop
  | nil (n : Nw) : RLnk [] n
  | snoc {es : List Ent} {e : Ent} : RLnk es e.aft → RLnk (es ++ [e]) e.bef
theorem Lnk.inv {x : Pl} {es : List Ent} {e : Ent} {n : Nw} (h : Lnk x (es ++ [e]) n) : n = e.aft ∧ Lnk x es e.bef := by
  generalize hz : es ++ [e] = zs at h
  cases h with
  | nil => exact absurd hz (by simp)
  | snoc h =>
    obtain ⟨e1, e2⟩ := List.append_inj' hz rfl
    cases e2
    subst e1
    exact ⟨rfl, h⟩
theorem RLnk.inv {es : List Ent} {e : Ent} {n : Nw} (h : RLnk (es ++ [e]) n) : n = e.bef ∧ RLnk es e.aft := by
  generalize hz : es ++ [e] = zs at h
  cases h with
  | nil => exact absurd hz (by simp)
  | snoc h =>
    obtain ⟨e1, e2⟩ := List.append_inj' hz rfl
    cases e2
    subst e1
    exact ⟨rfl, h⟩
structure SttOk (x : Pl) (s : Stt) : Prop where
  ok : SitOk x s.now.sit
  eo : ∀ e ∈ s.es, SitOk x e.bef.sit ∧ SitOk x e.aft.sit
  uo : ∀ e ∈ s.us, SitOk x e.bef.sit ∧ SitOk x e.aft.sit
  lk : Lnk x s.es s.now
  rk : RLnk s.us s.now
theorem setV_sh {x : Pl} {n : Nw} {c b : Nat} (h : SitOk x n.sit) (hb : b ≤ 3) : SitOk x (setShV n c b).sit where
  c2 := h.c2
  n2 := h.n2
  h2 := h.h2
  len := by show (n.sit.sh.set c b).length = _; rw [List.length_set]; exact h.len
  b3 := fun m hm => by
    rcases List.mem_or_eq_of_mem_set hm with q | q
    · exact h.b3 m q
    · rw [q]; exact hb
  cl := fun i hi => by show n.sit.cs.getD i 0 < (n.sit.sh.set c b).length; rw [List.length_set]; exact h.cl i hi
  ne := h.ne
  nl := h.nl
theorem setV_ns {x : Pl} {n : Nw} {i s : Nat} (h : SitOk x n.sit) (hs : s < (stepsOf x i).length) : SitOk x (setNsV n i s).sit where
  c2 := h.c2
  n2 := by show (n.sit.ns.set i s).length = _; rw [List.length_set]; exact h.n2
  h2 := h.h2
  len := h.len
  b3 := h.b3
  cl := h.cl
  ne := h.ne
  nl := fun j hj => by
    show (n.sit.ns.set i s).getD j 0 < _
    have h2 := h.n2
    by_cases e : i = j
    · subst e
      rw [List.getD_eq_getElem?_getD, List.getElem?_set_self (by omega)]
      exact hs
    · rw [List.getD_eq_getElem?_getD, List.getElem?_set_ne e, ← List.getD_eq_getElem?_getD]
      exact h.nl j hj
theorem err_add {x : Pl} {n : Nw} {c : Nat} (h : errOf x n (.add c) = none) : c < n.sit.sh.length ∧ n.sit.sh.getD c 0 ≠ 3 := by
  unfold errOf at h
  dsimp only at h
  split at h
  · cases h
  · split at h
    · cases h
    · exact ⟨by omega, by assumption⟩
theorem err_take {x : Pl} {n : Nw} {c : Nat} (h : errOf x n (.take c) = none) : c < n.sit.sh.length ∧ n.sit.sh.getD c 0 ≠ 0 := by
  unfold errOf at h
  dsimp only at h
  split at h
  · cases h
  · split at h
    · cases h
    · exact ⟨by omega, by assumption⟩
theorem err_jump {x : Pl} {n : Nw} {i s : Nat} (h : errOf x n (.jump i s) = none) : i < 2 ∧ s < (stepsOf x i).length := by
  unfold errOf at h
  dsimp only at h
  split at h
  · cases h
  · omega
theorem err_step {x : Pl} {n : Nw} {c : Nat} (h : errOf x n (.step c) = none) : c ≤ 500 := by
  unfold errOf at h
  dsimp only at h
  split at h
  · cases h
  · omega
theorem sh_le {x : Pl} {n : Nw} (h : SitOk x n.sit) (c : Nat) : n.sit.sh.getD c 0 ≤ 3 := by
  by_cases hc : c < n.sit.sh.length
  · rw [List.getD_eq_getElem?_getD, List.getElem?_eq_getElem hc]
    exact h.b3 _ (List.getElem_mem hc)
  · rw [List.getD_eq_getElem?_getD, List.getElem?_eq_none (by omega)]
    exact Nat.zero_le _
theorem aftOf_ok {x : Pl} {n : Nw} {o : Op} (hx : x.Ok) (h : SitOk x n.sit) (he : errOf x n o = none) : SitOk x (aftOf x n o).sit := by
  cases o with
  | undo => exact h
  | redo => exact h
  | step c => exact runP_ok hx h c
  | add c =>
    have := sh_le h c
    have := (err_add he).2
    exact setV_sh h (by omega)
  | take c =>
    have := sh_le h c
    exact setV_sh h (by omega)
  | jump i s => exact setV_ns h (err_jump he).2
theorem aftS_ok {x : Pl} {s : Stt} {o : Op} (hx : x.Ok) (h : SttOk x s) (he : errOf x s.now o = none) : SttOk x (aftS x s o) ∧ (aftS x s o).es.length + (aftS x s o).us.length ≤ s.es.length + s.us.length + 1 := by
  obtain ⟨n, es, us⟩ := s
  have plain : o.plain → SttOk x (aftS x ⟨n, es, us⟩ o) ∧ (aftS x ⟨n, es, us⟩ o).es.length + (aftS x ⟨n, es, us⟩ o).us.length ≤ es.length + us.length + 1 := fun hp => by
    rw [aftS_plain hp]
    have h1 := aftOf_ok hx h.ok he
    refine ⟨⟨h1, fun e m => ?_, (fun e m => nomatch m), .snoc h.lk, .nil _⟩, ?_⟩
    · rcases List.mem_append.mp m with q | q
      · exact h.eo e q
      · rw [List.mem_singleton.mp q]
        exact ⟨h.ok, h1⟩
    · show (es ++ [_]).length + 0 ≤ _
      rw [List.length_append, List.length_singleton]
      omega
  cases o with
  | step c => exact plain trivial
  | add c => exact plain trivial
  | take c => exact plain trivial
  | jump i t => exact plain trivial
  | undo =>
    rcases List.eq_nil_or_concat es with rfl | ⟨es0, e, rfl⟩
    · exact ⟨h, Nat.le_succ _⟩
    · rw [List.concat_eq_append] at h ⊢
      rw [aftS_undo1]
      obtain ⟨q1, q2⟩ := h.lk.inv
      have he := h.eo e (List.mem_append_right _ List.mem_cons_self)
      refine ⟨⟨he.1, fun e' m => h.eo e' (List.mem_append_left _ m), fun e' m => ?_, q2, .snoc (by rw [← q1]; exact h.rk)⟩, ?_⟩
      · rcases List.mem_append.mp m with q | q
        · exact h.uo e' q
        · rw [List.mem_singleton.mp q]; exact he
      · show es0.length + (us ++ [e]).length ≤ (es0 ++ [e]).length + us.length + 1
        rw [List.length_append, List.length_append, List.length_singleton]
        omega
  | redo =>
    rcases List.eq_nil_or_concat us with rfl | ⟨us0, e, rfl⟩
    · exact ⟨h, Nat.le_succ _⟩
    · rw [List.concat_eq_append] at h ⊢
      rw [aftS_redo1]
      obtain ⟨q1, q2⟩ := h.rk.inv
      have he := h.uo e (List.mem_append_right _ List.mem_cons_self)
      refine ⟨⟨he.2, fun e' m => ?_, fun e' m => h.uo e' (List.mem_append_left _ m), .snoc (by rw [← q1]; exact h.lk), q2⟩, ?_⟩
      · rcases List.mem_append.mp m with q | q
        · exact h.eo e' q
        · rw [List.mem_singleton.mp q]; exact he
      · show (es ++ [e]).length + us0.length ≤ es.length + (us0 ++ [e]).length + 1
        rw [List.length_append, List.length_append, List.length_singleton]
        omega
/-! ### the law's own state of a stage -/
def WAt (K : PySem.W.Frag) (G : Hp) (v : V) (x : Pl) (s : Stt) : Prop := ∃ (wl pl ul : Addr) (xv nv : V) (vs ws : List V), v = .ref wl ∧ SqL K G wl [xv, nv, .ref pl, .ref ul] ∧ Dp K G xv x.D ∧ Dp K G nv (nowD s.now) ∧ G pl = some (.lst vs) ∧ DpAll K G vs (s.es.map pE) ∧ G ul = some (.lst ws) ∧ DpAll K G ws (s.us.map uE)
theorem WAt.mono {K : PySem.W.Frag} {G G' : Hp} {v : V} {x : Pl} {s : Stt} (m : Same G G') (h : WAt K G v x s) : WAt K G' v x s := by
  obtain ⟨wl, pl, ul, xv, nv, vs, ws, rfl, h1, h2, h3, h4, h5, h6, h7⟩ := h
  exact ⟨wl, pl, ul, xv, nv, vs, ws, rfl, m.seq h1, Dp.mono m _ _ h2, Dp.mono m _ _ h3, m _ _ h4, Dp.monoAll m _ _ h5, m _ _ h6, Dp.monoAll m _ _ h7⟩
theorem DpAll.snoc_inv {K : PySem.W.Frag} {G : Hp} : ∀ {ds : List PyData} {vs : List V} {d : PyData}, DpAll K G vs (ds ++ [d]) → ∃ ys v, vs = ys ++ [v] ∧ DpAll K G ys ds ∧ Dp K G v d
  | [], _, _, h => by
    obtain ⟨v, r, rfl, h1, h2⟩ := DpAll.cons_inv h
    cases DpAll.nil_inv h2
    exact ⟨[], v, rfl, .nil, h1⟩
  | d0 :: ds, _, _, h => by
    obtain ⟨v, r, rfl, h1, h2⟩ := DpAll.cons_inv h
    obtain ⟨ys, w, rfl, h3, h4⟩ := DpAll.snoc_inv h2
    exact ⟨v :: ys, w, rfl, .cons h1 h3, h4⟩
structure spNew (K : PySem.W.Frag) (vs : List V) (H : Hp) (Q : VK) (E : XK) : Prop where
  ex : ∃ (d : Addr) (G : Hp), vs = [.ref d] ∧ Drawn d G H Q fun G' r => ∃ x : Pl, x.Ok ∧ WAt K G' r x ⟨⟨sit0 x, 0, 0, 0⟩, [], []⟩
structure spWorked (K : PySem.W.Frag) (vs : List V) (H : Hp) (Q : VK) (E : XK) : Prop where
  ex : ∃ (G : Hp) (wv ov : V) (x : Pl) (s : Stt) (o : Op), vs = [wv, ov] ∧ WAt K G wv x s ∧ Dp K G ov (opD o) ∧ x.Ok ∧ SttOk x s ∧ s.es.length + s.us.length ≤ 100000 ∧
    Pure G H Q fun G' r => ∃ t, r = .ref t ∧ ((∃ er, errOf x s.now o = some er ∧ SqT K G' t [.str er, .int 0]) ∨ (errOf x s.now o = none ∧ ∃ v u, SqT K G' t [.str (Str.ofString ""), v, u] ∧ Dp K G' v (valS x s o) ∧ WAt K G' u x (aftS x s o)))
theorem cut_last {ys : List V} {v : V} : cutV (ys ++ [v]) none (some (-1)) = ys := by
  have e : cutV (ys ++ [v]) none (some (-1)) = (ys ++ [v]).dropLast := by
    unfold cutV
    rw [List.dropLast_eq_take]
    have h1 : HT.sIx (ys ++ [v]).length 0 none = 0 := rfl
    have h2 : HT.sIx (ys ++ [v]).length (ys ++ [v]).length (some (-1)) = (ys ++ [v]).length - 1 := by
      rw [List.length_append, List.length_singleton]
      simp [HT.sIx]
      omega
    rw [h1, h2]
    rfl
  rw [e, List.dropLast_concat]
theorem opW_ne : (∀ z ∈ [Str.ofString "step", Str.ofString "add", Str.ofString "take", Str.ofString "jump"], ¬ z = Str.ofString "undo" ∧ ¬ z = Str.ofString "redo") := by decide +kernel
theorem opW_plain {o : Op} (h : o.plain) : ¬ opW o = Str.ofString "undo" ∧ ¬ opW o = Str.ofString "redo" := by
  refine opW_ne (opW o) ?_
  cases o with
  | undo => exact h.elim
  | redo => exact h.elim
  | step c => exact List.mem_cons_self
  | add c => exact List.mem_cons_of_mem _ List.mem_cons_self
  | take c => exact List.mem_cons_of_mem _ (List.mem_cons_of_mem _ List.mem_cons_self)
  | jump i t => exact List.mem_cons_of_mem _ (List.mem_cons_of_mem _ (List.mem_cons_of_mem _ List.mem_cons_self))
theorem w_ru : ¬ Str.ofString "redo" = Str.ofString "undo" := by decide +kernel
theorem no_er {er : Str} {x : Pl} {n : Nw} {o : Op} (h : errOf x n o = some er) : ¬ er = Str.ofString "" := by
  have e : er = Str.ofString "number" ∨ er = Str.ofString "full" ∨ er = Str.ofString "empty" := by
    cases o with
    | undo => cases h
    | redo => cases h
    | step c =>
      unfold errOf at h; dsimp only at h; split at h
      · cases h; exact .inl rfl
      · cases h
    | add c =>
      unfold errOf at h; dsimp only at h; split at h
      · cases h; exact .inl rfl
      · split at h
        · cases h; exact .inr (.inl rfl)
        · cases h
    | take c =>
      unfold errOf at h; dsimp only at h; split at h
      · cases h; exact .inl rfl
      · split at h
        · cases h; exact .inr (.inr rfl)
        · cases h
    | jump i s =>
      unfold errOf at h; dsimp only at h; split at h
      · cases h; exact .inl rfl
      · cases h
  rcases e with rfl | rfl | rfl <;> decide +kernel
theorem op_kinds (o : Op) : o = .undo ∨ o = .redo ∨ o.plain := by
  cases o with
  | undo => exact .inl rfl
  | redo => exact .inr (.inl rfl)
  | step c => exact .inr (.inr trivial)
  | add c => exact .inr (.inr trivial)
  | take c => exact .inr (.inr trivial)
  | jump i t => exact .inr (.inr trivial)
section
variable {P : Program} {w : World} {K : PySem.W.Frag} {mg : Str → Option Value} {base : Heap} {a : Ad}
end
end Sb

namespace Sb
open PySem PySem.Spec PyProof.Rows L2 TL
theorem Mv.join {S S' : List Addr} {G0 H0 G H G1 H1 : Hp} (a : Mv S G0 H0 G H) (b : Mv S' G H G1 H1) (h : ∀ c ∈ S', c ∈ S ∨ H0 c = none) : Mv S G0 H0 G1 H1 := by
  refine ⟨a.ext.trans b.ext, fun c o e => ?_⟩
  obtain ⟨h1, h2⟩ := wos_some e
  refine b.sm c o ?_
  have hc : c ∉ S' := fun m => by
    rcases h c m with q | q
    · exact h1 q
    · rw [q] at h2; cases h2
  rw [wos_out hc]
  exact a.sm c o e
/-- the six ways -/
def SixD (a : Ad) (K : PySem.W.Frag) (y : Addr) (H : Hp) (Q : VK) (z : Str) (zs : List V) : Prop :=
  (∃ v, z = Str.ofString "step" ∧ zs = [v] ∧ ∀ E', spStep a K [.ref y, v] H Q E') ∨ (∃ v, z = Str.ofString "add" ∧ zs = [v] ∧ ∀ E', spAdd a K true [.ref y, v] H Q E') ∨ (∃ v, z = Str.ofString "take" ∧ zs = [v] ∧ ∀ E', spAdd a K false [.ref y, v] H Q E') ∨
    (∃ v v', z = Str.ofString "jump" ∧ zs = [v, v'] ∧ ∀ E', spJump a K [.ref y, v, v'] H Q E') ∨ (z = Str.ofString "undo" ∧ zs = [] ∧ ∀ E', spUndo a K [.ref y] H Q E') ∨ (z = Str.ofString "redo" ∧ zs = [] ∧ ∀ E', spRedo a K [.ref y] H Q E')
/-- an operation that does not fail, on a stage -/
theorem six_go {a : Ad} {K : PySem.W.Frag} {G H : Hp} {y p u sd : Addr} {x : Pl} {s : Stt} {o : Op} {Q : VK} (hS : StAt a K G H y p u sd x s.now s.es s.us) (hGH : Same G H) (hx : x.Ok) (hs : SttOk x s) (hlen : s.es.length + s.us.length ≤ 100000) (he : errOf x s.now o = none)
    (k : ∀ (G' H' : Hp) (u' : Addr) (v : V), Mv [y, p, u] G H G' H' → (u' = u ∨ H u' = none) → StAt a K G' H' y p u' sd x (aftS x s o).now (aftS x s o).es (aftS x s o).us → Dp K G' v (valS x s o) → Q v H') : SixD a K y H Q (opW o) (opA o) := by
  obtain ⟨n, es, us⟩ := s
  obtain ⟨dy, pv, nv, vs, ws, h1, h2, h3, h4, h5, h6, h7⟩ := hS.ex
  have les : es.length ≤ 100000 := by have : es.length + us.length ≤ 100000 := hlen; omega
  have lus : us.length ≤ 100000 := by have : es.length + us.length ≤ 100000 := hlen; omega
  have sub : ∀ b ∈ [y, p], b ∈ [y, p, u] ∨ H b = none := fun b hb => .inl (by simp at hb ⊢; rcases hb with q | q; exact .inl q; exact .inr (.inl q))
  dsimp only at hs he hlen hS
  cases o with
  | step c => exact .inl ⟨_, rfl, rfl, fun E' => ⟨⟨y, p, u, sd, G, x, n, es, us, c, rfl, hS, hGH, hx, err_step he, les, fun G' H' u' f M hu S hf => k G' H' u' _ (M.mono sub) (.inr hu) S hf⟩⟩⟩
  | add c =>
    obtain ⟨e1, e2⟩ := err_add he
    have hb : n.sit.sh[c]? = some (n.sit.sh.getD c 0) := by rw [List.getD_eq_getElem?_getD, List.getElem?_eq_getElem e1]; rfl
    have h3' : n.sit.sh.getD c 0 ≤ 3 := sh_le hS.ok c
    exact .inr (.inl ⟨_, rfl, rfl, fun E' => ⟨⟨y, p, u, sd, G, x, n, es, us, c, n.sit.sh.getD c 0, n.sit.sh.getD c 0 + 1, rfl, hS, hGH, hb, by rw [if_pos rfl], h3', by omega, hx, les, fun G' H' u' M hu S => k G' H' u' _ (M.mono sub) (.inr hu) S (.int _)⟩⟩⟩)
  | take c =>
    obtain ⟨e1, e2⟩ := err_take he
    have hb : n.sit.sh[c]? = some (n.sit.sh.getD c 0) := by rw [List.getD_eq_getElem?_getD, List.getElem?_eq_getElem e1]; rfl
    have h3' : n.sit.sh.getD c 0 ≤ 3 := sh_le hS.ok c
    exact .inr (.inr (.inl ⟨_, rfl, rfl, fun E' => ⟨⟨y, p, u, sd, G, x, n, es, us, c, n.sit.sh.getD c 0, n.sit.sh.getD c 0 - 1, rfl, hS, hGH, hb, by rw [if_neg (by decide)]; omega, h3', by omega, hx, les, fun G' H' u' M hu S => k G' H' u' _ (M.mono sub) (.inr hu) S (.int _)⟩⟩⟩))
  | jump i t =>
    obtain ⟨e1, e2⟩ := err_jump he
    have hb : n.sit.ns[i]? = some (n.sit.ns.getD i 0) := by
      have hn2 : n.sit.ns.length = 2 := hS.ok.n2
      rw [List.getD_eq_getElem?_getD, List.getElem?_eq_getElem (by omega)]
      rfl
    exact .inr (.inr (.inr (.inl ⟨_, _, rfl, rfl, fun E' => ⟨⟨y, p, u, sd, G, x, n, es, us, i, t, n.sit.ns.getD i 0, rfl, hS, hGH, e1, e2, hb, les, fun G' H' u' M hu S => k G' H' u' _ (M.mono sub) (.inr hu) S (.int _)⟩⟩⟩)))
  | undo =>
    refine .inr (.inr (.inr (.inr (.inl ⟨rfl, rfl, fun E' => ⟨⟨y, p, u, sd, G, x, n, es, us, rfl, hS, hGH, lus, ?_⟩⟩⟩))))
    rcases List.eq_nil_or_concat es with rfl | ⟨es0, e, rfl⟩
    · exact .inl ⟨rfl, fun G' H' M S => k G' H' u _ M (.inl rfl) S (.bl false)⟩
    · rw [List.concat_eq_append] at hs k ⊢
      refine .inr ⟨es0, e, rfl, (hs.eo e (List.mem_append_right _ List.mem_cons_self)).1, fun G' H' M S => k G' H' u _ M (.inl rfl) ?_ ?_⟩
      · rw [aftS_undo1]; exact S
      · show Dp K G' (.bl true) (.bool (!(es0 ++ [e]).isEmpty))
        have : (!(es0 ++ [e]).isEmpty) = true := by cases es0 <;> rfl
        rw [this]
        exact .bl true
  | redo =>
    refine .inr (.inr (.inr (.inr (.inr ⟨rfl, rfl, fun E' => ⟨⟨y, p, u, sd, G, x, n, es, us, rfl, hS, hGH, les, ?_⟩⟩⟩))))
    rcases List.eq_nil_or_concat us with rfl | ⟨us0, e, rfl⟩
    · exact .inl ⟨rfl, fun G' H' M S => k G' H' u _ M (.inl rfl) S (.bl false)⟩
    · rw [List.concat_eq_append] at hs k ⊢
      refine .inr ⟨us0, e, rfl, (hs.uo e (List.mem_append_right _ List.mem_cons_self)).2, fun G' H' M S => k G' H' u _ M (.inl rfl) ?_ ?_⟩
      · rw [aftS_redo1]; exact S
      · show Dp K G' (.bl true) (.bool (!(us0 ++ [e]).isEmpty))
        have : (!(us0 ++ [e]).isEmpty) = true := by cases us0 <;> rfl
        rw [this]
        exact .bl true
theorem exec_go {a : Ad} {K : PySem.W.Frag} {G H : Hp} {y p u sd r : Addr} {x : Pl} {s : Stt} {o : Op} {Q : VK} {E : XK} (hS : StAt a K G H y p u sd x s.now s.es s.us) (hGH : Same G H) (hx : x.Ok) (hs : SttOk x s) (hlen : s.es.length + s.us.length ≤ 100000) (hr : SqT K H r (.str (opW o) :: opA o)) (he : errOf x s.now o = none)
    (k : ∀ (G' H' : Hp) (u' : Addr) (v : V), Mv [y, p, u] G H G' H' → (u' = u ∨ H u' = none) → StAt a K G' H' y p u' sd x (aftS x s o).now (aftS x s o).es (aftS x s o).us → Dp K G' v (valS x s o) → Q v H') : spExec a K [.ref y, .ref r] H Q E := by
  obtain ⟨dy, pv, nv, vs, ws, h1, _⟩ := hS.ex
  exact ⟨⟨y, r, dy, _, opW o, opA o, rfl, h1, stg_no, hr, six_go hS hGH hx hs hlen he k⟩⟩
/-! ### lists of operations -/
def runS (x : Pl) : Stt → List Op → Stt
  | s, [] => s
  | s, o :: os => runS x (aftS x s o) os
def valsS (x : Pl) : Stt → List Op → List PyData
  | _, [] => []
  | s, o :: os => valS x s o :: valsS x (aftS x s o) os
def goodS (x : Pl) : Stt → List Op → Prop
  | _, [] => True
  | s, o :: os => errOf x s.now o = none ∧ goodS x (aftS x s o) os
theorem runS_snoc {x : Pl} : ∀ (os : List Op) (s : Stt) (o : Op), runS x s (os ++ [o]) = aftS x (runS x s os) o
  | [], _, _ => rfl
  | p :: os, s, o => runS_snoc os (aftS x s p) o
theorem valsS_snoc {x : Pl} : ∀ (os : List Op) (s : Stt) (o : Op), valsS x s (os ++ [o]) = valsS x s os ++ [valS x (runS x s os) o]
  | [], _, _ => rfl
  | p :: os, s, o => congrArg (valS x s p :: ·) (valsS_snoc os (aftS x s p) o)
theorem goodS_snoc {x : Pl} : ∀ (os : List Op) (s : Stt) (o : Op), goodS x s (os ++ [o]) ↔ goodS x s os ∧ errOf x (runS x s os).now o = none
  | [], s, o => ⟨fun h => ⟨trivial, h.1⟩, fun h => ⟨h.2, trivial⟩⟩
  | p :: os, s, o => by
    show (_ ∧ goodS x (aftS x s p) (os ++ [o])) ↔ (_ ∧ goodS x (aftS x s p) os) ∧ _
    rw [goodS_snoc os (aftS x s p) o, and_assoc]
    exact Iff.rfl
theorem runS_app {x : Pl} : ∀ (os ps : List Op) (s : Stt), runS x s (os ++ ps) = runS x (runS x s os) ps
  | [], _, _ => rfl
  | o :: os, ps, s => runS_app os ps (aftS x s o)
theorem valsS_app {x : Pl} : ∀ (os ps : List Op) (s : Stt), valsS x s (os ++ ps) = valsS x s os ++ valsS x (runS x s os) ps
  | [], _, _ => rfl
  | o :: os, ps, s => congrArg (valS x s o :: ·) (valsS_app os ps (aftS x s o))
theorem goodS_app {x : Pl} : ∀ (os ps : List Op) (s : Stt), goodS x s (os ++ ps) ↔ goodS x s os ∧ goodS x (runS x s os) ps
  | [], ps, s => ⟨fun h => ⟨trivial, h⟩, fun h => h.2⟩
  | o :: os, ps, s => by
    show (_ ∧ goodS x (aftS x s o) (os ++ ps)) ↔ (_ ∧ goodS x (aftS x s o) os) ∧ _
    rw [goodS_app os ps (aftS x s o), and_assoc]
    exact Iff.rfl
theorem valsS_len {x : Pl} : ∀ (os : List Op) (s : Stt), (valsS x s os).length = os.length
  | [], _ => rfl
  | o :: os, s => congrArg (· + 1) (valsS_len os (aftS x s o))
theorem runS_ok {x : Pl} (hx : x.Ok) : ∀ (os : List Op) {s : Stt}, SttOk x s → goodS x s os → SttOk x (runS x s os) ∧ (runS x s os).es.length + (runS x s os).us.length ≤ s.es.length + s.us.length + os.length
  | [], _, h, _ => ⟨h, Nat.le_refl _⟩
  | o :: os, s, h, g => by
    obtain ⟨h1, h2⟩ := aftS_ok hx h g.1
    obtain ⟨h3, h4⟩ := runS_ok hx os h1 g.2
    refine ⟨h3, Nat.le_trans h4 ?_⟩
    rw [List.length_cons]
    omega
theorem opLen_of (o : Op) : ∃ ds, opD o = .tuple (.str (opW o) :: ds) ∧ opLen (opW o) (ds.length + 1) := by
  cases o with
  | step c => exact ⟨_, rfl, .inl ⟨rfl, rfl⟩⟩
  | add c => exact ⟨_, rfl, .inr (.inl ⟨rfl, rfl⟩)⟩
  | take c => exact ⟨_, rfl, .inr (.inr (.inl ⟨rfl, rfl⟩))⟩
  | jump i s => exact ⟨_, rfl, .inr (.inr (.inr (.inl ⟨rfl, rfl⟩)))⟩
  | undo => exact ⟨_, rfl, .inr (.inr (.inr (.inr (.inl ⟨rfl, rfl⟩))))⟩
  | redo => exact ⟨_, rfl, .inr (.inr (.inr (.inr (.inr ⟨rfl, rfl⟩))))⟩
theorem lay_op (o : Op) : Lay 1 (opD o) := by
  have w : ∀ z ∈ [Str.ofString "step", Str.ofString "add", Str.ofString "take", Str.ofString "jump", Str.ofString "undo", Str.ofString "redo"], PyData.strOk z = true := by decide +kernel
  cases o with
  | step c => exact Lay.tuple (lay2 (.str (w _ (by simp))) (.int _))
  | add c => exact Lay.tuple (lay2 (.str (w _ (by simp))) (.int _))
  | take c => exact Lay.tuple (lay2 (.str (w _ (by simp))) (.int _))
  | jump i s => exact Lay.tuple (fine3 (n := 0) (.str (w _ (by simp))) (.int _) (.int _))
  | undo => exact Lay.tuple fun d hd => by rw [List.mem_singleton.mp hd]; exact .str (w _ (by simp))
  | redo => exact Lay.tuple fun d hd => by rw [List.mem_singleton.mp hd]; exact .str (w _ (by simp))
theorem op_shaped (o : Op) : SeqAt.shaped (opD o) = true := by
  obtain ⟨ds, e, _⟩ := opLen_of o
  have h := lay_op o
  rw [e] at h ⊢
  exact h.shapedT (by decide)
theorem isop_go {K : PySem.W.Frag} {G H : Hp} {v : V} {o : Op} {Q : VK} {E : XK} (h : Dp K G v (opD o)) (s : Same G H) (k : ∀ H', Same H H' → Q (.bl true) H') : spIsOp K [v] H Q E := by
  obtain ⟨ds, e, hl⟩ := opLen_of o
  obtain ⟨t, rfl, ht⟩ := opD_inv h
  refine ⟨⟨t, opW o, ds, rfl, ?_, ?_, hl, k⟩⟩
  · rw [← e]; exact Dp.mono s _ _ h
  · rw [← e]; exact op_shaped o
theorem ops_at {K : PySem.W.Frag} {G : Hp} {xs : List V} {ops : List Op} {j : Nat} {z : V} (h : DpAll K G xs (ops.map opD)) (hz : xs[j]? = some z) : ∃ o, ops[j]? = some o ∧ Dp K G z (opD o) := by
  obtain ⟨d, hd, hv⟩ := DpAll.get h hz
  rw [List.getElem?_map] at hd
  cases e : ops[j]? with
  | none => rw [e] at hd; cases hd
  | some o => rw [e] at hd; cases hd; exact ⟨o, rfl, hv⟩
theorem take_oneS {α : Type} : ∀ {l : List α} {i : Nat} {x : α}, l[i]? = some x → l.take (i + 1) = l.take i ++ [x]
  | y :: l, 0, x, h => by cases h; rfl
  | y :: l, i + 1, x, h => by rw [List.take_succ_cons, List.take_succ_cons, take_oneS (l := l) h]; rfl
theorem goodS_take {x : Pl} {s : Stt} {ops : List Op} {j : Nat} {o : Op} (h : goodS x s ops) (e : ops[j]? = some o) : goodS x s (ops.take j) ∧ errOf x (runS x s (ops.take j)).now o = none := by
  have h1 : goodS x s (ops.take (j + 1)) := by
    have := h
    rw [← List.take_append_drop (j + 1) ops] at this
    exact ((goodS_app _ _ _).mp this).1
  rw [take_oneS e] at h1
  exact (goodS_snoc _ _ _).mp h1
structure spBatch (a : Ad) (K : PySem.W.Frag) (vs : List V) (H : Hp) (Q : VK) (E : XK) : Prop where
  ex : ∃ (y p u sd l : Addr) (G : Hp) (x : Pl) (s : Stt) (ops : List Op) (xs : List V), vs = [.ref y, .ref l] ∧ StAt a K G H y p u sd x s.now s.es s.us ∧ Same G H ∧ x.Ok ∧ SttOk x s ∧ s.es.length + s.us.length + ops.length ≤ 1000 ∧ SqL K G l xs ∧ DpAll K G xs (ops.map opD) ∧ goodS x s ops ∧
    ∀ (G' H' : Hp) (u' f : Addr), Mv [y, p, u] G H G' H' → (u' = u ∨ H u' = none) → StAt a K G' H' y p u' sd x (runS x s ops).now (runS x s ops).es (runS x s ops).us → Dp K G' (.ref f) (.list (valsS x s ops)) → Q (.ref f) H'
abbrev tBatch (a : Ad) (K : PySem.W.Frag) : WX → TS := fun _ => tRet (tLc (iList K (tVar 1)) (gName 3) tYes (tMeth a.C_Stage (Str.ofString "execute") (spExec a K) [] C8.E0 (tVar 0) (tCons (tVar 3) tNil)) [3])
section
variable {P : Program} {w : World} {K : PySem.W.Frag} {mg : Str → Option Value} {base : Heap} {a : Ad}
theorem ok_Stage_batch (T : Txt K mg a) (TD : TDic w K a) : FnOk P w K mg base CX0 9 a.f_Stage_batch a.d_Stage_batch ["self", "operations"] (spBatch a K) := by
  refine T.F_Stage_batch.ok sc_Stage_batch (fun vs H Q E h => ?_) (fun cdv A outer s0 H vs Q E hr h => ?_)
  · obtain ⟨⟨y, p, u, sd, l, G, x, s, ops, xs, rfl, _⟩⟩ := h
    rfl
  · obtain ⟨⟨y, p, u, sd, l, G, x, s, ops, xs, rfl, hS, hGH, hx, hs, hlen, hl, hD, hgood, k⟩⟩ := h
    refine ⟨_, (pss_cons (ps_if (pt_not (pt_val (pe_callB call_isi (by rfl) T.z_isinstance (by decide +kernel) (pa_cons (pv 1) (pa_cons (pe_bltn (v := .ty "list") (by rfl) T.z_list (by decide +kernel) rfl) pa_nil))))) pss_never pss_nil)
      (pss_cons (ps_for PassesOwn.never rfl (pi_enum (by rfl) T.z_enumerate (pa_cons (pv 1) pa_nil)) (pg_tup (by rfl) (pgs_cons (pg_name (i := 2) sc_Stage_batch.nd rfl (Or.inl rfl)) (pgs_cons (pg_name (i := 3) sc_Stage_batch.nd rfl (Or.inl rfl)) pgs_nil))) (pss_one (ps_if (pt_not (pt_val (pe_call (ok_is_operation T TD) (hr.mono (by decide)) rfl T.m_is_operation T.F_is_operation.kp (b_is_operation T) .nil pass0 (pa_cons (pv 3) pa_nil)))) pss_never pss_nil)))
      (pss_cons (ps_set (i := 4) sc_Stage_batch.nd rfl (Or.inl rfl) (pe_tup (pa_cons (pe_fld (pv 0) rfl) (pa_cons (pe_callTy call_list_of (by rfl) T.z_list (by decide +kernel) (pa_cons (pe_fld (pv 0) rfl) pa_nil)) (pa_cons (pe_callTy call_list_of (by rfl) T.z_list (by decide +kernel) (pa_cons (pe_fld (pv 0) rfl) pa_nil)) pa_nil)))))
      (pss_one (ps_try_only (tb := tBatch a K) (c := .ref a.X_BotError) (ts := fun _ _ _ => tNever) rfl rfl ⟨rfl, by decide, .inl T.e_BotError⟩ L2.takes0 (fun W pn xe tk hp => (pss_one (ps_ret (pe_lc (own := [("operation", 3)]) (g := gName 3) (tt := tYes) rfl sc_Stage_batch.nd (pi_list (pv 1)) (blkOk_by (own := [("operation", 3)]) (N := ["self", "operations", "place", "operation", "before"]) (sc := (defScope s_Stage_batch)) (by decide +kernel)) (fun _ _ _ _ _ => (pg_name (i := 3) sc_Stage_batch.nd rfl (Or.inl rfl))) (fun _ _ _ _ _ => pts_nil) (fun _ _ _ _ _ => by exact (pe_meth (pv 0) T.cl_Stage T.M_Stage_execute (ok_Stage_execute T) (hr.mono (by decide)) (b_Stage_execute T) .nil pass0 (pa_cons (pv 3) pa_nil))))))) (fun _ _ _ _ _ _ _ => pss_never)))))), ?_⟩
    have hxl : xs.length = ops.length := by rw [DpAll.len hD, List.length_map]
    refine ⟨_, rfl, _, _, _, _, true, rfl, .ty _, SqL.ty (hGH.seq hl), kf (by decide +kernel), _, rfl, ite_f rfl ?_⟩
    refine ⟨_, rfl, l, _, rfl, hGH.seq hl, for_enumL (K := K) (a := l) (xs := xs) (fun j σ H' => ∃ (v2 v3 : Option V), σ = [some (.ref y), some (.ref l), v2, v3, none] ∧ Pt G H G H') ⟨none, none, rfl, Pt.start hGH⟩ (fun j σ H' ⟨_, _, _, B⟩ => B.s.seq hl) ?_ ?_⟩
    · rintro j z t σ H1 hz ⟨v2, v3, rfl, B1⟩ ht
      obtain ⟨o, ho, hzD⟩ := ops_at hD hz
      have B2 : Pt G H G (upd H1 t (.tup [.int (j : Nat), z])) := ⟨B1.ext.lay ht, B1.sm.trans (same_new ht)⟩
      refine ⟨t, _, rfl, SqT.of upd_same, rfl, _, _, rfl, _, _, rfl, rfl, _, rfl, isop_go hzD B2.s fun H3 s3 => ⟨_, rfl, ite_f rfl ⟨_, _, rfl, B2.ext.trans (Ext.ofSame B2.s s3), B2.sm.trans s3⟩⟩⟩
    rintro σ H1 ⟨v2, v3, rfl, B1⟩
    obtain ⟨dy, pv, nv, vs, ws, h1, h2, h3, h4, h5, h6, h7⟩ := hS.ex
    have h1a := B1.sm _ _ h1
    have h2a := B1.sm _ _ h2
    have h3a := B1.sm _ _ h3
    refine ⟨_, rfl, y, _, dy, _, nv, rfl, h1a, T.cl_Stage, T.n_Stage_now, (by kernel_rfl), _, rfl, y, _, dy, _, .ref p, rfl, h1a, T.cl_Stage, T.n_Stage_past, (by kernel_rfl), p, _, rfl, .inl (SqL.of h2a), fun l1 hl1 => ?_⟩
    have B2 : Pt G H G (upd H1 l1 (.lst vs)) := ⟨B1.ext.lay hl1, B1.sm.trans (same_new hl1)⟩
    refine ⟨_, rfl, y, _, dy, _, .ref u, rfl, B2.sm _ _ h1, T.cl_Stage, T.n_Stage_undone, (by kernel_rfl), u, _, rfl, .inl (SqL.of (B2.sm _ _ h3)), fun l2 hl2 => ?_⟩
    have B3 : Pt G H G (upd (upd H1 l1 (.lst vs)) l2 (.lst ws)) := ⟨B2.ext.lay hl2, B2.sm.trans (same_new hl2)⟩
    refine ⟨(by show 3 ≤ sizeLine; decide), fun t3 ht3 => ?_⟩
    have B4 : Pt G H G (upd (upd (upd H1 l1 (.lst vs)) l2 (.lst ws)) t3 (.tup [nv, .ref l1, .ref l2])) := ⟨B3.ext.lay ht3, B3.sm.trans (same_new ht3)⟩
    revert B4
    generalize upd (upd (upd H1 l1 (.lst vs)) l2 (.lst ws)) t3 (.tup [nv, .ref l1, .ref l2]) = H4
    intro B4
    dsimp only [gName]
    have M4 : Mv [y, p, u] G H G H4 := (Mv.start hGH).pure B4.ext B4.sm
    have S4 : StAt a K G H4 y p u sd x s.now s.es s.us := hS.keep (Same.refl _) hS.gy hS.gp hS.gu fun b _ o e => B4.sm _ _ e
    refine ⟨_, rfl, l, rfl, ⟨_, B4.s.seq hl⟩, fun D hD' => ?_⟩
    have D0 : H D = none := M4.free hD'
    have DG : G D = none := M4.freeG hD'
    have yD := ne_of_none (B4.sm _ _ h1) hD'
    have pD := ne_of_none (B4.sm _ _ h2) hD'
    have uD := ne_of_none (B4.sm _ _ h3) hD'
    refine lc_list (K := K) (a := l) (xs := xs) (fun j H' => ∃ (G' : Hp) (u' : Addr) (fs : List V), Mv [y, p, u] G H G' H' ∧ (u' = u ∨ H u' = none) ∧ D ≠ u' ∧ StAt a K G' H' y p u' sd x (runS x s (ops.take j)).now (runS x s (ops.take j)).es (runS x s (ops.take j)).us ∧ G' D = none ∧ H' D = some (.lst fs) ∧ fs.length = j ∧ DpAll K G' fs (valsS x s (ops.take j))) ⟨G, u, [], M4.lay hD' _, .inl rfl, uD.symm, ?_, DG, upd_same, rfl, .nil⟩ (fun j H' _ ⟨G', _, _, M, _⟩ => M.s.seq (M.g.seq hl)) ?_ ?_
    · exact S4.keep (Same.refl _) hS.gy hS.gp hS.gu fun b _ o e => by rw [upd_ne (ne_of_none e hD')]; exact e
    · rintro j z H5 hz ⟨G5, u5, fs, M5, hu5, Du5, S5, DG5, hD5, hfl, hfs⟩
      obtain ⟨o, ho, hzD⟩ := ops_at hD hz
      obtain ⟨g1, g2⟩ := goodS_take hgood ho
      have hj : j < ops.length := (List.getElem?_eq_some_iff.mp ho).1
      obtain ⟨ok5, len5⟩ := runS_ok hx (ops.take j) hs g1
      rw [List.length_take] at len5
      obtain ⟨r, rfl, hr1⟩ := opD_inv hzD
      obtain ⟨dy5, pv5, nv5, vs5, ws5, k1, k2, k3, k4, k5, k6, k7⟩ := S5.ex
      have yD5 := M5.ext
      refine ⟨rfl, _, rfl, y, dy5, _, rfl, k1, (by kernel_rfl), _, rfl, exec_go S5 M5.s hx ok5 (by omega) (Same.seqT (M5.g.trans M5.s) hr1) g2 fun G6 H6 u6 v6 M6 hu6 S6 d6 => ?_⟩
      have hD6 := M6.kept hD5 (by simp [yD.symm, pD.symm, Du5])
      have hu6' : u6 = u ∨ H u6 = none := by
        rcases hu6 with rfl | q
        · exact hu5
        · exact .inr (M5.free q)
      have Du6 : D ≠ u6 := by
        rcases hu6 with rfl | q
        · exact Du5
        · exact ne_of_none hD5 q
      have M56 : Mv [y, p, u] G H G6 H6 := M5.join M6 fun c hc => by
        simp only [List.mem_cons, List.not_mem_nil, or_false] at hc
        rcases hc with rfl | rfl | rfl
        · exact .inl (by simp)
        · exact .inl (by simp)
        · rcases hu5 with rfl | q
          · exact .inl (by simp)
          · exact .inr q
      have DG6 := M6.ext.out DG5 hD5
      refine ⟨_, hD6, smaller 1000 (by omega) (by decide), G6, u6, fs ++ [v6], M56.put (.inr D0) DG6 _, hu6', Du6, ?_, DG6, upd_same, by rw [List.length_append, hfl]; rfl, ?_⟩
      · rw [take_oneS ho, runS_snoc]
        exact S6.keep (Same.refl _) S6.gy S6.gp S6.gu fun b hb o e => by
          rcases hb with rfl | rfl | rfl
          · rw [upd_ne yD]; exact e
          · rw [upd_ne pD]; exact e
          · rw [upd_ne Du6.symm]; exact e
      · rw [take_oneS ho, valsS_snoc]
        exact DpAll.snoc (Dp.monoAll M6.g _ _ hfs) d6
    rintro H5 ⟨G5, u5, fs, M5, hu5, Du5, S5, DG5, hD5, hfl, hfs⟩
    rw [hxl, List.take_length] at S5 hfs
    have M6 := M5.freeze D0 hD5
    refine k _ _ u5 D M6 hu5 (S5.keep (same_new DG5) ?_ ?_ ?_ fun b _ o e => e) (.lst (SqL.of upd_same) (Dp.monoAll (same_new DG5) _ _ hfs))
    · rw [upd_ne yD]; exact S5.gy
    · rw [upd_ne pD]; exact S5.gp
    · rw [upd_ne Du5.symm]; exact S5.gu
end
end Sb

namespace Sb
open PySem PySem.Spec PyProof.Rows L2 TL
def st0 (x : Pl) : Stt := ⟨⟨sit0 x, 0, 0, 0⟩, [], []⟩
theorem st0_ok {x : Pl} (hx : x.Ok) : SttOk x (st0 x) := ⟨sitAt_ok hx 0, (fun e m => nomatch m), (fun e m => nomatch m), .nil, .nil _⟩
structure spReplay (a : Ad) (K : PySem.W.Frag) (vs : List V) (H : Hp) (Q : VK) (E : XK) : Prop where
  ex : ∃ (l : Addr) (G : Hp) (src : Str) (x : Pl) (ops : List Op) (xs : List V), vs = [.ref a.C_Stage, .str src, .ref l] ∧ Same G H ∧ Loads src x ∧ x.Ok ∧ SqL K G l xs ∧ DpAll K G xs (ops.map opD) ∧ ops.length ≤ 1000 ∧ goodS x (st0 x) ops ∧
    ∀ (G' H' : Hp) (y p u sd : Addr), Mv [] G H G' H' → H y = none → H p = none → H u = none → H sd = none → StAt a K G' H' y p u sd x (runS x (st0 x) ops).now (runS x (st0 x) ops).es (runS x (st0 x) ops).us → H' sd = some (.dK []) → G' sd = none → Q (.ref y) H'
def SnapAt (a : Ad) (K : PySem.W.Frag) (G : Hp) (v : V) (s : Stt) : Prop := ∃ (t l1 l2 : Addr) (nv : V) (vs ws : List V), v = .ref t ∧ SqT K G t [nv, .ref l1, .ref l2] ∧ NwAt a K G nv s.now ∧ SqL K G l1 vs ∧ EntsAt a K G vs s.es ∧ SqL K G l2 ws ∧ EntsAt a K G ws s.us
theorem SnapAt.mono {a : Ad} {K : PySem.W.Frag} {G G' : Hp} {v : V} {s : Stt} (m : Same G G') (h : SnapAt a K G v s) : SnapAt a K G' v s := by
  obtain ⟨t, l1, l2, nv, vs, ws, rfl, h1, h2, h3, h4, h5, h6⟩ := h
  exact ⟨t, l1, l2, nv, vs, ws, rfl, Same.seqT m h1, h2.mono m, m.seq h3, h4.mono m, m.seq h5, h6.mono m⟩
def lettersS : Str := Str.ofString "abcdefghijklmnopqrstuvwxyz"
structure NameOk (z : Str) : Prop where
  l1 : 1 ≤ z.length
  l8 : z.length ≤ 8
  al : ∀ c ∈ z.cps.toList, c ∈ lettersS.cps.toList
structure spSave (a : Ad) (K : PySem.W.Frag) (vs : List V) (H : Hp) (Q : VK) (E : XK) : Prop where
  ex : ∃ (y p u sd : Addr) (G : Hp) (x : Pl) (s : Stt) (z : Str) (kvs : List (Key × V)), vs = [.ref y, .str z] ∧ StAt a K G H y p u sd x s.now s.es s.us ∧ Same G H ∧ NameOk z ∧ H sd = some (.dK kvs) ∧ G sd = none ∧ kvs.length ≤ 1000 ∧
    ∀ (G' H' : Hp) (v : V), Mv [sd] G H G' H' → H' sd = some (.dK (putK kvs (.inr z) v)) → SnapAt a K G' v s → Q .non H'
structure spRestore (a : Ad) (K : PySem.W.Frag) (vs : List V) (H : Hp) (Q : VK) (E : XK) : Prop where
  ex : ∃ (y p u sd : Addr) (G : Hp) (x : Pl) (s s1 : Stt) (z : Str) (v : V) (kvs : List (Key × V)), vs = [.ref y, .str z] ∧ StAt a K G H y p u sd x s.now s.es s.us ∧ Same G H ∧ H sd = some (.dK kvs) ∧ valV kvs (.inr z) = some v ∧ SnapAt a K G v s1 ∧ SitOk x s1.now.sit ∧
    ∀ (G' H' : Hp) (p' u' : Addr), Mv [y] G H G' H' → H p' = none → H u' = none → p' ≠ u' → StAt a K G' H' y p' u' sd x s1.now s1.es s1.us → Q .non H'
section
variable {P : Program} {w : World} {K : PySem.W.Frag} {mg : Str → Option Value} {base : Heap} {a : Ad}
theorem ok_Stage_replay (T : Txt K mg a) (TD : TDic w K a) : FnOk P w K mg base CX0 12 a.f_Stage_replay a.d_Stage_replay ["cls", "plan", "operations"] (spReplay a K) := by
  refine T.F_Stage_replay.ok sc_Stage_replay (fun vs H Q E h => ?_) (fun cdv A outer s0 H vs Q E hr h => ?_)
  · obtain ⟨⟨l, G, src, x, ops, xs, rfl, _⟩⟩ := h
    rfl
  · obtain ⟨⟨l, G, src, x, ops, xs, rfl, hGH, hld, hx, hl, hD, hlen, hgood, k⟩⟩ := h
    refine ⟨_, (pss_cons (ps_set (i := 3) sc_Stage_replay.nd rfl (Or.inl rfl) (pe_makeL (i := 0) T.mk_Stage (ok_Stage_init T) (hr.mono (by decide)) (b_Stage_init T) .nil pass0 (pa_cons (pv 1) pa_nil)))
      (pss_cons (ps_if (pt_not (pt_val (pe_callB call_isi (by rfl) T.z_isinstance (by decide +kernel) (pa_cons (pv 2) (pa_cons (pe_bltn (v := .ty "list") (by rfl) T.z_list (by decide +kernel) rfl) pa_nil))))) pss_never pss_nil)
      (pss_cons (ps_for PassesOwn.never rfl (pi_enum (by rfl) T.z_enumerate (pa_cons (pv 2) pa_nil)) (pg_tup (by rfl) (pgs_cons (pg_name (i := 4) sc_Stage_replay.nd rfl (Or.inl rfl)) (pgs_cons (pg_name (i := 5) sc_Stage_replay.nd rfl (Or.inl rfl)) pgs_nil))) (pss_cons (ps_if (pt_not (pt_val (pe_call (ok_is_operation T TD) (hr.mono (by decide)) rfl T.m_is_operation T.F_is_operation.kp (b_is_operation T) .nil pass0 (pa_cons (pv 5) pa_nil)))) pss_never pss_nil)
      (pss_one (ps_try_thru0 (pss_one (ps_expr (pe_meth (pv 3) T.cl_Stage T.M_Stage_execute (ok_Stage_execute T) (hr.mono (by decide)) (b_Stage_execute T) .nil pass0 (pa_cons (pv 5) pa_nil))))))))
      (pss_one (ps_ret (pv 3)))))), ?_⟩
    have hxl : xs.length = ops.length := by rw [DpAll.len hD, List.length_map]
    refine ⟨rfl, _, rfl, fun y dy ny nd ne => ?_⟩
    have M1 : Mv [] G H G _ := ((Mv.start hGH).lay nd (.own y)).lay (make_free ny ne) (.ins a.C_Stage dy [])
    refine ⟨⟨y, dy, G, src, x, rfl, upd_same, Same.free hGH ny, M1.s, hld, hx, fun G7 H7 p u sd M7 hp hu hsd hsd7 gsd7 sdp sdu S7 => ⟨rfl, ?_⟩⟩⟩
    have M2 : Mv [] G H G7 H7 := M1.join M7 fun c hc => .inr (by rw [List.mem_singleton.mp hc]; exact ny)
    have hp0 := M1.free hp
    have hu0 := M1.free hu
    have hsd0 := M1.free hsd
    dsimp only [gName]
    refine ⟨_, rfl, _, _, _, _, true, rfl, .ty _, SqL.ty ((M2.g.trans M2.s).seq hl), kf (by decide +kernel), _, rfl, ite_f rfl ?_⟩
    refine ⟨_, rfl, l, _, rfl, (M2.g.trans M2.s).seq hl, for_enumL (K := K) (a := l) (xs := xs) (fun j σ H' => ∃ (G' : Hp) (u' : Addr) (v4 v5 : Option V), σ = [some (.ref a.C_Stage), some (.str src), some (.ref l), some (.ref y), v4, v5, none] ∧ Mv [y, p, u] G7 H7 G' H' ∧ (u' = u ∨ H7 u' = none) ∧ StAt a K G' H' y p u' sd x (runS x (st0 x) (ops.take j)).now (runS x (st0 x) (ops.take j)).es (runS x (st0 x) (ops.take j)).us) ⟨G7, u, none, none, rfl, Mv.start M2.s, .inl rfl, S7⟩ (fun j σ H' ⟨_, _, _, _, _, B, _⟩ => B.s.seq (B.g.seq (M2.g.seq hl))) ?_ ?_⟩
    · rintro j z t σ H1 hz ⟨G1, u1, v4, v5, rfl, B1, hu1, S1⟩ ht
      obtain ⟨o, ho, hzD⟩ := ops_at hD hz
      obtain ⟨g1, g2⟩ := goodS_take hgood ho
      have hj : j < ops.length := (List.getElem?_eq_some_iff.mp ho).1
      obtain ⟨ok5, len5⟩ := runS_ok hx (ops.take j) (st0_ok hx) g1
      rw [List.length_take] at len5
      have len6 : (runS x (st0 x) (ops.take j)).es.length + (runS x (st0 x) (ops.take j)).us.length ≤ 100000 := by
        have e0 : (st0 x).es.length + (st0 x).us.length = 0 := rfl
        omega
      have B2 := B1.lay ht (.tup [.int (j : Nat), z])
      have hzD' := Dp.mono (M2.g.trans B2.g) _ _ hzD
      refine ⟨t, _, rfl, SqT.of upd_same, rfl, _, _, rfl, _, _, rfl, rfl, _, rfl, isop_go hzD' B2.s fun H3 s3 => ⟨_, rfl, ite_f rfl ?_⟩⟩
      have e3 : Ext G1 (upd H1 t (.tup [.int (j : Nat), z])) G1 H3 := Ext.ofSame B2.s s3
      have B3 := B2.pure e3 s3
      have S3 : StAt a K G1 H3 y p u1 sd x (runS x (st0 x) (ops.take j)).now (runS x (st0 x) (ops.take j)).es (runS x (st0 x) (ops.take j)).us := S1.keep (Same.refl _) S1.gy S1.gp S1.gu fun b _ o e => s3 _ _ ((upd_ne (ne_of_none e ht)).trans e)
      obtain ⟨r, rfl, hr1⟩ := opD_inv hzD'
      obtain ⟨dy3, pv3, nv3, vs3, ws3, k1, k2, k3, k4, k5, k6, k7⟩ := S3.ex
      refine ⟨_, rfl, y, dy3, _, rfl, k1, (by kernel_rfl), _, rfl, exec_go S3 B3.s hx ok5 len6 (Same.seqT B3.s hr1) g2 fun G6 H6 u6 v6 M6 hu6 S6 d6 => ?_⟩
      refine ⟨G6, u6, _, _, rfl, B3.join M6 fun c hc => ?_, ?_, ?_⟩
      · simp only [List.mem_cons, List.not_mem_nil, or_false] at hc
        rcases hc with rfl | rfl | rfl
        · exact .inl (by simp)
        · exact .inl (by simp)
        · rcases hu1 with rfl | q
          · exact .inl (by simp)
          · exact .inr q
      · rcases hu6 with rfl | q
        · exact hu1
        · exact .inr (B3.free q)
      · rw [take_oneS ho, runS_snoc]
        exact S6
    rintro σ H1 ⟨G1, u1, v4, v5, rfl, B1, hu1, S1⟩
    rw [hxl, List.take_length] at S1
    obtain ⟨dy7, pv7, nv7, vs7, ws7, k1, k2, k3, _⟩ := S7.ex
    have hy7 : sd ≠ y := fun e => by rw [e, k1] at hsd7; cases hsd7
    have hsdS : sd ∉ [y, p, u] := by simp [hy7, sdp, sdu]
    refine ⟨_, rfl, k G1 H1 y p u1 sd (M2.join B1 fun c hc => ?_) ny hp0 ?_ hsd0 S1 (B1.kept hsd7 hsdS) (B1.ext.out gsd7 hsd7)⟩
    · simp only [List.mem_cons, List.not_mem_nil, or_false] at hc
      rcases hc with rfl | rfl | rfl
      · exact .inr ny
      · exact .inr hp0
      · exact .inr hu0
    · rcases hu1 with rfl | q
      · exact hu0
      · exact M2.free q
end
end Sb

namespace Sb
open PySem PySem.Spec PyProof.Rows L2 TL
structure spDo (a : Ad) (K : PySem.W.Frag) (vs : List V) (H : Hp) (Q : VK) (E : XK) : Prop where
  ex : ∃ (y p u sd : Addr) (G : Hp) (x : Pl) (s : Stt) (o : Op) (ov : V), vs = [.ref y, ov] ∧ StAt a K G H y p u sd x s.now s.es s.us ∧ Same G H ∧ x.Ok ∧ SttOk x s ∧ s.es.length + s.us.length ≤ 100000 ∧ Dp K G ov (opD o) ∧ errOf x s.now o = none ∧
    ∀ (G' H' : Hp) (u' : Addr) (v : V), Mv [y, p, u] G H G' H' → (u' = u ∨ H u' = none) → StAt a K G' H' y p u' sd x (aftS x s o).now (aftS x s o).es (aftS x s o).us → Dp K G' v (valS x s o) → Q v H'
structure spStands (a : Ad) (K : PySem.W.Frag) (vs : List V) (H : Hp) (Q : VK) (E : XK) : Prop where
  ex : ∃ (y p u sd : Addr) (G : Hp) (x : Pl) (s : Stt) (wv : V), vs = [.ref y, wv] ∧ StAt a K G H y p u sd x s.now s.es s.us ∧ Same G H ∧ WAt K G wv x s ∧ s.es.length ≤ 1000 ∧ s.now.sit.cs.length ≤ 1000 ∧ s.now.sit.sh.length ≤ 1000 ∧ s.now.sit.hs.length ≤ 1000 ∧ Pure G H Q fun _ r => r = .bl true
theorem dne {z z' : Str} (h : ¬ z = z') : decide (V.str z = V.str z') = false := decide_eq_false fun e => by injection e with e; exact h e
theorem w_ks : (∀ z ∈ [Str.ofString "add", Str.ofString "take", Str.ofString "jump", Str.ofString "undo", Str.ofString "redo"], ¬ z = Str.ofString "step") ∧ (∀ z ∈ [Str.ofString "take", Str.ofString "jump", Str.ofString "undo", Str.ofString "redo"], ¬ z = Str.ofString "add") ∧ (∀ z ∈ [Str.ofString "jump", Str.ofString "undo", Str.ofString "redo"], ¬ z = Str.ofString "take") ∧ (∀ z ∈ [Str.ofString "undo", Str.ofString "redo"], ¬ z = Str.ofString "jump") ∧ ¬ Str.ofString "redo" = Str.ofString "undo" := by decide +kernel
def showD (s : Stt) : PyData := .list [natD s.now.tick, natsT s.now.sit.cs, natsD s.now.sit.sh, .tuple (s.now.sit.hs.map .bool), natsT [s.now.b0, s.now.b1], .list (s.es.map fun e => .str e.word)]
theorem fine_show {s : Stt} (h1 : s.es.length ≤ 1000) (h2 : s.now.sit.cs.length ≤ 1000) (h3 : s.now.sit.sh.length ≤ 1000) (h4 : s.now.sit.hs.length ≤ 1000) : Fine 3 (showD s) := by
  refine Fine.list (n := 2) (fun d hd => ?_) (by show 6 ≤ 1000000; decide)
  simp only [List.mem_cons, List.not_mem_nil, or_false] at hd
  rcases hd with rfl | rfl | rfl | rfl | rfl | rfl
  · exact .int _
  · exact fine_natsT (by omega)
  · exact fine_natsD (by omega)
  · exact Fine.tuple (fun d hd => by obtain ⟨k, _, rfl⟩ := List.mem_map.mp hd; exact .bool _) (by rw [List.length_map]; omega)
  · exact fine_natsT (by show 2 ≤ 1000000; decide)
  · exact Fine.list (fun d hd => by obtain ⟨k, _, rfl⟩ := List.mem_map.mp hd; exact .str _) (by rw [List.length_map]; omega)
theorem strs_D {K : PySem.W.Frag} {G : Hp} : ∀ l : List Ent, DpAll K G (l.map fun e => V.str e.word) (l.map fun e => PyData.str e.word)
  | [] => .nil
  | e :: l => .cons (.str _) (strs_D l)
theorem bls_D {K : PySem.W.Frag} {G : Hp} : ∀ l : List Bool, DpAll K G (bV l) (l.map .bool)
  | [] => .nil
  | b :: l => .cons (.bl b) (bls_D l)
theorem prop_go {a : Ad} {K : PySem.W.Frag} {G H : Hp} {y p u sd : Addr} {x : Pl} {s : Stt} {R : Hp → Nw → List Ent → Hp → VK → Prop} {Q : VK} {E : XK} (hS : StAt a K G H y p u sd x s.now s.es s.us) (hGH : Same G H) (hes : s.es.length ≤ 1000) (k : R G s.now s.es H Q) : ∃ (b dx : Addr) (fs : List (Str × V)), V.ref y = V.ref b ∧ H b = some (.ins a.C_Stage dx fs) ∧ spOf a K R [.ref b] H Q E := by
  obtain ⟨dy, pv, nv, vs, ws, h1, _⟩ := hS.ex
  exact ⟨y, dy, _, rfl, h1, ⟨⟨y, p, u, sd, G, x, s.now, s.es, s.us, rfl, hS, hGH, by omega, k⟩⟩⟩
theorem StAt.far {a : Ad} {K : PySem.W.Frag} {G H G' H' : Hp} {y p u sd : Addr} {x : Pl} {n : Nw} {es us : List Ent} {S : List Addr} (h : StAt a K G H y p u sd x n es us) (M : Mv S G H G' H') (hS : ∀ b ∈ S, b ≠ y ∧ b ≠ p ∧ b ≠ u) : StAt a K G' H' y p u sd x n es us := h.grow M.ext fun b hb o e => M.kept e fun m => by
  obtain ⟨q1, q2, q3⟩ := hS b m
  rcases hb with e | e | e
  · exact q1 e
  · exact q2 e
  · exact q3 e
theorem Pt.mv {G0 H0 G H : Hp} (B : Pt G0 H0 G H) : Mv [] G0 H0 G H := ⟨B.ext, fun c o e => B.sm c o (wos_some e).2⟩
section
variable {P : Program} {w : World} {K : PySem.W.Frag} {mg : Str → Option Value} {base : Heap} {a : Ad}
end
end Sb

/-! a list and a list, wherever they stand -/
namespace Sb
open PySem PySem.Spec PyProof.Rows L2
section
variable {X : Cx}
def rCatS (K : PySem.W.Frag) : R2 := fun x y H Q => ∃ l b xs zs, x = .ref l ∧ y = .ref b ∧ SqL K H l xs ∧ SqL K H b zs ∧ xs.length + zs.length ≤ sizeLine ∧ ∀ p, H p = none → Q (.ref p) (upd H p (.lst (xs ++ zs)))
theorem op_catS : OpR X (binaryOp .Add) (rCatS X.K) := by
  intro pins s σ H x y v u Q I rx ry h
  obtain ⟨l, b, xs, zs, rfl, rfl, hH, hB, hz, q⟩ := h
  cases rx
  cases ry
  obtain ⟨its, r, ⟨⟨cls, dd, data, sl⟩, n, ho, hc, hdn, hd⟩, hl⟩ := I.list hH
  obtain ⟨its2, r2, ⟨⟨cls2, dd2, data2, sl2⟩, n2, ho2, hc2, hdn2, hd2⟩, hl2⟩ := I.list hB
  simp only at hc hd hc2 hd2
  subst hc hd hc2 hd2
  have e1 := r.length
  have e2 := r2.length
  refine concat_meets ⟨_, ho, rfl⟩ ⟨_, ho2, rfl⟩ noFill_list_add seq_list_add PySem.F.slot_list_add PySem.F.entry_list_add (PySem.F.args_list_add_2 _ _) (list_addW l b its.toArray its2.toArray n n2 dd dd2 sl sl2 (by simp only [List.size_toArray]; omega)) ⟨ho, ho2, ?_⟩
  have ea : its.toArray ++ its2.toArray = (its ++ its2).toArray := by simp
  rw [ea]
  exact ⟨.ref _, _, I.lnew (t' := s.toks) (r.append r2) (by rw [List.length_append]; omega), rfl, q _ I.fresh⟩
end
end Sb

namespace Sb
open PySem PySem.Spec PyProof.Rows L2
/-! ### xs.count(x), all flat -/
theorem cnt_eqU {x : V} : ∀ {xs : List V} {us : List Value}, Vals xs us → xs.all flatV = true → us.countP (eqU x) = xs.countP fun y => eqV y x
  | _, _, .nil, _ => rfl
  | y :: xs, u :: us, .cons r rs, f => by
    rw [List.all_cons, Bool.and_eq_true] at f
    rw [List.countP_cons, List.countP_cons, cnt_eqU rs f.2, eqU_of r f.1]
section
variable {X : Cx}
def rCntF (K : PySem.W.Frag) : V → List V → Hp → VK → Prop := fun x xs H Q => ∃ (p : Addr) (ys : List V) (y : V), x = .ref p ∧ xs = [y] ∧ SqL K H p ys ∧ flatV y = true ∧ ys.all flatV = true ∧ Q (.int ((ys.countP fun z => eqV z y) : Nat)) H
theorem mt_lcountF : MtR X "list.count" (rCntF X.K) := by
  intro pins s σ H x xs v us Q I rx rxs h
  obtain ⟨p, ys, y, rfl, rfl, hs, fy, fys, q⟩ := h
  cases rx
  obtain ⟨u, rfl, ru⟩ := rxs.one
  obtain ⟨its, rv, ⟨⟨cls, dd, data, sl⟩, n, ho, hc, hdn, hd⟩, hlen⟩ := I.list hs
  simp only at hc hd
  subst hc hd
  refine call_meets PySem.F.slot_list_count ⟨_, ho, rfl⟩ PySem.F.entry_list_count (PySem.F.args_list_count_2 _ _)
    (SeqAt.list_countAt p its.toArray n dd sl u (eqU y)) ⟨ho, fun z hz => mem_eqAt ru fy rv fys z (by simpa using hz), ?_⟩
  have ec : its.toArray.toList.countP (eqU y) = ys.countP fun z => eqV z y := cnt_eqU rv fys
  refine ⟨.int ((ys.countP fun z => eqV z y) : Nat), H, I.tok _, ⟨s.toks, ?_⟩, q⟩
  show Value.int ((its.toArray.toList.countP (eqU y) : Nat) : Int) s.toks = Value.int (((ys.countP fun z => eqV z y) : Nat) : Int) s.toks
  rw [ec]
end
end Sb

namespace Sb
open PySem PySem.Spec PyProof.Rows L2
/-! ### an except suite that does not know the class of its error: the reading tells it -/
section
variable {X : Cx} {a : Addr} {oe : Obj} {cls : Value} {d : Option Addr} {pn : List (Addr × Obj)}
def rIsX (K : PySem.W.Frag) (a : Addr) (cls : Value) (d : Option Addr) : List V → Hp → VK → Prop := fun xs H Q => ∃ (D : Addr) (c : V) (cv : Value) (b : Bool), cls = .ref D ∧ d = none ∧ ExcC K D ∧ xs = [.ref a, c] ∧ (∀ u, RelV c u → u = cv) ∧ PySem.W.kitOne K (.ref D) cv = some b ∧ Q (.bl b) H
theorem call_isX (hz : Zc cls d oe) (hf : ∃ vs, oe.data = .fields vs) : CallR (X.suite a ((a, oe) :: pn)) (.builtin "isinstance") (rIsX X.K a cls d) := by
  intro pins s σ H xs us Q I r h
  obtain ⟨D, c, cv, b, ec, ed, C, h⟩ := h
  subst ec ed
  exact call_isE C hz hf pins s σ H xs us Q I r ⟨c, cv, b, h⟩
def tXfG (K : PySem.W.Frag) (a : Addr) (cls : Value) (d : Option Addr) (f : Str) (te : TE) : TE := fun σ H Q => te σ H fun x H1 => x = .ref a ∧ ∃ (C : Addr), cls = .ref C ∧ XfC K C ∧ PySem.W.findIn K (.ref C) f = some none ∧ ∃ (dd : Addr) (fs : List (Str × V)) (v : V), d = some dd ∧ H1 dd = some (.xd fs) ∧ fs.lookup f = some v ∧ Q v H1
theorem pe_xfG {e : Expr} {te : TE} {pos : Pos} {n : Str} (hz : Zc cls d oe) (hf : ∃ vs, oe.data = .fields vs) (he : PE (X.suite a ((a, oe) :: pn)) e te) (hb : attributeBase e n X.env (eval e X.env) = eval e X.env := by rfl) :
    PE (X.suite a ((a, oe) :: pn)) (.Attribute e n pos) (tXfG X.K a cls d n te) := by
  refine ⟨fun pins s σ H Q I h => ?_⟩
  refine attr_of hb (thn (he.run pins s σ H _ I h) fun u s1 hh => ?_)
  obtain ⟨x, H1, I1, rx, ex, C, ec, T, hno, dd, fs, v, ed, ea, l, q⟩ := hh
  subst ex
  obtain rfl : u = Value.ref a := rx
  subst ec
  subst ed
  obtain ⟨ha, _⟩ := I1.pin (a, oe) (List.mem_append_left _ List.mem_cons_self)
  obtain ⟨vs, hd⟩ := hf
  have hx : ObjOk X.prog X.w H1 s1.heap dd (.xd fs) := I1.hok dd _ ea
  obtain ⟨mA, hns, hr⟩ := hx
  obtain ⟨od, ho, hl⟩ := lookIn_ns hns
  obtain ⟨u, hu, ru⟩ := RelO.some_of (v := v) (o := mA n) (by rw [← l]; exact hr n)
  have J : PySem.W.InstAt s1.heap a oe C (some od) := ⟨ha, hz.1, by unfold PySem.W.notCls; rw [hd] <;> rfl, by rw [hz.2]; exact ho⟩
  exact HandSPX.exc_get I1.kIn J T.ga T.gg T.exC (PySem.W.findObj_own T.hdC hno rfl (by rw [hl, hu])) (handed_of ru) ⟨v, H1, I1.tok _, ru, q⟩
/-! ### rules whose reading names the frozen part: in a suite it is the def's own -/
abbrev Su (X : Cx) (a : Addr) (oe : Obj) (pn : List (Addr × Obj)) : Cx := X.suite a ((a, oe) :: pn)
theorem op_in_seqS (X : Cx) (a : Addr) (oe : Obj) (pn : List (Addr × Obj)) : OpR (Su X a oe pn) (compareOp .In) (rIn X.K false) := op_in_seq (X := Su X a oe pn)
theorem ix_listS (X : Cx) (a : Addr) (oe : Obj) (pn : List (Addr × Obj)) : IxR (Su X a oe pn) (rIxL X.K) := ix_list (X := Su X a oe pn)
theorem mt_lcountFS (X : Cx) (a : Addr) (oe : Obj) (pn : List (Addr × Obj)) : MtR (Su X a oe pn) "list.count" (rCntF X.K) := mt_lcountF (X := Su X a oe pn)
theorem mt_indexS (X : Cx) (a : Addr) (oe : Obj) (pn : List (Addr × Obj)) : MtR (Su X a oe pn) "list.index" (rIndex X.K) := mt_index (X := Su X a oe pn)
theorem pe_bmS (X : Cx) (a : Addr) (oe : Obj) (pn : List (Addr × Obj)) {o e : Expr} {es : List Expr} {to : TE} {t : TA} {name : Str} {apos cpos : Pos} {T id : String} {r : V → List V → Hp → VK → Prop} (pa : PlainAttrs T) (slot : Slot T name id) (hty : typeOf (.builtin id) = pure (.type "method_descriptor")) (hm : MtR (Su X a oe pn) id r) (ho : PE (Su X a oe pn) o to) (ha : PA (Su X a oe pn) (e :: es) t)
    (hbase : attributeBase o name X.env (eval o X.env) = eval o X.env := by rfl)
    (hfew : ((backTo cpos (starEach (e :: es) X.env)).all (fun x => !x.1) && (backToKw cpos (keywordEach [] X.env)).all (fun x => x.1.isSome) && decide ((e :: es).length + ([] : List Keyword).length + (if ([] : List Keyword).isEmpty then 0 else 1) < 30)) = true := by rfl)
    (hline : (apos.endLine == cpos.line) = true := by rfl) (hs : starEach (e :: es) X.env = (false, eval e X.env) :: starEach es X.env := by rfl) (hplain : (backTo cpos (starEach es X.env)).any (·.1) = false := by rfl) :
    PE (Su X a oe pn) (.Call (.Attribute o name apos) (e :: es) [] cpos) (tBM X.K T r to t) := pe_bm (X := Su X a oe pn) pa slot hty hm ho ha hbase hfew hline hs hplain
end
end Sb

namespace Sb
open PySem PySem.Spec PyProof.Rows L2 LamX
/-! ### x(lambda: body), where x's except clause reads x's own slots: the wish is asked at the slots as they stand -/
section
variable {X : Cx} {pins : List (Addr × Obj)} {σ : L2.St} {H HZ : Hp} {s s1 : Shared}
theorem pe_actS {CXg : CXT} {Eg : XK} {Ng : List Str} {qg : Str} {sg : Scope} {g f c' : Addr} {cdg pm ctv : Value} {params : Arguments} {body : Expr} {scope : Scope} {k i : Nat} {a : Str} {pn : List (Addr × Obj)} {xe : Value → Shared → Prop} {W : WX} {E : XK} {tb : TE} {p1 p2 : Pos}
    (I : Inv X pins σ H s) (L : LamS X.env.scope scope) (hf : s.heap.get? f = some (PySem.W.kla_obj "<lambda>" (X.env.qual ++ "<lambda>") params body scope (cloFrom X.env.cells scope.names []) pm c' ctv)) (hfn : H f = none) (hfr : f ∉ frs X.stack)
    (hbind : bindArgs (PySem.W.kla_fn "<lambda>" (X.env.qual ++ "<lambda>") params body scope (cloFrom X.env.cells scope.names []) pm (.ref c') ctv) ⟨[], []⟩ = pure [])
    (tk : Takes ((cxOf CXg X.prog X.w X.K X.mg X.base Ng qg sg g cdg X.A X.stack s H Eg).tr pn xe) W) (hr : Room (k + 1) (X.A.deeper (envOfC qg sg s.heap.objs.size g cdg)))
    (hbody : ∀ (A : Around) (outer : List Env) (s : Shared) (H : Hp), Room k (A.deeper (lamEnv X scope s.heap.objs.size f c')) → PE (lamCx X A outer s H E scope f c') body tb)
    (hN : Ng[i]? = some a) (hv : Vis sg a) (hd : (a == ("__debug__" : Str)) = false := by decide) (hcd : (a == ("__classdict__" : Str)) = false := by decide) :
    PE ((cxOf CXg X.prog X.w X.K X.mg X.base Ng qg sg g cdg X.A X.stack s H Eg).tr pn xe) (.Call (.Name a p1) [] [] p2)
      (fun σZ HZ Q => σZ[i]? = some (some (.ref f)) ∧ HZ c' = some (CodeO c' (X.env.qual ++ "<lambda>")) ∧ (∀ cls d H', E cls d H' → W cls d σZ H') ∧ tb σ HZ Q) := by
  refine ⟨fun pinsZ sZ σZ HZ Q IZ hh => ?_⟩
  obtain ⟨hs, hc, hW, ht⟩ := hh
  refine wpAny_Call_Name_kw (thn ((pe_var (pos := p1) (i := i) hN hv hd hcd).run pinsZ sZ σZ HZ (fun v H1 => v = .ref f ∧ H1 = HZ) IZ ⟨.ref f, hs, rfl, rfl⟩) fun u s1 ⟨v, H1, I1, r1, ev, eH⟩ => ?_)
  subst ev
  rw [eH] at I1
  obtain rfl : u = Value.ref f := r1
  have ofn : s1.heap.get? f = some (PySem.W.kla_obj "<lambda>" (X.env.qual ++ "<lambda>") params body scope (cloFrom X.env.cells scope.names []) pm c' ctv) := I1.base.keep f _ hf hfn hfr (fun z => nomatch (show f ∈ ([] : List Addr) from z))
  refine PySem.W.callWith_F0 ⟨_, _, _, _, ofn⟩ ?_
  have un : Un (frs X.stack) [] H HZ s.heap s1.heap := I1.base
  obtain ⟨⟨oc, vs, t, hoc, hdc, hvc⟩, _, _⟩ := I1.hok c' _ hc
  have rc : codeAny (model X.prog X.w) (X.A.deeper (envOfC qg sg s.heap.objs.size g cdg)) (.call (.ref f) ⟨[], []⟩) (CR (L2.CX X.prog X.w) (envOfC qg sg s.heap.objs.size g cdg :: X.stack) X.prog X.w HZ s1 Q E) s1 := by
    refine PySem.W.kla_callFunE hr.depth ofn rfl L.co L.gen rfl ⟨c', oc, vs, t, rfl, hoc, hdc, hvc⟩ ?_
    rw [hbind]
    refine wpAny_pure (wpAny_newFunctionEnv (fun y hy => (L.own y hy).2) (fun y hy => absurd hy (by simp)) (fun h₁ hns hsb => ⟨I1.nolimit.fresh _ hsb, ?_⟩) L.kind)
    show codeAny _ _ (.expr body (lamEnv X scope s1.heap.objs.size f c')) _ _
    have kp : ∀ b o, s1.heap.get? b = some o → h₁.get? b = some o := fun b o e => hsb.extBut b o (Nat.ne_of_lt (Heap.lt_size e)) (Heap.get?_push_of_some _ e)
    have J : Inv (lamCx X (X.A.deeper (envOfC qg sg s.heap.objs.size g cdg)) (envOfC qg sg s.heap.objs.size g cdg :: X.stack) s1 HZ E scope f c') [] σ HZ { s1 with heap := h₁, toks := s1.toks + ([] : List (Str × Value)).length } :=
      lam_start2 I L I1.env0 hr.hd un hns kp
    refine PySem.W.kla_codeExpr (wpAny_mono ((hbody _ _ s1 HZ (hr.deeper _)).run [] _ _ HZ Q J ht) (fun v s' ⟨w', H', J', rv, q⟩ => ?_) fun e s' hq => hq)
    exact ⟨w', H', J'.os, J'.bare, J'.base, J'.hok, rv, q⟩
  refine wpAny_call (codeAny_mono rc fun r s' hq => ?_)
  cases r with
  | error e => exact tk e s' (XE.of_call I1 (fun cls d H' z => hW cls d H' z) hq)
  | ok fl =>
    cases fl with
    | ret u => exact I1.after hq
    | next => exact False.elim hq
    | brk => exact False.elim hq
    | cont => exact False.elim hq
end
def GivesS (X : Cx) (Ng : List Str) (x : Str) (sg : Scope) (g : Addr) (cdg : Value) (bg : List Stmt) (a : Str) (q : Str) (TT : (XK → Hp → VK → Prop) → Hp → VK → Prop) : Prop :=
  ∀ (f c' : Addr) (s : Shared) (H : Hp) (Q : VK) (tl : XK → Hp → VK → Prop),
    (∀ (W : WX) (pn : List (Addr × Obj)) (xe : Value → Shared → Prop) (E : XK) (p1 p2 : Pos), Takes ((cxOf C8.CX0 X.prog X.w X.K X.mg X.base Ng x sg g cdg X.A X.stack s H C8.E0).tr pn xe) W →
      PE ((cxOf C8.CX0 X.prog X.w X.K X.mg X.base Ng x sg g cdg X.A X.stack s H C8.E0).tr pn xe) (.Call (.Name a p1) [] [] p2) (fun σZ HZ Q => σZ[0]? = some (some (.ref f)) ∧ HZ c' = some (CodeO c' q) ∧ (∀ cls d H', E cls d H' → W cls d σZ H') ∧ tl E HZ Q)) →
    H c' = some (CodeO c' q) → TT tl H Q →
    ∃ t, PSs (cxOf C8.CX0 X.prog X.w X.K X.mg X.base Ng x sg g cdg X.A X.stack s H C8.E0).nox bg t ∧ t { nx := fun _ H' => Q .non H', rt := Q } (L2.start Ng [.ref f]) H
section
variable {X : Cx}
theorem pe_lamS {T : List (Addr × Str)} {TT : (XK → Hp → VK → Prop) → Hp → VK → Prop} {x a : Str} {g c P : Addr} {k : Nat} {pg : Arguments} {bg : List Stmt} {sg : Scope} {dV kV doc pm cdv ct oc : Value} {an od : Option Addr} {osl : Array (Option Value)} {Ng : List Str}
    {params : Arguments} {body : Expr} {scope : Scope} {t : XK → TE} {p lpos pos : Pos} (hg : Gl X x) (hm : X.mg x = some (.ref g)) (hk : PySem.W.keepIn X.K (.ref g) = true)
    (lk : X.K.lookup g = some ⟨oc, od, .func (PySem.W.fnOf x x pg bg sg dV kV doc pm an cdv ct), osl⟩) (hcg : PySem.W.codeIn X.K cdv x = true) (hb : L2.Binds X.K (PySem.W.fnOf x x pg bg sg dV kV doc pm an cdv ct) [a] []) (Sg : FnScope Ng [a] sg) (hNg : Ng[0]? = some a) (hva : Vis sg a)
    (hG : GivesS X Ng x sg g cdv bg a (X.env.qual ++ "<lambda>") TT)
    (TB : TabB X.base X.mg c P) (hcode : X.env.code = .ref c) (hmT : (P, X.env.qual ++ "<lambda>") ∈ T) (hu : ∀ p ∈ T, p.1 = P → p.2 = X.env.qual ++ "<lambda>") (hr : Room (k + 2) X.A) (L : LamS X.env.scope scope) (hdef : defaultsOf params X.env = ([], []))
    (hbind : ∀ (q : Str) (cl : List (Str × Addr)) (pm cv ctv : Value), bindArgs (PySem.W.kla_fn "<lambda>" q params body scope cl pm cv ctv) ⟨[], []⟩ = pure [])
    (hbody : ∀ (A : Around) (outer : List Env) (s : Shared) (H : Hp) (E : XK) (f c' : Addr), Room k (A.deeper (lamEnv X scope s.heap.objs.size f c')) → PE (lamCx X A outer s H E scope f c') body (t E))
    (hdb : (x == ("__debug__" : Str)) = false := by decide) (hd : (a == ("__debug__" : Str)) = false := by decide) (hcd : (a == ("__classdict__" : Str)) = false := by decide) :
    PE X (.Call (.Name x p) [.Lambda params body scope lpos] [] pos) (tLam T TT t) := by
  refine ⟨fun pins s σ H Q I ⟨hT, h⟩ => ?_⟩
  refine wpAny_Call_Name_kw (ld_glob I hg hm ?_ hdb)
  refine PySem.W.callWith_K (h₀ := X.base) I.ok.mod.kin hk ?_ (by rfl) (by rfl)
  show wpAny _ _ (spliced ((false, eval (.Lambda params body scope lpos) X.env) :: backTo pos (starEach [] X.env))) _ _ s
  refine Calls.spliced_cons (lam_make2 I TB hcode hmT hu hT hdef (L.has I.ok) fun f c' pm' ctv H1 s' I1 eN T1 hf hfn hfr hco => ?_)
  refine Calls.spliced_nil ⟨I1.kIn, ?_⟩
  have rc : codeAny (model X.prog X.w) X.A (.call (.ref g) ⟨[.ref f], []⟩) (CR C8.CX0 X.stack X.prog X.w H1 s' Q C8.E0) s' := by
    refine run_ofS (N := Ng) (ps := [a]) (us := [.ref f]) (vs := [.ref f]) lk hcg Sg hr I1.env0 (hb s' [.ref f] I1.kIn rfl) (.cons rfl .nil) rfl fun hr' => ?_
    obtain ⟨t', ht', hq'⟩ := hG f c' s' H1 Q (fun E H' Q' => t E σ H' Q') (fun W pn xe E p1 p2 tk => pe_actS (i := 0) I1 L hf hfn hfr (hbind _ _ _ _ _) tk hr' (fun A outer s H hr2 => hbody A outer s H E f c' hr2) hNg hva hd hcd) hco (h H1 eN T1)
    exact ⟨t', ht'.nox, hq'⟩
  refine wpAny_call (codeAny_mono rc fun r s2 hq => ?_)
  cases r with
  | error e => exact (show False from hq).elim
  | ok fl =>
    cases fl with
    | ret u => exact I1.after hq
    | next => exact False.elim hq
    | brk => exact False.elim hq
    | cont => exact False.elim hq
end
end Sb

namespace Sb
open PySem PySem.Spec PyProof.Rows L2 LamX
/-! ### an error that leaves a lambda's body -/
theorem takes_lam {X : Cx} {A : Around} {outer : List Env} {s : Shared} {H : Hp} {E : XK} {scope : Scope} {f c' : Addr} : Takes (lamCx X A outer s H E scope f c') (fun cls d _ H' => E cls d H') :=
  takes_of rfl rfl rfl rfl
theorem pass_lam {X : Cx} {A : Around} {outer : List Env} {s : Shared} {H : Hp} {E : XK} {scope : Scope} {f c' : Addr} : Passes (L2.CX X.prog X.w) (lamCx X A outer s H E scope f c') E :=
  passes_call takes_lam (fun _ _ _ _ h => h)
end Sb

namespace Sb
open PySem PySem.Spec PyProof.Rows L2 LamX NdefX
/-! ### x(lambda: body): all that stood stands, but for the one table -/
abbrev lamO (q : Str) (params : Arguments) (body : Expr) (scope : Scope) (cl : List (Str × Addr)) (pm : Value) (c' : Addr) (tv : Value) : Obj := PySem.W.kla_obj "<lambda>" q params body scope cl pm c' tv
section
variable {X : Cx} {pins : List (Addr × Obj)} {σ : L2.St} {H : Hp} {s : Shared}
theorem lam_make4 {T : List (Addr × Str)} {c tb : Addr} {params : Arguments} {body : Expr} {scope : Scope} {pos : Pos} {E Q : Value → Shared → Prop} (I : Inv X pins σ H s) (B : TabB X.base X.mg c tb) (code : X.env.code = .ref c)
    (hm : (tb, X.env.qual ++ "<lambda>") ∈ T) (hu : ∀ p ∈ T, p.1 = tb → p.2 = X.env.qual ++ "<lambda>") (hT : Tabs T H) (dflt : defaultsOf params X.env = ([], [])) (fre : ∀ y ∈ scope.names, y.2 = .free → ∃ c, X.env.cells.lookup y.1 = some c)
    (k : ∀ (f c' : Addr) (pm tv : Value) (H1 : Hp) (s1 : Shared), Inv X pins σ H1 s1 → (∀ b o, b ≠ tb → H b = some o → H1 b = some o) → (∀ b, H1 b = none → H b = none) → Tabs T H1 →
      s1.heap.get? f = some (lamO (X.env.qual ++ "<lambda>") params body scope (cloFrom X.env.cells scope.names []) pm c' tv) → H1 f = none → f ∉ frs X.stack → H1 c' = some (CodeO c' (X.env.qual ++ "<lambda>")) → Q (.ref f) s1) :
    wpAny (model X.prog X.w) X.A (eval (.Lambda params body scope pos) X.env) Q E s := by
  obtain ⟨ps, atP, tri, among⟩ := hT _ hm
  have getP : s.heap.get? tb = some { cls := .none, data := .fields ps } := I.hok tb _ atP
  have off : ∀ f, s.heap.objs.size ≤ f → f ∉ frs X.stack := fun f hf z => by
    rcases List.mem_cons.mp (I.stkSub _ z) with rfl | z'
    · exact absurd I.lt (Nat.not_lt.mpr hf)
    · exact I.nofs hf z'
  have bk' := B.bm.keeps I.bk
  refine PySem.W.kla_eval dflt ?_
  cases hc : codeAmong pos ps.toList with
  | some cv =>
    obtain ⟨c', rfl, hco⟩ := among pos cv hc
    refine PySem.W.kla_makeFunctionHit (mg := X.mg) (c := c) (P := tb) (ps := ps) (closure_ok fre) I.ok.glob (I.mod.glob.keeps I.bk) code (B.code.keeps I.bk) getP tri hc bk' fun tv h2 tk hx hsz => ?_
    have J : Inv X pins σ H { s with heap := h2.push (lamO (X.env.qual ++ "<lambda>") params body scope (cloFrom X.env.cells scope.names []) ((X.mg "__name__").getD .none) c' tv), toks := tk } := I.kept fun b o e => Heap.get?_push_of_some _ (hx b o e)
    exact k h2.objs.size c' _ tv H _ J (fun b o _ e => e) (fun b e => e) hT (Heap.get?_push_size _ rfl) (I.hok.fresh hsz) (off _ hsz) hco
  | none =>
    refine PySem.W.kla_makeFunction (mg := X.mg) (c := c) (P := tb) (ps := ps) (closure_ok fre) I.ok.glob (I.mod.glob.keeps I.bk) code (B.code.keeps I.bk) getP tri hc B.gP bk' fun c' tv h2 tk hx hge hlt hrec htb => ?_
    obtain ⟨c9, oc, vs, t, e9, hoc, hd, hv⟩ := hrec
    cases e9
    have hsz : s.heap.objs.size ≤ h2.objs.size := Nat.le_trans hge (Nat.le_of_lt hlt)
    have freshC : H c' = none := I.hok.fresh hge
    have J := inv_table (t' := tk) (more := #[rawInt pos.line, rawInt pos.col, .ref c']) (h' := h2.push (lamO (X.env.qual ++ "<lambda>") params body scope (cloFrom X.env.cells scope.names []) ((X.mg "__name__").getD .none) c' tv)) I atP
      (fun b o hb e => Heap.get?_push_of_some _ (hx b o hb e)) (Heap.get?_push_of_some _ htb) hge ⟨oc, vs, t, Heap.get?_push_of_some _ hoc, hd, hv⟩
    have stay : ∀ b o, b ≠ tb → H b = some o → (upd (upd H tb (.tbl (ps ++ #[rawInt pos.line, rawInt pos.col, .ref c']))) c' (CodeO c' (X.env.qual ++ "<lambda>"))) b = some o := fun b o n e => by
      rw [upd_ne (ne_of_none e freshC), upd_ne n]
      exact e
    have cds : ∀ b q, H b = some (CodeO b q) → (upd (upd H tb (.tbl (ps ++ #[rawInt pos.line, rawInt pos.col, .ref c']))) c' (CodeO c' (X.env.qual ++ "<lambda>"))) b = some (CodeO b q) := fun b q e => stay _ _ (fun z => by rw [z, atP] at e; unfold CodeO at e; cases e) e
    have asL : (ps ++ #[rawInt pos.line, rawInt pos.col, .ref c']).toList = ps.toList ++ [rawInt pos.line, rawInt pos.col, .ref c'] := by simp
    have T1 : Tabs T (upd (upd H tb (.tbl (ps ++ #[rawInt pos.line, rawInt pos.col, .ref c']))) c' (CodeO c' (X.env.qual ++ "<lambda>"))) := fun p hp => by
      by_cases hb : p.1 = tb
      · rw [hu p hp hb, hb]
        refine ⟨ps ++ #[rawInt pos.line, rawInt pos.col, .ref c'], by rw [upd_ne (ne_of_none atP freshC), upd_same], by rw [asL]; exact PySem.TriplesOk_snoc _ _ _ _ tri, fun p' cv hcv => ?_⟩
        rw [asL] at hcv
        rcases among_app _ tri hcv with old | new
        · obtain ⟨c0, e1, e2⟩ := among p' cv old
          exact ⟨c0, e1, cds _ _ e2⟩
        · exact ⟨_, new, upd_same⟩
      · obtain ⟨qs, a1, a2, a3⟩ := hT p hp
        refine ⟨qs, stay _ _ hb a1, a2, fun p' cv hcv => ?_⟩
        obtain ⟨c0, e1, e2⟩ := a3 p' cv hcv
        exact ⟨c0, e1, cds _ _ e2⟩
    refine k h2.objs.size c' _ tv _ _ J stay (fun b e => upd_none (upd_none e)) T1 (Heap.get?_push_size _ rfl) ?_ (off _ hsz) upd_same
    rw [upd_ne (Nat.ne_of_gt hlt), upd_ne (Nat.ne_of_gt (Nat.lt_of_lt_of_le (Heap.lt_size getP) hsz))]
    exact I.hok.fresh hsz
end
def tLamP (T : List (Addr × Str)) (tb : Addr) (TT : (XK → Hp → VK → Prop) → Hp → VK → Prop) (t : XK → TE) : TE := fun σ H Q => Tabs T H ∧ ∀ H1, (∀ b o, b ≠ tb → H b = some o → H1 b = some o) → (∀ b, H1 b = none → H b = none) → Tabs T H1 → TT (fun E H' Q' => t E σ H' Q') H1 Q
section
variable {X : Cx}
theorem pe_lamP {T : List (Addr × Str)} {TT : (XK → Hp → VK → Prop) → Hp → VK → Prop} {x a : Str} {g c P : Addr} {k : Nat} {pg : Arguments} {bg : List Stmt} {sg : Scope} {dV kV doc pm cdv ct oc : Value} {an od : Option Addr} {osl : Array (Option Value)} {Ng : List Str}
    {params : Arguments} {body : Expr} {scope : Scope} {t : XK → TE} {p lpos pos : Pos} (hg : Gl X x) (hm : X.mg x = some (.ref g)) (hk : PySem.W.keepIn X.K (.ref g) = true)
    (lk : X.K.lookup g = some ⟨oc, od, .func (PySem.W.fnOf x x pg bg sg dV kV doc pm an cdv ct), osl⟩) (hcg : PySem.W.codeIn X.K cdv x = true) (hb : L2.Binds X.K (PySem.W.fnOf x x pg bg sg dV kV doc pm an cdv ct) [a] []) (Sg : FnScope Ng [a] sg) (hNg : Ng[0]? = some a) (hva : Vis sg a)
    (hG : GivesS X Ng x sg g cdv bg a (X.env.qual ++ "<lambda>") TT)
    (TB : TabB X.base X.mg c P) (hcode : X.env.code = .ref c) (hmT : (P, X.env.qual ++ "<lambda>") ∈ T) (hu : ∀ p ∈ T, p.1 = P → p.2 = X.env.qual ++ "<lambda>") (hr : Room (k + 2) X.A) (L : LamS X.env.scope scope) (hdef : defaultsOf params X.env = ([], []))
    (hbind : ∀ (q : Str) (cl : List (Str × Addr)) (pm cv ctv : Value), bindArgs (PySem.W.kla_fn "<lambda>" q params body scope cl pm cv ctv) ⟨[], []⟩ = pure [])
    (hbody : ∀ (A : Around) (outer : List Env) (s : Shared) (H : Hp) (E : XK) (f c' : Addr), Room k (A.deeper (lamEnv X scope s.heap.objs.size f c')) → PE (lamCx X A outer s H E scope f c') body (t E))
    (hdb : (x == ("__debug__" : Str)) = false := by decide) (hd : (a == ("__debug__" : Str)) = false := by decide) (hcd : (a == ("__classdict__" : Str)) = false := by decide) :
    PE X (.Call (.Name x p) [.Lambda params body scope lpos] [] pos) (tLamP T P TT t) := by
  refine ⟨fun pins s σ H Q I ⟨hT, h⟩ => ?_⟩
  refine wpAny_Call_Name_kw (ld_glob I hg hm ?_ hdb)
  refine PySem.W.callWith_K (h₀ := X.base) I.ok.mod.kin hk ?_ (by rfl) (by rfl)
  show wpAny _ _ (spliced ((false, eval (.Lambda params body scope lpos) X.env) :: backTo pos (starEach [] X.env))) _ _ s
  refine Calls.spliced_cons (lam_make4 I TB hcode hmT hu hT hdef (L.has I.ok) fun f c' pm' ctv H1 s' I1 eP eN T1 hf hfn hfr hco => ?_)
  refine Calls.spliced_nil ⟨I1.kIn, ?_⟩
  have rc : codeAny (model X.prog X.w) X.A (.call (.ref g) ⟨[.ref f], []⟩) (CR C8.CX0 X.stack X.prog X.w H1 s' Q C8.E0) s' := by
    refine run_ofS (N := Ng) (ps := [a]) (us := [.ref f]) (vs := [.ref f]) lk hcg Sg hr I1.env0 (hb s' [.ref f] I1.kIn rfl) (.cons rfl .nil) rfl fun hr' => ?_
    obtain ⟨t', ht', hq'⟩ := hG f c' s' H1 Q (fun E H' Q' => t E σ H' Q') (fun W pn xe E p1 p2 tk => pe_actS (i := 0) I1 L hf hfn hfr (hbind _ _ _ _ _) tk hr' (fun A outer s H hr2 => hbody A outer s H E f c' hr2) hNg hva hd hcd) hco (h H1 eP eN T1)
    exact ⟨t', ht'.nox, hq'⟩
  refine wpAny_call (codeAny_mono rc fun r s2 hq => ?_)
  cases r with
  | error e => exact (show False from hq).elim
  | ok fl =>
    cases fl with
    | ret u => exact I1.after hq
    | next => exact False.elim hq
    | brk => exact False.elim hq
    | cont => exact False.elim hq
end
end Sb

namespace Sb
open PySem PySem.Spec PyProof.Rows L2
/-! ### Base.__init__(self, ..) where Base is an own class over ValueError -/
def tClI (K : PySem.W.Frag) (B : Addr) (to : TE) (ta : TA) : TE := fun σ H Q => to σ H fun x H0 => x = .ref B ∧ ta σ H0 fun vs H1 => ∃ (a C : Addr) (ws : List V), vs = .ref a :: ws ∧ ws.length ≤ 1000 ∧ OexC K C ∧ H1 a = some (exo a C none) ∧ Q .non H1
theorem pe_clinit {X : Cx} {o e : Expr} {es : List Expr} {to : TE} {ta : TA} {B : Addr} {mc : Value} {p2 pos : Pos} {pl : Sem Bool} (ho : PE X o to) (r : ClX.CRead X.K B mc) (vV : PySem.W.findCls X.K (.ref B) mc "__init__" = some (.val (.builtin "ValueError.__init__"))) (ha : PA X (e :: es) ta)
    (hc : eval (.Call (.Attribute o "__init__" p2) (e :: es) [] pos) X.env = (do
      let ov ← eval o X.env
      standAt p2.atName
      let (f, first) ← holding [ov] (getMethod ov "__init__" pl)
      callWith pos f first (backTo pos (starEach (e :: es) X.env)) (backToKw pos (keywordEach [] X.env))) := by rfl)
    (he : starEach (e :: es) X.env = (false, eval e X.env) :: starEach es X.env := by rfl) (hpl : (backTo pos (starEach es X.env)).any (·.1) = false := by rfl) :
    PE X (.Call (.Attribute o "__init__" p2) (e :: es) [] pos) (tClI X.K B to ta) := by
  refine ⟨fun pins s σ H Q I h => ?_⟩
  refine PySem.W.methodCall_KW (pl := pl) (thn (ho.run pins s σ H _ I h) fun u s1 ⟨x, H0, I0, rx, ex, q⟩ => ?_) hc
  subst ex
  obtain rfl : u = Value.ref B := rx
  refine PySem.W.method_cls I0.kIn r.ga (PySem.W.cls_value I0.kIn r.rd vV rfl ?_)
  show wpAny _ _ (callWith pos (Value.builtin "ValueError.__init__") [] (backTo pos (starEach (e :: es) X.env)) []) _ _ _
  refine PyProof.Rows.callWith_method1 (thn (ha.run pos pins _ σ H0 _ (I0.tok _) q) fun us s1 ⟨vs, H1, I1, r1, a, C, ws, ev, hl, T, ea, q⟩ => ?_) he hpl
  subst ev
  cases r1 with
  | @cons _ u0 _ ur ra rw' =>
    obtain rfl : u0 = Value.ref a := ra
    have hlen : ur.length ≤ sizeLine := by
      rw [← Paired.length rw', sizeLine_eq]
      omega
    exact oinit_ok T I1 ea hlen fun s' J => ⟨.non, H1, J, rfl, q⟩
/-! ### isinstance of a caught error that has its dict -/
section
open PySem.W PySem.Calls
variable {prog : Program} {w : World} {A : Around} {E : Value → Shared → Prop} {s : Shared} {K : Frag} {x D : Addr} {ox : Obj} {od : Option Obj}
theorem findObj_dataD {C : Addr} {name : Str} {a g : Value} (hc : (clsIn K C).isSome = true) (ha : findIn K (.ref C) name = some (some a)) (hg : specialIn K a "__get__" = some (some g)) (ht : takesIn K a = some true) : findObj K C od name = some (.bind g a) := by
  obtain ⟨cd, hc⟩ := Option.isSome_iff_exists.mp hc
  unfold findObj
  rw [hc, Option.bind_some, ha, Option.bind_some]
  simp [hg, ht]
theorem kin_classD {Q : Option Value → Shared → Prop} (hga : findIn K (.ref D) "__getattribute__" = some (some (.builtin "BaseException.__getattribute__"))) (hgt : findIn K (.ref D) "__getattr__" = some none) (hsub : subIn K (.ref D) (.type "BaseException") = some true)
    (hdct : hasDictIn K D = true) (ha : findIn K (.ref D) "__class__" = some (some (.builtin "object.__class__")))
    (hn : specialIn K (.builtin "object.__class__") "__get__" = some (some (.builtin "getset_descriptor.__get__"))) (htk : takesIn K (.builtin "object.__class__") = some true) (hm : mroIn K D (.type "object") = some true)
    (X : K.In s.heap) (I : InstAt s.heap x ox D od) (h : Q (some (.ref D)) { s with toks := s.toks + 1 }) : wpAny (model prog w) A (getAttr? (.ref x) "__class__") Q E s := by
  have hf : findObj K D od "__class__" = some (.bind (.builtin "getset_descriptor.__get__") (.builtin "object.__class__")) := findObj_dataD (by obtain ⟨cd, hc, _⟩ := any_some hdct; rw [hc]; rfl) ha hn htk
  obtain ⟨hp, g, d, t, os⟩ := s
  have L0 := I.type (M := model prog w)
  have L1 := looks_findIn (M := model prog w) X hga
  have L2 := looks_findIn (M := model prog w) X hgt
  have L3 := looks_find (M := model prog w) X I hf
  have sub : Looks (model prog w) hp (isInstance (.ref x) (.type "BaseException")) true := L0.andThen (looks_subIn X hsub)
  have hx0 : (false && onTheHeap (Value.builtin "BaseException.__getattribute__")) = false := rfl
  have hx2 : (Value.builtin "BaseException.__getattribute__" == Value.builtin "object.__getattribute__") = false := by decide +kernel
  have hx1 : (onTheHeap (Value.ref D) && Value.builtin "BaseException.__getattribute__" == Value.builtin "object.__getattribute__") = false := by rw [hx2]; rfl
  unfold getAttr? getAttrBy? getAttrBy
  refine wpAny_bind (wpAny_mkText (wpAny_bind (wpAny_attempt (wpAny_holding (wpAny_bind (L0.at (wpAny_bind (L1.at ?_))))))))
  show wpAny _ _ (if (onTheHeap (Value.ref D) && Value.builtin "BaseException.__getattribute__" == Value.builtin "object.__getattribute__") = true then _ else _) _ _ _
  rw [hx1, if_neg Bool.false_ne_true]
  unfold getAttrByItsOwn hookBefore
  refine wpAny_bind ?_
  rw [if_pos (show onTheHeap (Value.ref D) = true from rfl)]
  refine L2.at ?_
  refine wpAny_bind (wpAny_attempt (wpAny_holding ?_))
  unfold callGetattribute
  rw [hx0, if_neg Bool.false_ne_true]
  unfold boundAndCalled
  rw [PySem.F.excAttr_ValueError.ga.bind (.ref x)]
  refine wpAny_bind (wpAny_pure ?_)
  show wpAny _ _ (call (.builtin "BaseException.__getattribute__") [.ref x, .str "__class__" t]) _ _ _
  refine wpAny_call (codeAny_call_builtin PySem.F.excAttr_ValueError.ga.plain PySem.F.entry_bexc_ga ?_)
  refine @check_slot (model prog w) _ _ ⟨hp, g, d, t + 1, os⟩ "BaseException.__getattribute__" "BaseException" "__getattribute__" (.ref x) [.str "__class__" t] [] _ (by decide +kernel) (by decide +kernel) sub (PySem.F.args_bexc_ga (.ref x) (.str "__class__" t)) ?_
  unfold Builtin.«object.__getattribute__»
  refine wpAny_bind (wpAny_of_eq (a := ((Value.ref x : Value), [Value.str "__class__" t])) (by first | rfl | (simp only [slotArgs]; rfl)) ?_)
  refine wpAny_bind (wpAny_pure (wpAny_bind (L0.at (wpAny_bind (L3.at ?_)))))
  show wpAny _ _ (holding [Value.builtin "object.__class__"] (call (.builtin "getset_descriptor.__get__") [.builtin "object.__class__", .ref x, .ref D]) >>= ret) _ _ _
  refine wpAny_bind (wpAny_holding (wpAny_call (class_get (s := ⟨hp, g, d, t + 1, os⟩) (ox := ox) (od := od) X I hm ?_)))
  refine wpAny_pure ?_
  show wpAny _ _ (handedOut (.ref D)) _ _ _
  rw [handedOut_of (v := .ref D) rfl]
  first
    | exact wpAny_pure (wpAny_pure h)
    | exact wpAny_pure h
    | exact wpAny_pure (wpAny_bind (wpAny_pure (wpAny_pure h)))
theorem kitx_excD (hga : findIn K (.ref D) "__getattribute__" = some (some (.builtin "BaseException.__getattribute__"))) (hgt : findIn K (.ref D) "__getattr__" = some none) (hsub : subIn K (.ref D) (.type "BaseException") = some true) (hdct : hasDictIn K D = true) (ha : findIn K (.ref D) "__class__" = some (some (.builtin "object.__class__")))
    (hn : specialIn K (.builtin "object.__class__") "__get__" = some (some (.builtin "getset_descriptor.__get__"))) (htk : takesIn K (.builtin "object.__class__") = some true) (hm : mroIn K D (.type "object") = some true) :
    KitX K (.ref x) (.ref D) (fun h => InstAt h x ox D od) where
  ty := fun _ _ _ I => I.type
  it := fun _ _ X _ => by
    obtain ⟨cdD, hcD, _⟩ := any_some hdct
    unfold clsIn at hcD
    split at hcD
    · rename_i c' d' cd' sl' ho
      intro A' Q' E' s' k q
      unfold isType loadHead
      exact wpAny_bind (wpAny_loadPart (k _ _ (X _ _ ho)) (wpAny_pure q))
    · cases hcD
  ne := fun h tp dd its n sl X htp => by
    obtain ⟨cdD, hcD, _⟩ := any_some hdct
    refine Bool.eq_false_iff.mpr fun q => ?_
    have e : D = tp := Value.ref.inj (beq_iff_eq.mp q)
    subst e
    unfold clsIn at hcD
    split at hcD
    · rename_i c' d' cd' sl' ho
      have z := (X _ _ ho).symm.trans htp
      cases z
    · cases hcD
  ca := fun X I k => kin_classD hga hgt hsub hdct ha hn htk hm X I k
end
def rIsXD (K : PySem.W.Frag) (a : Addr) (cls : Value) (d : Option Addr) : List V → Hp → VK → Prop := fun xs H Q => ∃ (D : Addr) (dd : Addr) (fs : List (Str × V)) (c : V) (cv : Value) (b : Bool), cls = .ref D ∧ d = some dd ∧ H dd = some (.xd fs) ∧ ExcC K D ∧ xs = [.ref a, c] ∧ (∀ u, RelV c u → u = cv) ∧ PySem.W.kitOne K (.ref D) cv = some b ∧ Q (.bl b) H
theorem call_isXD {X : Cx} {a : Addr} {oe : Obj} {cls : Value} {d : Option Addr} {pn : List (Addr × Obj)} (hz : Zc cls d oe) (hf : ∃ vs, oe.data = .fields vs) : CallR (X.suite a ((a, oe) :: pn)) (.builtin "isinstance") (rIsXD X.K a cls d) := by
  intro pins s σ H xs us Q I r h
  obtain ⟨D, dd, fs, c, cv, b, ecl, ed, ea, C, rfl, hcv, e, q⟩ := h
  subst ecl ed
  cases r with
  | cons rx rr =>
    cases rr with
    | cons rt rr =>
      cases rr
      cases rx
      have ec := hcv _ rt
      subst ec
      obtain ⟨hget, _⟩ := I.pin (a, oe) (List.mem_append.mpr (.inl List.mem_cons_self))
      obtain ⟨vs, hv⟩ := hf
      have hx : ObjOk X.prog X.w H s.heap dd (.xd fs) := I.hok dd _ ea
      obtain ⟨mA, hns, hr⟩ := hx
      obtain ⟨od, ho, hl⟩ := lookIn_ns hns
      have J : PySem.W.InstAt s.heap a oe D (some od) := ⟨hget, hz.1, by unfold PySem.W.notCls; rw [hv] <;> rfl, by rw [hz.2]; exact ho⟩
      exact PySem.W.kia_one (kitx_excD C.hg C.hk C.hs C.hd C.ha C.hn C.ht C.hm) I.kIn J e (fun z => nomatch z) fun tk => ⟨.bl b, H, I.kept (t' := tk) fun _ _ z => z, rfl, q⟩
end Sb
namespace HotX
open PySem PySem.Spec PyProof.Rows
/-! ### raise X(..) from e, e the handled exception -/
/-- the heap behind «from e» -/
def refFrom (h : Heap) (a x : Addr) : Heap := (h.update a (Obj.mapFields (·.setIfInBounds 3 (.ref x)))).update a (Obj.mapFields (·.setIfInBounds 4 (.bool true)))
theorem refFrom_at {h : Heap} {a x : Addr} {oe : Obj} {vs : Array Value} (ha : h.get? a = some oe) (hd : oe.data = .fields vs) :
    (refFrom h a x).get? a = some ((oe.mapFields (·.setIfInBounds 3 (.ref x))).mapFields (·.setIfInBounds 4 (.bool true))) ∧ ((oe.mapFields (·.setIfInBounds 3 (.ref x))).mapFields (·.setIfInBounds 4 (.bool true))).data = .fields ((vs.setIfInBounds 3 (.ref x)).setIfInBounds 4 (.bool true)) := by
  have hd3 := Obj.data_mapFields hd (·.setIfInBounds 3 (.ref x))
  have ha3 := Heap.get?_update_self (Obj.mapFields (·.setIfInBounds 3 (.ref x))) ha (Obj.isFreed_of_fields hd3)
  have hd4 := Obj.data_mapFields hd3 (·.setIfInBounds 4 (.bool true))
  exact ⟨Heap.get?_update_self (Obj.mapFields (·.setIfInBounds 4 (.bool true))) ha3 (Obj.isFreed_of_fields hd4), hd4⟩
theorem refFrom_other {h : Heap} {a x b : Addr} (hne : a ≠ b) : (refFrom h a x).get? b = h.get? b := by
  unfold refFrom
  rw [Heap.get?_update_other _ _ hne, Heap.get?_update_other _ _ hne]
theorem raise_made_hotF {prog : Program} {w : World} {A : Around} {E : Value → Shared → Prop} {env : Env} {s : Shared} {x c : Sem Value} {Q : Flow → Shared → Prop} {x1 : Addr}
    
    (h : wpAny (model prog w) A x (fun v s₁ => ∃ a oe vs cls, v = .ref a ∧ s₁.heap.get? a = some oe ∧ oe.cls = cls ∧ oe.data = .fields vs ∧ vs[1]? = some .none ∧ 4 < vs.size ∧ x1 ≠ a ∧ HotAt A x1 s₁.heap ∧
      PySem.W.Looks (model prog w) s₁.heap (isSubtype cls (.type "BaseException")) true ∧ (∀ (Q' : Value → Shared → Prop), Q' (.ref x1) s₁ → wpAny (model prog w) A c Q' E s₁) ∧ PySem.W.Looks (model prog w) s₁.heap (isInstance (.ref x1) (.type "BaseException")) true ∧ PySem.W.Looks (model prog w) (refFrom s₁.heap a x1) (typeOf cls) (.type "type") ∧
      E (.ref a) { s₁ with heap := (refFrom s₁.heap a x1).update a (Obj.mapFields (·.setIfInBounds 2 (.ref x1))) }) E s) :
    wpAny (model prog w) A (raiseStmt env (some x) (some c)) Q E s := by
  unfold raiseStmt
  dsimp only
  refine wpAny_bind (wpAny_mono h (fun v s₁ h₁ => ?_) fun _ _ x => x)
  obtain ⟨a, oe, vs, cls, rfl, ha, hcls, hd, h1, hi, hne, hot, L1, hcs, LX, L3, hE⟩ := h₁
  have LT : PySem.W.Looks (model prog w) s₁.heap (typeOf (.ref a)) cls := fun A Q E s k q => wpAny_typeOf_ref (k _ _ ha) (by rw [hcls]; exact q)
  have LI : PySem.W.Looks (model prog w) s₁.heap (isInstance (.ref a) (.type "BaseException")) true := LT.andThen L1
  have hnt : ∀ {Q' : Bool → Shared → Prop}, Q' false s₁ → wpAny (model prog w) A (isType (.ref a)) Q' E s₁ := by
    intro Q' hq
    simp only [isType, loadHead]
    refine wpAny_bind (wpAny_loadPart ha ?_)
    rw [hd]; exact wpAny_pure hq
  have hd3 := Obj.data_mapFields hd (·.setIfInBounds 3 (.ref x1))
  have ha3 := Heap.get?_update_self (Obj.mapFields (·.setIfInBounds 3 (.ref x1))) ha (Obj.isFreed_of_fields hd3)
  obtain ⟨ha4, hd4⟩ := refFrom_at ha hd
  have s3 : 3 < vs.size := by omega
  have s4 : 4 < (vs.setIfInBounds 3 (Value.ref x1)).size := by rw [set_size]; exact hi
  have s2 : 2 < ((vs.setIfInBounds 3 (Value.ref x1)).setIfInBounds 4 (Value.bool true)).size := by rw [set_size, set_size]; omega
  have h14 : ((vs.setIfInBounds 3 (Value.ref x1)).setIfInBounds 4 (Value.bool true))[1]? = some Value.none := set_other (by decide) (set_other (by decide) h1)
  have hcls4 : ((oe.mapFields (·.setIfInBounds 3 (.ref x1))).mapFields (·.setIfInBounds 4 (.bool true))).cls = cls := by rw [Obj.cls_mapFields, Obj.cls_mapFields]; exact hcls
  have LT4 : PySem.W.Looks (model prog w) (refFrom s₁.heap a x1) (typeOf (.ref a)) cls := fun A Q E s k q => wpAny_typeOf_ref (k _ _ ha4) (by rw [hcls4]; exact q)
  have hnt4 : ∀ {Q' : Bool → Shared → Prop}, Q' false { s₁ with heap := refFrom s₁.heap a x1 } → wpAny (model prog w) A (isType (.ref a)) Q' E { s₁ with heap := refFrom s₁.heap a x1 } := by
    intro Q' hq
    simp only [isType, loadHead]
    refine wpAny_bind (wpAny_loadPart ha4 ?_)
    rw [hd4]; exact wpAny_pure hq
  have hot4 : HotAt A x1 (refFrom s₁.heap a x1) := by
    obtain ⟨q1, o, vs', q2, q3, q4⟩ := hot
    exact ⟨q1, o, vs', by rw [refFrom_other (Ne.symm hne)]; exact q2, q3, q4⟩
  -- what stands behind the two stores
  have rest : wpAny (model prog w) A (do
      let b ← isType (.ref a)
      if b = true then do
        let e ← holding [.ref a] (raisedFor (.ref a) (.ref a))
        setFlight e none
        raiseNew e
      else do
        let e ← raisedInstance (.ref a)
        setFlight e none
        raiseNew e : Sem Flow) Q E { s₁ with heap := refFrom s₁.heap a x1 } := by
    refine wpAny_bind (hnt4 ?_)
    simp only [Bool.false_eq_true, if_false]
    unfold raisedInstance
    refine wpAny_bind (wpAny_bind (LT4.here (wpAny_bind (L3.here ?_))))
    rw [if_pos (beq_self_eq_true _)]
    refine wpAny_pure ?_
    unfold setFlight
    refine wpAny_bind (wpAny_bind (wpAny_field ha4 hd4 h14 ?_))
    rw [if_neg (by decide)]
    refine wpAny_pure ?_
    exact raiseNew_hot hot4 hne ha4 hd4 s2 hE
  refine wpAny_bind (wpAny_holding (hcs _ (wpAny_bind (wpAny_pure ?_))))
  dsimp only
  refine wpAny_bind (wpAny_holding ?_)
  unfold excFromValue isExcClass
  refine wpAny_bind (wpAny_bind (hnt ?_))
  simp only [Bool.false_eq_true, if_false]
  refine wpAny_pure ?_
  simp only [Bool.false_eq_true, if_false]
  refine wpAny_bind (LI.here ?_)
  simp only [if_true]
  refine wpAny_pure ?_
  rw [if_neg (show ¬ ((Value.ref x1 == Value.none) = true) from by simp)]
  have hnx : ∀ {Q' : Bool → Shared → Prop}, Q' false s₁ → wpAny (model prog w) A (isType (.ref x1)) Q' E s₁ := by
    intro Q' hq
    obtain ⟨_, ox, vx, gx, dx, _⟩ := hot
    simp only [isType, loadHead]
    refine wpAny_bind (wpAny_loadPart gx ?_)
    rw [dx]; exact wpAny_pure hq
  refine wpAny_bind (wpAny_holding (wpAny_bind (wpAny_bind (hnx ?_))))
  simp only [Bool.false_eq_true, if_false]
  refine wpAny_pure ?_
  simp only [Bool.false_eq_true, if_false]
  refine wpAny_bind (LX.here ?_)
  simp only [if_true]
  refine wpAny_pure ?_
  refine wpAny_bind (wpAny_setField ha hd s3 (wpAny_bind (wpAny_setField ha3 hd3 s4 ?_)))
  exact rest
end HotX
namespace L2H
open PySem PySem.Spec PyProof.Rows L2 HotX
/-- raise X(..) from n, n the name of the handled exception, whose class is cls0 -/
theorem ps_raiseHF {X : Cx} {W : WX} {e : Expr} {t : L2.St → Hp → XK → Prop} {i : Nat} {n : Str} {a0 : Addr} {cls0 : Value} {oe0 : Obj} {Kf : PySem.W.Frag} (hK : X.K = Kf) {cpos pos : Pos} (hc : X.A.handled = some (.ref a0)) (hp : (a0, oe0) ∈ X.pn) (hctx : ∃ vs : Array Value, oe0.data = .fields vs ∧ vs[2]? = some .none) (hcl0 : oe0.cls = cls0) (hN : X.N[i]? = some n) (hl : X.env.kindOf n = some .local) (tk : L2.Takes X W) (he : PMk5 X e t)
    (hdb : (n == ("__debug__" : Str)) = false := by decide) :
    PS X (.Raise (some e) (some (.Name n cpos)) pos) (fun _ σ H => PySem.W.subIn Kf cls0 (.type "BaseException") = some true ∧ σ[i]? = some (some (.ref a0)) ∧ t σ H fun cls d H' => W cls d σ H') := by
  subst hK
  refine ⟨fun pins s σ H D I ⟨hsub, hσ, h⟩ => ?_⟩
  obtain ⟨v1, e1, c1⟩ := hctx
  show wpAny _ _ (do standAt pos; raiseStmt X.env (some (do let v ← eval e X.env; standAt pos; pure v)) (some (do let v ← eval (.Name n cpos) X.env; standAt pos; pure v))) _ _ _
  refine wpAny_bind (wpAny_standAt (raise_made_hotF (x1 := a0) (wpAny_bind (wpAny_mono (he pins s σ H _ I h) (fun u s1 hu => wpAny_bind (wpAny_standAt (wpAny_pure ?_))) fun _ _ x => x))))
  obtain ⟨⟨a, oe, vs, sI, H', cls, d, rfl, J, k, hne, ha, hz, hd, h1, na, os, ag, r, q⟩, h5⟩ := hu
  have hi : 4 < vs.size := h5 a oe vs rfl ha hd
  have k4 : ∀ b u, sI.heap.get? b = some u → (refFrom s1.heap a a0).get? b = some u := fun b u z => by
    have nab : a ≠ b := fun y => by
      rw [← y, hne] at z
      cases z
    rw [refFrom_other nab]
    exact k b u z
  obtain ⟨r1, _⟩ := r (model X.prog X.w) s1.heap (J.kIn.keeps k)
  obtain ⟨_, r2⟩ := r (model X.prog X.w) (refFrom s1.heap a a0) (J.kIn.keeps k4)
  have P1 := (J.pin (a0, oe0) (List.mem_append_left _ hp)).1
  have nap : a0 ≠ a := fun z => by
    have P2 : sI.heap.get? a0 = some oe0 := P1
    rw [z, hne] at P2
    cases P2
  have P3 : s1.heap.get? a0 = some oe0 := k _ _ P1
  obtain ⟨ha4, hd4⟩ := refFrom_at (x := a0) ha hd
  have h12 : (((vs.setIfInBounds 3 (Value.ref a0)).setIfInBounds 4 (Value.bool true)).setIfInBounds 2 (Value.ref a0))[1]? = some Value.none := set_other (by decide) (set_other (by decide) (set_other (by decide) h1))
  have LX : PySem.W.Looks (model X.prog X.w) s1.heap (isInstance (.ref a0) (.type "BaseException")) true :=
    PySem.W.Looks.andThen (fun A Q E s k q => wpAny_typeOf_ref (k _ _ P3) (by rw [hcl0]; exact q)) (PySem.W.looks_subIn (J.kIn.keeps k) hsub)
  have ldv : ∀ (Q' : Value → Shared → Prop), Q' (.ref a0) s1 → wpAny (model X.prog X.w) X.A (do let v ← eval (.Name n cpos) X.env; standAt pos; pure v) Q' X.xe s1 := fun Q' hq => by
    obtain ⟨m, hn, hlk⟩ := J.loc
    obtain ⟨u, ru, lk⟩ := hlk i n _ hN hσ (.inl hl)
    obtain rfl : u = Value.ref a0 := ru
    rcases lk with ⟨hk, hm⟩ | ⟨hk, _⟩
    · exact wpAny_bind (wpAny_Name (wpAny_loadName_local J.ok.kind hk (hn.at fun o z => k _ _ z) hm (wpAny_bind (wpAny_standAt (wpAny_pure hq)))) hdb)
    · rw [hl] at hk
      rcases hk with hk | hk <;> cases hk
  refine ⟨a, oe, vs, cls, rfl, ha, hz.1, hd, h1, hi, nap, ⟨hc, oe0, v1, P3, e1, c1⟩, r1, ldv, LX, r2, tk _ _ (XE.new J (fun b u z => ?_) hne (Heap.get?_update_self _ ha4 (Obj.isFreed_of_fields (Obj.data_mapFields hd4 _)))
    ⟨by rw [Obj.cls_mapFields, Obj.cls_mapFields, Obj.cls_mapFields]; exact hz.1, by rw [HandSPX.dict_mapFields, HandSPX.dict_mapFields, HandSPX.dict_mapFields]; exact hz.2.1⟩ (Obj.data_mapFields hd4 _) h12 na os ag q)⟩
  have nab : a ≠ b := fun y => by
    rw [← y, hne] at z
    cases z
  show ((refFrom s1.heap a a0).update a (Obj.mapFields (·.setIfInBounds 2 (.ref a0)))).get? b = some u
  rw [Heap.get?_update_other _ _ nab]
  exact k4 b u z
end L2H
namespace L2H
open PySem PySem.Spec PyProof.Rows L2 HotX
/-! ### an except suite «as n» that raises: the name goes, the exception goes on -/
section
variable {M : Model} {A A' : Around} {E E₂ : Value → Shared → Prop} {s : Shared} {Z : Obj → Prop} {base : Heap} {env : Env} {outer : List Env} {L e : Addr}
theorem tracedZ_but {h h' : Heap} {fl : Value} {m : Str → Option Value} (x : HandSPX.TracedZ h base e Z fl) (hn : h.Ns L m) (hs : Heap.SameBut L h h') : HandSPX.TracedZ h' base e Z fl := by
  obtain ⟨oe, vs, T, oT, ts, he, hz, hd, h1, hnT, hTe, hT, hdT, h3⟩ := x
  obtain ⟨oL, es, ep, hoL, hdL, _⟩ := hn
  have neE : e ≠ L := fun q => by
    rw [q, hoL] at he
    have z := Option.some.inj he
    rw [← z, hdL] at hd
    cases hd
  have neT : T ≠ L := fun q => by
    rw [q, hoL] at hT
    have z := Option.some.inj hT
    rw [← z, hdL] at hdT
    cases hdT
  exact ⟨oe, vs, T, oT, ts, (hs.2 e neE).trans he, hz, hd, h1, hnT, hTe, (hs.2 T neT).trans hT, hdT, h3⟩
theorem sky_note {Q : Unit → Shared → Prop} (hZ : HandSPX.Steady Z) (hfr : A.frames = some (env :: outer)) (hf : env.frame = some L)
    (x : Sky base (env :: outer) e Z L s.heap) (hQ : ∀ h', HandSPX.HeldZ base (env :: outer) e Z L h' → s.heap.UpToSlots h' → Q () { s with heap := h' }) : wpAny M A (noteFrame (.ref e) env) Q E s := by
  rcases x with ⟨hB, hn, hl, oe, vs, he, hz, hd, h1⟩ | fl | hh
  · exact HandSPX.look_newZ hZ hfr hl hf he hB hn hd h1 hz hQ
  · exact HandSPX.looks_onZ hZ hfr hf fl hQ
  · exact HandSPX.againZ hf hh.2.2.2 (hQ s.heap hh (Heap.UpToSlots.refl _))
theorem asSuite_tailZ {n : Str} {pos : Pos} {m : Str → Option Value}
    (hf : env.frame = some L) (hL : env.locals = L) (hh : HandSPX.HeldZ base (env :: outer) e Z L s.heap) (hn : s.heap.Ns L m) (hlo : env.kindOf n = some .local)
    (hp : (env.scope.kind == .class || (env.scope.kind == .module && env.locals != env.globals)) = false)
    (hQ : ∀ h2 h' v, Heap.SameBut L s.heap h2 → h2.Ns L (fun x => if x = n then v else m x) → HandSPX.HeldZ base (env :: outer) e Z L h' → h2.UpToSlots h' → E (.ref e) { s with heap := h', toks := s.toks + 1 }) :
    wpAny M A' (do bindName env n .none; unbindBehindTheSuite env n pos)
      (fun _ s₂ => wpAny M A' (PySem.passOn "try.except-as" (.ref e) env : Sem Flow) (fun _ _ => False) (notedBy M A' env (cameBackBy M A env E)) s₂) E₂ s := by
  obtain ⟨b1, b0, f1, t1⟩ := hh
  have hbL : base.get? L = none := by
    obtain ⟨_, ⟨L', _, hf', hb', _⟩, _⟩ := f1
    rw [hf] at hf'
    rw [Option.some.inj hf']
    exact hb'
  refine wpAny_nameGoes_keeps hlo (by rw [hL]; exact hn) hp fun h₂ v hn₂ hs₂ => ?_
  rw [hL] at hn₂ hs₂
  have b2 : base.StaysIn h₂ := fun b o hb => (hs₂.2 b fun q => by rw [q, hbL] at hb; cases hb).trans (b1 b o hb)
  have f2 : h₂.FunFrames base (env :: outer) := Heap.FunFrames.sameBut hs₂ hn₂ f1
  have t2 := tracedZ_but t1 hn hs₂
  obtain ⟨oe, vs, T, oT, ts, he, hc, hd, h1, r⟩ := id t2
  unfold PySem.passOn
  refine wpAny_bind (wpAny_field he hd h1 ?_)
  rw [if_neg (show ¬ ((Value.ref T == Value.none) = true) from by simp)]
  rw [hf]
  refine wpAny_bind (HandSPX.setFlight_anyZ (l := env :: outer) b2 f2 t2 fun h₃ b3 f3 t3 k3 => ?_)
  refine wpAny_throw ?_
  show wpAny M A' (noteFrame (.ref e) env) _ _ _
  refine HandSPX.againZ hf t3 ?_
  obtain ⟨oe', vs', T', oT', ts', he', hc', hd', h1', r'⟩ := id t3
  show wpAny M A (do
    if (← field (.ref e) 1) == .none then unsupported "frame.own-activation:exception-without-traceback"
    setFlight (.ref e) env.frame) _ _ _
  refine wpAny_bind (wpAny_field he' hd' h1' ?_)
  rw [if_neg (show ¬ ((Value.ref T' == Value.none) = true) from by simp)]
  rw [hf]
  refine HandSPX.setFlight_anyZ (l := env :: outer) b3 f3 t3 fun h₄ b4 f4 t4 k4 => ?_
  exact hQ h₂ h₄ v hs₂ hn₂ ⟨b4, b0, f4, t4⟩ (k3.trans k4)
end
section
variable {X : Cx} {pins : List (Addr × Obj)} {σ : L2.St} {H : Hp} {s : Shared}
/-- the state when an except clause's name is gone -/
theorem inv_gone {i : Nat} {n : Str} (I : Inv X pins σ H s) (hN : X.N.Nodup) (hi : X.N[i]? = some n) :
    ∃ m, s.heap.Ns X.env.locals m ∧ ∀ h' v t, h'.Ns X.env.locals (fun x => if x = n then v else m x) → Heap.SameBut X.env.locals s.heap h' → Inv X pins (σ.set i none) H { s with heap := h', toks := t } := by
  obtain ⟨m, hn, hlk⟩ := id I.loc
  refine ⟨m, hn, fun h' v t hn' hs => ?_⟩
  have neL : ∀ b o, X.s_0.heap.get? b = some o → b ≠ X.env.locals := fun b o e => Nat.ne_of_lt (Nat.lt_of_lt_of_le (Heap.lt_size e) I.ok.above)
  refine ⟨I.ok, I.os, I.bare, ⟨fun b o e n hb hx => ?_, fun b o e n hb hx => ?_, I.base.free, fun b o e hx => ?_, I.base.tups, I.base.frzs, I.base.tbls⟩, ⟨_, hn', fun j y v' e1 e2 e3 => ?_⟩, fun y c e => ?_, I.free, I.freeC, fun p hp => ?_, fun b ob e => ?_, by simpa using I.len⟩
  · exact (hs.2 b (neL b o e)).trans (I.base.keep b o e n hb hx)
  · obtain ⟨sl, e1⟩ := I.base.slot b o e n hb hx
    exact ⟨sl, (hs.2 b (neL b o e)).trans e1⟩
  · obtain ⟨o', e1⟩ := I.base.there b o e hx
    exact ⟨o', (hs.2 b (neL b o e)).trans e1⟩
  · by_cases hj : j = i
    · subst hj
      by_cases hlt : j < σ.length
      · rw [List.getElem?_set_self hlt] at e2; cases e2
      · rw [List.getElem?_eq_none (by simpa using hlt)] at e2; cases e2
    · rw [List.getElem?_set_ne (Ne.symm hj)] at e2
      obtain ⟨u', r', q⟩ := hlk j y v' e1 e2 e3
      refine ⟨u', r', ?_⟩
      rcases q with ⟨k, e⟩ | ⟨k, c, e, z⟩
      · have ny : y ≠ n := fun e => hj (nodup_ix hN e1 (e ▸ hi))
        exact .inl ⟨k, (if_neg ny).trans e⟩
      · exact .inr ⟨k, c, e, z.sameBut hs (I.cne y c e)⟩
  · obtain ⟨w', z⟩ := I.cell y c e
    exact ⟨w', z.sameBut hs (I.cne y c e)⟩
  · obtain ⟨e, n, ne, nf, d⟩ := I.pin p hp
    exact ⟨(hs.2 p.1 ne).trans e, n, ne, nf, d⟩
  · refine (I.hok b ob e).stay (fun c w' hc q => (hs.2 c ?_).trans q) (fun _ q => q) fun _ _ q => q
    intro z
    subst z
    rcases hc with hc | hc
    · rw [← hc, I.free] at e; cases e
    · rw [I.free] at hc; cases hc
/-- the context of such a suite, with a wish of its own -/
abbrev suiteE (X : Cx) (a : Addr) (pn : List (Addr × Obj)) (xe : Value → Shared → Prop) : Cx := { X with A := X.A.mark (some (.ref a)), calm := false, pn := pn, xe := xe }
theorem suiteE_of {a : Addr} {pn pn' : List (Addr × Obj)} {xe : Value → Shared → Prop} (I : Inv (X.suite a pn) pn' σ H s) : Inv (suiteE X a pn xe) pn' σ H s :=
  (suiteX_of I).wish xe
theorem unsuiteE {a : Addr} {q : Addr × Obj} {pn' : List (Addr × Obj)} {xe : Value → Shared → Prop} (I : Inv (suiteE X a (q :: (X.pn ++ pins)) xe) pn' σ H s) (ok : X.Ok) : Inv X pins σ H s :=
  unsuiteX (X := X) (show Inv (suiteX X a (q :: (X.pn ++ pins))) pn' σ H s from I.wish (X := suiteE X a (q :: (X.pn ++ pins)) xe) X.xe) ok
/-- what the suite lets out is taken: slot i is None then -/
theorem takes_suiteE {a : Addr} {q : Addr × Obj} {i : Nat} {n : Str} {pos : Pos} {Wout : WX} {hd : Option Value} {E₂ : Value → Value → Shared → Prop} {E₃ : Value → Shared → Prop} (ok : X.Ok) (hs : X.stack = X.env :: X.outer) (hf : X.env.frame = some X.env.locals) (hN : X.N.Nodup) (hi : X.N[i]? = some n) (hln : X.env.kindOf n = some .local) (tk : L2.Takes X Wout) :
    L2.Takes (suiteE X a (q :: (X.pn ++ pins)) (fun e s => wpAny (model X.prog X.w) (X.A.mark hd) (noteFrame e X.env) (fun _ s₃ => wpAny (model X.prog X.w) (X.A.mark hd) (do bindName X.env n .none; unbindBehindTheSuite X.env n pos)
      (fun _ s₄ => wpAny (model X.prog X.w) (X.A.mark hd) (PySem.passOn "try.except-as" e X.env : Sem Flow) (fun _ _ => False) (notedBy (model X.prog X.w) (X.A.mark hd) X.env (cameBackBy (model X.prog X.w) X.A X.env X.xe)) s₄) (E₂ e) s₃) E₃ s)) (fun cls d σ H => Wout cls d (σ.set i none) H) := by
  intro u2 s2 x2
  obtain ⟨a2, B, sI, pn2, σ2, H2, cls, d, rfl, I2, nb, up, sky, na, os, ag, w⟩ := x2
  have J : Inv X pins σ2 H2 sI := unsuiteE I2 ok
  have hfr : (X.A.mark hd).frames = some (X.env :: X.outer) := by show X.A.frames = _; rw [ok.frames, hs]
  have sky' : Sky B (X.env :: X.outer) a2 (Zc cls d) X.env.locals s2.heap := by rw [← hs]; exact sky
  have hcls : (X.env.scope.kind == .class || (X.env.scope.kind == .module && X.env.locals != X.env.globals)) = false := by rw [ok.kind]; rfl
  obtain ⟨m, hm, K⟩ := inv_gone J hN hi
  have inF : X.env.locals ∈ frs X.stack := by rw [hs]; exact List.mem_filterMap.mpr ⟨X.env, List.mem_cons_self, hf⟩
  show wpAny _ _ (noteFrame (.ref a2) X.env) _ _ s2
  refine sky_note Zc.steady hfr hf sky' fun h3 hh3 up3 => ?_
  refine asSuite_tailZ hf rfl hh3 ((up.trans up3).ns hm) hln hcls fun h4 h5 v sb4 ns4 hh5 up5 => ?_
  obtain ⟨oL, esL, epL, hoL, hdL, hkL, hfL⟩ := id ns4
  obtain ⟨oL0, _, _, hoL0, hdL0, _⟩ := id hm
  have nfr : oL.isFreed = false := by
    cases q : oL.isFreed with
    | false => rfl
    | true =>
      obtain ⟨_, z⟩ := Heap.get?_some_iff.mp hoL
      rw [q] at z; cases z
  have gL : (sI.heap.update X.env.locals (fun _ => oL)).get? X.env.locals = some oL := Heap.get?_update_self (fun _ => oL) hoL0 nfr
  have sbL : Heap.SameBut X.env.locals sI.heap (sI.heap.update X.env.locals (fun _ => oL)) := ⟨by simp [Heap.update], fun b hb => Heap.get?_update_other _ _ (Ne.symm hb)⟩
  have J5 := K (sI.heap.update X.env.locals (fun _ => oL)) v sI.toks ⟨oL, esL, epL, gL, hdL, hkL, hfL⟩ sbL
  refine tk _ _ ⟨a2, B, _, pins, _, H2, cls, d, rfl, J5, fun b o e hb => ?_, fun b o e hnf => ?_, .inr (.inr (by rw [hs]; exact hh5)), na, os, ag, w⟩
  · have hbL : b ≠ X.env.locals := fun z => hb (by rw [z]; exact inF)
    exact nb b o ((sbL.2 b hbL).symm.trans e) hb
  · by_cases hbL : b = X.env.locals
    · subst hbL
      have e' : oL = o := Option.some.inj (gL.symm.trans e)
      subst e'
      exact up5 _ _ hoL hnf
    · obtain ⟨sl, e1⟩ := (up.trans up3) b o ((sbL.2 b hbL).symm.trans e) hnf
      exact up5 _ _ ((sb4.2 b hbL).trans e1) hnf |>.imp fun sl2 z => z
end
end L2H
namespace L2H
open PySem PySem.Spec PyProof.Rows L2 HotX
/-! ### try: body, except x as n: a suite that may raise -/
section
variable {X : Cx} {x n : Str} {c : Value} {i : Nat} {body suite : List Stmt} {b₀ : Stmt} {np pos pos' : Pos} {tb : WX → TS} {ts : Addr → Value → Option Addr → TS} {Wout : WX}
theorem ps_try_asX (hs : X.stack = X.env :: X.outer) (hf : X.env.frame = some X.env.locals) (hN : X.N.Nodup) (hi : X.N[i]? = some n) (hln : X.env.kindOf n = some .local) (hc : Names X x c) (tk : L2.Takes X Wout)
    (hb : ∀ (W : WX) (pn : List (Addr × Obj)) (xe : Value → Shared → Prop), L2N.Takes (X.tr pn xe) W → L2.Takes (X.tr pn xe) (wPass X.K c Wout) → PassesOwn (model X.prog X.w) X.A X.env xe → PSs (X.tr pn xe) body (tb W))
    (hsu : ∀ (a : Addr) (oe : Obj) (cls : Value) (d : Option Addr) (pn : List (Addr × Obj)) (xe : Value → Shared → Prop), L2N.Zn cls d oe → (∃ vs, oe.data = .fields vs) → L2.Takes (suiteE X a ((a, oe) :: pn) xe) (fun cls d σ H => Wout cls d (σ.set i none) H) →
      PSs (suiteE X a ((a, oe) :: pn) xe) (b₀ :: suite) (ts a cls d)) :
    PS X (.Try body [.ExceptHandler (some (.Name x np)) (some n) (b₀ :: suite) pos'] [] [] pos) (fun D σ H => tb (wAs X.K c i ts Wout D) D σ H) := by
  refine ⟨fun pins s σ H D I h => ?_⟩
  have ok := I.ok
  have hloc : Loc X.env.scope n := .inl hln
  have hfr : X.A.frames = some (X.env :: X.outer) := by rw [ok.frames, hs]
  have notFr : ∀ {B h : Heap} {a : Addr} {o : Obj} {vs : Array Value}, h.FunFrames B (X.env :: X.outer) → h.get? a = some o → o.data = .fields vs → a ∉ frs (X.env :: X.outer) := fun {B h a o vs} ff e dd hm => by
    obtain ⟨_, o', e', hnf⟩ := ff.mem hm
    rw [e] at e'; cases e'
    exact hnf _ dd
  have flyOn : ∀ {a : Addr} {B : Heap} {sI s' : Shared} {σ' : L2.St} {H' : Hp} {cls : Value} {d : Option Addr} {h3 : Heap}, Inv X pins σ' H' sI → (∀ b o, sI.heap.get? b = some o → b ∉ frs X.stack → B.get? b = some o) → sI.heap.UpToSlots h3 →
      HandSPX.FlyingZ B (X.env :: X.outer) a (Zc cls d) h3 → H' a = none → s'.os = sI.os → AllBare s'.gens → Wout cls d σ' H' → wpAny (model X.prog X.w) X.A (handleBy (.ref a) X.env []) (SP X pins D) X.xe { s' with heap := h3 } := by
    intro a B sI s' σ' H' cls d h3 J nb up fl3 na os ag w
    refine wpAny_handleBy_nil ?_
    obtain ⟨k1, k2, k3, oe, vs, T, oT, ts', he, hz, hd, h1, hr⟩ := id fl3
    unfold PySem.passOn
    refine wpAny_bind (wpAny_field he hd h1 ?_)
    rw [if_neg (show ¬ ((Value.ref T == Value.none) = true) from by simp)]
    have fin : wpAny (model X.prog X.w) X.A (setFlight (.ref a) X.env.frame) (fun _ s4 => wpAny (model X.prog X.w) X.A (throw (.ref a) : Sem Flow) (SP X pins D) X.xe s4) X.xe { s' with heap := h3 } := by
      rw [hf]
      refine HandSPX.setFlight_upZ fl3 fun h4 hh4 up4 => wpAny_throw (tk _ _ ?_)
      exact ⟨a, B, sI, pins, σ', H', cls, d, rfl, J, nb, up.trans up4, .inr (.inr (by rw [hs]; exact hh4)), na, os, ag, w⟩
    first
      | exact wpAny_bind (wpAny_pure (wpAny_bind fin))
      | exact wpAny_bind fin
  refine wpAny_Try_except ?_
  refine wpAny_mono ((hb (wAs X.K c i ts Wout D) (X.pn ++ pins) (fun e s₁ => wpAny (model X.prog X.w) X.A (noteFrame e X.env) (fun _ s₂ => wpAny (model X.prog X.w) X.A (setFlight e none) (fun _ s₃ =>
    wpAny (model X.prog X.w) X.A (handleBy e X.env [.ExceptHandler (some (.Name x np)) (some n) (b₀ :: suite) pos']) (SP X pins D) X.xe s₃) X.xe s₂) X.xe s₁) (fun u s' xx => ?_) (fun u s' xx => ?_) PassesOwn.looking).run [] s σ H D (I.toTry _) h) (fun f s1 hsp => ?_) (fun e s1 he => he)
  · -- an exception whose context is None
    obtain ⟨a, B, sI, pins', σ', H', cls, d, rfl, J', nb, up, sky, na, os, ag, b, hb1, hyes, hno⟩ := xx
    have J : Inv X pins σ' H' sI := J'.ofTry ok
    have sky' : Sky B (X.env :: X.outer) a (L2N.Zn cls d) X.env.locals s'.heap := by rw [← hs]; exact sky
    show wpAny (model X.prog X.w) X.A (noteFrame (.ref a) X.env) _ _ _
    refine L2N.Sky.land L2N.Zn.steady hfr hf sky' fun h3 fl3 up3 => ?_
    have J3 : Inv X pins σ' H' { s' with heap := h3 } := J.landed nb fl3.1 (up.trans up3) os ag
    obtain ⟨oe3, vs3, he3, hz3, hd3⟩ := fl3.there
    have nfr : a ∉ frs (X.env :: X.outer) := notFr fl3.2.2.1 he3 hd3
    have nL : a ≠ X.env.locals := fun z => nfr (List.mem_filterMap.mpr ⟨X.env, List.mem_cons_self, by rw [hf, z]⟩)
    have nF : a ∉ X.fs := fun hm => by
      obtain ⟨e, he, q⟩ := List.mem_filterMap.mp hm
      exact nfr (List.mem_filterMap.mpr ⟨e, List.mem_cons_of_mem _ he, q⟩)
    have S3 := J3.suite he3 hd3 na nL nF
    refine wpAny_handleBy_cons (codeAny_handlers_test ?_) (by intro q; cases q)
    have LT : PySem.W.Looks (model X.prog X.w) h3 (typeOf (.ref a)) cls := fun A Q E s k q => wpAny_typeOf_ref (k _ _ he3) (by rw [hz3.1]; exact q)
    have LM := PySem.W.exm_one (M := model X.prog X.w) (J3.kIn) LT hb1
    have test : ∀ {Q : Value → Shared → Prop} {E : Value → Shared → Prop}, Q c { s' with heap := h3 } → wpAny (model X.prog X.w) (X.A.mark (some (.ref a))) (eval (.Name x np) X.env) Q E { s' with heap := h3 } := fun {Q E} q => by
      obtain ⟨hg, hdbg, hm | ⟨hm, hv, hnn⟩⟩ := hc
      · exact ld_glob (X := X.suite a ((a, oe3) :: (X.pn ++ pins))) S3 hg hm q hdbg
      · exact ld_blt (X := X.suite a ((a, oe3) :: (X.pn ++ pins))) S3 hg hm hv q hnn hdbg
    refine test (LM.here ?_)
    cases b with
    | true =>
      refine codeAny_handlers_suite_as ?_
      refine HandSPX.lands_againZ fl3 fun h4 fl4 up4 => ?_
      have J4 : Inv X pins σ' H' { s' with heap := h4 } := J.landed nb fl4.1 ((up.trans up3).trans up4) os ag
      obtain ⟨oe4, vs4, he4, hz4, hd4⟩ := fl4.there
      have S4 := J4.suite he4 hd4 na nL nF
      refine store_ok (X := suiteX X a ((a, oe4) :: (X.pn ++ pins))) (v := .ref a) (suiteX_of S4) hN hi hloc rfl (fun s5 S5 => ?_) (.inr hln)
      refine wpAny_mono ((hsu a oe4 cls d (X.pn ++ pins) _ hz4 ⟨_, hd4⟩ (takes_suiteE (hd := some (.ref a)) ok hs hf hN hi hln tk)).run [] s5 _ H' _ (show Inv (suiteE X a ((a, oe4) :: (X.pn ++ pins)) _) [] _ H' s5 from S5.wish _) (hyes rfl a na)) (fun f s6 hsp => ?_) (fun e6 s6 z => z)
      have end_ : ∀ {xe6 : Value → Shared → Prop} {σ6 : L2.St} {H6 : Hp} {Q : Shared → Prop}, Inv (suiteE X a ((a, oe4) :: (X.pn ++ pins)) xe6) [] σ6 H6 s6 → (∀ s7, Inv X pins (σ6.set i none) H6 s7 → Q s7) →
          wpAny (model X.prog X.w) X.A (do bindName X.env n .none; unbindBehindTheSuite X.env n pos') (fun _ s7 => Q s7) X.xe s6 := fun {xe6 σ6 H6 Q} S6 hq => gone_ok (unsuiteE S6 ok) hN hi hln hq
      cases f with
      | next =>
        obtain ⟨σ6, H6, S6, q6⟩ := hsp
        exact end_ S6 fun s7 J7 => ⟨_, _, J7, q6⟩
      | brk =>
        obtain ⟨σ6, H6, S6, q6⟩ := hsp
        exact end_ S6 fun s7 J7 => ⟨_, _, J7, q6⟩
      | cont =>
        obtain ⟨σ6, H6, S6, q6⟩ := hsp
        exact end_ S6 fun s7 J7 => ⟨_, _, J7, q6⟩
      | ret u =>
        obtain ⟨v6, σ6, H6, S6, r6, q6⟩ := hsp
        exact end_ S6 fun s7 J7 => ⟨_, _, _, J7, r6, q6⟩
    | false =>
      show wpAny _ X.A (handleBy (.ref a) X.env []) _ _ _
      exact flyOn J nb (up.trans up3) (flyingZ_imp (fun o z => z.zc) fl3) na os ag (hno rfl)
  · -- any other: the clause doesn't name it
    obtain ⟨a, B, sI, pins', σ', H', cls, d, rfl, J', nb, up, sky, na, os, ag, hb1, hno⟩ := xx
    have J : Inv X pins σ' H' sI := J'.ofTry ok
    have sky' : Sky B (X.env :: X.outer) a (Zc cls d) X.env.locals s'.heap := by rw [← hs]; exact sky
    show wpAny (model X.prog X.w) X.A (noteFrame (.ref a) X.env) _ _ _
    refine L2.Sky.land Zc.steady hfr hf sky' fun h3 fl3 up3 => ?_
    have J3 : Inv X pins σ' H' { s' with heap := h3 } := J.landed nb fl3.1 (up.trans up3) os ag
    obtain ⟨oe3, vs3, he3, hz3, hd3⟩ := fl3.there
    have nfr : a ∉ frs (X.env :: X.outer) := notFr fl3.2.2.1 he3 hd3
    have nL : a ≠ X.env.locals := fun z => nfr (List.mem_filterMap.mpr ⟨X.env, List.mem_cons_self, by rw [hf, z]⟩)
    have nF : a ∉ X.fs := fun hm => by
      obtain ⟨e, he, q⟩ := List.mem_filterMap.mp hm
      exact nfr (List.mem_filterMap.mpr ⟨e, List.mem_cons_of_mem _ he, q⟩)
    have S3 := J3.suite he3 hd3 na nL nF
    refine wpAny_handleBy_cons (codeAny_handlers_test ?_) (by intro q; cases q)
    have LT : PySem.W.Looks (model X.prog X.w) h3 (typeOf (.ref a)) cls := fun A Q E s k q => wpAny_typeOf_ref (k _ _ he3) (by rw [hz3.1]; exact q)
    have LM := PySem.W.exm_one (M := model X.prog X.w) (J3.kIn) LT hb1
    have test : ∀ {Q : Value → Shared → Prop} {E : Value → Shared → Prop}, Q c { s' with heap := h3 } → wpAny (model X.prog X.w) (X.A.mark (some (.ref a))) (eval (.Name x np) X.env) Q E { s' with heap := h3 } := fun {Q E} q => by
      obtain ⟨hg, hdbg, hm | ⟨hm, hv, hnn⟩⟩ := hc
      · exact ld_glob (X := X.suite a ((a, oe3) :: (X.pn ++ pins))) S3 hg hm q hdbg
      · exact ld_blt (X := X.suite a ((a, oe3) :: (X.pn ++ pins))) S3 hg hm hv q hnn hdbg
    refine test (LM.here ?_)
    show wpAny _ X.A (handleBy (.ref a) X.env []) _ _ _
    exact flyOn J nb (up.trans up3) fl3 na os ag hno
  · cases f with
    | next =>
      obtain ⟨σ', H', J', q⟩ := hsp
      exact wpAny_execs_nil ⟨σ', H', J'.ofTry ok, q⟩
    | brk =>
      obtain ⟨σ', H', J', q⟩ := hsp
      exact ⟨σ', H', J'.ofTry ok, q⟩
    | cont =>
      obtain ⟨σ', H', J', q⟩ := hsp
      exact ⟨σ', H', J'.ofTry ok, q⟩
    | ret u =>
      obtain ⟨v, σ', H', J', r, q⟩ := hsp
      exact ⟨v, σ', H', J'.ofTry ok, r, q⟩
end
end L2H
namespace Sb
open PySem PySem.Spec PyProof.Rows L2
/-! ### o.m(..) where the wish about its exceptions knows the locals -/
def tMethE (C : Addr) (m : Str) (sp : Sp) (E : L2.St → XK) (ta : TE) (t : TA) : TE := fun σ H Q => ta σ H fun x H1 => ∃ a dx fs, x = .ref a ∧ H1 a = some (.ins C dx fs) ∧ fs.lookup m = none ∧ t σ H1 fun vs H2 => sp (x :: vs) H2 Q (E σ)
theorem pe_methE {X : Cx} {CX : CXT} {k : Nat} {f C : Addr} {fd : FuncData} {ps : List Str} {sp : Sp} {E : L2.St → XK} {m : Str} {pos apos : Pos} {e o : Expr} {es : List Expr} {ta : TE} {t : TA} {pl : Sem Bool} (he : PE X o ta) (c : Cls X.K C) (hm : Meth X.K C m f) (F : FnOk X.prog X.w X.K X.mg X.base CX k f fd ps sp) (hr : Room k X.A) (hb : Binds X.K fd ps []) (hx : ∀ σ, PassesAt CX X σ (E σ)) (ha : PA X (e :: es) t)
    (hst : starEach (e :: es) X.env = (false, eval e X.env) :: starEach es X.env := by rfl) (hpl : (backTo pos (starEach es X.env)).any (·.1) = false := by rfl)
    (ht : eval (.Call (.Attribute o m apos) (e :: es) [] pos) X.env = (do
      let ov ← eval o X.env
      standAt apos.atName
      let (f, first) ← holding [ov] (getMethod ov m pl)
      callWith pos f first (backTo pos (starEach (e :: es) X.env)) (backToKw pos (keywordEach [] X.env))) := by rfl) :
    PE X (.Call (.Attribute o m apos) (e :: es) [] pos) (tMethE C m sp E ta t) := by
  refine ⟨fun pins s σ H Q I h => ?_⟩
  refine PySem.W.methodCall_KW (pl := pl) (thn (he.run pins s σ H _ I h) fun u s1 ⟨x, H1, I1, rx, a, dx, fs, ex, ea, l, q⟩ => ?_) ht
  subst ex
  obtain rfl : u = Value.ref a := rx
  refine getmeth_ok I1 ea c hm l ?_
  refine PySem.W.callWith_K (first := [.ref a]) (h₀ := X.base) I.ok.mod.kin hm.kp (thn (ha.run pos pins s1 σ H1 _ I1 q) fun us s2 ⟨vs, H2, I2, r, q2⟩ => ⟨I2.kIn, ?_⟩) hst hpl
  exact run_fnS (us := .ref a :: us) (vs := .ref a :: vs) F hr hb (hx σ) I2 (.cons rfl r) q2
/-! ### promises joined, promises that let out nothing -/
section
variable {P : Program} {w : World} {K : PySem.W.Frag} {mg : Str → Option Value} {base : Heap} {CX : CXT} {k : Nat} {f : Addr} {fd : FuncData} {ps : List Str} {sp sp' : Sp}
theorem fnOk_or (F : FnOk P w K mg base CX k f fd ps sp) (G : FnOk P w K mg base CX k f fd ps sp') : FnOk P w K mg base CX k f fd ps (fun vs H Q E => sp vs H Q E ∨ sp' vs H Q E) :=
  ⟨fun vs H Q E h => h.elim (F.len vs H Q E) (G.len vs H Q E), fun A outer s H args us vs Q E hr e0 hb r h => h.elim (F.run A outer s H args us vs Q E hr e0 hb r) (G.run A outer s H args us vs Q E hr e0 hb r)⟩
theorem fnOk_any (F : FnOk P w K mg base CX0 k f fd ps sp) : FnOk P w K mg base CX k f fd ps sp :=
  ⟨F.len, fun A outer s H args us vs Q E hr e0 hb r h => codeAny_mono (F.run A outer s H args us vs Q E hr e0 hb r h) fun r s' q => by
    cases r with
    | error e => exact False.elim q
    | ok fl => cases fl <;> exact q⟩
end
end Sb

namespace Sb
open PySem PySem.Spec PyProof.Rows L2 LamX NdefX
/-! ### a lambda as a value, with written defaults or without; lists of lambdas; calls that may raise -/
abbrev fnD (q : Str) (params : Arguments) (body : Expr) (scope : Scope) (cl : List (Str × Addr)) (pm cdv tv dV : Value) : FuncData := { PySem.W.kla_fn "<lambda>" q params body scope cl pm cdv tv with defaults := dV }
abbrev lamD (q : Str) (params : Arguments) (body : Expr) (scope : Scope) (cl : List (Str × Addr)) (pm : Value) (c' : Addr) (tv dV : Value) : Obj := { cls := .type "function", data := .func (fnD q params body scope cl pm (.ref c') tv dV) }
abbrev tupD (its : List Value) : Obj := { cls := .type "tuple", data := .seq its.toArray }
/-- the defaults that stand -/
def DfAt (dV : Value) (vs : List V) (H : Hp) : Prop := (vs = [] ∧ dV = .none) ∨ ∃ (t : Addr) (its : List Value), vs ≠ [] ∧ dV = .ref t ∧ H t = some (Fz (tupD its)) ∧ Vals vs its
/-- the lambda at f -/
structure LamAt (f c' : Addr) (q : Str) (params : Arguments) (body : Expr) (scope : Scope) (cl : List (Str × Addr)) (vs : List V) (H : Hp) : Prop where
  ex : ∃ (pm tv dV : Value), H f = some (Fz (lamD q params body scope cl pm c' tv dV)) ∧ DfAt dV vs H
  cd : H c' = some (CodeO c' q)
theorem DfAt.ext {dV : Value} {vs : List V} {H H' : Hp} (h : DfAt dV vs H) (m : ∀ b o, H b = some (Fz o) → H' b = some (Fz o)) : DfAt dV vs H' := h.imp id fun ⟨t, its, n, e, a, r⟩ => ⟨t, its, n, e, m _ _ a, r⟩
theorem LamAt.ext {f c' : Addr} {q : Str} {params : Arguments} {body : Expr} {scope : Scope} {cl : List (Str × Addr)} {vs : List V} {H H' : Hp} (h : LamAt f c' q params body scope cl vs H) (m : ∀ b o, H b = some o → (∀ ps, o ≠ .tbl ps) → H' b = some o) : LamAt f c' q params body scope cl vs H' := by
  obtain ⟨⟨pm, tv, dV, e, d⟩, c⟩ := h
  have nf : ∀ (o : Obj) (ps : Array Value), Fz o ≠ .tbl ps := fun o ps z => by
    unfold Fz at z
    cases z
  exact ⟨⟨pm, tv, dV, m _ _ e (nf _), d.ext fun b o z => m b _ z (nf _)⟩, m _ _ c codeO_ne⟩
section
variable {M : Model} {A : Around} {E : Value → Shared → Prop} {s : Shared} {q : Str} {params : Arguments} {body : Expr} {scope : Scope} {env : Env} {c P : Addr} {ps : Array Value} {pos : Pos} {line : Nat} {mg : Str → Option Value} {clos : List (Str × Addr)} {Q : Value → Shared → Prop} {dV : Value}
theorem tail_new (hcl : closureFor scope env = pure clos) (glb : env.globals = mainGlobals) (ns : s.heap.Ns mainGlobals mg) (code : env.code = .ref c) (C : PySem.W.CodeHd s.heap c P) (atP : s.heap.get? P = some { cls := .none, data := .fields ps }) (tri : TriplesOk ps.toList)
    (miss : codeAmong pos ps.toList = none) (gP : mainGlobals ≠ P) (bm : s.heap.BuiltinsAt mg P)
    (k : ∀ c' tv h2 tk, Heap.ExtBut P s.heap h2 → s.heap.objs.size ≤ c' → c' < h2.objs.size → h2.CodeRec (.ref c') q → h2.get? P = some { cls := .none, data := .fields (ps ++ #[rawInt pos.line, rawInt pos.col, .ref c']) } →
      Q (.ref h2.objs.size) { s with heap := h2.push (lamD q params body scope clos ((mg "__name__").getD .none) c' tv dV), toks := tk }) :
    wpAny M A (makeTail "<lambda>" q params (.expr body) scope env dV .none none pos line) Q E s := by
  obtain ⟨bt, ob, e1, ne0, _, neP, e2, e3, e4, e5⟩ := bm
  unfold makeTail
  rw [hcl, glb]
  refine wpAny_bind (wpAny_pure ?_)
  have goes : ∀ (tv : Value) (s0 : Shared), (∀ b o, s.heap.get? b = some o → s0.heap.get? b = some o) → s.heap.objs.size ≤ s0.heap.objs.size → s0.gens = s.gens → s0.drawn = s.drawn → s0.os = s.os →
      wpAny M A (do
        let cd ← functionCode env pos line "<lambda>" q params scope (.expr body)
        let bl ← builtinsFor mainGlobals env.builtins
        let nm ← nsGet mainGlobals "__name__"
        let dc ← (pure .none : Sem Value)
        newObj (.type "function") (.func { name := "<lambda>", qualname := q, params, body := .expr body, scope, globals := mainGlobals, closure := clos, closureTuple := tv, code := cd, builtins := bl, defaults := dV, kwdefaults := .none, annotations := none, pyModule := nm.getD .none, doc := dc })) Q E s0 := fun tv s0 k0 z0 g0 d0 o0 => by
    refine wpAny_bind (wpAny_functionCodeX code ((C.keeps k0).code (k0 _ _ atP) tri) ((C.keeps k0).tab (k0 _ _ atP)) miss fun c' h2 tk hx hge hlt _ hrec htb _ => ?_)
    have ns2 := (ns.keeps k0).extBut hx gP
    have hx2 : Heap.ExtBut P s.heap h2 := fun b o hb e => hx b o hb (k0 _ _ e)
    refine wpAny_bind (wpAny_builtinsFor ns2 e1 ne0 (hx2 _ _ neP e2) e3 e4 e5 ?_)
    refine wpAny_bind (wpAny_nsGet ns2 ?_)
    obtain ⟨sh, sg, sd, st, so⟩ := s0
    dsimp only at g0 d0 o0
    subst g0 d0 o0
    exact wpAny_bind (wpAny_pure (wpAny_newObj_type (k c' tv h2 tk hx2 (Nat.le_trans z0 hge) hlt hrec htb.2) (by size_fits)))
  cases clos with
  | nil =>
    simp only [List.isEmpty_nil, if_true]
    exact wpAny_bind (wpAny_pure (goes .none s (fun _ _ e => e) (Nat.le_refl _) rfl rfl rfl))
  | cons x r =>
    simp only [List.isEmpty_cons, Bool.false_eq_true, if_false]
    refine wpAny_bind (wpAny_newTextTuple ?_)
    exact goes _ _ (fun b o e => Heap.get?_push_of_some _ e) (by rw [Heap.size_push]; omega) rfl rfl rfl
theorem tail_hit {cv : Value} (hcl : closureFor scope env = pure clos) (glb : env.globals = mainGlobals) (ns : s.heap.Ns mainGlobals mg) (code : env.code = .ref c) (C : PySem.W.CodeHd s.heap c P) (atP : s.heap.get? P = some { cls := .none, data := .fields ps }) (tri : TriplesOk ps.toList)
    (hit : codeAmong pos ps.toList = some cv) (bm : s.heap.BuiltinsAt mg P)
    (k : ∀ (tv : Value) (h2 : Heap) (tk : Tok), (∀ b o, s.heap.get? b = some o → h2.get? b = some o) → s.heap.objs.size ≤ h2.objs.size →
      Q (.ref h2.objs.size) { s with heap := h2.push { cls := .type "function", data := .func (fnD q params body scope clos ((mg "__name__").getD .none) cv tv dV) }, toks := tk }) :
    wpAny M A (makeTail "<lambda>" q params (.expr body) scope env dV .none none pos line) Q E s := by
  obtain ⟨bt, ob, e1, ne0, _, neP, e2, e3, e4, e5⟩ := bm
  unfold makeTail
  rw [hcl, glb]
  refine wpAny_bind (wpAny_pure ?_)
  cases clos with
  | nil =>
    simp only [List.isEmpty_nil, if_true]
    refine wpAny_bind (wpAny_pure ?_)
    refine wpAny_bind (wpAny_functionCode_hit code (C.code atP tri) hit ?_)
    refine wpAny_bind (wpAny_builtinsFor ns e1 ne0 e2 e3 e4 e5 ?_)
    refine wpAny_bind (wpAny_nsGet ns ?_)
    exact wpAny_bind (wpAny_pure (wpAny_newObj_type (k .none s.heap s.toks (fun _ _ e => e) (Nat.le_refl _)) (by size_fits)))
  | cons x r =>
    simp only [List.isEmpty_cons, Bool.false_eq_true, if_false]
    refine wpAny_bind (wpAny_newTextTuple ?_)
    have kp : ∀ (oT : Obj) b o, s.heap.get? b = some o → (s.heap.push oT).get? b = some o := fun oT b o e => Heap.get?_push_of_some _ e
    refine wpAny_bind (wpAny_functionCode_hit code ((C.keeps (kp _)).code (kp _ _ _ atP) tri) hit ?_)
    refine wpAny_bind (wpAny_builtinsFor (ns.push _) e1 ne0 (kp _ _ _ e2) e3 e4 e5 ?_)
    refine wpAny_bind (wpAny_nsGet (ns.push _) ?_)
    exact wpAny_bind (wpAny_pure (wpAny_newObj_type (k _ _ s.toks (kp _) (by rw [Heap.size_push]; omega)) (by size_fits)))
end
section
variable {X : Cx} {pins : List (Addr × Obj)} {σ : L2.St} {H : Hp} {s : Shared}
theorem lam_tail {T : List (Addr × Str)} {c tb : Addr} {params : Arguments} {body : Expr} {scope : Scope} {pos : Pos} {line : Nat} {E Q : Value → Shared → Prop} {dV : Value} (I : Inv X pins σ H s) (B : TabB X.base X.mg c tb) (code : X.env.code = .ref c)
    (hm : (tb, X.env.qual ++ "<lambda>") ∈ T) (hu : ∀ p ∈ T, p.1 = tb → p.2 = X.env.qual ++ "<lambda>") (hT : Tabs T H) (fre : ∀ y ∈ scope.names, y.2 = .free → ∃ c, X.env.cells.lookup y.1 = some c)
    (k : ∀ (f c' : Addr) (pm tv : Value) (H1 : Hp) (s1 : Shared), Inv X pins σ H1 s1 → (∀ b o, b ≠ tb → H b = some o → H1 b = some o) → (∀ b, H1 b = none → H b = none) → Tabs T H1 → H f = none →
      H1 f = some (Fz (lamD (X.env.qual ++ "<lambda>") params body scope (cloFrom X.env.cells scope.names []) pm c' tv dV)) → H1 c' = some (CodeO c' (X.env.qual ++ "<lambda>")) → Q (.ref f) s1) :
    wpAny (model X.prog X.w) X.A (makeTail "<lambda>" (X.env.qual ++ "<lambda>") params (.expr body) scope X.env dV .none none pos line) Q E s := by
  obtain ⟨ps, atP, tri, among⟩ := hT _ hm
  have getP : s.heap.get? tb = some { cls := .none, data := .fields ps } := I.hok tb _ atP
  have bk := B.bm.keeps I.bk
  cases hc : codeAmong pos ps.toList with
  | some cv =>
    obtain ⟨c', rfl, hco⟩ := among pos cv hc
    refine tail_hit (closure_ok fre) I.ok.glob (I.mod.glob.keeps I.bk) code (B.code.keeps I.bk) getP tri hc bk fun tv h2 tk hx hsz => ?_
    have J : Inv X pins σ H { s with heap := h2, toks := tk } := I.kept fun b o e => hx b o e
    have nF : H h2.objs.size = none := J.hok.fresh (Nat.le_refl _)
    have J2 := inv_fz (o := lamD (X.env.qual ++ "<lambda>") params body scope (cloFrom X.env.cells scope.names []) ((X.mg "__name__").getD .none) c' tv dV) (t' := tk) J rfl
    refine k h2.objs.size c' _ tv _ _ J2 (fun b o _ e => ?_) (fun b e => upd_none e) (hT.ext fun b o e => ?_) nF upd_same ?_
    · exact (upd_ne (ne_of_none e nF)).trans e
    · exact (upd_ne (ne_of_none e nF)).trans e
    · exact (upd_ne (ne_of_none hco nF)).trans hco
  | none =>
    refine tail_new (closure_ok fre) I.ok.glob (I.mod.glob.keeps I.bk) code (B.code.keeps I.bk) getP tri hc B.gP bk fun c' tv h2 tk hx hge hlt hrec htb => ?_
    obtain ⟨c9, oc, vs, t, e9, hoc, hd, hv⟩ := hrec
    cases e9
    have hsz : s.heap.objs.size ≤ h2.objs.size := Nat.le_trans hge (Nat.le_of_lt hlt)
    have freshC : H c' = none := I.hok.fresh hge
    have J := inv_table (t' := tk) (more := #[rawInt pos.line, rawInt pos.col, .ref c']) (h' := h2) I atP (fun b o hb e => hx b o hb e) htb hge ⟨oc, vs, t, hoc, hd, hv⟩
    have stay : ∀ b o, b ≠ tb → H b = some o → (upd (upd H tb (.tbl (ps ++ #[rawInt pos.line, rawInt pos.col, .ref c']))) c' (CodeO c' (X.env.qual ++ "<lambda>"))) b = some o := fun b o n e => by
      rw [upd_ne (ne_of_none e freshC), upd_ne n]
      exact e
    have cds : ∀ b q, H b = some (CodeO b q) → (upd (upd H tb (.tbl (ps ++ #[rawInt pos.line, rawInt pos.col, .ref c']))) c' (CodeO c' (X.env.qual ++ "<lambda>"))) b = some (CodeO b q) := fun b q e => stay _ _ (fun z => by rw [z, atP] at e; unfold CodeO at e; cases e) e
    have asL : (ps ++ #[rawInt pos.line, rawInt pos.col, .ref c']).toList = ps.toList ++ [rawInt pos.line, rawInt pos.col, .ref c'] := by simp
    have T1 : Tabs T (upd (upd H tb (.tbl (ps ++ #[rawInt pos.line, rawInt pos.col, .ref c']))) c' (CodeO c' (X.env.qual ++ "<lambda>"))) := fun p hp => by
      by_cases hb : p.1 = tb
      · rw [hu p hp hb, hb]
        refine ⟨ps ++ #[rawInt pos.line, rawInt pos.col, .ref c'], by rw [upd_ne (ne_of_none atP freshC), upd_same], by rw [asL]; exact PySem.TriplesOk_snoc _ _ _ _ tri, fun p' cv hcv => ?_⟩
        rw [asL] at hcv
        rcases among_app _ tri hcv with old | new
        · obtain ⟨c0, e1, e2⟩ := among p' cv old
          exact ⟨c0, e1, cds _ _ e2⟩
        · exact ⟨_, new, upd_same⟩
      · obtain ⟨qs, a1, a2, a3⟩ := hT p hp
        refine ⟨qs, stay _ _ hb a1, a2, fun p' cv hcv => ?_⟩
        obtain ⟨c0, e1, e2⟩ := a3 p' cv hcv
        exact ⟨c0, e1, cds _ _ e2⟩
    have nF := J.hok.fresh (Nat.le_refl _)
    have J2 := inv_fz (o := lamD (X.env.qual ++ "<lambda>") params body scope (cloFrom X.env.cells scope.names []) ((X.mg "__name__").getD .none) c' tv dV) (t' := tk) J rfl
    refine k h2.objs.size c' _ tv _ _ J2 (fun b o n e => ?_) (fun b e => upd_none (upd_none (upd_none e))) (T1.ext fun b o e => (upd_ne (ne_of_none e nF)).trans e) (I.hok.fresh hsz) upd_same ((upd_ne (Nat.ne_of_lt hlt)).trans upd_same)
    have e1 := stay b o n e
    exact (upd_ne (ne_of_none e1 nF)).trans e1
end
def tLamW (T : List (Addr × Str)) (tb : Addr) (q : Str) (params : Arguments) (body : Expr) (scope : Scope) (cl : List (Str × Addr)) (vs : List V) : TE := fun σ H Q => Tabs T H ∧ ∀ (f c' : Addr) (H1 : Hp), (∀ b o, b ≠ tb → H b = some o → H1 b = some o) → (∀ b, H1 b = none → H b = none) → Tabs T H1 → H f = none → LamAt f c' q params body scope cl vs H1 → Q (.ref f) H1
section
variable {X : Cx} {T : List (Addr × Str)} {c tb : Addr} {params : Arguments} {body : Expr} {scope : Scope} {pos : Pos}
theorem pe_lam0 (B : TabB X.base X.mg c tb) (code : X.env.code = .ref c) (hm : (tb, X.env.qual ++ "<lambda>") ∈ T) (hu : ∀ p ∈ T, p.1 = tb → p.2 = X.env.qual ++ "<lambda>") (hdef : defaultsOf params X.env = ([], []))
    (fre : ∀ y ∈ scope.names, y.2 = .free → X.env.scope.names.lookup y.1 = some .cell ∨ X.env.scope.names.lookup y.1 = some .free) :
    PE X (.Lambda params body scope pos) (tLamW T tb (X.env.qual ++ "<lambda>") params body scope (cloFrom X.env.cells scope.names []) []) := by
  refine ⟨fun pins s σ H Q I ⟨hT, h⟩ => ?_⟩
  refine PySem.W.kla_eval hdef ?_
  rw [makeFunction_eq]
  simp only [List.zip_nil_right, List.filterMap_nil, List.isEmpty_nil, if_true, pure_bind]
  refine lam_tail I B code hm hu hT (fun y hy e => (fre y hy e).elim (fun z => I.ok.has _ (.inl z)) fun z => I.ok.has _ (.inr z)) fun f c' pm tv H1 s1 I1 k1 k2 T1 hf hf1 hc1 => ?_
  exact ⟨.ref f, H1, I1, rfl, h f c' H1 k1 k2 T1 hf ⟨⟨pm, tv, _, hf1, .inl ⟨rfl, rfl⟩⟩, hc1⟩⟩
/-- one written whole number as the default -/
theorem pe_lam1 {n : Int} {j : Nat} {dp : Pos} {kwo : List Arg} (B : TabB X.base X.mg c tb) (code : X.env.code = .ref c) (hm : (tb, X.env.qual ++ "<lambda>") ∈ T) (hu : ∀ p ∈ T, p.1 = tb → p.2 = X.env.qual ++ "<lambda>") (hdef : defaultsOf params X.env = ([eval (.Constant (.int n) j dp) X.env], [])) (hkw : params.kwonlyargs = [])
    (fre : ∀ y ∈ scope.names, y.2 = .free → X.env.scope.names.lookup y.1 = some .cell ∨ X.env.scope.names.lookup y.1 = some .free) :
    PE X (.Lambda params body scope pos) (tLamW T tb (X.env.qual ++ "<lambda>") params body scope (cloFrom X.env.cells scope.names []) [.int n]) := by
  refine ⟨fun pins s σ H Q I ⟨hT, h⟩ => ?_⟩
  rw [arm_eval_Lambda, hdef]
  show wpAny _ _ (do let dv ← (do let v ← eval (.Constant (.int n) j dp) X.env; return v :: (← holding [v] (evalAll []))); let kdv ← holding dv (evalAllOpt []); makeFunction "<lambda>" (X.env.qual ++ "<lambda>") params (.expr body) scope X.env dv kdv [] pos pos.line) _ _ s
  refine wpAny_bind (wpAny_bind (wpAny_Constant_int (wpAny_bind (wpAny_holding (wpAny_pure (wpAny_pure ?_))))))
  refine wpAny_bind (wpAny_holding (wpAny_pure ?_))
  rw [makeFunction_eq]
  simp only [hkw, List.zip_nil_left, List.filterMap_nil, List.isEmpty_nil, List.isEmpty_cons, Bool.false_eq_true, if_false, if_true, pure_bind]
  refine wpAny_bind (wpAny_newTextTuple ?_)
  have J : Inv X pins σ H { s with toks := s.toks + 1 } := I.tok _
  have nT : H s.heap.objs.size = none := J.hok.fresh (Nat.le_refl _)
  have J2 := inv_fz (o := tupD [.int n s.toks]) (t' := s.toks + 1) J rfl
  have kT : ∀ b o, H b = some o → (upd H s.heap.objs.size (Fz (tupD [.int n s.toks]))) b = some o := fun b o e => (upd_ne (ne_of_none e nT)).trans e
  refine lam_tail (s := { s with heap := s.heap.push (tupD [.int n s.toks]), toks := s.toks + 1 }) J2 B code hm hu (hT.ext kT) (fun y hy e => (fre y hy e).elim (fun z => I.ok.has _ (.inl z)) fun z => I.ok.has _ (.inr z)) fun f c' pm tv H1 s1 I1 k1 k2 T1 hf hf1 hc1 => ?_
  have ntb : s.heap.objs.size ≠ tb := fun z => by
    obtain ⟨ps, atP, _⟩ := hT _ hm
    rw [← z, nT] at atP
    cases atP
  exact ⟨.ref f, H1, I1, rfl, h f c' H1 (fun b o n e => k1 b o n (kT b o e)) (fun b e => upd_none (k2 b e)) T1 (upd_none hf) ⟨⟨pm, tv, _, hf1, .inr ⟨_, _, by simp, rfl, k1 _ _ ntb upd_same, .cons ⟨_, rfl⟩ .nil⟩⟩, hc1⟩⟩
end
end Sb

namespace Sb
open PySem PySem.Spec PyProof.Rows L2 LamX NdefX
/-! ### a call of a lambda that may raise, its captured cells tracked -/
section
variable {P : Program} {w : World} {K : PySem.W.Frag} {mg : Str → Option Value} {base : Heap} {A : Around} {outer : List Env} {s s' : Shared} {H4 : Hp} {cells : List (Addr × Obj)} {E : XK} {u : Value}
theorem cut_afterX (hF : ∀ p ∈ cells, H4 p.1 = some (Fz p.2)) (e0 : Env0 P w K mg base A outer s H4) (h : L2.CX P w outer (Sb.cut (cells.map (·.1)) H4) s (fun cls d H1 => (∀ b ∈ cells.map (·.1), H1 b = none) → E cls d (rejoin (cells.map (·.1)) H4 H1)) u s') : L2.CX P w outer H4 s E u s' := by
  obtain ⟨a, B, H5, cls, d, rfl, fl, hok, ub, na, os, ag, hE⟩ := h
  have obj : ∀ {b : Addr}, b ∈ cells.map (·.1) → ∃ o, H4 b = some (Fz o) ∧ s.heap.get? b = some o ∧ b ∉ frs outer := fun {b} h => by
    obtain ⟨p, hp, rfl⟩ := List.mem_map.mp h
    refine ⟨p.2, hF p hp, fz_at e0.hok (hF p hp), fun z => ?_⟩
    have := e0.frf _ z
    rw [hF p hp] at this
    cases this
  have n5 : ∀ b ∈ cells.map (·.1), H5 b = Option.none := fun b h => by
    obtain ⟨o, _, h2, _⟩ := obj h
    exact ub.free b o h2 (cut_in h)
  have inB : ∀ {b : Addr} {o : Obj}, b ∈ cells.map (·.1) → H4 b = some (Fz o) → B.get? b = some o := fun {b o} h e => by
    obtain ⟨o', h1, h2, h3⟩ := obj h
    rw [h1] at e
    cases e
    exact ub.keep b _ h2 (cut_in h) h3
  have rin : ∀ {b : Addr}, b ∈ cells.map (·.1) → rejoin (cells.map (·.1)) H4 H5 b = H4 b := fun h => if_pos h
  have rout : ∀ {b : Addr}, b ∉ cells.map (·.1) → rejoin (cells.map (·.1)) H4 H5 b = H5 b := fun h => if_neg h
  refine ⟨a, B, rejoin (cells.map (·.1)) H4 H5, cls, d, rfl, fl, fun b o e => ?_, ⟨fun b o e n nf => ?_, ub.slot, fun b o e n => ?_, ub.there, fun b xs e => ?_, fun b o u e => ?_, fun b ps e => ?_⟩, ?_, os, ag, hE n5⟩
  · by_cases hb : b ∈ cells.map (·.1)
    · rw [rin hb] at e
      obtain ⟨o', h1, _, _⟩ := obj hb
      rw [h1] at e
      cases e
      exact fz_ok (inB hb h1)
    · rw [rout hb] at e
      refine (hok b o e).stay (fun _ _ _ z => z) (fun c z => ?_) fun c xs z => ?_
      · rw [rout fun q => ?_]
        exact z
        rw [n5 _ q] at z
        cases z
      · rw [rout fun q => ?_]
        exact z
        rw [n5 _ q] at z
        cases z
  · refine ub.keep b o e ?_ nf
    unfold Sb.cut
    split
    rfl
    exact n
  · by_cases hb : b ∈ cells.map (·.1)
    · rw [rin hb]
      exact n
    · rw [rout hb]
      exact ub.free b o e (by rw [cut_out hb]; exact n)
  · by_cases hb : b ∈ cells.map (·.1)
    · rw [rin hb]
      exact e
    · rw [rout hb]
      exact ub.tups b xs (by rw [cut_out hb]; exact e)
  · by_cases hb : b ∈ cells.map (·.1)
    · rw [rin hb]
      exact e
    · rw [rout hb]
      exact ub.frzs b o u (by rw [cut_out hb]; exact e)
  · by_cases hb : b ∈ cells.map (·.1)
    · rw [rin hb]
      exact ⟨#[], by rw [e]; simp⟩
    · rw [rout hb]
      exact ub.tbls b ps (by rw [cut_out hb]; exact e)
  · by_cases hb : a ∈ cells.map (·.1)
    · obtain ⟨o', h1, _, _⟩ := obj hb
      have q := inB hb h1
      rw [fl.2.1] at q
      cases q
    · rw [rout hb]
      exact na
end
/-- the function at f, its code object at c', called without arguments: where R holds, it gives and raises what is wished -/
structure LamE (P : Program) (w : World) (K : PySem.W.Frag) (mg : Str → Option Value) (base : Heap) (k : Nat) (f c' : Addr) (q : Str) (D : Hp → Prop) (R : Hp → XK → VK → Prop) : Prop where
  fn : ∀ (H : Hp) (h : Heap), HOk P w H h → D H → PySem.W.FnAt f h
  cd : ∀ H, D H → H c' = some (CodeO c' q)
  run : ∀ (A : Around) (outer : List Env) (s : Shared) (H : Hp) (Q : VK) (E : XK), Room k A → Env0 P w K mg base A outer s H → D H → R H E Q → codeAny (model P w) A (.call (.ref f) ⟨[], []⟩) (CR (L2.CX P w) outer P w H s Q E) s
/-- how a lambda's defaults are bound -/
structure BindD (params : Arguments) (ps : List Str) (vs : List V) : Prop where
  len : vs.length = ps.length
  b0 : vs = [] → ∀ (q : Str) (body : Expr) (scope : Scope) (cl : List (Str × Addr)) (pm cdv tv : Value), bindArgs (fnD q params body scope cl pm cdv tv .none) ⟨[], []⟩ = pure []
  b1 : vs ≠ [] → ∀ (q : Str) (body : Expr) (scope : Scope) (cl : List (Str × Addr)) (pm cdv tv : Value) (t : Addr) (its : List Value), its.length = vs.length → ∃ k, bindArgs (fnD q params body scope cl pm cdv tv (.ref t)) ⟨[], []⟩ = seqItems? (.ref t) >>= k ∧ k (some its.toArray) = pure (ps.zip its)
abbrev lamNF (q : Str) (params : Arguments) (scope : Scope) (cl : List (Str × Addr)) (c' : Addr) : NF := ⟨"<lambda>", q, params, [], scope, cl, c'⟩
def LamC (f c' : Addr) (q : Str) (params : Arguments) (body : Expr) (scope : Scope) (cl : List (Str × Addr)) (vs : List V) (cells : List (Addr × Obj)) (H : Hp) : Prop := LamAt f c' q params body scope cl vs H ∧ ∀ p ∈ cells, H p.1 = some (Fz p.2)
theorem lamE_of {P : Program} {w : World} {K : PySem.W.Frag} {mg : Str → Option Value} {base : Heap} {k : Nat} {N ps fr : List Str} {vs : List V} {ws : List (Option V)} {cells : List (Addr × Obj)} {cl : List (Str × Addr)} {f c' : Addr} {q : Str} {params : Arguments} {body : Expr} {scope : Scope} {R : Hp → XK → VK → Prop}
    (S : NScope N ps fr scope) (Bd : BindD params ps vs) (C : CapT cl fr ws cells)
    (hbody : ∀ (A : Around) (outer : List Env) (s : Shared) (H : Hp) (E : XK), Room k (A.deeper (envF (lamNF q params scope cl c') f s.heap.objs.size)) → ∃ t : XK → TE, PE (ncx (L2.CX P w) P w K mg base N (lamNF q params scope cl c') f A outer s H E) body (t E) ∧ ∀ (H4 : Hp) (E4 : XK) (Q : VK), H = cut (cells.map (·.1)) H4 → E = (fun cls d H1 => (∀ b ∈ cells.map (·.1), H1 b = none) → E4 cls d (rejoin (cells.map (·.1)) H4 H1)) → R H4 E4 Q →
      t E (startF N vs ws) H (fun v H' => Q v (rejoin (cells.map (·.1)) H4 H'))) :
    LamE P w K mg base (k + 1) f c' q (LamC f c' q params body scope cl vs cells) R := by
  refine ⟨fun H h hok D => ?_, fun H D => D.1.cd, fun A outer s H Q E hr e0 D rr => ?_⟩
  · obtain ⟨pm, tv, dV, hf, _⟩ := D.1.ex
    exact ⟨_, _, _, _, fz_at hok hf⟩
  obtain ⟨⟨⟨pm, tv, dV, hf, hd⟩, hc⟩, hF⟩ := D
  have e1 := Trk.env0_cut hF e0
  have CA := capT_cells C e0.hok hF
  have of := fz_at e0.hok hf
  have hcode := codeO_at e0.hok hc
  have lim : s.heap.NoLimit := e0.mod.nolimit.keeps fun b o e => (e0.bs b o e).1
  obtain ⟨us, hus, rv, hbind⟩ : ∃ us : List Value, us.length = ps.length ∧ Vals vs us ∧ ∀ {A' : Around} {Qb : List (Str × Value) → Shared → Prop} {Eb : Value → Shared → Prop}, Qb (ps.zip us) s → wpAny (model P w) A' (bindArgs (fnD q params body scope cl pm (.ref c') tv dV) ⟨[], []⟩) Qb Eb s := by
    rcases hd with ⟨ev, rfl⟩ | ⟨t, its, nv, rfl, ht, rv⟩
    · subst ev
      refine ⟨[], Bd.len, .nil, fun {A' Qb Eb} hq => ?_⟩
      rw [Bd.b0 rfl]
      have ep : ps.zip ([] : List Value) = [] := by simp
      rw [ep] at hq
      exact wpAny_pure hq
    · refine ⟨its, by rw [← rv.length, Bd.len], rv, fun {A' Qb Eb} hq => ?_⟩
      obtain ⟨kk, b1, b2⟩ := Bd.b1 nv q body scope cl pm (.ref c') tv t its rv.length.symm
      rw [b1]
      refine wpAny_bind (wpAny_seqItems (fz_at e0.hok ht) rfl ?_)
      rw [b2]
      exact wpAny_pure hq
  have rc : codeAny (model P w) A (.call (.ref f) ⟨[], []⟩) (CR (L2.CX P w) outer P w (cut (cells.map (·.1)) H) s (fun v H' => Q v (rejoin (cells.map (·.1)) H H')) (fun cls d H1 => (∀ b ∈ cells.map (·.1), H1 b = none) → E cls d (rejoin (cells.map (·.1)) H H1))) s := by
    refine PySem.W.kla_callFunE hr.depth of rfl S.co S.gen rfl hcode ?_
    refine hbind ?_
    refine wpAny_newFunctionEnv S.nocell (fun y hy => S.par _ (List.of_mem_zip hy).1) (fun h₁ hns hsb => ⟨lim.fresh _ hsb, ?_⟩) S.kind
    show codeAny _ _ (.expr body (envF (lamNF q params scope cl c') f s.heap.objs.size)) _ _
    have kp : ∀ b o, s.heap.get? b = some o → h₁.get? b = some o := fun b o e => hsb.extBut b o (Nat.ne_of_lt (Heap.lt_size e)) (Heap.get?_push_of_some _ e)
    obtain ⟨t, ht, hq⟩ := hbody A outer s (cut (cells.map (·.1)) H) (fun cls d H1 => (∀ b ∈ cells.map (·.1), H1 b = none) → E cls d (rejoin (cells.map (·.1)) H H1)) (hr.deeper _)
    have J : Inv (ncx (L2.CX P w) P w K mg base N (lamNF q params scope cl c') f A outer s (cut (cells.map (·.1)) H) (fun cls d H1 => (∀ b ∈ cells.map (·.1), H1 b = none) → E cls d (rejoin (cells.map (·.1)) H H1))) [] (startF N vs ws) (cut (cells.map (·.1)) H) { s with heap := h₁, toks := s.toks + (ps.zip us).length } :=
      inv_startN (F := lamNF q params scope cl c') S hr.hd e1 Bd.len rv CA hns kp
    refine PySem.W.kla_codeExpr (wpAny_mono (ht.run [] _ _ _ (fun v H' => Q v (rejoin (cells.map (·.1)) H H')) J (hq H E Q rfl rfl rr)) (fun v s2 hq2 => ?_) fun e s2 hq2 => hq2)
    obtain ⟨w2, H2, J2, rv2, q2⟩ := hq2
    exact ⟨w2, H2, J2.os, J2.bare, J2.base, J2.hok, rv2, q2⟩
  refine codeAny_mono rc fun r s2 hq => ?_
  cases r with
  | error e => exact cut_afterX hF e0 hq
  | ok fl =>
    cases fl with
    | ret u => exact Trk.after_cut hF e0 hq
    | next => exact hq
    | brk => exact hq
    | cont => exact hq
section
variable {X : Cx} {i k : Nat} {x : Str} {p pos : Pos} {W : WX} {f c' : Addr} {q : Str} {D : Hp → Prop} {R : Hp → XK → VK → Prop}
theorem pe_callE (L : LamE X.prog X.w X.K X.mg X.base k f c' q D R) (hr : Room k X.A) (hN : X.N[i]? = some x) (hv : Vis X.env.scope x) (tk : L2.Takes X W) (hd : (x == ("__debug__" : Str)) = false := by decide) (hcd : (x == ("__classdict__" : Str)) = false := by decide) :
    PE X (.Call (.Name x p) [] [] pos) (fun σ H Q => σ[i]? = some (some (.ref f)) ∧ D H ∧ ∃ E : XK, (∀ cls d H', E cls d H' → W cls d σ H') ∧ R H E Q) := by
  refine ⟨fun pins s σ H Q I ⟨hs, hD, E, hE, hR⟩ => ?_⟩
  refine wpAny_Call_Name_kw (thn ((pe_var (pos := p) (i := i) hN hv hd hcd).run pins s σ H (fun v H1 => v = .ref f ∧ H1 = H) I ⟨.ref f, hs, rfl, rfl⟩) fun u s1 ⟨v, H1, I1, r1, ev, eH⟩ => ?_)
  subst ev
  rw [eH] at I1
  obtain rfl : u = Value.ref f := r1
  refine PySem.W.callWith_F0 (L.fn _ _ I1.hok hD) ?_
  refine wpAny_call (codeAny_mono (L.run X.A X.stack s1 H Q E hr I1.env0 hD hR) fun r s2 hq => ?_)
  cases r with
  | error e => exact tk e s2 (XE.of_call I1 (fun cls d H' z => hE cls d H' z) hq)
  | ok fl =>
    cases fl with
    | ret u => exact I1.after hq
    | next => exact False.elim hq
    | brk => exact False.elim hq
    | cont => exact False.elim hq
end
/-! ### a def is called, the cells of several lambdas tracked -/
abbrev Capt := Scope × List Str × List Nat
def tCallT (sp : Sp) (t : TA) (Ts : List Capt) (clo : Scope → List (Str × Addr)) : TE := fun σ H Q => t σ H fun vs H3 => ∀ (cells : List (Addr × Obj)) (H4 : Hp), (∀ q ∈ Ts, CapT (clo q.1) q.2.1 (q.2.2.map (slotAt σ)) cells) → Trk cells H3 H4 → sp vs H4 (fun v H5 => Q v (cut (cells.map (·.1)) H5)) E0
section
variable {X : Cx} {f : Addr} {k : Nat} {fd : FuncData} {ps : List Str} {sp : Sp} {x : Str} {e : Expr} {es : List Expr} {t : TA} {p pos : Pos} {Ts : List Capt}
theorem pe_callT (F : FnOk X.prog X.w X.K X.mg X.base CX0 k f fd ps sp) (hr : Room k X.A) (hg : Gl X x) (hm : X.mg x = some (.ref f)) (hk : PySem.W.keepIn X.K (.ref f) = true) (hb : Binds X.K fd ps []) (ha : PA X (e :: es) t) (hfn : ∀ x, X.fn x = true)
    (hTs : ∀ q ∈ Ts, (∀ y ∈ q.1.names, y.2 = .free → X.env.scope.names.lookup y.1 = some .cell ∨ X.env.scope.names.lookup y.1 = some .free) ∧ (∀ y ∈ q.2.1, (y, NameKind.free) ∈ q.1.names) ∧ q.2.2.map (fun j => X.N[j]?) = q.2.1.map some)
    (hst : starEach (e :: es) X.env = (false, eval e X.env) :: starEach es X.env := by rfl) (hpl : (backTo pos (starEach es X.env)).any (·.1) = false := by rfl) (hdb : (x == ("__debug__" : Str)) = false := by decide) :
    PE X (.Call (.Name x p) (e :: es) [] pos) (tCallT sp t Ts (fun sc => cloFrom X.env.cells sc.names [])) := by
  refine ⟨fun pins s σ H Q I h => ?_⟩
  refine wpAny_Call_Name_kw (ld_glob I hg hm ?_ hdb)
  refine PySem.W.callWith_K (first := []) (h₀ := X.base) I.ok.mod.kin hk (thn (ha.run pos pins s σ H _ I h) fun us s2 ⟨vs, H2, I2, r, q2⟩ => ⟨I2.kIn, ?_⟩) hst hpl
  generalize hS : (Ts.flatMap fun q => (cloFrom X.env.cells q.1.names []).map (·.2)) = S
  have mem : ∀ p ∈ pinsAt S s2.heap, ∃ y, X.env.cells.lookup y = some p.1 := fun p hp => by
    obtain ⟨h1, _⟩ := of_pinsAt hp
    rw [← hS] at h1
    obtain ⟨q, hq, h2⟩ := List.mem_flatMap.mp h1
    obtain ⟨⟨y, b⟩, hyb, eb⟩ := List.mem_map.mp h2
    have eb : b = p.1 := eb
    rcases cloFrom_mem hyb with z | ⟨z1, z2⟩
    · cases z
    · obtain ⟨c1, hc1⟩ := ((hTs q hq).1 _ z1 rfl).elim (fun z => I2.ok.has y (.inl z)) fun z => I2.ok.has y (.inr z)
      have z2 : b = (X.env.cells.lookup y).getD 0 := z2
      refine ⟨y, ?_⟩
      rw [← eb, z2, hc1]
      rfl
  have atS : ∀ p ∈ pinsAt S s2.heap, s2.heap.get? p.1 = some p.2 := fun p hp => (of_pinsAt hp).2
  have T4 : Trk (pinsAt S s2.heap) H2 (fun b => if b ∈ (pinsAt S s2.heap).map (·.1) then (s2.heap.get? b).map Fz else H2 b) := by
    refine ⟨fun b hb => if_neg hb, fun p hp => ?_, fun p hp => ?_⟩
    · obtain ⟨y, hy⟩ := mem p hp
      exact I2.freeC y _ hy
    · show (if p.1 ∈ _ then _ else _) = _
      rw [if_pos (List.mem_map.mpr ⟨p, hp, rfl⟩), atS p hp]
      rfl
  have CT : ∀ q ∈ Ts, CapT (cloFrom X.env.cells q.1.names []) q.2.1 (q.2.2.map (slotAt σ)) (pinsAt S s2.heap) := fun q hq => by
    have CA := cells_of I2 (Caps.made I2.ok (hTs q hq).1 (hTs q hq).2.1 (hTs q hq).2.2)
    have inS : ∀ {y : Str} {c : Addr}, (cloFrom X.env.cells q.1.names []).lookup y = some c → c ∈ S := fun {y c} e => by
      rw [← hS]
      exact List.mem_flatMap.mpr ⟨q, hq, List.mem_map.mpr ⟨_, PySem.mem_of_lookup e, rfl⟩⟩
    refine ⟨CA.len, fun y c e => ?_, CA.inj, fun i y e => ?_⟩
    · obtain ⟨_, v, o, ho, hd⟩ := CA.all y c e
      exact ⟨o, v, mem_pinsAt (inS e) ho, hd⟩
    · obtain ⟨c, hc, hv⟩ := CA.has i y e
      refine ⟨c, hc, fun v ev => ?_⟩
      obtain ⟨u, r, o, ho, hd⟩ := hv v ev
      exact ⟨o, u, mem_pinsAt (inS hc) ho, hd, r⟩
  have e0 := T4.env0 I2.env0 atS (fun p hp => ?_) (fun p hp => ?_)
  · have q3 := q2 _ _ CT T4
    have hl : us.length = ps.length := by rw [← r.length]; exact F.len _ _ _ _ q3
    refine wpAny_call (codeAny_mono (F.run X.A X.stack s2 _ ⟨us, []⟩ us vs _ _ hr e0 ?_ r q3) fun r' s' hq => ?_)
    · have := hb s2 us I2.kIn (by rw [List.append_nil]; exact hl)
      rw [List.append_nil] at this
      exact this
    · cases r' with
      | error e => exact False.elim hq
      | ok fl =>
        cases fl with
        | ret u => exact I2.after (T4.after atS hq)
        | next => exact False.elim hq
        | brk => exact False.elim hq
        | cont => exact False.elim hq
  · obtain ⟨y, hy⟩ := mem p hp
    have h1 := I2.ok.cab y _ (hfn y) hy
    cases e : X.base.get? p.1 with
    | none => rfl
    | some o => exact absurd (Nat.lt_of_lt_of_le (Heap.lt_size e) (Nat.le_trans I2.ok.bsz h1)) (Nat.lt_irrefl _)
  · obtain ⟨y, hy⟩ := mem p hp
    obtain ⟨v, o, ho, hd⟩ := I2.cell y _ hy
    intro hfrm
    rcases List.mem_cons.mp (I2.stkSub _ hfrm) with z | z
    · obtain ⟨m, hns, _⟩ := I2.loc
      obtain ⟨o2, es2, ep2, ho2, hd2, _⟩ := hns
      rw [← z, ho] at ho2
      cases ho2
      rw [hd] at hd2
      cases hd2
    · obtain ⟨_, o2, ho2, _⟩ := I2.ok.funs.mem z
      exact absurd (Nat.lt_of_lt_of_le (Heap.lt_size ho2) (I2.ok.cab y _ (hfn y) hy)) (Nat.lt_irrefl _)
end
end Sb

namespace Sb
open PySem PySem.Spec PyProof.Rows L2 TL
/-! ### the plain side of k41 -/
theorem fine_val {x : Pl} {s : Stt} {o : Op} (he : errOf x s.now o = none) : Fine 2 (valS x s o) := by
  cases o with
  | step c =>
    have := err_step he
    exact Fine.list (n := 1) (fun d hd => by obtain ⟨k, _, rfl⟩ := List.mem_map.mp hd; exact Fine.tuple (fine2 (n := 0) (.str _) (.str _)) (by show 2 ≤ 1000000; decide)) (by rw [List.length_map, List.length_range]; omega)
  | add c => exact .int _
  | take c => exact .int _
  | jump i t => exact .int _
  | undo => exact .bool _
  | redo => exact .bool _
theorem lay_val {x : Pl} {s : Stt} {o : Op} (hx : x.Ok) (hs : SitOk x s.now.sit) : Lay 2 (valS x s o) := by
  cases o with
  | step c =>
    refine Lay.list (n := 1) fun d hd => ?_
    obtain ⟨k, _, rfl⟩ := List.mem_map.mp hd
    obtain ⟨w1, w2⟩ := wb_le hx (runP_ok hx hs k)
    exact lay_words w1 w2
  | add c => exact .int _
  | take c => exact .int _
  | jump i t => exact .int _
  | undo => exact .bool _
  | redo => exact .bool _
theorem lay_vals {x : Pl} (hx : x.Ok) : ∀ (os : List Op) {s : Stt}, SttOk x s → goodS x s os → ∀ d ∈ valsS x s os, Lay 2 d
  | [], _, _, _, d, hd => nomatch hd
  | o :: os, s, h, g, d, hd => by
    rcases List.mem_cons.mp hd with rfl | hd
    · exact lay_val hx h.ok
    · exact lay_vals hx os (aftS_ok hx h g.1).1 g.2 d hd
def undK (x : Pl) (s : Stt) : Nat → Stt
  | 0 => s
  | k + 1 => aftS x (undK x s k) .undo
theorem undK_ok {x : Pl} {s : Stt} (hx : x.Ok) (h : SttOk x s) : ∀ k, SttOk x (undK x s k) ∧ (undK x s k).es.length + (undK x s k).us.length ≤ s.es.length + s.us.length + k ∧ (undK x s k).es.length = s.es.length - k
  | 0 => ⟨h, Nat.le_refl _, rfl⟩
  | k + 1 => by
    obtain ⟨h1, h2, h3⟩ := undK_ok hx h k
    obtain ⟨h4, h5⟩ := aftS_ok (o := .undo) hx h1 rfl
    refine ⟨h4, by show (aftS x (undK x s k) .undo).es.length + (aftS x (undK x s k) .undo).us.length ≤ _; omega, ?_⟩
    show (aftS x (undK x s k) .undo).es.length = _
    generalize undK x s k = s1 at h1 h3
    obtain ⟨n, es, us⟩ := s1
    rcases List.eq_nil_or_concat es with rfl | ⟨es0, e, rfl⟩
    · rw [aftS_undo0]
      have : 0 = s.es.length - k := h3
      show 0 = _
      omega
    · rw [List.concat_eq_append] at h3 ⊢
      rw [aftS_undo1]
      have h3' : (es0 ++ [e]).length = s.es.length - k := h3
      rw [List.length_append, List.length_singleton] at h3'
      show es0.length = _
      omega
theorem undK_val {x : Pl} {s : Stt} (hx : x.Ok) (h : SttOk x s) (k : Nat) : valS x (undK x s k) .undo = .bool (decide (k < s.es.length)) := by
  have h3 := (undK_ok hx h k).2.2
  show PyData.bool (!(undK x s k).es.isEmpty) = _
  congr 1
  cases e : (undK x s k).es with
  | nil =>
    rw [e] at h3
    have : ¬ k < s.es.length := by have : (0 : Nat) = s.es.length - k := h3; omega
    rw [decide_eq_false this]
    rfl
  | cons z zs =>
    rw [e] at h3
    have : k < s.es.length := by have : zs.length + 1 = s.es.length - k := h3; omega
    rw [decide_eq_true this]
    rfl
theorem undK_end {x : Pl} {s : Stt} (hx : x.Ok) (h : SttOk x s) {k : Nat} (hk : s.es.length ≤ k) : (undK x s k).es = [] ∧ (undK x s k).now = ⟨sit0 x, 0, 0, 0⟩ := by
  obtain ⟨h1, _, h3⟩ := undK_ok hx h k
  have h4 : (undK x s k).es = [] := List.length_eq_zero_iff.mp (by omega)
  refine ⟨h4, ?_⟩
  have lk := h1.lk
  rw [h4] at lk
  generalize (undK x s k).now = n at lk
  generalize hz : ([] : List Ent) = es at lk
  cases lk with
  | nil => rfl
  | snoc _ => exact absurd hz (by simp)
theorem undK_stop {x : Pl} {s : Stt} (hx : x.Ok) (h : SttOk x s) : undK x s (s.es.length + 1) = undK x s s.es.length := by
  have h4 := (undK_end hx h (Nat.le_refl s.es.length)).1
  show aftS x (undK x s s.es.length) .undo = _
  generalize undK x s s.es.length = s1 at h4
  obtain ⟨n, es, us⟩ := s1
  have h4 : es = [] := h4
  subst h4
  rfl
theorem redo_undo {x : Pl} {s : Stt} (h : SttOk x s) (he : s.es ≠ []) : aftS x (aftS x s .undo) .redo = s ∧ valS x (aftS x s .undo) .redo = .bool true := by
  obtain ⟨n, es, us⟩ := s
  rcases List.eq_nil_or_concat es with rfl | ⟨es0, e, rfl⟩
  · exact absurd rfl he
  · rw [List.concat_eq_append] at h ⊢
    rw [aftS_undo1, aftS_redo1]
    have hn : n = e.aft := h.lk.inv.1
    refine ⟨by rw [hn], ?_⟩
    show PyData.bool (!(us ++ [e]).isEmpty) = _
    have : (!(us ++ [e]).isEmpty) = true := by cases us <;> rfl
    rw [this]
theorem redo_at {x : Pl} {s : Stt} (hx : x.Ok) (h : SttOk x s) {k : Nat} (hk : k < s.es.length) : aftS x (undK x s (k + 1)) .redo = undK x s k ∧ valS x (undK x s (k + 1)) .redo = .bool true := by
  obtain ⟨h1, _, h3⟩ := undK_ok hx h k
  exact redo_undo h1 fun e => by rw [e] at h3; have : (0 : Nat) = s.es.length - k := h3; omega
theorem undo_resV (mm : Nat) : ((List.range (mm + 1)).map fun j => PyData.bool (decide (j < mm))) = List.replicate mm (.bool true) ++ [.bool false] := by
  rw [List.range_succ, List.map_append]
  congr 1
  · rw [List.eq_replicate_iff]
    refine ⟨by rw [List.length_map, List.length_range], fun b hb => ?_⟩
    obtain ⟨k, hk, rfl⟩ := List.mem_map.mp hb
    rw [decide_eq_true (List.mem_range.mp hk)]
  · show [PyData.bool (decide (mm < mm))] = _
    rw [decide_eq_false (Nat.lt_irrefl _)]
theorem lay_tfV (mm : Nat) : Lay 2 (.list (List.replicate mm (.bool true) ++ [.bool false])) := Lay.list (n := 1) fun d hd => by
  rcases List.mem_append.mp hd with h | h
  · rw [(List.mem_replicate.mp h).2]; exact .bool _
  · rw [List.mem_singleton.mp h]; exact .bool _
theorem lay_trV (mm : Nat) : Lay 2 (.list (List.replicate mm (.bool true))) := Lay.list (n := 1) fun d hd => by
  rw [(List.mem_replicate.mp hd).2]; exact .bool _
theorem flat_oneV {α : Type} (v : α) : ∀ n, (List.replicate n [v]).flatten = List.replicate n v
  | 0 => rfl
  | n + 1 => by rw [List.replicate_succ, List.replicate_succ, List.flatten_cons, flat_oneV v n]; rfl
theorem trues_D {K : PySem.W.Frag} {G : Hp} : ∀ n, DpAll K G (List.replicate n (.bl true)) (List.replicate n (.bool true))
  | 0 => .nil
  | n + 1 => .cons (.bl true) (trues_D n)
theorem tf_D {K : PySem.W.Frag} {G : Hp} (n : Nat) : DpAll K G (List.replicate n (.bl true) ++ [.bl false]) (List.replicate n (.bool true) ++ [.bool false]) := by
  induction n with
  | zero => exact .cons (.bl false) .nil
  | succ n ih => exact .cons (.bl true) ih
theorem neD_goV {K : PySem.W.Frag} {H : Hp} {v1 v2 : V} {e : PyData} {Q : VK} (h1 : Dp K H v1 e) (h2 : Dp K H v2 e) (sh : SeqAt.shaped e = true) (ly : e.canLay0 = true) (k : Q (.bl false) H) : rNeD K v1 v2 H Q :=
  ⟨e, e, h1, h2, sh, sh, by rw [SeqAt.eqv_refl _ ly]; exact k⟩
theorem eqD_goV {K : PySem.W.Frag} {H : Hp} {v1 v2 : V} {e : PyData} {Q : VK} (h1 : Dp K H v1 e) (h2 : Dp K H v2 e) (sh : SeqAt.shaped e = true) (ly : e.canLay0 = true) (k : Q (.bl true) H) : rEqD K v1 v2 H Q :=
  ⟨e, e, h1, h2, sh, sh, by rw [SeqAt.eqv_refl _ ly]; exact k⟩
theorem cut_take {ys : List V} {c : Nat} (h : c ≤ ys.length) : cutV ys none (some (c : Int)) = ys.take c := by
  unfold cutV
  rw [HT.sIx_nat, HT.sIx_none, Nat.min_eq_left h, List.drop_zero, Nat.sub_zero]
theorem cut_drop {ys : List V} {c : Nat} (h : c ≤ ys.length) : cutV ys (some (c : Int)) none = ys.drop c := by
  unfold cutV
  rw [HT.sIx_nat, HT.sIx_none, Nat.min_eq_left h]
  exact List.take_of_length_le (by rw [List.length_drop]; omega)
theorem DpAll.takeV {K : PySem.W.Frag} {G : Hp} : ∀ {ds : List PyData} {vs : List V} (n : Nat), DpAll K G vs ds → DpAll K G (vs.take n) (ds.take n)
  | _, _, 0, _ => .nil
  | _, _, _ + 1, .nil => .nil
  | _, _, n + 1, .cons h t => .cons h (DpAll.takeV n t)
theorem DpAll.dropV {K : PySem.W.Frag} {G : Hp} : ∀ {ds : List PyData} {vs : List V} (n : Nat), DpAll K G vs ds → DpAll K G (vs.drop n) (ds.drop n)
  | _, _, 0, h => h
  | _, _, _ + 1, .nil => .nil
  | _, _, n + 1, .cons _ t => DpAll.dropV n t
/-! ### how the worlds move -/
theorem Now.far {d : Addr} {G H G' H' : Hp} {S : List Addr} (h : Now d G H) (M : Mv S G H G' H') (hd : d ∉ S) : Now d G' H' := by
  obtain ⟨ds, h1, h2⟩ := h.x
  exact ⟨M.s, M.ext.out h.o h1, ds, M.kept h1 hd, h2⟩
theorem At.mv {d : Addr} {G0 H0 G H : Hp} (A : At d G0 H0 G H) : Mv [d] G0 H0 G H := ⟨A.ext, fun c o e => by
  obtain ⟨h1, h2⟩ := wos_some e
  exact A.sm c o (by rw [wo_ne (by simpa using h1)]; exact h2)⟩
structure SX (a : Ad) (K : PySem.W.Frag) (d : Addr) (G H : Hp) (y p u sd : Addr) (x : Pl) (s : Stt) : Prop where
  now : Now d G H
  st : StAt a K G H y p u sd x s.now s.es s.us
  dp : d ≠ p
  du : d ≠ u
section
variable {a : Ad} {K : PySem.W.Frag} {d y p u sd : Addr} {G H G' H' : Hp} {x : Pl} {s s' : Stt} {S : List Addr}
theorem SX.dy (h : SX a K d G H y p u sd x s) : d ≠ y := by
  obtain ⟨dy, pv, nv, vs, ws, h1, _⟩ := h.st.ex
  obtain ⟨ds, hd, _⟩ := h.now.x
  intro e
  rw [e, h1] at hd
  cases hd
theorem SX.mv (h : SX a K d G H y p u sd x s) (M : Mv S G H G' H') (hS : ∀ b ∈ S, b ≠ d ∧ b ≠ y ∧ b ≠ p ∧ b ≠ u) : SX a K d G' H' y p u sd x s :=
  ⟨h.now.far M fun m => (hS d m).1 rfl, h.st.far M fun b m => (hS b m).2, h.dp, h.du⟩
theorem SX.pure (h : SX a K d G H y p u sd x s) (M : Mv [] G H G' H') : SX a K d G' H' y p u sd x s := h.mv M fun b m => nomatch m
theorem SX.draw (h : SX a K d G H y p u sd x s) (A : At d G H G' H') : SX a K d G' H' y p u sd x s :=
  ⟨A.now, h.st.far A.mv fun b m => by rw [List.mem_singleton.mp m]; exact ⟨h.dy, h.dp, h.du⟩, h.dp, h.du⟩
theorem SX.op (h : SX a K d G H y p u sd x s) {u' : Addr} (M : Mv [y, p, u] G H G' H') (hu : u' = u ∨ H u' = none) (st : StAt a K G' H' y p u' sd x s'.now s'.es s'.us) : SX a K d G' H' y p u' sd x s' :=
  ⟨h.now.far M (by simp [h.dy, h.dp, h.du]), st, h.dp, by
    rcases hu with rfl | q
    · exact h.du
    · obtain ⟨ds, hd, _⟩ := h.now.x
      exact ne_of_none hd q⟩
theorem SX.freeze (h : SX a K d G H y p u sd x s) {R : Addr} {xs : List V} (hR : H R = some (.lst xs)) (gR : G R = none) (n : R ≠ d ∧ R ≠ y ∧ R ≠ p ∧ R ≠ u) : SX a K d (upd G R (.lst xs)) H y p u sd x s := by
  obtain ⟨n1, n2, n3, n4⟩ := n
  exact ⟨⟨same_add h.now.s hR, by rw [upd_ne n1.symm]; exact h.now.o, h.now.x⟩, h.st.keep (same_new gR) (by rw [upd_ne n2.symm]; exact h.st.gy) (by rw [upd_ne n3.symm]; exact h.st.gp) (by rw [upd_ne n4.symm]; exact h.st.gu) fun b _ o e => e, h.dp, h.du⟩
/-- what is new is none of the stage's -/
theorem SX.off (h : SX a K d G H y p u sd x s) {D : Addr} (hD : H D = none) : D ≠ d ∧ D ≠ y ∧ D ≠ p ∧ D ≠ u := by
  obtain ⟨dy, pv, nv, vs, ws, h1, h2, h3, _⟩ := h.st.ex
  exact ⟨h.now.ne hD, (ne_of_none h1 hD).symm, (ne_of_none h2 hD).symm, (ne_of_none h3 hD).symm⟩
theorem SX.own (h : SX a K d G H y p u sd x s) : ∃ (dy : Addr) (pv nv : V), H y = some (.ins a.C_Stage dy (stgF pv nv p u sd)) := by
  obtain ⟨dy, pv, nv, vs, ws, h1, _⟩ := h.st.ex
  exact ⟨dy, pv, nv, h1⟩
end
theorem undo_go {a : Ad} {K : PySem.W.Frag} {G H : Hp} {y p u sd : Addr} {x : Pl} {s : Stt} {Q : VK} {E : XK} (hS : StAt a K G H y p u sd x s.now s.es s.us) (hGH : Same G H) (hs : SttOk x s) (hlen : s.us.length ≤ 100000)
    (k : ∀ (G' H' : Hp) (v : V), Mv [y, p, u] G H G' H' → StAt a K G' H' y p u sd x (aftS x s .undo).now (aftS x s .undo).es (aftS x s .undo).us → Dp K G' v (valS x s .undo) → Q v H') : spUndo a K [.ref y] H Q E := by
  obtain ⟨n, es, us⟩ := s
  refine ⟨⟨y, p, u, sd, G, x, n, es, us, rfl, hS, hGH, hlen, ?_⟩⟩
  rcases List.eq_nil_or_concat es with rfl | ⟨es0, e, rfl⟩
  · exact .inl ⟨rfl, fun G' H' M S => k G' H' _ M S (.bl false)⟩
  · rw [List.concat_eq_append] at hs k ⊢
    refine .inr ⟨es0, e, rfl, (hs.eo e (List.mem_append_right _ List.mem_cons_self)).1, fun G' H' M S => k G' H' _ M ?_ ?_⟩
    · rw [aftS_undo1]; exact S
    · show Dp K G' (.bl true) (.bool (!(es0 ++ [e]).isEmpty))
      have : (!(es0 ++ [e]).isEmpty) = true := by cases es0 <;> rfl
      rw [this]
      exact .bl true
theorem redo_go {a : Ad} {K : PySem.W.Frag} {G H : Hp} {y p u sd : Addr} {x : Pl} {s : Stt} {Q : VK} {E : XK} (hS : StAt a K G H y p u sd x s.now s.es s.us) (hGH : Same G H) (hs : SttOk x s) (hlen : s.es.length ≤ 100000)
    (k : ∀ (G' H' : Hp) (v : V), Mv [y, p, u] G H G' H' → StAt a K G' H' y p u sd x (aftS x s .redo).now (aftS x s .redo).es (aftS x s .redo).us → Dp K G' v (valS x s .redo) → Q v H') : spRedo a K [.ref y] H Q E := by
  obtain ⟨n, es, us⟩ := s
  refine ⟨⟨y, p, u, sd, G, x, n, es, us, rfl, hS, hGH, hlen, ?_⟩⟩
  rcases List.eq_nil_or_concat us with rfl | ⟨us0, e, rfl⟩
  · exact .inl ⟨rfl, fun G' H' M S => k G' H' _ M S (.bl false)⟩
  · rw [List.concat_eq_append] at hs k ⊢
    refine .inr ⟨us0, e, rfl, (hs.uo e (List.mem_append_right _ List.mem_cons_self)).2, fun G' H' M S => k G' H' _ M ?_ ?_⟩
    · rw [aftS_redo1]; exact S
    · show Dp K G' (.bl true) (.bool (!(us0 ++ [e]).isEmpty))
      have : (!(us0 ++ [e]).isEmpty) = true := by cases us0 <;> rfl
      rw [this]
      exact .bl true
theorem rng_blV {K : PySem.W.Frag} {G : Hp} (f : Nat → Bool) : ∀ l : List Nat, DpAll K G (l.map fun j => V.bl (f j)) (l.map fun j => PyData.bool (f j))
  | [] => .nil
  | j :: l => .cons (.bl _) (rng_blV f l)
end Sb

namespace Sb
open PySem PySem.Spec PyProof.Rows L2 TL LamX NdefX
/-! ### a stage's world in a law that makes lambdas -/
theorem Tabs.keptV {T : List (Addr × Str)} {H H' : Hp} (t : Tabs T H) (k : ∀ b o, H b = some o → (∃ ps, o = .tbl ps) ∨ (∃ c q, o = CodeO c q) → H' b = some o) : Tabs T H' := fun p hp => by
  obtain ⟨ps, h1, h2, h3⟩ := t p hp
  refine ⟨ps, k _ _ h1 (.inl ⟨_, rfl⟩), h2, fun pos cv hcv => ?_⟩
  obtain ⟨c, ec, hc⟩ := h3 pos cv hcv
  exact ⟨c, ec, k _ _ hc (.inr ⟨_, _, rfl⟩)⟩
theorem tbs_atV {a : Ad} {H : Hp} (t : Tabs (Ts a) H) {b : Addr} (hb : b ∈ tbs a) : ∃ ps, H b = some (.tbl ps) := by
  simp only [tbs, List.mem_cons, List.not_mem_nil, or_false] at hb
  subst hb
  obtain ⟨ps, h, _⟩ := t _ List.mem_cons_self
  exact ⟨ps, h⟩
def Ord (o : HO) : Prop := (∀ ps, o ≠ .tbl ps) ∧ ∀ c q, o ≠ CodeO c q
theorem ord_lst {xs : List V} : Ord (.lst xs) := ⟨(fun _ z => nomatch z), fun c q z => by unfold CodeO at z; cases z⟩
theorem ord_ins {C dy : Addr} {fs : List (Str × V)} : Ord (.ins C dy fs) := ⟨(fun _ z => nomatch z), fun c q z => by unfold CodeO at z; cases z⟩
theorem ord_dK {kvs : List (Key × V)} : Ord (.dK kvs) := ⟨(fun _ z => nomatch z), fun c q z => by unfold CodeO at z; cases z⟩
/-- what of the tables a law's world tells -/
structure TbX (a : Ad) (G H : Hp) : Prop where
  tb : Tabs (Ts a) H
  gt : ∀ b ∈ tbs a, G b = none
theorem TbX.mv {a : Ad} {G H G' H' : Hp} {S : List Addr} (h : TbX a G H) (M : Mv S G H G' H') (hS : ∀ b ∈ S, H b = none ∨ ∃ o, H b = some o ∧ Ord o) : TbX a G' H' where
  tb := Tabs.keptV h.tb fun b o e ho => M.kept e fun m => by
    rcases hS b m with q | ⟨o', q, q1, q2⟩
    · rw [q] at e; cases e
    · rw [q] at e
      cases e
      rcases ho with ⟨ps, rfl⟩ | ⟨c, z, rfl⟩
      · exact q1 _ rfl
      · exact q2 _ _ rfl
  gt := fun b hb => by
    obtain ⟨ps, h1⟩ := tbs_atV h.tb hb
    exact M.ext.out (h.gt b hb) h1
structure SXT (a : Ad) (K : PySem.W.Frag) (d : Addr) (G H : Hp) (y p u sd : Addr) (x : Pl) (s : Stt) : Prop where
  sx : SX a K d G H y p u sd x s
  t : TbX a G H
section
variable {a : Ad} {K : PySem.W.Frag} {d y p u sd : Addr} {G H G' H' : Hp} {x : Pl} {s s' : Stt} {S : List Addr}
theorem SXT.own (h : SXT a K d G H y p u sd x s) : ∀ b, b = d ∨ b = y ∨ b = p ∨ b = u → ∃ o, H b = some o ∧ Ord o := by
  obtain ⟨dy, pv, nv, vs, ws, h1, h2, h3, _⟩ := h.sx.st.ex
  obtain ⟨ds, hd, _⟩ := h.sx.now.x
  rintro b (rfl | rfl | rfl | rfl)
  · exact ⟨_, hd, ord_lst⟩
  · exact ⟨_, h1, ord_ins⟩
  · exact ⟨_, h2, ord_lst⟩
  · exact ⟨_, h3, ord_lst⟩
theorem SXT.pure (h : SXT a K d G H y p u sd x s) (M : Mv [] G H G' H') : SXT a K d G' H' y p u sd x s := ⟨h.sx.pure M, h.t.mv M fun b m => nomatch m⟩
theorem SXT.draw (h : SXT a K d G H y p u sd x s) (A : At d G H G' H') : SXT a K d G' H' y p u sd x s := ⟨h.sx.draw A, h.t.mv A.mv fun b m => .inr (h.own b (.inl (List.mem_singleton.mp m)))⟩
theorem SXT.op (h : SXT a K d G H y p u sd x s) {u' : Addr} (M : Mv [y, p, u] G H G' H') (hu : u' = u ∨ H u' = none) (st : StAt a K G' H' y p u' sd x s'.now s'.es s'.us) : SXT a K d G' H' y p u' sd x s' :=
  ⟨h.sx.op M hu st, h.t.mv M fun b m => .inr (h.own b (by simp at m; rcases m with e | e | e; exact .inr (.inl e); exact .inr (.inr (.inl e)); exact .inr (.inr (.inr e))))⟩
theorem SXT.put (h : SXT a K d G H y p u sd x s) {R : Addr} {o o' : HO} (hR : H R = some o) (gR : G R = none) (n : R ≠ d ∧ R ≠ y ∧ R ≠ p ∧ R ≠ u) (ho : Ord o) : SXT a K d G (upd H R o') y p u sd x s := by
  have M : Mv [R] G H G (upd H R o') := (Mv.start h.sx.now.s).put (.inl (List.mem_singleton.mpr rfl)) gR _
  exact ⟨h.sx.mv M fun b m => by rw [List.mem_singleton.mp m]; exact n, h.t.mv M fun b m => by rw [List.mem_singleton.mp m]; exact .inr ⟨o, hR, ho⟩⟩
/-- behind a lambda's call that changes nothing -/
theorem SXT.lam (h : SXT a K d G H y p u sd x s) (k1 : ∀ b o, b ∉ tbs a → H b = some o → H' b = some o) (k2 : ∀ b, H' b = none → H b = none) (t : Tabs (Ts a) H') : SXT a K d G H' y p u sd x s := by
  have sGH : Same G H' := fun b o e => k1 b o (fun m => by rw [h.t.gt b m] at e; cases e) (h.sx.now.s b o e)
  have M : Mv (tbs a) G H G H' := ⟨⟨Same.refl G, sGH, fun b o e => .inl e, k2⟩, fun b o e => by
    obtain ⟨q1, q2⟩ := wos_some e
    exact k1 b o q1 q2⟩
  refine ⟨h.sx.mv M fun b m => ?_, t, h.t.gt⟩
  obtain ⟨ps, hb⟩ := tbs_atV h.t.tb m
  have ne : ∀ z, (z = d ∨ z = y ∨ z = p ∨ z = u) → b ≠ z := fun z hz e => by
    obtain ⟨o, q, q1, _⟩ := h.own z hz
    rw [← e, hb] at q
    cases q
    exact q1 _ rfl
  exact ⟨ne _ (.inl rfl), ne _ (.inr (.inl rfl)), ne _ (.inr (.inr (.inl rfl))), ne _ (.inr (.inr (.inr rfl)))⟩
end
end Sb

namespace Sb
open PySem PySem.Spec PyProof.Rows L2 TL LamX
/-! ### isinstance of a caught error with a dict or without -/
def DOk (d : Option Addr) (H : Hp) : Prop := d = none ∨ ∃ (dd : Addr) (fs : List (Str × V)), d = some dd ∧ H dd = some (.xd fs)
def rIsXU (K : PySem.W.Frag) (a : Addr) (cls : Value) (d : Option Addr) : List V → Hp → VK → Prop := fun xs H Q => ∃ (D : Addr) (c : V) (cv : Value) (b : Bool), cls = .ref D ∧ DOk d H ∧ ExcC K D ∧ xs = [.ref a, c] ∧ (∀ u, RelV c u → u = cv) ∧ PySem.W.kitOne K (.ref D) cv = some b ∧ Q (.bl b) H
theorem call_isXU {X : Cx} {a : Addr} {oe : Obj} {cls : Value} {d : Option Addr} {pn : List (Addr × Obj)} (hz : Zc cls d oe) (hf : ∃ vs, oe.data = .fields vs) : CallR (X.suite a ((a, oe) :: pn)) (.builtin "isinstance") (rIsXU X.K a cls d) := by
  intro pins s σ H xs us Q I r h
  obtain ⟨D, c, cv, b, ec, ed, C, h⟩ := h
  rcases ed with ed | ⟨dd, fs, ed, ea⟩
  · exact call_isX hz hf pins s σ H xs us Q I r ⟨D, c, cv, b, ec, ed, C, h⟩
  · exact call_isXD hz hf pins s σ H xs us Q I r ⟨D, dd, fs, c, cv, b, ec, ed, ea, C, h⟩
/-! ### _law_error_of, for any class without an __init__ of its own -/
structure ErrK (K : PySem.W.Frag) (a : Ad) (C : Addr) (j : Nat) (wd : Str) : Prop where
  lt : j < 13
  xc : L2.ExcC K C
  xe : PySem.W.exmOne K (.ref C) (.ref a.X_BotError) = some true
  xv : PySem.W.kitOne K (.ref C) (.type "ValueError") = some true
  o0 : PySem.W.kitOne K (.ref C) (.ref a.X_InvalidTick) = some (decide (j = 0))
  o1 : PySem.W.kitOne K (.ref C) (.ref a.X_InvalidNumber) = some (decide (j = 1))
  o2 : PySem.W.kitOne K (.ref C) (.ref a.X_TooLong) = some (decide (j = 2))
  o3 : PySem.W.kitOne K (.ref C) (.ref a.X_DifferentShelves) = some (decide (j = 3))
  o4 : PySem.W.kitOne K (.ref C) (.ref a.X_Contradiction) = some (decide (j = 4))
  o5 : PySem.W.kitOne K (.ref C) (.ref a.X_CellFull) = some (decide (j = 5))
  o6 : PySem.W.kitOne K (.ref C) (.ref a.X_CellEmpty) = some (decide (j = 6))
  o7 : PySem.W.kitOne K (.ref C) (.ref a.X_InvalidName) = some (decide (j = 7))
  o8 : PySem.W.kitOne K (.ref C) (.ref a.X_UnknownName) = some (decide (j = 8))
  o9 : PySem.W.kitOne K (.ref C) (.ref a.X_SyntaxFault) = some (decide (j = 9))
  o10 : PySem.W.kitOne K (.ref C) (.ref a.X_CheckFault) = some (decide (j = 10))
  o11 : PySem.W.kitOne K (.ref C) (.ref a.X_InvalidCode) = some (decide (j = 11))
  o12 : PySem.W.kitOne K (.ref C) (.ref a.X_InvalidOperation) = some (decide (j = 12))
  nm : ([V.str "tick", V.str "number", V.str "long", V.str "different", V.str "contradiction", V.str "full", V.str "empty", V.str "name", V.str "unknown", V.str "syntax", V.str "check", V.str "code", V.str "operation"])[j]? = some (.str wd)
  n1 : inV (.str wd) [V.str "syntax", V.str "check"] = decide (j = 9 ∨ j = 10)
  sx : decide (V.str wd = V.str (Str.ofString "syntax")) = decide (j = 9)
  n2 : inV (.str wd) [V.str "code", V.str "operation"] = decide (11 ≤ j)
  xf : 9 ≤ j → L2.XfC K C
  xp : 11 ≤ j → PySem.W.findIn K (.ref C) "place" = some none
  xl : j = 9 ∨ j = 10 → PySem.W.findIn K (.ref C) "line" = some none ∧ PySem.W.findIn K (.ref C) "column" = some none
  xr : j = 10 → PySem.W.findIn K (.ref C) "reason" = some none
/-- what the error's dict tells, as _law_error_of says it -/
def DAt (d : Option Addr) (H : Hp) (j : Nat) (D : PyData) : Prop := (d = none ∧ j < 9 ∧ D = .int 0) ∨ (∃ (dd : Addr) (fs : List (Str × V)) (pl : Int), d = some dd ∧ H dd = some (.xd fs) ∧ fs.lookup (Str.ofString "place") = some (.int pl) ∧ 11 ≤ j ∧ D = .int pl) ∨
  (∃ (dd : Addr) (fs : List (Str × V)) (l c : Int), d = some dd ∧ H dd = some (.xd fs) ∧ fs.lookup (Str.ofString "line") = some (.int l) ∧ fs.lookup (Str.ofString "column") = some (.int c) ∧ j = 9 ∧ D = .tuple [.int l, .int c]) ∨
  ∃ (dd : Addr) (fs : List (Str × V)) (r : Str) (l c : Int), d = some dd ∧ H dd = some (.xd fs) ∧ fs.lookup (Str.ofString "reason") = some (.str r) ∧ fs.lookup (Str.ofString "line") = some (.int l) ∧ fs.lookup (Str.ofString "column") = some (.int c) ∧ j = 10 ∧ D = .tuple [.str r, .int l, .int c]
theorem DAt.mono {d : Option Addr} {H H' : Hp} {j : Nat} {D : PyData} (h : DAt d H j D) (m : Same H H') : DAt d H' j D := h.imp id fun h => h.imp (fun ⟨dd, fs, pl, e, a, r⟩ => ⟨dd, fs, pl, e, m _ _ a, r⟩) fun h => h.imp (fun ⟨dd, fs, l, c, e, a, r⟩ => ⟨dd, fs, l, c, e, m _ _ a, r⟩) fun ⟨dd, fs, z, l, c, e, a, r⟩ => ⟨dd, fs, z, l, c, e, m _ _ a, r⟩
theorem DAt.ok {d : Option Addr} {H : Hp} {j : Nat} {D : PyData} (h : DAt d H j D) : DOk d H := by
  rcases h with h | ⟨dd, fs, pl, e, a, _⟩ | ⟨dd, fs, l, c, e, a, _⟩ | ⟨dd, fs, z, l, c, e, a, _⟩
  · exact .inl h.1
  all_goals exact .inr ⟨dd, fs, e, a⟩
/-- an error is raised and told as the tuple (wd, D) -/
def ErrOut (K : PySem.W.Frag) (a : Ad) (Q : Str → PyData → VK) : XK := fun cls d H' => ∃ C j wd D, cls = .ref C ∧ DAt d H' j D ∧ ErrK K a C j wd ∧ ∀ (H2 : Hp) (p : Addr), Same H' H2 → H' p = none → Dp K H2 (.ref p) (.tuple [.str wd, D]) → Q wd D (.ref p) H2
def TErr (K : PySem.W.Frag) (a : Ad) : (XK → Hp → VK → Prop) → Hp → VK → Prop := fun tl H Q => tl (ErrOut K a fun _ _ => Q) H fun _ H' => Q .non H'
abbrev bls13 (j : Nat) : List V := [.bl (decide (j = 0)), .bl (decide (j = 1)), .bl (decide (j = 2)), .bl (decide (j = 3)), .bl (decide (j = 4)), .bl (decide (j = 5)), .bl (decide (j = 6)), .bl (decide (j = 7)), .bl (decide (j = 8)), .bl (decide (j = 9)), .bl (decide (j = 10)), .bl (decide (j = 11)), .bl (decide (j = 12))]
theorem idx_at {j : Nat} (h : j < 13) : (bls13 j)[j]? = some (.bl true) := by
  match j, h with
  | 0, _ => rfl
  | 1, _ => rfl
  | 2, _ => rfl
  | 3, _ => rfl
  | 4, _ => rfl
  | 5, _ => rfl
  | 6, _ => rfl
  | 7, _ => rfl
  | 8, _ => rfl
  | 9, _ => rfl
  | 10, _ => rfl
  | 11, _ => rfl
  | 12, _ => rfl
theorem idx_no {j m : Nat} {z : V} (h : j < 13) (hm : m < j) (hz : (bls13 j)[m]? = some z) : eqV z (.bl true) = false := by
  have e : ∀ (j : _root_.Fin 13) (m : _root_.Fin 13), m.val < j.val → ((bls13 j.val)[m.val]?).map (fun z => eqV z (.bl true)) = some false := by decide +kernel
  have := e ⟨j, h⟩ ⟨m, by omega⟩ hm
  rw [hz] at this
  exact Option.some.inj this
section
variable {a : Ad}
abbrev eCx (X : Cx) (a : Ad) (cdg : Value) (s : Shared) (H : Hp) : Cx := (cxOf C8.CX0 X.prog X.w X.K X.mg X.base ["_law_call", "e", "_law_kinds", "_law_names", "_law_name"] "_law_error_of" (defScope s_l_error_of) a.f_l_error_of cdg X.A X.stack s H C8.E0).nox
theorem err_gives {X : Cx} (T : Txt X.K X.mg a) {cdg : Value} {q : Str} : GivesS X ["_law_call", "e", "_law_kinds", "_law_names", "_law_name"] "_law_error_of" (defScope s_l_error_of) a.f_l_error_of cdg (defBody s_l_error_of) "_law_call" q (TErr X.K a) := by
  intro f c' s H Q tl act hc h
  refine ⟨_, pss_cons (ps_try_as (X := eCx X a cdg s H) (i := 1) (c := .ref a.X_BotError)
      (tb := fun W D σ H => ∃ Ech : XK, σ[0]? = some (some (.ref f)) ∧ H c' = some (CodeO c' q) ∧ (∀ cls d H', Ech cls d H' → W cls d σ H') ∧ tl Ech H fun _ H' => D.nx σ H')
      rfl rfl sc_l_error_of.nd rfl rfl ⟨rfl, by decide, .inl T.e_BotError⟩ L2.takes0 (fun W pn xe tk _ => ?_) (fun ea oe cls d pn hz hf => by exact (pss_cons (ps_set (i := 2) sc_l_error_of.nd rfl (Or.inl rfl) (pe_lst (pa_cons (pe_callB (call_isXU hz hf) (by rfl) T.z_isinstance (by decide +kernel) (pa_cons (pv 1) (pa_cons (pe_glob (v := V.ref a.X_InvalidTick) rfl T.e_InvalidTick rfl) pa_nil))) (pa_cons (pe_callB (call_isXU hz hf) (by rfl) T.z_isinstance (by decide +kernel) (pa_cons (pv 1) (pa_cons (pe_glob (v := V.ref a.X_InvalidNumber) rfl T.e_InvalidNumber rfl) pa_nil))) (pa_cons (pe_callB (call_isXU hz hf) (by rfl) T.z_isinstance (by decide +kernel) (pa_cons (pv 1) (pa_cons (pe_glob (v := V.ref a.X_TooLong) rfl T.e_TooLong rfl) pa_nil))) pa_nil)))))
      (pss_cons (ps_set (i := 2) sc_l_error_of.nd rfl (Or.inl rfl) (pe_op op_cat (pv 2) (pe_lst (pa_cons (pe_callB (call_isXU hz hf) (by rfl) T.z_isinstance (by decide +kernel) (pa_cons (pv 1) (pa_cons (pe_glob (v := V.ref a.X_DifferentShelves) rfl T.e_DifferentShelves rfl) pa_nil))) (pa_cons (pe_callB (call_isXU hz hf) (by rfl) T.z_isinstance (by decide +kernel) (pa_cons (pv 1) (pa_cons (pe_glob (v := V.ref a.X_Contradiction) rfl T.e_Contradiction rfl) pa_nil))) (pa_cons (pe_callB (call_isXU hz hf) (by rfl) T.z_isinstance (by decide +kernel) (pa_cons (pv 1) (pa_cons (pe_glob (v := V.ref a.X_CellFull) rfl T.e_CellFull rfl) pa_nil))) pa_nil))))))
      (pss_cons (ps_set (i := 2) sc_l_error_of.nd rfl (Or.inl rfl) (pe_op op_cat (pv 2) (pe_lst (pa_cons (pe_callB (call_isXU hz hf) (by rfl) T.z_isinstance (by decide +kernel) (pa_cons (pv 1) (pa_cons (pe_glob (v := V.ref a.X_CellEmpty) rfl T.e_CellEmpty rfl) pa_nil))) (pa_cons (pe_callB (call_isXU hz hf) (by rfl) T.z_isinstance (by decide +kernel) (pa_cons (pv 1) (pa_cons (pe_glob (v := V.ref a.X_InvalidName) rfl T.e_InvalidName rfl) pa_nil))) (pa_cons (pe_callB (call_isXU hz hf) (by rfl) T.z_isinstance (by decide +kernel) (pa_cons (pv 1) (pa_cons (pe_glob (v := V.ref a.X_UnknownName) rfl T.e_UnknownName rfl) pa_nil))) pa_nil))))))
      (pss_cons (ps_set (i := 2) sc_l_error_of.nd rfl (Or.inl rfl) (pe_op op_cat (pv 2) (pe_lst (pa_cons (pe_callB (call_isXU hz hf) (by rfl) T.z_isinstance (by decide +kernel) (pa_cons (pv 1) (pa_cons (pe_glob (v := V.ref a.X_SyntaxFault) rfl T.e_SyntaxFault rfl) pa_nil))) (pa_cons (pe_callB (call_isXU hz hf) (by rfl) T.z_isinstance (by decide +kernel) (pa_cons (pv 1) (pa_cons (pe_glob (v := V.ref a.X_CheckFault) rfl T.e_CheckFault rfl) pa_nil))) (pa_cons (pe_callB (call_isXU hz hf) (by rfl) T.z_isinstance (by decide +kernel) (pa_cons (pv 1) (pa_cons (pe_glob (v := V.ref a.X_InvalidCode) rfl T.e_InvalidCode rfl) pa_nil))) pa_nil))))))
      (pss_cons (ps_set (i := 2) sc_l_error_of.nd rfl (Or.inl rfl) (pe_op op_cat (pv 2) (pe_lst (pa_cons (pe_callB (call_isXU hz hf) (by rfl) T.z_isinstance (by decide +kernel) (pa_cons (pv 1) (pa_cons (pe_glob (v := V.ref a.X_InvalidOperation) rfl T.e_InvalidOperation rfl) pa_nil))) pa_nil))))
      (pss_cons (ps_if (PW.pt (pw_or (pt_cmpR op_ne (pe_bmS (eCx X a cdg s H) ea oe pn PySem.F.plainAttrs_list PySem.F.slot_list_count PySem.F.type_list_count (mt_lcountFS (eCx X a cdg s H) ea oe pn) (pv 2) (pa_cons pe_bl pa_nil)) pe_int (nomark _)) (pw_or1 (pt_not (pt_val (pe_callB (call_isXU hz hf) (by rfl) T.z_isinstance (by decide +kernel) (pa_cons (pv 1) (pa_cons (pe_bltn (v := .ty "ValueError") (by rfl) T.z_ValueError (by decide +kernel) rfl) pa_nil)))))))) (pss_one (ps_ret (pe_tup (pa_cons pe_str (pa_cons pe_int pa_nil))))) pss_nil)
      (pss_cons (ps_set (i := 3) sc_l_error_of.nd rfl (Or.inl rfl) (pe_lst (pa_cons pe_str (pa_cons pe_str (pa_cons pe_str (pa_cons pe_str (pa_cons pe_str (pa_cons pe_str (pa_cons pe_str (pa_cons pe_str (pa_cons pe_str pa_nil)))))))))))
      (pss_cons (ps_set (i := 4) sc_l_error_of.nd rfl (Or.inl rfl) (pe_ix (ix_listS (eCx X a cdg s H) ea oe pn) (pe_op op_cat (pv 3) (pe_lst (pa_cons pe_str (pa_cons pe_str (pa_cons pe_str (pa_cons pe_str pa_nil)))))) (pe_bmS (eCx X a cdg s H) ea oe pn PySem.F.plainAttrs_list PySem.F.slot_list_index PySem.F.type_list_index (mt_indexS (eCx X a cdg s H) ea oe pn) (pv 2) (pa_cons pe_bl pa_nil)) (fun _ _ => rfl)))
      (pss_cons (ps_if (pt_cmpR (op_in_seqS (eCx X a cdg s H) ea oe pn) (pv 4) (pe_lst (pa_cons pe_str (pa_cons pe_str pa_nil))) rfl) (pss_one (ps_ret (pe_tup (pa_cons (pv 4) (pa_cons (pe_ifExp (pt_cmpR op_eq (pv 4) pe_str (nomark _)) (pe_tup (pa_cons (pe_xfG hz hf (pv 1)) (pa_cons (pe_xfG hz hf (pv 1)) pa_nil))) (pe_tup (pa_cons (pe_xfG hz hf (pv 1)) (pa_cons (pe_xfG hz hf (pv 1)) (pa_cons (pe_xfG hz hf (pv 1)) pa_nil))))) pa_nil))))) pss_nil)
      (pss_one (ps_ret (pe_tup (pa_cons (pv 4) (pa_cons (pe_ifExp (pt_cmpR (op_in_seqS (eCx X a cdg s H) ea oe pn) (pv 4) (pe_lst (pa_cons pe_str (pa_cons pe_str pa_nil))) rfl) (pe_xfG hz hf (pv 1)) pe_int) pa_nil)))))))))))))))) (pss_one (ps_ret pe_non)), ?_⟩
  · refine ⟨fun pins s' σ H' D I h' => ?_⟩
    obtain ⟨Ech, h1, h2, hW, h3⟩ := h'
    exact (pss_one (ps_expr (act W pn xe Ech _ _ tk))).run pins s' σ H' D I ⟨h1, h2, hW, h3⟩
  · refine ⟨ErrOut X.K a fun _ _ => Q, rfl, hc, fun cls d H' ⟨C, j, wd, D, ec, hD, ek, k⟩ => ⟨true, by rw [ec]; exact ek.xe, fun _ ea hea => ?_, fun z => by cases z⟩, h⟩
    subst ec
    refine ⟨_, rfl, C, .ref a.X_InvalidTick, .ref a.X_InvalidTick, decide (j = 0), rfl, (hD.mono (Same.refl _)).ok, ek.xc, rfl, (fun u r => r), ek.o0, _, rfl, C, .ref a.X_InvalidNumber, .ref a.X_InvalidNumber, decide (j = 1), rfl, (hD.mono (Same.refl _)).ok, ek.xc, rfl, (fun u r => r), ek.o1, _, rfl, C, .ref a.X_TooLong, .ref a.X_TooLong, decide (j = 2), rfl, (hD.mono (Same.refl _)).ok, ek.xc, rfl, (fun u r => r), ek.o2, (by show 3 ≤ sizeLine; decide), fun l0 hl0 => ?_⟩
    have m0 := same_new (o := .lst [.bl (decide (j = 0)), .bl (decide (j = 1)), .bl (decide (j = 2))]) hl0
    have e0 : (upd H' l0 (.lst [.bl (decide (j = 0)), .bl (decide (j = 1)), .bl (decide (j = 2))])) l0 = some (.lst [.bl (decide (j = 0)), .bl (decide (j = 1)), .bl (decide (j = 2))]) := upd_same
    revert m0 e0
    generalize upd H' l0 (.lst [.bl (decide (j = 0)), .bl (decide (j = 1)), .bl (decide (j = 2))]) = H0
    intro m0 e0
    refine ⟨_, rfl, _, rfl, C, .ref a.X_DifferentShelves, .ref a.X_DifferentShelves, decide (j = 3), rfl, (hD.mono (m0)).ok, ek.xc, rfl, (fun u r => r), ek.o3, _, rfl, C, .ref a.X_Contradiction, .ref a.X_Contradiction, decide (j = 4), rfl, (hD.mono (m0)).ok, ek.xc, rfl, (fun u r => r), ek.o4, _, rfl, C, .ref a.X_CellFull, .ref a.X_CellFull, decide (j = 5), rfl, (hD.mono (m0)).ok, ek.xc, rfl, (fun u r => r), ek.o5, (by show 3 ≤ sizeLine; decide), fun k1 hk1 => ?_⟩
    refine ⟨l0, k1, _, _, rfl, rfl, by rw [upd_ne (ne_of_none e0 hk1)]; exact e0, upd_same, (by show 6 ≤ sizeLine; decide), fun l1 hl1 => ?_⟩
    have m1 := (m0.trans (same_new (o := .lst [.bl (decide (j = 3)), .bl (decide (j = 4)), .bl (decide (j = 5))]) hk1)).trans (same_new (o := .lst ([.bl (decide (j = 0)), .bl (decide (j = 1)), .bl (decide (j = 2))] ++ [.bl (decide (j = 3)), .bl (decide (j = 4)), .bl (decide (j = 5))])) hl1)
    have e1 : (upd (upd H0 k1 (.lst [.bl (decide (j = 3)), .bl (decide (j = 4)), .bl (decide (j = 5))])) l1 (.lst ([.bl (decide (j = 0)), .bl (decide (j = 1)), .bl (decide (j = 2))] ++ [.bl (decide (j = 3)), .bl (decide (j = 4)), .bl (decide (j = 5))]))) l1 = some (.lst [.bl (decide (j = 0)), .bl (decide (j = 1)), .bl (decide (j = 2)), .bl (decide (j = 3)), .bl (decide (j = 4)), .bl (decide (j = 5))]) := upd_same
    revert m1 e1
    generalize upd (upd H0 k1 (.lst [.bl (decide (j = 3)), .bl (decide (j = 4)), .bl (decide (j = 5))])) l1 (.lst ([.bl (decide (j = 0)), .bl (decide (j = 1)), .bl (decide (j = 2))] ++ [.bl (decide (j = 3)), .bl (decide (j = 4)), .bl (decide (j = 5))])) = H1
    intro m1 e1
    refine ⟨_, rfl, _, rfl, C, .ref a.X_CellEmpty, .ref a.X_CellEmpty, decide (j = 6), rfl, (hD.mono (m1)).ok, ek.xc, rfl, (fun u r => r), ek.o6, _, rfl, C, .ref a.X_InvalidName, .ref a.X_InvalidName, decide (j = 7), rfl, (hD.mono (m1)).ok, ek.xc, rfl, (fun u r => r), ek.o7, _, rfl, C, .ref a.X_UnknownName, .ref a.X_UnknownName, decide (j = 8), rfl, (hD.mono (m1)).ok, ek.xc, rfl, (fun u r => r), ek.o8, (by show 3 ≤ sizeLine; decide), fun k2 hk2 => ?_⟩
    refine ⟨l1, k2, _, _, rfl, rfl, by rw [upd_ne (ne_of_none e1 hk2)]; exact e1, upd_same, (by show 9 ≤ sizeLine; decide), fun l2 hl2 => ?_⟩
    have m2 := (m1.trans (same_new (o := .lst [.bl (decide (j = 6)), .bl (decide (j = 7)), .bl (decide (j = 8))]) hk2)).trans (same_new (o := .lst ([.bl (decide (j = 0)), .bl (decide (j = 1)), .bl (decide (j = 2)), .bl (decide (j = 3)), .bl (decide (j = 4)), .bl (decide (j = 5))] ++ [.bl (decide (j = 6)), .bl (decide (j = 7)), .bl (decide (j = 8))])) hl2)
    have e2 : (upd (upd H1 k2 (.lst [.bl (decide (j = 6)), .bl (decide (j = 7)), .bl (decide (j = 8))])) l2 (.lst ([.bl (decide (j = 0)), .bl (decide (j = 1)), .bl (decide (j = 2)), .bl (decide (j = 3)), .bl (decide (j = 4)), .bl (decide (j = 5))] ++ [.bl (decide (j = 6)), .bl (decide (j = 7)), .bl (decide (j = 8))]))) l2 = some (.lst [.bl (decide (j = 0)), .bl (decide (j = 1)), .bl (decide (j = 2)), .bl (decide (j = 3)), .bl (decide (j = 4)), .bl (decide (j = 5)), .bl (decide (j = 6)), .bl (decide (j = 7)), .bl (decide (j = 8))]) := upd_same
    revert m2 e2
    generalize upd (upd H1 k2 (.lst [.bl (decide (j = 6)), .bl (decide (j = 7)), .bl (decide (j = 8))])) l2 (.lst ([.bl (decide (j = 0)), .bl (decide (j = 1)), .bl (decide (j = 2)), .bl (decide (j = 3)), .bl (decide (j = 4)), .bl (decide (j = 5))] ++ [.bl (decide (j = 6)), .bl (decide (j = 7)), .bl (decide (j = 8))])) = H2
    intro m2 e2
    refine ⟨_, rfl, _, rfl, C, .ref a.X_SyntaxFault, .ref a.X_SyntaxFault, decide (j = 9), rfl, (hD.mono (m2)).ok, ek.xc, rfl, (fun u r => r), ek.o9, _, rfl, C, .ref a.X_CheckFault, .ref a.X_CheckFault, decide (j = 10), rfl, (hD.mono (m2)).ok, ek.xc, rfl, (fun u r => r), ek.o10, _, rfl, C, .ref a.X_InvalidCode, .ref a.X_InvalidCode, decide (j = 11), rfl, (hD.mono (m2)).ok, ek.xc, rfl, (fun u r => r), ek.o11, (by show 3 ≤ sizeLine; decide), fun k3 hk3 => ?_⟩
    refine ⟨l2, k3, _, _, rfl, rfl, by rw [upd_ne (ne_of_none e2 hk3)]; exact e2, upd_same, (by show 12 ≤ sizeLine; decide), fun l3 hl3 => ?_⟩
    have m3 := (m2.trans (same_new (o := .lst [.bl (decide (j = 9)), .bl (decide (j = 10)), .bl (decide (j = 11))]) hk3)).trans (same_new (o := .lst ([.bl (decide (j = 0)), .bl (decide (j = 1)), .bl (decide (j = 2)), .bl (decide (j = 3)), .bl (decide (j = 4)), .bl (decide (j = 5)), .bl (decide (j = 6)), .bl (decide (j = 7)), .bl (decide (j = 8))] ++ [.bl (decide (j = 9)), .bl (decide (j = 10)), .bl (decide (j = 11))])) hl3)
    have e3 : (upd (upd H2 k3 (.lst [.bl (decide (j = 9)), .bl (decide (j = 10)), .bl (decide (j = 11))])) l3 (.lst ([.bl (decide (j = 0)), .bl (decide (j = 1)), .bl (decide (j = 2)), .bl (decide (j = 3)), .bl (decide (j = 4)), .bl (decide (j = 5)), .bl (decide (j = 6)), .bl (decide (j = 7)), .bl (decide (j = 8))] ++ [.bl (decide (j = 9)), .bl (decide (j = 10)), .bl (decide (j = 11))]))) l3 = some (.lst [.bl (decide (j = 0)), .bl (decide (j = 1)), .bl (decide (j = 2)), .bl (decide (j = 3)), .bl (decide (j = 4)), .bl (decide (j = 5)), .bl (decide (j = 6)), .bl (decide (j = 7)), .bl (decide (j = 8)), .bl (decide (j = 9)), .bl (decide (j = 10)), .bl (decide (j = 11))]) := upd_same
    revert m3 e3
    generalize upd (upd H2 k3 (.lst [.bl (decide (j = 9)), .bl (decide (j = 10)), .bl (decide (j = 11))])) l3 (.lst ([.bl (decide (j = 0)), .bl (decide (j = 1)), .bl (decide (j = 2)), .bl (decide (j = 3)), .bl (decide (j = 4)), .bl (decide (j = 5)), .bl (decide (j = 6)), .bl (decide (j = 7)), .bl (decide (j = 8))] ++ [.bl (decide (j = 9)), .bl (decide (j = 10)), .bl (decide (j = 11))])) = H3
    intro m3 e3
    refine ⟨_, rfl, _, rfl, C, .ref a.X_InvalidOperation, .ref a.X_InvalidOperation, decide (j = 12), rfl, (hD.mono (m3)).ok, ek.xc, rfl, (fun u r => r), ek.o12, (by show 1 ≤ sizeLine; decide), fun k4 hk4 => ?_⟩
    refine ⟨l3, k4, _, _, rfl, rfl, by rw [upd_ne (ne_of_none e3 hk4)]; exact e3, upd_same, (by show 13 ≤ sizeLine; decide), fun l4 hl4 => ?_⟩
    have m4 := (m3.trans (same_new (o := .lst [.bl (decide (j = 12))]) hk4)).trans (same_new (o := .lst ([.bl (decide (j = 0)), .bl (decide (j = 1)), .bl (decide (j = 2)), .bl (decide (j = 3)), .bl (decide (j = 4)), .bl (decide (j = 5)), .bl (decide (j = 6)), .bl (decide (j = 7)), .bl (decide (j = 8)), .bl (decide (j = 9)), .bl (decide (j = 10)), .bl (decide (j = 11))] ++ [.bl (decide (j = 12))])) hl4)
    have e4 : (upd (upd H3 k4 (.lst [.bl (decide (j = 12))])) l4 (.lst ([.bl (decide (j = 0)), .bl (decide (j = 1)), .bl (decide (j = 2)), .bl (decide (j = 3)), .bl (decide (j = 4)), .bl (decide (j = 5)), .bl (decide (j = 6)), .bl (decide (j = 7)), .bl (decide (j = 8)), .bl (decide (j = 9)), .bl (decide (j = 10)), .bl (decide (j = 11))] ++ [.bl (decide (j = 12))]))) l4 = some (.lst [.bl (decide (j = 0)), .bl (decide (j = 1)), .bl (decide (j = 2)), .bl (decide (j = 3)), .bl (decide (j = 4)), .bl (decide (j = 5)), .bl (decide (j = 6)), .bl (decide (j = 7)), .bl (decide (j = 8)), .bl (decide (j = 9)), .bl (decide (j = 10)), .bl (decide (j = 11)), .bl (decide (j = 12))]) := upd_same
    revert m4 e4
    generalize upd (upd H3 k4 (.lst [.bl (decide (j = 12))])) l4 (.lst ([.bl (decide (j = 0)), .bl (decide (j = 1)), .bl (decide (j = 2)), .bl (decide (j = 3)), .bl (decide (j = 4)), .bl (decide (j = 5)), .bl (decide (j = 6)), .bl (decide (j = 7)), .bl (decide (j = 8)), .bl (decide (j = 9)), .bl (decide (j = 10)), .bl (decide (j = 11))] ++ [.bl (decide (j = 12))])) = H4
    intro m4 e4
    refine ⟨_, rfl, .inl ⟨rfl, _, SqL.of e4⟩, l4, _, .bl true, rfl, rfl, SqL.of e4, rfl, rfl, rfl, _, rfl, ite_f (by match j, ek.lt with | 0, _ => rfl | 1, _ => rfl | 2, _ => rfl | 3, _ => rfl | 4, _ => rfl | 5, _ => rfl | 6, _ => rfl | 7, _ => rfl | 8, _ => rfl | 9, _ => rfl | 10, _ => rfl | 11, _ => rfl | 12, _ => rfl) ?_⟩
    refine ⟨_, rfl, C, .ty "ValueError", .type "ValueError", true, rfl, (hD.mono (m4)).ok, ek.xc, rfl, (fun u r => r), ek.xv, _, rfl, ite_f rfl ?_⟩
    refine ⟨(by show 9 ≤ sizeLine; decide), fun n0 hn0 => ?_⟩
    have m5 := m4.trans (same_new (o := .lst [.str "tick", .str "number", .str "long", .str "different", .str "contradiction", .str "full", .str "empty", .str "name", .str "unknown"]) hn0)
    have e5 : (upd H4 n0 (.lst [.str "tick", .str "number", .str "long", .str "different", .str "contradiction", .str "full", .str "empty", .str "name", .str "unknown"])) l4 = _ := (upd_ne (ne_of_none e4 hn0)).trans e4
    have f5 : (upd H4 n0 (.lst [.str "tick", .str "number", .str "long", .str "different", .str "contradiction", .str "full", .str "empty", .str "name", .str "unknown"])) n0 = some (.lst [.str "tick", .str "number", .str "long", .str "different", .str "contradiction", .str "full", .str "empty", .str "name", .str "unknown"]) := upd_same
    revert m5 e5 f5
    generalize upd H4 n0 (.lst [.str "tick", .str "number", .str "long", .str "different", .str "contradiction", .str "full", .str "empty", .str "name", .str "unknown"]) = H5
    intro m5 e5 f5
    refine ⟨_, rfl, (by show 4 ≤ sizeLine; decide), fun n1 hn1 => ?_⟩
    refine ⟨n0, n1, _, _, rfl, rfl, by rw [upd_ne (ne_of_none f5 hn1)]; exact f5, upd_same, (by show 13 ≤ sizeLine; decide), fun n2 hn2 => ?_⟩
    have m6 := (m5.trans (same_new (o := .lst [.str "syntax", .str "check", .str "code", .str "operation"]) hn1)).trans (same_new (o := .lst ([.str "tick", .str "number", .str "long", .str "different", .str "contradiction", .str "full", .str "empty", .str "name", .str "unknown"] ++ [.str "syntax", .str "check", .str "code", .str "operation"])) hn2)
    have g6 : (upd H5 n1 (.lst [.str "syntax", .str "check", .str "code", .str "operation"])) l4 = _ := (upd_ne (ne_of_none e5 hn1)).trans e5
    have e6 : (upd (upd H5 n1 (.lst [.str "syntax", .str "check", .str "code", .str "operation"])) n2 (.lst ([.str "tick", .str "number", .str "long", .str "different", .str "contradiction", .str "full", .str "empty", .str "name", .str "unknown"] ++ [.str "syntax", .str "check", .str "code", .str "operation"]))) l4 = _ := (upd_ne (ne_of_none g6 hn2)).trans g6
    have f6 : (upd (upd H5 n1 (.lst [.str "syntax", .str "check", .str "code", .str "operation"])) n2 (.lst ([.str "tick", .str "number", .str "long", .str "different", .str "contradiction", .str "full", .str "empty", .str "name", .str "unknown"] ++ [.str "syntax", .str "check", .str "code", .str "operation"]))) n2 = some (.lst [.str "tick", .str "number", .str "long", .str "different", .str "contradiction", .str "full", .str "empty", .str "name", .str "unknown", .str "syntax", .str "check", .str "code", .str "operation"]) := upd_same
    revert m6 e6 f6
    generalize upd (upd H5 n1 (.lst [.str "syntax", .str "check", .str "code", .str "operation"])) n2 (.lst ([.str "tick", .str "number", .str "long", .str "different", .str "contradiction", .str "full", .str "empty", .str "name", .str "unknown"] ++ [.str "syntax", .str "check", .str "code", .str "operation"])) = H6
    intro m6 e6 f6
    refine ⟨_, rfl, .inl ⟨rfl, _, SqL.of e6⟩, l4, _, .bl true, j, .bl true, rfl, rfl, SqL.of e6, rfl, rfl, idx_at ek.lt, rfl, (fun m z hm hz => idx_no ek.lt hm hz), n2, _, _, .str wd, rfl, rfl, SqL.of f6, at_of (j := j) rfl ek.nm, ?_⟩
    refine ⟨_, rfl, (by show 2 ≤ sizeLine; decide), fun n3 hn3 => ?_⟩
    have m7 := m6.trans (same_new (o := .lst [.str "syntax", .str "check"]) hn3)
    rcases id hD with ⟨ed, hj, rfl⟩ | ⟨dd, fs, pl, ed, hdd, hl, hj, rfl⟩ | ⟨dd, fs, l, c, ed, hdd, hl, hcl, hj, rfl⟩ | ⟨dd, fs, r, l, c, ed, hdd, hrs, hl, hcl, hj, rfl⟩
    · refine ⟨n3, _, rfl, .inl (SqL.of upd_same), rfl, rfl, _, rfl, ite_f (ek.n1.trans (decide_eq_false (by omega))) ?_⟩
      revert m7
      generalize upd H6 n3 (.lst [.str "syntax", .str "check"]) = H7
      intro m7
      refine ⟨_, rfl, _, rfl, (by show 2 ≤ sizeLine; decide), fun n4 hn4 => ?_⟩
      have m8 := m7.trans (same_new (o := .lst [.str "code", .str "operation"]) hn4)
      refine ⟨n4, _, rfl, .inl (SqL.of upd_same), rfl, rfl, _, rfl, ite_f (ek.n2.trans (decide_eq_false (by omega))) ?_⟩
      revert m8
      generalize upd H7 n4 (.lst [.str "code", .str "operation"]) = H8
      intro m8
      refine ⟨(by show 2 ≤ sizeLine; decide), fun tp htp => ?_⟩
      exact k _ tp (m8.trans (same_new htp)) (Same.free m8 htp) (.tup (SqT.of upd_same) (.cons (.str _) (.cons (.int _) .nil)))
    · refine ⟨n3, _, rfl, .inl (SqL.of upd_same), rfl, rfl, _, rfl, ite_f (ek.n1.trans (decide_eq_false (by omega))) ?_⟩
      revert m7
      generalize upd H6 n3 (.lst [.str "syntax", .str "check"]) = H7
      intro m7
      refine ⟨_, rfl, _, rfl, (by show 2 ≤ sizeLine; decide), fun n4 hn4 => ?_⟩
      have m8 := m7.trans (same_new (o := .lst [.str "code", .str "operation"]) hn4)
      refine ⟨n4, _, rfl, .inl (SqL.of upd_same), rfl, rfl, _, rfl, ite_t (ek.n2.trans (decide_eq_true hj)) ?_⟩
      revert m8
      generalize upd H7 n4 (.lst [.str "code", .str "operation"]) = H8
      intro m8
      refine ⟨_, rfl, rfl, C, rfl, ek.xf (by omega), ek.xp hj, dd, fs, .int pl, ed, m8 _ _ hdd, hl, (by show 2 ≤ sizeLine; decide), fun tp htp => ?_⟩
      exact k _ tp (m8.trans (same_new htp)) (Same.free m8 htp) (.tup (SqT.of upd_same) (.cons (.str _) (.cons (.int _) .nil)))
    · refine ⟨n3, _, rfl, .inl (SqL.of upd_same), rfl, rfl, _, rfl, ite_t (ek.n1.trans (decide_eq_true (.inl hj))) ?_⟩
      revert m7
      generalize upd H6 n3 (.lst [.str "syntax", .str "check"]) = H7
      intro m7
      obtain ⟨x1, x2⟩ := ek.xl (.inl hj)
      refine ⟨_, rfl, _, rfl, rfl, _, rfl, ite_t (ek.sx.trans (decide_eq_true hj)) ?_⟩
      refine ⟨_, rfl, rfl, C, rfl, ek.xf (by omega), x1, dd, fs, .int l, ed, m7 _ _ hdd, hl, _, rfl, rfl, C, rfl, ek.xf (by omega), x2, dd, fs, .int c, ed, m7 _ _ hdd, hcl, (by show 2 ≤ sizeLine; decide), fun tq htq => ⟨(by show 2 ≤ sizeLine; decide), fun tp htp => ?_⟩⟩
      have m8 := m7.trans (same_new (o := .tup [.int l, .int c]) htq)
      exact k _ tp (m8.trans (same_new htp)) (Same.free m8 htp) (.tup (SqT.of upd_same) (.cons (.str _) (.cons (.tup (Same.seqT (same_new htp) (SqT.of upd_same)) (.cons (.int _) (.cons (.int _) .nil))) .nil)))
    · refine ⟨n3, _, rfl, .inl (SqL.of upd_same), rfl, rfl, _, rfl, ite_t (ek.n1.trans (decide_eq_true (.inr hj))) ?_⟩
      revert m7
      generalize upd H6 n3 (.lst [.str "syntax", .str "check"]) = H7
      intro m7
      obtain ⟨x1, x2⟩ := ek.xl (.inr hj)
      refine ⟨_, rfl, _, rfl, rfl, _, rfl, ite_f (ek.sx.trans (decide_eq_false (by omega))) ?_⟩
      refine ⟨_, rfl, rfl, C, rfl, ek.xf (by omega), ek.xr hj, dd, fs, .str r, ed, m7 _ _ hdd, hrs, _, rfl, rfl, C, rfl, ek.xf (by omega), x1, dd, fs, .int l, ed, m7 _ _ hdd, hl, _, rfl, rfl, C, rfl, ek.xf (by omega), x2, dd, fs, .int c, ed, m7 _ _ hdd, hcl, (by show 3 ≤ sizeLine; decide), fun tq htq => ⟨(by show 2 ≤ sizeLine; decide), fun tp htp => ?_⟩⟩
      have m8 := m7.trans (same_new (o := .tup [.str r, .int l, .int c]) htq)
      exact k _ tp (m8.trans (same_new htp)) (Same.free m8 htp) (.tup (SqT.of upd_same) (.cons (.str _) (.cons (.tup (Same.seqT (same_new htp) (SqT.of upd_same)) (.cons (.str _) (.cons (.int _) (.cons (.int _) .nil)))) .nil)))
end
theorem errK_InvalidOperation {K : PySem.W.Frag} {mg : Str → Option Value} {a : Ad} (T : Txt K mg a) : ErrK K a a.X_InvalidOperation 12 "operation" := ⟨by decide, T.xc_InvalidOperation, T.xe_InvalidOperation, T.xv_InvalidOperation, T.xo_InvalidOperation_InvalidTick, T.xo_InvalidOperation_InvalidNumber, T.xo_InvalidOperation_TooLong, T.xo_InvalidOperation_DifferentShelves, T.xo_InvalidOperation_Contradiction, T.xo_InvalidOperation_CellFull, T.xo_InvalidOperation_CellEmpty, T.xo_InvalidOperation_InvalidName, T.xo_InvalidOperation_UnknownName, T.xo_InvalidOperation_SyntaxFault, T.xo_InvalidOperation_CheckFault, T.xo_InvalidOperation_InvalidCode, T.xo_InvalidOperation_InvalidOperation, rfl, by decide +kernel, by decide +kernel, by decide +kernel, fun _ => T.xf_InvalidOperation, fun _ => T.xn_place_InvalidOperation, fun h => absurd h (by decide), fun h => absurd h (by decide)⟩
theorem errK_SyntaxFault {K : PySem.W.Frag} {mg : Str → Option Value} {a : Ad} (T : Txt K mg a) : ErrK K a a.X_SyntaxFault 9 "syntax" := ⟨by decide, T.xc_SyntaxFault, T.xe_SyntaxFault, T.xv_SyntaxFault, T.xo_SyntaxFault_InvalidTick, T.xo_SyntaxFault_InvalidNumber, T.xo_SyntaxFault_TooLong, T.xo_SyntaxFault_DifferentShelves, T.xo_SyntaxFault_Contradiction, T.xo_SyntaxFault_CellFull, T.xo_SyntaxFault_CellEmpty, T.xo_SyntaxFault_InvalidName, T.xo_SyntaxFault_UnknownName, T.xo_SyntaxFault_SyntaxFault, T.xo_SyntaxFault_CheckFault, T.xo_SyntaxFault_InvalidCode, T.xo_SyntaxFault_InvalidOperation, rfl, by decide +kernel, by decide +kernel, by decide +kernel, fun _ => T.xf_SyntaxFault, fun h => absurd h (by decide), fun _ => ⟨T.xn_line_SyntaxFault, T.xn_column_SyntaxFault⟩, fun h => absurd h (by decide)⟩
/-! ### _law_error_of of a lambda that was made before -/
structure spErrL (P : Program) (w : World) (K : PySem.W.Frag) (mg : Str → Option Value) (base : Heap) (a : Ad) (kk : Nat) (vs : List V) (H : Hp) (Q : VK) (E : XK) : Prop where
  ex : ∃ (f c' : Addr) (q : Str) (D : Hp → Prop) (R : Hp → XK → VK → Prop), vs = [.ref f] ∧ LamE P w K mg base kk f c' q D R ∧ D H ∧ R H (ErrOut K a fun _ _ => Q) fun _ H' => Q .non H'
section
variable {P : Program} {w : World} {K : PySem.W.Frag} {mg : Str → Option Value} {base : Heap} {a : Ad}
theorem ok_l_error_ofL (T : Txt K mg a) (kk : Nat) : FnOk P w K mg base CX0 (kk + 1) a.f_l_error_of a.d_l_error_of ["_law_call"] (spErrL P w K mg base a kk) := by
  refine T.F_l_error_of.ok sc_l_error_of (fun vs H Q E h => ?_) (fun cdv A outer s H vs Q E hr h => ?_)
  · obtain ⟨⟨f, c', q, D, R, rfl, _⟩⟩ := h
    rfl
  · obtain ⟨⟨f, c', q, D, R, rfl, L, hD, hR⟩⟩ := h
    let X0 : Cx := { cxOf CX0 P w K mg base [] "" (defScope s_l_error_of) a.f_l_error_of cdv A outer s H C8.E0 with A := A, stack := outer }
    have g := err_gives (X := X0) T (cdg := cdv) (q := q) f c' s H Q (fun E1 H1 Q1 => D H1 ∧ R H1 E1 Q1) (fun W pn xe E1 p1 p2 tk => ⟨fun pins s2 σ2 H2 Q2 I2 ⟨h1, _, h3, h4, h5⟩ => (pe_callE (X := (cxOf C8.CX0 P w K mg base ["_law_call", "e", "_law_kinds", "_law_names", "_law_name"] "_law_error_of" (defScope s_l_error_of) a.f_l_error_of cdv A outer s H C8.E0).tr pn xe) (i := 0) L hr rfl (by first | exact Or.inl rfl | exact Or.inr (Or.inl rfl) | exact Or.inr (Or.inr rfl)) tk).run pins s2 σ2 H2 Q2 I2 ⟨h1, h4, E1, h3, h5⟩⟩) (L.cd H hD) ⟨hD, hR⟩
    exact g
/-! ### _law_all_raise of such lambdas: J what holds ahead of each -/
structure spAllR (P : Program) (w : World) (K : PySem.W.Frag) (mg : Str → Option Value) (base : Heap) (a : Ad) (kk : Nat) (vs : List V) (H : Hp) (Q : VK) (E : XK) : Prop where
  ex : ∃ (l : Addr) (ev : V) (fs : List Addr) (wd : Str) (De : PyData), vs = [.ref l, ev] ∧ SqL K H l (fs.map V.ref) ∧ SeqAt.shaped (.tuple [.str wd, De]) = true ∧ PyData.canLay0 (.tuple [.str wd, De]) = true ∧ fs.length ≤ 1000 ∧ ∀ D0, H D0 = none → ∃ J : Nat → Hp → Prop, J 0 (upd H D0 (.lst [])) ∧ (∀ i H1 H2, J i H1 → Same H1 H2 → J i H2) ∧
    (∀ i H1, J i H1 → SqL K H1 l (fs.map V.ref) ∧ Dp K H1 ev (.tuple [.str wd, De]) ∧ H1 D0 = some (.lst [])) ∧
    (∀ i f H1, fs[i]? = some f → J i H1 → ∃ (c' : Addr) (q : Str) (D : Hp → Prop) (R : Hp → XK → VK → Prop), LamE P w K mg base kk f c' q D R ∧ D H1 ∧ ∀ (E : XK) (Q1 : VK), (∀ C j d H2, DAt d H2 j De → ErrK K a C j wd → J (i + 1) H2 → E (.ref C) d H2) → R H1 E Q1) ∧
    ∀ H', J fs.length H' → ∀ H'', Same H' H'' → Q (.bl true) H''
theorem ok_l_all_raise (T : Txt K mg a) (kk : Nat) : FnOk P w K mg base CX0 (kk + 2) a.f_l_all_raise a.d_l_all_raise ["_law_calls", "_law_expected"] (spAllR P w K mg base a kk) := by
  refine T.F_l_all_raise.ok sc_l_all_raise (fun vs H Q E h => ?_) (fun cdv A outer s H vs Q E hr h => ?_)
  · obtain ⟨⟨l, ev, fs, wd, De, rfl, _⟩⟩ := h
    rfl
  · obtain ⟨⟨l, ev, fs, wd, De, rfl, hl, hsh, hly, hlen, hJ⟩⟩ := h
    refine ⟨_, (pss_one (ps_ret (pe_cmpR (op_eqD hr.units) (pe_lc (own := [("_law_call", 2)]) (g := gName 2) (tt := (tTest (tOp (rNeD K) (tCall (spErrL P w K mg base a kk) [] E0 (tCons (tVar 2) tNil)) (tVar 1)))) rfl sc_l_all_raise.nd (pi_list (pv 0)) (blkOk_by (own := [("_law_call", 2)]) (N := ["_law_calls", "_law_expected", "_law_call"]) (sc := (defScope s_l_all_raise)) (by decide +kernel)) (fun _ _ _ _ _ => (pg_name (i := 2) sc_l_all_raise.nd rfl (Or.inl rfl))) (fun _ _ _ _ _ => by exact pts_one (pt_cmpR (op_neD hr.units) (pe_call (ok_l_error_ofL (P := P) (w := w) (base := base) T kk) (hr.mono (by omega)) rfl T.m_l_error_of T.F_l_error_of.kp (b_l_error_of T) .nil pass0 (pa_cons (pv 2) pa_nil)) (pv 1) (nomark _))) (fun _ _ _ _ _ => by exact (pv 2))) (pe_lst pa_nil) (nomark _)))), ?_⟩
    refine ⟨_, rfl, l, rfl, ⟨_, hl⟩, fun D hD => ?_⟩
    obtain ⟨J, j0, jm, jf, jc, jd⟩ := hJ D hD
    refine lc_list (K := K) (a := l) (xs := fs.map V.ref) J j0 (fun i H1 _ q => (jf i H1 q).1) ?_ ?_
    · rintro i z H5 hz hp
      obtain ⟨f, hf, rfl⟩ : ∃ f, fs[i]? = some f ∧ z = .ref f := by
        rw [List.getElem?_map] at hz
        cases e : fs[i]? with
        | none => rw [e] at hz; cases hz
        | some f => rw [e] at hz; cases hz; exact ⟨f, rfl, rfl⟩
      obtain ⟨c', q, DD, R, L, d1, hR⟩ := jc i f H5 hf hp
      refine ⟨rfl, _, rfl, ⟨⟨f, c', q, DD, R, rfl, L, d1, hR _ _ fun C j d H2 hd hk hj => ⟨C, j, wd, De, rfl, hd, hk, fun H3 p sm hp3 dp => ?_⟩⟩⟩⟩
      have j3 := jm _ _ _ hj sm
      refine ⟨_, rfl, _, _, dp, (jf _ _ j3).2.1, hsh, hsh, ?_⟩
      rw [SeqAt.eqv_refl _ hly]
      exact ⟨_, rfl, j3⟩
    · intro H1 hp
      refine ⟨Nat.zero_le _, fun D2 hD2 => ?_⟩
      have s2 : Same H1 (upd H1 D2 (.lst [])) := same_new hD2
      exact ⟨.list [], .list [], .lst (SqL.of (s2 _ _ (jf _ _ hp).2.2)) .nil, .lst (SqL.of upd_same) .nil, rfl, rfl, jd _ (by rw [List.length_map] at hp; exact hp) _ s2⟩
end
end Sb

namespace Sb

open PySem PySem.Spec PyProof.Rows L2 TL
/-! ### d.get(k, x) of a written dict, the key there or not -/
def tKGetO (K : PySem.W.Frag) (w : World) (td ty tx : TE) : TE := fun σ H Q => td σ H fun x H1 => ∃ a, x = .ref a ∧ IsKD K a ∧ ty σ H1 fun y H2 => tx σ H2 fun d H3 => ∃ z, y = .str z ∧ ((∃ v, KDct K w a z v ∧ Q v H3) ∨ ((∃ z0 v0, KDct K w a z0 v0) ∧ PySem.W.nsIn K a z = some none ∧ Q d H3))
section
variable {X : Cx} {o e f : Expr} {apos cpos : Pos} {td ty tx : TE}
theorem pe_kget2O (ho : PE X o td) (he : PE X e ty) (hf : PE X f tx) (m : M2 X o "get" apos e f cpos) : PE X (.Call (.Attribute o "get" apos) [e, f] [] cpos) (tKGetO X.K X.w td ty tx) := by
  refine ⟨fun pins s σ H Q I h => ?_⟩
  refine wpAny_Call_method m.base m.few m.line PySem.F.plainAttrs_dict PySem.F.slot_dict_get PySem.F.type_dict_get (thn (ho.run pins s σ H _ I h) fun u s1 ⟨x, H1, I1, rx, a, ex, ⟨d1, es, n, d2⟩, q1⟩ => ?_)
  subst ex
  obtain rfl : u = Value.ref a := rx
  have hx := I1.kIn _ _ d2
  refine ⟨⟨_, hx, rfl⟩, fun b q => ?_, ?_⟩
  · cases q
    exact ⟨_, hx, rfl⟩
  rw [m.trees]
  refine Calls.callWith_builtin rfl (Calls.evalArgs_plain (Calls.spliced_cons (thn (he.run pins s1 σ H1 _ I1 q1) fun iv s2 ⟨y, H2, I2, ry, q2⟩ =>
    Calls.spliced_cons (thn (hf.run pins s2 σ H2 _ I2 q2) fun fv s3 ⟨z, H3, I3, rz, k, ek, q3⟩ => Calls.spliced_nil ?_))))
  subst ek
  obtain ⟨t, rfl⟩ := ry
  rcases q3 with ⟨r, ⟨es', n', u0, hl, hk, en, ru⟩, q3⟩ | ⟨⟨z0, v0, es', n', u0, hl, hk, _, _⟩, en, q3⟩
  · have hm := PySem.W.mapOf_K (prog := X.prog) (w := X.w) I3.kIn hl hk
    refine call_meetsIn PySem.F.slot_dict_get hm.typeIs PySem.F.entry_dict_get (PySem.F.args_dict_get_3 _ _ _) (meets_dict_get_default (strKind X.prog X.w) a (strKind_is X.prog X.w k t) d1 fv) ⟨_, hm, ?_⟩
    rw [PySem.W.find_K hl en]
    exact ⟨r, H3, I3.tok _, ru, q3⟩
  · have hm := PySem.W.mapOf_K (prog := X.prog) (w := X.w) I3.kIn hl hk
    refine call_meetsIn PySem.F.slot_dict_get hm.typeIs PySem.F.entry_dict_get (PySem.F.args_dict_get_3 _ _ _) (meets_dict_get_default (strKind X.prog X.w) a (strKind_is X.prog X.w k t) d1 fv) ⟨_, hm, ?_⟩
    rw [PySem.W.find_K hl en]
    exact ⟨z, H3, I3.tok _, rz, q3⟩
end
/-! ### values that are no operations -/
inductive BadOp : PyData → Prop
  | non : BadOp .none
  | str (z : Str) : BadOp (.str z)
  | int (n : Int) : BadOp (.int n)
  | list (ds : List PyData) : BadOp (.list ds)
  | nil : BadOp (.tuple [])
  | head (n : Int) (ds : List PyData) (sh : SeqAt.shaped (.tuple (.int n :: ds)) = true) : BadOp (.tuple (.int n :: ds))
  | len (z : Str) (ds : List PyData) (m : Nat) (sh : SeqAt.shaped (.tuple (.str z :: ds)) = true) (h : opLen z m) (n : m ≠ ds.length + 1) : BadOp (.tuple (.str z :: ds))
  | save (ds : List PyData) (sh : SeqAt.shaped (.tuple (.str (Str.ofString "save") :: ds)) = true) : BadOp (.tuple (.str (Str.ofString "save") :: ds))
structure spBadOp (K : PySem.W.Frag) (vs : List V) (H : Hp) (Q : VK) (E : XK) : Prop where
  ex : ∃ (v : V) (D : PyData), vs = [v] ∧ Dp K H v D ∧ BadOp D ∧ ∀ H', Same H H' → Q (.bl false) H'
structure spIoI (C : Addr) (vs : List V) (H : Hp) (Q : VK) (E : XK) : Prop where
  ex : ∃ (x : Addr) (v : V), vs = [.ref x, v] ∧ H x = some (exo x C none) ∧ ∀ dx, H dx = none → dx ≠ x → Q .non (upd (upd H dx (exd dx [("place", v)])) x (exo x C (some dx)))
section
variable {P : Program} {w : World} {K : PySem.W.Frag} {mg : Str → Option Value} {base : Heap} {a : Ad}
theorem ok_is_operationB (T : Txt K mg a) (TD : TDic w K a) : FnOk P w K mg base CX0 1 a.f_is_operation a.d_is_operation ["value"] (spBadOp K) := by
  refine T.F_is_operation.ok sc_is_operation (fun vs H Q E h => ?_) (fun cdv A outer s0 H vs Q E hr h => ?_)
  · obtain ⟨⟨v, D, rfl, _⟩⟩ := h
    rfl
  · obtain ⟨⟨v, D, rfl, hD, hb, k⟩⟩ := h
    refine ⟨_, (pss_cons (ps_if (PW.pt (pw_or (pt_not (pt_val (pe_callB call_isi (by rfl) T.z_isinstance (by decide +kernel) (pa_cons (pv 0) (pa_cons (pe_bltn (v := .ty "tuple") (by rfl) T.z_tuple (by decide +kernel) rfl) pa_nil))))) (pw_or (pt_cmpR (op_eqD hr.units) (pv 0) (pe_tup pa_nil) (nomark _)) (pw_or1 (pt_not (pt_val (pe_callB call_isi (by rfl) T.z_isinstance (by decide +kernel) (pa_cons (pe_ix ix_tup (pv 0) pe_int (fun _ _ => rfl)) (pa_cons (pe_bltn (v := .ty "str") (by rfl) T.z_str (by decide +kernel) rfl) pa_nil))))))))) (pss_one (ps_ret pe_bl)) pss_nil)
      (pss_one (ps_ret (pe_cmpR op_eq (pe_kget2O (pe_glob (v := V.ref a.A_LENGTHS) rfl T.c_LENGTHS rfl) (pe_ix ix_tup (pv 0) pe_int (fun _ _ => rfl)) pe_int ⟨rfl, rfl, rfl, rfl⟩) (pe_callB call_len_seq (by rfl) T.z_len (by decide +kernel) (pa_cons (pv 0) pa_nil)) (nomark _))))), ?_⟩
    have tup : ∀ {r : Addr} {xs : List V}, SqT K H r xs → TyX K H (.ref r) (.type "tuple") := fun h => SqT.ty h
    have fin : ∀ {σ : L2.St} {H' : Hp}, Same H H' → Q (.bl false) H' := fun h => k _ h
    cases hb with
    | non =>
      cases Dp.none_inv hD
      refine ⟨_, rfl, _, _, _, _, false, rfl, .ty _, .base .non, kf (by decide +kernel), _, rfl, ite_t rfl ?_⟩
      exact k _ (Same.refl _)
    | str z =>
      cases Dp.str_inv hD
      refine ⟨_, rfl, _, _, _, _, false, rfl, .ty _, .base (.str _), kf (by decide +kernel), _, rfl, ite_t rfl ?_⟩
      exact k _ (Same.refl _)
    | int z =>
      cases Dp.int_inv hD
      refine ⟨_, rfl, _, _, _, _, false, rfl, .ty _, .base (.int _), kf (by decide +kernel), _, rfl, ite_t rfl ?_⟩
      exact k _ (Same.refl _)
    | list ds =>
      obtain ⟨r, xs, rfl, h1, _⟩ := Dp.lst_inv hD
      refine ⟨_, rfl, _, _, _, _, false, rfl, .ty _, SqL.ty h1, kf (by decide +kernel), _, rfl, ite_t rfl ?_⟩
      exact k _ (Same.refl _)
    | nil =>
      obtain ⟨r, xs, rfl, hr1, _⟩ := Dp.tup_inv hD
      refine ⟨_, rfl, _, _, _, _, true, rfl, .ty _, SqT.ty hr1, kf (by decide +kernel), _, rfl, ite_f rfl ?_⟩
      refine ⟨_, rfl, Nat.zero_le _, fun t ht => ?_⟩
      have s1 : Same H (upd H t (.tup [])) := same_new ht
      refine ⟨.tuple [], .tuple [], Dp.mono s1 _ _ hD, .tup (SqT.of upd_same) .nil, rfl, rfl, _, rfl, ite_t rfl ?_⟩
      exact k _ s1
    | head n ds sh =>
      obtain ⟨r, xs, rfl, hr1, hxs⟩ := Dp.tup_inv hD
      obtain ⟨v0, r1, rfl, h0, hxs'⟩ := DpAll.cons_inv hxs
      cases Dp.int_inv h0
      refine ⟨_, rfl, _, _, _, _, true, rfl, .ty _, SqT.ty hr1, kf (by decide +kernel), _, rfl, ite_f rfl ?_⟩
      refine ⟨_, rfl, Nat.zero_le _, fun t ht => ?_⟩
      have s1 : Same H (upd H t (.tup [])) := same_new ht
      refine ⟨.tuple (.int n :: ds), .tuple [], Dp.mono s1 _ _ hD, .tup (SqT.of upd_same) .nil, sh, rfl, _, rfl, ite_f rfl ?_⟩
      refine ⟨_, rfl, r, _, _, .int n, rfl, rfl, Same.seqT s1 hr1, at_of (j := 0) rfl rfl, _, _, _, _, false, rfl, .ty _, .base (.int _), kf (by decide +kernel), _, rfl, ite_t rfl ?_⟩
      exact k _ s1
    | len z ds m sh hm hne =>
      obtain ⟨r, xs, rfl, hr1, hxs⟩ := Dp.tup_inv hD
      obtain ⟨v0, r1, rfl, h0, hxs'⟩ := DpAll.cons_inv hxs
      cases Dp.str_inv h0
      have hl := DpAll.len hxs'
      refine ⟨_, rfl, _, _, _, _, true, rfl, .ty _, SqT.ty hr1, kf (by decide +kernel), _, rfl, ite_f rfl ?_⟩
      refine ⟨_, rfl, Nat.zero_le _, fun t ht => ?_⟩
      have s1 : Same H (upd H t (.tup [])) := same_new ht
      refine ⟨.tuple (.str z :: ds), .tuple [], Dp.mono s1 _ _ hD, .tup (SqT.of upd_same) .nil, sh, rfl, _, rfl, ite_f rfl ?_⟩
      refine ⟨_, rfl, r, _, _, .str z, rfl, rfl, Same.seqT s1 hr1, at_of (j := 0) rfl rfl, _, _, _, _, true, rfl, .ty _, .base (.str _), kf (by decide +kernel), _, rfl, ite_f rfl ?_⟩
      refine ⟨a.A_LENGTHS, rfl, KDct.kd (TD.get hm) TD.ds_LENGTHS, _, rfl, r, _, _, .str z, rfl, rfl, Same.seqT s1 hr1, at_of (j := 0) rfl rfl, z, rfl, .inl ⟨_, TD.get hm, _, rfl, r, _, rfl, .inr (Same.seqT s1 hr1), rfl, ?_⟩⟩
      rw [List.length_cons, hl, decide_eq_false (fun z => hne (by injection z with z; omega))]
      exact k _ s1
    | save ds sh =>
      obtain ⟨r, xs, rfl, hr1, hxs⟩ := Dp.tup_inv hD
      obtain ⟨v0, r1, rfl, h0, hxs'⟩ := DpAll.cons_inv hxs
      cases Dp.str_inv h0
      refine ⟨_, rfl, _, _, _, _, true, rfl, .ty _, SqT.ty hr1, kf (by decide +kernel), _, rfl, ite_f rfl ?_⟩
      refine ⟨_, rfl, Nat.zero_le _, fun t ht => ?_⟩
      have s1 : Same H (upd H t (.tup [])) := same_new ht
      refine ⟨.tuple (.str _ :: ds), .tuple [], Dp.mono s1 _ _ hD, .tup (SqT.of upd_same) .nil, sh, rfl, _, rfl, ite_f rfl ?_⟩
      refine ⟨_, rfl, r, _, _, .str _, rfl, rfl, Same.seqT s1 hr1, at_of (j := 0) rfl rfl, _, _, _, _, true, rfl, .ty _, .base (.str _), kf (by decide +kernel), _, rfl, ite_f rfl ?_⟩
      refine ⟨a.A_LENGTHS, rfl, KDct.kd TD.dk_LENGTHS_step TD.ds_LENGTHS, _, rfl, r, _, _, .str _, rfl, rfl, Same.seqT s1 hr1, at_of (j := 0) rfl rfl, _, rfl, .inr ⟨⟨_, _, TD.dk_LENGTHS_step⟩, TD.dm_LENGTHS_save, _, rfl, r, _, rfl, .inr (Same.seqT s1 hr1), rfl, ?_⟩⟩
      rw [List.length_cons, decide_eq_false (fun z => by injection z with z; omega)]
      exact k _ s1
theorem ok_InvalidOperation_init (T : Txt K mg a) : FnOk P w K mg base CX0 1 a.f_InvalidOperation_init a.d_InvalidOperation_init ["self", "place"] (spIoI a.X_InvalidOperation) := by
  refine T.F_InvalidOperation_init.ok sc_InvalidOperation_init (fun vs H Q E h => ?_) (fun cdv A outer s H vs Q E hr h => ?_)
  · obtain ⟨⟨x, v, rfl, _⟩⟩ := h
    rfl
  · obtain ⟨⟨x, v, rfl, hx, k⟩⟩ := h
    refine ⟨_, (pss_cons (ps_expr (pe_clinit (pe_glob (v := V.ref a.X_BotError) rfl T.e_BotError rfl) T.xd_InvalidOperation T.xw_InvalidOperation (pa_cons (pv 0) (pa_cons (pv 1) pa_nil)))) (pss_one (ps_ost (pv 0) (pv 1)))), ?_⟩
    refine ⟨rfl, _, rfl, _, rfl, x, a.X_InvalidOperation, [v], rfl, by simp, T.xq_InvalidOperation, hx, _, rfl, _, rfl, x, a.X_InvalidOperation, rfl, T.xq_InvalidOperation, T.xn_place_InvalidOperation, .inl ⟨hx, fun dx nd ne => k dx nd ne⟩⟩
end
end Sb

namespace Sb

open PySem PySem.Spec PyProof.Rows L2 TL
/-! ### Stage.batch and Stage.replay of what is malformed -/
inductive NotL : PyData → Prop
  | non : NotL .none
  | str (z : Str) : NotL (.str z)
  | int (n : Int) : NotL (.int n)
  | tup (ds : List PyData) : NotL (.tuple ds)
inductive Mal : PyData → List Op → Prop
  | no {D : PyData} (h : NotL D) : Mal D []
  | at (ops : List Op) {bad : PyData} (rest : List PyData) (h : BadOp bad) : Mal (.list (ops.map opD ++ bad :: rest)) ops
structure spBatchM (a : Ad) (K : PySem.W.Frag) (vs : List V) (H : Hp) (Q : VK) (E : XK) : Prop where
  ex : ∃ (y : Addr) (G : Hp) (v : V) (D : PyData) (ops : List Op), vs = [.ref y, v] ∧ Same G H ∧ Dp K G v D ∧ Mal D ops ∧
    ∀ (H1 : Hp) (d : Addr), Same H H1 → H1 d = some (.xd [("place", .int (ops.length : Nat))]) → E (.ref a.X_InvalidOperation) (some d) H1
structure spReplayM (a : Ad) (K : PySem.W.Frag) (vs : List V) (H : Hp) (Q : VK) (E : XK) : Prop where
  ex : ∃ (G : Hp) (src : Str) (x : Pl) (v : V) (D : PyData) (ops : List Op), vs = [.ref a.C_Stage, .str src, v] ∧ Same G H ∧ Loads src x ∧ x.Ok ∧ Dp K G v D ∧ Mal D ops ∧ ops.length ≤ 1000 ∧ goodS x (st0 x) ops ∧
    ∀ (H1 : Hp) (d : Addr), Same H H1 → H1 d = some (.xd [("place", .int (ops.length : Nat))]) → E (.ref a.X_InvalidOperation) (some d) H1
theorem NotL.ty {K : PySem.W.Frag} {G : Hp} {v : V} {D : PyData} (h : NotL D) (hD : Dp K G v D) : ∃ t, TyX K G v t ∧ PySem.W.kitOne K t (.type "list") = some false := by
  cases h with
  | non => cases Dp.none_inv hD; exact ⟨_, .base .non, kf (by decide +kernel)⟩
  | str z => cases Dp.str_inv hD; exact ⟨_, .base (.str _), kf (by decide +kernel)⟩
  | int z => cases Dp.int_inv hD; exact ⟨_, .base (.int _), kf (by decide +kernel)⟩
  | tup ds => obtain ⟨r, xs, rfl, h1, _⟩ := Dp.tup_inv hD; exact ⟨_, SqT.ty h1, kf (by decide +kernel)⟩
theorem mal_at {K : PySem.W.Frag} {G : Hp} {xs : List V} {ops : List Op} {bad : PyData} {rest : List PyData} {j : Nat} {z : V} (h : DpAll K G xs (ops.map opD ++ bad :: rest)) (hz : xs[j]? = some z) : (j < ops.length → ∃ o, ops[j]? = some o ∧ Dp K G z (opD o)) ∧ (j = ops.length → Dp K G z bad) := by
  obtain ⟨d, hd, hv⟩ := DpAll.get h hz
  refine ⟨fun hj => ?_, fun hj => ?_⟩
  · rw [List.getElem?_append_left (by rw [List.length_map]; exact hj), List.getElem?_map] at hd
    cases e : ops[j]? with
    | none => rw [e] at hd; cases hd
    | some o => rw [e] at hd; cases hd; exact ⟨o, rfl, hv⟩
  · subst hj
    rw [List.getElem?_append_right (by rw [List.length_map]; exact Nat.le_refl _), List.length_map, Nat.sub_self] at hd
    cases hd
    exact hv
theorem io_same {H : Hp} {e dx : Addr} {o1 o2 o3 o4 : HO} (ne : H e = none) (nd : (upd H e o1) dx = none) (nde : dx ≠ e) : Same H (upd (del (upd (upd (upd H e o1) dx o2) e o3) e) dx o4) := fun b o eb => by
  have ndx : H dx = none := (upd_ne nde).symm.trans nd
  have nb : b ≠ dx := fun q => by rw [q, ndx] at eb; cases eb
  have ne2 : b ≠ e := fun q => by rw [q, ne] at eb; cases eb
  rw [upd_ne nb, del_ne ne2, upd_ne ne2, upd_ne nb, upd_ne ne2]
  exact eb
section
variable {P : Program} {w : World} {K : PySem.W.Frag} {mg : Str → Option Value} {base : Heap} {a : Ad}
theorem ok_Stage_batchM (T : Txt K mg a) (TD : TDic w K a) : FnOk P w K mg base (L2.CX P w) 9 a.f_Stage_batch a.d_Stage_batch ["self", "operations"] (spBatchM a K) := by
  refine T.F_Stage_batch.okX sc_Stage_batch (fun vs H Q E h => ?_) (fun cdv A outer s0 H vs Q E hr h => ?_)
  · obtain ⟨⟨y, G, v, D, ops, rfl, _⟩⟩ := h
    rfl
  · obtain ⟨⟨y, G, v, D, ops, rfl, hGH, hD, hM, k⟩⟩ := h
    refine ⟨_, (pss_cons (ps_if (pt_not (pt_val (pe_callB call_isi (by rfl) T.z_isinstance (by decide +kernel) (pa_cons (pv 1) (pa_cons (pe_bltn (v := .ty "list") (by rfl) T.z_list (by decide +kernel) rfl) pa_nil))))) (pss_one (ps_raise rfl (takes_of rfl rfl rfl rfl) (pmk_oex T.xq_InvalidOperation T.xi_InvalidOperation T.xj_InvalidOperation (ok_InvalidOperation_init T) (hr.mono (by decide)) (b_InvalidOperation_init T) .nil pass0 (by rfl) T.e_InvalidOperation (pa_cons pe_int pa_nil)))) pss_nil)
      (pss_cons (ps_for PassesOwn.leaving rfl (pi_enum (by rfl) T.z_enumerate (pa_cons (pv 1) pa_nil)) (pg_tup (by rfl) (pgs_cons (pg_name (i := 2) sc_Stage_batch.nd rfl (Or.inl rfl)) (pgs_cons (pg_name (i := 3) sc_Stage_batch.nd rfl (Or.inl rfl)) pgs_nil))) (pss_one (ps_if (pt_not (pt_val (pe_call (fnOk_or (ok_is_operation T TD) (ok_is_operationB T TD)) (hr.mono (by decide)) rfl T.m_is_operation T.F_is_operation.kp (b_is_operation T) .nil pass0 (pa_cons (pv 3) pa_nil)))) (pss_one (ps_raise rfl (takes_of rfl rfl rfl rfl) (pmk_oex T.xq_InvalidOperation T.xi_InvalidOperation T.xj_InvalidOperation (ok_InvalidOperation_init T) (hr.mono (by decide)) (b_InvalidOperation_init T) .nil pass0 (by rfl) T.e_InvalidOperation (pa_cons (pv 2) pa_nil)))) pss_nil))) pss_never)), ?_⟩
    cases hM with
    | no hn =>
      obtain ⟨t, ty, kt⟩ := hn.ty (Dp.mono hGH _ _ hD)
      refine ⟨_, rfl, _, _, _, _, false, rfl, .ty _, ty, kt, _, rfl, ite_t rfl ?_⟩
      refine ⟨by simp, fun e ne => ⟨⟨e, .int 0, rfl, upd_same, fun dx nd2 nde => ⟨rfl, dx, [("place", .int 0)], upd_same, (upd_ne nde).trans upd_same, ?_, ?_⟩⟩⟩⟩
      · exact (upd_ne nde).symm.trans nd2
      · exact k _ dx (io_same ne nd2 nde) upd_same
    | «at» _ rest hb =>
      obtain ⟨l, xs, rfl, hl, hxs⟩ := Dp.lst_inv hD
      refine ⟨_, rfl, _, _, _, _, true, rfl, .ty _, SqL.ty (hGH.seq hl), kf (by decide +kernel), _, rfl, ite_f rfl ?_⟩
      refine ⟨_, rfl, l, _, rfl, hGH.seq hl, for_enumL (K := K) (a := l) (xs := xs) (fun j σ H' => j ≤ ops.length ∧ ∃ (v2 v3 : Option V), σ = [some (.ref y), some (.ref l), v2, v3, none] ∧ Pt G H G H') ⟨Nat.zero_le _, none, none, rfl, Pt.start hGH⟩ (fun j σ H' ⟨_, _, _, _, B⟩ => B.s.seq hl) ?_ ?_⟩
      · rintro j z t σ H1 hz ⟨hj, v2, v3, rfl, B1⟩ ht
        obtain ⟨q1, q2⟩ := mal_at hxs hz
        have B2 : Pt G H G (upd H1 t (.tup [.int (j : Nat), z])) := ⟨B1.ext.lay ht, B1.sm.trans (same_new ht)⟩
        rcases Nat.lt_or_eq_of_le hj with hlt | rfl
        · obtain ⟨o, ho, hzD⟩ := q1 hlt
          exact ⟨t, _, rfl, SqT.of upd_same, rfl, _, _, rfl, _, _, rfl, rfl, _, rfl, .inl (isop_go hzD B2.s fun H3 s3 => ⟨_, rfl, ite_f rfl ⟨hlt, _, _, rfl, B2.ext.trans (Ext.ofSame B2.s s3), B2.sm.trans s3⟩⟩)⟩
        · refine ⟨t, _, rfl, SqT.of upd_same, rfl, _, _, rfl, _, _, rfl, rfl, _, rfl, .inr ⟨⟨z, _, rfl, Dp.mono B2.s _ _ (q2 rfl), hb, fun H3 s3 => ⟨_, rfl, ite_t rfl ?_⟩⟩⟩⟩
          exact ⟨_, rfl, by simp, fun e ne => ⟨⟨e, .int (ops.length : Nat), rfl, upd_same, fun dx nd2 nde => ⟨rfl, dx, [("place", .int (ops.length : Nat))], upd_same, (upd_ne nde).trans upd_same, (upd_ne nde).symm.trans nd2, k _ dx ((B2.sm.trans s3).trans (io_same ne nd2 nde)) upd_same⟩⟩⟩⟩
      · rintro σ H1 ⟨hj, _⟩
        have := DpAll.len hxs
        rw [List.length_append, List.length_map, List.length_cons] at this
        omega
theorem ok_Stage_replayM (T : Txt K mg a) (TD : TDic w K a) : FnOk P w K mg base (L2.CX P w) 12 a.f_Stage_replay a.d_Stage_replay ["cls", "plan", "operations"] (spReplayM a K) := by
  refine T.F_Stage_replay.okX sc_Stage_replay (fun vs H Q E h => ?_) (fun cdv A outer s0 H vs Q E hr h => ?_)
  · obtain ⟨⟨G, src, x, v, D, ops, rfl, _⟩⟩ := h
    rfl
  · obtain ⟨⟨G, src, x, v, D, ops, rfl, hGH, hld, hx, hD, hM, hlen, hgood, k⟩⟩ := h
    refine ⟨_, (pss_cons (ps_set (i := 3) sc_Stage_replay.nd rfl (Or.inl rfl) (pe_makeL (i := 0) T.mk_Stage (ok_Stage_init T) (hr.mono (by decide)) (b_Stage_init T) .nil pass0 (pa_cons (pv 1) pa_nil)))
      (pss_cons (ps_if (pt_not (pt_val (pe_callB call_isi (by rfl) T.z_isinstance (by decide +kernel) (pa_cons (pv 2) (pa_cons (pe_bltn (v := .ty "list") (by rfl) T.z_list (by decide +kernel) rfl) pa_nil))))) (pss_one (ps_raise rfl (takes_of rfl rfl rfl rfl) (pmk_oex T.xq_InvalidOperation T.xi_InvalidOperation T.xj_InvalidOperation (ok_InvalidOperation_init T) (hr.mono (by decide)) (b_InvalidOperation_init T) .nil pass0 (by rfl) T.e_InvalidOperation (pa_cons pe_int pa_nil)))) pss_nil)
      (pss_cons (ps_for PassesOwn.leaving rfl (pi_enum (by rfl) T.z_enumerate (pa_cons (pv 2) pa_nil)) (pg_tup (by rfl) (pgs_cons (pg_name (i := 4) sc_Stage_replay.nd rfl (Or.inl rfl)) (pgs_cons (pg_name (i := 5) sc_Stage_replay.nd rfl (Or.inl rfl)) pgs_nil))) (pss_cons (ps_if (pt_not (pt_val (pe_call (fnOk_or (ok_is_operation T TD) (ok_is_operationB T TD)) (hr.mono (by decide)) rfl T.m_is_operation T.F_is_operation.kp (b_is_operation T) .nil pass0 (pa_cons (pv 5) pa_nil)))) (pss_one (ps_raise rfl (takes_of rfl rfl rfl rfl) (pmk_oex T.xq_InvalidOperation T.xi_InvalidOperation T.xj_InvalidOperation (ok_InvalidOperation_init T) (hr.mono (by decide)) (b_InvalidOperation_init T) .nil pass0 (by rfl) T.e_InvalidOperation (pa_cons (pv 4) pa_nil)))) pss_nil)
        (pss_one (ps_try_thru0 (pss_one (ps_expr (pe_meth (pv 3) T.cl_Stage T.M_Stage_execute (ok_Stage_execute T) (hr.mono (by decide)) (b_Stage_execute T) .nil pass0 (pa_cons (pv 5) pa_nil)))))))) pss_never))), ?_⟩
    have hx0 := hx
    refine ⟨rfl, _, rfl, fun y dy ny nd ne => ?_⟩
    have M1 : Mv [] G H G _ := ((Mv.start hGH).lay nd (.own y)).lay (make_free ny ne) (.ins a.C_Stage dy [])
    refine ⟨⟨y, dy, G, src, x, rfl, upd_same, Same.free hGH ny, M1.s, hld, hx, fun G7 H7 p u sd M7 hp hu hsd hsd7 gsd7 sdp sdu S7 => ⟨rfl, ?_⟩⟩⟩
    have M2 : Mv [] G H G7 H7 := M1.join M7 fun c hc => .inr (by rw [List.mem_singleton.mp hc]; exact ny)
    have hp0 := M1.free hp
    have hu0 := M1.free hu
    dsimp only [gName]
    have same2 : Same H H7 := M2.pt.sm
    have hD7 := Dp.mono M2.g _ _ hD
    cases hM with
    | no hn =>
      obtain ⟨t, ty, kt⟩ := hn.ty (Dp.mono M2.s _ _ hD7)
      refine ⟨_, rfl, _, _, _, _, false, rfl, .ty _, ty, kt, _, rfl, ite_t rfl ?_⟩
      exact ⟨by simp, fun e ne => ⟨⟨e, .int 0, rfl, upd_same, fun dx nd2 nde => ⟨rfl, dx, [("place", .int 0)], upd_same, (upd_ne nde).trans upd_same, (upd_ne nde).symm.trans nd2, k _ dx (same2.trans (io_same ne nd2 nde)) upd_same⟩⟩⟩⟩
    | «at» _ rest hb =>
      obtain ⟨l, xs, rfl, hl, hxs⟩ := Dp.lst_inv hD7
      refine ⟨_, rfl, _, _, _, _, true, rfl, .ty _, SqL.ty (M2.s.seq hl), kf (by decide +kernel), _, rfl, ite_f rfl ?_⟩
      refine ⟨_, rfl, l, _, rfl, M2.s.seq hl, for_enumL (K := K) (a := l) (xs := xs) (fun j σ H' => j ≤ ops.length ∧ ∃ (G' : Hp) (u' : Addr) (v4 v5 : Option V), σ = [some (.ref a.C_Stage), some (.str src), some (.ref l), some (.ref y), v4, v5, none] ∧ Mv [y, p, u] G7 H7 G' H' ∧ (u' = u ∨ H7 u' = none) ∧ StAt a K G' H' y p u' sd x (runS x (st0 x) (ops.take j)).now (runS x (st0 x) (ops.take j)).es (runS x (st0 x) (ops.take j)).us) ⟨Nat.zero_le _, G7, u, none, none, rfl, Mv.start M2.s, .inl rfl, S7⟩ (fun j σ H' ⟨_, _, _, _, _, _, B, _⟩ => B.s.seq (B.g.seq hl)) ?_ ?_⟩
      · rintro j z t σ H1 hz ⟨hj, G1, u1, v4, v5, rfl, B1, hu1, S1⟩ ht
        obtain ⟨q1, q2⟩ := mal_at hxs hz
        have B2 := B1.lay ht (.tup [.int (j : Nat), z])
        have sameH : ∀ {G' H' : Hp}, Mv [y, p, u] G7 H7 G' H' → Same H H' := fun {G' H'} m => (M2.join m fun c hc => by
          simp only [List.mem_cons, List.not_mem_nil, or_false] at hc
          rcases hc with rfl | rfl | rfl
          · exact .inr ny
          · exact .inr hp0
          · exact .inr hu0).pt.sm
        rcases Nat.lt_or_eq_of_le hj with hlt | rfl
        · obtain ⟨o, ho, hzD⟩ := q1 hlt
          obtain ⟨g1, g2⟩ := goodS_take hgood ho
          obtain ⟨ok5, len5⟩ := runS_ok hx (ops.take j) (st0_ok hx) g1
          rw [List.length_take] at len5
          have len6 : (runS x (st0 x) (ops.take j)).es.length + (runS x (st0 x) (ops.take j)).us.length ≤ 100000 := by
            have e0 : (st0 x).es.length + (st0 x).us.length = 0 := rfl
            omega
          have hzD' := Dp.mono B2.g _ _ hzD
          refine ⟨t, _, rfl, SqT.of upd_same, rfl, _, _, rfl, _, _, rfl, rfl, _, rfl, .inl (isop_go hzD' B2.s fun H3 s3 => ⟨_, rfl, ite_f rfl ?_⟩)⟩
          have e3 : Ext G1 (upd H1 t (.tup [.int (j : Nat), z])) G1 H3 := Ext.ofSame B2.s s3
          have B3 := B2.pure e3 s3
          have S3 : StAt a K G1 H3 y p u1 sd x (runS x (st0 x) (ops.take j)).now (runS x (st0 x) (ops.take j)).es (runS x (st0 x) (ops.take j)).us := S1.keep (Same.refl _) S1.gy S1.gp S1.gu fun b _ o e => s3 _ _ ((upd_ne (ne_of_none e ht)).trans e)
          obtain ⟨r, rfl, hr1⟩ := opD_inv hzD'
          obtain ⟨dy3, pv3, nv3, vs3, ws3, k1, k2, k3, k4, k5, k6, k7⟩ := S3.ex
          refine ⟨_, rfl, y, dy3, _, rfl, k1, (by kernel_rfl), _, rfl, exec_go S3 B3.s hx ok5 len6 (Same.seqT B3.s hr1) g2 fun G6 H6 u6 v6 M6 hu6 S6 d6 => ?_⟩
          refine ⟨hlt, G6, u6, _, _, rfl, B3.join M6 fun c hc => ?_, ?_, ?_⟩
          · simp only [List.mem_cons, List.not_mem_nil, or_false] at hc
            rcases hc with rfl | rfl | rfl
            · exact .inl (by simp)
            · exact .inl (by simp)
            · rcases hu1 with rfl | q
              · exact .inl (by simp)
              · exact .inr q
          · rcases hu6 with rfl | q
            · exact hu1
            · exact .inr (B3.free q)
          · rw [take_oneS ho, runS_snoc]
            exact S6
        · refine ⟨t, _, rfl, SqT.of upd_same, rfl, _, _, rfl, _, _, rfl, rfl, _, rfl, .inr ⟨⟨z, _, rfl, Dp.mono (B2.g.trans B2.s) _ _ (q2 rfl), hb, fun H3 s3 => ⟨_, rfl, ite_t rfl ?_⟩⟩⟩⟩
          exact ⟨_, rfl, by simp, fun e ne => ⟨⟨e, .int (ops.length : Nat), rfl, upd_same, fun dx nd2 nde => ⟨rfl, dx, [("place", .int (ops.length : Nat))], upd_same, (upd_ne nde).trans upd_same, (upd_ne nde).symm.trans nd2, k _ dx (((sameH B2).trans s3).trans (io_same ne nd2 nde)) upd_same⟩⟩⟩⟩
      · rintro σ H1 ⟨hj, _⟩
        have := DpAll.len hxs
        rw [List.length_append, List.length_map, List.length_cons] at this
        omega
end
end Sb

namespace Sb

open PySem PySem.Spec PyProof.Rows L2 TL
/-! ### a plan's text that is the word shelf alone: SyntaxFault at its end -/
structure SynS (src : Str) (l : Nat) : Prop where
  ex : ∃ (rows : List (List Nat)) (qss : List (List (Tk × Nat))) (ln cl : Nat), tl src = joinL [10] rows ∧ rows ≠ [] ∧ (∀ r ∈ rows, 10 ∉ r) ∧ (∀ r ∈ rows, r.length ≤ 3000) ∧ (tl src).length ≤ 3000000 ∧ Paired (LxC 0) rows qss ∧ posT 0 qss = [(kwT "shelf", ln, cl)] ∧ rows.length = l
def ParP (a : Ad) (G H : Hp) (p : Addr) (n : Nat) (qs : List (Tk × Nat × Nat)) : Prop := ∃ (dx tk fl : Addr) (vs : List V), H p = some (.ins a.C_Parser dx (parF tk fl n)) ∧ G p = none ∧ G tk = some (.lst vs) ∧ ToksP a.C_Token G vs qs
def SfE (a : Ad) (H : Hp) (l c : Nat) (E : XK) : Prop := ∀ (H1 : Hp) (d : Addr) (fs : List (Str × V)), Same H H1 → H1 d = some (.xd fs) → fs.lookup (Str.ofString "line") = some (.int l) → fs.lookup (Str.ofString "column") = some (.int c) → E (.ref a.X_SyntaxFault) (some d) H1
structure spPeekP (a : Ad) (vs : List V) (H : Hp) (Q : VK) (E : XK) : Prop where
  ex : ∃ (p : Addr) (G : Hp) (n : Nat) (qs : List (Tk × Nat × Nat)) (q : Tk × Nat × Nat), vs = [.ref p] ∧ Same G H ∧ ParP a G H p n qs ∧ qs[n]? = some q ∧ ∀ v, TokP a.C_Token G v q → Q v H
structure spFailX (a : Ad) (vs : List V) (H : Hp) (Q : VK) (E : XK) : Prop where
  ex : ∃ (p : Addr) (G : Hp) (n : Nat) (qs : List (Tk × Nat × Nat)) (tk : Tk) (l c : Nat), vs = [.ref p] ∧ Same G H ∧ ParP a G H p n qs ∧ qs[n]? = some (tk, l, c) ∧ SfE a H l c E
structure spTakeX (a : Ad) (vs : List V) (H : Hp) (Q : VK) (E : XK) : Prop where
  ex : ∃ (p : Addr) (G : Hp) (n : Nat) (qs : List (Tk × Nat × Nat)) (tk : Tk) (l c : Nat) (z : Str), vs = [.ref p, .str z] ∧ Same G H ∧ ParP a G H p n qs ∧ qs[n]? = some (tk, l, c) ∧ kS tk.k ≠ z ∧ SfE a H l c E
structure spTakeWP (a : Ad) (vs : List V) (H : Hp) (Q : VK) (E : XK) : Prop where
  ex : ∃ (p : Addr) (G : Hp) (n : Nat) (qs : List (Tk × Nat × Nat)) (tk : Tk) (l c : Nat), vs = [.ref p, .str (mkS tk.t)] ∧ Same G H ∧ ParP a G H p n qs ∧ qs[n]? = some (tk, l, c) ∧ ∀ H1 v, Mv [p] G H G H1 → ParP a G H1 p (n + 1) qs → Q v H1
structure spShelfX (a : Ad) (vs : List V) (H : Hp) (Q : VK) (E : XK) : Prop where
  ex : ∃ (p : Addr) (G : Hp) (ln cl l c : Nat), vs = [.ref p] ∧ Same G H ∧ ParP a G H p 0 [(kwT "shelf", ln, cl), (⟨.fin, []⟩, l, c)] ∧ ∀ H1, Mv [p] G H G H1 → SfE a H1 l c E
structure spLoadX (a : Ad) (vs : List V) (H : Hp) (Q : VK) (E : XK) : Prop where
  ex : ∃ (src : Str) (l : Nat), vs = [.str src] ∧ SynS src l ∧ SfE a H l 0 E
structure spStageInitX (a : Ad) (vs : List V) (H : Hp) (Q : VK) (E : XK) : Prop where
  ex : ∃ (y : V) (src : Str) (l : Nat), vs = [y, .str src] ∧ SynS src l ∧ SfE a H l 0 E
structure spReplayS (a : Ad) (vs : List V) (H : Hp) (Q : VK) (E : XK) : Prop where
  ex : ∃ (v : V) (src : Str) (l : Nat), vs = [.ref a.C_Stage, .str src, v] ∧ SynS src l ∧ SfE a H l 0 E
structure spSfI (C : Addr) (vs : List V) (H : Hp) (Q : VK) (E : XK) : Prop where
  ex : ∃ (x : Addr) (u v : V), vs = [.ref x, u, v] ∧ H x = some (exo x C none) ∧ ∀ dx, H dx = none → dx ≠ x → Q .non (upd (upd (upd H dx (exd dx [("line", u)])) x (exo x C (some dx))) dx (exd dx [("column", v), ("line", u)]))
theorem SfE.mono {a : Ad} {H H' : Hp} {l c : Nat} {E : XK} (h : SfE a H l c E) (s : Same H H') : SfE a H' l c E := fun H1 d fs s1 => h H1 d fs (s.trans s1)
theorem io_same2 {H : Hp} {e dx : Addr} {o1 o2 o3 o4 o5 : HO} (ne : H e = none) (nd : (upd H e o1) dx = none) (nde : dx ≠ e) : Same H (upd (del (upd (upd (upd (upd H e o1) dx o2) e o3) dx o5) e) dx o4) := fun b o eb => by
  have ndx : H dx = none := (upd_ne nde).symm.trans nd
  have nb : b ≠ dx := fun q => by rw [q, ndx] at eb; cases eb
  have ne2 : b ≠ e := fun q => by rw [q, ne] at eb; cases eb
  rw [upd_ne nb, del_ne ne2, upd_ne nb, upd_ne ne2, upd_ne nb, upd_ne ne2]
  exact eb
section
variable {P : Program} {w : World} {K : PySem.W.Frag} {mg : Str → Option Value} {base : Heap} {a : Ad}
theorem ok_SyntaxFault_init (T : Txt K mg a) : FnOk P w K mg base CX0 1 a.f_SyntaxFault_init a.d_SyntaxFault_init ["self", "line", "column"] (spSfI a.X_SyntaxFault) := by
  refine T.F_SyntaxFault_init.ok sc_SyntaxFault_init (fun vs H Q E h => ?_) (fun cdv A outer s H vs Q E hr h => ?_)
  · obtain ⟨⟨x, u, v, rfl, _⟩⟩ := h
    rfl
  · obtain ⟨⟨x, u, v, rfl, hx, k⟩⟩ := h
    refine ⟨_, (pss_cons (ps_expr (pe_clinit (pe_glob (v := V.ref a.X_BotError) rfl T.e_BotError rfl) T.xd_SyntaxFault T.xw_SyntaxFault (pa_cons (pv 0) (pa_cons (pv 1) (pa_cons (pv 2) pa_nil))))) (pss_cons (ps_ost (pv 0) (pv 1)) (pss_one (ps_ost (pv 0) (pv 2))))), ?_⟩
    refine ⟨rfl, _, rfl, _, rfl, _, rfl, x, a.X_SyntaxFault, [u, v], rfl, by simp, T.xq_SyntaxFault, hx, _, rfl, _, rfl, x, a.X_SyntaxFault, rfl, T.xq_SyntaxFault, T.xn_line_SyntaxFault, .inl ⟨hx, fun dx nd ne => ?_⟩⟩
    exact ⟨_, rfl, _, rfl, x, a.X_SyntaxFault, rfl, T.xq_SyntaxFault, T.xn_column_SyntaxFault, .inr ⟨dx, _, upd_same, (upd_ne ne).trans upd_same, (by show 1 ≤ 900; decide), k dx nd ne⟩⟩
theorem ok_Parser_peekP (T : Txt K mg a) : FnOk P w K mg base CX0 1 a.f_Parser_peek a.d_Parser_peek ["self"] (spPeekP a) := by
  refine T.F_Parser_peek.ok sc_Parser_peek (fun vs H Q E h => ?_) (fun cdv A outer s H vs Q E hr h => ?_)
  · obtain ⟨⟨p, G, n, qs, q, rfl, _⟩⟩ := h
    rfl
  · obtain ⟨⟨p, G, n, qs, q, rfl, hs, ⟨dx, ta, fl, vs, h1, h2, h3, h4⟩, hn, k⟩⟩ := h
    obtain ⟨v, hv, htk⟩ := Paired.at_ h4 hn
    refine ⟨_, (pss_one (ps_ret (pe_ix ix_list (pe_fld (pv 0) rfl) (pe_fld (pv 0) rfl) (fun _ _ => rfl)))), ?_⟩
    refine ⟨_, rfl, p, _, dx, _, _, rfl, h1, T.cl_Parser, T.n_Parser_tokens, (by kernel_rfl), _, rfl, p, _, dx, _, _, rfl, h1, T.cl_Parser, T.n_Parser_at, (by kernel_rfl), ta, vs, _, v, rfl, rfl, SqL.of (hs _ _ h3), atI_nat hv, k v htk⟩
theorem ok_Parser_failX (T : Txt K mg a) : FnOk P w K mg base (L2.CX P w) 4 a.f_Parser_fail a.d_Parser_fail ["self"] (spFailX a) := by
  refine T.F_Parser_fail.okX sc_Parser_fail (fun vs H Q E h => ?_) (fun cdv A outer s H vs Q E hr h => ?_)
  · obtain ⟨⟨p, G, n, qs, tk, l, c, rfl, _⟩⟩ := h
    rfl
  · obtain ⟨⟨p, G, n, qs, tk, l, c, rfl, hs, hP, hn, k⟩⟩ := h
    obtain ⟨dx, ta, fl, vs, h1, h2, h3, h4⟩ := id hP
    refine ⟨_, (pss_cons (ps_set (i := 1) sc_Parser_fail.nd rfl (Or.inl rfl) (pe_meth0 (pv 0) T.cl_Parser T.M_Parser_peek (ok_Parser_peekP T) (hr.mono (by decide)) (b_Parser_peek T) .nil pass0))
      (pss_one (ps_raise rfl (takes_of rfl rfl rfl rfl) (pmk_oex T.xq_SyntaxFault T.xi_SyntaxFault T.xj_SyntaxFault (ok_SyntaxFault_init T) (hr.mono (by decide)) (b_SyntaxFault_init T) .nil pass0 (by rfl) T.e_SyntaxFault (pa_cons (pe_fld (pv 1) rfl) (pa_cons (pe_fld (pv 1) rfl) pa_nil)))))), ?_⟩
    refine ⟨_, rfl, p, dx, _, rfl, h1, (by kernel_rfl), ⟨⟨p, G, n, qs, _, rfl, hs, hP, hn, fun v hv => ?_⟩⟩⟩
    obtain ⟨q, dq, rfl, hq⟩ := hv
    refine ⟨_, rfl, q, _, dq, _, .int l, rfl, hs _ _ hq, T.cl_Token, T.n_Token_line, (by kernel_rfl), _, rfl, q, _, dq, _, .int c, rfl, hs _ _ hq, T.cl_Token, T.n_Token_column, (by kernel_rfl), by simp, fun e ne => ⟨⟨e, .int l, .int c, rfl, upd_same, fun d nd nde => ⟨rfl, d, [("column", .int c), ("line", .int l)], ?_, upd_same, (upd_ne nde).symm.trans nd, k _ d _ (io_same2 ne nd nde) upd_same (by kernel_rfl) (by kernel_rfl)⟩⟩⟩⟩
    rw [upd_ne nde.symm, upd_same]
theorem ok_Parser_takeX (T : Txt K mg a) : FnOk P w K mg base (L2.CX P w) 5 a.f_Parser_take a.d_Parser_take ["self", "kind"] (spTakeX a) := by
  refine T.F_Parser_take.okX sc_Parser_take (fun vs H Q E h => ?_) (fun cdv A outer s H vs Q E hr h => ?_)
  · obtain ⟨⟨p, G, n, qs, tk, l, c, z, rfl, _⟩⟩ := h
    rfl
  · obtain ⟨⟨p, G, n, qs, tk, l, c, z, rfl, hs, hP, hn, hz, k⟩⟩ := h
    obtain ⟨dx, ta, fl, vs, h1, h2, h3, h4⟩ := id hP
    refine ⟨_, (pss_cons (ps_set (i := 2) sc_Parser_take.nd rfl (Or.inl rfl) (pe_meth0 (pv 0) T.cl_Parser T.M_Parser_peek (ok_Parser_peekP T) (hr.mono (by decide)) (b_Parser_peek T) .nil pass0))
      (pss_cons (ps_if (pt_cmpR op_ne (pe_fld (pv 2) rfl) (pv 1) (nomark _)) (pss_one (ps_expr (pe_meth0 (pv 0) T.cl_Parser T.M_Parser_fail (ok_Parser_failX T) (hr.mono (by decide)) (b_Parser_fail T) .nil (passes_call (takes_of rfl rfl rfl rfl) (fun _ _ _ _ h => h))))) pss_nil) pss_never)), ?_⟩
    refine ⟨_, rfl, p, dx, _, rfl, h1, (by kernel_rfl), ⟨⟨p, G, n, qs, _, rfl, hs, hP, hn, fun v hv => ?_⟩⟩⟩
    obtain ⟨q, dq, rfl, hq⟩ := hv
    refine ⟨_, rfl, q, _, dq, _, .str (kS tk.k), rfl, hs _ _ hq, T.cl_Token, T.n_Token_kind, (by kernel_rfl), _, rfl, rfl, _, rfl, ite_t (by simp [hz]) ?_⟩
    exact ⟨_, rfl, p, dx, _, rfl, h1, (by kernel_rfl), ⟨⟨p, G, n, qs, tk, l, c, rfl, hs, hP, hn, k⟩⟩⟩
theorem ok_Parser_take_wordP (T : Txt K mg a) : FnOk P w K mg base CX0 2 a.f_Parser_take_word a.d_Parser_take_word ["self", "word"] (spTakeWP a) := by
  refine T.F_Parser_take_word.ok sc_Parser_take_word (fun vs H Q E h => ?_) (fun cdv A outer s H vs Q E hr h => ?_)
  · obtain ⟨⟨p, G, n, qs, tk, l, c, rfl, _⟩⟩ := h
    rfl
  · obtain ⟨⟨p, G, n, qs, tk, l, c, rfl, hs, hP, hn, k⟩⟩ := h
    obtain ⟨dx, ta, fl, vs, h1, h2, h3, h4⟩ := id hP
    refine ⟨_, (pss_cons (ps_set (i := 2) sc_Parser_take_word.nd rfl (Or.inl rfl) (pe_meth0 (pv 0) T.cl_Parser T.M_Parser_peek (ok_Parser_peekP T) (hr.mono (by decide)) (b_Parser_peek T) .nil pass0))
      (pss_cons (ps_if (pt_cmpR op_ne (pe_fld (pv 2) rfl) (pv 1) (nomark _)) pss_never pss_nil)
      (pss_cons (ps_fldaug (pv 0) pe_int in_add)
      (pss_one (ps_ret (pv 2)))))), ?_⟩
    refine ⟨_, rfl, p, dx, _, rfl, h1, (by kernel_rfl), ⟨⟨p, G, n, qs, _, rfl, hs, hP, hn, fun v hv => ?_⟩⟩⟩
    obtain ⟨q, dq, rfl, hq⟩ := id hv
    refine ⟨_, rfl, q, _, dq, _, _, rfl, hs _ _ hq, T.cl_Token, T.n_Token_text, (by kernel_rfl), _, rfl, rfl, _, rfl, ite_f (by rw [decide_eq_true rfl]; rfl) ?_⟩
    refine ⟨_, rfl, p, _, dx, _, .int n, rfl, h1, T.cl_Parser, T.n_Parser_at, (by kernel_rfl), _, _, rfl, rfl, dx, _, h1, (by show 3 < 1000; decide), ?_⟩
    refine ⟨_, rfl, k _ _ ((Mv.start hs).put (.inl (by simp)) h2 _) ⟨dx, ta, fl, vs, ?_, h2, h3, h4⟩⟩
    rw [upd_same]
    exact congrArg (fun z => some (HO.ins a.C_Parser dx z)) (parF_put ta fl n 1)
theorem ok_Parser_parse_shelfX (T : Txt K mg a) : FnOk P w K mg base (L2.CX P w) 6 a.f_Parser_parse_shelf a.d_Parser_parse_shelf ["self"] (spShelfX a) := by
  refine T.F_Parser_parse_shelf.okX sc_Parser_parse_shelf (fun vs H Q E h => ?_) (fun cdv A outer s H vs Q E hr h => ?_)
  · obtain ⟨⟨p, G, ln, cl, l, c, rfl, _⟩⟩ := h
    rfl
  · obtain ⟨⟨p, G, ln, cl, l, c, rfl, hs, hP, k⟩⟩ := h
    obtain ⟨dx, ta, fl, vs, h1, h2, h3, h4⟩ := id hP
    refine ⟨_, (pss_cons (ps_set (i := 1) sc_Parser_parse_shelf.nd rfl (Or.inl rfl) (pe_meth (pv 0) T.cl_Parser T.M_Parser_take_word (ok_Parser_take_wordP T) (hr.mono (by decide)) (b_Parser_take_word T) .nil pass0 (pa_cons pe_str pa_nil)))
      (pss_cons (ps_set (i := 2) sc_Parser_parse_shelf.nd rfl (Or.inl rfl) (pe_lst (pa_cons (pe_meth (pv 0) T.cl_Parser T.M_Parser_take (ok_Parser_takeX T) (hr.mono (by decide)) (b_Parser_take T) .nil (passes_call (takes_of rfl rfl rfl rfl) (fun _ _ _ _ h => h)) (pa_cons (pe_glob (v := V.str (Str.ofString "number")) rfl T.c_NUMBER ⟨_, rfl⟩) pa_nil)) pa_nil))) pss_never)), ?_⟩
    refine ⟨_, rfl, p, dx, _, rfl, h1, (by kernel_rfl), ⟨⟨p, G, 0, _, kwT "shelf", ln, cl, by rw [show mkS (kwT "shelf").t = _ from mkS_tl _]; rfl, hs, hP, rfl, fun H1 v1 M1 P1 => ?_⟩⟩⟩
    obtain ⟨dx1, ta1, fl1, vs1, h11, _⟩ := id P1
    refine ⟨_, rfl, p, dx1, _, rfl, h11, (by kernel_rfl), ⟨⟨p, G, 1, _, ⟨.fin, []⟩, l, c, _, rfl, M1.s, P1, rfl, (by decide +kernel), k _ M1⟩⟩⟩
theorem ok_Parser_parse_planX (T : Txt K mg a) : FnOk P w K mg base (L2.CX P w) 7 a.f_Parser_parse_plan a.d_Parser_parse_plan ["self"] (spShelfX a) := by
  refine T.F_Parser_parse_plan.okX sc_Parser_parse_plan (fun vs H Q E h => ?_) (fun cdv A outer s H vs Q E hr h => ?_)
  · obtain ⟨⟨p, G, ln, cl, l, c, rfl, _⟩⟩ := h
    rfl
  · obtain ⟨⟨p, G, ln, cl, l, c, rfl, hs, hP, k⟩⟩ := h
    obtain ⟨dx, ta, fl, vs, h1, h2, h3, h4⟩ := id hP
    refine ⟨_, (pss_cons (ps_set (i := 1) sc_Parser_parse_plan.nd rfl (Or.inl rfl) (pe_meth0 (pv 0) T.cl_Parser T.M_Parser_parse_shelf (ok_Parser_parse_shelfX T) (hr.mono (by decide)) (b_Parser_parse_shelf T) .nil (passes_call (takes_of rfl rfl rfl rfl) (fun _ _ _ _ h => h)))) pss_never), ?_⟩
    exact ⟨_, rfl, p, dx, _, rfl, h1, (by kernel_rfl), ⟨⟨p, G, ln, cl, l, c, rfl, hs, hP, k⟩⟩⟩
theorem ok_loadX (T : Txt K mg a) : FnOk P w K mg base (L2.CX P w) 8 a.f_load a.d_load ["plan"] (spLoadX a) := by
  refine T.F_load.okX sc_load (fun vs H Q E h => ?_) (fun cdv A outer s H vs Q E hr h => ?_)
  · obtain ⟨⟨src, l, rfl, _⟩⟩ := h
    rfl
  · obtain ⟨⟨src, l, rfl, ⟨⟨rows, qss, ln, cl, e1, e2, e3, e4, e5, e6, e7, e8⟩⟩, k⟩⟩ := h
    refine ⟨_, (pss_one (ps_ret (pe_meth0 (pe_make T.mk_Parser (ok_Parser_init T) (hr.mono (by decide)) (by rfl) T.m_Parser (b_Parser_init T) .nil pass0 (pa_cons (pe_call (ok_tokenizeP T) (hr.mono (by decide)) rfl T.m_tokenize T.F_tokenize.kp (b_tokenize T) .nil pass0 (pa_cons (pv 0) pa_nil)) pa_nil)) T.cl_Parser T.M_Parser_parse_plan (ok_Parser_parse_planX T) (hr.mono (by decide)) (b_Parser_parse_plan T) .nil (passes_call (takes_of rfl rfl rfl rfl) (fun _ _ _ _ h => h))))), ?_⟩
    refine ⟨_, rfl, ⟨⟨src, H, rows, qss, rfl, e1, e2, e3, e4, e5, e6, by rw [e7]; simp, Same.refl H, fun G1 H1 v x1 s1 h1 => ?_⟩⟩⟩
    obtain ⟨tk, vs, rfl, htk, hts⟩ := h1
    intro y dy ny nd ne
    refine ⟨⟨y, dy, tk, rfl, upd_same, fun fl hfl => ⟨rfl, ?_⟩⟩⟩
    have B1 := (Pt.start (Same.refl H)).call x1 s1
    have ydy : y ≠ dy := ne.symm
    have fy : fl ≠ y := fun e => by rw [e, upd_same] at hfl; cases hfl
    have hfl2 : (upd H1 dy (.own y)) fl = none := by rw [upd_ne fy] at hfl; exact hfl
    rw [upd_swap fy]
    have B2 := (B1.new nd (.own y)).new hfl2 (.lst [])
    have ny2 : (upd (upd H1 dy (.own y)) fl (.lst [])) y = none := by rw [upd_ne fy.symm, upd_ne ydy]; exact ny
    have B3 := B2.lay ny2 (.ins a.C_Parser dy (parF tk fl 0))
    have yG := B2.freeG ny2
    have gg := (same_new (o := .own y) (B1.freeG nd)).trans (same_new (o := .lst []) ((B1.new nd (.own y)).freeG hfl2))
    refine ⟨y, dy, _, rfl, upd_same, (by kernel_rfl), ?_⟩
    rw [e7] at hts
    have y0 : H y = none := B2.free ny2
    refine ⟨⟨y, _, ln, cl, l, 0, rfl, B3.s, ⟨dy, tk, fl, vs, upd_same, yG, gg _ _ htk, by rw [← e8]; exact hts.mono gg⟩, fun H5 m5 => k.mono fun b o e => ?_⟩⟩
    refine m5.sm b o ?_
    rw [wos_out (by intro hb; rw [List.mem_singleton.mp hb, y0] at e; cases e)]
    exact B3.sm b o e
theorem ok_Stage_initX (T : Txt K mg a) : FnOk P w K mg base (L2.CX P w) 9 a.f_Stage_init a.d_Stage_init ["self", "plan"] (spStageInitX a) := by
  refine T.F_Stage_init.okX sc_Stage_init (fun vs H Q E h => ?_) (fun cdv A outer s0 H vs Q E hr h => ?_)
  · obtain ⟨⟨y, src, l, rfl, _⟩⟩ := h
    rfl
  · obtain ⟨⟨y, src, l, rfl, hs, k⟩⟩ := h
    refine ⟨_, (pss_cons (ps_fld (pv 0) (pe_call (ok_loadX T) (hr.mono (by decide)) rfl T.m_load T.F_load.kp (b_load T) .nil (passes_call (takes_of rfl rfl rfl rfl) (fun _ _ _ _ h => h)) (pa_cons (pv 1) pa_nil)) rfl) pss_never), ?_⟩
    exact ⟨_, rfl, ⟨⟨src, l, rfl, hs, k⟩⟩⟩
theorem ok_Stage_replayS (T : Txt K mg a) : FnOk P w K mg base (L2.CX P w) 12 a.f_Stage_replay a.d_Stage_replay ["cls", "plan", "operations"] (spReplayS a) := by
  refine T.F_Stage_replay.okX sc_Stage_replay (fun vs H Q E h => ?_) (fun cdv A outer s0 H vs Q E hr h => ?_)
  · obtain ⟨⟨v, src, l, rfl, _⟩⟩ := h
    rfl
  · obtain ⟨⟨v, src, l, rfl, hs, k⟩⟩ := h
    refine ⟨_, (pss_cons (ps_set (i := 3) sc_Stage_replay.nd rfl (Or.inl rfl) (pe_makeL (i := 0) T.mk_Stage (ok_Stage_initX T) (hr.mono (by decide)) (b_Stage_init T) .nil (passes_call (takes_of rfl rfl rfl rfl) (fun _ _ _ _ h => h)) (pa_cons (pv 1) pa_nil))) pss_never), ?_⟩
    exact ⟨rfl, _, rfl, fun y dy ny nd ne => ⟨⟨_, src, l, rfl, hs, k.mono (same_make ny nd ne _)⟩⟩⟩
theorem syn_shelf : SynS (Str.ofString "shelf") 1 := by
  have e : tl (Str.ofString "shelf") = [115, 104, 101, 108, 102] := by decide +kernel
  refine ⟨⟨[[115, 104, 101, 108, 102]], [[(kwT "shelf", 0)]], 0, 0, by rw [e]; rfl, by simp, by simp, by simp, by rw [e]; simp, .cons ?_ .nil, rfl, rfl⟩⟩
  have r : Rd [115, 104, 101, 108, 102] (kwT "shelf") [] := by
    have q : Rd ([115, 104, 101, 108, 102] ++ []) ⟨.keyword, [115, 104, 101, 108, 102]⟩ [] := .kw (by rw [← e]; exact kw_let _ (by decide +kernel)) (by decide +kernel) headNot_nil
    have e2 : kwT "shelf" = ⟨.keyword, [115, 104, 101, 108, 102]⟩ := by show Tk.mk _ (tl _) = _; rw [e]
    rw [e2]
    exact q
  exact .tok r .nil
end
end Sb

namespace Sb
open PySem PySem.Spec PyProof.Rows L2 TL LamX NdefX
/-! ### lists of lambdas that all raise and change nothing -/
def LamSame (P : Program) (w : World) (K : PySem.W.Frag) (mg : Str → Option Value) (base : Heap) (a : Ad) (kk : Nat) (f : Addr) (wd : Str) (De : PyData) (H : Hp) : Prop :=
  ∃ (c' : Addr) (q : Str) (D : Hp → Prop) (R : Hp → XK → VK → Prop), LamE P w K mg base kk f c' q D R ∧ (∀ H1, Same H H1 → D H1) ∧ ∀ (H1 : Hp) (E : XK) (Q1 : VK), Same H H1 → (∀ C j d H2, Same H1 H2 → DAt d H2 j De → ErrK K a C j wd → E (.ref C) d H2) → R H1 E Q1
section
variable {P : Program} {w : World} {K : PySem.W.Frag} {mg : Str → Option Value} {base : Heap} {a : Ad} {kk : Nat}
theorem allR_same {l : Addr} {ev : V} {fs : List Addr} {wd : Str} {De : PyData} {H : Hp} {Q : VK} {E : XK} (hl : SqL K H l (fs.map V.ref)) (hev : Dp K H ev (.tuple [.str wd, De])) (hsh : SeqAt.shaped (.tuple [.str wd, De]) = true) (hly : PyData.canLay0 (.tuple [.str wd, De]) = true) (hlen : fs.length ≤ 1000)
    (hf : ∀ f ∈ fs, LamSame P w K mg base a kk f wd De H) (k : ∀ H', Same H H' → Q (.bl true) H') : spAllR P w K mg base a kk [.ref l, ev] H Q E := by
  refine ⟨⟨l, ev, fs, wd, De, rfl, hl, hsh, hly, hlen, fun D0 hD0 => ?_⟩⟩
  have s0 : Same H (upd H D0 (.lst [])) := same_new hD0
  refine ⟨fun _ H1 => Same (upd H D0 (.lst [])) H1, Same.refl _, fun _ H1 H2 h s => h.trans s, fun _ H1 h => ⟨(s0.trans h).seq hl, Dp.mono (s0.trans h) _ _ hev, h _ _ upd_same⟩, fun i f H1 e h => ?_, fun H' h H'' s => k _ ((s0.trans h).trans s)⟩
  obtain ⟨c', q, D, R, L, hD, hR⟩ := hf f (List.mem_of_getElem? e)
  exact ⟨c', q, D, R, L, hD _ (s0.trans h), fun E Q1 hE => hR _ _ _ (s0.trans h) fun C j d H2 s hd hk => hE C j d H2 hd hk (h.trans s)⟩
theorem same_cut {cs : List Addr} {H H1 : Hp} (s : Same H H1) : Same (cut cs H) (cut cs H1) := fun b o e => by
  obtain ⟨hb, e1⟩ := cut_some e
  rw [cut_out hb]
  exact s _ _ e1
theorem lamSame_of {N ps fr : List Str} {vs : List V} {ws : List (Option V)} {cells : List (Addr × Obj)} {cl : List (Str × Addr)} {f c' : Addr} {q : Str} {params : Arguments} {body : Expr} {scope : Scope} {wd : Str} {De : PyData} {H : Hp} {k : Nat}
    (hL : LamAt f c' q params body scope cl vs H) (hF : ∀ p ∈ cells, H p.1 = some (Fz p.2)) (S : NScope N ps fr scope) (Bd : BindD params ps vs) (C : CapT cl fr ws cells) (te : XK → TE)
    (hbody : ∀ (A : Around) (outer : List Env) (s : Shared) (H : Hp) (E : XK), Room k (A.deeper (envF (lamNF q params scope cl c') f s.heap.objs.size)) → PE (ncx (L2.CX P w) P w K mg base N (lamNF q params scope cl c') f A outer s H E) body (te E))
    (hte : ∀ (Hc : Hp) (E : XK) (Q : VK), Same (cut (cells.map (·.1)) H) Hc → (∀ C j d H2, Same Hc H2 → DAt d H2 j De → ErrK K a C j wd → E (.ref C) d H2) → te E (startF N vs ws) Hc Q) : LamSame P w K mg base a (k + 1) f wd De H := by
  refine ⟨c', q, LamC f c' q params body scope cl vs cells, fun H4 E4 Q => te (fun cls d H1 => (∀ b ∈ cells.map (·.1), H1 b = none) → E4 cls d (rejoin (cells.map (·.1)) H4 H1)) (startF N vs ws) (cut (cells.map (·.1)) H4) (fun v H' => Q v (rejoin (cells.map (·.1)) H4 H')), lamE_of S Bd C (fun A outer s H E hr => ⟨te, hbody A outer s H E hr, fun H4 E4 Q e1 e2 r => ?_⟩), fun H1 s => ⟨hL.ext fun b o e _ => s _ _ e, fun p hp => s _ _ (hF p hp)⟩, fun H1 E Q1 s hE => ?_⟩
  · subst e1 e2
    exact r
  · refine hte _ _ _ (same_cut s) fun C j d H2 s2 hd hk hn => ?_
    have out : Same H2 (rejoin (cells.map (·.1)) H1 H2) := fun b o e => by
      show (if b ∈ cells.map (·.1) then H1 b else H2 b) = some o
      by_cases hb : b ∈ cells.map (·.1)
      · rw [hn b hb] at e; cases e
      · rw [if_neg hb]; exact e
    refine hE C j d _ (fun b o e => ?_) (hd.mono out) hk
    show (if b ∈ cells.map (·.1) then H1 b else H2 b) = some o
    by_cases hb : b ∈ cells.map (·.1)
    · rw [if_pos hb]; exact e
    · rw [if_neg hb]
      exact s2 _ _ (by rw [cut_out hb]; exact e)
end
end Sb

namespace Sb

open PySem PySem.Spec PyProof.Rows L2 TL LamX NdefX
/-! ### the lambdas of law k18 -/
abbrev lamP18_1 : Arguments := { posonlyargs := [], args := [], vararg := .none, kwonlyargs := [], kw_defaults := [], kwarg := .none, defaults := [] }
abbrev lamB18_1 : Expr := (.Call (.Attribute (.Name "_law_stage" ⟨483, 26, 483, 36⟩) "batch" ⟨483, 26, 483, 42⟩) [(.Name "_law_bad" ⟨483, 43, 483, 51⟩)] [] ⟨483, 26, 483, 52⟩)
abbrev lamSc18_1 : Scope := { kind := .function, names := [("_law_bad", .free), ("_law_stage", .free)], isGenerator := false, isCoroutine := false, more := [] }
abbrev lamP18_2 : Arguments := { posonlyargs := [], args := [⟨"_law_a", .none, ⟨483, 61, 483, 67⟩⟩], vararg := .none, kwonlyargs := [], kw_defaults := [], kwarg := .none, defaults := [(.Constant (.int 0) 0 ⟨483, 68, 483, 69⟩)] }
abbrev lamB18_2 : Expr := (.Call (.Attribute (.Name "Stage" ⟨483, 71, 483, 76⟩) "replay" ⟨483, 71, 483, 83⟩) [(.Name "_law_plan" ⟨483, 84, 483, 93⟩), (.Name "_law_bad" ⟨483, 95, 483, 103⟩)] [] ⟨483, 71, 483, 104⟩)
abbrev lamSc18_2 : Scope := { kind := .function, names := [("_law_a", .local), ("_law_bad", .free), ("_law_plan", .free), ("Stage", .globalImplicit)], isGenerator := false, isCoroutine := false, more := [] }
abbrev lamP18_3 : Arguments := { posonlyargs := [], args := [], vararg := .none, kwonlyargs := [], kw_defaults := [], kwarg := .none, defaults := [] }
abbrev lamB18_3 : Expr := (.Call (.Attribute (.Name "_law_stage" ⟨487, 26, 487, 36⟩) "batch" ⟨487, 26, 487, 42⟩) [(.Name "_law_none" ⟨487, 43, 487, 52⟩)] [] ⟨487, 26, 487, 53⟩)
abbrev lamSc18_3 : Scope := { kind := .function, names := [("_law_none", .free), ("_law_stage", .free)], isGenerator := false, isCoroutine := false, more := [] }
abbrev lamP18_4 : Arguments := { posonlyargs := [], args := [⟨"_law_a", .none, ⟨487, 62, 487, 68⟩⟩], vararg := .none, kwonlyargs := [], kw_defaults := [], kwarg := .none, defaults := [(.Constant (.int 0) 0 ⟨487, 69, 487, 70⟩)] }
abbrev lamB18_4 : Expr := (.Call (.Attribute (.Name "Stage" ⟨487, 72, 487, 77⟩) "replay" ⟨487, 72, 487, 84⟩) [(.Name "_law_plan" ⟨487, 85, 487, 94⟩), (.Name "_law_none" ⟨487, 96, 487, 105⟩)] [] ⟨487, 72, 487, 106⟩)
abbrev lamSc18_4 : Scope := { kind := .function, names := [("_law_a", .local), ("_law_none", .free), ("_law_plan", .free), ("Stage", .globalImplicit)], isGenerator := false, isCoroutine := false, more := [] }
abbrev lamP18_5 : Arguments := { posonlyargs := [], args := [], vararg := .none, kwonlyargs := [], kw_defaults := [], kwarg := .none, defaults := [] }
abbrev lamB18_5 : Expr := (.Call (.Attribute (.Name "Stage" ⟨490, 35, 490, 40⟩) "replay" ⟨490, 35, 490, 47⟩) [(.Constant (.str "shelf") 0 ⟨490, 48, 490, 55⟩), (.Name "_law_none" ⟨490, 57, 490, 66⟩)] [] ⟨490, 35, 490, 67⟩)
abbrev lamSc18_5 : Scope := { kind := .function, names := [("_law_none", .free), ("Stage", .globalImplicit)], isGenerator := false, isCoroutine := false, more := [] }
abbrev lamP18_6 : Arguments := { posonlyargs := [], args := [⟨"_law_a", .none, ⟨490, 76, 490, 82⟩⟩], vararg := .none, kwonlyargs := [], kw_defaults := [], kwarg := .none, defaults := [(.Constant (.int 0) 0 ⟨490, 83, 490, 84⟩)] }
abbrev lamB18_6 : Expr := (.Call (.Name "Stage" ⟨490, 86, 490, 91⟩) [(.Constant (.str "shelf") 0 ⟨490, 92, 490, 99⟩)] [] ⟨490, 86, 490, 100⟩)
abbrev lamSc18_6 : Scope := { kind := .function, names := [("_law_a", .local), ("Stage", .globalImplicit)], isGenerator := false, isCoroutine := false, more := [] }

theorem bind0 {params : Arguments} (h : params = lamP18_1) : BindD params [] [] := by
  subst h
  exact ⟨rfl, fun _ _ _ _ _ _ _ _ => rfl, fun n => absurd rfl n⟩
theorem bind1 {p : Pos} {e : Expr} : BindD { posonlyargs := [], args := [⟨"_law_a", .none, p⟩], vararg := .none, kwonlyargs := [], kw_defaults := [], kwarg := .none, defaults := [e] } ["_law_a"] [.int 0] := by
  refine ⟨rfl, fun z => (nomatch z), fun _ q body scope cl pm cdv tv t its hl => ?_⟩
  match its, hl with
  | [u], _ =>
    refine ⟨_, rfl, ?_⟩
    rfl
section
variable {P : Program} {w : World} {K : PySem.W.Frag} {mg : Str → Option Value} {base : Heap} {a : Ad}
theorem op_dat {a : Ad} (T : Txt K mg a) {Hc : Hp} {n : Nat} {E : XK} (hE : ∀ C j d H2, Same Hc H2 → DAt d H2 j (.int (n : Nat)) → ErrK K a C j (Str.ofString "operation") → E (.ref C) d H2) (H1 : Hp) (d : Addr) (s : Same Hc H1) (h : H1 d = some (.xd [("place", .int (n : Nat))])) : E (.ref a.X_InvalidOperation) (some d) H1 :=
  hE _ 12 _ _ s (.inr (.inl ⟨d, _, _, rfl, h, by kernel_rfl, by decide, rfl⟩)) (errK_InvalidOperation T)
theorem sf_dat {a : Ad} (T : Txt K mg a) {Hc : Hp} {l c : Nat} {E : XK} (hE : ∀ C j d H2, Same Hc H2 → DAt d H2 j (.tuple [.int (l : Nat), .int (c : Nat)]) → ErrK K a C j (Str.ofString "syntax") → E (.ref C) d H2) : SfE a Hc l c E := fun H1 d fs s h h1 h2 =>
  hE _ 9 _ _ s (.inr (.inr (.inl ⟨d, fs, _, _, rfl, h, h1, h2, rfl, rfl⟩))) (errK_SyntaxFault T)
theorem lamS_1 (T : Txt K mg a) (TD : TDic w K a) {f c' : Addr} {q : Str} {cl : List (Str × Addr)} {cells : List (Addr × Obj)} {H G : Hp} {y dy : Addr} {fs : List (Str × V)} {bv : V} {D : PyData} {ops : List Op}
    (hL : LamAt f c' q lamP18_1 lamB18_1 lamSc18_1 cl [] H) (hF : ∀ p ∈ cells, H p.1 = some (Fz p.2)) (C : CapT cl ["_law_bad", "_law_stage"] [some bv, some (.ref y)] cells) (hy : H y = some (.ins a.C_Stage dy fs)) (hno : fs.lookup (Str.ofString "batch") = none) (hG : Same G H) (hGc : ∀ p ∈ cells, G p.1 = none) (hD : Dp K G bv D) (hM : Mal D ops) : LamSame P w K mg base a 14 f (Str.ofString "operation") (.int (ops.length : Nat)) H := by
  refine lamSame_of (N := ["_law_bad", "_law_stage"]) (ps := []) (fr := ["_law_bad", "_law_stage"]) (ws := [some bv, some (.ref y)]) hL hF (nscope_by (by decide +kernel)) (bind0 rfl) C
    (fun E => tMeth a.C_Stage (Str.ofString "batch") (spBatchM a K) [] (fun cls d H' => E cls d H') (tVar 1) (tCons (tVar 0) tNil))
    (fun A outer s H E hr => pe_meth (pe_var (i := 1) rfl (Or.inr (Or.inr rfl))) T.cl_Stage T.M_Stage_batch (ok_Stage_batchM T TD) (hr.mono (by decide)) (b_Stage_batch T) .nil (passes_call (takes_of rfl rfl rfl rfl) (fun _ _ _ _ h => h)) (pa_cons (pe_var (i := 0) rfl (Or.inr (Or.inr rfl))) pa_nil)) (fun Hc E Q s hE => ?_)
  have yc : y ∉ cells.map (·.1) := fun z => by
    obtain ⟨p, hp, e⟩ := List.mem_map.mp z
    have := hF p hp
    rw [e, hy] at this
    cases this
  have sG : Same G Hc := fun b o e => s _ _ (by
    rw [cut_out (fun z => by obtain ⟨p, hp, e2⟩ := List.mem_map.mp z; rw [← e2, hGc p hp] at e; cases e)]
    exact hG _ _ e)
  exact ⟨_, rfl, y, dy, fs, rfl, s _ _ ((cut_out yc).trans hy), hno, _, rfl, ⟨⟨y, G, bv, D, ops, rfl, sG, hD, hM, op_dat T hE⟩⟩⟩
theorem lamS_3 (T : Txt K mg a) (TD : TDic w K a) {f c' : Addr} {q : Str} {cl : List (Str × Addr)} {cells : List (Addr × Obj)} {H G : Hp} {y dy : Addr} {fs : List (Str × V)} {bv : V} {D : PyData} {ops : List Op}
    (hL : LamAt f c' q lamP18_3 lamB18_3 lamSc18_3 cl [] H) (hF : ∀ p ∈ cells, H p.1 = some (Fz p.2)) (C : CapT cl ["_law_none", "_law_stage"] [some bv, some (.ref y)] cells) (hy : H y = some (.ins a.C_Stage dy fs)) (hno : fs.lookup (Str.ofString "batch") = none) (hG : Same G H) (hGc : ∀ p ∈ cells, G p.1 = none) (hD : Dp K G bv D) (hM : Mal D ops) : LamSame P w K mg base a 14 f (Str.ofString "operation") (.int (ops.length : Nat)) H := by
  refine lamSame_of (N := ["_law_none", "_law_stage"]) (ps := []) (fr := ["_law_none", "_law_stage"]) (ws := [some bv, some (.ref y)]) hL hF (nscope_by (by decide +kernel)) (bind0 rfl) C
    (fun E => tMeth a.C_Stage (Str.ofString "batch") (spBatchM a K) [] (fun cls d H' => E cls d H') (tVar 1) (tCons (tVar 0) tNil))
    (fun A outer s H E hr => pe_meth (pe_var (i := 1) rfl (Or.inr (Or.inr rfl))) T.cl_Stage T.M_Stage_batch (ok_Stage_batchM T TD) (hr.mono (by decide)) (b_Stage_batch T) .nil (passes_call (takes_of rfl rfl rfl rfl) (fun _ _ _ _ h => h)) (pa_cons (pe_var (i := 0) rfl (Or.inr (Or.inr rfl))) pa_nil)) (fun Hc E Q s hE => ?_)
  have yc : y ∉ cells.map (·.1) := fun z => by
    obtain ⟨p, hp, e⟩ := List.mem_map.mp z
    have := hF p hp
    rw [e, hy] at this
    cases this
  have sG : Same G Hc := fun b o e => s _ _ (by
    rw [cut_out (fun z => by obtain ⟨p, hp, e2⟩ := List.mem_map.mp z; rw [← e2, hGc p hp] at e; cases e)]
    exact hG _ _ e)
  exact ⟨_, rfl, y, dy, fs, rfl, s _ _ ((cut_out yc).trans hy), hno, _, rfl, ⟨⟨y, G, bv, D, ops, rfl, sG, hD, hM, op_dat T hE⟩⟩⟩

theorem lamS_2 (T : Txt K mg a) (TD : TDic w K a) {f c' : Addr} {q : Str} {cl : List (Str × Addr)} {cells : List (Addr × Obj)} {H G : Hp} {bv : V} {D : PyData} {ops : List Op} {src : Str} {x : Pl}
    (hL : LamAt f c' q lamP18_2 lamB18_2 lamSc18_2 cl [.int 0] H) (hF : ∀ p ∈ cells, H p.1 = some (Fz p.2)) (C : CapT cl ["_law_bad", "_law_plan"] [some bv, some (.str src)] cells) (hld : Loads src x) (hx : x.Ok) (hlen : ops.length ≤ 1000) (hgood : goodS x (st0 x) ops) (hG : Same G H) (hGc : ∀ p ∈ cells, G p.1 = none) (hD : Dp K G bv D) (hM : Mal D ops) : LamSame P w K mg base a 14 f (Str.ofString "operation") (.int (ops.length : Nat)) H := by
  refine lamSame_of (N := ["_law_a", "_law_bad", "_law_plan"]) (ps := ["_law_a"]) (fr := ["_law_bad", "_law_plan"]) (ws := [some bv, some (.str src)]) hL hF (nscope_by (by decide +kernel)) bind1 C
    (fun E => ClX.tCMeth a.C_Stage (spReplayM a K) (fun cls d H' => E cls d H') (tC (V.ref a.C_Stage)) (tCons (tVar 2) (tCons (tVar 1) tNil)))
    (fun A outer s H E hr => ClX.pe_cmeth (pe_glob (v := V.ref a.C_Stage) rfl T.m_Stage rfl) T.R_Stage_replay T.K_Stage_replay (fnR0 (ok_Stage_replayM T TD) (b_Stage_replay T)) (hr.mono (by decide)) (passes_call (takes_of rfl rfl rfl rfl) (fun _ _ _ _ h => h)) (pa_cons (pe_var (i := 2) rfl (Or.inr (Or.inr rfl))) (pa_cons (pe_var (i := 1) rfl (Or.inr (Or.inr rfl))) pa_nil))) (fun Hc E Q s hE => ?_)
  have sG : Same G Hc := fun b o e => s _ _ (by
    rw [cut_out (fun z => by obtain ⟨p, hp, e2⟩ := List.mem_map.mp z; rw [← e2, hGc p hp] at e; cases e)]
    exact hG _ _ e)
  exact ⟨rfl, _, rfl, _, rfl, ⟨⟨G, src, x, bv, D, ops, rfl, sG, hld, hx, hD, hM, hlen, hgood, op_dat T hE⟩⟩⟩
theorem lamS_4 (T : Txt K mg a) (TD : TDic w K a) {f c' : Addr} {q : Str} {cl : List (Str × Addr)} {cells : List (Addr × Obj)} {H G : Hp} {bv : V} {D : PyData} {ops : List Op} {src : Str} {x : Pl}
    (hL : LamAt f c' q lamP18_4 lamB18_4 lamSc18_4 cl [.int 0] H) (hF : ∀ p ∈ cells, H p.1 = some (Fz p.2)) (C : CapT cl ["_law_none", "_law_plan"] [some bv, some (.str src)] cells) (hld : Loads src x) (hx : x.Ok) (hlen : ops.length ≤ 1000) (hgood : goodS x (st0 x) ops) (hG : Same G H) (hGc : ∀ p ∈ cells, G p.1 = none) (hD : Dp K G bv D) (hM : Mal D ops) : LamSame P w K mg base a 14 f (Str.ofString "operation") (.int (ops.length : Nat)) H := by
  refine lamSame_of (N := ["_law_a", "_law_none", "_law_plan"]) (ps := ["_law_a"]) (fr := ["_law_none", "_law_plan"]) (ws := [some bv, some (.str src)]) hL hF (nscope_by (by decide +kernel)) bind1 C
    (fun E => ClX.tCMeth a.C_Stage (spReplayM a K) (fun cls d H' => E cls d H') (tC (V.ref a.C_Stage)) (tCons (tVar 2) (tCons (tVar 1) tNil)))
    (fun A outer s H E hr => ClX.pe_cmeth (pe_glob (v := V.ref a.C_Stage) rfl T.m_Stage rfl) T.R_Stage_replay T.K_Stage_replay (fnR0 (ok_Stage_replayM T TD) (b_Stage_replay T)) (hr.mono (by decide)) (passes_call (takes_of rfl rfl rfl rfl) (fun _ _ _ _ h => h)) (pa_cons (pe_var (i := 2) rfl (Or.inr (Or.inr rfl))) (pa_cons (pe_var (i := 1) rfl (Or.inr (Or.inr rfl))) pa_nil))) (fun Hc E Q s hE => ?_)
  have sG : Same G Hc := fun b o e => s _ _ (by
    rw [cut_out (fun z => by obtain ⟨p, hp, e2⟩ := List.mem_map.mp z; rw [← e2, hGc p hp] at e; cases e)]
    exact hG _ _ e)
  exact ⟨rfl, _, rfl, _, rfl, ⟨⟨G, src, x, bv, D, ops, rfl, sG, hld, hx, hD, hM, hlen, hgood, op_dat T hE⟩⟩⟩

theorem lamS_5 (T : Txt K mg a) (TD : TDic w K a) {f c' : Addr} {q : Str} {cl : List (Str × Addr)} {cells : List (Addr × Obj)} {H : Hp} {nv : V}
    (hL : LamAt f c' q lamP18_5 lamB18_5 lamSc18_5 cl [] H) (hF : ∀ p ∈ cells, H p.1 = some (Fz p.2)) (C : CapT cl ["_law_none"] [some nv] cells) : LamSame P w K mg base a 14 f (Str.ofString "syntax") (.tuple [.int 1, .int 0]) H := by
  refine lamSame_of (N := ["_law_none"]) (ps := []) (fr := ["_law_none"]) (ws := [some nv]) hL hF (nscope_by (by decide +kernel)) (bind0 rfl) C
    (fun E => ClX.tCMeth a.C_Stage (spReplayS a) (fun cls d H' => E cls d H') (tC (V.ref a.C_Stage)) (tCons (tC (.str (Str.ofString "shelf"))) (tCons (tVar 0) tNil)))
    (fun A outer s H E hr => ClX.pe_cmeth (pe_glob (v := V.ref a.C_Stage) rfl T.m_Stage rfl) T.R_Stage_replay T.K_Stage_replay (fnR0 (ok_Stage_replayS T) (b_Stage_replay T)) (hr.mono (by decide)) (passes_call (takes_of rfl rfl rfl rfl) (fun _ _ _ _ h => h)) (pa_cons pe_str (pa_cons (pe_var (i := 0) rfl (Or.inr (Or.inr rfl))) pa_nil))) (fun Hc E Q s hE => ?_)
  exact ⟨rfl, _, rfl, ⟨⟨_, _, 1, rfl, syn_shelf, sf_dat T hE⟩⟩⟩
theorem lamS_6 (T : Txt K mg a) (TD : TDic w K a) {f c' : Addr} {q : Str} {cl : List (Str × Addr)} {cells : List (Addr × Obj)} {H : Hp}
    (hL : LamAt f c' q lamP18_6 lamB18_6 lamSc18_6 cl [.int 0] H) (hF : ∀ p ∈ cells, H p.1 = some (Fz p.2)) (C : CapT cl [] [] cells) : LamSame P w K mg base a 14 f (Str.ofString "syntax") (.tuple [.int 1, .int 0]) H := by
  refine lamSame_of (N := ["_law_a"]) (ps := ["_law_a"]) (fr := []) (ws := []) hL hF (nscope_by (by decide +kernel)) bind1 C
    (fun E => tMake a.C_Stage (spStageInitX a) [] (fun cls d H' => E cls d H') (tCons (tC (.str (Str.ofString "shelf"))) tNil))
    (fun A outer s H E hr => pe_make T.mk_Stage (ok_Stage_initX T) (hr.mono (by decide)) (by rfl) T.m_Stage (b_Stage_init T) .nil (passes_call (takes_of rfl rfl rfl rfl) (fun _ _ _ _ h => h)) (pa_cons pe_str pa_nil)) (fun Hc E Q s hE => ?_)
  exact fun y dy ny nd ne => ⟨⟨_, _, 1, rfl, syn_shelf, (sf_dat T hE).mono (same_make ny nd ne _)⟩⟩
end
end Sb

namespace Sb

open PySem PySem.Spec PyProof.Rows L2 TL LamX NdefX
/-! ### law k18: its plan, its values -/
def planS18 : Str := "shelf 0 1 0; robot 0 { right; left; } robot 2 { wait; }"
def x18 : Pl := ⟨[0, 1, 0], 0, 2, [⟨1, none⟩, ⟨0, none⟩], [⟨4, none⟩]⟩
theorem okp18 : StepsOk [⟨1, none⟩, ⟨0, none⟩] := ⟨by decide, by decide, fun s hs => by
  simp only [List.mem_cons, List.not_mem_nil, or_false] at hs
  rcases hs with rfl | rfl
  · exact ⟨by decide, fun _ => rfl, fun h => absurd h (by decide)⟩
  · exact ⟨by decide, fun _ => rfl, fun h => absurd h (by decide)⟩⟩
theorem okq18 : StepsOk [⟨4, none⟩] := ⟨by decide, by decide, fun s hs => by
  rw [List.mem_singleton.mp hs]
  exact ⟨by decide, fun _ => rfl, fun h => absurd h (by decide)⟩⟩
theorem ok18 : x18.Ok where
  c3 := by decide
  c12 := by decide
  b3 := by decide
  ha := by decide
  hb := by decide
  ne := by decide
  p := okp18
  q := okq18
theorem lxk {s : Str} {t r : List Nat} {ts : List Tk} (hs : s ∈ kwS) (e : tl s = t) (hr : HeadNot (tl letS) r) (h : Lx r ts) : Lx (t ++ r) (kwT s :: ts) := by
  rw [← e]; exact lx_kw hs hr h
theorem lxn {n : Nat} {t r : List Nat} {ts : List Tk} (hn : n < 100) (e : numL n = t) (hr : HeadNot (tl digS) r) (h : Lx r ts) : Lx (t ++ r) (numT n :: ts) := by
  rw [← e]; exact lx_num hn hr h
theorem loads18 : Loads planS18 x18 := by
  have e : tl planS18 = [115, 104, 101, 108, 102] ++ (32 :: ([48] ++ (32 :: ([49] ++ (32 :: ([48] ++ (59 :: 32 :: ([114, 111, 98, 111, 116] ++ (32 :: ([48] ++ (32 :: 123 :: 32 :: ([114, 105, 103, 104, 116] ++ (59 :: 32 :: ([108, 101, 102, 116] ++ (59 :: 32 :: 125 :: 32 :: ([114, 111, 98, 111, 116] ++ (32 :: ([50] ++ (32 :: 123 :: 32 :: ([119, 97, 105, 116] ++ [59, 32, 125]))))))))))))))))))))  := by decide +kernel
  have L : Lx (tl planS18) (planT x18 (cans (goalsOf x18.p) 0 x18.p) (cans (goalsOf x18.q) 0 x18.q)) := by
    rw [e]
    have l32 : ∀ r, HeadNot (tl letS) (32 :: r) := fun r => headNot_cons no_let32
    have l59 : ∀ r, HeadNot (tl letS) (59 :: r) := fun r => headNot_cons no_let59
    have d32 : ∀ r, HeadNot (tl digS) (32 :: r) := fun r => headNot_cons no_dig32
    have d59 : ∀ r, HeadNot (tl digS) (59 :: r) := fun r => headNot_cons no_dig59
    exact lxk (s := "shelf") shelf_kw (by decide +kernel) (l32 _) (Lx.sp (lxn (n := 0) (by decide) (by decide +kernel) (d32 _) (Lx.sp (lxn (n := 1) (by decide) (by decide +kernel) (d32 _) (Lx.sp (lxn (n := 0) (by decide) (by decide +kernel) (d59 _) (lx_sg sg59 (Lx.sp
      (lxk (s := "robot") robot_kw (by decide +kernel) (l32 _) (Lx.sp (lxn (n := 0) (by decide) (by decide +kernel) (d32 _) (Lx.sp (lx_sg sg123 (Lx.sp
      (lxk (s := wS 1) (w_kw (by decide)) (by decide +kernel) (l59 _) (lx_sg sg59 (Lx.sp
      (lxk (s := wS 0) (w_kw (by decide)) (by decide +kernel) (l59 _) (lx_sg sg59 (Lx.sp (lx_sg sg125 (Lx.sp
      (lxk (s := "robot") robot_kw (by decide +kernel) (l32 _) (Lx.sp (lxn (n := 2) (by decide) (by decide +kernel) (d32 _) (Lx.sp (lx_sg sg123 (Lx.sp
      (lxk (s := wS 4) (w_kw (by decide)) (by decide +kernel) (l59 _) (lx_sg sg59 (Lx.sp (lx_sg sg125 .nil))))))))))))))))))))))))))))))))
  refine ⟨⟨_, _, [tl planS18], [planT x18 (cans (goalsOf x18.p) 0 x18.p) (cans (goalsOf x18.q) 0 x18.q)], rfl, by simp, ?_, ?_, ?_, .cons L .nil, by simp, cans_ok okp18, cans_ok okq18⟩⟩
  · intro r hr
    rw [List.mem_singleton.mp hr]
    decide +kernel
  · intro r hr
    rw [List.mem_singleton.mp hr]
    decide +kernel
  · decide +kernel
def goodL18 : List Op := [.step 1, .undo, .redo, .jump 0 1, .step 0, .step 5]
theorem good18 : ∀ (os : List Op) (s : Stt), (∀ o ∈ os, o ∈ goodL18) → goodS x18 s os
  | [], _, _ => trivial
  | o :: os, s, h => ⟨by
    have m := h o List.mem_cons_self
    simp only [goodL18, List.mem_cons, List.not_mem_nil, or_false] at m
    rcases m with rfl | rfl | rfl | rfl | rfl | rfl <;> rfl, good18 os _ fun q hq => h q (List.mem_cons_of_mem _ hq)⟩
def oddD : List PyData := [.tuple [], .tuple [.str (Str.ofString "step")], .tuple [.str (Str.ofString "add")], .tuple [.str (Str.ofString "take"), .int 0, .int 1], .tuple [.str (Str.ofString "jump"), .int 0], .tuple [.str (Str.ofString "undo"), .int 1], .tuple [.str (Str.ofString "redo"), .int 0], .tuple [.str (Str.ofString "save"), .str (Str.ofString "a")],
  .list [.str (Str.ofString "undo")], .none, .str (Str.ofString "undo"), .int 5, .tuple [.int 5, .int 1], .tuple [.str (Str.ofString "step"), .int 1, .int 1], .tuple [.str (Str.ofString "jump"), .int 0, .int 0, .int 0]]
theorem odd_bad : ∀ d ∈ oddD, BadOp d := by
  intro d hd
  simp only [oddD, List.mem_cons, List.not_mem_nil, or_false] at hd
  rcases hd with rfl | rfl | rfl | rfl | rfl | rfl | rfl | rfl | rfl | rfl | rfl | rfl | rfl | rfl | rfl
  · exact .nil
  · exact .len _ _ 2 (by decide +kernel) (.inl ⟨rfl, rfl⟩) (by decide)
  · exact .len _ _ 2 (by decide +kernel) (.inr (.inl ⟨rfl, rfl⟩)) (by decide)
  · exact .len _ _ 2 (by decide +kernel) (.inr (.inr (.inl ⟨rfl, rfl⟩))) (by decide)
  · exact .len _ _ 3 (by decide +kernel) (.inr (.inr (.inr (.inl ⟨rfl, rfl⟩)))) (by decide)
  · exact .len _ _ 1 (by decide +kernel) (.inr (.inr (.inr (.inr (.inl ⟨rfl, rfl⟩))))) (by decide)
  · exact .len _ _ 1 (by decide +kernel) (.inr (.inr (.inr (.inr (.inr ⟨rfl, rfl⟩))))) (by decide)
  · exact .save _ (by decide +kernel)
  · exact .list _
  · exact .non
  · exact .str _
  · exact .int _
  · exact .head _ _ (by decide +kernel)
  · exact .len _ _ 2 (by decide +kernel) (.inl ⟨rfl, rfl⟩) (by decide)
  · exact .len _ _ 3 (by decide +kernel) (.inr (.inr (.inr (.inl ⟨rfl, rfl⟩)))) (by decide)
theorem DpAll.monoV {K : PySem.W.Frag} {G G' : Hp} (s : Same G G') : ∀ {vs : List V} {ds : List PyData}, DpAll K G vs ds → DpAll K G' vs ds
  | _, _, .nil => .nil
  | _, _, .cons h r => .cons (Dp.mono s _ _ h) (DpAll.monoV s r)
section
variable {a : Ad} {K : PySem.W.Frag} {d y p u sd : Addr} {G H : Hp} {x : Pl} {s : Stt} {vs xs : List V} {ds es : List PyData} {t : Addr}
theorem accO (X : SXT a K d G H y p u sd x s) (ht : H t = none) (o : HO) : SXT a K d (upd G t o) (upd H t o) y p u sd x s ∧ Same G (upd G t o) :=
  ⟨X.pure ((Mv.start X.sx.now.s).new ht o), same_new (Same.free X.sx.now.s ht)⟩
theorem accT (X : SXT a K d G H y p u sd x s) (D : DpAll K G vs ds) (he : DpAll K G xs es) (ht : H t = none) : ∃ G', SXT a K d G' (upd H t (.tup xs)) y p u sd x s ∧ Same G G' ∧ DpAll K G' (vs ++ [.ref t]) (ds ++ [.tuple es]) := by
  obtain ⟨X1, s1⟩ := accO X ht (.tup xs)
  exact ⟨_, X1, s1, DpAll.snoc (DpAll.monoV s1 D) (.tup (SqT.of upd_same) (DpAll.monoV s1 he))⟩
theorem accE (X : SXT a K d G H y p u sd x s) (D : DpAll K G vs ds) (he : DpAll K G xs es) (ht : H t = none) : ∃ G', SXT a K d G' (upd H t (.lst xs)) y p u sd x s ∧ Same G G' ∧ DpAll K G' (vs ++ [.ref t]) (ds ++ [.list es]) := by
  obtain ⟨X1, s1⟩ := accO X ht (.lst xs)
  exact ⟨_, X1, s1, DpAll.snoc (DpAll.monoV s1 D) (.lst (SqL.of upd_same) (DpAll.monoV s1 he))⟩
theorem accL (X : SXT a K d G H y p u sd x s) (D : DpAll K G vs ds) (ht : H t = none) : ∃ G', SXT a K d G' (upd H t (.lst vs)) y p u sd x s ∧ Same G G' ∧ DpAll K G' vs ds ∧ G' t = some (.lst vs) := by
  obtain ⟨X1, s1⟩ := accO X ht (.lst vs)
  exact ⟨_, X1, s1, DpAll.monoV s1 D, upd_same⟩
theorem layO (n : Int) : Lay 1 (.tuple [.str "operation", .int n]) := Lay.tuple (lay2 (.str (by decide +kernel)) (.int _))
theorem layS : Lay 2 (.tuple [.str "syntax", .tuple [.int 1, .int 0]]) := Lay.tuple (lay2 (.str (by decide +kernel)) (Lay.tuple (lay2 (.int _) (.int _))))
theorem SXT.freezeL {R : Addr} (X : SXT a K d G H y p u sd x s) (hR : H R = some (.lst xs)) (gR : G R = none) (n : R ≠ d ∧ R ≠ y ∧ R ≠ p ∧ R ≠ u) : SXT a K d (upd G R (.lst xs)) H y p u sd x s :=
  ⟨X.sx.freeze hR gR n, ⟨X.t.tb, fun b hb => by
    obtain ⟨ps, h1⟩ := tbs_atV X.t.tb hb
    rw [upd_ne (fun z => by rw [z, hR] at h1; cases h1)]
    exact X.t.gt b hb⟩⟩
theorem trk_pack {cells : List (Addr × Obj)} {H4 : Hp} (X : SXT a K d G H y p u sd x s) (Tr : Trk cells H H4) : Same H H4 ∧ Same G H4 ∧ (∀ q ∈ cells, G q.1 = none) ∧ ∀ H', Same H4 H' → SXT a K d G (cut (cells.map (·.1)) H') y p u sd x s := by
  have nc : ∀ {b : Addr} {o : HO}, H b = some o → b ∉ cells.map (·.1) := fun {b o} e z => by
    obtain ⟨q, hq, e2⟩ := List.mem_map.mp z
    rw [← e2, Tr.was q hq] at e
    cases e
  have s34 : Same H H4 := fun b o e => by rw [Tr.out b (nc e)]; exact e
  refine ⟨s34, X.sx.now.s.trans s34, fun q hq => Same.free X.sx.now.s (Tr.was q hq), fun H' s4 => ?_⟩
  have sm : Same H (cut (cells.map (·.1)) H') := fun b o e => by
    rw [cut_out (nc e)]
    exact s4 _ _ (s34 _ _ e)
  exact X.pure ((Mv.start X.sx.now.s).pure (Ext.ofSame X.sx.now.s sm) sm)
theorem lam_tb {H H' : Hp} (X : SXT a K d G H y p u sd x s) (k : ∀ b o, b ≠ a.tb_law → H b = some o → H' b = some o) : (∀ b o, b ∉ tbs a → H b = some o → H' b = some o) ∧ ∀ b o, H b = some o → (∀ ps, o ≠ .tbl ps) → H' b = some o :=
  ⟨fun b o hb e => k b o (fun z => hb (by rw [z]; exact List.mem_cons_self)) e, fun b o e ne => k b o (fun z => by
    obtain ⟨ps, q⟩ := tbs_atV X.t.tb (show a.tb_law ∈ tbs a from List.mem_cons_self)
    rw [z, q] at e
    cases e
    exact ne _ rfl) e⟩
end
end Sb

namespace Sb

open PySem PySem.Spec PyProof.Rows L2 TL LamX NdefX
/-! ### law k18 -/
section
variable {X : Cx} {a : Ad} {params : Arguments} {body : Expr} {scope : Scope} {pos : Pos}
theorem pe_lam0L (TB : Tbl X.mg X.base a) (fre : ∀ y ∈ scope.names, y.2 = .free → X.env.scope.names.lookup y.1 = some .cell ∨ X.env.scope.names.lookup y.1 = some .free) (hq : X.env.qual ++ "<lambda>" = Str.ofString "law" ++ ".<locals>." ++ "<lambda>") (hc : X.env.code = .ref a.cc_law) (hdef : defaultsOf params X.env = ([], []) := by rfl) :
    PE X (.Lambda params body scope pos) (tLamW (Ts a) a.tb_law (X.env.qual ++ "<lambda>") params body scope (cloFrom X.env.cells scope.names []) []) :=
  pe_lam0 TB.t_law hc (by rw [hq]; exact List.mem_cons_self) (fun p hp e => by
    simp only [Ts, List.mem_cons, List.not_mem_nil, or_false] at hp
    subst hp
    exact hq.symm) hdef fre
theorem pe_lam1L {n : Int} {j : Nat} {dp : Pos} (TB : Tbl X.mg X.base a) (fre : ∀ y ∈ scope.names, y.2 = .free → X.env.scope.names.lookup y.1 = some .cell ∨ X.env.scope.names.lookup y.1 = some .free) (hq : X.env.qual ++ "<lambda>" = Str.ofString "law" ++ ".<locals>." ++ "<lambda>") (hc : X.env.code = .ref a.cc_law) (hdef : defaultsOf params X.env = ([eval (.Constant (.int n) j dp) X.env], []) := by rfl) (hkw : params.kwonlyargs = [] := by rfl) :
    PE X (.Lambda params body scope pos) (tLamW (Ts a) a.tb_law (X.env.qual ++ "<lambda>") params body scope (cloFrom X.env.cells scope.names []) [.int n]) :=
  pe_lam1 (kwo := []) TB.t_law hc (by rw [hq]; exact List.mem_cons_self) (fun p hp e => by
    simp only [Ts, List.mem_cons, List.not_mem_nil, or_false] at hp
    subst hp
    exact hq.symm) hdef hkw fre
end
theorem fre18_1 : ∀ y ∈ lamSc18_1.names, y.2 = .free → (defScope s_law).names.lookup y.1 = some .cell ∨ (defScope s_law).names.lookup y.1 = some .free := by decide +kernel
theorem fre18_2 : ∀ y ∈ lamSc18_2.names, y.2 = .free → (defScope s_law).names.lookup y.1 = some .cell ∨ (defScope s_law).names.lookup y.1 = some .free := by decide +kernel
theorem fre18_3 : ∀ y ∈ lamSc18_3.names, y.2 = .free → (defScope s_law).names.lookup y.1 = some .cell ∨ (defScope s_law).names.lookup y.1 = some .free := by decide +kernel
theorem fre18_4 : ∀ y ∈ lamSc18_4.names, y.2 = .free → (defScope s_law).names.lookup y.1 = some .cell ∨ (defScope s_law).names.lookup y.1 = some .free := by decide +kernel
theorem fre18_5 : ∀ y ∈ lamSc18_5.names, y.2 = .free → (defScope s_law).names.lookup y.1 = some .cell ∨ (defScope s_law).names.lookup y.1 = some .free := by decide +kernel
theorem fre18_6 : ∀ y ∈ lamSc18_6.names, y.2 = .free → (defScope s_law).names.lookup y.1 = some .cell ∨ (defScope s_law).names.lookup y.1 = some .free := by decide +kernel
def Tl18_1 : List Capt := [(lamSc18_1, ["_law_bad", "_law_stage"], [9, 3]), (lamSc18_2, ["_law_bad", "_law_plan"], [9, 2])]
theorem hTs18_1 : ∀ q ∈ Tl18_1, (∀ y ∈ q.1.names, y.2 = .free → (defScope s_law).names.lookup y.1 = some .cell ∨ (defScope s_law).names.lookup y.1 = some .free) ∧ (∀ y ∈ q.2.1, (y, NameKind.free) ∈ q.1.names) ∧ q.2.2.map (fun j => (["_law_script", "_law_d", "_law_plan", "_law_stage", "_law_odd", "_law_good", "_law_operations", "_law_k", "_law_at", "_law_bad", "_law_calls", "_law_none"] : List Str)[j]?) = q.2.1.map some := by decide +kernel
def Tl18_2 : List Capt := [(lamSc18_3, ["_law_none", "_law_stage"], [11, 3]), (lamSc18_4, ["_law_none", "_law_plan"], [11, 2])]
theorem hTs18_2 : ∀ q ∈ Tl18_2, (∀ y ∈ q.1.names, y.2 = .free → (defScope s_law).names.lookup y.1 = some .cell ∨ (defScope s_law).names.lookup y.1 = some .free) ∧ (∀ y ∈ q.2.1, (y, NameKind.free) ∈ q.1.names) ∧ q.2.2.map (fun j => (["_law_script", "_law_d", "_law_plan", "_law_stage", "_law_odd", "_law_good", "_law_operations", "_law_k", "_law_at", "_law_bad", "_law_calls", "_law_none"] : List Str)[j]?) = q.2.1.map some := by decide +kernel
def Tl18_3 : List Capt := [(lamSc18_5, ["_law_none"], [11]), (lamSc18_6, [], [])]
theorem hTs18_3 : ∀ q ∈ Tl18_3, (∀ y ∈ q.1.names, y.2 = .free → (defScope s_law).names.lookup y.1 = some .cell ∨ (defScope s_law).names.lookup y.1 = some .free) ∧ (∀ y ∈ q.2.1, (y, NameKind.free) ∈ q.1.names) ∧ q.2.2.map (fun j => (["_law_script", "_law_d", "_law_plan", "_law_stage", "_law_odd", "_law_good", "_law_operations", "_law_k", "_law_at", "_law_bad", "_law_calls", "_law_none"] : List Str)[j]?) = q.2.1.map some := by decide +kernel
def spLaw (a : Ad) (K : PySem.W.Frag) : Sp := fun vs H Q _ => ∃ (sc : Addr) (ns : List Int), vs = [.ref sc] ∧ SqL K H sc (ns.map V.int) ∧ ns.length ≤ 63 ∧ Tabs (Ts a) H ∧ ∀ H', Q (.bl true) H'
section
variable {P : Program} {w : World} {K : PySem.W.Frag} {mg : Str → Option Value} {base : Heap} {a : Ad}
theorem ok_law (T : Txt K mg a) (TB : Tbl mg base a) (TD : TDic w K a) : FnOk P w K mg base CX0 20 a.f_law a.d_law ["_law_script"] (spLaw a K) := by
  refine fun_okC T.F_law T.ce_law sc_law (fun vs H Q E h => ?_) (fun A outer s H vs Q E hr h => ?_)
  · obtain ⟨sc, ns, rfl, _⟩ := h
    rfl
  · obtain ⟨sc, ns, rfl, hsc, hns, hTab, k⟩ := h
    refine ⟨_, (pss_cons (ps_set (i := 1) sc_law.nd rfl (Or.inr rfl) (pe_call (ok_l_random T) (hr.mono (by decide)) rfl T.m_l_random T.F_l_random.kp (b_l_random T) .nil pass0 (pa_cons (pv 0) (pa_cons pe_int pa_nil))))
      (pss_cons (ps_set (i := 2) sc_law.nd rfl (Or.inr rfl) pe_str)
      (pss_cons (ps_set (i := 3) sc_law.nd rfl (Or.inr rfl) (pe_make T.mk_Stage (ok_Stage_init T) (hr.mono (by decide)) (by rfl) T.m_Stage (b_Stage_init T) .nil pass0 (pa_cons (pv 2) pa_nil)))
      (pss_cons (ps_set (i := 4) sc_law.nd rfl (Or.inl rfl) (pe_lst (pa_cons (pe_tup pa_nil) (pa_cons (pe_tup (pa_cons pe_str pa_nil)) (pa_cons (pe_tup (pa_cons pe_str pa_nil)) (pa_cons (pe_tup (pa_cons pe_str (pa_cons pe_int (pa_cons pe_int pa_nil)))) (pa_cons (pe_tup (pa_cons pe_str (pa_cons pe_int pa_nil))) (pa_cons (pe_tup (pa_cons pe_str (pa_cons pe_int pa_nil))) (pa_cons (pe_tup (pa_cons pe_str (pa_cons pe_int pa_nil))) (pa_cons (pe_tup (pa_cons pe_str (pa_cons pe_str pa_nil))) pa_nil))))))))))
      (pss_cons (ps_set (i := 4) sc_law.nd rfl (Or.inl rfl) (pe_op op_cat (pv 4) (pe_lst (pa_cons (pe_lst (pa_cons pe_str pa_nil)) (pa_cons pe_non (pa_cons pe_str (pa_cons pe_int (pa_cons (pe_tup (pa_cons pe_int (pa_cons pe_int pa_nil))) (pa_cons (pe_tup (pa_cons pe_str (pa_cons pe_int (pa_cons pe_int pa_nil)))) (pa_cons (pe_tup (pa_cons pe_str (pa_cons pe_int (pa_cons pe_int (pa_cons pe_int pa_nil))))) pa_nil))))))))))
      (pss_cons (ps_set (i := 5) sc_law.nd rfl (Or.inr rfl) (pe_lst (pa_cons (pe_tup (pa_cons pe_str (pa_cons pe_int pa_nil))) (pa_cons (pe_tup (pa_cons pe_str pa_nil)) (pa_cons (pe_tup (pa_cons pe_str pa_nil)) (pa_cons (pe_tup (pa_cons pe_str (pa_cons pe_int (pa_cons pe_int pa_nil)))) (pa_cons (pe_tup (pa_cons pe_str (pa_cons pe_int pa_nil))) (pa_cons (pe_tup (pa_cons pe_str (pa_cons pe_int pa_nil))) pa_nil))))))))
      (pss_cons (ps_setLc (i := 6) (own := [("_law_k", 7)]) (g := gName 7) (te := (tOp (rIxL K) (tVar 5) (tCall _ [] E0 (tCons (tVar 1) (tCons (tC _) tNil))))) (tt := tYes) rfl sc_law.nd rfl rfl (sw_true rfl rfl rfl (by decide +kernel)) (pi_range1 (by rfl) T.z_range (pa_cons (pe_call (ok_l_below T) (hr.mono (by decide)) rfl T.m_l_below T.F_l_below.kp (b_l_below T) .nil pass0 (pa_cons (pv 1) (pa_cons pe_int pa_nil))) pa_nil)) (blkOk_by (own := [("_law_k", 7)]) (N := ["_law_script", "_law_d", "_law_plan", "_law_stage", "_law_odd", "_law_good", "_law_operations", "_law_k", "_law_at", "_law_bad", "_law_calls", "_law_none"]) (sc := (defScope s_law)) (by decide +kernel)) (fun _ _ _ _ _ => (pg_name (i := 7) sc_law.nd rfl (Or.inl rfl))) (fun _ _ _ _ _ => pts_nil) (fun _ _ _ _ _ => by exact (pe_ix ix_list (pv 5) (pe_call (ok_l_below T) (hr.mono (by decide)) rfl T.m_l_below T.F_l_below.kp (b_l_below T) .nil pass0 (pa_cons (pv 1) (pa_cons pe_int pa_nil))) (fun _ _ => rfl))))
      (pss_cons (ps_set (i := 8) sc_law.nd rfl (Or.inl rfl) (pe_call (ok_l_below T) (hr.mono (by decide)) rfl T.m_l_below T.F_l_below.kp (b_l_below T) .nil pass0 (pa_cons (pv 1) (pa_cons (pe_op op_add (pe_callB call_len_seq (by rfl) T.z_len (by decide +kernel) (pa_cons (pv 6) pa_nil)) pe_int) pa_nil))))
      (pss_cons (ps_set (i := 9) sc_law.nd rfl (Or.inr rfl) (pe_op op_cat (pe_op op_cat (pe_slice sl_list (pv 6) po_none (po_some (pv 8))) (pe_lst (pa_cons (pe_ix ix_list (pv 4) (pe_call (ok_l_below T) (hr.mono (by decide)) rfl T.m_l_below T.F_l_below.kp (b_l_below T) .nil pass0 (pa_cons (pv 1) (pa_cons pe_int pa_nil))) (fun _ _ => rfl)) pa_nil))) (pe_slice sl_list (pv 6) (po_some (pv 8)) po_none)))
      (pss_cons (ps_set (i := 10) sc_law.nd rfl (Or.inl rfl) (pe_lst (pa_cons (pe_lam0L TB fre18_1 rfl rfl) (pa_cons (pe_lam1L TB fre18_2 rfl rfl) pa_nil))))
      (pss_cons (ps_if (pt_not (pt_val (pe_callT (Ts := Tl18_1) (ok_l_all_raise (P := P) (w := w) (base := base) T 14) (hr.mono (by decide)) rfl T.m_l_all_raise T.F_l_all_raise.kp (b_l_all_raise T) (pa_cons (pv 10) (pa_cons (pe_tup (pa_cons pe_str (pa_cons (pv 8) pa_nil))) pa_nil)) (fun _ => rfl) hTs18_1))) (pss_one (ps_ret pe_bl)) pss_nil)
      (pss_cons (ps_set (i := 11) sc_law.nd rfl (Or.inr rfl) (pe_ix ix_list (pe_lst (pa_cons pe_non (pa_cons (pe_tup pa_nil) (pa_cons pe_int (pa_cons pe_str (pa_cons (pe_callTy call_tuple_of (by rfl) T.z_tuple (by decide +kernel) (pa_cons (pv 6) pa_nil)) (pa_cons (pe_tup (pa_cons pe_str pa_nil)) pa_nil))))))) (pe_call (ok_l_below T) (hr.mono (by decide)) rfl T.m_l_below T.F_l_below.kp (b_l_below T) .nil pass0 (pa_cons (pv 1) (pa_cons pe_int pa_nil))) (fun _ _ => rfl)))
      (pss_cons (ps_set (i := 10) sc_law.nd rfl (Or.inl rfl) (pe_lst (pa_cons (pe_lam0L TB fre18_3 rfl rfl) (pa_cons (pe_lam1L TB fre18_4 rfl rfl) pa_nil))))
      (pss_cons (ps_if (pt_not (pt_val (pe_callT (Ts := Tl18_2) (ok_l_all_raise (P := P) (w := w) (base := base) T 14) (hr.mono (by decide)) rfl T.m_l_all_raise T.F_l_all_raise.kp (b_l_all_raise T) (pa_cons (pv 10) (pa_cons (pe_tup (pa_cons pe_str (pa_cons pe_int pa_nil))) pa_nil)) (fun _ => rfl) hTs18_2))) (pss_one (ps_ret pe_bl)) pss_nil)
      (pss_cons (ps_if (pt_not (pt_val (pe_callT (Ts := Tl18_3) (ok_l_all_raise (P := P) (w := w) (base := base) T 14) (hr.mono (by decide)) rfl T.m_l_all_raise T.F_l_all_raise.kp (b_l_all_raise T) (pa_cons (pe_lst (pa_cons (pe_lam0L TB fre18_5 rfl rfl) (pa_cons (pe_lam1L TB fre18_6 rfl rfl) pa_nil))) (pa_cons (pe_tup (pa_cons pe_str (pa_cons (pe_tup (pa_cons pe_int (pa_cons pe_int pa_nil))) pa_nil))) pa_nil)) (fun _ => rfl) hTs18_3))) (pss_one (ps_ret pe_bl)) pss_nil)
      (pss_one (ps_ret (pe_and (pe_cmpR (op_eqD hr.units) (pe_prop (pv 3) T.cl_Stage T.P_Stage_operations (ok_Stage_operations T) (hr.mono (by decide)) (b_Stage_operations T) .nil pass0 rfl) (pe_lst pa_nil) (nomark _)) (pe_and (pe_cmpR (op_eqD hr.units) (pe_meth (pv 3) T.cl_Stage T.M_Stage_batch (ok_Stage_batch T TD) (hr.mono (by decide)) (b_Stage_batch T) .nil pass0 (pa_cons (pe_lst pa_nil) pa_nil)) (pe_lst pa_nil) (nomark _)) (pe_one (pe_callB call_isi (by rfl) T.z_isinstance (by decide +kernel) (pa_cons (ClX.pe_cmeth (pe_glob (v := V.ref a.C_Stage) rfl T.m_Stage rfl) T.R_Stage_replay T.K_Stage_replay (fnR0 (ok_Stage_replay T TD) (b_Stage_replay T)) (hr.mono (by decide)) pass0 (pa_cons (pv 2) (pa_cons (pv 6) pa_nil))) (pa_cons (pe_glob (v := V.ref a.C_Stage) rfl T.m_Stage rfl) pa_nil))))))))))))))))))))))), ?_⟩
    --WALK
    refine ⟨_, rfl, sc, ns, 18, rfl, hsc, hns, by decide, fun H1 d ds s1 d0 hd hsrc => ?_⟩
    have N1 : Now d (fun _ => none) H1 := ⟨(fun _ _ e => nomatch e), rfl, ds, hd, hsrc⟩
    have TX1 : TbX a (fun _ => none) H1 := ⟨hTab.ext s1, fun _ _ => rfl⟩
    dsimp only [gName]
    -- the stage
    refine ⟨_, rfl, ?_⟩
    intro y dy ny nd ne
    have M2 : Mv [] (fun _ => none) H1 (fun _ => none) _ := ((Mv.start N1.s).lay nd (.own y)).lay (make_free ny ne) (.ins a.C_Stage dy [])
    have TX2 := TX1.mv M2 (fun b m => nomatch m)
    refine ⟨⟨y, dy, fun _ => none, planS18, x18, rfl, upd_same, rfl, M2.s, loads18, ok18, fun G H p u sd M5 hp hu hsd hsd5 gsd5 sdp sdu S5 => ⟨rfl, ?_⟩⟩⟩
    have N2 := N1.far M2 (fun m => nomatch m)
    have N5 := N2.far M5 (fun m => N1.ne ny (List.mem_singleton.mp m).symm)
    have TX5 := TX2.mv M5 fun b m => .inr ⟨.ins a.C_Stage dy [], by rw [List.mem_singleton.mp m]; exact upd_same, ord_ins⟩
    obtain ⟨ds5, hd5, _⟩ := N2.x
    have X : SXT a K d G H y p u sd x18 (st0 x18) := ⟨⟨N5, S5, ne_of_none hd5 hp, ne_of_none hd5 hu⟩, TX5⟩
    clear M5 N5 TX5 S5 hd5 N2 TX2 M2 hsd5
    dsimp only [gName]
    -- the odd values
    have D : DpAll K G [] [] := .nil
    refine ⟨(by show 0 ≤ sizeLine; decide), fun t ht => ?_⟩
    obtain ⟨G, X, _, D⟩ := accT X D (xs := []) (es := []) .nil ht
    refine ⟨(by show 1 ≤ sizeLine; decide), fun t ht => ?_⟩
    obtain ⟨G, X, _, D⟩ := accT X D (xs := [.str "step"]) (es := [.str "step"]) (.cons (.str _) .nil) ht
    refine ⟨(by show 1 ≤ sizeLine; decide), fun t ht => ?_⟩
    obtain ⟨G, X, _, D⟩ := accT X D (xs := [.str "add"]) (es := [.str "add"]) (.cons (.str _) .nil) ht
    refine ⟨(by show 3 ≤ sizeLine; decide), fun t ht => ?_⟩
    obtain ⟨G, X, _, D⟩ := accT X D (xs := [.str "take", .int 0, .int 1]) (es := [.str "take", .int 0, .int 1]) (.cons (.str _) (.cons (.int _) (.cons (.int _) .nil))) ht
    refine ⟨(by show 2 ≤ sizeLine; decide), fun t ht => ?_⟩
    obtain ⟨G, X, _, D⟩ := accT X D (xs := [.str "jump", .int 0]) (es := [.str "jump", .int 0]) (.cons (.str _) (.cons (.int _) .nil)) ht
    refine ⟨(by show 2 ≤ sizeLine; decide), fun t ht => ?_⟩
    obtain ⟨G, X, _, D⟩ := accT X D (xs := [.str "undo", .int 1]) (es := [.str "undo", .int 1]) (.cons (.str _) (.cons (.int _) .nil)) ht
    refine ⟨(by show 2 ≤ sizeLine; decide), fun t ht => ?_⟩
    obtain ⟨G, X, _, D⟩ := accT X D (xs := [.str "redo", .int 0]) (es := [.str "redo", .int 0]) (.cons (.str _) (.cons (.int _) .nil)) ht
    refine ⟨(by show 2 ≤ sizeLine; decide), fun t ht => ?_⟩
    obtain ⟨G, X, _, D⟩ := accT X D (xs := [.str "save", .str "a"]) (es := [.str "save", .str "a"]) (.cons (.str _) (.cons (.str _) .nil)) ht
    refine ⟨(by show 8 ≤ sizeLine; decide), fun lo hlo => ?_⟩
    obtain ⟨G, X, _, D8, hlo⟩ := accL X D hlo
    dsimp only [gName]
    --PART2
    refine ⟨_, rfl, ?_⟩
    have D : DpAll K G [] [] := .nil
    obtain ⟨G8, eG8⟩ : ∃ G8, G8 = G := ⟨_, rfl⟩
    have s8 : Same G8 G := by rw [eG8]; exact Same.refl _
    rw [← eG8] at D8 hlo
    refine ⟨(by show 1 ≤ sizeLine; decide), fun t ht => ?_⟩
    obtain ⟨G, X, sg, D⟩ := accE X D (xs := [.str "undo"]) (es := [.str "undo"]) (.cons (.str _) .nil) ht
    replace s8 := s8.trans sg
    replace D := DpAll.snoc D (show Dp K G (.non) (.none) from .non)
    replace D := DpAll.snoc D (show Dp K G (.str "undo") (.str "undo") from .str _)
    replace D := DpAll.snoc D (show Dp K G (.int 5) (.int 5) from .int _)
    refine ⟨(by show 2 ≤ sizeLine; decide), fun t ht => ?_⟩
    obtain ⟨G, X, sg, D⟩ := accT X D (xs := [.int 5, .int 1]) (es := [.int 5, .int 1]) (.cons (.int _) (.cons (.int _) .nil)) ht
    replace s8 := s8.trans sg
    refine ⟨(by show 3 ≤ sizeLine; decide), fun t ht => ?_⟩
    obtain ⟨G, X, sg, D⟩ := accT X D (xs := [.str "step", .int 1, .int 1]) (es := [.str "step", .int 1, .int 1]) (.cons (.str _) (.cons (.int _) (.cons (.int _) .nil))) ht
    replace s8 := s8.trans sg
    refine ⟨(by show 4 ≤ sizeLine; decide), fun t ht => ?_⟩
    obtain ⟨G, X, sg, D⟩ := accT X D (xs := [.str "jump", .int 0, .int 0, .int 0]) (es := [.str "jump", .int 0, .int 0, .int 0]) (.cons (.str _) (.cons (.int _) (.cons (.int _) (.cons (.int _) .nil)))) ht
    replace s8 := s8.trans sg
    refine ⟨(by show 7 ≤ sizeLine; decide), fun l2 hl2 => ?_⟩
    obtain ⟨G, X, sg, D7, hl2⟩ := accL X D hl2
    replace s8 := s8.trans sg
    have hlo' := s8 _ _ hlo
    refine ⟨lo, l2, _, _, rfl, rfl, X.sx.now.s _ _ hlo', X.sx.now.s _ _ hl2, (by show 8 + 7 ≤ sizeLine; decide), fun l3 hl3 => ?_⟩
    have D15 := DpAll.append (DpAll.monoV s8 D8) D7
    obtain ⟨G, X, sg, D15, hl3⟩ := accL X D15 hl3
    dsimp only [gName]
    --PART3
    have D : DpAll K G [] [] := .nil
    obtain ⟨G9, eG9⟩ : ∃ G9, G9 = G := ⟨_, rfl⟩
    have s8 : Same G9 G := by rw [eG9]; exact Same.refl _
    rw [← eG9] at D15 hl3
    refine ⟨(by show 2 ≤ sizeLine; decide), fun t ht => ?_⟩
    obtain ⟨G, X, sg, D⟩ := accT X D (xs := [.str "step", .int 1]) (es := [.str "step", .int 1]) (.cons (.str _) (.cons (.int _) .nil)) ht
    replace s8 := s8.trans sg
    refine ⟨(by show 1 ≤ sizeLine; decide), fun t ht => ?_⟩
    obtain ⟨G, X, sg, D⟩ := accT X D (xs := [.str "undo"]) (es := [.str "undo"]) (.cons (.str _) .nil) ht
    replace s8 := s8.trans sg
    refine ⟨(by show 1 ≤ sizeLine; decide), fun t ht => ?_⟩
    obtain ⟨G, X, sg, D⟩ := accT X D (xs := [.str "redo"]) (es := [.str "redo"]) (.cons (.str _) .nil) ht
    replace s8 := s8.trans sg
    refine ⟨(by show 3 ≤ sizeLine; decide), fun t ht => ?_⟩
    obtain ⟨G, X, sg, D⟩ := accT X D (xs := [.str "jump", .int 0, .int 1]) (es := [.str "jump", .int 0, .int 1]) (.cons (.str _) (.cons (.int _) (.cons (.int _) .nil))) ht
    replace s8 := s8.trans sg
    refine ⟨(by show 2 ≤ sizeLine; decide), fun t ht => ?_⟩
    obtain ⟨G, X, sg, D⟩ := accT X D (xs := [.str "step", .int 0]) (es := [.str "step", .int 0]) (.cons (.str _) (.cons (.int _) .nil)) ht
    replace s8 := s8.trans sg
    refine ⟨(by show 2 ≤ sizeLine; decide), fun t ht => ?_⟩
    obtain ⟨G, X, sg, D⟩ := accT X D (xs := [.str "step", .int 5]) (es := [.str "step", .int 5]) (.cons (.str _) (.cons (.int _) .nil)) ht
    replace s8 := s8.trans sg
    refine ⟨(by show 6 ≤ sizeLine; decide), fun lg hlg => ?_⟩
    obtain ⟨G, X, sg, D6, hlg⟩ := accL X D hlg
    replace s8 := s8.trans sg
    replace D15 := DpAll.monoV s8 D15
    replace hl3 := s8 _ _ hl3
    have D6g : DpAll K G _ (goodL18.map opD) := D6
    have D15g : DpAll K G _ oddD := D15
    dsimp only [gName]
    --PART4
    refine ⟨_, rfl, draw_go X.sx.now.at (by decide) (by decide) fun H9 m A9 K9 hm => ?_⟩
    replace X := X.draw A9
    refine ⟨_, rfl, by omega, by omega, fun R hR => ?_⟩
    have rn := X.sx.off hR
    have gR : G R = none := Same.free X.sx.now.s hR
    have XR := X.pure ((Mv.start X.sx.now.s).lay hR (.lst []))
    refine lc_range (lo := 0) (n := (m : Int).toNat) (fun j H' => ∃ (vs : List V) (ops : List Op), SXT a K d G H' y p u sd x18 (st0 x18) ∧ H' R = some (.lst vs) ∧ DpAll K G vs (ops.map opD) ∧ ops.length = j ∧ ∀ o ∈ ops, o ∈ goodL18) ⟨[], [], XR, upd_same, .nil, rfl, fun _ h => nomatch h⟩ ?_ ?_
    · rintro j H' hj ⟨vs, ops, X, hRl, Dv, hjl, hg⟩
      refine ⟨rfl, _, rfl, _, rfl, draw_go X.sx.now.at (by decide) (by decide) fun H6 i B1 K1 hi => ?_⟩
      obtain ⟨o, ho⟩ : ∃ o, goodL18[i]? = some o := ⟨_, List.getElem?_eq_getElem (by show i < 6; omega)⟩
      obtain ⟨v, hv, hvD⟩ := DpAll.at D6g (show (goodL18.map opD)[i]? = some (opD o) by rw [List.getElem?_map, ho]; rfl)
      replace X := X.draw B1
      have hR6 : H6 R = some (.lst vs) := by rw [K1 R rn.1]; exact hRl
      refine ⟨lg, _, _, v, rfl, rfl, SqL.of (X.sx.now.s _ _ hlg), atI_nat hv, vs, hR6, smaller 9 (by rw [DpAll.len Dv, List.length_map]; omega) (by decide), vs ++ [v], ops ++ [o], X.put hR6 gR rn ord_lst, upd_same, ?_, by rw [List.length_append, hjl]; rfl, ?_⟩
      · rw [List.map_append]
        exact DpAll.snoc Dv hvD
      · intro q hq
        rcases List.mem_append.mp hq with h | h
        · exact hg q h
        · rw [List.mem_singleton.mp h]
          exact List.mem_of_getElem? ho
    rintro H10 ⟨vs, ops, X, hRl, Dv, hjl, hg⟩
    have l5 : ops.length ≤ 5 := by omega
    have lvs : vs.length = ops.length := by rw [DpAll.len Dv, List.length_map]
    replace X := X.freezeL hRl gR rn
    have sgR : Same G (upd G R (.lst vs)) := same_new gR
    replace Dv := DpAll.monoV sgR Dv
    replace D15g := DpAll.monoV sgR D15g
    replace hl3 := sgR _ _ hl3
    have hRG : (upd G R (.lst vs)) R = some (.lst vs) := upd_same
    revert X Dv D15g hl3 hRG
    generalize upd G R (.lst vs) = G10
    intro X Dv D15g hl3 hRG
    clear D6g D6 hlg XR D15 D8
    --PART5
    refine ⟨_, rfl, _, rfl, R, _, rfl, .inl (SqL.of hRl), _, _, rfl, rfl, draw_go X.sx.now.at (by omega) (by omega) fun H11 at_ A11 K11 hat => ?_⟩
    replace X := X.draw A11
    have hat' : at_ ≤ vs.length := by omega
    dsimp only [gName]
    --PART6
    refine ⟨_, rfl, _, rfl, _, rfl, R, _, rfl, SqL.of (X.sx.now.s _ _ hRG), fun l1 hl1 => ?_⟩
    rw [cut_take hat']
    obtain ⟨G12, X, s12, D1, hl1⟩ := accL X (DpAll.takeV at_ Dv) hl1
    replace hl3 := s12 _ _ hl3
    replace hRG := s12 _ _ hRG
    replace Dv := DpAll.monoV s12 Dv
    replace D15g := DpAll.monoV s12 D15g
    refine ⟨_, rfl, _, rfl, draw_go X.sx.now.at (by decide) (by decide) fun H13 i A13 K13 hi => ?_⟩
    replace X := X.draw A13
    obtain ⟨bad, hbad⟩ : ∃ o, oddD[i]? = some o := ⟨_, List.getElem?_eq_getElem (by show i < 15; omega)⟩
    obtain ⟨ov, hov, hovD⟩ := DpAll.at D15g hbad
    have hB := odd_bad bad (List.mem_of_getElem? hbad)
    refine ⟨l3, _, _, ov, rfl, rfl, SqL.of (X.sx.now.s _ _ hl3), atI_nat hov, (by show 1 ≤ sizeLine; decide), fun l2 hl2 => ?_⟩
    obtain ⟨G14, X, s14, D2, hl2⟩ := accL X (DpAll.cons hovD .nil) hl2
    replace hl1 := s14 _ _ hl1
    replace hRG := s14 _ _ hRG
    replace Dv := DpAll.monoV s14 Dv
    replace D1 := DpAll.monoV s14 D1
    have b1 : (vs.take at_).length + [ov].length ≤ sizeLine := Nat.le_trans (m := 9) (by rw [List.length_take, List.length_singleton]; omega) (by decide)
    refine ⟨l1, l2, _, _, rfl, rfl, X.sx.now.s _ _ hl1, X.sx.now.s _ _ hl2, b1, fun l4 hl4 => ?_⟩
    obtain ⟨G15, X, s15, D4, hl4⟩ := accL X (DpAll.append D1 D2) hl4
    replace hRG := s15 _ _ hRG
    replace Dv := DpAll.monoV s15 Dv
    refine ⟨_, rfl, _, rfl, _, rfl, R, _, rfl, SqL.of (X.sx.now.s _ _ hRG), fun l5 hl5 => ?_⟩
    rw [cut_drop hat']
    obtain ⟨G16, X, s16, D5, hl5⟩ := accL X (DpAll.dropV at_ Dv) hl5
    replace hRG := s16 _ _ hRG
    replace Dv := DpAll.monoV s16 Dv
    replace D4 := DpAll.monoV s16 D4
    replace hl4 := s16 _ _ hl4
    have b2 : (vs.take at_ ++ [ov]).length + (vs.drop at_).length ≤ sizeLine := Nat.le_trans (m := 20) (by rw [List.length_append, List.length_take, List.length_drop, List.length_singleton]; omega) (by decide)
    refine ⟨l4, l5, _, _, rfl, rfl, X.sx.now.s _ _ hl4, X.sx.now.s _ _ hl5, b2, fun l6 hl6 => ?_⟩
    obtain ⟨G17, X, s17, D6, hl6⟩ := accL X (DpAll.append D4 D5) hl6
    replace hRG := s17 _ _ hRG
    replace Dv := DpAll.monoV s17 Dv
    have hbadD : Dp K G17 (.ref l6) (.list ((ops.take at_).map opD ++ bad :: (ops.drop at_).map opD)) := .lst (SqL.of hl6) (by
      have e : (ops.take at_).map opD ++ bad :: (ops.drop at_).map opD = (((ops.map opD).take at_) ++ [bad]) ++ (ops.map opD).drop at_ := by
        rw [List.map_take, List.map_drop, List.append_assoc]; rfl
      rw [e]
      exact D6)
    have hM : Mal (.list ((ops.take at_).map opD ++ bad :: (ops.drop at_).map opD)) (ops.take at_) := .at _ _ hB
    have hat2 : (ops.take at_).length = at_ := by rw [List.length_take]; omega
    dsimp only [gName]
    have hbadD' := hbadD
    have hgood := good18 (ops.take at_) (st0 x18) fun o ho => hg o (List.mem_of_mem_take ho)
    --PART7
    refine ⟨X.t.tb, fun f1 c1 H21 k1 k2 T1 hf1 hL1 => ⟨T1, fun f2 c2 H22 k3 k4 T2 hf2 hL2 => ⟨(by show 2 ≤ sizeLine; decide), fun ll hll => ?_⟩⟩⟩
    have kt1 := lam_tb X k1
    replace X := X.lam kt1.1 k2 T1
    have kt2 := lam_tb X k3
    replace X := X.lam kt2.1 k4 T2
    replace hL1 := hL1.ext kt2.2
    obtain ⟨X, sg⟩ := accO X hll (.lst [.ref f1, .ref f2])
    replace hL1 := hL1.ext fun b z e _ => same_new (o := .lst [.ref f1, .ref f2]) hll b z e
    replace hL2 := hL2.ext fun b z e _ => same_new (o := .lst [.ref f1, .ref f2]) hll b z e
    have hllG : (upd G17 ll (.lst [.ref f1, .ref f2])) ll = some (.lst [.ref f1, .ref f2]) := upd_same
    replace hbadD := Dp.mono sg _ _ hbadD
    replace hRG := sg _ _ hRG
    replace Dv := DpAll.monoV sg Dv
    revert X hllG hbadD hRG Dv
    generalize upd G17 ll (.lst [.ref f1, .ref f2]) = G20
    intro X hllG hbadD hRG Dv
    dsimp only [gName]
    refine ⟨_, rfl, _, rfl, (by show 2 ≤ sizeLine; decide), fun te hte => ?_⟩
    obtain ⟨G21, X, s21, De⟩ := accT X .nil (xs := [.str "operation", .int (at_ : Nat)]) (es := [.str "operation", .int (at_ : Nat)]) (.cons (.str _) (.cons (.int _) .nil)) hte
    replace hL1 := hL1.ext fun b z e _ => same_new (o := .tup [.str "operation", .int (at_ : Nat)]) hte b z e
    replace hL2 := hL2.ext fun b z e _ => same_new (o := .tup [.str "operation", .int (at_ : Nat)]) hte b z e
    replace hbadD := Dp.mono s21 _ _ hbadD
    replace hllG := s21 _ _ hllG
    replace hRG := s21 _ _ hRG
    replace Dv := DpAll.monoV s21 Dv
    intro cells H23 CT Tr
    obtain ⟨p1, p2, p3, p4⟩ := trk_pack X Tr
    obtain ⟨dyy, pv, nv, vss, wss, hyy, _⟩ := X.sx.st.ex
    obtain ⟨v0, r0, er, hte0, _⟩ := DpAll.cons_inv De
    cases er
    have hat3 : PyData.int (at_ : Nat) = .int ((ops.take at_).length : Nat) := by rw [hat2]
    refine allR_same (fs := [f1, f2]) (wd := "operation") (De := .int (at_ : Nat)) (SqL.of (p2 _ _ hllG)) (Dp.mono p2 _ _ hte0) ((layO _).shapedT (by decide)) (layO _).lay (by show 2 ≤ 1000; decide) (fun f hf => ?_) fun H24 s24 => ⟨_, rfl, ite_f rfl ?_⟩
    · have c1 := CT _ (List.mem_cons_self)
      have c2 := CT _ (List.mem_cons_of_mem _ List.mem_cons_self)
      simp only [List.mem_cons, List.not_mem_nil, or_false] at hf
      rw [hat3]
      rcases hf with rfl | rfl
      · exact lamS_1 T TD (hL1.ext fun b o e _ => p1 b o e) Tr.at_ c1 (p1 _ _ hyy) (by kernel_rfl) p2 p3 hbadD hM
      · exact lamS_2 T TD (hL2.ext fun b o e _ => p1 b o e) Tr.at_ c2 loads18 ok18 (by rw [hat2]; omega) hgood p2 p3 hbadD hM
    replace X := p4 H24 s24
    clear p1 p2 p3 p4 hL1 hL2 CT De hte0
    --PART8
    revert X
    generalize cut (cells.map (·.1)) H24 = H30
    intro X
    clear Tr s24 hyy
    have D : DpAll K G21 [.non] [.none] := .cons .non .nil
    refine ⟨(by show 0 ≤ sizeLine; decide), fun t ht => ?_⟩
    obtain ⟨G31, X, s31, D⟩ := accT X D (xs := []) (es := []) .nil ht
    replace hRG := s31 _ _ hRG
    replace Dv := DpAll.monoV s31 Dv
    replace D := DpAll.snoc D (show Dp K G31 (.int 5) (.int 5) from .int _)
    replace D := DpAll.snoc D (show Dp K G31 (.str "undo") (.str "undo") from .str _)
    refine ⟨_, rfl, R, _, rfl, .inl ⟨SqL.of (X.sx.now.s _ _ hRG), fun lt hlt => ?_⟩⟩
    obtain ⟨G32, X, s32, D⟩ := accT X D Dv hlt
    replace hRG := s32 _ _ hRG
    replace Dv := DpAll.monoV s32 Dv
    refine ⟨(by show 1 ≤ sizeLine; decide), fun t2 ht2 => ?_⟩
    obtain ⟨G33, X, s33, D⟩ := accT X D (xs := [.str "undo"]) (es := [.str "undo"]) (.cons (.str _) .nil) ht2
    replace hRG := s33 _ _ hRG
    replace Dv := DpAll.monoV s33 Dv
    refine ⟨(by show 6 ≤ sizeLine; decide), fun ln hln => ?_⟩
    obtain ⟨G34, X, s34, D, hln⟩ := accL X D hln
    replace hRG := s34 _ _ hRG
    replace Dv := DpAll.monoV s34 Dv
    have Dn : DpAll K G34 _ [.none, .tuple [], .int 5, .str "undo", .tuple (ops.map opD), .tuple [.str "undo"]] := D
    refine ⟨_, rfl, draw_go X.sx.now.at (by decide) (by decide) fun H35 ni A35 K35 hni => ?_⟩
    replace X := X.draw A35
    obtain ⟨nd_, hnd⟩ : ∃ o, ([.none, .tuple [], .int 5, .str "undo", .tuple (ops.map opD), .tuple [.str "undo"]] : List PyData)[ni]? = some o := ⟨_, List.getElem?_eq_getElem (by show ni < 6; omega)⟩
    obtain ⟨nv_, hnv, hnvD⟩ := DpAll.at Dn hnd
    have hnl : NotL nd_ := by
      have m := List.mem_of_getElem? hnd
      simp only [List.mem_cons, List.not_mem_nil, or_false] at m
      rcases m with rfl | rfl | rfl | rfl | rfl | rfl
      · exact .non
      · exact .tup _
      · exact .int _
      · exact .str _
      · exact .tup _
      · exact .tup _
    refine ⟨ln, _, _, nv_, rfl, rfl, SqL.of (X.sx.now.s _ _ hln), atI_nat hnv, ?_⟩
    dsimp only [gName]
    clear D Dn hln hnd hnv
    --PART9
    refine ⟨X.t.tb, fun f1 c1 H21 k1 k2 T1 hf1 hL1 => ⟨T1, fun f2 c2 H22 k3 k4 T2 hf2 hL2 => ⟨(by show 2 ≤ sizeLine; decide), fun ll hll => ?_⟩⟩⟩
    have kt1 := lam_tb X k1
    replace X := X.lam kt1.1 k2 T1
    have kt2 := lam_tb X k3
    replace X := X.lam kt2.1 k4 T2
    replace hL1 := hL1.ext kt2.2
    obtain ⟨X, sg⟩ := accO X hll (.lst [.ref f1, .ref f2])
    replace hL1 := hL1.ext fun b z e _ => same_new (o := .lst [.ref f1, .ref f2]) hll b z e
    replace hL2 := hL2.ext fun b z e _ => same_new (o := .lst [.ref f1, .ref f2]) hll b z e
    have hllG : (upd G34 ll (.lst [.ref f1, .ref f2])) ll = some (.lst [.ref f1, .ref f2]) := upd_same
    replace hnvD := Dp.mono sg _ _ hnvD
    replace hRG := sg _ _ hRG
    replace Dv := DpAll.monoV sg Dv
    revert X hllG hnvD hRG Dv
    generalize upd G34 ll (.lst [.ref f1, .ref f2]) = G36
    intro X hllG hnvD hRG Dv
    dsimp only [gName]
    refine ⟨_, rfl, (by show 2 ≤ sizeLine; decide), fun te hte => ?_⟩
    obtain ⟨G37, X, s37, De⟩ := accT X .nil (xs := [.str "operation", .int 0]) (es := [.str "operation", .int 0]) (.cons (.str _) (.cons (.int _) .nil)) hte
    replace hL1 := hL1.ext fun b z e _ => same_new (o := .tup [.str "operation", .int 0]) hte b z e
    replace hL2 := hL2.ext fun b z e _ => same_new (o := .tup [.str "operation", .int 0]) hte b z e
    replace hnvD := Dp.mono s37 _ _ hnvD
    replace hRG := s37 _ _ hRG
    replace Dv := DpAll.monoV s37 Dv
    replace hllG := s37 _ _ hllG
    clear cells
    intro cells H38 CT Tr
    obtain ⟨p1, p2, p3, p4⟩ := trk_pack X Tr
    obtain ⟨dyy, pv, nv, vss, wss, hyy, _⟩ := X.sx.st.ex
    obtain ⟨v0, r0, er, hte0, _⟩ := DpAll.cons_inv De
    cases er
    refine allR_same (fs := [f1, f2]) (wd := "operation") (De := .int 0) (SqL.of (p2 _ _ hllG)) (Dp.mono p2 _ _ hte0) ((layO _).shapedT (by decide)) (layO _).lay (by show 2 ≤ 1000; decide) (fun f hf => ?_) fun H39 s39 => ⟨_, rfl, ite_f rfl ?_⟩
    · have c1 := CT _ (List.mem_cons_self)
      have c2 := CT _ (List.mem_cons_of_mem _ List.mem_cons_self)
      simp only [List.mem_cons, List.not_mem_nil, or_false] at hf
      rcases hf with rfl | rfl
      · exact lamS_3 T TD (ops := []) (hL1.ext fun b o e _ => p1 b o e) Tr.at_ c1 (p1 _ _ hyy) (by kernel_rfl) p2 p3 hnvD (.no hnl)
      · exact lamS_4 T TD (ops := []) (hL2.ext fun b o e _ => p1 b o e) Tr.at_ c2 loads18 ok18 (by decide) trivial p2 p3 hnvD (.no hnl)
    replace X := p4 H39 s39
    clear p1 p2 p3 p4 hL1 hL2 CT De hte0
    revert X
    generalize cut (cells.map (·.1)) H39 = H40
    intro X
    clear Tr s39 hyy
    --PART10
    refine ⟨X.t.tb, fun f1 c1 H21 k1 k2 T1 hf1 hL1 => ⟨T1, fun f2 c2 H22 k3 k4 T2 hf2 hL2 => ⟨(by show 2 ≤ sizeLine; decide), fun ll hll => ?_⟩⟩⟩
    have kt1 := lam_tb X k1
    replace X := X.lam kt1.1 k2 T1
    have kt2 := lam_tb X k3
    replace X := X.lam kt2.1 k4 T2
    replace hL1 := hL1.ext kt2.2
    obtain ⟨X, sg⟩ := accO X hll (.lst [.ref f1, .ref f2])
    replace hL1 := hL1.ext fun b z e _ => same_new (o := .lst [.ref f1, .ref f2]) hll b z e
    replace hL2 := hL2.ext fun b z e _ => same_new (o := .lst [.ref f1, .ref f2]) hll b z e
    have hllG : (upd G37 ll (.lst [.ref f1, .ref f2])) ll = some (.lst [.ref f1, .ref f2]) := upd_same
    replace hRG := sg _ _ hRG
    replace Dv := DpAll.monoV sg Dv
    revert X hllG hRG Dv
    generalize upd G37 ll (.lst [.ref f1, .ref f2]) = G41
    intro X hllG hRG Dv
    refine ⟨(by show 2 ≤ sizeLine; decide), fun ti hti => ?_⟩
    obtain ⟨G42, X, s42, Di⟩ := accT X .nil (xs := [.int 1, .int 0]) (es := [.int 1, .int 0]) (.cons (.int _) (.cons (.int _) .nil)) hti
    replace hL1 := hL1.ext fun b z e _ => same_new (o := .tup [.int 1, .int 0]) hti b z e
    replace hL2 := hL2.ext fun b z e _ => same_new (o := .tup [.int 1, .int 0]) hti b z e
    replace hRG := s42 _ _ hRG
    replace Dv := DpAll.monoV s42 Dv
    replace hllG := s42 _ _ hllG
    refine ⟨(by show 2 ≤ sizeLine; decide), fun te hte => ?_⟩
    obtain ⟨G43, X, s43, De⟩ := accT X .nil (xs := [.str "syntax", .ref ti]) (es := [.str "syntax", .tuple [.int 1, .int 0]]) (.cons (.str _) Di) hte
    replace hL1 := hL1.ext fun b z e _ => same_new (o := .tup [.str "syntax", .ref ti]) hte b z e
    replace hL2 := hL2.ext fun b z e _ => same_new (o := .tup [.str "syntax", .ref ti]) hte b z e
    replace hRG := s43 _ _ hRG
    replace Dv := DpAll.monoV s43 Dv
    replace hllG := s43 _ _ hllG
    clear cells
    intro cells H44 CT Tr
    obtain ⟨p1, p2, p3, p4⟩ := trk_pack X Tr
    obtain ⟨v0, r0, er, hte0, _⟩ := DpAll.cons_inv De
    cases er
    refine allR_same (fs := [f1, f2]) (wd := "syntax") (De := .tuple [.int 1, .int 0]) (SqL.of (p2 _ _ hllG)) (Dp.mono p2 _ _ hte0) (layS.shapedT (by decide)) layS.lay (by show 2 ≤ 1000; decide) (fun f hf => ?_) fun H45 s45 => ⟨_, rfl, ite_f rfl ?_⟩
    · have c1 := CT _ (List.mem_cons_self)
      have c2 := CT _ (List.mem_cons_of_mem _ List.mem_cons_self)
      simp only [List.mem_cons, List.not_mem_nil, or_false] at hf
      rcases hf with rfl | rfl
      · exact lamS_5 T TD (hL1.ext fun b o e _ => p1 b o e) Tr.at_ c1
      · exact lamS_6 T TD (hL2.ext fun b o e _ => p1 b o e) Tr.at_ c2
    replace X := p4 H45 s45
    clear p1 p2 p3 p4 hL1 hL2 CT De hte0
    revert X
    generalize cut (cells.map (·.1)) H45 = H46
    intro X
    clear Tr s45
    --PART11
    obtain ⟨dyy, pv, nv, vss, wss, hyy, _⟩ := id X.sx.st.ex
    refine ⟨_, rfl, y, dyy, _, rfl, hyy, ⟨⟨y, p, u, sd, G43, x18, _, _, _, rfl, X.sx.st, X.sx.now.s, (by decide), fun l hl => ?_⟩⟩⟩
    obtain ⟨X, s50⟩ := accO X hl (.lst [])
    have hl0 : (upd G43 l (.lst [])) l = some (.lst []) := upd_same
    refine ⟨(by show 0 ≤ sizeLine; decide), fun m1 hm1 => ?_⟩
    obtain ⟨X, s51⟩ := accO X hm1 (.lst [])
    refine ⟨.list [], .list [], .lst (SqL.of (X.sx.now.s _ _ (s51 _ _ hl0))) .nil, .lst (SqL.of upd_same) .nil, rfl, rfl, _, rfl, ite_t (by decide +kernel) ?_⟩
    replace hRG := s51 _ _ (s50 _ _ hRG)
    replace Dv := DpAll.monoV (s50.trans s51) Dv
    clear hl0 s50 s51 hyy
    obtain ⟨dyy, pv, nv, vss, wss, hyy, _⟩ := id X.sx.st.ex
    refine ⟨_, rfl, y, dyy, _, rfl, hyy, (by kernel_rfl), (by show 0 ≤ sizeLine; decide), fun m2 hm2 => ?_⟩
    obtain ⟨X, s52⟩ := accO X hm2 (.lst [])
    refine ⟨⟨y, p, u, sd, m2, _, x18, st0 x18, [], [], rfl, X.sx.st, X.sx.now.s, ok18, st0_ok ok18, (by decide), SqL.of upd_same, .nil, trivial, fun G55 H55 u' fr M55 hu55 S55 D55 => ?_⟩⟩
    replace X := X.op M55 hu55 S55
    replace hRG := M55.g _ _ (s52 _ _ hRG)
    replace Dv := DpAll.monoV (s52.trans M55.g) Dv
    refine ⟨(by show 0 ≤ sizeLine; decide), fun m3 hm3 => ?_⟩
    obtain ⟨X, s56⟩ := accO X hm3 (.lst [])
    refine ⟨.list [], .list [], Dp.mono (s56.trans X.sx.now.s) _ _ D55, .lst (SqL.of upd_same) .nil, rfl, rfl, _, rfl, ite_t (by decide +kernel) ?_⟩
    replace hRG := s56 _ _ hRG
    replace Dv := DpAll.monoV s56 Dv
    refine ⟨rfl, _, rfl, _, rfl, ⟨⟨R, _, planS18, x18, ops, vs, rfl, X.sx.now.s, loads18, ok18, SqL.of hRG, Dv, by omega, good18 ops (st0 x18) hg, fun G57 H57 y2 p2 u2 sd2 M57 _ _ _ _ S57 _ _ => ?_⟩⟩⟩
    obtain ⟨dy2, pv2, nv2, vs2, ws2, hy2, _⟩ := id S57.ex
    refine ⟨.ref y2, .ref a.C_Stage, _, _, true, rfl, .own _, .base (.ins hy2 T.cl_Stage T.yi_Stage T.yn_Stage T.yt_Stage T.ym_Stage), (by simp [PySem.W.kitOne]), k _⟩
end
end Sb

namespace Sb
open PySem PySem.Spec PyProof.Rows L2
theorem hAll {l : PySem.W.OpenLaw} {w : World} {K : PySem.W.Frag} {h : Heap} {mg : Str → Option Value} {fa : Addr} (X : K.In h) (G : h.Ns mainGlobals mg) (hfa : mg "law" = some (.ref fa)) (c : SbH.SaysY hFa hFn hTs hTf hEx w h K) : LamX.LawAtS l w K CX0 20 63 "_law_script" mg fa h := by
  have e := hfa.symm.trans (He.glo_ok X G (c.at_ 34 (f := .glo (Str.ofString "law")) rfl))
  injection e with e
  injection e with e
  rw [e]
  have hx := c.more
  obtain ⟨hx_P_Stage_operations, hx0⟩ := He.ba (show (SbH.propB K (Str.ofString "Stage") (Str.ofString "operations") && _) = true from hx)
  obtain ⟨hx_cm_Stage_replay, hx1⟩ := He.ba (show (SbH.cmB K (Str.ofString "Stage") (Str.ofString "replay") && _) = true from hx0)
  obtain ⟨hx_exb_InvalidOperation, hx2⟩ := He.ba (show (exb_InvalidOperation K && _) = true from hx1)
  obtain ⟨hx_exb_SyntaxFault, hx3⟩ := He.ba (show (exb_SyntaxFault K && _) = true from hx2)
  obtain ⟨hx_yi_Stage, hx4⟩ := He.ba (show (decide (PySem.W.findIn K (.ref (He.ga K (Str.ofString "Stage"))) "__class__" = some (some (.builtin "object.__class__"))) && _) = true from hx3)
  obtain ⟨hx_yn_Stage, hx5⟩ := He.ba (show (decide (PySem.W.specialIn K (.builtin "object.__class__") "__get__" = some (some (.builtin "getset_descriptor.__get__"))) && _) = true from hx4)
  obtain ⟨hx_yt_Stage, hx6⟩ := He.ba (show (decide (PySem.W.takesIn K (.builtin "object.__class__") = some true) && _) = true from hx5)
  obtain ⟨hx_ym_Stage, hx7⟩ := He.ba (show (decide (PySem.W.mroIn K (He.ga K (Str.ofString "Stage")) (.type "object") = some true) && _) = true from hx6)
  obtain ⟨hx_tup_MOVES, hx8⟩ := He.ba (show (SbH.tupB K (Str.ofString "MOVES") [(Str.ofString "left"), (Str.ofString "right"), (Str.ofString "pick"), (Str.ofString "put"), (Str.ofString "wait")] && _) = true from hx7)
  obtain ⟨hx_tup_JUMPS, hx9⟩ := He.ba (show (SbH.tupB K (Str.ofString "JUMPS") [(Str.ofString "goto"), (Str.ofString "empty"), (Str.ofString "held")] && _) = true from hx8)
  obtain ⟨hx_tup_KEYWORDS, hx10⟩ := He.ba (show (SbH.tupB K (Str.ofString "KEYWORDS") [(Str.ofString "shelf"), (Str.ofString "robot"), (Str.ofString "left"), (Str.ofString "right"), (Str.ofString "pick"), (Str.ofString "put"), (Str.ofString "wait"), (Str.ofString "goto"), (Str.ofString "empty"), (Str.ofString "held")] && _) = true from hx9)
  obtain ⟨hx_dic_LENGTHS, hx11⟩ := He.ba (show (He.valsB K (He.ga K (Str.ofString "LENGTHS")) [((Str.ofString "step"), .int 2), ((Str.ofString "add"), .int 2), ((Str.ofString "take"), .int 2), ((Str.ofString "jump"), .int 3), ((Str.ofString "undo"), .int 1), ((Str.ofString "redo"), .int 1)] && _) = true from hx10)
  have hx_mis_LENGTHS_save : decide (PySem.W.nsIn K (He.ga K (Str.ofString "LENGTHS")) (Str.ofString "save") = some none) = true := hx11
  obtain ⟨d_l_random, g_l_random⟩ := c.def_ 0 (d := ⟨fun K => (He.ga K (Str.ofString "_law_random")), (Str.ofString "_law_random"), (Str.ofString "_law_random"), defArgs s_l_random, defBody s_l_random, defScope s_l_random, [], []⟩) rfl
  obtain ⟨d_Parser_peek, g_Parser_peek⟩ := c.def_ 1 (d := ⟨fun K => (He.ma K (He.ga K (Str.ofString "Parser")) (Str.ofString "peek")), (Str.ofString "peek"), (Str.ofString "Parser.peek"), defArgs s_Parser_peek, defBody s_Parser_peek, defScope s_Parser_peek, [], []⟩) rfl
  obtain ⟨d_Token_init, g_Token_init⟩ := c.def_ 2 (d := ⟨fun K => (He.ma K (He.ga K (Str.ofString "Token")) (Str.ofString "__init__")), (Str.ofString "__init__"), (Str.ofString "Token.__init__"), defArgs s_Token_init, defBody s_Token_init, defScope s_Token_init, [], []⟩) rfl
  obtain ⟨d_Robot_init, g_Robot_init⟩ := c.def_ 3 (d := ⟨fun K => (He.ma K (He.ga K (Str.ofString "Robot")) (Str.ofString "__init__")), (Str.ofString "__init__"), (Str.ofString "Robot.__init__"), defArgs s_Robot_init, defBody s_Robot_init, defScope s_Robot_init, [], []⟩) rfl
  obtain ⟨d_Plan_init, g_Plan_init⟩ := c.def_ 4 (d := ⟨fun K => (He.ma K (He.ga K (Str.ofString "Plan")) (Str.ofString "__init__")), (Str.ofString "__init__"), (Str.ofString "Plan.__init__"), defArgs s_Plan_init, defBody s_Plan_init, defScope s_Plan_init, [], []⟩) rfl
  obtain ⟨d_Parser_init, g_Parser_init⟩ := c.def_ 5 (d := ⟨fun K => (He.ma K (He.ga K (Str.ofString "Parser")) (Str.ofString "__init__")), (Str.ofString "__init__"), (Str.ofString "Parser.__init__"), defArgs s_Parser_init, defBody s_Parser_init, defScope s_Parser_init, [], []⟩) rfl
  obtain ⟨d_State_init, g_State_init⟩ := c.def_ 6 (d := ⟨fun K => (He.ma K (He.ga K (Str.ofString "State")) (Str.ofString "__init__")), (Str.ofString "__init__"), (Str.ofString "State.__init__"), defArgs s_State_init, defBody s_State_init, defScope s_State_init, [], []⟩) rfl
  obtain ⟨d_Tick_init, g_Tick_init⟩ := c.def_ 7 (d := ⟨fun K => (He.ma K (He.ga K (Str.ofString "Tick")) (Str.ofString "__init__")), (Str.ofString "__init__"), (Str.ofString "Tick.__init__"), defArgs s_Tick_init, defBody s_Tick_init, defScope s_Tick_init, [], []⟩) rfl
  obtain ⟨d_InvalidOperation_init, g_InvalidOperation_init⟩ := c.def_ 8 (d := ⟨fun K => (He.ma K (He.ga K (Str.ofString "InvalidOperation")) (Str.ofString "__init__")), (Str.ofString "__init__"), (Str.ofString "InvalidOperation.__init__"), defArgs s_InvalidOperation_init, defBody s_InvalidOperation_init, defScope s_InvalidOperation_init, [], []⟩) rfl
  obtain ⟨d_SyntaxFault_init, g_SyntaxFault_init⟩ := c.def_ 9 (d := ⟨fun K => (He.ma K (He.ga K (Str.ofString "SyntaxFault")) (Str.ofString "__init__")), (Str.ofString "__init__"), (Str.ofString "SyntaxFault.__init__"), defArgs s_SyntaxFault_init, defBody s_SyntaxFault_init, defScope s_SyntaxFault_init, [], []⟩) rfl
  obtain ⟨d_Parser_fail, g_Parser_fail⟩ := c.def_ 10 (d := ⟨fun K => (He.ma K (He.ga K (Str.ofString "Parser")) (Str.ofString "fail")), (Str.ofString "fail"), (Str.ofString "Parser.fail"), defArgs s_Parser_fail, defBody s_Parser_fail, defScope s_Parser_fail, [], []⟩) rfl
  obtain ⟨d_Parser_take_word, g_Parser_take_word⟩ := c.def_ 11 (d := ⟨fun K => (He.ma K (He.ga K (Str.ofString "Parser")) (Str.ofString "take_word")), (Str.ofString "take_word"), (Str.ofString "Parser.take_word"), defArgs s_Parser_take_word, defBody s_Parser_take_word, defScope s_Parser_take_word, [], []⟩) rfl
  obtain ⟨d_Parser_take, g_Parser_take⟩ := c.def_ 12 (d := ⟨fun K => (He.ma K (He.ga K (Str.ofString "Parser")) (Str.ofString "take")), (Str.ofString "take"), (Str.ofString "Parser.take"), defArgs s_Parser_take, defBody s_Parser_take, defScope s_Parser_take, [], []⟩) rfl
  obtain ⟨d_is_int_in, g_is_int_in⟩ := c.def_ 13 (d := ⟨fun K => (He.ga K (Str.ofString "is_int_in")), (Str.ofString "is_int_in"), (Str.ofString "is_int_in"), defArgs s_is_int_in, defBody s_is_int_in, defScope s_is_int_in, [], []⟩) rfl
  obtain ⟨d_Stage_check_cell, g_Stage_check_cell⟩ := c.def_ 14 (d := ⟨fun K => (He.ma K (He.ga K (Str.ofString "Stage")) (Str.ofString "check_cell")), (Str.ofString "check_cell"), (Str.ofString "Stage.check_cell"), defArgs s_Stage_check_cell, defBody s_Stage_check_cell, defScope s_Stage_check_cell, [], []⟩) rfl
  obtain ⟨d_Stage_record, g_Stage_record⟩ := c.def_ 15 (d := ⟨fun K => (He.ma K (He.ga K (Str.ofString "Stage")) (Str.ofString "record")), (Str.ofString "record"), (Str.ofString "Stage.record"), defArgs s_Stage_record, defBody s_Stage_record, defScope s_Stage_record, [], []⟩) rfl
  obtain ⟨d_replaced, g_replaced⟩ := c.def_ 16 (d := ⟨fun K => (He.ga K (Str.ofString "replaced")), (Str.ofString "replaced"), (Str.ofString "replaced"), defArgs s_replaced, defBody s_replaced, defScope s_replaced, [], []⟩) rfl
  obtain ⟨d_Stage_put_boxes, g_Stage_put_boxes⟩ := c.def_ 17 (d := ⟨fun K => (He.ma K (He.ga K (Str.ofString "Stage")) (Str.ofString "put_boxes")), (Str.ofString "put_boxes"), (Str.ofString "Stage.put_boxes"), defArgs s_Stage_put_boxes, defBody s_Stage_put_boxes, defScope s_Stage_put_boxes, [], []⟩) rfl
  obtain ⟨d_Stage_take, g_Stage_take⟩ := c.def_ 18 (d := ⟨fun K => (He.ma K (He.ga K (Str.ofString "Stage")) (Str.ofString "take")), (Str.ofString "take"), (Str.ofString "Stage.take"), defArgs s_Stage_take, defBody s_Stage_take, defScope s_Stage_take, [], []⟩) rfl
  obtain ⟨d_Parser_found, g_Parser_found⟩ := c.def_ 19 (d := ⟨fun K => (He.ma K (He.ga K (Str.ofString "Parser")) (Str.ofString "found")), (Str.ofString "found"), (Str.ofString "Parser.found"), defArgs s_Parser_found, defBody s_Parser_found, defScope s_Parser_found, [], []⟩) rfl
  obtain ⟨d_Parser_parse_shelf, g_Parser_parse_shelf⟩ := c.def_ 20 (d := ⟨fun K => (He.ma K (He.ga K (Str.ofString "Parser")) (Str.ofString "parse_shelf")), (Str.ofString "parse_shelf"), (Str.ofString "Parser.parse_shelf"), defArgs s_Parser_parse_shelf, defBody s_Parser_parse_shelf, defScope s_Parser_parse_shelf, [], []⟩) rfl
  obtain ⟨d_Parser_parse_step, g_Parser_parse_step⟩ := c.def_ 21 (d := ⟨fun K => (He.ma K (He.ga K (Str.ofString "Parser")) (Str.ofString "parse_step")), (Str.ofString "parse_step"), (Str.ofString "Parser.parse_step"), defArgs s_Parser_parse_step, defBody s_Parser_parse_step, defScope s_Parser_parse_step, [], []⟩) rfl
  obtain ⟨d_Parser_parse_robot, g_Parser_parse_robot⟩ := c.def_ 22 (d := ⟨fun K => (He.ma K (He.ga K (Str.ofString "Parser")) (Str.ofString "parse_robot")), (Str.ofString "parse_robot"), (Str.ofString "Parser.parse_robot"), defArgs s_Parser_parse_robot, defBody s_Parser_parse_robot, defScope s_Parser_parse_robot, [], []⟩) rfl
  obtain ⟨d_Parser_parse_plan, g_Parser_parse_plan⟩ := c.def_ 23 (d := ⟨fun K => (He.ma K (He.ga K (Str.ofString "Parser")) (Str.ofString "parse_plan")), (Str.ofString "parse_plan"), (Str.ofString "Parser.parse_plan"), defArgs s_Parser_parse_plan, defBody s_Parser_parse_plan, defScope s_Parser_parse_plan, [], []⟩) rfl
  obtain ⟨d_run_end, g_run_end⟩ := c.def_ 24 (d := ⟨fun K => (He.ga K (Str.ofString "run_end")), (Str.ofString "run_end"), (Str.ofString "run_end"), defArgs s_run_end, defBody s_run_end, defScope s_run_end, [], []⟩) rfl
  obtain ⟨d_read_token, g_read_token⟩ := c.def_ 25 (d := ⟨fun K => (He.ga K (Str.ofString "read_token")), (Str.ofString "read_token"), (Str.ofString "read_token"), defArgs s_read_token, defBody s_read_token, defScope s_read_token, [], []⟩) rfl
  obtain ⟨d_tokenize, g_tokenize⟩ := c.def_ 26 (d := ⟨fun K => (He.ga K (Str.ofString "tokenize")), (Str.ofString "tokenize"), (Str.ofString "tokenize"), defArgs s_tokenize, defBody s_tokenize, defScope s_tokenize, [], []⟩) rfl
  obtain ⟨d_load, g_load⟩ := c.def_ 27 (d := ⟨fun K => (He.ga K (Str.ofString "load")), (Str.ofString "load"), (Str.ofString "load"), defArgs s_load, defBody s_load, defScope s_load, [], []⟩) rfl
  obtain ⟨d_first_state, g_first_state⟩ := c.def_ 28 (d := ⟨fun K => (He.ga K (Str.ofString "first_state")), (Str.ofString "first_state"), (Str.ofString "first_state"), defArgs s_first_state, defBody s_first_state, defScope s_first_state, [], []⟩) rfl
  obtain ⟨d_Stage_init, g_Stage_init⟩ := c.def_ 29 (d := ⟨fun K => (He.ma K (He.ga K (Str.ofString "Stage")) (Str.ofString "__init__")), (Str.ofString "__init__"), (Str.ofString "Stage.__init__"), defArgs s_Stage_init, defBody s_Stage_init, defScope s_Stage_init, [], []⟩) rfl
  obtain ⟨d_l_below, g_l_below⟩ := c.def_ 30 (d := ⟨fun K => (He.ga K (Str.ofString "_law_below")), (Str.ofString "_law_below"), (Str.ofString "_law_below"), defArgs s_l_below, defBody s_l_below, defScope s_l_below, [], []⟩) rfl
  obtain ⟨d_l_error_of, g_l_error_of⟩ := c.def_ 31 (d := ⟨fun K => (He.ga K (Str.ofString "_law_error_of")), (Str.ofString "_law_error_of"), (Str.ofString "_law_error_of"), defArgs s_l_error_of, defBody s_l_error_of, defScope s_l_error_of, [], []⟩) rfl
  obtain ⟨d_l_all_raise, g_l_all_raise⟩ := c.def_ 32 (d := ⟨fun K => (He.ga K (Str.ofString "_law_all_raise")), (Str.ofString "_law_all_raise"), (Str.ofString "_law_all_raise"), defArgs s_l_all_raise, defBody s_l_all_raise, defScope s_l_all_raise, [], []⟩) rfl
  obtain ⟨d_Stage_operations, g_Stage_operations⟩ := c.def_ 33 (d := ⟨fun K => (SbH.propG K (Str.ofString "Stage") (Str.ofString "operations")), (Str.ofString "operations"), (Str.ofString "Stage.operations"), defArgs s_Stage_operations, defBody s_Stage_operations, defScope s_Stage_operations, [], []⟩) rfl
  obtain ⟨d_is_operation, g_is_operation⟩ := c.def_ 34 (d := ⟨fun K => (He.ga K (Str.ofString "is_operation")), (Str.ofString "is_operation"), (Str.ofString "is_operation"), defArgs s_is_operation, defBody s_is_operation, defScope s_is_operation, [], []⟩) rfl
  obtain ⟨d_Stage_redo, g_Stage_redo⟩ := c.def_ 35 (d := ⟨fun K => (He.ma K (He.ga K (Str.ofString "Stage")) (Str.ofString "redo")), (Str.ofString "redo"), (Str.ofString "Stage.redo"), defArgs s_Stage_redo, defBody s_Stage_redo, defScope s_Stage_redo, [], []⟩) rfl
  obtain ⟨d_act, g_act⟩ := c.def_ 36 (d := ⟨fun K => (He.ga K (Str.ofString "act")), (Str.ofString "act"), (Str.ofString "act"), defArgs s_act, defBody s_act, defScope s_act, [], []⟩) rfl
  obtain ⟨d_next_tick, g_next_tick⟩ := c.def_ 37 (d := ⟨fun K => (He.ga K (Str.ofString "next_tick")), (Str.ofString "next_tick"), (Str.ofString "next_tick"), defArgs s_next_tick, defBody s_next_tick, defScope s_next_tick, [], []⟩) rfl
  obtain ⟨d_Stage_step, g_Stage_step⟩ := c.def_ 38 (d := ⟨fun K => (He.ma K (He.ga K (Str.ofString "Stage")) (Str.ofString "step")), (Str.ofString "step"), (Str.ofString "Stage.step"), defArgs s_Stage_step, defBody s_Stage_step, defScope s_Stage_step, [], []⟩) rfl
  obtain ⟨d_Stage_add, g_Stage_add⟩ := c.def_ 39 (d := ⟨fun K => (He.ma K (He.ga K (Str.ofString "Stage")) (Str.ofString "add")), (Str.ofString "add"), (Str.ofString "Stage.add"), defArgs s_Stage_add, defBody s_Stage_add, defScope s_Stage_add, [], []⟩) rfl
  obtain ⟨d_Stage_jump, g_Stage_jump⟩ := c.def_ 40 (d := ⟨fun K => (He.ma K (He.ga K (Str.ofString "Stage")) (Str.ofString "jump")), (Str.ofString "jump"), (Str.ofString "Stage.jump"), defArgs s_Stage_jump, defBody s_Stage_jump, defScope s_Stage_jump, [], []⟩) rfl
  obtain ⟨d_Stage_undo, g_Stage_undo⟩ := c.def_ 41 (d := ⟨fun K => (He.ma K (He.ga K (Str.ofString "Stage")) (Str.ofString "undo")), (Str.ofString "undo"), (Str.ofString "Stage.undo"), defArgs s_Stage_undo, defBody s_Stage_undo, defScope s_Stage_undo, [], []⟩) rfl
  obtain ⟨d_Stage_execute, g_Stage_execute⟩ := c.def_ 42 (d := ⟨fun K => (He.ma K (He.ga K (Str.ofString "Stage")) (Str.ofString "execute")), (Str.ofString "execute"), (Str.ofString "Stage.execute"), defArgs s_Stage_execute, defBody s_Stage_execute, defScope s_Stage_execute, [], []⟩) rfl
  obtain ⟨d_Stage_batch, g_Stage_batch⟩ := c.def_ 43 (d := ⟨fun K => (He.ma K (He.ga K (Str.ofString "Stage")) (Str.ofString "batch")), (Str.ofString "batch"), (Str.ofString "Stage.batch"), defArgs s_Stage_batch, defBody s_Stage_batch, defScope s_Stage_batch, [], []⟩) rfl
  obtain ⟨d_Stage_replay, g_Stage_replay⟩ := c.def_ 44 (d := ⟨fun K => (He5.wf K (He.ga K (Str.ofString "Stage")) "classmethod" (Str.ofString "replay")), (Str.ofString "replay"), (Str.ofString "Stage.replay"), defArgs s_Stage_replay, defBody s_Stage_replay, defScope s_Stage_replay, [], []⟩) rfl
  obtain ⟨d_law, g_law⟩ := c.def_ 45 (d := ⟨fun K => (He.ga K (Str.ofString "law")), (Str.ofString "law"), (Str.ofString "law"), defArgs s_law, defBody s_law, defScope s_law, [], []⟩) rfl
  obtain ⟨t_LETTERS, e_LETTERS⟩ := He.str_ok X G (c.at_ 115 (f := .str (Str.ofString "LETTERS") (Str.ofString "abcdefghijklmnopqrstuvwxyz")) rfl)
  obtain ⟨t_DIGITS, e_DIGITS⟩ := He.str_ok X G (c.at_ 116 (f := .str (Str.ofString "DIGITS") (Str.ofString "0123456789")) rfl)
  obtain ⟨t_SPACES, e_SPACES⟩ := He.str_ok X G (c.at_ 117 (f := .str (Str.ofString "SPACES") (Str.ofString " \n")) rfl)
  obtain ⟨t_SIGNS, e_SIGNS⟩ := He.str_ok X G (c.at_ 118 (f := .str (Str.ofString "SIGNS") (Str.ofString ";:{}")) rfl)
  obtain ⟨t_MAX_LETTERS_lexer, e_MAX_LETTERS_lexer⟩ := He.int_ok X G (c.at_ 119 (f := .int (Str.ofString "MAX_LETTERS_lexer") 8) rfl)
  obtain ⟨t_MAX_DIGITS, e_MAX_DIGITS⟩ := He.int_ok X G (c.at_ 120 (f := .int (Str.ofString "MAX_DIGITS") 2) rfl)
  obtain ⟨t_NAME, e_NAME⟩ := He.str_ok X G (c.at_ 121 (f := .str (Str.ofString "NAME") (Str.ofString "name")) rfl)
  obtain ⟨t_NUMBER, e_NUMBER⟩ := He.str_ok X G (c.at_ 122 (f := .str (Str.ofString "NUMBER") (Str.ofString "number")) rfl)
  obtain ⟨t_KEYWORD, e_KEYWORD⟩ := He.str_ok X G (c.at_ 123 (f := .str (Str.ofString "KEYWORD") (Str.ofString "keyword")) rfl)
  obtain ⟨t_SIGN, e_SIGN⟩ := He.str_ok X G (c.at_ 124 (f := .str (Str.ofString "SIGN") (Str.ofString "sign")) rfl)
  obtain ⟨t_END, e_END⟩ := He.str_ok X G (c.at_ 125 (f := .str (Str.ofString "END") (Str.ofString "end")) rfl)
  obtain ⟨t_MIN_CELLS, e_MIN_CELLS⟩ := He.int_ok X G (c.at_ 126 (f := .int (Str.ofString "MIN_CELLS") 3) rfl)
  obtain ⟨t_MAX_CELLS, e_MAX_CELLS⟩ := He.int_ok X G (c.at_ 127 (f := .int (Str.ofString "MAX_CELLS") 12) rfl)
  obtain ⟨t_MAX_BOXES, e_MAX_BOXES⟩ := He.int_ok X G (c.at_ 128 (f := .int (Str.ofString "MAX_BOXES") 3) rfl)
  obtain ⟨t_MAX_STEPS, e_MAX_STEPS⟩ := He.int_ok X G (c.at_ 129 (f := .int (Str.ofString "MAX_STEPS") 20) rfl)
  obtain ⟨t_BLOCKED, e_BLOCKED⟩ := He.str_ok X G (c.at_ 130 (f := .str (Str.ofString "BLOCKED") (Str.ofString "blocked")) rfl)
  obtain ⟨t_MAX_STEP, e_MAX_STEP⟩ := He.int_ok X G (c.at_ 131 (f := .int (Str.ofString "MAX_STEP") 500) rfl)
  obtain ⟨t_MAX_LETTERS_stage, e_MAX_LETTERS_stage⟩ := He.int_ok X G (c.at_ 132 (f := .int (Str.ofString "MAX_LETTERS_stage") 8) rfl)
  obtain ⟨t_STEP, e_STEP⟩ := He.str_ok X G (c.at_ 133 (f := .str (Str.ofString "STEP") (Str.ofString "step")) rfl)
  obtain ⟨t_ADD, e_ADD⟩ := He.str_ok X G (c.at_ 134 (f := .str (Str.ofString "ADD") (Str.ofString "add")) rfl)
  obtain ⟨t_TAKE, e_TAKE⟩ := He.str_ok X G (c.at_ 135 (f := .str (Str.ofString "TAKE") (Str.ofString "take")) rfl)
  obtain ⟨t_JUMP, e_JUMP⟩ := He.str_ok X G (c.at_ 136 (f := .str (Str.ofString "JUMP") (Str.ofString "jump")) rfl)
  obtain ⟨t_UNDO, e_UNDO⟩ := He.str_ok X G (c.at_ 137 (f := .str (Str.ofString "UNDO") (Str.ofString "undo")) rfl)
  obtain ⟨t_REDO, e_REDO⟩ := He.str_ok X G (c.at_ 138 (f := .str (Str.ofString "REDO") (Str.ofString "redo")) rfl)
  obtain ⟨es_LENGTHS, nn_LENGTHS, kd_LENGTHS⟩ := He.dicW_ok (c.dic _ (List.mem_of_getElem? (i := 0) (show hTs[0]? = some _ from rfl)))
  let ad : Ad := { f_l_random := (He.ga K (Str.ofString "_law_random")), d_l_random := d_l_random, f_Parser_peek := (He.ma K (He.ga K (Str.ofString "Parser")) (Str.ofString "peek")), d_Parser_peek := d_Parser_peek, f_Token_init := (He.ma K (He.ga K (Str.ofString "Token")) (Str.ofString "__init__")), d_Token_init := d_Token_init, f_Robot_init := (He.ma K (He.ga K (Str.ofString "Robot")) (Str.ofString "__init__")), d_Robot_init := d_Robot_init, f_Plan_init := (He.ma K (He.ga K (Str.ofString "Plan")) (Str.ofString "__init__")), d_Plan_init := d_Plan_init, f_Parser_init := (He.ma K (He.ga K (Str.ofString "Parser")) (Str.ofString "__init__")), d_Parser_init := d_Parser_init, f_State_init := (He.ma K (He.ga K (Str.ofString "State")) (Str.ofString "__init__")), d_State_init := d_State_init, f_Tick_init := (He.ma K (He.ga K (Str.ofString "Tick")) (Str.ofString "__init__")), d_Tick_init := d_Tick_init, f_InvalidOperation_init := (He.ma K (He.ga K (Str.ofString "InvalidOperation")) (Str.ofString "__init__")), d_InvalidOperation_init := d_InvalidOperation_init, f_SyntaxFault_init := (He.ma K (He.ga K (Str.ofString "SyntaxFault")) (Str.ofString "__init__")), d_SyntaxFault_init := d_SyntaxFault_init, f_Parser_fail := (He.ma K (He.ga K (Str.ofString "Parser")) (Str.ofString "fail")), d_Parser_fail := d_Parser_fail, f_Parser_take_word := (He.ma K (He.ga K (Str.ofString "Parser")) (Str.ofString "take_word")), d_Parser_take_word := d_Parser_take_word, f_Parser_take := (He.ma K (He.ga K (Str.ofString "Parser")) (Str.ofString "take")), d_Parser_take := d_Parser_take, f_is_int_in := (He.ga K (Str.ofString "is_int_in")), d_is_int_in := d_is_int_in, f_Stage_check_cell := (He.ma K (He.ga K (Str.ofString "Stage")) (Str.ofString "check_cell")), d_Stage_check_cell := d_Stage_check_cell, f_Stage_record := (He.ma K (He.ga K (Str.ofString "Stage")) (Str.ofString "record")), d_Stage_record := d_Stage_record, f_replaced := (He.ga K (Str.ofString "replaced")), d_replaced := d_replaced, f_Stage_put_boxes := (He.ma K (He.ga K (Str.ofString "Stage")) (Str.ofString "put_boxes")), d_Stage_put_boxes := d_Stage_put_boxes, f_Stage_take := (He.ma K (He.ga K (Str.ofString "Stage")) (Str.ofString "take")), d_Stage_take := d_Stage_take, f_Parser_found := (He.ma K (He.ga K (Str.ofString "Parser")) (Str.ofString "found")), d_Parser_found := d_Parser_found, f_Parser_parse_shelf := (He.ma K (He.ga K (Str.ofString "Parser")) (Str.ofString "parse_shelf")), d_Parser_parse_shelf := d_Parser_parse_shelf, f_Parser_parse_step := (He.ma K (He.ga K (Str.ofString "Parser")) (Str.ofString "parse_step")), d_Parser_parse_step := d_Parser_parse_step, f_Parser_parse_robot := (He.ma K (He.ga K (Str.ofString "Parser")) (Str.ofString "parse_robot")), d_Parser_parse_robot := d_Parser_parse_robot, f_Parser_parse_plan := (He.ma K (He.ga K (Str.ofString "Parser")) (Str.ofString "parse_plan")), d_Parser_parse_plan := d_Parser_parse_plan, f_run_end := (He.ga K (Str.ofString "run_end")), d_run_end := d_run_end, f_read_token := (He.ga K (Str.ofString "read_token")), d_read_token := d_read_token, f_tokenize := (He.ga K (Str.ofString "tokenize")), d_tokenize := d_tokenize, f_load := (He.ga K (Str.ofString "load")), d_load := d_load, f_first_state := (He.ga K (Str.ofString "first_state")), d_first_state := d_first_state, f_Stage_init := (He.ma K (He.ga K (Str.ofString "Stage")) (Str.ofString "__init__")), d_Stage_init := d_Stage_init, f_l_below := (He.ga K (Str.ofString "_law_below")), d_l_below := d_l_below, f_l_error_of := (He.ga K (Str.ofString "_law_error_of")), d_l_error_of := d_l_error_of, f_l_all_raise := (He.ga K (Str.ofString "_law_all_raise")), d_l_all_raise := d_l_all_raise, f_Stage_operations := (SbH.propG K (Str.ofString "Stage") (Str.ofString "operations")), d_Stage_operations := d_Stage_operations, p_Stage_operations := (He.ma K (He.ga K (Str.ofString "Stage")) (Str.ofString "operations")), f_is_operation := (He.ga K (Str.ofString "is_operation")), d_is_operation := d_is_operation, f_Stage_redo := (He.ma K (He.ga K (Str.ofString "Stage")) (Str.ofString "redo")), d_Stage_redo := d_Stage_redo, f_act := (He.ga K (Str.ofString "act")), d_act := d_act, f_next_tick := (He.ga K (Str.ofString "next_tick")), d_next_tick := d_next_tick, f_Stage_step := (He.ma K (He.ga K (Str.ofString "Stage")) (Str.ofString "step")), d_Stage_step := d_Stage_step, f_Stage_add := (He.ma K (He.ga K (Str.ofString "Stage")) (Str.ofString "add")), d_Stage_add := d_Stage_add, f_Stage_jump := (He.ma K (He.ga K (Str.ofString "Stage")) (Str.ofString "jump")), d_Stage_jump := d_Stage_jump, f_Stage_undo := (He.ma K (He.ga K (Str.ofString "Stage")) (Str.ofString "undo")), d_Stage_undo := d_Stage_undo, f_Stage_execute := (He.ma K (He.ga K (Str.ofString "Stage")) (Str.ofString "execute")), d_Stage_execute := d_Stage_execute, f_Stage_batch := (He.ma K (He.ga K (Str.ofString "Stage")) (Str.ofString "batch")), d_Stage_batch := d_Stage_batch, f_Stage_replay := (He5.wf K (He.ga K (Str.ofString "Stage")) "classmethod" (Str.ofString "replay")), d_Stage_replay := d_Stage_replay, p_Stage_replay := (He.ma K (He.ga K (Str.ofString "Stage")) (Str.ofString "replay")), f_law := (He.ga K (Str.ofString "law")), d_law := d_law, cc_law := (He.cT K ((Str.ofString "law"), none)).1, tb_law := (He.cT K ((Str.ofString "law"), none)).2, C_Token := (He.ga K (Str.ofString "Token")), C_Robot := (He.ga K (Str.ofString "Robot")), C_Plan := (He.ga K (Str.ofString "Plan")), C_Parser := (He.ga K (Str.ofString "Parser")), C_State := (He.ga K (Str.ofString "State")), C_Tick := (He.ga K (Str.ofString "Tick")), C_Stage := (He.ga K (Str.ofString "Stage")), X_BotError := (He.ga K (Str.ofString "BotError")), X_InvalidTick := (He.ga K (Str.ofString "InvalidTick")), X_InvalidNumber := (He.ga K (Str.ofString "InvalidNumber")), X_TooLong := (He.ga K (Str.ofString "TooLong")), X_DifferentShelves := (He.ga K (Str.ofString "DifferentShelves")), X_Contradiction := (He.ga K (Str.ofString "Contradiction")), X_CellFull := (He.ga K (Str.ofString "CellFull")), X_CellEmpty := (He.ga K (Str.ofString "CellEmpty")), X_InvalidName := (He.ga K (Str.ofString "InvalidName")), X_UnknownName := (He.ga K (Str.ofString "UnknownName")), X_SyntaxFault := (He.ga K (Str.ofString "SyntaxFault")), X_CheckFault := (He.ga K (Str.ofString "CheckFault")), X_InvalidCode := (He.ga K (Str.ofString "InvalidCode")), X_InvalidOperation := (He.ga K (Str.ofString "InvalidOperation")), A_MOVES := (He.ga K (Str.ofString "MOVES")), A_JUMPS := (He.ga K (Str.ofString "JUMPS")), A_KEYWORDS := (He.ga K (Str.ofString "KEYWORDS")), t_LETTERS := t_LETTERS, t_DIGITS := t_DIGITS, t_SPACES := t_SPACES, t_SIGNS := t_SIGNS, t_MAX_LETTERS_lexer := t_MAX_LETTERS_lexer, t_MAX_DIGITS := t_MAX_DIGITS, t_NAME := t_NAME, t_NUMBER := t_NUMBER, t_KEYWORD := t_KEYWORD, t_SIGN := t_SIGN, t_END := t_END, t_MIN_CELLS := t_MIN_CELLS, t_MAX_CELLS := t_MAX_CELLS, t_MAX_BOXES := t_MAX_BOXES, t_MAX_STEPS := t_MAX_STEPS, t_BLOCKED := t_BLOCKED, t_MAX_STEP := t_MAX_STEP, t_MAX_LETTERS_stage := t_MAX_LETTERS_stage, t_STEP := t_STEP, t_ADD := t_ADD, t_TAKE := t_TAKE, t_JUMP := t_JUMP, t_UNDO := t_UNDO, t_REDO := t_REDO, A_LENGTHS := (He.ga K (Str.ofString "LENGTHS")) }
  have T : Txt K mg ad := { F_l_random := He5.fun_of (st := s_l_random) g_l_random, m_l_random := He.glo_ok X G (c.at_ 0 (f := .glo (Str.ofString "_law_random")) rfl), F_Parser_peek := He5.fun_of (st := s_Parser_peek) g_Parser_peek, M_Parser_peek := He.meth_ok (c.at_ 1 (f := .meth (Str.ofString "Parser") (Str.ofString "peek")) rfl), F_Token_init := He5.fun_of (st := s_Token_init) g_Token_init, F_Robot_init := He5.fun_of (st := s_Robot_init) g_Robot_init, F_Plan_init := He5.fun_of (st := s_Plan_init) g_Plan_init, F_Parser_init := He5.fun_of (st := s_Parser_init) g_Parser_init, F_State_init := He5.fun_of (st := s_State_init) g_State_init, F_Tick_init := He5.fun_of (st := s_Tick_init) g_Tick_init, F_InvalidOperation_init := He5.fun_of (st := s_InvalidOperation_init) g_InvalidOperation_init, F_SyntaxFault_init := He5.fun_of (st := s_SyntaxFault_init) g_SyntaxFault_init, F_Parser_fail := He5.fun_of (st := s_Parser_fail) g_Parser_fail, M_Parser_fail := He.meth_ok (c.at_ 2 (f := .meth (Str.ofString "Parser") (Str.ofString "fail")) rfl), F_Parser_take_word := He5.fun_of (st := s_Parser_take_word) g_Parser_take_word, M_Parser_take_word := He.meth_ok (c.at_ 3 (f := .meth (Str.ofString "Parser") (Str.ofString "take_word")) rfl), F_Parser_take := He5.fun_of (st := s_Parser_take) g_Parser_take, M_Parser_take := He.meth_ok (c.at_ 4 (f := .meth (Str.ofString "Parser") (Str.ofString "take")) rfl), F_is_int_in := He5.fun_of (st := s_is_int_in) g_is_int_in, m_is_int_in := He.glo_ok X G (c.at_ 5 (f := .glo (Str.ofString "is_int_in")) rfl), F_Stage_check_cell := He5.fun_of (st := s_Stage_check_cell) g_Stage_check_cell, M_Stage_check_cell := He.meth_ok (c.at_ 6 (f := .meth (Str.ofString "Stage") (Str.ofString "check_cell")) rfl), F_Stage_record := He5.fun_of (st := s_Stage_record) g_Stage_record, M_Stage_record := He.meth_ok (c.at_ 7 (f := .meth (Str.ofString "Stage") (Str.ofString "record")) rfl), F_replaced := He5.fun_of (st := s_replaced) g_replaced, m_replaced := He.glo_ok X G (c.at_ 8 (f := .glo (Str.ofString "replaced")) rfl), F_Stage_put_boxes := He5.fun_of (st := s_Stage_put_boxes) g_Stage_put_boxes, M_Stage_put_boxes := He.meth_ok (c.at_ 9 (f := .meth (Str.ofString "Stage") (Str.ofString "put_boxes")) rfl), F_Stage_take := He5.fun_of (st := s_Stage_take) g_Stage_take, M_Stage_take := He.meth_ok (c.at_ 10 (f := .meth (Str.ofString "Stage") (Str.ofString "take")) rfl), F_Parser_found := He5.fun_of (st := s_Parser_found) g_Parser_found, M_Parser_found := He.meth_ok (c.at_ 11 (f := .meth (Str.ofString "Parser") (Str.ofString "found")) rfl), F_Parser_parse_shelf := He5.fun_of (st := s_Parser_parse_shelf) g_Parser_parse_shelf, M_Parser_parse_shelf := He.meth_ok (c.at_ 12 (f := .meth (Str.ofString "Parser") (Str.ofString "parse_shelf")) rfl), F_Parser_parse_step := He5.fun_of (st := s_Parser_parse_step) g_Parser_parse_step, M_Parser_parse_step := He.meth_ok (c.at_ 13 (f := .meth (Str.ofString "Parser") (Str.ofString "parse_step")) rfl), F_Parser_parse_robot := He5.fun_of (st := s_Parser_parse_robot) g_Parser_parse_robot, M_Parser_parse_robot := He.meth_ok (c.at_ 14 (f := .meth (Str.ofString "Parser") (Str.ofString "parse_robot")) rfl), F_Parser_parse_plan := He5.fun_of (st := s_Parser_parse_plan) g_Parser_parse_plan, M_Parser_parse_plan := He.meth_ok (c.at_ 15 (f := .meth (Str.ofString "Parser") (Str.ofString "parse_plan")) rfl), F_run_end := He5.fun_of (st := s_run_end) g_run_end, m_run_end := He.glo_ok X G (c.at_ 16 (f := .glo (Str.ofString "run_end")) rfl), F_read_token := He5.fun_of (st := s_read_token) g_read_token, m_read_token := He.glo_ok X G (c.at_ 17 (f := .glo (Str.ofString "read_token")) rfl), F_tokenize := He5.fun_of (st := s_tokenize) g_tokenize, m_tokenize := He.glo_ok X G (c.at_ 18 (f := .glo (Str.ofString "tokenize")) rfl), F_load := He5.fun_of (st := s_load) g_load, m_load := He.glo_ok X G (c.at_ 19 (f := .glo (Str.ofString "load")) rfl), F_first_state := He5.fun_of (st := s_first_state) g_first_state, m_first_state := He.glo_ok X G (c.at_ 20 (f := .glo (Str.ofString "first_state")) rfl), F_Stage_init := He5.fun_of (st := s_Stage_init) g_Stage_init, F_l_below := He5.fun_of (st := s_l_below) g_l_below, m_l_below := He.glo_ok X G (c.at_ 21 (f := .glo (Str.ofString "_law_below")) rfl), F_l_error_of := He5.fun_of (st := s_l_error_of) g_l_error_of, m_l_error_of := He.glo_ok X G (c.at_ 22 (f := .glo (Str.ofString "_law_error_of")) rfl), F_l_all_raise := He5.fun_of (st := s_l_all_raise) g_l_all_raise, m_l_all_raise := He.glo_ok X G (c.at_ 23 (f := .glo (Str.ofString "_law_all_raise")) rfl), F_Stage_operations := He5.fun_of (st := s_Stage_operations) g_Stage_operations, F_is_operation := He5.fun_of (st := s_is_operation) g_is_operation, m_is_operation := He.glo_ok X G (c.at_ 24 (f := .glo (Str.ofString "is_operation")) rfl), F_Stage_redo := He5.fun_of (st := s_Stage_redo) g_Stage_redo, M_Stage_redo := He.meth_ok (c.at_ 25 (f := .meth (Str.ofString "Stage") (Str.ofString "redo")) rfl), F_act := He5.fun_of (st := s_act) g_act, m_act := He.glo_ok X G (c.at_ 26 (f := .glo (Str.ofString "act")) rfl), F_next_tick := He5.fun_of (st := s_next_tick) g_next_tick, m_next_tick := He.glo_ok X G (c.at_ 27 (f := .glo (Str.ofString "next_tick")) rfl), F_Stage_step := He5.fun_of (st := s_Stage_step) g_Stage_step, M_Stage_step := He.meth_ok (c.at_ 28 (f := .meth (Str.ofString "Stage") (Str.ofString "step")) rfl), F_Stage_add := He5.fun_of (st := s_Stage_add) g_Stage_add, M_Stage_add := He.meth_ok (c.at_ 29 (f := .meth (Str.ofString "Stage") (Str.ofString "add")) rfl), F_Stage_jump := He5.fun_of (st := s_Stage_jump) g_Stage_jump, M_Stage_jump := He.meth_ok (c.at_ 30 (f := .meth (Str.ofString "Stage") (Str.ofString "jump")) rfl), F_Stage_undo := He5.fun_of (st := s_Stage_undo) g_Stage_undo, M_Stage_undo := He.meth_ok (c.at_ 31 (f := .meth (Str.ofString "Stage") (Str.ofString "undo")) rfl), F_Stage_execute := He5.fun_of (st := s_Stage_execute) g_Stage_execute, M_Stage_execute := He.meth_ok (c.at_ 32 (f := .meth (Str.ofString "Stage") (Str.ofString "execute")) rfl), F_Stage_batch := He5.fun_of (st := s_Stage_batch) g_Stage_batch, M_Stage_batch := He.meth_ok (c.at_ 33 (f := .meth (Str.ofString "Stage") (Str.ofString "batch")) rfl), F_Stage_replay := He5.fun_of (st := s_Stage_replay) g_Stage_replay, K_Stage_replay := (SbH.cmB_ok hx_cm_Stage_replay).1, R_Stage_replay := (SbH.cmB_ok hx_cm_Stage_replay).2, F_law := He5.fun_of (st := s_law) g_law, m_law := He.glo_ok X G (c.at_ 34 (f := .glo (Str.ofString "law")) rfl), ce_law := SbH.code_of g_law, tnd := (by simp), m_Token := He.glo_ok X G (c.at_ 35 (f := .glo (Str.ofString "Token")) rfl), cl_Token := He.cls_ok (c.at_ 36 (f := .cls (Str.ofString "Token")) rfl), mk_Token := He.mkr_ok (c.at_ 37 (f := .mkr (Str.ofString "Token")) rfl), n_Token_kind := He.noat_ok (c.at_ 38 (f := .noat (Str.ofString "Token") (Str.ofString "kind")) rfl), n_Token_text := He.noat_ok (c.at_ 39 (f := .noat (Str.ofString "Token") (Str.ofString "text")) rfl), n_Token_line := He.noat_ok (c.at_ 40 (f := .noat (Str.ofString "Token") (Str.ofString "line")) rfl), n_Token_column := He.noat_ok (c.at_ 41 (f := .noat (Str.ofString "Token") (Str.ofString "column")) rfl), m_Robot := He.glo_ok X G (c.at_ 42 (f := .glo (Str.ofString "Robot")) rfl), cl_Robot := He.cls_ok (c.at_ 43 (f := .cls (Str.ofString "Robot")) rfl), mk_Robot := He.mkr_ok (c.at_ 44 (f := .mkr (Str.ofString "Robot")) rfl), n_Robot_start := He.noat_ok (c.at_ 45 (f := .noat (Str.ofString "Robot") (Str.ofString "start")) rfl), n_Robot_steps := He.noat_ok (c.at_ 46 (f := .noat (Str.ofString "Robot") (Str.ofString "steps")) rfl), n_Robot_names := He.noat_ok (c.at_ 47 (f := .noat (Str.ofString "Robot") (Str.ofString "names")) rfl), m_Plan := He.glo_ok X G (c.at_ 48 (f := .glo (Str.ofString "Plan")) rfl), cl_Plan := He.cls_ok (c.at_ 49 (f := .cls (Str.ofString "Plan")) rfl), mk_Plan := He.mkr_ok (c.at_ 50 (f := .mkr (Str.ofString "Plan")) rfl), n_Plan_shelf := He.noat_ok (c.at_ 51 (f := .noat (Str.ofString "Plan") (Str.ofString "shelf")) rfl), n_Plan_robots := He.noat_ok (c.at_ 52 (f := .noat (Str.ofString "Plan") (Str.ofString "robots")) rfl), m_Parser := He.glo_ok X G (c.at_ 53 (f := .glo (Str.ofString "Parser")) rfl), cl_Parser := He.cls_ok (c.at_ 54 (f := .cls (Str.ofString "Parser")) rfl), mk_Parser := He.mkr_ok (c.at_ 55 (f := .mkr (Str.ofString "Parser")) rfl), n_Parser_tokens := He.noat_ok (c.at_ 56 (f := .noat (Str.ofString "Parser") (Str.ofString "tokens")) rfl), n_Parser_at := He.noat_ok (c.at_ 57 (f := .noat (Str.ofString "Parser") (Str.ofString "at")) rfl), n_Parser_faults := He.noat_ok (c.at_ 58 (f := .noat (Str.ofString "Parser") (Str.ofString "faults")) rfl), m_State := He.glo_ok X G (c.at_ 59 (f := .glo (Str.ofString "State")) rfl), cl_State := He.cls_ok (c.at_ 60 (f := .cls (Str.ofString "State")) rfl), mk_State := He.mkr_ok (c.at_ 61 (f := .mkr (Str.ofString "State")) rfl), n_State_cells := He.noat_ok (c.at_ 62 (f := .noat (Str.ofString "State") (Str.ofString "cells")) rfl), n_State_nexts := He.noat_ok (c.at_ 63 (f := .noat (Str.ofString "State") (Str.ofString "nexts")) rfl), n_State_holds := He.noat_ok (c.at_ 64 (f := .noat (Str.ofString "State") (Str.ofString "holds")) rfl), n_State_shelf := He.noat_ok (c.at_ 65 (f := .noat (Str.ofString "State") (Str.ofString "shelf")) rfl), m_Tick := He.glo_ok X G (c.at_ 66 (f := .glo (Str.ofString "Tick")) rfl), cl_Tick := He.cls_ok (c.at_ 67 (f := .cls (Str.ofString "Tick")) rfl), mk_Tick := He.mkr_ok (c.at_ 68 (f := .mkr (Str.ofString "Tick")) rfl), n_Tick_words := He.noat_ok (c.at_ 69 (f := .noat (Str.ofString "Tick") (Str.ofString "words")) rfl), n_Tick_state := He.noat_ok (c.at_ 70 (f := .noat (Str.ofString "Tick") (Str.ofString "state")) rfl), m_Stage := He.glo_ok X G (c.at_ 71 (f := .glo (Str.ofString "Stage")) rfl), cl_Stage := He.cls_ok (c.at_ 72 (f := .cls (Str.ofString "Stage")) rfl), mk_Stage := He.mkr_ok (c.at_ 73 (f := .mkr (Str.ofString "Stage")) rfl), n_Stage_parsed := He.noat_ok (c.at_ 74 (f := .noat (Str.ofString "Stage") (Str.ofString "parsed")) rfl), n_Stage_now := He.noat_ok (c.at_ 75 (f := .noat (Str.ofString "Stage") (Str.ofString "now")) rfl), n_Stage_past := He.noat_ok (c.at_ 76 (f := .noat (Str.ofString "Stage") (Str.ofString "past")) rfl), n_Stage_undone := He.noat_ok (c.at_ 77 (f := .noat (Str.ofString "Stage") (Str.ofString "undone")) rfl), n_Stage_saved := He.noat_ok (c.at_ 78 (f := .noat (Str.ofString "Stage") (Str.ofString "saved")) rfl), e_BotError := He.glo_ok X G (c.at_ 79 (f := .glo (Str.ofString "BotError")) rfl), e_InvalidTick := He.glo_ok X G (c.at_ 80 (f := .glo (Str.ofString "InvalidTick")) rfl), e_InvalidNumber := He.glo_ok X G (c.at_ 81 (f := .glo (Str.ofString "InvalidNumber")) rfl), e_TooLong := He.glo_ok X G (c.at_ 82 (f := .glo (Str.ofString "TooLong")) rfl), e_DifferentShelves := He.glo_ok X G (c.at_ 83 (f := .glo (Str.ofString "DifferentShelves")) rfl), e_Contradiction := He.glo_ok X G (c.at_ 84 (f := .glo (Str.ofString "Contradiction")) rfl), e_CellFull := He.glo_ok X G (c.at_ 85 (f := .glo (Str.ofString "CellFull")) rfl), e_CellEmpty := He.glo_ok X G (c.at_ 86 (f := .glo (Str.ofString "CellEmpty")) rfl), e_InvalidName := He.glo_ok X G (c.at_ 87 (f := .glo (Str.ofString "InvalidName")) rfl), e_UnknownName := He.glo_ok X G (c.at_ 88 (f := .glo (Str.ofString "UnknownName")) rfl), e_SyntaxFault := He.glo_ok X G (c.at_ 89 (f := .glo (Str.ofString "SyntaxFault")) rfl), e_CheckFault := He.glo_ok X G (c.at_ 90 (f := .glo (Str.ofString "CheckFault")) rfl), e_InvalidCode := He.glo_ok X G (c.at_ 91 (f := .glo (Str.ofString "InvalidCode")) rfl), e_InvalidOperation := He.glo_ok X G (c.at_ 92 (f := .glo (Str.ofString "InvalidOperation")) rfl), xq_InvalidOperation := ⟨SbH.oexB_ok ((exb_InvalidOperation_ok hx_exb_InvalidOperation).1), (exb_InvalidOperation_ok hx_exb_InvalidOperation).2.1, (exb_InvalidOperation_ok hx_exb_InvalidOperation).2.2.1, (exb_InvalidOperation_ok hx_exb_InvalidOperation).2.2.2.1, (exb_InvalidOperation_ok hx_exb_InvalidOperation).2.2.2.2.1⟩, xi_InvalidOperation := (exb_InvalidOperation_ok hx_exb_InvalidOperation).2.2.2.2.2.1, xj_InvalidOperation := (exb_InvalidOperation_ok hx_exb_InvalidOperation).2.2.2.2.2.2.1, xn_place_InvalidOperation := (exb_InvalidOperation_ok hx_exb_InvalidOperation).2.2.2.2.2.2.2.1, xf_InvalidOperation := ⟨(exb_InvalidOperation_ok hx_exb_InvalidOperation).2.2.2.2.2.2.2.2.1, (exb_InvalidOperation_ok hx_exb_InvalidOperation).2.2.2.2.2.2.2.2.2.1, (exb_InvalidOperation_ok hx_exb_InvalidOperation).2.2.2.2.2.2.2.2.2.2.1, (exb_InvalidOperation_ok hx_exb_InvalidOperation).2.2.2.2.2.2.2.2.2.2.2.1⟩, xd_InvalidOperation := ⟨(exb_InvalidOperation_ok hx_exb_InvalidOperation).2.2.2.2.2.2.2.2.2.2.2.2.1, (exb_InvalidOperation_ok hx_exb_InvalidOperation).2.2.2.2.2.2.2.2.2.2.2.2.2.1⟩, xw_InvalidOperation := SbH.cinB_ok ((exb_InvalidOperation_ok hx_exb_InvalidOperation).2.2.2.2.2.2.2.2.2.2.2.2.2.2.1), xk_InvalidOperation := (exb_InvalidOperation_ok hx_exb_InvalidOperation).2.2.2.2.2.2.2.2.2.2.2.2.2.2.2.1, xb_InvalidOperation := (exb_InvalidOperation_ok hx_exb_InvalidOperation).2.2.2.2.2.2.2.2.2.2.2.2.2.2.2.2.1, xt_InvalidOperation := (exb_InvalidOperation_ok hx_exb_InvalidOperation).2.2.2.2.2.2.2.2.2.2.2.2.2.2.2.2.2.1, xe_InvalidOperation := (exb_InvalidOperation_ok hx_exb_InvalidOperation).2.2.2.2.2.2.2.2.2.2.2.2.2.2.2.2.2.2.1, xc_InvalidOperation := ⟨(exb_InvalidOperation_ok hx_exb_InvalidOperation).2.2.2.2.2.2.2.2.2.2.2.2.2.2.2.2.2.2.2.1, (exb_InvalidOperation_ok hx_exb_InvalidOperation).2.2.2.2.2.2.2.2.2.2.2.2.2.2.2.2.2.2.2.2.1, (exb_InvalidOperation_ok hx_exb_InvalidOperation).2.2.2.2.2.2.2.2.2.2.2.2.2.2.2.2.2.2.2.2.2.1, (exb_InvalidOperation_ok hx_exb_InvalidOperation).2.2.2.2.2.2.2.2.2.2.2.2.2.2.2.2.2.2.2.2.2.2.1, (exb_InvalidOperation_ok hx_exb_InvalidOperation).2.2.2.2.2.2.2.2.2.2.2.2.2.2.2.2.2.2.2.2.2.2.2.1, (exb_InvalidOperation_ok hx_exb_InvalidOperation).2.2.2.2.2.2.2.2.2.2.2.2.2.2.2.2.2.2.2.2.2.2.2.2.1, (exb_InvalidOperation_ok hx_exb_InvalidOperation).2.2.2.2.2.2.2.2.2.2.2.2.2.2.2.2.2.2.2.2.2.2.2.2.2.1, (exb_InvalidOperation_ok hx_exb_InvalidOperation).2.2.2.2.2.2.2.2.2.2.2.2.2.2.2.2.2.2.2.2.2.2.2.2.2.2.1⟩, xo_InvalidOperation_InvalidTick := (exb_InvalidOperation_ok hx_exb_InvalidOperation).2.2.2.2.2.2.2.2.2.2.2.2.2.2.2.2.2.2.2.2.2.2.2.2.2.2.2.1, xo_InvalidOperation_InvalidNumber := (exb_InvalidOperation_ok hx_exb_InvalidOperation).2.2.2.2.2.2.2.2.2.2.2.2.2.2.2.2.2.2.2.2.2.2.2.2.2.2.2.2.1, xo_InvalidOperation_TooLong := (exb_InvalidOperation_ok hx_exb_InvalidOperation).2.2.2.2.2.2.2.2.2.2.2.2.2.2.2.2.2.2.2.2.2.2.2.2.2.2.2.2.2.1, xo_InvalidOperation_DifferentShelves := (exb_InvalidOperation_ok hx_exb_InvalidOperation).2.2.2.2.2.2.2.2.2.2.2.2.2.2.2.2.2.2.2.2.2.2.2.2.2.2.2.2.2.2.1, xo_InvalidOperation_Contradiction := (exb_InvalidOperation_ok hx_exb_InvalidOperation).2.2.2.2.2.2.2.2.2.2.2.2.2.2.2.2.2.2.2.2.2.2.2.2.2.2.2.2.2.2.2.1, xo_InvalidOperation_CellFull := (exb_InvalidOperation_ok hx_exb_InvalidOperation).2.2.2.2.2.2.2.2.2.2.2.2.2.2.2.2.2.2.2.2.2.2.2.2.2.2.2.2.2.2.2.2.1, xo_InvalidOperation_CellEmpty := (exb_InvalidOperation_ok hx_exb_InvalidOperation).2.2.2.2.2.2.2.2.2.2.2.2.2.2.2.2.2.2.2.2.2.2.2.2.2.2.2.2.2.2.2.2.2.1, xo_InvalidOperation_InvalidName := (exb_InvalidOperation_ok hx_exb_InvalidOperation).2.2.2.2.2.2.2.2.2.2.2.2.2.2.2.2.2.2.2.2.2.2.2.2.2.2.2.2.2.2.2.2.2.2.1, xo_InvalidOperation_UnknownName := (exb_InvalidOperation_ok hx_exb_InvalidOperation).2.2.2.2.2.2.2.2.2.2.2.2.2.2.2.2.2.2.2.2.2.2.2.2.2.2.2.2.2.2.2.2.2.2.2.1, xo_InvalidOperation_SyntaxFault := (exb_InvalidOperation_ok hx_exb_InvalidOperation).2.2.2.2.2.2.2.2.2.2.2.2.2.2.2.2.2.2.2.2.2.2.2.2.2.2.2.2.2.2.2.2.2.2.2.2.1, xo_InvalidOperation_CheckFault := (exb_InvalidOperation_ok hx_exb_InvalidOperation).2.2.2.2.2.2.2.2.2.2.2.2.2.2.2.2.2.2.2.2.2.2.2.2.2.2.2.2.2.2.2.2.2.2.2.2.2.1, xo_InvalidOperation_InvalidCode := (exb_InvalidOperation_ok hx_exb_InvalidOperation).2.2.2.2.2.2.2.2.2.2.2.2.2.2.2.2.2.2.2.2.2.2.2.2.2.2.2.2.2.2.2.2.2.2.2.2.2.2.1, xo_InvalidOperation_InvalidOperation := (exb_InvalidOperation_ok hx_exb_InvalidOperation).2.2.2.2.2.2.2.2.2.2.2.2.2.2.2.2.2.2.2.2.2.2.2.2.2.2.2.2.2.2.2.2.2.2.2.2.2.2.2.1, xv_InvalidOperation := (exb_InvalidOperation_ok hx_exb_InvalidOperation).2.2.2.2.2.2.2.2.2.2.2.2.2.2.2.2.2.2.2.2.2.2.2.2.2.2.2.2.2.2.2.2.2.2.2.2.2.2.2.2, xq_SyntaxFault := ⟨SbH.oexB_ok ((exb_SyntaxFault_ok hx_exb_SyntaxFault).1), (exb_SyntaxFault_ok hx_exb_SyntaxFault).2.1, (exb_SyntaxFault_ok hx_exb_SyntaxFault).2.2.1, (exb_SyntaxFault_ok hx_exb_SyntaxFault).2.2.2.1, (exb_SyntaxFault_ok hx_exb_SyntaxFault).2.2.2.2.1⟩, xi_SyntaxFault := (exb_SyntaxFault_ok hx_exb_SyntaxFault).2.2.2.2.2.1, xj_SyntaxFault := (exb_SyntaxFault_ok hx_exb_SyntaxFault).2.2.2.2.2.2.1, xn_line_SyntaxFault := (exb_SyntaxFault_ok hx_exb_SyntaxFault).2.2.2.2.2.2.2.1, xn_column_SyntaxFault := (exb_SyntaxFault_ok hx_exb_SyntaxFault).2.2.2.2.2.2.2.2.1, xf_SyntaxFault := ⟨(exb_SyntaxFault_ok hx_exb_SyntaxFault).2.2.2.2.2.2.2.2.2.1, (exb_SyntaxFault_ok hx_exb_SyntaxFault).2.2.2.2.2.2.2.2.2.2.1, (exb_SyntaxFault_ok hx_exb_SyntaxFault).2.2.2.2.2.2.2.2.2.2.2.1, (exb_SyntaxFault_ok hx_exb_SyntaxFault).2.2.2.2.2.2.2.2.2.2.2.2.1⟩, xd_SyntaxFault := ⟨(exb_SyntaxFault_ok hx_exb_SyntaxFault).2.2.2.2.2.2.2.2.2.2.2.2.2.1, (exb_SyntaxFault_ok hx_exb_SyntaxFault).2.2.2.2.2.2.2.2.2.2.2.2.2.2.1⟩, xw_SyntaxFault := SbH.cinB_ok ((exb_SyntaxFault_ok hx_exb_SyntaxFault).2.2.2.2.2.2.2.2.2.2.2.2.2.2.2.1), xk_SyntaxFault := (exb_SyntaxFault_ok hx_exb_SyntaxFault).2.2.2.2.2.2.2.2.2.2.2.2.2.2.2.2.1, xb_SyntaxFault := (exb_SyntaxFault_ok hx_exb_SyntaxFault).2.2.2.2.2.2.2.2.2.2.2.2.2.2.2.2.2.1, xt_SyntaxFault := (exb_SyntaxFault_ok hx_exb_SyntaxFault).2.2.2.2.2.2.2.2.2.2.2.2.2.2.2.2.2.2.1, xe_SyntaxFault := (exb_SyntaxFault_ok hx_exb_SyntaxFault).2.2.2.2.2.2.2.2.2.2.2.2.2.2.2.2.2.2.2.1, xc_SyntaxFault := ⟨(exb_SyntaxFault_ok hx_exb_SyntaxFault).2.2.2.2.2.2.2.2.2.2.2.2.2.2.2.2.2.2.2.2.1, (exb_SyntaxFault_ok hx_exb_SyntaxFault).2.2.2.2.2.2.2.2.2.2.2.2.2.2.2.2.2.2.2.2.2.1, (exb_SyntaxFault_ok hx_exb_SyntaxFault).2.2.2.2.2.2.2.2.2.2.2.2.2.2.2.2.2.2.2.2.2.2.1, (exb_SyntaxFault_ok hx_exb_SyntaxFault).2.2.2.2.2.2.2.2.2.2.2.2.2.2.2.2.2.2.2.2.2.2.2.1, (exb_SyntaxFault_ok hx_exb_SyntaxFault).2.2.2.2.2.2.2.2.2.2.2.2.2.2.2.2.2.2.2.2.2.2.2.2.1, (exb_SyntaxFault_ok hx_exb_SyntaxFault).2.2.2.2.2.2.2.2.2.2.2.2.2.2.2.2.2.2.2.2.2.2.2.2.2.1, (exb_SyntaxFault_ok hx_exb_SyntaxFault).2.2.2.2.2.2.2.2.2.2.2.2.2.2.2.2.2.2.2.2.2.2.2.2.2.2.1, (exb_SyntaxFault_ok hx_exb_SyntaxFault).2.2.2.2.2.2.2.2.2.2.2.2.2.2.2.2.2.2.2.2.2.2.2.2.2.2.2.1⟩, xo_SyntaxFault_InvalidTick := (exb_SyntaxFault_ok hx_exb_SyntaxFault).2.2.2.2.2.2.2.2.2.2.2.2.2.2.2.2.2.2.2.2.2.2.2.2.2.2.2.2.1, xo_SyntaxFault_InvalidNumber := (exb_SyntaxFault_ok hx_exb_SyntaxFault).2.2.2.2.2.2.2.2.2.2.2.2.2.2.2.2.2.2.2.2.2.2.2.2.2.2.2.2.2.1, xo_SyntaxFault_TooLong := (exb_SyntaxFault_ok hx_exb_SyntaxFault).2.2.2.2.2.2.2.2.2.2.2.2.2.2.2.2.2.2.2.2.2.2.2.2.2.2.2.2.2.2.1, xo_SyntaxFault_DifferentShelves := (exb_SyntaxFault_ok hx_exb_SyntaxFault).2.2.2.2.2.2.2.2.2.2.2.2.2.2.2.2.2.2.2.2.2.2.2.2.2.2.2.2.2.2.2.1, xo_SyntaxFault_Contradiction := (exb_SyntaxFault_ok hx_exb_SyntaxFault).2.2.2.2.2.2.2.2.2.2.2.2.2.2.2.2.2.2.2.2.2.2.2.2.2.2.2.2.2.2.2.2.1, xo_SyntaxFault_CellFull := (exb_SyntaxFault_ok hx_exb_SyntaxFault).2.2.2.2.2.2.2.2.2.2.2.2.2.2.2.2.2.2.2.2.2.2.2.2.2.2.2.2.2.2.2.2.2.1, xo_SyntaxFault_CellEmpty := (exb_SyntaxFault_ok hx_exb_SyntaxFault).2.2.2.2.2.2.2.2.2.2.2.2.2.2.2.2.2.2.2.2.2.2.2.2.2.2.2.2.2.2.2.2.2.2.1, xo_SyntaxFault_InvalidName := (exb_SyntaxFault_ok hx_exb_SyntaxFault).2.2.2.2.2.2.2.2.2.2.2.2.2.2.2.2.2.2.2.2.2.2.2.2.2.2.2.2.2.2.2.2.2.2.2.1, xo_SyntaxFault_UnknownName := (exb_SyntaxFault_ok hx_exb_SyntaxFault).2.2.2.2.2.2.2.2.2.2.2.2.2.2.2.2.2.2.2.2.2.2.2.2.2.2.2.2.2.2.2.2.2.2.2.2.1, xo_SyntaxFault_SyntaxFault := (exb_SyntaxFault_ok hx_exb_SyntaxFault).2.2.2.2.2.2.2.2.2.2.2.2.2.2.2.2.2.2.2.2.2.2.2.2.2.2.2.2.2.2.2.2.2.2.2.2.2.1, xo_SyntaxFault_CheckFault := (exb_SyntaxFault_ok hx_exb_SyntaxFault).2.2.2.2.2.2.2.2.2.2.2.2.2.2.2.2.2.2.2.2.2.2.2.2.2.2.2.2.2.2.2.2.2.2.2.2.2.2.1, xo_SyntaxFault_InvalidCode := (exb_SyntaxFault_ok hx_exb_SyntaxFault).2.2.2.2.2.2.2.2.2.2.2.2.2.2.2.2.2.2.2.2.2.2.2.2.2.2.2.2.2.2.2.2.2.2.2.2.2.2.2.1, xo_SyntaxFault_InvalidOperation := (exb_SyntaxFault_ok hx_exb_SyntaxFault).2.2.2.2.2.2.2.2.2.2.2.2.2.2.2.2.2.2.2.2.2.2.2.2.2.2.2.2.2.2.2.2.2.2.2.2.2.2.2.2.1, xv_SyntaxFault := (exb_SyntaxFault_ok hx_exb_SyntaxFault).2.2.2.2.2.2.2.2.2.2.2.2.2.2.2.2.2.2.2.2.2.2.2.2.2.2.2.2.2.2.2.2.2.2.2.2.2.2.2.2.2, z_len := He.free_ok X G (c.at_ 93 (f := .free (Str.ofString "len")) rfl), z_abs := He.free_ok X G (c.at_ 94 (f := .free (Str.ofString "abs")) rfl), z_range := He.free_ok X G (c.at_ 95 (f := .free (Str.ofString "range")) rfl), z_str := He.free_ok X G (c.at_ 96 (f := .free (Str.ofString "str")) rfl), z_int := He.free_ok X G (c.at_ 97 (f := .free (Str.ofString "int")) rfl), z_tuple := He.free_ok X G (c.at_ 98 (f := .free (Str.ofString "tuple")) rfl), z_list := He.free_ok X G (c.at_ 99 (f := .free (Str.ofString "list")) rfl), z_sum := He.free_ok X G (c.at_ 100 (f := .free (Str.ofString "sum")) rfl), z_isinstance := He.free_ok X G (c.at_ 101 (f := .free (Str.ofString "isinstance")) rfl), z_bool := He.free_ok X G (c.at_ 102 (f := .free (Str.ofString "bool")) rfl), z_enumerate := He.free_ok X G (c.at_ 103 (f := .free (Str.ofString "enumerate")) rfl), z_zip := He.free_ok X G (c.at_ 104 (f := .free (Str.ofString "zip")) rfl), z_min := He.free_ok X G (c.at_ 105 (f := .free (Str.ofString "min")) rfl), z_all := He.free_ok X G (c.at_ 106 (f := .free (Str.ofString "all")) rfl), z_divmod := He.free_ok X G (c.at_ 107 (f := .free (Str.ofString "divmod")) rfl), z_max := He.free_ok X G (c.at_ 108 (f := .free (Str.ofString "max")) rfl), z_dict := He.free_ok X G (c.at_ 109 (f := .free (Str.ofString "dict")) rfl), z_sorted := He.free_ok X G (c.at_ 110 (f := .free (Str.ofString "sorted")) rfl), z_ValueError := He.free_ok X G (c.at_ 111 (f := .free (Str.ofString "ValueError")) rfl), c_MOVES := He.glo_ok X G (c.at_ 112 (f := .glo (Str.ofString "MOVES")) rfl), q_MOVES := (SbH.tupB_ok hx_tup_MOVES (by decide)).1, k_MOVES := (SbH.tupB_ok hx_tup_MOVES (by decide)).2, c_JUMPS := He.glo_ok X G (c.at_ 113 (f := .glo (Str.ofString "JUMPS")) rfl), q_JUMPS := (SbH.tupB_ok hx_tup_JUMPS (by decide)).1, k_JUMPS := (SbH.tupB_ok hx_tup_JUMPS (by decide)).2, c_KEYWORDS := He.glo_ok X G (c.at_ 114 (f := .glo (Str.ofString "KEYWORDS")) rfl), q_KEYWORDS := (SbH.tupB_ok hx_tup_KEYWORDS (by decide)).1, k_KEYWORDS := (SbH.tupB_ok hx_tup_KEYWORDS (by decide)).2, c_LETTERS := e_LETTERS, c_DIGITS := e_DIGITS, c_SPACES := e_SPACES, c_SIGNS := e_SIGNS, c_MAX_LETTERS_lexer := e_MAX_LETTERS_lexer, c_MAX_DIGITS := e_MAX_DIGITS, c_NAME := e_NAME, c_NUMBER := e_NUMBER, c_KEYWORD := e_KEYWORD, c_SIGN := e_SIGN, c_END := e_END, c_MIN_CELLS := e_MIN_CELLS, c_MAX_CELLS := e_MAX_CELLS, c_MAX_BOXES := e_MAX_BOXES, c_MAX_STEPS := e_MAX_STEPS, c_BLOCKED := e_BLOCKED, c_MAX_STEP := e_MAX_STEP, c_MAX_LETTERS_stage := e_MAX_LETTERS_stage, c_STEP := e_STEP, c_ADD := e_ADD, c_TAKE := e_TAKE, c_JUMP := e_JUMP, c_UNDO := e_UNDO, c_REDO := e_REDO, c_LENGTHS := He.glo_ok X G (c.at_ 139 (f := .glo (Str.ofString "LENGTHS")) rfl), P_Stage_operations := SbH.propB_ok hx_P_Stage_operations, yi_Stage := of_decide_eq_true hx_yi_Stage, yn_Stage := of_decide_eq_true hx_yn_Stage, yt_Stage := of_decide_eq_true hx_yt_Stage, ym_Stage := of_decide_eq_true hx_ym_Stage }
  have bl := FunD.bindsA (ps := ["_law_script"]) g_law fun _ _ _ _ _ _ us hl => match us, hl with | [_], _ => rfl
  refine ⟨ad.d_law, hTf.map fun p => He.cT K p, spLaw ad K, fun p hp => ?_, fun p hp => ?_, fun p hp => ?_, fun s v => bl s [v] rfl, fun H a ns hl _ hH hS => ⟨a, ns, rfl, hS, hl, fun p hp => ?_, fun _ => rfl⟩, fun base _ _ hTB => ok_law T { t_law := hTB _ (List.mem_map.mpr ⟨((Str.ofString "law"), none), by simp [hTf], rfl⟩) } { dm_LENGTHS_save := of_decide_eq_true hx_mis_LENGTHS_save, dk_LENGTHS_step := SbH.dct_of kd_LENGTHS (He.valsB_ok hx_dic_LENGTHS (q := ((Str.ofString "step"), .int 2)) (by simp)), dk_LENGTHS_add := SbH.dct_of kd_LENGTHS (He.valsB_ok hx_dic_LENGTHS (q := ((Str.ofString "add"), .int 2)) (by simp)), dk_LENGTHS_take := SbH.dct_of kd_LENGTHS (He.valsB_ok hx_dic_LENGTHS (q := ((Str.ofString "take"), .int 2)) (by simp)), dk_LENGTHS_jump := SbH.dct_of kd_LENGTHS (He.valsB_ok hx_dic_LENGTHS (q := ((Str.ofString "jump"), .int 3)) (by simp)), dk_LENGTHS_undo := SbH.dct_of kd_LENGTHS (He.valsB_ok hx_dic_LENGTHS (q := ((Str.ofString "undo"), .int 1)) (by simp)), dk_LENGTHS_redo := SbH.dct_of kd_LENGTHS (He.valsB_ok hx_dic_LENGTHS (q := ((Str.ofString "redo"), .int 1)) (by simp)), ds_LENGTHS := SbH.dct_sys kd_LENGTHS }⟩
  · obtain ⟨q, hq, rfl⟩ := List.mem_map.mp hp; exact c.empty q hq
  · obtain ⟨q, hq, rfl⟩ := List.mem_map.mp hp; exact c.out q hq
  · obtain ⟨q, hq, rfl⟩ := List.mem_map.mp hp; exact PySem.W.codeHd_of_K X (c.hd q hq)
  rcases List.mem_cons.mp hp with rfl | hp
  · exact LamX.TabS.nil (hH _ (List.mem_map.mpr ⟨((Str.ofString "law"), none), by simp [hTf], rfl⟩))
  exact absurd hp (by simp)
end Sb
open PySem PySem.W PySem.Calls PyProof.Rows in
set_option maxRecDepth 100000 in
set_option maxHeartbeats 0 in
theorem PySem.Challenge.cw_shelfbots_k18_malformed_operations_holds : PySem.Challenge.rw_shelfbots_k18_malformed_operations.Holds := by
  w_on; o_law
  refine HandSHeadRun.head_any (r := OpenLaw.row PySem.Challenge.rw_shelfbots_k18_malformed_operations) (q := view (OpenLaw.row PySem.Challenge.rw_shelfbots_k18_malformed_operations).prog [70]) (H := Sb.hHk) (ob := Sb.hOb) (M := 40000) (loose := Sb.hNm) (d := HandSHeadRun.topDef (OpenLaw.row PySem.Challenge.rw_shelfbots_k18_malformed_operations).prog 70) (kwd := []) Sb.hOb_eq
    (by kernel_rfl) (fun s => by kernel_rfl) Sb.hRun (by kernel_rfl) (by kernel_rfl) (by kernel_rfl) (by rfl) (by first | assumption | decide +kernel) (by decide +kernel) ⟨rfl, rfl, rfl, rfl, rfl, by decide +kernel⟩ ?hw ?hc
  case hw => w_witness2
  case hc =>
    refine LamX.walk_ofTsE (l := PySem.Challenge.rw_shelfbots_k18_malformed_operations) (n := 63) (k := 20) (x := "_law_script") (CX := fun _ => L2.CX0) rfl (by decide) (by kernel_rfl) ⟨rfl, by decide, by decide⟩ ?F (fun _ _ _ _ _ z => z)
    intro w mg fa h Y G hmg0
    obtain ⟨K, KX, c⟩ := Y
    have hmg : mg ("law" : PySem.Str) = some (.ref fa) := by
      have e : (HandSHeadRun.topDef (OpenLaw.row PySem.Challenge.rw_shelfbots_k18_malformed_operations).prog 70).name = ("law" : PySem.Str) := by kernel_rfl
      rw [← e]
      exact hmg0
    exact ⟨K, KX, Sb.hAll KX G hmg c⟩


