import PyProof.Rows.All
import Wide.All
import OpenK.AllK
import Wide.FinOn
import HandS.ForMost
import HandS.ForExc
import HandS.Walk
import HandS.Lambda
import HandS.Nested
import HandS.EndTab
import PySem.Challenge.RW_shelfbots_k15_invalid_bytes
import HandS.Property
import HandS.GenCall
import HandS.GenList
import HandS.ExcIs
import HandS.ExcInit
import HandS.ExcField
import HandS.ClsMeth
import KE.KStateDown
import HandS.Head0
import HandS.Head1
import HandS.Head2
import HandS.HeadEnd
import HandS.HeadHook1
import HandS.HeadHook2
import HandS.HeadHook3
import HandS.HeadHook4
import HandS.HeadNt
import HandS.HeadWalk
import HandS.Zip
import KE.KDictKeyed
import PyProof.RulesMatch
import HandS.Style
import HandS.IsInst
import HandS.Star
import HandS.Strs
import HandS.TupAny
import KE.GoesMore
import KE.GoesEnum
import HandS.List
import HandS.SetFor
import HandS.ExcInitHot
import HandS.SuiteRaise
import HandS.RaiseFrom
import KE.KAsSuite
import KE.GoesComp
import HandS.TryOnly
import HandS.Exc
set_option Elab.async false
set_option linter.all false
set_option maxRecDepth 100000
set_option maxHeartbeats 0
namespace Sb
open PySem PySem.Spec PyProof.Rows L2

/-! ### the data heap G within the heap H, grown by new objects alone -/
structure Ext (G H G' H' : Hp) : Prop where
  g : Same G G'
  h : Same G' H'
  n : ∀ b o, G' b = some o → G b = some o ∨ H b = none
  k : ∀ b, H' b = none → H b = none
/-- H without d -/
def wo (d : Addr) (H : Hp) : Hp := fun b => if b = d then none else H b
theorem wo_self {d : Addr} {H : Hp} : wo d H d = none := if_pos rfl
theorem wo_ne {d b : Addr} {H : Hp} (h : b ≠ d) : wo d H b = H b := if_neg h
theorem wo_some {d b : Addr} {H : Hp} {o : HO} (h : wo d H b = some o) : b ≠ d ∧ H b = some o := by
  by_cases e : b = d
  · rw [e, wo_self] at h; cases h
  · rw [wo_ne e] at h; exact ⟨e, h⟩
section
variable {G H G' H' G1 H1 G2 H2 : Hp} {d p l b : Addr} {o o' : HO}
theorem same_new (np : H p = none) : Same H (upd H p o) := fun b u e => by rw [upd_ne (ne_of_none e np)]; exact e
theorem same_up (s : Same G H) (np : H p = none) : Same (upd G p o) (upd H p o) := fun b u e => by
  by_cases h : b = p
  · subst h; rw [upd_same] at e ⊢; exact e
  · rw [upd_ne h] at e ⊢; exact s _ _ e
theorem same_put (s : Same G H) (n : G l = none) : Same G (upd H l o) := fun b u e => by rw [upd_ne (ne_of_none e n)]; exact s _ _ e
theorem same_add (s : Same G H) (h : H l = some o) : Same (upd G l o) H := fun b u e => by
  by_cases hb : b = l
  · subst hb; rw [upd_same] at e; rw [h]; exact e
  · rw [upd_ne hb] at e; exact s _ _ e
theorem Ext.refl (s : Same G H) : Ext G H G H := ⟨Same.refl G, s, fun _ _ e => .inl e, fun _ e => e⟩
theorem Ext.trans (a : Ext G H G1 H1) (b : Ext G1 H1 G2 H2) : Ext G H G2 H2 :=
  ⟨a.g.trans b.g, b.h, fun c o e => (b.n c o e).elim (fun e1 => a.n c o e1) fun e1 => .inr (a.k c e1), fun c e => a.k c (b.k c e)⟩
theorem Ext.start (a : Ext G H G' H') (s : Same G H) : Ext G H G H := Ext.refl s
/-- a new object, data -/
theorem Ext.new (a : Ext G H G1 H1) (np : H1 p = none) : Ext G H (upd G1 p o) (upd H1 p o) := by
  refine ⟨fun b u e => ?_, same_up a.h np, fun b u e => ?_, fun b e => ?_⟩
  · exact same_new (Same.free a.h np) _ _ (a.g b u e)
  · by_cases hb : b = p
    · rw [hb]; exact .inr (a.k p np)
    · rw [upd_ne hb] at e; exact a.n b u e
  · by_cases hb : b = p
    · rw [hb]; exact a.k p np
    · rw [upd_ne hb] at e; exact a.k b e
/-- a new object, not (yet) data -/
theorem Ext.lay (a : Ext G H G1 H1) (np : H1 p = none) : Ext G H G1 (upd H1 p o) := by
  refine ⟨a.g, same_put a.h (Same.free a.h np), a.n, fun b e => ?_⟩
  by_cases hb : b = p
  · rw [hb]; exact a.k p np
  · rw [upd_ne hb] at e; exact a.k b e
/-- a thing that is not data is written -/
theorem Ext.put (a : Ext G H G1 H1) (n : G1 l = none) : Ext G H G1 (upd H1 l o) := by
  refine ⟨a.g, same_put a.h n, a.n, fun b e => ?_⟩
  by_cases hb : b = l
  · rw [hb, upd_same] at e; cases e
  · rw [upd_ne hb] at e; exact a.k b e
/-- a thing made since becomes data -/
theorem Ext.freeze (a : Ext G H G1 H1) (n : H l = none) (h : H1 l = some o) : Ext G H (upd G1 l o) H1 := by
  refine ⟨fun b u e => ?_, same_add a.h h, fun b u e => ?_, a.k⟩
  · have e1 := a.g b u e
    by_cases hb : b = l
    · subst hb; rw [upd_same]; rw [← h]; exact a.h _ _ e1
    · rw [upd_ne hb]; exact e1
  · by_cases hb : b = l
    · rw [hb]; exact .inr n
    · rw [upd_ne hb] at e; exact a.n b u e
theorem Ext.out (a : Ext G H G1 H1) (g : G d = none) (h : H d = some o) : G1 d = none := by
  cases e : G1 d with
  | none => rfl
  | some u =>
    rcases a.n d u e with e1 | e1
    · rw [g] at e1; cases e1
    · rw [h] at e1; cases e1
theorem Ext.same (a : Ext G H G1 H1) : Same G H1 := a.g.trans a.h
theorem Ext.new_out (a : Ext G H G1 H1) (np : H1 p = none) : G1 p = none := Same.free a.h np
/-- the caller's wider data heap -/
theorem same_wo (s : Same G H) (g : G d = none) : Same G (wo d H) := fun b u e => by
  rw [wo_ne (ne_of_none e g)]; exact s _ _ e
end

/-! ### data -/
section
variable {K : PySem.W.Frag} {G H : Hp}
theorem Same.seqT {a : Addr} {xs : List V} (e : Same G H) (h : SqT K G a xs) : SqT K H a xs := by
  rcases h with (h | ⟨o, h⟩) | h
  · exact .inl (.inl (e _ _ h))
  · exact .inl (.inr ⟨o, e _ _ h⟩)
  · exact .inr h
mutual
theorem Dp.mono (s : Same G H) : ∀ (d : PyData) (v : V), Dp K G v d → Dp K H v d
  | _, _, .non => .non
  | _, _, .bl b => .bl b
  | _, _, .int i => .int i
  | _, _, .str x => .str x
  | .list ds, _, .lst h t => .lst (s.seq h) (Dp.monoAll s ds _ t)
  | .tuple ds, _, .tup h t => .tup (Same.seqT s h) (Dp.monoAll s ds _ t)
theorem Dp.monoAll (s : Same G H) : ∀ (ds : List PyData) (vs : List V), DpAll K G vs ds → DpAll K H vs ds
  | _, _, .nil => .nil
  | d :: ds, v :: vs, .cons h t => .cons (Dp.mono s d v h) (Dp.monoAll s ds vs t)
end
theorem DpAll.len : ∀ {vs : List V} {ds : List PyData}, DpAll K G vs ds → vs.length = ds.length
  | _, _, .nil => rfl
  | _, _, .cons _ t => congrArg (· + 1) (DpAll.len t)
theorem DpAll.get : ∀ {vs : List V} {ds : List PyData} {i : Nat} {v : V}, DpAll K G vs ds → vs[i]? = some v → ∃ d, ds[i]? = some d ∧ Dp K G v d
  | _, _, _, _, .nil, e => by simp at e
  | _, _, 0, _, .cons h _, e => by simp at e; subst e; exact ⟨_, rfl, h⟩
  | _, _, i + 1, v, .cons _ t, e => by
    obtain ⟨d, h1, h2⟩ := DpAll.get (i := i) (v := v) t (by simpa using e)
    exact ⟨d, by simpa using h1, h2⟩
theorem DpAll.at : ∀ {vs : List V} {ds : List PyData} {i : Nat} {d : PyData}, DpAll K G vs ds → ds[i]? = some d → ∃ v, vs[i]? = some v ∧ Dp K G v d
  | _, _, _, _, .nil, e => by simp at e
  | _, _, 0, _, .cons h _, e => by simp at e; subst e; exact ⟨_, rfl, h⟩
  | _, _, i + 1, v, .cons _ t, e => by
    obtain ⟨d, h1, h2⟩ := DpAll.at (i := i) t (by simpa using e)
    exact ⟨d, by simpa using h1, h2⟩
theorem DpAll.snoc : ∀ {vs : List V} {ds : List PyData} {v : V} {d : PyData}, DpAll K G vs ds → Dp K G v d → DpAll K G (vs ++ [v]) (ds ++ [d])
  | _, _, _, _, .nil, h => .cons h .nil
  | _, _, _, _, .cons h t, h' => .cons h (DpAll.snoc t h')
theorem DpAll.append : ∀ {vs us : List V} {ds es : List PyData}, DpAll K G vs ds → DpAll K G us es → DpAll K G (vs ++ us) (ds ++ es)
  | _, _, _, _, .nil, h => h
  | _, _, _, _, .cons h t, h' => .cons h (DpAll.append t h')
theorem DpAll.ints : ∀ (ns : List Int), DpAll K G (ns.map V.int) (ns.map PyData.int)
  | [] => .nil
  | n :: ns => .cons (.int n) (DpAll.ints ns)
theorem DpAll.strs : ∀ (ns : List Str), DpAll K G (ns.map V.str) (ns.map PyData.str)
  | [] => .nil
  | n :: ns => .cons (.str n) (DpAll.strs ns)
theorem Dp.int_inv {v : V} {i : Int} (h : Dp K G v (.int i)) : v = .int i := by cases h; rfl
theorem Dp.str_inv {v : V} {i : Str} (h : Dp K G v (.str i)) : v = .str i := by cases h; rfl
theorem Dp.none_inv {v : V} (h : Dp K G v .none) : v = .non := by cases h; rfl
theorem Dp.bool_inv {v : V} {b : Bool} (h : Dp K G v (.bool b)) : v = .bl b := by cases h; rfl
theorem Dp.tup_inv {v : V} {ds : List PyData} (h : Dp K G v (.tuple ds)) : ∃ a xs, v = .ref a ∧ SqT K G a xs ∧ DpAll K G xs ds := by
  cases h with
  | tup h t => exact ⟨_, _, rfl, h, t⟩
theorem Dp.lst_inv {v : V} {ds : List PyData} (h : Dp K G v (.list ds)) : ∃ a xs, v = .ref a ∧ SqL K G a xs ∧ DpAll K G xs ds := by
  cases h with
  | lst h t => exact ⟨_, _, rfl, h, t⟩
theorem DpAll.nil_inv {vs : List V} (h : DpAll K G vs []) : vs = [] := by cases h; rfl
theorem DpAll.cons_inv {vs : List V} {d : PyData} {ds : List PyData} (h : DpAll K G vs (d :: ds)) : ∃ v r, vs = v :: r ∧ Dp K G v d ∧ DpAll K G r ds := by
  cases h with
  | cons h t => exact ⟨_, _, rfl, h, t⟩
theorem DpAll.ints_inv : ∀ {ns : List Int} {vs : List V}, DpAll K G vs (ns.map PyData.int) → vs = ns.map V.int
  | [], _, .nil => rfl
  | _ :: _, _, .cons h t => by rw [Dp.int_inv h, DpAll.ints_inv t]; rfl
theorem DpAll.strs_inv : ∀ {ns : List Str} {vs : List V}, DpAll K G vs (ns.map PyData.str) → vs = ns.map V.str
  | [], _, .nil => rfl
  | _ :: _, _, .cons h t => by rw [Dp.str_inv h, DpAll.strs_inv t]; rfl
end

/-! ### fields of a new instance -/
theorem putF_new {f : Str} {v : V} : ∀ {fs : List (Str × V)}, f ∉ fs.map (·.1) → putF f v fs = fs ++ [(f, v)]
  | [], _ => rfl
  | (g, u) :: r, h => by
    have h1 : ¬ g = f := fun e => h (by simp [e])
    have h2 : f ∉ r.map (·.1) := fun e => h (by simp only [List.map_cons, List.mem_cons]; exact .inr e)
    show (if g = f then _ else (g, u) :: putF f v r) = _
    rw [if_neg h1, putF_new h2]
    rfl
theorem ite_b {c : Bool} {A B : Prop} (h1 : c = true → A) (h2 : c = false → B) : if c = true then A else B := by
  cases c with
  | true => rw [if_pos rfl]; exact h1 rfl
  | false => rw [if_neg Bool.false_ne_true]; exact h2 rfl
theorem ite_t {c : Bool} {A B : Prop} (hc : c = true) (h : A) : if c = true then A else B := by rw [if_pos hc]; exact h
theorem ite_f {c : Bool} {A B : Prop} (hc : c = false) (h : B) : if c = true then A else B := by rw [hc, if_neg Bool.false_ne_true]; exact h
theorem small {n : Nat} (m : Nat) (h : n ≤ m) (hm : m ≤ 16777216) : n ≤ sizeLine := by rw [sizeLine_eq]; omega
theorem smaller {n : Nat} (m : Nat) (h : n ≤ m) (hm : m < 16777216) : n < sizeLine := by rw [sizeLine_eq]; omega

/-! ### the source of draws: d = [seed, digits, further..] -/
structure Src (ds : List Int) : Prop where
  ex : ∃ s e r, ds = s :: e :: r ∧ 0 ≤ s ∧ 0 ≤ e ∧ (∀ x ∈ r, (0 : Int) ≤ x) ∧ r.length ≤ 63
end Sb

namespace Sb
open PySem PySem.Spec PyProof.Rows L2 LamX NdefX
/-! ### a thing held still -/
def Fz (o : Obj) : HO := .frz o (.ext fun _ => True)
theorem fz_ok {P : Program} {w : World} {H : Hp} {h : Heap} {a : Addr} {o : Obj} (e : h.get? a = some o) : ObjOk P w H h a (Fz o) := ⟨e, trivial, ⟨o, e⟩, fun _ _ _ _ => trivial⟩
theorem fz_at {P : Program} {w : World} {H : Hp} {h : Heap} {a : Addr} {o : Obj} (hok : HOk P w H h) (e : H a = some (Fz o)) : h.get? a = some o := (hok a _ e).1
/-- without these -/
def cut (S : List Addr) (H : Hp) : Hp := fun b => if b ∈ S then none else H b
theorem cut_in {S : List Addr} {H : Hp} {b : Addr} (h : b ∈ S) : cut S H b = none := if_pos h
theorem cut_out {S : List Addr} {H : Hp} {b : Addr} (h : b ∉ S) : cut S H b = H b := if_neg h
theorem cut_some {S : List Addr} {H : Hp} {b : Addr} {o : HO} (h : cut S H b = some o) : b ∉ S ∧ H b = some o := by
  by_cases e : b ∈ S
  · rw [cut_in e] at h; cases h
  · rw [cut_out e] at h; exact ⟨e, h⟩
/-- H4 is H with the cells tracked -/
structure Trk (cells : List (Addr × Obj)) (H H4 : Hp) : Prop where
  out : ∀ b, b ∉ cells.map (·.1) → H4 b = H b
  was : ∀ p ∈ cells, H p.1 = none
  at_ : ∀ p ∈ cells, H4 p.1 = some (Fz p.2)
section
variable {P : Program} {w : World} {K : PySem.W.Frag} {mg : Str → Option Value} {base : Heap} {A : Around} {outer : List Env} {s s' : Shared} {H H4 : Hp} {cells : List (Addr × Obj)} {Q : VK} {u : Value}
theorem Trk.none (t : Trk cells H H4) {b : Addr} (h : b ∈ cells.map (·.1)) : H b = Option.none ∧ ∃ o, H4 b = some (Fz o) := by
  obtain ⟨p, hp, rfl⟩ := List.mem_map.mp h
  exact ⟨t.was p hp, _, t.at_ p hp⟩
theorem Trk.cut (t : Trk cells H H4) : cut (cells.map (·.1)) H4 = H := by
  funext b
  by_cases h : b ∈ cells.map (·.1)
  · rw [cut_in h, (t.none h).1]
  · rw [cut_out h, t.out b h]
theorem Trk.hok (t : Trk cells H H4) (hok : HOk P w H s.heap) (hc : ∀ p ∈ cells, s.heap.get? p.1 = some p.2) : HOk P w H4 s.heap := fun b o e => by
  by_cases h : b ∈ cells.map (·.1)
  · obtain ⟨p, hp, rfl⟩ := List.mem_map.mp h
    rw [t.at_ p hp] at e
    cases e
    exact fz_ok (hc p hp)
  · rw [t.out b h] at e
    refine (hok b o e).stay (fun _ _ _ z => z) (fun c z => ?_) fun c xs z => ?_
    · rw [t.out c fun q => by rw [(t.none q).1] at z; cases z]; exact z
    · rw [t.out c fun q => by rw [(t.none q).1] at z; cases z]; exact z
theorem Trk.env0 (t : Trk cells H H4) (e0 : Env0 P w K mg base A outer s H) (hc : ∀ p ∈ cells, s.heap.get? p.1 = some p.2) (hb : ∀ p ∈ cells, base.get? p.1 = Option.none) (hf : ∀ p ∈ cells, p.1 ∉ frs outer) : Env0 P w K mg base A outer s H4 := by
  refine ⟨e0.frames, e0.mod, fun b o e => ⟨(e0.bs b o e).1, ?_⟩, e0.bsz, e0.funs, fun b hb' => ?_, t.hok e0.hok hc, e0.bare⟩
  · rw [t.out b fun q => ?_]
    · exact (e0.bs b o e).2
    · obtain ⟨p, hp, rfl⟩ := List.mem_map.mp q
      rw [hb p hp] at e; cases e
  · rw [t.out b fun q => ?_]
    · exact e0.frf b hb'
    · obtain ⟨p, hp, rfl⟩ := List.mem_map.mp q
      exact hf p hp hb'
/-- behind a call with the cells tracked -/
theorem Trk.after (t : Trk cells H H4) (hc : ∀ p ∈ cells, s.heap.get? p.1 = some p.2) (h : CE outer P w H4 s (fun v H' => Q v (Sb.cut (cells.map (·.1)) H')) u s') : CE outer P w H s Q u s' := by
  obtain ⟨v, H5, os, bare, un, hok, r, q⟩ := h
  have fz5 : ∀ p ∈ cells, H5 p.1 = some (Fz p.2) := fun p hp => un.frzs _ _ _ (t.at_ p hp)
  have at5 : ∀ p ∈ cells, s'.heap.get? p.1 = some p.2 := fun p hp => fz_at hok (fz5 p hp)
  have nS : ∀ {b : Addr} {o : HO}, H b = some o → b ∉ cells.map (·.1) := fun {b o} e q => by rw [(t.none q).1] at e; cases e
  refine ⟨v, _, os, bare, ⟨fun b o e n nf nx => ?_, fun b o e n nf nx => ?_, fun b o e n nx => ?_, un.there, fun b xs e => ?_, fun b o u e => ?_, fun b ps e => ?_⟩, fun b o e => ?_, r, q⟩
  · by_cases h : b ∈ cells.map (·.1)
    · obtain ⟨p, hp, rfl⟩ := List.mem_map.mp h
      rw [hc p hp] at e; cases e
      exact at5 p hp
    · exact un.keep b o e (by rw [t.out b h]; exact n) nf nx
  · by_cases h : b ∈ cells.map (·.1)
    · obtain ⟨p, hp, rfl⟩ := List.mem_map.mp h
      rw [hc p hp] at e; cases e
      exact ⟨p.2.slots, at5 p hp⟩
    · exact un.slot b o e (by rw [t.out b h]; exact n) nf nx
  · by_cases h : b ∈ cells.map (·.1)
    · exact cut_in h
    · rw [cut_out h]; exact un.free b o e (by rw [t.out b h]; exact n) nx
  · rw [cut_out (nS e)]; exact un.tups b xs (by rw [t.out b (nS e)]; exact e)
  · rw [cut_out (nS e)]; exact un.frzs b o u (by rw [t.out b (nS e)]; exact e)
  · rw [cut_out (nS e)]; exact un.tbls b ps (by rw [t.out b (nS e)]; exact e)
  · obtain ⟨hb, e5⟩ := cut_some e
    refine (hok b o e5).stay (fun _ _ _ z => z) (fun c z => ?_) fun c xs z => ?_
    · rw [cut_out fun q => ?_]; exact z
      obtain ⟨p, hp, rfl⟩ := List.mem_map.mp q
      rw [fz5 p hp] at z; cases z
    · rw [cut_out fun q => ?_]; exact z
      obtain ⟨p, hp, rfl⟩ := List.mem_map.mp q
      rw [fz5 p hp] at z; cases z
/-- the other way: they are untracked through a call -/
theorem Trk.env0_cut (hF : ∀ p ∈ cells, H4 p.1 = some (Fz p.2)) (e0 : Env0 P w K mg base A outer s H4) : Env0 P w K mg base A outer s (Sb.cut (cells.map (·.1)) H4) := by
  refine ⟨e0.frames, e0.mod, fun b o e => ⟨(e0.bs b o e).1, ?_⟩, e0.bsz, e0.funs, fun b hb => ?_, fun b o e => ?_, e0.bare⟩
  · unfold Sb.cut; split; rfl; exact (e0.bs b o e).2
  · unfold Sb.cut; split; rfl; exact e0.frf b hb
  · obtain ⟨hb, e4⟩ := cut_some e
    refine (e0.hok b o e4).stay (fun _ _ _ z => z) (fun c z => ?_) fun c xs z => ?_
    · rw [cut_out fun q => ?_]; exact z
      obtain ⟨p, hp, rfl⟩ := List.mem_map.mp q
      rw [hF p hp] at z; cases z
    · rw [cut_out fun q => ?_]; exact z
      obtain ⟨p, hp, rfl⟩ := List.mem_map.mp q
      rw [hF p hp] at z; cases z
def rejoin (S : List Addr) (H H' : Hp) : Hp := fun b => if b ∈ S then H b else H' b
theorem Trk.after_cut (hF : ∀ p ∈ cells, H4 p.1 = some (Fz p.2)) (e0 : Env0 P w K mg base A outer s H4) (h : CE outer P w (Sb.cut (cells.map (·.1)) H4) s (fun v H' => Q v (rejoin (cells.map (·.1)) H4 H')) u s') : CE outer P w H4 s Q u s' := by
  obtain ⟨v, H5, os, bare, un, hok, r, q⟩ := h
  have obj : ∀ {b : Addr}, b ∈ cells.map (·.1) → ∃ o, H4 b = some (Fz o) ∧ s.heap.get? b = some o ∧ b ∉ frs outer := fun {b} h => by
    obtain ⟨p, hp, rfl⟩ := List.mem_map.mp h
    refine ⟨p.2, hF p hp, fz_at e0.hok (hF p hp), fun z => ?_⟩
    have := e0.frf _ z
    rw [hF p hp] at this; cases this
  have n5 : ∀ {b : Addr}, b ∈ cells.map (·.1) → H5 b = Option.none := fun {b} h => by
    obtain ⟨o, _, h2, _⟩ := obj h
    exact un.free b o h2 (cut_in h) (by simp)
  have rin : ∀ {b : Addr}, b ∈ cells.map (·.1) → rejoin (cells.map (·.1)) H4 H5 b = H4 b := fun h => if_pos h
  have rout : ∀ {b : Addr}, b ∉ cells.map (·.1) → rejoin (cells.map (·.1)) H4 H5 b = H5 b := fun h => if_neg h
  refine ⟨v, _, os, bare, ⟨fun b o e n nf nx => ?_, fun b o e n nf nx => ?_, fun b o e n nx => ?_, un.there, fun b xs e => ?_, fun b o u e => ?_, fun b ps e => ?_⟩, fun b o e => ?_, r, q⟩
  · refine un.keep b o e ?_ nf nx
    unfold Sb.cut; split; rfl; exact n
  · refine un.slot b o e ?_ nf nx
    unfold Sb.cut; split; rfl; exact n
  · by_cases h : b ∈ cells.map (·.1)
    · rw [rin h]; exact n
    · rw [rout h]; exact un.free b o e (by rw [cut_out h]; exact n) nx
  · by_cases h : b ∈ cells.map (·.1)
    · rw [rin h]; exact e
    · rw [rout h]; exact un.tups b xs (by rw [cut_out h]; exact e)
  · by_cases h : b ∈ cells.map (·.1)
    · rw [rin h]; exact e
    · rw [rout h]; exact un.frzs b o u (by rw [cut_out h]; exact e)
  · by_cases h : b ∈ cells.map (·.1)
    · rw [rin h]; exact ⟨#[], by rw [e]; simp⟩
    · rw [rout h]; exact un.tbls b ps (by rw [cut_out h]; exact e)
  · by_cases h : b ∈ cells.map (·.1)
    · rw [rin h] at e
      obtain ⟨o', h1, h2, h3⟩ := obj h
      rw [h1] at e; cases e
      exact fz_ok (un.keep b o' h2 (cut_in h) h3 (by simp))
    · rw [rout h] at e
      refine (hok b o e).stay (fun _ _ _ z => z) (fun c z => ?_) fun c xs z => ?_
      · rw [rout fun q => ?_]; exact z
        rw [n5 q] at z; cases z
      · rw [rout fun q => ?_]; exact z
        rw [n5 q] at z; cases z
theorem rejoin_cut {S : List Addr} {H : Hp} : rejoin S H (Sb.cut S H) = H := by
  funext b
  by_cases h : b ∈ S
  · exact if_pos h
  · show (if b ∈ S then H b else Sb.cut S H b) = H b
    rw [if_neg h, cut_out h]
end
/-! ### a lambda is made, and tracked -/
section
variable {X : Cx} {pins : List (Addr × Obj)} {σ : L2.St} {H : Hp} {s : Shared}
theorem inv_fz {o : Obj} {t' : Nat} (I : Inv X pins σ H s) (hf : o.isFreed = false) : Inv X pins σ (upd H s.heap.objs.size (Fz o)) { s with heap := s.heap.push o, toks := t' } :=
  I.laid (a := s.heap.objs.size) (fun b u e => Heap.get?_push_of_some _ e) (Nat.le_refl _) (fz_ok (Heap.get?_push_size _ hf))
theorem lam_make3 {T : List (Addr × Str)} {c P : Addr} {params : Arguments} {body : Expr} {scope : Scope} {pos : Pos} {E : Value → Shared → Prop} {Q : Value → Shared → Prop} (I : Inv X pins σ H s) (TB : TabB X.base X.mg c P) (hcode : X.env.code = .ref c)
    (hm : (P, X.env.qual ++ "<lambda>") ∈ T) (hu : ∀ p ∈ T, p.1 = P → p.2 = X.env.qual ++ "<lambda>") (hT : Tabs T H) (hdef : defaultsOf params X.env = ([], [])) (hfree : ∀ y ∈ scope.names, y.2 = .free → ∃ c, X.env.cells.lookup y.1 = some c)
    (h : ∀ (f c' : Addr) (pm ctv : Value) (H1 : Hp) (s' : Shared), Inv X pins σ H1 s' → (∀ b o, b ≠ P → H b = some o → H1 b = some o) → (∀ b, H1 b = none → H b = none) → Tabs T H1 → H f = none →
      H1 f = some (Fz (PySem.W.kla_obj "<lambda>" (X.env.qual ++ "<lambda>") params body scope (cloFrom X.env.cells scope.names []) pm c' ctv)) → H1 c' = some (CodeO c' (X.env.qual ++ "<lambda>")) → Q (.ref f) s') :
    wpAny (model X.prog X.w) X.A (eval (.Lambda params body scope pos) X.env) Q E s := by
  obtain ⟨ps, hP, ht, ha⟩ := hT _ hm
  refine PySem.W.kla_eval hdef ?_
  have bP : s.heap.BuiltinsAt X.mg P := TB.bm.keeps I.bk
  have hP' : s.heap.get? P = some { cls := .none, data := .fields ps } := I.hok P _ hP
  cases hc : codeAmong pos ps.toList with
  | none =>
    refine PySem.W.kla_makeFunction (mg := X.mg) (c := c) (P := P) (ps := ps) (closure_ok hfree) I.ok.glob (I.mod.glob.keeps I.bk) hcode (TB.code.keeps I.bk) hP' ht hc TB.gP bP fun c' ctv h' tk hx hge hlt hrec htb => ?_
    obtain ⟨c2, oc, vs, t, e2, hoc, hd, hv⟩ := hrec
    cases e2
    have hsz : s.heap.objs.size ≤ h'.objs.size := Nat.le_trans hge (Nat.le_of_lt hlt)
    have nC : H c' = none := I.hok.fresh hge
    have I1 := inv_table (t' := tk) (more := #[rawInt pos.line, rawInt pos.col, .ref c']) (h' := h') I hP (fun b o hb e => hx b o hb e) htb hge ⟨oc, vs, t, hoc, hd, hv⟩
    have hE : ExtN H (upd (upd H P (.tbl (ps ++ #[rawInt pos.line, rawInt pos.col, .ref c']))) c' (CodeO c' (X.env.qual ++ "<lambda>"))) := fun b o e n => by
      rw [upd_ne (ne_of_none e nC), upd_ne (fun z => n ps (Option.some.inj (e.symm.trans (by rw [z]; exact hP))))]
      exact e
    have eL : (ps ++ #[rawInt pos.line, rawInt pos.col, .ref c']).toList = ps.toList ++ [rawInt pos.line, rawInt pos.col, .ref c'] := by simp
    have T1 : Tabs T (upd (upd H P (.tbl (ps ++ #[rawInt pos.line, rawInt pos.col, .ref c']))) c' (CodeO c' (X.env.qual ++ "<lambda>"))) := fun p hp => by
      by_cases hb : p.1 = P
      · rw [hu p hp hb, hb]
        refine ⟨_, by rw [upd_ne (ne_of_none hP nC), upd_same], by rw [eL]; exact PySem.TriplesOk_snoc _ _ _ _ ht, fun p' cv hcv => ?_⟩
        rw [eL] at hcv
        rcases among_app _ ht hcv with z | z
        · obtain ⟨c0, e1, e2⟩ := ha p' cv z
          exact ⟨c0, e1, hE _ _ e2 codeO_ne⟩
        · exact ⟨c', z, upd_same⟩
      · obtain ⟨ps', a1, a2, a3⟩ := hT p hp
        refine ⟨ps', by rw [upd_ne (ne_of_none a1 nC), upd_ne hb]; exact a1, a2, fun p' cv hcv => ?_⟩
        obtain ⟨c0, e1, e2⟩ := a3 p' cv hcv
        exact ⟨c0, e1, hE _ _ e2 codeO_ne⟩
    have nF := I1.hok.fresh (Nat.le_refl _)
    have I2 := inv_fz (o := PySem.W.kla_obj "<lambda>" (X.env.qual ++ "<lambda>") params body scope (cloFrom X.env.cells scope.names []) ((X.mg "__name__").getD .none) c' ctv) (t' := tk) I1 rfl
    refine h h'.objs.size c' ((X.mg "__name__").getD .none) ctv _ _ I2 (fun b o n e => ?_) (fun b e => upd_none (upd_none (upd_none e))) (T1.ext fun b o e => ?_) (I.hok.fresh hsz) upd_same ?_
    · have e1 : (upd (upd H P (.tbl (ps ++ #[rawInt pos.line, rawInt pos.col, .ref c']))) c' (CodeO c' (X.env.qual ++ "<lambda>"))) b = some o := by rw [upd_ne (ne_of_none e nC), upd_ne n]; exact e
      exact (upd_ne (ne_of_none e1 nF)).trans e1
    · exact (upd_ne (ne_of_none e nF)).trans e
    · exact (upd_ne (Nat.ne_of_lt hlt)).trans upd_same
  | some cv =>
    obtain ⟨c', e, hco⟩ := ha pos cv hc
    subst e
    refine PySem.W.kla_makeFunctionHit (mg := X.mg) (c := c) (P := P) (ps := ps) (closure_ok hfree) I.ok.glob (I.mod.glob.keeps I.bk) hcode (TB.code.keeps I.bk) hP' ht hc bP fun ctv h' tk hx hsz => ?_
    have I1 : Inv X pins σ H { s with heap := h', toks := tk } := I.kept fun b o e => hx b o e
    have nF : H h'.objs.size = none := I1.hok.fresh (Nat.le_refl _)
    have I2 := inv_fz (o := PySem.W.kla_obj "<lambda>" (X.env.qual ++ "<lambda>") params body scope (cloFrom X.env.cells scope.names []) ((X.mg "__name__").getD .none) c' ctv) (t' := tk) I1 rfl
    refine h h'.objs.size c' ((X.mg "__name__").getD .none) ctv _ _ I2 (fun b o n e => ?_) (fun b e => upd_none e) (hT.ext fun b o e => ?_) nF upd_same ?_
    · exact (upd_ne (ne_of_none e nF)).trans e
    · exact (upd_ne (ne_of_none e nF)).trans e
    · exact (upd_ne (ne_of_none hco nF)).trans hco
end
/-- lambda ..: .. as a value -/
def tLamV (T : List (Addr × Str)) (P : Addr) (q : Str) (params : Arguments) (body : Expr) (scope : Scope) (cl : List (Str × Addr)) : TE := fun σ H Q => Tabs T H ∧ ∀ (f c' : Addr) (pm ctv : Value) (H1 : Hp), (∀ b o, b ≠ P → H b = some o → H1 b = some o) → (∀ b, H1 b = none → H b = none) → Tabs T H1 → H f = none →
  H1 f = some (Fz (PySem.W.kla_obj "<lambda>" q params body scope cl pm c' ctv)) → H1 c' = some (CodeO c' q) → Q (.ref f) H1
section
variable {X : Cx}
theorem pe_lamV {T : List (Addr × Str)} {c P : Addr} {params : Arguments} {body : Expr} {scope : Scope} {pos : Pos} (TB : TabB X.base X.mg c P) (hcode : X.env.code = .ref c) (hm : (P, X.env.qual ++ "<lambda>") ∈ T) (hu : ∀ p ∈ T, p.1 = P → p.2 = X.env.qual ++ "<lambda>")
    (hdef : defaultsOf params X.env = ([], [])) (hfree : ∀ y ∈ scope.names, y.2 = .free → X.env.scope.names.lookup y.1 = some .cell ∨ X.env.scope.names.lookup y.1 = some .free) :
    PE X (.Lambda params body scope pos) (tLamV T P (X.env.qual ++ "<lambda>") params body scope (cloFrom X.env.cells scope.names [])) := by
  refine ⟨fun pins s σ H Q I h => ?_⟩
  obtain ⟨hT, h⟩ := h
  refine lam_make3 I TB hcode hm hu hT hdef (fun y hy e => (hfree y hy e).elim (fun z => I.ok.has _ (.inl z)) fun z => I.ok.has _ (.inr z)) fun f c' pm ctv H1 s' I1 eN nn T1 f0 f1 c1 => ?_
  exact ⟨.ref f, H1, I1, rfl, h f c' pm ctv H1 eN nn T1 f0 f1 c1⟩
end
/-! ### a method is called, the captured cells tracked -/
structure CapT (cl : List (Str × Addr)) (fr : List Str) (ws : List (Option V)) (cells : List (Addr × Obj)) : Prop where
  len : ws.length = fr.length
  all : ∀ y c, cl.lookup y = some c → ∃ o v, (c, o) ∈ cells ∧ o.data = .cell v
  inj : ∀ x y c, cl.lookup x = some c → cl.lookup y = some c → x = y
  has : ∀ (i : Nat) (y : Str), fr[i]? = some y → ∃ c, cl.lookup y = some c ∧ ∀ v, ws[i]? = some (some v) → ∃ o u, (c, o) ∈ cells ∧ o.data = .cell (some u) ∧ L2.RelV v u
theorem capT_cells {cl : List (Str × Addr)} {fr : List Str} {ws : List (Option V)} {cells : List (Addr × Obj)} {P : Program} {w : World} {H : Hp} {h : Heap} (C : CapT cl fr ws cells) (hok : HOk P w H h) (hF : ∀ p ∈ cells, H p.1 = some (Fz p.2)) : CellsAt cl fr ws h (cut (cells.map (·.1)) H) := by
  refine ⟨C.len, fun y c e => ?_, C.inj, fun i y e => ?_⟩
  · obtain ⟨o, v, hm, hd⟩ := C.all y c e
    exact ⟨cut_in (List.mem_map.mpr ⟨_, hm, rfl⟩), v, o, fz_at hok (hF _ hm), hd⟩
  · obtain ⟨c, hc, hv⟩ := C.has i y e
    refine ⟨c, hc, fun v ev => ?_⟩
    obtain ⟨o, u, hm, hd, r⟩ := hv v ev
    exact ⟨u, r, o, fz_at hok (hF _ hm), hd⟩
def tMethT (C : Addr) (m : Str) (sp : Sp) (E : XK) (ta : TE) (t : TA) (cl : List (Str × Addr)) (fr : List Str) (js : List Nat) : TE := fun σ H Q => ta σ H fun x H1 => ∃ a dx fs, x = .ref a ∧ H1 a = some (.ins C dx fs) ∧ fs.lookup m = none ∧
  t σ H1 fun vs H3 => ∀ (cells : List (Addr × Obj)) (H4 : Hp), CapT cl fr (js.map (slotAt σ)) cells → Trk cells H3 H4 → sp (x :: vs) H4 (fun v H5 => Q v (cut (cells.map (·.1)) H5)) E
section
variable {X : Cx} {C f : Addr} {k : Nat} {fd : FuncData} {ps : List Str} {sp : Sp} {m : Str} {o e : Expr} {es : List Expr} {ta : TE} {t : TA} {pos apos : Pos} {scope : Scope} {fr : List Str} {js : List Nat}
theorem pe_methT {pl : Sem Bool} (he : PE X o ta) (c : Cls X.K C) (hm : Meth X.K C m f) (F : FnOk X.prog X.w X.K X.mg X.base CX0 k f fd ps sp) (hr : Room k X.A) (hb : Binds X.K fd ps []) (ha : PA X (e :: es) t)
    (hfn : ∀ x, X.fn x = true) (hfree : ∀ y ∈ scope.names, y.2 = .free → X.env.scope.names.lookup y.1 = some .cell ∨ X.env.scope.names.lookup y.1 = some .free) (hfr : ∀ y ∈ fr, (y, NameKind.free) ∈ scope.names) (hjs : js.map (fun j => X.N[j]?) = fr.map some)
    (hst : starEach (e :: es) X.env = (false, eval e X.env) :: starEach es X.env := by rfl) (hpl : (backTo pos (starEach es X.env)).any (·.1) = false := by rfl)
    (ht : eval (.Call (.Attribute o m apos) (e :: es) [] pos) X.env = (do
      let ov ← eval o X.env
      standAt apos.atName
      let (f, first) ← holding [ov] (getMethod ov m pl)
      callWith pos f first (backTo pos (starEach (e :: es) X.env)) (backToKw pos (keywordEach [] X.env))) := by rfl) :
    PE X (.Call (.Attribute o m apos) (e :: es) [] pos) (tMethT C m sp E0 ta t (cloFrom X.env.cells scope.names []) fr js) := by
  refine ⟨fun pins s σ H Q I h => ?_⟩
  refine PySem.W.methodCall_KW (pl := pl) (thn (he.run pins s σ H _ I h) fun u s1 ⟨x, H1, I1, rx, a, dx, fs, ex, ea, l, q⟩ => ?_) ht
  subst ex
  obtain rfl : u = Value.ref a := rx
  refine getmeth_ok I1 ea c hm l ?_
  refine PySem.W.callWith_K (first := [.ref a]) (h₀ := X.base) I.ok.mod.kin hm.kp (thn (ha.run pos pins s1 σ H1 _ I1 q) fun us s2 ⟨vs, H2, I2, r, q2⟩ => ⟨I2.kIn, ?_⟩) hst hpl
  have cp : Caps X (cloFrom X.env.cells scope.names []) fr js := Caps.made I2.ok hfree hfr hjs
  have hf : ∀ y ∈ scope.names, y.2 = .free → ∃ c, X.env.cells.lookup y.1 = some c := fun y hy e => (hfree y hy e).elim (fun z => I2.ok.has _ (.inl z)) fun z => I2.ok.has _ (.inr z)
  have CA := cells_of I2 cp
  generalize hcl : cloFrom X.env.cells scope.names [] = cl at *
  -- the cells, as they stand
  have mem : ∀ p ∈ pinsAt (cl.map (·.2)) s2.heap, ∃ y, X.env.cells.lookup y = some p.1 := fun p hp => by
    obtain ⟨h1, _⟩ := of_pinsAt hp
    obtain ⟨⟨y, b⟩, hyb, eb⟩ := List.mem_map.mp h1
    have eb : b = p.1 := eb
    rw [← hcl] at hyb
    rcases cloFrom_mem hyb with z | ⟨z1, z2⟩
    · cases z
    · obtain ⟨c1, hc1⟩ := hf _ z1 rfl
      have hc1 : X.env.cells.lookup y = some c1 := hc1
      refine ⟨y, ?_⟩
      rw [← eb, hc1]
      have z2 : b = ((X.env.cells.lookup y).getD 0) := z2
      rw [z2, hc1]
      rfl
  have hcS : ∀ p ∈ pinsAt (cl.map (·.2)) s2.heap, s2.heap.get? p.1 = some p.2 := fun p hp => (of_pinsAt hp).2
  have T4 : Trk (pinsAt (cl.map (·.2)) s2.heap) H2 (fun b => if b ∈ (pinsAt (cl.map (·.2)) s2.heap).map (·.1) then (s2.heap.get? b).map Fz else H2 b) := by
    refine ⟨fun b hb => if_neg hb, fun p hp => ?_, fun p hp => ?_⟩
    · obtain ⟨y, hy⟩ := mem p hp
      exact I2.freeC y _ hy
    · show (if p.1 ∈ _ then _ else _) = _
      rw [if_pos (List.mem_map.mpr ⟨p, hp, rfl⟩), hcS p hp]
      rfl
  have CT : CapT cl fr (js.map (slotAt σ)) (pinsAt (cl.map (·.2)) s2.heap) := by
    have inC : ∀ {y : Str} {c : Addr}, cl.lookup y = some c → c ∈ cl.map (·.2) := fun {y c} e => List.mem_map.mpr ⟨_, PySem.mem_of_lookup e, rfl⟩
    refine ⟨CA.len, fun y c e => ?_, CA.inj, fun i y e => ?_⟩
    · obtain ⟨_, v, o, ho, hd⟩ := CA.all y c e
      exact ⟨o, v, mem_pinsAt (inC e) ho, hd⟩
    · obtain ⟨c, hc, hv⟩ := CA.has i y e
      refine ⟨c, hc, fun v ev => ?_⟩
      obtain ⟨u, r, o, ho, hd⟩ := hv v ev
      exact ⟨o, u, mem_pinsAt (inC hc) ho, hd, r⟩
  have e0 := T4.env0 I2.env0 hcS (fun p hp => ?_) (fun p hp => ?_)
  · have q3 := q2 _ _ CT T4
    have r2 : Vals (V.ref a :: vs) (.ref a :: us) := .cons rfl r
    have hl : (Value.ref a :: us).length = ps.length := by rw [← r2.length]; exact F.len _ _ _ _ q3
    refine wpAny_call (codeAny_mono (F.run X.A X.stack s2 _ ⟨.ref a :: us, []⟩ (.ref a :: us) (.ref a :: vs) _ _ hr e0 ?_ r2 q3) fun r' s' hq => ?_)
    · have := hb s2 (.ref a :: us) I2.kIn (by rw [List.append_nil]; exact hl)
      rw [List.append_nil] at this
      exact this
    · cases r' with
      | error e => exact False.elim hq
      | ok fl =>
        cases fl with
        | ret u => exact I2.after (T4.after hcS hq)
        | next => exact False.elim hq
        | brk => exact False.elim hq
        | cont => exact False.elim hq
  · obtain ⟨y, hy⟩ := mem p hp
    have h1 := I2.ok.cab y _ (hfn y) hy
    cases e : X.base.get? p.1 with
    | none => rfl
    | some o => exact absurd (Nat.lt_of_lt_of_le (Heap.lt_size e) (Nat.le_trans I2.ok.bsz h1)) (Nat.lt_irrefl _)
  · obtain ⟨y, hy⟩ := mem p hp
    obtain ⟨v, o, ho, hd⟩ := I2.cell y _ hy
    intro hfrm
    rcases List.mem_cons.mp (I2.stkSub _ hfrm) with z | z
    · obtain ⟨m, hns, _⟩ := I2.loc
      obtain ⟨o2, es2, ep2, ho2, hd2, _⟩ := hns
      rw [← z, ho] at ho2; cases ho2
      rw [hd] at hd2; cases hd2
    · obtain ⟨_, o2, ho2, _⟩ := I2.ok.funs.mem z
      exact absurd (Nat.lt_of_lt_of_le (Heap.lt_size ho2) (I2.ok.cab y _ (hfn y) hy)) (Nat.lt_irrefl _)
end
/-! ### a function of one argument that gives a value and changes nothing -/
structure Lam1 (P : Program) (w : World) (K : PySem.W.Frag) (mg : Str → Option Value) (base : Heap) (k : Nat) (f : Addr) (D : Hp → Prop) (R : V → Hp → V → Prop) : Prop where
  fn : ∀ (H : Hp) (h : Heap), HOk P w H h → D H → PySem.W.FnAt f h
  run : ∀ (A : Around) (outer : List Env) (s : Shared) (H : Hp) (u : Value) (v : V) (Q : VK), Room k A → Env0 P w K mg base A outer s H → D H → L2.RelV v u → (∃ z, R v H z ∧ Q z H) →
    codeAny (model P w) A (.call (.ref f) ⟨[u], []⟩) (CR CX0 outer P w H s Q E0) s
def tCallM (P : Program) (w : World) (K : PySem.W.Frag) (mg : Str → Option Value) (base : Heap) (k i : Nat) (t : TA) : TE := fun σ H Q => ∃ f D R, Lam1 P w K mg base k f D R ∧ σ[i]? = some (some (.ref f)) ∧ D H ∧ t σ H fun vs H1 => ∃ v, vs = [v] ∧ D H1 ∧ ∃ z, R v H1 z ∧ Q z H1
section
variable {X : Cx} {i k : Nat} {x : Str} {e : Expr} {t : TA} {p pos : Pos}
theorem pe_callM (hr : Room k X.A) (hN : X.N[i]? = some x) (hv : Vis X.env.scope x) (ha : PA X [e] t) (hd : (x == ("__debug__" : Str)) = false := by decide) (hcd : (x == ("__classdict__" : Str)) = false := by decide)
    (he : starEach [e] X.env = (false, eval e X.env) :: starEach [] X.env := by rfl) : PE X (.Call (.Name x p) [e] [] pos) (tCallM X.prog X.w X.K X.mg X.base k i t) := by
  refine ⟨fun pins s σ H Q I h => ?_⟩
  obtain ⟨f, D, R, L, hs, hD, ht⟩ := h
  refine wpAny_Call_Name_kw (thn ((pe_var (pos := p) hN hv hd hcd).run pins s σ H (fun v H1 => v = .ref f ∧ H1 = H) I ⟨.ref f, hs, rfl, rfl⟩) fun u s1 ⟨v, H1, I1, r1, q1⟩ => ?_)
  obtain ⟨ev, eH⟩ := q1
  subst ev
  rw [eH] at I1
  obtain rfl : u = Value.ref f := r1
  refine PySem.W.callWith_F (first := []) (L.fn _ _ I1.hok hD) (thn (ha.run pos pins s1 σ H _ I1 ht) fun us s2 ⟨vs, H2, I2, r, v, ev, h1, q⟩ => ⟨L.fn _ _ I2.hok h1, ?_⟩) he (by rfl)
  subst ev
  cases r with
  | cons rv rr =>
    cases rr
    show wpAny _ _ (call (.ref f) _) _ _ _
    refine wpAny_call (codeAny_mono (L.run X.A X.stack s2 H2 _ v Q hr I2.env0 h1 rv q) fun r' s' hq => ?_)
    cases r' with
    | error e => exact False.elim hq
    | ok fl =>
      cases fl with
      | ret u => exact I2.after hq
      | next => exact False.elim hq
      | brk => exact False.elim hq
      | cont => exact False.elim hq
end
/-! ### a lambda of one parameter -/
abbrev lamF (q : Str) (params : Arguments) (scope : Scope) (cl : List (Str × Addr)) (c' : Addr) : NF := ⟨"<lambda>", q, params, [], scope, cl, c'⟩
def LamD (f c' : Addr) (q : Str) (o : Obj) (cells : List (Addr × Obj)) (H : Hp) : Prop := H f = some (Fz o) ∧ H c' = some (CodeO c' q) ∧ ∀ p ∈ cells, H p.1 = some (Fz p.2)
theorem lam1_of {P : Program} {w : World} {K : PySem.W.Frag} {mg : Str → Option Value} {base : Heap} {k : Nat} {N fr : List Str} {ws : List (Option V)} {cells : List (Addr × Obj)} {cl : List (Str × Addr)} {f c' : Addr} {q x : Str} {params : Arguments} {body : Expr} {scope : Scope} {pm ctv : Value} {R : V → Hp → V → Prop}
    (S : NScope N [x] fr scope) (hb : ∀ u : Value, bindArgs (PySem.W.kla_fn "<lambda>" q params body scope cl pm (.ref c') ctv) ⟨[u], []⟩ = pure [(x, u)]) (C : CapT cl fr ws cells)
    (hbody : ∀ (A : Around) (outer : List Env) (s : Shared) (H : Hp) (v z : V), Room k (A.deeper (envF (lamF q params scope cl c') f s.heap.objs.size)) → R v H z →
      ∃ t : TE, PE (ncx CX0 P w K mg base N (lamF q params scope cl c') f A outer s (cut (cells.map (·.1)) H) E0) body t ∧ ∀ Q : VK, Q z (cut (cells.map (·.1)) H) → t (startF N [v] ws) (cut (cells.map (·.1)) H) Q) :
    Lam1 P w K mg base (k + 1) f (LamD f c' q (PySem.W.kla_obj "<lambda>" q params body scope cl pm c' ctv) cells) R := by
  refine ⟨fun H h hok D => ⟨_, _, _, _, fz_at hok D.1⟩, fun A outer s H u v Q hr e0 D rv qq => ?_⟩
  obtain ⟨hf, hc, hF⟩ := D
  obtain ⟨z, hR, hQ⟩ := qq
  have e1 := Trk.env0_cut hF e0
  have CA := capT_cells C e0.hok hF
  have of := fz_at e0.hok hf
  have hcode := codeO_at e0.hok hc
  have lim : s.heap.NoLimit := e0.mod.nolimit.keeps fun b o e => (e0.bs b o e).1
  have rc : codeAny (model P w) A (.call (.ref f) ⟨[u], []⟩) (CR CX0 outer P w (cut (cells.map (·.1)) H) s (fun v H' => Q v (rejoin (cells.map (·.1)) H H')) E0) s := by
    refine PySem.W.kla_callFunE hr.depth of rfl S.co S.gen rfl hcode ?_
    rw [hb u]
    refine wpAny_pure (wpAny_newFunctionEnv S.nocell (fun y hy => ?_) (fun h₁ hns hsb => ⟨lim.fresh _ hsb, ?_⟩) S.kind)
    · rw [List.mem_singleton.mp hy]
      exact S.par x (List.mem_singleton.mpr rfl)
    show codeAny _ _ (.expr body (envF (lamF q params scope cl c') f s.heap.objs.size)) _ _
    have kp : ∀ b o, s.heap.get? b = some o → h₁.get? b = some o := fun b o e => hsb.extBut b o (Nat.ne_of_lt (Heap.lt_size e)) (Heap.get?_push_of_some _ e)
    have J : Inv (ncx CX0 P w K mg base N (lamF q params scope cl c') f A outer s (cut (cells.map (·.1)) H) E0) [] (startF N [v] ws) (cut (cells.map (·.1)) H) { s with heap := h₁, toks := s.toks + ([(x, u)] : List (Str × Value)).length } :=
      inv_startN (F := lamF q params scope cl c') (ps := [x]) (us := [u]) (vs := [v]) S hr.hd e1 rfl (.cons rv .nil) CA hns kp
    obtain ⟨t, ht, hq⟩ := hbody A outer s H v z (hr.deeper _) hR
    refine PySem.W.kla_codeExpr (wpAny_mono (ht.run [] _ _ _ (fun v H' => Q v (rejoin (cells.map (·.1)) H H')) J (hq _ (by rw [rejoin_cut]; exact hQ))) (fun v s' hq' => ?_) fun e s' hq' => hq')
    obtain ⟨w', H', J', rv', q'⟩ := hq'
    exact ⟨w', H', J'.os, J'.bare, J'.base, J'.hok, rv', q'⟩
  refine codeAny_mono rc fun r s' hq => ?_
  cases r with
  | error e => exact hq
  | ok fl =>
    cases fl with
    | ret u => exact Trk.after_cut hF e0 hq
    | next => exact hq
    | brk => exact hq
    | cont => exact hq
end Sb

namespace Sb
open PySem PySem.Spec PyProof.Rows L2
/-- the lambda that stands last among the arguments of the call that a def returns -/
def lamArg (st : Stmt) : Expr := match (defBody st).getLast? with
  | some (.Return (some (.Call _ es _ _)) _) => es.getLast?.getD (.Constant .none 0 ⟨0, 0, 0, 0⟩)
  | _ => .Constant .none 0 ⟨0, 0, 0, 0⟩
def lamScope : Expr → Scope
  | .Lambda _ _ sc _ => sc
  | _ => default
def lamPar : Expr → Arguments
  | .Lambda ps _ _ _ => ps
  | _ => default
def lamBody : Expr → Expr
  | .Lambda _ b _ _ => b
  | e => e
theorem fun_okC {P : Program} {w : World} {K : PySem.W.Frag} {mg : Str → Option Value} {base : Heap} {x qual : Str} {st : Stmt} {f c : Addr} {fd : FuncData} {N ps : List Str} {k : Nat} {sp : Sp} (F : L2.Fun K x qual st f fd) (hc : fd.code = .ref c) (S : FnScope N ps (defScope st)) (len : ∀ vs H Q E, sp vs H Q E → vs.length = ps.length)
    (hbody : ∀ (A : Around) (outer : List Env) (s : Shared) (H : Hp) (vs : List V) (Q : VK) (E : XK), Room k (A.deeper (envOfC qual (defScope st) s.heap.objs.size f (.ref c))) → sp vs H Q E →
      ∃ t, PSs (cxOf CX0 P w K mg base N qual (defScope st) f (.ref c) A outer s H E).nox (defBody st) t ∧ t { nx := fun _ H' => Q .non H', rt := Q } (start N vs) H) : FnOk P w K mg base CX0 (k + 1) f fd ps sp := by
  obtain ⟨oc, od, kV, doc, pm, an, cdv, ct, osl, rfl, lk, hcd⟩ := F.ex
  have hc' : cdv = .ref c := hc
  subst hc'
  refine fn_of lk hcd S len fun A outer s H vs Q E hr hsp => ?_
  obtain ⟨t, h, q⟩ := hbody A outer s H vs Q E hr hsp
  exact ⟨t, h.nox, q⟩
end Sb

namespace Sb
open PySem PySem.Spec PyProof.Rows L2
/-! ### the heap with the source of draws at d, beside the data heap G -/
structure Now (d : Addr) (G H : Hp) : Prop where
  s : Same G H
  o : G d = none
  x : ∃ ds : List Int, H d = some (.lst (ds.map V.int)) ∧ Src ds
structure At (d : Addr) (G0 H0 G H : Hp) : Prop where
  now : Now d G H
  ext : Ext G0 H0 G H
  sm : Same (wo d H0) H
section
variable {d p l : Addr} {G0 H0 G H G1 H1 G2 H2 : Hp} {o : HO} {ds : List Int}
theorem Now.at (h : Now d G H) : At d G H G H := ⟨h, Ext.refl h.s, fun b o e => (wo_some e).2⟩
theorem Now.ne (h : Now d G H) (np : H p = none) : p ≠ d := by
  obtain ⟨ds, h1, _⟩ := h.x
  exact fun e => by rw [e, h1] at np; cases np
theorem At.ne (h : At d G0 H0 G H) (np : H p = none) : p ≠ d := h.now.ne np
theorem At.new (h : At d G0 H0 G H) (np : H p = none) (o : HO) : At d G0 H0 (upd G p o) (upd H p o) := by
  refine ⟨⟨same_up h.now.s np, ?_, ?_⟩, h.ext.new np, h.sm.trans (same_new np)⟩
  · rw [upd_ne (h.ne np).symm]; exact h.now.o
  · rw [upd_ne (h.ne np).symm]; exact h.now.x
theorem At.lay (h : At d G0 H0 G H) (np : H p = none) (o : HO) : At d G0 H0 G (upd H p o) := by
  refine ⟨⟨same_put h.now.s (Same.free h.now.s np), h.now.o, ?_⟩, h.ext.lay np, h.sm.trans (same_new np)⟩
  rw [upd_ne (h.ne np).symm]; exact h.now.x
theorem At.draw (h : At d G0 H0 G H) (s : Src ds) : At d G0 H0 G (upd H d (.lst (ds.map V.int))) :=
  ⟨⟨same_put h.now.s h.now.o, h.now.o, ⟨ds, upd_same, s⟩⟩, h.ext.put h.now.o, same_put h.sm wo_self⟩
/-- a thing made since, not data, is written -/
theorem At.put (h : At d G0 H0 G H) (n0 : H0 l = none) (n : G l = none) (hd : l ≠ d) (o : HO) : At d G0 H0 G (upd H l o) := by
  refine ⟨⟨same_put h.now.s n, h.now.o, ?_⟩, h.ext.put n, same_put h.sm ?_⟩
  · rw [upd_ne hd.symm]; exact h.now.x
  · rw [wo_ne hd]; exact n0
theorem At.freeze (h : At d G0 H0 G H) (n0 : H0 l = none) (hl : H l = some o) (hd : l ≠ d) : At d G0 H0 (upd G l o) H :=
  ⟨⟨same_add h.now.s hl, by rw [upd_ne hd.symm]; exact h.now.o, h.now.x⟩, h.ext.freeze n0 hl, h.sm⟩
theorem At.trans (a : At d G0 H0 G H) (b : At d G H G1 H1) : At d G0 H0 G1 H1 := by
  refine ⟨b.now, a.ext.trans b.ext, fun c o e => ?_⟩
  have e1 := a.sm c o e
  exact b.sm c o (by rw [wo_ne (wo_some e).1]; exact e1)
theorem At.g (a : At d G0 H0 G H) : Same G0 G := a.ext.g
/-- what is not the source stands through a call -/
theorem At.kept (a : At d G H G1 H1) (h : H l = some o) (hd : l ≠ d) : H1 l = some o := a.sm l o (by rw [wo_ne hd]; exact h)
/-- behind a pure call -/
theorem At.pure (a : At d G0 H0 G H) (e : Ext G H G1 H1) (s : Same H H1) : At d G0 H0 G1 H1 := by
  obtain ⟨ds, h1, h2⟩ := a.now.x
  exact ⟨⟨e.h, e.out a.now.o h1, ⟨ds, s _ _ h1, h2⟩⟩, a.ext.trans e, a.sm.trans s⟩
end

/-- what follows a statement, shown once -/
theorem seq_rest {t u : TS} {D : Ends} {σ : L2.St} {H : Hp} (P : Hp → Prop) (σ' : L2.St) (hr : ∀ H, P H → u D σ' H) (h : (∀ H, P H → u D σ' H) → t { D with nx := u D } σ H) : tSeq t u D σ H := h hr
theorem seq_restσ {t u : TS} {D : Ends} {σ : L2.St} {H : Hp} (P : L2.St → Hp → Prop) (hr : ∀ σ H, P σ H → u D σ H) (h : (∀ σ H, P σ H → u D σ H) → t { D with nx := u D } σ H) : tSeq t u D σ H := h hr

/-! ### plans -/
def wds : List Str := ["left", "right", "pick", "put", "wait", "goto", "empty", "held"]
def wS (w : Nat) : Str := wds.getD w Str.empty
structure Step where
  w : Nat
  g : Option Nat
  deriving DecidableEq
def optD : Option Nat → PyData
  | none => .none
  | some k => .int k
def natD (n : Nat) : PyData := .int n
def Step.D (s : Step) : PyData := .tuple [.str (wS s.w), optD s.g]
structure Step.Ok (n : Nat) (s : Step) : Prop where
  w8 : s.w < 8
  no : s.w < 5 → s.g = none
  yes : 5 ≤ s.w → ∃ k, s.g = some k ∧ k < n
def stepsD (l : List Step) : PyData := .list (l.map Step.D)
structure StepsOk (l : List Step) : Prop where
  pos : 1 ≤ l.length
  le : l.length ≤ 20
  all : ∀ s ∈ l, Step.Ok l.length s
structure Pl where
  shelf : List Nat
  a : Nat
  b : Nat
  p : List Step
  q : List Step
def Pl.D (x : Pl) : PyData := .tuple [.tuple (x.shelf.map natD), .tuple [natD x.a, natD x.b], .list [stepsD x.p, stepsD x.q]]
structure Pl.Ok (x : Pl) : Prop where
  c3 : 3 ≤ x.shelf.length
  c12 : x.shelf.length ≤ 12
  b3 : ∀ n ∈ x.shelf, n ≤ 3
  ha : x.a < x.shelf.length
  hb : x.b < x.shelf.length
  ne : x.a ≠ x.b
  p : StepsOk x.p
  q : StepsOk x.q
/-- a def that draws: from the heap as it stands to one with R of its value -/
def Drawn (d : Addr) (G H : Hp) (Q : VK) (R : Hp → V → Prop) : Prop := Now d G H ∧ ∀ (G' H' : Hp) (v : V), At d G H G' H' → R G' v → Q v H'
/-- a def that changes nothing that stood -/
def Pure (G H : Hp) (Q : VK) (R : Hp → V → Prop) : Prop := Same G H ∧ ∀ (G' H' : Hp) (v : V), Ext G H G' H' → Same H H' → R G' v → Q v H'
end Sb

namespace Sb
open PySem PySem.Spec PyProof.Rows L2 TL
/-! ### canonical texts, by codes -/
def mkS (l : List Nat) : Str := ⟨l.toArray⟩
theorem tl_mkS (l : List Nat) : tl (mkS l) = l := rfl
theorem mkS_tl (x : Str) : mkS (tl x) = x := mk_tl x
theorem mkS_of {x : Str} {l : List Nat} (h : tl x = l) : x = mkS l := ext_tl h
theorem len_mkS (l : List Nat) : (mkS l).length = l.length := len_tl _
theorem len_app (x y : Str) : (x ++ y).length = x.length + y.length := by rw [len_tl, tl_append, List.length_append, ← len_tl, ← len_tl]
def wL (w : Nat) : List Nat := tl (wS w)
def goalsOf (ss : List Step) : List Nat := ss.filterMap Step.g
def stepL (gs : List Nat) (k : Nat) (s : Step) : List Nat :=
  [32, 32] ++ (if k ∈ gs then [115, 97 + k, 58, 32] else []) ++ wL s.w ++ (match s.g with | none => [] | some g => [32, 115, 97 + g]) ++ [59]
def stepsL (gs : List Nat) (k : Nat) : List Step → List (List Nat)
  | [] => []
  | s :: r => stepL gs k s :: stepsL gs (k + 1) r
def robotL (n : Nat) (ss : List Step) : List (List Nat) := ([114, 111, 98, 111, 116, 32] ++ numL n ++ [32, 123]) :: (stepsL (goalsOf ss) 0 ss ++ [[125]])
def shelfL (l : List Nat) : List Nat := [115, 104, 101, 108, 102, 32] ++ joinL [32] (l.map numL) ++ [59]
def linesL (x : Pl) : List (List Nat) := shelfL x.shelf :: (robotL x.a x.p ++ robotL x.b x.q)
def textL (x : Pl) : List Nat := joinL [10] (linesL x)
def textS (x : Pl) : Str := mkS (textL x)
theorem stepsL_len (gs : List Nat) : ∀ (k : Nat) (ss : List Step), (stepsL gs k ss).length = ss.length
  | _, [] => rfl
  | k, s :: r => by show (stepsL gs (k + 1) r).length + 1 = _; rw [stepsL_len gs (k + 1) r]; rfl
theorem stepsL_snoc (gs : List Nat) : ∀ (k : Nat) (ss : List Step) (s : Step), stepsL gs k (ss ++ [s]) = stepsL gs k ss ++ [stepL gs (k + ss.length) s]
  | k, [], s => rfl
  | k, t :: r, s => by
    show stepL gs k t :: stepsL gs (k + 1) (r ++ [s]) = _
    rw [stepsL_snoc gs (k + 1) r s]
    show _ = stepL gs k t :: (stepsL gs (k + 1) r ++ [stepL gs (k + (r.length + 1)) s])
    have e : k + 1 + r.length = k + (r.length + 1) := by omega
    rw [e]
/-! lengths -/
theorem wL_len : ∀ {w : Nat}, w < 8 → (wL w).length ≤ 5 := by
  have h : ∀ w : _root_.Fin 8, (wL w.val).length ≤ 5 := by decide +kernel
  exact fun {w} hw => h ⟨w, hw⟩
theorem wS_len {w : Nat} (h : w < 8) : (wS w).length ≤ 5 := by rw [len_tl]; exact wL_len h
theorem stepL_len {gs : List Nat} {k n : Nat} {s : Step} (h : Step.Ok n s) : (stepL gs k s).length ≤ 15 := by
  have h1 := wL_len h.w8
  unfold stepL
  simp only [List.length_append]
  have h2 : (if k ∈ gs then [115, 97 + k, 58, 32] else ([] : List Nat)).length ≤ 4 := by split <;> simp
  have h3 : (match s.g with | none => ([] : List Nat) | some g => [32, 115, 97 + g]).length ≤ 3 := by split <;> simp
  have h4 : ([32, 32] : List Nat).length = 2 := rfl
  have h5 : ([59] : List Nat).length = 1 := rfl
  omega
theorem joinL_len (S : List Nat) (m : Nat) : ∀ l : List (List Nat), (∀ p ∈ l, p.length ≤ m) → (joinL S l).length ≤ l.length * (m + S.length)
  | [], _ => by simp [joinL]
  | [x], h => by
    have := h x (by simp)
    show x.length ≤ 1 * (m + S.length)
    omega
  | x :: y :: r, h => by
    have h1 := h x (by simp)
    have ih := joinL_len S m (y :: r) (fun p hp => h p (by simp only [List.mem_cons] at hp ⊢; exact .inr hp))
    show (x ++ (S ++ joinL S (y :: r))).length ≤ _
    rw [List.length_append, List.length_append]
    have e : (x :: y :: r).length = (y :: r).length + 1 := rfl
    rw [e, Nat.add_mul, Nat.one_mul]
    omega
theorem numS_tl (n : Nat) : tl (Str.ofString (toString ((n : Nat) : Int))) = numL n := tl_num n
theorem num_len {n : Nat} (h : n < 100) : (numL n).length ≤ 2 := numL_len (by decide) (by show n < 10 ^ 2; omega)
theorem numS_len {n : Nat} (h : n < 100) : (Str.ofString (toString ((n : Nat) : Int))).length ≤ 2 := by rw [len_tl, tl_num]; exact num_len h
def abc : Str := "abcdefghijklmnopqrst"
theorem abc_at : ∀ {k : Nat}, k < 20 → abc.cps.toList[k]? = some (97 + k) := by
  have h : ∀ k : _root_.Fin 20, abc.cps.toList[k.val]? = some (97 + k.val) := by decide +kernel
  exact fun {k} hk => h ⟨k, hk⟩
theorem abc_len : abc.length = 20 := by decide +kernel
theorem in_nats (k : Nat) : ∀ l : List Nat, inV (.int k) (l.map fun n : Nat => V.int n) = decide (k ∈ l)
  | [] => by simp [inV]
  | n :: r => by
    have ih := in_nats k r
    unfold inV at ih ⊢
    rw [List.map_cons, List.any_cons, ih]
    have e : eqV (.int n) (.int k) = decide (n = k) := by
      unfold eqV
      by_cases h : n = k
      · subst h; simp
      · have h2 : ¬ (n : Int) = (k : Int) := fun q => h (by exact_mod_cast q)
        simp [h, h2]
    rw [e]
    by_cases h : n = k
    · subst h; simp
    · have h' : ¬ k = n := fun q => h q.symm
      simp [h, h']
theorem nats_flat (l : List Nat) : (l.map fun n : Nat => V.int n).all flatV = true := by
  rw [List.all_eq_true]
  intro x hx
  obtain ⟨n, _, rfl⟩ := List.mem_map.mp hx
  rfl
/-! the pieces as texts -/
theorem sp2 : tl (Str.ofString "  ") = [32, 32] := by decide +kernel
theorem t_s : tl (Str.ofString "s") = [115] := by decide +kernel
theorem t_cs : tl (Str.ofString ": ") = [58, 32] := by decide +kernel
theorem t_sc : tl (Str.ofString ";") = [59] := by decide +kernel
theorem t_ss : tl (Str.ofString " s") = [32, 115] := by decide +kernel
theorem t_sp : tl (Str.ofString " ") = [32] := by decide +kernel
theorem t_nl : tl (Str.ofString "\n") = [10] := by decide +kernel
theorem t_e : tl (Str.ofString "") = [] := by decide +kernel
theorem t_rb : tl (Str.ofString "robot ") = [114, 111, 98, 111, 116, 32] := by decide +kernel
theorem t_lb : tl (Str.ofString " {") = [32, 123] := by decide +kernel
theorem t_cb : tl (Str.ofString "}") = [125] := by decide +kernel
theorem t_sh : tl (Str.ofString "shelf ") = [115, 104, 101, 108, 102, 32] := by decide +kernel
theorem lines_len {x : Pl} (h : x.Ok) : ∀ p ∈ linesL x, p.length ≤ 60 := by
  have rob : ∀ (n : Nat) (ss : List Step), n < 12 → StepsOk ss → ∀ p ∈ robotL n ss, p.length ≤ 60 := by
    intro n ss hn hs p hp
    rcases List.mem_cons.mp hp with rfl | hp
    · have := num_len (n := n) (by omega)
      simp only [List.length_append, List.length_cons, List.length_nil]
      omega
    · rcases List.mem_append.mp hp with hp | hp
      · have all : ∀ (gs : List Nat) (k : Nat) (l : List Step), (∀ s ∈ l, s ∈ ss) → ∀ p ∈ stepsL gs k l, p.length ≤ 15 := by
          intro gs k l
          induction l generalizing k with
          | nil => intro _ p hp; cases hp
          | cons s r ih =>
            intro hl p hp
            rcases List.mem_cons.mp hp with rfl | hp
            · exact stepL_len (hs.all s (hl s (by simp)))
            · exact ih (k + 1) (fun s h => hl s (by simp [h])) p hp
        have := all _ _ _ (fun s h => h) p hp
        omega
      · rw [List.mem_singleton.mp hp]
        decide
  intro p hp
  rcases List.mem_cons.mp hp with rfl | hp
  · unfold shelfL
    have h1 := joinL_len [32] 2 (x.shelf.map numL) (fun p hp => by
      obtain ⟨n, hn, rfl⟩ := List.mem_map.mp hp
      exact num_len (by have := h.b3 n hn; omega))
    have h2 := h.c12
    simp only [List.length_append, List.length_cons, List.length_nil, List.length_map] at h1 ⊢
    omega
  · rcases List.mem_append.mp hp with hp | hp
    · exact rob x.a x.p (by have := h.ha; have := h.c12; omega) h.p p hp
    · exact rob x.b x.q (by have := h.hb; have := h.c12; omega) h.q p hp
theorem robotL_len (n : Nat) (ss : List Step) : (robotL n ss).length = ss.length + 2 := by
  unfold robotL
  rw [List.length_cons, List.length_append, stepsL_len]
  rfl
theorem linesL_len {x : Pl} (h : x.Ok) : (linesL x).length ≤ 45 := by
  unfold linesL
  rw [List.length_cons, List.length_append, robotL_len, robotL_len]
  have := h.p.le
  have := h.q.le
  omega
theorem textL_len {x : Pl} (h : x.Ok) : (textL x).length ≤ 2745 := by
  have h1 := joinL_len [10] 60 (linesL x) (lines_len h)
  have h2 := linesL_len h
  have h3 : (linesL x).length * (60 + 1) ≤ 45 * 61 := Nat.mul_le_mul_right 61 h2
  exact Nat.le_trans h1 h3
end Sb

namespace Sb
open PySem PySem.Spec PyProof.Rows L2 TL
/-! ### tokens -/
inductive Kd where
  | name | number | keyword | sign | fin
  deriving DecidableEq
def kS : Kd → Str
  | .name => "name"
  | .number => "number"
  | .keyword => "keyword"
  | .sign => "sign"
  | .fin => "end"
structure Tk where
  k : Kd
  t : List Nat
  deriving DecidableEq
def sgnS : Str := ";:{}"
def digS : Str := "0123456789"
def letS : Str := "abcdefghijklmnopqrstuvwxyz"
def spcS : Str := " \n"
def kwS : List Str := ["shelf", "robot", "left", "right", "pick", "put", "wait", "goto", "empty", "held"]
def kwL : List (List Nat) := kwS.map tl
def HeadNot (S : List Nat) (r : List Nat) : Prop := ∀ c r', r = c :: r' → c ∉ S
inductive Rd : List Nat → Tk → List Nat → Prop
  | sign {c : Nat} {r : List Nat} : c ∈ tl sgnS → Rd (c :: r) ⟨.sign, [c]⟩ r
  | num {t r : List Nat} : t ≠ [] → (∀ c ∈ t, c ∈ tl digS) → t.length ≤ 2 → (1 < t.length → t.head? ≠ some 48) → HeadNot (tl digS) r → Rd (t ++ r) ⟨.number, t⟩ r
  | kw {t r : List Nat} : (∀ c ∈ t, c ∈ tl letS) → t ∈ kwL → HeadNot (tl letS) r → Rd (t ++ r) ⟨.keyword, t⟩ r
  | nm {t r : List Nat} : (∀ c ∈ t, c ∈ tl letS) → 1 ≤ t.length → t.length ≤ 8 → t ∉ kwL → HeadNot (tl letS) r → Rd (t ++ r) ⟨.name, t⟩ r
inductive Lx : List Nat → List Tk → Prop
  | nil : Lx [] []
  | sp {r : List Nat} {ts : List Tk} : Lx r ts → Lx (32 :: r) ts
  | tok {l r : List Nat} {k : Tk} {ts : List Tk} : Rd l k r → Lx r ts → Lx l (k :: ts)
/-- the tokens of all rows -/
inductive LxAll : List (List Nat) → List Tk → Prop
  | nil : LxAll [] []
  | cons {l : List Nat} {ls : List (List Nat)} {ts us : List Tk} : Lx l ts → LxAll ls us → LxAll (l :: ls) (ts ++ us)
theorem sgn_list : tl sgnS = [59, 58, 123, 125] := by decide +kernel
theorem dig_list : tl digS = [48, 49, 50, 51, 52, 53, 54, 55, 56, 57] := by decide +kernel
theorem let_list : tl letS = [97, 98, 99, 100, 101, 102, 103, 104, 105, 106, 107, 108, 109, 110, 111, 112, 113, 114, 115, 116, 117, 118, 119, 120, 121, 122] := by decide +kernel
theorem spc_list : tl spcS = [32, 10] := by decide +kernel
theorem mem_dig {c : Nat} : c ∈ tl digS ↔ 48 ≤ c ∧ c ≤ 57 := by
  rw [dig_list]; simp; omega
theorem mem_let {c : Nat} : c ∈ tl letS ↔ 97 ≤ c ∧ c ≤ 122 := by
  rw [let_list]; simp; omega
theorem mem_sgn {c : Nat} : c ∈ tl sgnS ↔ c = 59 ∨ c = 58 ∨ c = 123 ∨ c = 125 := by
  rw [sgn_list]; simp
/-- the run of signs of S at the head -/
def runL (S : List Nat) : List Nat → Nat
  | [] => 0
  | c :: r => if c ∈ S then runL S r + 1 else 0
theorem runL_app {S t r : List Nat} (h : ∀ c ∈ t, c ∈ S) (hr : HeadNot S r) : runL S (t ++ r) = t.length := by
  induction t with
  | nil =>
    cases r with
    | nil => rfl
    | cons c r => show (if c ∈ S then _ else 0) = 0; rw [if_neg (hr c r rfl)]
  | cons c t ih =>
    show (if c ∈ S then runL S (t ++ r) + 1 else 0) = _
    rw [if_pos (h c (by simp)), ih (fun c hc => h c (by simp [hc]))]
    rfl
theorem runL_le (S : List Nat) : ∀ l : List Nat, runL S l ≤ l.length
  | [] => Nat.le_refl _
  | c :: r => by
    show (if c ∈ S then runL S r + 1 else 0) ≤ r.length + 1
    have := runL_le S r
    split <;> omega
theorem cut_run {z : Str} {c n : Nat} (h : c + n ≤ (tl z).length) : tl (cutS z (some (c : Int)) (some ((c + n : Nat) : Int))) = ((tl z).drop c).take n := by
  show ((tl z).drop (HT.sIx z.length 0 (some (c : Int)))).take (HT.sIx z.length z.length (some ((c + n : Nat) : Int)) - HT.sIx z.length 0 (some (c : Int))) = _
  rw [HT.sIx_nat, HT.sIx_nat]
  have e1 : min c z.length = c := by rw [len_tl]; omega
  have e2 : min (c + n) z.length = c + n := by rw [len_tl]; omega
  rw [e1, e2, Nat.add_sub_cancel_left]
end Sb

namespace Sb
open PySem PySem.Spec PyProof.Rows L2
def topS (i : Nat) : Stmt := PySem.Challenge.pw_shelfbots_k15_invalid_bytes.main.body.getD i (.Pass ⟨0, 0, 0, 0⟩)
abbrev s_l_random : Stmt := topS 58
theorem sc_l_random : FnScope ["_law_script", "_law_salt", "_law_seed", "_law_cell"] ["_law_script", "_law_salt"] (defScope s_l_random) := ⟨rfl, rfl, rfl, by decide +kernel, rfl, by decide +kernel, by decide +kernel⟩
abbrev s_Parser_peek : Stmt := inClass (topS 42) 1
theorem sc_Parser_peek : FnScope ["self"] ["self"] (defScope s_Parser_peek) := ⟨rfl, rfl, rfl, by decide +kernel, rfl, by decide +kernel, by decide +kernel⟩
abbrev s_Token_init : Stmt := inClass (topS 31) 0
theorem sc_Token_init : FnScope ["self", "kind", "text", "line", "column"] ["self", "kind", "text", "line", "column"] (defScope s_Token_init) := ⟨rfl, rfl, rfl, by decide +kernel, rfl, by decide +kernel, by decide +kernel⟩
abbrev s_Robot_init : Stmt := inClass (topS 40) 0
theorem sc_Robot_init : FnScope ["self", "start", "steps", "names"] ["self", "start", "steps", "names"] (defScope s_Robot_init) := ⟨rfl, rfl, rfl, by decide +kernel, rfl, by decide +kernel, by decide +kernel⟩
abbrev s_Plan_init : Stmt := inClass (topS 41) 0
theorem sc_Plan_init : FnScope ["self", "shelf", "robots"] ["self", "shelf", "robots"] (defScope s_Plan_init) := ⟨rfl, rfl, rfl, by decide +kernel, rfl, by decide +kernel, by decide +kernel⟩
abbrev s_Parser_init : Stmt := inClass (topS 42) 0
theorem sc_Parser_init : FnScope ["self", "tokens"] ["self", "tokens"] (defScope s_Parser_init) := ⟨rfl, rfl, rfl, by decide +kernel, rfl, by decide +kernel, by decide +kernel⟩
abbrev s_Reader_init : Stmt := inClass (topS 55) 0
theorem sc_Reader_init : FnScope ["self", "code"] ["self", "code"] (defScope s_Reader_init) := ⟨rfl, rfl, rfl, by decide +kernel, rfl, by decide +kernel, by decide +kernel⟩
abbrev s_InvalidCode_init : Stmt := inClass (topS 10) 0
theorem sc_InvalidCode_init : FnScope ["self", "place"] ["self", "place"] (defScope s_InvalidCode_init) := ⟨rfl, rfl, rfl, by decide +kernel, rfl, by decide +kernel, by decide +kernel⟩
abbrev s_Parser_fail : Stmt := inClass (topS 42) 2
theorem sc_Parser_fail : FnScope ["self", "token"] ["self"] (defScope s_Parser_fail) := ⟨rfl, rfl, rfl, by decide +kernel, rfl, by decide +kernel, by decide +kernel⟩
abbrev s_Parser_take_word : Stmt := inClass (topS 42) 5
theorem sc_Parser_take_word : FnScope ["self", "word", "token"] ["self", "word"] (defScope s_Parser_take_word) := ⟨rfl, rfl, rfl, by decide +kernel, rfl, by decide +kernel, by decide +kernel⟩
abbrev s_Parser_take : Stmt := inClass (topS 42) 4
theorem sc_Parser_take : FnScope ["self", "kind", "token"] ["self", "kind"] (defScope s_Parser_take) := ⟨rfl, rfl, rfl, by decide +kernel, rfl, by decide +kernel, by decide +kernel⟩
abbrev s_Parser_found : Stmt := inClass (topS 42) 3
theorem sc_Parser_found : FnScope ["self", "reason", "token"] ["self", "reason", "token"] (defScope s_Parser_found) := ⟨rfl, rfl, rfl, by decide +kernel, rfl, by decide +kernel, by decide +kernel⟩
abbrev s_Parser_parse_shelf : Stmt := inClass (topS 42) 6
theorem sc_Parser_parse_shelf : FnScope ["self", "keyword", "tokens", "place", "token"] ["self"] (defScope s_Parser_parse_shelf) := ⟨rfl, rfl, rfl, by decide +kernel, rfl, by decide +kernel, by decide +kernel⟩
abbrev s_Parser_parse_step : Stmt := inClass (topS 42) 7
theorem sc_Parser_parse_step : FnScope ["self", "names", "jumps", "token"] ["self", "names", "jumps"] (defScope s_Parser_parse_step) := ⟨rfl, rfl, rfl, by decide +kernel, rfl, by decide +kernel, by decide +kernel⟩
abbrev s_Parser_parse_robot : Stmt := inClass (topS 42) 8
theorem sc_Parser_parse_robot : FnScope ["self", "cells", "others", "token", "words", "names", "jumps", "steps", "word", "jump"] ["self", "cells", "others"] (defScope s_Parser_parse_robot) := ⟨rfl, rfl, rfl, by decide +kernel, rfl, by decide +kernel, by decide +kernel⟩
abbrev s_Parser_parse_plan : Stmt := inClass (topS 42) 9
theorem sc_Parser_parse_plan : FnScope ["self", "shelf", "first", "second", "line", "column", "number", "reason"] ["self"] (defScope s_Parser_parse_plan) := ⟨rfl, rfl, rfl, by decide +kernel, rfl, by decide +kernel, by decide +kernel⟩
abbrev s_run_end : Stmt := topS 32
theorem sc_run_end : FnScope ["row", "start", "letters", "end"] ["row", "start", "letters"] (defScope s_run_end) := ⟨rfl, rfl, rfl, by decide +kernel, rfl, by decide +kernel, by decide +kernel⟩
abbrev s_read_token : Stmt := topS 33
theorem sc_read_token : FnScope ["row", "line", "column", "first", "word"] ["row", "line", "column"] (defScope s_read_token) := ⟨rfl, rfl, rfl, by decide +kernel, rfl, by decide +kernel, by decide +kernel⟩
abbrev s_tokenize : Stmt := topS 34
theorem sc_tokenize : FnScope ["source", "tokens", "rows", "line", "row", "column", "token"] ["source"] (defScope s_tokenize) := ⟨rfl, rfl, rfl, by decide +kernel, rfl, by decide +kernel, by decide +kernel⟩
abbrev s_load : Stmt := topS 43
theorem sc_load : FnScope ["plan"] ["plan"] (defScope s_load) := ⟨rfl, rfl, rfl, by decide +kernel, rfl, by decide +kernel, by decide +kernel⟩
abbrev s_encode : Stmt := topS 54
theorem sc_encode : FnScope ["plan", "parsed", "result", "robot", "word", "goal"] ["plan"] (defScope s_encode) := ⟨rfl, rfl, rfl, by decide +kernel, rfl, by decide +kernel, by decide +kernel⟩
abbrev s_l_below : Stmt := topS 60
theorem sc_l_below : FnScope ["_law_d", "_law_limit", "_law_result"] ["_law_d", "_law_limit"] (defScope s_l_below) := ⟨rfl, rfl, rfl, by decide +kernel, rfl, by decide +kernel, by decide +kernel⟩
abbrev s_l_text : Stmt := topS 59
theorem sc_l_text : FnScope ["_law_plan_here", "_law_shelf", "_law_starts", "_law_both", "_law_lines", "_law_pieces", "_law_number", "_law_goals", "_law_word", "_law_goal", "_law_k", "_law_mark", "_law_target"] ["_law_plan_here"] (defScope s_l_text) := ⟨rfl, rfl, rfl, by decide +kernel, rfl, by decide +kernel, by decide +kernel⟩
abbrev s_l_error_of : Stmt := topS 63
theorem sc_l_error_of : FnScope ["_law_call", "e", "_law_kinds", "_law_names", "_law_name"] ["_law_call"] (defScope s_l_error_of) := ⟨rfl, rfl, rfl, by decide +kernel, rfl, by decide +kernel, by decide +kernel⟩
abbrev s_is_int_in : Stmt := topS 49
theorem sc_is_int_in : FnScope ["value", "low", "high"] ["value", "low", "high"] (defScope s_is_int_in) := ⟨rfl, rfl, rfl, by decide +kernel, rfl, by decide +kernel, by decide +kernel⟩
abbrev s_Reader_read_byte : Stmt := inClass (topS 55) 1
theorem sc_Reader_read_byte : FnScope ["self", "low", "high"] ["self", "low", "high"] (defScope s_Reader_read_byte) := ⟨rfl, rfl, rfl, by decide +kernel, rfl, by decide +kernel, by decide +kernel⟩
abbrev s_Reader_read_robot : Stmt := inClass (topS 55) 2
theorem sc_Reader_read_robot : FnScope ["self", "cells", "others", "start", "count", "steps", "number", "word"] ["self", "cells", "others"] (defScope s_Reader_read_robot) := ⟨rfl, rfl, rfl, by decide +kernel, rfl, by decide +kernel, by decide +kernel⟩
abbrev s_label : Stmt := topS 45
theorem sc_label : FnScope ["number"] ["number"] (defScope s_label) := ⟨rfl, rfl, rfl, by decide +kernel, rfl, by decide +kernel, by decide +kernel⟩
abbrev s_format_robot : Stmt := topS 46
theorem sc_format_robot : FnScope ["robot", "goals", "word", "goal", "lines", "number", "before"] ["robot"] (defScope s_format_robot) := ⟨rfl, rfl, rfl, by decide +kernel, rfl, by decide +kernel, by decide +kernel⟩
abbrev s_format_parsed : Stmt := topS 47
theorem sc_format_parsed : FnScope ["parsed", "lines", "boxes", "robot"] ["parsed"] (defScope s_format_parsed) := ⟨rfl, rfl, rfl, by decide +kernel, rfl, by decide +kernel, by decide +kernel⟩
abbrev s_decode : Stmt := topS 56
theorem sc_decode : FnScope ["code", "reader", "cells", "shelf", "cell", "first", "second", "checksum"] ["code"] (defScope s_decode) := ⟨rfl, rfl, rfl, by decide +kernel, rfl, by decide +kernel, by decide +kernel⟩
abbrev s_l_steps : Stmt := topS 61
theorem sc_l_steps : FnScope ["_law_d", "_law_most", "_law_many", "_law_words", "_law_ways", "_law_limit", "_law_found", "_law_k", "_law_word"] ["_law_d", "_law_most"] (defScope s_l_steps) := ⟨rfl, rfl, rfl, by decide +kernel, rfl, by decide +kernel, by decide +kernel⟩
abbrev s_l_plan : Stmt := topS 62
theorem sc_l_plan : FnScope ["_law_d", "_law_most", "_law_many_cells", "_law_first", "_law_second", "_law_shelf", "_law_k"] ["_law_d", "_law_most"] (defScope s_l_plan) := ⟨rfl, rfl, rfl, by decide +kernel, rfl, by decide +kernel, by decide +kernel⟩
abbrev s_law : Stmt := topS 64
theorem sc_law : FnScope ["_law_script", "_law_d", "_law_code", "_law_at", "_law_extra", "_law_k", "_law_odd", "_law_changed", "_law_wrong", "_law_none", "_law_head", "_law_more", "_law_last", "_law_cases", "_law_bad", "_law_place", "_law_good", "_law_text_here"] ["_law_script"] (defScope s_law) := ⟨rfl, rfl, rfl, by decide +kernel, rfl, by decide +kernel, by decide +kernel⟩
structure Ad where
  f_l_random : Addr
  d_l_random : FuncData
  f_Parser_peek : Addr
  d_Parser_peek : FuncData
  f_Token_init : Addr
  d_Token_init : FuncData
  f_Robot_init : Addr
  d_Robot_init : FuncData
  f_Plan_init : Addr
  d_Plan_init : FuncData
  f_Parser_init : Addr
  d_Parser_init : FuncData
  f_Reader_init : Addr
  d_Reader_init : FuncData
  f_InvalidCode_init : Addr
  d_InvalidCode_init : FuncData
  f_Parser_fail : Addr
  d_Parser_fail : FuncData
  f_Parser_take_word : Addr
  d_Parser_take_word : FuncData
  f_Parser_take : Addr
  d_Parser_take : FuncData
  f_Parser_found : Addr
  d_Parser_found : FuncData
  f_Parser_parse_shelf : Addr
  d_Parser_parse_shelf : FuncData
  f_Parser_parse_step : Addr
  d_Parser_parse_step : FuncData
  f_Parser_parse_robot : Addr
  d_Parser_parse_robot : FuncData
  f_Parser_parse_plan : Addr
  d_Parser_parse_plan : FuncData
  f_run_end : Addr
  d_run_end : FuncData
  f_read_token : Addr
  d_read_token : FuncData
  f_tokenize : Addr
  d_tokenize : FuncData
  f_load : Addr
  d_load : FuncData
  f_encode : Addr
  d_encode : FuncData
  f_l_below : Addr
  d_l_below : FuncData
  f_l_text : Addr
  d_l_text : FuncData
  f_l_error_of : Addr
  d_l_error_of : FuncData
  f_is_int_in : Addr
  d_is_int_in : FuncData
  f_Reader_read_byte : Addr
  d_Reader_read_byte : FuncData
  f_Reader_read_robot : Addr
  d_Reader_read_robot : FuncData
  f_label : Addr
  d_label : FuncData
  f_format_robot : Addr
  d_format_robot : FuncData
  f_format_parsed : Addr
  d_format_parsed : FuncData
  f_decode : Addr
  d_decode : FuncData
  f_l_steps : Addr
  d_l_steps : FuncData
  f_l_plan : Addr
  d_l_plan : FuncData
  f_law : Addr
  d_law : FuncData
  cc_law : Addr
  tb_law : Addr
  C_Token : Addr
  C_Robot : Addr
  C_Plan : Addr
  C_Parser : Addr
  C_Reader : Addr
  A_MOVES : Addr
  A_JUMPS : Addr
  A_KEYWORDS : Addr
  t_LETTERS : Tok
  t_DIGITS : Tok
  t_SPACES : Tok
  t_SIGNS : Tok
  t_MAX_LETTERS : Tok
  t_MAX_DIGITS : Tok
  t_NAME : Tok
  t_NUMBER : Tok
  t_KEYWORD : Tok
  t_SIGN : Tok
  t_END : Tok
  t_MIN_CELLS : Tok
  t_MAX_CELLS : Tok
  t_MAX_BOXES : Tok
  t_MAX_STEPS : Tok
  t_TAG : Tok
  t_BYTE : Tok
  A_WORDS : Addr
  X_BotError : Addr
  X_InvalidTick : Addr
  X_InvalidNumber : Addr
  X_TooLong : Addr
  X_DifferentShelves : Addr
  X_Contradiction : Addr
  X_CellFull : Addr
  X_CellEmpty : Addr
  X_InvalidName : Addr
  X_UnknownName : Addr
  X_SyntaxFault : Addr
  X_CheckFault : Addr
  X_InvalidCode : Addr
  X_InvalidOperation : Addr
structure Txt (K : PySem.W.Frag) (mg : Str → Option Value) (a : Ad) : Prop where
  F_l_random : Fun K "_law_random" "_law_random" s_l_random a.f_l_random a.d_l_random
  m_l_random : mg "_law_random" = some (.ref a.f_l_random)
  F_Parser_peek : Fun K "peek" "Parser.peek" s_Parser_peek a.f_Parser_peek a.d_Parser_peek
  M_Parser_peek : Meth K a.C_Parser "peek" a.f_Parser_peek
  F_Token_init : Fun K "__init__" "Token.__init__" s_Token_init a.f_Token_init a.d_Token_init
  F_Robot_init : Fun K "__init__" "Robot.__init__" s_Robot_init a.f_Robot_init a.d_Robot_init
  F_Plan_init : Fun K "__init__" "Plan.__init__" s_Plan_init a.f_Plan_init a.d_Plan_init
  F_Parser_init : Fun K "__init__" "Parser.__init__" s_Parser_init a.f_Parser_init a.d_Parser_init
  F_Reader_init : Fun K "__init__" "Reader.__init__" s_Reader_init a.f_Reader_init a.d_Reader_init
  F_InvalidCode_init : Fun K "__init__" "InvalidCode.__init__" s_InvalidCode_init a.f_InvalidCode_init a.d_InvalidCode_init
  F_Parser_fail : Fun K "fail" "Parser.fail" s_Parser_fail a.f_Parser_fail a.d_Parser_fail
  M_Parser_fail : Meth K a.C_Parser "fail" a.f_Parser_fail
  F_Parser_take_word : Fun K "take_word" "Parser.take_word" s_Parser_take_word a.f_Parser_take_word a.d_Parser_take_word
  M_Parser_take_word : Meth K a.C_Parser "take_word" a.f_Parser_take_word
  F_Parser_take : Fun K "take" "Parser.take" s_Parser_take a.f_Parser_take a.d_Parser_take
  M_Parser_take : Meth K a.C_Parser "take" a.f_Parser_take
  F_Parser_found : Fun K "found" "Parser.found" s_Parser_found a.f_Parser_found a.d_Parser_found
  M_Parser_found : Meth K a.C_Parser "found" a.f_Parser_found
  F_Parser_parse_shelf : Fun K "parse_shelf" "Parser.parse_shelf" s_Parser_parse_shelf a.f_Parser_parse_shelf a.d_Parser_parse_shelf
  M_Parser_parse_shelf : Meth K a.C_Parser "parse_shelf" a.f_Parser_parse_shelf
  F_Parser_parse_step : Fun K "parse_step" "Parser.parse_step" s_Parser_parse_step a.f_Parser_parse_step a.d_Parser_parse_step
  M_Parser_parse_step : Meth K a.C_Parser "parse_step" a.f_Parser_parse_step
  F_Parser_parse_robot : Fun K "parse_robot" "Parser.parse_robot" s_Parser_parse_robot a.f_Parser_parse_robot a.d_Parser_parse_robot
  M_Parser_parse_robot : Meth K a.C_Parser "parse_robot" a.f_Parser_parse_robot
  F_Parser_parse_plan : Fun K "parse_plan" "Parser.parse_plan" s_Parser_parse_plan a.f_Parser_parse_plan a.d_Parser_parse_plan
  M_Parser_parse_plan : Meth K a.C_Parser "parse_plan" a.f_Parser_parse_plan
  F_run_end : Fun K "run_end" "run_end" s_run_end a.f_run_end a.d_run_end
  m_run_end : mg "run_end" = some (.ref a.f_run_end)
  F_read_token : Fun K "read_token" "read_token" s_read_token a.f_read_token a.d_read_token
  m_read_token : mg "read_token" = some (.ref a.f_read_token)
  F_tokenize : Fun K "tokenize" "tokenize" s_tokenize a.f_tokenize a.d_tokenize
  m_tokenize : mg "tokenize" = some (.ref a.f_tokenize)
  F_load : Fun K "load" "load" s_load a.f_load a.d_load
  m_load : mg "load" = some (.ref a.f_load)
  F_encode : Fun K "encode" "encode" s_encode a.f_encode a.d_encode
  m_encode : mg "encode" = some (.ref a.f_encode)
  F_l_below : Fun K "_law_below" "_law_below" s_l_below a.f_l_below a.d_l_below
  m_l_below : mg "_law_below" = some (.ref a.f_l_below)
  F_l_text : Fun K "_law_text" "_law_text" s_l_text a.f_l_text a.d_l_text
  m_l_text : mg "_law_text" = some (.ref a.f_l_text)
  F_l_error_of : Fun K "_law_error_of" "_law_error_of" s_l_error_of a.f_l_error_of a.d_l_error_of
  m_l_error_of : mg "_law_error_of" = some (.ref a.f_l_error_of)
  F_is_int_in : Fun K "is_int_in" "is_int_in" s_is_int_in a.f_is_int_in a.d_is_int_in
  m_is_int_in : mg "is_int_in" = some (.ref a.f_is_int_in)
  F_Reader_read_byte : Fun K "read_byte" "Reader.read_byte" s_Reader_read_byte a.f_Reader_read_byte a.d_Reader_read_byte
  M_Reader_read_byte : Meth K a.C_Reader "read_byte" a.f_Reader_read_byte
  F_Reader_read_robot : Fun K "read_robot" "Reader.read_robot" s_Reader_read_robot a.f_Reader_read_robot a.d_Reader_read_robot
  M_Reader_read_robot : Meth K a.C_Reader "read_robot" a.f_Reader_read_robot
  F_label : Fun K "label" "label" s_label a.f_label a.d_label
  m_label : mg "label" = some (.ref a.f_label)
  F_format_robot : Fun K "format_robot" "format_robot" s_format_robot a.f_format_robot a.d_format_robot
  m_format_robot : mg "format_robot" = some (.ref a.f_format_robot)
  F_format_parsed : Fun K "format_parsed" "format_parsed" s_format_parsed a.f_format_parsed a.d_format_parsed
  m_format_parsed : mg "format_parsed" = some (.ref a.f_format_parsed)
  F_decode : Fun K "decode" "decode" s_decode a.f_decode a.d_decode
  m_decode : mg "decode" = some (.ref a.f_decode)
  F_l_steps : Fun K "_law_steps" "_law_steps" s_l_steps a.f_l_steps a.d_l_steps
  m_l_steps : mg "_law_steps" = some (.ref a.f_l_steps)
  F_l_plan : Fun K "_law_plan" "_law_plan" s_l_plan a.f_l_plan a.d_l_plan
  m_l_plan : mg "_law_plan" = some (.ref a.f_l_plan)
  F_law : Fun K "law" "law" s_law a.f_law a.d_law
  m_law : mg "law" = some (.ref a.f_law)
  ce_law : a.d_law.code = .ref a.cc_law
  tnd : [a.tb_law].Nodup
  m_Token : mg "Token" = some (.ref a.C_Token)
  cl_Token : Cls K a.C_Token
  mk_Token : Mk K a.C_Token a.f_Token_init
  n_Token_kind : NoAttr K a.C_Token "kind"
  n_Token_text : NoAttr K a.C_Token "text"
  n_Token_line : NoAttr K a.C_Token "line"
  n_Token_column : NoAttr K a.C_Token "column"
  m_Robot : mg "Robot" = some (.ref a.C_Robot)
  cl_Robot : Cls K a.C_Robot
  mk_Robot : Mk K a.C_Robot a.f_Robot_init
  n_Robot_start : NoAttr K a.C_Robot "start"
  n_Robot_steps : NoAttr K a.C_Robot "steps"
  n_Robot_names : NoAttr K a.C_Robot "names"
  m_Plan : mg "Plan" = some (.ref a.C_Plan)
  cl_Plan : Cls K a.C_Plan
  mk_Plan : Mk K a.C_Plan a.f_Plan_init
  n_Plan_shelf : NoAttr K a.C_Plan "shelf"
  n_Plan_robots : NoAttr K a.C_Plan "robots"
  m_Parser : mg "Parser" = some (.ref a.C_Parser)
  cl_Parser : Cls K a.C_Parser
  mk_Parser : Mk K a.C_Parser a.f_Parser_init
  n_Parser_tokens : NoAttr K a.C_Parser "tokens"
  n_Parser_at : NoAttr K a.C_Parser "at"
  n_Parser_faults : NoAttr K a.C_Parser "faults"
  m_Reader : mg "Reader" = some (.ref a.C_Reader)
  cl_Reader : Cls K a.C_Reader
  mk_Reader : Mk K a.C_Reader a.f_Reader_init
  n_Reader_code : NoAttr K a.C_Reader "code"
  n_Reader_place : NoAttr K a.C_Reader "place"
  e_BotError : mg "BotError" = some (.ref a.X_BotError)
  e_InvalidTick : mg "InvalidTick" = some (.ref a.X_InvalidTick)
  e_InvalidNumber : mg "InvalidNumber" = some (.ref a.X_InvalidNumber)
  e_TooLong : mg "TooLong" = some (.ref a.X_TooLong)
  e_DifferentShelves : mg "DifferentShelves" = some (.ref a.X_DifferentShelves)
  e_Contradiction : mg "Contradiction" = some (.ref a.X_Contradiction)
  e_CellFull : mg "CellFull" = some (.ref a.X_CellFull)
  e_CellEmpty : mg "CellEmpty" = some (.ref a.X_CellEmpty)
  e_InvalidName : mg "InvalidName" = some (.ref a.X_InvalidName)
  e_UnknownName : mg "UnknownName" = some (.ref a.X_UnknownName)
  e_SyntaxFault : mg "SyntaxFault" = some (.ref a.X_SyntaxFault)
  e_CheckFault : mg "CheckFault" = some (.ref a.X_CheckFault)
  e_InvalidCode : mg "InvalidCode" = some (.ref a.X_InvalidCode)
  e_InvalidOperation : mg "InvalidOperation" = some (.ref a.X_InvalidOperation)
  xq_InvalidCode : L2.OexC K a.X_InvalidCode
  xi_InvalidCode : PySem.W.findIn K (.ref a.X_InvalidCode) "__init__" = some (some (.ref a.f_InvalidCode_init))
  xj_InvalidCode : PySem.W.typeIn K (.ref a.f_InvalidCode_init) = some (.type "function")
  xn_place_InvalidCode : PySem.W.findIn K (.ref a.X_InvalidCode) "place" = some none
  xf_InvalidCode : L2.XfC K a.X_InvalidCode
  xd_InvalidCode : ClX.CRead K a.X_BotError (.type "type")
  xw_InvalidCode : PySem.W.findCls K (.ref a.X_BotError) (.type "type") "__init__" = some (.val (.builtin "ValueError.__init__"))
  xk_InvalidCode : PySem.W.keepIn K (.ref a.X_InvalidCode) = true
  xb_InvalidCode : PySem.W.subIn K (.ref a.X_InvalidCode) (.type "BaseException") = some true
  xt_InvalidCode : PySem.W.typeIn K (.ref a.X_InvalidCode) = some (.type "type")
  xe_InvalidCode : PySem.W.exmOne K (.ref a.X_InvalidCode) (.ref a.X_BotError) = some true
  xc_InvalidCode : L2.ExcC K a.X_InvalidCode
  xo_InvalidCode_InvalidTick : PySem.W.kitOne K (.ref a.X_InvalidCode) (.ref a.X_InvalidTick) = some false
  xo_InvalidCode_InvalidNumber : PySem.W.kitOne K (.ref a.X_InvalidCode) (.ref a.X_InvalidNumber) = some false
  xo_InvalidCode_TooLong : PySem.W.kitOne K (.ref a.X_InvalidCode) (.ref a.X_TooLong) = some false
  xo_InvalidCode_DifferentShelves : PySem.W.kitOne K (.ref a.X_InvalidCode) (.ref a.X_DifferentShelves) = some false
  xo_InvalidCode_Contradiction : PySem.W.kitOne K (.ref a.X_InvalidCode) (.ref a.X_Contradiction) = some false
  xo_InvalidCode_CellFull : PySem.W.kitOne K (.ref a.X_InvalidCode) (.ref a.X_CellFull) = some false
  xo_InvalidCode_CellEmpty : PySem.W.kitOne K (.ref a.X_InvalidCode) (.ref a.X_CellEmpty) = some false
  xo_InvalidCode_InvalidName : PySem.W.kitOne K (.ref a.X_InvalidCode) (.ref a.X_InvalidName) = some false
  xo_InvalidCode_UnknownName : PySem.W.kitOne K (.ref a.X_InvalidCode) (.ref a.X_UnknownName) = some false
  xo_InvalidCode_SyntaxFault : PySem.W.kitOne K (.ref a.X_InvalidCode) (.ref a.X_SyntaxFault) = some false
  xo_InvalidCode_CheckFault : PySem.W.kitOne K (.ref a.X_InvalidCode) (.ref a.X_CheckFault) = some false
  xo_InvalidCode_InvalidCode : PySem.W.kitOne K (.ref a.X_InvalidCode) (.ref a.X_InvalidCode) = some true
  xo_InvalidCode_InvalidOperation : PySem.W.kitOne K (.ref a.X_InvalidCode) (.ref a.X_InvalidOperation) = some false
  xv_InvalidCode : PySem.W.kitOne K (.ref a.X_InvalidCode) (.type "ValueError") = some true
  z_len : mg "len" = none
  z_abs : mg "abs" = none
  z_range : mg "range" = none
  z_str : mg "str" = none
  z_int : mg "int" = none
  z_tuple : mg "tuple" = none
  z_list : mg "list" = none
  z_sum : mg "sum" = none
  z_isinstance : mg "isinstance" = none
  z_bool : mg "bool" = none
  z_enumerate : mg "enumerate" = none
  z_zip : mg "zip" = none
  z_min : mg "min" = none
  z_all : mg "all" = none
  z_divmod : mg "divmod" = none
  z_max : mg "max" = none
  z_dict : mg "dict" = none
  z_sorted : mg "sorted" = none
  z_ValueError : mg "ValueError" = none
  c_MOVES : mg "MOVES" = some (.ref a.A_MOVES)
  q_MOVES : ∀ H, SqT K H a.A_MOVES (([(Str.ofString "left"), (Str.ofString "right"), (Str.ofString "pick"), (Str.ofString "put"), (Str.ofString "wait")] : List Str).map V.str)
  k_MOVES : ∃ o, K.lookup a.A_MOVES = some o ∧ o.cls = .type "tuple" ∧ o.dict = none
  c_JUMPS : mg "JUMPS" = some (.ref a.A_JUMPS)
  q_JUMPS : ∀ H, SqT K H a.A_JUMPS (([(Str.ofString "goto"), (Str.ofString "empty"), (Str.ofString "held")] : List Str).map V.str)
  k_JUMPS : ∃ o, K.lookup a.A_JUMPS = some o ∧ o.cls = .type "tuple" ∧ o.dict = none
  c_KEYWORDS : mg "KEYWORDS" = some (.ref a.A_KEYWORDS)
  q_KEYWORDS : ∀ H, SqT K H a.A_KEYWORDS (([(Str.ofString "shelf"), (Str.ofString "robot"), (Str.ofString "left"), (Str.ofString "right"), (Str.ofString "pick"), (Str.ofString "put"), (Str.ofString "wait"), (Str.ofString "goto"), (Str.ofString "empty"), (Str.ofString "held")] : List Str).map V.str)
  k_KEYWORDS : ∃ o, K.lookup a.A_KEYWORDS = some o ∧ o.cls = .type "tuple" ∧ o.dict = none
  c_LETTERS : mg "LETTERS" = some (.str (Str.ofString "abcdefghijklmnopqrstuvwxyz") a.t_LETTERS)
  c_DIGITS : mg "DIGITS" = some (.str (Str.ofString "0123456789") a.t_DIGITS)
  c_SPACES : mg "SPACES" = some (.str (Str.ofString " \n") a.t_SPACES)
  c_SIGNS : mg "SIGNS" = some (.str (Str.ofString ";:{}") a.t_SIGNS)
  c_MAX_LETTERS : mg "MAX_LETTERS" = some (.int 8 a.t_MAX_LETTERS)
  c_MAX_DIGITS : mg "MAX_DIGITS" = some (.int 2 a.t_MAX_DIGITS)
  c_NAME : mg "NAME" = some (.str (Str.ofString "name") a.t_NAME)
  c_NUMBER : mg "NUMBER" = some (.str (Str.ofString "number") a.t_NUMBER)
  c_KEYWORD : mg "KEYWORD" = some (.str (Str.ofString "keyword") a.t_KEYWORD)
  c_SIGN : mg "SIGN" = some (.str (Str.ofString "sign") a.t_SIGN)
  c_END : mg "END" = some (.str (Str.ofString "end") a.t_END)
  c_MIN_CELLS : mg "MIN_CELLS" = some (.int 3 a.t_MIN_CELLS)
  c_MAX_CELLS : mg "MAX_CELLS" = some (.int 12 a.t_MAX_CELLS)
  c_MAX_BOXES : mg "MAX_BOXES" = some (.int 3 a.t_MAX_BOXES)
  c_MAX_STEPS : mg "MAX_STEPS" = some (.int 20 a.t_MAX_STEPS)
  c_TAG : mg "TAG" = some (.int 83 a.t_TAG)
  c_BYTE : mg "BYTE" = some (.int 256 a.t_BYTE)
  c_WORDS : mg "WORDS" = some (.ref a.A_WORDS)
  q_WORDS : ∀ H, SqT K H a.A_WORDS (([(Str.ofString "left"), (Str.ofString "right"), (Str.ofString "pick"), (Str.ofString "put"), (Str.ofString "wait"), (Str.ofString "goto"), (Str.ofString "empty"), (Str.ofString "held")] : List Str).map V.str)
  k_WORDS : ∃ o, K.lookup a.A_WORDS = some o ∧ o.cls = .type "tuple" ∧ o.dict = none
structure Tbl (mg : Str → Option Value) (base : Heap) (a : Ad) : Prop where
  t_law : LamX.TabB base mg a.cc_law a.tb_law
def Ts (a : Ad) : List (Addr × Str) := [(a.tb_law, Str.ofString "law" ++ ".<locals>." ++ "<lambda>")]
def tbs (a : Ad) : List Addr := [a.tb_law]
def lam_law : Expr := lamArg s_law
section
variable {K : PySem.W.Frag} {mg : Str → Option Value} {a : Ad}
theorem b_l_random (T : Txt K mg a) : Binds K a.d_l_random ["_law_script", "_law_salt"] [] := T.F_l_random.binds fun _ _ _ _ _ _ us hl => match us, hl with | [_, _], _ => rfl
theorem b_Parser_peek (T : Txt K mg a) : Binds K a.d_Parser_peek ["self"] [] := T.F_Parser_peek.binds fun _ _ _ _ _ _ us hl => match us, hl with | [_], _ => rfl
theorem b_Token_init (T : Txt K mg a) : Binds K a.d_Token_init ["self", "kind", "text", "line", "column"] [] := T.F_Token_init.binds fun _ _ _ _ _ _ us hl => match us, hl with | [_, _, _, _, _], _ => rfl
theorem b_Robot_init (T : Txt K mg a) : Binds K a.d_Robot_init ["self", "start", "steps", "names"] [] := T.F_Robot_init.binds fun _ _ _ _ _ _ us hl => match us, hl with | [_, _, _, _], _ => rfl
theorem b_Plan_init (T : Txt K mg a) : Binds K a.d_Plan_init ["self", "shelf", "robots"] [] := T.F_Plan_init.binds fun _ _ _ _ _ _ us hl => match us, hl with | [_, _, _], _ => rfl
theorem b_Parser_init (T : Txt K mg a) : Binds K a.d_Parser_init ["self", "tokens"] [] := T.F_Parser_init.binds fun _ _ _ _ _ _ us hl => match us, hl with | [_, _], _ => rfl
theorem b_Reader_init (T : Txt K mg a) : Binds K a.d_Reader_init ["self", "code"] [] := T.F_Reader_init.binds fun _ _ _ _ _ _ us hl => match us, hl with | [_, _], _ => rfl
theorem b_InvalidCode_init (T : Txt K mg a) : Binds K a.d_InvalidCode_init ["self", "place"] [] := T.F_InvalidCode_init.binds fun _ _ _ _ _ _ us hl => match us, hl with | [_, _], _ => rfl
theorem b_Parser_fail (T : Txt K mg a) : Binds K a.d_Parser_fail ["self"] [] := T.F_Parser_fail.binds fun _ _ _ _ _ _ us hl => match us, hl with | [_], _ => rfl
theorem b_Parser_take_word (T : Txt K mg a) : Binds K a.d_Parser_take_word ["self", "word"] [] := T.F_Parser_take_word.binds fun _ _ _ _ _ _ us hl => match us, hl with | [_, _], _ => rfl
theorem b_Parser_take (T : Txt K mg a) : Binds K a.d_Parser_take ["self", "kind"] [] := T.F_Parser_take.binds fun _ _ _ _ _ _ us hl => match us, hl with | [_, _], _ => rfl
theorem b_Parser_found (T : Txt K mg a) : Binds K a.d_Parser_found ["self", "reason", "token"] [] := T.F_Parser_found.binds fun _ _ _ _ _ _ us hl => match us, hl with | [_, _, _], _ => rfl
theorem b_Parser_parse_shelf (T : Txt K mg a) : Binds K a.d_Parser_parse_shelf ["self"] [] := T.F_Parser_parse_shelf.binds fun _ _ _ _ _ _ us hl => match us, hl with | [_], _ => rfl
theorem b_Parser_parse_step (T : Txt K mg a) : Binds K a.d_Parser_parse_step ["self", "names", "jumps"] [] := T.F_Parser_parse_step.binds fun _ _ _ _ _ _ us hl => match us, hl with | [_, _, _], _ => rfl
theorem b_Parser_parse_robot (T : Txt K mg a) : Binds K a.d_Parser_parse_robot ["self", "cells", "others"] [] := T.F_Parser_parse_robot.binds fun _ _ _ _ _ _ us hl => match us, hl with | [_, _, _], _ => rfl
theorem b_Parser_parse_plan (T : Txt K mg a) : Binds K a.d_Parser_parse_plan ["self"] [] := T.F_Parser_parse_plan.binds fun _ _ _ _ _ _ us hl => match us, hl with | [_], _ => rfl
theorem b_run_end (T : Txt K mg a) : Binds K a.d_run_end ["row", "start", "letters"] [] := T.F_run_end.binds fun _ _ _ _ _ _ us hl => match us, hl with | [_, _, _], _ => rfl
theorem b_read_token (T : Txt K mg a) : Binds K a.d_read_token ["row", "line", "column"] [] := T.F_read_token.binds fun _ _ _ _ _ _ us hl => match us, hl with | [_, _, _], _ => rfl
theorem b_tokenize (T : Txt K mg a) : Binds K a.d_tokenize ["source"] [] := T.F_tokenize.binds fun _ _ _ _ _ _ us hl => match us, hl with | [_], _ => rfl
theorem b_load (T : Txt K mg a) : Binds K a.d_load ["plan"] [] := T.F_load.binds fun _ _ _ _ _ _ us hl => match us, hl with | [_], _ => rfl
theorem b_encode (T : Txt K mg a) : Binds K a.d_encode ["plan"] [] := T.F_encode.binds fun _ _ _ _ _ _ us hl => match us, hl with | [_], _ => rfl
theorem b_l_below (T : Txt K mg a) : Binds K a.d_l_below ["_law_d", "_law_limit"] [] := T.F_l_below.binds fun _ _ _ _ _ _ us hl => match us, hl with | [_, _], _ => rfl
theorem b_l_text (T : Txt K mg a) : Binds K a.d_l_text ["_law_plan_here"] [] := T.F_l_text.binds fun _ _ _ _ _ _ us hl => match us, hl with | [_], _ => rfl
theorem b_l_error_of (T : Txt K mg a) : Binds K a.d_l_error_of ["_law_call"] [] := T.F_l_error_of.binds fun _ _ _ _ _ _ us hl => match us, hl with | [_], _ => rfl
theorem b_is_int_in (T : Txt K mg a) : Binds K a.d_is_int_in ["value", "low", "high"] [] := T.F_is_int_in.binds fun _ _ _ _ _ _ us hl => match us, hl with | [_, _, _], _ => rfl
theorem b_Reader_read_byte (T : Txt K mg a) : Binds K a.d_Reader_read_byte ["self", "low", "high"] [] := T.F_Reader_read_byte.binds fun _ _ _ _ _ _ us hl => match us, hl with | [_, _, _], _ => rfl
theorem b_Reader_read_robot (T : Txt K mg a) : Binds K a.d_Reader_read_robot ["self", "cells", "others"] [] := T.F_Reader_read_robot.binds fun _ _ _ _ _ _ us hl => match us, hl with | [_, _, _], _ => rfl
theorem b_label (T : Txt K mg a) : Binds K a.d_label ["number"] [] := T.F_label.binds fun _ _ _ _ _ _ us hl => match us, hl with | [_], _ => rfl
theorem b_format_robot (T : Txt K mg a) : Binds K a.d_format_robot ["robot"] [] := T.F_format_robot.binds fun _ _ _ _ _ _ us hl => match us, hl with | [_], _ => rfl
theorem b_format_parsed (T : Txt K mg a) : Binds K a.d_format_parsed ["parsed"] [] := T.F_format_parsed.binds fun _ _ _ _ _ _ us hl => match us, hl with | [_], _ => rfl
theorem b_decode (T : Txt K mg a) : Binds K a.d_decode ["code"] [] := T.F_decode.binds fun _ _ _ _ _ _ us hl => match us, hl with | [_], _ => rfl
theorem b_l_steps (T : Txt K mg a) : Binds K a.d_l_steps ["_law_d", "_law_most"] [] := T.F_l_steps.binds fun _ _ _ _ _ _ us hl => match us, hl with | [_, _], _ => rfl
theorem b_l_plan (T : Txt K mg a) : Binds K a.d_l_plan ["_law_d", "_law_most"] [] := T.F_l_plan.binds fun _ _ _ _ _ _ us hl => match us, hl with | [_, _], _ => rfl
end
end Sb


namespace SbH
open PySem PySem.Spec PyProof.Rows L2
abbrev AlY : Type := Bool × List He5.FnW × List (Option (List (Option (Str × Int))))
def obsK (fa : List He.Fa) (fn : List He5.DefA) (ts : List He.Tab) (tf : List He.Defn) (ex : PySem.W.Frag → Bool) (g : Addr → Option Obj) (K : PySem.W.Frag) : AlY :=
  ((fa.all fun f => f.ok K) && ((fn.all fun d => d.ok K) && (ex K && He.tabsB g tf K)), fn.map (fun d => He5.fnA K (d.at_ K)), ts.map fun t => He.dicW K (t.1 K))
def obsY (n : Nat) (fa : List He.Fa) (fn : List He5.DefA) (ts : List He.Tab) (tf : List He.Defn) (ex : PySem.W.Frag → Bool) (g : Addr → Option Obj) : AlY := obsK fa fn ts tf ex g (He.frT g (He5.asA g n))
def valY (fn : List He5.DefA) (ts : List He.Tab) (w : World) : AlY := (true, fn.map He5.DefA.val, ts.map fun t => some (He.keysIn w.params t.2))
structure SaysY (fa : List He.Fa) (fn : List He5.DefA) (ts : List He.Tab) (tf : List He.Defn) (ex : PySem.W.Frag → Bool) (w : World) (h : Heap) (K : PySem.W.Frag) : Prop where
  fact : ∀ f ∈ fa, f.ok K = true
  defs : ∀ d ∈ fn, ∃ fd, L2.FunD K d.name d.qual d.params d.body d.scope (d.dvs K) (d.kws K) (d.at_ K) fd
  more : ex K = true
  dic : ∀ t ∈ ts, He.dicW K (t.1 K) = some (He.keysIn w.params t.2)
  hd : ∀ p ∈ tf, PySem.W.codeHdIn K (He.cT K p).1 (He.cT K p).2 = true
  out : ∀ p ∈ tf, K.lookup (He.cT K p).2 = none
  empty : ∀ p ∈ tf, h.get? (He.cT K p).2 = some { cls := .none, data := .fields #[] }
theorem map_eq_at {α β : Type} {f g : α → β} {l : List α} (h : l.map f = l.map g) : ∀ x ∈ l, f x = g x := by
  induction l with
  | nil => intro x hx; cases hx
  | cons a r ih =>
    injection h with h1 h2
    intro x hx
    rcases List.mem_cons.mp hx with rfl | hx
    · exact h1
    · exact ih h2 x hx
theorem saysY_of {n : Nat} {fa : List He.Fa} {fn : List He5.DefA} {ts : List He.Tab} {tf : List He.Defn} {ex : PySem.W.Frag → Bool} {w : World} {h : Heap} (e : obsY n fa fn ts tf ex h.get? = valY fn ts w) : SaysY fa fn ts tf ex w h (He.frT h.get? (He5.asA h.get? n)) := by
  generalize hK : He.frT h.get? (He5.asA h.get? n) = K at *
  have e0 : obsK fa fn ts tf ex h.get? K = valY fn ts w := by rw [← hK]; exact e
  have e1 : ((fa.all fun f => f.ok K) && ((fn.all fun d => d.ok K) && (ex K && He.tabsB h.get? tf K))) = true := congrArg (fun z : AlY => z.1) e0
  have e2 : fn.map (fun d => He5.fnA K (d.at_ K)) = fn.map He5.DefA.val := congrArg (fun z : AlY => z.2.1) e0
  have e3 : (ts.map fun t => He.dicW K (t.1 K)) = ts.map fun t => some (He.keysIn w.params t.2) := congrArg (fun z : AlY => z.2.2) e0
  obtain ⟨h1, h2⟩ := He.ba e1
  obtain ⟨h3, h4⟩ := He.ba h2
  obtain ⟨h5, h6⟩ := He.ba h4
  have key : ∀ p ∈ tf, PySem.W.codeHdIn K (He.cT K p).1 (He.cT K p).2 = true ∧ ∃ o, h.get? (He.cT K p).2 = some o ∧ He.emptyTab o = true := fun p hp => by
    obtain ⟨h7, h8⟩ := He.ba (List.all_eq_true.mp h6 p hp)
    refine ⟨h7, ?_⟩
    cases q : h.get? (He.cT K p).2 with
    | none => rw [q] at h8; cases h8
    | some o => rw [q] at h8; exact ⟨o, rfl, h8⟩
  refine ⟨fun f hf => List.all_eq_true.mp h1 f hf, fun d hd => He5.DefA.funD (map_eq_at e2 d hd) (List.all_eq_true.mp h3 d hd), h5, fun t ht => map_eq_at e3 t ht, fun p hp => (key p hp).1, fun p hp => ?_, fun p hp => ?_⟩
  · obtain ⟨_, o, q, z⟩ := key p hp
    rw [← hK] at q ⊢
    exact He.frT_none q z
  · obtain ⟨_, o, q, z⟩ := key p hp
    rw [q, He.emptyTab_eq z]
def hookY (n : Nat) (fa : List He.Fa) (fn : List He5.DefA) (ts : List He.Tab) (tf : List He.Defn) (ex : PySem.W.Frag → Bool) : PySem.W.Hook where
  α := AlY
  obs := fun s => obsY n fa fn ts tf ex s.heap.get?
  val := fun w => valY fn ts w
  says := fun w h => ∃ K : PySem.W.Frag, K.In h ∧ SaysY fa fn ts tf ex w h K
  of := fun _ _ e => ⟨_, He.frT_in, saysY_of e⟩
  keeps := fun _ _ _ ⟨K, hK, c⟩ k => ⟨K, PySem.W.Frag.In.keeps hK k, ⟨c.fact, c.defs, c.more, c.dic, c.hd, c.out, fun p hp => k _ _ (c.empty p hp)⟩⟩
theorem obsY_eq {n : Nat} {fa : List He.Fa} {fn : List He5.DefA} {ts : List He.Tab} {tf : List He.Defn} {ex : PySem.W.Frag → Bool} {g : Addr → Option Obj} {s : Shared} (h : ∀ a, g a = s.heap.get? a) : obsY n fa fn ts tf ex g = (hookY n fa fn ts tf ex).obs s := by
  have e : g = s.heap.get? := funext h
  rw [e] <;> rfl
/-! ### a classmethod -/
/-- C.__init__ read off the class C is ValueError's -/
def cinB (K : PySem.W.Frag) (C : Addr) : Bool := match PySem.W.findCls K (.ref C) (.type "type") "__init__" with
  | some (.val v) => v == .builtin "ValueError.__init__"
  | _ => false
theorem cinB_ok {K : PySem.W.Frag} {C : Addr} (q : cinB K C = true) : PySem.W.findCls K (.ref C) (.type "type") "__init__" = some (.val (.builtin "ValueError.__init__")) := by
  unfold cinB at q
  split at q
  · rename_i v e
    rw [e, eq_of_beq q]
  · cases q
/-- an exception class over ValueError that has an __init__ of its own -/
def oexB (K : PySem.W.Frag) (C : Addr) : Bool := match K.lookup C with
  | some ⟨.type "type", _, .cls cd, sl⟩ => (match cd.mro, sl.toList with
    | .ref C' :: bm, [_, _, _, _, some (.builtin n), _] => C' == C && n == "ValueError.__new__" && !cd.hasDel && cd.hasDict && PySem.HandSPX.refsVE bm
    | _, _ => false)
  | _ => false
theorem oexB_ok {K : PySem.W.Frag} {C : Addr} (q : oexB K C = true) : ∃ nm q N bs bm sn sub ab col dd k0 k1 k2 k3 k5, K.lookup C = some (excClassObj nm q C N bs bm true sn sub ab col dd k0 k1 k2 k3 k5 "ValueError.__new__") ∧ PySem.HandSPX.refsVE bm = true := by
  unfold oexB at q
  split at q
  · rename_i dd cd sl ho
    split at q
    · rename_i C' bm k0 k1 k2 k3 n k5 hm hs
      simp only [Bool.and_eq_true, beq_iff_eq, Bool.not_eq_true'] at q
      obtain ⟨⟨⟨⟨rfl, rfl⟩, hdel⟩, hdi⟩, ht⟩ := q
      obtain ⟨nm, bs, mro, ns, qn, hd, sn, sub, ab, col, del⟩ := cd
      dsimp only at hm hdel hdi
      subst hm hdel hdi
      have hsl : sl = #[k0, k1, k2, k3, some (.builtin "ValueError.__new__"), k5] := by
        obtain ⟨l⟩ := sl
        simp only at hs
        rw [hs]
      subst hsl
      exact ⟨_, _, _, _, _, _, _, _, _, _, _, _, _, _, _, ho, ht⟩
    · cases q
  · cases q
def cmB (K : PySem.W.Frag) (C f : Str) : Bool := (He5.wrapB K (He.ga K C) "classmethod" "classmethod.__get__" f && PySem.W.fnIn K (He5.wf K (He.ga K C) "classmethod" f)) && (PySem.W.readsIn K (He.ga K C) (.type "type") && He.eqO (PySem.W.specialIn K (.ref (He.ga K C)) "__getattribute__") (some (some (.builtin "type.__getattribute__"))))
theorem cmB_ok {K : PySem.W.Frag} {C f : Str} (c : cmB K C f = true) : ClX.CMet K (He.ga K C) (.type "type") f (He.ma K (He.ga K C) f) (He5.wf K (He.ga K C) "classmethod" f) ∧ ClX.CRead K (He.ga K C) (.type "type") := by
  obtain ⟨c1, c2⟩ := He.ba c
  obtain ⟨c3, c4⟩ := He.ba c1
  obtain ⟨c5, c6⟩ := He.ba c2
  exact ⟨He5.cmet_of c3 c4, ⟨c5, He.eqO_ok c6⟩⟩
/-! ### the run in pieces: each piece is one declaration's memory -/
abbrev KT (n : Nat) (s : PySem.W.SharedT) : PySem.W.Frag := He.frT (HandSHeadRun.getT s) (He5.asA (HandSHeadRun.getT s) n)
theorem run_join {σ : Type} {n : Nat} {fa : List He.Fa} {fn : List He5.DefA} {ts : List He.Tab} {tf : List He.Defn} {ex : PySem.W.Frag → Bool} {w : World} {o : Option PySem.W.SharedT} {L : PySem.W.SharedT → Bool} {S : PySem.W.SharedT → σ} {og : σ}
    (h0 : o.map (fun s => (L s, S s, fa.all fun f => f.ok (KT n s))) = some (true, og, true))
    (h1 : o.map (fun s => (fn.all fun d => d.ok (KT n s), fn.map fun d => He5.fnA (KT n s) (d.at_ (KT n s)), ex (KT n s) && He.tabsB (HandSHeadRun.getT s) tf (KT n s), ts.map fun t => He.dicW (KT n s) (t.1 (KT n s)))) = some (true, fn.map He5.DefA.val, true, ts.map fun t => some (He.keysIn w.params t.2))) :
    o.map (fun s => (L s, S s, obsY n fa fn ts tf ex (HandSHeadRun.getT s))) = some (true, og, valY fn ts w) := by
  cases o with
  | none => cases h0
  | some s =>
    have e0 := Option.some.inj h0
    have e1 := Option.some.inj h1
    have a1 := congrArg (fun z => z.1) e0
    have a2 := congrArg (fun z => z.2.1) e0
    have a3 := congrArg (fun z => z.2.2) e0
    have b1 := congrArg (fun z => z.1) e1
    have b2 := congrArg (fun z => z.2.1) e1
    have b3 := congrArg (fun z => z.2.2.1) e1
    have b4 := congrArg (fun z => z.2.2.2) e1
    dsimp only at a1 a2 a3 b1 b2 b3 b4
    show some (L s, S s, (fa.all fun f => f.ok (KT n s)) && ((fn.all fun d => d.ok (KT n s)) && (ex (KT n s) && He.tabsB (HandSHeadRun.getT s) tf (KT n s))), fn.map (fun d => He5.fnA (KT n s) (d.at_ (KT n s))), ts.map fun t => He.dicW (KT n s) (t.1 (KT n s))) = some (true, og, true, fn.map He5.DefA.val, ts.map fun t => some (He.keysIn w.params t.2))
    rw [a1, a2, a3, b1, b2, b3, b4]
    rfl
section
variable {fa : List He.Fa} {fn : List He5.DefA} {ts : List He.Tab} {tf : List He.Defn} {ex : PySem.W.Frag → Bool} {w : World} {h : Heap} {K : PySem.W.Frag}
theorem SaysY.at_ (c : SaysY fa fn ts tf ex w h K) (i : Nat) {f : He.Fa} (e : fa[i]? = some f) : f.ok K = true := c.fact f (List.mem_of_getElem? e)
theorem SaysY.def_ (c : SaysY fa fn ts tf ex w h K) (i : Nat) {d : He5.DefA} (e : fn[i]? = some d) : ∃ fd, L2.FunD K d.name d.qual d.params d.body d.scope (d.dvs K) (d.kws K) (d.at_ K) fd := c.defs d (List.mem_of_getElem? e)
/-! properties -/
def propG (K : PySem.W.Frag) (C f : Str) : Addr := match PySem.W.recIn K (He.ma K (He.ga K C) f) "property" with
  | some (.ref g :: _) => g
  | _ => 0
def propB (K : PySem.W.Frag) (C f : Str) : Bool := He.eqO (PySem.W.findIn K (.ref (He.ga K C)) f) (some (some (.ref (He.ma K (He.ga K C) f)))) && (He.eqO (PySem.W.specialIn K (.ref (He.ma K (He.ga K C) f)) "__get__") (some (some (.builtin "property.__get__"))) && (decide (PySem.W.takesIn K (.ref (He.ma K (He.ga K C) f)) = some true) && (match PySem.W.recIn K (He.ma K (He.ga K C) f) "property" with
  | some (.ref _ :: _) => true
  | _ => false)))
theorem propB_ok {C f : Str} (c : propB K C f = true) : PropOf K (He.ga K C) f (He.ma K (He.ga K C) f) (propG K C f) := by
  obtain ⟨h1, h2⟩ := He.ba c
  obtain ⟨h3, h4⟩ := He.ba h2
  obtain ⟨h5, h6⟩ := He.ba h4
  refine ⟨He.eqO_ok h1, He.eqO_ok h3, of_decide_eq_true h5, ?_⟩
  unfold propG
  cases q : PySem.W.recIn K (He.ma K (He.ga K C) f) "property" with
  | none => rw [q] at h6; cases h6
  | some l =>
    rw [q] at h6
    cases l with
    | nil => cases h6
    | cons v r =>
      cases v with
      | ref g => exact ⟨r, rfl⟩
      | _ => cases h6
/-! tuples of texts -/
def strOfV : Value → Option Str
  | .str x _ => some x
  | _ => none
def tupB (K : PySem.W.Frag) (x : Str) (l : List Str) : Bool := match K.lookup (He.ga K x) with
  | some ⟨.type c, none, .seq its _, _⟩ => decide (c = "tuple") && decide (its.toList.map strOfV = l.map some)
  | _ => false
theorem vals_of : ∀ {us : List Value} {l : List Str}, us.map strOfV = l.map some → Vals (l.map V.str) us
  | [], [], _ => .nil
  | [], _ :: _, h => by cases h
  | _ :: _, [], h => by cases h
  | u :: us, x :: l, h => by
    have h1 : strOfV u :: us.map strOfV = some x :: l.map some := h
    injection h1 with h2 h3
    refine .cons ?_ (vals_of h3)
    cases u with
    | str y t => cases h2; exact ⟨t, rfl⟩
    | _ => cases h2
theorem tupB_ok {x : Str} {l : List Str} (c : tupB K x l = true) (hl : l.length ≤ 1000) : (∀ H, SqT K H (He.ga K x) (l.map V.str)) ∧ ∃ o, K.lookup (He.ga K x) = some o ∧ o.cls = .type "tuple" ∧ o.dict = none := by
  unfold tupB at c
  cases q : K.lookup (He.ga K x) with
  | none => rw [q] at c; cases c
  | some o =>
    obtain ⟨oc, od, dt, sl⟩ := o
    rw [q] at c
    cases oc with
    | type cn =>
      cases od with
      | none =>
        cases dt with
        | seq its n =>
          obtain ⟨c1, c2⟩ := He.ba (show (decide (cn = "tuple") && decide (its.toList.map strOfV = l.map some)) = true from c)
          have e1 : cn = "tuple" := of_decide_eq_true c1
          have e2 := of_decide_eq_true c2
          subst e1
          have v := vals_of e2
          refine ⟨fun H => .inr ⟨_, _, _, q, rfl, rfl, ?_, v⟩, _, rfl, rfl, rfl⟩
          have := v.length
          rw [List.length_map] at this
          rw [← Array.length_toList, ← this, sizeLine_eq]
          omega
        | _ => cases c
      | some d => cases dt <;> cases c
    | _ => cases od <;> cases dt <;> cases c
theorem code_of {x qual q : Str} {params : Arguments} {body : List Stmt} {scope : Scope} {dvs : List V} {kws : List (Str × V)} {fd : FuncData} (g : FunD K x qual params body scope dvs kws (He.ga K q) fd) : fd.code = .ref (He.cT K (q, none)).1 := by
  obtain ⟨oc, od, dV, kV, doc, pm, an, cdv, ct, osl, e, lk, hc, _⟩ := g.ex
  obtain ⟨c, rfl⟩ := He.codeIn_ref hc
  have e2 : fd.code = .ref c := by rw [e]
  rw [e2]
  have := He.codeOf_eq (p := (q, none)) lk e2
  exact congrArg Value.ref this.symm
theorem dct_of {a : Addr} {es : Array DictEntry} {n : Nat} {z : Str} {v : V} (kd : KDict K w a es n) (h : ∃ u, PySem.W.nsIn K a z = some (some u) ∧ RelV v u) : KDct K w a z v := by
  obtain ⟨u, h1, h2⟩ := h
  exact ⟨es, n, u, kd.at_, kd.lit, h1, h2⟩
theorem dct_sys {a : Addr} {es : Array DictEntry} {n : Nat} (kd : KDict K w a es n) : (a == sysModules) = false := kd.low
end
end SbH

namespace Sb
open PySem PySem.Spec PyProof.Rows L2
def hNm0 : List Str := [(Str.ofString "_wall"), (Str.ofString "BotError"), (Str.ofString "SyntaxFault"), (Str.ofString "CheckFault"), (Str.ofString "InvalidTick"), (Str.ofString "InvalidNumber"), (Str.ofString "TooLong"), (Str.ofString "DifferentShelves"), (Str.ofString "Contradiction"), (Str.ofString "InvalidCode"), (Str.ofString "CellFull"), (Str.ofString "CellEmpty"), (Str.ofString "InvalidName"), (Str.ofString "UnknownName"), (Str.ofString "InvalidOperation"), (Str.ofString "MOVES"), (Str.ofString "JUMPS"), (Str.ofString "KEYWORDS"), (Str.ofString "LETTERS"), (Str.ofString "DIGITS"), (Str.ofString "SPACES"), (Str.ofString "SIGNS"), (Str.ofString "MAX_LETTERS"), (Str.ofString "MAX_DIGITS")]
def hNm1 : List Str := [(Str.ofString "NAME"), (Str.ofString "NUMBER"), (Str.ofString "KEYWORD"), (Str.ofString "SIGN"), (Str.ofString "END"), (Str.ofString "Token"), (Str.ofString "run_end"), (Str.ofString "read_token"), (Str.ofString "tokenize"), (Str.ofString "MIN_CELLS"), (Str.ofString "MAX_CELLS"), (Str.ofString "MAX_BOXES"), (Str.ofString "MAX_STEPS"), (Str.ofString "Robot"), (Str.ofString "Plan"), (Str.ofString "Parser"), (Str.ofString "load"), (Str.ofString "label"), (Str.ofString "format_robot"), (Str.ofString "format_parsed"), (Str.ofString "is_int_in"), (Str.ofString "TAG"), (Str.ofString "BYTE"), (Str.ofString "WORDS")]
def hNm2 : List Str := [(Str.ofString "encode"), (Str.ofString "Reader"), (Str.ofString "decode"), (Str.ofString "_law_random"), (Str.ofString "_law_text"), (Str.ofString "_law_below"), (Str.ofString "_law_steps"), (Str.ofString "_law_plan"), (Str.ofString "_law_error_of")]
def hNm : List Str := hNm0 ++ (hNm1 ++ (hNm2))
def exb_InvalidCode (K : PySem.W.Frag) : Bool := decide (SbH.oexB K (He.ga K (Str.ofString "InvalidCode")) = true) && (decide (PySem.W.findIn K (.ref (He.ga K (Str.ofString "InvalidCode"))) "__setattr__" = some (some (.builtin "object.__setattr__"))) && (decide (PySem.W.subIn K (.ref (He.ga K (Str.ofString "InvalidCode"))) (.type "BaseException") = some true) && (decide (PySem.W.typeIn K (.ref (He.ga K (Str.ofString "InvalidCode"))) = some (.type "type")) && (decide (PySem.W.keepIn K (.ref (He.ga K (Str.ofString "InvalidCode"))) = true) && (decide (PySem.W.findIn K (.ref (He.ga K (Str.ofString "InvalidCode"))) "__init__" = some (some (.ref (He.ma K (He.ga K (Str.ofString "InvalidCode")) (Str.ofString "__init__"))))) && (decide (PySem.W.typeIn K (.ref (He.ma K (He.ga K (Str.ofString "InvalidCode")) (Str.ofString "__init__"))) = some (.type "function")) && (decide (PySem.W.findIn K (.ref (He.ga K (Str.ofString "InvalidCode"))) "place" = some none) && (decide (PySem.W.findIn K (.ref (He.ga K (Str.ofString "InvalidCode"))) "__getattribute__" = some (some (.builtin "BaseException.__getattribute__"))) && (decide (PySem.W.findIn K (.ref (He.ga K (Str.ofString "InvalidCode"))) "__getattr__" = some none) && (decide (PySem.W.subIn K (.ref (He.ga K (Str.ofString "InvalidCode"))) (.type "BaseException") = some true) && (decide (PySem.W.hasDictIn K (He.ga K (Str.ofString "InvalidCode")) = true) && (decide (PySem.W.readsIn K (He.ga K (Str.ofString "BotError")) (.type "type") = true) && (decide (PySem.W.specialIn K (.ref (He.ga K (Str.ofString "BotError"))) "__getattribute__" = some (some (.builtin "type.__getattribute__"))) && (decide (SbH.cinB K (He.ga K (Str.ofString "BotError")) = true) && (decide (PySem.W.keepIn K (.ref (He.ga K (Str.ofString "InvalidCode"))) = true) && (decide (PySem.W.subIn K (.ref (He.ga K (Str.ofString "InvalidCode"))) (.type "BaseException") = some true) && (decide (PySem.W.typeIn K (.ref (He.ga K (Str.ofString "InvalidCode"))) = some (.type "type")) && (decide (PySem.W.exmOne K (.ref (He.ga K (Str.ofString "InvalidCode"))) (.ref (He.ga K (Str.ofString "BotError"))) = some true) && (decide (PySem.W.findIn K (.ref (He.ga K (Str.ofString "InvalidCode"))) "__getattribute__" = some (some (.builtin "BaseException.__getattribute__"))) && (decide (PySem.W.findIn K (.ref (He.ga K (Str.ofString "InvalidCode"))) "__getattr__" = some none) && (decide (PySem.W.subIn K (.ref (He.ga K (Str.ofString "InvalidCode"))) (.type "BaseException") = some true) && (decide (PySem.W.hasDictIn K (He.ga K (Str.ofString "InvalidCode")) = true) && (decide (PySem.W.findIn K (.ref (He.ga K (Str.ofString "InvalidCode"))) "__class__" = some (some (.builtin "object.__class__"))) && (decide (PySem.W.specialIn K (.builtin "object.__class__") "__get__" = some (some (.builtin "getset_descriptor.__get__"))) && (decide (PySem.W.takesIn K (.builtin "object.__class__") = some true) && (decide (PySem.W.mroIn K (He.ga K (Str.ofString "InvalidCode")) (.type "object") = some true) && (decide (PySem.W.kitOne K (.ref (He.ga K (Str.ofString "InvalidCode"))) (.ref (He.ga K (Str.ofString "InvalidTick"))) = some false) && (decide (PySem.W.kitOne K (.ref (He.ga K (Str.ofString "InvalidCode"))) (.ref (He.ga K (Str.ofString "InvalidNumber"))) = some false) && (decide (PySem.W.kitOne K (.ref (He.ga K (Str.ofString "InvalidCode"))) (.ref (He.ga K (Str.ofString "TooLong"))) = some false) && (decide (PySem.W.kitOne K (.ref (He.ga K (Str.ofString "InvalidCode"))) (.ref (He.ga K (Str.ofString "DifferentShelves"))) = some false) && (decide (PySem.W.kitOne K (.ref (He.ga K (Str.ofString "InvalidCode"))) (.ref (He.ga K (Str.ofString "Contradiction"))) = some false) && (decide (PySem.W.kitOne K (.ref (He.ga K (Str.ofString "InvalidCode"))) (.ref (He.ga K (Str.ofString "CellFull"))) = some false) && (decide (PySem.W.kitOne K (.ref (He.ga K (Str.ofString "InvalidCode"))) (.ref (He.ga K (Str.ofString "CellEmpty"))) = some false) && (decide (PySem.W.kitOne K (.ref (He.ga K (Str.ofString "InvalidCode"))) (.ref (He.ga K (Str.ofString "InvalidName"))) = some false) && (decide (PySem.W.kitOne K (.ref (He.ga K (Str.ofString "InvalidCode"))) (.ref (He.ga K (Str.ofString "UnknownName"))) = some false) && (decide (PySem.W.kitOne K (.ref (He.ga K (Str.ofString "InvalidCode"))) (.ref (He.ga K (Str.ofString "SyntaxFault"))) = some false) && (decide (PySem.W.kitOne K (.ref (He.ga K (Str.ofString "InvalidCode"))) (.ref (He.ga K (Str.ofString "CheckFault"))) = some false) && (decide (PySem.W.kitOne K (.ref (He.ga K (Str.ofString "InvalidCode"))) (.ref (He.ga K (Str.ofString "InvalidCode"))) = some true) && (decide (PySem.W.kitOne K (.ref (He.ga K (Str.ofString "InvalidCode"))) (.ref (He.ga K (Str.ofString "InvalidOperation"))) = some false) && (decide (PySem.W.kitOne K (.ref (He.ga K (Str.ofString "InvalidCode"))) (.type "ValueError") = some true)))))))))))))))))))))))))))))))))))))))))
theorem exb_InvalidCode_ok {K : PySem.W.Frag} (h : exb_InvalidCode K = true) : (SbH.oexB K (He.ga K (Str.ofString "InvalidCode")) = true) ∧ (PySem.W.findIn K (.ref (He.ga K (Str.ofString "InvalidCode"))) "__setattr__" = some (some (.builtin "object.__setattr__"))) ∧ (PySem.W.subIn K (.ref (He.ga K (Str.ofString "InvalidCode"))) (.type "BaseException") = some true) ∧ (PySem.W.typeIn K (.ref (He.ga K (Str.ofString "InvalidCode"))) = some (.type "type")) ∧ (PySem.W.keepIn K (.ref (He.ga K (Str.ofString "InvalidCode"))) = true) ∧ (PySem.W.findIn K (.ref (He.ga K (Str.ofString "InvalidCode"))) "__init__" = some (some (.ref (He.ma K (He.ga K (Str.ofString "InvalidCode")) (Str.ofString "__init__"))))) ∧ (PySem.W.typeIn K (.ref (He.ma K (He.ga K (Str.ofString "InvalidCode")) (Str.ofString "__init__"))) = some (.type "function")) ∧ (PySem.W.findIn K (.ref (He.ga K (Str.ofString "InvalidCode"))) "place" = some none) ∧ (PySem.W.findIn K (.ref (He.ga K (Str.ofString "InvalidCode"))) "__getattribute__" = some (some (.builtin "BaseException.__getattribute__"))) ∧ (PySem.W.findIn K (.ref (He.ga K (Str.ofString "InvalidCode"))) "__getattr__" = some none) ∧ (PySem.W.subIn K (.ref (He.ga K (Str.ofString "InvalidCode"))) (.type "BaseException") = some true) ∧ (PySem.W.hasDictIn K (He.ga K (Str.ofString "InvalidCode")) = true) ∧ (PySem.W.readsIn K (He.ga K (Str.ofString "BotError")) (.type "type") = true) ∧ (PySem.W.specialIn K (.ref (He.ga K (Str.ofString "BotError"))) "__getattribute__" = some (some (.builtin "type.__getattribute__"))) ∧ (SbH.cinB K (He.ga K (Str.ofString "BotError")) = true) ∧ (PySem.W.keepIn K (.ref (He.ga K (Str.ofString "InvalidCode"))) = true) ∧ (PySem.W.subIn K (.ref (He.ga K (Str.ofString "InvalidCode"))) (.type "BaseException") = some true) ∧ (PySem.W.typeIn K (.ref (He.ga K (Str.ofString "InvalidCode"))) = some (.type "type")) ∧ (PySem.W.exmOne K (.ref (He.ga K (Str.ofString "InvalidCode"))) (.ref (He.ga K (Str.ofString "BotError"))) = some true) ∧ (PySem.W.findIn K (.ref (He.ga K (Str.ofString "InvalidCode"))) "__getattribute__" = some (some (.builtin "BaseException.__getattribute__"))) ∧ (PySem.W.findIn K (.ref (He.ga K (Str.ofString "InvalidCode"))) "__getattr__" = some none) ∧ (PySem.W.subIn K (.ref (He.ga K (Str.ofString "InvalidCode"))) (.type "BaseException") = some true) ∧ (PySem.W.hasDictIn K (He.ga K (Str.ofString "InvalidCode")) = true) ∧ (PySem.W.findIn K (.ref (He.ga K (Str.ofString "InvalidCode"))) "__class__" = some (some (.builtin "object.__class__"))) ∧ (PySem.W.specialIn K (.builtin "object.__class__") "__get__" = some (some (.builtin "getset_descriptor.__get__"))) ∧ (PySem.W.takesIn K (.builtin "object.__class__") = some true) ∧ (PySem.W.mroIn K (He.ga K (Str.ofString "InvalidCode")) (.type "object") = some true) ∧ (PySem.W.kitOne K (.ref (He.ga K (Str.ofString "InvalidCode"))) (.ref (He.ga K (Str.ofString "InvalidTick"))) = some false) ∧ (PySem.W.kitOne K (.ref (He.ga K (Str.ofString "InvalidCode"))) (.ref (He.ga K (Str.ofString "InvalidNumber"))) = some false) ∧ (PySem.W.kitOne K (.ref (He.ga K (Str.ofString "InvalidCode"))) (.ref (He.ga K (Str.ofString "TooLong"))) = some false) ∧ (PySem.W.kitOne K (.ref (He.ga K (Str.ofString "InvalidCode"))) (.ref (He.ga K (Str.ofString "DifferentShelves"))) = some false) ∧ (PySem.W.kitOne K (.ref (He.ga K (Str.ofString "InvalidCode"))) (.ref (He.ga K (Str.ofString "Contradiction"))) = some false) ∧ (PySem.W.kitOne K (.ref (He.ga K (Str.ofString "InvalidCode"))) (.ref (He.ga K (Str.ofString "CellFull"))) = some false) ∧ (PySem.W.kitOne K (.ref (He.ga K (Str.ofString "InvalidCode"))) (.ref (He.ga K (Str.ofString "CellEmpty"))) = some false) ∧ (PySem.W.kitOne K (.ref (He.ga K (Str.ofString "InvalidCode"))) (.ref (He.ga K (Str.ofString "InvalidName"))) = some false) ∧ (PySem.W.kitOne K (.ref (He.ga K (Str.ofString "InvalidCode"))) (.ref (He.ga K (Str.ofString "UnknownName"))) = some false) ∧ (PySem.W.kitOne K (.ref (He.ga K (Str.ofString "InvalidCode"))) (.ref (He.ga K (Str.ofString "SyntaxFault"))) = some false) ∧ (PySem.W.kitOne K (.ref (He.ga K (Str.ofString "InvalidCode"))) (.ref (He.ga K (Str.ofString "CheckFault"))) = some false) ∧ (PySem.W.kitOne K (.ref (He.ga K (Str.ofString "InvalidCode"))) (.ref (He.ga K (Str.ofString "InvalidCode"))) = some true) ∧ (PySem.W.kitOne K (.ref (He.ga K (Str.ofString "InvalidCode"))) (.ref (He.ga K (Str.ofString "InvalidOperation"))) = some false) ∧ (PySem.W.kitOne K (.ref (He.ga K (Str.ofString "InvalidCode"))) (.type "ValueError") = some true) := by
  unfold exb_InvalidCode at h
  simp only [Bool.and_eq_true, decide_eq_true_eq] at h
  exact h
def hFaA0 : List He.Fa := [.glo (Str.ofString "_law_random"), .meth (Str.ofString "Parser") (Str.ofString "peek"), .meth (Str.ofString "Parser") (Str.ofString "fail"), .meth (Str.ofString "Parser") (Str.ofString "take_word"), .meth (Str.ofString "Parser") (Str.ofString "take"), .meth (Str.ofString "Parser") (Str.ofString "found"), .meth (Str.ofString "Parser") (Str.ofString "parse_shelf"), .meth (Str.ofString "Parser") (Str.ofString "parse_step"), .meth (Str.ofString "Parser") (Str.ofString "parse_robot"), .meth (Str.ofString "Parser") (Str.ofString "parse_plan"), .glo (Str.ofString "run_end"), .glo (Str.ofString "read_token"), .glo (Str.ofString "tokenize"), .glo (Str.ofString "load"), .glo (Str.ofString "encode"), .glo (Str.ofString "_law_below"), .glo (Str.ofString "_law_text"), .glo (Str.ofString "_law_error_of"), .glo (Str.ofString "is_int_in"), .meth (Str.ofString "Reader") (Str.ofString "read_byte"), .meth (Str.ofString "Reader") (Str.ofString "read_robot"), .glo (Str.ofString "label"), .glo (Str.ofString "format_robot"), .glo (Str.ofString "format_parsed")]
def hFaA1 : List He.Fa := [.glo (Str.ofString "decode"), .glo (Str.ofString "_law_steps"), .glo (Str.ofString "_law_plan"), .glo (Str.ofString "law"), .glo (Str.ofString "Token"), .cls (Str.ofString "Token"), .mkr (Str.ofString "Token"), .noat (Str.ofString "Token") (Str.ofString "kind"), .noat (Str.ofString "Token") (Str.ofString "text"), .noat (Str.ofString "Token") (Str.ofString "line"), .noat (Str.ofString "Token") (Str.ofString "column"), .glo (Str.ofString "Robot"), .cls (Str.ofString "Robot"), .mkr (Str.ofString "Robot"), .noat (Str.ofString "Robot") (Str.ofString "start"), .noat (Str.ofString "Robot") (Str.ofString "steps"), .noat (Str.ofString "Robot") (Str.ofString "names"), .glo (Str.ofString "Plan"), .cls (Str.ofString "Plan"), .mkr (Str.ofString "Plan"), .noat (Str.ofString "Plan") (Str.ofString "shelf"), .noat (Str.ofString "Plan") (Str.ofString "robots"), .glo (Str.ofString "Parser"), .cls (Str.ofString "Parser")]
def hFaA2 : List He.Fa := [.mkr (Str.ofString "Parser"), .noat (Str.ofString "Parser") (Str.ofString "tokens"), .noat (Str.ofString "Parser") (Str.ofString "at"), .noat (Str.ofString "Parser") (Str.ofString "faults"), .glo (Str.ofString "Reader"), .cls (Str.ofString "Reader"), .mkr (Str.ofString "Reader"), .noat (Str.ofString "Reader") (Str.ofString "code")]
def hFaA : List He.Fa := hFaA0 ++ (hFaA1 ++ (hFaA2))
def hFaB0 : List He.Fa := [.noat (Str.ofString "Reader") (Str.ofString "place"), .glo (Str.ofString "BotError"), .glo (Str.ofString "InvalidTick"), .glo (Str.ofString "InvalidNumber"), .glo (Str.ofString "TooLong"), .glo (Str.ofString "DifferentShelves"), .glo (Str.ofString "Contradiction"), .glo (Str.ofString "CellFull"), .glo (Str.ofString "CellEmpty"), .glo (Str.ofString "InvalidName"), .glo (Str.ofString "UnknownName"), .glo (Str.ofString "SyntaxFault"), .glo (Str.ofString "CheckFault"), .glo (Str.ofString "InvalidCode"), .glo (Str.ofString "InvalidOperation"), .free (Str.ofString "len"), .free (Str.ofString "abs"), .free (Str.ofString "range"), .free (Str.ofString "str"), .free (Str.ofString "int"), .free (Str.ofString "tuple"), .free (Str.ofString "list"), .free (Str.ofString "sum"), .free (Str.ofString "isinstance")]
def hFaB1 : List He.Fa := [.free (Str.ofString "bool"), .free (Str.ofString "enumerate"), .free (Str.ofString "zip"), .free (Str.ofString "min"), .free (Str.ofString "all"), .free (Str.ofString "divmod"), .free (Str.ofString "max"), .free (Str.ofString "dict"), .free (Str.ofString "sorted"), .free (Str.ofString "ValueError"), .glo (Str.ofString "MOVES"), .glo (Str.ofString "JUMPS"), .glo (Str.ofString "KEYWORDS"), .str (Str.ofString "LETTERS") (Str.ofString "abcdefghijklmnopqrstuvwxyz"), .str (Str.ofString "DIGITS") (Str.ofString "0123456789"), .str (Str.ofString "SPACES") (Str.ofString " \n"), .str (Str.ofString "SIGNS") (Str.ofString ";:{}"), .int (Str.ofString "MAX_LETTERS") 8, .int (Str.ofString "MAX_DIGITS") 2, .str (Str.ofString "NAME") (Str.ofString "name"), .str (Str.ofString "NUMBER") (Str.ofString "number"), .str (Str.ofString "KEYWORD") (Str.ofString "keyword"), .str (Str.ofString "SIGN") (Str.ofString "sign"), .str (Str.ofString "END") (Str.ofString "end")]
def hFaB2 : List He.Fa := [.int (Str.ofString "MIN_CELLS") 3, .int (Str.ofString "MAX_CELLS") 12, .int (Str.ofString "MAX_BOXES") 3, .int (Str.ofString "MAX_STEPS") 20, .int (Str.ofString "TAG") 83, .int (Str.ofString "BYTE") 256, .glo (Str.ofString "WORDS")]
def hFaB : List He.Fa := hFaB0 ++ (hFaB1 ++ (hFaB2))
def hFa : List He.Fa := hFaA ++ hFaB
def hFn0 : List He5.DefA := [⟨fun K => (He.ga K (Str.ofString "_law_random")), (Str.ofString "_law_random"), (Str.ofString "_law_random"), defArgs s_l_random, defBody s_l_random, defScope s_l_random, [], []⟩, ⟨fun K => (He.ma K (He.ga K (Str.ofString "Parser")) (Str.ofString "peek")), (Str.ofString "peek"), (Str.ofString "Parser.peek"), defArgs s_Parser_peek, defBody s_Parser_peek, defScope s_Parser_peek, [], []⟩, ⟨fun K => (He.ma K (He.ga K (Str.ofString "Token")) (Str.ofString "__init__")), (Str.ofString "__init__"), (Str.ofString "Token.__init__"), defArgs s_Token_init, defBody s_Token_init, defScope s_Token_init, [], []⟩, ⟨fun K => (He.ma K (He.ga K (Str.ofString "Robot")) (Str.ofString "__init__")), (Str.ofString "__init__"), (Str.ofString "Robot.__init__"), defArgs s_Robot_init, defBody s_Robot_init, defScope s_Robot_init, [], []⟩, ⟨fun K => (He.ma K (He.ga K (Str.ofString "Plan")) (Str.ofString "__init__")), (Str.ofString "__init__"), (Str.ofString "Plan.__init__"), defArgs s_Plan_init, defBody s_Plan_init, defScope s_Plan_init, [], []⟩, ⟨fun K => (He.ma K (He.ga K (Str.ofString "Parser")) (Str.ofString "__init__")), (Str.ofString "__init__"), (Str.ofString "Parser.__init__"), defArgs s_Parser_init, defBody s_Parser_init, defScope s_Parser_init, [], []⟩, ⟨fun K => (He.ma K (He.ga K (Str.ofString "Reader")) (Str.ofString "__init__")), (Str.ofString "__init__"), (Str.ofString "Reader.__init__"), defArgs s_Reader_init, defBody s_Reader_init, defScope s_Reader_init, [], []⟩, ⟨fun K => (He.ma K (He.ga K (Str.ofString "InvalidCode")) (Str.ofString "__init__")), (Str.ofString "__init__"), (Str.ofString "InvalidCode.__init__"), defArgs s_InvalidCode_init, defBody s_InvalidCode_init, defScope s_InvalidCode_init, [], []⟩, ⟨fun K => (He.ma K (He.ga K (Str.ofString "Parser")) (Str.ofString "fail")), (Str.ofString "fail"), (Str.ofString "Parser.fail"), defArgs s_Parser_fail, defBody s_Parser_fail, defScope s_Parser_fail, [], []⟩, ⟨fun K => (He.ma K (He.ga K (Str.ofString "Parser")) (Str.ofString "take_word")), (Str.ofString "take_word"), (Str.ofString "Parser.take_word"), defArgs s_Parser_take_word, defBody s_Parser_take_word, defScope s_Parser_take_word, [], []⟩, ⟨fun K => (He.ma K (He.ga K (Str.ofString "Parser")) (Str.ofString "take")), (Str.ofString "take"), (Str.ofString "Parser.take"), defArgs s_Parser_take, defBody s_Parser_take, defScope s_Parser_take, [], []⟩, ⟨fun K => (He.ma K (He.ga K (Str.ofString "Parser")) (Str.ofString "found")), (Str.ofString "found"), (Str.ofString "Parser.found"), defArgs s_Parser_found, defBody s_Parser_found, defScope s_Parser_found, [], []⟩]
def hFn1 : List He5.DefA := [⟨fun K => (He.ma K (He.ga K (Str.ofString "Parser")) (Str.ofString "parse_shelf")), (Str.ofString "parse_shelf"), (Str.ofString "Parser.parse_shelf"), defArgs s_Parser_parse_shelf, defBody s_Parser_parse_shelf, defScope s_Parser_parse_shelf, [], []⟩, ⟨fun K => (He.ma K (He.ga K (Str.ofString "Parser")) (Str.ofString "parse_step")), (Str.ofString "parse_step"), (Str.ofString "Parser.parse_step"), defArgs s_Parser_parse_step, defBody s_Parser_parse_step, defScope s_Parser_parse_step, [], []⟩, ⟨fun K => (He.ma K (He.ga K (Str.ofString "Parser")) (Str.ofString "parse_robot")), (Str.ofString "parse_robot"), (Str.ofString "Parser.parse_robot"), defArgs s_Parser_parse_robot, defBody s_Parser_parse_robot, defScope s_Parser_parse_robot, [], []⟩, ⟨fun K => (He.ma K (He.ga K (Str.ofString "Parser")) (Str.ofString "parse_plan")), (Str.ofString "parse_plan"), (Str.ofString "Parser.parse_plan"), defArgs s_Parser_parse_plan, defBody s_Parser_parse_plan, defScope s_Parser_parse_plan, [], []⟩, ⟨fun K => (He.ga K (Str.ofString "run_end")), (Str.ofString "run_end"), (Str.ofString "run_end"), defArgs s_run_end, defBody s_run_end, defScope s_run_end, [], []⟩, ⟨fun K => (He.ga K (Str.ofString "read_token")), (Str.ofString "read_token"), (Str.ofString "read_token"), defArgs s_read_token, defBody s_read_token, defScope s_read_token, [], []⟩, ⟨fun K => (He.ga K (Str.ofString "tokenize")), (Str.ofString "tokenize"), (Str.ofString "tokenize"), defArgs s_tokenize, defBody s_tokenize, defScope s_tokenize, [], []⟩, ⟨fun K => (He.ga K (Str.ofString "load")), (Str.ofString "load"), (Str.ofString "load"), defArgs s_load, defBody s_load, defScope s_load, [], []⟩, ⟨fun K => (He.ga K (Str.ofString "encode")), (Str.ofString "encode"), (Str.ofString "encode"), defArgs s_encode, defBody s_encode, defScope s_encode, [], []⟩, ⟨fun K => (He.ga K (Str.ofString "_law_below")), (Str.ofString "_law_below"), (Str.ofString "_law_below"), defArgs s_l_below, defBody s_l_below, defScope s_l_below, [], []⟩, ⟨fun K => (He.ga K (Str.ofString "_law_text")), (Str.ofString "_law_text"), (Str.ofString "_law_text"), defArgs s_l_text, defBody s_l_text, defScope s_l_text, [], []⟩, ⟨fun K => (He.ga K (Str.ofString "_law_error_of")), (Str.ofString "_law_error_of"), (Str.ofString "_law_error_of"), defArgs s_l_error_of, defBody s_l_error_of, defScope s_l_error_of, [], []⟩]
def hFn2 : List He5.DefA := [⟨fun K => (He.ga K (Str.ofString "is_int_in")), (Str.ofString "is_int_in"), (Str.ofString "is_int_in"), defArgs s_is_int_in, defBody s_is_int_in, defScope s_is_int_in, [], []⟩, ⟨fun K => (He.ma K (He.ga K (Str.ofString "Reader")) (Str.ofString "read_byte")), (Str.ofString "read_byte"), (Str.ofString "Reader.read_byte"), defArgs s_Reader_read_byte, defBody s_Reader_read_byte, defScope s_Reader_read_byte, [], []⟩, ⟨fun K => (He.ma K (He.ga K (Str.ofString "Reader")) (Str.ofString "read_robot")), (Str.ofString "read_robot"), (Str.ofString "Reader.read_robot"), defArgs s_Reader_read_robot, defBody s_Reader_read_robot, defScope s_Reader_read_robot, [], []⟩, ⟨fun K => (He.ga K (Str.ofString "label")), (Str.ofString "label"), (Str.ofString "label"), defArgs s_label, defBody s_label, defScope s_label, [], []⟩, ⟨fun K => (He.ga K (Str.ofString "format_robot")), (Str.ofString "format_robot"), (Str.ofString "format_robot"), defArgs s_format_robot, defBody s_format_robot, defScope s_format_robot, [], []⟩, ⟨fun K => (He.ga K (Str.ofString "format_parsed")), (Str.ofString "format_parsed"), (Str.ofString "format_parsed"), defArgs s_format_parsed, defBody s_format_parsed, defScope s_format_parsed, [], []⟩, ⟨fun K => (He.ga K (Str.ofString "decode")), (Str.ofString "decode"), (Str.ofString "decode"), defArgs s_decode, defBody s_decode, defScope s_decode, [], []⟩, ⟨fun K => (He.ga K (Str.ofString "_law_steps")), (Str.ofString "_law_steps"), (Str.ofString "_law_steps"), defArgs s_l_steps, defBody s_l_steps, defScope s_l_steps, [], []⟩, ⟨fun K => (He.ga K (Str.ofString "_law_plan")), (Str.ofString "_law_plan"), (Str.ofString "_law_plan"), defArgs s_l_plan, defBody s_l_plan, defScope s_l_plan, [], []⟩, ⟨fun K => (He.ga K (Str.ofString "law")), (Str.ofString "law"), (Str.ofString "law"), defArgs s_law, defBody s_law, defScope s_law, [], []⟩]
def hFn : List He5.DefA := hFn0 ++ (hFn1 ++ (hFn2))
def hTs : List He.Tab := []
def hTf : List He.Defn := [((Str.ofString "law"), none)]
def hEx (K : PySem.W.Frag) : Bool := exb_InvalidCode K && (SbH.tupB K (Str.ofString "MOVES") [(Str.ofString "left"), (Str.ofString "right"), (Str.ofString "pick"), (Str.ofString "put"), (Str.ofString "wait")] && (SbH.tupB K (Str.ofString "JUMPS") [(Str.ofString "goto"), (Str.ofString "empty"), (Str.ofString "held")] && (SbH.tupB K (Str.ofString "KEYWORDS") [(Str.ofString "shelf"), (Str.ofString "robot"), (Str.ofString "left"), (Str.ofString "right"), (Str.ofString "pick"), (Str.ofString "put"), (Str.ofString "wait"), (Str.ofString "goto"), (Str.ofString "empty"), (Str.ofString "held")] && (SbH.tupB K (Str.ofString "WORDS") [(Str.ofString "left"), (Str.ofString "right"), (Str.ofString "pick"), (Str.ofString "put"), (Str.ofString "wait"), (Str.ofString "goto"), (Str.ofString "empty"), (Str.ofString "held")]))))
abbrev hHk : PySem.W.Hook := SbH.hookY 5 hFa hFn hTs hTf hEx
def hOb (s : PySem.W.SharedT) : SbH.AlY := SbH.obsY 5 hFa hFn hTs hTf hEx (HandSHeadRun.getT s)
theorem hOb_eq (s : PySem.W.SharedT) : hOb s = hHk.obs s.abs := SbH.obsY_eq (HandSHeadRun.getT_eq s)
noncomputable abbrev hEnd (w : World) (os : OsState) : Option PySem.W.SharedT := HandSHeadRun.endF (HandSHeadRun.stepQ (HandSHeadRun.denQ HandSHeadRun.tabQ) (PySem.W.OpenLaw.row PySem.Challenge.rw_shelfbots_k15_invalid_bytes).prog w) 40000 (PySem.W.OpenLaw.row PySem.Challenge.rw_shelfbots_k15_invalid_bytes).prog w os
theorem hY1F (w : World) (os : OsState) : (hEnd (w.withFollow "special-get-raises" false) os).map (fun s => (HandSHeadRun.looksF (PySem.W.OpenLaw.row PySem.Challenge.rw_shelfbots_k15_invalid_bytes).prog (PySem.W.boot_heap (World.params (w.withFollow "special-get-raises" false))) s.abs, HandSHeadRun.seenQ (PySem.W.view (PySem.W.OpenLaw.row PySem.Challenge.rw_shelfbots_k15_invalid_bytes).prog [64]) hNm (importedModules (PySem.W.OpenLaw.row PySem.Challenge.rw_shelfbots_k15_invalid_bytes).prog.main.body) (fun s => PySem.W.xlAt (PySem.W.view (PySem.W.OpenLaw.row PySem.Challenge.rw_shelfbots_k15_invalid_bytes).prog [64]) [] s && PySem.W.recOk (PySem.W.OpenLaw.row PySem.Challenge.rw_shelfbots_k15_invalid_bytes).toRowW.records s) s.abs, hFa.all fun f => f.ok (SbH.KT 5 s))) = some (true, PySem.W.openGood (PySem.W.view (PySem.W.OpenLaw.row PySem.Challenge.rw_shelfbots_k15_invalid_bytes).prog [64]) hNm, true) := by kernel_rfl
theorem hY2F (w : World) (os : OsState) : (hEnd (w.withFollow "special-get-raises" false) os).map (fun s => (hFn.all fun d => d.ok (SbH.KT 5 s), hFn.map fun d => He5.fnA (SbH.KT 5 s) (d.at_ (SbH.KT 5 s)), hEx (SbH.KT 5 s) && He.tabsB (HandSHeadRun.getT s) hTf (SbH.KT 5 s), hTs.map fun t => He.dicW (SbH.KT 5 s) (t.1 (SbH.KT 5 s)))) = some (true, hFn.map He5.DefA.val, true, hTs.map fun t => some (He.keysIn (World.params (w.withFollow "special-get-raises" false)) t.2)) := by kernel_rfl
theorem hRunF (w : World) : HandSHeadRun.RunEq (PySem.W.OpenLaw.row PySem.Challenge.rw_shelfbots_k15_invalid_bytes) (PySem.W.view (PySem.W.OpenLaw.row PySem.Challenge.rw_shelfbots_k15_invalid_bytes).prog [64]) hHk hOb 40000 hNm (w.withFollow "special-get-raises" false) := fun os => SbH.run_join (hY1F w os) (hY2F w os)
theorem hY1T (w : World) (os : OsState) : (hEnd (w.withFollow "special-get-raises" true) os).map (fun s => (HandSHeadRun.looksF (PySem.W.OpenLaw.row PySem.Challenge.rw_shelfbots_k15_invalid_bytes).prog (PySem.W.boot_heap (World.params (w.withFollow "special-get-raises" true))) s.abs, HandSHeadRun.seenQ (PySem.W.view (PySem.W.OpenLaw.row PySem.Challenge.rw_shelfbots_k15_invalid_bytes).prog [64]) hNm (importedModules (PySem.W.OpenLaw.row PySem.Challenge.rw_shelfbots_k15_invalid_bytes).prog.main.body) (fun s => PySem.W.xlAt (PySem.W.view (PySem.W.OpenLaw.row PySem.Challenge.rw_shelfbots_k15_invalid_bytes).prog [64]) [] s && PySem.W.recOk (PySem.W.OpenLaw.row PySem.Challenge.rw_shelfbots_k15_invalid_bytes).toRowW.records s) s.abs, hFa.all fun f => f.ok (SbH.KT 5 s))) = some (true, PySem.W.openGood (PySem.W.view (PySem.W.OpenLaw.row PySem.Challenge.rw_shelfbots_k15_invalid_bytes).prog [64]) hNm, true) := by kernel_rfl
theorem hY2T (w : World) (os : OsState) : (hEnd (w.withFollow "special-get-raises" true) os).map (fun s => (hFn.all fun d => d.ok (SbH.KT 5 s), hFn.map fun d => He5.fnA (SbH.KT 5 s) (d.at_ (SbH.KT 5 s)), hEx (SbH.KT 5 s) && He.tabsB (HandSHeadRun.getT s) hTf (SbH.KT 5 s), hTs.map fun t => He.dicW (SbH.KT 5 s) (t.1 (SbH.KT 5 s)))) = some (true, hFn.map He5.DefA.val, true, hTs.map fun t => some (He.keysIn (World.params (w.withFollow "special-get-raises" true)) t.2)) := by kernel_rfl
theorem hRunT (w : World) : HandSHeadRun.RunEq (PySem.W.OpenLaw.row PySem.Challenge.rw_shelfbots_k15_invalid_bytes) (PySem.W.view (PySem.W.OpenLaw.row PySem.Challenge.rw_shelfbots_k15_invalid_bytes).prog [64]) hHk hOb 40000 hNm (w.withFollow "special-get-raises" true) := fun os => SbH.run_join (hY1T w os) (hY2T w os)
theorem hRun (w : World) : HandSHeadRun.RunEq (PySem.W.OpenLaw.row PySem.Challenge.rw_shelfbots_k15_invalid_bytes) (PySem.W.view (PySem.W.OpenLaw.row PySem.Challenge.rw_shelfbots_k15_invalid_bytes).prog [64]) hHk hOb 40000 hNm w := PySem.W.byRow2 "special-get-raises" (P := fun w => HandSHeadRun.RunEq (PySem.W.OpenLaw.row PySem.Challenge.rw_shelfbots_k15_invalid_bytes) (PySem.W.view (PySem.W.OpenLaw.row PySem.Challenge.rw_shelfbots_k15_invalid_bytes).prog [64]) hHk hOb 40000 hNm w) hRunF hRunT w
end Sb

namespace Sb
open PySem PySem.Spec PyProof.Rows L2
theorem ixN_nat {n j : Nat} (h : j < n) : ixN n (j : Int) = some j := by
  unfold ixN
  rw [if_pos (Int.natCast_nonneg j), if_pos (by omega)]
  simp
theorem sq_nat {n j : Nat} (h : j < n) : seqIndex? (j : Int) n = some j := (ixN_seq (ixN_nat h)).1
theorem ix_of {n j : Nat} {z : Int} (e : z = (j : Int)) (h : j < n) : ixN n z = some j := by rw [e]; exact ixN_nat h
theorem sq_of {n j : Nat} {z : Int} (e : z = (j : Int)) (h : j < n) : seqIndex? z n = some j := by rw [e]; exact sq_nat h
theorem vint_eq {i j : Int} (h : i = j) : decide (V.int i = V.int j) = true := decide_eq_true (by rw [h])
theorem vint_ne {i j : Int} (h : ¬ i = j) : decide (V.int i = V.int j) = false := decide_eq_false (fun e => h (by injection e))

/-! ### the draws -/
def spRandom (K : PySem.W.Frag) : Sp := fun vs H Q _ => ∃ (a : Addr) (ns : List Int) (salt : Int), vs = [.ref a, .int salt] ∧ SqL K H a (ns.map V.int) ∧ ns.length ≤ 63 ∧ 0 ≤ salt ∧
  ∀ (H' : Hp) (p : Addr) (ds : List Int), Same H H' → H p = none → H' p = some (.lst (ds.map V.int)) → Src ds → Q (.ref p) H'
structure spBelow (vs : List V) (H : Hp) (Q : VK) (E : XK) : Prop where
  ex : ∃ (d : Addr) (ds : List Int) (n : Int), vs = [.ref d, .int n] ∧ H d = some (.lst (ds.map V.int)) ∧ Src ds ∧ 0 < n ∧ n < 1073741824 ∧
  ∀ (ds' : List Int) (k : Int), Src ds' → 0 ≤ k → k < n → Q (.int k) (upd H d (.lst (ds'.map V.int)))
section
variable {P : Program} {w : World} {K : PySem.W.Frag} {mg : Str → Option Value} {base : Heap} {a : Ad}
theorem ok_l_below (T : Txt K mg a) : FnOk P w K mg base CX0 1 a.f_l_below a.d_l_below ["_law_d", "_law_limit"] spBelow := by
  refine T.F_l_below.ok sc_l_below (fun vs H Q E h => ?_) (fun cdv A outer s H vs Q E hr h => ?_)
  · obtain ⟨⟨d, ds, n, rfl, _⟩⟩ := h
    rfl
  · obtain ⟨⟨d, ds, n, rfl, hd, ⟨⟨z, e, r, rfl, hz, he, hr2, hl⟩⟩, n0, n1, k⟩⟩ := h
    refine ⟨_, (pss_cons (ps_if (PW.pt (pw_and (pt_cmpR op_eq (pe_ix ix_list (pv 0) pe_int (fun _ _ => rfl)) pe_int (nomark _)) (pw_and1 (pt_cmpR op_gt (pe_callB call_len_seq (by rfl) T.z_len (by decide +kernel) (pa_cons (pv 0) pa_nil)) pe_int (nomark _))))) (pss_one (ps_asg (pe_bm PySem.F.plainAttrs_list PySem.F.slot_list_pop PySem.F.type_list_pop mt_popAt (pv 0) (pa_cons pe_int pa_nil)) (pg_sub (pv 0) pe_int set_list))) pss_nil)
      (pss_cons (ps_if (pt_cmpR op_gt (pe_ix ix_list (pv 0) pe_int (fun _ _ => rfl)) pe_int (nomark _)) (pss_cons (ps_set (i := 2) sc_l_below.nd rfl (Or.inl rfl) (pe_op op_mod (pe_ix ix_list (pv 0) pe_int (fun _ _ => rfl)) (pv 1)))
      (pss_cons (ps_asg (pe_op op_fdiv (pe_ix ix_list (pv 0) pe_int (fun _ _ => rfl)) (pv 1)) (pg_sub (pv 0) pe_int set_list))
      (pss_one (ps_ret (pv 2))))) pss_nil)
      (pss_cons (ps_asg (pe_op op_mod (pe_op op_add (pe_op op_mul (pe_ix ix_list (pv 0) pe_int (fun _ _ => rfl)) pe_int) pe_int) pe_int) (pg_sub (pv 0) pe_int set_list))
      (pss_one (ps_ret (pe_op op_mod (pe_op op_fdiv (pe_ix ix_list (pv 0) pe_int (fun _ _ => rfl)) pe_int) (pv 1))))))), ?_⟩
    -- the end: d[0] drawn on
    have last : ∀ (z : Int) (r : List Int), 0 ≤ z → (∀ x ∈ r, (0 : Int) ≤ x) → r.length ≤ 63 → Src (((z * 48271 + 11) % 2147483647) :: 0 :: r) := fun z r hz hr hl =>
      ⟨⟨_, _, _, rfl, Int.emod_nonneg _ (by decide), by decide, hr, hl⟩⟩
    have go2 : ∀ (e : Int) (r : List Int), 0 < e → (∀ x ∈ r, (0 : Int) ≤ x) → r.length ≤ 63 → Src (z :: (e / n) :: r) := fun e r he hr hl =>
      ⟨⟨_, _, _, rfl, hz, Int.ediv_nonneg (by omega) (by omega), hr, hl⟩⟩
    -- behind the first if
    have rest : ∀ (e : Int) (r : List Int) (H1 : Hp), 0 ≤ e → (∀ x ∈ r, (0 : Int) ≤ x) → r.length ≤ 63 → H1 d = some (.lst ((z :: e :: r).map V.int)) → (∀ o, upd H1 d o = upd H d o) →
        (tSeq (tIfS (tTest (tOp (rI0 fun i j => .bl (decide (j < i))) (tOp (rIxL K) (tVar 0) (tC (.int 1))) (tC (.int 0))))
          (tSeq (tAsg (tOp (rI (fun _ j => 0 < j) fun i j => .int (i % j)) (tOp (rIxL K) (tVar 0) (tC (.int 1))) (tVar 1)) (gName 2))
            (tSeq (tAsg (tOp (rI CDiv fun i j => .int (i / j)) (tOp (rIxL K) (tVar 0) (tC (.int 1))) (tVar 1)) (gSub (tVar 0) (tC (.int 1)) rSetL)) (tRet (tVar 2)))) tNext)
          (tSeq (tAsg (tOp (rI (fun _ j => 0 < j) fun i j => .int (i % j)) (tOp (rI0 fun i j => .int (i + j)) (tOp (rI CMul fun i j => .int (i * j)) (tOp (rIxL K) (tVar 0) (tC (.int 0))) (tC (.int 48271))) (tC (.int 11))) (tC (.int 2147483647))) (gSub (tVar 0) (tC (.int 0)) rSetL))
            (tRet (tOp (rI (fun _ j => 0 < j) fun i j => .int (i % j)) (tOp (rI CDiv fun i j => .int (i / j)) (tOp (rIxL K) (tVar 0) (tC (.int 0))) (tC (.int 64))) (tVar 1)))))
          { nx := fun _ H' => Q .non H', rt := Q } (start ["_law_d", "_law_limit", "_law_result"] [.ref d, .int n]) H1 := by
      intro e r H1 he hr hl h1 hu
      refine ⟨_, rfl, d, _, 1, .int e, rfl, rfl, SqL.of h1, at_of (j := 1) rfl rfl, _, _, rfl, rfl, _, rfl, ?_⟩
      refine ite2 (fun c => ?_) (fun c => ?_)
      · have he0 : 0 < e := of_decide_eq_true c
        refine ⟨_, rfl, d, _, 1, .int e, rfl, rfl, SqL.of h1, at_of (j := 1) rfl rfl, _, rfl, _, _, rfl, rfl, n0, ?_⟩
        refine ⟨_, rfl, d, _, 1, .int e, rfl, rfl, SqL.of h1, at_of (j := 1) rfl rfl, _, rfl, _, _, rfl, rfl, ⟨n0, n1⟩, ?_⟩
        refine ⟨_, rfl, d, _, 1, 1, rfl, rfl, h1, ix_of rfl (by show 1 < ((z :: e :: r).map V.int).length; rw [List.length_map]; exact Nat.succ_lt_succ (Nat.succ_pos _)), ?_⟩
        refine ⟨_, rfl, ?_⟩
        rw [hu]
        exact k (z :: (e / n) :: r) (e % n) (go2 e r he0 hr hl) (Int.emod_nonneg _ (by omega)) (Int.emod_lt_of_pos _ n0)
      · have he0 : e = 0 := by
          have h3 : ¬ (0 : Int) < e := fun q => c (decide_eq_true q)
          omega
        subst he0
        refine ⟨_, rfl, d, _, 0, .int z, rfl, rfl, SqL.of h1, at_of (j := 0) rfl rfl, _, _, rfl, rfl, .inr ⟨by decide, by decide⟩, _, _, rfl, rfl, _, _, rfl, rfl, (by show (0 : Int) < 2147483647; decide), ?_⟩
        refine ⟨_, rfl, d, _, 0, 0, rfl, rfl, h1, ix_of rfl (by show 0 < ((z :: (0 : Int) :: r).map V.int).length; rw [List.length_map]; exact Nat.succ_pos _), ?_⟩
        refine ⟨_, rfl, d, _, 0, .int ((z * 48271 + 11) % 2147483647), rfl, rfl, SqL.of upd_same, at_of (j := 0) rfl rfl, _, _, rfl, rfl, ⟨by decide, by decide⟩, _, rfl, _, _, rfl, rfl, n0, ?_⟩
        rw [hu]
        exact k (((z * 48271 + 11) % 2147483647) :: 0 :: r) _ (last z r hz hr hl) (Int.emod_nonneg _ (by omega)) (Int.emod_lt_of_pos _ n0)
    refine ⟨_, rfl, d, _, 1, .int e, rfl, rfl, SqL.of hd, at_of (j := 1) rfl rfl, rfl, _, rfl, ?_⟩
    refine ite2 (fun c => ?_) (fun c => ?_)
    · refine ⟨_, rfl, d, _, rfl, .inl (SqL.of hd), _, _, rfl, rfl, _, rfl, ?_⟩
      refine ite2 (fun c2 => ?_) (fun c2 => ?_)
      · -- there is a further one
        cases r with
        | nil =>
          have c3 := of_decide_eq_true c2
          simp at c3
        | cons y r =>
          refine ⟨_, rfl, .inl ⟨rfl, _, SqL.of hd⟩, d, _, 2, 2, .int y, rfl, rfl, hd, by decide, by decide, sq_of rfl (by simp), rfl, ?_⟩
          refine ⟨_, rfl, d, _, 1, 1, rfl, rfl, upd_same, ix_of rfl (by simp), ?_⟩
          refine rest y r _ (hr2 y List.mem_cons_self) (fun x hx => hr2 x (List.mem_cons_of_mem _ hx)) (by simp at hl; omega) ?_ ?_
          · rw [upd_same]; rfl
          · intro o
            rw [upd_upd, upd_upd]
      · exact rest e r H he hr2 hl hd (fun _ => rfl)
    · exact rest e r H he hr2 hl hd (fun _ => rfl)
end
end Sb

namespace Sb
open PySem PySem.Spec PyProof.Rows L2
section
variable {P : Program} {w : World} {K : PySem.W.Frag} {mg : Str → Option Value} {base : Heap} {a : Ad}
theorem ints_at {ns : List Int} {i : Nat} {x : V} (h : (ns.map V.int)[i]? = some x) : ∃ z, ns[i]? = some z ∧ x = V.int z := by
  rw [List.getElem?_map] at h
  cases e : ns[i]? with
  | none => rw [e] at h; cases h
  | some z => rw [e] at h; exact ⟨z, rfl, (Option.some.inj h).symm⟩
theorem take_more {α : Type} : ∀ {l : List α} {i : Nat} {x : α}, l[i]? = some x → l.take (i + 1) = l.take i ++ [x]
  | [], i, x, h => by simp at h
  | a :: l, 0, x, h => by
    have e : a = x := Option.some.inj h
    subst e
    rfl
  | a :: l, i + 1, x, h => by
    have ih := take_more (l := l) (i := i) (x := x) h
    show a :: l.take (i + 1) = a :: l.take i ++ [x]
    rw [ih]
    rfl
theorem ok_l_random (T : Txt K mg a) : FnOk P w K mg base CX0 1 a.f_l_random a.d_l_random ["_law_script", "_law_salt"] (spRandom K) := by
  refine T.F_l_random.ok sc_l_random (fun vs H Q E h => ?_) (fun cdv A outer s H vs Q E hr h => ?_)
  · obtain ⟨d, ds, n, rfl, _⟩ := h
    rfl
  · obtain ⟨l, ns, salt, rfl, hl, h63, h0, k⟩ := h
    refine ⟨_, (pss_cons (ps_set (i := 2) sc_l_random.nd rfl (Or.inl rfl) (pv 1))
      (pss_cons (ps_for PassesOwn.never rfl (pi_list (pv 0)) (pg_name (i := 3) sc_l_random.nd rfl (Or.inl rfl)) (pss_one (ps_set (i := 2) sc_l_random.nd rfl (Or.inl rfl) (pe_op op_mod (pe_op op_add (pe_op op_mul (pv 2) pe_int) (pe_callB call_abs (by rfl) T.z_abs (by decide +kernel) (pa_cons (pv 3) pa_nil))) pe_int))))
      (pss_one (ps_ret (pe_op op_cat (pe_lst (pa_cons (pv 2) (pa_cons pe_int pa_nil))) (pe_lc (own := [("_law_cell", 3)]) (g := gName 3) rfl sc_l_random.nd (pi_list (pv 0)) (blkOk_by (own := [("_law_cell", 3)]) (N := ["_law_script", "_law_salt", "_law_seed", "_law_cell"]) (sc := (defScope s_l_random)) (by decide +kernel)) (fun _ _ _ _ _ => (pg_name (i := 3) sc_l_random.nd rfl (Or.inl rfl))) (fun _ _ _ _ _ => by exact pts_one (pt_cmpR op_ge (pv 3) (pe_op op_pow pe_int pe_int) (nomark _))) (fun _ _ _ _ _ => by exact (pv 3)))))))), ?_⟩
    refine ⟨_, rfl, _, rfl, l, rfl, ⟨_, hl⟩, for_list (K := K) (a := l) (xs := ns.map V.int) (fun i σ H' => H' = H ∧ ∃ (z : Int) (v : Option V), σ = [some (.ref l), some (.int salt), some (.int z), v] ∧ 0 ≤ z)
      ⟨rfl, salt, none, rfl, h0⟩ (fun i σ H' _ ⟨e, _⟩ => by rw [e]; exact hl) ?_ ?_⟩
    · rintro i x σ H' hx ⟨rfl, z, v, rfl, hz⟩
      obtain ⟨u, hu, rfl⟩ := ints_at hx
      refine ⟨_, rfl, _, _, rfl, rfl, .inr ⟨by decide, by decide⟩, _, rfl, _, rfl, _, _, rfl, rfl, _, _, rfl, rfl, (by show (0 : Int) < 2147483647; decide), ?_⟩
      exact ⟨rfl, _, _, rfl, Int.emod_nonneg _ (by decide)⟩
    · rintro σ H' ⟨rfl, z, v, rfl, hz⟩
      refine ⟨_, rfl, (by show 2 ≤ sizeLine; decide), fun p hp => ?_⟩
      have hl1 : SqL K (upd H' p (.lst [.int z, .int 0])) l (ns.map V.int) := (same_new hp).seq hl
      refine ⟨_, rfl, l, rfl, ⟨_, hl1⟩, fun D hD => ?_⟩
      have npD : p ≠ D := fun e => by rw [← e, upd_same] at hD; cases hD
      refine lc_list (K := K) (a := l) (xs := ns.map V.int) (fun i H2 => ∃ bs : List Int, H2 = upd (upd H' p (.lst [.int z, .int 0])) D (.lst (bs.map V.int)) ∧ (∀ x ∈ bs, (0 : Int) ≤ x) ∧ bs.length ≤ i) ⟨[], rfl, (fun _ h => nomatch h), Nat.le_refl _⟩ ?_ ?_ ?_
      · rintro i H2 _ ⟨bs, rfl, _⟩
        exact (same_new hD).seq hl1
      · rintro i x H2 hx ⟨bs, rfl, hb, hbl⟩
        obtain ⟨u, hu, rfl⟩ := ints_at hx
        have hi : i < ns.length := (List.getElem?_eq_some_iff.mp hu).1
        refine ⟨rfl, _, rfl, _, _, rfl, rfl, ⟨by decide, by decide, by decide⟩, _, _, rfl, rfl, _, rfl, ?_⟩
        refine ite2 (fun c => ?_) (fun c => ?_)
        · have hu0 : (10 : Int) ^ (18 : Int).toNat ≤ u := of_decide_eq_true c
          have hu1 : (0 : Int) ≤ u := Int.le_trans (by decide) hu0
          refine ⟨_, rfl, bs.map V.int, upd_same, smaller 63 (by rw [List.length_map]; omega) (by decide), bs ++ [u], ?_, ?_, ?_⟩
          · rw [upd_upd, List.map_append]
            rfl
          · intro x hx
            rcases List.mem_append.mp hx with h | h
            · exact hb x h
            · rw [List.mem_singleton.mp h]; exact hu1
          · rw [List.length_append]; simp; omega
        · exact ⟨bs, rfl, hb, by omega⟩
      · rintro H2 ⟨bs, rfl, hb, hbl⟩
        have e1 : (upd (upd H' p (.lst [.int z, .int 0])) D (.lst (bs.map V.int))) p = some (.lst [.int z, .int 0]) := by rw [upd_ne npD, upd_same]
        rw [List.length_map] at hbl
        refine ⟨p, D, _, _, rfl, rfl, e1, upd_same, small 65 (by show 2 + (bs.map V.int).length ≤ 65; rw [List.length_map]; omega) (by decide), fun q hq => ?_⟩
        have q1 : q ≠ D := fun e => by rw [e, upd_same] at hq; cases hq
        have q2 : q ≠ p := fun e => by rw [e, e1] at hq; cases hq
        refine k _ q (z :: 0 :: bs) (((same_new hp).trans (same_new hD)).trans (same_new hq)) (by rw [upd_ne q1, upd_ne q2] at hq; exact hq) (by rw [upd_same]; rfl) ⟨⟨z, 0, bs, rfl, hz, by decide, hb, by omega⟩⟩
end
end Sb

namespace Sb
open PySem PySem.Spec PyProof.Rows L2
section
variable {K : PySem.W.Frag} {d : Addr} {G0 H0 G H : Hp} {n : Int} {Q : VK} {E : XK}
/-- a draw, used -/
theorem draw_go (h : At d G0 H0 G H) (n0 : 0 < n) (n1 : n < 1073741824) (k : ∀ (H1 : Hp) (i : Nat), At d G0 H0 G H1 → (∀ b, b ≠ d → H1 b = H b) → (i : Int) < n → Q (.int i) H1) : spBelow [.ref d, .int n] H Q E := by
  obtain ⟨ds, hd, hs⟩ := h.now.x
  refine ⟨⟨d, ds, n, rfl, hd, hs, n0, n1, fun ds' i s1 i0 i1 => ?_⟩⟩
  have e : i = (i.toNat : Int) := by omega
  rw [e]
  exact k _ i.toNat (h.draw s1) (fun b hb => upd_ne hb) (by omega)
end
theorem wds_len : wds.length = 8 := rfl
theorem wds_at {i : Nat} (h : i < 8) : (wds.map V.str)[i]? = some (.str (wS i)) := by
  rw [List.getElem?_map]
  have : wds[i]? = some (wS i) := by
    unfold wS
    rw [List.getElem?_eq_getElem (by rw [wds_len]; exact h), List.getD_eq_getElem?_getD, List.getElem?_eq_getElem (by rw [wds_len]; exact h)]
    rfl
  rw [this]
  rfl
def jmpV : List V := [.str "goto", .str "empty", .str "held"]
theorem jmp_in : ∀ {w : Nat}, w < 8 → inV (.str (wS w)) jmpV = decide (5 ≤ w) := by
  have h : ∀ w : _root_.Fin 8, inV (.str (wS w.val)) jmpV = decide (5 ≤ w.val) := by decide +kernel
  exact fun {w} hw => h ⟨w, hw⟩
theorem optD_some {K : PySem.W.Frag} {G : Hp} (k : Nat) : Dp K G (.int k) (optD (some k)) := .int k
theorem jmp_flat : jmpV.all flatV = true := by decide +kernel
structure spSteps (K : PySem.W.Frag) (vs : List V) (H : Hp) (Q : VK) (E : XK) : Prop where
  ex : ∃ (d : Addr) (G : Hp) (most : Nat), vs = [.ref d, .int most] ∧ 1 ≤ most ∧ most ≤ 20 ∧
  Drawn d G H Q fun G' v => ∃ ss : List Step, StepsOk ss ∧ Dp K G' v (stepsD ss) ∧ ss.length ≤ most
section
variable {P : Program} {w : World} {K : PySem.W.Frag} {mg : Str → Option Value} {base : Heap} {a : Ad}
theorem wS0 : wS 0 = "left" := rfl
theorem wS1 : wS 1 = "right" := rfl
theorem wS2 : wS 2 = "pick" := rfl
theorem wS3 : wS 3 = "put" := rfl
theorem stepD_no {K : PySem.W.Frag} {G : Hp} {t : Addr} {x : Nat} (h : SqT K G t [.str (wS x), .non]) : Dp K G (.ref t) (Step.D ⟨x, none⟩) := .tup h (.cons (.str _) (.cons .non .nil))
theorem ok_no {n x : Nat} (h : x < 5) : Step.Ok n ⟨x, none⟩ := ⟨by show x < 8; omega, fun _ => rfl, fun z => absurd (show 5 ≤ x from z) (by omega)⟩
theorem ok_l_steps (T : Txt K mg a) : FnOk P w K mg base CX0 2 a.f_l_steps a.d_l_steps ["_law_d", "_law_most"] (spSteps K) := by
  refine T.F_l_steps.ok sc_l_steps (fun vs H Q E h => ?_) (fun cdv A outer s H vs Q E hr h => ?_)
  · obtain ⟨⟨d, G, m, rfl, _⟩⟩ := h
    rfl
  · obtain ⟨⟨d, G, most, rfl, m1, m20, hN, k⟩⟩ := h
    refine ⟨_, (pss_cons (ps_par (i := 2) (j := 3) (by rfl) sc_l_steps.nd rfl rfl (by decide) rfl rfl (pa_cons (pe_op op_add pe_int (pe_call (ok_l_below T) (hr.mono (by decide)) rfl T.m_l_below T.F_l_below.kp (b_l_below T) .nil pass0 (pa_cons (pv 0) (pa_cons (pv 1) pa_nil)))) (pa_cons (pe_lst (pa_cons pe_str (pa_cons pe_str (pa_cons pe_str (pa_cons pe_str (pa_cons pe_str (pa_cons pe_str (pa_cons pe_str (pa_cons pe_str pa_nil))))))))) pa_nil)) (by rfl))
      (pss_cons (ps_if (PW.pt (pw_and (pt_cmpR op_gt (pv 1) pe_int (nomark _)) (pw_and1 (pt_cmpR op_eq (pe_call (ok_l_below T) (hr.mono (by decide)) rfl T.m_l_below T.F_l_below.kp (b_l_below T) .nil pass0 (pa_cons (pv 0) (pa_cons pe_int pa_nil))) pe_int (nomark _))))) (pss_cons (ps_set (i := 4) sc_l_steps.nd rfl (Or.inl rfl) (pe_ix ix_list (pe_lst (pa_cons (pe_lst (pa_cons pe_str (pa_cons pe_str pa_nil))) (pa_cons (pe_lst (pa_cons pe_str (pa_cons pe_str pa_nil))) pa_nil))) (pe_call (ok_l_below T) (hr.mono (by decide)) rfl T.m_l_below T.F_l_below.kp (b_l_below T) .nil pass0 (pa_cons (pv 0) (pa_cons pe_int pa_nil))) (fun _ _ => rfl)))
      (pss_one (ps_ret (pe_lst (pa_cons (pe_tup (pa_cons pe_str (pa_cons pe_non pa_nil))) (pa_cons (pe_tup (pa_cons (pe_ix ix_list (pv 4) pe_int (fun _ _ => rfl)) (pa_cons pe_non pa_nil))) (pa_cons (pe_tup (pa_cons pe_str (pa_cons pe_non pa_nil))) (pa_cons (pe_tup (pa_cons (pe_ix ix_list (pv 4) pe_int (fun _ _ => rfl)) (pa_cons pe_non pa_nil))) pa_nil)))))))) pss_nil)
      (pss_cons (ps_par (i := 5) (j := 6) (by rfl) sc_l_steps.nd rfl rfl (by decide) rfl rfl (pa_cons (pe_ix ix_list (pe_lst (pa_cons pe_int (pa_cons pe_int pa_nil))) (pe_call (ok_l_below T) (hr.mono (by decide)) rfl T.m_l_below T.F_l_below.kp (b_l_below T) .nil pass0 (pa_cons (pv 0) (pa_cons pe_int pa_nil))) (fun _ _ => rfl)) (pa_cons (pe_lst pa_nil) pa_nil)) (by rfl))
      (pss_cons (ps_for PassesOwn.never rfl (pi_range1 (by rfl) T.z_range (pa_cons (pv 2) pa_nil)) (pg_name (i := 7) sc_l_steps.nd rfl (Or.inl rfl)) (pss_cons (ps_set (i := 8) sc_l_steps.nd rfl (Or.inl rfl) (pe_ix ix_list (pv 3) (pe_call (ok_l_below T) (hr.mono (by decide)) rfl T.m_l_below T.F_l_below.kp (b_l_below T) .nil pass0 (pa_cons (pv 0) (pa_cons (pv 5) pa_nil))) (fun _ _ => rfl)))
      (pss_one (ps_expr (pe_bm PySem.F.plainAttrs_list PySem.F.slot_list_append PySem.F.type_list_append mt_append (pv 6) (pa_cons (pe_tup (pa_cons (pv 8) (pa_cons (pe_ifExp (pt_cmpR op_in_seq (pv 8) (pe_lst (pa_cons pe_str (pa_cons pe_str (pa_cons pe_str pa_nil)))) rfl) (pe_call (ok_l_below T) (hr.mono (by decide)) rfl T.m_l_below T.F_l_below.kp (b_l_below T) .nil pass0 (pa_cons (pv 0) (pa_cons (pv 2) pa_nil))) pe_non) pa_nil))) pa_nil))))))
      (pss_one (ps_ret (pv 6))))))), ?_⟩
    -- many, words
    refine ⟨_, rfl, _, rfl, draw_go hN.at (by omega) (by omega) fun H1 i A1 K1 hi => ?_⟩
    refine ⟨_, _, rfl, rfl, (by show 8 ≤ sizeLine; decide), fun W hW => ⟨_, _, rfl, ?_⟩⟩
    have A2 := A1.new hW (.lst (wds.map V.str))
    have hWG : SqL K (upd G W (.lst (wds.map V.str))) W (wds.map V.str) := SqL.of upd_same
    dsimp only
    -- behind the if
    refine seq_rest (fun H3 => At d G H (upd G W (.lst (wds.map V.str))) H3) [some (.ref d), some (.int most), some (.int (1 + (i : Int))), some (.ref W), none, none, none, none, none] (fun H3 A3 => ?r) (fun rest => ?m)
    case m =>
      refine ⟨_, rfl, _, _, rfl, rfl, _, rfl, ?_⟩
      refine ite2 (fun c4 => ?_) (fun c => ?_)
      · refine ⟨_, rfl, draw_go A2 (by decide) (by decide) fun H3 j A3 K3 hj => ?_⟩
        refine ⟨rfl, _, rfl, ?_⟩
        refine ite2 (fun c => ?_) (fun c => rest H3 A3)
        -- the four steps
        refine ⟨(by show 2 ≤ sizeLine; decide), fun q1 hq1 => ?_⟩
        have A4 := A3.new hq1 (.lst [.str "left", .str "right"])
        refine ⟨(by show 2 ≤ sizeLine; decide), fun q2 hq2 => ?_⟩
        have A5 := A4.new hq2 (.lst [.str "right", .str "left"])
        refine ⟨(by show 2 ≤ sizeLine; decide), fun q3 hq3 => ?_⟩
        have A6 := A5.new hq3 (.lst [.ref q1, .ref q2])
        refine ⟨_, rfl, draw_go A6 (by decide) (by decide) fun H7 m A7 K7 hm => ?_⟩
        have f1 : SqL K H7 q1 [.str "left", .str "right"] := A7.now.s.seq (SqL.of (by rw [upd_ne (ne_of_none (by rw [upd_ne (ne_of_none upd_same hq2), upd_same]) hq3), upd_ne (ne_of_none upd_same hq2), upd_same]))
        have f2 : SqL K H7 q2 [.str "right", .str "left"] := A7.now.s.seq (SqL.of (by rw [upd_ne (ne_of_none upd_same hq3), upd_same]))
        have f3 : SqL K H7 q3 [.ref q1, .ref q2] := A7.now.s.seq (SqL.of upd_same)
        obtain ⟨u, x, y, hu, hx, hy, hxy, hsq⟩ : ∃ (u : Addr) (x y : Nat), ([V.ref q1, V.ref q2] : List V)[m]? = some (.ref u) ∧ x < 5 ∧ y < 5 ∧ True ∧ SqL K H7 u [.str (wS x), .str (wS y)] := by
          match m, hm with
          | 0, _ => exact ⟨q1, 0, 1, rfl, by decide, by decide, trivial, f1⟩
          | 1, _ => exact ⟨q2, 1, 0, rfl, by decide, by decide, trivial, f2⟩
          | m + 2, h => exact absurd h (by omega)
        refine ⟨q3, _, _, .ref u, rfl, rfl, f3, atI_nat hu, ?_⟩
        refine ⟨(by show 2 ≤ sizeLine; decide), fun t1 ht1 => ?_⟩
        have B1 := A7.new ht1 (.tup [.str (wS 2), .non])
        have g1 := Same.seq (same_new ht1 (o := .tup [.str (wS 2), .non])) hsq
        refine ⟨_, rfl, u, _, 0, .str (wS x), rfl, rfl, g1, at_of (j := 0) rfl rfl, (by show 2 ≤ sizeLine; decide), fun t2 ht2 => ?_⟩
        have B2 := B1.new ht2 (.tup [.str (wS x), .non])
        refine ⟨(by show 2 ≤ sizeLine; decide), fun t3 ht3 => ?_⟩
        have B3 := B2.new ht3 (.tup [.str (wS 3), .non])
        have g3 := Same.seq (same_new ht3 (o := .tup [.str (wS 3), .non])) (Same.seq (same_new ht2 (o := .tup [.str (wS x), .non])) g1)
        refine ⟨_, rfl, u, _, 1, .str (wS y), rfl, rfl, g3, at_of (j := 1) rfl rfl, (by show 2 ≤ sizeLine; decide), fun t4 ht4 => ?_⟩
        have B4 := B3.new ht4 (.tup [.str (wS y), .non])
        refine ⟨(by show 4 ≤ sizeLine; decide), fun r hr' => ?_⟩
        have B5 := B4.new hr' (.lst [.ref t1, .ref t2, .ref t3, .ref t4])
        refine k _ _ _ B5 ⟨[⟨2, none⟩, ⟨x, none⟩, ⟨3, none⟩, ⟨y, none⟩], ⟨(by show 1 ≤ 4; decide), (by show 4 ≤ 20; decide), ?_⟩, ?_, ?_⟩
        · intro s hs
          rcases List.mem_cons.mp hs with rfl | hs
          · exact ok_no (by decide)
          rcases List.mem_cons.mp hs with rfl | hs
          · exact ok_no hx
          rcases List.mem_cons.mp hs with rfl | hs
          · exact ok_no (by decide)
          rcases List.mem_cons.mp hs with rfl | hs
          · exact ok_no hy
          · cases hs
        · have n5 := same_new (H := upd (upd (upd (upd _ t1 (.tup [.str (wS 2), .non])) t2 (.tup [.str (wS x), .non])) t3 (.tup [.str (wS 3), .non])) t4 (.tup [.str (wS y), .non])) (p := r) (o := .lst [.ref t1, .ref t2, .ref t3, .ref t4]) (Same.free B4.now.s hr')
          have n4 := same_new (H := upd (upd (upd _ t1 (.tup [.str (wS 2), .non])) t2 (.tup [.str (wS x), .non])) t3 (.tup [.str (wS 3), .non])) (p := t4) (o := .tup [.str (wS y), .non]) (Same.free B3.now.s ht4)
          have n3 := same_new (H := upd (upd _ t1 (.tup [.str (wS 2), .non])) t2 (.tup [.str (wS x), .non])) (p := t3) (o := .tup [.str (wS 3), .non]) (Same.free B2.now.s ht3)
          have n2 := same_new (H := upd _ t1 (.tup [.str (wS 2), .non])) (p := t2) (o := .tup [.str (wS x), .non]) (Same.free B1.now.s ht2)
          refine .lst (SqL.of upd_same) (.cons (stepD_no ?_) (.cons (stepD_no ?_) (.cons (stepD_no ?_) (.cons (stepD_no ?_) .nil))))
          · exact Same.seqT (((n2.trans n3).trans n4).trans n5) (SqT.of upd_same)
          · exact Same.seqT ((n3.trans n4).trans n5) (SqT.of upd_same)
          · exact Same.seqT (n4.trans n5) (SqT.of upd_same)
          · exact Same.seqT n5 (SqT.of upd_same)
        · have h3 : (3 : Int) < (most : Int) := of_decide_eq_true c4
          show 4 ≤ most
          omega
      · exact rest _ A2
    -- the loop
    refine ⟨(by show 2 ≤ sizeLine; decide), fun q hq => ?_⟩
    have A4 := A3.new hq (.lst [.int 5, .int 8])
    refine ⟨_, rfl, draw_go A4 (by decide) (by decide) fun H5 m A5 K5 hm => ?_⟩
    have f1 : SqL K H5 q [.int 5, .int 8] := A5.now.s.seq (SqL.of upd_same)
    obtain ⟨lim, hlim, l1, l8⟩ : ∃ lim : Nat, ([V.int 5, V.int 8] : List V)[m]? = some (.int lim) ∧ 0 < lim ∧ lim ≤ 8 := by
      match m, hm with
      | 0, _ => exact ⟨5, rfl, by decide, by decide⟩
      | 1, _ => exact ⟨8, rfl, by decide, by decide⟩
      | m + 2, h => exact absurd h (by omega)
    refine ⟨q, _, _, .int lim, rfl, rfl, f1, atI_nat hlim, Nat.zero_le _, fun l hl => ⟨_, _, rfl, ?_⟩⟩
    have A6 := A5.lay hl (.lst [])
    have lG : upd (upd G W (.lst (wds.map V.str))) q (.lst [.int 5, .int 8]) l = none := Same.free A5.now.s hl
    have l0 : H l = none := A5.ext.k l hl
    have ld : l ≠ d := A5.ne hl
    refine ⟨_, rfl, _, rfl, by omega, by omega, for_range (lo := 0) (n := (1 + (i : Int)).toNat) (fun j σ H' => ∃ (G' : Hp) (xs : List V) (ss : List Step) (v7 v8 : Option V), σ = [some (.ref d), some (.int most), some (.int (1 + (i : Int))), some (.ref W), none, some (.int lim), some (.ref l), v7, v8] ∧
      At d G H G' H' ∧ G' l = none ∧ H' l = some (.lst xs) ∧ SqL K G' W (wds.map V.str) ∧ DpAll K G' xs (ss.map Step.D) ∧ ss.length = j ∧ ∀ s ∈ ss, Step.Ok (1 + i) s) ?_ ?_ ?_⟩
    · exact ⟨_, [], [], none, none, rfl, A6, lG, upd_same, (same_new (Same.free A3.now.s hq)).seq hWG, .nil, rfl, fun _ h => nomatch h⟩
    · rintro j σ H' hj ⟨G', xs, ss, v7, v8, rfl, B, lG', hxs, hW', hss, hsl, hok⟩
      refine ⟨_, rfl, _, rfl, _, rfl, draw_go B (by omega) (by omega) fun H7 x B1 K1 hx => ?_⟩
      have hx8 : x < 8 := by omega
      refine ⟨W, _, _, .str (wS x), rfl, rfl, B1.now.s.seq hW', atI_nat (wds_at hx8), ?_⟩
      have hl7 : H7 l = some (.lst xs) := by rw [K1 l ld]; exact hxs
      refine ⟨_, rfl, .inl ⟨rfl, _, SqL.of hl7⟩, _, rfl, _, rfl, (by show 3 ≤ sizeLine; decide), fun q2 hq2 => ?_⟩
      have B2 := B1.lay hq2 (.lst jmpV)
      have hl8 : (upd H7 q2 (.lst jmpV)) l = some (.lst xs) := by rw [upd_ne (ne_of_none hl7 hq2)]; exact hl7
      refine ⟨q2, jmpV, rfl, .inl (SqL.of upd_same), rfl, jmp_flat, _, rfl, ?_⟩
      -- the tuple appended
      have fin : ∀ (H9 : Hp) (g : Option Nat) (v : V), At d G H G' H9 → H9 l = some (.lst xs) → (∀ G, Dp K G v (optD g)) → Step.Ok (1 + i) ⟨x, g⟩ →
          (2 ≤ sizeLine ∧ ∀ t, H9 t = none → ∃ l' ys y, (V.ref l) = .ref l' ∧ [V.ref t] = [y] ∧ (upd H9 t (.tup [.str (wS x), v])) l' = some (.lst ys) ∧ ys.length < sizeLine ∧
            (∃ (G' : Hp) (xs : List V) (ss : List Step) (v7 v8 : Option V), [some (V.ref d), some (.int most), some (.int (1 + (i : Int))), some (.ref W), none, some (.int lim), some (.ref l), some (.int (0 + (j : Int))), some (.str (wS x))] = [some (.ref d), some (.int most), some (.int (1 + (i : Int))), some (.ref W), none, some (.int lim), some (.ref l), v7, v8] ∧
              At d G H G' (upd (upd H9 t (.tup [.str (wS x), v])) l' (.lst (ys ++ [y]))) ∧ G' l = none ∧ (upd (upd H9 t (.tup [.str (wS x), v])) l' (.lst (ys ++ [y]))) l = some (.lst xs) ∧ SqL K G' W (wds.map V.str) ∧ DpAll K G' xs (ss.map Step.D) ∧ ss.length = j + 1 ∧ ∀ s ∈ ss, Step.Ok (1 + i) s)) := by
        intro H9 g v B9 h9 hv hokx
        refine ⟨by decide, fun t ht => ?_⟩
        have ntl : l ≠ t := ne_of_none h9 ht
        have B10 := B9.new ht (.tup [.str (wS x), v])
        have lG10 : upd G' t (.tup [.str (wS x), v]) l = none := by rw [upd_ne ntl]; exact lG'
        have nG := same_new (H := G') (p := t) (o := .tup [.str (wS x), v]) (Same.free B9.now.s ht)
        refine ⟨l, xs, _, rfl, rfl, by rw [upd_ne ntl]; exact h9, smaller 20 (by rw [DpAll.len hss, List.length_map]; omega) (by decide), _, xs ++ [.ref t], ss ++ [⟨x, g⟩], _, _, rfl, B10.put l0 lG10 ld _, lG10, upd_same, nG.seq hW', ?_, ?_, ?_⟩
        · rw [List.map_append]
          exact DpAll.snoc (Dp.monoAll nG _ _ hss) (.tup (SqT.of upd_same) (.cons (.str _) (.cons (hv _) .nil)))
        · rw [List.length_append, hsl]; rfl
        · intro s hs
          rcases List.mem_append.mp hs with h | h
          · exact hok s h
          · rw [List.mem_singleton.mp h]; exact hokx
      rw [if_neg Bool.false_ne_true, jmp_in hx8]
      refine ite2 (fun c => ?_) (fun c => ?_)
      · have hx5 : 5 ≤ x := of_decide_eq_true c
        refine ⟨_, rfl, _, rfl, draw_go B2 (by omega) (by omega) fun H9 g B3 K3 hg => ?_⟩
        refine fin H9 (some g) (.int g) B3 (by rw [K3 l ld]; exact hl8) (fun _ => .int g) ⟨hx8, fun z => absurd (show x < 5 from z) (by omega), fun _ => ⟨g, rfl, by omega⟩⟩
      · have hx5 : ¬ 5 ≤ x := fun z => c (decide_eq_true z)
        exact fin _ none .non B2 hl8 (fun _ => .non) (ok_no (by omega))
    · rintro σ H' ⟨G', xs, ss, v7, v8, rfl, B, lG', hxs, hW', hss, hsl, hok⟩
      refine ⟨_, rfl, ?_⟩
      have B1 := B.freeze l0 hxs ld
      have e : ss.length = 1 + i := by omega
      refine k _ _ _ B1 ⟨ss, ⟨by omega, by omega, by rw [e]; exact hok⟩, .lst (SqL.of upd_same) (Dp.monoAll ?_ _ _ hss), by omega⟩
      intro b o eb
      by_cases hb : b = l
      · rw [hb, lG'] at eb; cases eb
      · rw [upd_ne hb]; exact eb
end
end Sb

namespace Sb
open PySem PySem.Spec PyProof.Rows L2
structure spPlan (K : PySem.W.Frag) (vs : List V) (H : Hp) (Q : VK) (E : XK) : Prop where
  ex : ∃ (d : Addr) (G : Hp) (most : Nat), vs = [.ref d, .int most] ∧ 1 ≤ most ∧ most ≤ 20 ∧
    Drawn d G H Q fun G' v => ∃ x : Pl, x.Ok ∧ x.shelf.length ≤ 8 ∧ Dp K G' v x.D ∧ x.p.length ≤ most ∧ x.q.length ≤ most
theorem other_ne {n f s : Nat} (hf : f < n) (hs : s + 1 < n) : (f + 1 + s) % n ≠ f := by
  by_cases h : f + 1 + s < n
  · rw [Nat.mod_eq_of_lt h]; omega
  · rw [Nat.mod_eq_sub_mod (by omega), Nat.mod_eq_of_lt (by omega)]; omega
theorem other_eq (f s n : Nat) : ((f : Int) + 1 + (s : Int)) % (3 + (n : Int)) = (((f + 1 + s) % (3 + n) : Nat) : Int) := by
  rw [Int.natCast_emod]
  push_cast
  rfl
theorem nats_D (K : PySem.W.Frag) (G : Hp) (l : List Nat) : DpAll K G (l.map fun n : Nat => V.int n) (l.map natD) := by
  induction l with
  | nil => exact .nil
  | cons n l ih => exact .cons (.int _) ih
theorem draw_steps {K : PySem.W.Frag} {d : Addr} {G0 H0 G H : Hp} {most : Nat} {Q : VK} {E : XK} (h : At d G0 H0 G H) (m1 : 1 ≤ most) (m2 : most ≤ 20)
    (k : ∀ (G1 H1 : Hp) (v : V) (ss : List Step), At d G0 H0 G1 H1 → At d G H G1 H1 → StepsOk ss → Dp K G1 v (stepsD ss) → ss.length ≤ most → Q v H1) : spSteps K [.ref d, .int most] H Q E :=
  ⟨⟨d, G, most, rfl, m1, m2, h.now, fun G' H' v A ⟨ss, o, D, l⟩ => k G' H' v ss (h.trans A) A o D l⟩⟩
theorem draw_plan {K : PySem.W.Frag} {d : Addr} {G0 H0 G H : Hp} {most : Nat} {Q : VK} {E : XK} (h : At d G0 H0 G H) (m1 : 1 ≤ most) (m2 : most ≤ 20)
    (k : ∀ (G1 H1 : Hp) (v : V) (x : Pl), At d G0 H0 G1 H1 → At d G H G1 H1 → x.Ok → x.shelf.length ≤ 8 → Dp K G1 v x.D → Q v H1) : spPlan K [.ref d, .int most] H Q E :=
  ⟨⟨d, G, most, rfl, m1, m2, h.now, fun G' H' v A ⟨ss, o, o8, D, _⟩ => k G' H' v ss (h.trans A) A o o8 D⟩⟩
theorem draw_plan2 {K : PySem.W.Frag} {d : Addr} {G0 H0 G H : Hp} {most : Nat} {Q : VK} {E : XK} (h : At d G0 H0 G H) (m1 : 1 ≤ most) (m2 : most ≤ 20)
    (k : ∀ (G1 H1 : Hp) (v : V) (x : Pl), At d G0 H0 G1 H1 → At d G H G1 H1 → x.Ok → x.shelf.length ≤ 8 → Dp K G1 v x.D → x.p.length ≤ most → x.q.length ≤ most → Q v H1) : spPlan K [.ref d, .int most] H Q E :=
  ⟨⟨d, G, most, rfl, m1, m2, h.now, fun G' H' v A ⟨ss, o, o8, D, l1, l2⟩ => k G' H' v ss (h.trans A) A o o8 D l1 l2⟩⟩
section
variable {P : Program} {w : World} {K : PySem.W.Frag} {mg : Str → Option Value} {base : Heap} {a : Ad}
theorem ok_l_plan (T : Txt K mg a) : FnOk P w K mg base CX0 3 a.f_l_plan a.d_l_plan ["_law_d", "_law_most"] (spPlan K) := by
  refine T.F_l_plan.ok sc_l_plan (fun vs H Q E h => ?_) (fun cdv A outer s H vs Q E hr h => ?_)
  · obtain ⟨⟨d, G, m, rfl, _⟩⟩ := h
    rfl
  · obtain ⟨⟨d, G, most, rfl, m1, m20, hN, k⟩⟩ := h
    refine ⟨_, (pss_cons (ps_set (i := 2) sc_l_plan.nd rfl (Or.inl rfl) (pe_op op_add pe_int (pe_call (ok_l_below T) (hr.mono (by decide)) rfl T.m_l_below T.F_l_below.kp (b_l_below T) .nil pass0 (pa_cons (pv 0) (pa_cons (pe_ix ix_list (pe_lst (pa_cons pe_int (pa_cons pe_int pa_nil))) (pe_call (ok_l_below T) (hr.mono (by decide)) rfl T.m_l_below T.F_l_below.kp (b_l_below T) .nil pass0 (pa_cons (pv 0) (pa_cons pe_int pa_nil))) (fun _ _ => rfl)) pa_nil)))))
      (pss_cons (ps_set (i := 3) sc_l_plan.nd rfl (Or.inl rfl) (pe_call (ok_l_below T) (hr.mono (by decide)) rfl T.m_l_below T.F_l_below.kp (b_l_below T) .nil pass0 (pa_cons (pv 0) (pa_cons (pv 2) pa_nil))))
      (pss_cons (ps_set (i := 4) sc_l_plan.nd rfl (Or.inl rfl) (pe_op op_mod (pe_op op_add (pe_op op_add (pv 3) pe_int) (pe_call (ok_l_below T) (hr.mono (by decide)) rfl T.m_l_below T.F_l_below.kp (b_l_below T) .nil pass0 (pa_cons (pv 0) (pa_cons (pe_op op_sub (pv 2) pe_int) pa_nil)))) (pv 2)))
      (pss_cons (ps_set (i := 5) sc_l_plan.nd rfl (Or.inl rfl) (pe_callTy call_tuple_of (by rfl) T.z_tuple (by decide +kernel) (pa_cons (pe_lc (own := [("_law_k", 6)]) (g := gName 6) (tt := tYes) rfl sc_l_plan.nd (pi_range1 (by rfl) T.z_range (pa_cons (pv 2) pa_nil)) (blkOk_by (own := [("_law_k", 6)]) (N := ["_law_d", "_law_most", "_law_many_cells", "_law_first", "_law_second", "_law_shelf", "_law_k"]) (sc := (defScope s_l_plan)) (by decide +kernel)) (fun _ _ _ _ _ => (pg_name (i := 6) sc_l_plan.nd rfl (Or.inl rfl))) (fun _ _ _ _ _ => pts_nil) (fun _ _ _ _ _ => by exact (pe_call (ok_l_below T) (hr.mono (by decide)) rfl T.m_l_below T.F_l_below.kp (b_l_below T) .nil pass0 (pa_cons (pv 0) (pa_cons pe_int pa_nil))))) pa_nil)))
      (pss_one (ps_ret (pe_tup (pa_cons (pv 5) (pa_cons (pe_tup (pa_cons (pv 3) (pa_cons (pv 4) pa_nil))) (pa_cons (pe_lst (pa_cons (pe_call (ok_l_steps T) (hr.mono (by decide)) rfl T.m_l_steps T.F_l_steps.kp (b_l_steps T) .nil pass0 (pa_cons (pv 0) (pa_cons (pv 1) pa_nil))) (pa_cons (pe_call (ok_l_steps T) (hr.mono (by decide)) rfl T.m_l_steps T.F_l_steps.kp (b_l_steps T) .nil pass0 (pa_cons (pv 0) (pa_cons (pv 1) pa_nil))) pa_nil))) pa_nil)))))))))), ?_⟩
    refine ⟨_, rfl, (by show 2 ≤ sizeLine; decide), fun q hq => ?_⟩
    have A1 := hN.at.new hq (.lst [.int 3, .int 6])
    refine ⟨_, rfl, draw_go A1 (by decide) (by decide) fun H2 m A2 K2 hm => ?_⟩
    obtain ⟨lim, hlim, l1, l6⟩ : ∃ lim : Nat, ([V.int 3, V.int 6] : List V)[m]? = some (.int lim) ∧ 0 < lim ∧ lim ≤ 6 := by
      match m, hm with
      | 0, _ => exact ⟨3, rfl, by decide, by decide⟩
      | 1, _ => exact ⟨6, rfl, by decide, by decide⟩
      | m + 2, h => exact absurd h (by omega)
    refine ⟨q, _, _, .int lim, rfl, rfl, A2.now.s.seq (SqL.of upd_same), atI_nat hlim, draw_go A2 (by omega) (by omega) fun H3 i A3 K3 hi => ?_⟩
    refine ⟨_, _, rfl, rfl, ?_⟩
    -- first
    refine ⟨_, rfl, _, rfl, draw_go A3 (by omega) (by omega) fun H4 f A4 K4 hf => ?_⟩
    -- second
    refine ⟨_, rfl, _, _, rfl, rfl, _, rfl, _, rfl, _, _, rfl, rfl, draw_go A4 (by omega) (by omega) fun H5 t A5 K5 ht => ?_⟩
    refine ⟨_, _, rfl, rfl, _, rfl, _, _, rfl, rfl, (by show (0 : Int) < 3 + (i : Int); omega), ?_⟩
    dsimp only
    rw [other_eq f t i]
    have hb : (f + 1 + t) % (3 + i) < 3 + i := Nat.mod_lt _ (by omega)
    have hne : f ≠ (f + 1 + t) % (3 + i) := (other_ne (by omega) (by omega)).symm
    generalize (f + 1 + t) % (3 + i) = b at hb hne ⊢
    -- the shelf
    refine ⟨_, rfl, _, rfl, by omega, by omega, fun D hD => ?_⟩
    have D0 : H D = none := A5.ext.k D hD
    have Dd : D ≠ d := A5.ne hD
    have DG := A5.ext.new_out hD
    refine lc_range (lo := 0) (n := (3 + (i : Int)).toNat) (fun j H' => ∃ l : List Nat, At d G H (upd G q (.lst [.int 3, .int 6])) H' ∧ H' D = some (.lst (l.map fun n : Nat => V.int n)) ∧ l.length = j ∧ ∀ n ∈ l, n ≤ 3) ⟨[], A5.lay hD _, upd_same, rfl, fun _ h => nomatch h⟩ ?_ ?_
    · rintro j H' hj ⟨l, B, hl, hlj, h3⟩
      refine ⟨rfl, _, rfl, draw_go B (by decide) (by decide) fun H6 x B1 K1 hx => ?_⟩
      refine ⟨_, (by rw [K1 D Dd]; exact hl), smaller 9 (by rw [List.length_map]; omega) (by decide), l ++ [x], B1.put D0 DG Dd _, ?_, ?_, ?_⟩
      · rw [upd_same, List.map_append]; rfl
      · rw [List.length_append, hlj]; rfl
      · intro n hn
        rcases List.mem_append.mp hn with h | h
        · exact h3 n h
        · rw [List.mem_singleton.mp h]; omega
    · rintro H6 ⟨l, B, hl, hlj, h3⟩
      refine ⟨D, _, rfl, .inl ⟨SqL.of hl, fun u hu => ?_⟩⟩
      have B1 := B.new hu (.tup (l.map fun n : Nat => V.int n))
      have s1 : SqT K (upd (upd G q (.lst [.int 3, .int 6])) u (.tup (l.map fun n : Nat => V.int n))) u (l.map fun n : Nat => V.int n) := SqT.of upd_same
      -- the plan
      refine ⟨_, rfl, _, rfl, _, rfl, (by show 2 ≤ sizeLine; decide), fun st hst => ?_⟩
      have B2 := B1.new hst (.tup [.int f, .int b])
      refine ⟨_, rfl, _, rfl, draw_steps B2 m1 m20 fun G7 H7 v1 ss1 B7 B7' o1 D1 le1 => ?_⟩
      refine ⟨_, rfl, _, rfl, draw_steps B7 m1 m20 fun G8 H8 v2 ss2 B8 B8' o2 D2 le2 => ?_⟩
      refine ⟨(by show 2 ≤ sizeLine; decide), fun r hr' => ?_⟩
      have B9 := B8.new hr' (.lst [v1, v2])
      refine ⟨(by show 3 ≤ sizeLine; decide), fun z hz => ?_⟩
      have B10 := B9.new hz (.tup [.ref u, .ref st, .ref r])
      have n1 := same_new (H := G8) (p := r) (o := .lst [v1, v2]) (B8.ext.new_out hr')
      have n2 := same_new (H := upd G8 r (.lst [v1, v2])) (p := z) (o := .tup [.ref u, .ref st, .ref r]) (B9.ext.new_out hz)
      have g8 : Same _ G8 := B7'.g.trans B8'.g
      refine k _ _ _ B10 ⟨⟨l, f, b, ss1, ss2⟩, ⟨?_, ?_, h3, ?_, ?_, hne, o1, o2⟩, ?_, ?_, le1, le2⟩
      · show 3 ≤ l.length; omega
      · show l.length ≤ 12; omega
      · show f < l.length; omega
      · show b < l.length; omega
      · show l.length ≤ 8; omega
      · refine .tup (SqT.of upd_same) (.cons (.tup ?_ (nats_D _ _ l)) (.cons (.tup ?_ (.cons (.int _) (.cons (.int _) .nil))) (.cons (.lst (xs := [v1, v2]) ?_ (.cons ?_ (.cons ?_ .nil))) .nil)))
        · exact Same.seqT ((g8.trans n1).trans n2) (Same.seqT (same_new (B1.ext.new_out hst)) s1)
        · exact Same.seqT ((g8.trans n1).trans n2) (SqT.of upd_same)
        · exact n2.seq (SqL.of upd_same)
        · exact Dp.mono ((B8'.g.trans n1).trans n2) _ _ D1
        · exact Dp.mono (n1.trans n2) _ _ D2
end
end Sb

namespace Sb
open PySem PySem.Spec PyProof.Rows L2 TL
theorem Ext.ofSame {G H H' : Hp} (s : Same G H) (h : Same H H') : Ext G H G H' := ⟨Same.refl G, s.trans h, fun _ _ e => .inl e, fun _ e => Same.free h e⟩
theorem log_ok {n : Nat} (h : n < 100) : ((n : Int)).natAbs.log2 < 1920 := by
  have e : ((n : Int)).natAbs = n := rfl
  have := Nat.log2_le_self n
  rw [e]
  omega
theorem at_n {α : Type} {xs : List α} {z : Int} {j : Nat} {v : α} (e : z = (j : Int)) (h : xs[j]? = some v) : atI xs z = some v := by
  rw [e]
  exact atI_nat h
theorem len1s (c : Nat) : (⟨#[c]⟩ : Str).length = 1 := rfl
theorem e_s : (Str.ofString "s").length = 1 := by decide +kernel
theorem e_cs : (Str.ofString ": ").length = 2 := by decide +kernel
theorem e_ss : (Str.ofString " s").length = 2 := by decide +kernel
theorem e_2 : (Str.ofString "  ").length = 2 := by decide +kernel
theorem addS {x y : Str} (m : Nat) (h : x.length + y.length ≤ m) (hm : m ≤ 16777216 := by decide) : x.length + y.length ≤ sizeLine := small m h hm
structure spLText (K : PySem.W.Frag) (vs : List V) (H : Hp) (Q : VK) (E : XK) : Prop where
  ex : ∃ (G : Hp) (v : V) (x : Pl), vs = [v] ∧ Same G H ∧ Dp K G v x.D ∧ x.Ok ∧ ∀ H', Same H H' → Q (.str (textS x)) H'
/-- the two robots, by number -/
def Pl.st (x : Pl) (i : Nat) : Nat := if i = 0 then x.a else x.b
def Pl.ss (x : Pl) (i : Nat) : List Step := if i = 0 then x.p else x.q
def Pl.robs (x : Pl) : Nat → List (List Nat)
  | 0 => []
  | i + 1 => Pl.robs x i ++ robotL (x.st i) (x.ss i)
theorem Pl.robs2 (x : Pl) : shelfL x.shelf :: x.robs 2 = linesL x := rfl
theorem sum_len : ∀ (l : List Str) (m : Nat), (∀ p ∈ l, p.length ≤ m) → (l.map (·.length)).sum ≤ l.length * m
  | [], _, _ => by simp
  | x :: r, m, h => by
    have h1 := h x (by simp)
    have ih := sum_len r m (fun p hp => h p (by simp [hp]))
    rw [List.map_cons, List.sum_cons, List.length_cons, Nat.add_mul, Nat.one_mul]
    omega
theorem len_of_map {l : List Str} {m : List (List Nat)} (h : l.map tl = m) : l.length = m.length := by rw [← h, List.length_map]
theorem mem_len {l : List Str} {m : List (List Nat)} {k : Nat} (h : l.map tl = m) (hm : ∀ p ∈ m, p.length ≤ k) : ∀ p ∈ l, p.length ≤ k := fun p hp => by
  rw [len_tl]
  exact hm (tl p) (by rw [← h]; exact List.mem_map.mpr ⟨p, hp, rfl⟩)
theorem robs_len {x : Pl} (h : x.Ok) : ∀ {i : Nat}, i ≤ 2 → (x.robs i).length ≤ 22 * i
  | 0, _ => by simp [Pl.robs]
  | i + 1, hi => by
    have ih := robs_len h (i := i) (by omega)
    show (x.robs i ++ robotL (x.st i) (x.ss i)).length ≤ _
    rw [List.length_append, robotL_len]
    have : (x.ss i).length ≤ 20 := by unfold Pl.ss; split; exact h.p.le; exact h.q.le
    omega
theorem join_txt {y : Str} {parts : List Str} {S : List Nat} {ps : List (List Nat)} (hy : tl y = S) (hp : parts.map tl = ps) : tl (Txt.join y parts) = joinL S ps := by
  rw [join_eq, tl_join, hy, hp]
/-- a plan's data, taken apart -/
theorem plan_inv {K : PySem.W.Frag} {G : Hp} {v : V} {x : Pl} (h : Dp K G v x.D) : ∃ t sh st bo l1 l2 xs1 xs2, v = .ref t ∧ SqT K G t [.ref sh, .ref st, .ref bo] ∧ SqT K G sh (x.shelf.map fun n : Nat => V.int n) ∧ SqT K G st [.int x.a, .int x.b] ∧
    SqL K G bo [.ref l1, .ref l2] ∧ SqL K G l1 xs1 ∧ SqL K G l2 xs2 ∧ DpAll K G xs1 (x.p.map Step.D) ∧ DpAll K G xs2 (x.q.map Step.D) := by
  obtain ⟨t, xs, rfl, ht, hx⟩ := Dp.tup_inv h
  obtain ⟨v1, r, rfl, h1, hx⟩ := DpAll.cons_inv hx
  obtain ⟨v2, r, rfl, h2, hx⟩ := DpAll.cons_inv hx
  obtain ⟨v3, r, rfl, h3, hx⟩ := DpAll.cons_inv hx
  cases DpAll.nil_inv hx
  obtain ⟨sh, ys, rfl, hsh, hy⟩ := Dp.tup_inv h1
  obtain ⟨st, zs, rfl, hst, hz⟩ := Dp.tup_inv h2
  obtain ⟨z1, r, rfl, e1, hz⟩ := DpAll.cons_inv hz
  obtain ⟨z2, r, rfl, e2, hz⟩ := DpAll.cons_inv hz
  cases DpAll.nil_inv hz
  obtain ⟨bo, ws, rfl, hbo, hw⟩ := Dp.lst_inv h3
  obtain ⟨b1, r, rfl, f1, hw⟩ := DpAll.cons_inv hw
  obtain ⟨b2, r, rfl, f2, hw⟩ := DpAll.cons_inv hw
  cases DpAll.nil_inv hw
  obtain ⟨l1, xs1, rfl, hl1, hx1⟩ := Dp.lst_inv f1
  obtain ⟨l2, xs2, rfl, hl2, hx2⟩ := Dp.lst_inv f2
  have e1' := Dp.int_inv e1
  have e2' := Dp.int_inv e2
  subst e1' e2'
  have ey : ys = x.shelf.map fun n : Nat => V.int n := by
    have : ∀ (l : List Nat) (ys : List V), DpAll K G ys (l.map natD) → ys = l.map fun n : Nat => V.int n := by
      intro l
      induction l with
      | nil => intro ys h; exact DpAll.nil_inv h
      | cons n l ih =>
        intro ys h
        obtain ⟨v, r, rfl, a, b⟩ := DpAll.cons_inv h
        rw [Dp.int_inv a, ih r b]
        rfl
    exact this _ _ hy
  subst ey
  exact ⟨t, sh, st, bo, l1, l2, xs1, xs2, rfl, ht, hsh, hst, hbo, hl1, hl2, hx1, hx2⟩
/-- a step's data -/
theorem step_inv {K : PySem.W.Frag} {G : Hp} {v : V} {s : Step} (h : Dp K G v s.D) : ∃ t g, v = .ref t ∧ SqT K G t [.str (wS s.w), g] ∧ ((s.g = none ∧ g = .non) ∨ ∃ k : Nat, s.g = some k ∧ g = .int k) := by
  obtain ⟨t, xs, rfl, ht, hx⟩ := Dp.tup_inv h
  obtain ⟨v1, r, rfl, h1, hx⟩ := DpAll.cons_inv hx
  obtain ⟨v2, r, rfl, h2, hx⟩ := DpAll.cons_inv hx
  cases DpAll.nil_inv hx
  have e1 := Dp.str_inv h1
  subst e1
  refine ⟨t, v2, rfl, ht, ?_⟩
  cases hg : s.g with
  | none =>
    rw [hg] at h2
    exact .inl ⟨rfl, Dp.none_inv h2⟩
  | some k =>
    rw [hg] at h2
    exact .inr ⟨k, rfl, Dp.int_inv h2⟩
theorem goals_take {ss : List Step} {i : Nat} {s : Step} (h : ss[i]? = some s) : goalsOf (ss.take (i + 1)) = goalsOf (ss.take i) ++ (match s.g with | none => [] | some k => [k]) := by
  unfold goalsOf
  rw [take_more h, List.filterMap_append]
  congr 1
  cases hg : s.g <;> simp [hg]
section
variable {P : Program} {w : World} {K : PySem.W.Frag} {mg : Str → Option Value} {base : Heap} {a : Ad}
theorem ok_l_text (T : Txt K mg a) : FnOk P w K mg base CX0 1 a.f_l_text a.d_l_text ["_law_plan_here"] (spLText K) := by
  refine T.F_l_text.ok sc_l_text (fun vs H Q E h => ?_) (fun cdv A outer s H vs Q E hr h => ?_)
  · obtain ⟨⟨G, v, x, rfl, _⟩⟩ := h
    rfl
  · obtain ⟨⟨G, v, x, rfl, hGH, hD, hx, k⟩⟩ := h
    obtain ⟨t, sh, st, bo, l1, l2, xs1, xs2, rfl, ht, hsh, hst, hbo, hl1, hl2, hx1, hx2⟩ := plan_inv hD
    refine ⟨_, (pss_cons (ps_asg (pv 0) (pg_tup (by rfl) (pgs_cons (pg_name (i := 1) sc_l_text.nd rfl (Or.inl rfl)) (pgs_cons (pg_name (i := 2) sc_l_text.nd rfl (Or.inl rfl)) (pgs_cons (pg_name (i := 3) sc_l_text.nd rfl (Or.inl rfl)) pgs_nil)))))
      (pss_cons (ps_set (i := 4) sc_l_text.nd rfl (Or.inl rfl) (pe_lst (pa_cons (pe_op op_add_str (pe_op op_add_str pe_str (pe_join pe_str (pe_lc (own := [("_law_pieces", 5)]) (g := gName 5) (tt := tYes) rfl sc_l_text.nd (pi_tup (pv 1)) (blkOk_by (own := [("_law_pieces", 5)]) (N := ["_law_plan_here", "_law_shelf", "_law_starts", "_law_both", "_law_lines", "_law_pieces", "_law_number", "_law_goals", "_law_word", "_law_goal", "_law_k", "_law_mark", "_law_target"]) (sc := (defScope s_l_text)) (by decide +kernel)) (fun _ _ _ _ _ => (pg_name (i := 5) sc_l_text.nd rfl (Or.inl rfl))) (fun _ _ _ _ _ => pts_nil) (fun _ _ _ _ _ => by exact (pe_callTy call_str_int (by rfl) T.z_str (by decide +kernel) (pa_cons (pv 5) pa_nil)))))) pe_str) pa_nil)))
      (pss_cons (ps_for PassesOwn.never rfl (pi_range1 (by rfl) T.z_range (pa_cons pe_int pa_nil)) (pg_name (i := 6) sc_l_text.nd rfl (Or.inl rfl)) (pss_cons (ps_expr (pe_bm PySem.F.plainAttrs_list PySem.F.slot_list_append PySem.F.type_list_append mt_append (pv 4) (pa_cons (pe_op op_add_str (pe_op op_add_str pe_str (pe_callTy call_str_int (by rfl) T.z_str (by decide +kernel) (pa_cons (pe_ix ix_tup (pv 2) (pv 6) (fun _ _ => rfl)) pa_nil))) pe_str) pa_nil)))
      (pss_cons (ps_setLc (i := 7) (own := [("_law_word", 8), ("_law_goal", 9)]) (g := gTup K 2 (gCons (gName 8) (gCons (gName 9) gNil))) rfl sc_l_text.nd rfl rfl (sw_true rfl rfl rfl (by decide +kernel)) (pi_list (pe_ix ix_list (pv 3) (pv 6) (fun _ _ => rfl))) (blkOk_by (own := [("_law_word", 8), ("_law_goal", 9)]) (N := ["_law_plan_here", "_law_shelf", "_law_starts", "_law_both", "_law_lines", "_law_pieces", "_law_number", "_law_goals", "_law_word", "_law_goal", "_law_k", "_law_mark", "_law_target"]) (sc := (defScope s_l_text)) (by decide +kernel)) (fun _ _ _ _ _ => (pg_tup (by rfl) (pgs_cons (pg_name (i := 8) sc_l_text.nd rfl (Or.inl rfl)) (pgs_cons (pg_name (i := 9) sc_l_text.nd rfl (Or.inl rfl)) pgs_nil)))) (fun _ _ _ _ _ => by exact pts_one (pt_cmpR op_notN (pv 9) pe_non (nomark _))) (fun _ _ _ _ _ => by exact (pv 9)))
      (pss_cons (ps_for PassesOwn.never rfl (pi_range1 (by rfl) T.z_range (pa_cons (pe_callB call_len_seq (by rfl) T.z_len (by decide +kernel) (pa_cons (pe_ix ix_list (pv 3) (pv 6) (fun _ _ => rfl)) pa_nil)) pa_nil)) (pg_name (i := 10) sc_l_text.nd rfl (Or.inl rfl)) (pss_cons (ps_asg (pe_ix ix_list (pe_ix ix_list (pv 3) (pv 6) (fun _ _ => rfl)) (pv 10) (fun _ _ => rfl)) (pg_tup (by rfl) (pgs_cons (pg_name (i := 8) sc_l_text.nd rfl (Or.inl rfl)) (pgs_cons (pg_name (i := 9) sc_l_text.nd rfl (Or.inl rfl)) pgs_nil))))
      (pss_cons (ps_set (i := 11) sc_l_text.nd rfl (Or.inl rfl) (pe_ifExp (pt_cmpR op_in_seq (pv 10) (pv 7) rfl) (pe_op op_add_str (pe_op op_add_str pe_str (pe_ix ix_str pe_str (pv 10) (fun _ _ => rfl))) pe_str) pe_str))
      (pss_cons (ps_set (i := 12) sc_l_text.nd rfl (Or.inl rfl) (pe_ifExp (pt_cmpR op_notN (pv 9) pe_non (nomark _)) (pe_op op_add_str pe_str (pe_ix ix_str pe_str (pv 9) (fun _ _ => rfl))) pe_str))
      (pss_one (ps_expr (pe_bm PySem.F.plainAttrs_list PySem.F.slot_list_append PySem.F.type_list_append mt_append (pv 4) (pa_cons (pe_op op_add_str (pe_op op_add_str (pe_op op_add_str (pe_op op_add_str pe_str (pv 11)) (pv 8)) (pv 12)) pe_str) pa_nil))))))))
      (pss_one (ps_expr (pe_bm PySem.F.plainAttrs_list PySem.F.slot_list_append PySem.F.type_list_append mt_append (pv 4) (pa_cons pe_str pa_nil))))))))
      (pss_one (ps_ret (pe_join pe_str (pv 4))))))), ?_⟩
    refine ⟨_, rfl, t, _, rfl, Same.seqT hGH ht, rfl, _, _, rfl, _, _, rfl, _, _, rfl, rfl, ?_⟩
    -- the shelf's line
    refine ⟨⟨_, rfl⟩, _, rfl, sh, rfl, ⟨_, Same.seqT hGH hsh⟩, fun D hD => ?_⟩
    refine lc_tup (K := K) (a := sh) (xs := x.shelf.map fun n : Nat => V.int n) (fun j H' => ∃ ls : List Str, Same H H' ∧ H' D = some (.lst (ls.map V.str)) ∧ ls.map tl = (x.shelf.take j).map numL) ⟨[], same_new hD, upd_same, rfl⟩ (fun j H' _ ⟨ls, s1, _⟩ => Same.seqT (hGH.trans s1) hsh) ?_ ?_
    · rintro j y H' hy ⟨ls, s1, h1, h2⟩
      obtain ⟨n, hn, rfl⟩ : ∃ n : Nat, x.shelf[j]? = some n ∧ y = V.int n := by
        rw [List.getElem?_map] at hy
        cases e : x.shelf[j]? with
        | none => rw [e] at hy; cases hy
        | some z => rw [e] at hy; exact ⟨z, rfl, (Option.some.inj hy).symm⟩
      have hj : j < x.shelf.length := (List.getElem?_eq_some_iff.mp hn).1
      have hn3 : n ≤ 3 := hx.b3 n (List.mem_of_getElem? hn)
      have h12 := hx.c12
      refine ⟨rfl, _, rfl, _, rfl, log_ok (by omega), _, h1, smaller 12 (by rw [List.length_map, len_of_map h2, List.length_map, List.length_take]; omega) (by decide), ls ++ [Str.ofString (toString ((n : Nat) : Int))], same_put s1 hD, ?_, ?_⟩
      · rw [upd_same, List.map_append]; rfl
      · rw [List.map_append, h2, take_more hn, List.map_append]
        show _ ++ [tl (Str.ofString (toString ((n : Nat) : Int)))] = _
        rw [tl_num]
        rfl
    rintro H1 ⟨ls0, s1, h1, h2⟩
    rw [List.length_map, List.take_length] at h2
    have ml : ∀ p ∈ ls0, p.length ≤ 2 := mem_len h2 (fun p hp => by
      obtain ⟨n, hn, rfl⟩ := List.mem_map.mp hp
      exact num_len (by have := hx.b3 n hn; omega))
    have ll : ls0.length ≤ 12 := by rw [len_of_map h2, List.length_map]; exact hx.c12
    have jl : (Txt.join (Str.ofString " ") ls0).length ≤ 36 := by
      rw [len_tl, join_txt t_sp h2]
      refine Nat.le_trans (joinL_len [32] 2 _ (fun p hp => ?_)) ?_
      · obtain ⟨n, hn, rfl⟩ := List.mem_map.mp hp
        exact num_len (by have := hx.b3 n hn; omega)
      · rw [List.length_map]
        have := hx.c12
        show _ * 3 ≤ 36
        omega
    have e6 : (Str.ofString "shelf ").length = 6 := by decide +kernel
    have e1s : (Str.ofString " ").length = 1 := by decide +kernel
    have e1 : (Str.ofString ";").length = 1 := by decide +kernel
    refine ⟨_, D, ls0, rfl, rfl, .inl (SqL.of h1), ?_, _, _, rfl, rfl, addS 42 (by rw [e6]; omega), _, _, rfl, rfl, addS 43 (by rw [len_app, e6, e1]; omega), (by show 1 ≤ sizeLine; decide), fun l hl => ?_⟩
    · have := sum_len ls0 2 ml
      rw [e1s]
      omega
    have l0 : H l = none := Same.free s1 hl
    have sl : tl (Str.ofString "shelf " ++ Txt.join (Str.ofString " ") ls0 ++ Str.ofString ";") = shelfL x.shelf := by
      rw [tl_append, tl_append, t_sh, t_sc, join_txt t_sp h2]
      rfl
    revert sl
    generalize (Str.ofString "shelf " ++ Txt.join (Str.ofString " ") ls0 ++ Str.ofString ";") = first
    intro sl
    -- the robots
    refine ⟨2, rfl, by decide, by decide, for_range (lo := 0) (n := 2) (fun i σ H' => ∃ (ls : List Str) (v5 v6 v7 v8 v9 v10 v11 v12 : Option V), σ = [some (.ref t), some (.ref sh), some (.ref st), some (.ref bo), some (.ref l), v5, v6, v7, v8, v9, v10, v11, v12] ∧
      Same H H' ∧ H' l = some (.lst (ls.map V.str)) ∧ ls.map tl = shelfL x.shelf :: x.robs i) ?_ ?_ ?_⟩
    · exact ⟨[first], none, none, none, none, none, none, none, none, rfl, s1.trans (same_new hl), upd_same, by show [tl first] = _; rw [sl]; rfl⟩
    · rintro i σ H2 hi ⟨ls, v5, v6, v7, v8, v9, v10, v11, v12, rfl, s2, hl2', hls⟩
      have hn : x.st i < 12 := by unfold Pl.st; have := hx.ha; have := hx.hb; have := hx.c12; split <;> omega
      have sti : ([V.int x.a, V.int x.b] : List V)[i]? = some (.int (x.st i)) := by
        match i, hi with
        | 0, _ => rfl
        | 1, _ => rfl
        | i + 2, h => exact absurd h (by omega)
      obtain ⟨li, xsi, hli, hsi, hdi⟩ : ∃ li xsi, ([V.ref l1, V.ref l2] : List V)[i]? = some (.ref li) ∧ SqL K G li xsi ∧ DpAll K G xsi ((x.ss i).map Step.D) := by
        match i, hi with
        | 0, _ => exact ⟨l1, xs1, rfl, hl1, hx1⟩
        | 1, _ => exact ⟨l2, xs2, rfl, hl2, hx2⟩
        | i + 2, h => exact absurd h (by omega)
      have hso : StepsOk (x.ss i) := by unfold Pl.ss; split; exact hx.p; exact hx.q
      have hsl := hso.le
      have hlen : ls.length ≤ 23 := by rw [len_of_map hls, List.length_cons]; have := robs_len hx (i := i) (by omega); omega
      have nl := numS_len (n := x.st i) (by omega)
      have e6r : (Str.ofString "robot ").length = 6 := by decide +kernel
      have e2r : (Str.ofString " {").length = 2 := by decide +kernel
      refine ⟨_, rfl, .inl ⟨rfl, _, SqL.of hl2'⟩, _, rfl, _, rfl, st, _, _, .int (x.st i), rfl, rfl, Same.seqT (hGH.trans s2) hst, at_of (j := i) (by omega) sti, _, rfl, log_ok (by omega), _, _, rfl, rfl, addS 8 (by rw [e6r]; omega), _, _, rfl, rfl, addS 10 (by rw [len_app, e6r, e2r]; omega), l, _, _, rfl, rfl, hl2', smaller 23 (by rw [List.length_map]; exact hlen) (by decide), ?_⟩
      have s3 : Same H (upd H2 l (.lst (ls.map V.str ++ [.str (Str.ofString "robot " ++ Str.ofString (toString ((x.st i : Nat) : Int)) ++ Str.ofString " {")]))) := same_put s2 l0
      have e3 : tl (Str.ofString "robot " ++ Str.ofString (toString ((x.st i : Nat) : Int)) ++ Str.ofString " {") = [114, 111, 98, 111, 116, 32] ++ numL (x.st i) ++ [32, 123] := by
        rw [tl_append, tl_append, t_rb, t_lb, tl_num]
      revert s3 e3
      generalize (Str.ofString "robot " ++ Str.ofString (toString ((x.st i : Nat) : Int)) ++ Str.ofString " {") = hd2
      intro s3 e3
      have h3 : (upd H2 l (.lst (ls.map V.str ++ [.str hd2]))) l = some (.lst ((ls ++ [hd2]).map V.str)) := by rw [upd_same, List.map_append]; rfl
      have hls3 : (ls ++ [hd2]).map tl = shelfL x.shelf :: x.robs i ++ [[114, 111, 98, 111, 116, 32] ++ numL (x.st i) ++ [32, 123]] := by
        rw [List.map_append, hls]
        show _ ++ [tl hd2] = _
        rw [e3]
      revert s3 h3
      generalize upd H2 l (.lst (ls.map V.str ++ [.str hd2])) = H3
      intro s3 h3
      -- the goals
      refine ⟨_, rfl, _, rfl, bo, _, _, .ref li, rfl, rfl, (hGH.trans s3).seq hbo, at_of (j := i) (by omega) hli, li, rfl, ⟨_, (hGH.trans s3).seq hsi⟩, fun D2 hD2 => ?_⟩
      have D20 : H D2 = none := Same.free s3 hD2
      have D2l : l ≠ D2 := ne_of_none h3 hD2
      refine lc_list (K := K) (a := li) (xs := xsi) (fun j H' => Same H H' ∧ H' l = some (.lst ((ls ++ [hd2]).map V.str)) ∧ H' D2 = some (.lst ((goalsOf ((x.ss i).take j)).map fun n : Nat => V.int n))) ⟨s3.trans (same_new hD2), by rw [upd_ne D2l]; exact h3, upd_same⟩ (fun j H' _ ⟨s4, _⟩ => (hGH.trans s4).seq hsi) ?_ ?_
      · rintro j y H' hy ⟨s4, h4, h5⟩
        obtain ⟨dd, hdd, hDd⟩ := DpAll.get hdi hy
        rw [List.getElem?_map] at hdd
        obtain ⟨sj, hsj, rfl⟩ : ∃ sj, (x.ss i)[j]? = some sj ∧ dd = sj.D := by
          cases e : (x.ss i)[j]? with
          | none => rw [e] at hdd; cases hdd
          | some z => rw [e] at hdd; exact ⟨z, rfl, (Option.some.inj hdd).symm⟩
        have hj : j < (x.ss i).length := (List.getElem?_eq_some_iff.mp hsj).1
        have gt := goals_take hsj
        have gl : (goalsOf ((x.ss i).take j)).length ≤ 20 := by
          have h1 : (goalsOf ((x.ss i).take j)).length ≤ ((x.ss i).take j).length := List.length_filterMap_le _ _
          rw [List.length_take] at h1
          omega
        obtain ⟨tt, g, rfl, htt, hg⟩ := step_inv hDd
        refine ⟨tt, _, rfl, Same.seqT (hGH.trans s4) htt, rfl, _, _, rfl, _, _, rfl, rfl, rfl, _, rfl, rfl, _, rfl, ?_⟩
        rcases hg with ⟨hg, rfl⟩ | ⟨kk, hg, rfl⟩
        · refine ite_f rfl ⟨s4, h4, ?_⟩
          rw [gt, hg, List.append_nil]
          exact h5
        · refine ite_t rfl ⟨_, rfl, _, h5, smaller 20 (by rw [List.length_map]; exact gl) (by decide), same_put s4 D20, by rw [upd_ne D2l]; exact h4, ?_⟩
          rw [upd_same, gt, hg, List.map_append]
          rfl
      rintro H4 ⟨s4, h4, h5⟩
      have exs : xsi.length = (x.ss i).length := by rw [DpAll.len hdi, List.length_map]
      rw [exs, List.take_length] at h5
      -- the steps
      refine ⟨_, rfl, _, rfl, bo, _, _, .ref li, rfl, rfl, (hGH.trans s4).seq hbo, at_of (j := i) (by omega) hli, li, _, rfl, .inl ((hGH.trans s4).seq hsi), _, rfl, by omega, by omega, for_range (lo := 0) (n := ((xsi.length : Nat) : Int).toNat) (fun j σ H' => ∃ (ls' : List Str) (v8 v9 v10 v11 v12 : Option V), σ = [some (.ref t), some (.ref sh), some (.ref st), some (.ref bo), some (.ref l), v5, some (.int (0 + (i : Int))), some (.ref D2), v8, v9, v10, v11, v12] ∧
        Same H H' ∧ H' D2 = some (.lst ((goalsOf (x.ss i)).map fun n : Nat => V.int n)) ∧ H' l = some (.lst (ls'.map V.str)) ∧ ls'.map tl = (shelfL x.shelf :: x.robs i ++ [[114, 111, 98, 111, 116, 32] ++ numL (x.st i) ++ [32, 123]]) ++ stepsL (goalsOf (x.ss i)) 0 ((x.ss i).take j)) ?_ ?_ ?_⟩
      · exact ⟨ls ++ [hd2], _, _, _, _, _, rfl, s4, h5, h4, by rw [hls3]; simp [stepsL]⟩
      · rintro j σ H5 hj ⟨ls', v8, v9, v10, v11, v12, rfl, s5, h6, h7, h8⟩
        have hj' : j < (x.ss i).length := by omega
        obtain ⟨sj, hsj⟩ : ∃ sj, (x.ss i)[j]? = some sj := ⟨_, List.getElem?_eq_getElem hj'⟩
        have hokj : Step.Ok (x.ss i).length sj := hso.all sj (List.mem_of_getElem? hsj)
        obtain ⟨y, hy, hDy⟩ := DpAll.at hdi (i := j) (d := sj.D) (by rw [List.getElem?_map, hsj]; rfl)
        obtain ⟨tt, g, rfl, htt, hg⟩ := step_inv hDy
        have hl8 : ls'.length ≤ 45 := by
          rw [len_of_map h8]
          simp only [List.length_append, List.length_cons, List.length_nil, stepsL_len, List.length_take]
          have := robs_len hx (i := i) (by omega)
          omega
        refine ⟨_, rfl, _, rfl, bo, _, _, .ref li, rfl, rfl, (hGH.trans s5).seq hbo, at_of (j := i) (by omega) hli, _, rfl, li, _, _, .ref tt, rfl, rfl, (hGH.trans s5).seq hsi, at_of (j := j) (by omega) hy, tt, _, rfl, Same.seqT (hGH.trans s5) htt, rfl, _, _, rfl, _, _, rfl, rfl, ?_⟩
        dsimp only
        -- the mark
        refine seq_restσ (fun σ H' => ∃ m : Str, σ = [some (.ref t), some (.ref sh), some (.ref st), some (.ref bo), some (.ref l), v5, some (.int (0 + (i : Int))), some (.ref D2), some (.str (wS sj.w)), some g, some (.int (0 + (j : Int))), some (.str m), v12] ∧ H5 = H' ∧ m.length ≤ 4 ∧ tl m = if j ∈ goalsOf (x.ss i) then [115, 97 + j, 58, 32] else []) (fun σ H' hm => ?r1) (fun rest1 => ?m1)
        case m1 =>
          have ej : (0 + (j : Int)) = ((j : Nat) : Int) := by omega
          refine ⟨_, rfl, _, rfl, D2, _, rfl, .inl (SqL.of h6), rfl, nats_flat _, _, rfl, ?_⟩
          rw [if_neg Bool.false_ne_true, show inV (V.int (0 + (j : Int))) ((goalsOf (x.ss i)).map fun n : Nat => V.int n) = decide (j ∈ goalsOf (x.ss i)) from by rw [ej]; exact in_nats _ _]
          refine ite2 (fun c => ?_) (fun c => ?_)
          · have c' := of_decide_eq_true c
            refine ⟨_, rfl, abc, 0 + (j : Int), 97 + j, rfl, rfl, small 20 (by rw [abc_len]; exact Nat.le_refl _) (by decide), at_n (j := j) ej (abc_at (by omega)), _, _, rfl, rfl, addS 2 (by rw [e_s, len1s]; decide), _, _, rfl, rfl, addS 4 (by rw [len_app, e_s, len1s, e_cs]; decide), rest1 _ _ ⟨_, rfl, rfl, ?_, ?_⟩⟩
            · rw [len_app, len_app, e_s, len1s, e_cs]; decide
            · rw [if_pos c', tl_append, tl_append, t_s, t_cs]; rfl
          · refine rest1 _ _ ⟨_, rfl, rfl, by decide +kernel, ?_⟩
            rw [if_neg (fun q => c (decide_eq_true q)), t_e]
        obtain ⟨m, rfl, rfl, hm4, hm⟩ := hm
        -- the target
        refine seq_restσ (fun σ H' => ∃ m2 : Str, σ = [some (.ref t), some (.ref sh), some (.ref st), some (.ref bo), some (.ref l), v5, some (.int (0 + (i : Int))), some (.ref D2), some (.str (wS sj.w)), some g, some (.int (0 + (j : Int))), some (.str m), some (.str m2)] ∧ H5 = H' ∧ m2.length ≤ 3 ∧ tl m2 = (match sj.g with | none => [] | some g => [32, 115, 97 + g])) (fun σ H' hm2 => ?r2) (fun rest2 => ?m2)
        case m2 =>
          refine ⟨_, rfl, rfl, _, rfl, ?_⟩
          rcases hg with ⟨hg, rfl⟩ | ⟨kk, hg, rfl⟩
          · refine ite_f rfl (rest2 _ _ ⟨_, rfl, rfl, by decide +kernel, ?_⟩)
            rw [hg, t_e]
          · have hk : kk < (x.ss i).length := by
              have h5 : 5 ≤ sj.w := by
                by_cases h : sj.w < 5
                · rw [hokj.no h] at hg; cases hg
                · omega
              obtain ⟨k2, e2, h2⟩ := hokj.yes h5
              rw [hg] at e2
              cases e2
              exact h2
            refine ite_t rfl ⟨_, rfl, abc, (kk : Int), 97 + kk, rfl, rfl, small 20 (by rw [abc_len]; exact Nat.le_refl _) (by decide), atI_nat (abc_at (by omega)), _, _, rfl, rfl, addS 3 (by rw [e_ss, len1s]; decide), rest2 _ _ ⟨_, rfl, rfl, ?_, ?_⟩⟩
            · rw [len_app, e_ss, len1s]; decide
            · rw [hg, tl_append, t_ss]; rfl
        obtain ⟨m2, rfl, rfl, hm23, hm2⟩ := hm2
        -- the line
        have hw5 := wS_len hokj.w8
        refine ⟨_, rfl, .inl ⟨rfl, _, SqL.of h7⟩, _, rfl, _, _, rfl, rfl, addS 6 (by rw [e_2]; omega), _, rfl, _, _, rfl, rfl, addS 11 (by rw [len_app, e_2]; omega), _, rfl, _, _, rfl, rfl, addS 14 (by rw [len_app, len_app, e_2]; omega), _, _, rfl, rfl, addS 15 (by rw [len_app, len_app, len_app, e_2, e1]; omega), l, _, _, rfl, rfl, h7, smaller 45 (by rw [List.length_map]; exact hl8) (by decide), ?_⟩
        refine ⟨ls' ++ [Str.ofString "  " ++ m ++ wS sj.w ++ m2 ++ Str.ofString ";"], _, _, _, _, _, rfl, same_put s5 l0, ?_, ?_, ?_⟩
        · rw [upd_ne D2l.symm]; exact h6
        · rw [upd_same, List.map_append]; rfl
        · rw [take_more hsj, stepsL_snoc, List.map_append, h8, ← List.append_assoc]
          congr 1
          show [tl (Str.ofString "  " ++ m ++ wS sj.w ++ m2 ++ Str.ofString ";")] = [stepL _ _ _]
          congr 1
          have e0 : 0 + ((x.ss i).take j).length = j := by rw [List.length_take]; omega
          rw [e0, tl_append, tl_append, tl_append, tl_append, sp2, hm, hm2, t_sc]
          rfl
      · rintro σ H5 ⟨ls', v8, v9, v10, v11, v12, rfl, s5, h6, h7, h8⟩
        have ej : ((xsi.length : Nat) : Int).toNat = (x.ss i).length := by omega
        rw [ej, List.take_length] at h8
        have hl8 : ls'.length ≤ 45 := by
          rw [len_of_map h8]
          simp only [List.length_append, List.length_cons, List.length_nil, stepsL_len]
          have := robs_len hx (i := i) (by omega)
          omega
        refine ⟨_, rfl, .inl ⟨rfl, _, SqL.of h7⟩, l, _, _, rfl, rfl, h7, smaller 45 (by rw [List.length_map]; exact hl8) (by decide), ?_⟩
        refine ⟨ls' ++ [Str.ofString "}"], _, _, _, _, _, _, _, _, rfl, same_put s5 l0, ?_, ?_⟩
        · rw [upd_same, List.map_append]; rfl
        · rw [List.map_append, h8]
          show _ ++ [tl (Str.ofString "}")] = shelfL x.shelf :: (x.robs i ++ robotL (x.st i) (x.ss i))
          rw [t_cb]
          unfold robotL
          simp only [List.cons_append, List.append_assoc, List.nil_append]
    · rintro σ H5 ⟨ls, v5, v6, v7, v8, v9, v10, v11, v12, rfl, s5, h6, h7⟩
      rw [Pl.robs2] at h7
      have hl8 : ls.length ≤ 45 := by rw [len_of_map h7]; exact linesL_len hx
      refine ⟨⟨_, rfl⟩, _, rfl, _, l, ls, rfl, rfl, .inl (SqL.of h6), ?_, ?_⟩
      · have := sum_len ls 60 (mem_len h7 (lines_len hx))
        have e : (Str.ofString "\n").length = 1 := by decide +kernel
        rw [e]
        omega
      · have e : Txt.join (Str.ofString "\n") ls = textS x := ext_tl (join_txt t_nl h7)
        dsimp only
        rw [e]
        exact k H5 s5
end
end Sb

namespace Sb
open PySem PySem.Spec PyProof.Rows L2 TL
section
variable {G H G0 H0 G1 H1 : Hp} {x dx : Addr} {o : HO}
theorem make_free (nx : H x = none) (ne : dx ≠ x) : upd H dx (.own x) x = none := by rw [upd_ne ne.symm]; exact nx
theorem Ext.make (e : Ext G0 H0 G H) (nx : H x = none) (nd : H dx = none) (ne : dx ≠ x) (o : HO) : Ext G0 H0 (upd (upd G dx (.own x)) x o) (upd (upd H dx (.own x)) x o) := (e.new nd).new (make_free nx ne)
theorem same_make (nx : H x = none) (nd : H dx = none) (ne : dx ≠ x) (o : HO) : Same H (upd (upd H dx (.own x)) x o) := (same_new nd).trans (same_new (make_free nx ne))
end
/-- a token in the data heap -/
def tokF (tk : Tk) (l c : Nat) : List (Str × V) := [("kind", .str (kS tk.k)), ("text", .str (mkS tk.t)), ("line", .int l), ("column", .int c)]
def TokAt (C : Addr) (G : Hp) (v : V) (tk : Tk) : Prop := ∃ (p dx : Addr) (l c : Nat), v = .ref p ∧ G p = some (.ins C dx (tokF tk l c))
theorem TokAt.mono {C : Addr} {G G' : Hp} {v : V} {tk : Tk} (s : Same G G') (h : TokAt C G v tk) : TokAt C G' v tk := by
  obtain ⟨p, dx, l, c, e, h⟩ := h
  exact ⟨p, dx, l, c, e, s _ _ h⟩
def ToksAt (C : Addr) (G : Hp) : List V → List Tk → Prop := Paired (TokAt C G)
theorem ToksAt.mono {C : Addr} {G G' : Hp} {vs : List V} {ts : List Tk} (s : Same G G') (h : ToksAt C G vs ts) : ToksAt C G' vs ts := Paired.mapP h fun _ _ => TokAt.mono s
theorem Paired.snoc {α β : Type} {F : α → β → Prop} : ∀ {l : List α} {m : List β} {x : α} {y : β}, Paired F l m → F x y → Paired F (l ++ [x]) (m ++ [y])
  | _, _, _, _, .nil, h => .cons h .nil
  | _, _, _, _, .cons r t, h => .cons r (Paired.snoc t h)
theorem Paired.app {α β : Type} {F : α → β → Prop} : ∀ {l l' : List α} {m m' : List β}, Paired F l m → Paired F l' m' → Paired F (l ++ l') (m ++ m')
  | _, _, _, _, .nil, h => h
  | _, _, _, _, .cons r t, h => .cons r (Paired.app t h)
theorem Paired.at_ {α β : Type} {F : α → β → Prop} : ∀ {l : List α} {m : List β} {i : Nat} {y : β}, Paired F l m → m[i]? = some y → ∃ x, l[i]? = some x ∧ F x y
  | _, _, _, _, .nil, e => by simp at e
  | _, _, 0, _, .cons r _, e => by simp at e; subst e; exact ⟨_, rfl, r⟩
  | _, _, i + 1, y, .cons _ t, e => by
    obtain ⟨u, h1, h2⟩ := Paired.at_ (i := i) (y := y) t (by simpa using e)
    exact ⟨u, by simpa using h1, h2⟩
theorem Paired.len {α β : Type} {F : α → β → Prop} : ∀ {l : List α} {m : List β}, Paired F l m → l.length = m.length
  | _, _, .nil => rfl
  | _, _, .cons _ t => congrArg (· + 1) (Paired.len t)
/-- the __init__ of a class that stores its arguments in fields -/
structure spInit (C : Addr) (fs : List Str) (vs : List V) (H : Hp) (Q : VK) (E : XK) : Prop where
  ex : ∃ (x dx : Addr) (us : List V), vs = .ref x :: us ∧ us.length = fs.length ∧ H x = some (.ins C dx []) ∧ Q .non (upd H x (.ins C dx (fs.zip us)))
theorem init_go {C x dx : Addr} {fs : List Str} {us : List V} {H : Hp} {Q : VK} {E : XK} (h : us.length = fs.length) (k : Q (.ref x) (upd (upd H dx (.own x)) x (.ins C dx (fs.zip us)))) :
    spInit C fs (.ref x :: us) (upd (upd H dx (.own x)) x (.ins C dx [])) (fun v H2 => v = .non ∧ Q (.ref x) H2) E :=
  ⟨⟨x, dx, us, rfl, h, upd_same, rfl, by rw [upd_upd]; exact k⟩⟩
theorem lf {f : Str} {v : V} {fs : List (Str × V)} {n : Nat} (h : fs.length ≤ n) : (putF f v fs).length ≤ n + 1 := Nat.le_trans (length_putF f v fs) (Nat.succ_le_succ h)
theorem lf1 {f : Str} {v : V} : (putF f v []).length < 1000 := Nat.lt_of_le_of_lt (lf (Nat.le_refl _)) (by decide)
theorem lf2 {f g : Str} {v u : V} : (putF f v (putF g u [])).length < 1000 := Nat.lt_of_le_of_lt (lf (lf (Nat.le_refl _))) (by decide)
theorem lf3 {f g h : Str} {v u y : V} : (putF f v (putF g u (putF h y []))).length < 1000 := Nat.lt_of_le_of_lt (lf (lf (lf (Nat.le_refl _)))) (by decide)
structure spRunEnd (vs : List V) (H : Hp) (Q : VK) (E : XK) : Prop where
  ex : ∃ (row : Str) (c : Nat) (ls : Str), vs = [.str row, .int c, .str ls] ∧ c ≤ (tl row).length ∧ (tl row).length ≤ 3000 ∧ Q (.int ((c + runL (tl ls) ((tl row).drop c) : Nat) : Int)) H
section
variable {P : Program} {w : World} {K : PySem.W.Frag} {mg : Str → Option Value} {base : Heap} {a : Ad}
theorem ok_Token_init (T : Txt K mg a) : FnOk P w K mg base CX0 1 a.f_Token_init a.d_Token_init ["self", "kind", "text", "line", "column"] (spInit a.C_Token ["kind", "text", "line", "column"]) := by
  refine T.F_Token_init.ok sc_Token_init (fun vs H Q E h => ?_) (fun cdv A outer s H vs Q E hr h => ?_)
  · obtain ⟨⟨x, dx, us, rfl, hl, _⟩⟩ := h
    exact congrArg (· + 1) hl
  · obtain ⟨⟨x, dx, us, rfl, hl, hx, k⟩⟩ := h
    match us, hl with
    | [u1, u2, u3, u4], _ =>
      refine ⟨_, (pss_cons (ps_fld (pv 0) (pv 1) rfl)
      (pss_cons (ps_fld (pv 0) (pv 2) rfl)
      (pss_cons (ps_fld (pv 0) (pv 3) rfl)
      (pss_one (ps_fld (pv 0) (pv 4) rfl))))), ?_⟩
      refine ⟨_, rfl, _, rfl, x, _, dx, _, rfl, hx, T.cl_Token, T.n_Token_kind, by decide, ?_⟩
      refine ⟨_, rfl, _, rfl, x, _, dx, _, rfl, upd_same, T.cl_Token, T.n_Token_text, lf1, ?_⟩
      refine ⟨_, rfl, _, rfl, x, _, dx, _, rfl, upd_same, T.cl_Token, T.n_Token_line, lf2, ?_⟩
      refine ⟨_, rfl, _, rfl, x, _, dx, _, rfl, upd_same, T.cl_Token, T.n_Token_column, lf3, ?_⟩
      rw [upd_upd, upd_upd, upd_upd]
      have e : putF "column" u4 (putF "line" u3 (putF "text" u2 (putF "kind" u1 []))) = (["kind", "text", "line", "column"] : List Str).zip [u1, u2, u3, u4] := by
        show putF "column" u4 (putF "line" u3 (putF "text" u2 [("kind", u1)])) = _
        rw [putF_new (fs := [("kind", u1)]) (show ("text" : Str) ∉ (["kind"] : List Str) by decide +kernel)]
        show putF "column" u4 (putF "line" u3 [("kind", u1), ("text", u2)]) = _
        rw [putF_new (fs := [("kind", u1), ("text", u2)]) (show ("line" : Str) ∉ (["kind", "text"] : List Str) by decide +kernel)]
        show putF "column" u4 [("kind", u1), ("text", u2), ("line", u3)] = _
        rw [putF_new (fs := [("kind", u1), ("text", u2), ("line", u3)]) (show ("column" : Str) ∉ (["kind", "text", "line"] : List Str) by decide +kernel)]
        rfl
      rw [e]
      exact k
theorem ok_run_end (T : Txt K mg a) : FnOk P w K mg base CX0 1 a.f_run_end a.d_run_end ["row", "start", "letters"] spRunEnd := by
  refine T.F_run_end.ok sc_run_end (fun vs H Q E h => ?_) (fun cdv A outer s H vs Q E hr h => ?_)
  · obtain ⟨⟨row, c, ls, rfl, _⟩⟩ := h
    rfl
  · obtain ⟨⟨row, c, ls, rfl, hc, hl, k⟩⟩ := h
    refine ⟨_, (pss_cons (ps_set (i := 3) sc_run_end.nd rfl (Or.inl rfl) (pv 1))
      (pss_cons (ps_while PassesOwn.never (PW.pt (pw_and (pt_cmpR op_lt (pv 3) (pe_callB call_len_str (by rfl) T.z_len (by decide +kernel) (pa_cons (pv 0) pa_nil)) (nomark _)) (pw_and1 (pt_cmpR op_in_sign (pe_ix ix_str (pv 0) (pv 3) (fun _ _ => rfl)) (pv 2) rfl)))) (pss_one (ps_aug (i := 3) sc_run_end.nd rfl (Or.inl rfl) pe_int ip_add)))
      (pss_one (ps_ret (pv 3))))), ?_⟩
    have hz : row.length ≤ sizeLine := small 3000 (by rw [len_tl]; exact hl) (by decide)
    refine ⟨_, rfl, ?_⟩
    refine while_by (fun σ H' => H' = H ∧ ∃ e : Nat, σ = [some (.str row), some (.int c), some (.str ls), some (.int e)] ∧ c ≤ e ∧ e ≤ (tl row).length ∧ e + runL (tl ls) ((tl row).drop e) = c + runL (tl ls) ((tl row).drop c))
      (fun σ _ => match σ with | [_, _, _, some (.int e)] => (tl row).length - e.toNat | _ => 0) ⟨rfl, c, rfl, Nat.le_refl _, hc, rfl⟩ ?_ ?_
    · rintro σ H' ⟨rfl, e, rfl, h1, h2, h3⟩
      refine ⟨_, rfl, _, rfl, _, rfl, hz, _, _, rfl, rfl, _, rfl, ?_⟩
      refine ite2 (fun q => ?_) (fun q => ?_)
      · have q1 : e < (tl row).length := by
          have := of_decide_eq_true q
          rw [len_tl] at this
          omega
        have q2 : (tl row)[e]? = some ((tl row)[e]) := List.getElem?_eq_getElem q1
        refine ⟨_, rfl, _, rfl, row, _, (tl row)[e], rfl, rfl, hz, atI_nat q2, _, rfl, _, _, rfl, rfl, _, rfl, ?_⟩
        have q3 : (tl row).drop e = (tl row)[e] :: (tl row).drop (e + 1) := List.drop_eq_getElem_cons q1
        refine ite2 (fun m => ?_) (fun m => ?_)
        · have m1 : (tl row)[e] ∈ tl ls := of_decide_eq_true m
          refine ⟨_, rfl, _, _, rfl, rfl, ⟨rfl, e + 1, rfl, by omega, by omega, ?_⟩, ?_⟩
          · rw [q3] at h3
            rw [← h3]
            show _ = e + (if _ then _ else _)
            rw [if_pos m1]
            omega
          · show (tl row).length - ((e : Int) + 1).toNat < (tl row).length - ((e : Int)).toNat
            omega
        · have m1 : ¬ (tl row)[e] ∈ tl ls := fun z => m (decide_eq_true z)
          refine ⟨_, rfl, ?_⟩
          have e0 : e = c + runL (tl ls) ((tl row).drop c) := by
            rw [← h3, q3]
            show _ = e + (if _ then _ else _)
            rw [if_neg m1]
            rfl
          rw [e0]
          exact k
      · have q1 : ¬ (e : Int) < ((row.length : Nat) : Int) := fun z => q (decide_eq_true z)
        rw [len_tl] at q1
        refine ⟨_, rfl, ?_⟩
        have e0 : e = c + runL (tl ls) ((tl row).drop c) := by
          rw [← h3, List.drop_eq_nil_of_le (by omega)]
          rfl
        rw [e0]
        exact k
    · intro σ H Q Q' hq h
      obtain ⟨v, hv, x, hx, z, e, hz, i, j, e1, e2, b, e3, h⟩ := h
      refine ⟨v, hv, x, hx, z, e, hz, i, j, e1, e2, b, e3, ?_⟩
      revert h
      cases b with
      | true =>
        intro h
        obtain ⟨v, hv, x, hx, z, i, c, e1, e2, hz, ha, y, hy, c', z', e3, e4, k', e5, h⟩ := h
        exact ⟨v, hv, x, hx, z, i, c, e1, e2, hz, ha, y, hy, c', z', e3, e4, k', e5, hq _ _ h⟩
      | false =>
        intro h
        exact hq _ _ h
end
end Sb

namespace Sb
open PySem PySem.Spec PyProof.Rows L2 TL
/-- a token in the data heap, with its place -/
def TokP (C : Addr) (G : Hp) (v : V) (q : Tk × Nat × Nat) : Prop := ∃ (p dx : Addr), v = .ref p ∧ G p = some (.ins C dx (tokF q.1 q.2.1 q.2.2))
theorem TokP.mono {C : Addr} {G G' : Hp} {v : V} {q : Tk × Nat × Nat} (s : Same G G') (h : TokP C G v q) : TokP C G' v q := by
  obtain ⟨p, dx, e, h⟩ := h
  exact ⟨p, dx, e, s _ _ h⟩
theorem TokP.tok {C : Addr} {G : Hp} {v : V} {q : Tk × Nat × Nat} (h : TokP C G v q) : TokAt C G v q.1 := by
  obtain ⟨p, dx, e, h⟩ := h
  exact ⟨p, dx, q.2.1, q.2.2, e, h⟩
def ToksP (C : Addr) (G : Hp) : List V → List (Tk × Nat × Nat) → Prop := Paired (TokP C G)
theorem ToksP.mono {C : Addr} {G G' : Hp} {vs : List V} {ts : List (Tk × Nat × Nat)} (s : Same G G') (h : ToksP C G vs ts) : ToksP C G' vs ts := Paired.mapP h fun _ _ => TokP.mono s
theorem ToksP.toks {C : Addr} {G : Hp} : ∀ {vs : List V} {ts : List (Tk × Nat × Nat)}, ToksP C G vs ts → ToksAt C G vs (ts.map (·.1))
  | _, _, .nil => .nil
  | _, _, .cons r t => .cons r.tok (ToksP.toks t)
structure spReadToken (C : Addr) (vs : List V) (H : Hp) (Q : VK) (E : XK) : Prop where
  ex : ∃ (row : Str) (l c : Nat) (G : Hp) (tk : Tk) (rest : List Nat), vs = [.str row, .int l, .int c] ∧ c ≤ (tl row).length ∧ (tl row).length ≤ 3000 ∧ Rd ((tl row).drop c) tk rest ∧ Pure G H Q (fun G' v => TokP C G' v (tk, l, c))
theorem in_strs (x : Str) : ∀ l : List Str, inV (.str x) (l.map V.str) = decide (x ∈ l)
  | [] => by simp [inV]
  | n :: r => by
    have ih := in_strs x r
    unfold inV at ih ⊢
    rw [List.map_cons, List.any_cons, ih]
    have e : eqV (.str n) (.str x) = decide (n = x) := by
      unfold eqV
      by_cases h : n = x
      · subst h; simp
      · simp [h]
    rw [e]
    by_cases h : n = x
    · subst h; simp
    · have h' : ¬ x = n := fun q => h q.symm
      simp [h, h']
theorem strs_flat (l : List Str) : (l.map V.str).all flatV = true := by
  rw [List.all_eq_true]
  intro x hx
  obtain ⟨n, _, rfl⟩ := List.mem_map.mp hx
  rfl
theorem mem_tl {x : Str} {l : List Str} : x ∈ l ↔ tl x ∈ l.map tl := by
  constructor
  · exact fun h => List.mem_map.mpr ⟨x, h, rfl⟩
  · intro h
    obtain ⟨y, hy, e⟩ := List.mem_map.mp h
    rw [← ext_tl e]
    exact hy
theorem kw_ne : ∀ t ∈ kwL, t ≠ [] := by decide +kernel
theorem sgn_no_dig {c : Nat} (h : c ∈ tl digS) : c ∉ tl sgnS := by rw [mem_dig] at h; rw [mem_sgn]; omega
theorem sgn_no_let {c : Nat} (h : c ∈ tl letS) : c ∉ tl sgnS := by rw [mem_let] at h; rw [mem_sgn]; omega
theorem dig_no_let {c : Nat} (h : c ∈ tl letS) : c ∉ tl digS := by rw [mem_let] at h; rw [mem_dig]; omega
theorem tok_mk {C x dx : Addr} {G : Hp} {k : Kd} {t : Str} {l c : Nat} {tk : Tk} (h1 : k = tk.k) (h2 : tl t = tk.t) : TokP C (upd (upd G dx (.own x)) x (.ins C dx ((["kind", "text", "line", "column"] : List Str).zip [.str (kS k), .str t, .int l, .int c]))) (.ref x) (tk, l, c) :=
  ⟨x, dx, rfl, by
    rw [upd_same]
    subst h1
    have e : t = mkS tk.t := mkS_of h2
    subst e
    rfl⟩
section
variable {P : Program} {w : World} {K : PySem.W.Frag} {mg : Str → Option Value} {base : Heap} {a : Ad}
theorem ok_read_token (T : Txt K mg a) : FnOk P w K mg base CX0 3 a.f_read_token a.d_read_token ["row", "line", "column"] (spReadToken a.C_Token) := by
  refine T.F_read_token.ok sc_read_token (fun vs H Q E h => ?_) (fun cdv A outer s H vs Q E hr h => ?_)
  · obtain ⟨⟨row, l, c, G, tk, rest, rfl, _⟩⟩ := h
    rfl
  · obtain ⟨⟨row, l, c, G, tk, rest, rfl, hc, hl, hR, hGH, k⟩⟩ := h
    refine ⟨_, (pss_cons (ps_set (i := 3) sc_read_token.nd rfl (Or.inl rfl) (pe_ix ix_str (pv 0) (pv 2) (fun _ _ => rfl)))
      (pss_cons (ps_if (pt_cmpR op_in_sign (pv 3) (pe_glob (v := V.str (Str.ofString ";:{}")) rfl T.c_SIGNS ⟨_, rfl⟩) rfl) (pss_one (ps_ret (pe_make T.mk_Token (ok_Token_init T) (hr.mono (by decide)) (by rfl) T.m_Token (b_Token_init T) .nil pass0 (pa_cons (pe_glob (v := V.str (Str.ofString "sign")) rfl T.c_SIGN ⟨_, rfl⟩) (pa_cons (pv 3) (pa_cons (pv 1) (pa_cons (pv 2) pa_nil))))))) pss_nil)
      (pss_cons (ps_if (pt_cmpR op_in_sign (pv 3) (pe_glob (v := V.str (Str.ofString "0123456789")) rfl T.c_DIGITS ⟨_, rfl⟩) rfl) (pss_cons (ps_set (i := 4) sc_read_token.nd rfl (Or.inl rfl) (pe_slice sl_str (pv 0) (po_some (pv 2)) (po_some (pe_call (ok_run_end T) (hr.mono (by decide)) rfl T.m_run_end T.F_run_end.kp (b_run_end T) .nil pass0 (pa_cons (pv 0) (pa_cons (pv 2) (pa_cons (pe_glob (v := V.str (Str.ofString "0123456789")) rfl T.c_DIGITS ⟨_, rfl⟩) pa_nil)))))))
      (pss_cons (ps_if (PW.pt (pw_or (pt_cmpR op_gt (pe_callB call_len_str (by rfl) T.z_len (by decide +kernel) (pa_cons (pv 4) pa_nil)) (pe_glob (v := V.int 2) rfl T.c_MAX_DIGITS ⟨_, rfl⟩) (nomark _)) (pw_or1 (PW.pt (pw_and (pt_cmpR op_gt (pe_callB call_len_str (by rfl) T.z_len (by decide +kernel) (pa_cons (pv 4) pa_nil)) pe_int (nomark _)) (pw_and1 (pt_cmpR op_eq (pv 3) pe_str (nomark _)))))))) pss_never pss_nil)
      (pss_one (ps_ret (pe_make T.mk_Token (ok_Token_init T) (hr.mono (by decide)) (by rfl) T.m_Token (b_Token_init T) .nil pass0 (pa_cons (pe_glob (v := V.str (Str.ofString "number")) rfl T.c_NUMBER ⟨_, rfl⟩) (pa_cons (pv 4) (pa_cons (pv 1) (pa_cons (pv 2) pa_nil))))))))) pss_nil)
      (pss_cons (ps_set (i := 4) sc_read_token.nd rfl (Or.inl rfl) (pe_slice sl_str (pv 0) (po_some (pv 2)) (po_some (pe_call (ok_run_end T) (hr.mono (by decide)) rfl T.m_run_end T.F_run_end.kp (b_run_end T) .nil pass0 (pa_cons (pv 0) (pa_cons (pv 2) (pa_cons (pe_glob (v := V.str (Str.ofString "abcdefghijklmnopqrstuvwxyz")) rfl T.c_LETTERS ⟨_, rfl⟩) pa_nil)))))))
      (pss_cons (ps_if (pt_cmpR op_in_seq (pv 4) (pe_glob (v := V.ref a.A_KEYWORDS) rfl T.c_KEYWORDS rfl) rfl) (pss_one (ps_ret (pe_make T.mk_Token (ok_Token_init T) (hr.mono (by decide)) (by rfl) T.m_Token (b_Token_init T) .nil pass0 (pa_cons (pe_glob (v := V.str (Str.ofString "keyword")) rfl T.c_KEYWORD ⟨_, rfl⟩) (pa_cons (pv 4) (pa_cons (pv 1) (pa_cons (pv 2) pa_nil))))))) pss_nil)
      (pss_cons (ps_if (pt_not (pt_chain op_le op_le pe_int (pe_callB call_len_str (by rfl) T.z_len (by decide +kernel) (pa_cons (pv 4) pa_nil)) (pe_glob (v := V.int 8) rfl T.c_MAX_LETTERS ⟨_, rfl⟩))) pss_never pss_nil)
      (pss_one (ps_ret (pe_make T.mk_Token (ok_Token_init T) (hr.mono (by decide)) (by rfl) T.m_Token (b_Token_init T) .nil pass0 (pa_cons (pe_glob (v := V.str (Str.ofString "name")) rfl T.c_NAME ⟨_, rfl⟩) (pa_cons (pv 4) (pa_cons (pv 1) (pa_cons (pv 2) pa_nil))))))))))))), ?_⟩
    have hz : row.length ≤ sizeLine := small 3000 (by rw [len_tl]; exact hl) (by decide)
    generalize hd : (tl row).drop c = rem at hR
    -- the first sign
    have start : ∀ ch r, rem = ch :: r → (tl row)[c]? = some ch := fun ch r e => by
      have h1 : ((tl row).drop c)[0]? = some ch := by rw [hd, e]; rfl
      rw [List.getElem?_drop] at h1
      exact h1
    -- the word that is cut
    have cut : ∀ (S : Str) (t r : List Nat), rem = t ++ r → (∀ x ∈ t, x ∈ tl S) → HeadNot (tl S) r → tl (cutS row (some (c : Int)) (some ((c + runL (tl S) ((tl row).drop c) : Nat) : Int))) = t := fun S t r e h1 h2 => by
      have e1 : runL (tl S) ((tl row).drop c) = t.length := by rw [hd, e]; exact runL_app h1 h2
      have e2 : c + t.length ≤ (tl row).length := by
        have := congrArg List.length (hd.trans e)
        rw [List.length_drop, List.length_append] at this
        omega
      rw [e1, cut_run e2, hd, e, List.take_left]
    cases hR with
    | @sign ch r hs =>
      refine ⟨_, rfl, _, rfl, row, _, ch, rfl, rfl, hz, atI_nat (start _ _ rfl), ?_⟩
      refine ⟨_, rfl, _, _, rfl, rfl, _, rfl, ite_t (decide_eq_true hs) ?_⟩
      refine ⟨_, rfl, _, rfl, _, rfl, fun x dx nx nd ne => init_go rfl ?_⟩
      exact k _ _ _ ((Ext.refl hGH).make nx nd ne _) (same_make nx nd ne _) (tok_mk (k := .sign) rfl rfl)
    | @num t r hne hdg hle h0 hr0 =>
      obtain ⟨ch, t', rfl⟩ : ∃ ch t', t = ch :: t' := by cases t with | nil => exact absurd rfl hne | cons x y => exact ⟨x, y, rfl⟩
      have hch := hdg ch (by simp)
      refine ⟨_, rfl, _, rfl, row, _, ch, rfl, rfl, hz, atI_nat (start _ _ rfl), ?_⟩
      refine ⟨_, rfl, _, _, rfl, rfl, _, rfl, ite_f (decide_eq_false (sgn_no_dig hch)) ?_⟩
      refine ⟨_, rfl, _, _, rfl, rfl, _, rfl, ite_t (decide_eq_true hch) ?_⟩
      refine ⟨_, rfl, _, rfl, _, rfl, _, rfl, _, rfl, ⟨row, c, digS, rfl, hc, hl, _, rfl, row, rfl, hz, ?_⟩⟩
      have hw := cut digS (ch :: t') rest rfl hdg hr0
      dsimp only [gName]
      revert hw
      generalize cutS row (some (c : Int)) (some ((c + runL (tl digS) ((tl row).drop c) : Nat) : Int)) = word
      intro hw
      have wl : word.length ≤ 2 := by rw [len_tl, hw]; exact hle
      have wz : word.length ≤ sizeLine := small 2 wl (by decide)
      refine ⟨_, rfl, word, rfl, wz, _, _, rfl, rfl, _, rfl, ite_f (decide_eq_false (by omega)) ?_⟩
      have fin : ∀ H' : Hp, H' = H → (tRet (tMake a.C_Token (spInit a.C_Token ["kind", "text", "line", "column"]) [] E0 (tCons (tC (.str (Str.ofString "number"))) (tCons (tVar 4) (tCons (tVar 1) (tCons (tVar 2) tNil)))))) { nx := fun _ H' => Q .non H', rt := Q } [some (.str row), some (.int l), some (.int c), some (.str ⟨#[ch]⟩), some (.str word)] H' := by
        rintro H' rfl
        refine ⟨_, rfl, _, rfl, _, rfl, fun x dx nx nd ne => init_go rfl ?_⟩
        exact k _ _ _ ((Ext.refl hGH).make nx nd ne _) (same_make nx nd ne _) (tok_mk (k := .number) rfl hw)
      refine ⟨_, rfl, word, rfl, wz, _, _, rfl, rfl, _, rfl, ?_⟩
      refine ite2 (fun q => ?_) (fun q => ?_)
      · have q1 : 1 < (ch :: t').length := by
          have := of_decide_eq_true q
          rw [len_tl, hw] at this
          exact_mod_cast this
        refine ⟨_, rfl, rfl, _, rfl, ite_f (decide_eq_false fun z => ?_) (fin H rfl)⟩
        injection z with z
        have z1 : [ch] = tl (Str.ofString "0") := by rw [← z]
        have z2 : tl (Str.ofString "0") = [48] := by decide +kernel
        rw [z2] at z1
        injection z1 with z1
        exact h0 q1 (by rw [z1]; rfl)
      · exact ite_f rfl (fin H rfl)
    | @kw t r hlt hkw hr0 =>
      obtain ⟨ch, t', rfl⟩ : ∃ ch t', t = ch :: t' := by cases t with | nil => exact absurd rfl (kw_ne _ hkw) | cons x y => exact ⟨x, y, rfl⟩
      have hch := hlt ch (by simp)
      refine ⟨_, rfl, _, rfl, row, _, ch, rfl, rfl, hz, atI_nat (start _ _ rfl), ?_⟩
      refine ⟨_, rfl, _, _, rfl, rfl, _, rfl, ite_f (decide_eq_false (sgn_no_let hch)) ?_⟩
      refine ⟨_, rfl, _, _, rfl, rfl, _, rfl, ite_f (decide_eq_false (dig_no_let hch)) ?_⟩
      refine ⟨_, rfl, _, rfl, _, rfl, _, rfl, _, rfl, ⟨row, c, letS, rfl, hc, hl, _, rfl, row, rfl, hz, ?_⟩⟩
      have hw := cut letS (ch :: t') rest rfl hlt hr0
      dsimp only [gName]
      revert hw
      generalize cutS row (some (c : Int)) (some ((c + runL (tl letS) ((tl row).drop c) : Nat) : Int)) = word
      intro hw
      have hk : word ∈ kwS := mem_tl.mpr (by rw [hw]; exact hkw)
      refine ⟨_, rfl, a.A_KEYWORDS, kwS.map V.str, rfl, .inr (T.q_KEYWORDS H), rfl, strs_flat _, _, rfl, ite_t ?_ ?_⟩
      · rw [if_neg Bool.false_ne_true, in_strs]; exact decide_eq_true hk
      refine ⟨_, rfl, _, rfl, _, rfl, fun x dx nx nd ne => init_go rfl ?_⟩
      exact k _ _ _ ((Ext.refl hGH).make nx nd ne _) (same_make nx nd ne _) (tok_mk (k := .keyword) rfl hw)
    | @nm t r hlt h1 h8 hkw hr0 =>
      obtain ⟨ch, t', rfl⟩ : ∃ ch t', t = ch :: t' := by cases t with | nil => exact absurd h1 (by decide) | cons x y => exact ⟨x, y, rfl⟩
      have hch := hlt ch (by simp)
      refine ⟨_, rfl, _, rfl, row, _, ch, rfl, rfl, hz, atI_nat (start _ _ rfl), ?_⟩
      refine ⟨_, rfl, _, _, rfl, rfl, _, rfl, ite_f (decide_eq_false (sgn_no_let hch)) ?_⟩
      refine ⟨_, rfl, _, _, rfl, rfl, _, rfl, ite_f (decide_eq_false (dig_no_let hch)) ?_⟩
      refine ⟨_, rfl, _, rfl, _, rfl, _, rfl, _, rfl, ⟨row, c, letS, rfl, hc, hl, _, rfl, row, rfl, hz, ?_⟩⟩
      have hw := cut letS (ch :: t') rest rfl hlt hr0
      dsimp only [gName]
      revert hw
      generalize cutS row (some (c : Int)) (some ((c + runL (tl letS) ((tl row).drop c) : Nat) : Int)) = word
      intro hw
      have hk : ¬ word ∈ kwS := fun z => hkw (by rw [← hw]; exact mem_tl.mp z)
      have wl : word.length ≤ 8 := by rw [len_tl, hw]; exact h8
      have wl1 : 1 ≤ word.length := by rw [len_tl, hw]; exact h1
      have wz : word.length ≤ sizeLine := small 8 wl (by decide)
      refine ⟨_, rfl, a.A_KEYWORDS, kwS.map V.str, rfl, .inr (T.q_KEYWORDS H), rfl, strs_flat _, _, rfl, ite_f ?_ ?_⟩
      · rw [if_neg Bool.false_ne_true, in_strs]; exact decide_eq_false hk
      refine ⟨_, rfl, word, rfl, wz, _, _, rfl, rfl, _, rfl, ite_t (decide_eq_true (by omega)) ⟨_, _, rfl, rfl, _, rfl, ?_⟩⟩
      refine ite_f (by rw [decide_eq_true (show ((word.length : Nat) : Int) ≤ 8 by omega)]; rfl) ?_
      refine ⟨_, rfl, _, rfl, _, rfl, fun x dx nx nd ne => init_go rfl ?_⟩
      exact k _ _ _ ((Ext.refl hGH).make nx nd ne _) (same_make nx nd ne _) (tok_mk (k := .name) rfl hw)
end
end Sb

namespace Sb
open PySem PySem.Spec PyProof.Rows L2 TL
/-! ### within a def that changes nothing that stood -/
structure Pt (G0 H0 G H : Hp) : Prop where
  ext : Ext G0 H0 G H
  sm : Same H0 H
section
variable {G0 H0 G H G1 H1 : Hp} {p l x dx : Addr} {o : HO}
theorem Pt.start (s : Same G H) : Pt G H G H := ⟨Ext.refl s, Same.refl H⟩
theorem Pt.new (a : Pt G0 H0 G H) (np : H p = none) (o : HO) : Pt G0 H0 (upd G p o) (upd H p o) := ⟨a.ext.new np, a.sm.trans (same_new np)⟩
theorem Pt.lay (a : Pt G0 H0 G H) (np : H p = none) (o : HO) : Pt G0 H0 G (upd H p o) := ⟨a.ext.lay np, a.sm.trans (same_new np)⟩
theorem Pt.put (a : Pt G0 H0 G H) (n0 : H0 l = none) (n : G l = none) (o : HO) : Pt G0 H0 G (upd H l o) := ⟨a.ext.put n, same_put a.sm n0⟩
theorem Pt.freeze (a : Pt G0 H0 G H) (n0 : H0 l = none) (h : H l = some o) : Pt G0 H0 (upd G l o) H := ⟨a.ext.freeze n0 h, a.sm⟩
theorem Pt.make (a : Pt G0 H0 G H) (nx : H x = none) (nd : H dx = none) (ne : dx ≠ x) (o : HO) : Pt G0 H0 (upd (upd G dx (.own x)) x o) (upd (upd H dx (.own x)) x o) := ⟨a.ext.make nx nd ne o, a.sm.trans (same_make nx nd ne o)⟩
theorem Pt.call (a : Pt G0 H0 G H) (e : Ext G H G1 H1) (s : Same H H1) : Pt G0 H0 G1 H1 := ⟨a.ext.trans e, a.sm.trans s⟩
theorem Pt.s (a : Pt G0 H0 G H) : Same G H := a.ext.h
theorem Pt.g (a : Pt G0 H0 G H) : Same G0 G := a.ext.g
theorem Pt.free (a : Pt G0 H0 G H) (np : H p = none) : H0 p = none := Same.free a.sm np
theorem Pt.freeG (a : Pt G0 H0 G H) (np : H p = none) : G p = none := Same.free a.ext.h np
theorem frozen (n : G l = none) : Same G (upd G l o) := same_new n
/-- what is not data stays so through a call -/
theorem out_call (e : Ext G H G1 H1) (n : G l = none) (h : H l = some o) : G1 l = none := e.out n h
end
theorem init_go2 {C x dx : Addr} {fs : List Str} {us : List V} {H : Hp} {Q : VK} {E : XK} (h : us.length = fs.length) (k : Q .non (upd (upd H dx (.own x)) x (.ins C dx (fs.zip us)))) :
    spInit C fs (.ref x :: us) (upd (upd H dx (.own x)) x (.ins C dx [])) Q E :=
  ⟨⟨x, dx, us, rfl, h, upd_same, by rw [upd_upd]; exact k⟩⟩
theorem paired_get {α β : Type} {F : α → β → Prop} : ∀ {l : List α} {m : List β} {i : Nat} {x : α}, Paired F l m → l[i]? = some x → ∃ y, m[i]? = some y ∧ F x y
  | _, _, _, _, .nil, e => by simp at e
  | _, _, 0, _, .cons r _, e => by simp at e; subst e; exact ⟨_, rfl, r⟩
  | _, _, i + 1, y, .cons _ t, e => by
    obtain ⟨u, h1, h2⟩ := paired_get (i := i) (x := y) t (by simpa using e)
    exact ⟨u, by simpa using h1, h2⟩
theorem flat_take {α : Type} {l : List (List α)} {i : Nat} {x : List α} (h : l[i]? = some x) : (l.take (i + 1)).flatten = (l.take i).flatten ++ x := by
  rw [take_more h, List.flatten_append]
  simp
theorem flat_le {α : Type} : ∀ (l : List (List α)) (i : Nat), (l.take i).flatten.length ≤ l.flatten.length
  | [], i => by simp
  | x :: r, 0 => by simp
  | x :: r, i + 1 => by
    have := flat_le r i
    simp only [List.take_succ_cons, List.flatten_cons, List.length_append]
    omega
/-- a row's tokens with their columns -/
inductive LxC : Nat → List Nat → List (Tk × Nat) → Prop
  | nil {c : Nat} : LxC c [] []
  | sp {c : Nat} {r : List Nat} {ts : List (Tk × Nat)} : LxC (c + 1) r ts → LxC c (32 :: r) ts
  | tok {c : Nat} {l r : List Nat} {tk : Tk} {ts : List (Tk × Nat)} : Rd l tk r → LxC (c + tk.t.length) r ts → LxC c l ((tk, c) :: ts)
theorem Lx.col {l : List Nat} {ts : List Tk} (h : Lx l ts) : ∀ c : Nat, ∃ qs, LxC c l qs ∧ qs.map (·.1) = ts := by
  induction h with
  | nil => exact fun c => ⟨[], .nil, rfl⟩
  | sp _ ih => exact fun c => (ih (c + 1)).imp fun qs h => ⟨.sp h.1, h.2⟩
  | tok hr _ ih => exact fun c => let ⟨qs, h1, h2⟩ := ih (c + _); ⟨_, .tok hr h1, by rw [List.map_cons, h2]⟩
def posT : Nat → List (List (Tk × Nat)) → List (Tk × Nat × Nat)
  | _, [] => []
  | i, q :: qs => q.map (fun z => (z.1, i, z.2)) ++ posT (i + 1) qs
theorem posT_take : ∀ {qss : List (List (Tk × Nat))} {i k : Nat} {q : List (Tk × Nat)}, qss[i]? = some q → posT k (qss.take (i + 1)) = posT k (qss.take i) ++ q.map (fun z => (z.1, k + i, z.2))
  | x :: r, 0, k, q, h => by
    cases h
    simp [posT]
  | x :: r, i + 1, k, q, h => by
    have ih := posT_take (qss := r) (i := i) (k := k + 1) h
    rw [List.take_succ_cons, List.take_succ_cons]
    unfold posT
    rw [ih, List.append_assoc, show k + 1 + i = k + (i + 1) from by omega]
theorem posT_fst : ∀ {qss : List (List (Tk × Nat))} {k : Nat}, (posT k qss).map (·.1) = (qss.map fun q => q.map (·.1)).flatten
  | [], _ => rfl
  | q :: qs, k => by
    unfold posT
    rw [List.map_append, List.map_cons, List.flatten_cons, posT_fst, List.map_map]
    rfl
theorem posT_le {qss : List (List (Tk × Nat))} (i : Nat) : (posT 0 (qss.take i)).length ≤ (posT 0 qss).length := by
  have e : ∀ {qs : List (List (Tk × Nat))} {k : Nat}, (posT k qs).length = ((qs.map fun q => q.map (·.1)).flatten).length := fun {qs k} => by rw [← posT_fst (k := k), List.length_map]
  rw [e, e, List.map_take]
  exact flat_le _ _
/-- .. with every token's place -/
structure spTokenizeP (C : Addr) (vs : List V) (H : Hp) (Q : VK) (E : XK) : Prop where
  ex : ∃ (src : Str) (G : Hp) (rows : List (List Nat)) (qss : List (List (Tk × Nat))), vs = [.str src] ∧ tl src = joinL [10] rows ∧ rows ≠ [] ∧ (∀ r ∈ rows, 10 ∉ r) ∧ (∀ r ∈ rows, r.length ≤ 3000) ∧ (tl src).length ≤ 3000000 ∧ Paired (LxC 0) rows qss ∧ (posT 0 qss).length ≤ 100000 ∧
    Pure G H Q (fun G' v => ∃ p vs, v = .ref p ∧ G' p = some (.lst vs) ∧ ToksP C G' vs (posT 0 qss ++ [(⟨.fin, []⟩, rows.length, 0)]))
structure spTokenize (C : Addr) (vs : List V) (H : Hp) (Q : VK) (E : XK) : Prop where
  ex : ∃ (src : Str) (G : Hp) (rows : List (List Nat)) (tss : List (List Tk)), vs = [.str src] ∧ tl src = joinL [10] rows ∧ rows ≠ [] ∧ (∀ r ∈ rows, 10 ∉ r) ∧ (∀ r ∈ rows, r.length ≤ 3000) ∧ (tl src).length ≤ 3000000 ∧ Paired Lx rows tss ∧ tss.flatten.length ≤ 100000 ∧
    Pure G H Q (fun G' v => ∃ p vs, v = .ref p ∧ G' p = some (.lst vs) ∧ ToksAt C G' vs (tss.flatten ++ [⟨.fin, []⟩]))
theorem rd_len {l r : List Nat} {k : Tk} (h : Rd l k r) : l = k.t ++ r ∧ k.t ≠ [] := by
  cases h with
  | sign h => exact ⟨rfl, by simp⟩
  | num h => exact ⟨rfl, h⟩
  | kw _ h => exact ⟨rfl, kw_ne _ h⟩
  | @nm t _ _ h => exact ⟨rfl, fun z => by cases t with | nil => exact absurd h (by decide) | cons _ _ => cases z⟩
theorem nsp_rd {c : Nat} {l r : List Nat} {k : Tk} (h : Rd (c :: l) k r) : c ∉ tl spcS := by
  have hs : c ∈ tl sgnS ∨ c ∈ tl digS ∨ c ∈ tl letS := by
    generalize e : c :: l = m at h
    cases h with
    | @sign d r h => injection e with e1 e2; subst e1; exact .inl h
    | @num t r hne h =>
      cases t with
      | nil => exact absurd rfl hne
      | cons x y => injection e with e1 e2; subst e1; exact .inr (.inl (h c (by simp)))
    | @kw t r h hk =>
      cases t with
      | nil => exact absurd rfl (kw_ne _ hk)
      | cons x y => injection e with e1 e2; subst e1; exact .inr (.inr (h c (by simp)))
    | @nm t r h h1 =>
      cases t with
      | nil => simp at h1
      | cons x y => injection e with e1 e2; subst e1; exact .inr (.inr (h c (by simp)))
  rw [mem_sgn, mem_dig, mem_let] at hs
  rw [spc_list]
  simp
  omega
section
variable {P : Program} {w : World} {K : PySem.W.Frag} {mg : Str → Option Value} {base : Heap} {a : Ad}
theorem ok_tokenizeP (T : Txt K mg a) : FnOk P w K mg base CX0 4 a.f_tokenize a.d_tokenize ["source"] (spTokenizeP a.C_Token) := by
  refine T.F_tokenize.ok sc_tokenize (fun vs H Q E h => ?_) (fun cdv A outer s H vs Q E hr h => ?_)
  · obtain ⟨⟨src, G, rows, qss, rfl, _⟩⟩ := h
    rfl
  · obtain ⟨⟨src, G, rows, qss, rfl, hsrc, hne, hno, hrl, hsl, hP, hfl, hGH, k⟩⟩ := h
    refine ⟨_, (pss_cons (ps_set (i := 1) sc_tokenize.nd rfl (Or.inl rfl) (pe_lst pa_nil))
      (pss_cons (ps_set (i := 2) sc_tokenize.nd rfl (Or.inl rfl) (pe_split (pv 0) pe_str))
      (pss_cons (ps_for PassesOwn.never rfl (pi_enum (by rfl) T.z_enumerate (pa_cons (pv 2) pa_nil)) (pg_tup (by rfl) (pgs_cons (pg_name (i := 3) sc_tokenize.nd rfl (Or.inl rfl)) (pgs_cons (pg_name (i := 4) sc_tokenize.nd rfl (Or.inl rfl)) pgs_nil))) (pss_cons (ps_set (i := 5) sc_tokenize.nd rfl (Or.inl rfl) pe_int)
      (pss_one (ps_while PassesOwn.never (pt_cmpR op_lt (pv 5) (pe_callB call_len_str (by rfl) T.z_len (by decide +kernel) (pa_cons (pv 4) pa_nil)) (nomark _)) (pss_one (ps_if (pt_cmpR op_in_sign (pe_ix ix_str (pv 4) (pv 5) (fun _ _ => rfl)) (pe_glob (v := V.str (Str.ofString " \n")) rfl T.c_SPACES ⟨_, rfl⟩) rfl) (pss_one (ps_aug (i := 5) sc_tokenize.nd rfl (Or.inl rfl) pe_int ip_add)) (pss_cons (ps_set (i := 6) sc_tokenize.nd rfl (Or.inl rfl) (pe_call (ok_read_token T) (hr.mono (by decide)) rfl T.m_read_token T.F_read_token.kp (b_read_token T) .nil pass0 (pa_cons (pv 4) (pa_cons (pv 3) (pa_cons (pv 5) pa_nil)))))
      (pss_cons (ps_expr (pe_bm PySem.F.plainAttrs_list PySem.F.slot_list_append PySem.F.type_list_append mt_append (pv 1) (pa_cons (pv 6) pa_nil)))
      (pss_one (ps_aug (i := 5) sc_tokenize.nd rfl (Or.inl rfl) (pe_callB call_len_str (by rfl) T.z_len (by decide +kernel) (pa_cons (pe_fld (pv 6) rfl) pa_nil)) ip_add))))))))))
      (pss_one (ps_ret (pe_op op_cat (pv 1) (pe_lst (pa_cons (pe_make T.mk_Token (ok_Token_init T) (hr.mono (by decide)) (by rfl) T.m_Token (b_Token_init T) .nil pass0 (pa_cons (pe_glob (v := V.str (Str.ofString "end")) rfl T.c_END ⟨_, rfl⟩) (pa_cons pe_str (pa_cons (pe_callB call_len_seq (by rfl) T.z_len (by decide +kernel) (pa_cons (pv 2) pa_nil)) (pa_cons pe_int pa_nil))))) pa_nil)))))))), ?_⟩
    refine ⟨Nat.zero_le _, fun l hl => ?_⟩
    have B1 := (Pt.start hGH).lay hl (.lst [])
    have lG : G l = none := Same.free hGH hl
    refine ⟨_, rfl, ⟨_, rfl⟩, src, _, rfl, rfl, by decide +kernel, small 3000002 (by rw [len_tl]; omega) (by decide), fun rp hrp => ?_⟩
    have hrs : (Txt.split src (Str.ofString "\n")).map tl = rows := by
      rw [split_spl _ _ (by rw [t_nl]; decide) (kind_ok (by decide +kernel)), t_nl, hsrc, spl_join hne hno]
    revert hrs
    generalize Txt.split src (Str.ofString "\n") = rs at *
    intro hrs
    have B2 := B1.new hrp (.lst (rs.map V.str))
    have lrp : l ≠ rp := ne_of_none upd_same hrp
    have hlen : rs.length = rows.length := by rw [← hrs, List.length_map]
    have hlen2 : qss.length = rows.length := (Paired.len hP).symm
    refine ⟨_, rfl, rp, _, rfl, SqL.of upd_same, for_it (walk_enum (K := K) (a := rp) (xs := rs.map V.str)) (fun i σ H' => ∃ (G' : Hp) (vs : List V) (v3 v4 v5 v6 : Option V), σ = [some (.str src), some (.ref l), some (.ref rp), v3, v4, v5, v6] ∧ Pt G H G' H' ∧ G' l = none ∧ G' rp = some (.lst (rs.map V.str)) ∧ H' l = some (.lst vs) ∧ ToksP a.C_Token G' vs (posT 0 (qss.take i))) ?_ ?_ ?_ ?_⟩
    · refine ⟨_, [], none, none, none, none, rfl, B2, ?_, upd_same, ?_, .nil⟩
      · rw [upd_ne lrp]; exact lG
      · rw [upd_ne lrp, upd_same]
    · rintro i σ H' _ ⟨G', vs, v3, v4, v5, v6, rfl, B, _, hrp', _⟩
      exact SqL.of (B.s _ _ hrp')
    · rintro i y σ H1 H2 hi ⟨G', vs, v3, v4, v5, v6, rfl, B, lG', hrp', hvs, htk⟩ ⟨T', x, z, rfl, hT', rfl, hx, hz⟩
      rw [List.length_map] at hi
      cases hx
      obtain ⟨row, hrow, rfl⟩ : ∃ row, rs[i]? = some row ∧ z = .str row := by
        have hz : (rs.map V.str)[i]? = some z := hz
        rw [List.getElem?_map] at hz
        cases e : rs[i]? with
        | none => rw [e] at hz; cases hz
        | some q => rw [e] at hz; exact ⟨q, rfl, (Option.some.inj hz).symm⟩
      have hrow2 : rows[i]? = some (tl row) := by rw [← hrs, List.getElem?_map, hrow]; rfl
      have hr30 : (tl row).length ≤ 3000 := hrl _ (List.mem_of_getElem? hrow2)
      obtain ⟨ts, hts, hLx⟩ := paired_get hP hrow2
      have hz' : row.length ≤ sizeLine := small 3000 (by rw [len_tl]; exact hr30) (by decide)
      have B3 := B.lay hT' (.tup [.int (i : Nat), .str row])
      have lT : l ≠ T' := ne_of_none hvs hT'
      refine ⟨T', _, rfl, SqT.of upd_same, rfl, _, _, rfl, _, _, rfl, rfl, ?_⟩
      -- the row
      refine while_by (fun σ H' => ∃ (c : Nat) (G' : Hp) (vs : List V) (done rem : List (Tk × Nat)) (v6 : Option V), σ = [some (.str src), some (.ref l), some (.ref rp), some (.int (i : Nat)), some (.str row), some (.int c), v6] ∧ Pt G H G' H' ∧ G' l = none ∧ G' rp = some (.lst (rs.map V.str)) ∧ H' l = some (.lst vs) ∧
          ToksP a.C_Token G' vs (posT 0 (qss.take i) ++ done.map (fun z => (z.1, i, z.2))) ∧ ts = done ++ rem ∧ c ≤ (tl row).length ∧ LxC c ((tl row).drop c) rem)
        (fun σ _ => match σ with | [_, _, _, _, _, some (.int e), _] => (tl row).length - e.toNat | _ => 0)
        ⟨0, G', vs, [], ts, _, rfl, B3, lG', hrp', by rw [upd_ne lT]; exact hvs, by rw [List.map_nil, List.append_nil]; exact htk, rfl, Nat.zero_le _, hLx⟩ ?_ ?_
      · rintro σ H3 ⟨c, G3, vs3, done, rem, w6, rfl, C3, lG3, hrp3, hvs3, htk3, hdr, hc, hL⟩
        refine ⟨_, rfl, _, rfl, row, rfl, hz', _, _, rfl, rfl, _, rfl, ?_⟩
        refine ite2 (fun q => ?_) (fun q => ?_)
        · have q1 : c < (tl row).length := by
            have := of_decide_eq_true q
            rw [len_tl] at this
            omega
          have q2 : (tl row)[c]? = some ((tl row)[c]) := List.getElem?_eq_getElem q1
          have q3 : (tl row).drop c = (tl row)[c] :: (tl row).drop (c + 1) := List.drop_eq_getElem_cons q1
          refine ⟨_, rfl, _, rfl, row, _, (tl row)[c], rfl, rfl, hz', atI_nat q2, _, _, rfl, rfl, _, rfl, ?_⟩
          have hL0 := hL
          rw [q3] at hL0
          generalize hch : (tl row)[c] = ch at hL0 q3 ⊢
          cases hL0 with
          | sp hL1 =>
            refine ite_t (decide_eq_true (show 32 ∈ tl spcS by rw [spc_list]; decide)) ?_
            refine ⟨_, rfl, _, _, rfl, rfl, ⟨c + 1, G3, vs3, done, rem, _, rfl, C3, lG3, hrp3, hvs3, htk3, hdr, by omega, hL1⟩, ?_⟩
            show (tl row).length - ((c : Int) + 1).toNat < (tl row).length - ((c : Int)).toNat
            omega
          | @tok _ _ r tk rem' hR hL1 =>
            refine ite_f (decide_eq_false (nsp_rd hR)) ?_
            obtain ⟨hsp, hnt⟩ := rd_len hR
            have hR' : Rd ((tl row).drop c) tk r := by rw [q3]; exact hR
            refine ⟨_, rfl, _, rfl, _, rfl, ⟨row, i, c, G3, tk, r, rfl, by omega, hr30, hR', C3.s, fun G4 H4 v e4 s4 htok => ?_⟩⟩
            have C4 := C3.call e4 s4
            have hvs4 : H4 l = some (.lst vs3) := s4 _ _ hvs3
            have lG4 : G4 l = none := e4.out lG3 hvs3
            obtain ⟨p, dx, rfl, hp⟩ := id htok
            have hpH : H4 p = some (.ins a.C_Token dx (tokF tk i c)) := e4.h _ _ hp
            have lp : p ≠ l := ne_of_none hp lG4
            have hsz : vs3.length ≤ 100000 := by
              rw [Paired.len htk3, List.length_append, List.length_map]
              have h1 := posT_le (qss := qss) (i + 1)
              rw [posT_take hts, List.length_append, List.length_map, hdr, List.length_append] at h1
              omega
            refine ⟨_, rfl, .inl ⟨rfl, _, SqL.of hvs4⟩, _, rfl, l, _, _, rfl, rfl, hvs4, smaller 100000 hsz (by decide), ?_⟩
            have htl : tk.t.length + c ≤ (tl row).length := by
              have := congrArg List.length (q3.trans hsp)
              rw [List.length_drop, List.length_append] at this
              omega
            have hpos : 1 ≤ tk.t.length := by
              cases e : tk.t with
              | nil => exact absurd e hnt
              | cons _ _ => simp
            have ecol : (c : Int) + ((mkS tk.t).length : Int) = ((c + tk.t.length : Nat) : Int) := by rw [len_mkS]; omega
            refine ⟨_, rfl, _, rfl, p, _, dx, _, _, rfl, by rw [upd_ne lp]; exact hpH, T.cl_Token, T.n_Token_text, (by kernel_rfl), mkS tk.t, rfl, small 3000 (by rw [len_mkS]; omega) (by decide), _, _, rfl, rfl, ?_⟩
            refine ⟨⟨c + tk.t.length, G4, vs3 ++ [.ref p], done ++ [(tk, c)], rem', some (.ref p), ?_, C4.put hl lG4 _, lG4, e4.g _ _ hrp3, upd_same, ?_, ?_, by omega, ?_⟩, ?_⟩
            · show [some (V.str src), some (.ref l), some (.ref rp), some (.int (i : Nat)), some (.str row), some (.int ((c : Int) + ((mkS tk.t).length : Int))), some (.ref p)] = _
              rw [ecol]
            · rw [List.map_append, ← List.append_assoc]
              exact Paired.snoc (ToksP.mono e4.g htk3) htok
            · rw [hdr, List.append_assoc]; rfl
            · have : (tl row).drop (c + tk.t.length) = r := by
                rw [← List.drop_drop, q3, hsp, List.drop_left]
              rw [this]
              exact hL1
            · show (tl row).length - ((c : Int) + ((mkS tk.t).length : Int)).toNat < (tl row).length - ((c : Int)).toNat
              rw [ecol]
              omega
        · have q1 : ¬ (c : Int) < ((row.length : Nat) : Int) := fun z => q (decide_eq_true z)
          rw [len_tl] at q1
          have ec : (tl row).drop c = [] := List.drop_eq_nil_of_le (by omega)
          rw [ec] at hL
          have er : rem = [] := by
            generalize e0 : ([] : List Nat) = m at hL
            cases hL with
            | nil => rfl
            | sp _ => cases e0
            | tok hR _ =>
              obtain ⟨h1, h2⟩ := rd_len hR
              rw [← e0] at h1
              exact absurd (List.append_eq_nil_iff.mp h1.symm).1 h2
          refine ⟨G3, vs3, _, _, _, _, rfl, C3, lG3, hrp3, hvs3, ?_⟩
          rw [posT_take hts, hdr, er, List.append_nil, Nat.zero_add]
          exact htk3
      · intro σ H Q Q' hq h
        obtain ⟨v, hv, x, hx, z, e, hz, i, j, e1, e2, b, e3, h⟩ := h
        exact ⟨v, hv, x, hx, z, e, hz, i, j, e1, e2, b, e3, hq _ _ h⟩
    · rintro σ H3 ⟨G3, vs3, v3, v4, v5, v6, rfl, C3, lG3, hrp3, hvs3, htk3⟩
      rw [List.length_map, hlen, ← hlen2, List.take_length] at htk3
      refine ⟨_, rfl, _, rfl, rp, _, rfl, .inl (SqL.of (C3.s _ _ hrp3)), fun x dx nx nd ne => init_go2 rfl ⟨rfl, ?_⟩⟩
      have C4 := C3.make nx nd ne (.ins a.C_Token dx ((["kind", "text", "line", "column"] : List Str).zip [.str (kS .fin), .str (Str.ofString ""), .int ((rs.map V.str).length : Nat), .int ((0 : Nat) : Int)]))
      have lx : l ≠ x := ne_of_none hvs3 nx
      have ldx : l ≠ dx := ne_of_none hvs3 nd
      refine ⟨(by show 1 ≤ sizeLine; decide), fun p1 hp1 => ?_⟩
      have C5 := C4.lay hp1 (.lst [.ref x])
      have lp1 : l ≠ p1 := fun e => by rw [← e, upd_ne lx, upd_ne ldx, hvs3] at hp1; cases hp1
      have hsz : vs3.length ≤ 100000 := by rw [Paired.len htk3]; exact hfl
      refine ⟨l, p1, vs3, _, rfl, rfl, by rw [upd_ne lp1, upd_ne lx, upd_ne ldx]; exact hvs3, upd_same, small 100001 (by show vs3.length + 1 ≤ _; omega) (by decide), fun p2 hp2 => ?_⟩
      have C6 := C5.new hp2 (.lst (vs3 ++ [.ref x]))
      refine k _ _ _ C6.ext C6.sm ⟨p2, _, rfl, upd_same, Paired.snoc (ToksP.mono ((same_make (C3.freeG nx) (C3.freeG nd) ne _).trans (same_new (C5.freeG hp2))) htk3) (by rw [← hlen, ← List.length_map (f := V.str)]; exact TokP.mono (same_new (C5.freeG hp2)) (tok_mk (c := 0) (k := .fin) rfl t_e))⟩
theorem ok_tokenize (T : Txt K mg a) : FnOk P w K mg base CX0 4 a.f_tokenize a.d_tokenize ["source"] (spTokenize a.C_Token) :=
  (ok_tokenizeP T).imp fun vs H Q E h => by
    obtain ⟨⟨src, G, rows, tss, rfl, h1, h2, h3, h4, h5, hP, hl, hGH, k⟩⟩ := h
    have cols : ∀ {rows : List (List Nat)} {tss : List (List Tk)}, Paired Lx rows tss → ∃ qss : List (List (Tk × Nat)), Paired (LxC 0) rows qss ∧ qss.map (fun q => q.map (·.1)) = tss := fun {rows tss} h => by
      induction h with
      | nil => exact ⟨[], .nil, rfl⟩
      | cons r _ ih =>
        obtain ⟨qs, z1, z2⟩ := r.col 0
        obtain ⟨qss, z3, z4⟩ := ih
        exact ⟨qs :: qss, .cons z1 z3, by rw [List.map_cons, z2, z4]⟩
    obtain ⟨qss, q1, q2⟩ := cols hP
    have e : (posT 0 qss).map (·.1) = tss.flatten := by rw [posT_fst, q2]
    refine ⟨⟨src, G, rows, qss, rfl, h1, h2, h3, h4, h5, q1, by rw [← List.length_map (f := (·.1)), e]; exact hl, hGH, fun G' H' v x s ⟨p, vs, ev, hp, hv⟩ => k G' H' v x s ⟨p, vs, ev, hp, ?_⟩⟩⟩
    have z := hv.toks
    rw [List.map_append, e] at z
    exact z
end
end Sb

namespace Sb
open PySem PySem.Spec PyProof.Rows L2
/-! ### what the robots do, in plain Lean -/
structure Sit where
  cs : List Nat
  ns : List Nat
  hs : List Bool
  sh : List Nat
  deriving DecidableEq
def stepsOf (x : Pl) (i : Nat) : List Step := if i = 0 then x.p else x.q
/-- the number of what is done: a word's, or 8 for blocked -/
def actP (x : Pl) (s : Sit) (i : Nat) : Nat × Sit :=
  let st := (stepsOf x i).getD (s.ns.getD i 0) ⟨4, none⟩
  let c := s.cs.getD i 0
  let h := s.hs.getD i false
  let b := s.sh.getD c 0
  let go (c' : Nat) (h' : Bool) (sh' : List Nat) : Nat × Sit :=
    let n' := if st.w = 5 ∨ (st.w = 6 ∧ sh'.getD c' 0 = 0) ∨ (st.w = 7 ∧ h' = true) then st.g.getD 0 else (s.ns.getD i 0 + 1) % (stepsOf x i).length
    (st.w, ⟨s.cs.set i c', s.ns.set i n', s.hs.set i h', sh'⟩)
  match st.w with
  | 0 => if c = 0 ∨ c - 1 ∈ s.cs then (8, s) else go (c - 1) h s.sh
  | 1 => if s.sh.length ≤ c + 1 ∨ c + 1 ∈ s.cs then (8, s) else go (c + 1) h s.sh
  | 2 => if h = true ∨ b = 0 then (8, s) else go c true (s.sh.set c (b - 1))
  | 3 => if h = false ∨ 3 ≤ b then (8, s) else go c false (s.sh.set c (b + 1))
  | _ => go c h s.sh
def tickP (x : Pl) (s : Sit) : (Nat × Nat) × Sit :=
  let a := actP x s 0
  let b := actP x a.2 1
  ((a.1, b.1), b.2)
def sit0 (x : Pl) : Sit := ⟨[x.a, x.b], [0, 0], [false, false], x.shelf⟩
def sitAt (x : Pl) : Nat → Sit
  | 0 => sit0 x
  | n + 1 => (tickP x (sitAt x n)).2
structure SitOk (x : Pl) (s : Sit) : Prop where
  c2 : s.cs.length = 2
  n2 : s.ns.length = 2
  h2 : s.hs.length = 2
  len : s.sh.length = x.shelf.length
  b3 : ∀ n ∈ s.sh, n ≤ 3
  cl : ∀ i, i < 2 → s.cs.getD i 0 < s.sh.length
  ne : s.cs.getD 0 0 ≠ s.cs.getD 1 0
  nl : ∀ i, i < 2 → s.ns.getD i 0 < (stepsOf x i).length
theorem sit0_ok {x : Pl} (h : x.Ok) : SitOk x (sit0 x) := by
  refine ⟨rfl, rfl, rfl, rfl, h.b3, fun i hi => ?_, h.ne, fun i hi => ?_⟩
  · match i, hi with
    | 0, _ => exact h.ha
    | 1, _ => exact h.hb
    | i + 2, hi => exact absurd hi (by omega)
  · match i, hi with
    | 0, _ => exact h.p.pos
    | 1, _ => exact h.q.pos
    | i + 2, hi => exact absurd hi (by omega)
theorem getD_set {α : Type} {l : List α} {i j : Nat} {v d : α} (hi : i < l.length) : (l.set i v).getD j d = if j = i then v else l.getD j d := by
  rw [List.getD_eq_getElem?_getD, List.getD_eq_getElem?_getD]
  by_cases h : j = i
  · subst h
    rw [if_pos rfl, List.getElem?_set_self hi]
    rfl
  · rw [if_neg h, List.getElem?_set_ne (Ne.symm h)]
theorem mem_cs {s : Sit} (h : s.cs.length = 2) {n : Nat} : n ∈ s.cs ↔ n = s.cs.getD 0 0 ∨ n = s.cs.getD 1 0 := by
  match hc : s.cs, h with
  | [a, b], _ => simp
/-- a state after a step that is done -/
theorem go_ok {x : Pl} {s : Sit} {i c' n' : Nat} {h' : Bool} {sh' : List Nat} (o : SitOk x s) (hi : i < 2) (hc : c' < s.sh.length) (hne : ∀ j, j < 2 → j ≠ i → s.cs.getD j 0 ≠ c') (hn : n' < (stepsOf x i).length) (hl : sh'.length = s.sh.length) (hb : ∀ n ∈ sh', n ≤ 3) :
    SitOk x ⟨s.cs.set i c', s.ns.set i n', s.hs.set i h', sh'⟩ := by
  have i1 : i < s.cs.length := by rw [o.c2]; exact hi
  have i2 : i < s.ns.length := by rw [o.n2]; exact hi
  refine ⟨by rw [List.length_set]; exact o.c2, by rw [List.length_set]; exact o.n2, by rw [List.length_set]; exact o.h2, hl.trans o.len, hb, fun j hj => ?_, ?_, fun j hj => ?_⟩
  · show (s.cs.set i c').getD j 0 < sh'.length
    rw [getD_set i1, hl]
    split
    · exact hc
    · exact o.cl j hj
  · show (s.cs.set i c').getD 0 0 ≠ (s.cs.set i c').getD 1 0
    rw [getD_set i1, getD_set i1]
    match i, hi with
    | 0, _ => exact fun e => hne 1 (by decide) (by decide) e.symm
    | 1, _ => exact fun e => hne 0 (by decide) (by decide) e
    | i + 2, hi => exact absurd hi (by omega)
  · show (s.ns.set i n').getD j 0 < _
    rw [getD_set i2]
    by_cases h : j = i
    · rw [if_pos h, h]; exact hn
    · rw [if_neg h]; exact o.nl j hj
theorem steps_ok {x : Pl} (h : x.Ok) (i : Nat) : StepsOk (stepsOf x i) := by
  unfold stepsOf
  split
  · exact h.p
  · exact h.q
theorem act_ok {x : Pl} {s : Sit} {i : Nat} (hx : x.Ok) (o : SitOk x s) (hi : i < 2) : SitOk x (actP x s i).2 := by
  have so := steps_ok hx i
  have nl := o.nl i hi
  have cl := o.cl i hi
  have hpos := so.pos
  have hst : (stepsOf x i).getD (s.ns.getD i 0) ⟨4, none⟩ ∈ stepsOf x i := by
    rw [List.getD_eq_getElem?_getD, List.getElem?_eq_getElem nl]
    exact List.getElem_mem _
  have ok := so.all _ hst
  unfold actP
  generalize (stepsOf x i).getD (s.ns.getD i 0) ⟨4, none⟩ = st at ok
  have hb3 : s.sh.getD (s.cs.getD i 0) 0 ≤ 3 := by
    rw [List.getD_eq_getElem?_getD, List.getElem?_eq_getElem cl]
    exact o.b3 _ (List.getElem_mem _)
  have hn : ∀ (p : Prop) [Decidable p], (p → 5 ≤ st.w) → (if p then st.g.getD 0 else (s.ns.getD i 0 + 1) % (stepsOf x i).length) < (stepsOf x i).length := fun p _ hp => by
    split
    · rename_i hp'
      obtain ⟨k, e, hk⟩ := ok.yes (hp hp')
      rw [e]
      exact hk
    · exact Nat.mod_lt _ (by omega)
  have other : ∀ j, j < 2 → j ≠ i → s.cs.getD j 0 ≠ s.cs.getD i 0 := fun j hj hji => by
    match i, hi, j, hj with
    | 0, _, 0, _ => exact absurd rfl hji
    | 0, _, 1, _ => exact fun e => o.ne e.symm
    | 1, _, 0, _ => exact o.ne
    | 1, _, 1, _ => exact absurd rfl hji
  have mem : ∀ j, j < 2 → s.cs.getD j 0 ∈ s.cs := fun j hj => by
    rw [mem_cs o.c2]
    match j, hj with
    | 0, _ => exact .inl rfl
    | 1, _ => exact .inr rfl
  have setb : ∀ v, v ≤ 3 → ∀ n ∈ s.sh.set (s.cs.getD i 0) v, n ≤ 3 := fun v hv n hn => by
    rcases List.mem_or_eq_of_mem_set hn with h | h
    · exact o.b3 n h
    · rw [h]; exact hv
  have gp : ∀ {sh' : List Nat} {c' : Nat} {h' : Bool}, (st.w = 5 ∨ (st.w = 6 ∧ sh'.getD c' 0 = 0) ∨ (st.w = 7 ∧ h' = true)) → 5 ≤ st.w := fun h => by
    rcases h with h | h | h <;> omega
  dsimp only
  split
  · split
    · exact o
    · rename_i hc
      simp only [not_or] at hc
      exact go_ok o hi (by omega) (fun j hj hji e => hc.2 (by rw [← e]; exact mem j hj)) (hn _ gp) rfl o.b3
  · split
    · exact o
    · rename_i hc
      simp only [not_or] at hc
      exact go_ok o hi (by omega) (fun j hj hji e => hc.2 (by rw [← e]; exact mem j hj)) (hn _ gp) rfl o.b3
  · split
    · exact o
    · exact go_ok o hi cl other (hn _ gp) (List.length_set ..) (setb _ (by omega))
  · split
    · exact o
    · rename_i hc
      simp only [not_or] at hc
      exact go_ok o hi cl other (hn _ gp) (List.length_set ..) (setb _ (by omega))
  · exact go_ok o hi cl other (hn _ gp) rfl o.b3
theorem tick_ok {x : Pl} {s : Sit} (hx : x.Ok) (o : SitOk x s) : SitOk x (tickP x s).2 := act_ok hx (act_ok hx o (by decide)) (by decide)
theorem sitAt_ok {x : Pl} (hx : x.Ok) : ∀ n, SitOk x (sitAt x n)
  | 0 => sit0_ok hx
  | n + 1 => tick_ok hx (sitAt_ok hx n)
end Sb

namespace Sb
open PySem PySem.Spec PyProof.Rows L2
/-! ### when a state comes again -/
theorem sit_shift {x : Pl} {i j : Nat} (h : sitAt x i = sitAt x j) : ∀ k, sitAt x (i + k) = sitAt x (j + k)
  | 0 => h
  | k + 1 => by
    show (tickP x (sitAt x (i + k))).2 = (tickP x (sitAt x (j + k))).2
    rw [sit_shift h k]
theorem sit_rounds {x : Pl} {i p : Nat} (h : sitAt x i = sitAt x (i + p)) : ∀ m, sitAt x i = sitAt x (i + p * m)
  | 0 => rfl
  | m + 1 => by
    have := sit_shift h (p * m)
    rw [Nat.mul_succ, ← sit_rounds h m] at *
    rw [this]
    congr 1
    omega
/-- from the start i on all repeats after n - i ticks -/
theorem sit_mod {x : Pl} {i n t : Nat} (hin : i < n) (h : sitAt x i = sitAt x n) (ht : i ≤ t) : sitAt x t = sitAt x (i + (t - i) % (n - i)) := by
  have h' : sitAt x i = sitAt x (i + (n - i)) := by rw [h]; congr 1; omega
  have r := sit_rounds h' ((t - i) / (n - i))
  have s := sit_shift r ((t - i) % (n - i))
  rw [s]
  congr 1
  have := Nat.div_add_mod (t - i) (n - i)
  omega
/-- the first n states differ, the n-th is the one at i -/
structure Cyc (x : Pl) (i n : Nat) : Prop where
  lt : i < n
  eq : sitAt x i = sitAt x n
  nd : ∀ j k, j < n → k < n → sitAt x j = sitAt x k → j = k
theorem Cyc.uniq {x : Pl} {i n i' n' : Nat} (a : Cyc x i n) (b : Cyc x i' n') : i = i' ∧ n = n' := by
  have hn : n = n' := by
    rcases Nat.lt_trichotomy n n' with h | h | h
    · have := b.nd i n (by have := a.lt; omega) h a.eq
      have := a.lt
      omega
    · exact h
    · have := a.nd i' n' (by have := b.lt; omega) h b.eq
      have := b.lt
      omega
  subst hn
  exact ⟨a.nd i i' a.lt b.lt (a.eq.trans b.eq.symm), rfl⟩
end Sb

namespace Sb
open PySem PySem.Spec PyProof.Rows L2
/-! ### one step, way by way -/
def stOf (x : Pl) (s : Sit) (i : Nat) : Step := (stepsOf x i).getD (s.ns.getD i 0) ⟨4, none⟩
def cOf (s : Sit) (i : Nat) : Nat := s.cs.getD i 0
abbrev jumpP (x : Pl) (s : Sit) (i : Nat) (hs' : List Bool) (sh' : List Nat) : Prop := (stOf x s i).w = 5 ∨ ((stOf x s i).w = 6 ∧ sh'.getD (cOf s i) 0 = 0) ∨ ((stOf x s i).w = 7 ∧ hs'.getD i false = true)
def nextP (x : Pl) (s : Sit) (i : Nat) (hs' : List Bool) (sh' : List Nat) : Nat := if jumpP x s i hs' sh' then (stOf x s i).g.getD 0 else (s.ns.getD i 0 + 1) % (stepsOf x i).length
def finP (x : Pl) (s : Sit) (i : Nat) (cs' : List Nat) (hs' : List Bool) (sh' : List Nat) : Nat × Sit := ((stOf x s i).w, ⟨cs', s.ns.set i (nextP x s i hs' sh'), hs', sh'⟩)
theorem set_same {α : Type} {l : List α} {i : Nat} {d : α} : l.set i (l.getD i d) = l := by
  by_cases h : i < l.length
  · rw [List.getD_eq_getElem?_getD, List.getElem?_eq_getElem h]
    exact List.set_getElem_self h
  · rw [List.set_eq_of_length_le (by omega)]
section
variable {x : Pl} {s : Sit} {i : Nat}
theorem act_left (h : (stOf x s i).w = 0) : actP x s i = if cOf s i = 0 ∨ cOf s i - 1 ∈ s.cs then (8, s) else finP x s i (s.cs.set i (cOf s i - 1)) s.hs s.sh := by
  unfold actP finP nextP jumpP cOf
  unfold stOf at h ⊢
  generalize (stepsOf x i).getD (s.ns.getD i 0) ⟨4, none⟩ = st at h ⊢
  obtain ⟨w, g⟩ := st
  dsimp only at h
  subst h
  dsimp only
  simp only [set_same, show ¬ ((0 : Nat) = 5) by decide, show ¬ ((0 : Nat) = 6) by decide, show ¬ ((0 : Nat) = 7) by decide, false_and, false_or, or_false, if_false]
theorem act_right (h : (stOf x s i).w = 1) : actP x s i = if s.sh.length ≤ cOf s i + 1 ∨ cOf s i + 1 ∈ s.cs then (8, s) else finP x s i (s.cs.set i (cOf s i + 1)) s.hs s.sh := by
  unfold actP finP nextP jumpP cOf
  unfold stOf at h ⊢
  generalize (stepsOf x i).getD (s.ns.getD i 0) ⟨4, none⟩ = st at h ⊢
  obtain ⟨w, g⟩ := st
  dsimp only at h
  subst h
  dsimp only
  simp only [set_same, show ¬ ((1 : Nat) = 5) by decide, show ¬ ((1 : Nat) = 6) by decide, show ¬ ((1 : Nat) = 7) by decide, false_and, false_or, or_false, if_false]
theorem act_pick (h : (stOf x s i).w = 2) : actP x s i = if s.hs.getD i false = true ∨ s.sh.getD (cOf s i) 0 = 0 then (8, s) else finP x s i s.cs (s.hs.set i true) (s.sh.set (cOf s i) (s.sh.getD (cOf s i) 0 - 1)) := by
  unfold actP finP nextP jumpP cOf
  unfold stOf at h ⊢
  generalize (stepsOf x i).getD (s.ns.getD i 0) ⟨4, none⟩ = st at h ⊢
  obtain ⟨w, g⟩ := st
  dsimp only at h
  subst h
  dsimp only
  simp only [set_same, show ¬ ((2 : Nat) = 5) by decide, show ¬ ((2 : Nat) = 6) by decide, show ¬ ((2 : Nat) = 7) by decide, false_and, false_or, or_false, if_false]
theorem act_put (h : (stOf x s i).w = 3) : actP x s i = if s.hs.getD i false = false ∨ 3 ≤ s.sh.getD (cOf s i) 0 then (8, s) else finP x s i s.cs (s.hs.set i false) (s.sh.set (cOf s i) (s.sh.getD (cOf s i) 0 + 1)) := by
  unfold actP finP nextP jumpP cOf
  unfold stOf at h ⊢
  generalize (stepsOf x i).getD (s.ns.getD i 0) ⟨4, none⟩ = st at h ⊢
  obtain ⟨w, g⟩ := st
  dsimp only at h
  subst h
  dsimp only
  simp only [set_same, show ¬ ((3 : Nat) = 5) by decide, show ¬ ((3 : Nat) = 6) by decide, show ¬ ((3 : Nat) = 7) by decide, false_and, false_or, or_false, if_false]
theorem act_else (h : 4 ≤ (stOf x s i).w) : actP x s i = finP x s i s.cs s.hs s.sh := by
  unfold actP finP nextP jumpP cOf
  unfold stOf at h ⊢
  dsimp only
  split
  · omega
  · omega
  · omega
  · omega
  · rw [set_same, set_same]
end
theorem st_mem {x : Pl} {s : Sit} {i : Nat} (o : SitOk x s) (hi : i < 2) : (stepsOf x i)[s.ns.getD i 0]? = some (stOf x s i) ∧ stOf x s i ∈ stepsOf x i := by
  have nl := o.nl i hi
  have e : (stepsOf x i)[s.ns.getD i 0]? = some (stOf x s i) := by
    unfold stOf
    rw [List.getD_eq_getElem?_getD (l := stepsOf x i), List.getElem?_eq_getElem nl]
    rfl
  exact ⟨e, List.mem_of_getElem? e⟩
theorem st_ok {x : Pl} {s : Sit} {i : Nat} (hx : x.Ok) (o : SitOk x s) (hi : i < 2) : Step.Ok (stepsOf x i).length (stOf x s i) := (steps_ok hx i).all _ (st_mem o hi).2
theorem next_lt {x : Pl} {s : Sit} {i : Nat} {hs' : List Bool} {sh' : List Nat} (hx : x.Ok) (o : SitOk x s) (hi : i < 2) : nextP x s i hs' sh' < (stepsOf x i).length := by
  have ok := st_ok hx o hi
  have pos := (steps_ok hx i).pos
  unfold nextP
  split
  · rename_i h
    have h5 : 5 ≤ (stOf x s i).w := by unfold jumpP at h; rcases h with h | h | h <;> omega
    obtain ⟨k, e, hk⟩ := ok.yes h5
    rw [e]; exact hk
  · exact Nat.mod_lt _ (by omega)
/-- the other robot's cell -/
theorem mem_other {x : Pl} {s : Sit} {i n : Nat} (o : SitOk x s) (hi : i < 2) (hn : n ≠ cOf s i) : n ∈ s.cs ↔ n = s.cs.getD (1 - i) 0 := by
  rw [mem_cs o.c2]
  unfold cOf at hn
  match i, hi with
  | 0, _ => exact ⟨fun h => h.resolve_left hn, .inr⟩
  | 1, _ => exact ⟨fun h => h.resolve_right hn, .inl⟩
/-! ### what is done, as a text -/
def doS (w : Nat) : Str := if w = 8 then "blocked" else wS w
theorem doS8 : doS 8 = "blocked" := rfl
theorem doS_lt {w : Nat} (h : w < 8) : doS w = wS w := if_neg (by omega)
theorem act_w {x : Pl} {s : Sit} {i : Nat} (hx : x.Ok) (o : SitOk x s) (hi : i < 2) : (actP x s i).1 ≤ 8 := by
  have w8 := (st_ok hx o hi).w8
  match h : (stOf x s i).w with
  | 0 => rw [act_left h]; split; exact Nat.le_refl 8; show (stOf x s i).w ≤ 8; omega
  | 1 => rw [act_right h]; split; exact Nat.le_refl 8; show (stOf x s i).w ≤ 8; omega
  | 2 => rw [act_pick h]; split; exact Nat.le_refl 8; show (stOf x s i).w ≤ 8; omega
  | 3 => rw [act_put h]; split; exact Nat.le_refl 8; show (stOf x s i).w ≤ 8; omega
  | n + 4 => rw [act_else (by omega)]; show (stOf x s i).w ≤ 8; omega
/-! ### a state as data of the law: four lists -/
def natsD (l : List Nat) : PyData := .list (l.map natD)
def boolsD (l : List Bool) : PyData := .list (l.map PyData.bool)
def sitL (s : Sit) : PyData := .list [natsD s.cs, natsD s.ns, boolsD s.hs, natsD s.sh]
def wordsD (w : Nat × Nat) : PyData := .tuple [.str (doS w.1), .str (doS w.2)]
abbrev nV (l : List Nat) : List V := l.map fun n : Nat => V.int n
abbrev bV (l : List Bool) : List V := l.map V.bl
section
variable {K : PySem.W.Frag} {G : Hp}
theorem bools_D (l : List Bool) : DpAll K G (bV l) (l.map PyData.bool) := by
  induction l with
  | nil => exact .nil
  | cons n l ih => exact .cons (.bl _) ih
theorem bools_inv : ∀ {l : List Bool} {vs : List V}, DpAll K G vs (l.map PyData.bool) → vs = bV l
  | [], _, .nil => rfl
  | _ :: _, _, .cons h t => by rw [Dp.bool_inv h, bools_inv t]; rfl
theorem nats_D' (l : List Nat) : DpAll K G (nV l) (l.map natD) := by
  induction l with
  | nil => exact .nil
  | cons n l ih => exact .cons (.int _) ih
theorem nats_inv' : ∀ {l : List Nat} {vs : List V}, DpAll K G vs (l.map natD) → vs = nV l
  | [], _, .nil => rfl
  | _ :: _, _, .cons h t => by rw [Dp.int_inv h, nats_inv' t]; rfl
theorem natsD_inv {l : List Nat} {v : V} (h : Dp K G v (natsD l)) : ∃ a, v = .ref a ∧ SqL K G a (nV l) := by
  obtain ⟨a, xs, e, h1, h2⟩ := Dp.lst_inv h
  rw [nats_inv' h2] at h1
  exact ⟨a, e, h1⟩
theorem boolsD_inv {l : List Bool} {v : V} (h : Dp K G v (boolsD l)) : ∃ a, v = .ref a ∧ SqL K G a (bV l) := by
  obtain ⟨a, xs, e, h1, h2⟩ := Dp.lst_inv h
  rw [bools_inv h2] at h1
  exact ⟨a, e, h1⟩
theorem sitL_inv {s : Sit} {v : V} (h : Dp K G v (sitL s)) : ∃ a c n b e, v = .ref a ∧ SqL K G a [.ref c, .ref n, .ref b, .ref e] ∧ SqL K G c (nV s.cs) ∧ SqL K G n (nV s.ns) ∧ SqL K G b (bV s.hs) ∧ SqL K G e (nV s.sh) := by
  obtain ⟨a, xs, e, h1, h2⟩ := Dp.lst_inv h
  obtain ⟨v1, r, rfl, d1, h2⟩ := DpAll.cons_inv h2
  obtain ⟨v2, r, rfl, d2, h2⟩ := DpAll.cons_inv h2
  obtain ⟨v3, r, rfl, d3, h2⟩ := DpAll.cons_inv h2
  obtain ⟨v4, r, rfl, d4, h2⟩ := DpAll.cons_inv h2
  rw [DpAll.nil_inv h2] at h1
  obtain ⟨c, rfl, c1⟩ := natsD_inv d1
  obtain ⟨n, rfl, n1⟩ := natsD_inv d2
  obtain ⟨b, rfl, b1⟩ := boolsD_inv d3
  obtain ⟨f, rfl, f1⟩ := natsD_inv d4
  exact ⟨a, c, n, b, f, e, h1, c1, n1, b1, f1⟩
theorem sitL_mk {s : Sit} {a c n b e : Addr} (h : SqL K G a [.ref c, .ref n, .ref b, .ref e]) (h1 : SqL K G c (nV s.cs)) (h2 : SqL K G n (nV s.ns)) (h3 : SqL K G b (bV s.hs)) (h4 : SqL K G e (nV s.sh)) : Dp K G (.ref a) (sitL s) :=
  .lst h (.cons (.lst h1 (nats_D' _)) (.cons (.lst h2 (nats_D' _)) (.cons (.lst h3 (bools_D _)) (.cons (.lst h4 (nats_D' _)) .nil))))
end
theorem nV_at {l : List Nat} {i : Nat} (h : i < l.length) : (nV l)[i]? = some (.int (l.getD i 0 : Nat)) := by
  rw [List.getElem?_map, List.getElem?_eq_getElem h, List.getD_eq_getElem?_getD, List.getElem?_eq_getElem h]
  rfl
theorem bV_at {l : List Bool} {i : Nat} (h : i < l.length) : (bV l)[i]? = some (.bl (l.getD i false)) := by
  rw [List.getElem?_map, List.getElem?_eq_getElem h, List.getD_eq_getElem?_getD, List.getElem?_eq_getElem h]
  rfl
theorem nV_set {l : List Nat} {i n : Nat} : (nV l).set i (.int (n : Nat)) = nV (l.set i n) := by rw [nV, nV, List.map_set]
theorem bV_set {l : List Bool} {i : Nat} {b : Bool} : (bV l).set i (.bl b) = bV (l.set i b) := by rw [bV, bV, List.map_set]
end Sb

namespace Sb
open PySem PySem.Spec PyProof.Rows L2
/-! ### dicts whose keys are nested tuples -/
mutual
inductive Nk : PyData → NestedKey → Prop
  | int (i : Int) : Nk (.int i) (.num i)
  | bool (b : Bool) : Nk (.bool b) (.num (if b = true then 1 else 0))
  | none : Nk .none .none
  | text (x : Str) : Nk (.str x) (.text x)
  | tup {ds : List PyData} {ks : List NestedKey} : NkAll ds ks → Nk (.tuple ds) (.tup ks)
inductive NkAll : List PyData → List NestedKey → Prop
  | nil : NkAll [] []
  | cons {d : PyData} {k : NestedKey} {ds : List PyData} {ks : List NestedKey} : Nk d k → NkAll ds ks → NkAll (d :: ds) (k :: ks)
end
section
variable {X : Cx} {pins : List (Addr × Obj)} {σ : L2.St} {H : Hp} {s : Shared}
mutual
theorem nk_is (I : Inv X pins σ H s) : ∀ {d : PyData} {k : NestedKey} {v : V} {u : Value}, Nk d k → Dp X.K H v d → RelV v u → NestedIs s.heap k u
  | _, _, _, _, .int i, .int _, r => by obtain ⟨t, rfl⟩ := r; exact .int i t
  | _, _, _, _, .bool b, .bl _, r => by cases r; exact .bool rfl
  | _, _, _, _, .none, .non, r => by cases r; exact .none
  | _, _, _, _, .text x, .str _, r => by obtain ⟨t, rfl⟩ := r; exact .text x t
  | _, _, _, _, .tup h, .tup hs ha, r => by
    cases r
    obtain ⟨its, rv, ⟨o, e, c, n, hd⟩, _⟩ := I.tuple hs
    exact .tup e c hd (nk_all I h ha rv)
theorem nk_all (I : Inv X pins σ H s) : ∀ {ds : List PyData} {ks : List NestedKey} {vs : List V} {us : List Value}, NkAll ds ks → DpAll X.K H vs ds → Vals vs us → NestedAll s.heap ks us
  | _, _, _, _, .nil, .nil, .nil => .nil
  | _, _, _, _, .cons h t, .cons a b, .cons r q => .cons (nk_is I h a r) (nk_all I t b q)
end
end
abbrev Ents := List (NestedKey × Addr × V)
def EntR (p : NestedKey × Addr × V) (q : NestedKey × Addr × Value) : Prop := p.1 = q.1 ∧ p.2.1 = q.2.1 ∧ RelV p.2.2 q.2.2
def dNO (P : Program) (w : World) (a : Addr) (xs : Ents) : HO := .ext fun h => (a == sysModules) = false ∧ ∃ (ys : List (NestedKey × Addr × Value)) (o : Obj) (es : Array DictEntry) (ep : Nat), Paired EntR xs ys ∧
  h.get? a = some o ∧ o.ExactDict ∧ o.data = .dict es ep ∧ es.toList = ys.map (entryOfKey (nestedKind P w)) ∧ (ys.map (·.1)).Nodup
structure DN (P : Program) (w : World) (K : PySem.W.Frag) (H : Hp) (a : Addr) (xs : Ents) : Prop where
  at_ : H a = some (dNO P w a xs)
  ks : ∀ x ∈ xs, ∃ d, Dp K H (.ref x.2.1) d ∧ Nk d x.1 ∧ x.1.depth ≤ 8
theorem ent_keys : ∀ {xs : Ents} {ys : List (NestedKey × Addr × Value)}, Paired EntR xs ys → ys.map (·.1) = xs.map (·.1) ∧ ys.map (·.2.1) = xs.map (·.2.1)
  | _, _, .nil => ⟨rfl, rfl⟩
  | _, _, .cons r t => by
    obtain ⟨h1, h2⟩ := ent_keys t
    simp only [List.map_cons]
    exact ⟨by rw [h1, r.1], by rw [h2, r.2.1]⟩
theorem ent_mem : ∀ {xs : Ents} {ys : List (NestedKey × Addr × Value)} {y : NestedKey × Addr × Value}, Paired EntR xs ys → y ∈ ys → ∃ x ∈ xs, x.1 = y.1 ∧ x.2.1 = y.2.1
  | _, _, _, .cons r t, h => by
    rcases List.mem_cons.mp h with rfl | h
    · exact ⟨_, List.mem_cons_self, r.1, r.2.1⟩
    · obtain ⟨x, hx, e⟩ := ent_mem t h
      exact ⟨x, List.mem_cons_of_mem _ hx, e⟩
theorem atKey_some (ys : List (NestedKey × Addr × Value)) (k : NestedKey) : (atKey ys k).isSome = decide (k ∈ ys.map (·.1)) := by
  unfold atKey
  rw [Option.isSome_map]
  induction ys with
  | nil => rfl
  | cons y r ih =>
    rw [List.find?_cons]
    by_cases h : y.1 = k
    · simp [h]
    · have h' : ¬ k = y.1 := fun e => h e.symm
      simp only [h, decide_false, List.map_cons, List.mem_cons, h', false_or]
      exact ih
section
variable {X : Cx} {pins : List (Addr × Obj)} {σ : L2.St} {H : Hp} {s : Shared}
theorem dn_heap {a : Addr} {xs : Ents} (I : Inv X pins σ H s) (h : DN X.prog X.w X.K H a xs) : (a == sysModules) = false ∧ ∃ ys, Paired EntR xs ys ∧ s.heap.DictOfH (nestedKind X.prog X.w) a ys := by
  obtain ⟨⟨ha, ys, o, es, ep, r, h1, h2, h3, h4, h5⟩, _⟩ := (show ObjOk X.prog X.w H s.heap a (dNO X.prog X.w a xs) from I.hok a _ h.at_)
  refine ⟨ha, ys, r, o, es, ep, h1, h2, h3, h4, fun y hy => ?_, h5⟩
  obtain ⟨x, hx, e1, e2⟩ := ent_mem r hy
  obtain ⟨d, h6, h7, h8⟩ := h.ks x hx
  rw [← e1, ← e2]
  exact ⟨nk_is I h7 h6 rfl, h8⟩
theorem dn_ok {P : Program} {w : World} {H : Hp} {h : Heap} {a : Addr} {xs : Ents} {ys : List (NestedKey × Addr × Value)} (ha : (a == sysModules) = false) (r : Paired EntR xs ys) (hd : h.DictOfH (nestedKind P w) a ys) : ObjOk P w H h a (dNO P w a xs) := by
  obtain ⟨o, es, ep, h1, h2, h3, h4, _, h5⟩ := hd
  refine ⟨⟨ha, ys, o, es, ep, r, h1, h2, h3, h4, h5⟩, ⟨o, h1⟩, fun g1 g2 z k => ?_⟩
  obtain ⟨ha, ys, o, es, ep, r, h1, h2⟩ := z
  exact ⟨ha, ys, o, es, ep, r, k o h1, h2⟩
/-- {} -/
def tDNewN (P : Program) (w : World) : TE := fun _ H Q => ∀ p, H p = none → Q (.ref p) (upd H p (dNO P w p []))
theorem pe_dnewN {pos : Pos} : PE X (.Dict [] [] pos) (tDNewN X.prog X.w) := ⟨fun pins s σ H Q I h =>
  wpAny_Dict_empty ⟨.ref s.heap.objs.size, _, I.laid (a := s.heap.objs.size) (o := dNO X.prog X.w s.heap.objs.size []) (t' := s.toks) (fun _ _ q => Heap.get?_push_of_some _ q) (Nat.le_refl _) (dn_ok (beq_eq_false_iff_ne.mpr (Ne.symm (Nat.ne_of_lt I.big))) .nil (Heap.DictOfH.new s.heap)), rfl, h _ (I.hok.fresh (Nat.le_refl _))⟩⟩
/-- key in d -/
def rInN (P : Program) (w : World) (K : PySem.W.Frag) : R2 := fun x y H Q => ∃ (a b : Addr) (xs : Ents) (d : PyData) (k : NestedKey), x = .ref b ∧ y = .ref a ∧ DN P w K H a xs ∧ Dp K H (.ref b) d ∧ Nk d k ∧ k.depth ≤ 8 ∧ Q (.bl (decide (k ∈ xs.map (·.1)))) H
theorem op_inN (hu : X.A.units + 64 < cLine) : OpR X (compareOp .In) (rInN X.prog X.w X.K) := by
  intro pins s σ H x y v u Q I rx ry h
  obtain ⟨a, b, xs, d, k, rfl, rfl, hD, hd, hk, h8, q⟩ := h
  cases rx
  cases ry
  obtain ⟨ha, ys, r, hm⟩ := dn_heap I hD
  refine wpAny_in_heap (knd := nestedKind X.prog X.w) (k := k) (by show X.A.units + 1 + 8 < cLine; omega) ⟨nk_is I hk hd rfl, h8⟩ ha hm ?_
  rw [atKey_some, (ent_keys r).1]
  exact ⟨.bl _, H, I.tok _, rfl, q⟩
/-- d[key] = v, a new key -/
def rSetN (P : Program) (w : World) (K : PySem.W.Frag) : V → V → V → Hp → (Hp → Prop) → Prop := fun o i v H Q => ∃ (a b : Addr) (xs : Ents) (d : PyData) (k : NestedKey), o = .ref a ∧ i = .ref b ∧ DN P w K H a xs ∧ Dp K H (.ref b) d ∧ Nk d k ∧ k.depth ≤ 8 ∧
  k ∉ xs.map (·.1) ∧ xs.length ≤ sizeLine ∧ Q (upd H a (dNO P w a (xs ++ [(k, b, v)])))
theorem Paired.snocN {α β : Type} {F : α → β → Prop} : ∀ {l : List α} {m : List β} {x : α} {y : β}, Paired F l m → F x y → Paired F (l ++ [x]) (m ++ [y])
  | _, _, _, _, .nil, h => .cons h .nil
  | _, _, _, _, .cons r t, h => .cons r (Paired.snocN t h)
theorem set_newN (hu : X.A.units + 64 < cLine) : PSet X (rSetN X.prog X.w X.K) := by
  intro pins s σ H o i v ov iv u Q I ro ri rv h
  obtain ⟨a, b, xs, d, k, rfl, rfl, hD, hd, hk, h8, hno, hz, q⟩ := h
  cases ro
  cases ri
  obtain ⟨ha, ys, r, hm⟩ := dn_heap I hD
  refine wpAny_setItem_heap (knd := nestedKind X.prog X.w) (k := k) (by show X.A.units + 1 + 8 < cLine; omega) ⟨nk_is I hk hd rfl, h8⟩ hm (fun h' hm' hs => ⟨_, ?_, q⟩) (by rw [← Paired.length r]; exact hz)
  have hat : atKey ys k = none := by
    have := atKey_some ys k
    rw [(ent_keys r).1, decide_eq_false hno] at this
    cases e : atKey ys k with
    | none => rfl
    | some z => rw [e] at this; cases this
  rw [storedH_new hat] at hm'
  have new : ObjOk X.prog X.w (upd H a (dNO X.prog X.w a (xs ++ [(k, b, v)]))) h' a (dNO X.prog X.w a (xs ++ [(k, b, v)])) := dn_ok ha (Paired.snocN r ⟨rfl, rfl, rv⟩) hm'
  refine I.write (x := a) (e := a) (by rw [hD.at_]; exact trivial) (.inl rfl) (fun c o hc e => (hs.2 c hc).trans e) ?_ new
  obtain ⟨o, es, ep, e, _⟩ := hm'
  exact ⟨o, e⟩
theorem ent_at : ∀ {xs : Ents} {ys : List (NestedKey × Addr × Value)} {x : NestedKey × Addr × V}, Paired EntR xs ys → (xs.map (·.1)).Nodup → x ∈ xs → ∃ p, atKey ys x.1 = some p ∧ RelV x.2.2 p.2
  | x0 :: _, y0 :: _, x, .cons r t, hn, h => by
    unfold atKey
    rw [List.find?_cons]
    by_cases e : y0.1 = x.1
    · rw [decide_eq_true e]
      refine ⟨y0.2, rfl, ?_⟩
      rcases List.mem_cons.mp h with rfl | h
      · exact r.2.2
      · exfalso
        rw [List.map_cons, List.nodup_cons] at hn
        exact hn.1 (by rw [r.1, e]; exact List.mem_map.mpr ⟨x, h, rfl⟩)
    · rw [decide_eq_false e]
      rcases List.mem_cons.mp h with rfl | h
      · exact absurd r.1.symm e
      · rw [List.map_cons, List.nodup_cons] at hn
        exact ent_at t hn.2 h
/-- d[key], a key that is there -/
def tDGetN (P : Program) (w : World) (K : PySem.W.Frag) (td ty : TE) : TE := fun σ H Q => td σ H fun x H1 => ty σ H1 fun y H2 => ∃ (a b : Addr) (xs : Ents) (d : PyData) (z : NestedKey × Addr × V), x = .ref a ∧ y = .ref b ∧ DN P w K H2 a xs ∧ Dp K H2 (.ref b) d ∧ Nk d z.1 ∧ z.1.depth ≤ 8 ∧ z ∈ xs ∧ Q z.2.2 H2
theorem pe_dgetN {o i : Expr} {td ty : TE} {pos : Pos} (hu : X.A.units + 64 < cLine) (ho : PE X o td) (hi : PE X i ty) (hs : NoSl i) : PE X (.Subscript o i pos) (tDGetN X.prog X.w X.K td ty) := by
  refine ⟨fun pins s σ H Q I h => ?_⟩
  refine subD_of PySem.F.slot_dict_getitem.lookup hs (thn (ho.run pins s σ H _ I h) fun u s1 q => ?_)
  obtain ⟨x, H1, I1, rx, q1⟩ := q
  refine thn (hi.run pins s1 σ H1 _ I1 q1) fun iv s2 q => ?_
  obtain ⟨y, H2, I2, ry, a, b, xs, d, z, ex, ey, hD, hd, hk, h8, hz, q2⟩ := q
  subst ex
  subst ey
  obtain rfl : u = Value.ref a := rx
  obtain rfl : iv = Value.ref b := ry
  obtain ⟨ha, ys, r, hm⟩ := dn_heap I2 hD
  have hn : (xs.map (·.1)).Nodup := by
    obtain ⟨_, _, _, _, _, _, _, _, hn⟩ := hm
    rw [(ent_keys r).1] at hn
    exact hn
  obtain ⟨p, hp, rp⟩ := ent_at r hn hz
  exact ⟨hm.typeIs, wpAny_getItem_heap (knd := nestedKind X.prog X.w) (k := z.1) (by show X.A.units + 1 + 8 < cLine; omega) ⟨nk_is I2 hk hd rfl, h8⟩ hm hp ⟨z.2.2, H2, I2.tok _, rp, q2⟩⟩
end
end Sb

namespace Sb
open PySem PySem.Spec PyProof.Rows L2
/-! ### match over a text: case "a" | "b": .. case "c": .. -/
/-- a pattern of written texts: whether x is one of them -/
structure PatS (X : Cx) (p : Pattern) (ls : List Str) : Prop where
  run : ∀ (pins : List (Addr × Obj)) (s : Shared) (σ : L2.St) (H : Hp) (x : Str) (t : Tok) (Q : Option (List (Str × Value)) → Shared → Prop), Inv X pins σ H s →
    (∀ s', Inv X pins σ H s' → Q (if decide (x ∈ ls) = true then some [] else none) s') → wpAny (model X.prog X.w) X.A (matchPattern p X.env (.str x t)) Q X.xe s
structure CasesS (X : Cx) (cs : List MatchCase) (tc : Str → TS) : Prop where
  run : ∀ (pins : List (Addr × Obj)) (s : Shared) (σ : L2.St) (H : Hp) (D : Ends) (x : Str) (t : Tok) (b : Bool), Inv X pins σ H s → tc x D σ H →
    wpAny (model X.prog X.w) X.A (matchCases cs X.env (.str x t) b) (SP X pins D) X.xe s
section
variable {X : Cx}
theorem pat_val {y : Str} {j : Nat} {p1 p2 : Pos} : PatS X (.MatchValue (.Constant (.str y) j p1) p2) [y] := by
  refine ⟨fun pins s σ H x t Q I h => ?_⟩
  refine wpAny_matchPattern_Value (Calls.Constant_str (P.eq_str (wpAny_truthy_bool ?_)))
  have h' := h { s with toks := s.toks + 1 } (I.tok _)
  have e : (x.cps.toList == y.cps.toList) = decide (x ∈ [y]) := by
    by_cases q : x = y
    · subst q; simp
    · have : ¬ x.cps.toList = y.cps.toList := fun z => q (TL.ext_tl z)
      simp [q]
      intro z
      exact q (TL.ext_tl (congrArg Array.toList z))
  rw [e]
  cases hd : decide (x ∈ [y]) with
  | true => rw [hd] at h'; exact h'
  | false => rw [hd] at h'; exact h'
theorem pat_or {p q : Pattern} {ls ms : List Str} {pos : Pos} (hp : PatS X p ls) (hq : PatS X q ms) (hn : namesOfAll [p] = [] := by rfl) : PatS X (.MatchOr [p, q] pos) (ls ++ ms) := by
  refine ⟨fun pins s σ H x t Q I h => wpAny_matchPattern_Or (wpAny_matchFirst_cons (hp.run pins s σ H x t _ I fun s1 I1 => ?_))⟩
  have e : ((namesOfAll ([p, q].take 1)).filterMap fun n => (([] : List (Str × Value)).lookup n).map (n, ·)) = [] := by
    show ((namesOfAll [p]).filterMap _) = []
    rw [hn]
    rfl
  by_cases hl : x ∈ ls
  · rw [if_pos (decide_eq_true hl)]
    have h' := h s1 I1
    rw [if_pos (decide_eq_true (List.mem_append_left _ hl))] at h'
    show Q (some ((namesOfAll ([p, q].take 1)).filterMap fun n => (([] : List (Str × Value)).lookup n).map (n, ·))) s1
    rw [e]
    exact h'
  · rw [if_neg (fun z => hl (of_decide_eq_true z))]
    refine wpAny_matchFirst_cons (hq.run pins s1 σ H x t _ I1 fun s2 I2 => ?_)
    have h' := h s2 I2
    by_cases hm : x ∈ ms
    · rw [if_pos (decide_eq_true hm)]
      rw [if_pos (decide_eq_true (List.mem_append_right _ hm))] at h'
      show Q (some ((namesOfAll ([p, q].take 1)).filterMap fun n => (([] : List (Str × Value)).lookup n).map (n, ·))) s2
      rw [e]
      exact h'
    · rw [if_neg (fun z => hm (of_decide_eq_true z))]
      rw [if_neg (fun z => by have := of_decide_eq_true z; rcases List.mem_append.mp this with c | c; exact hl c; exact hm c)] at h'
      exact wpAny_matchFirst_nil h'
theorem cases_nil : CasesS X [] (fun _ => tNext) := ⟨fun pins s σ H D x t b I h => wpAny_matchCases_nil ⟨σ, H, I, h⟩⟩
theorem cases_cons {p : Pattern} {ls : List Str} {body : List Stmt} {tb : TS} {cs : List MatchCase} {tc : Str → TS} (hp : PatS X p ls) (hb : PSs X body tb) (hc : CasesS X cs tc) :
    CasesS X (⟨p, none, body⟩ :: cs) (fun x D σ H => if decide (x ∈ ls) = true then tb D σ H else tc x D σ H) := by
  refine ⟨fun pins s σ H D x t b I h => wpAny_matchCases_cons (hp.run pins s σ H x t _ I fun s' I' => ?_)⟩
  cases hd : decide (x ∈ ls) with
  | true =>
    rw [hd] at h
    exact wpAny_assignInOrder_none (hb.run pins s' σ H D I' h)
  | false =>
    rw [hd] at h
    exact hc.run pins s' σ H D x t false I' h
theorem ps_matchS {e : Expr} {te : TE} {cs : List MatchCase} {tc : Str → TS} {pos : Pos} (he : PE X e te) (hc : CasesS X cs tc) :
    PS X (.Match e cs pos) (fun D σ H => te σ H fun v H1 => ∃ x, v = .str x ∧ tc x D σ H1) := by
  refine ⟨fun pins s σ H D I h => wpAny_Match (thn (he.run pins s σ H _ I h) fun v s1 q => ?_)⟩
  obtain ⟨v', H1, I1, r1, x, e1, q⟩ := q
  subst e1
  obtain ⟨t, rfl⟩ := r1
  exact hc.run pins s1 σ H1 D x t true I1 q
end
end Sb

namespace Sb
open PySem PySem.Spec PyProof.Rows L2
/-! ### a state as a key: a tuple of four tuples -/
def natsT (l : List Nat) : PyData := .tuple (l.map natD)
def boolsT (l : List Bool) : PyData := .tuple (l.map PyData.bool)
def sitT (s : Sit) : PyData := .tuple [natsT s.cs, natsT s.ns, boolsT s.hs, natsT s.sh]
def nk1 (l : List Nat) : NestedKey := .tup (l.map fun n : Nat => .num n)
def nk2 (l : List Bool) : NestedKey := .tup (l.map fun b : Bool => .num (if b = true then 1 else 0))
def nkOf (s : Sit) : NestedKey := .tup [nk1 s.cs, nk1 s.ns, nk2 s.hs, nk1 s.sh]
theorem nk_nats : ∀ l : List Nat, NkAll (l.map natD) (l.map fun n : Nat => .num n)
  | [] => .nil
  | n :: l => .cons (.int _) (nk_nats l)
theorem nk_bools : ∀ l : List Bool, NkAll (l.map PyData.bool) (l.map fun b : Bool => .num (if b = true then 1 else 0))
  | [] => .nil
  | b :: l => .cons (.bool b) (nk_bools l)
theorem nk_sit (s : Sit) : Nk (sitT s) (nkOf s) := .tup (.cons (.tup (nk_nats _)) (.cons (.tup (nk_nats _)) (.cons (.tup (nk_bools _)) (.cons (.tup (nk_nats _)) .nil))))
theorem nk1_inj : ∀ {l m : List Nat}, (l.map fun n : Nat => NestedKey.num n) = (m.map fun n : Nat => NestedKey.num n) → l = m
  | [], [], _ => rfl
  | [], _ :: _, h => by cases h
  | _ :: _, [], h => by cases h
  | a :: l, b :: m, h => by
    rw [List.map_cons, List.map_cons] at h
    injection h with h1 h2
    injection h1 with h1
    rw [nk1_inj h2, show a = b by omega]
theorem nk2_inj : ∀ {l m : List Bool}, (l.map fun b : Bool => NestedKey.num (if b = true then 1 else 0)) = (m.map fun b : Bool => NestedKey.num (if b = true then 1 else 0)) → l = m
  | [], [], _ => rfl
  | [], _ :: _, h => by cases h
  | _ :: _, [], h => by cases h
  | a :: l, b :: m, h => by
    rw [List.map_cons, List.map_cons] at h
    injection h with h1 h2
    injection h1 with h1
    rw [nk2_inj h2]
    cases a <;> cases b <;> first | rfl | (simp at h1)
theorem nkOf_inj {s t : Sit} (h : nkOf s = nkOf t) : s = t := by
  unfold nkOf nk1 nk2 at h
  injection h with h
  injection h with h1 h
  injection h with h2 h
  injection h with h3 h
  injection h with h4 h
  injection h1 with h1
  injection h2 with h2
  injection h3 with h3
  injection h4 with h4
  obtain ⟨c, n, b, e⟩ := s
  obtain ⟨c', n', b', e'⟩ := t
  dsimp only at h1 h2 h3 h4
  rw [nk1_inj h1, nk1_inj h2, nk2_inj h3, nk1_inj h4]
theorem nk_depth (s : Sit) : (nkOf s).depth ≤ 8 := by
  have a : ∀ l : List Nat, NestedKey.depthAll (l.map fun n : Nat => NestedKey.num n) ≤ 1 := by
    intro l
    induction l with
    | nil => decide
    | cons n l ih => simp only [List.map_cons, NestedKey.depthAll, NestedKey.depth]; omega
  have b : ∀ l : List Bool, NestedKey.depthAll (l.map fun b : Bool => NestedKey.num (if b = true then 1 else 0)) ≤ 1 := by
    intro l
    induction l with
    | nil => decide
    | cons n l ih => simp only [List.map_cons, NestedKey.depthAll, NestedKey.depth]; omega
  have h1 := a s.cs
  have h2 := a s.ns
  have h3 := b s.hs
  have h4 := a s.sh
  unfold nkOf nk1 nk2
  simp only [NestedKey.depth, NestedKey.depthAll]
  omega
/-! ### the dict of the states met -/
structure DK (P : Program) (w : World) (K : PySem.W.Frag) (G H : Hp) (a : Addr) (xs : Ents) : Prop where
  at_ : H a = some (dNO P w a xs)
  out : G a = none
  ks : ∀ x ∈ xs, ∃ d, Dp K G (.ref x.2.1) d ∧ Nk d x.1 ∧ x.1.depth ≤ 8
section
variable {P : Program} {w : World} {K : PySem.W.Frag} {G G' H H' : Hp} {a b p : Addr} {xs : Ents} {o : HO}
theorem DK.dn (h : DK P w K G H a xs) (s : Same G H) : DN P w K H a xs := ⟨h.at_, fun x hx => by
  obtain ⟨d, h1, h2⟩ := h.ks x hx
  exact ⟨d, Dp.mono s _ _ h1, h2⟩⟩
theorem DK.grow (h : DK P w K G H a xs) (g : Same G G') (hp : ∀ o, H a = some o → H' a = some o) (n' : G' a = none) : DK P w K G' H' a xs := ⟨hp _ h.at_, n', fun x hx => by
  obtain ⟨d, h1, h2⟩ := h.ks x hx
  exact ⟨d, Dp.mono g _ _ h1, h2⟩⟩
theorem DK.put {s : Sit} {v : V} (h : DK P w K G H a xs) (hb : Dp K G (.ref b) (sitT s)) : DK P w K G (upd H a (dNO P w a (xs ++ [(nkOf s, b, v)]))) a (xs ++ [(nkOf s, b, v)]) := by
  refine ⟨upd_same, h.out, fun x hx => ?_⟩
  rcases List.mem_append.mp hx with h1 | h1
  · exact h.ks x h1
  · rw [List.mem_singleton.mp h1]
    exact ⟨_, hb, nk_sit s, nk_depth s⟩
end
/-- the states met so far, with what is stored beside each -/
def Met (x : Pl) (xs : Ents) (n : Nat) (f : Nat → V) : Prop := xs.length = n ∧ ∀ j, j < n → ∃ b, xs[j]? = some (nkOf (sitAt x j), b, f j)
theorem Met.keys {x : Pl} {xs : Ents} {n : Nat} {f : Nat → V} (h : Met x xs n f) (s : Sit) : nkOf s ∈ xs.map (·.1) ↔ ∃ j, j < n ∧ sitAt x j = s := by
  constructor
  · intro hm
    obtain ⟨e, he, h1⟩ := List.mem_map.mp hm
    obtain ⟨j, hj⟩ := List.getElem?_of_mem he
    have hjn : j < n := by rw [← h.1]; exact (List.getElem?_eq_some_iff.mp hj).1
    obtain ⟨b, hb⟩ := h.2 j hjn
    rw [hj] at hb
    cases hb
    exact ⟨j, hjn, nkOf_inj h1⟩
  · rintro ⟨j, hj, rfl⟩
    obtain ⟨b, hb⟩ := h.2 j hj
    exact List.mem_map.mpr ⟨_, List.mem_of_getElem? hb, rfl⟩
theorem Met.snoc {x : Pl} {xs : Ents} {n : Nat} {f : Nat → V} {b : Addr} (h : Met x xs n f) : Met x (xs ++ [(nkOf (sitAt x n), b, f n)]) (n + 1) f := by
  refine ⟨by rw [List.length_append, h.1]; rfl, fun j hj => ?_⟩
  by_cases hjn : j < n
  · obtain ⟨b', hb⟩ := h.2 j hjn
    exact ⟨b', by rw [List.getElem?_append_left (by rw [h.1]; exact hjn)]; exact hb⟩
  · have : j = n := by omega
    subst this
    exact ⟨b, by rw [List.getElem?_append_right (by rw [h.1]; exact Nat.le_refl _), h.1, Nat.sub_self]; rfl⟩
theorem Met.nil {x : Pl} {f : Nat → V} : Met x [] 0 f := ⟨rfl, fun j hj => by omega⟩
/-- no state twice among the first n -/
def Nod (x : Pl) (n : Nat) : Prop := ∀ j k, j < n → k < n → sitAt x j = sitAt x k → j = k
theorem Nod.zero {x : Pl} : Nod x 0 := fun j k h => by omega
theorem Nod.succ {x : Pl} {n : Nat} (h : Nod x n) (hn : ¬ ∃ j, j < n ∧ sitAt x j = sitAt x n) : Nod x (n + 1) := fun j k hj hk e => by
  by_cases h1 : j < n
  · by_cases h2 : k < n
    · exact h j k h1 h2 e
    · have : k = n := by omega
      subst this
      exact absurd ⟨j, h1, e⟩ hn
  · have : j = n := by omega
    subst this
    by_cases h2 : k < j
    · exact absurd ⟨k, h2, e.symm⟩ hn
    · omega
/-- the plan of two waits -/
def waits (x : Pl) : Pl := ⟨x.shelf, x.a, x.b, [⟨4, none⟩], [⟨4, none⟩]⟩
theorem waits_ok {x : Pl} (h : x.Ok) : (waits x).Ok := by
  have ok : StepsOk [⟨4, none⟩] := ⟨by decide, by decide, fun s hs => by
    rw [List.mem_singleton.mp hs]
    exact ⟨by decide, fun _ => rfl, fun h => absurd h (by decide)⟩⟩
  exact ⟨h.c3, h.c12, h.b3, h.ha, h.hb, h.ne, ok, ok⟩
theorem waits_st (x : Pl) (i : Nat) (s : Sit) (h : s.ns.getD i 0 = 0) : stOf (waits x) s i = ⟨4, none⟩ := by
  unfold stOf
  rw [h]
  unfold stepsOf waits
  split <;> rfl
theorem waits_len (x : Pl) (i : Nat) : (stepsOf (waits x) i).length = 1 := by
  unfold stepsOf waits
  split <;> rfl
theorem waits_act (x : Pl) (i : Nat) (s : Sit) (h : s.ns.getD i 0 = 0) : actP (waits x) s i = (4, s) := by
  have e := waits_st x i s h
  rw [act_else (by rw [e]; decide)]
  unfold finP nextP
  rw [if_neg (by unfold jumpP; rw [e]; simp), waits_len, e, h]
  have : s.ns.set i ((0 + 1) % 1) = s.ns := by
    have h2 : (0 + 1) % 1 = s.ns.getD i 0 := h.symm
    rw [h2, set_same]
  rw [this]
theorem waits_cyc (x : Pl) : Cyc (waits x) 0 1 := ⟨by decide, by
  show sit0 (waits x) = (tickP (waits x) (sit0 (waits x))).2
  unfold tickP
  dsimp only
  rw [waits_act x 0 _ rfl]
  dsimp only
  rw [waits_act x 1 _ rfl], fun j k hj hk _ => by omega⟩
end Sb

namespace Sb
open PySem PySem.Spec PyProof.Rows L2 TL
/-! ### four lists of one's own, the parts of a state -/
structure Wk (G H0 H : Hp) (c n b e : Addr) (s : Sit) : Prop where
  pt : Pt G H0 G H
  gh : Same G H0
  c0 : H0 c = none
  n0 : H0 n = none
  b0 : H0 b = none
  e0 : H0 e = none
  cn : c ≠ n
  cb : c ≠ b
  ce : c ≠ e
  nb : n ≠ b
  ne : n ≠ e
  be : b ≠ e
  hc : H c = some (.lst (nV s.cs))
  hn : H n = some (.lst (nV s.ns))
  hb : H b = some (.lst (bV s.hs))
  he : H e = some (.lst (nV s.sh))
section
variable {G H0 H : Hp} {c n b e p l t : Addr} {s : Sit} {K : PySem.W.Frag}
theorem Wk.lay (h : Wk G H0 H c n b e s) (np : H p = none) (o : HO) : Wk G H0 (upd H p o) c n b e s :=
  { h with
    pt := h.pt.lay np o
    hc := by rw [upd_ne (ne_of_none h.hc np)]; exact h.hc
    hn := by rw [upd_ne (ne_of_none h.hn np)]; exact h.hn
    hb := by rw [upd_ne (ne_of_none h.hb np)]; exact h.hb
    he := by rw [upd_ne (ne_of_none h.he np)]; exact h.he }
theorem Wk.setC (h : Wk G H0 H c n b e s) (l : List Nat) : Wk G H0 (upd H c (.lst (nV l))) c n b e ⟨l, s.ns, s.hs, s.sh⟩ :=
  { h with
    pt := h.pt.put h.c0 (Same.free h.gh h.c0) _
    hc := upd_same
    hn := by rw [upd_ne h.cn.symm]; exact h.hn
    hb := by rw [upd_ne h.cb.symm]; exact h.hb
    he := by rw [upd_ne h.ce.symm]; exact h.he }
theorem Wk.setN (h : Wk G H0 H c n b e s) (l : List Nat) : Wk G H0 (upd H n (.lst (nV l))) c n b e ⟨s.cs, l, s.hs, s.sh⟩ :=
  { h with
    pt := h.pt.put h.n0 (Same.free h.gh h.n0) _
    hc := by rw [upd_ne h.cn]; exact h.hc
    hn := upd_same
    hb := by rw [upd_ne h.nb.symm]; exact h.hb
    he := by rw [upd_ne h.ne.symm]; exact h.he }
theorem Wk.setB (h : Wk G H0 H c n b e s) (l : List Bool) : Wk G H0 (upd H b (.lst (bV l))) c n b e ⟨s.cs, s.ns, l, s.sh⟩ :=
  { h with
    pt := h.pt.put h.b0 (Same.free h.gh h.b0) _
    hc := by rw [upd_ne h.cb]; exact h.hc
    hn := by rw [upd_ne h.nb]; exact h.hn
    hb := upd_same
    he := by rw [upd_ne h.be.symm]; exact h.he }
theorem Wk.setE (h : Wk G H0 H c n b e s) (l : List Nat) : Wk G H0 (upd H e (.lst (nV l))) c n b e ⟨s.cs, s.ns, s.hs, l⟩ :=
  { h with
    pt := h.pt.put h.e0 (Same.free h.gh h.e0) _
    hc := by rw [upd_ne h.ce]; exact h.hc
    hn := by rw [upd_ne h.ne]; exact h.hn
    hb := by rw [upd_ne h.be]; exact h.hb
    he := upd_same }
/-- the four become data -/
theorem Wk.data (h : Wk G H0 H c n b e s) : ∃ G1, Pt G H0 G1 H ∧ SqL K G1 c (nV s.cs) ∧ SqL K G1 n (nV s.ns) ∧ SqL K G1 b (bV s.hs) ∧ SqL K G1 e (nV s.sh) := by
  have p1 := h.pt.freeze h.c0 h.hc
  have p2 := p1.freeze h.n0 h.hn
  have p3 := p2.freeze h.b0 h.hb
  have p4 := p3.freeze h.e0 h.he
  refine ⟨_, p4, SqL.of ?_, SqL.of ?_, SqL.of ?_, SqL.of ?_⟩
  · rw [upd_ne h.ce, upd_ne h.cb, upd_ne h.cn, upd_same]
  · rw [upd_ne h.ne, upd_ne h.nb, upd_same]
  · rw [upd_ne h.be, upd_same]
  · rw [upd_same]
end
def lrV : List V := [.str "left", .str "right"]
theorem lr_in : ∀ {w : Nat}, w < 8 → inV (.str (wS w)) lrV = decide (w < 2) := by
  have h : ∀ w : _root_.Fin 8, inV (.str (wS w.val)) lrV = decide (w.val < 2) := by decide +kernel
  exact fun {w} hw => h ⟨w, hw⟩
theorem lr_flat : lrV.all flatV = true := by decide +kernel
theorem wS_eq {w k : Nat} (hw : w < 8) (hk : k < 8) : decide (V.str (wS w) = V.str (wS k)) = decide (w = k) := by
  have h : ∀ w k : _root_.Fin 8, decide (V.str (wS w.val) = V.str (wS k.val)) = decide (w.val = k.val) := by decide +kernel
  exact h ⟨w, hw⟩ ⟨k, hk⟩
theorem ite_w {w : Nat} (k : Nat) {A B : Prop} (hw : w < 8) (h1 : w = k → A) (h2 : w ≠ k → B) (hk : k < 8 := by decide) : if decide (V.str (wS w) = V.str (wS k)) = true then A else B := by
  rw [wS_eq hw hk]
  exact ite2 (fun h => h1 (of_decide_eq_true h)) (fun h => h2 fun q => h (decide_eq_true q))
structure spEmpty (K : PySem.W.Frag) (vs : List V) (H : Hp) (Q : VK) (E : XK) : Prop where
  ex : ∃ (G : Hp) (v : V) (x : Pl), vs = [v] ∧ Dp K G v x.D ∧ Pure G H Q fun G' v => Dp K G' v (sitL (sit0 x))
structure spLAct (K : PySem.W.Frag) (vs : List V) (H : Hp) (Q : VK) (E : XK) : Prop where
  ex : ∃ (G : Hp) (v u : V) (x : Pl) (s : Sit) (i : Nat), vs = [v, u, .int i] ∧ Dp K G v x.D ∧ Dp K G u (sitL s) ∧ x.Ok ∧ SitOk x s ∧ i < 2 ∧ Pure G H Q fun G' v => Dp K G' v (.tuple [.str (doS (actP x s i).1), sitL (actP x s i).2])
structure spLTick (K : PySem.W.Frag) (vs : List V) (H : Hp) (Q : VK) (E : XK) : Prop where
  ex : ∃ (G : Hp) (v u : V) (x : Pl) (s : Sit), vs = [v, u] ∧ Dp K G v x.D ∧ Dp K G u (sitL s) ∧ x.Ok ∧ SitOk x s ∧ Pure G H Q fun G' v => Dp K G' v (.tuple [wordsD (tickP x s).1, sitL (tickP x s).2])
section
variable {P : Program} {w : World} {K : PySem.W.Frag} {mg : Str → Option Value} {base : Heap} {a : Ad}
end
end Sb

namespace Sb
open PySem PySem.Spec PyProof.Rows L2 TL
/-! ### some things may be written: those of S -/
def wos (S : List Addr) (H : Hp) : Hp := fun b => if b ∈ S then none else H b
theorem wos_in {S : List Addr} {H : Hp} {b : Addr} (h : b ∈ S) : wos S H b = none := if_pos h
theorem wos_out {S : List Addr} {H : Hp} {b : Addr} (h : b ∉ S) : wos S H b = H b := if_neg h
theorem wos_some {S : List Addr} {H : Hp} {b : Addr} {o : HO} (h : wos S H b = some o) : b ∉ S ∧ H b = some o := by
  by_cases e : b ∈ S
  · rw [wos_in e] at h; cases h
  · rw [wos_out e] at h; exact ⟨e, h⟩
structure Mv (S : List Addr) (G0 H0 G H : Hp) : Prop where
  ext : Ext G0 H0 G H
  sm : Same (wos S H0) H
section
variable {S S' : List Addr} {G0 H0 G H G1 H1 : Hp} {p l x dx : Addr} {o : HO}
theorem Mv.start (s : Same G H) : Mv S G H G H := ⟨Ext.refl s, fun _ _ e => (wos_some e).2⟩
theorem Mv.new (a : Mv S G0 H0 G H) (np : H p = none) (o : HO) : Mv S G0 H0 (upd G p o) (upd H p o) := ⟨a.ext.new np, a.sm.trans (same_new np)⟩
theorem Mv.lay (a : Mv S G0 H0 G H) (np : H p = none) (o : HO) : Mv S G0 H0 G (upd H p o) := ⟨a.ext.lay np, a.sm.trans (same_new np)⟩
theorem Mv.put (a : Mv S G0 H0 G H) (n0 : l ∈ S ∨ H0 l = none) (n : G l = none) (o : HO) : Mv S G0 H0 G (upd H l o) := ⟨a.ext.put n, same_put a.sm (by
  rcases n0 with h | h
  · exact wos_in h
  · by_cases e : l ∈ S
    · exact wos_in e
    · rw [wos_out e]; exact h)⟩
theorem Mv.freeze (a : Mv S G0 H0 G H) (n0 : H0 l = none) (h : H l = some o) : Mv S G0 H0 (upd G l o) H := ⟨a.ext.freeze n0 h, a.sm⟩
theorem Mv.make (a : Mv S G0 H0 G H) (nx : H x = none) (nd : H dx = none) (ne : dx ≠ x) (o : HO) : Mv S G0 H0 (upd (upd G dx (.own x)) x o) (upd (upd H dx (.own x)) x o) := ⟨a.ext.make nx nd ne o, a.sm.trans (same_make nx nd ne o)⟩
theorem Mv.trans (a : Mv S G0 H0 G H) (b : Mv S G H G1 H1) : Mv S G0 H0 G1 H1 := by
  refine ⟨a.ext.trans b.ext, fun c o e => ?_⟩
  obtain ⟨h1, h2⟩ := wos_some e
  exact b.sm c o (by rw [wos_out h1]; exact a.sm c o e)
theorem Mv.mono (a : Mv S G0 H0 G H) (h : ∀ b ∈ S, b ∈ S' ∨ H0 b = none) : Mv S' G0 H0 G H := by
  refine ⟨a.ext, fun c o e => ?_⟩
  obtain ⟨h1, h2⟩ := wos_some e
  refine a.sm c o ?_
  by_cases hc : c ∈ S
  · rcases h c hc with h | h
    · exact absurd h h1
    · rw [h] at h2; cases h2
  · rw [wos_out hc]; exact h2
theorem Mv.kept (a : Mv S G0 H0 G H) (h : H0 l = some o) (n : l ∉ S) : H l = some o := a.sm l o (by rw [wos_out n]; exact h)
theorem Mv.s (a : Mv S G0 H0 G H) : Same G H := a.ext.h
theorem Mv.g (a : Mv S G0 H0 G H) : Same G0 G := a.ext.g
theorem Mv.free (a : Mv S G0 H0 G H) (np : H p = none) : H0 p = none := a.ext.k p np
theorem Mv.freeG (a : Mv S G0 H0 G H) (np : H p = none) : G p = none := Same.free a.ext.h np
theorem Mv.pt (a : Mv [] G0 H0 G H) : Pt G0 H0 G H := ⟨a.ext, fun c o e => a.sm c o (by rw [wos_out (by simp)]; exact e)⟩
theorem Mv.pure (a : Mv S G0 H0 G H) (e : Ext G H G1 H1) (s : Same H H1) : Mv S G0 H0 G1 H1 := ⟨a.ext.trans e, a.sm.trans s⟩
end
/-! ### the parser -/
def parF (tk fl : Addr) (n : Nat) : List (Str × V) := [("tokens", .ref tk), ("at", .int n), ("faults", .ref fl)]
def ParAt (a : Ad) (G H : Hp) (p : Addr) (n : Nat) (toks : List Tk) : Prop := ∃ (dx tk fl : Addr) (vs : List V), H p = some (.ins a.C_Parser dx (parF tk fl n)) ∧ G p = none ∧ G tk = some (.lst vs) ∧ ToksAt a.C_Token G vs toks ∧ G fl = some (.lst [])
theorem parF_put (tk fl : Addr) (n m : Nat) : putF "at" (.int ((n : Int) + (m : Int))) (parF tk fl n) = parF tk fl (n + m) := by
  show (if ("tokens" : Str) = "at" then _ else (("tokens" : Str), V.ref tk) :: (if ("at" : Str) = "at" then (("at" : Str), V.int ((n : Int) + (m : Int))) :: [(("faults" : Str), V.ref fl)] else _)) = _
  rw [if_neg (by decide +kernel), if_pos rfl]
  rfl
theorem ParAt.grow {a : Ad} {G G' H H' : Hp} {p : Addr} {n : Nat} {toks : List Tk} (h : ParAt a G H p n toks) (g : Same G G') (hp : ∀ o, H p = some o → H' p = some o) (n' : G' p = none) : ParAt a G' H' p n toks := by
  obtain ⟨dx, tk, fl, vs, h1, h2, h3, h4, h5⟩ := h
  exact ⟨dx, tk, fl, vs, hp _ h1, n', g _ _ h3, ToksAt.mono g h4, g _ _ h5⟩
theorem ParAt.some {a : Ad} {G H : Hp} {p : Addr} {n : Nat} {toks : List Tk} (h : ParAt a G H p n toks) : ∃ dx tk fl, H p = some (.ins a.C_Parser dx (parF tk fl n)) := by
  obtain ⟨dx, tk, fl, vs, h1, _⟩ := h
  exact ⟨dx, tk, fl, h1⟩
theorem ParAt.out {a : Ad} {G H : Hp} {p : Addr} {n : Nat} {toks : List Tk} (h : ParAt a G H p n toks) : G p = none := by
  obtain ⟨dx, tk, fl, vs, _, h1, _⟩ := h
  exact h1
/-- through a new object -/
theorem ParAt.new {a : Ad} {G H : Hp} {p q : Addr} {n : Nat} {toks : List Tk} {o : HO} (h : ParAt a G H p n toks) (s : Same G H) (nq : H q = none) : ParAt a (upd G q o) (upd H q o) p n toks := by
  obtain ⟨dx, tk, fl, h1⟩ := h.some
  have ne : p ≠ q := ne_of_none h1 nq
  exact h.grow (same_new (Same.free s nq)) (fun o e => by rw [upd_ne ne]; exact e) (by rw [upd_ne ne]; exact h.out)
theorem ParAt.lay {a : Ad} {G H : Hp} {p q : Addr} {n : Nat} {toks : List Tk} {o : HO} (h : ParAt a G H p n toks) (nq : H q = none) : ParAt a G (upd H q o) p n toks := by
  obtain ⟨dx, tk, fl, h1⟩ := h.some
  exact h.grow (Same.refl G) (fun o e => by rw [upd_ne (ne_of_none h1 nq)]; exact e) h.out
theorem ParAt.put {a : Ad} {G H : Hp} {p q : Addr} {n : Nat} {toks : List Tk} {o : HO} (h : ParAt a G H p n toks) (ne : p ≠ q) : ParAt a G (upd H q o) p n toks :=
  h.grow (Same.refl G) (fun o e => by rw [upd_ne ne]; exact e) h.out
structure spPeek (a : Ad) (vs : List V) (H : Hp) (Q : VK) (E : XK) : Prop where
  ex : ∃ (p : Addr) (G : Hp) (n : Nat) (toks : List Tk) (tk : Tk), vs = [.ref p] ∧ Same G H ∧ ParAt a G H p n toks ∧ toks[n]? = some tk ∧ ∀ v, TokAt a.C_Token G v tk → Q v H
structure spTake (a : Ad) (f : Tk → Str) (vs : List V) (H : Hp) (Q : VK) (E : XK) : Prop where
  ex : ∃ (p : Addr) (G : Hp) (n : Nat) (toks : List Tk) (tk : Tk), vs = [.ref p, .str (f tk)] ∧ Same G H ∧ ParAt a G H p n toks ∧ toks[n]? = some tk ∧ ∀ H1 v, Mv [p] G H G H1 → ParAt a G H1 p (n + 1) toks → TokAt a.C_Token G v tk → Q v H1
section
variable {P : Program} {w : World} {K : PySem.W.Frag} {mg : Str → Option Value} {base : Heap} {a : Ad}
theorem ok_Parser_peek (T : Txt K mg a) : FnOk P w K mg base CX0 1 a.f_Parser_peek a.d_Parser_peek ["self"] (spPeek a) := by
  refine T.F_Parser_peek.ok sc_Parser_peek (fun vs H Q E h => ?_) (fun cdv A outer s H vs Q E hr h => ?_)
  · obtain ⟨⟨p, G, n, toks, tk, rfl, _⟩⟩ := h
    rfl
  · obtain ⟨⟨p, G, n, toks, tk, rfl, hs, ⟨dx, ta, fl, vs, h1, h2, h3, h4, h5⟩, hn, k⟩⟩ := h
    obtain ⟨v, hv, htk⟩ := Paired.at_ h4 hn
    refine ⟨_, (pss_one (ps_ret (pe_ix ix_list (pe_fld (pv 0) rfl) (pe_fld (pv 0) rfl) (fun _ _ => rfl)))), ?_⟩
    refine ⟨_, rfl, p, _, dx, _, _, rfl, h1, T.cl_Parser, T.n_Parser_tokens, (by kernel_rfl), _, rfl, p, _, dx, _, _, rfl, h1, T.cl_Parser, T.n_Parser_at, (by kernel_rfl), ta, vs, _, v, rfl, rfl, SqL.of (hs _ _ h3), atI_nat hv, k v htk⟩
theorem peek_go {p : Addr} {G H : Hp} {n : Nat} {toks : List Tk} {tk : Tk} {Q : VK} {E : XK} (hs : Same G H) (hP : ParAt a G H p n toks) (hn : toks[n]? = some tk) (k : ∀ v, TokAt a.C_Token G v tk → Q v H) : spPeek a [.ref p] H Q E := ⟨⟨p, G, n, toks, tk, rfl, hs, hP, hn, k⟩⟩
theorem ok_Parser_take (T : Txt K mg a) : FnOk P w K mg base CX0 2 a.f_Parser_take a.d_Parser_take ["self", "kind"] (spTake a fun t => kS t.k) := by
  refine T.F_Parser_take.ok sc_Parser_take (fun vs H Q E h => ?_) (fun cdv A outer s H vs Q E hr h => ?_)
  · obtain ⟨⟨p, G, n, toks, tk, rfl, _⟩⟩ := h
    rfl
  · obtain ⟨⟨p, G, n, toks, tk, rfl, hs, hP, hn, k⟩⟩ := h
    obtain ⟨dx, ta, fl, vs, h1, h2, h3, h4, h5⟩ := id hP
    refine ⟨_, (pss_cons (ps_set (i := 2) sc_Parser_take.nd rfl (Or.inl rfl) (pe_meth0 (pv 0) T.cl_Parser T.M_Parser_peek (ok_Parser_peek T) (hr.mono (by decide)) (b_Parser_peek T) .nil pass0))
      (pss_cons (ps_if (pt_cmpR op_ne (pe_fld (pv 2) rfl) (pv 1) (nomark _)) pss_never pss_nil)
      (pss_cons (ps_fldaug (pv 0) pe_int in_add)
      (pss_one (ps_ret (pv 2)))))), ?_⟩
    refine ⟨_, rfl, p, dx, _, rfl, h1, (by kernel_rfl), peek_go hs hP hn fun v hv => ?_⟩
    obtain ⟨q, dq, l, c, rfl, hq⟩ := id hv
    refine ⟨_, rfl, q, _, dq, _, _, rfl, hs _ _ hq, T.cl_Token, T.n_Token_kind, (by kernel_rfl), _, rfl, rfl, _, rfl, ite_f (by rw [decide_eq_true rfl]; rfl) ?_⟩
    refine ⟨_, rfl, p, _, dx, _, .int n, rfl, h1, T.cl_Parser, T.n_Parser_at, (by kernel_rfl), _, _, rfl, rfl, dx, _, h1, (by show 3 < 1000; decide), ?_⟩
    refine ⟨_, rfl, k _ _ ((Mv.start hs).put (.inl (by simp)) h2 _) ⟨dx, ta, fl, vs, ?_, h2, h3, h4, h5⟩ hv⟩
    rw [upd_same]
    exact congrArg (fun z => some (HO.ins a.C_Parser dx z)) (parF_put ta fl n 1)
theorem ok_Parser_take_word (T : Txt K mg a) : FnOk P w K mg base CX0 2 a.f_Parser_take_word a.d_Parser_take_word ["self", "word"] (spTake a fun t => mkS t.t) := by
  refine T.F_Parser_take_word.ok sc_Parser_take_word (fun vs H Q E h => ?_) (fun cdv A outer s H vs Q E hr h => ?_)
  · obtain ⟨⟨p, G, n, toks, tk, rfl, _⟩⟩ := h
    rfl
  · obtain ⟨⟨p, G, n, toks, tk, rfl, hs, hP, hn, k⟩⟩ := h
    obtain ⟨dx, ta, fl, vs, h1, h2, h3, h4, h5⟩ := id hP
    refine ⟨_, (pss_cons (ps_set (i := 2) sc_Parser_take_word.nd rfl (Or.inl rfl) (pe_meth0 (pv 0) T.cl_Parser T.M_Parser_peek (ok_Parser_peek T) (hr.mono (by decide)) (b_Parser_peek T) .nil pass0))
      (pss_cons (ps_if (pt_cmpR op_ne (pe_fld (pv 2) rfl) (pv 1) (nomark _)) pss_never pss_nil)
      (pss_cons (ps_fldaug (pv 0) pe_int in_add)
      (pss_one (ps_ret (pv 2)))))), ?_⟩
    refine ⟨_, rfl, p, dx, _, rfl, h1, (by kernel_rfl), peek_go hs hP hn fun v hv => ?_⟩
    obtain ⟨q, dq, l, c, rfl, hq⟩ := id hv
    refine ⟨_, rfl, q, _, dq, _, _, rfl, hs _ _ hq, T.cl_Token, T.n_Token_text, (by kernel_rfl), _, rfl, rfl, _, rfl, ite_f (by rw [decide_eq_true rfl]; rfl) ?_⟩
    refine ⟨_, rfl, p, _, dx, _, .int n, rfl, h1, T.cl_Parser, T.n_Parser_at, (by kernel_rfl), _, _, rfl, rfl, dx, _, h1, (by show 3 < 1000; decide), ?_⟩
    refine ⟨_, rfl, k _ _ ((Mv.start hs).put (.inl (by simp)) h2 _) ⟨dx, ta, fl, vs, ?_, h2, h3, h4, h5⟩ hv⟩
    rw [upd_same]
    exact congrArg (fun z => some (HO.ins a.C_Parser dx z)) (parF_put ta fl n 1)
/-- the next token is taken, within a def that may write S -/
theorem take_go {f : Tk → Str} {z : Str} {S : List Addr} {p : Addr} {G0 H0 G H : Hp} {n : Nat} {toks : List Tk} {tk : Tk} {Q : VK} {E : XK} (hz : z = f tk) (m : Mv S G0 H0 G H) (hp : p ∈ S ∨ H0 p = none) (hP : ParAt a G H p n toks) (hn : toks[n]? = some tk)
    (k : ∀ H1 v, Mv S G0 H0 G H1 → Mv [p] G H G H1 → ParAt a G H1 p (n + 1) toks → TokAt a.C_Token G v tk → Q v H1) : spTake a f [.ref p, .str z] H Q E :=
  ⟨⟨p, G, n, toks, tk, by rw [hz], m.s, hP, hn, fun H1 v mv hP1 hv => k H1 v ⟨m.ext.trans mv.ext, fun c o e => by
    have e1 := m.sm c o e
    obtain ⟨h1, h2⟩ := wos_some e
    refine mv.sm c o ?_
    by_cases hc : c ∈ [p]
    · have : c = p := by simpa using hc
      subst this
      rcases hp with hp | hp
      · exact absurd hp h1
      · rw [hp] at h2; cases h2
    · rw [wos_out hc]; exact e1⟩ mv hP1 hv⟩⟩
end
end Sb

namespace Sb
open PySem PySem.Spec PyProof.Rows L2 TL
def numT (n : Nat) : Tk := ⟨.number, numL n⟩
def kwT (s : Str) : Tk := ⟨.keyword, tl s⟩
def sgT (c : Nat) : Tk := ⟨.sign, [c]⟩
def nmT (t : List Nat) : Tk := ⟨.name, t⟩
theorem drop_at {α : Type} {l : List α} {n : Nat} {x : α} {r : List α} (h : l.drop n = x :: r) : l[n]? = some x ∧ l.drop (n + 1) = r := by
  constructor
  · have h1 : (l.drop n)[0]? = some x := by rw [h]; rfl
    rw [List.getElem?_drop] at h1
    exact h1
  · rw [← List.drop_drop, h]
    rfl
theorem int_of {n : Nat} (h : n < 100) : intText? (mkS (numL n)) = some (n : Int) := by
  have e : Str.ofString (toString ((n : Nat) : Int)) = mkS (numL n) := mkS_of (tl_num n)
  rw [← e]
  exact int_num (by have := num_len h; omega)
theorem numT_len {n : Nat} (h : n < 100) : (mkS (numL n)).length ≤ 640 := by rw [len_mkS]; have := num_len h; omega
structure spShelf (a : Ad) (K : PySem.W.Frag) (vs : List V) (H : Hp) (Q : VK) (E : XK) : Prop where
  ex : ∃ (p : Addr) (G : Hp) (n : Nat) (toks : List Tk) (nums : List Nat) (rest : List Tk), vs = [.ref p] ∧ Same G H ∧ ParAt a G H p n toks ∧ toks.drop n = kwT "shelf" :: (nums.map numT ++ (sgT 59 :: rest)) ∧ 3 ≤ nums.length ∧ nums.length ≤ 12 ∧ (∀ x ∈ nums, x ≤ 3) ∧
    ∀ G1 H1 u, Mv [p] G H G1 H1 → ParAt a G1 H1 p (n + nums.length + 2) toks → SqT K G1 u (nums.map fun n : Nat => V.int n) → Q (.ref u) H1
section
variable {P : Program} {w : World} {K : PySem.W.Frag} {mg : Str → Option Value} {base : Heap} {a : Ad}
theorem ok_Parser_parse_shelf (T : Txt K mg a) : FnOk P w K mg base CX0 3 a.f_Parser_parse_shelf a.d_Parser_parse_shelf ["self"] (spShelf a K) := by
  refine T.F_Parser_parse_shelf.ok sc_Parser_parse_shelf (fun vs H Q E h => ?_) (fun cdv A outer s H vs Q E hr h => ?_)
  · obtain ⟨⟨p, G, n, toks, nums, rest, rfl, _⟩⟩ := h
    rfl
  · obtain ⟨⟨p, G, n, toks, nums, rest, rfl, hs, hP, hd, h3, h12, hb, k⟩⟩ := h
    refine ⟨_, (pss_cons (ps_set (i := 1) sc_Parser_parse_shelf.nd rfl (Or.inl rfl) (pe_meth (pv 0) T.cl_Parser T.M_Parser_take_word (ok_Parser_take_word T) (hr.mono (by decide)) (b_Parser_take_word T) .nil pass0 (pa_cons pe_str pa_nil)))
      (pss_cons (ps_set (i := 2) sc_Parser_parse_shelf.nd rfl (Or.inl rfl) (pe_lst (pa_cons (pe_meth (pv 0) T.cl_Parser T.M_Parser_take (ok_Parser_take T) (hr.mono (by decide)) (b_Parser_take T) .nil pass0 (pa_cons (pe_glob (v := V.str (Str.ofString "number")) rfl T.c_NUMBER ⟨_, rfl⟩) pa_nil)) pa_nil)))
      (pss_cons (ps_while PassesOwn.never (pt_cmpR op_eq (pe_fld (pe_meth0 (pv 0) T.cl_Parser T.M_Parser_peek (ok_Parser_peek T) (hr.mono (by decide)) (b_Parser_peek T) .nil pass0) rfl) (pe_glob (v := V.str (Str.ofString "number")) rfl T.c_NUMBER ⟨_, rfl⟩) (nomark _)) (pss_one (ps_expr (pe_bm PySem.F.plainAttrs_list PySem.F.slot_list_append PySem.F.type_list_append mt_append (pv 2) (pa_cons (pe_meth (pv 0) T.cl_Parser T.M_Parser_take (ok_Parser_take T) (hr.mono (by decide)) (b_Parser_take T) .nil pass0 (pa_cons (pe_glob (v := V.str (Str.ofString "number")) rfl T.c_NUMBER ⟨_, rfl⟩) pa_nil)) pa_nil)))))
      (pss_cons (ps_expr (pe_meth (pv 0) T.cl_Parser T.M_Parser_take_word (ok_Parser_take_word T) (hr.mono (by decide)) (b_Parser_take_word T) .nil pass0 (pa_cons pe_str pa_nil)))
      (pss_cons (ps_if (pt_cmpR op_lt (pe_callB call_len_seq (by rfl) T.z_len (by decide +kernel) (pa_cons (pv 2) pa_nil)) (pe_glob (v := V.int 3) rfl T.c_MIN_CELLS ⟨_, rfl⟩) (nomark _)) pss_never pss_nil)
      (pss_cons (ps_for PassesOwn.never rfl (pi_enum (by rfl) T.z_enumerate (pa_cons (pv 2) pa_nil)) (pg_tup (by rfl) (pgs_cons (pg_name (i := 3) sc_Parser_parse_shelf.nd rfl (Or.inl rfl)) (pgs_cons (pg_name (i := 4) sc_Parser_parse_shelf.nd rfl (Or.inl rfl)) pgs_nil))) (pss_one (ps_if (pt_cmpR op_eq (pv 3) (pe_glob (v := V.int 12) rfl T.c_MAX_CELLS ⟨_, rfl⟩) (nomark _)) pss_never (pss_one (ps_if (pt_cmpR op_gt (pe_callTy call_int_str (by rfl) T.z_int (by decide +kernel) (pa_cons (pe_fld (pv 4) rfl) pa_nil)) (pe_glob (v := V.int 3) rfl T.c_MAX_BOXES ⟨_, rfl⟩) (nomark _)) pss_never pss_nil)))))
      (pss_one (ps_ret (pe_callTy call_tuple_of (by rfl) T.z_tuple (by decide +kernel) (pa_cons (pe_lc (own := [("token", 4)]) (g := gName 4) (te := (tCB _ (tCons (tFld K (tVar 4) "text") tNil))) (tt := tYes) rfl sc_Parser_parse_shelf.nd (pi_list (pv 2)) (blkOk_by (own := [("token", 4)]) (N := ["self", "keyword", "tokens", "place", "token"]) (sc := (defScope s_Parser_parse_shelf)) (by decide +kernel)) (fun _ _ _ _ _ => (pg_name (i := 4) sc_Parser_parse_shelf.nd rfl (Or.inl rfl))) (fun _ _ _ _ _ => pts_nil) (fun _ _ _ _ _ => by exact (pe_callTy call_int_str (by rfl) T.z_int (by decide +kernel) (pa_cons (pe_fld (pv 4) rfl) pa_nil)))) pa_nil)))))))))), ?_⟩
    have M0 : Mv [p] G H G H := Mv.start hs
    obtain ⟨dx, ta, fl, h1⟩ := hP.some
    obtain ⟨n0, d1⟩ := drop_at hd
    -- keyword
    refine ⟨_, rfl, p, dx, _, rfl, h1, (by kernel_rfl), take_go (tk := kwT "shelf") (mkS_tl _).symm M0 (.inl (by simp)) hP n0 fun H1 v1 M1 _ P1 hv1 => ?_⟩
    obtain ⟨x0, nums', rfl⟩ : ∃ x0 nums', nums = x0 :: nums' := by cases nums with | nil => exact absurd h3 (by decide) | cons x y => exact ⟨x, y, rfl⟩
    generalize hnums : x0 :: nums' = nums at *
    have d1' : toks.drop (n + 1) = nums.map numT ++ (sgT 59 :: rest) := d1
    have at_j : ∀ j x, nums[j]? = some x → toks[n + 1 + j]? = some (numT x) := fun j x hj => by
      have hlt : j < nums.length := (List.getElem?_eq_some_iff.mp hj).1
      have e := congrArg (fun l => l[j]?) d1'
      simp only [List.getElem?_drop] at e
      rw [e, List.getElem?_append_left (by rw [List.length_map]; exact hlt), List.getElem?_map, hj]
      rfl
    have at_e : toks[n + 1 + nums.length]? = some (sgT 59) := by
      have e := congrArg (fun l => l[nums.length]?) d1'
      simp only [List.getElem?_drop] at e
      rw [e, List.getElem?_append_right (by rw [List.length_map]; exact Nat.le_refl _), List.length_map, Nat.sub_self]
      rfl
    have hx0 : nums[0]? = some x0 := by rw [← hnums]; rfl
    obtain ⟨dx1, ta1, fl1, h11⟩ := P1.some
    refine ⟨_, rfl, p, dx1, _, rfl, h11, (by kernel_rfl), take_go (tk := numT x0) rfl M1 (.inl (by simp)) P1 (at_j 0 x0 hx0) fun H2 v2 M2 _ P2 hv2 => ?_⟩
    refine ⟨(by show 1 ≤ sizeLine; decide), fun l hl => ?_⟩
    have l0 : H l = none := M2.free hl
    have lG : G l = none := M2.freeG hl
    have pl : p ≠ l := by obtain ⟨_, _, _, h⟩ := P2.some; exact ne_of_none h hl
    have M3 := M2.lay hl (.lst [v2])
    have P3 := P2.lay (o := .lst [v2]) hl
    -- the numbers
    obtain ⟨Iv, hIv⟩ : ∃ Iv : Nat → L2.St → Hp → Prop, Iv = fun j σ H' => ∃ (vs : List V), σ = [some (.ref p), some v1, some (.ref l), none, none] ∧ 1 ≤ j ∧ j ≤ nums.length ∧ Mv [p] G H G H' ∧ ParAt a G H' p (n + 1 + j) toks ∧ H' l = some (.lst vs) ∧ ToksAt a.C_Token G vs ((nums.take j).map numT) := ⟨_, rfl⟩
    dsimp only
    refine seq_restσ (fun σ H' => Iv nums.length σ H') (fun σ H' hI => ?r) (fun rest1 => ?m)
    case m =>
      refine ⟨fun m σ H' => ∃ j, m = nums.length - j ∧ Iv j σ H', ⟨_, 1, rfl, ?_⟩, ?_⟩
      · rw [hIv]
        refine ⟨[v2], rfl, Nat.le_refl _, by omega, M3, P3, upd_same, ?_⟩
        have : nums.take 1 = [x0] := by rw [← hnums]; rfl
        rw [this]
        exact .cons hv2 .nil
      · rintro m σ H' ⟨j, rfl, hI⟩
        have hI0 := hI
        rw [hIv] at hI
        obtain ⟨vs, rfl, j1, jn, M, PP, hlv, htk⟩ := hI
        obtain ⟨dx2, ta2, fl2, h12'⟩ := PP.some
        by_cases hj : j < nums.length
        · obtain ⟨y, hy⟩ : ∃ y, nums[j]? = some y := ⟨_, List.getElem?_eq_getElem hj⟩
          refine ⟨_, rfl, p, dx2, _, rfl, h12', (by kernel_rfl), peek_go M.s PP (at_j j y hy) fun v hv => ?_⟩
          obtain ⟨q, dq, lq, cq, rfl, hq⟩ := id hv
          refine ⟨q, _, dq, _, .str (kS .number), rfl, M.s _ _ hq, T.cl_Token, T.n_Token_kind, (by kernel_rfl), rfl, _, rfl, ite_t (decide_eq_true rfl) ?_⟩
          refine ⟨fun σ' H' => Iv (j + 1) σ' H', fun σ' H' hn => ⟨_, by omega, j + 1, rfl, hn⟩, ?_⟩
          refine ⟨_, rfl, .inl ⟨rfl, _, SqL.of hlv⟩, _, rfl, p, dx2, _, rfl, h12', (by kernel_rfl), take_go (tk := numT y) rfl M (.inl (by simp)) PP (at_j j y hy) fun H4 v4 M4 m4 P4 hv4 => ?_⟩
          have hl4 : H4 l = some (.lst vs) := m4.kept hlv (by simp [pl.symm])
          refine ⟨l, vs, _, rfl, rfl, hl4, smaller 12 (by rw [Paired.len htk, List.length_map, List.length_take]; omega) (by decide), ?_⟩
          rw [hIv]
          refine ⟨vs ++ [v4], rfl, by omega, by omega, M4.put (.inr l0) lG _, P4.put pl, upd_same, ?_⟩
          rw [take_more hy, List.map_append]
          exact Paired.snoc htk hv4
        · have ej : j = nums.length := by omega
          rw [ej] at PP hI0
          refine ⟨_, rfl, p, dx2, _, rfl, (by rw [ej] at h12'; exact h12'), (by kernel_rfl), peek_go M.s PP at_e fun v hv => ?_⟩
          obtain ⟨q, dq, lq, cq, rfl, hq⟩ := id hv
          refine ⟨q, _, dq, _, .str (kS .sign), rfl, M.s _ _ hq, T.cl_Token, T.n_Token_kind, (by kernel_rfl), rfl, _, rfl, ite_f (by decide +kernel) (rest1 _ _ hI0)⟩
    rw [hIv] at hI
    obtain ⟨vs, rfl, j1, jn, M, PP, hlv, htk⟩ := hI
    rw [List.take_length] at htk
    have hvl : vs.length = nums.length := by rw [Paired.len htk, List.length_map]
    obtain ⟨dx2, ta2, fl2, h12'⟩ := PP.some
    -- ;
    refine ⟨_, rfl, p, dx2, _, rfl, h12', (by kernel_rfl), take_go (tk := sgT 59) (mkS_of t_sc) M (.inl (by simp)) PP at_e fun H4 v4 M4 m4 P4 _ => ?_⟩
    have hl4 : H4 l = some (.lst vs) := m4.kept hlv (by simp [pl.symm])
    refine ⟨_, rfl, l, _, rfl, .inl (SqL.of hl4), _, _, rfl, rfl, _, rfl, ite_f (decide_eq_false (by rw [hvl]; omega)) ?_⟩
    -- the check
    refine ⟨_, rfl, l, _, rfl, SqL.of hl4, for_it (walk_enum (K := K) (a := l) (xs := vs)) (fun i σ H' => ∃ (v3 v4 : Option V), σ = [some (.ref p), some v1, some (.ref l), v3, v4] ∧ Mv [p] G H G H' ∧ ParAt a G H' p (n + 1 + nums.length + 1) toks ∧ H' l = some (.lst vs)) ⟨none, none, rfl, M4, P4, hl4⟩ (fun i σ H' _ ⟨_, _, _, _, _, h⟩ => SqL.of h) ?_ ?_⟩
    · rintro i y σ H5 H6 hi ⟨v3, v4', rfl, M5, P5, hl5⟩ ⟨T', x, z, rfl, hT', rfl, hx, hz⟩
      cases hx
      have hz : vs[i]? = some z := hz
      obtain ⟨tk, htk1, htok⟩ := paired_get htk hz
      rw [List.getElem?_map] at htk1
      obtain ⟨y, hy, rfl⟩ : ∃ y, nums[i]? = some y ∧ tk = numT y := by
        cases e : nums[i]? with
        | none => rw [e] at htk1; cases htk1
        | some q => rw [e] at htk1; exact ⟨q, rfl, (Option.some.inj htk1).symm⟩
      have hy3 : y ≤ 3 := hb y (List.mem_of_getElem? hy)
      obtain ⟨q, dq, lq, cq, rfl, hq⟩ := htok
      have M6 := M5.lay hT' (.tup [.int (i : Nat), .ref q])
      refine ⟨T', _, rfl, SqT.of upd_same, rfl, _, _, rfl, _, _, rfl, rfl, ?_⟩
      refine ⟨_, rfl, rfl, _, rfl, ite_f (vint_ne (by omega)) ?_⟩
      refine ⟨_, rfl, q, _, dq, _, .str (mkS (numL y)), rfl, M6.s _ _ hq, T.cl_Token, T.n_Token_text, (by kernel_rfl), _, (y : Int), rfl, int_of (by omega), numT_len (by omega), _, _, rfl, rfl, _, rfl, ite_f (decide_eq_false (by omega)) ?_⟩
      exact ⟨_, _, rfl, M6, P5.lay hT', by rw [upd_ne (ne_of_none hl5 hT')]; exact hl5⟩
    · rintro σ H5 ⟨v3, v4', rfl, M5, P5, hl5⟩
      refine ⟨_, rfl, l, rfl, ⟨_, SqL.of hl5⟩, fun D hD => ?_⟩
      have D0 : H D = none := M5.free hD
      have DG : G D = none := M5.freeG hD
      have lD : l ≠ D := ne_of_none hl5 hD
      have pD : p ≠ D := by obtain ⟨_, _, _, h⟩ := P5.some; exact ne_of_none h hD
      refine lc_list (K := K) (a := l) (xs := vs) (fun j H' => Mv [p] G H G H' ∧ ParAt a G H' p (n + 1 + nums.length + 1) toks ∧ H' l = some (.lst vs) ∧ H' D = some (.lst ((nums.take j).map fun n : Nat => V.int n))) ⟨M5.lay hD _, P5.lay hD, by rw [upd_ne lD]; exact hl5, upd_same⟩ (fun j H' _ ⟨_, _, h, _⟩ => SqL.of h) ?_ ?_
      · rintro j z H' hz ⟨M6, P6, hl6, hD6⟩
        obtain ⟨tk, htk1, htok⟩ := paired_get htk hz
        rw [List.getElem?_map] at htk1
        obtain ⟨y, hy, rfl⟩ : ∃ y, nums[j]? = some y ∧ tk = numT y := by
          cases e : nums[j]? with
          | none => rw [e] at htk1; cases htk1
          | some q => rw [e] at htk1; exact ⟨q, rfl, (Option.some.inj htk1).symm⟩
        have hy3 : y ≤ 3 := hb y (List.mem_of_getElem? hy)
        obtain ⟨q, dq, lq, cq, rfl, hq⟩ := htok
        refine ⟨rfl, _, rfl, q, _, dq, _, .str (mkS (numL y)), rfl, M6.s _ _ hq, T.cl_Token, T.n_Token_text, (by kernel_rfl), _, (y : Int), rfl, int_of (by omega), numT_len (by omega), _, hD6, smaller 12 (by rw [List.length_map, List.length_take]; omega) (by decide), M6.put (.inr D0) DG _, P6.put pD, by rw [upd_ne lD]; exact hl6, ?_⟩
        rw [upd_same, take_more hy, List.map_append]
        rfl
      · rintro H6 ⟨M6, P6, hl6, hD6⟩
        rw [hvl, List.take_length] at hD6
        refine ⟨D, _, rfl, .inl ⟨SqL.of hD6, fun u hu => ?_⟩⟩
        have e : n + 1 + nums.length + 1 = n + nums.length + 2 := by omega
        rw [e] at P6
        exact k _ _ u (M6.new hu _) (P6.new M6.s hu) (SqT.of upd_same)
end
end Sb

namespace Sb
open PySem PySem.Spec PyProof.Rows L2 TL
/-! ### labelled steps -/
structure LStep where
  lab : Option (List Nat)
  w : Nat
  tgt : Option (List Nat)
def labT : Option (List Nat) → List Tk
  | none => []
  | some t => [nmT t, sgT 58]
def tgtT : Option (List Nat) → List Tk
  | none => []
  | some t => [nmT t]
def stepT (s : LStep) : List Tk := labT s.lab ++ (kwT (wS s.w) :: (tgtT s.tgt ++ [sgT 59]))
def labV : Option (List Nat) → V
  | none => .non
  | some t => .str (mkS t)
structure LStep.Ok (s : LStep) : Prop where
  w8 : s.w < 8
  no : s.w < 5 → s.tgt = none
  yes : 5 ≤ s.w → ∃ t, s.tgt = some t
  lb : s.lab ≠ some [125]
def JmpAt (a : Ad) (G : Hp) (v : V) : Option (List Nat) → Prop
  | none => v = .non
  | some t => TokAt a.C_Token G v (nmT t)
theorem lab_in (x : List Nat) : ∀ l : List (Option (List Nat)), inV (.str (mkS x)) (l.map labV) = decide (some x ∈ l)
  | [] => by simp [inV]
  | n :: r => by
    have ih := lab_in x r
    unfold inV at ih ⊢
    rw [List.map_cons, List.any_cons, ih]
    have e : eqV (labV n) (.str (mkS x)) = decide (n = some x) := by
      cases n with
      | none => simp [labV, eqV]
      | some t =>
        unfold labV eqV
        by_cases h : t = x
        · subst h; simp
        · have h2 : ¬ mkS t = mkS x := fun q => h (by have := congrArg tl q; rwa [tl_mkS, tl_mkS] at this)
          simp [h, h2]
    rw [e]
    by_cases h : n = some x
    · subst h; simp
    · have h' : ¬ some x = n := fun q => h q.symm
      simp [h, h']
theorem lab_flat (l : List (Option (List Nat))) : (l.map labV).all flatV = true := by
  rw [List.all_eq_true]
  intro x hx
  obtain ⟨n, _, rfl⟩ := List.mem_map.mp hx
  cases n <;> rfl
theorem ixN_last {n : Nat} : ixN (n + 1) (-1) = some n := by
  unfold ixN
  rw [if_neg (by decide), if_pos (by omega)]
  congr 1
  omega
theorem set_last {α : Type} (l : List α) (x y : α) : (l ++ [x]).set l.length y = l ++ [y] := by simp
def movS : List Str := ["left", "right", "pick", "put", "wait"]
def jmpS : List Str := ["goto", "empty", "held"]
theorem jmpS_in : ∀ {w : Nat}, w < 8 → decide (wS w ∈ jmpS) = decide (5 ≤ w) := by
  have h : ∀ w : _root_.Fin 8, decide (wS w.val ∈ jmpS) = decide (5 ≤ w.val) := by decide +kernel
  exact fun {w} hw => h ⟨w, hw⟩
theorem movS_in : ∀ {w : Nat}, w < 8 → decide (wS w ∈ movS) = decide (w < 5) := by
  have h : ∀ w : _root_.Fin 8, decide (wS w.val ∈ movS) = decide (w.val < 5) := by decide +kernel
  exact fun {w} hw => h ⟨w, hw⟩
structure spPStep (a : Ad) (vs : List V) (H : Hp) (Q : VK) (E : XK) : Prop where
  ex : ∃ (p nl jl : Addr) (G : Hp) (n : Nat) (toks : List Tk) (s : LStep) (rest : List Tk) (labs : List (Option (List Nat))) (js : List V), vs = [.ref p, .ref nl, .ref jl] ∧ Same G H ∧ ParAt a G H p n toks ∧ G nl = none ∧ G jl = none ∧ nl ≠ jl ∧
    H nl = some (.lst (labs.map labV)) ∧ H jl = some (.lst js) ∧ toks.drop n = stepT s ++ rest ∧ s.Ok ∧ (∀ t, s.lab = some t → some t ∉ labs) ∧ labs.length ≤ 20 ∧ js.length ≤ 20 ∧
    ∀ H1 jv, Mv [p, nl, jl] G H G H1 → ParAt a G H1 p (n + (stepT s).length) toks → H1 nl = some (.lst ((labs ++ [s.lab]).map labV)) → H1 jl = some (.lst (js ++ [jv])) → JmpAt a G jv s.tgt → Q (.str (wS s.w)) H1
section
variable {P : Program} {w : World} {K : PySem.W.Frag} {mg : Str → Option Value} {base : Heap} {a : Ad}
theorem ok_Parser_parse_step (T : Txt K mg a) : FnOk P w K mg base CX0 3 a.f_Parser_parse_step a.d_Parser_parse_step ["self", "names", "jumps"] (spPStep a) := by
  refine T.F_Parser_parse_step.ok sc_Parser_parse_step (fun vs H Q E h => ?_) (fun cdv A outer s0 H vs Q E hr h => ?_)
  · obtain ⟨⟨p, nl, jl, G, n, toks, s, rest, labs, js, rfl, _⟩⟩ := h
    rfl
  · obtain ⟨⟨p, nl, jl, G, n, toks, s, rest, labs, js, rfl, hs, hP, nG, jG, nj, hn, hj, hd, ok, hdup, l20, j20, k⟩⟩ := h
    refine ⟨_, (pss_cons (ps_expr (pe_bm PySem.F.plainAttrs_list PySem.F.slot_list_append PySem.F.type_list_append mt_append (pv 1) (pa_cons pe_non pa_nil)))
      (pss_cons (ps_expr (pe_bm PySem.F.plainAttrs_list PySem.F.slot_list_append PySem.F.type_list_append mt_append (pv 2) (pa_cons pe_non pa_nil)))
      (pss_cons (ps_if (pt_cmpR op_eq (pe_fld (pe_meth0 (pv 0) T.cl_Parser T.M_Parser_peek (ok_Parser_peek T) (hr.mono (by decide)) (b_Parser_peek T) .nil pass0) rfl) (pe_glob (v := V.str (Str.ofString "name")) rfl T.c_NAME ⟨_, rfl⟩) (nomark _)) (pss_cons (ps_set (i := 3) sc_Parser_parse_step.nd rfl (Or.inl rfl) (pe_meth (pv 0) T.cl_Parser T.M_Parser_take (ok_Parser_take T) (hr.mono (by decide)) (b_Parser_take T) .nil pass0 (pa_cons (pe_glob (v := V.str (Str.ofString "name")) rfl T.c_NAME ⟨_, rfl⟩) pa_nil)))
      (pss_cons (ps_expr (pe_meth (pv 0) T.cl_Parser T.M_Parser_take_word (ok_Parser_take_word T) (hr.mono (by decide)) (b_Parser_take_word T) .nil pass0 (pa_cons pe_str pa_nil)))
      (pss_cons (ps_if (pt_cmpR op_in_seq (pe_fld (pv 3) rfl) (pv 1) rfl) pss_never pss_nil)
      (pss_one (ps_asg (pe_fld (pv 3) rfl) (pg_sub (pv 1) (pe_un un_neg pe_int) set_list)))))) pss_nil)
      (pss_cons (ps_set (i := 3) sc_Parser_parse_step.nd rfl (Or.inl rfl) (pe_meth (pv 0) T.cl_Parser T.M_Parser_take (ok_Parser_take T) (hr.mono (by decide)) (b_Parser_take T) .nil pass0 (pa_cons (pe_glob (v := V.str (Str.ofString "keyword")) rfl T.c_KEYWORD ⟨_, rfl⟩) pa_nil)))
      (pss_cons (ps_if (pt_cmpR op_in_seq (pe_fld (pv 3) rfl) (pe_glob (v := V.ref a.A_JUMPS) rfl T.c_JUMPS rfl) rfl) (pss_one (ps_asg (pe_meth (pv 0) T.cl_Parser T.M_Parser_take (ok_Parser_take T) (hr.mono (by decide)) (b_Parser_take T) .nil pass0 (pa_cons (pe_glob (v := V.str (Str.ofString "name")) rfl T.c_NAME ⟨_, rfl⟩) pa_nil)) (pg_sub (pv 2) (pe_un un_neg pe_int) set_list))) (pss_one (ps_if (pt_cmpR op_notIn_seq (pe_fld (pv 3) rfl) (pe_glob (v := V.ref a.A_MOVES) rfl T.c_MOVES rfl) rfl) pss_never pss_nil)))
      (pss_cons (ps_expr (pe_meth (pv 0) T.cl_Parser T.M_Parser_take_word (ok_Parser_take_word T) (hr.mono (by decide)) (b_Parser_take_word T) .nil pass0 (pa_cons pe_str pa_nil)))
      (pss_one (ps_ret (pe_fld (pv 3) rfl))))))))), ?_⟩
    have M0 : Mv [p, nl, jl] G H G H := Mv.start hs
    obtain ⟨dx, ta, fl, h1⟩ := hP.some
    have pn : p ≠ nl := ne_of h1 hn (by intro z; cases z)
    have pj : p ≠ jl := ne_of h1 hj (by intro z; cases z)
    refine ⟨_, rfl, .inl ⟨rfl, _, SqL.of hn⟩, nl, _, _, rfl, rfl, hn, smaller 20 (by rw [List.length_map]; exact l20) (by decide), ?_⟩
    have M1 := M0.put (l := nl) (.inl (by simp)) nG (.lst (labs.map labV ++ [.non]))
    have P1 := hP.put (o := .lst (labs.map labV ++ [.non])) pn
    have hj1 : (upd H nl (.lst (labs.map labV ++ [.non]))) jl = some (.lst js) := by rw [upd_ne nj.symm]; exact hj
    refine ⟨_, rfl, .inl ⟨rfl, _, SqL.of hj1⟩, jl, _, _, rfl, rfl, hj1, smaller 20 j20 (by decide), ?_⟩
    have M2 := M1.put (l := jl) (.inl (by simp)) jG (.lst (js ++ [.non]))
    have P2 := P1.put (o := .lst (js ++ [.non])) pj
    have hn2 : (upd (upd H nl (.lst (labs.map labV ++ [.non]))) jl (.lst (js ++ [.non]))) nl = some (.lst (labs.map labV ++ [.non])) := by rw [upd_ne nj, upd_same]
    have hj2 : (upd (upd H nl (.lst (labs.map labV ++ [.non]))) jl (.lst (js ++ [.non]))) jl = some (.lst (js ++ [.non])) := upd_same
    revert M2 P2 hn2 hj2
    generalize upd (upd H nl (.lst (labs.map labV ++ [.non]))) jl (.lst (js ++ [.non])) = H2
    intro M2 P2 hn2 hj2
    obtain ⟨dx2, ta2, fl2, h2⟩ := P2.some
    dsimp only
    -- the label
    refine seq_restσ (fun σ H' => ∃ v3 : Option V, σ = [some (.ref p), some (.ref nl), some (.ref jl), v3] ∧ Mv [p, nl, jl] G H G H' ∧ ParAt a G H' p (n + (labT s.lab).length) toks ∧ H' nl = some (.lst ((labs ++ [s.lab]).map labV)) ∧ H' jl = some (.lst (js ++ [.non]))) (fun σ H' hI => ?r) (fun rest1 => ?m)
    case m =>
      cases hlab : s.lab with
      | none =>
        rw [hlab] at rest1
        have d2 : toks.drop n = kwT (wS s.w) :: (tgtT s.tgt ++ [sgT 59] ++ rest) := by rw [hd]; unfold stepT; rw [hlab]; simp [labT]
        refine ⟨_, rfl, p, dx2, _, rfl, h2, (by kernel_rfl), peek_go M2.s P2 (drop_at d2).1 fun v hv => ?_⟩
        obtain ⟨q, dq, lq, cq, rfl, hq⟩ := id hv
        refine ⟨q, _, dq, _, .str (kS .keyword), rfl, M2.s _ _ hq, T.cl_Token, T.n_Token_kind, (by kernel_rfl), rfl, _, rfl, ite_f (by decide +kernel) ?_⟩
        exact rest1 _ _ ⟨_, rfl, M2, P2, by rw [hn2, List.map_append]; rfl, hj2⟩
      | some t =>
        rw [hlab] at rest1
        have d2 : toks.drop n = nmT t :: (sgT 58 :: (kwT (wS s.w) :: (tgtT s.tgt ++ [sgT 59] ++ rest))) := by rw [hd]; unfold stepT; rw [hlab]; simp [labT]
        obtain ⟨a0, d3⟩ := drop_at d2
        obtain ⟨a1, d4⟩ := drop_at d3
        refine ⟨_, rfl, p, dx2, _, rfl, h2, (by kernel_rfl), peek_go M2.s P2 a0 fun v hv => ?_⟩
        obtain ⟨q, dq, lq, cq, rfl, hq⟩ := id hv
        refine ⟨q, _, dq, _, .str (kS .name), rfl, M2.s _ _ hq, T.cl_Token, T.n_Token_kind, (by kernel_rfl), rfl, _, rfl, ite_t (decide_eq_true rfl) ?_⟩
        refine ⟨_, rfl, p, dx2, _, rfl, h2, (by kernel_rfl), take_go (tk := nmT t) rfl M2 (.inl (by simp)) P2 a0 fun H3 v3 M3 m3 P3 hv3 => ?_⟩
        obtain ⟨dx3, ta3, fl3, h3⟩ := P3.some
        refine ⟨_, rfl, p, dx3, _, rfl, h3, (by kernel_rfl), take_go (tk := sgT 58) (mkS_of (show tl (Str.ofString ":") = [58] by decide +kernel)) M3 (.inl (by simp)) P3 a1 fun H4 v4 M4 m4 P4 hv4 => ?_⟩
        have hn4 : H4 nl = some (.lst ((labs ++ [none]).map labV)) := by rw [List.map_append]; exact m4.kept (m3.kept hn2 (by simp [pn.symm])) (by simp [pn.symm])
        have hj4 : H4 jl = some (.lst (js ++ [.non])) := m4.kept (m3.kept hj2 (by simp [pj.symm])) (by simp [pj.symm])
        obtain ⟨q3, dq3, lq3, cq3, rfl, hq3⟩ := hv3
        refine ⟨_, rfl, q3, _, dq3, _, .str (mkS t), rfl, M4.s _ _ hq3, T.cl_Token, T.n_Token_text, (by kernel_rfl), _, rfl, nl, _, rfl, .inl (SqL.of hn4), rfl, lab_flat _, _, rfl, ite_f ?_ ?_⟩
        · rw [if_neg Bool.false_ne_true, lab_in]
          refine decide_eq_false fun z => ?_
          rcases List.mem_append.mp z with z | z
          · exact hdup t hlab z
          · simp at z
        refine ⟨_, rfl, q3, _, dq3, _, .str (mkS t), rfl, M4.s _ _ hq3, T.cl_Token, T.n_Token_text, (by kernel_rfl), _, rfl, _, rfl, nl, _, _, labs.length, rfl, rfl, hn4, (by rw [List.length_map, List.length_append]; exact ixN_last), ?_⟩
        refine rest1 _ _ ⟨_, rfl, M4.put (.inl (by simp)) nG _, P4.put pn, ?_, by rw [upd_ne nj.symm]; exact hj4⟩
        rw [upd_same, List.map_append, List.map_append]
        have := set_last (labs.map labV) (labV none) (.str (mkS t))
        rw [List.length_map] at this
        exact congrArg (fun z => some (HO.lst z)) this
    obtain ⟨v3, rfl, M5, P5, hn5, hj5⟩ := hI
    have d5 : toks.drop (n + (labT s.lab).length) = kwT (wS s.w) :: (tgtT s.tgt ++ [sgT 59] ++ rest) := by
      rw [← List.drop_drop, hd]
      unfold stepT
      rw [List.append_assoc, List.drop_left]
      simp
    obtain ⟨a5, d6⟩ := drop_at d5
    obtain ⟨dx5, ta5, fl5, h5⟩ := P5.some
    refine ⟨_, rfl, p, dx5, _, rfl, h5, (by kernel_rfl), take_go (tk := kwT (wS s.w)) rfl M5 (.inl (by simp)) P5 a5 fun H6 v6 M6 m6 P6 hv6 => ?_⟩
    have hn6 : H6 nl = some (.lst ((labs ++ [s.lab]).map labV)) := m6.kept hn5 (by simp [pn.symm])
    have hj6 : H6 jl = some (.lst (js ++ [.non])) := m6.kept hj5 (by simp [pj.symm])
    obtain ⟨q6, dq6, lq6, cq6, rfl, hq6⟩ := hv6
    obtain ⟨dx6, ta6, fl6, h6⟩ := P6.some
    dsimp only
    refine seq_restσ (fun σ H' => σ = [some (.ref p), some (.ref nl), some (.ref jl), some (.ref q6)] ∧ ∃ jv : V, Mv [p, nl, jl] G H G H' ∧ ParAt a G H' p (n + (labT s.lab).length + 1 + (tgtT s.tgt).length) toks ∧ H' nl = some (.lst ((labs ++ [s.lab]).map labV)) ∧ H' jl = some (.lst (js ++ [jv])) ∧ JmpAt a G jv s.tgt) (fun σ H' hI => ?r2) (fun rest2 => ?m2)
    case m2 =>
      have etx : mkS (tl (wS s.w)) = wS s.w := mkS_tl _
      refine ⟨_, rfl, q6, _, dq6, _, .str (mkS (tl (wS s.w))), rfl, M6.s _ _ hq6, T.cl_Token, T.n_Token_text, (by kernel_rfl), a.A_JUMPS, jmpS.map V.str, rfl, .inr (T.q_JUMPS H6), rfl, strs_flat _, _, rfl, ?_⟩
      rw [if_neg Bool.false_ne_true, in_strs, etx, jmpS_in ok.w8]
      refine ite2 (fun c => ?_) (fun c => ?_)
      · obtain ⟨t, ht⟩ := ok.yes (of_decide_eq_true c)
        rw [ht] at rest2 d6
        obtain ⟨a7, d7⟩ := drop_at (show _ = nmT t :: ([sgT 59] ++ rest) from d6)
        refine ⟨_, rfl, p, dx6, _, rfl, h6, (by kernel_rfl), take_go (tk := nmT t) rfl M6 (.inl (by simp)) P6 a7 fun H7 v7 M7 m7 P7 hv7 => ?_⟩
        have hn7 : H7 nl = some (.lst ((labs ++ [s.lab]).map labV)) := m7.kept hn6 (by simp [pn.symm])
        have hj7 : H7 jl = some (.lst (js ++ [.non])) := m7.kept hj6 (by simp [pj.symm])
        refine ⟨_, rfl, _, rfl, jl, _, _, js.length, rfl, rfl, hj7, (by rw [List.length_append]; exact ixN_last), ?_⟩
        refine rest2 _ _ ⟨rfl, v7, M7.put (.inl (by simp)) jG _, P7.put pj, by rw [upd_ne nj]; exact hn7, ?_, hv7⟩
        rw [upd_same, set_last]
      · have c' : ¬ 5 ≤ s.w := fun z => c (decide_eq_true z)
        have ht := ok.no (by omega)
        rw [ht] at rest2
        refine ⟨_, rfl, q6, _, dq6, _, .str (mkS (tl (wS s.w))), rfl, M6.s _ _ hq6, T.cl_Token, T.n_Token_text, (by kernel_rfl), a.A_MOVES, movS.map V.str, rfl, .inr (T.q_MOVES H6), rfl, strs_flat _, _, rfl, ite_f ?_ ?_⟩
        · rw [if_pos rfl, in_strs, etx, movS_in ok.w8, decide_eq_true (show s.w < 5 by omega)]
          rfl
        · exact rest2 _ _ ⟨rfl, .non, M6, P6, hn6, hj6, rfl⟩
    obtain ⟨rfl, jv, M8, P8, hn8, hj8, hjv⟩ := hI
    have d8 : toks.drop (n + (labT s.lab).length + 1 + (tgtT s.tgt).length) = sgT 59 :: rest := by
      rw [← List.drop_drop, d6, List.append_assoc, List.drop_left]
      rfl
    obtain ⟨a8, _⟩ := drop_at d8
    obtain ⟨dx8, ta8, fl8, h8⟩ := P8.some
    refine ⟨_, rfl, p, dx8, _, rfl, h8, (by kernel_rfl), take_go (tk := sgT 59) (mkS_of t_sc) M8 (.inl (by simp)) P8 a8 fun H9 v9 M9 m9 P9 _ => ?_⟩
    have hn9 := m9.kept hn8 (by simp [pn.symm])
    have hj9 := m9.kept hj8 (by simp [pj.symm])
    have el : n + (labT s.lab).length + 1 + (tgtT s.tgt).length + 1 = n + (stepT s).length := by
      unfold stepT
      simp only [List.length_append, List.length_cons, List.length_nil]
      omega
    rw [el] at P9
    refine ⟨_, rfl, q6, _, dq6, _, .str (wS s.w), rfl, M9.s _ _ hq6, T.cl_Token, T.n_Token_text, ?_, k H9 jv M9 P9 hn9 hj9 hjv⟩
    have : mkS (tl (wS s.w)) = wS s.w := mkS_tl _
    rw [← this]
    kernel_rfl
end
end Sb

namespace Sb
open PySem PySem.Spec PyProof.Rows L2 TL
theorem same_frz {G H : Hp} {l : Addr} {o : HO} (s : Same G H) (h : H l = some o) : Same G (upd G l o) := fun b u e => by
  by_cases hb : b = l
  · rw [hb, upd_same]
    rw [hb] at e
    have := s _ _ e
    rw [h] at this
    exact this
  · rw [upd_ne hb]; exact e
/-! ### shapes of data -/
theorem shaped_of {ds : List PyData} (h : ∀ d ∈ ds, d.canLay0 = true ∧ d.depth ≤ 10) : SeqAt.shaped (.list ds) = true ∧ SeqAt.shaped (.tuple ds) = true ∧ PyData.canLayAll0 ds = true ∧ PyData.depthAll ds ≤ 10 := by
  have h1 : PyData.canLayAll0 ds = true ∧ PyData.depthAll ds ≤ 10 := by
    induction ds with
    | nil => exact ⟨rfl, by show 0 ≤ 10; decide⟩
    | cons d ds ih =>
      obtain ⟨a1, a2⟩ := h d (by simp)
      obtain ⟨b1, b2⟩ := ih (fun d hd => h d (by simp [hd]))
      constructor
      · show (d.canLay0 && PyData.canLayAll0 ds) = true
        rw [a1, b1]; rfl
      · show max d.depth (PyData.depthAll ds) ≤ 10
        omega
  refine ⟨?_, ?_, h1⟩
  · show (PyData.canLayAll0 ds && decide (PyData.depthAll ds + 1 ≤ 64)) = true
    rw [h1.1, decide_eq_true (by omega)]; rfl
  · show (PyData.canLayAll0 ds && decide (PyData.depthAll ds + 1 ≤ 64)) = true
    rw [h1.1, decide_eq_true (by omega)]; rfl
theorem wS_ok : ∀ {w : Nat}, w < 8 → PyData.strOk (wS w) = true := by
  have h : ∀ w : _root_.Fin 8, PyData.strOk (wS w.val) = true := by decide +kernel
  exact fun {w} hw => h ⟨w, hw⟩
theorem str_lay {x : Str} (h : PyData.strOk x = true) : (PyData.str x).canLay0 = true ∧ (PyData.str x).depth ≤ 10 := ⟨h, by show 0 ≤ 10; decide⟩
theorem eqV_lab (n : Option (List Nat)) (x : List Nat) : eqV (labV n) (.str (mkS x)) = decide (n = some x) := by
  cases n with
  | none => simp [labV, eqV]
  | some t =>
    unfold labV eqV
    by_cases h : t = x
    · subst h; simp
    · have h2 : ¬ mkS t = mkS x := fun q => h (by have := congrArg tl q; rwa [tl_mkS, tl_mkS] at this)
      simp [h, h2]
/-! ### robots -/
def robotT (n : Nat) (ls : List LStep) : List Tk := kwT "robot" :: numT n :: sgT 123 :: (ls.flatMap stepT ++ [sgT 125])
def labsOf (ls : List LStep) : List (Option (List Nat)) := ls.map LStep.lab
structure Res (labs : List (Option (List Nat))) (s : LStep) (r : Step) : Prop where
  w : r.w = s.w
  no : s.tgt = none → r.g = none
  yes : ∀ t, s.tgt = some t → ∃ k, r.g = some k ∧ labs[k]? = some (some t) ∧ ∀ m, m < k → labs[m]? ≠ some (some t)
structure LOk (ls : List LStep) (ss : List Step) : Prop where
  pos : 1 ≤ ls.length
  le : ls.length ≤ 20
  all : ∀ s ∈ ls, s.Ok
  dup : ∀ i s t, ls[i]? = some s → s.lab = some t → some t ∉ labsOf (ls.take i)
  res : Paired (Res (labsOf ls)) ls ss
def robF (n : Nat) (sl nl : Addr) : List (Str × V) := [("start", .int n), ("steps", .ref sl), ("names", .ref nl)]
def RobAt (a : Ad) (K : PySem.W.Frag) (G : Hp) (v : V) (n : Nat) (ss : List Step) : Prop := ∃ (r dx sl nl : Addr), v = .ref r ∧ G r = some (.ins a.C_Robot dx (robF n sl nl)) ∧ Dp K G (.ref sl) (stepsD ss)
theorem RobAt.mono {a : Ad} {K : PySem.W.Frag} {G G' : Hp} {v : V} {n : Nat} {ss : List Step} (s : Same G G') (h : RobAt a K G v n ss) : RobAt a K G' v n ss := by
  obtain ⟨r, dx, sl, nl, e, h1, h2⟩ := h
  exact ⟨r, dx, sl, nl, e, s _ _ h1, Dp.mono s _ _ h2⟩
structure spPRobot (a : Ad) (K : PySem.W.Frag) (vs : List V) (H : Hp) (Q : VK) (E : XK) : Prop where
  ex : ∃ (p ot : Addr) (G : Hp) (pos : Nat) (toks : List Tk) (cells st : Nat) (os : List Nat) (ls : List LStep) (ss : List Step) (rest : List Tk), vs = [.ref p, .int cells, .ref ot] ∧ Same G H ∧ ParAt a G H p pos toks ∧ SqT K G ot (os.map fun n : Nat => V.int n) ∧
    toks.drop pos = robotT st ls ++ rest ∧ st < cells ∧ cells < 100 ∧ st ∉ os ∧ LOk ls ss ∧
    ∀ G1 H1 v, Mv [p] G H G1 H1 → ParAt a G1 H1 p (pos + (robotT st ls).length) toks → RobAt a K G1 v st ss → Q v H1
theorem step_head {s : LStep} (h : s.Ok) (r : List Tk) : ∃ tk r', stepT s ++ r = tk :: r' ∧ tk.t ≠ [125] := by
  unfold stepT
  cases hl : s.lab with
  | none =>
    refine ⟨kwT (wS s.w), _, rfl, ?_⟩
    have : ∀ w : _root_.Fin 8, tl (wS w.val) ≠ [125] := by decide +kernel
    exact this ⟨s.w, h.w8⟩
  | some t =>
    refine ⟨nmT t, _, rfl, fun z => ?_⟩
    have : t = [125] := z
    exact h.lb (by rw [hl, this])
theorem flat_more {α β : Type} {l : List α} {f : α → List β} {i : Nat} {x : α} (h : l[i]? = some x) : (l.take (i + 1)).flatMap f = (l.take i).flatMap f ++ f x := by
  rw [take_more h, List.flatMap_append]
  simp
theorem flat_split {α β : Type} {l : List α} {f : α → List β} {i : Nat} {x : α} (h : l[i]? = some x) : l.flatMap f = (l.take i).flatMap f ++ (f x ++ (l.drop (i + 1)).flatMap f) := by
  have hi : i < l.length := (List.getElem?_eq_some_iff.mp h).1
  have e : l = l.take i ++ (x :: l.drop (i + 1)) := by
    have h2 := List.drop_eq_getElem_cons hi
    have h3 : l[i] = x := (List.getElem?_eq_some_iff.mp h).2
    rw [h3] at h2
    rw [← h2, List.take_append_drop]
  conv => lhs; rw [e]
  rw [List.flatMap_append, List.flatMap_cons]
section
variable {P : Program} {w : World} {K : PySem.W.Frag} {mg : Str → Option Value} {base : Heap} {a : Ad}
theorem ok_Robot_init (T : Txt K mg a) : FnOk P w K mg base CX0 1 a.f_Robot_init a.d_Robot_init ["self", "start", "steps", "names"] (spInit a.C_Robot ["start", "steps", "names"]) := by
  refine T.F_Robot_init.ok sc_Robot_init (fun vs H Q E h => ?_) (fun cdv A outer s H vs Q E hr h => ?_)
  · obtain ⟨⟨x, dx, us, rfl, hl, _⟩⟩ := h
    exact congrArg (· + 1) hl
  · obtain ⟨⟨x, dx, us, rfl, hl, hx, k⟩⟩ := h
    match us, hl with
    | [u1, u2, u3], _ =>
      refine ⟨_, (pss_cons (ps_fld (pv 0) (pv 1) rfl)
      (pss_cons (ps_fld (pv 0) (pv 2) rfl)
      (pss_one (ps_fld (pv 0) (pv 3) rfl)))), ?_⟩
      refine ⟨_, rfl, _, rfl, x, _, dx, _, rfl, hx, T.cl_Robot, T.n_Robot_start, by decide, ?_⟩
      refine ⟨_, rfl, _, rfl, x, _, dx, _, rfl, upd_same, T.cl_Robot, T.n_Robot_steps, lf1, ?_⟩
      refine ⟨_, rfl, _, rfl, x, _, dx, _, rfl, upd_same, T.cl_Robot, T.n_Robot_names, lf2, ?_⟩
      rw [upd_upd, upd_upd]
      have e : putF "names" u3 (putF "steps" u2 (putF "start" u1 [])) = (["start", "steps", "names"] : List Str).zip [u1, u2, u3] := by
        show putF "names" u3 (putF "steps" u2 [("start", u1)]) = _
        rw [putF_new (fs := [("start", u1)]) (show ("steps" : Str) ∉ (["start"] : List Str) by decide +kernel)]
        show putF "names" u3 [("start", u1), ("steps", u2)] = _
        rw [putF_new (fs := [("start", u1), ("steps", u2)]) (show ("names" : Str) ∉ (["start", "steps"] : List Str) by decide +kernel)]
        rfl
      rw [e]
      exact k
theorem ok_Plan_init (T : Txt K mg a) : FnOk P w K mg base CX0 1 a.f_Plan_init a.d_Plan_init ["self", "shelf", "robots"] (spInit a.C_Plan ["shelf", "robots"]) := by
  refine T.F_Plan_init.ok sc_Plan_init (fun vs H Q E h => ?_) (fun cdv A outer s H vs Q E hr h => ?_)
  · obtain ⟨⟨x, dx, us, rfl, hl, _⟩⟩ := h
    exact congrArg (· + 1) hl
  · obtain ⟨⟨x, dx, us, rfl, hl, hx, k⟩⟩ := h
    match us, hl with
    | [u1, u2], _ =>
      refine ⟨_, (pss_cons (ps_fld (pv 0) (pv 1) rfl)
      (pss_one (ps_fld (pv 0) (pv 2) rfl))), ?_⟩
      refine ⟨_, rfl, _, rfl, x, _, dx, _, rfl, hx, T.cl_Plan, T.n_Plan_shelf, by decide, ?_⟩
      refine ⟨_, rfl, _, rfl, x, _, dx, _, rfl, upd_same, T.cl_Plan, T.n_Plan_robots, lf1, ?_⟩
      rw [upd_upd]
      have e : putF "robots" u2 (putF "shelf" u1 []) = (["shelf", "robots"] : List Str).zip [u1, u2] := by
        show putF "robots" u2 [("shelf", u1)] = _
        rw [putF_new (fs := [("shelf", u1)]) (show ("robots" : Str) ∉ (["shelf"] : List Str) by decide +kernel)]
        rfl
      rw [e]
      exact k
theorem ok_Parser_parse_robot (T : Txt K mg a) : FnOk P w K mg base CX0 4 a.f_Parser_parse_robot a.d_Parser_parse_robot ["self", "cells", "others"] (spPRobot a K) := by
  refine T.F_Parser_parse_robot.ok sc_Parser_parse_robot (fun vs H Q E h => ?_) (fun cdv A outer s0 H vs Q E hr h => ?_)
  · obtain ⟨⟨p, ot, G, pos, toks, cells, st, os, ls, ss, rest, rfl, _⟩⟩ := h
    rfl
  · obtain ⟨⟨p, ot, G, pos, toks, cells, st, os, ls, ss, rest, rfl, hs, hP, hot, hd, hst, hc, hos, ok, k⟩⟩ := h
    refine ⟨_, (pss_cons (ps_expr (pe_meth (pv 0) T.cl_Parser T.M_Parser_take_word (ok_Parser_take_word T) (hr.mono (by decide)) (b_Parser_take_word T) .nil pass0 (pa_cons pe_str pa_nil)))
      (pss_cons (ps_set (i := 3) sc_Parser_parse_robot.nd rfl (Or.inl rfl) (pe_meth (pv 0) T.cl_Parser T.M_Parser_take (ok_Parser_take T) (hr.mono (by decide)) (b_Parser_take T) .nil pass0 (pa_cons (pe_glob (v := V.str (Str.ofString "number")) rfl T.c_NUMBER ⟨_, rfl⟩) pa_nil)))
      (pss_cons (ps_if (pt_cmpR op_ge (pe_callTy call_int_str (by rfl) T.z_int (by decide +kernel) (pa_cons (pe_fld (pv 3) rfl) pa_nil)) (pv 1) (nomark _)) pss_never (pss_one (ps_if (pt_cmpR op_in_seq (pe_callTy call_int_str (by rfl) T.z_int (by decide +kernel) (pa_cons (pe_fld (pv 3) rfl) pa_nil)) (pv 2) rfl) pss_never pss_nil)))
      (pss_cons (ps_expr (pe_meth (pv 0) T.cl_Parser T.M_Parser_take_word (ok_Parser_take_word T) (hr.mono (by decide)) (b_Parser_take_word T) .nil pass0 (pa_cons pe_str pa_nil)))
      (pss_cons (ps_par3 (i := 4) (j := 5) (l := 6) (by rfl) sc_Parser_parse_robot.nd rfl rfl rfl (by decide) (by decide) (by decide) rfl rfl rfl (pa_cons (pe_lst pa_nil) (pa_cons (pe_lst pa_nil) (pa_cons (pe_lst pa_nil) pa_nil))) (by rfl))
      (pss_cons (ps_while PassesOwn.never (PW.pt (pw_or (pt_cmpR op_ne (pe_fld (pe_meth0 (pv 0) T.cl_Parser T.M_Parser_peek (ok_Parser_peek T) (hr.mono (by decide)) (b_Parser_peek T) .nil pass0) rfl) pe_str (nomark _)) (pw_or1 (pt_cmpR (op_eqD hr.units) (pv 4) (pe_lst pa_nil) (nomark _))))) (pss_cons (ps_if (pt_cmpR op_eq (pe_callB call_len_seq (by rfl) T.z_len (by decide +kernel) (pa_cons (pv 4) pa_nil)) (pe_glob (v := V.int 20) rfl T.c_MAX_STEPS ⟨_, rfl⟩) (nomark _)) pss_never pss_nil)
      (pss_one (ps_expr (pe_bm PySem.F.plainAttrs_list PySem.F.slot_list_append PySem.F.type_list_append mt_append (pv 4) (pa_cons (pe_meth (pv 0) T.cl_Parser T.M_Parser_parse_step (ok_Parser_parse_step T) (hr.mono (by decide)) (b_Parser_parse_step T) .nil pass0 (pa_cons (pv 5) (pa_cons (pv 6) pa_nil))) pa_nil))))))
      (pss_cons (ps_expr (pe_meth (pv 0) T.cl_Parser T.M_Parser_take_word (ok_Parser_take_word T) (hr.mono (by decide)) (b_Parser_take_word T) .nil pass0 (pa_cons pe_str pa_nil)))
      (pss_cons (ps_set (i := 7) sc_Parser_parse_robot.nd rfl (Or.inl rfl) (pe_lst pa_nil))
      (pss_cons (ps_for PassesOwn.never rfl (pi_zip (by rfl) T.z_zip (pa_cons (pv 4) (pa_cons (pv 6) pa_nil))) (pg_tup (by rfl) (pgs_cons (pg_name (i := 8) sc_Parser_parse_robot.nd rfl (Or.inl rfl)) (pgs_cons (pg_name (i := 9) sc_Parser_parse_robot.nd rfl (Or.inl rfl)) pgs_nil))) (pss_cons (ps_if (PW.pt (pw_and (pt_cmpR op_notN (pv 9) pe_non (nomark _)) (pw_and1 (pt_cmpR op_notIn_seq (pe_fld (pv 9) rfl) (pv 5) rfl)))) pss_never pss_nil)
      (pss_one (ps_expr (pe_bm PySem.F.plainAttrs_list PySem.F.slot_list_append PySem.F.type_list_append mt_append (pv 7) (pa_cons (pe_tup (pa_cons (pv 8) (pa_cons (pe_ifExp (PW.pt (pw_and (pt_cmpR op_notN (pv 9) pe_non (nomark _)) (pw_and1 (pt_cmpR op_in_seq (pe_fld (pv 9) rfl) (pv 5) rfl)))) (pe_bm PySem.F.plainAttrs_list PySem.F.slot_list_index PySem.F.type_list_index mt_index (pv 5) (pa_cons (pe_fld (pv 9) rfl) pa_nil)) pe_non) pa_nil))) pa_nil))))))
      (pss_one (ps_ret (pe_make T.mk_Robot (ok_Robot_init T) (hr.mono (by decide)) (by rfl) T.m_Robot (b_Robot_init T) .nil pass0 (pa_cons (pe_callTy call_int_str (by rfl) T.z_int (by decide +kernel) (pa_cons (pe_fld (pv 3) rfl) pa_nil)) (pa_cons (pv 7) (pa_cons (pv 5) pa_nil))))))))))))))), ?_⟩
    have M0 : Mv [p] G H G H := Mv.start hs
    obtain ⟨dx, ta, fl, h1⟩ := hP.some
    have d0 : toks.drop pos = kwT "robot" :: (numT st :: (sgT 123 :: (ls.flatMap stepT ++ (sgT 125 :: rest)))) := by rw [hd]; unfold robotT; simp
    obtain ⟨t0, d1⟩ := drop_at d0
    obtain ⟨t1, d2⟩ := drop_at d1
    obtain ⟨t2, d3⟩ := drop_at d2
    refine ⟨_, rfl, p, dx, _, rfl, h1, (by kernel_rfl), take_go (tk := kwT "robot") (mkS_tl _).symm M0 (.inl (by simp)) hP t0 fun H1 v1 M1 _ P1 _ => ?_⟩
    obtain ⟨dx1, ta1, fl1, h11⟩ := P1.some
    refine ⟨_, rfl, p, dx1, _, rfl, h11, (by kernel_rfl), take_go (tk := numT st) rfl M1 (.inl (by simp)) P1 t1 fun H2 v2 M2 _ P2 hv2 => ?_⟩
    obtain ⟨q2, dq2, lq2, cq2, rfl, hq2⟩ := hv2
    have io := int_of (n := st) (by omega)
    have nlen := numT_len (n := st) (by omega)
    refine ⟨_, rfl, q2, _, dq2, _, .str (mkS (numL st)), rfl, M2.s _ _ hq2, T.cl_Token, T.n_Token_text, (by kernel_rfl), _, (st : Int), rfl, io, nlen, _, rfl, _, _, rfl, rfl, _, rfl, ite_f (decide_eq_false (by omega)) ?_⟩
    refine ⟨_, rfl, q2, _, dq2, _, .str (mkS (numL st)), rfl, M2.s _ _ hq2, T.cl_Token, T.n_Token_text, (by kernel_rfl), _, (st : Int), rfl, io, nlen, _, rfl, ot, _, rfl, .inr (Same.seqT M2.s hot), rfl, nats_flat os, _, rfl, ite_f (by rw [if_neg Bool.false_ne_true, in_nats]; exact decide_eq_false hos) ?_⟩
    obtain ⟨dx2, ta2, fl2, h12⟩ := P2.some
    refine ⟨_, rfl, p, dx2, _, rfl, h12, (by kernel_rfl), take_go (tk := sgT 123) (mkS_of (show tl (Str.ofString "{") = [123] by decide +kernel)) M2 (.inl (by simp)) P2 t2 fun H3 v3 M3 _ P3 _ => ?_⟩
    -- words, names, jumps
    refine ⟨Nat.zero_le _, fun wl hw => ⟨Nat.zero_le _, fun nl hn => ⟨Nat.zero_le _, fun jl hj => ⟨_, _, _, rfl, ?_⟩⟩⟩⟩
    have M4 := ((M3.lay hw (.lst [])).lay hn (.lst [])).lay hj (.lst [])
    have P4 := ((P3.lay (o := .lst []) hw).lay (o := .lst []) hn).lay (o := .lst []) hj
    have wn : wl ≠ nl := ne_of_none upd_same hn
    have nj : nl ≠ jl := ne_of_none upd_same hj
    have wj : wl ≠ jl := ne_of_none (by rw [upd_ne wn, upd_same]) hj
    have w0 : H wl = none := M3.free hw
    have n0 : H nl = none := (M3.lay hw (.lst [])).free hn
    have j0 : H jl = none := ((M3.lay hw (.lst [])).lay hn (.lst [])).free hj
    have wG : G wl = none := M3.freeG hw
    have nG : G nl = none := (M3.lay hw (.lst [])).freeG hn
    have jG : G jl = none := ((M3.lay hw (.lst [])).lay hn (.lst [])).freeG hj
    have pw : p ≠ wl := fun e => by rw [← e, h1] at w0; cases w0
    have pn : p ≠ nl := fun e => by rw [← e, h1] at n0; cases n0
    have pj : p ≠ jl := fun e => by rw [← e, h1] at j0; cases j0
    have hw4 : (upd (upd (upd H3 wl (.lst [])) nl (.lst [])) jl (.lst [])) wl = some (.lst []) := by rw [upd_ne wj, upd_ne wn, upd_same]
    have hn4 : (upd (upd (upd H3 wl (.lst [])) nl (.lst [])) jl (.lst [])) nl = some (.lst []) := by rw [upd_ne nj, upd_same]
    have hj4 : (upd (upd (upd H3 wl (.lst [])) nl (.lst [])) jl (.lst [])) jl = some (.lst []) := upd_same
    revert M4 P4 hw4 hn4 hj4
    generalize upd (upd (upd H3 wl (.lst [])) nl (.lst [])) jl (.lst []) = H4
    intro M4 P4 hw4 hn4 hj4
    dsimp only
    -- the steps read
    obtain ⟨Iv, hIv⟩ : ∃ Iv : Nat → L2.St → Hp → Prop, Iv = fun j σ H' => ∃ (js : List V), σ = [some (.ref p), some (.int cells), some (.ref ot), some (.ref q2), some (.ref wl), some (.ref nl), some (.ref jl), none, none, none] ∧ j ≤ ls.length ∧ Mv [p] G H G H' ∧
      ParAt a G H' p (pos + 1 + 1 + 1 + ((ls.take j).flatMap stepT).length) toks ∧ H' wl = some (.lst (((ls.take j).map fun s => wS s.w).map V.str)) ∧ H' nl = some (.lst ((labsOf (ls.take j)).map labV)) ∧ H' jl = some (.lst js) ∧ Paired (JmpAt a G) js ((ls.take j).map LStep.tgt) := ⟨_, rfl⟩
    have d4 : ∀ j, j ≤ ls.length → toks.drop (pos + 1 + 1 + 1 + ((ls.take j).flatMap stepT).length) = (ls.drop j).flatMap stepT ++ (sgT 125 :: rest) := fun j hj => by
      rw [← List.drop_drop, d3]
      have e : ls.flatMap stepT = (ls.take j).flatMap stepT ++ (ls.drop j).flatMap stepT := by rw [← List.flatMap_append, List.take_append_drop]
      rw [e, List.append_assoc, List.drop_left]
    refine seq_restσ (fun σ H' => Iv ls.length σ H') (fun σ H' hI => ?r) (fun rest1 => ?m)
    case m =>
      refine ⟨fun m σ H' => ∃ j, m = ls.length - j ∧ Iv j σ H', ⟨_, 0, rfl, ?_⟩, ?_⟩
      · rw [hIv]
        exact ⟨[], rfl, Nat.zero_le _, M4, P4, hw4, hn4, hj4, .nil⟩
      · rintro m σ H' ⟨j, rfl, hI⟩
        have hI0 := hI
        rw [hIv] at hI
        obtain ⟨js, rfl, jn, M, PP, hwv, hnv, hjv, hjs⟩ := hI
        obtain ⟨dx5, ta5, fl5, h5⟩ := PP.some
        have jsl : js.length = j := by rw [Paired.len hjs, List.length_map, List.length_take]; omega
        by_cases hjl : j < ls.length
        · obtain ⟨s, hs5⟩ : ∃ s, ls[j]? = some s := ⟨_, List.getElem?_eq_getElem hjl⟩
          have oks : s.Ok := ok.all s (List.mem_of_getElem? hs5)
          have d5 : toks.drop (pos + 1 + 1 + 1 + ((ls.take j).flatMap stepT).length) = stepT s ++ ((ls.drop (j + 1)).flatMap stepT ++ (sgT 125 :: rest)) := by
            rw [d4 j jn]
            have h2 := List.drop_eq_getElem_cons hjl
            have h3 : ls[j] = s := (List.getElem?_eq_some_iff.mp hs5).2
            rw [h3] at h2
            rw [h2, List.flatMap_cons, List.append_assoc]
          obtain ⟨tk, r', e5, ne5⟩ := step_head oks ((ls.drop (j + 1)).flatMap stepT ++ (sgT 125 :: rest))
          have a5 := (drop_at (d5.trans e5)).1
          refine ⟨_, rfl, p, dx5, _, rfl, h5, (by kernel_rfl), peek_go M.s PP a5 fun v hv => ?_⟩
          obtain ⟨q, dq, lq, cq, rfl, hq⟩ := id hv
          refine ⟨q, _, dq, _, .str (mkS tk.t), rfl, M.s _ _ hq, T.cl_Token, T.n_Token_text, (by kernel_rfl), rfl, _, rfl, ite_t ?_ (ite_t rfl ?_)⟩
          · have : ¬ V.str (mkS tk.t) = V.str (Str.ofString "}") := fun z => by
              injection z with z
              have := congrArg tl z
              rw [tl_mkS, t_cb] at this
              exact ne5 this
            rw [decide_eq_false this]; rfl
          refine ⟨fun σ' H' => Iv (j + 1) σ' H', fun σ' H' hn => ⟨_, by omega, j + 1, rfl, hn⟩, ?_⟩
          have lle := ok.le
          refine ⟨_, rfl, wl, _, rfl, .inl (SqL.of hwv), rfl, _, rfl, ite_f (vint_ne (by rw [List.length_map, List.length_map, List.length_take]; omega)) ?_⟩
          refine ⟨_, rfl, .inl ⟨rfl, _, SqL.of hwv⟩, _, rfl, p, dx5, _, rfl, h5, (by kernel_rfl), _, rfl, _, rfl, ?_⟩
          refine ⟨⟨p, nl, jl, G, _, toks, s, _, labsOf (ls.take j), js, rfl, M.s, PP, nG, jG, nj, hnv, hjv, d5, oks, fun t ht => ok.dup j s t hs5 ht, ?_, by omega, fun H6 jv m6 P6 hn6 hj6 hjt => ?_⟩⟩
          · unfold labsOf; rw [List.length_map, List.length_take]; omega
          have hw6 : H6 wl = some (.lst (((ls.take j).map fun s => wS s.w).map V.str)) := m6.kept hwv (by simp [pw.symm, wn, wj])
          have M6 : Mv [p] G H G H6 := ⟨M.ext.trans m6.ext, fun c o e => by
            have e1 := M.sm c o e
            obtain ⟨h1', h2'⟩ := wos_some e
            refine m6.sm c o ?_
            rw [wos_out]
            · exact e1
            · intro hc'
              rcases List.mem_cons.mp hc' with rfl | hc'
              · exact h1' (by simp)
              rcases List.mem_cons.mp hc' with rfl | hc'
              · rw [n0] at h2'; cases h2'
              rcases List.mem_cons.mp hc' with rfl | hc'
              · rw [j0] at h2'; cases h2'
              · cases hc'⟩
          refine ⟨wl, _, _, rfl, rfl, hw6, smaller 20 (by rw [List.length_map, List.length_map, List.length_take]; omega) (by decide), ?_⟩
          rw [hIv]
          refine ⟨js ++ [jv], rfl, by omega, M6.put (.inr w0) wG _, ?_, ?_, ?_, ?_, ?_⟩
          · rw [flat_more hs5, List.length_append, ← Nat.add_assoc]
            exact P6.put pw
          · rw [upd_same, take_more hs5, List.map_append, List.map_append]; rfl
          · rw [upd_ne wn.symm, hn6]
            simp only [labsOf, take_more hs5, List.map_append]
            rfl
          · rw [upd_ne wj.symm]; exact hj6
          · rw [take_more hs5, List.map_append]
            exact Paired.snoc hjs hjt
        · have ej : j = ls.length := by omega
          subst ej
          have d6 := d4 ls.length (Nat.le_refl _)
          rw [List.drop_length] at d6
          have a6 := (drop_at (show _ = sgT 125 :: rest from d6)).1
          refine ⟨_, rfl, p, dx5, _, rfl, h5, (by kernel_rfl), peek_go M.s PP a6 fun v hv => ?_⟩
          obtain ⟨q, dq, lq, cq, rfl, hq⟩ := id hv
          refine ⟨q, _, dq, _, .str (mkS [125]), rfl, M.s _ _ hq, T.cl_Token, T.n_Token_text, (by kernel_rfl), rfl, _, rfl, ite_f (by decide +kernel) ?_⟩
          refine ⟨_, rfl, Nat.zero_le _, fun e1 he1 => ?_⟩
          have hw7 : (upd H' e1 (.lst [])) wl = some (.lst (((ls.take ls.length).map fun s => wS s.w).map V.str)) := by rw [upd_ne (ne_of_none hwv he1)]; exact hwv
          have shp := shaped_of (ds := ((ls.take ls.length).map fun s => wS s.w).map PyData.str) (fun d hd => by
            obtain ⟨x, hx, rfl⟩ := List.mem_map.mp hd
            obtain ⟨y, hy, rfl⟩ := List.mem_map.mp hx
            exact str_lay (wS_ok (ok.all y (List.mem_of_mem_take hy)).w8))
          refine ⟨.list (((ls.take ls.length).map fun s => wS s.w).map PyData.str), .list [], .lst (SqL.of hw7) (DpAll.strs _), .lst (SqL.of upd_same) .nil, shp.1, by decide, _, rfl, ite_f ?_ ?_⟩
          · have hp := ok.pos
            cases els : ls with
            | nil => rw [els] at hp; exact absurd hp (by decide)
            | cons x y => rfl
          refine rest1 _ _ ?_
          rw [hIv]
          exact ⟨js, rfl, Nat.le_refl _, M.lay he1 _, PP.lay he1, hw7, by rw [upd_ne (ne_of_none hnv he1)]; exact hnv, by rw [upd_ne (ne_of_none hjv he1)]; exact hjv, hjs⟩
    rw [hIv] at hI
    obtain ⟨js, rfl, _, M, PP, hwv, hnv, hjv, hjs⟩ := hI
    have d6 := d4 ls.length (Nat.le_refl _)
    rw [List.drop_length] at d6
    have a6 := (drop_at (show _ = sgT 125 :: rest from d6)).1
    rw [List.take_length] at PP hwv hnv hjs a6
    have lle := ok.le
    have jsl : js.length = ls.length := by rw [Paired.len hjs, List.length_map]
    have ssl : ss.length = ls.length := (Paired.len ok.res).symm
    obtain ⟨dx7, ta7, fl7, h7⟩ := PP.some
    refine ⟨_, rfl, p, dx7, _, rfl, h7, (by kernel_rfl), take_go (tk := sgT 125) (mkS_of t_cb) M (.inl (by simp)) PP a6 fun H8 v8 M8 m8 P8 _ => ?_⟩
    have hw8 := m8.kept hwv (by simp [pw.symm])
    have hn8 := m8.kept hnv (by simp [pn.symm])
    have hj8 := m8.kept hjv (by simp [pj.symm])
    refine ⟨Nat.zero_le _, fun sl hsl => ?_⟩
    have M9 := M8.lay hsl (.lst [])
    have P9 := P8.lay (o := .lst []) hsl
    have s0' : H sl = none := M8.free hsl
    have sG : G sl = none := M8.freeG hsl
    have ps : p ≠ sl := fun e => by rw [← e, h1] at s0'; cases s0'
    have sw : wl ≠ sl := ne_of_none hw8 hsl
    have sn : nl ≠ sl := ne_of_none hn8 hsl
    have sj : jl ≠ sl := ne_of_none hj8 hsl
    have hw9 : (upd H8 sl (.lst [])) wl = some (.lst ((ls.map fun s => wS s.w).map V.str)) := by rw [upd_ne sw]; exact hw8
    have hn9 : (upd H8 sl (.lst [])) nl = some (.lst ((labsOf ls).map labV)) := by rw [upd_ne sn]; exact hn8
    have hj9 : (upd H8 sl (.lst [])) jl = some (.lst js) := by rw [upd_ne sj]; exact hj8
    refine ⟨_, rfl, _, rfl, wl, jl, _, _, rfl, SqL.of hw9, SqL.of hj9, for_it (walk_zip (K := K) (a := wl) (b := jl) (xs := (ls.map fun s => wS s.w).map V.str) (ys := js) (n := ls.length) (by rw [List.length_map, List.length_map, jsl]; simp))
      (fun i σ H' => ∃ (G' : Hp) (xs : List V) (v8 v9 : Option V), σ = [some (.ref p), some (.int cells), some (.ref ot), some (.ref q2), some (.ref wl), some (.ref nl), some (.ref jl), some (.ref sl), v8, v9] ∧ Mv [p] G H G' H' ∧ ParAt a G' H' p (pos + 1 + 1 + 1 + (ls.flatMap stepT).length + 1) toks ∧
        H' wl = some (.lst ((ls.map fun s => wS s.w).map V.str)) ∧ H' nl = some (.lst ((labsOf ls).map labV)) ∧ H' jl = some (.lst js) ∧ G' sl = none ∧ H' sl = some (.lst xs) ∧ DpAll K G' xs ((ss.take i).map Step.D)) ?_ ?_ ?_ ?_⟩
    · exact ⟨G, [], none, none, rfl, M9, P9, hw9, hn9, hj9, sG, upd_same, .nil⟩
    · rintro i σ H' _ ⟨G', xs, v8, v9, rfl, _, _, hw', _, hj', _⟩
      exact ⟨SqL.of hw', SqL.of hj'⟩
    · rintro i y σ H10 H11 hi ⟨G', xs, v8', v9', rfl, M10, P10, hw10, hn10, hj10, sG10, hs10, hD10⟩ ⟨T', x, z, rfl, hT', rfl, hx, hz⟩
      have hx : ((ls.map fun s => wS s.w).map V.str)[i]? = some x := hx
      have hz : js[i]? = some z := hz
      obtain ⟨s, hsi⟩ : ∃ s, ls[i]? = some s := ⟨_, List.getElem?_eq_getElem hi⟩
      have ex : x = .str (wS s.w) := by
        rw [List.getElem?_map, List.getElem?_map, hsi] at hx
        exact (Option.some.inj hx).symm
      subst ex
      obtain ⟨r, hri, hres⟩ := paired_get ok.res hsi
      obtain ⟨tg, htg, hjt⟩ := paired_get hjs hz
      have etg : tg = s.tgt := by
        rw [List.getElem?_map, hsi] at htg
        exact (Option.some.inj htg).symm
      subst etg
      have xsl : xs.length ≤ 20 := by rw [DpAll.len hD10, List.length_map, List.length_take]; omega
      have M11 := M10.lay hT' (.tup [.str (wS s.w), z])
      have P11 := P10.lay (o := .tup [.str (wS s.w), z]) hT'
      have hw11 : (upd H10 T' (.tup [.str (wS s.w), z])) wl = _ := (upd_ne (ne_of_none hw10 hT')).trans hw10
      have hn11 : (upd H10 T' (.tup [.str (wS s.w), z])) nl = _ := (upd_ne (ne_of_none hn10 hT')).trans hn10
      have hj11 : (upd H10 T' (.tup [.str (wS s.w), z])) jl = _ := (upd_ne (ne_of_none hj10 hT')).trans hj10
      have hs11 : (upd H10 T' (.tup [.str (wS s.w), z])) sl = _ := (upd_ne (ne_of_none hs10 hT')).trans hs10
      refine ⟨T', _, rfl, SqT.of upd_same, rfl, _, _, rfl, _, _, rfl, rfl, ?_⟩
      revert M11 P11 hw11 hn11 hj11 hs11
      generalize upd H10 T' (.tup [.str (wS s.w), z]) = H11
      intro M11 P11 hw11 hn11 hj11 hs11
      -- the step appended
      have fin : ∀ (gv : V), (∀ G, Dp K G gv (optD r.g)) → (2 ≤ sizeLine ∧ ∀ t, H11 t = none → ∃ l' ys y, (V.ref sl) = .ref l' ∧ [V.ref t] = [y] ∧ (upd H11 t (.tup [.str (wS s.w), gv])) l' = some (.lst ys) ∧ ys.length < sizeLine ∧
          (∃ (G' : Hp) (xs : List V) (v8 v9 : Option V), [some (V.ref p), some (.int cells), some (.ref ot), some (.ref q2), some (.ref wl), some (.ref nl), some (.ref jl), some (.ref sl), some (.str (wS s.w)), some z] = [some (.ref p), some (.int cells), some (.ref ot), some (.ref q2), some (.ref wl), some (.ref nl), some (.ref jl), some (.ref sl), v8, v9] ∧ Mv [p] G H G' (upd (upd H11 t (.tup [.str (wS s.w), gv])) l' (.lst (ys ++ [y]))) ∧ ParAt a G' (upd (upd H11 t (.tup [.str (wS s.w), gv])) l' (.lst (ys ++ [y]))) p (pos + 1 + 1 + 1 + (ls.flatMap stepT).length + 1) toks ∧
            (upd (upd H11 t (.tup [.str (wS s.w), gv])) l' (.lst (ys ++ [y]))) wl = some (.lst ((ls.map fun s => wS s.w).map V.str)) ∧ (upd (upd H11 t (.tup [.str (wS s.w), gv])) l' (.lst (ys ++ [y]))) nl = some (.lst ((labsOf ls).map labV)) ∧ (upd (upd H11 t (.tup [.str (wS s.w), gv])) l' (.lst (ys ++ [y]))) jl = some (.lst js) ∧ G' sl = none ∧ (upd (upd H11 t (.tup [.str (wS s.w), gv])) l' (.lst (ys ++ [y]))) sl = some (.lst xs) ∧ DpAll K G' xs ((ss.take (i + 1)).map Step.D))) := by
        intro gv hgv
        refine ⟨by decide, fun t ht => ?_⟩
        have st' : sl ≠ t := ne_of_none hs11 ht
        have M12 := M11.new ht (.tup [.str (wS s.w), gv])
        have P12 := P11.new (o := .tup [.str (wS s.w), gv]) M11.s ht
        have sG12 : upd G' t (.tup [.str (wS s.w), gv]) sl = none := by rw [upd_ne st']; exact sG10
        have nGt := same_new (H := G') (p := t) (o := .tup [.str (wS s.w), gv]) (M11.freeG ht)
        refine ⟨sl, xs, _, rfl, rfl, by rw [upd_ne st']; exact hs11, smaller 20 xsl (by decide), _, xs ++ [.ref t], _, _, rfl, M12.put (.inr s0') sG12 _, P12.put ps, ?_, ?_, ?_, sG12, upd_same, ?_⟩
        · rw [upd_ne sw, upd_ne (ne_of_none hw11 ht)]; exact hw11
        · rw [upd_ne sn, upd_ne (ne_of_none hn11 ht)]; exact hn11
        · rw [upd_ne sj, upd_ne (ne_of_none hj11 ht)]; exact hj11
        · rw [take_more hri, List.map_append]
          refine DpAll.snoc (Dp.monoAll nGt _ _ hD10) (.tup (SqT.of upd_same) (.cons ?_ (.cons (hgv _) .nil)))
          rw [hres.w]
          exact .str _
      cases htg' : s.tgt with
      | none =>
        rw [htg'] at hjt
        have hz' : z = .non := hjt
        subst hz'
        refine ⟨_, rfl, rfl, _, rfl, ite_f rfl (ite_f rfl ?_)⟩
        refine ⟨_, rfl, .inl ⟨rfl, _, SqL.of hs11⟩, _, rfl, _, rfl, rfl, _, rfl, ite_f rfl (ite_f rfl ?_)⟩
        exact fin .non (fun G => by rw [hres.no htg']; exact .non)
      | some t =>
        rw [htg'] at hjt
        obtain ⟨kk, hg, hlk, hfirst⟩ := hres.yes t htg'
        obtain ⟨q, dq, lq, cq, rfl, hq⟩ := id hjt
        have hmem : some t ∈ labsOf ls := List.mem_of_getElem? hlk
        have hqH : H11 q = some (.ins a.C_Token dq (tokF (nmT t) lq cq)) := M11.s _ _ (M10.g _ _ hq)
        refine ⟨_, rfl, rfl, _, rfl, ite_t rfl ?_⟩
        refine ⟨_, rfl, q, _, dq, _, .str (mkS t), rfl, hqH, T.cl_Token, T.n_Token_text, (by kernel_rfl), _, rfl, nl, _, rfl, .inl (SqL.of hn11), rfl, lab_flat _, _, rfl, ite_f (by rw [if_pos rfl, lab_in, decide_eq_true hmem]; rfl) ?_⟩
        refine ⟨_, rfl, .inl ⟨rfl, _, SqL.of hs11⟩, _, rfl, _, rfl, rfl, _, rfl, ite_t rfl ?_⟩
        refine ⟨_, rfl, q, _, dq, _, .str (mkS t), rfl, hqH, T.cl_Token, T.n_Token_text, (by kernel_rfl), _, rfl, nl, _, rfl, .inl (SqL.of hn11), rfl, lab_flat _, _, rfl, ite_t (by rw [if_neg Bool.false_ne_true, lab_in, decide_eq_true hmem]) ?_⟩
        refine ⟨_, rfl, .inl ⟨rfl, _, SqL.of hn11⟩, _, rfl, q, _, dq, _, .str (mkS t), rfl, hqH, T.cl_Token, T.n_Token_text, (by kernel_rfl), nl, _, .str (mkS t), kk, labV (some t), rfl, rfl, SqL.of hn11, rfl, lab_flat _, (by rw [List.getElem?_map, hlk]; rfl), (by rw [eqV_lab]; exact decide_eq_true rfl), (fun m z' hm hz' => ?_), ?_⟩
        · rw [List.getElem?_map] at hz'
          cases em : (labsOf ls)[m]? with
          | none => rw [em] at hz'; cases hz'
          | some lm =>
            rw [em] at hz'
            have : z' = labV lm := (Option.some.inj hz').symm
            rw [this, eqV_lab]
            exact decide_eq_false fun e => hfirst m hm (by rw [em, e])
        · exact fin (.int kk) (fun G => by rw [hg]; exact .int kk)
    · rintro σ H10 ⟨G', xs, v8', v9', rfl, M10, P10, hw10, hn10, hj10, sG10, hs10, hD10⟩
      have ess : ss.take ls.length = ss := by rw [← ssl]; exact List.take_length
      rw [ess] at hD10
      have hq10 : H10 q2 = some (.ins a.C_Token dq2 (tokF (numT st) lq2 cq2)) := M10.s _ _ (M10.g _ _ hq2)
      refine ⟨_, rfl, q2, _, dq2, _, .str (mkS (numL st)), rfl, hq10, T.cl_Token, T.n_Token_text, (by kernel_rfl), _, (st : Int), rfl, io, nlen, _, rfl, _, rfl, fun x dx' nx nd ne => init_go2 rfl ⟨rfl, ?_⟩⟩
      have M11 := (M10.freeze s0' hs10).freeze n0 hn10
      have M12 := M11.make nx nd ne (.ins a.C_Robot dx' (robF st sl nl))
      have g1 : Same G' (upd G' sl (.lst xs)) := same_new sG10
      have M10' := M10.freeze s0' hs10
      have g2 := same_frz M10'.s hn10
      have g3 := same_make (M11.freeG nx) (M11.freeG nd) ne (.ins a.C_Robot dx' (robF st sl nl))
      have px : p ≠ x := by obtain ⟨_, _, _, h⟩ := P10.some; exact ne_of_none h nx
      have pdx : p ≠ dx' := by obtain ⟨_, _, _, h⟩ := P10.some; exact ne_of_none h nd
      refine k _ _ _ M12 ?_ ⟨x, dx', sl, nl, rfl, upd_same, .lst (SqL.of ?_) (Dp.monoAll ((g1.trans g2).trans g3) _ _ hD10)⟩
      · have el : pos + 1 + 1 + 1 + (ls.flatMap stepT).length + 1 = pos + (robotT st ls).length := by
          unfold robotT
          simp only [List.length_append, List.length_cons, List.length_nil]
          omega
        rw [el] at P10
        refine P10.grow ((g1.trans g2).trans g3) (fun o e => by rw [upd_ne px, upd_ne pdx]; exact e) ?_
        rw [upd_ne px, upd_ne pdx, upd_ne pn, upd_ne ps]
        exact P10.out
      · exact (g2.trans g3) _ _ upd_same
end
end Sb

namespace Sb
open PySem PySem.Spec PyProof.Rows L2 TL
def planF (sh rl : Addr) : List (Str × V) := [("shelf", .ref sh), ("robots", .ref rl)]
def PlanAt (a : Ad) (K : PySem.W.Frag) (G : Hp) (v : V) (x : Pl) : Prop := ∃ (r dx sh rl : Addr) (r1 r2 : V), v = .ref r ∧ G r = some (.ins a.C_Plan dx (planF sh rl)) ∧ SqT K G sh (x.shelf.map fun n : Nat => V.int n) ∧ SqL K G rl [r1, r2] ∧ RobAt a K G r1 x.a x.p ∧ RobAt a K G r2 x.b x.q
theorem PlanAt.mono {a : Ad} {K : PySem.W.Frag} {G G' : Hp} {v : V} {x : Pl} (s : Same G G') (h : PlanAt a K G v x) : PlanAt a K G' v x := by
  obtain ⟨r, dx, sh, rl, r1, r2, e, h1, h2, h3, h4, h5⟩ := h
  exact ⟨r, dx, sh, rl, r1, r2, e, s _ _ h1, Same.seqT s h2, s.seq h3, h4.mono s, h5.mono s⟩
def planT (x : Pl) (l1 l2 : List LStep) : List Tk := kwT "shelf" :: (x.shelf.map numT ++ (sgT 59 :: (robotT x.a l1 ++ robotT x.b l2)))
/-- a text whose tokens are those of the plan x -/
structure Loads (src : Str) (x : Pl) : Prop where
  ex : ∃ (l1 l2 : List LStep) (rows : List (List Nat)) (tss : List (List Tk)), tl src = joinL [10] rows ∧ rows ≠ [] ∧ (∀ r ∈ rows, 10 ∉ r) ∧ (∀ r ∈ rows, r.length ≤ 3000) ∧ (tl src).length ≤ 3000000 ∧ Paired Lx rows tss ∧ tss.flatten = planT x l1 l2 ∧ LOk l1 x.p ∧ LOk l2 x.q
structure spParInit (C : Addr) (vs : List V) (H : Hp) (Q : VK) (E : XK) : Prop where
  ex : ∃ (x dx tk : Addr), vs = [.ref x, .ref tk] ∧ H x = some (.ins C dx []) ∧ ∀ fl, H fl = none → Q .non (upd (upd H fl (.lst [])) x (.ins C dx (parF tk fl 0)))
structure spPPlan (a : Ad) (K : PySem.W.Frag) (vs : List V) (H : Hp) (Q : VK) (E : XK) : Prop where
  ex : ∃ (p : Addr) (G : Hp) (x : Pl) (l1 l2 : List LStep), vs = [.ref p] ∧ Same G H ∧ ParAt a G H p 0 (planT x l1 l2 ++ [⟨.fin, []⟩]) ∧ x.Ok ∧ LOk l1 x.p ∧ LOk l2 x.q ∧ ∀ G1 H1 v, Mv [p] G H G1 H1 → PlanAt a K G1 v x → Q v H1
structure spLoad (a : Ad) (K : PySem.W.Frag) (vs : List V) (H : Hp) (Q : VK) (E : XK) : Prop where
  ex : ∃ (src : Str) (G : Hp) (x : Pl), vs = [.str src] ∧ Loads src x ∧ x.Ok ∧ Pure G H Q (fun G' v => PlanAt a K G' v x)
theorem upd_swap {H : Hp} {x fl : Addr} {o1 o2 o3 : HO} (ne : fl ≠ x) : upd (upd (upd H x o1) fl o2) x o3 = upd (upd H fl o2) x o3 := by
  funext b
  unfold upd
  by_cases h : b = x
  · rw [if_pos h, if_pos h]
  · rw [if_neg h, if_neg h, if_neg h]
theorem stepT_len {s : LStep} : (stepT s).length ≤ 5 := by
  unfold stepT
  simp only [List.length_append, List.length_cons, List.length_nil]
  have h1 : (labT s.lab).length ≤ 2 := by cases s.lab <;> simp [labT]
  have h2 : (tgtT s.tgt).length ≤ 1 := by cases s.tgt <;> simp [tgtT]
  omega
theorem flat_stepT : ∀ l : List LStep, (l.flatMap stepT).length ≤ 5 * l.length
  | [] => by simp
  | s :: r => by
    have := flat_stepT r
    have h := stepT_len (s := s)
    rw [List.flatMap_cons, List.length_append, List.length_cons]
    omega
theorem planT_len {x : Pl} {l1 l2 : List LStep} (h : x.shelf.length ≤ 12) (h1 : l1.length ≤ 20) (h2 : l2.length ≤ 20) : (planT x l1 l2).length ≤ 1000 := by
  have a1 := flat_stepT l1
  have a2 := flat_stepT l2
  unfold planT robotT
  simp only [List.length_append, List.length_cons, List.length_nil, List.length_map]
  omega
section
variable {P : Program} {w : World} {K : PySem.W.Frag} {mg : Str → Option Value} {base : Heap} {a : Ad}
theorem ok_Parser_init (T : Txt K mg a) : FnOk P w K mg base CX0 1 a.f_Parser_init a.d_Parser_init ["self", "tokens"] (spParInit a.C_Parser) := by
  refine T.F_Parser_init.ok sc_Parser_init (fun vs H Q E h => ?_) (fun cdv A outer s H vs Q E hr h => ?_)
  · obtain ⟨⟨x, dx, tk, rfl, _⟩⟩ := h
    rfl
  · obtain ⟨⟨x, dx, tk, rfl, hx, k⟩⟩ := h
    refine ⟨_, (pss_cons (ps_fld (pv 0) (pv 1) rfl)
      (pss_cons (ps_fld (pv 0) pe_int rfl)
      (pss_one (ps_fld (pv 0) (pe_lst pa_nil) rfl)))), ?_⟩
    refine ⟨_, rfl, _, rfl, x, _, dx, _, rfl, hx, T.cl_Parser, T.n_Parser_tokens, by decide, ?_⟩
    refine ⟨_, rfl, x, _, dx, _, rfl, upd_same, T.cl_Parser, T.n_Parser_at, lf1, ?_⟩
    rw [upd_upd]
    refine ⟨Nat.zero_le _, fun fl hfl => ?_⟩
    have ne : fl ≠ x := fun e => by rw [e, upd_same] at hfl; cases hfl
    rw [upd_ne ne] at hfl
    refine ⟨_, rfl, x, _, dx, _, rfl, by rw [upd_ne ne.symm, upd_same], T.cl_Parser, T.n_Parser_faults, lf2, ?_⟩
    rw [upd_swap ne]
    have e : putF "faults" (V.ref fl) (putF "at" (V.int 0) (putF "tokens" (V.ref tk) [])) = parF tk fl 0 := by
      show putF "faults" (V.ref fl) (putF "at" (V.int 0) [("tokens", V.ref tk)]) = _
      rw [putF_new (fs := [("tokens", V.ref tk)]) (show ("at" : Str) ∉ (["tokens"] : List Str) by decide +kernel)]
      show putF "faults" (V.ref fl) [("tokens", V.ref tk), ("at", V.int 0)] = _
      rw [putF_new (fs := [("tokens", V.ref tk), ("at", V.int 0)]) (show ("faults" : Str) ∉ (["tokens", "at"] : List Str) by decide +kernel)]
      rfl
    rw [e]
    exact k fl hfl
theorem ok_Parser_parse_plan (T : Txt K mg a) : FnOk P w K mg base CX0 5 a.f_Parser_parse_plan a.d_Parser_parse_plan ["self"] (spPPlan a K) := by
  refine T.F_Parser_parse_plan.ok sc_Parser_parse_plan (fun vs H Q E h => ?_) (fun cdv A outer s H vs Q E hr h => ?_)
  · obtain ⟨⟨p, G, x, l1, l2, rfl, _⟩⟩ := h
    rfl
  · obtain ⟨⟨p, G, x, l1, l2, rfl, hs, hP, hx, o1, o2, k⟩⟩ := h
    refine ⟨_, (pss_cons (ps_set (i := 1) sc_Parser_parse_plan.nd rfl (Or.inl rfl) (pe_meth0 (pv 0) T.cl_Parser T.M_Parser_parse_shelf (ok_Parser_parse_shelf T) (hr.mono (by decide)) (b_Parser_parse_shelf T) .nil pass0))
      (pss_cons (ps_set (i := 2) sc_Parser_parse_plan.nd rfl (Or.inl rfl) (pe_meth (pv 0) T.cl_Parser T.M_Parser_parse_robot (ok_Parser_parse_robot T) (hr.mono (by decide)) (b_Parser_parse_robot T) .nil pass0 (pa_cons (pe_callB call_len_seq (by rfl) T.z_len (by decide +kernel) (pa_cons (pv 1) pa_nil)) (pa_cons (pe_tup pa_nil) pa_nil))))
      (pss_cons (ps_set (i := 3) sc_Parser_parse_plan.nd rfl (Or.inl rfl) (pe_meth (pv 0) T.cl_Parser T.M_Parser_parse_robot (ok_Parser_parse_robot T) (hr.mono (by decide)) (b_Parser_parse_robot T) .nil pass0 (pa_cons (pe_callB call_len_seq (by rfl) T.z_len (by decide +kernel) (pa_cons (pv 1) pa_nil)) (pa_cons (pe_tup (pa_cons (pe_fld (pv 2) rfl) pa_nil)) pa_nil))))
      (pss_cons (ps_if (pt_cmpR op_ne (pe_fld (pe_meth0 (pv 0) T.cl_Parser T.M_Parser_peek (ok_Parser_peek T) (hr.mono (by decide)) (b_Parser_peek T) .nil pass0) rfl) (pe_glob (v := V.str (Str.ofString "end")) rfl T.c_END ⟨_, rfl⟩) (nomark _)) pss_never pss_nil)
      (pss_cons (ps_if (pt_cmpR (op_neD hr.units) (pe_fld (pv 0) rfl) (pe_lst pa_nil) (nomark _)) pss_never pss_nil)
      (pss_one (ps_ret (pe_make T.mk_Plan (ok_Plan_init T) (hr.mono (by decide)) (by rfl) T.m_Plan (b_Plan_init T) .nil pass0 (pa_cons (pv 1) (pa_cons (pe_lst (pa_cons (pv 2) (pa_cons (pv 3) pa_nil))) pa_nil)))))))))), ?_⟩
    obtain ⟨dx, ta, fl, h1⟩ := hP.some
    have c12 := hx.c12
    have e0 : (planT x l1 l2 ++ [⟨.fin, []⟩] : List Tk).drop 0 = kwT "shelf" :: (x.shelf.map numT ++ (sgT 59 :: (robotT x.a l1 ++ (robotT x.b l2 ++ [⟨.fin, []⟩])))) := by unfold planT; simp
    refine ⟨_, rfl, p, dx, _, rfl, h1, (by kernel_rfl), ⟨⟨p, G, 0, _, x.shelf, _, rfl, hs, hP, e0, hx.c3, hx.c12, hx.b3, fun G1 H1 u M1 P1 hu => ?_⟩⟩⟩
    obtain ⟨dx1, ta1, fl1, h11⟩ := P1.some
    have d1 : (planT x l1 l2 ++ [⟨.fin, []⟩] : List Tk).drop (0 + x.shelf.length + 2) = robotT x.a l1 ++ (robotT x.b l2 ++ [⟨.fin, []⟩]) := by
      have e : (planT x l1 l2 ++ [⟨.fin, []⟩] : List Tk) = (kwT "shelf" :: (x.shelf.map numT ++ [sgT 59])) ++ (robotT x.a l1 ++ (robotT x.b l2 ++ [⟨.fin, []⟩])) := by unfold planT; simp
      have l : 0 + x.shelf.length + 2 = (kwT "shelf" :: (x.shelf.map numT ++ [sgT 59])).length := by simp
      rw [e, l, List.drop_left]
    refine ⟨_, rfl, p, dx1, _, rfl, h11, (by kernel_rfl), _, rfl, u, _, rfl, .inr (Same.seqT M1.s hu), (by show 0 ≤ sizeLine; decide), fun t0 ht0 => ?_⟩
    have M2 := M1.new ht0 (.tup [])
    have P2 := P1.new (o := .tup []) M1.s ht0
    have el : (x.shelf.map fun n : Nat => V.int n).length = x.shelf.length := List.length_map ..
    refine ⟨⟨p, t0, _, _, _, x.shelf.length, x.a, [], l1, x.p, _, by rw [el]; rfl, M2.s, P2, SqT.of upd_same, d1, hx.ha, by omega, by simp, o1, fun G3 H3 v3 m3 P3 hr3 => ?_⟩⟩
    have M3 := M2.trans m3
    have hu3 : SqT K G3 u _ := Same.seqT ((same_new (M1.freeG ht0)).trans m3.g) hu
    obtain ⟨r3, dr3, sl3, nl3, rfl, hr3', hD3⟩ := id hr3
    obtain ⟨dx3, ta3, fl3, h13⟩ := P3.some
    refine ⟨_, rfl, p, dx3, _, rfl, h13, (by kernel_rfl), _, rfl, u, _, rfl, .inr (Same.seqT M3.s hu3), _, rfl, r3, _, dr3, _, .int x.a, rfl, M3.s _ _ hr3', T.cl_Robot, T.n_Robot_start, (by kernel_rfl), (by show 1 ≤ sizeLine; decide), fun t1 ht1 => ?_⟩
    have M4 := M3.new ht1 (.tup [.int x.a])
    have P4 := P3.new (o := .tup [.int x.a]) M3.s ht1
    have d2 : (planT x l1 l2 ++ [⟨.fin, []⟩] : List Tk).drop (0 + x.shelf.length + 2 + (robotT x.a l1).length) = robotT x.b l2 ++ [⟨.fin, []⟩] := by
      rw [← List.drop_drop, d1, List.drop_left]
    refine ⟨⟨p, t1, _, _, _, x.shelf.length, x.b, [x.a], l2, x.q, _, by rw [el]; rfl, M4.s, P4, SqT.of upd_same, d2, hx.hb, by omega, by simp [hx.ne.symm], o2, fun G5 H5 v5 m5 P5 hr5 => ?_⟩⟩
    have M5 := M4.trans m5
    have g5 := (same_new (o := .tup [.int x.a]) (M3.freeG ht1)).trans m5.g
    have d3 : (planT x l1 l2 ++ [⟨.fin, []⟩] : List Tk).drop (0 + x.shelf.length + 2 + (robotT x.a l1).length + (robotT x.b l2).length) = [⟨.fin, []⟩] := by
      rw [← List.drop_drop, d2, List.drop_left]
    obtain ⟨dx5, ta5, fl5, vs5, h15, _, _, _, hf5⟩ := id P5
    -- END
    refine ⟨_, rfl, p, dx5, _, rfl, h15, (by kernel_rfl), peek_go M5.s P5 (drop_at d3).1 fun v hv => ?_⟩
    obtain ⟨q, dq, lq, cq, rfl, hq⟩ := id hv
    refine ⟨q, _, dq, _, .str (kS .fin), rfl, M5.s _ _ hq, T.cl_Token, T.n_Token_kind, (by kernel_rfl), rfl, _, rfl, ite_f (by decide +kernel) ?_⟩
    -- no faults
    refine ⟨_, rfl, p, _, dx5, _, .ref fl5, rfl, h15, T.cl_Parser, T.n_Parser_faults, (by kernel_rfl), Nat.zero_le _, fun e1 he1 => ?_⟩
    have M6 := M5.lay he1 (.lst [])
    refine ⟨.list [], .list [], .lst (SqL.of (M6.s _ _ hf5)) .nil, .lst (SqL.of upd_same) .nil, by decide, by decide, _, rfl, ite_f (by decide) ?_⟩
    refine ⟨_, rfl, _, rfl, _, rfl, (by show 2 ≤ sizeLine; decide), fun rl hrl => ?_⟩
    have M7 := M6.new hrl (.lst [.ref r3, v5])
    intro y dy ny nd ne
    refine init_go2 rfl ⟨rfl, ?_⟩
    have M8 := M7.make ny nd ne (.ins a.C_Plan dy (planF u rl))
    have g7 := same_new (o := .lst [.ref r3, v5]) (M6.freeG hrl)
    have g8 := same_make (M7.freeG ny) (M7.freeG nd) ne (.ins a.C_Plan dy (planF u rl))
    refine k _ _ _ M8 ⟨y, dy, u, rl, _, _, rfl, upd_same, Same.seqT ((g5.trans g7).trans g8) hu3, g8.seq (SqL.of upd_same), hr3.mono ((g5.trans g7).trans g8), hr5.mono (g7.trans g8)⟩
theorem ok_load (T : Txt K mg a) : FnOk P w K mg base CX0 6 a.f_load a.d_load ["plan"] (spLoad a K) := by
  refine T.F_load.ok sc_load (fun vs H Q E h => ?_) (fun cdv A outer s H vs Q E hr h => ?_)
  · obtain ⟨⟨src, G, x, rfl, _⟩⟩ := h
    rfl
  · obtain ⟨⟨src, G, x, rfl, ⟨⟨l1, l2, rows, tss, e1, e2, e3, e4, e5, e6, e7, o1, o2⟩⟩, hx, hGH, k⟩⟩ := h
    refine ⟨_, (pss_one (ps_ret (pe_meth0 (pe_make T.mk_Parser (ok_Parser_init T) (hr.mono (by decide)) (by rfl) T.m_Parser (b_Parser_init T) .nil pass0 (pa_cons (pe_call (ok_tokenize T) (hr.mono (by decide)) rfl T.m_tokenize T.F_tokenize.kp (b_tokenize T) .nil pass0 (pa_cons (pv 0) pa_nil)) pa_nil)) T.cl_Parser T.M_Parser_parse_plan (ok_Parser_parse_plan T) (hr.mono (by decide)) (b_Parser_parse_plan T) .nil pass0))), ?_⟩
    have hl : tss.flatten.length ≤ 100000 := by rw [e7]; have := planT_len (x := x) hx.c12 o1.le o2.le; omega
    refine ⟨_, rfl, ⟨⟨src, G, rows, tss, rfl, e1, e2, e3, e4, e5, e6, hl, hGH, fun G1 H1 v x1 s1 h1 => ?_⟩⟩⟩
    obtain ⟨tk, vs, rfl, htk, hts⟩ := h1
    intro y dy ny nd ne
    refine ⟨⟨y, dy, tk, rfl, upd_same, fun fl hfl => ⟨rfl, ?_⟩⟩⟩
    have B1 := (Pt.start hGH).call x1 s1
    have ydy : y ≠ dy := ne.symm
    have fy : fl ≠ y := fun e => by rw [e, upd_same] at hfl; cases hfl
    have hfl2 : (upd H1 dy (.own y)) fl = none := by rw [upd_ne fy] at hfl; exact hfl
    rw [upd_swap fy]
    have B2 := (B1.new nd (.own y)).new hfl2 (.lst [])
    have ny2 : (upd (upd H1 dy (.own y)) fl (.lst [])) y = none := by rw [upd_ne fy.symm, upd_ne ydy]; exact ny
    have B3 := B2.lay ny2 (.ins a.C_Parser dy (parF tk fl 0))
    have yG := B2.freeG ny2
    have gg := (same_new (o := .own y) (B1.freeG nd)).trans (same_new (o := .lst []) ((B1.new nd (.own y)).freeG hfl2))
    refine ⟨y, dy, _, rfl, upd_same, (by kernel_rfl), ?_⟩
    rw [e7] at hts
    refine ⟨⟨y, _, x, l1, l2, rfl, B3.s, ⟨dy, tk, fl, vs, upd_same, yG, gg _ _ htk, hts.mono gg, upd_same⟩, hx, o1, o2, fun G5 H5 v5 m5 hp5 => ?_⟩⟩
    have y0 : H y = none := B2.free ny2
    refine k _ _ _ (B3.ext.trans m5.ext) (fun b o e => ?_) hp5
    refine m5.sm b o ?_
    rw [wos_out (by intro hb; rw [List.mem_singleton.mp hb, y0] at e; cases e)]
    exact B3.sm b o e
end
end Sb

namespace Sb
open PySem PySem.Spec PyProof.Rows L2 TL
/-! ### the canonical text loads -/
theorem headNot_cons {S : List Nat} {c : Nat} {r : List Nat} (h : c ∉ S) : HeadNot S (c :: r) := fun d r' e => by injection e with e1 e2; rw [← e1]; exact h
theorem headNot_nil {S : List Nat} : HeadNot S [] := fun _ _ e => nomatch e
theorem no_let32 : 32 ∉ tl letS := by rw [mem_let]; omega
theorem no_let59 : 59 ∉ tl letS := by rw [mem_let]; omega
theorem no_let58 : 58 ∉ tl letS := by rw [mem_let]; omega
theorem no_dig32 : 32 ∉ tl digS := by rw [mem_dig]; omega
theorem no_dig59 : 59 ∉ tl digS := by rw [mem_dig]; omega
theorem kw_let : ∀ t ∈ kwL, ∀ c ∈ t, c ∈ tl letS := by decide +kernel
theorem kw_len : ∀ t ∈ kwL, 3 ≤ t.length := by decide +kernel
theorem lx_kw {s : Str} {r : List Nat} {ts : List Tk} (hs : s ∈ kwS) (hr : HeadNot (tl letS) r) (h : Lx r ts) : Lx (tl s ++ r) (kwT s :: ts) :=
  .tok (.kw (kw_let _ (mem_tl.mp hs)) (mem_tl.mp hs) hr) h
theorem lx_num {n : Nat} {r : List Nat} {ts : List Tk} (hn : n < 100) (hr : HeadNot (tl digS) r) (h : Lx r ts) : Lx (numL n ++ r) (numT n :: ts) := by
  refine .tok (.num (numL_ne n) (fun c hc => ?_) (num_len hn) (fun h1 => ?_) hr) h
  · by_cases h48 : 48 ≤ c ∧ c ≤ 57
    · exact mem_dig.mpr h48
    · exact absurd hc (numL_free (by omega))
  · by_cases h10 : n < 10
    · rw [numL_lt h10] at h1
      exact absurd h1 (by simp)
    · rw [numL_step (by omega), numL_lt (by omega)]
      show some (48 + n / 10) ≠ some 48
      intro e
      injection e with e
      omega
theorem lx_sg {c : Nat} {r : List Nat} {ts : List Tk} (hc : c ∈ tl sgnS) (h : Lx r ts) : Lx (c :: r) (sgT c :: ts) := .tok (.sign hc) h
theorem lx_nm {t r : List Nat} {ts : List Tk} (h1 : ∀ c ∈ t, c ∈ tl letS) (h2 : 1 ≤ t.length) (h3 : t.length ≤ 8) (h4 : t ∉ kwL) (hr : HeadNot (tl letS) r) (h : Lx r ts) : Lx (t ++ r) (nmT t :: ts) := .tok (.nm h1 h2 h3 h4 hr) h
theorem lx_lab {k : Nat} {r : List Nat} {ts : List Tk} (hk : k < 20) (hr : HeadNot (tl letS) r) (h : Lx r ts) : Lx (115 :: (97 + k) :: r) (nmT [115, 97 + k] :: ts) := by
  refine lx_nm (t := [115, 97 + k]) (fun c hc => ?_) (by decide +revert) (by decide +revert) (fun z => ?_) hr h
  · rcases List.mem_cons.mp hc with rfl | hc
    · rw [mem_let]; omega
    · rw [List.mem_singleton.mp hc, mem_let]; omega
  · have := kw_len _ z
    simp at this
theorem sg59 : 59 ∈ tl sgnS := by rw [mem_sgn]; omega
theorem sg58 : 58 ∈ tl sgnS := by rw [mem_sgn]; omega
theorem sg123 : 123 ∈ tl sgnS := by rw [mem_sgn]; omega
theorem sg125 : 125 ∈ tl sgnS := by rw [mem_sgn]; omega
theorem lx_nums : ∀ (l : List Nat), l ≠ [] → (∀ n ∈ l, n < 100) → Lx (joinL [32] (l.map numL) ++ [59]) (l.map numT ++ [sgT 59])
  | [], h, _ => absurd rfl h
  | [n], _, h => lx_num (h n (by simp)) (headNot_cons no_dig59) (lx_sg sg59 .nil)
  | n :: m :: r, _, h => by
    have ih := lx_nums (m :: r) (by simp) (fun x hx => h x (by simp only [List.mem_cons] at hx ⊢; exact .inr hx))
    show Lx ((numL n ++ ([32] ++ joinL [32] ((m :: r).map numL))) ++ [59]) _
    rw [List.append_assoc, List.append_assoc]
    exact lx_num (h n (by simp)) (headNot_cons no_dig32) (.sp ih)
theorem shelf_kw : Str.ofString "shelf" ∈ kwS := by decide +kernel
theorem robot_kw : Str.ofString "robot" ∈ kwS := by decide +kernel
theorem w_kw : ∀ {w : Nat}, w < 8 → wS w ∈ kwS := by
  have h : ∀ w : _root_.Fin 8, wS w.val ∈ kwS := by decide +kernel
  exact fun {w} hw => h ⟨w, hw⟩
theorem lx_shelf {l : List Nat} (h : l ≠ []) (hl : ∀ n ∈ l, n ≤ 3) : Lx (shelfL l) (kwT "shelf" :: (l.map numT ++ [sgT 59])) := by
  have e : shelfL l = tl (Str.ofString "shelf") ++ (32 :: (joinL [32] (l.map numL) ++ [59])) := by
    have e1 : tl (Str.ofString "shelf") = [115, 104, 101, 108, 102] := by decide +kernel
    rw [e1]
    unfold shelfL
    simp
  rw [e]
  exact lx_kw shelf_kw (headNot_cons no_let32) (.sp (lx_nums l h (fun n hn => by have := hl n hn; omega)))
theorem lx_robot {n : Nat} (h : n < 100) : Lx ([114, 111, 98, 111, 116, 32] ++ numL n ++ [32, 123]) [kwT "robot", numT n, sgT 123] := by
  have e : [114, 111, 98, 111, 116, 32] ++ numL n ++ [32, 123] = tl (Str.ofString "robot") ++ (32 :: (numL n ++ [32, 123])) := by
    have e1 : tl (Str.ofString "robot") = [114, 111, 98, 111, 116] := by decide +kernel
    rw [e1]
    simp
  rw [e]
  exact lx_kw robot_kw (headNot_cons no_let32) (.sp (lx_num h (headNot_cons no_dig32) (.sp (lx_sg sg123 .nil))))
def canL (gs : List Nat) (k : Nat) (s : Step) : LStep := ⟨if k ∈ gs then some [115, 97 + k] else none, s.w, s.g.map fun g => [115, 97 + g]⟩
def cans (gs : List Nat) (k : Nat) : List Step → List LStep
  | [] => []
  | s :: r => canL gs k s :: cans gs (k + 1) r
theorem lx_step {gs : List Nat} {k n : Nat} {s : Step} (hk : k < 20) (hn : n ≤ 20) (h : Step.Ok n s) : Lx (stepL gs k s) (stepT (canL gs k s)) := by
  have tail : Lx ((match s.g with | none => [] | some g => [32, 115, 97 + g]) ++ [59]) (tgtT (s.g.map fun g => [115, 97 + g]) ++ [sgT 59]) ∧ HeadNot (tl letS) ((match s.g with | none => [] | some g => [32, 115, 97 + g]) ++ [59]) := by
    cases hg : s.g with
    | none => exact ⟨lx_sg sg59 .nil, headNot_cons no_let59⟩
    | some g =>
      have hgn : g < 20 := by
        have h5 : 5 ≤ s.w := by
          by_cases h5 : s.w < 5
          · rw [h.no h5] at hg; cases hg
          · omega
        obtain ⟨k2, e2, h2⟩ := h.yes h5
        rw [hg] at e2
        cases e2
        omega
      exact ⟨.sp (lx_lab hgn (headNot_cons no_let59) (lx_sg sg59 .nil)), headNot_cons no_let32⟩
  have word : Lx (wL s.w ++ ((match s.g with | none => [] | some g => [32, 115, 97 + g]) ++ [59])) (kwT (wS s.w) :: (tgtT (s.g.map fun g => [115, 97 + g]) ++ [sgT 59])) := lx_kw (w_kw h.w8) tail.2 tail.1
  have e : stepL gs k s = 32 :: 32 :: ((if k ∈ gs then [115, 97 + k, 58, 32] else []) ++ (wL s.w ++ ((match s.g with | none => [] | some g => [32, 115, 97 + g]) ++ [59]))) := by
    unfold stepL
    cases s.g <;> simp
  rw [e]
  unfold stepT canL
  refine .sp (.sp ?_)
  by_cases hm : k ∈ gs
  · rw [if_pos hm, if_pos hm]
    exact lx_lab hk (headNot_cons no_let58) (lx_sg sg58 (.sp word))
  · rw [if_neg hm, if_neg hm]
    exact word
theorem lx_steps {gs : List Nat} {n : Nat} (hn : n ≤ 20) : ∀ (k : Nat) (ss : List Step), k + ss.length ≤ 20 → (∀ s ∈ ss, Step.Ok n s) → Paired Lx (stepsL gs k ss) ((cans gs k ss).map stepT)
  | _, [], _, _ => .nil
  | k, s :: r, h, ho => .cons (lx_step (by simp at h; omega) hn (ho s (by simp))) (lx_steps hn (k + 1) r (by simp at h; omega) (fun s hs => ho s (by simp [hs])))
theorem cans_len (gs : List Nat) : ∀ (k : Nat) (ss : List Step), (cans gs k ss).length = ss.length
  | _, [] => rfl
  | k, s :: r => congrArg (· + 1) (cans_len gs (k + 1) r)
theorem cans_at (gs : List Nat) : ∀ (k : Nat) (ss : List Step) (i : Nat), (cans gs k ss)[i]? = (ss[i]?).map (canL gs (k + i))
  | _, [], i => by simp [cans]
  | k, s :: r, 0 => rfl
  | k, s :: r, i + 1 => by
    show (cans gs (k + 1) r)[i]? = _
    rw [cans_at gs (k + 1) r i]
    have e : k + 1 + i = k + (i + 1) := by omega
    rw [e]
    rfl
theorem paired_of {α β : Type} {F : α → β → Prop} : ∀ {l : List α} {m : List β}, l.length = m.length → (∀ (i : Nat) (x : α) (y : β), l[i]? = some x → m[i]? = some y → F x y) → Paired F l m
  | [], [], _, _ => .nil
  | [], _ :: _, h, _ => nomatch h
  | _ :: _, [], h, _ => nomatch h
  | x :: l, y :: m, h, f => .cons (f 0 x y rfl rfl) (paired_of (by simpa using h) (fun i a b h1 h2 => f (i + 1) a b (by simpa using h1) (by simpa using h2)))
theorem labs_at (gs : List Nat) (ss : List Step) (i : Nat) : (labsOf (cans gs 0 ss))[i]? = (ss[i]?).map fun _ => if i ∈ gs then some [115, 97 + i] else none := by
  unfold labsOf
  rw [List.getElem?_map, cans_at]
  cases ss[i]? with
  | none => rfl
  | some s => show some (canL gs (0 + i) s).lab = _; rw [Nat.zero_add]; rfl
theorem cans_ok {ss : List Step} (h : StepsOk ss) : LOk (cans (goalsOf ss) 0 ss) ss := by
  refine ⟨by rw [cans_len]; exact h.pos, by rw [cans_len]; exact h.le, ?_, ?_, ?_⟩
  · intro s hs
    obtain ⟨i, hi⟩ := List.getElem?_of_mem hs
    rw [cans_at] at hi
    cases e : ss[i]? with
    | none => rw [e] at hi; cases hi
    | some s0 =>
      rw [e] at hi
      have es : canL (goalsOf ss) (0 + i) s0 = s := Option.some.inj hi
      subst es
      have ok := h.all s0 (List.mem_of_getElem? e)
      refine ⟨ok.w8, fun h5 => ?_, fun h5 => ?_, fun z => ?_⟩
      · show s0.g.map _ = none
        rw [ok.no h5]; rfl
      · obtain ⟨k, hk, _⟩ := ok.yes h5
        exact ⟨[115, 97 + k], by show s0.g.map _ = _; rw [hk]; rfl⟩
      · have z' : (if 0 + i ∈ goalsOf ss then some [115, 97 + (0 + i)] else none) = some [125] := z
        split at z'
        · injection z' with z'
          injection z' with z1 z2
          exact absurd z1 (by decide)
        · cases z'
  · intro i s t hi ht hm
    obtain ⟨m, hm⟩ := List.getElem?_of_mem hm
    unfold labsOf at hm
    rw [List.getElem?_map, List.getElem?_take] at hm
    by_cases hmi : m < i
    · rw [if_pos hmi, cans_at] at hm
      rw [cans_at] at hi
      cases e : ss[i]? with
      | none => rw [e] at hi; cases hi
      | some s0 =>
        rw [e] at hi
        have es : canL (goalsOf ss) (0 + i) s0 = s := Option.some.inj hi
        subst es
        cases e2 : ss[m]? with
        | none => rw [e2] at hm; cases hm
        | some s1 =>
          rw [e2] at hm
          have em : (canL (goalsOf ss) (0 + m) s1).lab = some t := Option.some.inj hm
          have h1 : (if 0 + i ∈ goalsOf ss then some [115, 97 + (0 + i)] else none) = some t := ht
          have h2 : (if 0 + m ∈ goalsOf ss then some [115, 97 + (0 + m)] else none) = some t := em
          split at h1
          · split at h2
            · rw [← h1] at h2
              injection h2 with h2
              injection h2 with _ h2
              injection h2 with h2 _
              omega
            · cases h2
          · cases h1
    · rw [if_neg hmi] at hm; cases hm
  · refine paired_of (cans_len _ _ _) fun i x y hx hy => ?_
    rw [cans_at, hy] at hx
    have es : canL (goalsOf ss) (0 + i) y = x := Option.some.inj hx
    subst es
    have ok := h.all y (List.mem_of_getElem? hy)
    refine ⟨rfl, fun hn => ?_, fun t ht => ?_⟩
    · have hn' : y.g.map (fun g => [115, 97 + g]) = none := hn
      cases hg : y.g with
      | none => rfl
      | some g => rw [hg] at hn'; cases hn'
    · have ht' : y.g.map (fun g => [115, 97 + g]) = some t := ht
      cases hg : y.g with
      | none => rw [hg] at ht'; cases ht'
      | some g =>
        rw [hg] at ht'
        have et : [115, 97 + g] = t := Option.some.inj ht'
        subst et
        have hgm : g ∈ goalsOf ss := List.mem_filterMap.mpr ⟨y, List.mem_of_getElem? hy, hg⟩
        have hgl : g < ss.length := by
          have h5 : 5 ≤ y.w := by
            by_cases h5 : y.w < 5
            · rw [ok.no h5] at hg; cases hg
            · omega
          obtain ⟨k2, e2, h2⟩ := ok.yes h5
          rw [hg] at e2
          cases e2
          exact h2
        refine ⟨g, rfl, ?_, fun m hm e => ?_⟩
        · rw [labs_at, List.getElem?_eq_getElem hgl]
          show some (if g ∈ goalsOf ss then _ else _) = _
          rw [if_pos hgm]
        · rw [labs_at] at e
          cases e2 : ss[m]? with
          | none => rw [e2] at e; cases e
          | some s1 =>
            rw [e2] at e
            have e3 : (if m ∈ goalsOf ss then some [115, 97 + m] else none) = some [115, 97 + g] := Option.some.inj e
            split at e3
            · injection e3 with e3
              injection e3 with _ e3
              injection e3 with e3 _
              omega
            · cases e3
theorem robot_lx {n : Nat} {ss : List Step} (hn : n < 100) (h : StepsOk ss) : ∃ tss, Paired Lx (robotL n ss) tss ∧ tss.flatten = robotT n (cans (goalsOf ss) 0 ss) := by
  refine ⟨[kwT "robot", numT n, sgT 123] :: ((cans (goalsOf ss) 0 ss).map stepT ++ [[sgT 125]]), .cons (lx_robot hn) (Paired.snoc (lx_steps h.le 0 ss (by have := h.le; omega) h.all) (lx_sg sg125 .nil)), ?_⟩
  unfold robotT
  simp [List.flatMap_def]
theorem no10_steps {gs : List Nat} {n : Nat} : ∀ (k : Nat) (ss : List Step), (∀ s ∈ ss, Step.Ok n s) → ∀ p ∈ stepsL gs k ss, 10 ∉ p
  | _, [], _, p, hp => nomatch hp
  | k, s :: r, ho, p, hp => by
    rcases List.mem_cons.mp hp with rfl | hp
    · have hw : ∀ w : _root_.Fin 8, 10 ∉ wL w.val := by decide +kernel
      have h1 := hw ⟨s.w, (ho s (by simp)).w8⟩
      unfold stepL
      intro hm
      simp only [List.mem_append] at hm
      rcases hm with (((hm | hm) | hm) | hm) | hm
      · simp at hm
      · split at hm
        · simp at hm; omega
        · cases hm
      · exact h1 hm
      · split at hm
        · cases hm
        · simp at hm; omega
      · simp at hm
    · exact no10_steps (k + 1) r (fun s hs => ho s (by simp [hs])) p hp
theorem no10_robot {n : Nat} {ss : List Step} (h : StepsOk ss) : ∀ p ∈ robotL n ss, 10 ∉ p := by
  intro p hp
  rcases List.mem_cons.mp hp with rfl | hp
  · intro hm
    simp only [List.mem_append] at hm
    rcases hm with (hm | hm) | hm
    · simp at hm
    · exact numL_free (by omega) hm
    · simp at hm
  · rcases List.mem_append.mp hp with hp | hp
    · exact no10_steps 0 ss h.all p hp
    · rw [List.mem_singleton.mp hp]; decide
theorem no10_join : ∀ (l : List Nat), 10 ∉ joinL [32] (l.map numL)
  | [] => by simp [joinL]
  | [n] => numL_free (by omega)
  | n :: m :: r => by
    have ih := no10_join (m :: r)
    show 10 ∉ (numL n ++ ([32] ++ joinL [32] ((m :: r).map numL)))
    simp only [List.mem_append, not_or]
    exact ⟨numL_free (by omega), by decide, ih⟩
theorem no10_shelf (l : List Nat) : 10 ∉ shelfL l := by
  unfold shelfL
  simp only [List.mem_append, not_or]
  exact ⟨⟨by decide, no10_join l⟩, by decide⟩
theorem loads_text {x : Pl} (h : x.Ok) : Loads (textS x) x := by
  have hne : x.shelf ≠ [] := fun e => by have := h.c3; rw [e] at this; exact absurd this (by decide)
  have c12 := h.c12
  obtain ⟨t1, p1, e1⟩ := robot_lx (n := x.a) (by have := h.ha; omega) h.p
  obtain ⟨t2, p2, e2⟩ := robot_lx (n := x.b) (by have := h.hb; omega) h.q
  refine ⟨⟨_, _, linesL x, (kwT "shelf" :: (x.shelf.map numT ++ [sgT 59])) :: (t1 ++ t2), rfl, by unfold linesL; simp, ?_, fun r hr => ?_, ?_, .cons (lx_shelf hne h.b3) (Paired.app p1 p2), ?_, cans_ok h.p, cans_ok h.q⟩⟩
  · intro r hr
    rcases List.mem_cons.mp hr with rfl | hr
    · exact no10_shelf _
    · rcases List.mem_append.mp hr with hr | hr
      · exact no10_robot h.p r hr
      · exact no10_robot h.q r hr
  · have := lines_len h r hr; omega
  · have := textL_len h
    show (textL x).length ≤ _
    omega
  · rw [List.flatten_cons, List.flatten_append, e1, e2]
    unfold planT
    simp
end Sb

namespace Sb
open PySem PySem.Spec PyProof.Rows L2 TL
structure spLabel (vs : List V) (H : Hp) (Q : VK) (E : XK) : Prop where
  ex : ∃ k : Nat, vs = [.int k] ∧ k < 20 ∧ Q (.str (mkS [115, 97 + k])) H
structure spFmtRobot (a : Ad) (K : PySem.W.Frag) (vs : List V) (H : Hp) (Q : VK) (E : XK) : Prop where
  ex : ∃ (G : Hp) (v : V) (n : Nat) (ss : List Step), vs = [v] ∧ Same G H ∧ RobAt a K G v n ss ∧ StepsOk ss ∧ n < 100 ∧ ∀ (H' : Hp) (p : Addr) (ls : List Str), Same H H' → H p = none → H' p = some (.lst (ls.map V.str)) → ls.map tl = robotL n ss → Q (.ref p) H'
structure spFmt (a : Ad) (K : PySem.W.Frag) (vs : List V) (H : Hp) (Q : VK) (E : XK) : Prop where
  ex : ∃ (G : Hp) (v : V) (x : Pl), vs = [v] ∧ Same G H ∧ PlanAt a K G v x ∧ x.Ok ∧ ∀ H', Same H H' → Q (.str (textS x)) H'
theorem label_go {k : Nat} {H : Hp} {Q : VK} {E : XK} (hk : k < 20) (q : Q (.str (mkS [115, 97 + k])) H) : spLabel [.int k] H Q E := ⟨⟨k, rfl, hk, q⟩⟩
theorem e1c : (Str.ofString ";").length = 1 := by decide +kernel
theorem e_sp : (Str.ofString " ").length = 1 := by decide +kernel
section
variable {P : Program} {w : World} {K : PySem.W.Frag} {mg : Str → Option Value} {base : Heap} {a : Ad}
theorem ok_label (T : Txt K mg a) : FnOk P w K mg base CX0 1 a.f_label a.d_label ["number"] spLabel := by
  refine T.F_label.ok sc_label (fun vs H Q E h => ?_) (fun cdv A outer s H vs Q E hr h => ?_)
  · obtain ⟨⟨k, rfl, _⟩⟩ := h
    rfl
  · obtain ⟨⟨k, rfl, hk, q⟩⟩ := h
    refine ⟨_, (pss_one (ps_ret (pe_op op_add_str pe_str (pe_ix ix_str pe_str (pv 0) (fun _ _ => rfl))))), ?_⟩
    refine ⟨_, rfl, abc, _, 97 + k, rfl, rfl, small 20 (by rw [abc_len]; exact Nat.le_refl _) (by decide), atI_nat (abc_at hk), _, _, rfl, rfl, addS 2 (by rw [e_s, len1s]; decide), ?_⟩
    have e : (Str.ofString "s" ++ (⟨#[97 + k]⟩ : Str)) = mkS [115, 97 + k] := mkS_of (by rw [tl_append, t_s]; rfl)
    dsimp only
    rw [e]
    exact q
theorem ok_format_robot (T : Txt K mg a) : FnOk P w K mg base CX0 2 a.f_format_robot a.d_format_robot ["robot"] (spFmtRobot a K) := by
  refine T.F_format_robot.ok sc_format_robot (fun vs H Q E h => ?_) (fun cdv A outer s H vs Q E hr h => ?_)
  · obtain ⟨⟨G, v, n, ss, rfl, _⟩⟩ := h
    rfl
  · obtain ⟨⟨G, v, n, ss, rfl, hGH, hR, hso, hn, k⟩⟩ := h
    obtain ⟨r, dr, sl, nl, rfl, hr1, hD⟩ := hR
    obtain ⟨sl', xs, e, hsl, hDx⟩ := Dp.lst_inv hD
    cases e
    have hsle := hso.le
    have xsl : xs.length = ss.length := by rw [DpAll.len hDx, List.length_map]
    refine ⟨_, (pss_cons (ps_setLc (i := 1) (own := [("word", 2), ("goal", 3)]) (g := gTup K 2 (gCons (gName 2) (gCons (gName 3) gNil))) rfl sc_format_robot.nd rfl rfl (sw_true rfl rfl rfl (by decide +kernel)) (pi_list (pe_fld (pv 0) rfl)) (blkOk_by (own := [("word", 2), ("goal", 3)]) (N := ["robot", "goals", "word", "goal", "lines", "number", "before"]) (sc := (defScope s_format_robot)) (by decide +kernel)) (fun _ _ _ _ _ => (pg_tup (by rfl) (pgs_cons (pg_name (i := 2) sc_format_robot.nd rfl (Or.inl rfl)) (pgs_cons (pg_name (i := 3) sc_format_robot.nd rfl (Or.inl rfl)) pgs_nil)))) (fun _ _ _ _ _ => by exact pts_one (pt_cmpR op_notN (pv 3) pe_non (nomark _))) (fun _ _ _ _ _ => by exact (pv 3)))
      (pss_cons (ps_set (i := 4) sc_format_robot.nd rfl (Or.inl rfl) (pe_lst (pa_cons (pe_op op_add_str (pe_op op_add_str pe_str (pe_callTy call_str_int (by rfl) T.z_str (by decide +kernel) (pa_cons (pe_fld (pv 0) rfl) pa_nil))) pe_str) pa_nil)))
      (pss_cons (ps_for PassesOwn.never rfl (pi_enum (by rfl) T.z_enumerate (pa_cons (pe_fld (pv 0) rfl) pa_nil)) (pg_tup (by rfl) (pgs_cons (pg_name (i := 5) sc_format_robot.nd rfl (Or.inl rfl)) (pgs_cons (pg_tup (by rfl) (pgs_cons (pg_name (i := 2) sc_format_robot.nd rfl (Or.inl rfl)) (pgs_cons (pg_name (i := 3) sc_format_robot.nd rfl (Or.inl rfl)) pgs_nil))) pgs_nil))) (pss_cons (ps_set (i := 6) sc_format_robot.nd rfl (Or.inl rfl) (pe_ifExp (pt_cmpR op_in_seq (pv 5) (pv 1) rfl) (pe_op op_add_str (pe_call (ok_label T) (hr.mono (by decide)) rfl T.m_label T.F_label.kp (b_label T) .nil pass0 (pa_cons (pv 5) pa_nil)) pe_str) pe_str))
      (pss_one (ps_expr (pe_bm PySem.F.plainAttrs_list PySem.F.slot_list_append PySem.F.type_list_append mt_append (pv 4) (pa_cons (pe_op op_add_str (pe_op op_add_str (pe_op op_add_str (pe_op op_add_str pe_str (pv 6)) (pv 2)) (pe_ifExp (pt_cmpR op_notN (pv 3) pe_non (nomark _)) (pe_op op_add_str pe_str (pe_call (ok_label T) (hr.mono (by decide)) rfl T.m_label T.F_label.kp (b_label T) .nil pass0 (pa_cons (pv 3) pa_nil))) pe_str)) pe_str) pa_nil))))))
      (pss_one (ps_ret (pe_op op_cat (pv 4) (pe_lst (pa_cons pe_str pa_nil)))))))), ?_⟩
    -- the goals
    refine ⟨_, rfl, r, _, dr, _, .ref sl, rfl, hGH _ _ hr1, T.cl_Robot, T.n_Robot_steps, (by kernel_rfl), sl, rfl, ⟨_, hGH.seq hsl⟩, fun D hD0 => ?_⟩
    refine lc_list (K := K) (a := sl) (xs := xs) (fun j H' => Same H H' ∧ H' D = some (.lst ((goalsOf (ss.take j)).map fun n : Nat => V.int n))) ⟨same_new hD0, upd_same⟩ (fun j H' _ ⟨s1, _⟩ => (hGH.trans s1).seq hsl) ?_ ?_
    · rintro j y H' hy ⟨s4, h5⟩
      obtain ⟨dd, hdd, hDd⟩ := DpAll.get hDx hy
      rw [List.getElem?_map] at hdd
      obtain ⟨sj, hsj, rfl⟩ : ∃ sj, ss[j]? = some sj ∧ dd = sj.D := by
        cases e : ss[j]? with
        | none => rw [e] at hdd; cases hdd
        | some z => rw [e] at hdd; exact ⟨z, rfl, (Option.some.inj hdd).symm⟩
      have gt := goals_take hsj
      have gl : (goalsOf (ss.take j)).length ≤ 20 := by
        have h1 : (goalsOf (ss.take j)).length ≤ (ss.take j).length := List.length_filterMap_le _ _
        rw [List.length_take] at h1
        omega
      obtain ⟨tt, g, rfl, htt, hg⟩ := step_inv hDd
      refine ⟨tt, _, rfl, Same.seqT (hGH.trans s4) htt, rfl, _, _, rfl, _, _, rfl, rfl, rfl, _, rfl, rfl, _, rfl, ?_⟩
      rcases hg with ⟨hg, rfl⟩ | ⟨kk, hg, rfl⟩
      · refine ite_f rfl ⟨s4, ?_⟩
        rw [gt, hg, List.append_nil]
        exact h5
      · refine ite_t rfl ⟨_, rfl, _, h5, smaller 20 (by rw [List.length_map]; exact gl) (by decide), same_put s4 hD0, ?_⟩
        rw [upd_same, gt, hg, List.map_append]
        rfl
    rintro H1 ⟨s1, h1⟩
    rw [xsl, List.take_length] at h1
    -- the head
    have nl2 := numS_len (n := n) hn
    have e6r : (Str.ofString "robot ").length = 6 := by decide +kernel
    have e2r : (Str.ofString " {").length = 2 := by decide +kernel
    refine ⟨_, rfl, r, _, dr, _, .int n, rfl, s1 _ _ (hGH _ _ hr1), T.cl_Robot, T.n_Robot_start, (by kernel_rfl), _, rfl, log_ok hn, _, _, rfl, rfl, addS 8 (by rw [e6r]; omega), _, _, rfl, rfl, addS 10 (by rw [len_app, e6r, e2r]; omega), (by show 1 ≤ sizeLine; decide), fun l hl => ?_⟩
    have l0 : H l = none := Same.free s1 hl
    have lD : D ≠ l := ne_of_none h1 hl
    have e3 : tl (Str.ofString "robot " ++ Str.ofString (toString ((n : Nat) : Int)) ++ Str.ofString " {") = [114, 111, 98, 111, 116, 32] ++ numL n ++ [32, 123] := by
      rw [tl_append, tl_append, t_rb, t_lb, tl_num]
    revert e3
    generalize (Str.ofString "robot " ++ Str.ofString (toString ((n : Nat) : Int)) ++ Str.ofString " {") = hd2
    intro e3
    have s2 := s1.trans (same_new (o := .lst [.str hd2]) hl)
    -- the steps
    refine ⟨_, rfl, r, _, dr, _, .ref sl, rfl, s2 _ _ (hGH _ _ hr1), T.cl_Robot, T.n_Robot_steps, (by kernel_rfl), sl, _, rfl, (hGH.trans s2).seq hsl, for_it (walk_enum (K := K) (a := sl) (xs := xs)) (fun j σ H' => ∃ (ls : List Str) (v2 v3 v5 v6 : Option V), σ = [some (.ref r), some (.ref D), v2, v3, some (.ref l), v5, v6] ∧
      Same H H' ∧ H' D = some (.lst ((goalsOf ss).map fun n : Nat => V.int n)) ∧ H' l = some (.lst (ls.map V.str)) ∧ ls.map tl = ([114, 111, 98, 111, 116, 32] ++ numL n ++ [32, 123]) :: stepsL (goalsOf ss) 0 (ss.take j)) ?_ ?_ ?_ ?_⟩
    · exact ⟨[hd2], none, none, none, none, rfl, s2, by rw [upd_ne lD]; exact h1, upd_same, by show [tl hd2] = _; rw [e3]; rfl⟩
    · rintro j σ H' _ ⟨ls, v2, v3, v5, v6, rfl, s5, _⟩
      exact (hGH.trans s5).seq hsl
    · rintro j y σ H5 H6 hj ⟨ls, v2, v3, v5, v6, rfl, s5, h6, h7, h8⟩ ⟨T', x, z, rfl, hT', rfl, hx, hz⟩
      cases hx
      have hz : xs[j]? = some z := hz
      rw [xsl] at hj
      obtain ⟨dd, hdd, hDd⟩ := DpAll.get hDx hz
      rw [List.getElem?_map] at hdd
      obtain ⟨sj, hsj, rfl⟩ : ∃ sj, ss[j]? = some sj ∧ dd = sj.D := by
        cases e : ss[j]? with
        | none => rw [e] at hdd; cases hdd
        | some z => rw [e] at hdd; exact ⟨z, rfl, (Option.some.inj hdd).symm⟩
      have hokj : Step.Ok ss.length sj := hso.all sj (List.mem_of_getElem? hsj)
      obtain ⟨tt, g, rfl, htt, hg⟩ := step_inv hDd
      have hl8 : ls.length ≤ 45 := by
        rw [len_of_map h8]
        simp only [List.length_cons, stepsL_len, List.length_take]
        omega
      have s6 := s5.trans (same_new (o := .tup [.int (j : Nat), .ref tt]) hT')
      have h6' : (upd H5 T' (.tup [.int (j : Nat), .ref tt])) D = _ := (upd_ne (ne_of_none h6 hT')).trans h6
      have h7' : (upd H5 T' (.tup [.int (j : Nat), .ref tt])) l = _ := (upd_ne (ne_of_none h7 hT')).trans h7
      refine ⟨T', _, rfl, SqT.of upd_same, rfl, _, _, rfl, _, _, rfl, tt, _, rfl, Same.seqT (hGH.trans s6) htt, rfl, _, _, rfl, _, _, rfl, rfl, rfl, ?_⟩
      revert s6 h6' h7'
      generalize upd H5 T' (.tup [.int (j : Nat), .ref tt]) = H7
      intro s6 h6' h7'
      dsimp only
      refine seq_restσ (fun σ H' => ∃ m : Str, σ = [some (.ref r), some (.ref D), some (.str (wS sj.w)), some g, some (.ref l), some (.int (j : Nat)), some (.str m)] ∧ H7 = H' ∧ m.length ≤ 4 ∧ tl m = if j ∈ goalsOf ss then [115, 97 + j, 58, 32] else []) (fun σ H' hm => ?r1) (fun rest1 => ?m1)
      case m1 =>
        refine ⟨_, rfl, _, rfl, D, _, rfl, .inl (SqL.of h6'), rfl, nats_flat _, _, rfl, ?_⟩
        rw [if_neg Bool.false_ne_true, in_nats]
        refine ite2 (fun c => ?_) (fun c => ?_)
        · have c' := of_decide_eq_true c
          refine ⟨_, rfl, label_go (by omega) ?_⟩
          refine ⟨_, _, rfl, rfl, addS 4 (by rw [len_mkS, e_cs]; simp), rest1 _ _ ⟨_, rfl, rfl, ?_, ?_⟩⟩
          · rw [len_app, len_mkS, e_cs]; simp
          · rw [if_pos c', tl_append, tl_mkS, t_cs]; rfl
        · refine rest1 _ _ ⟨_, rfl, rfl, by decide +kernel, ?_⟩
          rw [if_neg (fun q => c (decide_eq_true q)), t_e]
      obtain ⟨m, rfl, rfl, hm4, hm⟩ := hm
      have hw5 := wS_len hokj.w8
      -- the line appended
      have fin : ∀ (m2 : Str), m2.length ≤ 3 → tl m2 = (match sj.g with | none => [] | some g => [32, 115, 97 + g]) →
          (∃ i j', V.str (Str.ofString "  " ++ m ++ wS sj.w) = .str i ∧ V.str m2 = .str j' ∧ i.length + j'.length ≤ sizeLine ∧ ∃ i2 j2, V.str (i ++ j') = .str i2 ∧ V.str (Str.ofString ";") = .str j2 ∧ i2.length + j2.length ≤ sizeLine ∧
            ∃ l' ys y, V.ref l = .ref l' ∧ [V.str (i2 ++ j2)] = [y] ∧ H7 l' = some (.lst ys) ∧ ys.length < sizeLine ∧ ∃ (ls : List Str) (v2 v3 v5 v6 : Option V), [some (V.ref r), some (.ref D), some (.str (wS sj.w)), some g, some (.ref l), some (.int (j : Nat)), some (.str m)] = [some (.ref r), some (.ref D), v2, v3, some (.ref l), v5, v6] ∧
              Same H (upd H7 l' (.lst (ys ++ [y]))) ∧ (upd H7 l' (.lst (ys ++ [y]))) D = some (.lst ((goalsOf ss).map fun n : Nat => V.int n)) ∧ (upd H7 l' (.lst (ys ++ [y]))) l = some (.lst (ls.map V.str)) ∧ ls.map tl = ([114, 111, 98, 111, 116, 32] ++ numL n ++ [32, 123]) :: stepsL (goalsOf ss) 0 (ss.take (j + 1))) := by
        intro m2 hm23 hm2
        refine ⟨_, _, rfl, rfl, addS 14 (by rw [len_app, len_app, e_2]; omega), _, _, rfl, rfl, addS 15 (by rw [len_app, len_app, len_app, e_2, e1c]; omega), l, _, _, rfl, rfl, h7', smaller 45 (by rw [List.length_map]; exact hl8) (by decide), ls ++ [Str.ofString "  " ++ m ++ wS sj.w ++ m2 ++ Str.ofString ";"], _, _, _, _, rfl, same_put s6 l0, ?_, ?_, ?_⟩
        · rw [upd_ne lD]; exact h6'
        · rw [upd_same, List.map_append]; rfl
        · rw [take_more hsj, stepsL_snoc, List.map_append, h8]
          show _ :: _ ++ [tl (Str.ofString "  " ++ m ++ wS sj.w ++ m2 ++ Str.ofString ";")] = _
          rw [List.cons_append]
          congr 2
          congr 1
          have e0 : 0 + (ss.take j).length = j := by rw [List.length_take]; omega
          rw [e0, tl_append, tl_append, tl_append, tl_append, sp2, hm, hm2, t_sc]
          rfl
      refine ⟨_, rfl, .inl ⟨rfl, _, SqL.of h7'⟩, _, rfl, _, _, rfl, rfl, addS 6 (by rw [e_2]; omega), _, rfl, _, _, rfl, rfl, addS 11 (by rw [len_app, e_2]; omega), _, rfl, rfl, _, rfl, ?_⟩
      rcases hg with ⟨hg, rfl⟩ | ⟨kk, hg, rfl⟩
      · exact ite_f rfl (fin (Str.ofString "") (by decide +kernel) (by rw [hg, t_e]))
      · have hk : kk < ss.length := by
          have h5 : 5 ≤ sj.w := by
            by_cases h : sj.w < 5
            · rw [hokj.no h] at hg; cases hg
            · omega
          obtain ⟨k2, e2, h2⟩ := hokj.yes h5
          rw [hg] at e2
          cases e2
          exact h2
        refine ite_t rfl ⟨_, rfl, label_go (by omega) ?_⟩
        refine ⟨_, _, rfl, rfl, addS 3 (by rw [e_sp, len_mkS]; simp), fin _ (by rw [len_app, e_sp, len_mkS]; simp) (by rw [hg, tl_append, t_sp, tl_mkS]; rfl)⟩
    · rintro σ H5 ⟨ls, v2, v3, v5, v6, rfl, s5, h6, h7, h8⟩
      rw [xsl, List.take_length] at h8
      have hl8 : ls.length ≤ 45 := by
        rw [len_of_map h8]
        simp only [List.length_cons, stepsL_len]
        omega
      refine ⟨_, rfl, (by show 1 ≤ sizeLine; decide), fun p1 hp1 => ?_⟩
      have h7' : (upd H5 p1 (.lst [.str (Str.ofString "}")])) l = _ := (upd_ne (ne_of_none h7 hp1)).trans h7
      refine ⟨l, p1, _, _, rfl, rfl, h7', upd_same, small 46 (by rw [List.length_map]; show ls.length + 1 ≤ 46; omega) (by decide), fun p2 hp2 => ?_⟩
      have s6 := s5.trans (same_new (o := .lst [.str (Str.ofString "}")]) hp1)
      refine k _ p2 (ls ++ [Str.ofString "}"]) (s6.trans (same_new hp2)) (Same.free s6 hp2) (by rw [upd_same, List.map_append]; rfl) ?_
      rw [List.map_append, h8]
      show _ ++ [tl (Str.ofString "}")] = _
      rw [t_cb]
      rfl
end
end Sb

namespace Sb
open PySem PySem.Spec PyProof.Rows L2 TL
section
variable {P : Program} {w : World} {K : PySem.W.Frag} {mg : Str → Option Value} {base : Heap} {a : Ad}
theorem ok_format_parsed (T : Txt K mg a) : FnOk P w K mg base CX0 3 a.f_format_parsed a.d_format_parsed ["parsed"] (spFmt a K) := by
  refine T.F_format_parsed.ok sc_format_parsed (fun vs H Q E h => ?_) (fun cdv A outer s H vs Q E hr h => ?_)
  · obtain ⟨⟨G, v, x, rfl, _⟩⟩ := h
    rfl
  · obtain ⟨⟨G, v, x, rfl, hGH, hP, hx, k⟩⟩ := h
    obtain ⟨r, dr, sh, rl, r1, r2, rfl, hr1, hsh, hrl, hR1, hR2⟩ := hP
    refine ⟨_, (pss_cons (ps_set (i := 1) sc_format_parsed.nd rfl (Or.inl rfl) (pe_lst (pa_cons (pe_op op_add_str (pe_op op_add_str pe_str (pe_join pe_str (pe_lc (own := [("boxes", 2)]) (g := gName 2) (tt := tYes) rfl sc_format_parsed.nd (pi_tup (pe_fld (pv 0) rfl)) (blkOk_by (own := [("boxes", 2)]) (N := ["parsed", "lines", "boxes", "robot"]) (sc := (defScope s_format_parsed)) (by decide +kernel)) (fun _ _ _ _ _ => (pg_name (i := 2) sc_format_parsed.nd rfl (Or.inl rfl))) (fun _ _ _ _ _ => pts_nil) (fun _ _ _ _ _ => by exact (pe_callTy call_str_int (by rfl) T.z_str (by decide +kernel) (pa_cons (pv 2) pa_nil)))))) pe_str) pa_nil)))
      (pss_cons (ps_for PassesOwn.never rfl (pi_list (pe_fld (pv 0) rfl)) (pg_name (i := 3) sc_format_parsed.nd rfl (Or.inl rfl)) (pss_one (ps_expr (pe_bm PySem.F.plainAttrs_list PySem.F.slot_list_extend PySem.F.type_list_extend mt_extend (pv 1) (pa_cons (pe_call (ok_format_robot T) (hr.mono (by decide)) rfl T.m_format_robot T.F_format_robot.kp (b_format_robot T) .nil pass0 (pa_cons (pv 3) pa_nil)) pa_nil)))))
      (pss_one (ps_ret (pe_join pe_str (pv 1)))))), ?_⟩
    refine ⟨⟨_, rfl⟩, _, rfl, r, _, dr, _, .ref sh, rfl, hGH _ _ hr1, T.cl_Plan, T.n_Plan_shelf, (by kernel_rfl), sh, rfl, ⟨_, Same.seqT hGH hsh⟩, fun D hD => ?_⟩
    refine lc_tup (K := K) (a := sh) (xs := x.shelf.map fun n : Nat => V.int n) (fun j H' => ∃ ls : List Str, Same H H' ∧ H' D = some (.lst (ls.map V.str)) ∧ ls.map tl = (x.shelf.take j).map numL) ⟨[], same_new hD, upd_same, rfl⟩ (fun j H' _ ⟨ls, s1, _⟩ => Same.seqT (hGH.trans s1) hsh) ?_ ?_
    · rintro j y H' hy ⟨ls, s1, h1, h2⟩
      obtain ⟨n, hn, rfl⟩ : ∃ n : Nat, x.shelf[j]? = some n ∧ y = V.int n := by
        rw [List.getElem?_map] at hy
        cases e : x.shelf[j]? with
        | none => rw [e] at hy; cases hy
        | some z => rw [e] at hy; exact ⟨z, rfl, (Option.some.inj hy).symm⟩
      have hj : j < x.shelf.length := (List.getElem?_eq_some_iff.mp hn).1
      have hn3 : n ≤ 3 := hx.b3 n (List.mem_of_getElem? hn)
      have h12 := hx.c12
      refine ⟨rfl, _, rfl, _, rfl, log_ok (by omega), _, h1, smaller 12 (by rw [List.length_map, len_of_map h2, List.length_map, List.length_take]; omega) (by decide), ls ++ [Str.ofString (toString ((n : Nat) : Int))], same_put s1 hD, ?_, ?_⟩
      · rw [upd_same, List.map_append]; rfl
      · rw [List.map_append, h2, take_more hn, List.map_append]
        show _ ++ [tl (Str.ofString (toString ((n : Nat) : Int)))] = _
        rw [tl_num]
        rfl
    rintro H1 ⟨ls0, s1, h1, h2⟩
    rw [List.length_map, List.take_length] at h2
    have ml : ∀ p ∈ ls0, p.length ≤ 2 := mem_len h2 (fun p hp => by
      obtain ⟨n, hn, rfl⟩ := List.mem_map.mp hp
      exact num_len (by have := hx.b3 n hn; omega))
    have ll : ls0.length ≤ 12 := by rw [len_of_map h2, List.length_map]; exact hx.c12
    have jl : (Txt.join (Str.ofString " ") ls0).length ≤ 36 := by
      rw [len_tl, join_txt t_sp h2]
      refine Nat.le_trans (joinL_len [32] 2 _ (fun p hp => ?_)) ?_
      · obtain ⟨n, hn, rfl⟩ := List.mem_map.mp hp
        exact num_len (by have := hx.b3 n hn; omega)
      · rw [List.length_map]
        have := hx.c12
        show _ * 3 ≤ 36
        omega
    have e6 : (Str.ofString "shelf ").length = 6 := by decide +kernel
    refine ⟨_, D, ls0, rfl, rfl, .inl (SqL.of h1), ?_, _, _, rfl, rfl, addS 42 (by rw [e6]; omega), _, _, rfl, rfl, addS 43 (by rw [len_app, e6, e1c]; omega), (by show 1 ≤ sizeLine; decide), fun l hl => ?_⟩
    · have := sum_len ls0 2 ml
      rw [e_sp]
      omega
    have l0 : H l = none := Same.free s1 hl
    have sl : tl (Str.ofString "shelf " ++ Txt.join (Str.ofString " ") ls0 ++ Str.ofString ";") = shelfL x.shelf := by
      rw [tl_append, tl_append, t_sh, t_sc, join_txt t_sp h2]
      rfl
    revert sl
    generalize (Str.ofString "shelf " ++ Txt.join (Str.ofString " ") ls0 ++ Str.ofString ";") = first
    intro sl
    have s2 := s1.trans (same_new (o := .lst [.str first]) hl)
    refine ⟨_, rfl, r, _, dr, _, .ref rl, rfl, s2 _ _ (hGH _ _ hr1), T.cl_Plan, T.n_Plan_robots, (by kernel_rfl), rl, rfl, ⟨_, (hGH.trans s2).seq hrl⟩, for_list (K := K) (a := rl) (xs := [r1, r2]) (fun i σ H' => ∃ (ls : List Str) (v3 : Option V), σ = [some (.ref r), some (.ref l), none, v3] ∧ Same H H' ∧ H' l = some (.lst (ls.map V.str)) ∧ ls.map tl = shelfL x.shelf :: x.robs i)
      ⟨[first], none, rfl, s2, upd_same, by show [tl first] = _; rw [sl]; rfl⟩ (fun i σ H' _ ⟨_, _, _, s3, _⟩ => (hGH.trans s3).seq hrl) ?_ ?_⟩
    · rintro i y σ H2 hy ⟨ls, v3, rfl, s3, hl3, hls⟩
      have hi : i < 2 := (List.getElem?_eq_some_iff.mp hy).1
      have hRi : RobAt a K G y (x.st i) (x.ss i) := by
        match i, hi with
        | 0, _ => cases hy; exact hR1
        | 1, _ => cases hy; exact hR2
        | i + 2, h => exact absurd h (by omega)
      have hn : x.st i < 12 := by unfold Pl.st; have := hx.ha; have := hx.hb; have := hx.c12; split <;> omega
      have hso : StepsOk (x.ss i) := by unfold Pl.ss; split; exact hx.p; exact hx.q
      have hlen : ls.length ≤ 23 := by rw [len_of_map hls, List.length_cons]; have := robs_len hx (i := i) (by omega); omega
      refine ⟨_, rfl, .inl ⟨rfl, _, SqL.of hl3⟩, _, rfl, ⟨⟨G, y, x.st i, x.ss i, rfl, hGH.trans s3, hRi, hso, by omega, fun H4 p ls4 s4 hp4 h4 e4 => ?_⟩⟩⟩
      have hl4 := s4 _ _ hl3
      have l4 : ls4.length ≤ 22 := by rw [len_of_map e4, robotL_len]; have := hso.le; omega
      refine ⟨l, p, _, _, rfl, rfl, hl4, h4, small 45 (by rw [List.length_map, List.length_map]; omega) (by decide), ?_⟩
      refine ⟨ls ++ ls4, _, rfl, same_put (s3.trans s4) l0, by rw [upd_same, List.map_append], ?_⟩
      rw [List.map_append, hls, e4]
      rfl
    · rintro σ H5 ⟨ls, v3, rfl, s5, h6, h7⟩
      have h7 : ls.map tl = shelfL x.shelf :: x.robs 2 := h7
      rw [Pl.robs2] at h7
      have hl8 : ls.length ≤ 45 := by rw [len_of_map h7]; exact linesL_len hx
      refine ⟨⟨_, rfl⟩, _, rfl, _, l, ls, rfl, rfl, .inl (SqL.of h6), ?_, ?_⟩
      · have := sum_len ls 60 (mem_len h7 (lines_len hx))
        have e : (Str.ofString "\n").length = 1 := by decide +kernel
        rw [e]
        omega
      · have e : Txt.join (Str.ofString "\n") ls = textS x := ext_tl (join_txt t_nl h7)
        dsimp only
        rw [e]
        exact k H5 s5
end
end Sb

namespace Sb
open PySem PySem.Spec PyProof.Rows L2 TL
structure spIsInt (K : PySem.W.Frag) (vs : List V) (H : Hp) (Q : VK) (E : XK) : Prop where
  ex : ∃ (v : V) (lo hi : Int), vs = [v, .int lo, .int hi] ∧ ((∃ i, v = .int i ∧ Q (.bl (decide (lo ≤ i ∧ i ≤ hi))) H) ∨ (∃ b, v = .bl b ∧ Q (.bl false) H) ∨ (∃ n, TyX K H v (.type n) ∧ PySem.W.kitOne K (.type n) (.type "int") = some false ∧ Q (.bl false) H))
section
variable {P : Program} {w : World} {K : PySem.W.Frag} {mg : Str → Option Value} {base : Heap} {a : Ad}
theorem ok_is_int_in (T : Txt K mg a) : FnOk P w K mg base CX0 1 a.f_is_int_in a.d_is_int_in ["value", "low", "high"] (spIsInt K) := by
  refine T.F_is_int_in.ok sc_is_int_in (fun vs H Q E h => ?_) (fun cdv A outer s H vs Q E hr h => ?_)
  · obtain ⟨⟨v, lo, hi, rfl, _⟩⟩ := h
    rfl
  · obtain ⟨⟨v, lo, hi, rfl, h⟩⟩ := h
    refine ⟨_, (pss_one (ps_ret (pe_and (pe_callB call_isi (by rfl) T.z_isinstance (by decide +kernel) (pa_cons (pv 0) (pa_cons (pe_bltn (v := .ty "int") (by rfl) T.z_int (by decide +kernel) rfl) pa_nil))) (pe_and (pe_not (pe_callB call_isi (by rfl) T.z_isinstance (by decide +kernel) (pa_cons (pv 0) (pa_cons (pe_bltn (v := .ty "bool") (by rfl) T.z_bool (by decide +kernel) rfl) pa_nil)))) (pe_one (pe_chain op_le op_le (pv 1) (pv 0) (pv 2))))))), ?_⟩
    rcases h with ⟨i, rfl, q⟩ | ⟨b, rfl, q⟩ | ⟨n, ty, kt, q⟩
    · refine ⟨_, rfl, _, _, _, _, true, rfl, .ty "int", .base (.int i), kit_ty (by decide +kernel), _, rfl, iteT ?_⟩
      refine ⟨_, rfl, _, _, _, _, false, rfl, .ty "bool", .base (.int i), kit_ty (by decide +kernel), _, rfl, _, rfl, ?_⟩
      refine ⟨_, rfl, _, rfl, _, _, rfl, rfl, _, rfl, ?_⟩
      refine ite2 (fun c => ?_) (fun c => ?_)
      · have c1 : lo ≤ i := of_decide_eq_true c
        refine ⟨_, rfl, _, _, rfl, rfl, ?_⟩
        have e : decide (i ≤ hi) = decide (lo ≤ i ∧ i ≤ hi) := by simp [c1]
        dsimp only
        rw [e]
        exact q
      · have c1 : ¬ lo ≤ i := fun z => c (decide_eq_true z)
        have e : decide (lo ≤ i ∧ i ≤ hi) = false := by simp [c1]
        rw [e] at q
        exact q
    · refine ⟨_, rfl, _, _, _, _, true, rfl, .ty "int", .base (.bl b), kit_ty (by decide +kernel), _, rfl, iteT ?_⟩
      exact ⟨_, rfl, _, _, _, _, true, rfl, .ty "bool", .base (.bl b), kit_ty (by decide +kernel), _, rfl, _, rfl, q⟩
    · exact ⟨_, rfl, _, _, _, _, false, rfl, .ty "int", ty, kt, _, rfl, q⟩
theorem isint_go {i lo hi : Int} {H : Hp} {Q : VK} {E : XK} (h1 : lo ≤ i) (h2 : i ≤ hi) (q : Q (.bl true) H) : spIsInt K [.int i, .int lo, .int hi] H Q E :=
  ⟨⟨.int i, lo, hi, rfl, .inl ⟨i, rfl, by rw [decide_eq_true ⟨h1, h2⟩]; exact q⟩⟩⟩
end
end Sb

namespace Sb
open PySem PySem.Spec PyProof.Rows L2 TL
theorem nV_int (l : List Nat) : nV l = (l.map fun n : Nat => (n : Int)).map V.int := by rw [List.map_map]; rfl
/-! ### bytes -/
theorem nV_app (a b : List Nat) : nV (a ++ b) = nV a ++ nV b := List.map_append
def stepB (s : Step) : List Nat := s.w :: s.g.toList
def robB (n : Nat) (ss : List Step) : List Nat := n :: ss.length :: ss.flatMap stepB
def bodyB (x : Pl) : List Nat := 83 :: x.shelf.length :: (x.shelf ++ (robB x.a x.p ++ robB x.b x.q))
def codeB (x : Pl) : List Nat := bodyB x ++ [(bodyB x).sum % 256]
def Pl.robsB (x : Pl) : Nat → List Nat
  | 0 => []
  | i + 1 => Pl.robsB x i ++ robB (x.st i) (x.ss i)
theorem bodyB_eq (x : Pl) : bodyB x = 83 :: x.shelf.length :: (x.shelf ++ x.robsB 2) := by
  show _ = 83 :: x.shelf.length :: (x.shelf ++ ((([] : List Nat) ++ robB x.a x.p) ++ robB x.b x.q))
  rw [List.nil_append]
  rfl
theorem stepB_len (s : Step) : (stepB s).length ≤ 2 := by unfold stepB; cases s.g <;> simp
theorem flatB_len : ∀ l : List Step, (l.flatMap stepB).length ≤ 2 * l.length
  | [] => by simp
  | s :: r => by
    have := flatB_len r
    have h := stepB_len s
    rw [List.flatMap_cons, List.length_append, List.length_cons]
    omega
theorem robB_len {n : Nat} {ss : List Step} (h : ss.length ≤ 20) : (robB n ss).length ≤ 42 := by
  have := flatB_len ss
  unfold robB
  simp only [List.length_cons]
  omega
theorem robsB_len {x : Pl} (h : x.Ok) : ∀ {i : Nat}, i ≤ 2 → (x.robsB i).length ≤ 42 * i
  | 0, _ => by simp [Pl.robsB]
  | i + 1, hi => by
    have ih := robsB_len h (i := i) (by omega)
    show (x.robsB i ++ robB (x.st i) (x.ss i)).length ≤ _
    rw [List.length_append]
    have := robB_len (n := x.st i) (ss := x.ss i) (by unfold Pl.ss; split; exact h.p.le; exact h.q.le)
    omega
theorem nat_sum (l : List Nat) : (l.map fun n : Nat => (n : Int)).sum = (l.sum : Int) := by
  induction l with
  | nil => rfl
  | cons n l ih => rw [List.map_cons, List.sum_cons, ih, List.sum_cons]; omega
theorem wS_inj : ∀ {i j : Nat}, i < 8 → j < 8 → wS i = wS j → i = j := by
  have h : ∀ i j : _root_.Fin 8, wS i.val = wS j.val → i = j := by decide +kernel
  exact fun {i j} hi hj e => congrArg (·.val) (h ⟨i, hi⟩ ⟨j, hj⟩ e)
theorem wds_get {i : Nat} (h : i < 8) : wds[i]? = some (wS i) := by
  have := wds_at h
  rw [List.getElem?_map] at this
  cases e : wds[i]? with
  | none => rw [e] at this; cases this
  | some z => rw [e] at this; injection this with this; injection this with this; rw [this]
structure spEncode (a : Ad) (K : PySem.W.Frag) (vs : List V) (H : Hp) (Q : VK) (E : XK) : Prop where
  ex : ∃ (src : Str) (x : Pl), vs = [.str src] ∧ Loads src x ∧ x.Ok ∧ ∀ (H' : Hp) (p : Addr), Same H H' → H p = none → H' p = some (.lst (nV (codeB x))) → Q (.ref p) H'
theorem load_go {a : Ad} {K : PySem.W.Frag} {src : Str} {H : Hp} {x : Pl} {Q : VK} {E : XK} (hl : Loads src x) (hx : x.Ok) (k : ∀ (G' H' : Hp) (v : V), Same G' H' → Same H H' → PlanAt a K G' v x → Q v H') : spLoad a K [.str src] H Q E :=
  ⟨⟨src, H, x, rfl, hl, hx, Same.refl H, fun G' H' v e s h => k G' H' v e.h s h⟩⟩
section
variable {P : Program} {w : World} {K : PySem.W.Frag} {mg : Str → Option Value} {base : Heap} {a : Ad}
theorem ok_encode (T : Txt K mg a) : FnOk P w K mg base CX0 7 a.f_encode a.d_encode ["plan"] (spEncode a K) := by
  refine T.F_encode.ok sc_encode (fun vs H Q E h => ?_) (fun cdv A outer s H vs Q E hr h => ?_)
  · obtain ⟨⟨src, x, rfl, _⟩⟩ := h
    rfl
  · obtain ⟨⟨src, x, rfl, hL, hx, k⟩⟩ := h
    refine ⟨_, (pss_cons (ps_set (i := 1) sc_encode.nd rfl (Or.inl rfl) (pe_call (ok_load T) (hr.mono (by decide)) rfl T.m_load T.F_load.kp (b_load T) .nil pass0 (pa_cons (pv 0) pa_nil)))
      (pss_cons (ps_set (i := 2) sc_encode.nd rfl (Or.inl rfl) (pe_lst (pa_cons (pe_glob (v := V.int 83) rfl T.c_TAG ⟨_, rfl⟩) (pa_cons (pe_callB call_len_seq (by rfl) T.z_len (by decide +kernel) (pa_cons (pe_fld (pv 1) rfl) pa_nil)) (StX.pa_star (pe_fld (pv 1) rfl) pa_nil)))))
      (pss_cons (ps_for PassesOwn.never rfl (pi_list (pe_fld (pv 1) rfl)) (pg_name (i := 3) sc_encode.nd rfl (Or.inl rfl)) (pss_cons (ps_expr (pe_bm PySem.F.plainAttrs_list PySem.F.slot_list_extend PySem.F.type_list_extend mt_extend (pv 2) (pa_cons (pe_lst (pa_cons (pe_fld (pv 3) rfl) (pa_cons (pe_callB call_len_seq (by rfl) T.z_len (by decide +kernel) (pa_cons (pe_fld (pv 3) rfl) pa_nil)) pa_nil))) pa_nil)))
      (pss_one (ps_for PassesOwn.never rfl (pi_list (pe_fld (pv 3) rfl)) (pg_tup (by rfl) (pgs_cons (pg_name (i := 4) sc_encode.nd rfl (Or.inl rfl)) (pgs_cons (pg_name (i := 5) sc_encode.nd rfl (Or.inl rfl)) pgs_nil))) (pss_cons (ps_expr (pe_bm PySem.F.plainAttrs_list PySem.F.slot_list_append PySem.F.type_list_append mt_append (pv 2) (pa_cons (pe_bm PySem.F.plainAttrs_tuple PySem.F.slot_tuple_index PySem.F.type_tuple_index mt_tup_index (pe_glob (v := V.ref a.A_WORDS) rfl T.c_WORDS rfl) (pa_cons (pv 4) pa_nil)) pa_nil)))
      (pss_one (ps_if (pt_cmpR op_notN (pv 5) pe_non (nomark _)) (pss_one (ps_expr (pe_bm PySem.F.plainAttrs_list PySem.F.slot_list_append PySem.F.type_list_append mt_append (pv 2) (pa_cons (pv 5) pa_nil)))) pss_nil)))))))
      (pss_one (ps_ret (pe_lst (StX.pa_star (pv 2) (pa_cons (pe_op op_mod (pe_callB (cr_sum rfl) (by rfl) T.z_sum (by decide +kernel) (pa_cons (pv 2) pa_nil)) (pe_glob (v := V.int 256) rfl T.c_BYTE ⟨_, rfl⟩)) pa_nil)))))))), ?_⟩
    refine ⟨_, rfl, load_go hL hx fun G H1 v hGH s1 hP => ?_⟩
    obtain ⟨r, dr, sh, rl, r1, r2, rfl, hr1, hsh, hrl, hR1, hR2⟩ := hP
    have hrH := hGH _ _ hr1
    have c12 := hx.c12
    refine ⟨_, rfl, r, _, dr, _, .ref sh, rfl, hrH, T.cl_Plan, T.n_Plan_shelf, (by kernel_rfl), sh, _, rfl, .inr (Same.seqT hGH hsh), _, rfl, r, _, dr, _, .ref sh, rfl, hrH, T.cl_Plan, T.n_Plan_shelf, (by kernel_rfl), sh, nV x.shelf, rfl, .inl (Same.seqT hGH hsh), small 14 (by show (nV x.shelf ++ []).length + 2 ≤ 14; rw [List.append_nil, List.length_map]; omega) (by decide), fun l hl => ?_⟩
    have l0 : H l = none := Same.free s1 hl
    have lG : G l = none := Same.free hGH hl
    have e0 : V.int 83 :: V.int ((nV x.shelf).length : Nat) :: (nV x.shelf ++ []) = nV (83 :: x.shelf.length :: (x.shelf ++ x.robsB 0)) := by
      rw [List.append_nil, List.length_map]
      show _ = V.int 83 :: V.int (x.shelf.length : Nat) :: nV (x.shelf ++ [])
      rw [List.append_nil]
    have s2 := s1.trans (same_new (o := .lst (V.int 83 :: V.int ((nV x.shelf).length : Nat) :: (nV x.shelf ++ []))) hl)
    have g2 : Same G (upd H1 l (.lst (V.int 83 :: V.int ((nV x.shelf).length : Nat) :: (nV x.shelf ++ [])))) := same_put hGH lG
    -- the robots
    refine ⟨_, rfl, r, _, dr, _, .ref rl, rfl, g2 _ _ hr1, T.cl_Plan, T.n_Plan_robots, (by kernel_rfl), rl, rfl, ⟨_, g2.seq hrl⟩, for_list (K := K) (a := rl) (xs := [r1, r2]) (fun i σ H' => ∃ (v3 v4 v5 : Option V), σ = [some (.str src), some (.ref r), some (.ref l), v3, v4, v5] ∧ Same H H' ∧ Same G H' ∧ H' l = some (.lst (nV (83 :: x.shelf.length :: (x.shelf ++ x.robsB i)))))
      ⟨none, none, none, rfl, s2, g2, by rw [upd_same, e0]⟩ (fun i σ H' _ ⟨_, _, _, _, _, g3, _⟩ => g3.seq hrl) ?_ ?_⟩
    · rintro i y σ H2 hy ⟨v3, v4, v5, rfl, s3, g3, hl3⟩
      have hi : i < 2 := (List.getElem?_eq_some_iff.mp hy).1
      have hRi : RobAt a K G y (x.st i) (x.ss i) := by
        match i, hi with
        | 0, _ => cases hy; exact hR1
        | 1, _ => cases hy; exact hR2
        | i + 2, h => exact absurd h (by omega)
      have hso : StepsOk (x.ss i) := by unfold Pl.ss; split; exact hx.p; exact hx.q
      have hsle := hso.le
      obtain ⟨q, dq, sl, nl, rfl, hq, hDs⟩ := hRi
      obtain ⟨sl', xs, e, hsl, hDx⟩ := Dp.lst_inv hDs
      cases e
      have xsl : xs.length = (x.ss i).length := by rw [DpAll.len hDx, List.length_map]
      have hrb := robsB_len hx (i := i) (by omega)
      have hll : (nV (83 :: x.shelf.length :: (x.shelf ++ x.robsB i))).length ≤ 100 := by
        rw [List.length_map]
        simp only [List.length_cons, List.length_append]
        omega
      refine ⟨_, rfl, .inl ⟨rfl, _, SqL.of hl3⟩, _, rfl, q, _, dq, _, .int (x.st i), rfl, g3 _ _ hq, T.cl_Robot, T.n_Robot_start, (by kernel_rfl), _, rfl, q, _, dq, _, .ref sl, rfl, g3 _ _ hq, T.cl_Robot, T.n_Robot_steps, (by kernel_rfl), sl, _, rfl, .inl (g3.seq hsl), (by show 2 ≤ sizeLine; decide), fun b hb => ?_⟩
      have hl4 : (upd H2 b (.lst [.int (x.st i), .int (xs.length : Nat)])) l = _ := (upd_ne (ne_of_none hl3 hb)).trans hl3
      refine ⟨l, b, _, _, rfl, rfl, hl4, upd_same, small 102 (by show _ + 2 ≤ 102; omega) (by decide), ?_⟩
      have lb : l ≠ b := ne_of_none hl3 hb
      have e5 : nV (83 :: x.shelf.length :: (x.shelf ++ x.robsB i)) ++ [.int (x.st i), .int (xs.length : Nat)] = nV (83 :: x.shelf.length :: (x.shelf ++ x.robsB i) ++ (x.st i :: (x.ss i).length :: ((x.ss i).take 0).flatMap stepB)) := by
        rw [nV_app, xsl]
        rfl
      have s5 := same_put (l := l) (o := .lst (nV (83 :: x.shelf.length :: (x.shelf ++ x.robsB i)) ++ [.int (x.st i), .int (xs.length : Nat)])) (s3.trans (same_new (o := .lst [.int (x.st i), .int (xs.length : Nat)]) hb)) l0
      have g5 := same_put (l := l) (o := .lst (nV (83 :: x.shelf.length :: (x.shelf ++ x.robsB i)) ++ [.int (x.st i), .int (xs.length : Nat)])) (same_put (l := b) (o := .lst [.int (x.st i), .int (xs.length : Nat)]) g3 (Same.free g3 hb)) lG
      have h5 : (upd (upd H2 b (.lst [.int (x.st i), .int (xs.length : Nat)])) l (.lst (nV (83 :: x.shelf.length :: (x.shelf ++ x.robsB i)) ++ [.int (x.st i), .int (xs.length : Nat)]))) l = some (.lst (nV (83 :: x.shelf.length :: (x.shelf ++ x.robsB i) ++ (x.st i :: (x.ss i).length :: ((x.ss i).take 0).flatMap stepB)))) := by rw [upd_same, e5]
      revert s5 g5 h5
      generalize upd (upd H2 b (.lst [.int (x.st i), .int (xs.length : Nat)])) l (.lst (nV (83 :: x.shelf.length :: (x.shelf ++ x.robsB i)) ++ [.int (x.st i), .int (xs.length : Nat)])) = H5
      intro s5 g5 h5
      -- its steps
      refine ⟨_, rfl, q, _, dq, _, .ref sl, rfl, g5 _ _ hq, T.cl_Robot, T.n_Robot_steps, (by kernel_rfl), sl, rfl, ⟨_, g5.seq hsl⟩, for_list (K := K) (a := sl) (xs := xs) (fun j σ H' => ∃ (v4 v5 : Option V), σ = [some (.str src), some (.ref r), some (.ref l), some (.ref q), v4, v5] ∧ Same H H' ∧ Same G H' ∧ H' l = some (.lst (nV (83 :: x.shelf.length :: (x.shelf ++ x.robsB i) ++ (x.st i :: (x.ss i).length :: ((x.ss i).take j).flatMap stepB)))))
        ⟨_, _, rfl, s5, g5, h5⟩ (fun j σ H' _ ⟨_, _, _, _, g6, _⟩ => g6.seq hsl) ?_ ?_⟩
      · rintro j z σ H6 hz ⟨w4, w5, rfl, s6, g6, h6⟩
        obtain ⟨dd, hdd, hDd⟩ := DpAll.get hDx hz
        rw [List.getElem?_map] at hdd
        obtain ⟨sj, hsj, rfl⟩ : ∃ sj, (x.ss i)[j]? = some sj ∧ dd = sj.D := by
          cases e : (x.ss i)[j]? with
          | none => rw [e] at hdd; cases hdd
          | some z => rw [e] at hdd; exact ⟨z, rfl, (Option.some.inj hdd).symm⟩
        have hokj : Step.Ok (x.ss i).length sj := hso.all sj (List.mem_of_getElem? hsj)
        obtain ⟨tt, g, rfl, htt, hg⟩ := step_inv hDd
        have hlj : (nV (83 :: x.shelf.length :: (x.shelf ++ x.robsB i) ++ (x.st i :: (x.ss i).length :: ((x.ss i).take j).flatMap stepB))).length ≤ 142 := by
          rw [List.length_map] at hll
          have hfl := flatB_len ((x.ss i).take j)
          rw [List.length_take] at hfl
          rw [List.length_map, List.length_append]
          simp only [List.length_cons]
          simp only [List.length_cons] at hll
          omega
        refine ⟨tt, _, rfl, Same.seqT g6 htt, rfl, _, _, rfl, _, _, rfl, rfl, ?_⟩
        obtain ⟨ow, how, hoc, hod⟩ := T.k_WORDS
        refine ⟨_, rfl, .inl ⟨rfl, _, SqL.of h6⟩, .inr (.inl ⟨rfl, ow, how, hoc, hod⟩), _, rfl, a.A_WORDS, wds, wS sj.w, sj.w, rfl, rfl, T.q_WORDS H6, wds_get hokj.w8, (fun m hm e => ?_), l, _, _, rfl, rfl, h6, smaller 142 hlj (by decide), ?_⟩
        · have hm8 : m < 8 := by have := hokj.w8; omega
          rw [wds_get hm8] at e
          injection e with e
          have := wS_inj hm8 hokj.w8 e
          omega
        have tk := take_more hsj
        rcases hg with ⟨hg, rfl⟩ | ⟨kk, hg, rfl⟩
        · refine ⟨_, rfl, rfl, _, rfl, ite_f rfl ⟨_, _, rfl, same_put s6 l0, same_put g6 lG, ?_⟩⟩
          rw [upd_same, tk, List.flatMap_append]
          have : ([sj] : List Step).flatMap stepB = [sj.w] := by simp [stepB, hg]
          rw [this]
          simp [nV, List.map_append]
        · refine ⟨_, rfl, rfl, _, rfl, ite_t rfl ?_⟩
          refine ⟨_, rfl, .inl ⟨rfl, _, SqL.of upd_same⟩, _, rfl, l, _, _, rfl, rfl, upd_same, smaller 143 (by rw [List.length_append]; show _ + 1 ≤ 143; omega) (by decide), ?_⟩
          rw [upd_upd]
          refine ⟨_, _, rfl, same_put s6 l0, same_put g6 lG, ?_⟩
          rw [upd_same, tk, List.flatMap_append]
          have : ([sj] : List Step).flatMap stepB = [sj.w, kk] := by simp [stepB, hg]
          rw [this]
          simp [nV, List.map_append]
      · rintro σ H6 ⟨w4, w5, rfl, s6, g6, h6⟩
        rw [xsl, List.take_length] at h6
        refine ⟨_, _, _, rfl, s6, g6, ?_⟩
        rw [h6]
        simp [Pl.robsB, robB]
    · rintro σ H5 ⟨v3, v4, v5, rfl, s5, g5, h5⟩
      have h5 : H5 l = some (.lst (nV (83 :: x.shelf.length :: (x.shelf ++ x.robsB 2)))) := h5
      rw [← bodyB_eq] at h5
      have hbl : (bodyB x).length ≤ 98 := by
        rw [bodyB_eq]
        have := robsB_len hx (i := 2) (by decide)
        simp only [List.length_cons, List.length_append]
        omega
      refine ⟨_, rfl, l, nV (bodyB x), rfl, .inr (SqL.of h5), _, rfl, l, _, rfl, (by rw [← nV_int]; exact SqL.of h5), _, _, rfl, rfl, (by show (0 : Int) < 256; decide), small 99 (by rw [List.length_append, List.length_map]; show _ + 1 ≤ 99; omega) (by decide), fun p hp => ?_⟩
      refine k _ p (s5.trans (same_new hp)) (Same.free s5 hp) ?_
      rw [upd_same, nat_sum]
      have e9 : ((bodyB x).sum : Int) % 256 = (((bodyB x).sum % 256 : Nat) : Int) := by omega
      unfold codeB
      rw [nV_app]
      show some (HO.lst (_ ++ [V.int (((bodyB x).sum : Int) % 256)])) = _
      rw [e9]
      rfl
end
end Sb

namespace Sb
open PySem PySem.Spec PyProof.Rows L2 TL
/-! ### the reader -/
def rdF (cl : Addr) (n : Nat) : List (Str × V) := [("code", .ref cl), ("place", .int n)]
def RdAt (a : Ad) (K : PySem.W.Frag) (G H : Hp) (r : Addr) (n : Nat) (cs : List V) : Prop := ∃ (dx cl : Addr), H r = some (.ins a.C_Reader dx (rdF cl n)) ∧ G r = none ∧ SqL K G cl cs
theorem rdF_put (cl : Addr) (n : Nat) : putF "place" (.int ((n : Int) + 1)) (rdF cl n) = rdF cl (n + 1) := by
  show (if ("code" : Str) = "place" then _ else (("code" : Str), V.ref cl) :: (if ("place" : Str) = "place" then (("place" : Str), V.int ((n : Int) + 1)) :: [] else _)) = _
  rw [if_neg (by decide +kernel), if_pos rfl]
  rfl
section
variable {a : Ad} {K : PySem.W.Frag} {G G' H H' : Hp} {r q : Addr} {n : Nat} {cs : List V} {o : HO}
theorem RdAt.obj (h : RdAt a K G H r n cs) : ∃ dx cl, H r = some (.ins a.C_Reader dx (rdF cl n)) := by
  obtain ⟨dx, cl, h1, _⟩ := h
  exact ⟨dx, cl, h1⟩
theorem RdAt.out (h : RdAt a K G H r n cs) : G r = none := by
  obtain ⟨dx, cl, _, h1, _⟩ := h
  exact h1
theorem RdAt.grow (h : RdAt a K G H r n cs) (g : Same G G') (hp : ∀ o, H r = some o → H' r = some o) (n' : G' r = none) : RdAt a K G' H' r n cs := by
  obtain ⟨dx, cl, h1, h2, h3⟩ := h
  exact ⟨dx, cl, hp _ h1, n', g.seq h3⟩
theorem RdAt.new (h : RdAt a K G H r n cs) (s : Same G H) (nq : H q = none) : RdAt a K (upd G q o) (upd H q o) r n cs := by
  obtain ⟨dx, cl, h1⟩ := h.obj
  have ne : r ≠ q := ne_of_none h1 nq
  exact h.grow (same_new (Same.free s nq)) (fun o e => by rw [upd_ne ne]; exact e) (by rw [upd_ne ne]; exact h.out)
theorem RdAt.lay (h : RdAt a K G H r n cs) (nq : H q = none) : RdAt a K G (upd H q o) r n cs := by
  obtain ⟨dx, cl, h1⟩ := h.obj
  exact h.grow (Same.refl G) (fun o e => by rw [upd_ne (ne_of_none h1 nq)]; exact e) h.out
theorem RdAt.put (h : RdAt a K G H r n cs) (ne : r ≠ q) : RdAt a K G (upd H q o) r n cs :=
  h.grow (Same.refl G) (fun o e => by rw [upd_ne ne]; exact e) h.out
end
structure spRByte (a : Ad) (K : PySem.W.Frag) (vs : List V) (H : Hp) (Q : VK) (E : XK) : Prop where
  ex : ∃ (r : Addr) (G : Hp) (n : Nat) (cs : List V) (lo hi : Int) (b : Nat), vs = [.ref r, .int lo, .int hi] ∧ Same G H ∧ RdAt a K G H r n cs ∧ cs[n]? = some (.int b) ∧ lo ≤ b ∧ b ≤ hi ∧ ∀ H1, Mv [r] G H G H1 → RdAt a K G H1 r (n + 1) cs → Q (.int b) H1
structure spRRobot (a : Ad) (K : PySem.W.Frag) (vs : List V) (H : Hp) (Q : VK) (E : XK) : Prop where
  ex : ∃ (r ot : Addr) (G : Hp) (n : Nat) (cs : List V) (cells st : Nat) (os : List Nat) (ss : List Step) (rest : List V), vs = [.ref r, .int cells, .ref ot] ∧ Same G H ∧ RdAt a K G H r n cs ∧ SqT K G ot (nV os) ∧ cs.drop n = nV (robB st ss) ++ rest ∧ st < cells ∧ cells < 100 ∧ st ∉ os ∧ StepsOk ss ∧
    ∀ G1 H1 v, Mv [r] G H G1 H1 → RdAt a K G1 H1 r (n + (robB st ss).length) cs → RobAt a K G1 v st ss → Q v H1
structure spRdInit (C : Addr) (vs : List V) (H : Hp) (Q : VK) (E : XK) : Prop where
  ex : ∃ (x dx cl : Addr), vs = [.ref x, .ref cl] ∧ H x = some (.ins C dx []) ∧ Q .non (upd H x (.ins C dx (rdF cl 0)))
structure spDecode (a : Ad) (K : PySem.W.Frag) (vs : List V) (H : Hp) (Q : VK) (E : XK) : Prop where
  ex : ∃ (cl : Addr) (x : Pl), vs = [.ref cl] ∧ H cl = some (.lst (nV (codeB x))) ∧ x.Ok ∧ ∀ H', Same H H' → Q (.str (textS x)) H'
theorem pairB_ne {a : Ad} {K : PySem.W.Frag} {G H : Hp} {r : Addr} {n : Nat} {cs : List V} {l : Addr} {xs : List V} (h : RdAt a K G H r n cs) (hl : H l = some (.lst xs)) : r ≠ l := by
  obtain ⟨dx, cl, h1⟩ := h.obj
  exact ne_of h1 hl (by intro z; cases z)
section
variable {P : Program} {w : World} {K : PySem.W.Frag} {mg : Str → Option Value} {base : Heap} {a : Ad}
theorem ok_Reader_init (T : Txt K mg a) : FnOk P w K mg base CX0 1 a.f_Reader_init a.d_Reader_init ["self", "code"] (spRdInit a.C_Reader) := by
  refine T.F_Reader_init.ok sc_Reader_init (fun vs H Q E h => ?_) (fun cdv A outer s H vs Q E hr h => ?_)
  · obtain ⟨⟨x, dx, cl, rfl, _⟩⟩ := h
    rfl
  · obtain ⟨⟨x, dx, cl, rfl, hx, k⟩⟩ := h
    refine ⟨_, (pss_cons (ps_fld (pv 0) (pv 1) rfl)
      (pss_one (ps_fld (pv 0) pe_int rfl))), ?_⟩
    refine ⟨_, rfl, _, rfl, x, _, dx, _, rfl, hx, T.cl_Reader, T.n_Reader_code, by decide, ?_⟩
    refine ⟨_, rfl, x, _, dx, _, rfl, upd_same, T.cl_Reader, T.n_Reader_place, lf1, ?_⟩
    rw [upd_upd]
    have e : putF "place" (V.int 0) (putF "code" (V.ref cl) []) = rdF cl 0 := by
      show putF "place" (V.int 0) [("code", V.ref cl)] = _
      rw [putF_new (fs := [("code", V.ref cl)]) (show ("place" : Str) ∉ (["code"] : List Str) by decide +kernel)]
      rfl
    rw [e]
    exact k
theorem ok_Reader_read_byte (T : Txt K mg a) : FnOk P w K mg base CX0 2 a.f_Reader_read_byte a.d_Reader_read_byte ["self", "low", "high"] (spRByte a K) := by
  refine T.F_Reader_read_byte.ok sc_Reader_read_byte (fun vs H Q E h => ?_) (fun cdv A outer s H vs Q E hr h => ?_)
  · obtain ⟨⟨r, G, n, cs, lo, hi, b, rfl, _⟩⟩ := h
    rfl
  · obtain ⟨⟨r, G, n, cs, lo, hi, b, rfl, hs, ⟨dx, cl, h1, h2, h3⟩, hb, b1, b2, k⟩⟩ := h
    refine ⟨_, (pss_cons (ps_if (PW.pt (pw_or (pt_cmpR op_eq (pe_fld (pv 0) rfl) (pe_callB call_len_seq (by rfl) T.z_len (by decide +kernel) (pa_cons (pe_fld (pv 0) rfl) pa_nil)) (nomark _)) (pw_or1 (pt_not (pt_val (pe_call (ok_is_int_in T) (hr.mono (by decide)) rfl T.m_is_int_in T.F_is_int_in.kp (b_is_int_in T) .nil pass0 (pa_cons (pe_ix ix_list (pe_fld (pv 0) rfl) (pe_fld (pv 0) rfl) (fun _ _ => rfl)) (pa_cons (pv 1) (pa_cons (pv 2) pa_nil))))))))) pss_never pss_nil)
      (pss_cons (ps_fldaug (pv 0) pe_int in_add)
      (pss_one (ps_ret (pe_ix ix_list (pe_fld (pv 0) rfl) (pe_op op_sub (pe_fld (pv 0) rfl) pe_int) (fun _ _ => rfl)))))), ?_⟩
    have hn : n < cs.length := (List.getElem?_eq_some_iff.mp hb).1
    refine ⟨_, rfl, r, _, dx, _, .int n, rfl, h1, T.cl_Reader, T.n_Reader_place, (by kernel_rfl), _, rfl, r, _, dx, _, .ref cl, rfl, h1, T.cl_Reader, T.n_Reader_code, (by kernel_rfl), cl, _, rfl, .inl (hs.seq h3), rfl, _, rfl, ite_f (vint_ne (by omega)) ?_⟩
    refine ⟨_, rfl, r, _, dx, _, .ref cl, rfl, h1, T.cl_Reader, T.n_Reader_code, (by kernel_rfl), _, rfl, r, _, dx, _, .int n, rfl, h1, T.cl_Reader, T.n_Reader_place, (by kernel_rfl), cl, _, _, .int b, rfl, rfl, hs.seq h3, atI_nat hb, _, rfl, _, rfl, isint_go b1 b2 ⟨_, rfl, ite_f rfl ?_⟩⟩
    refine ⟨_, rfl, r, _, dx, _, .int n, rfl, h1, T.cl_Reader, T.n_Reader_place, (by kernel_rfl), _, _, rfl, rfl, dx, _, h1, (by show 2 < 1000; decide), ?_⟩
    have e : putF "place" ((fun i j => V.int (i + j)) (n : Int) 1) (rdF cl n) = rdF cl (n + 1) := rdF_put cl n
    have M1 : Mv [r] G H G (upd H r (.ins a.C_Reader dx (rdF cl (n + 1)))) := (Mv.start hs).put (.inl (by simp)) h2 _
    have hcl : SqL K (upd H r (.ins a.C_Reader dx (rdF cl (n + 1)))) cl cs := M1.s.seq h3
    dsimp only
    rw [rdF_put]
    refine ⟨_, rfl, r, _, dx, _, .ref cl, rfl, upd_same, T.cl_Reader, T.n_Reader_code, (by kernel_rfl), _, rfl, r, _, dx, _, .int ((n + 1 : Nat) : Int), rfl, upd_same, T.cl_Reader, T.n_Reader_place, (by kernel_rfl), _, _, rfl, rfl, cl, _, _, .int b, rfl, rfl, hcl, at_of (j := n) (by omega) hb, k _ M1 ⟨dx, cl, upd_same, h2, h3⟩⟩
theorem byte_go {S : List Addr} {r : Addr} {G0 H0 G H : Hp} {n : Nat} {cs : List V} {lo hi : Int} {b : Nat} {Q : VK} {E : XK} (m : Mv S G0 H0 G H) (hp : r ∈ S ∨ H0 r = none) (hR : RdAt a K G H r n cs) (hb : cs[n]? = some (.int b)) (b1 : lo ≤ b) (b2 : b ≤ hi)
    (k : ∀ H1, Mv S G0 H0 G H1 → Mv [r] G H G H1 → RdAt a K G H1 r (n + 1) cs → Q (.int b) H1) : spRByte a K [.ref r, .int lo, .int hi] H Q E :=
  ⟨⟨r, G, n, cs, lo, hi, b, rfl, m.s, hR, hb, b1, b2, fun H1 mv hR1 => k H1 ⟨m.ext.trans mv.ext, fun c o e => by
    have e1 := m.sm c o e
    obtain ⟨h1, h2⟩ := wos_some e
    refine mv.sm c o ?_
    by_cases hc : c ∈ [r]
    · have : c = r := by simpa using hc
      subst this
      rcases hp with hp | hp
      · exact absurd hp h1
      · rw [hp] at h2; cases h2
    · rw [wos_out hc]; exact e1⟩ mv hR1⟩⟩
end
end Sb

namespace Sb
open PySem PySem.Spec PyProof.Rows L2 TL
theorem Mv.comp {S S' : List Addr} {G0 H0 G H G1 H1 : Hp} (a : Mv S G0 H0 G H) (b : Mv S' G H G1 H1) (h : ∀ c ∈ S', c ∈ S ∨ H0 c = none) : Mv S G0 H0 G1 H1 := by
  refine ⟨a.ext.trans b.ext, fun c o e => ?_⟩
  obtain ⟨h1, h2⟩ := wos_some e
  refine b.sm c o ?_
  by_cases hc : c ∈ S'
  · rcases h c hc with h | h
    · exact absurd h h1
    · rw [h] at h2; cases h2
  · rw [wos_out hc]; exact a.sm c o e
theorem cut_pre (xs ys : List V) : cutV (xs ++ ys) none (some ((xs.length : Nat) : Int)) = xs := by
  unfold cutV
  rw [HT.sIx_none, HT.sIx_nat, List.drop_zero, Nat.sub_zero]
  have : min xs.length (xs ++ ys).length = xs.length := by rw [List.length_append]; omega
  rw [this, List.take_left]
theorem nV_atE {l : List Nat} {i b : Nat} (h : l[i]? = some b) : (nV l)[i]? = some (.int b) := by rw [List.getElem?_map, h]; rfl
theorem drop_get {α : Type} {l m : List α} {n : Nat} {r : List α} (h : l.drop n = m ++ r) {i : Nat} {x : α} (hi : m[i]? = some x) : l[n + i]? = some x := by
  have e := congrArg (fun z => z[i]?) h
  simp only [List.getElem?_drop] at e
  rw [e, List.getElem?_append_left (List.getElem?_eq_some_iff.mp hi).1, hi]
theorem wds_in_jmp {w : Nat} (h : w < 8) : inV (.str (wS w)) (jmpS.map V.str) = decide (5 ≤ w) := by rw [in_strs, jmpS_in h]
section
variable {P : Program} {w : World} {K : PySem.W.Frag} {mg : Str → Option Value} {base : Heap} {a : Ad}
theorem ok_Reader_read_robot (T : Txt K mg a) : FnOk P w K mg base CX0 3 a.f_Reader_read_robot a.d_Reader_read_robot ["self", "cells", "others"] (spRRobot a K) := by
  refine T.F_Reader_read_robot.ok sc_Reader_read_robot (fun vs H Q E h => ?_) (fun cdv A outer s H vs Q E hr h => ?_)
  · obtain ⟨⟨r, ot, G, n, cs, cells, st, os, ss, rest, rfl, _⟩⟩ := h
    rfl
  · obtain ⟨⟨r, ot, G, n, cs, cells, st, os, ss, rest, rfl, hs, hR, hot, hd, hst, hc, hos, hso, k⟩⟩ := h
    refine ⟨_, (pss_cons (ps_set (i := 3) sc_Reader_read_robot.nd rfl (Or.inl rfl) (pe_meth (pv 0) T.cl_Reader T.M_Reader_read_byte (ok_Reader_read_byte T) (hr.mono (by decide)) (b_Reader_read_byte T) .nil pass0 (pa_cons pe_int (pa_cons (pe_op op_sub (pv 1) pe_int) pa_nil))))
      (pss_cons (ps_if (pt_cmpR op_in_seq (pv 3) (pv 2) rfl) pss_never pss_nil)
      (pss_cons (ps_par (i := 4) (j := 5) (by rfl) sc_Reader_read_robot.nd rfl rfl (by decide) rfl rfl (pa_cons (pe_meth (pv 0) T.cl_Reader T.M_Reader_read_byte (ok_Reader_read_byte T) (hr.mono (by decide)) (b_Reader_read_byte T) .nil pass0 (pa_cons pe_int (pa_cons (pe_glob (v := V.int 20) rfl T.c_MAX_STEPS ⟨_, rfl⟩) pa_nil))) (pa_cons (pe_lst pa_nil) pa_nil)) (by rfl))
      (pss_cons (ps_for PassesOwn.never rfl (pi_range1 (by rfl) T.z_range (pa_cons (pv 4) pa_nil)) (pg_name (i := 6) sc_Reader_read_robot.nd rfl (Or.inl rfl)) (pss_cons (ps_set (i := 7) sc_Reader_read_robot.nd rfl (Or.inl rfl) (pe_ix ix_tup (pe_glob (v := V.ref a.A_WORDS) rfl T.c_WORDS rfl) (pe_meth (pv 0) T.cl_Reader T.M_Reader_read_byte (ok_Reader_read_byte T) (hr.mono (by decide)) (b_Reader_read_byte T) .nil pass0 (pa_cons pe_int (pa_cons (pe_op op_sub (pe_callB call_len_seq (by rfl) T.z_len (by decide +kernel) (pa_cons (pe_glob (v := V.ref a.A_WORDS) rfl T.c_WORDS rfl) pa_nil)) pe_int) pa_nil))) (fun _ _ => rfl)))
      (pss_one (ps_expr (pe_bm PySem.F.plainAttrs_list PySem.F.slot_list_append PySem.F.type_list_append mt_append (pv 5) (pa_cons (pe_tup (pa_cons (pv 7) (pa_cons (pe_ifExp (pt_cmpR op_in_seq (pv 7) (pe_glob (v := V.ref a.A_JUMPS) rfl T.c_JUMPS rfl) rfl) (pe_meth (pv 0) T.cl_Reader T.M_Reader_read_byte (ok_Reader_read_byte T) (hr.mono (by decide)) (b_Reader_read_byte T) .nil pass0 (pa_cons pe_int (pa_cons (pe_op op_sub (pv 4) pe_int) pa_nil))) pe_non) pa_nil))) pa_nil))))))
      (pss_one (ps_ret (pe_make T.mk_Robot (ok_Robot_init T) (hr.mono (by decide)) (by rfl) T.m_Robot (b_Robot_init T) .nil pass0 (pa_cons (pv 3) (pa_cons (pv 5) (pa_cons (pe_op op_rep (pe_lst (pa_cons pe_non pa_nil)) (pv 4)) pa_nil)))))))))), ?_⟩
    have M0 : Mv [r] G H G H := Mv.start hs
    have hsle := hso.le
    have hpos := hso.pos
    have at0 : cs[n]? = some (.int st) := drop_get hd (i := 0) rfl
    have at1 : cs[n + 1]? = some (.int ss.length) := drop_get hd (i := 1) rfl
    obtain ⟨dx, cl, h1⟩ := hR.obj
    have r0 : H r ≠ none := by rw [h1]; simp
    refine ⟨_, rfl, r, dx, _, rfl, h1, (by kernel_rfl), _, rfl, _, _, rfl, rfl, byte_go M0 (.inl (by simp)) hR at0 (by omega) (by omega) fun H1 M1 _ R1 => ?_⟩
    refine ⟨_, rfl, _, rfl, ot, _, rfl, .inr (Same.seqT M1.s hot), rfl, nats_flat os, _, rfl, ite_f (by rw [if_neg Bool.false_ne_true, in_nats]; exact decide_eq_false hos) ?_⟩
    obtain ⟨dx1, cl1, h11⟩ := R1.obj
    refine ⟨_, rfl, r, dx1, _, rfl, h11, (by kernel_rfl), byte_go M1 (.inl (by simp)) R1 at1 (by omega) (by omega) fun H2 M2 _ R2 => ?_⟩
    refine ⟨Nat.zero_le _, fun l hl => ⟨_, _, rfl, ?_⟩⟩
    have l0 : H l = none := M2.free hl
    have lG : G l = none := M2.freeG hl
    have rl : r ≠ l := fun e => r0 (by rw [e]; exact l0)
    have M3 := M2.lay hl (.lst [])
    have R3 := R2.lay (o := .lst []) hl
    -- the steps
    have pos_j : ∀ j, j ≤ ss.length → cs.drop (n + 2 + ((ss.take j).flatMap stepB).length) = nV ((ss.drop j).flatMap stepB) ++ rest := fun j hj => by
      have e : ss.flatMap stepB = (ss.take j).flatMap stepB ++ (ss.drop j).flatMap stepB := by rw [← List.flatMap_append, List.take_append_drop]
      have d2 : cs.drop (n + 2) = nV (ss.flatMap stepB) ++ rest := by rw [← List.drop_drop, hd]; rfl
      have el : ((ss.take j).flatMap stepB).length = (nV ((ss.take j).flatMap stepB)).length := (List.length_map ..).symm
      rw [← List.drop_drop, d2, e, nV_app, List.append_assoc, el, List.drop_left]
    refine ⟨_, rfl, _, rfl, by omega, by omega, for_range (lo := 0) (n := ((ss.length : Nat) : Int).toNat) (fun j σ H' => ∃ (G' : Hp) (xs : List V) (v6 v7 : Option V), σ = [some (.ref r), some (.int cells), some (.ref ot), some (.int st), some (.int (ss.length : Nat)), some (.ref l), v6, v7] ∧ Mv [r] G H G' H' ∧ RdAt a K G' H' r (n + 2 + ((ss.take j).flatMap stepB).length) cs ∧ G' l = none ∧ H' l = some (.lst xs) ∧ DpAll K G' xs ((ss.take j).map Step.D)) ?_ ?_ ?_⟩
    · exact ⟨G, [], none, none, rfl, M3, R3, lG, upd_same, .nil⟩
    · rintro j σ H4 hj ⟨G4, xs, v6, v7, rfl, M4, R4, lG4, hl4, hD4⟩
      have hj' : j < ss.length := by omega
      obtain ⟨sj, hsj⟩ : ∃ sj, ss[j]? = some sj := ⟨_, List.getElem?_eq_getElem hj'⟩
      have hokj : Step.Ok ss.length sj := hso.all sj (List.mem_of_getElem? hsj)
      have w8 := hokj.w8
      have dj : cs.drop (n + 2 + ((ss.take j).flatMap stepB).length) = nV (stepB sj) ++ (nV ((ss.drop (j + 1)).flatMap stepB) ++ rest) := by
        rw [pos_j j (by omega)]
        have h2 := List.drop_eq_getElem_cons hj'
        have h3 : ss[j] = sj := (List.getElem?_eq_some_iff.mp hsj).2
        rw [h3] at h2
        rw [h2, List.flatMap_cons, nV_app, List.append_assoc]
      have b0 : cs[n + 2 + ((ss.take j).flatMap stepB).length]? = some (.int sj.w) := by
        have := drop_get dj (i := 0) (x := .int sj.w) rfl
        simpa using this
      obtain ⟨dx4, cl4, h14⟩ := R4.obj
      have xsl : xs.length ≤ 20 := by rw [DpAll.len hD4, List.length_map, List.length_take]; omega
      refine ⟨_, rfl, r, dx4, _, rfl, h14, (by kernel_rfl), a.A_WORDS, _, rfl, .inr (T.q_WORDS H4), _, _, rfl, rfl, byte_go (lo := 0) (hi := ((wds.map V.str).length : Nat) - 1) M4 (.inl (by simp)) R4 b0 (by omega) (by show (sj.w : Int) ≤ 8 - 1; omega) fun H5 M5 m5 R5 => ?_⟩
      refine ⟨a.A_WORDS, wds.map V.str, _, .str (wS sj.w), rfl, rfl, T.q_WORDS H5, atI_nat (wds_at w8), ?_⟩
      have hl5 : H5 l = some (.lst xs) := m5.kept hl4 (by simp [rl.symm])
      have fin : ∀ (H6 : Hp) (g : V), Mv [r] G H G4 H6 → RdAt a K G4 H6 r (n + 2 + ((ss.take (j + 1)).flatMap stepB).length) cs → H6 l = some (.lst xs) → (∀ G, Dp K G g (optD sj.g)) →
          (2 ≤ sizeLine ∧ ∀ t, H6 t = none → ∃ l' ys y, (V.ref l) = .ref l' ∧ [V.ref t] = [y] ∧ (upd H6 t (.tup [.str (wS sj.w), g])) l' = some (.lst ys) ∧ ys.length < sizeLine ∧
            ∃ (G' : Hp) (xs : List V) (v6 v7 : Option V), [some (V.ref r), some (.int cells), some (.ref ot), some (.int st), some (.int (ss.length : Nat)), some (.ref l), some (.int (0 + (j : Int))), some (.str (wS sj.w))] = [some (.ref r), some (.int cells), some (.ref ot), some (.int st), some (.int (ss.length : Nat)), some (.ref l), v6, v7] ∧
              Mv [r] G H G' (upd (upd H6 t (.tup [.str (wS sj.w), g])) l' (.lst (ys ++ [y]))) ∧ RdAt a K G' (upd (upd H6 t (.tup [.str (wS sj.w), g])) l' (.lst (ys ++ [y]))) r (n + 2 + ((ss.take (j + 1)).flatMap stepB).length) cs ∧ G' l = none ∧ (upd (upd H6 t (.tup [.str (wS sj.w), g])) l' (.lst (ys ++ [y]))) l = some (.lst xs) ∧ DpAll K G' xs ((ss.take (j + 1)).map Step.D)) := by
        intro H6 g M6 R6 hl6 hg
        refine ⟨by decide, fun t ht => ?_⟩
        have lt : l ≠ t := ne_of_none hl6 ht
        have M7 := M6.new ht (.tup [.str (wS sj.w), g])
        have R7 := R6.new (o := .tup [.str (wS sj.w), g]) M6.s ht
        have lG7 : upd G4 t (.tup [.str (wS sj.w), g]) l = none := by rw [upd_ne lt]; exact lG4
        have nG := same_new (H := G4) (p := t) (o := .tup [.str (wS sj.w), g]) (M6.freeG ht)
        refine ⟨l, xs, _, rfl, rfl, by rw [upd_ne lt]; exact hl6, smaller 20 xsl (by decide), _, xs ++ [.ref t], _, _, rfl, M7.put (.inr l0) lG7 _, R7.put rl, lG7, upd_same, ?_⟩
        rw [take_more hsj, List.map_append]
        exact DpAll.snoc (Dp.monoAll nG _ _ hD4) (.tup (SqT.of upd_same) (.cons (.str _) (.cons (hg _) .nil)))
      refine ⟨_, rfl, .inl ⟨rfl, _, SqL.of hl5⟩, _, rfl, _, rfl, a.A_JUMPS, jmpS.map V.str, rfl, .inr (T.q_JUMPS H5), rfl, strs_flat _, _, rfl, ?_⟩
      rw [if_neg Bool.false_ne_true, wds_in_jmp w8]
      refine ite2 (fun c => ?_) (fun c => ?_)
      · obtain ⟨kk, hg, hkk⟩ := hokj.yes (of_decide_eq_true c)
        have b1 : cs[n + 2 + ((ss.take j).flatMap stepB).length + 1]? = some (.int kk) := drop_get dj (i := 1) (by unfold stepB; rw [hg]; rfl)
        obtain ⟨dx5, cl5, h15⟩ := R5.obj
        refine ⟨_, rfl, r, dx5, _, rfl, h15, (by kernel_rfl), _, rfl, _, _, rfl, rfl, byte_go M5 (.inl (by simp)) R5 b1 (by omega) (by omega) fun H6 M6 m6 R6 => ?_⟩
        refine fin H6 (.int kk) M6 ?_ (m6.kept hl5 (by simp [rl.symm])) (fun G => by rw [hg]; exact .int kk)
        have e : ((ss.take (j + 1)).flatMap stepB).length = ((ss.take j).flatMap stepB).length + 2 := by
          rw [flat_more hsj, List.length_append]
          unfold stepB
          rw [hg]
          rfl
        rw [e]
        exact R6
      · have hg := hokj.no (by have h5 : ¬ 5 ≤ sj.w := fun z => c (decide_eq_true z); omega)
        refine fin H5 .non M5 ?_ hl5 (fun G => by rw [hg]; exact .non)
        have e : ((ss.take (j + 1)).flatMap stepB).length = ((ss.take j).flatMap stepB).length + 1 := by
          rw [flat_more hsj, List.length_append]
          unfold stepB
          rw [hg]
          rfl
        rw [e]
        exact R5
    · rintro σ H4 ⟨G4, xs, v6, v7, rfl, M4, R4, lG4, hl4, hD4⟩
      have el : ((ss.length : Nat) : Int).toNat = ss.length := by omega
      rw [el, List.take_length] at R4 hD4
      refine ⟨_, rfl, _, rfl, (by show 1 ≤ sizeLine; decide), fun e1 he1 => ?_⟩
      have M5 := M4.lay he1 (.lst [.non])
      have R5 := R4.lay (o := .lst [.non]) he1
      have hl5 : (upd H4 e1 (.lst [.non])) l = some (.lst xs) := (upd_ne (ne_of_none hl4 he1)).trans hl4
      refine ⟨_, rfl, e1, _, _, rfl, rfl, upd_same, by omega, by omega, small 20 (by show 1 * ((ss.length : Nat) : Int).toNat ≤ 20; omega) (by decide), fun e2 he2 => ?_⟩
      intro y dy ny nd ne
      refine init_go2 rfl ⟨rfl, ?_⟩
      generalize hrep : (List.replicate ((ss.length : Nat) : Int).toNat [V.non]).flatten = reps at *
      have M6 := M5.lay he2 (.lst reps)
      have R6 := R5.lay (o := .lst reps) he2
      have hl6 : (upd (upd H4 e1 (.lst [.non])) e2 (.lst reps)) l = some (.lst xs) := (upd_ne (ne_of_none hl5 he2)).trans hl5
      have M7 := M6.freeze l0 hl6
      have M8 := M7.make ny nd ne (.ins a.C_Robot dy (robF st l e2))
      have g1 := same_new (H := G4) (p := l) (o := .lst xs) lG4
      have g2 := same_make (M7.freeG ny) (M7.freeG nd) ne (.ins a.C_Robot dy (robF st l e2))
      obtain ⟨_, _, h16⟩ := R6.obj
      have ry : r ≠ y := ne_of_none h16 ny
      have rdy : r ≠ dy := ne_of_none h16 nd
      have el2 : n + 2 + (ss.flatMap stepB).length = n + (robB st ss).length := by
        unfold robB
        simp only [List.length_cons]
        omega
      rw [el2] at R6
      refine k _ _ _ M8 ?_ ⟨y, dy, l, e2, rfl, upd_same, .lst (SqL.of (g2 _ _ upd_same)) (Dp.monoAll (g1.trans g2) _ _ hD4)⟩
      refine R6.grow (g1.trans g2) (fun o e => by rw [upd_ne ry, upd_ne rdy]; exact e) ?_
      rw [upd_ne ry, upd_ne rdy, upd_ne rl]
      exact R6.out
theorem ok_decode (T : Txt K mg a) : FnOk P w K mg base CX0 4 a.f_decode a.d_decode ["code"] (spDecode a K) := by
  refine T.F_decode.ok sc_decode (fun vs H Q E h => ?_) (fun cdv A outer s H vs Q E hr h => ?_)
  · obtain ⟨⟨cl, x, rfl, _⟩⟩ := h
    rfl
  · obtain ⟨⟨cl, x, rfl, hcl, hx, k⟩⟩ := h
    refine ⟨_, (pss_cons (ps_if (pt_not (pt_val (pe_callB call_isi (by rfl) T.z_isinstance (by decide +kernel) (pa_cons (pv 0) (pa_cons (pe_bltn (v := .ty "list") (by rfl) T.z_list (by decide +kernel) rfl) pa_nil))))) pss_never pss_nil)
      (pss_cons (ps_set (i := 1) sc_decode.nd rfl (Or.inr rfl) (pe_make T.mk_Reader (ok_Reader_init T) (hr.mono (by decide)) (by rfl) T.m_Reader (b_Reader_init T) .nil pass0 (pa_cons (pv 0) pa_nil)))
      (pss_cons (ps_expr (pe_meth (pv 1) T.cl_Reader T.M_Reader_read_byte (ok_Reader_read_byte T) (hr.mono (by decide)) (b_Reader_read_byte T) .nil pass0 (pa_cons (pe_glob (v := V.int 83) rfl T.c_TAG ⟨_, rfl⟩) (pa_cons (pe_glob (v := V.int 83) rfl T.c_TAG ⟨_, rfl⟩) pa_nil))))
      (pss_cons (ps_set (i := 2) sc_decode.nd rfl (Or.inl rfl) (pe_meth (pv 1) T.cl_Reader T.M_Reader_read_byte (ok_Reader_read_byte T) (hr.mono (by decide)) (b_Reader_read_byte T) .nil pass0 (pa_cons (pe_glob (v := V.int 3) rfl T.c_MIN_CELLS ⟨_, rfl⟩) (pa_cons (pe_glob (v := V.int 12) rfl T.c_MAX_CELLS ⟨_, rfl⟩) pa_nil))))
      (pss_cons (ps_set (i := 3) sc_decode.nd rfl (Or.inl rfl) (pe_callTy call_tuple_of (by rfl) T.z_tuple (by decide +kernel) (pa_cons (pe_lc (own := [("cell", 4)]) (g := gName 4) (tt := tYes) rfl sc_decode.nd (pi_range1 (by rfl) T.z_range (pa_cons (pv 2) pa_nil)) (blkOk_by (own := [("cell", 4)]) (N := ["code", "reader", "cells", "shelf", "cell", "first", "second", "checksum"]) (sc := (defScope s_decode)) (by decide +kernel)) (fun _ _ _ _ _ => (pg_name (i := 4) sc_decode.nd rfl (Or.inl rfl))) (fun _ _ _ _ _ => pts_nil) (fun _ _ _ _ _ => by exact (pe_meth (pv 1) T.cl_Reader T.M_Reader_read_byte (ok_Reader_read_byte T) (hr.mono (by decide)) (b_Reader_read_byte T) .nil pass0 (pa_cons pe_int (pa_cons (pe_glob (v := V.int 3) rfl T.c_MAX_BOXES ⟨_, rfl⟩) pa_nil))))) pa_nil)))
      (pss_cons (ps_set (i := 5) sc_decode.nd rfl (Or.inl rfl) (pe_meth (pv 1) T.cl_Reader T.M_Reader_read_robot (ok_Reader_read_robot T) (hr.mono (by decide)) (b_Reader_read_robot T) .nil pass0 (pa_cons (pv 2) (pa_cons (pe_tup pa_nil) pa_nil))))
      (pss_cons (ps_set (i := 6) sc_decode.nd rfl (Or.inl rfl) (pe_meth (pv 1) T.cl_Reader T.M_Reader_read_robot (ok_Reader_read_robot T) (hr.mono (by decide)) (b_Reader_read_robot T) .nil pass0 (pa_cons (pv 2) (pa_cons (pe_tup (pa_cons (pe_fld (pv 5) rfl) pa_nil)) pa_nil))))
      (pss_cons (ps_set (i := 7) sc_decode.nd rfl (Or.inl rfl) (pe_op op_mod (pe_callB (cr_sum rfl) (by rfl) T.z_sum (by decide +kernel) (pa_cons (pe_slice sl_list (pv 0) po_none (po_some (pe_fld (pv 1) rfl))) pa_nil)) (pe_glob (v := V.int 256) rfl T.c_BYTE ⟨_, rfl⟩)))
      (pss_cons (ps_expr (pe_meth (pv 1) T.cl_Reader T.M_Reader_read_byte (ok_Reader_read_byte T) (hr.mono (by decide)) (b_Reader_read_byte T) .nil pass0 (pa_cons (pv 7) (pa_cons (pv 7) pa_nil))))
      (pss_cons (ps_if (pt_cmpR op_lt (pe_fld (pv 1) rfl) (pe_callB call_len_seq (by rfl) T.z_len (by decide +kernel) (pa_cons (pv 0) pa_nil)) (nomark _)) pss_never pss_nil)
      (pss_one (ps_ret (pe_call (ok_format_parsed T) (hr.mono (by decide)) rfl T.m_format_parsed T.F_format_parsed.kp (b_format_parsed T) .nil pass0 (pa_cons (pe_make T.mk_Plan (ok_Plan_init T) (hr.mono (by decide)) (by rfl) T.m_Plan (b_Plan_init T) .nil pass0 (pa_cons (pv 3) (pa_cons (pe_lst (pa_cons (pv 5) (pa_cons (pv 6) pa_nil))) pa_nil))) pa_nil)))))))))))))), ?_⟩
    have c3 := hx.c3
    have c12 := hx.c12
    refine ⟨_, rfl, _, _, _, _, true, rfl, .ty "list", .base (.lst hcl), kit_ty (by decide +kernel), _, rfl, ite_f rfl ?_⟩
    refine ⟨_, rfl, fun r dr nr nd ne => ⟨⟨r, dr, cl, rfl, upd_same, rfl, ?_⟩⟩⟩
    rw [upd_upd]
    have A1 : Mv [] H H (upd H dr (.own r)) (upd H dr (.own r)) := (Mv.start (Same.refl H)).new nd _
    have M1 : Mv [] H H (upd H dr (.own r)) (upd (upd H dr (.own r)) r (.ins a.C_Reader dr (rdF cl 0))) := A1.lay (make_free nr ne) _
    have rG : upd H dr (.own r) r = none := make_free nr ne
    have R1 : RdAt a K (upd H dr (.own r)) (upd (upd H dr (.own r)) r (.ins a.C_Reader dr (rdF cl 0))) r 0 (nV (codeB x)) := ⟨dr, cl, upd_same, rG, SqL.of (by rw [upd_ne (ne_of_none hcl nd)]; exact hcl)⟩
    have hclG : upd H dr (.own r) cl = some (.lst (nV (codeB x))) := by rw [upd_ne (ne_of_none hcl nd)]; exact hcl
    revert M1 R1
    generalize upd (upd H dr (.own r)) r (.ins a.C_Reader dr (rdF cl 0)) = H1
    generalize upd H dr (.own r) = G1 at hclG
    intro M1 R1
    have e0 : nV (codeB x) = V.int 83 :: V.int (x.shelf.length : Nat) :: (nV x.shelf ++ (nV (robB x.a x.p) ++ (nV (robB x.b x.q) ++ [V.int (((bodyB x).sum % 256 : Nat) : Int)]))) := by
      unfold codeB bodyB
      simp [nV]
    obtain ⟨d1, c1, h1⟩ := R1.obj
    refine ⟨_, rfl, r, d1, _, rfl, h1, (by kernel_rfl), byte_go (b := 83) M1 (.inr nr) R1 (by rw [e0]; rfl) (by decide) (by decide) fun H2 M2 _ R2 => ?_⟩
    obtain ⟨d2, c2, h2⟩ := R2.obj
    refine ⟨_, rfl, r, d2, _, rfl, h2, (by kernel_rfl), byte_go (b := x.shelf.length) M2 (.inr nr) R2 (by rw [e0]; rfl) (by omega) (by omega) fun H3 M3 _ R3 => ?_⟩
    -- the shelf
    refine ⟨_, rfl, _, rfl, by omega, by omega, fun D hD => ?_⟩
    have D0 : H D = none := M3.free hD
    have DG : G1 D = none := M3.freeG hD
    have rD : r ≠ D := by obtain ⟨_, _, h⟩ := R3.obj; exact ne_of_none h hD
    have shelf_at : ∀ j b, x.shelf[j]? = some b → (nV (codeB x))[2 + j]? = some (.int b) := fun j b hj => by
      rw [e0]
      have hlt : j < (nV x.shelf).length := by rw [List.length_map]; exact (List.getElem?_eq_some_iff.mp hj).1
      have e2 : 2 + j = j + 1 + 1 := by omega
      rw [e2, List.getElem?_cons_succ, List.getElem?_cons_succ, List.getElem?_append_left hlt]
      exact nV_atE hj
    refine lc_range (lo := 0) (n := ((x.shelf.length : Nat) : Int).toNat) (fun j H' => Mv [] H H G1 H' ∧ RdAt a K G1 H' r (2 + j) (nV (codeB x)) ∧ H' D = some (.lst (nV (x.shelf.take j)))) ⟨M3.lay hD _, R3.lay hD, upd_same⟩ ?_ ?_
    · rintro j H4 hj ⟨M4, R4, hD4⟩
      obtain ⟨b, hb⟩ : ∃ b, x.shelf[j]? = some b := ⟨_, List.getElem?_eq_getElem (by omega)⟩
      have hb3 := hx.b3 b (List.mem_of_getElem? hb)
      obtain ⟨d4, c4, h4⟩ := R4.obj
      refine ⟨rfl, _, rfl, r, d4, _, rfl, h4, (by kernel_rfl), byte_go M4 (.inr nr) R4 (shelf_at j b hb) (by omega) (by omega) fun H5 M5 m5 R5 => ?_⟩
      have hD5 := m5.kept hD4 (by simp [rD.symm])
      refine ⟨_, hD5, smaller 12 (by rw [List.length_map, List.length_take]; omega) (by decide), M5.put (.inr D0) DG _, R5.put rD, ?_⟩
      rw [upd_same, take_more hb, nV_app]
      rfl
    rintro H4 ⟨M4, R4, hD4⟩
    have el : ((x.shelf.length : Nat) : Int).toNat = x.shelf.length := by omega
    rw [el] at R4 hD4
    rw [List.take_length] at hD4
    refine ⟨D, _, rfl, .inl ⟨SqL.of hD4, fun sh hsh => ?_⟩⟩
    have M5 := M4.new hsh (.tup (nV x.shelf))
    have R5 := R4.new (o := .tup (nV x.shelf)) M4.s hsh
    have shG : SqT K (upd G1 sh (.tup (nV x.shelf))) sh (nV x.shelf) := SqT.of upd_same
    have hcl5 : upd G1 sh (.tup (nV x.shelf)) cl = some (.lst (nV (codeB x))) := by rw [upd_ne (ne_of_none hclG (M4.freeG hsh))]; exact hclG
    revert M5 R5 shG hcl5
    generalize upd H4 sh (.tup (nV x.shelf)) = H5
    generalize upd G1 sh (.tup (nV x.shelf)) = G5
    intro M5 R5 shG hcl5
    -- the robots
    obtain ⟨d5, c5, h5⟩ := R5.obj
    refine ⟨_, rfl, r, d5, _, rfl, h5, (by kernel_rfl), _, rfl, (by show 0 ≤ sizeLine; decide), fun t0 ht0 => ?_⟩
    have M6 := M5.new ht0 (.tup [])
    have R6 := R5.new (o := .tup []) M5.s ht0
    have lsh : (nV x.shelf).length = x.shelf.length := List.length_map ..
    have dr1 : (nV (codeB x)).drop (2 + x.shelf.length) = nV (robB x.a x.p) ++ (nV (robB x.b x.q) ++ [V.int (((bodyB x).sum % 256 : Nat) : Int)]) := by
      rw [e0]
      have : 2 + x.shelf.length = (V.int 83 :: V.int (x.shelf.length : Nat) :: nV x.shelf).length := by simp [lsh]; omega
      rw [this]
      show ((V.int 83 :: V.int (x.shelf.length : Nat) :: nV x.shelf) ++ _).drop _ = _
      rw [List.drop_left]
    refine ⟨⟨r, t0, _, _, _, x.shelf.length, x.a, [], x.p, _, rfl, M6.s, R6, SqT.of upd_same, dr1, hx.ha, by omega, by simp, hx.p, fun G7 H7 v7 m7 R7 hr7 => ?_⟩⟩
    have one : ∀ c ∈ [r], c ∈ ([] : List Addr) ∨ H c = none := fun c hc => by rw [List.mem_singleton.mp hc]; exact .inr nr
    have M7 : Mv [] H H G7 H7 := M6.comp m7 one
    have g7 : Same G5 G7 := (same_new (M5.freeG ht0)).trans m7.g
    obtain ⟨q7, dq7, sl7, nl7, rfl, hq7, hD7⟩ := id hr7
    obtain ⟨d7, c7, h7⟩ := R7.obj
    refine ⟨_, rfl, r, d7, _, rfl, h7, (by kernel_rfl), _, rfl, _, rfl, q7, _, dq7, _, .int x.a, rfl, M7.s _ _ hq7, T.cl_Robot, T.n_Robot_start, (by kernel_rfl), (by show 1 ≤ sizeLine; decide), fun t1 ht1 => ?_⟩
    have M8 := M7.new ht1 (.tup [.int x.a])
    have R8 := R7.new (o := .tup [.int x.a]) M7.s ht1
    have dr2 : (nV (codeB x)).drop (2 + x.shelf.length + (robB x.a x.p).length) = nV (robB x.b x.q) ++ [V.int (((bodyB x).sum % 256 : Nat) : Int)] := by
      have el : (robB x.a x.p).length = (nV (robB x.a x.p)).length := (List.length_map ..).symm
      rw [← List.drop_drop, dr1, el, List.drop_left]
    refine ⟨⟨r, t1, _, _, _, x.shelf.length, x.b, [x.a], x.q, _, rfl, M8.s, R8, SqT.of upd_same, dr2, hx.hb, by omega, by simp [hx.ne.symm], hx.q, fun G9 H9 v9 m9 R9 hr9 => ?_⟩⟩
    have M9 : Mv [] H H G9 H9 := M8.comp m9 one
    have g9 : Same G7 G9 := (same_new (M7.freeG ht1)).trans m9.g
    obtain ⟨d9, c9, h9⟩ := R9.obj
    have hcl9 : H9 cl = some (.lst (nV (codeB x))) := M9.s _ _ (g9 _ _ (g7 _ _ hcl5))
    have ebl : 2 + x.shelf.length + (robB x.a x.p).length + (robB x.b x.q).length = (bodyB x).length := by
      unfold bodyB
      simp only [List.length_cons, List.length_append]
      omega
    rw [ebl] at R9 h9
    have ecd : nV (codeB x) = nV (bodyB x) ++ [V.int (((bodyB x).sum % 256 : Nat) : Int)] := by unfold codeB; rw [nV_app]; rfl
    -- the checksum
    refine ⟨_, rfl, _, rfl, r, _, d9, _, .int (bodyB x).length, rfl, h9, T.cl_Reader, T.n_Reader_place, (by kernel_rfl), _, rfl, cl, _, rfl, SqL.of hcl9, fun p1 hp1 => ?_⟩
    have ecut : cutV (nV (codeB x)) none (some (((bodyB x).length : Nat) : Int)) = nV (bodyB x) := by
      have := cut_pre (nV (bodyB x)) [V.int (((bodyB x).sum % 256 : Nat) : Int)]
      rw [← ecd, List.length_map] at this
      exact this
    rw [ecut] at *
    have M10 := M9.lay hp1 (.lst (nV (bodyB x)))
    have R10 := R9.lay (o := .lst (nV (bodyB x))) hp1
    refine ⟨p1, _, rfl, (by rw [← nV_int]; exact SqL.of upd_same), _, _, rfl, rfl, (by show (0 : Int) < 256; decide), ?_⟩
    rw [nat_sum]
    have e9 : ((bodyB x).sum : Int) % 256 = (((bodyB x).sum % 256 : Nat) : Int) := by omega
    dsimp only
    rw [e9]
    have bl : (nV (codeB x))[(bodyB x).length]? = some (.int ((bodyB x).sum % 256 : Nat)) := by
      rw [ecd, List.getElem?_append_right (by rw [List.length_map]; exact Nat.le_refl _), List.length_map, Nat.sub_self]
      rfl
    obtain ⟨d10, c10, h10⟩ := R10.obj
    refine ⟨_, rfl, r, d10, _, rfl, h10, (by kernel_rfl), _, rfl, _, rfl, byte_go M10 (.inr nr) R10 bl (Int.le_refl _) (Int.le_refl _) fun H11 M11 _ R11 => ?_⟩
    obtain ⟨d11, c11, h11⟩ := R11.obj
    have hcl11 : H11 cl = some (.lst (nV (codeB x))) := M11.s _ _ (g9 _ _ (g7 _ _ hcl5))
    refine ⟨_, rfl, r, _, d11, _, .int ((bodyB x).length + 1 : Nat), rfl, h11, T.cl_Reader, T.n_Reader_place, (by kernel_rfl), _, rfl, cl, _, rfl, .inl (SqL.of hcl11), _, _, rfl, rfl, _, rfl, ite_f (decide_eq_false ?_) ?_⟩
    · rw [ecd, List.length_append, List.length_map]
      show ¬ _ < (((bodyB x).length + 1 : Nat) : Int)
      omega
    -- the plan
    refine ⟨_, rfl, _, rfl, _, rfl, (by show 2 ≤ sizeLine; decide), fun rl hrl => ?_⟩
    have M12 := M11.new hrl (.lst [.ref q7, v9])
    intro y dy ny nd' ne'
    refine init_go2 rfl ⟨rfl, ?_⟩
    have M13 := M12.make ny nd' ne' (.ins a.C_Plan dy (planF sh rl))
    have g12 := same_new (o := .lst [.ref q7, v9]) (M11.freeG hrl)
    have g13 := same_make (M12.freeG ny) (M12.freeG nd') ne' (.ins a.C_Plan dy (planF sh rl))
    refine ⟨⟨_, .ref y, x, rfl, M13.s, ⟨y, dy, sh, rl, _, _, rfl, upd_same, Same.seqT (((g7.trans g9).trans g12).trans g13) shG, g13.seq (SqL.of upd_same), hr7.mono ((g9.trans g12).trans g13), hr9.mono (g12.trans g13)⟩, hx, fun H14 s14 => k H14 (M13.pt.sm.trans s14)⟩⟩
end
end Sb

namespace Sb
open PySem PySem.Spec PyProof.Rows L2
/-! ### enumerate(tuple) -/
theorem meets_enumerate_new1 {v : Value} {o : Obj} {H : Heap → Prop} (B : Begins v o H) :
    Meets (Builtin.«enumerate.__new__» ⟨[.type "enumerate", v], []⟩) (fun _ R s => H s.heap ∧
      R (.ok (.ret (.ref (s.heap.push o).objs.size))) { s with heap := (s.heap.push o).push { cls := .type "enumerate", data := .fields #[.none, .bool false, .ref s.heap.objs.size, rawInt 0, .none, .none] } }) :=
  .of_wp fun prog w A R s h => by
    obtain ⟨hp, g, d, tk, os⟩ := s; obtain ⟨h1, h⟩ := h
    have hsub := sub_enumerate
    have q1 : ∀ {A' : Around} {E : Value → Shared → Prop} {Q : Value → Shared → Prop}, Q (.ref hp.objs.size) ⟨hp.push o, g, d, tk, os⟩ → wpAny (model prog w) A' (pyIter v) Q E ⟨hp, g, d, tk, os⟩ :=
      fun q => B.iter prog w _ _ ⟨hp, g, d, tk, os⟩ _ h1 q
    wp_walk using q1
    refine wpAny_stack_any fun st => wpAny_pure ?_
    split
    · rename_i c _ _ _ _ _
      cases (c == Value.type "enumerate")
      · wp_walk using q1
        exact ⟨_, rfl, h⟩
      · wp_walk using q1
        exact ⟨_, rfl, h⟩
    · wp_walk using q1
      exact ⟨_, rfl, h⟩
section
variable {prog : Program} {w : World} {A : Around} {E : Value → Shared → Prop} {s : Shared}
theorem enum_begins1 {v : Value} {o : Obj} {H : Heap → Prop} {Q : Value → Shared → Prop} (B : Begins v o H) (h1 : H s.heap)
    (h : ∀ h', IsEnum h' (s.heap.objs.size + 1) s.heap.objs.size 0 .none → h'.get? s.heap.objs.size = some o → h'.objs.size = s.heap.objs.size + 2 →
      (∀ b o, s.heap.get? b = some o → h'.get? b = some o) → Q (.ref (s.heap.objs.size + 1)) { s with heap := h' }) :
    wpAny (model prog w) A (call (.type "enumerate") [v]) Q E s := by
  refine callType_new F.called_enumerate (by decide) (F.typeCall_enumerate_1 _) (F.newCall_enumerate_1 _) (fun obj => F.args_object_init_2 obj _) F.entry_enumerate_new
    (meets_enumerate_new1 B) ⟨h1, ?_⟩
  have hz : (s.heap.push o).objs.size = s.heap.objs.size + 1 := Heap.size_push ..
  show _ ∧ _
  rw [hz]
  have he : IsEnum ((s.heap.push o).push { cls := .type "enumerate", data := .fields #[.none, .bool false, .ref s.heap.objs.size, rawInt 0, .none, .none] }) (s.heap.objs.size + 1) s.heap.objs.size 0 .none := by
    have := Heap.get?_push_size (s.heap.push o) (o := { cls := .type "enumerate", data := .fields #[.none, .bool false, .ref s.heap.objs.size, rawInt 0, .none, .none] }) rfl
    rw [hz] at this; exact this
  refine ⟨⟨_, he, rfl⟩, h _ he (Heap.get?_push_of_some _ (Heap.get?_push_size _ B.free)) (by rw [Heap.size_push, hz]) fun b o x => Heap.get?_push_of_some _ (Heap.get?_push_of_some _ x)⟩
end
def IteT (K : PySem.W.Frag) (a : Addr) : It :=
  ⟨fun i H => ∃ (xs : List V) (x : V), SqT K H a xs ∧ xs[i]? = some x, fun i H v H' => ∃ T x, v = .ref T ∧ H T = none ∧ H' = upd H T (.tup [.int (i : Nat), x]) ∧ ∀ xs, SqT K H a xs → xs[i]? = some x, fun i H => ∃ xs : List V, SqT K H a xs ∧ xs.length = i⟩
theorem turn_enumT {P : Program} {w : World} {K : PySem.W.Frag} {elts : List Expr} {kk : Nat} {tpos : Pos} (a e it : Addr) :
    Turn P w K (.Tuple elts kk tpos) (IteT K a) [e, it] e (fun i h => (∃ old, IsEnum h e it ((i : Nat) : Int) old) ∧ h.IsTupleIter it a i ∧ e ≠ it) where
  mem := by simp
  obj := fun i h st b hb => by
    obtain ⟨⟨old, he⟩, ⟨o, ho, hc, hd⟩, _⟩ := st
    have e' : b = e ∨ b = it := by simpa using hb
    rcases e' with z | z
    · rw [z]; exact ⟨_, he, fun v q => nomatch q⟩
    · rw [z]; exact ⟨o, ho, fun v q => by rw [hd] at q; cases q⟩
  keep := fun i h h' st k => let ⟨⟨old, he⟩, hi, hne⟩ := st; ⟨⟨old, k e (by simp) _ he⟩, hi.at fun o q => k it (by simp) o q, hne⟩
  item := by
    intro X hP hw hK hc i pins s σ H E I hf st hg
    subst hP hw hK
    obtain ⟨⟨old, he⟩, hit, hne⟩ := st
    obtain ⟨xs, x, hq, hx⟩ := hg
    obtain ⟨its, rv, p, hz⟩ := I.tuple hq
    obtain ⟨u, hu, ru⟩ := rv.get hx
    have hel : e < s.heap.objs.size := Heap.lt_size he
    have hil : it < s.heap.objs.size := by obtain ⟨_, q, _⟩ := id hit; exact Heap.lt_size q
    have pt : s.heap.IsTuple a its.toArray := p
    have hai : a ≠ it := fun z => by
      obtain ⟨o, q1, q2, _⟩ := id hit
      obtain ⟨o', p1, p2, _⟩ := id pt
      rw [z, q1] at p1
      cases p1
      rw [q2] at p2
      injection p2 with p2
      exact absurd p2 (by decide)
    have hea : e ≠ a := fun z => by
      obtain ⟨o', p1, p2, _⟩ := id pt
      rw [← z, he] at p1
      cases p1
      have p3 : (Value.type "enumerate") = .type "tuple" := p2
      injection p3 with p3
      exact absurd p3 (by decide)
    have hi : i < its.toArray.size := by
      have := (List.getElem?_eq_some_iff.mp hu).1
      simpa using this
    have D := Draws.tuple (prog := X.prog) (w := X.w) (A := X.A.in1) (I.ok.hd hc) it a hai its.toArray
    refine wpAny_pyNext_enum_itemD D he ⟨hit, pt⟩ hi hne (by simp [hne, hea]) fun x' h' tk hPx ho hst' hT hsz hk => ?_
    have hxu : x' = u := by
      have h1 : its.toArray[i]? = some x' := hPx
      rw [List.getElem?_toArray, hu] at h1
      exact (Option.some.inj h1).symm
    subst hxu
    obtain ⟨hit', pt'⟩ := hst'
    refine ⟨_, rfl, wpAny_letOwnedTupleGo_enum (s := { s with heap := h', toks := tk + 1 }) ho fun h'' he' sb => ?_⟩
    have hT2 : h''.get? s.heap.objs.size = some { cls := .type "tuple", data := .seq #[.int i tk, x'] } := (sb.2 _ (Nat.ne_of_gt hel)).trans hT
    have new : ObjOk X.prog X.w (upd H s.heap.objs.size (.tup [.int (i : Nat), x])) h'' s.heap.objs.size (.tup [.int (i : Nat), x]) :=
      ⟨by show 2 ≤ sizeLine; decide, [.int i tk, x'], .cons ⟨_, rfl⟩ (.cons ru .nil), ⟨_, hT2, rfl, _, rfl⟩⟩
    have I1 : Inv X pins σ (upd H s.heap.objs.size (.tup [.int (i : Nat), x])) { s with heap := h'', toks := tk + 1 } :=
      I.turnedNew (ch := [e, it]) (fun b ob hb q => (sb.2 b (fun z => hb (by simp [z]))).trans (hk b ob (fun z => hb (by simp [z])) (fun z => hb (by simp [z])) q)) hf (Nat.le_refl _) new
    refine ⟨.ref s.heap.objs.size, _, I1, rfl, ⟨_, x, rfl, I.hok.fresh (Nat.le_refl _), rfl, fun ys hy => by rw [I.tuple_inj hy hq]; exact hx⟩, ⟨⟨x', ?_⟩, hit'.at fun o q => (sb.2 it (Ne.symm hne)).trans q, hne⟩, fun b hb => ?_⟩
    · have e1 : ((i + 1 : Nat) : Int) = (i : Int) + 1 := by omega
      rw [e1]; exact he'
    · have hb' : b < s.heap.objs.size := by
        have e' : b = e ∨ b = it := by simpa using hb
        rcases e' with z | z
        · rw [z]; exact hel
        · rw [z]; exact hil
      rw [upd_ne (Nat.ne_of_lt hb')]
      exact (hf b hb).1
  done := by
    intro X hP hw hK hc i pins s σ H E I hf st hg
    subst hP hw hK
    obtain ⟨⟨old, he⟩, hit, hne⟩ := st
    obtain ⟨xs, hq, hx⟩ := hg
    obtain ⟨its, rv, p, hz⟩ := I.tuple hq
    obtain ⟨f0, f1, f2, f3, f4, f5⟩ := hf it (by simp)
    have hl := rv.length
    have pt : s.heap.IsTuple a its.toArray := p
    have hai : a ≠ it := fun z => by
      obtain ⟨o, q1, q2, _⟩ := id hit
      obtain ⟨o', p1, p2, _⟩ := id pt
      rw [z, q1] at p1
      cases p1
      rw [q2] at p2
      injection p2 with p2
      exact absurd p2 (by decide)
    have D := Draws.tuple (prog := X.prog) (w := X.w) (A := X.A.in1) (I.ok.hd hc) it a hai its.toArray
    have ei : i = its.toArray.size := by simp; omega
    refine wpAny_pyNext_enum_endD D he ⟨by rw [← ei]; exact hit, pt⟩ fun h' eb => ⟨rfl, I.turned (t' := s.toks) (fun b o hb q => eb b o hb q) f0 f1 f3 f4 f5⟩
  self := fun A i s Q E st h => let ⟨⟨_, he⟩, _⟩ := st; wpAny_pyIter_enum he h
def iEnumT (K : PySem.W.Frag) (ta : TA) : TI := fun σ H R => ta σ H fun vs H1 => ∃ a xs, vs = [.ref a] ∧ SqT K H1 a xs ∧ R (IteT K a) H1
theorem pi_enumT {X : Cx} {e : Expr} {ta : TA} {p pos tpos : Pos} {elts : List Expr} {kk : Nat} (hg : Gl X "enumerate") (hm : X.mg "enumerate" = none) (ha : PA X [e] ta) (hs : starEach [e] X.env = [(false, eval e X.env)] := by rfl) :
    PI X (.Tuple elts kk tpos) (.Call (.Name "enumerate" p) [e] [] pos) (iEnumT X.K ta) := by
  refine ⟨fun pins s σ H R I h => ?_⟩
  refine Call_ (ld_blt I hg hm boot_enumerate (PyProof.Rows.callWith_type1 (thn (ha.run pos pins s σ H _ I h) fun us s1 ⟨vs, H1, I1, r1, q1⟩ => ?_) hs rfl))
  obtain ⟨a, xs, ex, hq, q⟩ := q1
  subst ex
  cases r1 with
  | cons r rr =>
    cases rr
    cases r
    obtain ⟨its, rv, p', hz⟩ := I1.tuple hq
    refine enum_begins1 (begins_tuple a its.toArray) p' fun h' he hit hsz hk => wpAny_pyIter_enum he ?_
    have I2 : Inv X pins σ H1 { s1 with heap := h' } := I1.kept (t' := s1.toks) hk
    refine ⟨s1.heap.objs.size + 1, [s1.heap.objs.size + 1, s1.heap.objs.size], _, _, H1, rfl, I2, turn_enumT a (s1.heap.objs.size + 1) s1.heap.objs.size, ⟨⟨.none, he⟩, ⟨_, hit, rfl, rfl⟩, Nat.succ_ne_self _⟩, fun b hb => ?_, q⟩
    have e' : b = s1.heap.objs.size + 1 ∨ b = s1.heap.objs.size := by simpa using hb
    have hle : s1.heap.objs.size ≤ b := by
      rcases e' with z | z
      · rw [z]; exact Nat.le_add_right _ _
      · rw [z]; exact Nat.le_refl _
    exact I1.fpOk hle (I1.hok.fresh hle)
/-- a comprehension over enumerate(tuple) -/
theorem lc_enumT {K : PySem.W.Frag} {a : Addr} {xs : List V} {g : TG} {tt : TT} {te : TE} {vs : List Nat} {σ : L2.St} {H1 : Hp} {D : Addr} {Qd : Hp → Prop} (Pv : Nat → Hp → Prop) (h0 : Pv 0 (upd H1 D (.lst []))) (hl : ∀ i H, i ≤ xs.length → Pv i H → SqT K H a xs)
    (hs : ∀ i x H T, xs[i]? = some x → Pv i H → H T = none → g (.ref T) (wipe σ vs) (upd H T (.tup [.int (i : Nat), x])) fun σ2 H2 => wipe σ2 vs = wipe σ vs ∧ tt σ2 H2 fun b H3 =>
      if b = true then te σ2 H3 fun y H4 => ∃ acc, H4 D = some (.lst acc) ∧ acc.length < sizeLine ∧ Pv (i + 1) (upd H4 D (.lst (acc ++ [y]))) else Pv (i + 1) H3) (hd : ∀ H, Pv xs.length H → Qd H) :
    ∃ W : Nat → Nat → Hp → Prop, (∃ m, W 0 m (upd H1 D (.lst []))) ∧ ∀ i m H, W i m H →
      ((IteT K a).stop i H ∧ Qd H) ∨ ((IteT K a).go i H ∧ ∃ Nx : Hp → Prop, (∀ H', Nx H' → ∃ m', m' < m ∧ W (i + 1) m' H') ∧ ∀ x H', (IteT K a).yld i H x H' → g x (wipe σ vs) H' fun σ2 H2 => wipe σ2 vs = wipe σ vs ∧ tt σ2 H2 fun b H3 =>
        if b = true then te σ2 H3 fun y H4 => ∃ acc, H4 D = some (.lst acc) ∧ acc.length < sizeLine ∧ Nx (upd H4 D (.lst (acc ++ [y]))) else Nx H3) := by
  refine ⟨fun i m H => m = xs.length - i ∧ i ≤ xs.length ∧ Pv i H, ⟨xs.length, by simp, Nat.zero_le _, h0⟩, ?_⟩
  rintro i m H ⟨rfl, hi, p⟩
  have q := hl i H hi p
  by_cases hlt : i < xs.length
  · refine .inr ⟨⟨xs, xs[i], q, by simp [hlt]⟩, Pv (i + 1), fun H' p' => ⟨xs.length - (i + 1), by omega, rfl, hlt, p'⟩, fun x H' y => ?_⟩
    obtain ⟨T, z, rfl, hT, rfl, y⟩ := y
    exact hs i z H T (y xs q) p hT
  · have e : i = xs.length := by omega
    subst e
    exact .inl ⟨⟨xs, q, rfl⟩, hd H p⟩
end Sb

/-! a list and a list, wherever they stand -/
namespace Sb
open PySem PySem.Spec PyProof.Rows L2
section
variable {X : Cx}
def rCatS (K : PySem.W.Frag) : R2 := fun x y H Q => ∃ l b xs zs, x = .ref l ∧ y = .ref b ∧ SqL K H l xs ∧ SqL K H b zs ∧ xs.length + zs.length ≤ sizeLine ∧ ∀ p, H p = none → Q (.ref p) (upd H p (.lst (xs ++ zs)))
theorem op_catS : OpR X (binaryOp .Add) (rCatS X.K) := by
  intro pins s σ H x y v u Q I rx ry h
  obtain ⟨l, b, xs, zs, rfl, rfl, hH, hB, hz, q⟩ := h
  cases rx
  cases ry
  obtain ⟨its, r, ⟨⟨cls, dd, data, sl⟩, n, ho, hc, hdn, hd⟩, hl⟩ := I.list hH
  obtain ⟨its2, r2, ⟨⟨cls2, dd2, data2, sl2⟩, n2, ho2, hc2, hdn2, hd2⟩, hl2⟩ := I.list hB
  simp only at hc hd hc2 hd2
  subst hc hd hc2 hd2
  have e1 := r.length
  have e2 := r2.length
  refine concat_meets ⟨_, ho, rfl⟩ ⟨_, ho2, rfl⟩ noFill_list_add seq_list_add PySem.F.slot_list_add PySem.F.entry_list_add (PySem.F.args_list_add_2 _ _) (list_addW l b its.toArray its2.toArray n n2 dd dd2 sl sl2 (by simp only [List.size_toArray]; omega)) ⟨ho, ho2, ?_⟩
  have ea : its.toArray ++ its2.toArray = (its ++ its2).toArray := by simp
  rw [ea]
  exact ⟨.ref _, _, I.lnew (t' := s.toks) (r.append r2) (by rw [List.length_append]; omega), rfl, q _ I.fresh⟩
end
end Sb

namespace Sb
open PySem PySem.Spec PyProof.Rows L2
/-! ### xs.count(x), all flat -/
theorem cnt_eqU {x : V} : ∀ {xs : List V} {us : List Value}, Vals xs us → xs.all flatV = true → us.countP (eqU x) = xs.countP fun y => eqV y x
  | _, _, .nil, _ => rfl
  | y :: xs, u :: us, .cons r rs, f => by
    rw [List.all_cons, Bool.and_eq_true] at f
    rw [List.countP_cons, List.countP_cons, cnt_eqU rs f.2, eqU_of r f.1]
section
variable {X : Cx}
def rCntF (K : PySem.W.Frag) : V → List V → Hp → VK → Prop := fun x xs H Q => ∃ (p : Addr) (ys : List V) (y : V), x = .ref p ∧ xs = [y] ∧ SqL K H p ys ∧ flatV y = true ∧ ys.all flatV = true ∧ Q (.int ((ys.countP fun z => eqV z y) : Nat)) H
theorem mt_lcountF : MtR X "list.count" (rCntF X.K) := by
  intro pins s σ H x xs v us Q I rx rxs h
  obtain ⟨p, ys, y, rfl, rfl, hs, fy, fys, q⟩ := h
  cases rx
  obtain ⟨u, rfl, ru⟩ := rxs.one
  obtain ⟨its, rv, ⟨⟨cls, dd, data, sl⟩, n, ho, hc, hdn, hd⟩, hlen⟩ := I.list hs
  simp only at hc hd
  subst hc hd
  refine call_meets PySem.F.slot_list_count ⟨_, ho, rfl⟩ PySem.F.entry_list_count (PySem.F.args_list_count_2 _ _)
    (SeqAt.list_countAt p its.toArray n dd sl u (eqU y)) ⟨ho, fun z hz => mem_eqAt ru fy rv fys z (by simpa using hz), ?_⟩
  have ec : its.toArray.toList.countP (eqU y) = ys.countP fun z => eqV z y := cnt_eqU rv fys
  refine ⟨.int ((ys.countP fun z => eqV z y) : Nat), H, I.tok _, ⟨s.toks, ?_⟩, q⟩
  show Value.int ((its.toArray.toList.countP (eqU y) : Nat) : Int) s.toks = Value.int (((ys.countP fun z => eqV z y) : Nat) : Int) s.toks
  rw [ec]
end
end Sb

namespace Sb
open PySem PySem.Spec PyProof.Rows L2
/-! ### an except suite that does not know the class of its error: the reading tells it -/
section
variable {X : Cx} {a : Addr} {oe : Obj} {cls : Value} {d : Option Addr} {pn : List (Addr × Obj)}
def rIsX (K : PySem.W.Frag) (a : Addr) (cls : Value) (d : Option Addr) : List V → Hp → VK → Prop := fun xs H Q => ∃ (D : Addr) (c : V) (cv : Value) (b : Bool), cls = .ref D ∧ d = none ∧ ExcC K D ∧ xs = [.ref a, c] ∧ (∀ u, RelV c u → u = cv) ∧ PySem.W.kitOne K (.ref D) cv = some b ∧ Q (.bl b) H
theorem call_isX (hz : Zc cls d oe) (hf : ∃ vs, oe.data = .fields vs) : CallR (X.suite a ((a, oe) :: pn)) (.builtin "isinstance") (rIsX X.K a cls d) := by
  intro pins s σ H xs us Q I r h
  obtain ⟨D, c, cv, b, ec, ed, C, h⟩ := h
  subst ec ed
  exact call_isE C hz hf pins s σ H xs us Q I r ⟨c, cv, b, h⟩
def tXfG (K : PySem.W.Frag) (a : Addr) (cls : Value) (d : Option Addr) (f : Str) (te : TE) : TE := fun σ H Q => te σ H fun x H1 => x = .ref a ∧ ∃ (C : Addr), cls = .ref C ∧ XfC K C ∧ PySem.W.findIn K (.ref C) f = some none ∧ ∃ (dd : Addr) (fs : List (Str × V)) (v : V), d = some dd ∧ H1 dd = some (.xd fs) ∧ fs.lookup f = some v ∧ Q v H1
theorem pe_xfG {e : Expr} {te : TE} {pos : Pos} {n : Str} (hz : Zc cls d oe) (hf : ∃ vs, oe.data = .fields vs) (he : PE (X.suite a ((a, oe) :: pn)) e te) (hb : attributeBase e n X.env (eval e X.env) = eval e X.env := by rfl) :
    PE (X.suite a ((a, oe) :: pn)) (.Attribute e n pos) (tXfG X.K a cls d n te) := by
  refine ⟨fun pins s σ H Q I h => ?_⟩
  refine attr_of hb (thn (he.run pins s σ H _ I h) fun u s1 hh => ?_)
  obtain ⟨x, H1, I1, rx, ex, C, ec, T, hno, dd, fs, v, ed, ea, l, q⟩ := hh
  subst ex
  obtain rfl : u = Value.ref a := rx
  subst ec
  subst ed
  obtain ⟨ha, _⟩ := I1.pin (a, oe) (List.mem_append_left _ List.mem_cons_self)
  obtain ⟨vs, hd⟩ := hf
  have hx : ObjOk X.prog X.w H1 s1.heap dd (.xd fs) := I1.hok dd _ ea
  obtain ⟨mA, hns, hr⟩ := hx
  obtain ⟨od, ho, hl⟩ := lookIn_ns hns
  obtain ⟨u, hu, ru⟩ := RelO.some_of (v := v) (o := mA n) (by rw [← l]; exact hr n)
  have J : PySem.W.InstAt s1.heap a oe C (some od) := ⟨ha, hz.1, by unfold PySem.W.notCls; rw [hd] <;> rfl, by rw [hz.2]; exact ho⟩
  exact HandSPX.exc_get I1.kIn J T.ga T.gg T.exC (PySem.W.findObj_own T.hdC hno rfl (by rw [hl, hu])) (handed_of ru) ⟨v, H1, I1.tok _, ru, q⟩
/-! ### rules whose reading names the frozen part: in a suite it is the def's own -/
abbrev Su (X : Cx) (a : Addr) (oe : Obj) (pn : List (Addr × Obj)) : Cx := X.suite a ((a, oe) :: pn)
theorem op_in_seqS (X : Cx) (a : Addr) (oe : Obj) (pn : List (Addr × Obj)) : OpR (Su X a oe pn) (compareOp .In) (rIn X.K false) := op_in_seq (X := Su X a oe pn)
theorem ix_listS (X : Cx) (a : Addr) (oe : Obj) (pn : List (Addr × Obj)) : IxR (Su X a oe pn) (rIxL X.K) := ix_list (X := Su X a oe pn)
theorem mt_lcountFS (X : Cx) (a : Addr) (oe : Obj) (pn : List (Addr × Obj)) : MtR (Su X a oe pn) "list.count" (rCntF X.K) := mt_lcountF (X := Su X a oe pn)
theorem mt_indexS (X : Cx) (a : Addr) (oe : Obj) (pn : List (Addr × Obj)) : MtR (Su X a oe pn) "list.index" (rIndex X.K) := mt_index (X := Su X a oe pn)
theorem pe_bmS (X : Cx) (a : Addr) (oe : Obj) (pn : List (Addr × Obj)) {o e : Expr} {es : List Expr} {to : TE} {t : TA} {name : Str} {apos cpos : Pos} {T id : String} {r : V → List V → Hp → VK → Prop} (pa : PlainAttrs T) (slot : Slot T name id) (hty : typeOf (.builtin id) = pure (.type "method_descriptor")) (hm : MtR (Su X a oe pn) id r) (ho : PE (Su X a oe pn) o to) (ha : PA (Su X a oe pn) (e :: es) t)
    (hbase : attributeBase o name X.env (eval o X.env) = eval o X.env := by rfl)
    (hfew : ((backTo cpos (starEach (e :: es) X.env)).all (fun x => !x.1) && (backToKw cpos (keywordEach [] X.env)).all (fun x => x.1.isSome) && decide ((e :: es).length + ([] : List Keyword).length + (if ([] : List Keyword).isEmpty then 0 else 1) < 30)) = true := by rfl)
    (hline : (apos.endLine == cpos.line) = true := by rfl) (hs : starEach (e :: es) X.env = (false, eval e X.env) :: starEach es X.env := by rfl) (hplain : (backTo cpos (starEach es X.env)).any (·.1) = false := by rfl) :
    PE (Su X a oe pn) (.Call (.Attribute o name apos) (e :: es) [] cpos) (tBM X.K T r to t) := pe_bm (X := Su X a oe pn) pa slot hty hm ho ha hbase hfew hline hs hplain
end
end Sb

namespace Sb
open PySem PySem.Spec PyProof.Rows L2 LamX
/-! ### x(lambda: body), where x's except clause reads x's own slots: the wish is asked at the slots as they stand -/
section
variable {X : Cx} {pins : List (Addr × Obj)} {σ : L2.St} {H HZ : Hp} {s s1 : Shared}
theorem pe_actS {CXg : CXT} {Eg : XK} {Ng : List Str} {qg : Str} {sg : Scope} {g f c' : Addr} {cdg pm ctv : Value} {params : Arguments} {body : Expr} {scope : Scope} {k i : Nat} {a : Str} {pn : List (Addr × Obj)} {xe : Value → Shared → Prop} {W : WX} {E : XK} {tb : TE} {p1 p2 : Pos}
    (I : Inv X pins σ H s) (L : LamS X.env.scope scope) (hf : s.heap.get? f = some (PySem.W.kla_obj "<lambda>" (X.env.qual ++ "<lambda>") params body scope (cloFrom X.env.cells scope.names []) pm c' ctv)) (hfn : H f = none) (hfr : f ∉ frs X.stack)
    (hbind : bindArgs (PySem.W.kla_fn "<lambda>" (X.env.qual ++ "<lambda>") params body scope (cloFrom X.env.cells scope.names []) pm (.ref c') ctv) ⟨[], []⟩ = pure [])
    (tk : Takes ((cxOf CXg X.prog X.w X.K X.mg X.base Ng qg sg g cdg X.A X.stack s H Eg).tr pn xe) W) (hr : Room (k + 1) (X.A.deeper (envOfC qg sg s.heap.objs.size g cdg)))
    (hbody : ∀ (A : Around) (outer : List Env) (s : Shared) (H : Hp), Room k (A.deeper (lamEnv X scope s.heap.objs.size f c')) → PE (lamCx X A outer s H E scope f c') body tb)
    (hN : Ng[i]? = some a) (hv : Vis sg a) (hd : (a == ("__debug__" : Str)) = false := by decide) (hcd : (a == ("__classdict__" : Str)) = false := by decide) :
    PE ((cxOf CXg X.prog X.w X.K X.mg X.base Ng qg sg g cdg X.A X.stack s H Eg).tr pn xe) (.Call (.Name a p1) [] [] p2)
      (fun σZ HZ Q => σZ[i]? = some (some (.ref f)) ∧ HZ c' = some (CodeO c' (X.env.qual ++ "<lambda>")) ∧ (∀ cls d H', E cls d H' → W cls d σZ H') ∧ tb σ HZ Q) := by
  refine ⟨fun pinsZ sZ σZ HZ Q IZ hh => ?_⟩
  obtain ⟨hs, hc, hW, ht⟩ := hh
  refine wpAny_Call_Name_kw (thn ((pe_var (pos := p1) (i := i) hN hv hd hcd).run pinsZ sZ σZ HZ (fun v H1 => v = .ref f ∧ H1 = HZ) IZ ⟨.ref f, hs, rfl, rfl⟩) fun u s1 ⟨v, H1, I1, r1, ev, eH⟩ => ?_)
  subst ev
  rw [eH] at I1
  obtain rfl : u = Value.ref f := r1
  have ofn : s1.heap.get? f = some (PySem.W.kla_obj "<lambda>" (X.env.qual ++ "<lambda>") params body scope (cloFrom X.env.cells scope.names []) pm c' ctv) := I1.base.keep f _ hf hfn hfr (fun z => nomatch (show f ∈ ([] : List Addr) from z))
  refine PySem.W.callWith_F0 ⟨_, _, _, _, ofn⟩ ?_
  have un : Un (frs X.stack) [] H HZ s.heap s1.heap := I1.base
  obtain ⟨⟨oc, vs, t, hoc, hdc, hvc⟩, _, _⟩ := I1.hok c' _ hc
  have rc : codeAny (model X.prog X.w) (X.A.deeper (envOfC qg sg s.heap.objs.size g cdg)) (.call (.ref f) ⟨[], []⟩) (CR (L2.CX X.prog X.w) (envOfC qg sg s.heap.objs.size g cdg :: X.stack) X.prog X.w HZ s1 Q E) s1 := by
    refine PySem.W.kla_callFunE hr.depth ofn rfl L.co L.gen rfl ⟨c', oc, vs, t, rfl, hoc, hdc, hvc⟩ ?_
    rw [hbind]
    refine wpAny_pure (wpAny_newFunctionEnv (fun y hy => (L.own y hy).2) (fun y hy => absurd hy (by simp)) (fun h₁ hns hsb => ⟨I1.nolimit.fresh _ hsb, ?_⟩) L.kind)
    show codeAny _ _ (.expr body (lamEnv X scope s1.heap.objs.size f c')) _ _
    have kp : ∀ b o, s1.heap.get? b = some o → h₁.get? b = some o := fun b o e => hsb.extBut b o (Nat.ne_of_lt (Heap.lt_size e)) (Heap.get?_push_of_some _ e)
    have J : Inv (lamCx X (X.A.deeper (envOfC qg sg s.heap.objs.size g cdg)) (envOfC qg sg s.heap.objs.size g cdg :: X.stack) s1 HZ E scope f c') [] σ HZ { s1 with heap := h₁, toks := s1.toks + ([] : List (Str × Value)).length } :=
      lam_start2 I L I1.env0 hr.hd un hns kp
    refine PySem.W.kla_codeExpr (wpAny_mono ((hbody _ _ s1 HZ (hr.deeper _)).run [] _ _ HZ Q J ht) (fun v s' ⟨w', H', J', rv, q⟩ => ?_) fun e s' hq => hq)
    exact ⟨w', H', J'.os, J'.bare, J'.base, J'.hok, rv, q⟩
  refine wpAny_call (codeAny_mono rc fun r s' hq => ?_)
  cases r with
  | error e => exact tk e s' (XE.of_call I1 (fun cls d H' z => hW cls d H' z) hq)
  | ok fl =>
    cases fl with
    | ret u => exact I1.after hq
    | next => exact False.elim hq
    | brk => exact False.elim hq
    | cont => exact False.elim hq
end
def GivesS (X : Cx) (Ng : List Str) (x : Str) (sg : Scope) (g : Addr) (cdg : Value) (bg : List Stmt) (a : Str) (q : Str) (TT : (XK → Hp → VK → Prop) → Hp → VK → Prop) : Prop :=
  ∀ (f c' : Addr) (s : Shared) (H : Hp) (Q : VK) (tl : XK → Hp → VK → Prop),
    (∀ (W : WX) (pn : List (Addr × Obj)) (xe : Value → Shared → Prop) (E : XK) (p1 p2 : Pos), Takes ((cxOf C8.CX0 X.prog X.w X.K X.mg X.base Ng x sg g cdg X.A X.stack s H C8.E0).tr pn xe) W →
      PE ((cxOf C8.CX0 X.prog X.w X.K X.mg X.base Ng x sg g cdg X.A X.stack s H C8.E0).tr pn xe) (.Call (.Name a p1) [] [] p2) (fun σZ HZ Q => σZ[0]? = some (some (.ref f)) ∧ HZ c' = some (CodeO c' q) ∧ (∀ cls d H', E cls d H' → W cls d σZ H') ∧ tl E HZ Q)) →
    H c' = some (CodeO c' q) → TT tl H Q →
    ∃ t, PSs (cxOf C8.CX0 X.prog X.w X.K X.mg X.base Ng x sg g cdg X.A X.stack s H C8.E0).nox bg t ∧ t { nx := fun _ H' => Q .non H', rt := Q } (L2.start Ng [.ref f]) H
section
variable {X : Cx}
theorem pe_lamS {T : List (Addr × Str)} {TT : (XK → Hp → VK → Prop) → Hp → VK → Prop} {x a : Str} {g c P : Addr} {k : Nat} {pg : Arguments} {bg : List Stmt} {sg : Scope} {dV kV doc pm cdv ct oc : Value} {an od : Option Addr} {osl : Array (Option Value)} {Ng : List Str}
    {params : Arguments} {body : Expr} {scope : Scope} {t : XK → TE} {p lpos pos : Pos} (hg : Gl X x) (hm : X.mg x = some (.ref g)) (hk : PySem.W.keepIn X.K (.ref g) = true)
    (lk : X.K.lookup g = some ⟨oc, od, .func (PySem.W.fnOf x x pg bg sg dV kV doc pm an cdv ct), osl⟩) (hcg : PySem.W.codeIn X.K cdv x = true) (hb : L2.Binds X.K (PySem.W.fnOf x x pg bg sg dV kV doc pm an cdv ct) [a] []) (Sg : FnScope Ng [a] sg) (hNg : Ng[0]? = some a) (hva : Vis sg a)
    (hG : GivesS X Ng x sg g cdv bg a (X.env.qual ++ "<lambda>") TT)
    (TB : TabB X.base X.mg c P) (hcode : X.env.code = .ref c) (hmT : (P, X.env.qual ++ "<lambda>") ∈ T) (hu : ∀ p ∈ T, p.1 = P → p.2 = X.env.qual ++ "<lambda>") (hr : Room (k + 2) X.A) (L : LamS X.env.scope scope) (hdef : defaultsOf params X.env = ([], []))
    (hbind : ∀ (q : Str) (cl : List (Str × Addr)) (pm cv ctv : Value), bindArgs (PySem.W.kla_fn "<lambda>" q params body scope cl pm cv ctv) ⟨[], []⟩ = pure [])
    (hbody : ∀ (A : Around) (outer : List Env) (s : Shared) (H : Hp) (E : XK) (f c' : Addr), Room k (A.deeper (lamEnv X scope s.heap.objs.size f c')) → PE (lamCx X A outer s H E scope f c') body (t E))
    (hdb : (x == ("__debug__" : Str)) = false := by decide) (hd : (a == ("__debug__" : Str)) = false := by decide) (hcd : (a == ("__classdict__" : Str)) = false := by decide) :
    PE X (.Call (.Name x p) [.Lambda params body scope lpos] [] pos) (tLam T TT t) := by
  refine ⟨fun pins s σ H Q I ⟨hT, h⟩ => ?_⟩
  refine wpAny_Call_Name_kw (ld_glob I hg hm ?_ hdb)
  refine PySem.W.callWith_K (h₀ := X.base) I.ok.mod.kin hk ?_ (by rfl) (by rfl)
  show wpAny _ _ (spliced ((false, eval (.Lambda params body scope lpos) X.env) :: backTo pos (starEach [] X.env))) _ _ s
  refine Calls.spliced_cons (lam_make2 I TB hcode hmT hu hT hdef (L.has I.ok) fun f c' pm' ctv H1 s' I1 eN T1 hf hfn hfr hco => ?_)
  refine Calls.spliced_nil ⟨I1.kIn, ?_⟩
  have rc : codeAny (model X.prog X.w) X.A (.call (.ref g) ⟨[.ref f], []⟩) (CR C8.CX0 X.stack X.prog X.w H1 s' Q C8.E0) s' := by
    refine run_ofS (N := Ng) (ps := [a]) (us := [.ref f]) (vs := [.ref f]) lk hcg Sg hr I1.env0 (hb s' [.ref f] I1.kIn rfl) (.cons rfl .nil) rfl fun hr' => ?_
    obtain ⟨t', ht', hq'⟩ := hG f c' s' H1 Q (fun E H' Q' => t E σ H' Q') (fun W pn xe E p1 p2 tk => pe_actS (i := 0) I1 L hf hfn hfr (hbind _ _ _ _ _) tk hr' (fun A outer s H hr2 => hbody A outer s H E f c' hr2) hNg hva hd hcd) hco (h H1 eN T1)
    exact ⟨t', ht'.nox, hq'⟩
  refine wpAny_call (codeAny_mono rc fun r s2 hq => ?_)
  cases r with
  | error e => exact (show False from hq).elim
  | ok fl =>
    cases fl with
    | ret u => exact I1.after hq
    | next => exact False.elim hq
    | brk => exact False.elim hq
    | cont => exact False.elim hq
end
end Sb

namespace Sb
open PySem PySem.Spec PyProof.Rows L2 LamX
/-! ### an error that leaves a lambda's body -/
theorem takes_lam {X : Cx} {A : Around} {outer : List Env} {s : Shared} {H : Hp} {E : XK} {scope : Scope} {f c' : Addr} : Takes (lamCx X A outer s H E scope f c') (fun cls d _ H' => E cls d H') :=
  takes_of rfl rfl rfl rfl
theorem pass_lam {X : Cx} {A : Around} {outer : List Env} {s : Shared} {H : Hp} {E : XK} {scope : Scope} {f c' : Addr} : Passes (L2.CX X.prog X.w) (lamCx X A outer s H E scope f c') E :=
  passes_call takes_lam (fun _ _ _ _ h => h)
end Sb

namespace Sb
open PySem PySem.Spec PyProof.Rows L2 LamX NdefX
/-! ### x(lambda: body): all that stood stands, but for the one table -/
abbrev lamO (q : Str) (params : Arguments) (body : Expr) (scope : Scope) (cl : List (Str × Addr)) (pm : Value) (c' : Addr) (tv : Value) : Obj := PySem.W.kla_obj "<lambda>" q params body scope cl pm c' tv
section
variable {X : Cx} {pins : List (Addr × Obj)} {σ : L2.St} {H : Hp} {s : Shared}
theorem lam_make4 {T : List (Addr × Str)} {c tb : Addr} {params : Arguments} {body : Expr} {scope : Scope} {pos : Pos} {E Q : Value → Shared → Prop} (I : Inv X pins σ H s) (B : TabB X.base X.mg c tb) (code : X.env.code = .ref c)
    (hm : (tb, X.env.qual ++ "<lambda>") ∈ T) (hu : ∀ p ∈ T, p.1 = tb → p.2 = X.env.qual ++ "<lambda>") (hT : Tabs T H) (dflt : defaultsOf params X.env = ([], [])) (fre : ∀ y ∈ scope.names, y.2 = .free → ∃ c, X.env.cells.lookup y.1 = some c)
    (k : ∀ (f c' : Addr) (pm tv : Value) (H1 : Hp) (s1 : Shared), Inv X pins σ H1 s1 → (∀ b o, b ≠ tb → H b = some o → H1 b = some o) → (∀ b, H1 b = none → H b = none) → Tabs T H1 →
      s1.heap.get? f = some (lamO (X.env.qual ++ "<lambda>") params body scope (cloFrom X.env.cells scope.names []) pm c' tv) → H1 f = none → f ∉ frs X.stack → H1 c' = some (CodeO c' (X.env.qual ++ "<lambda>")) → Q (.ref f) s1) :
    wpAny (model X.prog X.w) X.A (eval (.Lambda params body scope pos) X.env) Q E s := by
  obtain ⟨ps, atP, tri, among⟩ := hT _ hm
  have getP : s.heap.get? tb = some { cls := .none, data := .fields ps } := I.hok tb _ atP
  have off : ∀ f, s.heap.objs.size ≤ f → f ∉ frs X.stack := fun f hf z => by
    rcases List.mem_cons.mp (I.stkSub _ z) with rfl | z'
    · exact absurd I.lt (Nat.not_lt.mpr hf)
    · exact I.nofs hf z'
  have bk' := B.bm.keeps I.bk
  refine PySem.W.kla_eval dflt ?_
  cases hc : codeAmong pos ps.toList with
  | some cv =>
    obtain ⟨c', rfl, hco⟩ := among pos cv hc
    refine PySem.W.kla_makeFunctionHit (mg := X.mg) (c := c) (P := tb) (ps := ps) (closure_ok fre) I.ok.glob (I.mod.glob.keeps I.bk) code (B.code.keeps I.bk) getP tri hc bk' fun tv h2 tk hx hsz => ?_
    have J : Inv X pins σ H { s with heap := h2.push (lamO (X.env.qual ++ "<lambda>") params body scope (cloFrom X.env.cells scope.names []) ((X.mg "__name__").getD .none) c' tv), toks := tk } := I.kept fun b o e => Heap.get?_push_of_some _ (hx b o e)
    exact k h2.objs.size c' _ tv H _ J (fun b o _ e => e) (fun b e => e) hT (Heap.get?_push_size _ rfl) (I.hok.fresh hsz) (off _ hsz) hco
  | none =>
    refine PySem.W.kla_makeFunction (mg := X.mg) (c := c) (P := tb) (ps := ps) (closure_ok fre) I.ok.glob (I.mod.glob.keeps I.bk) code (B.code.keeps I.bk) getP tri hc B.gP bk' fun c' tv h2 tk hx hge hlt hrec htb => ?_
    obtain ⟨c9, oc, vs, t, e9, hoc, hd, hv⟩ := hrec
    cases e9
    have hsz : s.heap.objs.size ≤ h2.objs.size := Nat.le_trans hge (Nat.le_of_lt hlt)
    have freshC : H c' = none := I.hok.fresh hge
    have J := inv_table (t' := tk) (more := #[rawInt pos.line, rawInt pos.col, .ref c']) (h' := h2.push (lamO (X.env.qual ++ "<lambda>") params body scope (cloFrom X.env.cells scope.names []) ((X.mg "__name__").getD .none) c' tv)) I atP
      (fun b o hb e => Heap.get?_push_of_some _ (hx b o hb e)) (Heap.get?_push_of_some _ htb) hge ⟨oc, vs, t, Heap.get?_push_of_some _ hoc, hd, hv⟩
    have stay : ∀ b o, b ≠ tb → H b = some o → (upd (upd H tb (.tbl (ps ++ #[rawInt pos.line, rawInt pos.col, .ref c']))) c' (CodeO c' (X.env.qual ++ "<lambda>"))) b = some o := fun b o n e => by
      rw [upd_ne (ne_of_none e freshC), upd_ne n]
      exact e
    have cds : ∀ b q, H b = some (CodeO b q) → (upd (upd H tb (.tbl (ps ++ #[rawInt pos.line, rawInt pos.col, .ref c']))) c' (CodeO c' (X.env.qual ++ "<lambda>"))) b = some (CodeO b q) := fun b q e => stay _ _ (fun z => by rw [z, atP] at e; unfold CodeO at e; cases e) e
    have asL : (ps ++ #[rawInt pos.line, rawInt pos.col, .ref c']).toList = ps.toList ++ [rawInt pos.line, rawInt pos.col, .ref c'] := by simp
    have T1 : Tabs T (upd (upd H tb (.tbl (ps ++ #[rawInt pos.line, rawInt pos.col, .ref c']))) c' (CodeO c' (X.env.qual ++ "<lambda>"))) := fun p hp => by
      by_cases hb : p.1 = tb
      · rw [hu p hp hb, hb]
        refine ⟨ps ++ #[rawInt pos.line, rawInt pos.col, .ref c'], by rw [upd_ne (ne_of_none atP freshC), upd_same], by rw [asL]; exact PySem.TriplesOk_snoc _ _ _ _ tri, fun p' cv hcv => ?_⟩
        rw [asL] at hcv
        rcases among_app _ tri hcv with old | new
        · obtain ⟨c0, e1, e2⟩ := among p' cv old
          exact ⟨c0, e1, cds _ _ e2⟩
        · exact ⟨_, new, upd_same⟩
      · obtain ⟨qs, a1, a2, a3⟩ := hT p hp
        refine ⟨qs, stay _ _ hb a1, a2, fun p' cv hcv => ?_⟩
        obtain ⟨c0, e1, e2⟩ := a3 p' cv hcv
        exact ⟨c0, e1, cds _ _ e2⟩
    refine k h2.objs.size c' _ tv _ _ J stay (fun b e => upd_none (upd_none e)) T1 (Heap.get?_push_size _ rfl) ?_ (off _ hsz) upd_same
    rw [upd_ne (Nat.ne_of_gt hlt), upd_ne (Nat.ne_of_gt (Nat.lt_of_lt_of_le (Heap.lt_size getP) hsz))]
    exact I.hok.fresh hsz
end
def tLamP (T : List (Addr × Str)) (tb : Addr) (TT : (XK → Hp → VK → Prop) → Hp → VK → Prop) (t : XK → TE) : TE := fun σ H Q => Tabs T H ∧ ∀ H1, (∀ b o, b ≠ tb → H b = some o → H1 b = some o) → (∀ b, H1 b = none → H b = none) → Tabs T H1 → TT (fun E H' Q' => t E σ H' Q') H1 Q
section
variable {X : Cx}
theorem pe_lamP {T : List (Addr × Str)} {TT : (XK → Hp → VK → Prop) → Hp → VK → Prop} {x a : Str} {g c P : Addr} {k : Nat} {pg : Arguments} {bg : List Stmt} {sg : Scope} {dV kV doc pm cdv ct oc : Value} {an od : Option Addr} {osl : Array (Option Value)} {Ng : List Str}
    {params : Arguments} {body : Expr} {scope : Scope} {t : XK → TE} {p lpos pos : Pos} (hg : Gl X x) (hm : X.mg x = some (.ref g)) (hk : PySem.W.keepIn X.K (.ref g) = true)
    (lk : X.K.lookup g = some ⟨oc, od, .func (PySem.W.fnOf x x pg bg sg dV kV doc pm an cdv ct), osl⟩) (hcg : PySem.W.codeIn X.K cdv x = true) (hb : L2.Binds X.K (PySem.W.fnOf x x pg bg sg dV kV doc pm an cdv ct) [a] []) (Sg : FnScope Ng [a] sg) (hNg : Ng[0]? = some a) (hva : Vis sg a)
    (hG : GivesS X Ng x sg g cdv bg a (X.env.qual ++ "<lambda>") TT)
    (TB : TabB X.base X.mg c P) (hcode : X.env.code = .ref c) (hmT : (P, X.env.qual ++ "<lambda>") ∈ T) (hu : ∀ p ∈ T, p.1 = P → p.2 = X.env.qual ++ "<lambda>") (hr : Room (k + 2) X.A) (L : LamS X.env.scope scope) (hdef : defaultsOf params X.env = ([], []))
    (hbind : ∀ (q : Str) (cl : List (Str × Addr)) (pm cv ctv : Value), bindArgs (PySem.W.kla_fn "<lambda>" q params body scope cl pm cv ctv) ⟨[], []⟩ = pure [])
    (hbody : ∀ (A : Around) (outer : List Env) (s : Shared) (H : Hp) (E : XK) (f c' : Addr), Room k (A.deeper (lamEnv X scope s.heap.objs.size f c')) → PE (lamCx X A outer s H E scope f c') body (t E))
    (hdb : (x == ("__debug__" : Str)) = false := by decide) (hd : (a == ("__debug__" : Str)) = false := by decide) (hcd : (a == ("__classdict__" : Str)) = false := by decide) :
    PE X (.Call (.Name x p) [.Lambda params body scope lpos] [] pos) (tLamP T P TT t) := by
  refine ⟨fun pins s σ H Q I ⟨hT, h⟩ => ?_⟩
  refine wpAny_Call_Name_kw (ld_glob I hg hm ?_ hdb)
  refine PySem.W.callWith_K (h₀ := X.base) I.ok.mod.kin hk ?_ (by rfl) (by rfl)
  show wpAny _ _ (spliced ((false, eval (.Lambda params body scope lpos) X.env) :: backTo pos (starEach [] X.env))) _ _ s
  refine Calls.spliced_cons (lam_make4 I TB hcode hmT hu hT hdef (L.has I.ok) fun f c' pm' ctv H1 s' I1 eP eN T1 hf hfn hfr hco => ?_)
  refine Calls.spliced_nil ⟨I1.kIn, ?_⟩
  have rc : codeAny (model X.prog X.w) X.A (.call (.ref g) ⟨[.ref f], []⟩) (CR C8.CX0 X.stack X.prog X.w H1 s' Q C8.E0) s' := by
    refine run_ofS (N := Ng) (ps := [a]) (us := [.ref f]) (vs := [.ref f]) lk hcg Sg hr I1.env0 (hb s' [.ref f] I1.kIn rfl) (.cons rfl .nil) rfl fun hr' => ?_
    obtain ⟨t', ht', hq'⟩ := hG f c' s' H1 Q (fun E H' Q' => t E σ H' Q') (fun W pn xe E p1 p2 tk => pe_actS (i := 0) I1 L hf hfn hfr (hbind _ _ _ _ _) tk hr' (fun A outer s H hr2 => hbody A outer s H E f c' hr2) hNg hva hd hcd) hco (h H1 eP eN T1)
    exact ⟨t', ht'.nox, hq'⟩
  refine wpAny_call (codeAny_mono rc fun r s2 hq => ?_)
  cases r with
  | error e => exact (show False from hq).elim
  | ok fl =>
    cases fl with
    | ret u => exact I1.after hq
    | next => exact False.elim hq
    | brk => exact False.elim hq
    | cont => exact False.elim hq
end
end Sb

namespace Sb
open PySem PySem.Spec PyProof.Rows L2
/-! ### Base.__init__(self, ..) where Base is an own class over ValueError -/
def tClI (K : PySem.W.Frag) (B : Addr) (to : TE) (ta : TA) : TE := fun σ H Q => to σ H fun x H0 => x = .ref B ∧ ta σ H0 fun vs H1 => ∃ (a C : Addr) (ws : List V), vs = .ref a :: ws ∧ ws.length ≤ 1000 ∧ OexC K C ∧ H1 a = some (exo a C none) ∧ Q .non H1
theorem pe_clinit {X : Cx} {o e : Expr} {es : List Expr} {to : TE} {ta : TA} {B : Addr} {mc : Value} {p2 pos : Pos} {pl : Sem Bool} (ho : PE X o to) (r : ClX.CRead X.K B mc) (vV : PySem.W.findCls X.K (.ref B) mc "__init__" = some (.val (.builtin "ValueError.__init__"))) (ha : PA X (e :: es) ta)
    (hc : eval (.Call (.Attribute o "__init__" p2) (e :: es) [] pos) X.env = (do
      let ov ← eval o X.env
      standAt p2.atName
      let (f, first) ← holding [ov] (getMethod ov "__init__" pl)
      callWith pos f first (backTo pos (starEach (e :: es) X.env)) (backToKw pos (keywordEach [] X.env))) := by rfl)
    (he : starEach (e :: es) X.env = (false, eval e X.env) :: starEach es X.env := by rfl) (hpl : (backTo pos (starEach es X.env)).any (·.1) = false := by rfl) :
    PE X (.Call (.Attribute o "__init__" p2) (e :: es) [] pos) (tClI X.K B to ta) := by
  refine ⟨fun pins s σ H Q I h => ?_⟩
  refine PySem.W.methodCall_KW (pl := pl) (thn (ho.run pins s σ H _ I h) fun u s1 ⟨x, H0, I0, rx, ex, q⟩ => ?_) hc
  subst ex
  obtain rfl : u = Value.ref B := rx
  refine PySem.W.method_cls I0.kIn r.ga (PySem.W.cls_value I0.kIn r.rd vV rfl ?_)
  show wpAny _ _ (callWith pos (Value.builtin "ValueError.__init__") [] (backTo pos (starEach (e :: es) X.env)) []) _ _ _
  refine PyProof.Rows.callWith_method1 (thn (ha.run pos pins _ σ H0 _ (I0.tok _) q) fun us s1 ⟨vs, H1, I1, r1, a, C, ws, ev, hl, T, ea, q⟩ => ?_) he hpl
  subst ev
  cases r1 with
  | @cons _ u0 _ ur ra rw' =>
    obtain rfl : u0 = Value.ref a := ra
    have hlen : ur.length ≤ sizeLine := by
      rw [← Paired.length rw', sizeLine_eq]
      omega
    exact oinit_ok T I1 ea hlen fun s' J => ⟨.non, H1, J, rfl, q⟩
/-! ### isinstance of a caught error that has its dict -/
section
open PySem.W PySem.Calls
variable {prog : Program} {w : World} {A : Around} {E : Value → Shared → Prop} {s : Shared} {K : Frag} {x D : Addr} {ox : Obj} {od : Option Obj}
theorem findObj_dataD {C : Addr} {name : Str} {a g : Value} (hc : (clsIn K C).isSome = true) (ha : findIn K (.ref C) name = some (some a)) (hg : specialIn K a "__get__" = some (some g)) (ht : takesIn K a = some true) : findObj K C od name = some (.bind g a) := by
  obtain ⟨cd, hc⟩ := Option.isSome_iff_exists.mp hc
  unfold findObj
  rw [hc, Option.bind_some, ha, Option.bind_some]
  simp [hg, ht]
theorem kin_classD {Q : Option Value → Shared → Prop} (hga : findIn K (.ref D) "__getattribute__" = some (some (.builtin "BaseException.__getattribute__"))) (hgt : findIn K (.ref D) "__getattr__" = some none) (hsub : subIn K (.ref D) (.type "BaseException") = some true)
    (hdct : hasDictIn K D = true) (ha : findIn K (.ref D) "__class__" = some (some (.builtin "object.__class__")))
    (hn : specialIn K (.builtin "object.__class__") "__get__" = some (some (.builtin "getset_descriptor.__get__"))) (htk : takesIn K (.builtin "object.__class__") = some true) (hm : mroIn K D (.type "object") = some true)
    (X : K.In s.heap) (I : InstAt s.heap x ox D od) (h : Q (some (.ref D)) { s with toks := s.toks + 1 }) : wpAny (model prog w) A (getAttr? (.ref x) "__class__") Q E s := by
  have hf : findObj K D od "__class__" = some (.bind (.builtin "getset_descriptor.__get__") (.builtin "object.__class__")) := findObj_dataD (by obtain ⟨cd, hc, _⟩ := any_some hdct; rw [hc]; rfl) ha hn htk
  obtain ⟨hp, g, d, t, os⟩ := s
  have L0 := I.type (M := model prog w)
  have L1 := looks_findIn (M := model prog w) X hga
  have L2 := looks_findIn (M := model prog w) X hgt
  have L3 := looks_find (M := model prog w) X I hf
  have sub : Looks (model prog w) hp (isInstance (.ref x) (.type "BaseException")) true := L0.andThen (looks_subIn X hsub)
  have hx0 : (false && onTheHeap (Value.builtin "BaseException.__getattribute__")) = false := rfl
  have hx2 : (Value.builtin "BaseException.__getattribute__" == Value.builtin "object.__getattribute__") = false := by decide +kernel
  have hx1 : (onTheHeap (Value.ref D) && Value.builtin "BaseException.__getattribute__" == Value.builtin "object.__getattribute__") = false := by rw [hx2]; rfl
  unfold getAttr? getAttrBy? getAttrBy
  refine wpAny_bind (wpAny_mkText (wpAny_bind (wpAny_attempt (wpAny_holding (wpAny_bind (L0.at (wpAny_bind (L1.at ?_))))))))
  show wpAny _ _ (if (onTheHeap (Value.ref D) && Value.builtin "BaseException.__getattribute__" == Value.builtin "object.__getattribute__") = true then _ else _) _ _ _
  rw [hx1, if_neg Bool.false_ne_true]
  unfold getAttrByItsOwn hookBefore
  refine wpAny_bind ?_
  rw [if_pos (show onTheHeap (Value.ref D) = true from rfl)]
  refine L2.at ?_
  refine wpAny_bind (wpAny_attempt (wpAny_holding ?_))
  unfold callGetattribute
  rw [hx0, if_neg Bool.false_ne_true]
  unfold boundAndCalled
  rw [PySem.F.excAttr_ValueError.ga.bind (.ref x)]
  refine wpAny_bind (wpAny_pure ?_)
  show wpAny _ _ (call (.builtin "BaseException.__getattribute__") [.ref x, .str "__class__" t]) _ _ _
  refine wpAny_call (codeAny_call_builtin PySem.F.excAttr_ValueError.ga.plain PySem.F.entry_bexc_ga ?_)
  refine @check_slot (model prog w) _ _ ⟨hp, g, d, t + 1, os⟩ "BaseException.__getattribute__" "BaseException" "__getattribute__" (.ref x) [.str "__class__" t] [] _ (by decide +kernel) (by decide +kernel) sub (PySem.F.args_bexc_ga (.ref x) (.str "__class__" t)) ?_
  unfold Builtin.«object.__getattribute__»
  refine wpAny_bind (wpAny_of_eq (a := ((Value.ref x : Value), [Value.str "__class__" t])) (by first | rfl | (simp only [slotArgs]; rfl)) ?_)
  refine wpAny_bind (wpAny_pure (wpAny_bind (L0.at (wpAny_bind (L3.at ?_)))))
  show wpAny _ _ (holding [Value.builtin "object.__class__"] (call (.builtin "getset_descriptor.__get__") [.builtin "object.__class__", .ref x, .ref D]) >>= ret) _ _ _
  refine wpAny_bind (wpAny_holding (wpAny_call (class_get (s := ⟨hp, g, d, t + 1, os⟩) (ox := ox) (od := od) X I hm ?_)))
  refine wpAny_pure ?_
  show wpAny _ _ (handedOut (.ref D)) _ _ _
  rw [handedOut_of (v := .ref D) rfl]
  first
    | exact wpAny_pure (wpAny_pure h)
    | exact wpAny_pure h
    | exact wpAny_pure (wpAny_bind (wpAny_pure (wpAny_pure h)))
theorem kitx_excD (hga : findIn K (.ref D) "__getattribute__" = some (some (.builtin "BaseException.__getattribute__"))) (hgt : findIn K (.ref D) "__getattr__" = some none) (hsub : subIn K (.ref D) (.type "BaseException") = some true) (hdct : hasDictIn K D = true) (ha : findIn K (.ref D) "__class__" = some (some (.builtin "object.__class__")))
    (hn : specialIn K (.builtin "object.__class__") "__get__" = some (some (.builtin "getset_descriptor.__get__"))) (htk : takesIn K (.builtin "object.__class__") = some true) (hm : mroIn K D (.type "object") = some true) :
    KitX K (.ref x) (.ref D) (fun h => InstAt h x ox D od) where
  ty := fun _ _ _ I => I.type
  it := fun _ _ X _ => by
    obtain ⟨cdD, hcD, _⟩ := any_some hdct
    unfold clsIn at hcD
    split at hcD
    · rename_i c' d' cd' sl' ho
      intro A' Q' E' s' k q
      unfold isType loadHead
      exact wpAny_bind (wpAny_loadPart (k _ _ (X _ _ ho)) (wpAny_pure q))
    · cases hcD
  ne := fun h tp dd its n sl X htp => by
    obtain ⟨cdD, hcD, _⟩ := any_some hdct
    refine Bool.eq_false_iff.mpr fun q => ?_
    have e : D = tp := Value.ref.inj (beq_iff_eq.mp q)
    subst e
    unfold clsIn at hcD
    split at hcD
    · rename_i c' d' cd' sl' ho
      have z := (X _ _ ho).symm.trans htp
      cases z
    · cases hcD
  ca := fun X I k => kin_classD hga hgt hsub hdct ha hn htk hm X I k
end
def rIsXD (K : PySem.W.Frag) (a : Addr) (cls : Value) (d : Option Addr) : List V → Hp → VK → Prop := fun xs H Q => ∃ (D : Addr) (dd : Addr) (fs : List (Str × V)) (c : V) (cv : Value) (b : Bool), cls = .ref D ∧ d = some dd ∧ H dd = some (.xd fs) ∧ ExcC K D ∧ xs = [.ref a, c] ∧ (∀ u, RelV c u → u = cv) ∧ PySem.W.kitOne K (.ref D) cv = some b ∧ Q (.bl b) H
theorem call_isXD {X : Cx} {a : Addr} {oe : Obj} {cls : Value} {d : Option Addr} {pn : List (Addr × Obj)} (hz : Zc cls d oe) (hf : ∃ vs, oe.data = .fields vs) : CallR (X.suite a ((a, oe) :: pn)) (.builtin "isinstance") (rIsXD X.K a cls d) := by
  intro pins s σ H xs us Q I r h
  obtain ⟨D, dd, fs, c, cv, b, ecl, ed, ea, C, rfl, hcv, e, q⟩ := h
  subst ecl ed
  cases r with
  | cons rx rr =>
    cases rr with
    | cons rt rr =>
      cases rr
      cases rx
      have ec := hcv _ rt
      subst ec
      obtain ⟨hget, _⟩ := I.pin (a, oe) (List.mem_append.mpr (.inl List.mem_cons_self))
      obtain ⟨vs, hv⟩ := hf
      have hx : ObjOk X.prog X.w H s.heap dd (.xd fs) := I.hok dd _ ea
      obtain ⟨mA, hns, hr⟩ := hx
      obtain ⟨od, ho, hl⟩ := lookIn_ns hns
      have J : PySem.W.InstAt s.heap a oe D (some od) := ⟨hget, hz.1, by unfold PySem.W.notCls; rw [hv] <;> rfl, by rw [hz.2]; exact ho⟩
      exact PySem.W.kia_one (kitx_excD C.hg C.hk C.hs C.hd C.ha C.hn C.ht C.hm) I.kIn J e (fun z => nomatch z) fun tk => ⟨.bl b, H, I.kept (t' := tk) fun _ _ z => z, rfl, q⟩
end Sb
namespace HotX
open PySem PySem.Spec PyProof.Rows
/-! ### raise X(..) from e, e the handled exception -/
/-- the heap behind «from e» -/
def refFrom (h : Heap) (a x : Addr) : Heap := (h.update a (Obj.mapFields (·.setIfInBounds 3 (.ref x)))).update a (Obj.mapFields (·.setIfInBounds 4 (.bool true)))
theorem refFrom_at {h : Heap} {a x : Addr} {oe : Obj} {vs : Array Value} (ha : h.get? a = some oe) (hd : oe.data = .fields vs) :
    (refFrom h a x).get? a = some ((oe.mapFields (·.setIfInBounds 3 (.ref x))).mapFields (·.setIfInBounds 4 (.bool true))) ∧ ((oe.mapFields (·.setIfInBounds 3 (.ref x))).mapFields (·.setIfInBounds 4 (.bool true))).data = .fields ((vs.setIfInBounds 3 (.ref x)).setIfInBounds 4 (.bool true)) := by
  have hd3 := Obj.data_mapFields hd (·.setIfInBounds 3 (.ref x))
  have ha3 := Heap.get?_update_self (Obj.mapFields (·.setIfInBounds 3 (.ref x))) ha (Obj.isFreed_of_fields hd3)
  have hd4 := Obj.data_mapFields hd3 (·.setIfInBounds 4 (.bool true))
  exact ⟨Heap.get?_update_self (Obj.mapFields (·.setIfInBounds 4 (.bool true))) ha3 (Obj.isFreed_of_fields hd4), hd4⟩
theorem refFrom_other {h : Heap} {a x b : Addr} (hne : a ≠ b) : (refFrom h a x).get? b = h.get? b := by
  unfold refFrom
  rw [Heap.get?_update_other _ _ hne, Heap.get?_update_other _ _ hne]
theorem raise_made_hotF {prog : Program} {w : World} {A : Around} {E : Value → Shared → Prop} {env : Env} {s : Shared} {x c : Sem Value} {Q : Flow → Shared → Prop} {x1 : Addr}
    
    (h : wpAny (model prog w) A x (fun v s₁ => ∃ a oe vs cls, v = .ref a ∧ s₁.heap.get? a = some oe ∧ oe.cls = cls ∧ oe.data = .fields vs ∧ vs[1]? = some .none ∧ 4 < vs.size ∧ x1 ≠ a ∧ HotAt A x1 s₁.heap ∧
      PySem.W.Looks (model prog w) s₁.heap (isSubtype cls (.type "BaseException")) true ∧ (∀ (Q' : Value → Shared → Prop), Q' (.ref x1) s₁ → wpAny (model prog w) A c Q' E s₁) ∧ PySem.W.Looks (model prog w) s₁.heap (isInstance (.ref x1) (.type "BaseException")) true ∧ PySem.W.Looks (model prog w) (refFrom s₁.heap a x1) (typeOf cls) (.type "type") ∧
      E (.ref a) { s₁ with heap := (refFrom s₁.heap a x1).update a (Obj.mapFields (·.setIfInBounds 2 (.ref x1))) }) E s) :
    wpAny (model prog w) A (raiseStmt env (some x) (some c)) Q E s := by
  unfold raiseStmt
  dsimp only
  refine wpAny_bind (wpAny_mono h (fun v s₁ h₁ => ?_) fun _ _ x => x)
  obtain ⟨a, oe, vs, cls, rfl, ha, hcls, hd, h1, hi, hne, hot, L1, hcs, LX, L3, hE⟩ := h₁
  have LT : PySem.W.Looks (model prog w) s₁.heap (typeOf (.ref a)) cls := fun A Q E s k q => wpAny_typeOf_ref (k _ _ ha) (by rw [hcls]; exact q)
  have LI : PySem.W.Looks (model prog w) s₁.heap (isInstance (.ref a) (.type "BaseException")) true := LT.andThen L1
  have hnt : ∀ {Q' : Bool → Shared → Prop}, Q' false s₁ → wpAny (model prog w) A (isType (.ref a)) Q' E s₁ := by
    intro Q' hq
    simp only [isType, loadHead]
    refine wpAny_bind (wpAny_loadPart ha ?_)
    rw [hd]; exact wpAny_pure hq
  have hd3 := Obj.data_mapFields hd (·.setIfInBounds 3 (.ref x1))
  have ha3 := Heap.get?_update_self (Obj.mapFields (·.setIfInBounds 3 (.ref x1))) ha (Obj.isFreed_of_fields hd3)
  obtain ⟨ha4, hd4⟩ := refFrom_at ha hd
  have s3 : 3 < vs.size := by omega
  have s4 : 4 < (vs.setIfInBounds 3 (Value.ref x1)).size := by rw [set_size]; exact hi
  have s2 : 2 < ((vs.setIfInBounds 3 (Value.ref x1)).setIfInBounds 4 (Value.bool true)).size := by rw [set_size, set_size]; omega
  have h14 : ((vs.setIfInBounds 3 (Value.ref x1)).setIfInBounds 4 (Value.bool true))[1]? = some Value.none := set_other (by decide) (set_other (by decide) h1)
  have hcls4 : ((oe.mapFields (·.setIfInBounds 3 (.ref x1))).mapFields (·.setIfInBounds 4 (.bool true))).cls = cls := by rw [Obj.cls_mapFields, Obj.cls_mapFields]; exact hcls
  have LT4 : PySem.W.Looks (model prog w) (refFrom s₁.heap a x1) (typeOf (.ref a)) cls := fun A Q E s k q => wpAny_typeOf_ref (k _ _ ha4) (by rw [hcls4]; exact q)
  have hnt4 : ∀ {Q' : Bool → Shared → Prop}, Q' false { s₁ with heap := refFrom s₁.heap a x1 } → wpAny (model prog w) A (isType (.ref a)) Q' E { s₁ with heap := refFrom s₁.heap a x1 } := by
    intro Q' hq
    simp only [isType, loadHead]
    refine wpAny_bind (wpAny_loadPart ha4 ?_)
    rw [hd4]; exact wpAny_pure hq
  have hot4 : HotAt A x1 (refFrom s₁.heap a x1) := by
    obtain ⟨q1, o, vs', q2, q3, q4⟩ := hot
    exact ⟨q1, o, vs', by rw [refFrom_other (Ne.symm hne)]; exact q2, q3, q4⟩
  -- what stands behind the two stores
  have rest : wpAny (model prog w) A (do
      let b ← isType (.ref a)
      if b = true then do
        let e ← holding [.ref a] (raisedFor (.ref a) (.ref a))
        setFlight e none
        raiseNew e
      else do
        let e ← raisedInstance (.ref a)
        setFlight e none
        raiseNew e : Sem Flow) Q E { s₁ with heap := refFrom s₁.heap a x1 } := by
    refine wpAny_bind (hnt4 ?_)
    simp only [Bool.false_eq_true, if_false]
    unfold raisedInstance
    refine wpAny_bind (wpAny_bind (LT4.here (wpAny_bind (L3.here ?_))))
    rw [if_pos (beq_self_eq_true _)]
    refine wpAny_pure ?_
    unfold setFlight
    refine wpAny_bind (wpAny_bind (wpAny_field ha4 hd4 h14 ?_))
    rw [if_neg (by decide)]
    refine wpAny_pure ?_
    exact raiseNew_hot hot4 hne ha4 hd4 s2 hE
  refine wpAny_bind (wpAny_holding (hcs _ (wpAny_bind (wpAny_pure ?_))))
  dsimp only
  refine wpAny_bind (wpAny_holding ?_)
  unfold excFromValue isExcClass
  refine wpAny_bind (wpAny_bind (hnt ?_))
  simp only [Bool.false_eq_true, if_false]
  refine wpAny_pure ?_
  simp only [Bool.false_eq_true, if_false]
  refine wpAny_bind (LI.here ?_)
  simp only [if_true]
  refine wpAny_pure ?_
  rw [if_neg (show ¬ ((Value.ref x1 == Value.none) = true) from by simp)]
  have hnx : ∀ {Q' : Bool → Shared → Prop}, Q' false s₁ → wpAny (model prog w) A (isType (.ref x1)) Q' E s₁ := by
    intro Q' hq
    obtain ⟨_, ox, vx, gx, dx, _⟩ := hot
    simp only [isType, loadHead]
    refine wpAny_bind (wpAny_loadPart gx ?_)
    rw [dx]; exact wpAny_pure hq
  refine wpAny_bind (wpAny_holding (wpAny_bind (wpAny_bind (hnx ?_))))
  simp only [Bool.false_eq_true, if_false]
  refine wpAny_pure ?_
  simp only [Bool.false_eq_true, if_false]
  refine wpAny_bind (LX.here ?_)
  simp only [if_true]
  refine wpAny_pure ?_
  refine wpAny_bind (wpAny_setField ha hd s3 (wpAny_bind (wpAny_setField ha3 hd3 s4 ?_)))
  exact rest
end HotX
namespace L2H
open PySem PySem.Spec PyProof.Rows L2 HotX
/-- raise X(..) from n, n the name of the handled exception, whose class is cls0 -/
theorem ps_raiseHF {X : Cx} {W : WX} {e : Expr} {t : L2.St → Hp → XK → Prop} {i : Nat} {n : Str} {a0 : Addr} {cls0 : Value} {oe0 : Obj} {Kf : PySem.W.Frag} (hK : X.K = Kf) {cpos pos : Pos} (hc : X.A.handled = some (.ref a0)) (hp : (a0, oe0) ∈ X.pn) (hctx : ∃ vs : Array Value, oe0.data = .fields vs ∧ vs[2]? = some .none) (hcl0 : oe0.cls = cls0) (hN : X.N[i]? = some n) (hl : X.env.kindOf n = some .local) (tk : L2.Takes X W) (he : PMk5 X e t)
    (hdb : (n == ("__debug__" : Str)) = false := by decide) :
    PS X (.Raise (some e) (some (.Name n cpos)) pos) (fun _ σ H => PySem.W.subIn Kf cls0 (.type "BaseException") = some true ∧ σ[i]? = some (some (.ref a0)) ∧ t σ H fun cls d H' => W cls d σ H') := by
  subst hK
  refine ⟨fun pins s σ H D I ⟨hsub, hσ, h⟩ => ?_⟩
  obtain ⟨v1, e1, c1⟩ := hctx
  show wpAny _ _ (do standAt pos; raiseStmt X.env (some (do let v ← eval e X.env; standAt pos; pure v)) (some (do let v ← eval (.Name n cpos) X.env; standAt pos; pure v))) _ _ _
  refine wpAny_bind (wpAny_standAt (raise_made_hotF (x1 := a0) (wpAny_bind (wpAny_mono (he pins s σ H _ I h) (fun u s1 hu => wpAny_bind (wpAny_standAt (wpAny_pure ?_))) fun _ _ x => x))))
  obtain ⟨⟨a, oe, vs, sI, H', cls, d, rfl, J, k, hne, ha, hz, hd, h1, na, os, ag, r, q⟩, h5⟩ := hu
  have hi : 4 < vs.size := h5 a oe vs rfl ha hd
  have k4 : ∀ b u, sI.heap.get? b = some u → (refFrom s1.heap a a0).get? b = some u := fun b u z => by
    have nab : a ≠ b := fun y => by
      rw [← y, hne] at z
      cases z
    rw [refFrom_other nab]
    exact k b u z
  obtain ⟨r1, _⟩ := r (model X.prog X.w) s1.heap (J.kIn.keeps k)
  obtain ⟨_, r2⟩ := r (model X.prog X.w) (refFrom s1.heap a a0) (J.kIn.keeps k4)
  have P1 := (J.pin (a0, oe0) (List.mem_append_left _ hp)).1
  have nap : a0 ≠ a := fun z => by
    have P2 : sI.heap.get? a0 = some oe0 := P1
    rw [z, hne] at P2
    cases P2
  have P3 : s1.heap.get? a0 = some oe0 := k _ _ P1
  obtain ⟨ha4, hd4⟩ := refFrom_at (x := a0) ha hd
  have h12 : (((vs.setIfInBounds 3 (Value.ref a0)).setIfInBounds 4 (Value.bool true)).setIfInBounds 2 (Value.ref a0))[1]? = some Value.none := set_other (by decide) (set_other (by decide) (set_other (by decide) h1))
  have LX : PySem.W.Looks (model X.prog X.w) s1.heap (isInstance (.ref a0) (.type "BaseException")) true :=
    PySem.W.Looks.andThen (fun A Q E s k q => wpAny_typeOf_ref (k _ _ P3) (by rw [hcl0]; exact q)) (PySem.W.looks_subIn (J.kIn.keeps k) hsub)
  have ldv : ∀ (Q' : Value → Shared → Prop), Q' (.ref a0) s1 → wpAny (model X.prog X.w) X.A (do let v ← eval (.Name n cpos) X.env; standAt pos; pure v) Q' X.xe s1 := fun Q' hq => by
    obtain ⟨m, hn, hlk⟩ := J.loc
    obtain ⟨u, ru, lk⟩ := hlk i n _ hN hσ (.inl hl)
    obtain rfl : u = Value.ref a0 := ru
    rcases lk with ⟨hk, hm⟩ | ⟨hk, _⟩
    · exact wpAny_bind (wpAny_Name (wpAny_loadName_local J.ok.kind hk (hn.at fun o z => k _ _ z) hm (wpAny_bind (wpAny_standAt (wpAny_pure hq)))) hdb)
    · rw [hl] at hk
      rcases hk with hk | hk <;> cases hk
  refine ⟨a, oe, vs, cls, rfl, ha, hz.1, hd, h1, hi, nap, ⟨hc, oe0, v1, P3, e1, c1⟩, r1, ldv, LX, r2, tk _ _ (XE.new J (fun b u z => ?_) hne (Heap.get?_update_self _ ha4 (Obj.isFreed_of_fields (Obj.data_mapFields hd4 _)))
    ⟨by rw [Obj.cls_mapFields, Obj.cls_mapFields, Obj.cls_mapFields]; exact hz.1, by rw [HandSPX.dict_mapFields, HandSPX.dict_mapFields, HandSPX.dict_mapFields]; exact hz.2.1⟩ (Obj.data_mapFields hd4 _) h12 na os ag q)⟩
  have nab : a ≠ b := fun y => by
    rw [← y, hne] at z
    cases z
  show ((refFrom s1.heap a a0).update a (Obj.mapFields (·.setIfInBounds 2 (.ref a0)))).get? b = some u
  rw [Heap.get?_update_other _ _ nab]
  exact k4 b u z
end L2H
namespace L2H
open PySem PySem.Spec PyProof.Rows L2 HotX
/-! ### an except suite «as n» that raises: the name goes, the exception goes on -/
section
variable {M : Model} {A A' : Around} {E E₂ : Value → Shared → Prop} {s : Shared} {Z : Obj → Prop} {base : Heap} {env : Env} {outer : List Env} {L e : Addr}
theorem tracedZ_but {h h' : Heap} {fl : Value} {m : Str → Option Value} (x : HandSPX.TracedZ h base e Z fl) (hn : h.Ns L m) (hs : Heap.SameBut L h h') : HandSPX.TracedZ h' base e Z fl := by
  obtain ⟨oe, vs, T, oT, ts, he, hz, hd, h1, hnT, hTe, hT, hdT, h3⟩ := x
  obtain ⟨oL, es, ep, hoL, hdL, _⟩ := hn
  have neE : e ≠ L := fun q => by
    rw [q, hoL] at he
    have z := Option.some.inj he
    rw [← z, hdL] at hd
    cases hd
  have neT : T ≠ L := fun q => by
    rw [q, hoL] at hT
    have z := Option.some.inj hT
    rw [← z, hdL] at hdT
    cases hdT
  exact ⟨oe, vs, T, oT, ts, (hs.2 e neE).trans he, hz, hd, h1, hnT, hTe, (hs.2 T neT).trans hT, hdT, h3⟩
theorem sky_note {Q : Unit → Shared → Prop} (hZ : HandSPX.Steady Z) (hfr : A.frames = some (env :: outer)) (hf : env.frame = some L)
    (x : Sky base (env :: outer) e Z L s.heap) (hQ : ∀ h', HandSPX.HeldZ base (env :: outer) e Z L h' → s.heap.UpToSlots h' → Q () { s with heap := h' }) : wpAny M A (noteFrame (.ref e) env) Q E s := by
  rcases x with ⟨hB, hn, hl, oe, vs, he, hz, hd, h1⟩ | fl | hh
  · exact HandSPX.look_newZ hZ hfr hl hf he hB hn hd h1 hz hQ
  · exact HandSPX.looks_onZ hZ hfr hf fl hQ
  · exact HandSPX.againZ hf hh.2.2.2 (hQ s.heap hh (Heap.UpToSlots.refl _))
theorem asSuite_tailZ {n : Str} {pos : Pos} {m : Str → Option Value}
    (hf : env.frame = some L) (hL : env.locals = L) (hh : HandSPX.HeldZ base (env :: outer) e Z L s.heap) (hn : s.heap.Ns L m) (hlo : env.kindOf n = some .local)
    (hp : (env.scope.kind == .class || (env.scope.kind == .module && env.locals != env.globals)) = false)
    (hQ : ∀ h2 h' v, Heap.SameBut L s.heap h2 → h2.Ns L (fun x => if x = n then v else m x) → HandSPX.HeldZ base (env :: outer) e Z L h' → h2.UpToSlots h' → E (.ref e) { s with heap := h', toks := s.toks + 1 }) :
    wpAny M A' (do bindName env n .none; unbindBehindTheSuite env n pos)
      (fun _ s₂ => wpAny M A' (PySem.passOn "try.except-as" (.ref e) env : Sem Flow) (fun _ _ => False) (notedBy M A' env (cameBackBy M A env E)) s₂) E₂ s := by
  obtain ⟨b1, b0, f1, t1⟩ := hh
  have hbL : base.get? L = none := by
    obtain ⟨_, ⟨L', _, hf', hb', _⟩, _⟩ := f1
    rw [hf] at hf'
    rw [Option.some.inj hf']
    exact hb'
  refine wpAny_nameGoes_keeps hlo (by rw [hL]; exact hn) hp fun h₂ v hn₂ hs₂ => ?_
  rw [hL] at hn₂ hs₂
  have b2 : base.StaysIn h₂ := fun b o hb => (hs₂.2 b fun q => by rw [q, hbL] at hb; cases hb).trans (b1 b o hb)
  have f2 : h₂.FunFrames base (env :: outer) := Heap.FunFrames.sameBut hs₂ hn₂ f1
  have t2 := tracedZ_but t1 hn hs₂
  obtain ⟨oe, vs, T, oT, ts, he, hc, hd, h1, r⟩ := id t2
  unfold PySem.passOn
  refine wpAny_bind (wpAny_field he hd h1 ?_)
  rw [if_neg (show ¬ ((Value.ref T == Value.none) = true) from by simp)]
  rw [hf]
  refine wpAny_bind (HandSPX.setFlight_anyZ (l := env :: outer) b2 f2 t2 fun h₃ b3 f3 t3 k3 => ?_)
  refine wpAny_throw ?_
  show wpAny M A' (noteFrame (.ref e) env) _ _ _
  refine HandSPX.againZ hf t3 ?_
  obtain ⟨oe', vs', T', oT', ts', he', hc', hd', h1', r'⟩ := id t3
  show wpAny M A (do
    if (← field (.ref e) 1) == .none then unsupported "frame.own-activation:exception-without-traceback"
    setFlight (.ref e) env.frame) _ _ _
  refine wpAny_bind (wpAny_field he' hd' h1' ?_)
  rw [if_neg (show ¬ ((Value.ref T' == Value.none) = true) from by simp)]
  rw [hf]
  refine HandSPX.setFlight_anyZ (l := env :: outer) b3 f3 t3 fun h₄ b4 f4 t4 k4 => ?_
  exact hQ h₂ h₄ v hs₂ hn₂ ⟨b4, b0, f4, t4⟩ (k3.trans k4)
end
section
variable {X : Cx} {pins : List (Addr × Obj)} {σ : L2.St} {H : Hp} {s : Shared}
/-- the state when an except clause's name is gone -/
theorem inv_gone {i : Nat} {n : Str} (I : Inv X pins σ H s) (hN : X.N.Nodup) (hi : X.N[i]? = some n) :
    ∃ m, s.heap.Ns X.env.locals m ∧ ∀ h' v t, h'.Ns X.env.locals (fun x => if x = n then v else m x) → Heap.SameBut X.env.locals s.heap h' → Inv X pins (σ.set i none) H { s with heap := h', toks := t } := by
  obtain ⟨m, hn, hlk⟩ := id I.loc
  refine ⟨m, hn, fun h' v t hn' hs => ?_⟩
  have neL : ∀ b o, X.s_0.heap.get? b = some o → b ≠ X.env.locals := fun b o e => Nat.ne_of_lt (Nat.lt_of_lt_of_le (Heap.lt_size e) I.ok.above)
  refine ⟨I.ok, I.os, I.bare, ⟨fun b o e n hb hx => ?_, fun b o e n hb hx => ?_, I.base.free, fun b o e hx => ?_, I.base.tups, I.base.frzs, I.base.tbls⟩, ⟨_, hn', fun j y v' e1 e2 e3 => ?_⟩, fun y c e => ?_, I.free, I.freeC, fun p hp => ?_, fun b ob e => ?_, by simpa using I.len⟩
  · exact (hs.2 b (neL b o e)).trans (I.base.keep b o e n hb hx)
  · obtain ⟨sl, e1⟩ := I.base.slot b o e n hb hx
    exact ⟨sl, (hs.2 b (neL b o e)).trans e1⟩
  · obtain ⟨o', e1⟩ := I.base.there b o e hx
    exact ⟨o', (hs.2 b (neL b o e)).trans e1⟩
  · by_cases hj : j = i
    · subst hj
      by_cases hlt : j < σ.length
      · rw [List.getElem?_set_self hlt] at e2; cases e2
      · rw [List.getElem?_eq_none (by simpa using hlt)] at e2; cases e2
    · rw [List.getElem?_set_ne (Ne.symm hj)] at e2
      obtain ⟨u', r', q⟩ := hlk j y v' e1 e2 e3
      refine ⟨u', r', ?_⟩
      rcases q with ⟨k, e⟩ | ⟨k, c, e, z⟩
      · have ny : y ≠ n := fun e => hj (nodup_ix hN e1 (e ▸ hi))
        exact .inl ⟨k, (if_neg ny).trans e⟩
      · exact .inr ⟨k, c, e, z.sameBut hs (I.cne y c e)⟩
  · obtain ⟨w', z⟩ := I.cell y c e
    exact ⟨w', z.sameBut hs (I.cne y c e)⟩
  · obtain ⟨e, n, ne, nf, d⟩ := I.pin p hp
    exact ⟨(hs.2 p.1 ne).trans e, n, ne, nf, d⟩
  · refine (I.hok b ob e).stay (fun c w' hc q => (hs.2 c ?_).trans q) (fun _ q => q) fun _ _ q => q
    intro z
    subst z
    rcases hc with hc | hc
    · rw [← hc, I.free] at e; cases e
    · rw [I.free] at hc; cases hc
/-- the context of such a suite, with a wish of its own -/
abbrev suiteE (X : Cx) (a : Addr) (pn : List (Addr × Obj)) (xe : Value → Shared → Prop) : Cx := { X with A := X.A.mark (some (.ref a)), calm := false, pn := pn, xe := xe }
theorem suiteE_of {a : Addr} {pn pn' : List (Addr × Obj)} {xe : Value → Shared → Prop} (I : Inv (X.suite a pn) pn' σ H s) : Inv (suiteE X a pn xe) pn' σ H s :=
  (suiteX_of I).wish xe
theorem unsuiteE {a : Addr} {q : Addr × Obj} {pn' : List (Addr × Obj)} {xe : Value → Shared → Prop} (I : Inv (suiteE X a (q :: (X.pn ++ pins)) xe) pn' σ H s) (ok : X.Ok) : Inv X pins σ H s :=
  unsuiteX (X := X) (show Inv (suiteX X a (q :: (X.pn ++ pins))) pn' σ H s from I.wish (X := suiteE X a (q :: (X.pn ++ pins)) xe) X.xe) ok
/-- what the suite lets out is taken: slot i is None then -/
theorem takes_suiteE {a : Addr} {q : Addr × Obj} {i : Nat} {n : Str} {pos : Pos} {Wout : WX} {hd : Option Value} {E₂ : Value → Value → Shared → Prop} {E₃ : Value → Shared → Prop} (ok : X.Ok) (hs : X.stack = X.env :: X.outer) (hf : X.env.frame = some X.env.locals) (hN : X.N.Nodup) (hi : X.N[i]? = some n) (hln : X.env.kindOf n = some .local) (tk : L2.Takes X Wout) :
    L2.Takes (suiteE X a (q :: (X.pn ++ pins)) (fun e s => wpAny (model X.prog X.w) (X.A.mark hd) (noteFrame e X.env) (fun _ s₃ => wpAny (model X.prog X.w) (X.A.mark hd) (do bindName X.env n .none; unbindBehindTheSuite X.env n pos)
      (fun _ s₄ => wpAny (model X.prog X.w) (X.A.mark hd) (PySem.passOn "try.except-as" e X.env : Sem Flow) (fun _ _ => False) (notedBy (model X.prog X.w) (X.A.mark hd) X.env (cameBackBy (model X.prog X.w) X.A X.env X.xe)) s₄) (E₂ e) s₃) E₃ s)) (fun cls d σ H => Wout cls d (σ.set i none) H) := by
  intro u2 s2 x2
  obtain ⟨a2, B, sI, pn2, σ2, H2, cls, d, rfl, I2, nb, up, sky, na, os, ag, w⟩ := x2
  have J : Inv X pins σ2 H2 sI := unsuiteE I2 ok
  have hfr : (X.A.mark hd).frames = some (X.env :: X.outer) := by show X.A.frames = _; rw [ok.frames, hs]
  have sky' : Sky B (X.env :: X.outer) a2 (Zc cls d) X.env.locals s2.heap := by rw [← hs]; exact sky
  have hcls : (X.env.scope.kind == .class || (X.env.scope.kind == .module && X.env.locals != X.env.globals)) = false := by rw [ok.kind]; rfl
  obtain ⟨m, hm, K⟩ := inv_gone J hN hi
  have inF : X.env.locals ∈ frs X.stack := by rw [hs]; exact List.mem_filterMap.mpr ⟨X.env, List.mem_cons_self, hf⟩
  show wpAny _ _ (noteFrame (.ref a2) X.env) _ _ s2
  refine sky_note Zc.steady hfr hf sky' fun h3 hh3 up3 => ?_
  refine asSuite_tailZ hf rfl hh3 ((up.trans up3).ns hm) hln hcls fun h4 h5 v sb4 ns4 hh5 up5 => ?_
  obtain ⟨oL, esL, epL, hoL, hdL, hkL, hfL⟩ := id ns4
  obtain ⟨oL0, _, _, hoL0, hdL0, _⟩ := id hm
  have nfr : oL.isFreed = false := by
    cases q : oL.isFreed with
    | false => rfl
    | true =>
      obtain ⟨_, z⟩ := Heap.get?_some_iff.mp hoL
      rw [q] at z; cases z
  have gL : (sI.heap.update X.env.locals (fun _ => oL)).get? X.env.locals = some oL := Heap.get?_update_self (fun _ => oL) hoL0 nfr
  have sbL : Heap.SameBut X.env.locals sI.heap (sI.heap.update X.env.locals (fun _ => oL)) := ⟨by simp [Heap.update], fun b hb => Heap.get?_update_other _ _ (Ne.symm hb)⟩
  have J5 := K (sI.heap.update X.env.locals (fun _ => oL)) v sI.toks ⟨oL, esL, epL, gL, hdL, hkL, hfL⟩ sbL
  refine tk _ _ ⟨a2, B, _, pins, _, H2, cls, d, rfl, J5, fun b o e hb => ?_, fun b o e hnf => ?_, .inr (.inr (by rw [hs]; exact hh5)), na, os, ag, w⟩
  · have hbL : b ≠ X.env.locals := fun z => hb (by rw [z]; exact inF)
    exact nb b o ((sbL.2 b hbL).symm.trans e) hb
  · by_cases hbL : b = X.env.locals
    · subst hbL
      have e' : oL = o := Option.some.inj (gL.symm.trans e)
      subst e'
      exact up5 _ _ hoL hnf
    · obtain ⟨sl, e1⟩ := (up.trans up3) b o ((sbL.2 b hbL).symm.trans e) hnf
      exact up5 _ _ ((sb4.2 b hbL).trans e1) hnf |>.imp fun sl2 z => z
end
end L2H
namespace L2H
open PySem PySem.Spec PyProof.Rows L2 HotX
/-! ### try: body, except x as n: a suite that may raise -/
section
variable {X : Cx} {x n : Str} {c : Value} {i : Nat} {body suite : List Stmt} {b₀ : Stmt} {np pos pos' : Pos} {tb : WX → TS} {ts : Addr → Value → Option Addr → TS} {Wout : WX}
theorem ps_try_asX (hs : X.stack = X.env :: X.outer) (hf : X.env.frame = some X.env.locals) (hN : X.N.Nodup) (hi : X.N[i]? = some n) (hln : X.env.kindOf n = some .local) (hc : Names X x c) (tk : L2.Takes X Wout)
    (hb : ∀ (W : WX) (pn : List (Addr × Obj)) (xe : Value → Shared → Prop), L2N.Takes (X.tr pn xe) W → L2.Takes (X.tr pn xe) (wPass X.K c Wout) → PassesOwn (model X.prog X.w) X.A X.env xe → PSs (X.tr pn xe) body (tb W))
    (hsu : ∀ (a : Addr) (oe : Obj) (cls : Value) (d : Option Addr) (pn : List (Addr × Obj)) (xe : Value → Shared → Prop), L2N.Zn cls d oe → (∃ vs, oe.data = .fields vs) → L2.Takes (suiteE X a ((a, oe) :: pn) xe) (fun cls d σ H => Wout cls d (σ.set i none) H) →
      PSs (suiteE X a ((a, oe) :: pn) xe) (b₀ :: suite) (ts a cls d)) :
    PS X (.Try body [.ExceptHandler (some (.Name x np)) (some n) (b₀ :: suite) pos'] [] [] pos) (fun D σ H => tb (wAs X.K c i ts Wout D) D σ H) := by
  refine ⟨fun pins s σ H D I h => ?_⟩
  have ok := I.ok
  have hloc : Loc X.env.scope n := .inl hln
  have hfr : X.A.frames = some (X.env :: X.outer) := by rw [ok.frames, hs]
  have notFr : ∀ {B h : Heap} {a : Addr} {o : Obj} {vs : Array Value}, h.FunFrames B (X.env :: X.outer) → h.get? a = some o → o.data = .fields vs → a ∉ frs (X.env :: X.outer) := fun {B h a o vs} ff e dd hm => by
    obtain ⟨_, o', e', hnf⟩ := ff.mem hm
    rw [e] at e'; cases e'
    exact hnf _ dd
  have flyOn : ∀ {a : Addr} {B : Heap} {sI s' : Shared} {σ' : L2.St} {H' : Hp} {cls : Value} {d : Option Addr} {h3 : Heap}, Inv X pins σ' H' sI → (∀ b o, sI.heap.get? b = some o → b ∉ frs X.stack → B.get? b = some o) → sI.heap.UpToSlots h3 →
      HandSPX.FlyingZ B (X.env :: X.outer) a (Zc cls d) h3 → H' a = none → s'.os = sI.os → AllBare s'.gens → Wout cls d σ' H' → wpAny (model X.prog X.w) X.A (handleBy (.ref a) X.env []) (SP X pins D) X.xe { s' with heap := h3 } := by
    intro a B sI s' σ' H' cls d h3 J nb up fl3 na os ag w
    refine wpAny_handleBy_nil ?_
    obtain ⟨k1, k2, k3, oe, vs, T, oT, ts', he, hz, hd, h1, hr⟩ := id fl3
    unfold PySem.passOn
    refine wpAny_bind (wpAny_field he hd h1 ?_)
    rw [if_neg (show ¬ ((Value.ref T == Value.none) = true) from by simp)]
    have fin : wpAny (model X.prog X.w) X.A (setFlight (.ref a) X.env.frame) (fun _ s4 => wpAny (model X.prog X.w) X.A (throw (.ref a) : Sem Flow) (SP X pins D) X.xe s4) X.xe { s' with heap := h3 } := by
      rw [hf]
      refine HandSPX.setFlight_upZ fl3 fun h4 hh4 up4 => wpAny_throw (tk _ _ ?_)
      exact ⟨a, B, sI, pins, σ', H', cls, d, rfl, J, nb, up.trans up4, .inr (.inr (by rw [hs]; exact hh4)), na, os, ag, w⟩
    first
      | exact wpAny_bind (wpAny_pure (wpAny_bind fin))
      | exact wpAny_bind fin
  refine wpAny_Try_except ?_
  refine wpAny_mono ((hb (wAs X.K c i ts Wout D) (X.pn ++ pins) (fun e s₁ => wpAny (model X.prog X.w) X.A (noteFrame e X.env) (fun _ s₂ => wpAny (model X.prog X.w) X.A (setFlight e none) (fun _ s₃ =>
    wpAny (model X.prog X.w) X.A (handleBy e X.env [.ExceptHandler (some (.Name x np)) (some n) (b₀ :: suite) pos']) (SP X pins D) X.xe s₃) X.xe s₂) X.xe s₁) (fun u s' xx => ?_) (fun u s' xx => ?_) PassesOwn.looking).run [] s σ H D (I.toTry _) h) (fun f s1 hsp => ?_) (fun e s1 he => he)
  · -- an exception whose context is None
    obtain ⟨a, B, sI, pins', σ', H', cls, d, rfl, J', nb, up, sky, na, os, ag, b, hb1, hyes, hno⟩ := xx
    have J : Inv X pins σ' H' sI := J'.ofTry ok
    have sky' : Sky B (X.env :: X.outer) a (L2N.Zn cls d) X.env.locals s'.heap := by rw [← hs]; exact sky
    show wpAny (model X.prog X.w) X.A (noteFrame (.ref a) X.env) _ _ _
    refine L2N.Sky.land L2N.Zn.steady hfr hf sky' fun h3 fl3 up3 => ?_
    have J3 : Inv X pins σ' H' { s' with heap := h3 } := J.landed nb fl3.1 (up.trans up3) os ag
    obtain ⟨oe3, vs3, he3, hz3, hd3⟩ := fl3.there
    have nfr : a ∉ frs (X.env :: X.outer) := notFr fl3.2.2.1 he3 hd3
    have nL : a ≠ X.env.locals := fun z => nfr (List.mem_filterMap.mpr ⟨X.env, List.mem_cons_self, by rw [hf, z]⟩)
    have nF : a ∉ X.fs := fun hm => by
      obtain ⟨e, he, q⟩ := List.mem_filterMap.mp hm
      exact nfr (List.mem_filterMap.mpr ⟨e, List.mem_cons_of_mem _ he, q⟩)
    have S3 := J3.suite he3 hd3 na nL nF
    refine wpAny_handleBy_cons (codeAny_handlers_test ?_) (by intro q; cases q)
    have LT : PySem.W.Looks (model X.prog X.w) h3 (typeOf (.ref a)) cls := fun A Q E s k q => wpAny_typeOf_ref (k _ _ he3) (by rw [hz3.1]; exact q)
    have LM := PySem.W.exm_one (M := model X.prog X.w) (J3.kIn) LT hb1
    have test : ∀ {Q : Value → Shared → Prop} {E : Value → Shared → Prop}, Q c { s' with heap := h3 } → wpAny (model X.prog X.w) (X.A.mark (some (.ref a))) (eval (.Name x np) X.env) Q E { s' with heap := h3 } := fun {Q E} q => by
      obtain ⟨hg, hdbg, hm | ⟨hm, hv, hnn⟩⟩ := hc
      · exact ld_glob (X := X.suite a ((a, oe3) :: (X.pn ++ pins))) S3 hg hm q hdbg
      · exact ld_blt (X := X.suite a ((a, oe3) :: (X.pn ++ pins))) S3 hg hm hv q hnn hdbg
    refine test (LM.here ?_)
    cases b with
    | true =>
      refine codeAny_handlers_suite_as ?_
      refine HandSPX.lands_againZ fl3 fun h4 fl4 up4 => ?_
      have J4 : Inv X pins σ' H' { s' with heap := h4 } := J.landed nb fl4.1 ((up.trans up3).trans up4) os ag
      obtain ⟨oe4, vs4, he4, hz4, hd4⟩ := fl4.there
      have S4 := J4.suite he4 hd4 na nL nF
      refine store_ok (X := suiteX X a ((a, oe4) :: (X.pn ++ pins))) (v := .ref a) (suiteX_of S4) hN hi hloc rfl (fun s5 S5 => ?_) (.inr hln)
      refine wpAny_mono ((hsu a oe4 cls d (X.pn ++ pins) _ hz4 ⟨_, hd4⟩ (takes_suiteE (hd := some (.ref a)) ok hs hf hN hi hln tk)).run [] s5 _ H' _ (show Inv (suiteE X a ((a, oe4) :: (X.pn ++ pins)) _) [] _ H' s5 from S5.wish _) (hyes rfl a na)) (fun f s6 hsp => ?_) (fun e6 s6 z => z)
      have end_ : ∀ {xe6 : Value → Shared → Prop} {σ6 : L2.St} {H6 : Hp} {Q : Shared → Prop}, Inv (suiteE X a ((a, oe4) :: (X.pn ++ pins)) xe6) [] σ6 H6 s6 → (∀ s7, Inv X pins (σ6.set i none) H6 s7 → Q s7) →
          wpAny (model X.prog X.w) X.A (do bindName X.env n .none; unbindBehindTheSuite X.env n pos') (fun _ s7 => Q s7) X.xe s6 := fun {xe6 σ6 H6 Q} S6 hq => gone_ok (unsuiteE S6 ok) hN hi hln hq
      cases f with
      | next =>
        obtain ⟨σ6, H6, S6, q6⟩ := hsp
        exact end_ S6 fun s7 J7 => ⟨_, _, J7, q6⟩
      | brk =>
        obtain ⟨σ6, H6, S6, q6⟩ := hsp
        exact end_ S6 fun s7 J7 => ⟨_, _, J7, q6⟩
      | cont =>
        obtain ⟨σ6, H6, S6, q6⟩ := hsp
        exact end_ S6 fun s7 J7 => ⟨_, _, J7, q6⟩
      | ret u =>
        obtain ⟨v6, σ6, H6, S6, r6, q6⟩ := hsp
        exact end_ S6 fun s7 J7 => ⟨_, _, _, J7, r6, q6⟩
    | false =>
      show wpAny _ X.A (handleBy (.ref a) X.env []) _ _ _
      exact flyOn J nb (up.trans up3) (flyingZ_imp (fun o z => z.zc) fl3) na os ag (hno rfl)
  · -- any other: the clause doesn't name it
    obtain ⟨a, B, sI, pins', σ', H', cls, d, rfl, J', nb, up, sky, na, os, ag, hb1, hno⟩ := xx
    have J : Inv X pins σ' H' sI := J'.ofTry ok
    have sky' : Sky B (X.env :: X.outer) a (Zc cls d) X.env.locals s'.heap := by rw [← hs]; exact sky
    show wpAny (model X.prog X.w) X.A (noteFrame (.ref a) X.env) _ _ _
    refine L2.Sky.land Zc.steady hfr hf sky' fun h3 fl3 up3 => ?_
    have J3 : Inv X pins σ' H' { s' with heap := h3 } := J.landed nb fl3.1 (up.trans up3) os ag
    obtain ⟨oe3, vs3, he3, hz3, hd3⟩ := fl3.there
    have nfr : a ∉ frs (X.env :: X.outer) := notFr fl3.2.2.1 he3 hd3
    have nL : a ≠ X.env.locals := fun z => nfr (List.mem_filterMap.mpr ⟨X.env, List.mem_cons_self, by rw [hf, z]⟩)
    have nF : a ∉ X.fs := fun hm => by
      obtain ⟨e, he, q⟩ := List.mem_filterMap.mp hm
      exact nfr (List.mem_filterMap.mpr ⟨e, List.mem_cons_of_mem _ he, q⟩)
    have S3 := J3.suite he3 hd3 na nL nF
    refine wpAny_handleBy_cons (codeAny_handlers_test ?_) (by intro q; cases q)
    have LT : PySem.W.Looks (model X.prog X.w) h3 (typeOf (.ref a)) cls := fun A Q E s k q => wpAny_typeOf_ref (k _ _ he3) (by rw [hz3.1]; exact q)
    have LM := PySem.W.exm_one (M := model X.prog X.w) (J3.kIn) LT hb1
    have test : ∀ {Q : Value → Shared → Prop} {E : Value → Shared → Prop}, Q c { s' with heap := h3 } → wpAny (model X.prog X.w) (X.A.mark (some (.ref a))) (eval (.Name x np) X.env) Q E { s' with heap := h3 } := fun {Q E} q => by
      obtain ⟨hg, hdbg, hm | ⟨hm, hv, hnn⟩⟩ := hc
      · exact ld_glob (X := X.suite a ((a, oe3) :: (X.pn ++ pins))) S3 hg hm q hdbg
      · exact ld_blt (X := X.suite a ((a, oe3) :: (X.pn ++ pins))) S3 hg hm hv q hnn hdbg
    refine test (LM.here ?_)
    show wpAny _ X.A (handleBy (.ref a) X.env []) _ _ _
    exact flyOn J nb (up.trans up3) fl3 na os ag hno
  · cases f with
    | next =>
      obtain ⟨σ', H', J', q⟩ := hsp
      exact wpAny_execs_nil ⟨σ', H', J'.ofTry ok, q⟩
    | brk =>
      obtain ⟨σ', H', J', q⟩ := hsp
      exact ⟨σ', H', J'.ofTry ok, q⟩
    | cont =>
      obtain ⟨σ', H', J', q⟩ := hsp
      exact ⟨σ', H', J'.ofTry ok, q⟩
    | ret u =>
      obtain ⟨v, σ', H', J', r, q⟩ := hsp
      exact ⟨v, σ', H', J'.ofTry ok, r, q⟩
end
end L2H
namespace Sb
open PySem PySem.Spec PyProof.Rows L2
/-! ### o.m(..) where the wish about its exceptions knows the locals -/
def tMethE (C : Addr) (m : Str) (sp : Sp) (E : L2.St → XK) (ta : TE) (t : TA) : TE := fun σ H Q => ta σ H fun x H1 => ∃ a dx fs, x = .ref a ∧ H1 a = some (.ins C dx fs) ∧ fs.lookup m = none ∧ t σ H1 fun vs H2 => sp (x :: vs) H2 Q (E σ)
theorem pe_methE {X : Cx} {CX : CXT} {k : Nat} {f C : Addr} {fd : FuncData} {ps : List Str} {sp : Sp} {E : L2.St → XK} {m : Str} {pos apos : Pos} {e o : Expr} {es : List Expr} {ta : TE} {t : TA} {pl : Sem Bool} (he : PE X o ta) (c : Cls X.K C) (hm : Meth X.K C m f) (F : FnOk X.prog X.w X.K X.mg X.base CX k f fd ps sp) (hr : Room k X.A) (hb : Binds X.K fd ps []) (hx : ∀ σ, PassesAt CX X σ (E σ)) (ha : PA X (e :: es) t)
    (hst : starEach (e :: es) X.env = (false, eval e X.env) :: starEach es X.env := by rfl) (hpl : (backTo pos (starEach es X.env)).any (·.1) = false := by rfl)
    (ht : eval (.Call (.Attribute o m apos) (e :: es) [] pos) X.env = (do
      let ov ← eval o X.env
      standAt apos.atName
      let (f, first) ← holding [ov] (getMethod ov m pl)
      callWith pos f first (backTo pos (starEach (e :: es) X.env)) (backToKw pos (keywordEach [] X.env))) := by rfl) :
    PE X (.Call (.Attribute o m apos) (e :: es) [] pos) (tMethE C m sp E ta t) := by
  refine ⟨fun pins s σ H Q I h => ?_⟩
  refine PySem.W.methodCall_KW (pl := pl) (thn (he.run pins s σ H _ I h) fun u s1 ⟨x, H1, I1, rx, a, dx, fs, ex, ea, l, q⟩ => ?_) ht
  subst ex
  obtain rfl : u = Value.ref a := rx
  refine getmeth_ok I1 ea c hm l ?_
  refine PySem.W.callWith_K (first := [.ref a]) (h₀ := X.base) I.ok.mod.kin hm.kp (thn (ha.run pos pins s1 σ H1 _ I1 q) fun us s2 ⟨vs, H2, I2, r, q2⟩ => ⟨I2.kIn, ?_⟩) hst hpl
  exact run_fnS (us := .ref a :: us) (vs := .ref a :: vs) F hr hb (hx σ) I2 (.cons rfl r) q2
/-! ### promises joined, promises that let out nothing -/
section
variable {P : Program} {w : World} {K : PySem.W.Frag} {mg : Str → Option Value} {base : Heap} {CX : CXT} {k : Nat} {f : Addr} {fd : FuncData} {ps : List Str} {sp sp' : Sp}
theorem fnOk_or (F : FnOk P w K mg base CX k f fd ps sp) (G : FnOk P w K mg base CX k f fd ps sp') : FnOk P w K mg base CX k f fd ps (fun vs H Q E => sp vs H Q E ∨ sp' vs H Q E) :=
  ⟨fun vs H Q E h => h.elim (F.len vs H Q E) (G.len vs H Q E), fun A outer s H args us vs Q E hr e0 hb r h => h.elim (F.run A outer s H args us vs Q E hr e0 hb r) (G.run A outer s H args us vs Q E hr e0 hb r)⟩
theorem fnOk_any (F : FnOk P w K mg base CX0 k f fd ps sp) : FnOk P w K mg base CX k f fd ps sp :=
  ⟨F.len, fun A outer s H args us vs Q E hr e0 hb r h => codeAny_mono (F.run A outer s H args us vs Q E hr e0 hb r h) fun r s' q => by
    cases r with
    | error e => exact False.elim q
    | ok fl => cases fl <;> exact q⟩
end
end Sb

namespace Sb
open PySem PySem.Spec PyProof.Rows L2
/-! ### an exception that leaves a list comprehension's block -/
theorem note_same {e1 e2 : Env} (h : e1.frame = e2.frame) (x : Value) : noteFrame x e1 = noteFrame x e2 := by
  unfold noteFrame PySem.frameOf
  rw [h]
section
variable {M : Model} {A : Around} {E : Value → Shared → Prop} {s : Shared} {Z : Obj → Prop} {base : Heap} {env : Env} {outer l : List Env} {L C e : Addr}
/-- noted elsewhere before -/
theorem looks_elseZ {fl : Value} {Q : Unit → Shared → Prop} (hZ : HandSPX.Steady Z) (hfr : A.frames = some (env :: outer)) (hf : env.frame = some L) (hne : (fl == rawInt L) = false) (b1 : base.StaysIn s.heap) (b0 : base.get? e = none) (ff : s.heap.FunFrames base (env :: outer)) (tz : HandSPX.TracedZ s.heap base e Z fl)
    (hQ : ∀ h2, HandSPX.HeldZ base (env :: outer) e Z L h2 → s.heap.UpToSlots h2 → Q () { s with heap := h2 }) : wpAny M A (noteFrame (.ref e) env) Q E s := by
  obtain ⟨oe, vs, T, oT, ts, he, hz, hd, h1, nT, neT, hT, hdT, h3⟩ := tz
  unfold noteFrame
  simp only [hf]
  refine wpAny_bind (wpAny_field he hd h1 ?_)
  rw [if_pos (show (Value.ref T != Value.none) = true from by simp)]
  refine wpAny_bind (wpAny_field hT hdT h3 ?_)
  rw [if_neg (show ¬ ((fl == rawInt L) = true) from by rw [hne]; exact Bool.false_ne_true)]
  refine wpAny_bind (wpAny_setField hT hdT (Array.getElem?_eq_some_iff.mp h3).1 ?_)
  have off : ∀ b, b ≠ T → (s.heap.update T (Obj.mapFields (·.setIfInBounds 3 Value.none))).get? b = s.heap.get? b := fun b hb => Heap.get?_update_other _ _ (Ne.symm hb)
  have nrec : ∀ b o, s.heap.get? b = some o → (∀ vs, o.data ≠ .fields vs) → b ≠ T := fun b o hb hnf q => by
    rw [q, hT] at hb
    injection hb with hb
    subst hb
    exact hnf ts hdT
  refine HandSPX.wpAny_entryZ hZ hfr (ff.of_keeps fun b o hb hnf => ⟨o, (off b (nrec b o hb hnf)).trans hb, rfl⟩) hf ((off e (Ne.symm neT)).trans he)
    (fun b o hbo => (off b fun q => by rw [q, nT] at hbo; cases hbo).trans (b1 b o hbo)) b0 hd (Array.getElem?_eq_some_iff.mp h1).1 hz fun h2 hN => ?_
  obtain ⟨x1, x2, x3, x4⟩ := hN
  exact hQ h2 ⟨x1, b0, x2, x3⟩ fun b o hb hnf => x4 b o ((off b (nrec b o hb hnf)).trans hb) hnf
theorem sky_noteC {Q : Unit → Shared → Prop} (hZ : HandSPX.Steady Z) (hfr : A.frames = some (env :: outer)) (hf : env.frame = some L) (hC : C ≠ L)
    (x : Sky base (env :: outer) e Z C s.heap) (hQ : ∀ h2, HandSPX.HeldZ base (env :: outer) e Z L h2 → s.heap.UpToSlots h2 → Q () { s with heap := h2 }) : wpAny M A (noteFrame (.ref e) env) Q E s := by
  rcases x with ⟨hB, hn, hl, oe, vs, he, hz, hd, h1⟩ | fl | hh
  · exact HandSPX.look_newZ hZ hfr hl hf he hB hn hd h1 hz hQ
  · exact HandSPX.looks_onZ hZ hfr hf fl hQ
  · obtain ⟨b1, b0, ff, tz⟩ := hh
    refine looks_elseZ hZ hfr hf ?_ b1 b0 ff tz hQ
    have q : (C : Int) ≠ (L : Int) := fun z => hC (Int.ofNat_inj.mp z)
    unfold rawInt
    simpa using q
/-- the block's names go -/
theorem held_hide {h h2 : Heap} {m m2 : Str → Option Value} (x : HandSPX.HeldZ base l e Z L h) (hn : h.Ns C m) (hn2 : h2.Ns C m2) (sb : Heap.SameBut C h h2) : HandSPX.HeldZ (PySem.W.hideAll base [C]) l e Z L h2 := by
  obtain ⟨b1, b0, ff, tz⟩ := x
  have hid : ∀ b, base.get? b = none → (PySem.W.hideAll base [C]).get? b = none := fun b q => by
    cases z : (PySem.W.hideAll base [C]).get? b with
    | none => rfl
    | some o =>
      have y := PySem.W.of_hideAll _ z
      rw [q] at y
      cases y
  have f2 : h2.FunFrames base l := Heap.FunFrames.sameBut sb hn2 ff
  refine ⟨fun b o hb => ?_, hid _ b0, funFrames_none f2 fun b hb => hid _ (f2.mem hb).1, ?_⟩
  · have nb : b ≠ C := fun q => by
      rw [q, PySem.W.hideAll_none [C] (List.mem_singleton.mpr rfl)] at hb
      cases hb
    exact (sb.2 b nb).trans (b1 b o (PySem.W.of_hideAll _ hb))
  · obtain ⟨oe, vs, T, oT, ts, he, hz, hd, h1, nT, neT, r⟩ := L2H.tracedZ_but tz hn sb
    exact ⟨oe, vs, T, oT, ts, he, hz, hd, h1, hid _ nT, neT, r⟩
end
/-- the context of a block that starts at s, with a wish about what its element raises -/
abbrev blkE (X : Cx) (s : Shared) (H : Hp) (scope : Scope) (cenv : Env) (fp : List Addr) (xe : Value → Shared → Prop) : Cx := { X.blk s H scope cenv fp with xe := xe }
section
variable {X : Cx} {pins : List (Addr × Obj)} {σ : L2.St} {H : Hp} {s : Shared}
theorem xe_blk {scope : Scope} {ce : Env} {fp : List Addr} {xe : Value → Shared → Prop} {Wout : WX} (I : Inv X pins σ H s) (hs : X.stack = X.env :: X.outer) (hf : X.env.frame = some X.env.locals) (hfp : ∀ b ∈ fp, FpOk X pins H b) (tk : L2.Takes X Wout) (cl : ce.locals = s.heap.objs.size) (cf : ce.frame = X.env.frame)
    {u : Value} {s' : Shared} (x : XE (blkE X s H scope ce fp xe) (fun cls d _ H' => Wout cls d σ H') u s') : notedBy (model X.prog X.w) X.A ce (CompFails (model X.prog X.w) X.A X.xe ce) u s' := by
  obtain ⟨a, B, sI, pb, σb, Hb, cls, d, rfl, Ib, nb, up, sky, na, os, ag, w⟩ := x
  have I7 : Inv X pins σ Hb sI := I.call' (ch := fp) Ib.os Ib.base Ib.hok Ib.bare fun b hb => ⟨(hfp b hb).2.2.2.1, (hfp b hb).2.1, (hfp b hb).2.2.2.2.1, (hfp b hb).2.2.2.2.2⟩
  have nC : Hb s.heap.objs.size = none := by
    have z : Hb ce.locals = none := Ib.free
    rw [cl] at z
    exact z
  have fpC : FpOk X pins Hb s.heap.objs.size := I.fpOk (Nat.le_refl _) nC
  obtain ⟨m, hn, _⟩ := Ib.loc
  have hn : sI.heap.Ns ce.locals m := hn
  rw [cl] at hn
  have hfr : X.A.frames = some (X.env :: X.outer) := by rw [I.ok.frames, hs]
  have sky2 : Sky B (X.env :: X.outer) a (Zc cls d) s.heap.objs.size s'.heap := by
    rw [← hs, ← cl]
    exact sky
  show wpAny _ _ (noteFrame (.ref a) ce) _ _ s'
  rw [note_same cf]
  refine sky_noteC Zc.steady hfr hf fpC.2.1 sky2 fun h3 hh3 up3 => ?_
  refine ⟨m, by rw [cl]; exact (up.trans up3).ns hn, fun h4 m4 hn4 sb4 => ?_⟩
  rw [cl] at hn4 sb4
  have hh4 := held_hide hh3 ((up.trans up3).ns hn) hn4 sb4
  obtain ⟨oe, vs, T, oT, ts, he, hz, hd, h1, nT, neT, hT, hdT, h3'⟩ := id hh4.2.2.2
  unfold PySem.passOn
  refine wpAny_bind (wpAny_field he hd h1 ?_)
  rw [if_neg (show ¬ ((Value.ref T == Value.none) = true) from by simp)]
  rw [cf, hf]
  have fin : wpAny (model X.prog X.w) X.A (setFlight (.ref a) (some X.env.locals)) (fun _ s5 => wpAny (model X.prog X.w) X.A (throw (.ref a) : Sem Value) (fun _ _ => False) X.xe s5) X.xe { s' with heap := h4 } := by
    refine HandSPX.setFlight_onZ hh4 fun h5 hh5 up5 => wpAny_throw (tk _ _ ?_)
    have neC : ∀ {b : Addr} {o : Obj} {g : Heap}, (PySem.W.hideAll g [s.heap.objs.size]).get? b = some o → b ≠ s.heap.objs.size := fun {b o g} e q => by
      rw [q, PySem.W.hideAll_none [s.heap.objs.size] (List.mem_singleton.mpr rfl)] at e
      cases e
    refine ⟨a, _, { sI with heap := PySem.W.hideAll sI.heap [s.heap.objs.size] }, pins, σ, Hb, cls, d, rfl, ?_, fun b o e hb => ?_, fun b o e hnf => ?_, .inr (.inr (by rw [hs]; exact hh5)), na, os, ag, w⟩
    · exact I7.turned (t' := sI.toks) (it := s.heap.objs.size) (fun b o hb e => PySem.W.hideAll_get _ e (by simpa using hb)) nC fpC.2.1 fpC.2.2.2.1 fpC.2.2.2.2.1 fpC.2.2.2.2.2
    · exact PySem.W.hideAll_get _ (nb b o (PySem.W.of_hideAll _ e) hb) (by simpa using neC e)
    · obtain ⟨sl, e1⟩ := (up.trans up3) b o (PySem.W.of_hideAll _ e) hnf
      have e2 : h4.get? b = some { o with slots := sl } := (sb4.2 b (neC e)).trans e1
      obtain ⟨sl2, e3⟩ := up5 b _ e2 hnf
      exact ⟨sl2, e3⟩
  first
    | exact wpAny_bind (wpAny_pure (wpAny_bind fin))
    | exact wpAny_bind fin
end
section
variable {X : Cx}
theorem pe_lcX {elt tg iter : Expr} {ifs : List Expr} {scope : Scope} {own : List (Str × Nat)} {pos : Pos} {wi : TI} {g : TG} {tt : TT} {te : XK → TE} {Wout : WX} (hc : X.calm = true) (hN : X.N.Nodup) (hs : X.stack = X.env :: X.outer) (hf : X.env.frame = some X.env.locals) (tk : L2.Takes X Wout) (hi : PI X tg iter wi) (ok : BlkOk X.N X.env.scope scope own)
    (hg : ∀ (s : Shared) (H : Hp) (C : Addr) (cl : List (Str × Addr)) (fp : List Addr), PG (X.blk s H scope (compEnvC scope cl C X.env) fp) tg g) (ht : ∀ (s : Shared) (H : Hp) (C : Addr) (cl : List (Str × Addr)) (fp : List Addr), PTs (X.blk s H scope (compEnvC scope cl C X.env) fp) ifs tt)
    (he : ∀ (s : Shared) (H : Hp) (C : Addr) (cl : List (Str × Addr)) (fp : List Addr) (xe : Value → Shared → Prop) (W : XK), L2.Takes (blkE X s H scope (compEnvC scope cl C X.env) fp xe) (fun cls d _ H' => W cls d H') → PE (blkE X s H scope (compEnvC scope cl C X.env) fp xe) elt (te W))
    (hfs : ∀ x, foldedSetIterable iter X.env x = pure x := by intro _; rfl) :
    PE X (.ListComp elt [⟨tg, iter, ifs, 0⟩] scope pos) (fun σ H Q => tLc wi g tt (te fun cls d H' => Wout cls d σ H') (own.map (·.2)) σ H Q) := by
  refine ⟨fun pins s σ H Q I hq => ?_⟩
  rw [eval_ListComp]
  have nof : ∀ y ∈ scope.names, y.2 = .free → ∃ c, X.env.cells.lookup y.1 = some c := fun y hy e => (ok.free y hy e).elim (fun k => I.ok.has _ (.inl k)) fun k => I.ok.has _ (.inr k)
  refine comprehension_at (use := none) rfl hfs (closure_ok nof) ok.kind (fun y hy e => by rw [ok.uniq y hy, e])
    (thn (hi.run pins s σ H _ I hq) fun xv s1 hx => thn hx fun itv s2 h2 => ?_)
  obtain ⟨it, fp, tn, J, H2, e, I2, T, st2, f2, q⟩ := h2
  subst e
  refine wpAny_newObj_type (newEnv_comp ?_) (by show 0 ≤ sizeLine; decide)
  generalize hD : s2.heap.objs.size = D
  have freshD : H2 D = none := I2.hok.fresh (Nat.le_of_eq hD)
  obtain ⟨W, ⟨m0, w0⟩, turn⟩ := q D freshD
  generalize hs3 : ({ s2 with heap := s2.heap.push { cls := .type "list", data := .seq ([] : List Value).toArray } } : Shared) = s3
  have h3 : s3.heap = s2.heap.push { cls := .type "list", data := .seq ([] : List Value).toArray } := by rw [← hs3]
  have I3 : Inv X pins σ (upd H2 D (.lst [])) s3 := by
    rw [← hs3]
    refine I2.laid (t' := s2.toks) (fun b o z => Heap.get?_push_of_some _ z) (Nat.le_of_eq hD) ⟨Nat.zero_le _, [], 0, .nil, ?_⟩
    rw [← hD]
    exact Heap.get?_push_size _ rfl
  have f3 : ∀ b ∈ fp, FpOk X pins (upd H2 D (.lst [])) b ∧ b < s3.heap.objs.size := fun b hb => by
    obtain ⟨ob, eb, _⟩ := T.obj _ _ st2 b hb
    have hlt := Heap.lt_size eb
    have nbD : b ≠ D := by rw [← hD]; exact Nat.ne_of_lt hlt
    exact ⟨⟨(upd_ne nbD).trans (f2 b hb).1, (f2 b hb).2⟩, by rw [h3, Heap.size_push]; exact Nat.lt_succ_of_lt hlt⟩
  have st3 : tn 0 s3.heap := T.keep _ _ _ st2 fun b _ o z => by rw [h3]; exact Heap.get?_push_of_some _ z
  have I4 := block_start I3 ok hN f3
  have pg := hg s3 (upd H2 D (.lst [])) s3.heap.objs.size (cellsFrom (s3.heap.objs.size + 1) scope.names (cloFrom X.env.cells scope.names [])) fp
  have pt := ht s3 (upd H2 D (.lst [])) s3.heap.objs.size (cellsFrom (s3.heap.objs.size + 1) scope.names (cloFrom X.env.cells scope.names [])) fp
  have pe := fun xe => he s3 (upd H2 D (.lst [])) s3.heap.objs.size (cellsFrom (s3.heap.objs.size + 1) scope.names (cloFrom X.env.cells scope.names [])) fp xe
  show codeAny _ _ (.compStart (.ListComp elt [⟨tg, iter, ifs, 0⟩] scope pos) 0 (.ref it) (.ref D) (compEnvC scope (cellsFrom (s3.heap.objs.size + 1) scope.names (cloFrom X.env.cells scope.names [])) s3.heap.objs.size X.env))
    (compEnds (model X.prog X.w) X.A X.xe none _ (.ref D) (compEnvC scope (cellsFrom (s3.heap.objs.size + 1) scope.names (cloFrom X.env.cells scope.names [])) s3.heap.objs.size X.env)) { s3 with heap := pushCells (s3.heap.push { cls := .type "dict", data := .dict #[] }) scope.names }
  have nfp : ∀ b ∈ fp, (upd H2 D (.lst [])) b = none := fun b hb => (f3 b hb).1.1
  have cF : (compEnvC scope (cellsFrom (s3.heap.objs.size + 1) scope.names (cloFrom X.env.cells scope.names [])) s3.heap.objs.size X.env).frame = X.env.frame := rfl
  generalize hce : compEnvC scope (cellsFrom (s3.heap.objs.size + 1) scope.names (cloFrom X.env.cells scope.names [])) s3.heap.objs.size X.env = ce at I4 pg pt pe cF ⊢
  have cL : ce.locals = s3.heap.objs.size := by subst hce; rfl
  generalize hH3 : upd H2 D (.lst []) = H3 at I3 I4 pg pt pe w0 nfp f3
  generalize hs4 : ({ s3 with heap := pushCells (s3.heap.push { cls := .type "dict", data := .dict #[] }) scope.names } : Shared) = s4 at I4 ⊢
  have st4 : tn 0 s4.heap := T.keep _ _ _ st3 fun b _ o z => by rw [← hs4]; exact pushCells_keeps _ _ _ _ (Heap.get?_push_of_some _ z)
  have stat : ∀ {σ' : L2.St} {H' : Hp} {s' : Shared}, Inv (X.blk s3 H3 scope ce fp) [] σ' H' s' → (∀ b ∈ fp, H' b = none) → ∀ b ∈ fp, FpOk (X.blk s3 H3 scope ce fp) [] H' b := fun {σ' H' s'} K hn b hb =>
    ⟨hn b hb, (K.ok.exf b hb).1, K.ok.exfs b hb, .inl hb, fun x c z => (K.ok.exf b hb).2 x c z, fun p hp => absurd (show p ∈ ([] : List (Addr × Obj)) ++ [] from hp) (by simp)⟩
  have tkB : L2.Takes (blkE X s3 H3 scope ce fp (notedBy (model X.prog X.w) X.A ce (CompFails (model X.prog X.w) X.A X.xe ce))) (fun cls d _ H' => Wout cls d σ H') := fun u s' x => xe_blk I3 hs hf (fun b hb => (f3 b hb).1) tk cL cF x
  have loop : codeAny (model X.prog X.w) X.A (.compLoop (.ListComp elt [⟨tg, iter, ifs, 0⟩] scope pos) 0 (.ref it) (.ref D) ce) (compEnds (model X.prog X.w) X.A X.xe none (EP X pins σ Q) (.ref D) ce) s4 := by
    refine compLoop_any (fun n sn => ∃ i Hn, Inv (X.blk s3 H3 scope ce fp) [] (wipe σ (own.map (·.2))) Hn sn ∧ tn i sn.heap ∧ (∀ b ∈ fp, Hn b = none) ∧ W i n Hn) ?_ m0 ⟨0, H3, I4, st4, nfp, w0⟩
    rintro n s5 ⟨i, H5, I5, st5, n5, w5⟩
    rcases turn i n H5 w5 with ⟨stop, qq⟩ | ⟨go, Nx, hNx, step⟩
    · refine thnF (T.done (X.blk s3 H3 scope ce fp) rfl rfl rfl hc i [] s5 _ H5 (fun _ _ => False) I5 (stat I5 n5) st5 stop) fun r s6 ⟨hr, I6⟩ => ?_
      subst hr
      have I7 : Inv X pins σ H5 s6 := I3.call' (ch := fp) I6.os I6.base I6.hok I6.bare fun b hb => ⟨(f3 b hb).1.2.2.2.1, (f3 b hb).1.2.1, (f3 b hb).1.2.2.2.2.1, (f3 b hb).1.2.2.2.2.2⟩
      have nC : H5 s3.heap.objs.size = none := by
        have z : H5 ce.locals = none := I6.free
        rw [cL] at z
        exact z
      obtain ⟨m, hn, _⟩ := I6.loc
      have hn : s6.heap.Ns ce.locals m := hn
      obtain ⟨g0, g1, g2, g3, g4, g5⟩ := I3.fpOk (Nat.le_refl _) nC
      refine ⟨m, hn, fun h7 sb7 => ⟨.ref D, H5, I7.turned (t' := s6.toks) (fun b o hb z => ?_) g0 g1 g3 g4 g5, rfl, qq⟩⟩
      rw [cL] at sb7
      exact (sb7.2 b hb).trans z
    · refine thnF (T.item (X.blk s3 H3 scope ce fp) rfl rfl rfl hc i [] s5 _ H5 (fun _ _ => False) I5 (stat I5 n5) st5 go) fun r s6 ⟨u, hr, h6⟩ => ?_
      subst hr
      refine thnF h6 fun _ s7 ⟨x, H7, I7, r7, y7, st7, n7⟩ => ?_
      have P7 := I7.pinned (stat I7 n7) (T.obj _ _ st7)
      refine thnF (pg.run _ s7 _ H7 x u _ P7 r7 (step x H7 y7)) fun _ s8 ⟨σ8, H8, I8, hw8, q8⟩ => ?_
      refine thnF (pt.run _ s8 σ8 H8 _ I8 q8) fun b s9 ⟨H9, I9, q9⟩ => ?_
      have fin : ∀ {sn : Shared} {Hn : Hp}, Inv (X.blk s3 H3 scope ce fp) ([] ++ pinsAt fp s7.heap) σ8 Hn sn → Nx Hn → ∃ m, m < n ∧ ∃ i Hn, Inv (X.blk s3 H3 scope ce fp) [] (wipe σ (own.map (·.2))) Hn sn ∧ tn i sn.heap ∧ (∀ b ∈ fp, Hn b = none) ∧ W i m Hn := fun {sn Hn} K nx => by
        obtain ⟨m2, hm, w2⟩ := hNx Hn nx
        have pin2 : ∀ b ∈ fp, ∀ o, s7.heap.get? b = some o → sn.heap.get? b = some o ∧ Hn b = none := fun b hb o z =>
          let y := K.pin (b, o) (List.mem_append_right _ (List.mem_append_right _ (mem_pinsAt hb z)))
          ⟨y.1, y.2.1⟩
        have hl : (wipe σ (own.map (·.2))).length = σ8.length := by rw [← hw8, wipe_length]
        refine ⟨m2, hm, i + 1, Hn, (K.unpinned (pins := [])).weak hl (fun j v z => ?_), T.keep _ _ _ st7 fun b hb o z => (pin2 b hb o z).1, fun b hb => ?_, w2⟩
        · rw [← hw8] at z
          exact (wipe_some z).1
        · obtain ⟨ob, eb, _⟩ := T.obj _ _ st7 b hb
          exact (pin2 b hb ob eb).2
      cases b with
      | false =>
        simp only [Bool.false_eq_true, if_false] at q9 ⊢
        exact fin I9 q9
      | true =>
        simp only [if_true] at q9 ⊢
        have IE : Inv (blkE X s3 H3 scope ce fp (notedBy (model X.prog X.w) X.A ce (CompFails (model X.prog X.w) X.A X.xe ce))) ([] ++ pinsAt fp s7.heap) σ8 H9 s9 := I9.wish _
        refine wpAny_mono ((pe _ _ tkB).run _ s9 σ8 H9 _ IE q9) (fun z s10 ⟨yv, H10, I10, r10, acc, hD10, hz10, nx⟩ => ?_) fun e6 s6 z => z
        exact app_ok (X := X.blk s3 H3 scope ce fp) (I10.wish (X := blkE X s3 H3 scope ce fp _) (X.blk s3 H3 scope ce fp).xe) hD10 hz10 r10 fun s11 I11 => fin I11 nx
  exact codeAny_compStart_list loop (T.self X.A 0 _ _ _ st4 loop)
end
end Sb

namespace Sb
open PySem PySem.Spec PyProof.Rows L2 LamX NdefX
/-! ### a lambda as a value, with written defaults or without; lists of lambdas; calls that may raise -/
abbrev fnD (q : Str) (params : Arguments) (body : Expr) (scope : Scope) (cl : List (Str × Addr)) (pm cdv tv dV : Value) : FuncData := { PySem.W.kla_fn "<lambda>" q params body scope cl pm cdv tv with defaults := dV }
abbrev lamD (q : Str) (params : Arguments) (body : Expr) (scope : Scope) (cl : List (Str × Addr)) (pm : Value) (c' : Addr) (tv dV : Value) : Obj := { cls := .type "function", data := .func (fnD q params body scope cl pm (.ref c') tv dV) }
abbrev tupD (its : List Value) : Obj := { cls := .type "tuple", data := .seq its.toArray }
/-- the defaults that stand -/
def DfAt (dV : Value) (vs : List V) (H : Hp) : Prop := (vs = [] ∧ dV = .none) ∨ ∃ (t : Addr) (its : List Value), vs ≠ [] ∧ dV = .ref t ∧ H t = some (Fz (tupD its)) ∧ Vals vs its
/-- the lambda at f -/
structure LamAt (f c' : Addr) (q : Str) (params : Arguments) (body : Expr) (scope : Scope) (cl : List (Str × Addr)) (vs : List V) (H : Hp) : Prop where
  ex : ∃ (pm tv dV : Value), H f = some (Fz (lamD q params body scope cl pm c' tv dV)) ∧ DfAt dV vs H
  cd : H c' = some (CodeO c' q)
theorem DfAt.ext {dV : Value} {vs : List V} {H H' : Hp} (h : DfAt dV vs H) (m : ∀ b o, H b = some (Fz o) → H' b = some (Fz o)) : DfAt dV vs H' := h.imp id fun ⟨t, its, n, e, a, r⟩ => ⟨t, its, n, e, m _ _ a, r⟩
theorem LamAt.ext {f c' : Addr} {q : Str} {params : Arguments} {body : Expr} {scope : Scope} {cl : List (Str × Addr)} {vs : List V} {H H' : Hp} (h : LamAt f c' q params body scope cl vs H) (m : ∀ b o, H b = some o → (∀ ps, o ≠ .tbl ps) → H' b = some o) : LamAt f c' q params body scope cl vs H' := by
  obtain ⟨⟨pm, tv, dV, e, d⟩, c⟩ := h
  have nf : ∀ (o : Obj) (ps : Array Value), Fz o ≠ .tbl ps := fun o ps z => by
    unfold Fz at z
    cases z
  exact ⟨⟨pm, tv, dV, m _ _ e (nf _), d.ext fun b o z => m b _ z (nf _)⟩, m _ _ c codeO_ne⟩
section
variable {M : Model} {A : Around} {E : Value → Shared → Prop} {s : Shared} {q : Str} {params : Arguments} {body : Expr} {scope : Scope} {env : Env} {c P : Addr} {ps : Array Value} {pos : Pos} {line : Nat} {mg : Str → Option Value} {clos : List (Str × Addr)} {Q : Value → Shared → Prop} {dV : Value}
theorem tail_new (hcl : closureFor scope env = pure clos) (glb : env.globals = mainGlobals) (ns : s.heap.Ns mainGlobals mg) (code : env.code = .ref c) (C : PySem.W.CodeHd s.heap c P) (atP : s.heap.get? P = some { cls := .none, data := .fields ps }) (tri : TriplesOk ps.toList)
    (miss : codeAmong pos ps.toList = none) (gP : mainGlobals ≠ P) (bm : s.heap.BuiltinsAt mg P)
    (k : ∀ c' tv h2 tk, Heap.ExtBut P s.heap h2 → s.heap.objs.size ≤ c' → c' < h2.objs.size → h2.CodeRec (.ref c') q → h2.get? P = some { cls := .none, data := .fields (ps ++ #[rawInt pos.line, rawInt pos.col, .ref c']) } →
      Q (.ref h2.objs.size) { s with heap := h2.push (lamD q params body scope clos ((mg "__name__").getD .none) c' tv dV), toks := tk }) :
    wpAny M A (makeTail "<lambda>" q params (.expr body) scope env dV .none none pos line) Q E s := by
  obtain ⟨bt, ob, e1, ne0, _, neP, e2, e3, e4, e5⟩ := bm
  unfold makeTail
  rw [hcl, glb]
  refine wpAny_bind (wpAny_pure ?_)
  have goes : ∀ (tv : Value) (s0 : Shared), (∀ b o, s.heap.get? b = some o → s0.heap.get? b = some o) → s.heap.objs.size ≤ s0.heap.objs.size → s0.gens = s.gens → s0.drawn = s.drawn → s0.os = s.os →
      wpAny M A (do
        let cd ← functionCode env pos line "<lambda>" q params scope (.expr body)
        let bl ← builtinsFor mainGlobals env.builtins
        let nm ← nsGet mainGlobals "__name__"
        let dc ← (pure .none : Sem Value)
        newObj (.type "function") (.func { name := "<lambda>", qualname := q, params, body := .expr body, scope, globals := mainGlobals, closure := clos, closureTuple := tv, code := cd, builtins := bl, defaults := dV, kwdefaults := .none, annotations := none, pyModule := nm.getD .none, doc := dc })) Q E s0 := fun tv s0 k0 z0 g0 d0 o0 => by
    refine wpAny_bind (wpAny_functionCodeX code ((C.keeps k0).code (k0 _ _ atP) tri) ((C.keeps k0).tab (k0 _ _ atP)) miss fun c' h2 tk hx hge hlt _ hrec htb _ => ?_)
    have ns2 := (ns.keeps k0).extBut hx gP
    have hx2 : Heap.ExtBut P s.heap h2 := fun b o hb e => hx b o hb (k0 _ _ e)
    refine wpAny_bind (wpAny_builtinsFor ns2 e1 ne0 (hx2 _ _ neP e2) e3 e4 e5 ?_)
    refine wpAny_bind (wpAny_nsGet ns2 ?_)
    obtain ⟨sh, sg, sd, st, so⟩ := s0
    dsimp only at g0 d0 o0
    subst g0 d0 o0
    exact wpAny_bind (wpAny_pure (wpAny_newObj_type (k c' tv h2 tk hx2 (Nat.le_trans z0 hge) hlt hrec htb.2) (by size_fits)))
  cases clos with
  | nil =>
    simp only [List.isEmpty_nil, if_true]
    exact wpAny_bind (wpAny_pure (goes .none s (fun _ _ e => e) (Nat.le_refl _) rfl rfl rfl))
  | cons x r =>
    simp only [List.isEmpty_cons, Bool.false_eq_true, if_false]
    refine wpAny_bind (wpAny_newTextTuple ?_)
    exact goes _ _ (fun b o e => Heap.get?_push_of_some _ e) (by rw [Heap.size_push]; omega) rfl rfl rfl
theorem tail_hit {cv : Value} (hcl : closureFor scope env = pure clos) (glb : env.globals = mainGlobals) (ns : s.heap.Ns mainGlobals mg) (code : env.code = .ref c) (C : PySem.W.CodeHd s.heap c P) (atP : s.heap.get? P = some { cls := .none, data := .fields ps }) (tri : TriplesOk ps.toList)
    (hit : codeAmong pos ps.toList = some cv) (bm : s.heap.BuiltinsAt mg P)
    (k : ∀ (tv : Value) (h2 : Heap) (tk : Tok), (∀ b o, s.heap.get? b = some o → h2.get? b = some o) → s.heap.objs.size ≤ h2.objs.size →
      Q (.ref h2.objs.size) { s with heap := h2.push { cls := .type "function", data := .func (fnD q params body scope clos ((mg "__name__").getD .none) cv tv dV) }, toks := tk }) :
    wpAny M A (makeTail "<lambda>" q params (.expr body) scope env dV .none none pos line) Q E s := by
  obtain ⟨bt, ob, e1, ne0, _, neP, e2, e3, e4, e5⟩ := bm
  unfold makeTail
  rw [hcl, glb]
  refine wpAny_bind (wpAny_pure ?_)
  cases clos with
  | nil =>
    simp only [List.isEmpty_nil, if_true]
    refine wpAny_bind (wpAny_pure ?_)
    refine wpAny_bind (wpAny_functionCode_hit code (C.code atP tri) hit ?_)
    refine wpAny_bind (wpAny_builtinsFor ns e1 ne0 e2 e3 e4 e5 ?_)
    refine wpAny_bind (wpAny_nsGet ns ?_)
    exact wpAny_bind (wpAny_pure (wpAny_newObj_type (k .none s.heap s.toks (fun _ _ e => e) (Nat.le_refl _)) (by size_fits)))
  | cons x r =>
    simp only [List.isEmpty_cons, Bool.false_eq_true, if_false]
    refine wpAny_bind (wpAny_newTextTuple ?_)
    have kp : ∀ (oT : Obj) b o, s.heap.get? b = some o → (s.heap.push oT).get? b = some o := fun oT b o e => Heap.get?_push_of_some _ e
    refine wpAny_bind (wpAny_functionCode_hit code ((C.keeps (kp _)).code (kp _ _ _ atP) tri) hit ?_)
    refine wpAny_bind (wpAny_builtinsFor (ns.push _) e1 ne0 (kp _ _ _ e2) e3 e4 e5 ?_)
    refine wpAny_bind (wpAny_nsGet (ns.push _) ?_)
    exact wpAny_bind (wpAny_pure (wpAny_newObj_type (k _ _ s.toks (kp _) (by rw [Heap.size_push]; omega)) (by size_fits)))
end
section
variable {X : Cx} {pins : List (Addr × Obj)} {σ : L2.St} {H : Hp} {s : Shared}
theorem lam_tail {T : List (Addr × Str)} {c tb : Addr} {params : Arguments} {body : Expr} {scope : Scope} {pos : Pos} {line : Nat} {E Q : Value → Shared → Prop} {dV : Value} (I : Inv X pins σ H s) (B : TabB X.base X.mg c tb) (code : X.env.code = .ref c)
    (hm : (tb, X.env.qual ++ "<lambda>") ∈ T) (hu : ∀ p ∈ T, p.1 = tb → p.2 = X.env.qual ++ "<lambda>") (hT : Tabs T H) (fre : ∀ y ∈ scope.names, y.2 = .free → ∃ c, X.env.cells.lookup y.1 = some c)
    (k : ∀ (f c' : Addr) (pm tv : Value) (H1 : Hp) (s1 : Shared), Inv X pins σ H1 s1 → (∀ b o, b ≠ tb → H b = some o → H1 b = some o) → (∀ b, H1 b = none → H b = none) → Tabs T H1 → H f = none →
      H1 f = some (Fz (lamD (X.env.qual ++ "<lambda>") params body scope (cloFrom X.env.cells scope.names []) pm c' tv dV)) → H1 c' = some (CodeO c' (X.env.qual ++ "<lambda>")) → Q (.ref f) s1) :
    wpAny (model X.prog X.w) X.A (makeTail "<lambda>" (X.env.qual ++ "<lambda>") params (.expr body) scope X.env dV .none none pos line) Q E s := by
  obtain ⟨ps, atP, tri, among⟩ := hT _ hm
  have getP : s.heap.get? tb = some { cls := .none, data := .fields ps } := I.hok tb _ atP
  have bk := B.bm.keeps I.bk
  cases hc : codeAmong pos ps.toList with
  | some cv =>
    obtain ⟨c', rfl, hco⟩ := among pos cv hc
    refine tail_hit (closure_ok fre) I.ok.glob (I.mod.glob.keeps I.bk) code (B.code.keeps I.bk) getP tri hc bk fun tv h2 tk hx hsz => ?_
    have J : Inv X pins σ H { s with heap := h2, toks := tk } := I.kept fun b o e => hx b o e
    have nF : H h2.objs.size = none := J.hok.fresh (Nat.le_refl _)
    have J2 := inv_fz (o := lamD (X.env.qual ++ "<lambda>") params body scope (cloFrom X.env.cells scope.names []) ((X.mg "__name__").getD .none) c' tv dV) (t' := tk) J rfl
    refine k h2.objs.size c' _ tv _ _ J2 (fun b o _ e => ?_) (fun b e => upd_none e) (hT.ext fun b o e => ?_) nF upd_same ?_
    · exact (upd_ne (ne_of_none e nF)).trans e
    · exact (upd_ne (ne_of_none e nF)).trans e
    · exact (upd_ne (ne_of_none hco nF)).trans hco
  | none =>
    refine tail_new (closure_ok fre) I.ok.glob (I.mod.glob.keeps I.bk) code (B.code.keeps I.bk) getP tri hc B.gP bk fun c' tv h2 tk hx hge hlt hrec htb => ?_
    obtain ⟨c9, oc, vs, t, e9, hoc, hd, hv⟩ := hrec
    cases e9
    have hsz : s.heap.objs.size ≤ h2.objs.size := Nat.le_trans hge (Nat.le_of_lt hlt)
    have freshC : H c' = none := I.hok.fresh hge
    have J := inv_table (t' := tk) (more := #[rawInt pos.line, rawInt pos.col, .ref c']) (h' := h2) I atP (fun b o hb e => hx b o hb e) htb hge ⟨oc, vs, t, hoc, hd, hv⟩
    have stay : ∀ b o, b ≠ tb → H b = some o → (upd (upd H tb (.tbl (ps ++ #[rawInt pos.line, rawInt pos.col, .ref c']))) c' (CodeO c' (X.env.qual ++ "<lambda>"))) b = some o := fun b o n e => by
      rw [upd_ne (ne_of_none e freshC), upd_ne n]
      exact e
    have cds : ∀ b q, H b = some (CodeO b q) → (upd (upd H tb (.tbl (ps ++ #[rawInt pos.line, rawInt pos.col, .ref c']))) c' (CodeO c' (X.env.qual ++ "<lambda>"))) b = some (CodeO b q) := fun b q e => stay _ _ (fun z => by rw [z, atP] at e; unfold CodeO at e; cases e) e
    have asL : (ps ++ #[rawInt pos.line, rawInt pos.col, .ref c']).toList = ps.toList ++ [rawInt pos.line, rawInt pos.col, .ref c'] := by simp
    have T1 : Tabs T (upd (upd H tb (.tbl (ps ++ #[rawInt pos.line, rawInt pos.col, .ref c']))) c' (CodeO c' (X.env.qual ++ "<lambda>"))) := fun p hp => by
      by_cases hb : p.1 = tb
      · rw [hu p hp hb, hb]
        refine ⟨ps ++ #[rawInt pos.line, rawInt pos.col, .ref c'], by rw [upd_ne (ne_of_none atP freshC), upd_same], by rw [asL]; exact PySem.TriplesOk_snoc _ _ _ _ tri, fun p' cv hcv => ?_⟩
        rw [asL] at hcv
        rcases among_app _ tri hcv with old | new
        · obtain ⟨c0, e1, e2⟩ := among p' cv old
          exact ⟨c0, e1, cds _ _ e2⟩
        · exact ⟨_, new, upd_same⟩
      · obtain ⟨qs, a1, a2, a3⟩ := hT p hp
        refine ⟨qs, stay _ _ hb a1, a2, fun p' cv hcv => ?_⟩
        obtain ⟨c0, e1, e2⟩ := a3 p' cv hcv
        exact ⟨c0, e1, cds _ _ e2⟩
    have nF := J.hok.fresh (Nat.le_refl _)
    have J2 := inv_fz (o := lamD (X.env.qual ++ "<lambda>") params body scope (cloFrom X.env.cells scope.names []) ((X.mg "__name__").getD .none) c' tv dV) (t' := tk) J rfl
    refine k h2.objs.size c' _ tv _ _ J2 (fun b o n e => ?_) (fun b e => upd_none (upd_none (upd_none e))) (T1.ext fun b o e => (upd_ne (ne_of_none e nF)).trans e) (I.hok.fresh hsz) upd_same ((upd_ne (Nat.ne_of_lt hlt)).trans upd_same)
    have e1 := stay b o n e
    exact (upd_ne (ne_of_none e1 nF)).trans e1
end
def tLamW (T : List (Addr × Str)) (tb : Addr) (q : Str) (params : Arguments) (body : Expr) (scope : Scope) (cl : List (Str × Addr)) (vs : List V) : TE := fun σ H Q => Tabs T H ∧ ∀ (f c' : Addr) (H1 : Hp), (∀ b o, b ≠ tb → H b = some o → H1 b = some o) → (∀ b, H1 b = none → H b = none) → Tabs T H1 → H f = none → LamAt f c' q params body scope cl vs H1 → Q (.ref f) H1
section
variable {X : Cx} {T : List (Addr × Str)} {c tb : Addr} {params : Arguments} {body : Expr} {scope : Scope} {pos : Pos}
theorem pe_lam0 (B : TabB X.base X.mg c tb) (code : X.env.code = .ref c) (hm : (tb, X.env.qual ++ "<lambda>") ∈ T) (hu : ∀ p ∈ T, p.1 = tb → p.2 = X.env.qual ++ "<lambda>") (hdef : defaultsOf params X.env = ([], []))
    (fre : ∀ y ∈ scope.names, y.2 = .free → X.env.scope.names.lookup y.1 = some .cell ∨ X.env.scope.names.lookup y.1 = some .free) :
    PE X (.Lambda params body scope pos) (tLamW T tb (X.env.qual ++ "<lambda>") params body scope (cloFrom X.env.cells scope.names []) []) := by
  refine ⟨fun pins s σ H Q I ⟨hT, h⟩ => ?_⟩
  refine PySem.W.kla_eval hdef ?_
  rw [makeFunction_eq]
  simp only [List.zip_nil_right, List.filterMap_nil, List.isEmpty_nil, if_true, pure_bind]
  refine lam_tail I B code hm hu hT (fun y hy e => (fre y hy e).elim (fun z => I.ok.has _ (.inl z)) fun z => I.ok.has _ (.inr z)) fun f c' pm tv H1 s1 I1 k1 k2 T1 hf hf1 hc1 => ?_
  exact ⟨.ref f, H1, I1, rfl, h f c' H1 k1 k2 T1 hf ⟨⟨pm, tv, _, hf1, .inl ⟨rfl, rfl⟩⟩, hc1⟩⟩
/-- one written whole number as the default -/
theorem pe_lam1 {n : Int} {j : Nat} {dp : Pos} {kwo : List Arg} (B : TabB X.base X.mg c tb) (code : X.env.code = .ref c) (hm : (tb, X.env.qual ++ "<lambda>") ∈ T) (hu : ∀ p ∈ T, p.1 = tb → p.2 = X.env.qual ++ "<lambda>") (hdef : defaultsOf params X.env = ([eval (.Constant (.int n) j dp) X.env], [])) (hkw : params.kwonlyargs = [])
    (fre : ∀ y ∈ scope.names, y.2 = .free → X.env.scope.names.lookup y.1 = some .cell ∨ X.env.scope.names.lookup y.1 = some .free) :
    PE X (.Lambda params body scope pos) (tLamW T tb (X.env.qual ++ "<lambda>") params body scope (cloFrom X.env.cells scope.names []) [.int n]) := by
  refine ⟨fun pins s σ H Q I ⟨hT, h⟩ => ?_⟩
  rw [arm_eval_Lambda, hdef]
  show wpAny _ _ (do let dv ← (do let v ← eval (.Constant (.int n) j dp) X.env; return v :: (← holding [v] (evalAll []))); let kdv ← holding dv (evalAllOpt []); makeFunction "<lambda>" (X.env.qual ++ "<lambda>") params (.expr body) scope X.env dv kdv [] pos pos.line) _ _ s
  refine wpAny_bind (wpAny_bind (wpAny_Constant_int (wpAny_bind (wpAny_holding (wpAny_pure (wpAny_pure ?_))))))
  refine wpAny_bind (wpAny_holding (wpAny_pure ?_))
  rw [makeFunction_eq]
  simp only [hkw, List.zip_nil_left, List.filterMap_nil, List.isEmpty_nil, List.isEmpty_cons, Bool.false_eq_true, if_false, if_true, pure_bind]
  refine wpAny_bind (wpAny_newTextTuple ?_)
  have J : Inv X pins σ H { s with toks := s.toks + 1 } := I.tok _
  have nT : H s.heap.objs.size = none := J.hok.fresh (Nat.le_refl _)
  have J2 := inv_fz (o := tupD [.int n s.toks]) (t' := s.toks + 1) J rfl
  have kT : ∀ b o, H b = some o → (upd H s.heap.objs.size (Fz (tupD [.int n s.toks]))) b = some o := fun b o e => (upd_ne (ne_of_none e nT)).trans e
  refine lam_tail (s := { s with heap := s.heap.push (tupD [.int n s.toks]), toks := s.toks + 1 }) J2 B code hm hu (hT.ext kT) (fun y hy e => (fre y hy e).elim (fun z => I.ok.has _ (.inl z)) fun z => I.ok.has _ (.inr z)) fun f c' pm tv H1 s1 I1 k1 k2 T1 hf hf1 hc1 => ?_
  have ntb : s.heap.objs.size ≠ tb := fun z => by
    obtain ⟨ps, atP, _⟩ := hT _ hm
    rw [← z, nT] at atP
    cases atP
  exact ⟨.ref f, H1, I1, rfl, h f c' H1 (fun b o n e => k1 b o n (kT b o e)) (fun b e => upd_none (k2 b e)) T1 (upd_none hf) ⟨⟨pm, tv, _, hf1, .inr ⟨_, _, by simp, rfl, k1 _ _ ntb upd_same, .cons ⟨_, rfl⟩ .nil⟩⟩, hc1⟩⟩
end
end Sb

namespace Sb
open PySem PySem.Spec PyProof.Rows L2 LamX NdefX
/-! ### a call of a lambda that may raise, its captured cells tracked -/
section
variable {P : Program} {w : World} {K : PySem.W.Frag} {mg : Str → Option Value} {base : Heap} {A : Around} {outer : List Env} {s s' : Shared} {H4 : Hp} {cells : List (Addr × Obj)} {E : XK} {u : Value}
theorem cut_afterX (hF : ∀ p ∈ cells, H4 p.1 = some (Fz p.2)) (e0 : Env0 P w K mg base A outer s H4) (h : L2.CX P w outer (Sb.cut (cells.map (·.1)) H4) s (fun cls d H1 => (∀ b ∈ cells.map (·.1), H1 b = none) → E cls d (rejoin (cells.map (·.1)) H4 H1)) u s') : L2.CX P w outer H4 s E u s' := by
  obtain ⟨a, B, H5, cls, d, rfl, fl, hok, ub, na, os, ag, hE⟩ := h
  have obj : ∀ {b : Addr}, b ∈ cells.map (·.1) → ∃ o, H4 b = some (Fz o) ∧ s.heap.get? b = some o ∧ b ∉ frs outer := fun {b} h => by
    obtain ⟨p, hp, rfl⟩ := List.mem_map.mp h
    refine ⟨p.2, hF p hp, fz_at e0.hok (hF p hp), fun z => ?_⟩
    have := e0.frf _ z
    rw [hF p hp] at this
    cases this
  have n5 : ∀ b ∈ cells.map (·.1), H5 b = Option.none := fun b h => by
    obtain ⟨o, _, h2, _⟩ := obj h
    exact ub.free b o h2 (cut_in h)
  have inB : ∀ {b : Addr} {o : Obj}, b ∈ cells.map (·.1) → H4 b = some (Fz o) → B.get? b = some o := fun {b o} h e => by
    obtain ⟨o', h1, h2, h3⟩ := obj h
    rw [h1] at e
    cases e
    exact ub.keep b _ h2 (cut_in h) h3
  have rin : ∀ {b : Addr}, b ∈ cells.map (·.1) → rejoin (cells.map (·.1)) H4 H5 b = H4 b := fun h => if_pos h
  have rout : ∀ {b : Addr}, b ∉ cells.map (·.1) → rejoin (cells.map (·.1)) H4 H5 b = H5 b := fun h => if_neg h
  refine ⟨a, B, rejoin (cells.map (·.1)) H4 H5, cls, d, rfl, fl, fun b o e => ?_, ⟨fun b o e n nf => ?_, ub.slot, fun b o e n => ?_, ub.there, fun b xs e => ?_, fun b o u e => ?_, fun b ps e => ?_⟩, ?_, os, ag, hE n5⟩
  · by_cases hb : b ∈ cells.map (·.1)
    · rw [rin hb] at e
      obtain ⟨o', h1, _, _⟩ := obj hb
      rw [h1] at e
      cases e
      exact fz_ok (inB hb h1)
    · rw [rout hb] at e
      refine (hok b o e).stay (fun _ _ _ z => z) (fun c z => ?_) fun c xs z => ?_
      · rw [rout fun q => ?_]
        exact z
        rw [n5 _ q] at z
        cases z
      · rw [rout fun q => ?_]
        exact z
        rw [n5 _ q] at z
        cases z
  · refine ub.keep b o e ?_ nf
    unfold Sb.cut
    split
    rfl
    exact n
  · by_cases hb : b ∈ cells.map (·.1)
    · rw [rin hb]
      exact n
    · rw [rout hb]
      exact ub.free b o e (by rw [cut_out hb]; exact n)
  · by_cases hb : b ∈ cells.map (·.1)
    · rw [rin hb]
      exact e
    · rw [rout hb]
      exact ub.tups b xs (by rw [cut_out hb]; exact e)
  · by_cases hb : b ∈ cells.map (·.1)
    · rw [rin hb]
      exact e
    · rw [rout hb]
      exact ub.frzs b o u (by rw [cut_out hb]; exact e)
  · by_cases hb : b ∈ cells.map (·.1)
    · rw [rin hb]
      exact ⟨#[], by rw [e]; simp⟩
    · rw [rout hb]
      exact ub.tbls b ps (by rw [cut_out hb]; exact e)
  · by_cases hb : a ∈ cells.map (·.1)
    · obtain ⟨o', h1, _, _⟩ := obj hb
      have q := inB hb h1
      rw [fl.2.1] at q
      cases q
    · rw [rout hb]
      exact na
end
/-- the function at f, its code object at c', called without arguments: where R holds, it gives and raises what is wished -/
structure LamE (P : Program) (w : World) (K : PySem.W.Frag) (mg : Str → Option Value) (base : Heap) (k : Nat) (f c' : Addr) (q : Str) (D : Hp → Prop) (R : Hp → XK → VK → Prop) : Prop where
  fn : ∀ (H : Hp) (h : Heap), HOk P w H h → D H → PySem.W.FnAt f h
  cd : ∀ H, D H → H c' = some (CodeO c' q)
  run : ∀ (A : Around) (outer : List Env) (s : Shared) (H : Hp) (Q : VK) (E : XK), Room k A → Env0 P w K mg base A outer s H → D H → R H E Q → codeAny (model P w) A (.call (.ref f) ⟨[], []⟩) (CR (L2.CX P w) outer P w H s Q E) s
/-- how a lambda's defaults are bound -/
structure BindD (params : Arguments) (ps : List Str) (vs : List V) : Prop where
  len : vs.length = ps.length
  b0 : vs = [] → ∀ (q : Str) (body : Expr) (scope : Scope) (cl : List (Str × Addr)) (pm cdv tv : Value), bindArgs (fnD q params body scope cl pm cdv tv .none) ⟨[], []⟩ = pure []
  b1 : vs ≠ [] → ∀ (q : Str) (body : Expr) (scope : Scope) (cl : List (Str × Addr)) (pm cdv tv : Value) (t : Addr) (its : List Value), its.length = vs.length → ∃ k, bindArgs (fnD q params body scope cl pm cdv tv (.ref t)) ⟨[], []⟩ = seqItems? (.ref t) >>= k ∧ k (some its.toArray) = pure (ps.zip its)
abbrev lamNF (q : Str) (params : Arguments) (scope : Scope) (cl : List (Str × Addr)) (c' : Addr) : NF := ⟨"<lambda>", q, params, [], scope, cl, c'⟩
def LamC (f c' : Addr) (q : Str) (params : Arguments) (body : Expr) (scope : Scope) (cl : List (Str × Addr)) (vs : List V) (cells : List (Addr × Obj)) (H : Hp) : Prop := LamAt f c' q params body scope cl vs H ∧ ∀ p ∈ cells, H p.1 = some (Fz p.2)
theorem lamE_of {P : Program} {w : World} {K : PySem.W.Frag} {mg : Str → Option Value} {base : Heap} {k : Nat} {N ps fr : List Str} {vs : List V} {ws : List (Option V)} {cells : List (Addr × Obj)} {cl : List (Str × Addr)} {f c' : Addr} {q : Str} {params : Arguments} {body : Expr} {scope : Scope} {R : Hp → XK → VK → Prop}
    (S : NScope N ps fr scope) (Bd : BindD params ps vs) (C : CapT cl fr ws cells)
    (hbody : ∀ (A : Around) (outer : List Env) (s : Shared) (H : Hp) (E : XK), Room k (A.deeper (envF (lamNF q params scope cl c') f s.heap.objs.size)) → ∃ t : XK → TE, PE (ncx (L2.CX P w) P w K mg base N (lamNF q params scope cl c') f A outer s H E) body (t E) ∧ ∀ (H4 : Hp) (E4 : XK) (Q : VK), H = cut (cells.map (·.1)) H4 → E = (fun cls d H1 => (∀ b ∈ cells.map (·.1), H1 b = none) → E4 cls d (rejoin (cells.map (·.1)) H4 H1)) → R H4 E4 Q →
      t E (startF N vs ws) H (fun v H' => Q v (rejoin (cells.map (·.1)) H4 H'))) :
    LamE P w K mg base (k + 1) f c' q (LamC f c' q params body scope cl vs cells) R := by
  refine ⟨fun H h hok D => ?_, fun H D => D.1.cd, fun A outer s H Q E hr e0 D rr => ?_⟩
  · obtain ⟨pm, tv, dV, hf, _⟩ := D.1.ex
    exact ⟨_, _, _, _, fz_at hok hf⟩
  obtain ⟨⟨⟨pm, tv, dV, hf, hd⟩, hc⟩, hF⟩ := D
  have e1 := Trk.env0_cut hF e0
  have CA := capT_cells C e0.hok hF
  have of := fz_at e0.hok hf
  have hcode := codeO_at e0.hok hc
  have lim : s.heap.NoLimit := e0.mod.nolimit.keeps fun b o e => (e0.bs b o e).1
  obtain ⟨us, hus, rv, hbind⟩ : ∃ us : List Value, us.length = ps.length ∧ Vals vs us ∧ ∀ {A' : Around} {Qb : List (Str × Value) → Shared → Prop} {Eb : Value → Shared → Prop}, Qb (ps.zip us) s → wpAny (model P w) A' (bindArgs (fnD q params body scope cl pm (.ref c') tv dV) ⟨[], []⟩) Qb Eb s := by
    rcases hd with ⟨ev, rfl⟩ | ⟨t, its, nv, rfl, ht, rv⟩
    · subst ev
      refine ⟨[], Bd.len, .nil, fun {A' Qb Eb} hq => ?_⟩
      rw [Bd.b0 rfl]
      have ep : ps.zip ([] : List Value) = [] := by simp
      rw [ep] at hq
      exact wpAny_pure hq
    · refine ⟨its, by rw [← rv.length, Bd.len], rv, fun {A' Qb Eb} hq => ?_⟩
      obtain ⟨kk, b1, b2⟩ := Bd.b1 nv q body scope cl pm (.ref c') tv t its rv.length.symm
      rw [b1]
      refine wpAny_bind (wpAny_seqItems (fz_at e0.hok ht) rfl ?_)
      rw [b2]
      exact wpAny_pure hq
  have rc : codeAny (model P w) A (.call (.ref f) ⟨[], []⟩) (CR (L2.CX P w) outer P w (cut (cells.map (·.1)) H) s (fun v H' => Q v (rejoin (cells.map (·.1)) H H')) (fun cls d H1 => (∀ b ∈ cells.map (·.1), H1 b = none) → E cls d (rejoin (cells.map (·.1)) H H1))) s := by
    refine PySem.W.kla_callFunE hr.depth of rfl S.co S.gen rfl hcode ?_
    refine hbind ?_
    refine wpAny_newFunctionEnv S.nocell (fun y hy => S.par _ (List.of_mem_zip hy).1) (fun h₁ hns hsb => ⟨lim.fresh _ hsb, ?_⟩) S.kind
    show codeAny _ _ (.expr body (envF (lamNF q params scope cl c') f s.heap.objs.size)) _ _
    have kp : ∀ b o, s.heap.get? b = some o → h₁.get? b = some o := fun b o e => hsb.extBut b o (Nat.ne_of_lt (Heap.lt_size e)) (Heap.get?_push_of_some _ e)
    obtain ⟨t, ht, hq⟩ := hbody A outer s (cut (cells.map (·.1)) H) (fun cls d H1 => (∀ b ∈ cells.map (·.1), H1 b = none) → E cls d (rejoin (cells.map (·.1)) H H1)) (hr.deeper _)
    have J : Inv (ncx (L2.CX P w) P w K mg base N (lamNF q params scope cl c') f A outer s (cut (cells.map (·.1)) H) (fun cls d H1 => (∀ b ∈ cells.map (·.1), H1 b = none) → E cls d (rejoin (cells.map (·.1)) H H1))) [] (startF N vs ws) (cut (cells.map (·.1)) H) { s with heap := h₁, toks := s.toks + (ps.zip us).length } :=
      inv_startN (F := lamNF q params scope cl c') S hr.hd e1 Bd.len rv CA hns kp
    refine PySem.W.kla_codeExpr (wpAny_mono (ht.run [] _ _ _ (fun v H' => Q v (rejoin (cells.map (·.1)) H H')) J (hq H E Q rfl rfl rr)) (fun v s2 hq2 => ?_) fun e s2 hq2 => hq2)
    obtain ⟨w2, H2, J2, rv2, q2⟩ := hq2
    exact ⟨w2, H2, J2.os, J2.bare, J2.base, J2.hok, rv2, q2⟩
  refine codeAny_mono rc fun r s2 hq => ?_
  cases r with
  | error e => exact cut_afterX hF e0 hq
  | ok fl =>
    cases fl with
    | ret u => exact Trk.after_cut hF e0 hq
    | next => exact hq
    | brk => exact hq
    | cont => exact hq
section
variable {X : Cx} {i k : Nat} {x : Str} {p pos : Pos} {W : WX} {f c' : Addr} {q : Str} {D : Hp → Prop} {R : Hp → XK → VK → Prop}
theorem pe_callE (L : LamE X.prog X.w X.K X.mg X.base k f c' q D R) (hr : Room k X.A) (hN : X.N[i]? = some x) (hv : Vis X.env.scope x) (tk : L2.Takes X W) (hd : (x == ("__debug__" : Str)) = false := by decide) (hcd : (x == ("__classdict__" : Str)) = false := by decide) :
    PE X (.Call (.Name x p) [] [] pos) (fun σ H Q => σ[i]? = some (some (.ref f)) ∧ D H ∧ ∃ E : XK, (∀ cls d H', E cls d H' → W cls d σ H') ∧ R H E Q) := by
  refine ⟨fun pins s σ H Q I ⟨hs, hD, E, hE, hR⟩ => ?_⟩
  refine wpAny_Call_Name_kw (thn ((pe_var (pos := p) (i := i) hN hv hd hcd).run pins s σ H (fun v H1 => v = .ref f ∧ H1 = H) I ⟨.ref f, hs, rfl, rfl⟩) fun u s1 ⟨v, H1, I1, r1, ev, eH⟩ => ?_)
  subst ev
  rw [eH] at I1
  obtain rfl : u = Value.ref f := r1
  refine PySem.W.callWith_F0 (L.fn _ _ I1.hok hD) ?_
  refine wpAny_call (codeAny_mono (L.run X.A X.stack s1 H Q E hr I1.env0 hD hR) fun r s2 hq => ?_)
  cases r with
  | error e => exact tk e s2 (XE.of_call I1 (fun cls d H' z => hE cls d H' z) hq)
  | ok fl =>
    cases fl with
    | ret u => exact I1.after hq
    | next => exact False.elim hq
    | brk => exact False.elim hq
    | cont => exact False.elim hq
end
/-! ### a def is called, the cells of several lambdas tracked -/
abbrev Capt := Scope × List Str × List Nat
def tCallT (sp : Sp) (t : TA) (Ts : List Capt) (clo : Scope → List (Str × Addr)) : TE := fun σ H Q => t σ H fun vs H3 => ∀ (cells : List (Addr × Obj)) (H4 : Hp), (∀ q ∈ Ts, CapT (clo q.1) q.2.1 (q.2.2.map (slotAt σ)) cells) → Trk cells H3 H4 → sp vs H4 (fun v H5 => Q v (cut (cells.map (·.1)) H5)) E0
section
variable {X : Cx} {f : Addr} {k : Nat} {fd : FuncData} {ps : List Str} {sp : Sp} {x : Str} {e : Expr} {es : List Expr} {t : TA} {p pos : Pos} {Ts : List Capt}
theorem pe_callT (F : FnOk X.prog X.w X.K X.mg X.base CX0 k f fd ps sp) (hr : Room k X.A) (hg : Gl X x) (hm : X.mg x = some (.ref f)) (hk : PySem.W.keepIn X.K (.ref f) = true) (hb : Binds X.K fd ps []) (ha : PA X (e :: es) t) (hfn : ∀ x, X.fn x = true)
    (hTs : ∀ q ∈ Ts, (∀ y ∈ q.1.names, y.2 = .free → X.env.scope.names.lookup y.1 = some .cell ∨ X.env.scope.names.lookup y.1 = some .free) ∧ (∀ y ∈ q.2.1, (y, NameKind.free) ∈ q.1.names) ∧ q.2.2.map (fun j => X.N[j]?) = q.2.1.map some)
    (hst : starEach (e :: es) X.env = (false, eval e X.env) :: starEach es X.env := by rfl) (hpl : (backTo pos (starEach es X.env)).any (·.1) = false := by rfl) (hdb : (x == ("__debug__" : Str)) = false := by decide) :
    PE X (.Call (.Name x p) (e :: es) [] pos) (tCallT sp t Ts (fun sc => cloFrom X.env.cells sc.names [])) := by
  refine ⟨fun pins s σ H Q I h => ?_⟩
  refine wpAny_Call_Name_kw (ld_glob I hg hm ?_ hdb)
  refine PySem.W.callWith_K (first := []) (h₀ := X.base) I.ok.mod.kin hk (thn (ha.run pos pins s σ H _ I h) fun us s2 ⟨vs, H2, I2, r, q2⟩ => ⟨I2.kIn, ?_⟩) hst hpl
  generalize hS : (Ts.flatMap fun q => (cloFrom X.env.cells q.1.names []).map (·.2)) = S
  have mem : ∀ p ∈ pinsAt S s2.heap, ∃ y, X.env.cells.lookup y = some p.1 := fun p hp => by
    obtain ⟨h1, _⟩ := of_pinsAt hp
    rw [← hS] at h1
    obtain ⟨q, hq, h2⟩ := List.mem_flatMap.mp h1
    obtain ⟨⟨y, b⟩, hyb, eb⟩ := List.mem_map.mp h2
    have eb : b = p.1 := eb
    rcases cloFrom_mem hyb with z | ⟨z1, z2⟩
    · cases z
    · obtain ⟨c1, hc1⟩ := ((hTs q hq).1 _ z1 rfl).elim (fun z => I2.ok.has y (.inl z)) fun z => I2.ok.has y (.inr z)
      have z2 : b = (X.env.cells.lookup y).getD 0 := z2
      refine ⟨y, ?_⟩
      rw [← eb, z2, hc1]
      rfl
  have atS : ∀ p ∈ pinsAt S s2.heap, s2.heap.get? p.1 = some p.2 := fun p hp => (of_pinsAt hp).2
  have T4 : Trk (pinsAt S s2.heap) H2 (fun b => if b ∈ (pinsAt S s2.heap).map (·.1) then (s2.heap.get? b).map Fz else H2 b) := by
    refine ⟨fun b hb => if_neg hb, fun p hp => ?_, fun p hp => ?_⟩
    · obtain ⟨y, hy⟩ := mem p hp
      exact I2.freeC y _ hy
    · show (if p.1 ∈ _ then _ else _) = _
      rw [if_pos (List.mem_map.mpr ⟨p, hp, rfl⟩), atS p hp]
      rfl
  have CT : ∀ q ∈ Ts, CapT (cloFrom X.env.cells q.1.names []) q.2.1 (q.2.2.map (slotAt σ)) (pinsAt S s2.heap) := fun q hq => by
    have CA := cells_of I2 (Caps.made I2.ok (hTs q hq).1 (hTs q hq).2.1 (hTs q hq).2.2)
    have inS : ∀ {y : Str} {c : Addr}, (cloFrom X.env.cells q.1.names []).lookup y = some c → c ∈ S := fun {y c} e => by
      rw [← hS]
      exact List.mem_flatMap.mpr ⟨q, hq, List.mem_map.mpr ⟨_, PySem.mem_of_lookup e, rfl⟩⟩
    refine ⟨CA.len, fun y c e => ?_, CA.inj, fun i y e => ?_⟩
    · obtain ⟨_, v, o, ho, hd⟩ := CA.all y c e
      exact ⟨o, v, mem_pinsAt (inS e) ho, hd⟩
    · obtain ⟨c, hc, hv⟩ := CA.has i y e
      refine ⟨c, hc, fun v ev => ?_⟩
      obtain ⟨u, r, o, ho, hd⟩ := hv v ev
      exact ⟨o, u, mem_pinsAt (inS hc) ho, hd, r⟩
  have e0 := T4.env0 I2.env0 atS (fun p hp => ?_) (fun p hp => ?_)
  · have q3 := q2 _ _ CT T4
    have hl : us.length = ps.length := by rw [← r.length]; exact F.len _ _ _ _ q3
    refine wpAny_call (codeAny_mono (F.run X.A X.stack s2 _ ⟨us, []⟩ us vs _ _ hr e0 ?_ r q3) fun r' s' hq => ?_)
    · have := hb s2 us I2.kIn (by rw [List.append_nil]; exact hl)
      rw [List.append_nil] at this
      exact this
    · cases r' with
      | error e => exact False.elim hq
      | ok fl =>
        cases fl with
        | ret u => exact I2.after (T4.after atS hq)
        | next => exact False.elim hq
        | brk => exact False.elim hq
        | cont => exact False.elim hq
  · obtain ⟨y, hy⟩ := mem p hp
    have h1 := I2.ok.cab y _ (hfn y) hy
    cases e : X.base.get? p.1 with
    | none => rfl
    | some o => exact absurd (Nat.lt_of_lt_of_le (Heap.lt_size e) (Nat.le_trans I2.ok.bsz h1)) (Nat.lt_irrefl _)
  · obtain ⟨y, hy⟩ := mem p hp
    obtain ⟨v, o, ho, hd⟩ := I2.cell y _ hy
    intro hfrm
    rcases List.mem_cons.mp (I2.stkSub _ hfrm) with z | z
    · obtain ⟨m, hns, _⟩ := I2.loc
      obtain ⟨o2, es2, ep2, ho2, hd2, _⟩ := hns
      rw [← z, ho] at ho2
      cases ho2
      rw [hd] at hd2
      cases hd2
    · obtain ⟨_, o2, ho2, _⟩ := I2.ok.funs.mem z
      exact absurd (Nat.lt_of_lt_of_le (Heap.lt_size ho2) (I2.ok.cab y _ (hfn y) hy)) (Nat.lt_irrefl _)
end
end Sb

namespace Sb
open PySem PySem.Spec PyProof.Rows L2 TL LamX
/-! ### isinstance of a caught error with a dict or without -/
def DOk (d : Option Addr) (H : Hp) : Prop := d = none ∨ ∃ (dd : Addr) (fs : List (Str × V)), d = some dd ∧ H dd = some (.xd fs)
def rIsXU (K : PySem.W.Frag) (a : Addr) (cls : Value) (d : Option Addr) : List V → Hp → VK → Prop := fun xs H Q => ∃ (D : Addr) (c : V) (cv : Value) (b : Bool), cls = .ref D ∧ DOk d H ∧ ExcC K D ∧ xs = [.ref a, c] ∧ (∀ u, RelV c u → u = cv) ∧ PySem.W.kitOne K (.ref D) cv = some b ∧ Q (.bl b) H
theorem call_isXU {X : Cx} {a : Addr} {oe : Obj} {cls : Value} {d : Option Addr} {pn : List (Addr × Obj)} (hz : Zc cls d oe) (hf : ∃ vs, oe.data = .fields vs) : CallR (X.suite a ((a, oe) :: pn)) (.builtin "isinstance") (rIsXU X.K a cls d) := by
  intro pins s σ H xs us Q I r h
  obtain ⟨D, c, cv, b, ec, ed, C, h⟩ := h
  rcases ed with ed | ⟨dd, fs, ed, ea⟩
  · exact call_isX hz hf pins s σ H xs us Q I r ⟨D, c, cv, b, ec, ed, C, h⟩
  · exact call_isXD hz hf pins s σ H xs us Q I r ⟨D, dd, fs, c, cv, b, ec, ed, ea, C, h⟩
/-! ### _law_error_of, for any class without an __init__ of its own -/
structure ErrK (K : PySem.W.Frag) (a : Ad) (C : Addr) (j : Nat) (wd : Str) : Prop where
  lt : j < 13
  xc : L2.ExcC K C
  xe : PySem.W.exmOne K (.ref C) (.ref a.X_BotError) = some true
  xv : PySem.W.kitOne K (.ref C) (.type "ValueError") = some true
  o0 : PySem.W.kitOne K (.ref C) (.ref a.X_InvalidTick) = some (decide (j = 0))
  o1 : PySem.W.kitOne K (.ref C) (.ref a.X_InvalidNumber) = some (decide (j = 1))
  o2 : PySem.W.kitOne K (.ref C) (.ref a.X_TooLong) = some (decide (j = 2))
  o3 : PySem.W.kitOne K (.ref C) (.ref a.X_DifferentShelves) = some (decide (j = 3))
  o4 : PySem.W.kitOne K (.ref C) (.ref a.X_Contradiction) = some (decide (j = 4))
  o5 : PySem.W.kitOne K (.ref C) (.ref a.X_CellFull) = some (decide (j = 5))
  o6 : PySem.W.kitOne K (.ref C) (.ref a.X_CellEmpty) = some (decide (j = 6))
  o7 : PySem.W.kitOne K (.ref C) (.ref a.X_InvalidName) = some (decide (j = 7))
  o8 : PySem.W.kitOne K (.ref C) (.ref a.X_UnknownName) = some (decide (j = 8))
  o9 : PySem.W.kitOne K (.ref C) (.ref a.X_SyntaxFault) = some (decide (j = 9))
  o10 : PySem.W.kitOne K (.ref C) (.ref a.X_CheckFault) = some (decide (j = 10))
  o11 : PySem.W.kitOne K (.ref C) (.ref a.X_InvalidCode) = some (decide (j = 11))
  o12 : PySem.W.kitOne K (.ref C) (.ref a.X_InvalidOperation) = some (decide (j = 12))
  nm : ([V.str "tick", V.str "number", V.str "long", V.str "different", V.str "contradiction", V.str "full", V.str "empty", V.str "name", V.str "unknown", V.str "syntax", V.str "check", V.str "code", V.str "operation"])[j]? = some (.str wd)
  n1 : inV (.str wd) [V.str "syntax", V.str "check"] = decide (j = 9 ∨ j = 10)
  sx : decide (V.str wd = V.str (Str.ofString "syntax")) = decide (j = 9)
  n2 : inV (.str wd) [V.str "code", V.str "operation"] = decide (11 ≤ j)
  xf : 9 ≤ j → L2.XfC K C
  xp : 11 ≤ j → PySem.W.findIn K (.ref C) "place" = some none
  xl : j = 9 ∨ j = 10 → PySem.W.findIn K (.ref C) "line" = some none ∧ PySem.W.findIn K (.ref C) "column" = some none
  xr : j = 10 → PySem.W.findIn K (.ref C) "reason" = some none
/-- what the error's dict tells, as _law_error_of says it -/
def DAt (d : Option Addr) (H : Hp) (j : Nat) (D : PyData) : Prop := (d = none ∧ j < 9 ∧ D = .int 0) ∨ (∃ (dd : Addr) (fs : List (Str × V)) (pl : Int), d = some dd ∧ H dd = some (.xd fs) ∧ fs.lookup (Str.ofString "place") = some (.int pl) ∧ 11 ≤ j ∧ D = .int pl) ∨
  (∃ (dd : Addr) (fs : List (Str × V)) (l c : Int), d = some dd ∧ H dd = some (.xd fs) ∧ fs.lookup (Str.ofString "line") = some (.int l) ∧ fs.lookup (Str.ofString "column") = some (.int c) ∧ j = 9 ∧ D = .tuple [.int l, .int c]) ∨
  ∃ (dd : Addr) (fs : List (Str × V)) (r : Str) (l c : Int), d = some dd ∧ H dd = some (.xd fs) ∧ fs.lookup (Str.ofString "reason") = some (.str r) ∧ fs.lookup (Str.ofString "line") = some (.int l) ∧ fs.lookup (Str.ofString "column") = some (.int c) ∧ j = 10 ∧ D = .tuple [.str r, .int l, .int c]
theorem DAt.mono {d : Option Addr} {H H' : Hp} {j : Nat} {D : PyData} (h : DAt d H j D) (m : Same H H') : DAt d H' j D := h.imp id fun h => h.imp (fun ⟨dd, fs, pl, e, a, r⟩ => ⟨dd, fs, pl, e, m _ _ a, r⟩) fun h => h.imp (fun ⟨dd, fs, l, c, e, a, r⟩ => ⟨dd, fs, l, c, e, m _ _ a, r⟩) fun ⟨dd, fs, z, l, c, e, a, r⟩ => ⟨dd, fs, z, l, c, e, m _ _ a, r⟩
theorem DAt.ok {d : Option Addr} {H : Hp} {j : Nat} {D : PyData} (h : DAt d H j D) : DOk d H := by
  rcases h with h | ⟨dd, fs, pl, e, a, _⟩ | ⟨dd, fs, l, c, e, a, _⟩ | ⟨dd, fs, z, l, c, e, a, _⟩
  · exact .inl h.1
  all_goals exact .inr ⟨dd, fs, e, a⟩
/-- an error is raised and told as the tuple (wd, D) -/
def ErrOut (K : PySem.W.Frag) (a : Ad) (Q : Str → PyData → VK) : XK := fun cls d H' => ∃ C j wd D, cls = .ref C ∧ DAt d H' j D ∧ ErrK K a C j wd ∧ ∀ (H2 : Hp) (p : Addr), Same H' H2 → H' p = none → Dp K H2 (.ref p) (.tuple [.str wd, D]) → Q wd D (.ref p) H2
def TErr (K : PySem.W.Frag) (a : Ad) : (XK → Hp → VK → Prop) → Hp → VK → Prop := fun tl H Q => tl (ErrOut K a fun _ _ => Q) H fun _ H' => Q .non H'
abbrev bls13 (j : Nat) : List V := [.bl (decide (j = 0)), .bl (decide (j = 1)), .bl (decide (j = 2)), .bl (decide (j = 3)), .bl (decide (j = 4)), .bl (decide (j = 5)), .bl (decide (j = 6)), .bl (decide (j = 7)), .bl (decide (j = 8)), .bl (decide (j = 9)), .bl (decide (j = 10)), .bl (decide (j = 11)), .bl (decide (j = 12))]
theorem idx_at {j : Nat} (h : j < 13) : (bls13 j)[j]? = some (.bl true) := by
  match j, h with
  | 0, _ => rfl
  | 1, _ => rfl
  | 2, _ => rfl
  | 3, _ => rfl
  | 4, _ => rfl
  | 5, _ => rfl
  | 6, _ => rfl
  | 7, _ => rfl
  | 8, _ => rfl
  | 9, _ => rfl
  | 10, _ => rfl
  | 11, _ => rfl
  | 12, _ => rfl
theorem idx_no {j m : Nat} {z : V} (h : j < 13) (hm : m < j) (hz : (bls13 j)[m]? = some z) : eqV z (.bl true) = false := by
  have e : ∀ (j : _root_.Fin 13) (m : _root_.Fin 13), m.val < j.val → ((bls13 j.val)[m.val]?).map (fun z => eqV z (.bl true)) = some false := by decide +kernel
  have := e ⟨j, h⟩ ⟨m, by omega⟩ hm
  rw [hz] at this
  exact Option.some.inj this
section
variable {a : Ad}
abbrev eCx (X : Cx) (a : Ad) (cdg : Value) (s : Shared) (H : Hp) : Cx := (cxOf C8.CX0 X.prog X.w X.K X.mg X.base ["_law_call", "e", "_law_kinds", "_law_names", "_law_name"] "_law_error_of" (defScope s_l_error_of) a.f_l_error_of cdg X.A X.stack s H C8.E0).nox
theorem err_gives {X : Cx} (T : Txt X.K X.mg a) {cdg : Value} {q : Str} : GivesS X ["_law_call", "e", "_law_kinds", "_law_names", "_law_name"] "_law_error_of" (defScope s_l_error_of) a.f_l_error_of cdg (defBody s_l_error_of) "_law_call" q (TErr X.K a) := by
  intro f c' s H Q tl act hc h
  refine ⟨_, pss_cons (ps_try_as (X := eCx X a cdg s H) (i := 1) (c := .ref a.X_BotError)
      (tb := fun W D σ H => ∃ Ech : XK, σ[0]? = some (some (.ref f)) ∧ H c' = some (CodeO c' q) ∧ (∀ cls d H', Ech cls d H' → W cls d σ H') ∧ tl Ech H fun _ H' => D.nx σ H')
      rfl rfl sc_l_error_of.nd rfl rfl ⟨rfl, by decide, .inl T.e_BotError⟩ L2.takes0 (fun W pn xe tk _ => ?_) (fun ea oe cls d pn hz hf => by exact (pss_cons (ps_set (i := 2) sc_l_error_of.nd rfl (Or.inl rfl) (pe_lst (pa_cons (pe_callB (call_isXU hz hf) (by rfl) T.z_isinstance (by decide +kernel) (pa_cons (pv 1) (pa_cons (pe_glob (v := V.ref a.X_InvalidTick) rfl T.e_InvalidTick rfl) pa_nil))) (pa_cons (pe_callB (call_isXU hz hf) (by rfl) T.z_isinstance (by decide +kernel) (pa_cons (pv 1) (pa_cons (pe_glob (v := V.ref a.X_InvalidNumber) rfl T.e_InvalidNumber rfl) pa_nil))) (pa_cons (pe_callB (call_isXU hz hf) (by rfl) T.z_isinstance (by decide +kernel) (pa_cons (pv 1) (pa_cons (pe_glob (v := V.ref a.X_TooLong) rfl T.e_TooLong rfl) pa_nil))) pa_nil)))))
      (pss_cons (ps_set (i := 2) sc_l_error_of.nd rfl (Or.inl rfl) (pe_op op_cat (pv 2) (pe_lst (pa_cons (pe_callB (call_isXU hz hf) (by rfl) T.z_isinstance (by decide +kernel) (pa_cons (pv 1) (pa_cons (pe_glob (v := V.ref a.X_DifferentShelves) rfl T.e_DifferentShelves rfl) pa_nil))) (pa_cons (pe_callB (call_isXU hz hf) (by rfl) T.z_isinstance (by decide +kernel) (pa_cons (pv 1) (pa_cons (pe_glob (v := V.ref a.X_Contradiction) rfl T.e_Contradiction rfl) pa_nil))) (pa_cons (pe_callB (call_isXU hz hf) (by rfl) T.z_isinstance (by decide +kernel) (pa_cons (pv 1) (pa_cons (pe_glob (v := V.ref a.X_CellFull) rfl T.e_CellFull rfl) pa_nil))) pa_nil))))))
      (pss_cons (ps_set (i := 2) sc_l_error_of.nd rfl (Or.inl rfl) (pe_op op_cat (pv 2) (pe_lst (pa_cons (pe_callB (call_isXU hz hf) (by rfl) T.z_isinstance (by decide +kernel) (pa_cons (pv 1) (pa_cons (pe_glob (v := V.ref a.X_CellEmpty) rfl T.e_CellEmpty rfl) pa_nil))) (pa_cons (pe_callB (call_isXU hz hf) (by rfl) T.z_isinstance (by decide +kernel) (pa_cons (pv 1) (pa_cons (pe_glob (v := V.ref a.X_InvalidName) rfl T.e_InvalidName rfl) pa_nil))) (pa_cons (pe_callB (call_isXU hz hf) (by rfl) T.z_isinstance (by decide +kernel) (pa_cons (pv 1) (pa_cons (pe_glob (v := V.ref a.X_UnknownName) rfl T.e_UnknownName rfl) pa_nil))) pa_nil))))))
      (pss_cons (ps_set (i := 2) sc_l_error_of.nd rfl (Or.inl rfl) (pe_op op_cat (pv 2) (pe_lst (pa_cons (pe_callB (call_isXU hz hf) (by rfl) T.z_isinstance (by decide +kernel) (pa_cons (pv 1) (pa_cons (pe_glob (v := V.ref a.X_SyntaxFault) rfl T.e_SyntaxFault rfl) pa_nil))) (pa_cons (pe_callB (call_isXU hz hf) (by rfl) T.z_isinstance (by decide +kernel) (pa_cons (pv 1) (pa_cons (pe_glob (v := V.ref a.X_CheckFault) rfl T.e_CheckFault rfl) pa_nil))) (pa_cons (pe_callB (call_isXU hz hf) (by rfl) T.z_isinstance (by decide +kernel) (pa_cons (pv 1) (pa_cons (pe_glob (v := V.ref a.X_InvalidCode) rfl T.e_InvalidCode rfl) pa_nil))) pa_nil))))))
      (pss_cons (ps_set (i := 2) sc_l_error_of.nd rfl (Or.inl rfl) (pe_op op_cat (pv 2) (pe_lst (pa_cons (pe_callB (call_isXU hz hf) (by rfl) T.z_isinstance (by decide +kernel) (pa_cons (pv 1) (pa_cons (pe_glob (v := V.ref a.X_InvalidOperation) rfl T.e_InvalidOperation rfl) pa_nil))) pa_nil))))
      (pss_cons (ps_if (PW.pt (pw_or (pt_cmpR op_ne (pe_bmS (eCx X a cdg s H) ea oe pn PySem.F.plainAttrs_list PySem.F.slot_list_count PySem.F.type_list_count (mt_lcountFS (eCx X a cdg s H) ea oe pn) (pv 2) (pa_cons pe_bl pa_nil)) pe_int (nomark _)) (pw_or1 (pt_not (pt_val (pe_callB (call_isXU hz hf) (by rfl) T.z_isinstance (by decide +kernel) (pa_cons (pv 1) (pa_cons (pe_bltn (v := .ty "ValueError") (by rfl) T.z_ValueError (by decide +kernel) rfl) pa_nil)))))))) (pss_one (ps_ret (pe_tup (pa_cons pe_str (pa_cons pe_int pa_nil))))) pss_nil)
      (pss_cons (ps_set (i := 3) sc_l_error_of.nd rfl (Or.inl rfl) (pe_lst (pa_cons pe_str (pa_cons pe_str (pa_cons pe_str (pa_cons pe_str (pa_cons pe_str (pa_cons pe_str (pa_cons pe_str (pa_cons pe_str (pa_cons pe_str pa_nil)))))))))))
      (pss_cons (ps_set (i := 4) sc_l_error_of.nd rfl (Or.inl rfl) (pe_ix (ix_listS (eCx X a cdg s H) ea oe pn) (pe_op op_cat (pv 3) (pe_lst (pa_cons pe_str (pa_cons pe_str (pa_cons pe_str (pa_cons pe_str pa_nil)))))) (pe_bmS (eCx X a cdg s H) ea oe pn PySem.F.plainAttrs_list PySem.F.slot_list_index PySem.F.type_list_index (mt_indexS (eCx X a cdg s H) ea oe pn) (pv 2) (pa_cons pe_bl pa_nil)) (fun _ _ => rfl)))
      (pss_cons (ps_if (pt_cmpR (op_in_seqS (eCx X a cdg s H) ea oe pn) (pv 4) (pe_lst (pa_cons pe_str (pa_cons pe_str pa_nil))) rfl) (pss_one (ps_ret (pe_tup (pa_cons (pv 4) (pa_cons (pe_ifExp (pt_cmpR op_eq (pv 4) pe_str (nomark _)) (pe_tup (pa_cons (pe_xfG hz hf (pv 1)) (pa_cons (pe_xfG hz hf (pv 1)) pa_nil))) (pe_tup (pa_cons (pe_xfG hz hf (pv 1)) (pa_cons (pe_xfG hz hf (pv 1)) (pa_cons (pe_xfG hz hf (pv 1)) pa_nil))))) pa_nil))))) pss_nil)
      (pss_one (ps_ret (pe_tup (pa_cons (pv 4) (pa_cons (pe_ifExp (pt_cmpR (op_in_seqS (eCx X a cdg s H) ea oe pn) (pv 4) (pe_lst (pa_cons pe_str (pa_cons pe_str pa_nil))) rfl) (pe_xfG hz hf (pv 1)) pe_int) pa_nil)))))))))))))))) (pss_one (ps_ret pe_non)), ?_⟩
  · refine ⟨fun pins s' σ H' D I h' => ?_⟩
    obtain ⟨Ech, h1, h2, hW, h3⟩ := h'
    exact (pss_one (ps_expr (act W pn xe Ech _ _ tk))).run pins s' σ H' D I ⟨h1, h2, hW, h3⟩
  · refine ⟨ErrOut X.K a fun _ _ => Q, rfl, hc, fun cls d H' ⟨C, j, wd, D, ec, hD, ek, k⟩ => ⟨true, by rw [ec]; exact ek.xe, fun _ ea hea => ?_, fun z => by cases z⟩, h⟩
    subst ec
    refine ⟨_, rfl, C, .ref a.X_InvalidTick, .ref a.X_InvalidTick, decide (j = 0), rfl, (hD.mono (Same.refl _)).ok, ek.xc, rfl, (fun u r => r), ek.o0, _, rfl, C, .ref a.X_InvalidNumber, .ref a.X_InvalidNumber, decide (j = 1), rfl, (hD.mono (Same.refl _)).ok, ek.xc, rfl, (fun u r => r), ek.o1, _, rfl, C, .ref a.X_TooLong, .ref a.X_TooLong, decide (j = 2), rfl, (hD.mono (Same.refl _)).ok, ek.xc, rfl, (fun u r => r), ek.o2, (by show 3 ≤ sizeLine; decide), fun l0 hl0 => ?_⟩
    have m0 := same_new (o := .lst [.bl (decide (j = 0)), .bl (decide (j = 1)), .bl (decide (j = 2))]) hl0
    have e0 : (upd H' l0 (.lst [.bl (decide (j = 0)), .bl (decide (j = 1)), .bl (decide (j = 2))])) l0 = some (.lst [.bl (decide (j = 0)), .bl (decide (j = 1)), .bl (decide (j = 2))]) := upd_same
    revert m0 e0
    generalize upd H' l0 (.lst [.bl (decide (j = 0)), .bl (decide (j = 1)), .bl (decide (j = 2))]) = H0
    intro m0 e0
    refine ⟨_, rfl, _, rfl, C, .ref a.X_DifferentShelves, .ref a.X_DifferentShelves, decide (j = 3), rfl, (hD.mono (m0)).ok, ek.xc, rfl, (fun u r => r), ek.o3, _, rfl, C, .ref a.X_Contradiction, .ref a.X_Contradiction, decide (j = 4), rfl, (hD.mono (m0)).ok, ek.xc, rfl, (fun u r => r), ek.o4, _, rfl, C, .ref a.X_CellFull, .ref a.X_CellFull, decide (j = 5), rfl, (hD.mono (m0)).ok, ek.xc, rfl, (fun u r => r), ek.o5, (by show 3 ≤ sizeLine; decide), fun k1 hk1 => ?_⟩
    refine ⟨l0, k1, _, _, rfl, rfl, by rw [upd_ne (ne_of_none e0 hk1)]; exact e0, upd_same, (by show 6 ≤ sizeLine; decide), fun l1 hl1 => ?_⟩
    have m1 := (m0.trans (same_new (o := .lst [.bl (decide (j = 3)), .bl (decide (j = 4)), .bl (decide (j = 5))]) hk1)).trans (same_new (o := .lst ([.bl (decide (j = 0)), .bl (decide (j = 1)), .bl (decide (j = 2))] ++ [.bl (decide (j = 3)), .bl (decide (j = 4)), .bl (decide (j = 5))])) hl1)
    have e1 : (upd (upd H0 k1 (.lst [.bl (decide (j = 3)), .bl (decide (j = 4)), .bl (decide (j = 5))])) l1 (.lst ([.bl (decide (j = 0)), .bl (decide (j = 1)), .bl (decide (j = 2))] ++ [.bl (decide (j = 3)), .bl (decide (j = 4)), .bl (decide (j = 5))]))) l1 = some (.lst [.bl (decide (j = 0)), .bl (decide (j = 1)), .bl (decide (j = 2)), .bl (decide (j = 3)), .bl (decide (j = 4)), .bl (decide (j = 5))]) := upd_same
    revert m1 e1
    generalize upd (upd H0 k1 (.lst [.bl (decide (j = 3)), .bl (decide (j = 4)), .bl (decide (j = 5))])) l1 (.lst ([.bl (decide (j = 0)), .bl (decide (j = 1)), .bl (decide (j = 2))] ++ [.bl (decide (j = 3)), .bl (decide (j = 4)), .bl (decide (j = 5))])) = H1
    intro m1 e1
    refine ⟨_, rfl, _, rfl, C, .ref a.X_CellEmpty, .ref a.X_CellEmpty, decide (j = 6), rfl, (hD.mono (m1)).ok, ek.xc, rfl, (fun u r => r), ek.o6, _, rfl, C, .ref a.X_InvalidName, .ref a.X_InvalidName, decide (j = 7), rfl, (hD.mono (m1)).ok, ek.xc, rfl, (fun u r => r), ek.o7, _, rfl, C, .ref a.X_UnknownName, .ref a.X_UnknownName, decide (j = 8), rfl, (hD.mono (m1)).ok, ek.xc, rfl, (fun u r => r), ek.o8, (by show 3 ≤ sizeLine; decide), fun k2 hk2 => ?_⟩
    refine ⟨l1, k2, _, _, rfl, rfl, by rw [upd_ne (ne_of_none e1 hk2)]; exact e1, upd_same, (by show 9 ≤ sizeLine; decide), fun l2 hl2 => ?_⟩
    have m2 := (m1.trans (same_new (o := .lst [.bl (decide (j = 6)), .bl (decide (j = 7)), .bl (decide (j = 8))]) hk2)).trans (same_new (o := .lst ([.bl (decide (j = 0)), .bl (decide (j = 1)), .bl (decide (j = 2)), .bl (decide (j = 3)), .bl (decide (j = 4)), .bl (decide (j = 5))] ++ [.bl (decide (j = 6)), .bl (decide (j = 7)), .bl (decide (j = 8))])) hl2)
    have e2 : (upd (upd H1 k2 (.lst [.bl (decide (j = 6)), .bl (decide (j = 7)), .bl (decide (j = 8))])) l2 (.lst ([.bl (decide (j = 0)), .bl (decide (j = 1)), .bl (decide (j = 2)), .bl (decide (j = 3)), .bl (decide (j = 4)), .bl (decide (j = 5))] ++ [.bl (decide (j = 6)), .bl (decide (j = 7)), .bl (decide (j = 8))]))) l2 = some (.lst [.bl (decide (j = 0)), .bl (decide (j = 1)), .bl (decide (j = 2)), .bl (decide (j = 3)), .bl (decide (j = 4)), .bl (decide (j = 5)), .bl (decide (j = 6)), .bl (decide (j = 7)), .bl (decide (j = 8))]) := upd_same
    revert m2 e2
    generalize upd (upd H1 k2 (.lst [.bl (decide (j = 6)), .bl (decide (j = 7)), .bl (decide (j = 8))])) l2 (.lst ([.bl (decide (j = 0)), .bl (decide (j = 1)), .bl (decide (j = 2)), .bl (decide (j = 3)), .bl (decide (j = 4)), .bl (decide (j = 5))] ++ [.bl (decide (j = 6)), .bl (decide (j = 7)), .bl (decide (j = 8))])) = H2
    intro m2 e2
    refine ⟨_, rfl, _, rfl, C, .ref a.X_SyntaxFault, .ref a.X_SyntaxFault, decide (j = 9), rfl, (hD.mono (m2)).ok, ek.xc, rfl, (fun u r => r), ek.o9, _, rfl, C, .ref a.X_CheckFault, .ref a.X_CheckFault, decide (j = 10), rfl, (hD.mono (m2)).ok, ek.xc, rfl, (fun u r => r), ek.o10, _, rfl, C, .ref a.X_InvalidCode, .ref a.X_InvalidCode, decide (j = 11), rfl, (hD.mono (m2)).ok, ek.xc, rfl, (fun u r => r), ek.o11, (by show 3 ≤ sizeLine; decide), fun k3 hk3 => ?_⟩
    refine ⟨l2, k3, _, _, rfl, rfl, by rw [upd_ne (ne_of_none e2 hk3)]; exact e2, upd_same, (by show 12 ≤ sizeLine; decide), fun l3 hl3 => ?_⟩
    have m3 := (m2.trans (same_new (o := .lst [.bl (decide (j = 9)), .bl (decide (j = 10)), .bl (decide (j = 11))]) hk3)).trans (same_new (o := .lst ([.bl (decide (j = 0)), .bl (decide (j = 1)), .bl (decide (j = 2)), .bl (decide (j = 3)), .bl (decide (j = 4)), .bl (decide (j = 5)), .bl (decide (j = 6)), .bl (decide (j = 7)), .bl (decide (j = 8))] ++ [.bl (decide (j = 9)), .bl (decide (j = 10)), .bl (decide (j = 11))])) hl3)
    have e3 : (upd (upd H2 k3 (.lst [.bl (decide (j = 9)), .bl (decide (j = 10)), .bl (decide (j = 11))])) l3 (.lst ([.bl (decide (j = 0)), .bl (decide (j = 1)), .bl (decide (j = 2)), .bl (decide (j = 3)), .bl (decide (j = 4)), .bl (decide (j = 5)), .bl (decide (j = 6)), .bl (decide (j = 7)), .bl (decide (j = 8))] ++ [.bl (decide (j = 9)), .bl (decide (j = 10)), .bl (decide (j = 11))]))) l3 = some (.lst [.bl (decide (j = 0)), .bl (decide (j = 1)), .bl (decide (j = 2)), .bl (decide (j = 3)), .bl (decide (j = 4)), .bl (decide (j = 5)), .bl (decide (j = 6)), .bl (decide (j = 7)), .bl (decide (j = 8)), .bl (decide (j = 9)), .bl (decide (j = 10)), .bl (decide (j = 11))]) := upd_same
    revert m3 e3
    generalize upd (upd H2 k3 (.lst [.bl (decide (j = 9)), .bl (decide (j = 10)), .bl (decide (j = 11))])) l3 (.lst ([.bl (decide (j = 0)), .bl (decide (j = 1)), .bl (decide (j = 2)), .bl (decide (j = 3)), .bl (decide (j = 4)), .bl (decide (j = 5)), .bl (decide (j = 6)), .bl (decide (j = 7)), .bl (decide (j = 8))] ++ [.bl (decide (j = 9)), .bl (decide (j = 10)), .bl (decide (j = 11))])) = H3
    intro m3 e3
    refine ⟨_, rfl, _, rfl, C, .ref a.X_InvalidOperation, .ref a.X_InvalidOperation, decide (j = 12), rfl, (hD.mono (m3)).ok, ek.xc, rfl, (fun u r => r), ek.o12, (by show 1 ≤ sizeLine; decide), fun k4 hk4 => ?_⟩
    refine ⟨l3, k4, _, _, rfl, rfl, by rw [upd_ne (ne_of_none e3 hk4)]; exact e3, upd_same, (by show 13 ≤ sizeLine; decide), fun l4 hl4 => ?_⟩
    have m4 := (m3.trans (same_new (o := .lst [.bl (decide (j = 12))]) hk4)).trans (same_new (o := .lst ([.bl (decide (j = 0)), .bl (decide (j = 1)), .bl (decide (j = 2)), .bl (decide (j = 3)), .bl (decide (j = 4)), .bl (decide (j = 5)), .bl (decide (j = 6)), .bl (decide (j = 7)), .bl (decide (j = 8)), .bl (decide (j = 9)), .bl (decide (j = 10)), .bl (decide (j = 11))] ++ [.bl (decide (j = 12))])) hl4)
    have e4 : (upd (upd H3 k4 (.lst [.bl (decide (j = 12))])) l4 (.lst ([.bl (decide (j = 0)), .bl (decide (j = 1)), .bl (decide (j = 2)), .bl (decide (j = 3)), .bl (decide (j = 4)), .bl (decide (j = 5)), .bl (decide (j = 6)), .bl (decide (j = 7)), .bl (decide (j = 8)), .bl (decide (j = 9)), .bl (decide (j = 10)), .bl (decide (j = 11))] ++ [.bl (decide (j = 12))]))) l4 = some (.lst [.bl (decide (j = 0)), .bl (decide (j = 1)), .bl (decide (j = 2)), .bl (decide (j = 3)), .bl (decide (j = 4)), .bl (decide (j = 5)), .bl (decide (j = 6)), .bl (decide (j = 7)), .bl (decide (j = 8)), .bl (decide (j = 9)), .bl (decide (j = 10)), .bl (decide (j = 11)), .bl (decide (j = 12))]) := upd_same
    revert m4 e4
    generalize upd (upd H3 k4 (.lst [.bl (decide (j = 12))])) l4 (.lst ([.bl (decide (j = 0)), .bl (decide (j = 1)), .bl (decide (j = 2)), .bl (decide (j = 3)), .bl (decide (j = 4)), .bl (decide (j = 5)), .bl (decide (j = 6)), .bl (decide (j = 7)), .bl (decide (j = 8)), .bl (decide (j = 9)), .bl (decide (j = 10)), .bl (decide (j = 11))] ++ [.bl (decide (j = 12))])) = H4
    intro m4 e4
    refine ⟨_, rfl, .inl ⟨rfl, _, SqL.of e4⟩, l4, _, .bl true, rfl, rfl, SqL.of e4, rfl, rfl, rfl, _, rfl, ite_f (by match j, ek.lt with | 0, _ => rfl | 1, _ => rfl | 2, _ => rfl | 3, _ => rfl | 4, _ => rfl | 5, _ => rfl | 6, _ => rfl | 7, _ => rfl | 8, _ => rfl | 9, _ => rfl | 10, _ => rfl | 11, _ => rfl | 12, _ => rfl) ?_⟩
    refine ⟨_, rfl, C, .ty "ValueError", .type "ValueError", true, rfl, (hD.mono (m4)).ok, ek.xc, rfl, (fun u r => r), ek.xv, _, rfl, ite_f rfl ?_⟩
    refine ⟨(by show 9 ≤ sizeLine; decide), fun n0 hn0 => ?_⟩
    have m5 := m4.trans (same_new (o := .lst [.str "tick", .str "number", .str "long", .str "different", .str "contradiction", .str "full", .str "empty", .str "name", .str "unknown"]) hn0)
    have e5 : (upd H4 n0 (.lst [.str "tick", .str "number", .str "long", .str "different", .str "contradiction", .str "full", .str "empty", .str "name", .str "unknown"])) l4 = _ := (upd_ne (ne_of_none e4 hn0)).trans e4
    have f5 : (upd H4 n0 (.lst [.str "tick", .str "number", .str "long", .str "different", .str "contradiction", .str "full", .str "empty", .str "name", .str "unknown"])) n0 = some (.lst [.str "tick", .str "number", .str "long", .str "different", .str "contradiction", .str "full", .str "empty", .str "name", .str "unknown"]) := upd_same
    revert m5 e5 f5
    generalize upd H4 n0 (.lst [.str "tick", .str "number", .str "long", .str "different", .str "contradiction", .str "full", .str "empty", .str "name", .str "unknown"]) = H5
    intro m5 e5 f5
    refine ⟨_, rfl, (by show 4 ≤ sizeLine; decide), fun n1 hn1 => ?_⟩
    refine ⟨n0, n1, _, _, rfl, rfl, by rw [upd_ne (ne_of_none f5 hn1)]; exact f5, upd_same, (by show 13 ≤ sizeLine; decide), fun n2 hn2 => ?_⟩
    have m6 := (m5.trans (same_new (o := .lst [.str "syntax", .str "check", .str "code", .str "operation"]) hn1)).trans (same_new (o := .lst ([.str "tick", .str "number", .str "long", .str "different", .str "contradiction", .str "full", .str "empty", .str "name", .str "unknown"] ++ [.str "syntax", .str "check", .str "code", .str "operation"])) hn2)
    have g6 : (upd H5 n1 (.lst [.str "syntax", .str "check", .str "code", .str "operation"])) l4 = _ := (upd_ne (ne_of_none e5 hn1)).trans e5
    have e6 : (upd (upd H5 n1 (.lst [.str "syntax", .str "check", .str "code", .str "operation"])) n2 (.lst ([.str "tick", .str "number", .str "long", .str "different", .str "contradiction", .str "full", .str "empty", .str "name", .str "unknown"] ++ [.str "syntax", .str "check", .str "code", .str "operation"]))) l4 = _ := (upd_ne (ne_of_none g6 hn2)).trans g6
    have f6 : (upd (upd H5 n1 (.lst [.str "syntax", .str "check", .str "code", .str "operation"])) n2 (.lst ([.str "tick", .str "number", .str "long", .str "different", .str "contradiction", .str "full", .str "empty", .str "name", .str "unknown"] ++ [.str "syntax", .str "check", .str "code", .str "operation"]))) n2 = some (.lst [.str "tick", .str "number", .str "long", .str "different", .str "contradiction", .str "full", .str "empty", .str "name", .str "unknown", .str "syntax", .str "check", .str "code", .str "operation"]) := upd_same
    revert m6 e6 f6
    generalize upd (upd H5 n1 (.lst [.str "syntax", .str "check", .str "code", .str "operation"])) n2 (.lst ([.str "tick", .str "number", .str "long", .str "different", .str "contradiction", .str "full", .str "empty", .str "name", .str "unknown"] ++ [.str "syntax", .str "check", .str "code", .str "operation"])) = H6
    intro m6 e6 f6
    refine ⟨_, rfl, .inl ⟨rfl, _, SqL.of e6⟩, l4, _, .bl true, j, .bl true, rfl, rfl, SqL.of e6, rfl, rfl, idx_at ek.lt, rfl, (fun m z hm hz => idx_no ek.lt hm hz), n2, _, _, .str wd, rfl, rfl, SqL.of f6, at_of (j := j) rfl ek.nm, ?_⟩
    refine ⟨_, rfl, (by show 2 ≤ sizeLine; decide), fun n3 hn3 => ?_⟩
    have m7 := m6.trans (same_new (o := .lst [.str "syntax", .str "check"]) hn3)
    rcases id hD with ⟨ed, hj, rfl⟩ | ⟨dd, fs, pl, ed, hdd, hl, hj, rfl⟩ | ⟨dd, fs, l, c, ed, hdd, hl, hcl, hj, rfl⟩ | ⟨dd, fs, r, l, c, ed, hdd, hrs, hl, hcl, hj, rfl⟩
    · refine ⟨n3, _, rfl, .inl (SqL.of upd_same), rfl, rfl, _, rfl, ite_f (ek.n1.trans (decide_eq_false (by omega))) ?_⟩
      revert m7
      generalize upd H6 n3 (.lst [.str "syntax", .str "check"]) = H7
      intro m7
      refine ⟨_, rfl, _, rfl, (by show 2 ≤ sizeLine; decide), fun n4 hn4 => ?_⟩
      have m8 := m7.trans (same_new (o := .lst [.str "code", .str "operation"]) hn4)
      refine ⟨n4, _, rfl, .inl (SqL.of upd_same), rfl, rfl, _, rfl, ite_f (ek.n2.trans (decide_eq_false (by omega))) ?_⟩
      revert m8
      generalize upd H7 n4 (.lst [.str "code", .str "operation"]) = H8
      intro m8
      refine ⟨(by show 2 ≤ sizeLine; decide), fun tp htp => ?_⟩
      exact k _ tp (m8.trans (same_new htp)) (Same.free m8 htp) (.tup (SqT.of upd_same) (.cons (.str _) (.cons (.int _) .nil)))
    · refine ⟨n3, _, rfl, .inl (SqL.of upd_same), rfl, rfl, _, rfl, ite_f (ek.n1.trans (decide_eq_false (by omega))) ?_⟩
      revert m7
      generalize upd H6 n3 (.lst [.str "syntax", .str "check"]) = H7
      intro m7
      refine ⟨_, rfl, _, rfl, (by show 2 ≤ sizeLine; decide), fun n4 hn4 => ?_⟩
      have m8 := m7.trans (same_new (o := .lst [.str "code", .str "operation"]) hn4)
      refine ⟨n4, _, rfl, .inl (SqL.of upd_same), rfl, rfl, _, rfl, ite_t (ek.n2.trans (decide_eq_true hj)) ?_⟩
      revert m8
      generalize upd H7 n4 (.lst [.str "code", .str "operation"]) = H8
      intro m8
      refine ⟨_, rfl, rfl, C, rfl, ek.xf (by omega), ek.xp hj, dd, fs, .int pl, ed, m8 _ _ hdd, hl, (by show 2 ≤ sizeLine; decide), fun tp htp => ?_⟩
      exact k _ tp (m8.trans (same_new htp)) (Same.free m8 htp) (.tup (SqT.of upd_same) (.cons (.str _) (.cons (.int _) .nil)))
    · refine ⟨n3, _, rfl, .inl (SqL.of upd_same), rfl, rfl, _, rfl, ite_t (ek.n1.trans (decide_eq_true (.inl hj))) ?_⟩
      revert m7
      generalize upd H6 n3 (.lst [.str "syntax", .str "check"]) = H7
      intro m7
      obtain ⟨x1, x2⟩ := ek.xl (.inl hj)
      refine ⟨_, rfl, _, rfl, rfl, _, rfl, ite_t (ek.sx.trans (decide_eq_true hj)) ?_⟩
      refine ⟨_, rfl, rfl, C, rfl, ek.xf (by omega), x1, dd, fs, .int l, ed, m7 _ _ hdd, hl, _, rfl, rfl, C, rfl, ek.xf (by omega), x2, dd, fs, .int c, ed, m7 _ _ hdd, hcl, (by show 2 ≤ sizeLine; decide), fun tq htq => ⟨(by show 2 ≤ sizeLine; decide), fun tp htp => ?_⟩⟩
      have m8 := m7.trans (same_new (o := .tup [.int l, .int c]) htq)
      exact k _ tp (m8.trans (same_new htp)) (Same.free m8 htp) (.tup (SqT.of upd_same) (.cons (.str _) (.cons (.tup (Same.seqT (same_new htp) (SqT.of upd_same)) (.cons (.int _) (.cons (.int _) .nil))) .nil)))
    · refine ⟨n3, _, rfl, .inl (SqL.of upd_same), rfl, rfl, _, rfl, ite_t (ek.n1.trans (decide_eq_true (.inr hj))) ?_⟩
      revert m7
      generalize upd H6 n3 (.lst [.str "syntax", .str "check"]) = H7
      intro m7
      obtain ⟨x1, x2⟩ := ek.xl (.inr hj)
      refine ⟨_, rfl, _, rfl, rfl, _, rfl, ite_f (ek.sx.trans (decide_eq_false (by omega))) ?_⟩
      refine ⟨_, rfl, rfl, C, rfl, ek.xf (by omega), ek.xr hj, dd, fs, .str r, ed, m7 _ _ hdd, hrs, _, rfl, rfl, C, rfl, ek.xf (by omega), x1, dd, fs, .int l, ed, m7 _ _ hdd, hl, _, rfl, rfl, C, rfl, ek.xf (by omega), x2, dd, fs, .int c, ed, m7 _ _ hdd, hcl, (by show 3 ≤ sizeLine; decide), fun tq htq => ⟨(by show 2 ≤ sizeLine; decide), fun tp htp => ?_⟩⟩
      have m8 := m7.trans (same_new (o := .tup [.str r, .int l, .int c]) htq)
      exact k _ tp (m8.trans (same_new htp)) (Same.free m8 htp) (.tup (SqT.of upd_same) (.cons (.str _) (.cons (.tup (Same.seqT (same_new htp) (SqT.of upd_same)) (.cons (.str _) (.cons (.int _) (.cons (.int _) .nil)))) .nil)))
end
theorem errK_InvalidCode {K : PySem.W.Frag} {mg : Str → Option Value} {a : Ad} (T : Txt K mg a) : ErrK K a a.X_InvalidCode 11 "code" := ⟨by decide, T.xc_InvalidCode, T.xe_InvalidCode, T.xv_InvalidCode, T.xo_InvalidCode_InvalidTick, T.xo_InvalidCode_InvalidNumber, T.xo_InvalidCode_TooLong, T.xo_InvalidCode_DifferentShelves, T.xo_InvalidCode_Contradiction, T.xo_InvalidCode_CellFull, T.xo_InvalidCode_CellEmpty, T.xo_InvalidCode_InvalidName, T.xo_InvalidCode_UnknownName, T.xo_InvalidCode_SyntaxFault, T.xo_InvalidCode_CheckFault, T.xo_InvalidCode_InvalidCode, T.xo_InvalidCode_InvalidOperation, rfl, by decide +kernel, by decide +kernel, by decide +kernel, fun _ => T.xf_InvalidCode, fun _ => T.xn_place_InvalidCode, fun h => absurd h (by decide), fun h => absurd h (by decide)⟩
/-! ### _law_error_of of a lambda that was made before -/
structure spErrL (P : Program) (w : World) (K : PySem.W.Frag) (mg : Str → Option Value) (base : Heap) (a : Ad) (kk : Nat) (vs : List V) (H : Hp) (Q : VK) (E : XK) : Prop where
  ex : ∃ (f c' : Addr) (q : Str) (D : Hp → Prop) (R : Hp → XK → VK → Prop), vs = [.ref f] ∧ LamE P w K mg base kk f c' q D R ∧ D H ∧ R H (ErrOut K a fun _ _ => Q) fun _ H' => Q .non H'
section
variable {P : Program} {w : World} {K : PySem.W.Frag} {mg : Str → Option Value} {base : Heap} {a : Ad}
theorem ok_l_error_ofL (T : Txt K mg a) (kk : Nat) : FnOk P w K mg base CX0 (kk + 1) a.f_l_error_of a.d_l_error_of ["_law_call"] (spErrL P w K mg base a kk) := by
  refine T.F_l_error_of.ok sc_l_error_of (fun vs H Q E h => ?_) (fun cdv A outer s H vs Q E hr h => ?_)
  · obtain ⟨⟨f, c', q, D, R, rfl, _⟩⟩ := h
    rfl
  · obtain ⟨⟨f, c', q, D, R, rfl, L, hD, hR⟩⟩ := h
    let X0 : Cx := { cxOf CX0 P w K mg base [] "" (defScope s_l_error_of) a.f_l_error_of cdv A outer s H C8.E0 with A := A, stack := outer }
    have g := err_gives (X := X0) T (cdg := cdv) (q := q) f c' s H Q (fun E1 H1 Q1 => D H1 ∧ R H1 E1 Q1) (fun W pn xe E1 p1 p2 tk => ⟨fun pins s2 σ2 H2 Q2 I2 ⟨h1, _, h3, h4, h5⟩ => (pe_callE (X := (cxOf C8.CX0 P w K mg base ["_law_call", "e", "_law_kinds", "_law_names", "_law_name"] "_law_error_of" (defScope s_l_error_of) a.f_l_error_of cdv A outer s H C8.E0).tr pn xe) (i := 0) L hr rfl (by first | exact Or.inl rfl | exact Or.inr (Or.inl rfl) | exact Or.inr (Or.inr rfl)) tk).run pins s2 σ2 H2 Q2 I2 ⟨h1, h4, E1, h3, h5⟩⟩) (L.cd H hD) ⟨hD, hR⟩
    exact g
/-! ### _law_all_raise of such lambdas: J what holds ahead of each -/
structure spAllR (P : Program) (w : World) (K : PySem.W.Frag) (mg : Str → Option Value) (base : Heap) (a : Ad) (kk : Nat) (vs : List V) (H : Hp) (Q : VK) (E : XK) : Prop where
  ex : ∃ (l : Addr) (ev : V) (fs : List Addr) (wd : Str) (De : PyData), vs = [.ref l, ev] ∧ SqL K H l (fs.map V.ref) ∧ SeqAt.shaped (.tuple [.str wd, De]) = true ∧ PyData.canLay0 (.tuple [.str wd, De]) = true ∧ fs.length ≤ 1000 ∧ ∀ D0, H D0 = none → ∃ J : Nat → Hp → Prop, J 0 (upd H D0 (.lst [])) ∧ (∀ i H1 H2, J i H1 → Same H1 H2 → J i H2) ∧
    (∀ i H1, J i H1 → SqL K H1 l (fs.map V.ref) ∧ Dp K H1 ev (.tuple [.str wd, De]) ∧ H1 D0 = some (.lst [])) ∧
    (∀ i f H1, fs[i]? = some f → J i H1 → ∃ (c' : Addr) (q : Str) (D : Hp → Prop) (R : Hp → XK → VK → Prop), LamE P w K mg base kk f c' q D R ∧ D H1 ∧ ∀ (E : XK) (Q1 : VK), (∀ C j d H2, DAt d H2 j De → ErrK K a C j wd → J (i + 1) H2 → E (.ref C) d H2) → R H1 E Q1) ∧
    ∀ H', J fs.length H' → ∀ H'', Same H' H'' → Q (.bl true) H''
end
end Sb

namespace Sb
open PySem PySem.Spec PyProof.Rows L2 TL LamX NdefX
/-! ### lists of lambdas that all raise and change nothing -/
def LamSame (P : Program) (w : World) (K : PySem.W.Frag) (mg : Str → Option Value) (base : Heap) (a : Ad) (kk : Nat) (f : Addr) (wd : Str) (De : PyData) (H : Hp) : Prop :=
  ∃ (c' : Addr) (q : Str) (D : Hp → Prop) (R : Hp → XK → VK → Prop), LamE P w K mg base kk f c' q D R ∧ (∀ H1, Same H H1 → D H1) ∧ ∀ (H1 : Hp) (E : XK) (Q1 : VK), Same H H1 → (∀ C j d H2, Same H1 H2 → DAt d H2 j De → ErrK K a C j wd → E (.ref C) d H2) → R H1 E Q1
section
variable {P : Program} {w : World} {K : PySem.W.Frag} {mg : Str → Option Value} {base : Heap} {a : Ad} {kk : Nat}
theorem allR_same {l : Addr} {ev : V} {fs : List Addr} {wd : Str} {De : PyData} {H : Hp} {Q : VK} {E : XK} (hl : SqL K H l (fs.map V.ref)) (hev : Dp K H ev (.tuple [.str wd, De])) (hsh : SeqAt.shaped (.tuple [.str wd, De]) = true) (hly : PyData.canLay0 (.tuple [.str wd, De]) = true) (hlen : fs.length ≤ 1000)
    (hf : ∀ f ∈ fs, LamSame P w K mg base a kk f wd De H) (k : ∀ H', Same H H' → Q (.bl true) H') : spAllR P w K mg base a kk [.ref l, ev] H Q E := by
  refine ⟨⟨l, ev, fs, wd, De, rfl, hl, hsh, hly, hlen, fun D0 hD0 => ?_⟩⟩
  have s0 : Same H (upd H D0 (.lst [])) := same_new hD0
  refine ⟨fun _ H1 => Same (upd H D0 (.lst [])) H1, Same.refl _, fun _ H1 H2 h s => h.trans s, fun _ H1 h => ⟨(s0.trans h).seq hl, Dp.mono (s0.trans h) _ _ hev, h _ _ upd_same⟩, fun i f H1 e h => ?_, fun H' h H'' s => k _ ((s0.trans h).trans s)⟩
  obtain ⟨c', q, D, R, L, hD, hR⟩ := hf f (List.mem_of_getElem? e)
  exact ⟨c', q, D, R, L, hD _ (s0.trans h), fun E Q1 hE => hR _ _ _ (s0.trans h) fun C j d H2 s hd hk => hE C j d H2 hd hk (h.trans s)⟩
theorem same_cut {cs : List Addr} {H H1 : Hp} (s : Same H H1) : Same (cut cs H) (cut cs H1) := fun b o e => by
  obtain ⟨hb, e1⟩ := cut_some e
  rw [cut_out hb]
  exact s _ _ e1
theorem lamSame_of {N ps fr : List Str} {vs : List V} {ws : List (Option V)} {cells : List (Addr × Obj)} {cl : List (Str × Addr)} {f c' : Addr} {q : Str} {params : Arguments} {body : Expr} {scope : Scope} {wd : Str} {De : PyData} {H : Hp} {k : Nat}
    (hL : LamAt f c' q params body scope cl vs H) (hF : ∀ p ∈ cells, H p.1 = some (Fz p.2)) (S : NScope N ps fr scope) (Bd : BindD params ps vs) (C : CapT cl fr ws cells) (te : XK → TE)
    (hbody : ∀ (A : Around) (outer : List Env) (s : Shared) (H : Hp) (E : XK), Room k (A.deeper (envF (lamNF q params scope cl c') f s.heap.objs.size)) → PE (ncx (L2.CX P w) P w K mg base N (lamNF q params scope cl c') f A outer s H E) body (te E))
    (hte : ∀ (Hc : Hp) (E : XK) (Q : VK), Same (cut (cells.map (·.1)) H) Hc → (∀ C j d H2, Same Hc H2 → DAt d H2 j De → ErrK K a C j wd → E (.ref C) d H2) → te E (startF N vs ws) Hc Q) : LamSame P w K mg base a (k + 1) f wd De H := by
  refine ⟨c', q, LamC f c' q params body scope cl vs cells, fun H4 E4 Q => te (fun cls d H1 => (∀ b ∈ cells.map (·.1), H1 b = none) → E4 cls d (rejoin (cells.map (·.1)) H4 H1)) (startF N vs ws) (cut (cells.map (·.1)) H4) (fun v H' => Q v (rejoin (cells.map (·.1)) H4 H')), lamE_of S Bd C (fun A outer s H E hr => ⟨te, hbody A outer s H E hr, fun H4 E4 Q e1 e2 r => ?_⟩), fun H1 s => ⟨hL.ext fun b o e _ => s _ _ e, fun p hp => s _ _ (hF p hp)⟩, fun H1 E Q1 s hE => ?_⟩
  · subst e1 e2
    exact r
  · refine hte _ _ _ (same_cut s) fun C j d H2 s2 hd hk hn => ?_
    have out : Same H2 (rejoin (cells.map (·.1)) H1 H2) := fun b o e => by
      show (if b ∈ cells.map (·.1) then H1 b else H2 b) = some o
      by_cases hb : b ∈ cells.map (·.1)
      · rw [hn b hb] at e; cases e
      · rw [if_neg hb]; exact e
    refine hE C j d _ (fun b o e => ?_) (hd.mono out) hk
    show (if b ∈ cells.map (·.1) then H1 b else H2 b) = some o
    by_cases hb : b ∈ cells.map (·.1)
    · rw [if_pos hb]; exact e
    · rw [if_neg hb]
      exact s2 _ _ (by rw [cut_out hb]; exact e)
end
end Sb

namespace Sb
open PySem PySem.Spec PyProof.Rows L2 TL
/-! ### equal data are told equal -/
mutual
def okD : PyData → Bool
  | .none | .bool _ | .int _ | .str _ => true
  | .list xs | .tuple xs => decide (xs.length ≤ 1000000) && okAll xs
  | .dict _ => false
def okAll : List PyData → Bool
  | [] => true
  | x :: xs => okD x && okAll xs
end
theorem okAll_at : ∀ {xs : List PyData} {i : Nat} {d : PyData}, okAll xs = true → xs[i]? = some d → okD d = true
  | [], _, _, _, e => by simp at e
  | x :: xs, 0, d, h, e => by
    simp at e; subst e
    have h' : (okD x && okAll xs) = true := h
    rw [Bool.and_eq_true] at h'
    exact h'.1
  | x :: xs, i + 1, d, h, e => by
    have h' : (okD x && okAll xs) = true := h
    rw [Bool.and_eq_true] at h'
    exact okAll_at (i := i) h'.2 (by simpa using e)
theorem depthAll_at : ∀ {xs : List PyData} {i : Nat} {d : PyData}, xs[i]? = some d → d.depth ≤ PyData.depthAll xs
  | [], _, _, e => by simp at e
  | x :: xs, 0, d, e => by
    simp at e; subst e
    show x.depth ≤ max x.depth (PyData.depthAll xs)
    omega
  | x :: xs, i + 1, d, e => by
    have := depthAll_at (xs := xs) (i := i) (d := d) (by simpa using e)
    show d.depth ≤ max x.depth (PyData.depthAll xs)
    omega
theorem SqL.ty {K : PySem.W.Frag} {H : Hp} {p : Addr} {xs : List V} (h : SqL K H p xs) : TyX K H (.ref p) (.type "list") := by
  rcases h with (h | ⟨o, h⟩) | ⟨o, its, n, h1, h2, _⟩
  · exact .base (.lst h)
  · exact .base (.frz h)
  · exact .kList h1 h2
theorem SqT.ty {K : PySem.W.Frag} {H : Hp} {p : Addr} {xs : List V} (h : SqT K H p xs) : TyX K H (.ref p) (.type "tuple") := by
  rcases h with (h | ⟨o, h⟩) | ⟨o, its, n, h1, h2, _⟩
  · exact .base (.tup h)
  · exact .fTuple h
  · exact .kTuple h1 h2
structure spEqual (K : PySem.W.Frag) (n : Nat) (vs : List V) (H : Hp) (Q : VK) (E : XK) : Prop where
  ex : ∃ (v u : V) (d : PyData), vs = [v, u] ∧ Dp K H v d ∧ Dp K H u d ∧ d.depth ≤ n ∧ okD d = true ∧ ∀ H', Same H H' → Q (.bl true) H'
theorem kf {K : PySem.W.Frag} {x y : String} {b : Bool} (h : kitB x y = some b) : PySem.W.kitOne K (.type x) (.type y) = some b := kit_ty h
section
variable {P : Program} {w : World} {K : PySem.W.Frag} {mg : Str → Option Value} {base : Heap} {a : Ad}
end
end Sb

namespace Sb
open PySem PySem.Spec PyProof.Rows L2 TL
/-! ### decode of what is no code: the reader fails -/
structure spIcI (C : Addr) (vs : List V) (H : Hp) (Q : VK) (E : XK) : Prop where
  ex : ∃ (x : Addr) (v : V), vs = [.ref x, v] ∧ H x = some (exo x C none) ∧ ∀ dx, H dx = none → dx ≠ x → Q .non (upd (upd H dx (exd dx [("place", v)])) x (exo x C (some dx)))
inductive BadV (K : PySem.W.Frag) (G : Hp) (lo hi : Int) : V → Prop
  | non : BadV K G lo hi .non
  | bl (b : Bool) : BadV K G lo hi (.bl b)
  | str (z : Str) : BadV K G lo hi (.str z)
  | tup (r : Addr) (xs : List V) (h : SqT K G r xs) : BadV K G lo hi (.ref r)
  | int (i : Int) (h : ¬(lo ≤ i ∧ i ≤ hi)) : BadV K G lo hi (.int i)
def BadAt (K : PySem.W.Frag) (G : Hp) (cs : List V) (n : Nat) (lo hi : Int) : Prop := n = cs.length ∨ ∃ v, cs[n]? = some v ∧ BadV K G lo hi v
theorem BadV.mono {K : PySem.W.Frag} {G G' : Hp} {lo hi : Int} {v : V} (h : BadV K G lo hi v) (s : Same G G') : BadV K G' lo hi v := by
  cases h with
  | non => exact .non
  | bl b => exact .bl b
  | str z => exact .str z
  | tup r xs h => exact .tup r xs (Same.seqT s h)
  | int i h => exact .int i h
theorem BadAt.mono {K : PySem.W.Frag} {G G' : Hp} {cs : List V} {n : Nat} {lo hi : Int} (h : BadAt K G cs n lo hi) (s : Same G G') : BadAt K G' cs n lo hi := h.imp id fun ⟨v, e, b⟩ => ⟨v, e, b.mono s⟩
theorem badv_go {K : PySem.W.Frag} {H : Hp} {v : V} {lo hi : Int} {Q : VK} {E : XK} (h : BadV K H lo hi v) (k : Q (.bl false) H) : spIsInt K [v, .int lo, .int hi] H Q E := by
  refine ⟨⟨v, lo, hi, rfl, ?_⟩⟩
  cases h with
  | non => exact .inr (.inr ⟨_, .base .non, kf (by decide +kernel), k⟩)
  | bl b => exact .inr (.inl ⟨b, rfl, k⟩)
  | str z => exact .inr (.inr ⟨_, .base (.str _), kf (by decide +kernel), k⟩)
  | tup r xs h => exact .inr (.inr ⟨_, SqT.ty h, kf (by decide +kernel), k⟩)
  | int i h => exact .inl ⟨i, rfl, by rw [decide_eq_false h]; exact k⟩
structure spByteX (a : Ad) (K : PySem.W.Frag) (vs : List V) (H : Hp) (Q : VK) (E : XK) : Prop where
  ex : ∃ (r : Addr) (G : Hp) (n : Nat) (cs : List V) (lo hi : Int), vs = [.ref r, .int lo, .int hi] ∧ Same G H ∧ RdAt a K G H r n cs ∧ BadAt K G cs n lo hi ∧ n ≤ cs.length ∧ ∀ (H1 : Hp) (d : Addr), Same H H1 → H1 d = some (.xd [("place", .int (n : Nat))]) → E (.ref a.X_InvalidCode) (some d) H1
/-- where the reading of a robot from place n on fails: at m -/
def RobE (K : PySem.W.Frag) (G : Hp) (cs : List V) (n cells : Nat) (os : List Nat) (m : Nat) : Prop :=
  (n ≤ cs.length ∧ BadAt K G cs n 0 ((cells : Int) - 1) ∧ m = n) ∨ ∃ st : Nat, cs[n]? = some (.int st) ∧ st < cells ∧ ((st ∈ os ∧ m = n) ∨ (st ∉ os ∧ ((BadAt K G cs (n + 1) 1 20 ∧ m = n + 1) ∨
    ∃ c : Nat, cs[n + 1]? = some (.int c) ∧ 1 ≤ c ∧ c ≤ 20 ∧ ∃ (ss : List Step) (r : List V), ss.length < c ∧ (∀ s ∈ ss, Step.Ok c s) ∧ cs.drop (n + 2) = nV (ss.flatMap stepB) ++ r ∧
      ((BadAt K G r 0 0 7 ∧ m = n + 2 + (ss.flatMap stepB).length) ∨ ∃ w : Nat, r[0]? = some (.int w) ∧ 5 ≤ w ∧ w < 8 ∧ BadAt K G r 1 0 ((c : Int) - 1) ∧ m = n + 2 + (ss.flatMap stepB).length + 1))))
structure spRobotX (a : Ad) (K : PySem.W.Frag) (vs : List V) (H : Hp) (Q : VK) (E : XK) : Prop where
  ex : ∃ (r ot : Addr) (G : Hp) (n : Nat) (cs : List V) (cells m : Nat) (os : List Nat), vs = [.ref r, .int cells, .ref ot] ∧ Same G H ∧ RdAt a K G H r n cs ∧ SqT K G ot (nV os) ∧ cells < 100 ∧ RobE K G cs n cells os m ∧
    ∀ (G1 H1 : Hp) (d : Addr), Mv [r] G H G1 H1 → H1 d = some (.xd [("place", .int (m : Nat))]) → E (.ref a.X_InvalidCode) (some d) H1
theorem ic_same {H : Hp} {e dx : Addr} {o1 o2 o3 o4 : HO} (ne : H e = none) (nd : (upd H e o1) dx = none) (nde : dx ≠ e) : Same H (upd (del (upd (upd (upd H e o1) dx o2) e o3) e) dx o4) := fun b o eb => by
  have ndx : H dx = none := (upd_ne nde).symm.trans nd
  have nb : b ≠ dx := fun q => by rw [q, ndx] at eb; cases eb
  have ne2 : b ≠ e := fun q => by rw [q, ne] at eb; cases eb
  rw [upd_ne nb, del_ne ne2, upd_ne ne2, upd_ne nb, upd_ne ne2]
  exact eb
theorem bad_off {K : PySem.W.Frag} {G : Hp} {cs r : List V} {n i : Nat} {lo hi : Int} {m : List V} (h : cs.drop n = m ++ r) (hn : n ≤ cs.length) (b : BadAt K G r i lo hi) : BadAt K G cs (n + m.length + i) lo hi := by
  have l := congrArg List.length h
  rw [List.length_drop, List.length_append] at l
  rcases b with e | ⟨v, e, b⟩
  · exact .inl (by omega)
  · refine .inr ⟨v, ?_, b⟩
    have q := congrArg (fun z => z[m.length + i]?) h
    simp only [List.getElem?_drop] at q
    rw [Nat.add_assoc, q, List.getElem?_append_right (by omega)]
    rw [show m.length + i - m.length = i by omega]
    exact e
section
variable {P : Program} {w : World} {K : PySem.W.Frag} {mg : Str → Option Value} {base : Heap} {a : Ad}
theorem ok_InvalidCode_init (T : Txt K mg a) : FnOk P w K mg base CX0 1 a.f_InvalidCode_init a.d_InvalidCode_init ["self", "place"] (spIcI a.X_InvalidCode) := by
  refine T.F_InvalidCode_init.ok sc_InvalidCode_init (fun vs H Q E h => ?_) (fun cdv A outer s H vs Q E hr h => ?_)
  · obtain ⟨⟨x, v, rfl, _⟩⟩ := h
    rfl
  · obtain ⟨⟨x, v, rfl, hx, k⟩⟩ := h
    refine ⟨_, (pss_cons (ps_expr (pe_clinit (pe_glob (v := V.ref a.X_BotError) rfl T.e_BotError rfl) T.xd_InvalidCode T.xw_InvalidCode (pa_cons (pv 0) (pa_cons (pv 1) pa_nil)))) (pss_one (ps_ost (pv 0) (pv 1)))), ?_⟩
    refine ⟨rfl, _, rfl, _, rfl, x, a.X_InvalidCode, [v], rfl, by simp, T.xq_InvalidCode, hx, _, rfl, _, rfl, x, a.X_InvalidCode, rfl, T.xq_InvalidCode, T.xn_place_InvalidCode, .inl ⟨hx, fun dx nd ne => k dx nd ne⟩⟩
theorem ok_Reader_read_byteX (T : Txt K mg a) : FnOk P w K mg base (L2.CX P w) 4 a.f_Reader_read_byte a.d_Reader_read_byte ["self", "low", "high"] (spByteX a K) := by
  refine T.F_Reader_read_byte.okX sc_Reader_read_byte (fun vs H Q E h => ?_) (fun cdv A outer s H vs Q E hr h => ?_)
  · obtain ⟨⟨r, G, n, cs, lo, hi, rfl, _⟩⟩ := h
    rfl
  · obtain ⟨⟨r, G, n, cs, lo, hi, rfl, hs, ⟨dx, cl, h1, h2, h3⟩, hb, hle, k⟩⟩ := h
    refine ⟨_, (pss_cons (ps_if (PW.pt (pw_or (pt_cmpR op_eq (pe_fld (pv 0) rfl) (pe_callB call_len_seq (by rfl) T.z_len (by decide +kernel) (pa_cons (pe_fld (pv 0) rfl) pa_nil)) (nomark _)) (pw_or1 (pt_not (pt_val (pe_call (ok_is_int_in T) (hr.mono (by decide)) rfl T.m_is_int_in T.F_is_int_in.kp (b_is_int_in T) .nil pass0 (pa_cons (pe_ix ix_list (pe_fld (pv 0) rfl) (pe_fld (pv 0) rfl) (fun _ _ => rfl)) (pa_cons (pv 1) (pa_cons (pv 2) pa_nil))))))))) (pss_one (ps_raise rfl (takes_of rfl rfl rfl rfl) (pmk_oex T.xq_InvalidCode T.xi_InvalidCode T.xj_InvalidCode (ok_InvalidCode_init T) (hr.mono (by decide)) (b_InvalidCode_init T) .nil pass0 (by rfl) T.e_InvalidCode (pa_cons (pe_fld (pv 0) rfl) pa_nil)))) pss_nil)
      pss_never), ?_⟩
    have fin : ∀ {x : V}, x = .int (n : Nat) → ∀ (e : Addr), H e = none → True := fun _ _ _ => trivial
    rcases hb with hb | ⟨v, hv, hb⟩
    · refine ⟨_, rfl, r, _, dx, _, .int n, rfl, h1, T.cl_Reader, T.n_Reader_place, (by kernel_rfl), _, rfl, r, _, dx, _, .ref cl, rfl, h1, T.cl_Reader, T.n_Reader_code, (by kernel_rfl), cl, _, rfl, .inl (hs.seq h3), rfl, _, rfl, ite_t (decide_eq_true (by rw [hb])) ?_⟩
      refine ⟨_, rfl, r, _, dx, _, .int n, rfl, h1, T.cl_Reader, T.n_Reader_place, (by kernel_rfl), ?_⟩
      exact ⟨by simp, fun e ne => ⟨⟨e, .int (n : Nat), rfl, upd_same, fun dx nd2 nde => ⟨rfl, dx, [("place", .int (n : Nat))], upd_same, (upd_ne nde).trans upd_same, (upd_ne nde).symm.trans nd2, k _ dx (ic_same ne nd2 nde) upd_same⟩⟩⟩⟩
    · have hn : n < cs.length := (List.getElem?_eq_some_iff.mp hv).1
      refine ⟨_, rfl, r, _, dx, _, .int n, rfl, h1, T.cl_Reader, T.n_Reader_place, (by kernel_rfl), _, rfl, r, _, dx, _, .ref cl, rfl, h1, T.cl_Reader, T.n_Reader_code, (by kernel_rfl), cl, _, rfl, .inl (hs.seq h3), rfl, _, rfl, ite_f (vint_ne (by omega)) ?_⟩
      refine ⟨_, rfl, r, _, dx, _, .ref cl, rfl, h1, T.cl_Reader, T.n_Reader_code, (by kernel_rfl), _, rfl, r, _, dx, _, .int n, rfl, h1, T.cl_Reader, T.n_Reader_place, (by kernel_rfl), cl, _, _, v, rfl, rfl, hs.seq h3, atI_nat hv, _, rfl, _, rfl, badv_go (hb.mono hs) ⟨_, rfl, ite_t rfl ?_⟩⟩
      refine ⟨_, rfl, r, _, dx, _, .int n, rfl, h1, T.cl_Reader, T.n_Reader_place, (by kernel_rfl), ?_⟩
      exact ⟨by simp, fun e ne => ⟨⟨e, .int (n : Nat), rfl, upd_same, fun dx nd2 nde => ⟨rfl, dx, [("place", .int (n : Nat))], upd_same, (upd_ne nde).trans upd_same, (upd_ne nde).symm.trans nd2, k _ dx (ic_same ne nd2 nde) upd_same⟩⟩⟩⟩
end
end Sb

namespace Sb
open PySem PySem.Spec PyProof.Rows L2 TL
/-! ### a robot's reading fails -/
section
variable {P : Program} {w : World} {K : PySem.W.Frag} {mg : Str → Option Value} {base : Heap} {a : Ad}
theorem ok_Reader_read_robotX (T : Txt K mg a) : FnOk P w K mg base (L2.CX P w) 7 a.f_Reader_read_robot a.d_Reader_read_robot ["self", "cells", "others"] (spRobotX a K) := by
  refine T.F_Reader_read_robot.okX sc_Reader_read_robot (fun vs H Q E h => ?_) (fun cdv A outer s H vs Q E hr h => ?_)
  · obtain ⟨⟨r, ot, G, n, cs, cells, m, os, rfl, _⟩⟩ := h
    rfl
  · obtain ⟨⟨r, ot, G, n, cs, cells, m, os, rfl, hs, hR, hot, hc, hE, k⟩⟩ := h
    refine ⟨_, (pss_cons (ps_set (i := 3) sc_Reader_read_robot.nd rfl (Or.inl rfl) (pe_meth (pv 0) T.cl_Reader T.M_Reader_read_byte (fnOk_or (fnOk_any ((ok_Reader_read_byte T).mono (by decide))) (ok_Reader_read_byteX T)) (hr.mono (by decide)) (b_Reader_read_byte T) .nil (passes_call (takes_of rfl rfl rfl rfl) (fun _ _ _ _ h => h)) (pa_cons pe_int (pa_cons (pe_op op_sub (pv 1) pe_int) pa_nil))))
      (pss_cons (ps_if (pt_cmpR op_in_seq (pv 3) (pv 2) rfl) (pss_one (ps_raise rfl (takes_of rfl rfl rfl rfl) (pmk_oex T.xq_InvalidCode T.xi_InvalidCode T.xj_InvalidCode (ok_InvalidCode_init T) (hr.mono (by decide)) (b_InvalidCode_init T) .nil pass0 (by rfl) T.e_InvalidCode (pa_cons (pe_op op_sub (pe_fld (pv 0) rfl) pe_int) pa_nil)))) pss_nil)
      (pss_cons (ps_par (i := 4) (j := 5) (by rfl) sc_Reader_read_robot.nd rfl rfl (by decide) rfl rfl (pa_cons (pe_meth (pv 0) T.cl_Reader T.M_Reader_read_byte (fnOk_or (fnOk_any ((ok_Reader_read_byte T).mono (by decide))) (ok_Reader_read_byteX T)) (hr.mono (by decide)) (b_Reader_read_byte T) .nil (passes_call (takes_of rfl rfl rfl rfl) (fun _ _ _ _ h => h)) (pa_cons pe_int (pa_cons (pe_glob (v := V.int 20) rfl T.c_MAX_STEPS ⟨_, rfl⟩) pa_nil))) (pa_cons (pe_lst pa_nil) pa_nil)) (by rfl))
      (pss_cons (ps_for PassesOwn.leaving rfl (pi_range1 (by rfl) T.z_range (pa_cons (pv 4) pa_nil)) (pg_name (i := 6) sc_Reader_read_robot.nd rfl (Or.inl rfl)) (pss_cons (ps_set (i := 7) sc_Reader_read_robot.nd rfl (Or.inl rfl) (pe_ix ix_tup (pe_glob (v := V.ref a.A_WORDS) rfl T.c_WORDS rfl) (pe_meth (pv 0) T.cl_Reader T.M_Reader_read_byte (fnOk_or (fnOk_any ((ok_Reader_read_byte T).mono (by decide))) (ok_Reader_read_byteX T)) (hr.mono (by decide)) (b_Reader_read_byte T) .nil (passes_call (takes_of rfl rfl rfl rfl) (fun _ _ _ _ h => h)) (pa_cons pe_int (pa_cons (pe_op op_sub (pe_callB call_len_seq (by rfl) T.z_len (by decide +kernel) (pa_cons (pe_glob (v := V.ref a.A_WORDS) rfl T.c_WORDS rfl) pa_nil)) pe_int) pa_nil))) (fun _ _ => rfl)))
      (pss_one (ps_expr (pe_bm PySem.F.plainAttrs_list PySem.F.slot_list_append PySem.F.type_list_append mt_append (pv 5) (pa_cons (pe_tup (pa_cons (pv 7) (pa_cons (pe_ifExp (pt_cmpR op_in_seq (pv 7) (pe_glob (v := V.ref a.A_JUMPS) rfl T.c_JUMPS rfl) rfl) (pe_meth (pv 0) T.cl_Reader T.M_Reader_read_byte (fnOk_or (fnOk_any ((ok_Reader_read_byte T).mono (by decide))) (ok_Reader_read_byteX T)) (hr.mono (by decide)) (b_Reader_read_byte T) .nil (passes_call (takes_of rfl rfl rfl rfl) (fun _ _ _ _ h => h)) (pa_cons pe_int (pa_cons (pe_op op_sub (pv 4) pe_int) pa_nil))) pe_non) pa_nil))) pa_nil))))))
      (pss_one (ps_ret (pe_make T.mk_Robot (fnOk_any (ok_Robot_init T)) (hr.mono (by decide)) (by rfl) T.m_Robot (b_Robot_init T) .nil (passes_call (takes_of rfl rfl rfl rfl) (fun _ _ _ _ h => h)) (pa_cons (pv 3) (pa_cons (pv 5) (pa_cons (pe_op op_rep (pe_lst (pa_cons pe_non pa_nil)) (pv 4)) pa_nil)))))))))), ?_⟩
    have M0 : Mv [r] G H G H := Mv.start hs
    obtain ⟨dx, cl, h1⟩ := hR.obj
    have r0 : H r ≠ none := by rw [h1]; simp
    have bad : ∀ {G2 H2 : Hp} {n2 : Nat} {lo hi : Int}, Mv [r] G H G2 H2 → RdAt a K G2 H2 r n2 cs → BadAt K G cs n2 lo hi → n2 ≤ cs.length → m = n2 → spByteX a K [.ref r, .int lo, .int hi] H2 (fun _ _ => False) (fun cls d H' => E cls d H') := fun {G2 H2 n2 lo hi} M R b l e => ⟨⟨r, G2, n2, cs, lo, hi, rfl, M.s, R, b.mono M.g, l, fun H3 d s3 ed => k G2 H3 d (M.pure (Ext.ofSame M.s s3) s3) (by rw [e]; exact ed)⟩⟩
    have badQ : ∀ {G2 H2 : Hp} {n2 : Nat} {lo hi : Int} {Q2 : VK}, Mv [r] G H G2 H2 → RdAt a K G2 H2 r n2 cs → BadAt K G cs n2 lo hi → n2 ≤ cs.length → m = n2 → spByteX a K [.ref r, .int lo, .int hi] H2 Q2 (fun cls d H' => E cls d H') := fun {G2 H2 n2 lo hi Q2} M R b l e => ⟨⟨r, G2, n2, cs, lo, hi, rfl, M.s, R, b.mono M.g, l, fun H3 d s3 ed => k G2 H3 d (M.pure (Ext.ofSame M.s s3) s3) (by rw [e]; exact ed)⟩⟩
    refine ⟨_, rfl, r, dx, _, rfl, h1, (by kernel_rfl), _, rfl, _, _, rfl, rfl, ?_⟩
    rcases hE with ⟨hn, hb, hm⟩ | ⟨st, at0, hst, hE⟩
    · exact .inr (badQ M0 hR hb hn hm)
    have ln : n < cs.length := (List.getElem?_eq_some_iff.mp at0).1
    refine .inl (byte_go M0 (.inl (by simp)) hR at0 (by omega) (by omega) fun H1 M1 _ R1 => ?_)
    obtain ⟨dx1, cl1, h11⟩ := R1.obj
    refine ⟨_, rfl, _, rfl, ot, _, rfl, .inr (Same.seqT M1.s hot), rfl, nats_flat os, _, rfl, ?_⟩
    rw [if_neg Bool.false_ne_true, in_nats]
    rcases hE with ⟨hos, hm⟩ | ⟨hos, hE⟩
    · refine ite_t (decide_eq_true hos) ?_
      refine ⟨_, rfl, r, _, dx1, _, .int (n + 1 : Nat), rfl, h11, T.cl_Reader, T.n_Reader_place, (by kernel_rfl), _, _, rfl, rfl, ?_⟩
      have e1 : ((n + 1 : Nat) : Int) - 1 = ((m : Nat) : Int) := by rw [hm]; omega
      dsimp only
      rw [e1]
      exact ⟨by simp, fun e ne => ⟨⟨e, .int (m : Nat), rfl, upd_same, fun dx nd2 nde => ⟨rfl, dx, [("place", .int (m : Nat))], upd_same, (upd_ne nde).trans upd_same, (upd_ne nde).symm.trans nd2, k _ _ dx (M1.pure (Ext.ofSame M1.s (ic_same ne nd2 nde)) (ic_same ne nd2 nde)) upd_same⟩⟩⟩⟩
    refine ite_f (decide_eq_false hos) ?_
    refine ⟨_, rfl, r, dx1, _, rfl, h11, (by kernel_rfl), ?_⟩
    rcases hE with ⟨hb, hm⟩ | ⟨c, at1, c1, c20, ss, rest, hlen, hss, hd, hE⟩
    · exact .inr (badQ M1 R1 hb (by omega) hm)
    have ln1 : n + 1 < cs.length := (List.getElem?_eq_some_iff.mp at1).1
    refine .inl (byte_go M1 (.inl (by simp)) R1 at1 (by omega) (by omega) fun H2 M2 _ R2 => ?_)
    refine ⟨Nat.zero_le _, fun l hl => ⟨_, _, rfl, ?_⟩⟩
    have l0 : H l = none := M2.free hl
    have lG : G l = none := M2.freeG hl
    have rl : r ≠ l := fun e => r0 (by rw [e]; exact l0)
    have M3 := M2.lay hl (.lst [])
    have R3 := R2.lay (o := .lst []) hl
    have pos_j : ∀ j, j ≤ ss.length → cs.drop (n + 2 + ((ss.take j).flatMap stepB).length) = nV ((ss.drop j).flatMap stepB) ++ rest := fun j hj => by
      have e : ss.flatMap stepB = (ss.take j).flatMap stepB ++ (ss.drop j).flatMap stepB := by rw [← List.flatMap_append, List.take_append_drop]
      have el : ((ss.take j).flatMap stepB).length = (nV ((ss.take j).flatMap stepB)).length := (List.length_map ..).symm
      rw [← List.drop_drop, hd, e, nV_app, List.append_assoc, el, List.drop_left]
    refine ⟨_, rfl, _, rfl, by omega, by omega, for_range (lo := 0) (n := ((c : Nat) : Int).toNat) (fun j σ H' => j ≤ ss.length ∧ ∃ (G' : Hp) (xs : List V) (v6 v7 : Option V), σ = [some (.ref r), some (.int cells), some (.ref ot), some (.int st), some (.int (c : Nat)), some (.ref l), v6, v7] ∧ Mv [r] G H G' H' ∧ RdAt a K G' H' r (n + 2 + ((ss.take j).flatMap stepB).length) cs ∧ G' l = none ∧ H' l = some (.lst xs) ∧ DpAll K G' xs ((ss.take j).map Step.D)) ?_ ?_ ?_⟩
    · exact ⟨Nat.zero_le _, G, [], none, none, rfl, M3, R3, lG, upd_same, .nil⟩
    · rintro j σ H4 hj ⟨hjle, G4, xs, v6, v7, rfl, M4, R4, lG4, hl4, hD4⟩
      obtain ⟨dx4, cl4, h14⟩ := R4.obj
      have xsl : xs.length ≤ 20 := by rw [DpAll.len hD4, List.length_map, List.length_take]; omega
      rcases Nat.lt_or_eq_of_le hjle with hlt | rfl
      · have hj' : j < ss.length := hlt
        obtain ⟨sj, hsj⟩ : ∃ sj, ss[j]? = some sj := ⟨_, List.getElem?_eq_getElem hj'⟩
        have hokj : Step.Ok c sj := hss sj (List.mem_of_getElem? hsj)
        have w8 := hokj.w8
        have dj : cs.drop (n + 2 + ((ss.take j).flatMap stepB).length) = nV (stepB sj) ++ (nV ((ss.drop (j + 1)).flatMap stepB) ++ rest) := by
          rw [pos_j j (by omega)]
          have h2 := List.drop_eq_getElem_cons hj'
          have h3 : ss[j] = sj := (List.getElem?_eq_some_iff.mp hsj).2
          rw [h3] at h2
          rw [h2, List.flatMap_cons, nV_app, List.append_assoc]
        have b0 : cs[n + 2 + ((ss.take j).flatMap stepB).length]? = some (.int sj.w) := by
          have := drop_get dj (i := 0) (x := .int sj.w) rfl
          simpa using this
        refine ⟨_, rfl, r, dx4, _, rfl, h14, (by kernel_rfl), a.A_WORDS, _, rfl, .inr (T.q_WORDS H4), _, _, rfl, rfl, .inl (byte_go (lo := 0) (hi := ((wds.map V.str).length : Nat) - 1) M4 (.inl (by simp)) R4 b0 (by omega) (by show (sj.w : Int) ≤ 8 - 1; omega) fun H5 M5 m5 R5 => ?_)⟩
        refine ⟨a.A_WORDS, wds.map V.str, _, .str (wS sj.w), rfl, rfl, T.q_WORDS H5, atI_nat (wds_at w8), ?_⟩
        have hl5 : H5 l = some (.lst xs) := m5.kept hl4 (by simp [rl.symm])
        have fin : ∀ (H6 : Hp) (g : V), Mv [r] G H G4 H6 → RdAt a K G4 H6 r (n + 2 + ((ss.take (j + 1)).flatMap stepB).length) cs → H6 l = some (.lst xs) → (∀ G, Dp K G g (optD sj.g)) →
            (2 ≤ sizeLine ∧ ∀ t, H6 t = none → ∃ l' ys y, (V.ref l) = .ref l' ∧ [V.ref t] = [y] ∧ (upd H6 t (.tup [.str (wS sj.w), g])) l' = some (.lst ys) ∧ ys.length < sizeLine ∧
              j + 1 ≤ ss.length ∧ ∃ (G' : Hp) (xs : List V) (v6 v7 : Option V), [some (V.ref r), some (.int cells), some (.ref ot), some (.int st), some (.int (c : Nat)), some (.ref l), some (.int (0 + (j : Int))), some (.str (wS sj.w))] = [some (.ref r), some (.int cells), some (.ref ot), some (.int st), some (.int (c : Nat)), some (.ref l), v6, v7] ∧
                Mv [r] G H G' (upd (upd H6 t (.tup [.str (wS sj.w), g])) l' (.lst (ys ++ [y]))) ∧ RdAt a K G' (upd (upd H6 t (.tup [.str (wS sj.w), g])) l' (.lst (ys ++ [y]))) r (n + 2 + ((ss.take (j + 1)).flatMap stepB).length) cs ∧ G' l = none ∧ (upd (upd H6 t (.tup [.str (wS sj.w), g])) l' (.lst (ys ++ [y]))) l = some (.lst xs) ∧ DpAll K G' xs ((ss.take (j + 1)).map Step.D)) := by
          intro H6 g M6 R6 hl6 hg
          refine ⟨by decide, fun t ht => ?_⟩
          have lt : l ≠ t := ne_of_none hl6 ht
          have M7 := M6.new ht (.tup [.str (wS sj.w), g])
          have R7 := R6.new (o := .tup [.str (wS sj.w), g]) M6.s ht
          have lG7 : upd G4 t (.tup [.str (wS sj.w), g]) l = none := by rw [upd_ne lt]; exact lG4
          have nG := same_new (H := G4) (p := t) (o := .tup [.str (wS sj.w), g]) (M6.freeG ht)
          refine ⟨l, xs, _, rfl, rfl, by rw [upd_ne lt]; exact hl6, smaller 20 xsl (by decide), hlt, _, xs ++ [.ref t], _, _, rfl, M7.put (.inr l0) lG7 _, R7.put rl, lG7, upd_same, ?_⟩
          rw [take_more hsj, List.map_append]
          exact DpAll.snoc (Dp.monoAll nG _ _ hD4) (.tup (SqT.of upd_same) (.cons (.str _) (.cons (hg _) .nil)))
        refine ⟨_, rfl, .inl ⟨rfl, _, SqL.of hl5⟩, _, rfl, _, rfl, a.A_JUMPS, jmpS.map V.str, rfl, .inr (T.q_JUMPS H5), rfl, strs_flat _, _, rfl, ?_⟩
        rw [if_neg Bool.false_ne_true, wds_in_jmp w8]
        refine ite2 (fun c => ?_) (fun c => ?_)
        · obtain ⟨kk, hg, hkk⟩ := hokj.yes (of_decide_eq_true c)
          have b1 : cs[n + 2 + ((ss.take j).flatMap stepB).length + 1]? = some (.int kk) := drop_get dj (i := 1) (by unfold stepB; rw [hg]; rfl)
          obtain ⟨dx5, cl5, h15⟩ := R5.obj
          refine ⟨_, rfl, r, dx5, _, rfl, h15, (by kernel_rfl), _, rfl, _, _, rfl, rfl, .inl (byte_go M5 (.inl (by simp)) R5 b1 (by omega) (by omega) fun H6 M6 m6 R6 => ?_)⟩
          refine fin H6 (.int kk) M6 ?_ (m6.kept hl5 (by simp [rl.symm])) (fun G => by rw [hg]; exact .int kk)
          have e : ((ss.take (j + 1)).flatMap stepB).length = ((ss.take j).flatMap stepB).length + 2 := by
            rw [flat_more hsj, List.length_append]
            unfold stepB
            rw [hg]
            rfl
          rw [e]
          exact R6
        · have hg := hokj.no (by have h5 : ¬ 5 ≤ sj.w := fun z => c (decide_eq_true z); omega)
          refine fin H5 .non M5 ?_ hl5 (fun G => by rw [hg]; exact .non)
          have e : ((ss.take (j + 1)).flatMap stepB).length = ((ss.take j).flatMap stepB).length + 1 := by
            rw [flat_more hsj, List.length_append]
            unfold stepB
            rw [hg]
            rfl
          rw [e]
          exact R5
      · rw [List.take_length] at R4
        have hd2 := pos_j ss.length (Nat.le_refl _)
        rw [List.take_length, List.drop_length] at hd2
        have hd3 : cs.drop (n + 2 + (ss.flatMap stepB).length) = ([] : List V) ++ rest := hd2
        have ll := congrArg List.length hd
        rw [List.length_drop, List.length_append, List.length_map] at ll
        have lp : n + 2 + (ss.flatMap stepB).length ≤ cs.length := by omega
        refine ⟨_, rfl, r, dx4, _, rfl, h14, (by kernel_rfl), a.A_WORDS, _, rfl, .inr (T.q_WORDS H4), _, _, rfl, rfl, ?_⟩
        rcases hE with ⟨hb, hm⟩ | ⟨wd, hw, w5, w8, hb, hm⟩
        · exact .inr (badQ (lo := 0) (hi := ((wds.map V.str).length : Nat) - 1) M4 R4 (by have := bad_off hd3 lp hb; rw [show ((((wds.map V.str).length : Nat) : Int) - 1) = 7 from rfl]; simpa using this) lp hm)
        · have b0 : cs[n + 2 + (ss.flatMap stepB).length]? = some (.int wd) := by
            have := drop_get (m := rest) (r := []) (by rw [List.append_nil]; exact hd3) (i := 0) hw
            simpa using this
          have lw : n + 2 + (ss.flatMap stepB).length < cs.length := (List.getElem?_eq_some_iff.mp b0).1
          refine .inl (byte_go (lo := 0) (hi := ((wds.map V.str).length : Nat) - 1) M4 (.inl (by simp)) R4 b0 (by omega) (by show (wd : Int) ≤ 8 - 1; omega) fun H5 M5 m5 R5 => ?_)
          refine ⟨a.A_WORDS, wds.map V.str, _, .str (wS wd), rfl, rfl, T.q_WORDS H5, atI_nat (wds_at w8), ?_⟩
          have hl5 : H5 l = some (.lst xs) := m5.kept hl4 (by simp [rl.symm])
          refine ⟨_, rfl, .inl ⟨rfl, _, SqL.of hl5⟩, _, rfl, _, rfl, a.A_JUMPS, jmpS.map V.str, rfl, .inr (T.q_JUMPS H5), rfl, strs_flat _, _, rfl, ?_⟩
          rw [if_neg Bool.false_ne_true, wds_in_jmp w8]
          refine ite_t (decide_eq_true w5) ?_
          obtain ⟨dx5, cl5, h15⟩ := R5.obj
          refine ⟨_, rfl, r, dx5, _, rfl, h15, (by kernel_rfl), _, rfl, _, _, rfl, rfl, .inr (badQ M5 R5 (by have := bad_off hd3 lp hb; simpa using this) (by omega) hm)⟩
    · rintro σ H4 ⟨hj, _⟩
      omega
end
end Sb

namespace Sb
open PySem PySem.Spec PyProof.Rows L2 TL
/-! ### decode fails: at m -/
def DecE (K : PySem.W.Frag) (G : Hp) (cs : List V) (m : Nat) : Prop :=
  (BadAt K G cs 0 83 83 ∧ m = 0) ∨ (cs[0]? = some (.int 83) ∧ ((BadAt K G cs 1 3 12 ∧ m = 1) ∨ ∃ k : Nat, 3 ≤ k ∧ k ≤ 12 ∧ ∃ (sh : List Nat) (r : List V), (∀ b ∈ sh, b ≤ 3) ∧ cs = .int 83 :: .int k :: (nV sh ++ r) ∧ ((sh.length < k ∧ BadAt K G r 0 0 3 ∧ m = 2 + sh.length) ∨ (sh.length = k ∧
    (RobE K G cs (2 + k) k [] m ∨ ∃ (st : Nat) (ss : List Step) (r1 : List V), st < k ∧ StepsOk ss ∧ r = nV (robB st ss) ++ r1 ∧
      (RobE K G cs (2 + k + (robB st ss).length) k [st] m ∨ ∃ (st2 : Nat) (ss2 : List Step) (r2 : List V), st2 < k ∧ st2 ≠ st ∧ StepsOk ss2 ∧ r1 = nV (robB st2 ss2) ++ r2 ∧
        ((BadAt K G r2 0 (((83 :: k :: (sh ++ (robB st ss ++ robB st2 ss2))).sum % 256 : Nat) : Int) (((83 :: k :: (sh ++ (robB st ss ++ robB st2 ss2))).sum % 256 : Nat) : Int) ∧ m = (83 :: k :: (sh ++ (robB st ss ++ robB st2 ss2))).length) ∨
         (r2[0]? = some (.int ((83 :: k :: (sh ++ (robB st ss ++ robB st2 ss2))).sum % 256 : Nat)) ∧ 1 < r2.length ∧ m = (83 :: k :: (sh ++ (robB st ss ++ robB st2 ss2))).length + 1))))))))
structure spDecodeX (a : Ad) (K : PySem.W.Frag) (vs : List V) (H : Hp) (Q : VK) (E : XK) : Prop where
  ex : (∃ (v : V) (t : Value), vs = [v] ∧ TyX K H v t ∧ PySem.W.kitOne K t (.type "list") = some false ∧ ∀ (H1 : Hp) (d : Addr), Same H H1 → H1 d = some (.xd [("place", .int 0)]) → E (.ref a.X_InvalidCode) (some d) H1) ∨
    ∃ (cl : Addr) (G : Hp) (cs : List V) (m : Nat), vs = [.ref cl] ∧ Same G H ∧ SqL K G cl cs ∧ DecE K G cs m ∧ ∀ (H1 : Hp) (d : Addr), Same H H1 → H1 d = some (.xd [("place", .int (m : Nat))]) → E (.ref a.X_InvalidCode) (some d) H1
abbrev teD (a : Ad) (K : PySem.W.Frag) : XK → TE := fun E => tMeth a.C_Reader (Str.ofString "read_byte") (fun vs H Q E => spRByte a K vs H Q E ∨ spByteX a K vs H Q E) [] E (tVar 1) (tCons (tC (.int 0)) (tCons (tC (.int 3)) tNil))
section
variable {P : Program} {w : World} {K : PySem.W.Frag} {mg : Str → Option Value} {base : Heap} {a : Ad}
theorem ok_decodeX (T : Txt K mg a) : FnOk P w K mg base (L2.CX P w) 9 a.f_decode a.d_decode ["code"] (spDecodeX a K) := by
  refine T.F_decode.okX sc_decode (fun vs H Q E h => ?_) (fun cdv A outer s H vs Q E hr h => ?_)
  · obtain ⟨⟨v, t, rfl, _⟩ | ⟨cl, G, cs, m, rfl, _⟩⟩ := h
    · rfl
    · rfl
  · refine ⟨_, (pss_cons (ps_if (pt_not (pt_val (pe_callB call_isi (by rfl) T.z_isinstance (by decide +kernel) (pa_cons (pv 0) (pa_cons (pe_bltn (v := .ty "list") (by rfl) T.z_list (by decide +kernel) rfl) pa_nil))))) (pss_one (ps_raise rfl (takes_of rfl rfl rfl rfl) (pmk_oex T.xq_InvalidCode T.xi_InvalidCode T.xj_InvalidCode (ok_InvalidCode_init T) (hr.mono (by decide)) (b_InvalidCode_init T) .nil pass0 (by rfl) T.e_InvalidCode (pa_cons pe_int pa_nil)))) pss_nil)
      (pss_cons (ps_set (i := 1) sc_decode.nd rfl (Or.inr rfl) (pe_make T.mk_Reader (ok_Reader_init T) (hr.mono (by decide)) (by rfl) T.m_Reader (b_Reader_init T) .nil pass0 (pa_cons (pv 0) pa_nil)))
      (pss_cons (ps_expr (pe_meth (pv 1) T.cl_Reader T.M_Reader_read_byte (fnOk_or (fnOk_any ((ok_Reader_read_byte T).mono (by decide))) (ok_Reader_read_byteX T)) (hr.mono (by decide)) (b_Reader_read_byte T) .nil (passes_call (takes_of rfl rfl rfl rfl) (fun _ _ _ _ h => h)) (pa_cons (pe_glob (v := V.int 83) rfl T.c_TAG ⟨_, rfl⟩) (pa_cons (pe_glob (v := V.int 83) rfl T.c_TAG ⟨_, rfl⟩) pa_nil))))
      (pss_cons (ps_set (i := 2) sc_decode.nd rfl (Or.inl rfl) (pe_meth (pv 1) T.cl_Reader T.M_Reader_read_byte (fnOk_or (fnOk_any ((ok_Reader_read_byte T).mono (by decide))) (ok_Reader_read_byteX T)) (hr.mono (by decide)) (b_Reader_read_byte T) .nil (passes_call (takes_of rfl rfl rfl rfl) (fun _ _ _ _ h => h)) (pa_cons (pe_glob (v := V.int 3) rfl T.c_MIN_CELLS ⟨_, rfl⟩) (pa_cons (pe_glob (v := V.int 12) rfl T.c_MAX_CELLS ⟨_, rfl⟩) pa_nil))))
      (pss_cons (ps_set (i := 3) sc_decode.nd rfl (Or.inl rfl) (pe_callTy call_tuple_of (by rfl) T.z_tuple (by decide +kernel) (pa_cons (pe_lcX (te := teD a K) (own := [("cell", 4)]) (g := gName 4) (tt := tYes) rfl sc_decode.nd rfl rfl (takes_of rfl rfl rfl rfl) (pi_range1 (by rfl) T.z_range (pa_cons (pv 2) pa_nil)) (blkOk_by (own := [("cell", 4)]) (N := ["code", "reader", "cells", "shelf", "cell", "first", "second", "checksum"]) (sc := (defScope s_decode)) (by decide +kernel)) (fun _ _ _ _ _ => (pg_name (i := 4) sc_decode.nd rfl (Or.inl rfl))) (fun _ _ _ _ _ => pts_nil) (fun _ _ _ _ _ _ _ tkB => (pe_meth (pv 1) T.cl_Reader T.M_Reader_read_byte (fnOk_or (fnOk_any ((ok_Reader_read_byte T).mono (by decide))) (ok_Reader_read_byteX T)) (hr.mono (by decide)) (b_Reader_read_byte T) .nil (passes_call tkB (fun _ _ _ _ h => h)) (pa_cons pe_int (pa_cons (pe_glob (v := V.int 3) rfl T.c_MAX_BOXES ⟨_, rfl⟩) pa_nil))))) pa_nil)))
      (pss_cons (ps_set (i := 5) sc_decode.nd rfl (Or.inl rfl) (pe_meth (pv 1) T.cl_Reader T.M_Reader_read_robot (fnOk_or (fnOk_any ((ok_Reader_read_robot T).mono (by decide))) (ok_Reader_read_robotX T)) (hr.mono (by decide)) (b_Reader_read_robot T) .nil (passes_call (takes_of rfl rfl rfl rfl) (fun _ _ _ _ h => h)) (pa_cons (pv 2) (pa_cons (pe_tup pa_nil) pa_nil))))
      (pss_cons (ps_set (i := 6) sc_decode.nd rfl (Or.inl rfl) (pe_meth (pv 1) T.cl_Reader T.M_Reader_read_robot (fnOk_or (fnOk_any ((ok_Reader_read_robot T).mono (by decide))) (ok_Reader_read_robotX T)) (hr.mono (by decide)) (b_Reader_read_robot T) .nil (passes_call (takes_of rfl rfl rfl rfl) (fun _ _ _ _ h => h)) (pa_cons (pv 2) (pa_cons (pe_tup (pa_cons (pe_fld (pv 5) rfl) pa_nil)) pa_nil))))
      (pss_cons (ps_set (i := 7) sc_decode.nd rfl (Or.inl rfl) (pe_op op_mod (pe_callB (cr_sum rfl) (by rfl) T.z_sum (by decide +kernel) (pa_cons (pe_slice sl_list (pv 0) po_none (po_some (pe_fld (pv 1) rfl))) pa_nil)) (pe_glob (v := V.int 256) rfl T.c_BYTE ⟨_, rfl⟩)))
      (pss_cons (ps_expr (pe_meth (pv 1) T.cl_Reader T.M_Reader_read_byte (fnOk_or (fnOk_any ((ok_Reader_read_byte T).mono (by decide))) (ok_Reader_read_byteX T)) (hr.mono (by decide)) (b_Reader_read_byte T) .nil (passes_call (takes_of rfl rfl rfl rfl) (fun _ _ _ _ h => h)) (pa_cons (pv 7) (pa_cons (pv 7) pa_nil))))
      (pss_cons (ps_if (pt_cmpR op_lt (pe_fld (pv 1) rfl) (pe_callB call_len_seq (by rfl) T.z_len (by decide +kernel) (pa_cons (pv 0) pa_nil)) (nomark _)) (pss_one (ps_raise rfl (takes_of rfl rfl rfl rfl) (pmk_oex T.xq_InvalidCode T.xi_InvalidCode T.xj_InvalidCode (ok_InvalidCode_init T) (hr.mono (by decide)) (b_InvalidCode_init T) .nil pass0 (by rfl) T.e_InvalidCode (pa_cons (pe_fld (pv 1) rfl) pa_nil)))) pss_nil) pss_never)))))))))), ?_⟩
    obtain ⟨⟨v, t, rfl, ty, kt, k⟩ | ⟨cl, G, cs, m, rfl, hGH, hcl, hE, k⟩⟩ := h
    · refine ⟨_, rfl, _, _, _, _, false, rfl, .ty _, ty, kt, _, rfl, ite_t rfl ?_⟩
      exact ⟨by simp, fun e ne => ⟨⟨e, .int 0, rfl, upd_same, fun dx nd2 nde => ⟨rfl, dx, [("place", .int 0)], upd_same, (upd_ne nde).trans upd_same, (upd_ne nde).symm.trans nd2, k _ dx (ic_same ne nd2 nde) upd_same⟩⟩⟩⟩
    refine ⟨_, rfl, _, _, _, _, true, rfl, .ty _, SqL.ty (hGH.seq hcl), kf (by decide +kernel), _, rfl, ite_f rfl ?_⟩
    refine ⟨_, rfl, fun r dr nr nd ne => ⟨⟨r, dr, cl, rfl, upd_same, rfl, ?_⟩⟩⟩
    rw [upd_upd]
    have A1 : Mv [] G H (upd G dr (.own r)) (upd H dr (.own r)) := (Mv.start hGH).new nd _
    have M1 : Mv [] G H (upd G dr (.own r)) (upd (upd H dr (.own r)) r (.ins a.C_Reader dr (rdF cl 0))) := A1.lay (make_free nr ne) _
    have rG : upd G dr (.own r) r = none := Same.free A1.s (make_free nr ne)
    have gdr : Same G (upd G dr (.own r)) := same_new (Same.free hGH nd)
    have R1 : RdAt a K (upd G dr (.own r)) (upd (upd H dr (.own r)) r (.ins a.C_Reader dr (rdF cl 0))) r 0 cs := ⟨dr, cl, upd_same, rG, gdr.seq hcl⟩
    revert M1 R1
    generalize upd (upd H dr (.own r)) r (.ins a.C_Reader dr (rdF cl 0)) = H1
    generalize upd G dr (.own r) = G1
    intro M1 R1
    have one : ∀ c ∈ [r], c ∈ ([] : List Addr) ∨ H c = none := fun c hc => by rw [List.mem_singleton.mp hc]; exact .inr nr
    have badQ : ∀ {G2 H2 : Hp} {n2 : Nat} {lo hi : Int} {Q2 : VK}, Mv [] G H G2 H2 → RdAt a K G2 H2 r n2 cs → BadAt K G cs n2 lo hi → n2 ≤ cs.length → m = n2 → spByteX a K [.ref r, .int lo, .int hi] H2 Q2 (fun cls d H' => E cls d H') := fun {G2 H2 n2 lo hi Q2} M R b l e => ⟨⟨r, G2, n2, cs, lo, hi, rfl, M.s, R, b.mono M.g, l, fun H3 d s3 ed => k H3 d (M.pt.sm.trans s3) (by rw [e]; exact ed)⟩⟩
    obtain ⟨d1, c1, h1⟩ := R1.obj
    refine ⟨_, rfl, r, d1, _, rfl, h1, (by kernel_rfl), ?_⟩
    rcases hE with ⟨hb, hm⟩ | ⟨at0, hE⟩
    · exact .inr (badQ M1 R1 hb (Nat.zero_le _) hm)
    have l0 : 0 < cs.length := (List.getElem?_eq_some_iff.mp at0).1
    refine .inl (byte_go (b := 83) M1 (.inr nr) R1 at0 (by decide) (by decide) fun H2 M2 _ R2 => ?_)
    obtain ⟨d2, c2, h2⟩ := R2.obj
    refine ⟨_, rfl, r, d2, _, rfl, h2, (by kernel_rfl), ?_⟩
    rcases hE with ⟨hb, hm⟩ | ⟨kc, k3, k12, sh, rst, hsh3, ecs, hE⟩
    · exact .inr (badQ M2 R2 hb l0 hm)
    have lcs : cs.length = 2 + (sh.length + rst.length) := by rw [ecs]; simp; omega
    have drp : cs.drop 2 = nV sh ++ rst := by rw [ecs]; rfl
    refine .inl (byte_go (b := kc) M2 (.inr nr) R2 (by rw [ecs]; rfl) (by omega) (by omega) fun H3 M3 _ R3 => ?_)
    refine ⟨_, rfl, _, rfl, by omega, by omega, fun D hD => ?_⟩
    have D0 : H D = none := M3.free hD
    have DG : G1 D = none := M3.freeG hD
    have rD : r ≠ D := by obtain ⟨_, _, h⟩ := R3.obj; exact ne_of_none h hD
    refine lc_range (lo := 0) (n := ((kc : Nat) : Int).toNat) (fun j H' => j ≤ sh.length ∧ Mv [] G H G1 H' ∧ RdAt a K G1 H' r (2 + j) cs ∧ H' D = some (.lst (nV (sh.take j)))) ⟨Nat.zero_le _, M3.lay hD _, R3.lay hD, upd_same⟩ ?_ ?_
    · rintro j H4 hj ⟨hjle, M4, R4, hD4⟩
      obtain ⟨d4, c4, h4⟩ := R4.obj
      refine ⟨rfl, _, rfl, r, d4, _, rfl, h4, (by kernel_rfl), ?_⟩
      rcases Nat.lt_or_eq_of_le hjle with hlt | rfl
      · obtain ⟨b, hb⟩ : ∃ b, sh[j]? = some b := ⟨_, List.getElem?_eq_getElem hlt⟩
        have hb3 := hsh3 b (List.mem_of_getElem? hb)
        have hat : cs[2 + j]? = some (.int b) := drop_get drp (nV_atE hb)
        refine .inl (byte_go M4 (.inr nr) R4 hat (by omega) (by omega) fun H5 M5 m5 R5 => ?_)
        have hD5 := m5.kept hD4 (by simp [rD.symm])
        refine ⟨_, hD5, smaller 12 (by rw [List.length_map, List.length_take]; omega) (by decide), hlt, M5.put (.inr D0) DG _, R5.put rD, ?_⟩
        rw [upd_same, take_more hb, nV_app]
        rfl
      · rcases hE with ⟨_, hb, hm⟩ | ⟨e, _⟩
        · refine .inr (badQ M4 R4 ?_ (by omega) hm)
          have := bad_off drp (by omega) hb
          rw [List.length_map] at this
          simpa using this
        · omega
    rintro H4 ⟨hk, M4, R4, hD4⟩
    have el : ((kc : Nat) : Int).toNat = kc := by omega
    rw [el] at hk R4 hD4
    rcases hE with ⟨e, _⟩ | ⟨esh, hE⟩
    · omega
    rw [← esh, List.take_length] at hD4
    refine ⟨D, _, rfl, .inl ⟨SqL.of hD4, fun sx hsx => ?_⟩⟩
    have M5 := M4.new hsx (.tup (nV sh))
    have R5 := R4.new (o := .tup (nV sh)) M4.s hsx
    revert M5 R5
    generalize upd H4 sx (.tup (nV sh)) = H5
    generalize upd G1 sx (.tup (nV sh)) = G5
    intro M5 R5
    have lsh : (nV sh).length = sh.length := List.length_map ..
    have gG5 : Same G G5 := M5.g
    have robE : ∀ {G2 : Hp} {n2 : Nat} {os : List Nat}, Same G G2 → RobE K G cs n2 kc os m → RobE K G2 cs n2 kc os m := fun {G2 n2 os} sg h => by
      rcases h with ⟨l, b, e⟩ | ⟨st, e, l, h⟩
      · exact .inl ⟨l, b.mono sg, e⟩
      refine .inr ⟨st, e, l, ?_⟩
      rcases h with h | ⟨no, h⟩
      · exact .inl h
      refine .inr ⟨no, ?_⟩
      rcases h with ⟨b, e⟩ | ⟨c, e, c1, c20, ss, r, l, ok, d, h⟩
      · exact .inl ⟨b.mono sg, e⟩
      refine .inr ⟨c, e, c1, c20, ss, r, l, ok, d, ?_⟩
      rcases h with ⟨b, e⟩ | ⟨w, e, w5, w8, b, e2⟩
      · exact .inl ⟨b.mono sg, e⟩
      · exact .inr ⟨w, e, w5, w8, b.mono sg, e2⟩
    -- the robots
    obtain ⟨d5, c5, h5⟩ := R5.obj
    refine ⟨_, rfl, r, d5, _, rfl, h5, (by kernel_rfl), _, rfl, (by show 0 ≤ sizeLine; decide), fun t0 ht0 => ?_⟩
    have M6 := M5.new ht0 (.tup [])
    have R6 := R5.new (o := .tup []) M5.s ht0
    rcases hE with hrob | ⟨st, ss, rst1, hst, hss, er1, hE⟩
    · exact .inr ⟨⟨r, t0, _, _, cs, kc, m, [], rfl, M6.s, R6, SqT.of upd_same, by omega, robE M6.g hrob, fun G7 H7 d7 m7 e7 => k H7 d7 (M6.comp m7 one).pt.sm e7⟩⟩
    subst er1
    have dr1 : cs.drop (2 + kc) = nV (robB st ss) ++ rst1 := by
      rw [← List.drop_drop, drp, ← esh, ← lsh, List.drop_left]
    refine .inl ⟨⟨r, t0, _, _, cs, kc, st, [], ss, _, rfl, M6.s, R6, SqT.of upd_same, dr1, hst, by omega, by simp, hss, fun G7 H7 v7 m7 R7 hr7 => ?_⟩⟩
    have M7 : Mv [] G H G7 H7 := M6.comp m7 one
    obtain ⟨q7, dq7, sl7, nl7, rfl, hq7, hD7⟩ := id hr7
    obtain ⟨d7, c7, h7⟩ := R7.obj
    refine ⟨_, rfl, r, d7, _, rfl, h7, (by kernel_rfl), _, rfl, _, rfl, q7, _, dq7, _, .int st, rfl, M7.s _ _ hq7, T.cl_Robot, T.n_Robot_start, (by kernel_rfl), (by show 1 ≤ sizeLine; decide), fun t1 ht1 => ?_⟩
    have M8 := M7.new ht1 (.tup [.int st])
    have R8 := R7.new (o := .tup [.int st]) M7.s ht1
    rcases hE with hrob | ⟨st2, ss2, rst2, hst2, hne2, hss2, er2, hE⟩
    · exact .inr ⟨⟨r, t1, _, _, cs, kc, m, [st], rfl, M8.s, R8, SqT.of upd_same, by omega, robE M8.g hrob, fun G9 H9 d9 m9 e9 => k H9 d9 (M8.comp m9 one).pt.sm e9⟩⟩
    subst er2
    have dr2 : cs.drop (2 + kc + (robB st ss).length) = nV (robB st2 ss2) ++ rst2 := by
      have el : (robB st ss).length = (nV (robB st ss)).length := (List.length_map ..).symm
      rw [← List.drop_drop, dr1, el, List.drop_left]
    refine .inl ⟨⟨r, t1, _, _, cs, kc, st2, [st], ss2, _, rfl, M8.s, R8, SqT.of upd_same, dr2, hst2, by omega, by simp [hne2], hss2, fun G9 H9 v9 m9 R9 hr9 => ?_⟩⟩
    have M9 : Mv [] G H G9 H9 := M8.comp m9 one
    obtain ⟨d9, c9, h9⟩ := R9.obj
    generalize hbd : (83 :: kc :: (sh ++ (robB st ss ++ robB st2 ss2)) : List Nat) = bd at hE
    have ebl : 2 + kc + (robB st ss).length + (robB st2 ss2).length = bd.length := by
      rw [← hbd]
      simp only [List.length_cons, List.length_append]
      omega
    rw [ebl] at R9 h9
    have ecd : cs = nV bd ++ rst2 := by
      rw [ecs, ← hbd]
      simp [nV]
    -- the checksum
    refine ⟨_, rfl, _, rfl, r, _, d9, _, .int bd.length, rfl, h9, T.cl_Reader, T.n_Reader_place, (by kernel_rfl), _, rfl, cl, _, rfl, (M9.g.trans M9.s).seq hcl, fun p1 hp1 => ?_⟩
    have ecut : cutV cs none (some ((bd.length : Nat) : Int)) = nV bd := by
      have := cut_pre (nV bd) rst2
      rw [← ecd, List.length_map] at this
      exact this
    rw [ecut]
    have M10 := M9.lay hp1 (.lst (nV bd))
    have R10 := R9.lay (o := .lst (nV bd)) hp1
    refine ⟨p1, _, rfl, (by rw [← nV_int]; exact SqL.of upd_same), _, _, rfl, rfl, (by show (0 : Int) < 256; decide), ?_⟩
    rw [nat_sum]
    have e9 : (bd.sum : Int) % 256 = ((bd.sum % 256 : Nat) : Int) := by omega
    dsimp only
    rw [e9]
    have drL : cs.drop bd.length = ([] : List V) ++ rst2 := by
      rw [ecd]
      have : bd.length = (nV bd).length := (List.length_map ..).symm
      rw [this, List.drop_left, List.nil_append]
    have lbd : bd.length ≤ cs.length := by rw [ecd, List.length_append, List.length_map]; omega
    obtain ⟨d10, c10, h10⟩ := R10.obj
    refine ⟨_, rfl, r, d10, _, rfl, h10, (by kernel_rfl), _, rfl, _, rfl, ?_⟩
    rcases hE with ⟨hb, hm⟩ | ⟨hc, hl2, hm⟩
    · refine .inr (badQ M10 R10 ?_ lbd hm)
      have := bad_off drL lbd hb
      simpa using this
    have bl : cs[bd.length]? = some (.int (bd.sum % 256 : Nat)) := by
      have := drop_get (m := rst2) (r := []) (by rw [List.append_nil]; exact drL) (i := 0) hc
      simpa using this
    refine .inl (byte_go M10 (.inr nr) R10 bl (Int.le_refl _) (Int.le_refl _) fun H11 M11 _ R11 => ?_)
    obtain ⟨d11, c11, h11⟩ := R11.obj
    refine ⟨_, rfl, r, _, d11, _, .int (bd.length + 1 : Nat), rfl, h11, T.cl_Reader, T.n_Reader_place, (by kernel_rfl), _, rfl, cl, _, rfl, .inl ((M11.g.trans M11.s).seq hcl), _, _, rfl, rfl, _, rfl, ite_t (decide_eq_true ?_) ?_⟩
    · rw [ecd, List.length_append, List.length_map]
      omega
    refine ⟨_, rfl, r, _, d11, _, .int (bd.length + 1 : Nat), rfl, h11, T.cl_Reader, T.n_Reader_place, (by kernel_rfl), ?_⟩
    rw [← hm]
    exact ⟨by simp, fun e ne => ⟨⟨e, .int (m : Nat), rfl, upd_same, fun dx nd2 nde => ⟨rfl, dx, [("place", .int (m : Nat))], upd_same, (upd_ne nde).trans upd_same, (upd_ne nde).symm.trans nd2, k _ dx (M11.pt.sm.trans (ic_same ne nd2 nde)) upd_same⟩⟩⟩⟩
end
end Sb

namespace Sb
open PySem PySem.Spec PyProof.Rows L2 TL
/-! ### law k15, plain: where codes fail that are cut, changed or extended -/
def BadT (K : PySem.W.Frag) (G : Hp) (tail : List V) : Prop := tail = [] ∨ ∃ v r, tail = v :: r ∧ ∀ lo hi : Int, 0 ≤ lo → hi ≤ 255 → BadV K G lo hi v
theorem BadT.at {K : PySem.W.Frag} {G : Hp} {tail : List V} (h : BadT K G tail) {lo hi : Int} (l : 0 ≤ lo) (u : hi ≤ 255) : BadAt K G tail 0 lo hi := by
  rcases h with rfl | ⟨v, r, rfl, b⟩
  · exact .inl rfl
  · exact .inr ⟨v, rfl, b lo hi l u⟩
theorem bad_end {K : PySem.W.Frag} {G : Hp} {m : List V} {tail : List V} {lo hi : Int} (b : BadAt K G tail 0 lo hi) : BadAt K G (m ++ tail) m.length lo hi := by
  have := bad_off (cs := m ++ tail) (r := tail) (n := 0) (m := m) (by rw [List.drop_zero]) (Nat.zero_le _) b
  simpa using this
theorem flat_cut : ∀ (ss : List Step) (i : Nat), (∀ s ∈ ss, ∃ c, Step.Ok c s) → i < (ss.flatMap stepB).length → ∃ j, j < ss.length ∧
    ((i = ((ss.take j).flatMap stepB).length ∧ (ss.flatMap stepB).take i = (ss.take j).flatMap stepB) ∨
     ∃ w, 5 ≤ w ∧ w < 8 ∧ i = ((ss.take j).flatMap stepB).length + 1 ∧ (ss.flatMap stepB).take i = (ss.take j).flatMap stepB ++ [w])
  | [], i, _, h => by simp at h
  | s :: r, i, ok, h => by
    obtain ⟨c, hs⟩ := ok s List.mem_cons_self
    by_cases hi : i = 0
    · subst hi
      exact ⟨0, Nat.succ_pos _, .inl ⟨rfl, rfl⟩⟩
    by_cases h1 : i < (stepB s).length
    · have hl := stepB_len s
      have e : i = 1 := by omega
      subst e
      cases hg : s.g with
      | none => unfold stepB at h1; rw [hg] at h1; simp at h1
      | some g =>
        refine ⟨0, Nat.succ_pos _, .inr ⟨s.w, ?_, hs.w8, rfl, ?_⟩⟩
        · by_cases h5 : s.w < 5
          · have := hs.no h5
            rw [hg] at this
            cases this
          · omega
        · rw [List.flatMap_cons]
          unfold stepB
          rw [hg]
          rfl
    · rw [List.flatMap_cons, List.length_append] at h
      obtain ⟨j, hj, hc⟩ := flat_cut r (i - (stepB s).length) (fun q hq => ok q (List.mem_cons_of_mem _ hq)) (by omega)
      have tk : ∀ k, ((s :: r).take (k + 1)).flatMap stepB = stepB s ++ (r.take k).flatMap stepB := fun k => by rw [List.take_succ_cons, List.flatMap_cons]
      have te : ((s :: r).flatMap stepB).take i = stepB s ++ (r.flatMap stepB).take (i - (stepB s).length) := by
        rw [List.flatMap_cons, List.take_append, List.take_of_length_le (by omega)]
      refine ⟨j + 1, Nat.succ_lt_succ hj, ?_⟩
      rw [tk, te]
      rcases hc with ⟨e1, e2⟩ | ⟨w, w5, w8, e1, e2⟩
      · exact .inl ⟨by rw [List.length_append, ← e1]; omega, by rw [e2]⟩
      · exact .inr ⟨w, w5, w8, by rw [List.length_append]; omega, by rw [e2, List.append_assoc]⟩
theorem robE_cut {K : PySem.W.Frag} {G : Hp} {cs tail : List V} {n cells st i : Nat} {os : List Nat} {ss : List Step} (hd : cs.drop n = nV ((robB st ss).take i) ++ tail) (hn : n ≤ cs.length) (hi : i < (robB st ss).length) (hst : st < cells) (hc : cells ≤ 200) (hos : st ∉ os) (hss : StepsOk ss) (hb : BadT K G tail) : RobE K G cs n cells os (n + i) := by
  have hsle := hss.le
  have hpos := hss.pos
  match i, hd, hi with
  | 0, hd, _ =>
    refine .inl ⟨hn, ?_, rfl⟩
    have := bad_off (m := []) hd hn (hb.at (lo := 0) (hi := (cells : Int) - 1) (by omega) (by omega))
    simpa using this
  | 1, hd, _ =>
    have hd' : cs.drop n = [V.int st] ++ tail := hd
    refine .inr ⟨st, drop_get hd' (i := 0) rfl, hst, .inr ⟨hos, .inl ⟨?_, rfl⟩⟩⟩
    have := bad_off hd' hn (hb.at (lo := 1) (hi := 20) (by omega) (by omega))
    simpa using this
  | i + 2, hd, hi =>
    have hd' : cs.drop n = [V.int st, V.int ss.length] ++ (nV ((ss.flatMap stepB).take i) ++ tail) := hd
    have hd2 : cs.drop (n + 2) = nV ((ss.flatMap stepB).take i) ++ tail := by
      rw [← List.drop_drop, hd']
      rfl
    have hi' : i < (ss.flatMap stepB).length := by
      unfold robB at hi
      simp only [List.length_cons] at hi
      omega
    obtain ⟨j, hj, h⟩ := flat_cut ss i (fun s hs => ⟨_, hss.all s hs⟩) hi'
    refine .inr ⟨st, drop_get hd' (i := 0) rfl, hst, .inr ⟨hos, .inr ⟨ss.length, drop_get hd' (i := 1) rfl, hpos, hsle, ss.take j, ?_⟩⟩⟩
    have okj : ∀ s ∈ ss.take j, Step.Ok ss.length s := fun s hs => hss.all s (List.mem_of_mem_take hs)
    have lj : (ss.take j).length < ss.length := by rw [List.length_take]; omega
    rcases h with ⟨e1, e2⟩ | ⟨w, w5, w8, e1, e2⟩
    · exact ⟨tail, lj, okj, by rw [hd2, e2], .inl ⟨hb.at (by omega) (by omega), by omega⟩⟩
    · refine ⟨.int w :: tail, lj, okj, by rw [hd2, e2, nV_app, List.append_assoc]; rfl, .inr ⟨w, rfl, w5, w8, ?_, by omega⟩⟩
      exact bad_end (m := [V.int w]) (hb.at (lo := 0) (hi := (ss.length : Int) - 1) (by omega) (by omega))
/-- cut or changed at a place -/
theorem dec_cut {K : PySem.W.Frag} {G : Hp} {x : Pl} {at_ : Nat} {tail : List V} (hx : x.Ok) (hat : at_ < (codeB x).length) (hb : BadT K G tail) : DecE K G (nV ((codeB x).take at_) ++ tail) at_ := by
  have c3 := hx.c3
  have c12 := hx.c12
  have ec : codeB x = 83 :: x.shelf.length :: (x.shelf ++ (robB x.a x.p ++ (robB x.b x.q ++ [(bodyB x).sum % 256]))) := by
    unfold codeB bodyB
    simp
  match at_, hat with
  | 0, _ => exact .inl ⟨hb.at (by omega) (by omega), rfl⟩
  | 1, _ =>
    rw [ec]
    exact .inr ⟨rfl, .inl ⟨bad_end (m := [V.int 83]) (hb.at (lo := 3) (hi := 12) (by omega) (by omega)), rfl⟩⟩
  | i + 2, hat =>
    have et : nV ((codeB x).take (i + 2)) ++ tail = V.int 83 :: V.int x.shelf.length :: (nV ((x.shelf ++ (robB x.a x.p ++ (robB x.b x.q ++ [(bodyB x).sum % 256]))).take i) ++ tail) := by
      rw [ec]
      rfl
    rw [et]
    rw [ec] at hat
    simp only [List.length_cons, List.length_append, List.length_nil] at hat
    refine .inr ⟨rfl, .inr ⟨x.shelf.length, c3, c12, ?_⟩⟩
    by_cases h1 : i < x.shelf.length
    · refine ⟨x.shelf.take i, tail, fun b m => hx.b3 b (List.mem_of_mem_take m), ?_, .inl ⟨by rw [List.length_take]; omega, hb.at (by omega) (by omega), by rw [List.length_take]; omega⟩⟩
      rw [List.take_append_of_le_length (by omega)]
    · have e1 : (x.shelf ++ (robB x.a x.p ++ (robB x.b x.q ++ [(bodyB x).sum % 256]))).take i = x.shelf ++ (robB x.a x.p ++ (robB x.b x.q ++ [(bodyB x).sum % 256])).take (i - x.shelf.length) := by
        rw [List.take_append, List.take_of_length_le (by omega)]
      rw [e1, nV_app, List.append_assoc]
      generalize hi : i - x.shelf.length = i1
      have lsh : (nV x.shelf).length = x.shelf.length := List.length_map ..
      refine ⟨x.shelf, _, hx.b3, rfl, .inr ⟨rfl, ?_⟩⟩
      have dr : ∀ r : List V, (V.int 83 :: V.int x.shelf.length :: (nV x.shelf ++ r)).drop (2 + x.shelf.length) = r := fun r => by
        rw [← List.drop_drop]
        show (nV x.shelf ++ r).drop x.shelf.length = r
        rw [← lsh, List.drop_left]
      by_cases h2 : i1 < (robB x.a x.p).length
      · refine .inl ?_
        have := robE_cut (K := K) (G := G) (cs := V.int 83 :: V.int x.shelf.length :: (nV x.shelf ++ (nV ((robB x.a x.p ++ (robB x.b x.q ++ [(bodyB x).sum % 256])).take i1) ++ tail))) (n := 2 + x.shelf.length) (cells := x.shelf.length) (os := []) (tail := tail) (st := x.a) (ss := x.p) (i := i1) (by rw [dr, List.take_append_of_le_length (by omega)]) (by simp; omega) h2 hx.ha (by omega) (by simp) hx.p hb
        rw [show i + 2 = 2 + x.shelf.length + i1 by omega]
        exact this
      · have e2 : (robB x.a x.p ++ (robB x.b x.q ++ [(bodyB x).sum % 256])).take i1 = robB x.a x.p ++ (robB x.b x.q ++ [(bodyB x).sum % 256]).take (i1 - (robB x.a x.p).length) := by
          rw [List.take_append, List.take_of_length_le (by omega)]
        rw [e2, nV_app, List.append_assoc]
        generalize hi2 : i1 - (robB x.a x.p).length = i2
        have lr : (nV (robB x.a x.p)).length = (robB x.a x.p).length := List.length_map ..
        refine .inr ⟨x.a, x.p, _, hx.ha, hx.p, rfl, ?_⟩
        by_cases h3 : i2 < (robB x.b x.q).length
        · refine .inl ?_
          have := robE_cut (K := K) (G := G) (cs := V.int 83 :: V.int x.shelf.length :: (nV x.shelf ++ (nV (robB x.a x.p) ++ (nV ((robB x.b x.q ++ [(bodyB x).sum % 256]).take i2) ++ tail)))) (n := 2 + x.shelf.length + (robB x.a x.p).length) (cells := x.shelf.length) (os := [x.a]) (tail := tail) (st := x.b) (ss := x.q) (i := i2) (by rw [← List.drop_drop, dr, ← lr, List.drop_left, List.take_append_of_le_length (by omega)]) (by simp; omega) h3 hx.hb (by omega) (by simp [hx.ne.symm]) hx.q hb
          rw [show i + 2 = 2 + x.shelf.length + (robB x.a x.p).length + i2 by omega]
          exact this
        · have e3 : (robB x.b x.q ++ [(bodyB x).sum % 256]).take i2 = robB x.b x.q := by
            rw [List.take_append_of_le_length (by omega), List.take_of_length_le (by omega)]
          rw [e3]
          refine .inr ⟨x.b, x.q, tail, hx.hb, hx.ne.symm, hx.q, rfl, .inl ⟨hb.at (by omega) (by omega), ?_⟩⟩
          simp only [List.length_cons, List.length_append]
          omega
/-- extended, or another checksum -/
theorem dec_ext {K : PySem.W.Frag} {G : Hp} {x : Pl} {r2 : List V} {m : Nat} (hx : x.Ok) (h : (BadAt K G r2 0 (((bodyB x).sum % 256 : Nat) : Int) (((bodyB x).sum % 256 : Nat) : Int) ∧ m = (bodyB x).length) ∨ (r2[0]? = some (.int ((bodyB x).sum % 256 : Nat)) ∧ 1 < r2.length ∧ m = (bodyB x).length + 1)) : DecE K G (nV (bodyB x) ++ r2) m := by
  have c3 := hx.c3
  have c12 := hx.c12
  refine .inr ⟨rfl, .inr ⟨x.shelf.length, c3, c12, x.shelf, nV (robB x.a x.p) ++ (nV (robB x.b x.q) ++ r2), hx.b3, ?_, .inr ⟨rfl, .inr ⟨x.a, x.p, _, hx.ha, hx.p, rfl, .inr ⟨x.b, x.q, r2, hx.hb, hx.ne.symm, hx.q, rfl, h⟩⟩⟩⟩⟩
  unfold bodyB
  simp [nV]
end Sb

namespace Sb
open PySem PySem.Spec PyProof.Rows L2 TL
/-! ### law k15: the eighteen written cases -/
def stepB1 (c : Nat) (s : Step) : Bool := decide (s.w < 8) && (if s.w < 5 then s.g.isNone else match s.g with | some k => decide (k < c) | none => false)
theorem stepB_ok1 {c : Nat} {s : Step} (h : stepB1 c s = true) : Step.Ok c s := by
  unfold stepB1 at h
  rw [Bool.and_eq_true] at h
  obtain ⟨h1, h2⟩ := h
  refine ⟨of_decide_eq_true h1, fun l => ?_, fun l => ?_⟩
  · rw [if_pos l] at h2
    cases e : s.g with
    | none => rfl
    | some k => rw [e] at h2; cases h2
  · rw [if_neg (by omega)] at h2
    cases e : s.g with
    | none => rw [e] at h2; cases h2
    | some k => rw [e] at h2; exact ⟨k, rfl, of_decide_eq_true h2⟩
theorem stepsB_ok {c : Nat} {ss : List Step} (h : ss.all (stepB1 c) = true) : ∀ s ∈ ss, Step.Ok c s := fun s hs => stepB_ok1 (List.all_eq_true.mp h s hs)
theorem cs15_0 {K : PySem.W.Frag} {G : Hp} (rest : List V) : DecE K G (nV [82] ++ rest) 0 :=
  .inl ⟨.inr ⟨_, rfl, .int _ (by decide)⟩, rfl⟩
theorem cs15_1 {K : PySem.W.Frag} {G : Hp} (rest : List V) : DecE K G (nV [83, 2] ++ rest) 1 :=
  .inr ⟨rfl, .inl ⟨.inr ⟨_, rfl, .int _ (by decide)⟩, rfl⟩⟩
theorem cs15_2 {K : PySem.W.Frag} {G : Hp} (rest : List V) : DecE K G (nV [83, 13] ++ rest) 1 :=
  .inr ⟨rfl, .inl ⟨.inr ⟨_, rfl, .int _ (by decide)⟩, rfl⟩⟩
theorem cs15_3 {K : PySem.W.Frag} {G : Hp} (rest : List V) : DecE K G (nV [83, 3, 4] ++ rest) 2 :=
  .inr ⟨rfl, .inr ⟨3, by decide, by decide, [], _, by decide, rfl, .inl ⟨by decide, .inr ⟨_, rfl, .int _ (by decide)⟩, rfl⟩⟩⟩
theorem cs15_4 {K : PySem.W.Frag} {G : Hp} (rest : List V) : DecE K G (nV [83, 3, 0, 0, 4] ++ rest) 4 :=
  .inr ⟨rfl, .inr ⟨3, by decide, by decide, [0, 0], _, by decide, rfl, .inl ⟨by decide, .inr ⟨_, rfl, .int _ (by decide)⟩, rfl⟩⟩⟩
theorem cs15_5 {K : PySem.W.Frag} {G : Hp} (rest : List V) : DecE K G (nV [83, 3, 0, 1, 3, 3] ++ rest) 5 :=
  .inr ⟨rfl, .inr ⟨3, by decide, by decide, [0, 1, 3], _, by decide, rfl, .inr ⟨rfl, .inl (.inl ⟨by first | (simp; done) | (simp [robB, stepB]; done) | (simp [robB, stepB]; omega), .inr ⟨_, rfl, .int _ (by decide)⟩, rfl⟩)⟩⟩⟩
theorem cs15_6 {K : PySem.W.Frag} {G : Hp} (rest : List V) : DecE K G (nV [83, 3, 0, 1, 3, 0, 0] ++ rest) 6 :=
  .inr ⟨rfl, .inr ⟨3, by decide, by decide, [0, 1, 3], _, by decide, rfl, .inr ⟨rfl, .inl (.inr ⟨0, rfl, by decide, .inr ⟨by decide, .inl ⟨.inr ⟨_, rfl, .int _ (by decide)⟩, rfl⟩⟩⟩)⟩⟩⟩
theorem cs15_7 {K : PySem.W.Frag} {G : Hp} (rest : List V) : DecE K G (nV [83, 3, 0, 1, 3, 0, 21] ++ rest) 6 :=
  .inr ⟨rfl, .inr ⟨3, by decide, by decide, [0, 1, 3], _, by decide, rfl, .inr ⟨rfl, .inl (.inr ⟨0, rfl, by decide, .inr ⟨by decide, .inl ⟨.inr ⟨_, rfl, .int _ (by decide)⟩, rfl⟩⟩⟩)⟩⟩⟩
theorem cs15_8 {K : PySem.W.Frag} {G : Hp} (rest : List V) : DecE K G (nV [83, 3, 0, 1, 3, 0, 2, 8] ++ rest) 7 :=
  .inr ⟨rfl, .inr ⟨3, by decide, by decide, [0, 1, 3], _, by decide, rfl, .inr ⟨rfl, .inl (.inr ⟨0, rfl, by decide, .inr ⟨by decide, .inr ⟨2, rfl, by decide, by decide, [], _, by decide, (stepsB_ok (c := 2) (by decide)), rfl, .inl ⟨.inr ⟨_, rfl, .int _ (by decide)⟩, rfl⟩⟩⟩⟩)⟩⟩⟩
theorem cs15_9 {K : PySem.W.Frag} {G : Hp} (rest : List V) : DecE K G (nV [83, 3, 0, 1, 3, 0, 2, 5, 2] ++ rest) 8 :=
  .inr ⟨rfl, .inr ⟨3, by decide, by decide, [0, 1, 3], _, by decide, rfl, .inr ⟨rfl, .inl (.inr ⟨0, rfl, by decide, .inr ⟨by decide, .inr ⟨2, rfl, by decide, by decide, [], _, by decide, (stepsB_ok (c := 2) (by decide)), rfl, .inr ⟨5, rfl, by decide, by decide, .inr ⟨_, rfl, .int _ (by decide)⟩, rfl⟩⟩⟩⟩)⟩⟩⟩
theorem cs15_10 {K : PySem.W.Frag} {G : Hp} (rest : List V) : DecE K G (nV [83, 3, 0, 1, 3, 0, 2, 0, 7, 2] ++ rest) 9 :=
  .inr ⟨rfl, .inr ⟨3, by decide, by decide, [0, 1, 3], _, by decide, rfl, .inr ⟨rfl, .inl (.inr ⟨0, rfl, by decide, .inr ⟨by decide, .inr ⟨2, rfl, by decide, by decide, [⟨0, none⟩], _, by decide, (stepsB_ok (c := 2) (by decide)), rfl, .inr ⟨7, rfl, by decide, by decide, .inr ⟨_, rfl, .int _ (by decide)⟩, rfl⟩⟩⟩⟩)⟩⟩⟩
theorem cs15_11 {K : PySem.W.Frag} {G : Hp} (rest : List V) : DecE K G (nV [83, 3, 0, 1, 3, 0, 2, 4, 4, 0] ++ rest) 9 :=
  .inr ⟨rfl, .inr ⟨3, by decide, by decide, [0, 1, 3], _, by decide, rfl, .inr ⟨rfl, .inr ⟨0, [⟨4, none⟩, ⟨4, none⟩], _, by decide, ⟨by decide, by decide, stepsB_ok (by decide)⟩, rfl, .inl (.inr ⟨0, rfl, by decide, .inl ⟨by decide, rfl⟩⟩)⟩⟩⟩⟩
theorem cs15_12 {K : PySem.W.Frag} {G : Hp} (rest : List V) : DecE K G (nV [83, 3, 0, 1, 3, 0, 2, 4, 4, 3] ++ rest) 9 :=
  .inr ⟨rfl, .inr ⟨3, by decide, by decide, [0, 1, 3], _, by decide, rfl, .inr ⟨rfl, .inr ⟨0, [⟨4, none⟩, ⟨4, none⟩], _, by decide, ⟨by decide, by decide, stepsB_ok (by decide)⟩, rfl, .inl (.inl ⟨by first | (simp; done) | (simp [robB, stepB]; done) | (simp [robB, stepB]; omega), .inr ⟨_, rfl, .int _ (by decide)⟩, rfl⟩)⟩⟩⟩⟩
theorem cs15_13 {K : PySem.W.Frag} {G : Hp} (rest : List V) : DecE K G (nV [83, 3, 0, 1, 3, 0, 2, 4, 4, 1, 0] ++ rest) 10 :=
  .inr ⟨rfl, .inr ⟨3, by decide, by decide, [0, 1, 3], _, by decide, rfl, .inr ⟨rfl, .inr ⟨0, [⟨4, none⟩, ⟨4, none⟩], _, by decide, ⟨by decide, by decide, stepsB_ok (by decide)⟩, rfl, .inl (.inr ⟨1, rfl, by decide, .inr ⟨by decide, .inl ⟨.inr ⟨_, rfl, .int _ (by decide)⟩, rfl⟩⟩⟩)⟩⟩⟩⟩
theorem cs15_14 {K : PySem.W.Frag} {G : Hp} (rest : List V) : DecE K G (nV [83, 3, 0, 1, 3, 0, 2, 4, 4, 1, 21] ++ rest) 10 :=
  .inr ⟨rfl, .inr ⟨3, by decide, by decide, [0, 1, 3], _, by decide, rfl, .inr ⟨rfl, .inr ⟨0, [⟨4, none⟩, ⟨4, none⟩], _, by decide, ⟨by decide, by decide, stepsB_ok (by decide)⟩, rfl, .inl (.inr ⟨1, rfl, by decide, .inr ⟨by decide, .inl ⟨.inr ⟨_, rfl, .int _ (by decide)⟩, rfl⟩⟩⟩)⟩⟩⟩⟩
theorem cs15_15 {K : PySem.W.Frag} {G : Hp} (rest : List V) : DecE K G (nV [83, 3, 0, 1, 3, 0, 2, 4, 4, 1, 1, 8] ++ rest) 11 :=
  .inr ⟨rfl, .inr ⟨3, by decide, by decide, [0, 1, 3], _, by decide, rfl, .inr ⟨rfl, .inr ⟨0, [⟨4, none⟩, ⟨4, none⟩], _, by decide, ⟨by decide, by decide, stepsB_ok (by decide)⟩, rfl, .inl (.inr ⟨1, rfl, by decide, .inr ⟨by decide, .inr ⟨1, rfl, by decide, by decide, [], _, by decide, (stepsB_ok (c := 1) (by decide)), rfl, .inl ⟨.inr ⟨_, rfl, .int _ (by decide)⟩, rfl⟩⟩⟩⟩)⟩⟩⟩⟩
theorem cs15_16 {K : PySem.W.Frag} {G : Hp} (rest : List V) : DecE K G (nV [83, 3, 0, 1, 3, 0, 2, 4, 4, 2, 1, 6, 1] ++ rest) 12 :=
  .inr ⟨rfl, .inr ⟨3, by decide, by decide, [0, 1, 3], _, by decide, rfl, .inr ⟨rfl, .inr ⟨0, [⟨4, none⟩, ⟨4, none⟩], _, by decide, ⟨by decide, by decide, stepsB_ok (by decide)⟩, rfl, .inl (.inr ⟨2, rfl, by decide, .inr ⟨by decide, .inr ⟨1, rfl, by decide, by decide, [], _, by decide, (stepsB_ok (c := 1) (by decide)), rfl, .inr ⟨6, rfl, by decide, by decide, .inr ⟨_, rfl, .int _ (by decide)⟩, rfl⟩⟩⟩⟩)⟩⟩⟩⟩
theorem cs15_17 {K : PySem.W.Frag} {G : Hp} (rest : List V) : DecE K G (nV [83, 3, 0, 1, 3, 0, 2, 6, 2] ++ rest) 8 :=
  .inr ⟨rfl, .inr ⟨3, by decide, by decide, [0, 1, 3], _, by decide, rfl, .inr ⟨rfl, .inl (.inr ⟨0, rfl, by decide, .inr ⟨by decide, .inr ⟨2, rfl, by decide, by decide, [], _, by decide, (stepsB_ok (c := 2) (by decide)), rfl, .inr ⟨6, rfl, by decide, by decide, .inr ⟨_, rfl, .int _ (by decide)⟩, rfl⟩⟩⟩⟩)⟩⟩⟩
def casesL : List (List Nat × Nat) := [([82], 0), ([83, 2], 1), ([83, 13], 1), ([83, 3, 4], 2), ([83, 3, 0, 0, 4], 4), ([83, 3, 0, 1, 3, 3], 5), ([83, 3, 0, 1, 3, 0, 0], 6), ([83, 3, 0, 1, 3, 0, 21], 6), ([83, 3, 0, 1, 3, 0, 2, 8], 7), ([83, 3, 0, 1, 3, 0, 2, 5, 2], 8), ([83, 3, 0, 1, 3, 0, 2, 0, 7, 2], 9), ([83, 3, 0, 1, 3, 0, 2, 4, 4, 0], 9), ([83, 3, 0, 1, 3, 0, 2, 4, 4, 3], 9), ([83, 3, 0, 1, 3, 0, 2, 4, 4, 1, 0], 10), ([83, 3, 0, 1, 3, 0, 2, 4, 4, 1, 21], 10), ([83, 3, 0, 1, 3, 0, 2, 4, 4, 1, 1, 8], 11), ([83, 3, 0, 1, 3, 0, 2, 4, 4, 2, 1, 6, 1], 12), ([83, 3, 0, 1, 3, 0, 2, 6, 2], 8)]
theorem cases_bad {K : PySem.W.Frag} {G : Hp} {q : List Nat × Nat} (h : q ∈ casesL) (rest : List V) : DecE K G (nV q.1 ++ rest) q.2 := by
  simp only [casesL, List.mem_cons, List.not_mem_nil, or_false] at h
  rcases h with rfl | rfl | rfl | rfl | rfl | rfl | rfl | rfl | rfl | rfl | rfl | rfl | rfl | rfl | rfl | rfl | rfl | rfl
  · exact cs15_0 rest
  · exact cs15_1 rest
  · exact cs15_2 rest
  · exact cs15_3 rest
  · exact cs15_4 rest
  · exact cs15_5 rest
  · exact cs15_6 rest
  · exact cs15_7 rest
  · exact cs15_8 rest
  · exact cs15_9 rest
  · exact cs15_10 rest
  · exact cs15_11 rest
  · exact cs15_12 rest
  · exact cs15_13 rest
  · exact cs15_14 rest
  · exact cs15_15 rest
  · exact cs15_16 rest
  · exact cs15_17 rest
end Sb

namespace Sb
open PySem PySem.Spec PyProof.Rows L2 TL LamX NdefX
/-! ### the lambdas of law k15 -/
abbrev lamP15_1 : Arguments := { posonlyargs := [], args := [], vararg := .none, kwonlyargs := [], kw_defaults := [], kwarg := .none, defaults := [] }
abbrev lamB15_1 : Expr := (.Call (.Name "decode" ⟨357, 29, 357, 35⟩) [(.Subscript (.Name "_law_code" ⟨357, 36, 357, 45⟩) (.Slice .none (some (.Name "_law_at" ⟨357, 47, 357, 54⟩)) .none ⟨357, 46, 357, 54⟩) ⟨357, 36, 357, 55⟩)] [] ⟨357, 29, 357, 56⟩)
abbrev lamSc15_1 : Scope := { kind := .function, names := [("_law_at", .free), ("_law_code", .free), ("decode", .globalImplicit)], isGenerator := false, isCoroutine := false, more := [] }
abbrev lamP15_2 : Arguments := { posonlyargs := [], args := [], vararg := .none, kwonlyargs := [], kw_defaults := [], kwarg := .none, defaults := [] }
abbrev lamB15_2 : Expr := (.Call (.Name "decode" ⟨360, 29, 360, 35⟩) [(.Name "_law_extra" ⟨360, 36, 360, 46⟩)] [] ⟨360, 29, 360, 47⟩)
abbrev lamSc15_2 : Scope := { kind := .function, names := [("_law_extra", .free), ("decode", .globalImplicit)], isGenerator := false, isCoroutine := false, more := [] }
abbrev lamP15_3 : Arguments := { posonlyargs := [], args := [], vararg := .none, kwonlyargs := [], kw_defaults := [], kwarg := .none, defaults := [] }
abbrev lamB15_3 : Expr := (.Call (.Name "decode" ⟨364, 29, 364, 35⟩) [(.Name "_law_changed" ⟨364, 36, 364, 48⟩)] [] ⟨364, 29, 364, 49⟩)
abbrev lamSc15_3 : Scope := { kind := .function, names := [("_law_changed", .free), ("decode", .globalImplicit)], isGenerator := false, isCoroutine := false, more := [] }
abbrev lamP15_4 : Arguments := { posonlyargs := [], args := [], vararg := .none, kwonlyargs := [], kw_defaults := [], kwarg := .none, defaults := [] }
abbrev lamB15_4 : Expr := (.Call (.Name "decode" ⟨367, 29, 367, 35⟩) [(.Name "_law_wrong" ⟨367, 36, 367, 46⟩)] [] ⟨367, 29, 367, 47⟩)
abbrev lamSc15_4 : Scope := { kind := .function, names := [("_law_wrong", .free), ("decode", .globalImplicit)], isGenerator := false, isCoroutine := false, more := [] }
abbrev lamP15_5 : Arguments := { posonlyargs := [], args := [], vararg := .none, kwonlyargs := [], kw_defaults := [], kwarg := .none, defaults := [] }
abbrev lamB15_5 : Expr := (.Call (.Name "decode" ⟨370, 29, 370, 35⟩) [(.Name "_law_none" ⟨370, 36, 370, 45⟩)] [] ⟨370, 29, 370, 46⟩)
abbrev lamSc15_5 : Scope := { kind := .function, names := [("_law_none", .free), ("decode", .globalImplicit)], isGenerator := false, isCoroutine := false, more := [] }
abbrev lamP15_6 : Arguments := { posonlyargs := [], args := [], vararg := .none, kwonlyargs := [], kw_defaults := [], kwarg := .none, defaults := [] }
abbrev lamB15_6 : Expr := (.Call (.Name "decode" ⟨380, 29, 380, 35⟩) [(.BinOp (.Name "_law_bad" ⟨380, 36, 380, 44⟩) .Add (.ListComp (.Call (.Name "_law_below" ⟨380, 48, 380, 58⟩) [(.Name "_law_d" ⟨380, 59, 380, 65⟩), (.Constant (.int 256) 0 ⟨380, 67, 380, 70⟩)] [] ⟨380, 48, 380, 71⟩) [⟨(.Name "_law_k" ⟨380, 76, 380, 82⟩), (.Call (.Name "range" ⟨380, 86, 380, 91⟩) [(.Constant (.int 9) 0 ⟨380, 92, 380, 93⟩)] [] ⟨380, 86, 380, 94⟩), [], 0⟩] { kind := .function, names := [(".0", .local), ("_law_k", .local), ("_law_below", .globalImplicit), ("_law_d", .free)], isGenerator := false, isCoroutine := false, more := [] } ⟨380, 47, 380, 95⟩) ⟨380, 36, 380, 95⟩)] [] ⟨380, 29, 380, 96⟩)
abbrev lamSc15_6 : Scope := { kind := .function, names := [("_law_bad", .free), ("_law_d", .free), ("decode", .globalImplicit), ("range", .globalImplicit)], isGenerator := false, isCoroutine := false, more := [("fast", .str "_law_k"), ("fast", .str "_law_bad"), ("fast", .str "_law_d")] }
theorem bindZ : BindD lamP15_1 [] [] := ⟨rfl, fun _ _ _ _ _ _ _ _ => rfl, fun n => absurd rfl n⟩
section
variable {P : Program} {w : World} {K : PySem.W.Frag} {mg : Str → Option Value} {base : Heap} {a : Ad}
theorem code_dat {a : Ad} (T : Txt K mg a) {Hc : Hp} {n : Nat} {E : XK} (hE : ∀ C j d H2, Same Hc H2 → DAt d H2 j (.int (n : Nat)) → ErrK K a C j (Str.ofString "code") → E (.ref C) d H2) (H1 : Hp) (d : Addr) (s : Same Hc H1) (h : H1 d = some (.xd [("place", .int (n : Nat))])) : E (.ref a.X_InvalidCode) (some d) H1 :=
  hE _ 11 _ _ s (.inr (.inl ⟨d, _, _, rfl, h, by kernel_rfl, by decide, rfl⟩)) (errK_InvalidCode T)
theorem lamS15_1 (T : Txt K mg a) {f c' : Addr} {q : Str} {cl : List (Str × Addr)} {cells : List (Addr × Obj)} {H G : Hp} {lc : Addr} {cs : List V} {at_ : Nat}
    (hL : LamAt f c' q lamP15_1 lamB15_1 lamSc15_1 cl [] H) (hF : ∀ p ∈ cells, H p.1 = some (Fz p.2)) (C : CapT cl ["_law_at", "_law_code"] [some (.int (at_ : Nat)), some (.ref lc)] cells) (hG : Same G H) (hGc : ∀ p ∈ cells, G p.1 = none) (hc : SqL K G lc cs) (hat : at_ ≤ cs.length) (hM : ∀ G', DecE K G' (cs.take at_) at_) : LamSame P w K mg base a 14 f (Str.ofString "code") (.int (at_ : Nat)) H := by
  refine lamSame_of (N := ["_law_at", "_law_code"]) (ps := []) (fr := ["_law_at", "_law_code"]) (ws := [some (.int (at_ : Nat)), some (.ref lc)]) hL hF (nscope_by (by decide +kernel)) bindZ C
    (fun E => tCall (spDecodeX a K) [] (fun cls d H' => E cls d H') (tCons (tSl (rSlL K) (tVar 1) tNoPart (tPart (tVar 0))) tNil))
    (fun A outer s H E hr => pe_call (ok_decodeX T) (hr.mono (by decide)) rfl T.m_decode T.F_decode.kp (b_decode T) .nil (passes_call (takes_of rfl rfl rfl rfl) (fun _ _ _ _ h => h)) (pa_cons (pe_slice sl_list (pe_var (i := 1) rfl (Or.inr (Or.inr rfl))) po_none (po_some (pe_var (i := 0) rfl (Or.inr (Or.inr rfl))))) pa_nil)) (fun Hc E Q s hE => ?_)
  have sG : Same G Hc := fun b o e => s _ _ (by
    rw [cut_out (fun z => by obtain ⟨p, hp, e2⟩ := List.mem_map.mp z; rw [← e2, hGc p hp] at e; cases e)]
    exact hG _ _ e)
  refine ⟨_, rfl, _, rfl, _, rfl, lc, _, rfl, sG.seq hc, fun p hp => ?_⟩
  have ec : cutV cs none (some ((at_ : Nat) : Int)) = cs.take at_ := by
    have := cut_pre (cs.take at_) (cs.drop at_)
    rw [List.take_append_drop, List.length_take, Nat.min_eq_left hat] at this
    exact this
  rw [ec]
  have M := (Mv.start (S := []) sG).new hp (.lst (cs.take at_))
  exact ⟨.inr ⟨p, _, _, at_, rfl, M.s, SqL.of upd_same, hM _, fun H1 d s1 e => code_dat T hE H1 d ((same_new hp).trans s1) e⟩⟩
theorem lamS15_2 (T : Txt K mg a) {f c' : Addr} {q : Str} {cl : List (Str × Addr)} {cells : List (Addr × Obj)} {H G : Hp} {lc : Addr} {cs : List V} {m : Nat}
    (hL : LamAt f c' q lamP15_2 lamB15_2 lamSc15_2 cl [] H) (hF : ∀ p ∈ cells, H p.1 = some (Fz p.2)) (C : CapT cl ["_law_extra"] [some (.ref lc)] cells) (hG : Same G H) (hGc : ∀ p ∈ cells, G p.1 = none) (hc : SqL K G lc cs) (hM : DecE K G cs m) : LamSame P w K mg base a 14 f (Str.ofString "code") (.int (m : Nat)) H := by
  refine lamSame_of (N := ["_law_extra"]) (ps := []) (fr := ["_law_extra"]) (ws := [some (.ref lc)]) hL hF (nscope_by (by decide +kernel)) bindZ C
    (fun E => tCall (spDecodeX a K) [] (fun cls d H' => E cls d H') (tCons (tVar 0) tNil))
    (fun A outer s H E hr => pe_call (ok_decodeX T) (hr.mono (by decide)) rfl T.m_decode T.F_decode.kp (b_decode T) .nil (passes_call (takes_of rfl rfl rfl rfl) (fun _ _ _ _ h => h)) (pa_cons (pe_var (i := 0) rfl (Or.inr (Or.inr rfl))) pa_nil)) (fun Hc E Q s hE => ?_)
  have sG : Same G Hc := fun b o e => s _ _ (by
    rw [cut_out (fun z => by obtain ⟨p, hp, e2⟩ := List.mem_map.mp z; rw [← e2, hGc p hp] at e; cases e)]
    exact hG _ _ e)
  exact ⟨_, rfl, ⟨.inr ⟨lc, G, cs, m, rfl, sG, hc, hM, code_dat T hE⟩⟩⟩
theorem lamS15_3 (T : Txt K mg a) {f c' : Addr} {q : Str} {cl : List (Str × Addr)} {cells : List (Addr × Obj)} {H G : Hp} {lc : Addr} {cs : List V} {m : Nat}
    (hL : LamAt f c' q lamP15_3 lamB15_3 lamSc15_3 cl [] H) (hF : ∀ p ∈ cells, H p.1 = some (Fz p.2)) (C : CapT cl ["_law_changed"] [some (.ref lc)] cells) (hG : Same G H) (hGc : ∀ p ∈ cells, G p.1 = none) (hc : SqL K G lc cs) (hM : DecE K G cs m) : LamSame P w K mg base a 14 f (Str.ofString "code") (.int (m : Nat)) H := by
  refine lamSame_of (N := ["_law_changed"]) (ps := []) (fr := ["_law_changed"]) (ws := [some (.ref lc)]) hL hF (nscope_by (by decide +kernel)) bindZ C
    (fun E => tCall (spDecodeX a K) [] (fun cls d H' => E cls d H') (tCons (tVar 0) tNil))
    (fun A outer s H E hr => pe_call (ok_decodeX T) (hr.mono (by decide)) rfl T.m_decode T.F_decode.kp (b_decode T) .nil (passes_call (takes_of rfl rfl rfl rfl) (fun _ _ _ _ h => h)) (pa_cons (pe_var (i := 0) rfl (Or.inr (Or.inr rfl))) pa_nil)) (fun Hc E Q s hE => ?_)
  have sG : Same G Hc := fun b o e => s _ _ (by
    rw [cut_out (fun z => by obtain ⟨p, hp, e2⟩ := List.mem_map.mp z; rw [← e2, hGc p hp] at e; cases e)]
    exact hG _ _ e)
  exact ⟨_, rfl, ⟨.inr ⟨lc, G, cs, m, rfl, sG, hc, hM, code_dat T hE⟩⟩⟩
theorem lamS15_4 (T : Txt K mg a) {f c' : Addr} {q : Str} {cl : List (Str × Addr)} {cells : List (Addr × Obj)} {H G : Hp} {lc : Addr} {cs : List V} {m : Nat}
    (hL : LamAt f c' q lamP15_4 lamB15_4 lamSc15_4 cl [] H) (hF : ∀ p ∈ cells, H p.1 = some (Fz p.2)) (C : CapT cl ["_law_wrong"] [some (.ref lc)] cells) (hG : Same G H) (hGc : ∀ p ∈ cells, G p.1 = none) (hc : SqL K G lc cs) (hM : DecE K G cs m) : LamSame P w K mg base a 14 f (Str.ofString "code") (.int (m : Nat)) H := by
  refine lamSame_of (N := ["_law_wrong"]) (ps := []) (fr := ["_law_wrong"]) (ws := [some (.ref lc)]) hL hF (nscope_by (by decide +kernel)) bindZ C
    (fun E => tCall (spDecodeX a K) [] (fun cls d H' => E cls d H') (tCons (tVar 0) tNil))
    (fun A outer s H E hr => pe_call (ok_decodeX T) (hr.mono (by decide)) rfl T.m_decode T.F_decode.kp (b_decode T) .nil (passes_call (takes_of rfl rfl rfl rfl) (fun _ _ _ _ h => h)) (pa_cons (pe_var (i := 0) rfl (Or.inr (Or.inr rfl))) pa_nil)) (fun Hc E Q s hE => ?_)
  have sG : Same G Hc := fun b o e => s _ _ (by
    rw [cut_out (fun z => by obtain ⟨p, hp, e2⟩ := List.mem_map.mp z; rw [← e2, hGc p hp] at e; cases e)]
    exact hG _ _ e)
  exact ⟨_, rfl, ⟨.inr ⟨lc, G, cs, m, rfl, sG, hc, hM, code_dat T hE⟩⟩⟩
theorem lamS15_5 (T : Txt K mg a) {f c' : Addr} {q : Str} {cl : List (Str × Addr)} {cells : List (Addr × Obj)} {H G : Hp} {v : V}
    (hL : LamAt f c' q lamP15_5 lamB15_5 lamSc15_5 cl [] H) (hF : ∀ p ∈ cells, H p.1 = some (Fz p.2)) (C : CapT cl ["_law_none"] [some v] cells) (hG : Same G H) (hGc : ∀ p ∈ cells, G p.1 = none) (hv : ∀ H', Same G H' → ∃ t, TyX K H' v t ∧ PySem.W.kitOne K t (.type "list") = some false) : LamSame P w K mg base a 14 f (Str.ofString "code") (.int 0) H := by
  refine lamSame_of (N := ["_law_none"]) (ps := []) (fr := ["_law_none"]) (ws := [some v]) hL hF (nscope_by (by decide +kernel)) bindZ C
    (fun E => tCall (spDecodeX a K) [] (fun cls d H' => E cls d H') (tCons (tVar 0) tNil))
    (fun A outer s H E hr => pe_call (ok_decodeX T) (hr.mono (by decide)) rfl T.m_decode T.F_decode.kp (b_decode T) .nil (passes_call (takes_of rfl rfl rfl rfl) (fun _ _ _ _ h => h)) (pa_cons (pe_var (i := 0) rfl (Or.inr (Or.inr rfl))) pa_nil)) (fun Hc E Q s hE => ?_)
  have sG : Same G Hc := fun b o e => s _ _ (by
    rw [cut_out (fun z => by obtain ⟨p, hp, e2⟩ := List.mem_map.mp z; rw [← e2, hGc p hp] at e; cases e)]
    exact hG _ _ e)
  obtain ⟨t, ty, e⟩ := hv Hc sG
  exact ⟨_, rfl, ⟨.inl ⟨v, t, rfl, ty, e, fun H1 d s1 e => code_dat (n := 0) T hE H1 d s1 e⟩⟩⟩
end
end Sb

namespace Sb
open PySem PySem.Spec PyProof.Rows L2 TL LamX NdefX
/-! ### the last lambda of law k15: it draws -/
section
variable {P : Program} {w : World} {K : PySem.W.Frag} {mg : Str → Option Value} {base : Heap} {a : Ad}
abbrev te15 (a : Ad) (K : PySem.W.Frag) : XK → TE := fun E => tCall (spDecodeX a K) [] (fun cls d H' => E cls d H') (tCons (tOp rCat (tVar 0) (tLc (iRng1 (tCons (tC (.int 9)) tNil)) (gName 2) tYes (tCall spBelow [] E0 (tCons (tVar 1) (tCons (tC (.int 256)) tNil))) [2])) tNil)
theorem nd15 : (["_law_bad", "_law_d", "_law_k"] : List Str).Nodup := by decide +kernel
theorem body15 (T : Txt K mg a) {q : Str} {cl : List (Str × Addr)} {f c' : Addr} (A : Around) (outer : List Env) (s : Shared) (H : Hp) (E : XK) (hr : Room 13 (A.deeper (envF (lamNF q lamP15_6 lamSc15_6 cl c') f s.heap.objs.size))) :
    PE (ncx (L2.CX P w) P w K mg base ["_law_bad", "_law_d", "_law_k"] (lamNF q lamP15_6 lamSc15_6 cl c') f A outer s H E) lamB15_6 (te15 a K E) := by
  exact pe_call (ok_decodeX T) (hr.mono (by decide)) rfl T.m_decode T.F_decode.kp (b_decode T) .nil (passes_call (takes_of rfl rfl rfl rfl) (fun _ _ _ _ h => h)) (pa_cons (pe_op op_cat (pe_var (i := 0) rfl (Or.inr (Or.inr rfl)))
    (pe_lc (own := [("_law_k", 2)]) (g := gName 2) (tt := tYes) rfl nd15 (pi_range1 (by rfl) T.z_range (pa_cons pe_int pa_nil)) (blkOk_by (own := [("_law_k", 2)]) (N := ["_law_bad", "_law_d", "_law_k"]) (sc := lamSc15_6) (by decide +kernel)) (fun _ _ _ _ _ => (pg_name (i := 2) nd15 rfl (Or.inl rfl))) (fun _ _ _ _ _ => pts_nil) (fun _ _ _ _ _ => by exact (pe_call (ok_l_below T) (hr.mono (by decide)) rfl T.m_l_below T.F_l_below.kp (b_l_below T) .nil pass0 (pa_cons (pe_var (i := 1) rfl (Or.inr (Or.inr rfl))) (pa_cons pe_int pa_nil)))))) pa_nil)
end
end Sb

namespace Sb
open PySem PySem.Spec PyProof.Rows L2 TL LamX NdefX
/-! ### the world of a law that makes lambdas and has no stage -/
theorem Tabs.keptV {T : List (Addr × Str)} {H H' : Hp} (t : Tabs T H) (k : ∀ b o, H b = some o → (∃ ps, o = .tbl ps) ∨ (∃ c q, o = CodeO c q) → H' b = some o) : Tabs T H' := fun p hp => by
  obtain ⟨ps, h1, h2, h3⟩ := t p hp
  refine ⟨ps, k _ _ h1 (.inl ⟨_, rfl⟩), h2, fun pos cv hcv => ?_⟩
  obtain ⟨c, ec, hc⟩ := h3 pos cv hcv
  exact ⟨c, ec, k _ _ hc (.inr ⟨_, _, rfl⟩)⟩
theorem tbs_atV {a : Ad} {H : Hp} (t : Tabs (Ts a) H) {b : Addr} (hb : b ∈ tbs a) : ∃ ps, H b = some (.tbl ps) := by
  simp only [tbs, List.mem_cons, List.not_mem_nil, or_false] at hb
  subst hb
  obtain ⟨ps, h, _⟩ := t _ List.mem_cons_self
  exact ⟨ps, h⟩
def Ord (o : HO) : Prop := (∀ ps, o ≠ .tbl ps) ∧ ∀ c q, o ≠ CodeO c q
theorem ord_lst {xs : List V} : Ord (.lst xs) := ⟨(fun _ z => nomatch z), fun c q z => by unfold CodeO at z; cases z⟩
theorem ord_ins {C dy : Addr} {fs : List (Str × V)} : Ord (.ins C dy fs) := ⟨(fun _ z => nomatch z), fun c q z => by unfold CodeO at z; cases z⟩
theorem ord_dK {kvs : List (Key × V)} : Ord (.dK kvs) := ⟨(fun _ z => nomatch z), fun c q z => by unfold CodeO at z; cases z⟩
/-- what of the tables a law's world tells -/
structure TbX (a : Ad) (G H : Hp) : Prop where
  tb : Tabs (Ts a) H
  gt : ∀ b ∈ tbs a, G b = none
theorem TbX.mv {a : Ad} {G H G' H' : Hp} {S : List Addr} (h : TbX a G H) (M : Mv S G H G' H') (hS : ∀ b ∈ S, H b = none ∨ ∃ o, H b = some o ∧ Ord o) : TbX a G' H' where
  tb := Tabs.keptV h.tb fun b o e ho => M.kept e fun m => by
    rcases hS b m with q | ⟨o', q, q1, q2⟩
    · rw [q] at e; cases e
    · rw [q] at e
      cases e
      rcases ho with ⟨ps, rfl⟩ | ⟨c, z, rfl⟩
      · exact q1 _ rfl
      · exact q2 _ _ rfl
  gt := fun b hb => by
    obtain ⟨ps, h1⟩ := tbs_atV h.tb hb
    exact M.ext.out (h.gt b hb) h1
theorem Now.far {d : Addr} {G H G' H' : Hp} {S : List Addr} (h : Now d G H) (M : Mv S G H G' H') (hd : d ∉ S) : Now d G' H' := by
  obtain ⟨ds, h1, h2⟩ := h.x
  exact ⟨M.s, M.ext.out h.o h1, ds, M.kept h1 hd, h2⟩
theorem At.mv {d : Addr} {G0 H0 G H : Hp} (A : At d G0 H0 G H) : Mv [d] G0 H0 G H := ⟨A.ext, fun c o e => by
  obtain ⟨h1, h2⟩ := wos_some e
  exact A.sm c o (by rw [wo_ne (by simpa using h1)]; exact h2)⟩
structure WB (a : Ad) (d : Addr) (G H : Hp) : Prop where
  now : Now d G H
  t : TbX a G H
theorem DpAll.monoV {K : PySem.W.Frag} {G G' : Hp} (s : Same G G') : ∀ {vs : List V} {ds : List PyData}, DpAll K G vs ds → DpAll K G' vs ds
  | _, _, .nil => .nil
  | _, _, .cons h r => .cons (Dp.mono s _ _ h) (DpAll.monoV s r)
section
variable {a : Ad} {K : PySem.W.Frag} {d t : Addr} {G H G' H' : Hp} {vs xs : List V} {ds es : List PyData}
theorem WB.pure (X : WB a d G H) (M : Mv [] G H G' H') : WB a d G' H' := ⟨X.now.far M (fun m => nomatch m), X.t.mv M fun b m => nomatch m⟩
theorem WB.mvd (X : WB a d G H) (M : Mv [d] G H G' H') (n : Now d G' H') : WB a d G' H' := by
  obtain ⟨ds, hd, _⟩ := X.now.x
  exact ⟨n, X.t.mv M fun b m => .inr ⟨.lst (ds.map V.int), by rw [List.mem_singleton.mp m]; exact hd, ord_lst⟩⟩
theorem WB.draw (X : WB a d G H) (A : At d G H G' H') : WB a d G' H' := X.mvd A.mv A.now
theorem WB.off (X : WB a d G H) {D : Addr} (hD : H D = none) : D ≠ d := by
  obtain ⟨ds, hd, _⟩ := X.now.x
  exact (ne_of_none hd hD).symm
theorem WB.lam (X : WB a d G H) (k1 : ∀ b o, b ≠ a.tb_law → H b = some o → H' b = some o) (k2 : ∀ b, H' b = none → H b = none) (t : Tabs (Ts a) H') : WB a d G H' ∧ ∀ b o, H b = some o → (∀ ps, o ≠ .tbl ps) → H' b = some o := by
  obtain ⟨ps, q⟩ := tbs_atV X.t.tb (show a.tb_law ∈ tbs a from List.mem_cons_self)
  have kk : ∀ b o, H b = some o → (∀ ps, o ≠ .tbl ps) → H' b = some o := fun b o e ne => k1 b o (fun z => by
    rw [z, q] at e
    cases e
    exact ne _ rfl) e
  obtain ⟨ds, hd, hs⟩ := X.now.x
  refine ⟨⟨⟨fun b o e => k1 b o (fun z => ?_) (X.now.s b o e), X.now.o, ds, kk _ _ hd (fun _ z => by cases z), hs⟩, t, X.t.gt⟩, kk⟩
  rw [z, X.t.gt _ List.mem_cons_self] at e
  cases e
theorem WB.put (X : WB a d G H) {R : Addr} {o o' : HO} (hR : H R = some o) (gR : G R = none) (n : R ≠ d) (ho : Ord o) : WB a d G (upd H R o') := by
  have M : Mv [R] G H G (upd H R o') := (Mv.start X.now.s).put (.inl (List.mem_singleton.mpr rfl)) gR _
  exact ⟨X.now.far M (fun m => n (List.mem_singleton.mp m).symm), X.t.mv M fun b m => by rw [List.mem_singleton.mp m]; exact .inr ⟨o, hR, ho⟩⟩
theorem WB.accR (X : WB a d G H) (ht : H t = none) (o : HO) : ∃ G', WB a d G' (upd H t o) ∧ Same G G' ∧ G' t = some o :=
  ⟨_, X.pure ((Mv.start X.now.s).new ht o), same_new (Same.free X.now.s ht), upd_same⟩
theorem WB.accT (X : WB a d G H) (D : DpAll K G vs ds) (he : DpAll K G xs es) (ht : H t = none) : ∃ G', WB a d G' (upd H t (.tup xs)) ∧ Same G G' ∧ DpAll K G' (vs ++ [.ref t]) (ds ++ [.tuple es]) := by
  obtain ⟨G', X1, s1, e⟩ := X.accR ht (.tup xs)
  exact ⟨_, X1, s1, DpAll.snoc (DpAll.monoV s1 D) (.tup (SqT.of e) (DpAll.monoV s1 he))⟩
theorem WB.accE (X : WB a d G H) (D : DpAll K G vs ds) (he : DpAll K G xs es) (ht : H t = none) : ∃ G', WB a d G' (upd H t (.lst xs)) ∧ Same G G' ∧ DpAll K G' (vs ++ [.ref t]) (ds ++ [.list es]) := by
  obtain ⟨G', X1, s1, e⟩ := X.accR ht (.lst xs)
  exact ⟨_, X1, s1, DpAll.snoc (DpAll.monoV s1 D) (.lst (SqL.of e) (DpAll.monoV s1 he))⟩
theorem WB.accL (X : WB a d G H) (D : DpAll K G vs ds) (ht : H t = none) : ∃ G', WB a d G' (upd H t (.lst vs)) ∧ Same G G' ∧ DpAll K G' vs ds ∧ G' t = some (.lst vs) := by
  obtain ⟨G', X1, s1, e⟩ := X.accR ht (.lst vs)
  exact ⟨_, X1, s1, DpAll.monoV s1 D, e⟩
theorem WB.frz {R : Addr} (X : WB a d G H) (hR : H R = some (.lst xs)) (gR : G R = none) (n : R ≠ d) : ∃ G', WB a d G' H ∧ Same G G' ∧ G' R = some (.lst xs) := by
  refine ⟨upd G R (.lst xs), ⟨⟨fun b o e => ?_, by rw [upd_ne n.symm]; exact X.now.o, X.now.x⟩, X.t.tb, fun b hb => ?_⟩, same_new gR, upd_same⟩
  · by_cases hb : b = R
    · rw [hb, upd_same] at e
      rw [hb, hR]
      exact e
    · rw [upd_ne hb] at e
      exact X.now.s _ _ e
  obtain ⟨ps, h1⟩ := tbs_atV X.t.tb hb
  rw [upd_ne (fun z => by rw [z, hR] at h1; cases h1)]
  exact X.t.gt b hb
theorem WB.trk {cells : List (Addr × Obj)} {H4 : Hp} (X : WB a d G H) (Tr : Trk cells H H4) : Same H H4 ∧ Same G H4 ∧ (∀ q ∈ cells, G q.1 = none) ∧ ∀ H', Same H4 H' → WB a d G (cut (cells.map (·.1)) H') := by
  have nc : ∀ {b : Addr} {o : HO}, H b = some o → b ∉ cells.map (·.1) := fun {b o} e z => by
    obtain ⟨q, hq, e2⟩ := List.mem_map.mp z
    rw [← e2, Tr.was q hq] at e
    cases e
  have s34 : Same H H4 := fun b o e => by rw [Tr.out b (nc e)]; exact e
  refine ⟨s34, X.now.s.trans s34, fun q hq => Same.free X.now.s (Tr.was q hq), fun H' s4 => ?_⟩
  have sm : Same H (cut (cells.map (·.1)) H') := fun b o e => by
    rw [cut_out (nc e)]
    exact s4 _ _ (s34 _ _ e)
  exact X.pure ((Mv.start X.now.s).pure (Ext.ofSame X.now.s sm) sm)
end
end Sb

namespace Sb
open PySem PySem.Spec PyProof.Rows L2 TL LamX NdefX
theorem dp_cut {K : PySem.W.Frag} {cs : List Addr} {H : Hp} {p : Addr} {z : Str} {n : Int} (h : Dp K H (.ref p) (.tuple [.str z, .int n])) (np : p ∉ cs) : Dp K (cut cs H) (.ref p) (.tuple [.str z, .int n]) := by
  obtain ⟨r, xs, e, h1, h2⟩ := Dp.tup_inv h
  cases e
  obtain ⟨v0, r1, rfl, d0, h3⟩ := DpAll.cons_inv h2
  obtain ⟨v1, r2, rfl, d1, h4⟩ := DpAll.cons_inv h3
  obtain rfl := DpAll.nil_inv h4
  cases Dp.str_inv d0
  cases Dp.int_inv d1
  refine .tup ?_ (.cons (.str _) (.cons (.int _) .nil))
  unfold SqT L2.Rd at h1 ⊢
  rw [cut_out np]
  exact h1
theorem cut_take {ys : List V} {c : Nat} (h : c ≤ ys.length) : cutV ys none (some (c : Int)) = ys.take c := by
  unfold cutV
  rw [HT.sIx_nat, HT.sIx_none, Nat.min_eq_left h, List.drop_zero, Nat.sub_zero]
theorem cut_drop {ys : List V} {c : Nat} (h : c ≤ ys.length) : cutV ys (some (c : Int)) none = ys.drop c := by
  unfold cutV
  rw [HT.sIx_nat, HT.sIx_none, Nat.min_eq_left h]
  exact List.take_of_length_le (by rw [List.length_drop]; omega)
theorem odd6 {K : PySem.W.Frag} {G : Hp} {t : Addr} {i : Nat} {v : V} (ht : G t = some (.tup [.int 1])) (h : ([.non, .bl true, .str "a", .int 256, .int (0 - 1), .ref t] : List V)[i]? = some v) (lo hi : Int) (l : 0 ≤ lo) (u : hi ≤ 255) : BadV K G lo hi v := by
  match i, h with
  | 0, h => cases h; exact .non
  | 1, h => cases h; exact .bl _
  | 2, h => cases h; exact .str _
  | 3, h => cases h; exact .int _ (by omega)
  | 4, h => cases h; exact .int _ (by omega)
  | 5, h => cases h; exact .tup _ _ (SqT.of ht)
  | i + 6, h => simp at h
theorem flat_len : ∀ ss : List Step, (ss.flatMap stepB).length ≤ 2 * ss.length
  | [] => by simp
  | s :: r => by
    have := flat_len r
    have := stepB_len s
    rw [List.flatMap_cons, List.length_append, List.length_cons]
    omega
theorem codeB_len {x : Pl} (hx : x.Ok) : 1 ≤ (codeB x).length ∧ (codeB x).length ≤ 200 ∧ (codeB x).length = (bodyB x).length + 1 := by
  have c12 := hx.c12
  have p := hx.p.le
  have q := hx.q.le
  have f1 := flat_len x.p
  have f2 := flat_len x.q
  have e1 : (bodyB x).length = 2 + x.shelf.length + (2 + (x.p.flatMap stepB).length) + (2 + (x.q.flatMap stepB).length) := by
    unfold bodyB robB
    simp only [List.length_append, List.length_cons]
    omega
  have e2 : (codeB x).length = (bodyB x).length + 1 := by
    unfold codeB
    rw [List.length_append, List.length_singleton]
  exact ⟨by omega, by omega, e2⟩
theorem lay_code (n : Int) : SeqAt.shaped (.tuple [.str "code", .int n]) = true ∧ PyData.canLay0 (.tuple [.str "code", .int n]) = true := by
  have h : PyData.strOk "code" = true := by decide +kernel
  have c : PyData.canLayAll0 [.str "code", .int n] = true := by
    show (PyData.strOk "code" && (true && true)) = true
    rw [h]; rfl
  refine ⟨?_, c⟩
  show (PyData.canLayAll0 _ && decide (PyData.depthAll [.str "code", .int n] + 1 ≤ 64)) = true
  rw [c]
  rfl
end Sb

namespace Sb
open PySem PySem.Spec PyProof.Rows L2 TL LamX NdefX
/-! ### law k15: what its walk takes up -/
theorem cut_m1 {ys : List V} {v : V} : cutV (ys ++ [v]) none (some (-1)) = ys := by
  unfold cutV
  rw [HT.sIx_none]
  have : HT.sIx (ys ++ [v]).length (ys ++ [v]).length (some (-1)) = ys.length := by
    show (if (-1 : Int) < 0 then ((-1 : Int) + ((ys ++ [v]).length : Int)).toNat else min (-1 : Int).toNat (ys ++ [v]).length) = _
    rw [if_pos (by decide), List.length_append, List.length_singleton]
    omega
  rw [this, List.drop_zero, Nat.sub_zero, List.take_left]
theorem at_m1 {ys : List V} {v : V} : atI (ys ++ [v]) (-1) = some v := by
  have e : ixN (ys ++ [v]).length (-1) = some ys.length := by
    unfold ixN
    rw [if_neg (by decide), List.length_append, List.length_singleton, if_pos (by omega)]
    congr 1
    omega
  unfold atI
  rw [e]
  show (ys ++ [v])[ys.length]? = some v
  rw [List.getElem?_append_right (Nat.le_refl _), Nat.sub_self]
  rfl
theorem nv_code (x : Pl) : nV (codeB x) = nV (bodyB x) ++ [V.int ((bodyB x).sum % 256 : Nat)] := by
  unfold codeB nV
  rw [List.map_append]
  rfl
theorem no5 {K : PySem.W.Frag} {G : Hp} {t : Addr} {i : Nat} {v : V} (ht : G t = some (.tup [.int 83, .int 3])) (h : ([.non, .int 5, .ref t, .str "a", .bl true] : List V)[i]? = some v) : ∀ H', Same G H' → ∃ tz, TyX K H' v tz ∧ PySem.W.kitOne K tz (.type "list") = some false := by
  intro H' s
  match i, h with
  | 0, h => cases h; exact ⟨_, .base .non, kf (by decide +kernel)⟩
  | 1, h => cases h; exact ⟨_, .base (.int _), kf (by decide +kernel)⟩
  | 2, h => cases h; exact ⟨_, .base (.tup (s _ _ ht)), kf (by decide +kernel)⟩
  | 3, h => cases h; exact ⟨_, .base (.str _), kf (by decide +kernel)⟩
  | 4, h => cases h; exact ⟨_, .base (.bl _), kf (by decide +kernel)⟩
  | i + 5, h => simp at h
/-- the cases as they lie -/
structure Cs (G : Hp) (vs : List V) (qs : List (List Nat × Nat)) : Prop where
  len : vs.length = qs.length
  all : ∀ (i : Nat) (v : V), vs[i]? = some v → ∃ (t l : Addr) (q : List Nat × Nat), v = .ref t ∧ qs[i]? = some q ∧ G t = some (.tup [.ref l, .int q.2]) ∧ G l = some (.lst (nV q.1))
theorem Cs.nil {G : Hp} : Cs G [] [] := ⟨rfl, fun i v h => by cases h⟩
theorem Cs.mono {G G' : Hp} {vs : List V} {qs : List (List Nat × Nat)} (s : Same G G') (h : Cs G vs qs) : Cs G' vs qs := ⟨h.len, fun i v e => by
  obtain ⟨t, l, q, e1, e2, e3, e4⟩ := h.all i v e
  exact ⟨t, l, q, e1, e2, s _ _ e3, s _ _ e4⟩⟩
theorem WB.caseN {a : Ad} {d l t : Addr} {G H : Hp} {vs xs : List V} {i : Int} {qs : List (List Nat × Nat)} (bs : List Nat) (p : Nat) (X : WB a d G H) (D : Cs G vs qs) (ex : xs = nV bs) (ei : i = (p : Int)) (hl : H l = none) (ht : upd H l (.lst xs) t = none) : ∃ G', WB a d G' (upd (upd H l (.lst xs)) t (.tup [.ref l, .int i])) ∧ Same G G' ∧ Cs G' (vs ++ [.ref t]) (qs ++ [(bs, p)]) := by
  subst ex ei
  obtain ⟨G1, X1, s1, e1⟩ := X.accR hl (.lst (nV bs))
  obtain ⟨G2, X2, s2, e2⟩ := X1.accR ht (.tup [.ref l, .int p])
  refine ⟨G2, X2, s1.trans s2, by rw [List.length_append, List.length_append, D.len]; rfl, fun i v h => ?_⟩
  rcases Nat.lt_trichotomy i vs.length with c | c | c
  · rw [List.getElem?_append_left c] at h
    obtain ⟨t', l', q, a1, a2, a3, a4⟩ := D.all i v h
    exact ⟨t', l', q, a1, by rw [List.getElem?_append_left (by rw [← D.len]; exact c)]; exact a2, s2 _ _ (s1 _ _ a3), s2 _ _ (s1 _ _ a4)⟩
  · rw [List.getElem?_append_right (by omega), show i - vs.length = 0 by omega] at h
    cases h
    exact ⟨t, l, (bs, p), rfl, by rw [List.getElem?_append_right (by rw [← D.len]; omega), ← D.len, show i - vs.length = 0 by omega]; rfl, e2, s2 _ _ e1⟩
  · rw [List.getElem?_eq_none (by rw [List.length_append, List.length_singleton]; omega)] at h
    cases h
section
variable {P : Program} {w : World} {K : PySem.W.Frag} {mg : Str → Option Value} {base : Heap} {a : Ad}
/-- the last lambda: it draws nine bytes and fails -/
theorem lam15_6 (T : Txt K mg a) {f c' : Addr} {q : Str} {cl : List (Str × Addr)} {cells : List (Addr × Obj)} {d lb : Addr} {H4 G : Hp} {qq : List Nat × Nat}
    (hL : LamAt f c' q lamP15_6 lamB15_6 lamSc15_6 cl [] H4) (hF : ∀ p ∈ cells, H4 p.1 = some (Fz p.2)) (C : CapT cl ["_law_bad", "_law_d"] [some (.ref lb), some (.ref d)] cells)
    (X : WB a d G (cut (cells.map (·.1)) H4)) (hb : G lb = some (.lst (nV qq.1))) (hq : qq ∈ casesL) :
    ∃ (D : Hp → Prop) (R : Hp → XK → VK → Prop), LamE P w K mg base 14 f c' q D R ∧ D H4 ∧ ∀ (Q Q' : VK), (∀ (G' H3 : Hp) (tp : Addr), WB a d G' (cut (cells.map (·.1)) H3) → Same G G' → Dp K (cut (cells.map (·.1)) H3) (.ref tp) (.tuple [.str "code", .int (qq.2 : Nat)]) → Q (.ref tp) H3) → R H4 (ErrOut K a fun _ _ => Q) Q' := by
  refine ⟨LamC f c' q lamP15_6 lamB15_6 lamSc15_6 cl [] cells, fun H4 E4 Q => te15 a K (fun cls d H1 => (∀ b ∈ cells.map (·.1), H1 b = none) → E4 cls d (rejoin (cells.map (·.1)) H4 H1)) (startF ["_law_bad", "_law_d", "_law_k"] [] [some (.ref lb), some (.ref d)]) (cut (cells.map (·.1)) H4) (fun v H' => Q v (rejoin (cells.map (·.1)) H4 H')),
    lamE_of (N := ["_law_bad", "_law_d", "_law_k"]) (ps := []) (fr := ["_law_bad", "_law_d"]) (nscope_by (by decide +kernel)) bindZ C (fun A outer s H E hr => ⟨te15 a K, body15 T A outer s H E hr, fun H4 E4 Q e1 e2 r => ?_⟩), ⟨hL, hF⟩, fun Q Q' k => ?_⟩
  · subst e1 e2
    exact r
  have len9 : qq.1.length ≤ 20 := by
    have : ∀ z ∈ casesL, z.1.length ≤ 20 := by decide +kernel
    exact this _ hq
  refine ⟨_, rfl, _, rfl, by decide, by decide, fun R hR => ?_⟩
  have rn := X.off hR
  have gR := Same.free X.now.s hR
  have XR := X.pure ((Mv.start X.now.s).lay hR (.lst []))
  refine lc_range (lo := 0) (n := (9 : Int).toNat) (fun j H' => ∃ es : List Int, WB a d G H' ∧ H' R = some (.lst (es.map V.int)) ∧ es.length = j) ⟨[], XR, upd_same, rfl⟩ ?_ ?_
  · rintro j H' hj ⟨es, X, hRl, hjl⟩
    refine ⟨rfl, _, rfl, draw_go X.now.at (by decide) (by decide) fun H9 i9 A9 K9 hi9 => ?_⟩
    replace X := X.draw A9
    have hR9 : H9 R = some (.lst (es.map V.int)) := by rw [K9 R rn]; exact hRl
    refine ⟨_, hR9, smaller 9 (by rw [List.length_map]; have : (9 : Int).toNat = 9 := rfl; omega) (by decide), es ++ [(i9 : Int)], X.put hR9 gR rn ord_lst, ?_, by rw [List.length_append, hjl]; rfl⟩
    rw [upd_same, List.map_append]
    rfl
  rintro H10 ⟨es, X, hRl, hel⟩
  have b1 : (nV qq.1).length + (es.map V.int).length ≤ sizeLine := Nat.le_trans (m := 300) (by have e1 : (nV qq.1).length = qq.1.length := List.length_map ..; have e2 : (es.map V.int).length = es.length := List.length_map ..; have : (9 : Int).toNat = 9 := rfl; omega) (by decide)
  refine ⟨lb, R, _, _, rfl, rfl, X.now.s _ _ hb, hRl, b1, fun le hle => ?_⟩
  obtain ⟨G2, X, s2, heG⟩ := X.accR hle (.lst (nV qq.1 ++ es.map V.int))
  refine ⟨.inr ⟨le, G2, _, qq.2, rfl, X.now.s, SqL.of heG, cases_bad hq _, fun H1 dd s1 hdd hn => ?_⟩⟩
  have out : ∀ b, b ∉ cells.map (·.1) → rejoin (cells.map (·.1)) H4 H1 b = H1 b := fun b hb => if_neg hb
  have nin : ∀ {b : Addr} {o : HO}, H1 b = some o → b ∉ cells.map (·.1) := fun {b o} e hb => by
    rw [hn b hb] at e; cases e
  refine ⟨a.X_InvalidCode, 11, _, .int (qq.2 : Nat), rfl, .inr (.inl ⟨dd, _, _, rfl, (out _ (nin hdd)).trans hdd, by kernel_rfl, by decide, rfl⟩), errK_InvalidCode T, fun H3 tp s3 hp3 dp => ?_⟩
  have np : tp ∉ cells.map (·.1) := fun z => by
    have : rejoin (cells.map (·.1)) H4 H1 tp = H4 tp := if_pos z
    rw [this] at hp3
    obtain ⟨r, hr, rfl⟩ := List.mem_map.mp z
    rw [hF r hr] at hp3
    cases hp3
  have sx : Same (upd H10 le (.lst (nV qq.1 ++ es.map V.int))) (cut (cells.map (·.1)) H3) := fun b o e => by
    have e1 := s1 _ _ e
    rw [cut_out (nin e1)]
    exact s3 _ _ ((out _ (nin e1)).trans e1)
  exact k G2 H3 tp (X.pure ((Mv.start X.now.s).pure (Ext.ofSame X.now.s sx) sx)) s2 (dp_cut dp np)
end
def good15 : Pl := ⟨[0, 1, 3], 0, 2, [⟨4, none⟩, ⟨4, none⟩], [⟨7, some 2⟩, ⟨5, some 0⟩, ⟨3, none⟩]⟩
theorem good15_ok : good15.Ok := ⟨by decide, by decide, by decide, by decide, by decide, by decide, ⟨by decide, by decide, stepsB_ok (c := 2) (by decide)⟩, ⟨by decide, by decide, stepsB_ok (c := 3) (by decide)⟩⟩
theorem good15_text : textS good15 = Str.ofString "shelf 0 1 3;\nrobot 0 {\n  wait;\n  wait;\n}\n" ++ Str.ofString "robot 2 {\n  sa: held sc;\n  goto sa;\n  sc: put;\n}" := by decide +kernel
theorem good15_c : codeB good15 = [83, 3, 0, 1, 3, 0, 2, 4, 4, 2, 3, 7, 2, 5, 0, 3, 122] := by decide +kernel
theorem good15_sum : ((bodyB good15).map fun n : Nat => (n : Int)).sum % 256 = 122 := by decide +kernel
theorem good15_code : (((([V.int 83, V.int 3, V.int 0, V.int 1, V.int 3] : List V) ++ [V.int 0, V.int 2]) ++ [V.int 4, V.int 4]) ++ [V.int 2, V.int 3, V.int 7, V.int 2, V.int 5, V.int 0, V.int 3]) ++ [V.int ((fun n : Int => n % 256) ((bodyB good15).map fun n : Nat => (n : Int)).sum)] = nV (codeB good15) := by
  rw [good15_c]
  dsimp only
  rw [good15_sum]
  rfl
theorem good15_body : bodyB good15 = [83, 3, 0, 1, 3, 0, 2, 4, 4, 2, 3, 7, 2, 5, 0, 3] := by decide +kernel
end Sb

namespace Sb
open PySem PySem.Spec PyProof.Rows L2 TL LamX NdefX
/-! ### law k15 -/
section
variable {X : Cx} {a : Ad} {params : Arguments} {body : Expr} {scope : Scope} {pos : Pos}
theorem pe_lam0L (TB : Tbl X.mg X.base a) (fre : ∀ y ∈ scope.names, y.2 = .free → X.env.scope.names.lookup y.1 = some .cell ∨ X.env.scope.names.lookup y.1 = some .free) (hq : X.env.qual ++ "<lambda>" = Str.ofString "law" ++ ".<locals>." ++ "<lambda>") (hc : X.env.code = .ref a.cc_law) (hdef : defaultsOf params X.env = ([], []) := by rfl) :
    PE X (.Lambda params body scope pos) (tLamW (Ts a) a.tb_law (X.env.qual ++ "<lambda>") params body scope (cloFrom X.env.cells scope.names []) []) :=
  pe_lam0 TB.t_law hc (by rw [hq]; exact List.mem_cons_self) (fun p hp e => by
    simp only [Ts, List.mem_cons, List.not_mem_nil, or_false] at hp
    subst hp
    exact hq.symm) hdef fre
theorem pe_lam1L {n : Int} {j : Nat} {dp : Pos} (TB : Tbl X.mg X.base a) (fre : ∀ y ∈ scope.names, y.2 = .free → X.env.scope.names.lookup y.1 = some .cell ∨ X.env.scope.names.lookup y.1 = some .free) (hq : X.env.qual ++ "<lambda>" = Str.ofString "law" ++ ".<locals>." ++ "<lambda>") (hc : X.env.code = .ref a.cc_law) (hdef : defaultsOf params X.env = ([eval (.Constant (.int n) j dp) X.env], []) := by rfl) (hkw : params.kwonlyargs = [] := by rfl) :
    PE X (.Lambda params body scope pos) (tLamW (Ts a) a.tb_law (X.env.qual ++ "<lambda>") params body scope (cloFrom X.env.cells scope.names []) [.int n]) :=
  pe_lam1 (kwo := []) TB.t_law hc (by rw [hq]; exact List.mem_cons_self) (fun p hp e => by
    simp only [Ts, List.mem_cons, List.not_mem_nil, or_false] at hp
    subst hp
    exact hq.symm) hdef hkw fre
end
theorem fre15_1 : ∀ y ∈ lamSc15_1.names, y.2 = .free → (defScope s_law).names.lookup y.1 = some .cell ∨ (defScope s_law).names.lookup y.1 = some .free := by decide +kernel
theorem fre15_2 : ∀ y ∈ lamSc15_2.names, y.2 = .free → (defScope s_law).names.lookup y.1 = some .cell ∨ (defScope s_law).names.lookup y.1 = some .free := by decide +kernel
theorem fre15_3 : ∀ y ∈ lamSc15_3.names, y.2 = .free → (defScope s_law).names.lookup y.1 = some .cell ∨ (defScope s_law).names.lookup y.1 = some .free := by decide +kernel
theorem fre15_4 : ∀ y ∈ lamSc15_4.names, y.2 = .free → (defScope s_law).names.lookup y.1 = some .cell ∨ (defScope s_law).names.lookup y.1 = some .free := by decide +kernel
theorem fre15_5 : ∀ y ∈ lamSc15_5.names, y.2 = .free → (defScope s_law).names.lookup y.1 = some .cell ∨ (defScope s_law).names.lookup y.1 = some .free := by decide +kernel
theorem fre15_6 : ∀ y ∈ lamSc15_6.names, y.2 = .free → (defScope s_law).names.lookup y.1 = some .cell ∨ (defScope s_law).names.lookup y.1 = some .free := by decide +kernel
def TlE15_1 : List Capt := [(lamSc15_1, ["_law_at", "_law_code"], [3, 2])]
theorem hTsE15_1 : ∀ q ∈ TlE15_1, (∀ y ∈ q.1.names, y.2 = .free → (defScope s_law).names.lookup y.1 = some .cell ∨ (defScope s_law).names.lookup y.1 = some .free) ∧ (∀ y ∈ q.2.1, (y, NameKind.free) ∈ q.1.names) ∧ q.2.2.map (fun j => (["_law_script", "_law_d", "_law_code", "_law_at", "_law_extra", "_law_k", "_law_odd", "_law_changed", "_law_wrong", "_law_none", "_law_head", "_law_more", "_law_last", "_law_cases", "_law_bad", "_law_place", "_law_good", "_law_text_here"] : List Str)[j]?) = q.2.1.map some := by decide +kernel
def TlE15_2 : List Capt := [(lamSc15_2, ["_law_extra"], [4])]
theorem hTsE15_2 : ∀ q ∈ TlE15_2, (∀ y ∈ q.1.names, y.2 = .free → (defScope s_law).names.lookup y.1 = some .cell ∨ (defScope s_law).names.lookup y.1 = some .free) ∧ (∀ y ∈ q.2.1, (y, NameKind.free) ∈ q.1.names) ∧ q.2.2.map (fun j => (["_law_script", "_law_d", "_law_code", "_law_at", "_law_extra", "_law_k", "_law_odd", "_law_changed", "_law_wrong", "_law_none", "_law_head", "_law_more", "_law_last", "_law_cases", "_law_bad", "_law_place", "_law_good", "_law_text_here"] : List Str)[j]?) = q.2.1.map some := by decide +kernel
def TlE15_3 : List Capt := [(lamSc15_3, ["_law_changed"], [7])]
theorem hTsE15_3 : ∀ q ∈ TlE15_3, (∀ y ∈ q.1.names, y.2 = .free → (defScope s_law).names.lookup y.1 = some .cell ∨ (defScope s_law).names.lookup y.1 = some .free) ∧ (∀ y ∈ q.2.1, (y, NameKind.free) ∈ q.1.names) ∧ q.2.2.map (fun j => (["_law_script", "_law_d", "_law_code", "_law_at", "_law_extra", "_law_k", "_law_odd", "_law_changed", "_law_wrong", "_law_none", "_law_head", "_law_more", "_law_last", "_law_cases", "_law_bad", "_law_place", "_law_good", "_law_text_here"] : List Str)[j]?) = q.2.1.map some := by decide +kernel
def TlE15_4 : List Capt := [(lamSc15_4, ["_law_wrong"], [8])]
theorem hTsE15_4 : ∀ q ∈ TlE15_4, (∀ y ∈ q.1.names, y.2 = .free → (defScope s_law).names.lookup y.1 = some .cell ∨ (defScope s_law).names.lookup y.1 = some .free) ∧ (∀ y ∈ q.2.1, (y, NameKind.free) ∈ q.1.names) ∧ q.2.2.map (fun j => (["_law_script", "_law_d", "_law_code", "_law_at", "_law_extra", "_law_k", "_law_odd", "_law_changed", "_law_wrong", "_law_none", "_law_head", "_law_more", "_law_last", "_law_cases", "_law_bad", "_law_place", "_law_good", "_law_text_here"] : List Str)[j]?) = q.2.1.map some := by decide +kernel
def TlE15_5 : List Capt := [(lamSc15_5, ["_law_none"], [9])]
theorem hTsE15_5 : ∀ q ∈ TlE15_5, (∀ y ∈ q.1.names, y.2 = .free → (defScope s_law).names.lookup y.1 = some .cell ∨ (defScope s_law).names.lookup y.1 = some .free) ∧ (∀ y ∈ q.2.1, (y, NameKind.free) ∈ q.1.names) ∧ q.2.2.map (fun j => (["_law_script", "_law_d", "_law_code", "_law_at", "_law_extra", "_law_k", "_law_odd", "_law_changed", "_law_wrong", "_law_none", "_law_head", "_law_more", "_law_last", "_law_cases", "_law_bad", "_law_place", "_law_good", "_law_text_here"] : List Str)[j]?) = q.2.1.map some := by decide +kernel
def TlE15_6 : List Capt := [(lamSc15_6, ["_law_bad", "_law_d"], [14, 1])]
theorem hTsE15_6 : ∀ q ∈ TlE15_6, (∀ y ∈ q.1.names, y.2 = .free → (defScope s_law).names.lookup y.1 = some .cell ∨ (defScope s_law).names.lookup y.1 = some .free) ∧ (∀ y ∈ q.2.1, (y, NameKind.free) ∈ q.1.names) ∧ q.2.2.map (fun j => (["_law_script", "_law_d", "_law_code", "_law_at", "_law_extra", "_law_k", "_law_odd", "_law_changed", "_law_wrong", "_law_none", "_law_head", "_law_more", "_law_last", "_law_cases", "_law_bad", "_law_place", "_law_good", "_law_text_here"] : List Str)[j]?) = q.2.1.map some := by decide +kernel
theorem start18 {v : V} : L2.start ["_law_script", "_law_d", "_law_code", "_law_at", "_law_extra", "_law_k", "_law_odd", "_law_changed", "_law_wrong", "_law_none", "_law_head", "_law_more", "_law_last", "_law_cases", "_law_bad", "_law_place", "_law_good", "_law_text_here"] [v] = [some v, none, none, none, none, none, none, none, none, none, none, none, none, none, none, none, none, none] := rfl
def spLaw (a : Ad) (K : PySem.W.Frag) : Sp := fun vs H Q _ => ∃ (sc : Addr) (ns : List Int), vs = [.ref sc] ∧ SqL K H sc (ns.map V.int) ∧ ns.length ≤ 63 ∧ Tabs (Ts a) H ∧ ∀ H', Q (.bl true) H'
section
variable {P : Program} {w : World} {K : PySem.W.Frag} {mg : Str → Option Value} {base : Heap} {a : Ad}
theorem ok_law (T : Txt K mg a) (TB : Tbl mg base a) : FnOk P w K mg base CX0 20 a.f_law a.d_law ["_law_script"] (spLaw a K) := by
  refine fun_okC T.F_law T.ce_law sc_law (fun vs H Q E h => ?_) (fun A outer s H vs Q E hr h => ?_)
  · obtain ⟨sc, ns, rfl, _⟩ := h
    rfl
  · obtain ⟨sc, ns, rfl, hsc, hns, hTab, k⟩ := h
    refine ⟨_, (pss_cons (ps_set (i := 1) sc_law.nd rfl (Or.inr rfl) (pe_call (ok_l_random T) (hr.mono (by decide)) rfl T.m_l_random T.F_l_random.kp (b_l_random T) .nil pass0 (pa_cons (pv 0) (pa_cons pe_int pa_nil))))
      (pss_cons (ps_set (i := 2) sc_law.nd rfl (Or.inr rfl) (pe_call (ok_encode T) (hr.mono (by decide)) rfl T.m_encode T.F_encode.kp (b_encode T) .nil pass0 (pa_cons (pe_call (ok_l_text T) (hr.mono (by decide)) rfl T.m_l_text T.F_l_text.kp (b_l_text T) .nil pass0 (pa_cons (pe_call (ok_l_plan T) (hr.mono (by decide)) rfl T.m_l_plan T.F_l_plan.kp (b_l_plan T) .nil pass0 (pa_cons (pv 1) (pa_cons pe_int pa_nil))) pa_nil)) pa_nil)))
      (pss_cons (ps_set (i := 3) sc_law.nd rfl (Or.inr rfl) (pe_call (ok_l_below T) (hr.mono (by decide)) rfl T.m_l_below T.F_l_below.kp (b_l_below T) .nil pass0 (pa_cons (pv 1) (pa_cons (pe_callB call_len_seq (by rfl) T.z_len (by decide +kernel) (pa_cons (pv 2) pa_nil)) pa_nil))))
      (pss_cons (ps_if (pt_cmpR (op_neD hr.units) (pe_callT (Ts := TlE15_1) (ok_l_error_ofL (P := P) (w := w) (base := base) T 14) (hr.mono (by decide)) rfl T.m_l_error_of T.F_l_error_of.kp (b_l_error_of T) (pa_cons (pe_lam0L TB fre15_1 rfl rfl) pa_nil) (fun _ => rfl) hTsE15_1) (pe_tup (pa_cons pe_str (pa_cons (pv 3) pa_nil))) (nomark _)) (pss_one (ps_ret pe_bl)) pss_nil)
      (pss_cons (ps_set (i := 4) sc_law.nd rfl (Or.inr rfl) (pe_op op_cat (pv 2) (pe_lc (own := [("_law_k", 5)]) (g := gName 5) (tt := tYes) rfl sc_law.nd (pi_range1 (by rfl) T.z_range (pa_cons (pe_op op_add pe_int (pe_call (ok_l_below T) (hr.mono (by decide)) rfl T.m_l_below T.F_l_below.kp (b_l_below T) .nil pass0 (pa_cons (pv 1) (pa_cons pe_int pa_nil)))) pa_nil)) (blkOk_by (own := [("_law_k", 5)]) (N := ["_law_script", "_law_d", "_law_code", "_law_at", "_law_extra", "_law_k", "_law_odd", "_law_changed", "_law_wrong", "_law_none", "_law_head", "_law_more", "_law_last", "_law_cases", "_law_bad", "_law_place", "_law_good", "_law_text_here"]) (sc := (defScope s_law)) (by decide +kernel)) (fun _ _ _ _ _ => (pg_name (i := 5) sc_law.nd rfl (Or.inl rfl))) (fun _ _ _ _ _ => pts_nil) (fun _ _ _ _ _ => by exact (pe_call (ok_l_below T) (hr.mono (by decide)) rfl T.m_l_below T.F_l_below.kp (b_l_below T) .nil pass0 (pa_cons (pv 1) (pa_cons pe_int pa_nil)))))))
      (pss_cons (ps_if (pt_cmpR (op_neD hr.units) (pe_callT (Ts := TlE15_2) (ok_l_error_ofL (P := P) (w := w) (base := base) T 14) (hr.mono (by decide)) rfl T.m_l_error_of T.F_l_error_of.kp (b_l_error_of T) (pa_cons (pe_lam0L TB fre15_2 rfl rfl) pa_nil) (fun _ => rfl) hTsE15_2) (pe_tup (pa_cons pe_str (pa_cons (pe_callB call_len_seq (by rfl) T.z_len (by decide +kernel) (pa_cons (pv 2) pa_nil)) pa_nil))) (nomark _)) (pss_one (ps_ret pe_bl)) pss_nil)
      (pss_cons (ps_set (i := 6) sc_law.nd rfl (Or.inl rfl) (pe_ix ix_list (pe_lst (pa_cons pe_non (pa_cons pe_bl (pa_cons pe_str (pa_cons pe_int (pa_cons (pe_op op_sub pe_int pe_int) (pa_cons (pe_tup (pa_cons pe_int pa_nil)) pa_nil))))))) (pe_call (ok_l_below T) (hr.mono (by decide)) rfl T.m_l_below T.F_l_below.kp (b_l_below T) .nil pass0 (pa_cons (pv 1) (pa_cons pe_int pa_nil))) (fun _ _ => rfl)))
      (pss_cons (ps_set (i := 7) sc_law.nd rfl (Or.inr rfl) (pe_op op_cat (pe_op op_cat (pe_slice sl_list (pv 2) po_none (po_some (pv 3))) (pe_lst (pa_cons (pv 6) pa_nil))) (pe_slice sl_list (pv 2) (po_some (pe_op op_add (pv 3) pe_int)) po_none)))
      (pss_cons (ps_if (pt_cmpR (op_neD hr.units) (pe_callT (Ts := TlE15_3) (ok_l_error_ofL (P := P) (w := w) (base := base) T 14) (hr.mono (by decide)) rfl T.m_l_error_of T.F_l_error_of.kp (b_l_error_of T) (pa_cons (pe_lam0L TB fre15_3 rfl rfl) pa_nil) (fun _ => rfl) hTsE15_3) (pe_tup (pa_cons pe_str (pa_cons (pv 3) pa_nil))) (nomark _)) (pss_one (ps_ret pe_bl)) pss_nil)
      (pss_cons (ps_set (i := 8) sc_law.nd rfl (Or.inr rfl) (pe_op op_cat (pe_slice sl_list (pv 2) po_none (po_some (pe_un un_neg pe_int))) (pe_lst (pa_cons (pe_op op_mod (pe_op op_add (pe_op op_add (pe_ix ix_list (pv 2) (pe_un un_neg pe_int) (fun _ _ => rfl)) pe_int) (pe_call (ok_l_below T) (hr.mono (by decide)) rfl T.m_l_below T.F_l_below.kp (b_l_below T) .nil pass0 (pa_cons (pv 1) (pa_cons pe_int pa_nil)))) pe_int) pa_nil))))
      (pss_cons (ps_if (pt_cmpR (op_neD hr.units) (pe_callT (Ts := TlE15_4) (ok_l_error_ofL (P := P) (w := w) (base := base) T 14) (hr.mono (by decide)) rfl T.m_l_error_of T.F_l_error_of.kp (b_l_error_of T) (pa_cons (pe_lam0L TB fre15_4 rfl rfl) pa_nil) (fun _ => rfl) hTsE15_4) (pe_tup (pa_cons pe_str (pa_cons (pe_op op_sub (pe_callB call_len_seq (by rfl) T.z_len (by decide +kernel) (pa_cons (pv 2) pa_nil)) pe_int) pa_nil))) (nomark _)) (pss_one (ps_ret pe_bl)) pss_nil)
      (pss_cons (ps_set (i := 9) sc_law.nd rfl (Or.inr rfl) (pe_ix ix_list (pe_lst (pa_cons pe_non (pa_cons pe_int (pa_cons (pe_tup (pa_cons pe_int (pa_cons pe_int pa_nil))) (pa_cons pe_str (pa_cons pe_bl pa_nil)))))) (pe_call (ok_l_below T) (hr.mono (by decide)) rfl T.m_l_below T.F_l_below.kp (b_l_below T) .nil pass0 (pa_cons (pv 1) (pa_cons pe_int pa_nil))) (fun _ _ => rfl)))
      (pss_cons (ps_if (pt_cmpR (op_neD hr.units) (pe_callT (Ts := TlE15_5) (ok_l_error_ofL (P := P) (w := w) (base := base) T 14) (hr.mono (by decide)) rfl T.m_l_error_of T.F_l_error_of.kp (b_l_error_of T) (pa_cons (pe_lam0L TB fre15_5 rfl rfl) pa_nil) (fun _ => rfl) hTsE15_5) (pe_tup (pa_cons pe_str (pa_cons pe_int pa_nil))) (nomark _)) (pss_one (ps_ret pe_bl)) pss_nil)
      (pss_cons (ps_set (i := 10) sc_law.nd rfl (Or.inl rfl) (pe_lst (pa_cons pe_int (pa_cons pe_int (pa_cons pe_int (pa_cons pe_int (pa_cons pe_int pa_nil)))))))
      (pss_cons (ps_set (i := 11) sc_law.nd rfl (Or.inl rfl) (pe_op op_cat (pv 10) (pe_lst (pa_cons pe_int (pa_cons pe_int pa_nil)))))
      (pss_cons (ps_set (i := 12) sc_law.nd rfl (Or.inl rfl) (pe_op op_cat (pv 11) (pe_lst (pa_cons pe_int (pa_cons pe_int pa_nil)))))
      (pss_cons (ps_set (i := 13) sc_law.nd rfl (Or.inl rfl) (pe_lst (pa_cons (pe_tup (pa_cons (pe_lst (pa_cons pe_int pa_nil)) (pa_cons pe_int pa_nil))) (pa_cons (pe_tup (pa_cons (pe_lst (pa_cons pe_int (pa_cons pe_int pa_nil))) (pa_cons pe_int pa_nil))) (pa_cons (pe_tup (pa_cons (pe_lst (pa_cons pe_int (pa_cons pe_int pa_nil))) (pa_cons pe_int pa_nil))) (pa_cons (pe_tup (pa_cons (pe_lst (pa_cons pe_int (pa_cons pe_int (pa_cons pe_int pa_nil)))) (pa_cons pe_int pa_nil))) (pa_cons (pe_tup (pa_cons (pe_lst (pa_cons pe_int (pa_cons pe_int (pa_cons pe_int (pa_cons pe_int (pa_cons pe_int pa_nil)))))) (pa_cons pe_int pa_nil))) (pa_cons (pe_tup (pa_cons (pe_op op_cat (pv 10) (pe_lst (pa_cons pe_int pa_nil))) (pa_cons pe_int pa_nil))) pa_nil))))))))
      (pss_cons (ps_set (i := 13) sc_law.nd rfl (Or.inl rfl) (pe_op op_cat (pv 13) (pe_lst (pa_cons (pe_tup (pa_cons (pe_op op_cat (pv 10) (pe_lst (pa_cons pe_int (pa_cons pe_int pa_nil)))) (pa_cons pe_int pa_nil))) (pa_cons (pe_tup (pa_cons (pe_op op_cat (pv 10) (pe_lst (pa_cons pe_int (pa_cons pe_int pa_nil)))) (pa_cons pe_int pa_nil))) (pa_cons (pe_tup (pa_cons (pe_op op_cat (pv 11) (pe_lst (pa_cons pe_int pa_nil))) (pa_cons pe_int pa_nil))) (pa_cons (pe_tup (pa_cons (pe_op op_cat (pv 11) (pe_lst (pa_cons pe_int (pa_cons pe_int pa_nil)))) (pa_cons pe_int pa_nil))) pa_nil)))))))
      (pss_cons (ps_set (i := 13) sc_law.nd rfl (Or.inl rfl) (pe_op op_cat (pv 13) (pe_lst (pa_cons (pe_tup (pa_cons (pe_op op_cat (pv 11) (pe_lst (pa_cons pe_int (pa_cons pe_int (pa_cons pe_int pa_nil))))) (pa_cons pe_int pa_nil))) (pa_cons (pe_tup (pa_cons (pe_op op_cat (pv 12) (pe_lst (pa_cons pe_int pa_nil))) (pa_cons pe_int pa_nil))) (pa_cons (pe_tup (pa_cons (pe_op op_cat (pv 12) (pe_lst (pa_cons pe_int pa_nil))) (pa_cons pe_int pa_nil))) (pa_cons (pe_tup (pa_cons (pe_op op_cat (pv 12) (pe_lst (pa_cons pe_int (pa_cons pe_int pa_nil)))) (pa_cons pe_int pa_nil))) pa_nil)))))))
      (pss_cons (ps_set (i := 13) sc_law.nd rfl (Or.inl rfl) (pe_op op_cat (pv 13) (pe_lst (pa_cons (pe_tup (pa_cons (pe_op op_cat (pv 12) (pe_lst (pa_cons pe_int (pa_cons pe_int pa_nil)))) (pa_cons pe_int pa_nil))) (pa_cons (pe_tup (pa_cons (pe_op op_cat (pv 12) (pe_lst (pa_cons pe_int (pa_cons pe_int (pa_cons pe_int pa_nil))))) (pa_cons pe_int pa_nil))) (pa_cons (pe_tup (pa_cons (pe_op op_cat (pv 12) (pe_lst (pa_cons pe_int (pa_cons pe_int (pa_cons pe_int (pa_cons pe_int pa_nil)))))) (pa_cons pe_int pa_nil))) (pa_cons (pe_tup (pa_cons (pe_op op_cat (pv 11) (pe_lst (pa_cons pe_int (pa_cons pe_int pa_nil)))) (pa_cons pe_int pa_nil))) pa_nil)))))))
      (pss_cons (ps_asg (pe_ix ix_list (pv 13) (pe_call (ok_l_below T) (hr.mono (by decide)) rfl T.m_l_below T.F_l_below.kp (b_l_below T) .nil pass0 (pa_cons (pv 1) (pa_cons pe_int pa_nil))) (fun _ _ => rfl)) (pg_tup (by rfl) (pgs_cons (pg_name (i := 14) sc_law.nd rfl (Or.inr rfl)) (pgs_cons (pg_name (i := 15) sc_law.nd rfl (Or.inl rfl)) pgs_nil))))
      (pss_cons (ps_if (pt_cmpR (op_neD hr.units) (pe_callT (Ts := TlE15_6) (ok_l_error_ofL (P := P) (w := w) (base := base) T 14) (hr.mono (by decide)) rfl T.m_l_error_of T.F_l_error_of.kp (b_l_error_of T) (pa_cons (pe_lam0L TB fre15_6 rfl rfl) pa_nil) (fun _ => rfl) hTsE15_6) (pe_tup (pa_cons pe_str (pa_cons (pv 15) pa_nil))) (nomark _)) (pss_one (ps_ret pe_bl)) pss_nil)
      (pss_cons (ps_set (i := 16) sc_law.nd rfl (Or.inl rfl) (pe_op op_cat (pv 12) (pe_lst (pa_cons pe_int (pa_cons pe_int (pa_cons pe_int (pa_cons pe_int (pa_cons pe_int (pa_cons pe_int (pa_cons pe_int pa_nil))))))))))
      (pss_cons (ps_set (i := 17) sc_law.nd rfl (Or.inl rfl) pe_str)
      (pss_cons (ps_set (i := 17) sc_law.nd rfl (Or.inl rfl) (pe_op op_add_str (pv 17) pe_str))
      (pss_one (ps_ret (pe_cmpR op_eq (pe_call (ok_decode T) (hr.mono (by decide)) rfl T.m_decode T.F_decode.kp (b_decode T) .nil pass0 (pa_cons (pe_op op_cat (pv 16) (pe_lst (pa_cons (pe_op op_mod (pe_callB (cr_sum rfl) (by rfl) T.z_sum (by decide +kernel) (pa_cons (pv 16) pa_nil)) pe_int) pa_nil))) pa_nil)) (pv 17) (nomark _))))))))))))))))))))))))))))), ?_⟩
    --WALK
    refine ⟨_, rfl, sc, ns, 15, rfl, hsc, hns, by decide, fun H1 d ds s1 d0 hd hsrc => ?_⟩
    have N1 : Now d (fun _ => none) H1 := ⟨(fun _ _ e => nomatch e), rfl, ds, hd, hsrc⟩
    have X : WB a d (fun _ => none) H1 := ⟨N1, hTab.ext s1, fun _ _ => rfl⟩
    rw [start18]
    dsimp only [gName, List.set_cons_succ, List.set_cons_zero]
    refine ⟨_, rfl, draw_plan X.now.at (by decide) (by decide) fun G3 H3 v x B3 B3' hx hx8 hD => ?_⟩
    replace X := X.draw B3
    refine ⟨⟨G3, v, x, rfl, X.now.s, hD, hx, fun H4 s4 => ?_⟩⟩
    replace X := X.pure ((Mv.start X.now.s).pure (Ext.ofSame X.now.s s4) s4)
    refine ⟨⟨textS x, x, rfl, loads_text hx, hx, fun H5 lc s5 hlc hl5 => ?_⟩⟩
    have off := X.off hlc
    have gl := Same.free X.now.s hlc
    replace X := X.pure ((Mv.start X.now.s).pure (Ext.ofSame X.now.s s5) s5)
    obtain ⟨G5, X, sg5, hcG⟩ := X.frz hl5 gl off
    obtain ⟨cl1, cl2, cl3⟩ := codeB_len hx
    have lnV : (nV (codeB x)).length = (codeB x).length := List.length_map ..
    dsimp only [gName, List.set_cons_succ, List.set_cons_zero]
    refine ⟨_, rfl, _, rfl, lc, _, rfl, .inl (SqL.of hl5), draw_go X.now.at (by omega) (by omega) fun H6 at_ A6 K6 hat => ?_⟩
    replace X := X.draw A6
    have hat1 : at_ < (codeB x).length := by omega
    dsimp only [gName, List.set_cons_succ, List.set_cons_zero]
    --CUT
    refine ⟨X.t.tb, fun f1 c1 H21 k1 k2 T1 hf1 hL1 => ?_⟩
    obtain ⟨X, kt⟩ := X.lam k1 k2 T1
    intro cells H23 CT Tr
    obtain ⟨p1, p2, p3, p4⟩ := X.trk Tr
    obtain ⟨c', q, DD, R, L, hD', hR⟩ := lamS15_1 (P := P) (w := w) (mg := mg) (base := base) T (hL1.ext fun b o e _ => p1 b o e) Tr.at_ (CT _ List.mem_cons_self) p2 p3 (SqL.of hcG) (by omega) (fun G' => by
      have := dec_cut (K := K) (G := G') (tail := []) hx hat1 (.inl rfl)
      rw [List.append_nil] at this
      have e : (nV (codeB x)).take at_ = nV ((codeB x).take at_) := by unfold nV; rw [List.map_take]
      rw [e]
      exact this)
    refine ⟨⟨f1, c', q, DD, R, rfl, L, hD' _ (Same.refl _), hR _ _ _ (Same.refl _) fun C j dd H2 s2 hd hk => ⟨C, j, _, _, rfl, hd, hk, fun H3 tp s3 hp3 dp => ?_⟩⟩⟩
    have np : tp ∉ cells.map (·.1) := fun z => by
      obtain ⟨r, hr, rfl⟩ := List.mem_map.mp z
      rw [s2 _ _ (Tr.at_ r hr)] at hp3
      cases hp3
    have dp2 := dp_cut dp np
    replace X := p4 H3 (s2.trans s3)
    clear CT p1 p2 p3 p4 Tr L hD' hR
    refine ⟨_, rfl, (by show 2 ≤ sizeLine; decide), fun t ht => ?_⟩
    obtain ⟨G7, X, sg7, De⟩ := X.accT .nil (xs := [.str "code", .int (at_ : Nat)]) (es := [.str "code", .int (at_ : Nat)]) (.cons (.str _) (.cons (.int _) .nil)) ht
    obtain ⟨v0, r0, er, hte0, _⟩ := DpAll.cons_inv De
    cases er
    obtain ⟨sh1, ly1⟩ := lay_code (at_ : Nat)
    refine ⟨_, _, Dp.mono (same_new ht) _ _ dp2, Dp.mono X.now.s _ _ hte0, sh1, sh1, ?_⟩
    rw [SeqAt.eqv_refl _ ly1]
    refine ⟨_, rfl, ite_f rfl ?_⟩
    clear De hte0 dp2 dp
    --EXTRA
    replace hcG := sg7 _ _ hcG
    refine ⟨_, rfl, _, rfl, draw_go X.now.at (by decide) (by decide) fun H8 m8 A8 K8 hm8 => ?_⟩
    replace X := X.draw A8
    refine ⟨_, _, rfl, rfl, _, rfl, by omega, by omega, fun R hR => ?_⟩
    have rn := X.off hR
    have gR := Same.free X.now.s hR
    have XR := X.pure ((Mv.start X.now.s).lay hR (.lst []))
    refine lc_range (lo := 0) (n := (1 + (m8 : Int)).toNat) (fun j H' => ∃ es : List Int, WB a d G7 H' ∧ H' R = some (.lst (es.map V.int)) ∧ es.length = j) ⟨[], XR, upd_same, rfl⟩ ?_ ?_
    · rintro j H' hj ⟨es, X, hRl, hjl⟩
      refine ⟨rfl, _, rfl, draw_go X.now.at (by decide) (by decide) fun H9 i9 A9 K9 hi9 => ?_⟩
      replace X := X.draw A9
      have hR9 : H9 R = some (.lst (es.map V.int)) := by rw [K9 R rn]; exact hRl
      refine ⟨_, hR9, smaller 9 (by rw [List.length_map]; omega) (by decide), es ++ [(i9 : Int)], X.put hR9 gR rn ord_lst, ?_, by rw [List.length_append, hjl]; rfl⟩
      rw [upd_same, List.map_append]
      rfl
    rintro H10 ⟨es, X, hRl, hel⟩
    have b1 : (nV (codeB x)).length + (es.map V.int).length ≤ sizeLine := Nat.le_trans (m := 300) (by rw [List.length_map, List.length_map]; omega) (by decide)
    refine ⟨lc, R, _, _, rfl, rfl, X.now.s _ _ hcG, hRl, b1, fun le hle => ?_⟩
    obtain ⟨G11, X, sg11, heG⟩ := X.accR hle (.lst (nV (codeB x) ++ es.map V.int))
    replace hcG := sg11 _ _ hcG
    dsimp only [gName, List.set_cons_succ, List.set_cons_zero]
    have hdx : ∀ G', DecE K G' (nV (codeB x) ++ es.map V.int) (codeB x).length := fun G' => by
      have e : nV (codeB x) ++ es.map V.int = nV (bodyB x) ++ (V.int ((bodyB x).sum % 256 : Nat) :: es.map V.int) := by
        unfold codeB nV
        rw [List.map_append, List.append_assoc]
        rfl
      rw [e, cl3]
      exact dec_ext hx (.inr ⟨rfl, by rw [List.length_cons, List.length_map]; omega, rfl⟩)
    refine ⟨X.t.tb, fun f1 c1 H21 k1 k2 T1 hf1 hL1 => ?_⟩
    obtain ⟨X, kt⟩ := X.lam k1 k2 T1
    intro cells H23 CT Tr
    obtain ⟨p1, p2, p3, p4⟩ := X.trk Tr
    obtain ⟨c', q, DD, R', L, hD', hR'⟩ := lamS15_2 (P := P) (w := w) (mg := mg) (base := base) T (hL1.ext fun b o e _ => p1 b o e) Tr.at_ (CT _ List.mem_cons_self) p2 p3 (SqL.of heG) (hdx _)
    refine ⟨⟨f1, c', q, DD, R', rfl, L, hD' _ (Same.refl _), hR' _ _ _ (Same.refl _) fun C j dd H2 s2 hd hk => ⟨C, j, _, _, rfl, hd, hk, fun H3 tp s3 hp3 dp => ?_⟩⟩⟩
    have np : tp ∉ cells.map (·.1) := fun z => by
      obtain ⟨r, hr, rfl⟩ := List.mem_map.mp z
      rw [s2 _ _ (Tr.at_ r hr)] at hp3
      cases hp3
    have dp2 := dp_cut dp np
    replace X := p4 H3 (s2.trans s3)
    clear CT p1 p2 p3 p4 Tr L hD' hR'
    refine ⟨_, rfl, lc, _, rfl, .inl (SqL.of (X.now.s _ _ hcG)), (by show 2 ≤ sizeLine; decide), fun t ht => ?_⟩
    obtain ⟨G12, X, sg12, De⟩ := X.accT .nil (xs := [.str "code", .int ((nV (codeB x)).length : Nat)]) (es := [.str "code", .int ((nV (codeB x)).length : Nat)]) (.cons (.str _) (.cons (.int _) .nil)) ht
    obtain ⟨v0, r0, er, hte0, _⟩ := DpAll.cons_inv De
    cases er
    rw [lnV] at hte0
    obtain ⟨sh2, ly2⟩ := lay_code ((codeB x).length : Nat)
    refine ⟨_, _, Dp.mono (same_new ht) _ _ dp2, Dp.mono X.now.s _ _ hte0, sh2, sh2, ?_⟩
    rw [SeqAt.eqv_refl _ ly2]
    refine ⟨_, rfl, ite_f rfl ?_⟩
    replace hcG := sg12 _ _ hcG
    clear De hte0 dp2 dp
    --ODD
    refine ⟨_, _, rfl, rfl, (by show 1 ≤ sizeLine; decide), fun t1 ht1 => ?_⟩
    obtain ⟨G13, X, sg13, htG⟩ := X.accR ht1 (.tup [.int 1])
    replace hcG := sg13 _ _ hcG
    refine ⟨(by show 6 ≤ sizeLine; decide), fun ln hln => ?_⟩
    obtain ⟨G14, X, sg14, hlnG⟩ := X.accR hln (.lst [.non, .bl true, .str "a", .int 256, .int (0 - 1), .ref t1])
    replace hcG := sg14 _ _ hcG
    replace htG := sg14 _ _ htG
    refine ⟨_, rfl, draw_go X.now.at (by decide) (by decide) fun H15 i15 A15 K15 hi15 => ?_⟩
    replace X := X.draw A15
    obtain ⟨ov, hov⟩ : ∃ o, ([.non, .bl true, .str "a", .int 256, .int (0 - 1), .ref t1] : List V)[i15]? = some o := ⟨_, List.getElem?_eq_getElem (by show i15 < 6; omega)⟩
    refine ⟨ln, _, _, ov, rfl, rfl, SqL.of (X.now.s _ _ hlnG), atI_nat hov, ?_⟩
    dsimp only [gName, List.set_cons_succ, List.set_cons_zero]
    --CHANGED
    refine ⟨_, rfl, _, rfl, _, rfl, lc, _, rfl, SqL.of (X.now.s _ _ hcG), fun l1 hl1 => ?_⟩
    rw [cut_take (by omega)]
    obtain ⟨G16, X, sg16, h1G⟩ := X.accR hl1 (.lst ((nV (codeB x)).take at_))
    refine ⟨_, rfl, (by show 1 ≤ sizeLine; decide), fun l2 hl2 => ?_⟩
    obtain ⟨G17, X, sg17, h2G⟩ := X.accR hl2 (.lst [ov])
    have b2 : ((nV (codeB x)).take at_).length + [ov].length ≤ sizeLine := Nat.le_trans (m := 300) (by rw [List.length_take, List.length_singleton]; omega) (by decide)
    refine ⟨l1, l2, _, _, rfl, rfl, X.now.s _ _ (sg17 _ _ h1G), X.now.s _ _ h2G, b2, fun l3 hl3 => ?_⟩
    obtain ⟨G18, X, sg18, h3G⟩ := X.accR hl3 (.lst ((nV (codeB x)).take at_ ++ [ov]))
    replace hcG := sg18 _ _ (sg17 _ _ (sg16 _ _ hcG))
    replace htG := sg18 _ _ (sg17 _ _ (sg16 _ _ htG))
    refine ⟨_, rfl, _, rfl, _, _, rfl, rfl, _, rfl, lc, _, rfl, SqL.of (X.now.s _ _ hcG), fun l4 hl4 => ?_⟩
    rw [show ((at_ : Int) + 1) = ((at_ + 1 : Nat) : Int) from by omega, cut_drop (by omega)]
    obtain ⟨G19, X, sg19, h4G⟩ := X.accR hl4 (.lst ((nV (codeB x)).drop (at_ + 1)))
    have b3 : ((nV (codeB x)).take at_ ++ [ov]).length + ((nV (codeB x)).drop (at_ + 1)).length ≤ sizeLine := Nat.le_trans (m := 600) (by rw [List.length_append, List.length_take, List.length_drop, List.length_singleton]; omega) (by decide)
    refine ⟨l3, l4, _, _, rfl, rfl, X.now.s _ _ (sg19 _ _ h3G), X.now.s _ _ h4G, b3, fun l5 hl5 => ?_⟩
    obtain ⟨G20, X, sg20, h5G⟩ := X.accR hl5 (.lst (((nV (codeB x)).take at_ ++ [ov]) ++ (nV (codeB x)).drop (at_ + 1)))
    replace hcG := sg20 _ _ (sg19 _ _ hcG)
    replace htG := sg20 _ _ (sg19 _ _ htG)
    dsimp only [gName, List.set_cons_succ, List.set_cons_zero]
    have hdc : DecE K G20 (((nV (codeB x)).take at_ ++ [ov]) ++ (nV (codeB x)).drop (at_ + 1)) at_ := by
      have := dec_cut (K := K) (G := G20) (tail := ov :: (nV (codeB x)).drop (at_ + 1)) hx hat1 (.inr ⟨ov, _, rfl, odd6 htG hov⟩)
      have e : (nV (codeB x)).take at_ = nV ((codeB x).take at_) := by unfold nV; rw [List.map_take]
      rw [e, List.append_assoc]
      exact this
    refine ⟨X.t.tb, fun f1 c1 H21 k1 k2 T1 hf1 hL1 => ?_⟩
    obtain ⟨X, kt⟩ := X.lam k1 k2 T1
    intro cells H23 CT Tr
    obtain ⟨p1, p2, p3, p4⟩ := X.trk Tr
    obtain ⟨c', q, DD, R', L, hD', hR'⟩ := lamS15_3 (P := P) (w := w) (mg := mg) (base := base) T (hL1.ext fun b o e _ => p1 b o e) Tr.at_ (CT _ List.mem_cons_self) p2 p3 (SqL.of h5G) hdc
    refine ⟨⟨f1, c', q, DD, R', rfl, L, hD' _ (Same.refl _), hR' _ _ _ (Same.refl _) fun C j dd H2 s2 hd hk => ⟨C, j, _, _, rfl, hd, hk, fun H3 tp s3 hp3 dp => ?_⟩⟩⟩
    have np : tp ∉ cells.map (·.1) := fun z => by
      obtain ⟨r, hr, rfl⟩ := List.mem_map.mp z
      rw [s2 _ _ (Tr.at_ r hr)] at hp3
      cases hp3
    have dp2 := dp_cut dp np
    replace X := p4 H3 (s2.trans s3)
    clear CT p1 p2 p3 p4 Tr L hD' hR'
    refine ⟨_, rfl, (by show 2 ≤ sizeLine; decide), fun t ht => ?_⟩
    obtain ⟨G21, X, sgE, De⟩ := X.accT .nil (xs := [.str "code", .int (at_ : Nat)]) (es := [.str "code", .int (at_ : Nat)]) (.cons (.str _) (.cons (.int _) .nil)) ht
    obtain ⟨v0, r0, er, hte0, _⟩ := DpAll.cons_inv De
    cases er
    obtain ⟨sh2, ly2⟩ := lay_code (at_ : Nat)
    refine ⟨_, _, Dp.mono (same_new ht) _ _ dp2, Dp.mono X.now.s _ _ hte0, sh2, sh2, ?_⟩
    rw [SeqAt.eqv_refl _ ly2]
    refine ⟨_, rfl, ite_f rfl ?_⟩
    replace hcG := sgE _ _ hcG
    clear De hte0 dp2 dp
    --WRONG
    refine ⟨_, rfl, _, rfl, _, rfl, lc, _, rfl, SqL.of (X.now.s _ _ hcG), fun l1 hl1 => ?_⟩
    rw [nv_code, cut_m1]
    obtain ⟨G16, X, sg16, h1G⟩ := X.accR hl1 (.lst (nV (bodyB x)))
    replace hcG := sg16 _ _ hcG
    have hcG' := hcG
    rw [nv_code] at hcG'
    refine ⟨_, rfl, _, rfl, lc, _, _, _, rfl, rfl, SqL.of (X.now.s _ _ hcG'), at_m1, _, _, rfl, rfl, _, rfl, draw_go X.now.at (by decide) (by decide) fun H22 m22 A22 K22 hm22 => ?_⟩
    replace X := X.draw A22
    refine ⟨_, _, rfl, rfl, _, _, rfl, rfl, (by show (0 : Int) < 256; decide), ?_⟩
    obtain ⟨wv, hwv⟩ : ∃ wv : Int, wv = (((bodyB x).sum % 256 : Nat) + 1 + (m22 : Int)) % 256 := ⟨_, rfl⟩
    refine ⟨(by show 1 ≤ sizeLine; decide), fun l2 hl2 => ?_⟩
    dsimp only
    rw [← hwv]
    obtain ⟨G23, X, sg23, h2G⟩ := X.accR hl2 (.lst [.int wv])
    have b4 : (nV (bodyB x)).length + [V.int wv].length ≤ sizeLine := Nat.le_trans (m := 300) (by unfold nV; rw [List.length_map, List.length_singleton]; omega) (by decide)
    refine ⟨l1, l2, _, _, rfl, rfl, X.now.s _ _ (sg23 _ _ h1G), X.now.s _ _ h2G, b4, fun l3 hl3 => ?_⟩
    obtain ⟨G24, X, sg24, h3G⟩ := X.accR hl3 (.lst (nV (bodyB x) ++ [.int wv]))
    replace hcG := sg24 _ _ (sg23 _ _ hcG)
    dsimp only [gName, List.set_cons_succ, List.set_cons_zero]
    have hdw : DecE K G24 (nV (bodyB x) ++ [.int wv]) (bodyB x).length := dec_ext hx (.inl ⟨.inr ⟨_, rfl, .int _ (by omega)⟩, rfl⟩)
    refine ⟨X.t.tb, fun f1 c1 H21 k1 k2 T1 hf1 hL1 => ?_⟩
    obtain ⟨X, kt⟩ := X.lam k1 k2 T1
    intro cells H23 CT Tr
    obtain ⟨p1, p2, p3, p4⟩ := X.trk Tr
    obtain ⟨c', q, DD, R', L, hD', hR'⟩ := lamS15_4 (P := P) (w := w) (mg := mg) (base := base) T (hL1.ext fun b o e _ => p1 b o e) Tr.at_ (CT _ List.mem_cons_self) p2 p3 (SqL.of h3G) hdw
    refine ⟨⟨f1, c', q, DD, R', rfl, L, hD' _ (Same.refl _), hR' _ _ _ (Same.refl _) fun C j dd H2 s2 hd hk => ⟨C, j, _, _, rfl, hd, hk, fun H3 tp s3 hp3 dp => ?_⟩⟩⟩
    have np : tp ∉ cells.map (·.1) := fun z => by
      obtain ⟨r, hr, rfl⟩ := List.mem_map.mp z
      rw [s2 _ _ (Tr.at_ r hr)] at hp3
      cases hp3
    have dp2 := dp_cut dp np
    replace X := p4 H3 (s2.trans s3)
    clear CT p1 p2 p3 p4 Tr L hD' hR'
    refine ⟨_, rfl, lc, _, rfl, .inl (SqL.of (X.now.s _ _ hcG)), _, _, rfl, rfl, (by show 2 ≤ sizeLine; decide), fun t ht => ?_⟩
    have e25 : ((nV (codeB x)).length : Int) - 1 = ((bodyB x).length : Nat) := by rw [lnV, cl3]; omega
    dsimp only
    rw [e25]
    obtain ⟨G25, X, sgE, De⟩ := X.accT .nil (xs := [.str "code", .int ((bodyB x).length : Nat)]) (es := [.str "code", .int ((bodyB x).length : Nat)]) (.cons (.str _) (.cons (.int _) .nil)) ht
    obtain ⟨v0, r0, er, hte0, _⟩ := DpAll.cons_inv De
    cases er
    obtain ⟨sh2, ly2⟩ := lay_code ((bodyB x).length : Nat)
    refine ⟨_, _, Dp.mono (same_new ht) _ _ dp2, Dp.mono X.now.s _ _ hte0, sh2, sh2, ?_⟩
    rw [SeqAt.eqv_refl _ ly2]
    refine ⟨_, rfl, ite_f rfl ?_⟩
    replace hcG := sgE _ _ hcG
    clear De hte0 dp2 dp
    --NONE
    refine ⟨(by show 2 ≤ sizeLine; decide), fun t1 ht1 => ?_⟩
    obtain ⟨G26, X, sg26, htG2⟩ := X.accR ht1 (.tup [.int 83, .int 3])
    replace hcG := sg26 _ _ hcG
    refine ⟨(by show 5 ≤ sizeLine; decide), fun ln5 hln5 => ?_⟩
    obtain ⟨G27, X, sg27, hln5G⟩ := X.accR hln5 (.lst [.non, .int 5, .ref t1, .str "a", .bl true])
    replace hcG := sg27 _ _ hcG
    replace htG2 := sg27 _ _ htG2
    refine ⟨_, rfl, draw_go X.now.at (by decide) (by decide) fun H28 i28 A28 K28 hi28 => ?_⟩
    replace X := X.draw A28
    obtain ⟨nv5, hnv5⟩ : ∃ o, ([.non, .int 5, .ref t1, .str "a", .bl true] : List V)[i28]? = some o := ⟨_, List.getElem?_eq_getElem (by show i28 < 5; omega)⟩
    refine ⟨ln5, _, _, nv5, rfl, rfl, SqL.of (X.now.s _ _ hln5G), atI_nat hnv5, ?_⟩
    dsimp only [gName, List.set_cons_succ, List.set_cons_zero]
    refine ⟨X.t.tb, fun f1 c1 H21 k1 k2 T1 hf1 hL1 => ?_⟩
    obtain ⟨X, kt⟩ := X.lam k1 k2 T1
    intro cells H23 CT Tr
    obtain ⟨p1, p2, p3, p4⟩ := X.trk Tr
    obtain ⟨c', q, DD, R', L, hD', hR'⟩ := lamS15_5 (P := P) (w := w) (mg := mg) (base := base) T (hL1.ext fun b o e _ => p1 b o e) Tr.at_ (CT _ List.mem_cons_self) p2 p3 (no5 htG2 hnv5)
    refine ⟨⟨f1, c', q, DD, R', rfl, L, hD' _ (Same.refl _), hR' _ _ _ (Same.refl _) fun C j dd H2 s2 hd hk => ⟨C, j, _, _, rfl, hd, hk, fun H3 tp s3 hp3 dp => ?_⟩⟩⟩
    have np : tp ∉ cells.map (·.1) := fun z => by
      obtain ⟨r, hr, rfl⟩ := List.mem_map.mp z
      rw [s2 _ _ (Tr.at_ r hr)] at hp3
      cases hp3
    have dp2 := dp_cut dp np
    replace X := p4 H3 (s2.trans s3)
    clear CT p1 p2 p3 p4 Tr L hD' hR'
    refine ⟨(by show 2 ≤ sizeLine; decide), fun t ht => ?_⟩
    obtain ⟨G29, X, sgE, De⟩ := X.accT .nil (xs := [.str "code", .int 0]) (es := [.str "code", .int 0]) (.cons (.str _) (.cons (.int _) .nil)) ht
    obtain ⟨v0, r0, er, hte0, _⟩ := DpAll.cons_inv De
    cases er
    obtain ⟨sh2, ly2⟩ := lay_code 0
    refine ⟨_, _, Dp.mono (same_new ht) _ _ dp2, Dp.mono X.now.s _ _ hte0, sh2, sh2, ?_⟩
    rw [SeqAt.eqv_refl _ ly2]
    refine ⟨_, rfl, ite_f rfl ?_⟩
    replace hcG := sgE _ _ hcG
    clear De hte0 dp2 dp
    --CASES
    clear hcG htG2 hnv5
    refine ⟨(by show 5 ≤ sizeLine; decide), fun lhead hlhead => ?_⟩
    obtain ⟨G30, X, sg30, hhead⟩ := X.accR hlhead (.lst ([V.int 83, V.int 3, V.int 0, V.int 1, V.int 3] : List V))
    dsimp only [gName, List.set_cons_succ, List.set_cons_zero]
    refine ⟨_, rfl, (by show 2 ≤ sizeLine; decide), fun l0 hl0 => ?_⟩
    obtain ⟨G31, X, sg, h0G⟩ := X.accR hl0 (.lst [.int 0, .int 2])
    replace hhead := sg _ _ hhead
    refine ⟨lhead, l0, _, _, rfl, rfl, X.now.s _ _ hhead, X.now.s _ _ h0G, (by show 7 ≤ sizeLine; decide), fun lmore hlmore => ?_⟩
    obtain ⟨G32, X, sg, hmore⟩ := X.accR hlmore (.lst (([V.int 83, V.int 3, V.int 0, V.int 1, V.int 3] : List V) ++ [V.int 0, V.int 2]))
    replace hhead := sg _ _ hhead
    clear h0G
    dsimp only [gName, List.set_cons_succ, List.set_cons_zero]
    refine ⟨_, rfl, (by show 2 ≤ sizeLine; decide), fun l0 hl0 => ?_⟩
    obtain ⟨G33, X, sg, h0G⟩ := X.accR hl0 (.lst [.int 4, .int 4])
    replace hhead := sg _ _ hhead
    replace hmore := sg _ _ hmore
    refine ⟨lmore, l0, _, _, rfl, rfl, X.now.s _ _ hmore, X.now.s _ _ h0G, (by show 9 ≤ sizeLine; decide), fun llast hllast => ?_⟩
    obtain ⟨G34, X, sg, hlast⟩ := X.accR hllast (.lst ((([V.int 83, V.int 3, V.int 0, V.int 1, V.int 3] : List V) ++ [V.int 0, V.int 2]) ++ [V.int 4, V.int 4]))
    replace hhead := sg _ _ hhead
    replace hmore := sg _ _ hmore
    clear h0G
    dsimp only [gName, List.set_cons_succ, List.set_cons_zero]
    have D : Cs G34 [] [] := .nil
    refine ⟨(by show 1 ≤ sizeLine; decide), fun l hl => ⟨(by show 2 ≤ sizeLine; decide), fun t1 ht => ?_⟩⟩
    obtain ⟨G35, X, sg, D⟩ := X.caseN [82] 0 D rfl rfl hl ht
    replace hhead := sg _ _ hhead
    replace hmore := sg _ _ hmore
    replace hlast := sg _ _ hlast
    refine ⟨(by show 2 ≤ sizeLine; decide), fun l hl => ⟨(by show 2 ≤ sizeLine; decide), fun t2 ht => ?_⟩⟩
    obtain ⟨G36, X, sg, D⟩ := X.caseN [83, 2] 1 D rfl rfl hl ht
    replace hhead := sg _ _ hhead
    replace hmore := sg _ _ hmore
    replace hlast := sg _ _ hlast
    refine ⟨(by show 2 ≤ sizeLine; decide), fun l hl => ⟨(by show 2 ≤ sizeLine; decide), fun t3 ht => ?_⟩⟩
    obtain ⟨G37, X, sg, D⟩ := X.caseN [83, 13] 1 D rfl rfl hl ht
    replace hhead := sg _ _ hhead
    replace hmore := sg _ _ hmore
    replace hlast := sg _ _ hlast
    refine ⟨(by show 3 ≤ sizeLine; decide), fun l hl => ⟨(by show 2 ≤ sizeLine; decide), fun t4 ht => ?_⟩⟩
    obtain ⟨G38, X, sg, D⟩ := X.caseN [83, 3, 4] 2 D rfl rfl hl ht
    replace hhead := sg _ _ hhead
    replace hmore := sg _ _ hmore
    replace hlast := sg _ _ hlast
    refine ⟨(by show 5 ≤ sizeLine; decide), fun l hl => ⟨(by show 2 ≤ sizeLine; decide), fun t5 ht => ?_⟩⟩
    obtain ⟨G39, X, sg, D⟩ := X.caseN [83, 3, 0, 0, 4] 4 D rfl rfl hl ht
    replace hhead := sg _ _ hhead
    replace hmore := sg _ _ hmore
    replace hlast := sg _ _ hlast
    refine ⟨_, rfl, (by show 1 ≤ sizeLine; decide), fun l0 hl0 => ?_⟩
    obtain ⟨G40, X, sg, h0G⟩ := X.accR hl0 (.lst [.int 3])
    replace hhead := sg _ _ hhead
    replace hmore := sg _ _ hmore
    replace hlast := sg _ _ hlast
    replace D := D.mono sg
    refine ⟨lhead, l0, _, _, rfl, rfl, X.now.s _ _ hhead, X.now.s _ _ h0G, (by show 6 ≤ sizeLine; decide), fun l hl => ⟨(by show 2 ≤ sizeLine; decide), fun t6 ht => ?_⟩⟩
    clear h0G
    obtain ⟨G41, X, sg, D⟩ := X.caseN [83, 3, 0, 1, 3, 3] 5 D rfl rfl hl ht
    replace hhead := sg _ _ hhead
    replace hmore := sg _ _ hmore
    replace hlast := sg _ _ hlast
    refine ⟨(by show 6 ≤ sizeLine; decide), fun lg hlg => ?_⟩
    obtain ⟨G42, X, sg, hcs⟩ := X.accR hlg (.lst [.ref t1, .ref t2, .ref t3, .ref t4, .ref t5, .ref t6])
    replace hhead := sg _ _ hhead
    replace hmore := sg _ _ hmore
    replace hlast := sg _ _ hlast
    replace D := D.mono sg
    dsimp only [gName, List.set_cons_succ, List.set_cons_zero]
    refine ⟨_, rfl, ?_⟩
    refine ⟨_, rfl, (by show 2 ≤ sizeLine; decide), fun l0 hl0 => ?_⟩
    obtain ⟨G43, X, sg, h0G⟩ := X.accR hl0 (.lst [.int 0, .int 0])
    replace hhead := sg _ _ hhead
    replace hmore := sg _ _ hmore
    replace hlast := sg _ _ hlast
    replace D := D.mono sg
    replace hcs := sg _ _ hcs
    refine ⟨lhead, l0, _, _, rfl, rfl, X.now.s _ _ hhead, X.now.s _ _ h0G, (by show 7 ≤ sizeLine; decide), fun l hl => ⟨(by show 2 ≤ sizeLine; decide), fun t7 ht => ?_⟩⟩
    clear h0G
    obtain ⟨G44, X, sg, D⟩ := X.caseN [83, 3, 0, 1, 3, 0, 0] 6 D rfl rfl hl ht
    replace hhead := sg _ _ hhead
    replace hmore := sg _ _ hmore
    replace hlast := sg _ _ hlast
    replace hcs := sg _ _ hcs
    refine ⟨_, rfl, (by show 2 ≤ sizeLine; decide), fun l0 hl0 => ?_⟩
    obtain ⟨G45, X, sg, h0G⟩ := X.accR hl0 (.lst [.int 0, .int 21])
    replace hhead := sg _ _ hhead
    replace hmore := sg _ _ hmore
    replace hlast := sg _ _ hlast
    replace D := D.mono sg
    replace hcs := sg _ _ hcs
    refine ⟨lhead, l0, _, _, rfl, rfl, X.now.s _ _ hhead, X.now.s _ _ h0G, (by show 7 ≤ sizeLine; decide), fun l hl => ⟨(by show 2 ≤ sizeLine; decide), fun t8 ht => ?_⟩⟩
    clear h0G
    obtain ⟨G46, X, sg, D⟩ := X.caseN [83, 3, 0, 1, 3, 0, 21] 6 D rfl rfl hl ht
    replace hhead := sg _ _ hhead
    replace hmore := sg _ _ hmore
    replace hlast := sg _ _ hlast
    replace hcs := sg _ _ hcs
    refine ⟨_, rfl, (by show 1 ≤ sizeLine; decide), fun l0 hl0 => ?_⟩
    obtain ⟨G47, X, sg, h0G⟩ := X.accR hl0 (.lst [.int 8])
    replace hhead := sg _ _ hhead
    replace hmore := sg _ _ hmore
    replace hlast := sg _ _ hlast
    replace D := D.mono sg
    replace hcs := sg _ _ hcs
    refine ⟨lmore, l0, _, _, rfl, rfl, X.now.s _ _ hmore, X.now.s _ _ h0G, (by show 8 ≤ sizeLine; decide), fun l hl => ⟨(by show 2 ≤ sizeLine; decide), fun t9 ht => ?_⟩⟩
    clear h0G
    obtain ⟨G48, X, sg, D⟩ := X.caseN [83, 3, 0, 1, 3, 0, 2, 8] 7 D rfl rfl hl ht
    replace hhead := sg _ _ hhead
    replace hmore := sg _ _ hmore
    replace hlast := sg _ _ hlast
    replace hcs := sg _ _ hcs
    refine ⟨_, rfl, (by show 2 ≤ sizeLine; decide), fun l0 hl0 => ?_⟩
    obtain ⟨G49, X, sg, h0G⟩ := X.accR hl0 (.lst [.int 5, .int 2])
    replace hhead := sg _ _ hhead
    replace hmore := sg _ _ hmore
    replace hlast := sg _ _ hlast
    replace D := D.mono sg
    replace hcs := sg _ _ hcs
    refine ⟨lmore, l0, _, _, rfl, rfl, X.now.s _ _ hmore, X.now.s _ _ h0G, (by show 9 ≤ sizeLine; decide), fun l hl => ⟨(by show 2 ≤ sizeLine; decide), fun t10 ht => ?_⟩⟩
    clear h0G
    obtain ⟨G50, X, sg, D⟩ := X.caseN [83, 3, 0, 1, 3, 0, 2, 5, 2] 8 D rfl rfl hl ht
    replace hhead := sg _ _ hhead
    replace hmore := sg _ _ hmore
    replace hlast := sg _ _ hlast
    replace hcs := sg _ _ hcs
    refine ⟨(by show 4 ≤ sizeLine; decide), fun lg hlg => ?_⟩
    obtain ⟨G51, X, sg, hng⟩ := X.accR hlg (.lst [.ref t7, .ref t8, .ref t9, .ref t10])
    replace hhead := sg _ _ hhead
    replace hmore := sg _ _ hmore
    replace hlast := sg _ _ hlast
    replace D := D.mono sg
    replace hcs := sg _ _ hcs
    refine ⟨_, lg, _, _, rfl, rfl, X.now.s _ _ hcs, X.now.s _ _ hng, (by show 10 ≤ sizeLine; decide), fun lc1 hlc1 => ?_⟩
    obtain ⟨G52, X, sg, hcs⟩ := X.accR hlc1 (.lst (([.ref t1, .ref t2, .ref t3, .ref t4, .ref t5, .ref t6] : List V) ++ [.ref t7, .ref t8, .ref t9, .ref t10]))
    replace hhead := sg _ _ hhead
    replace hmore := sg _ _ hmore
    replace hlast := sg _ _ hlast
    replace D := D.mono sg
    clear hng
    dsimp only [gName, List.set_cons_succ, List.set_cons_zero]
    refine ⟨_, rfl, ?_⟩
    refine ⟨_, rfl, (by show 3 ≤ sizeLine; decide), fun l0 hl0 => ?_⟩
    obtain ⟨G53, X, sg, h0G⟩ := X.accR hl0 (.lst [.int 0, .int 7, .int 2])
    replace hhead := sg _ _ hhead
    replace hmore := sg _ _ hmore
    replace hlast := sg _ _ hlast
    replace D := D.mono sg
    replace hcs := sg _ _ hcs
    refine ⟨lmore, l0, _, _, rfl, rfl, X.now.s _ _ hmore, X.now.s _ _ h0G, (by show 10 ≤ sizeLine; decide), fun l hl => ⟨(by show 2 ≤ sizeLine; decide), fun t11 ht => ?_⟩⟩
    clear h0G
    obtain ⟨G54, X, sg, D⟩ := X.caseN [83, 3, 0, 1, 3, 0, 2, 0, 7, 2] 9 D rfl rfl hl ht
    replace hhead := sg _ _ hhead
    replace hmore := sg _ _ hmore
    replace hlast := sg _ _ hlast
    replace hcs := sg _ _ hcs
    refine ⟨_, rfl, (by show 1 ≤ sizeLine; decide), fun l0 hl0 => ?_⟩
    obtain ⟨G55, X, sg, h0G⟩ := X.accR hl0 (.lst [.int 0])
    replace hhead := sg _ _ hhead
    replace hmore := sg _ _ hmore
    replace hlast := sg _ _ hlast
    replace D := D.mono sg
    replace hcs := sg _ _ hcs
    refine ⟨llast, l0, _, _, rfl, rfl, X.now.s _ _ hlast, X.now.s _ _ h0G, (by show 10 ≤ sizeLine; decide), fun l hl => ⟨(by show 2 ≤ sizeLine; decide), fun t12 ht => ?_⟩⟩
    clear h0G
    obtain ⟨G56, X, sg, D⟩ := X.caseN [83, 3, 0, 1, 3, 0, 2, 4, 4, 0] 9 D rfl rfl hl ht
    replace hhead := sg _ _ hhead
    replace hmore := sg _ _ hmore
    replace hlast := sg _ _ hlast
    replace hcs := sg _ _ hcs
    refine ⟨_, rfl, (by show 1 ≤ sizeLine; decide), fun l0 hl0 => ?_⟩
    obtain ⟨G57, X, sg, h0G⟩ := X.accR hl0 (.lst [.int 3])
    replace hhead := sg _ _ hhead
    replace hmore := sg _ _ hmore
    replace hlast := sg _ _ hlast
    replace D := D.mono sg
    replace hcs := sg _ _ hcs
    refine ⟨llast, l0, _, _, rfl, rfl, X.now.s _ _ hlast, X.now.s _ _ h0G, (by show 10 ≤ sizeLine; decide), fun l hl => ⟨(by show 2 ≤ sizeLine; decide), fun t13 ht => ?_⟩⟩
    clear h0G
    obtain ⟨G58, X, sg, D⟩ := X.caseN [83, 3, 0, 1, 3, 0, 2, 4, 4, 3] 9 D rfl rfl hl ht
    replace hhead := sg _ _ hhead
    replace hmore := sg _ _ hmore
    replace hlast := sg _ _ hlast
    replace hcs := sg _ _ hcs
    refine ⟨_, rfl, (by show 2 ≤ sizeLine; decide), fun l0 hl0 => ?_⟩
    obtain ⟨G59, X, sg, h0G⟩ := X.accR hl0 (.lst [.int 1, .int 0])
    replace hhead := sg _ _ hhead
    replace hmore := sg _ _ hmore
    replace hlast := sg _ _ hlast
    replace D := D.mono sg
    replace hcs := sg _ _ hcs
    refine ⟨llast, l0, _, _, rfl, rfl, X.now.s _ _ hlast, X.now.s _ _ h0G, (by show 11 ≤ sizeLine; decide), fun l hl => ⟨(by show 2 ≤ sizeLine; decide), fun t14 ht => ?_⟩⟩
    clear h0G
    obtain ⟨G60, X, sg, D⟩ := X.caseN [83, 3, 0, 1, 3, 0, 2, 4, 4, 1, 0] 10 D rfl rfl hl ht
    replace hhead := sg _ _ hhead
    replace hmore := sg _ _ hmore
    replace hlast := sg _ _ hlast
    replace hcs := sg _ _ hcs
    refine ⟨(by show 4 ≤ sizeLine; decide), fun lg hlg => ?_⟩
    obtain ⟨G61, X, sg, hng⟩ := X.accR hlg (.lst [.ref t11, .ref t12, .ref t13, .ref t14])
    replace hhead := sg _ _ hhead
    replace hmore := sg _ _ hmore
    replace hlast := sg _ _ hlast
    replace D := D.mono sg
    replace hcs := sg _ _ hcs
    refine ⟨_, lg, _, _, rfl, rfl, X.now.s _ _ hcs, X.now.s _ _ hng, (by show 14 ≤ sizeLine; decide), fun lc2 hlc2 => ?_⟩
    obtain ⟨G62, X, sg, hcs⟩ := X.accR hlc2 (.lst ((([.ref t1, .ref t2, .ref t3, .ref t4, .ref t5, .ref t6] : List V) ++ [.ref t7, .ref t8, .ref t9, .ref t10]) ++ [.ref t11, .ref t12, .ref t13, .ref t14]))
    replace hhead := sg _ _ hhead
    replace hmore := sg _ _ hmore
    replace hlast := sg _ _ hlast
    replace D := D.mono sg
    clear hng
    dsimp only [gName, List.set_cons_succ, List.set_cons_zero]
    refine ⟨_, rfl, ?_⟩
    refine ⟨_, rfl, (by show 2 ≤ sizeLine; decide), fun l0 hl0 => ?_⟩
    obtain ⟨G63, X, sg, h0G⟩ := X.accR hl0 (.lst [.int 1, .int 21])
    replace hhead := sg _ _ hhead
    replace hmore := sg _ _ hmore
    replace hlast := sg _ _ hlast
    replace D := D.mono sg
    replace hcs := sg _ _ hcs
    refine ⟨llast, l0, _, _, rfl, rfl, X.now.s _ _ hlast, X.now.s _ _ h0G, (by show 11 ≤ sizeLine; decide), fun l hl => ⟨(by show 2 ≤ sizeLine; decide), fun t15 ht => ?_⟩⟩
    clear h0G
    obtain ⟨G64, X, sg, D⟩ := X.caseN [83, 3, 0, 1, 3, 0, 2, 4, 4, 1, 21] 10 D rfl rfl hl ht
    replace hhead := sg _ _ hhead
    replace hmore := sg _ _ hmore
    replace hlast := sg _ _ hlast
    replace hcs := sg _ _ hcs
    refine ⟨_, rfl, (by show 3 ≤ sizeLine; decide), fun l0 hl0 => ?_⟩
    obtain ⟨G65, X, sg, h0G⟩ := X.accR hl0 (.lst [.int 1, .int 1, .int 8])
    replace hhead := sg _ _ hhead
    replace hmore := sg _ _ hmore
    replace hlast := sg _ _ hlast
    replace D := D.mono sg
    replace hcs := sg _ _ hcs
    refine ⟨llast, l0, _, _, rfl, rfl, X.now.s _ _ hlast, X.now.s _ _ h0G, (by show 12 ≤ sizeLine; decide), fun l hl => ⟨(by show 2 ≤ sizeLine; decide), fun t16 ht => ?_⟩⟩
    clear h0G
    obtain ⟨G66, X, sg, D⟩ := X.caseN [83, 3, 0, 1, 3, 0, 2, 4, 4, 1, 1, 8] 11 D rfl rfl hl ht
    replace hhead := sg _ _ hhead
    replace hmore := sg _ _ hmore
    replace hlast := sg _ _ hlast
    replace hcs := sg _ _ hcs
    refine ⟨_, rfl, (by show 4 ≤ sizeLine; decide), fun l0 hl0 => ?_⟩
    obtain ⟨G67, X, sg, h0G⟩ := X.accR hl0 (.lst [.int 2, .int 1, .int 6, .int 1])
    replace hhead := sg _ _ hhead
    replace hmore := sg _ _ hmore
    replace hlast := sg _ _ hlast
    replace D := D.mono sg
    replace hcs := sg _ _ hcs
    refine ⟨llast, l0, _, _, rfl, rfl, X.now.s _ _ hlast, X.now.s _ _ h0G, (by show 13 ≤ sizeLine; decide), fun l hl => ⟨(by show 2 ≤ sizeLine; decide), fun t17 ht => ?_⟩⟩
    clear h0G
    obtain ⟨G68, X, sg, D⟩ := X.caseN [83, 3, 0, 1, 3, 0, 2, 4, 4, 2, 1, 6, 1] 12 D rfl rfl hl ht
    replace hhead := sg _ _ hhead
    replace hmore := sg _ _ hmore
    replace hlast := sg _ _ hlast
    replace hcs := sg _ _ hcs
    refine ⟨_, rfl, (by show 2 ≤ sizeLine; decide), fun l0 hl0 => ?_⟩
    obtain ⟨G69, X, sg, h0G⟩ := X.accR hl0 (.lst [.int 6, .int 2])
    replace hhead := sg _ _ hhead
    replace hmore := sg _ _ hmore
    replace hlast := sg _ _ hlast
    replace D := D.mono sg
    replace hcs := sg _ _ hcs
    refine ⟨lmore, l0, _, _, rfl, rfl, X.now.s _ _ hmore, X.now.s _ _ h0G, (by show 9 ≤ sizeLine; decide), fun l hl => ⟨(by show 2 ≤ sizeLine; decide), fun t18 ht => ?_⟩⟩
    clear h0G
    obtain ⟨G70, X, sg, D⟩ := X.caseN [83, 3, 0, 1, 3, 0, 2, 6, 2] 8 D rfl rfl hl ht
    replace hhead := sg _ _ hhead
    replace hmore := sg _ _ hmore
    replace hlast := sg _ _ hlast
    replace hcs := sg _ _ hcs
    refine ⟨(by show 4 ≤ sizeLine; decide), fun lg hlg => ?_⟩
    obtain ⟨G71, X, sg, hng⟩ := X.accR hlg (.lst [.ref t15, .ref t16, .ref t17, .ref t18])
    replace hhead := sg _ _ hhead
    replace hmore := sg _ _ hmore
    replace hlast := sg _ _ hlast
    replace D := D.mono sg
    replace hcs := sg _ _ hcs
    refine ⟨_, lg, _, _, rfl, rfl, X.now.s _ _ hcs, X.now.s _ _ hng, (by show 18 ≤ sizeLine; decide), fun lc3 hlc3 => ?_⟩
    obtain ⟨G72, X, sg, hcs⟩ := X.accR hlc3 (.lst (((([.ref t1, .ref t2, .ref t3, .ref t4, .ref t5, .ref t6] : List V) ++ [.ref t7, .ref t8, .ref t9, .ref t10]) ++ [.ref t11, .ref t12, .ref t13, .ref t14]) ++ [.ref t15, .ref t16, .ref t17, .ref t18]))
    replace hhead := sg _ _ hhead
    replace hmore := sg _ _ hmore
    replace hlast := sg _ _ hlast
    replace D := D.mono sg
    clear hng
    dsimp only [gName, List.set_cons_succ, List.set_cons_zero]
    --LAST
    clear hhead hmore
    refine ⟨_, rfl, _, rfl, draw_go X.now.at (by decide) (by decide) fun H79 i79 A79 K79 hi79 => ?_⟩
    replace X := X.draw A79
    obtain ⟨vq, hvq⟩ : ∃ o, (((([.ref t1, .ref t2, .ref t3, .ref t4, .ref t5, .ref t6] : List V) ++ [.ref t7, .ref t8, .ref t9, .ref t10]) ++ [.ref t11, .ref t12, .ref t13, .ref t14]) ++ [.ref t15, .ref t16, .ref t17, .ref t18])[i79]? = some o := ⟨_, List.getElem?_eq_getElem (by show i79 < 18; omega)⟩
    obtain ⟨tq, lq, qq, rfl, hqq, htq, hlq⟩ := D.all i79 vq hvq
    have hqm : qq ∈ casesL := List.mem_of_getElem? hqq
    refine ⟨lc3, _, _, .ref tq, rfl, rfl, SqL.of (X.now.s _ _ hcs), atI_nat hvq, ?_⟩
    refine ⟨tq, _, rfl, SqT.of (X.now.s _ _ htq), rfl, _, _, rfl, _, _, rfl, rfl, ?_⟩
    dsimp only [gName, gCons, gNil, List.set_cons_succ, List.set_cons_zero]
    clear D hcs
    --LAM6
    refine ⟨X.t.tb, fun f1 c1 H21 k1 k2 T1 hf1 hL1 => ?_⟩
    obtain ⟨X, kt⟩ := X.lam k1 k2 T1
    intro cells H23 CT Tr
    obtain ⟨p1, p2, p3, p4⟩ := X.trk Tr
    obtain ⟨DD, R', L, hD', hR'⟩ := lam15_6 (P := P) (w := w) (mg := mg) (base := base) T (hL1.ext fun b o e _ => p1 b o e) Tr.at_ (CT _ List.mem_cons_self) (p4 _ (Same.refl _)) hlq hqm
    refine ⟨⟨f1, _, _, DD, R', rfl, L, hD', hR' _ _ fun G80 H3 tp X80 sg80 dp2 => ?_⟩⟩
    clear CT p1 p2 p3 p4 Tr L hD' hR' X
    have X := X80
    refine ⟨_, rfl, (by show 2 ≤ sizeLine; decide), fun t ht => ?_⟩
    obtain ⟨G81, X, sgE, De⟩ := X.accT .nil (xs := [.str "code", .int (qq.2 : Nat)]) (es := [.str "code", .int (qq.2 : Nat)]) (.cons (.str _) (.cons (.int _) .nil)) ht
    obtain ⟨v0, r0, er, hte0, _⟩ := DpAll.cons_inv De
    cases er
    obtain ⟨sh2, ly2⟩ := lay_code (qq.2 : Nat)
    refine ⟨_, _, Dp.mono (same_new ht) _ _ dp2, Dp.mono X.now.s _ _ hte0, sh2, sh2, ?_⟩
    rw [SeqAt.eqv_refl _ ly2]
    refine ⟨_, rfl, ite_f rfl ?_⟩
    replace hlast := sgE _ _ (sg80 _ _ hlast)
    --GOOD
    refine ⟨_, rfl, (by show 7 ≤ sizeLine; decide), fun l0 hl0 => ?_⟩
    obtain ⟨G82, X, sg, h0G⟩ := X.accR hl0 (.lst [.int 2, .int 3, .int 7, .int 2, .int 5, .int 0, .int 3])
    replace hlast := sg _ _ hlast
    refine ⟨llast, l0, _, _, rfl, rfl, X.now.s _ _ hlast, X.now.s _ _ h0G, (by show 16 ≤ sizeLine; decide), fun lg hlg => ?_⟩
    obtain ⟨G83, X, sg, hgood⟩ := X.accR hlg (.lst (((([V.int 83, V.int 3, V.int 0, V.int 1, V.int 3] : List V) ++ [V.int 0, V.int 2]) ++ [V.int 4, V.int 4]) ++ [.int 2, .int 3, .int 7, .int 2, .int 5, .int 0, .int 3]))
    dsimp only [gName, List.set_cons_succ, List.set_cons_zero]
    refine ⟨_, rfl, _, _, rfl, rfl, (by decide +kernel), ?_⟩
    dsimp only [gName, List.set_cons_succ, List.set_cons_zero]
    refine ⟨_, rfl, _, rfl, lg, ((bodyB good15).map fun n : Nat => (n : Int)), rfl, (by rw [← nV_int]; exact SqL.of (X.now.s _ _ hgood)), _, _, rfl, rfl, (by show (0 : Int) < 256; decide), ?_⟩
    refine ⟨(by show 1 ≤ sizeLine; decide), fun lz hlz => ?_⟩
    obtain ⟨G84, X, sg, hzG⟩ := X.accR hlz (.lst [V.int ((fun n : Int => n % 256) ((bodyB good15).map fun n : Nat => (n : Int)).sum)])
    refine ⟨lg, lz, _, _, rfl, rfl, X.now.s _ _ (sg _ _ hgood), X.now.s _ _ hzG, (by show 17 ≤ sizeLine; decide), fun lf hlf => ?_⟩
    refine ⟨⟨lf, good15, rfl, upd_same.trans (congrArg (fun z => some (HO.lst z)) good15_code), good15_ok, fun H9 s9 => ?_⟩⟩
    refine ⟨_, rfl, rfl, ?_⟩
    have ed : decide (V.str (textS good15) = V.str (Str.ofString "shelf 0 1 3;\nrobot 0 {\n  wait;\n  wait;\n}\n" ++ Str.ofString "robot 2 {\n  sa: held sc;\n  goto sa;\n  sc: put;\n}")) = true := decide_eq_true (by rw [good15_text])
    rw [ed]
    exact k _
end
end Sb

namespace Sb
open PySem PySem.Spec PyProof.Rows L2
theorem hAll {l : PySem.W.OpenLaw} {w : World} {K : PySem.W.Frag} {h : Heap} {mg : Str → Option Value} {fa : Addr} (X : K.In h) (G : h.Ns mainGlobals mg) (hfa : mg "law" = some (.ref fa)) (c : SbH.SaysY hFa hFn hTs hTf hEx w h K) : LamX.LawAtS l w K CX0 20 63 "_law_script" mg fa h := by
  have e := hfa.symm.trans (He.glo_ok X G (c.at_ 27 (f := .glo (Str.ofString "law")) rfl))
  injection e with e
  injection e with e
  rw [e]
  have hx := c.more
  obtain ⟨hx_exb_InvalidCode, hx0⟩ := He.ba (show (exb_InvalidCode K && _) = true from hx)
  obtain ⟨hx_tup_MOVES, hx1⟩ := He.ba (show (SbH.tupB K (Str.ofString "MOVES") [(Str.ofString "left"), (Str.ofString "right"), (Str.ofString "pick"), (Str.ofString "put"), (Str.ofString "wait")] && _) = true from hx0)
  obtain ⟨hx_tup_JUMPS, hx2⟩ := He.ba (show (SbH.tupB K (Str.ofString "JUMPS") [(Str.ofString "goto"), (Str.ofString "empty"), (Str.ofString "held")] && _) = true from hx1)
  obtain ⟨hx_tup_KEYWORDS, hx3⟩ := He.ba (show (SbH.tupB K (Str.ofString "KEYWORDS") [(Str.ofString "shelf"), (Str.ofString "robot"), (Str.ofString "left"), (Str.ofString "right"), (Str.ofString "pick"), (Str.ofString "put"), (Str.ofString "wait"), (Str.ofString "goto"), (Str.ofString "empty"), (Str.ofString "held")] && _) = true from hx2)
  have hx_tup_WORDS : SbH.tupB K (Str.ofString "WORDS") [(Str.ofString "left"), (Str.ofString "right"), (Str.ofString "pick"), (Str.ofString "put"), (Str.ofString "wait"), (Str.ofString "goto"), (Str.ofString "empty"), (Str.ofString "held")] = true := hx3
  obtain ⟨d_l_random, g_l_random⟩ := c.def_ 0 (d := ⟨fun K => (He.ga K (Str.ofString "_law_random")), (Str.ofString "_law_random"), (Str.ofString "_law_random"), defArgs s_l_random, defBody s_l_random, defScope s_l_random, [], []⟩) rfl
  obtain ⟨d_Parser_peek, g_Parser_peek⟩ := c.def_ 1 (d := ⟨fun K => (He.ma K (He.ga K (Str.ofString "Parser")) (Str.ofString "peek")), (Str.ofString "peek"), (Str.ofString "Parser.peek"), defArgs s_Parser_peek, defBody s_Parser_peek, defScope s_Parser_peek, [], []⟩) rfl
  obtain ⟨d_Token_init, g_Token_init⟩ := c.def_ 2 (d := ⟨fun K => (He.ma K (He.ga K (Str.ofString "Token")) (Str.ofString "__init__")), (Str.ofString "__init__"), (Str.ofString "Token.__init__"), defArgs s_Token_init, defBody s_Token_init, defScope s_Token_init, [], []⟩) rfl
  obtain ⟨d_Robot_init, g_Robot_init⟩ := c.def_ 3 (d := ⟨fun K => (He.ma K (He.ga K (Str.ofString "Robot")) (Str.ofString "__init__")), (Str.ofString "__init__"), (Str.ofString "Robot.__init__"), defArgs s_Robot_init, defBody s_Robot_init, defScope s_Robot_init, [], []⟩) rfl
  obtain ⟨d_Plan_init, g_Plan_init⟩ := c.def_ 4 (d := ⟨fun K => (He.ma K (He.ga K (Str.ofString "Plan")) (Str.ofString "__init__")), (Str.ofString "__init__"), (Str.ofString "Plan.__init__"), defArgs s_Plan_init, defBody s_Plan_init, defScope s_Plan_init, [], []⟩) rfl
  obtain ⟨d_Parser_init, g_Parser_init⟩ := c.def_ 5 (d := ⟨fun K => (He.ma K (He.ga K (Str.ofString "Parser")) (Str.ofString "__init__")), (Str.ofString "__init__"), (Str.ofString "Parser.__init__"), defArgs s_Parser_init, defBody s_Parser_init, defScope s_Parser_init, [], []⟩) rfl
  obtain ⟨d_Reader_init, g_Reader_init⟩ := c.def_ 6 (d := ⟨fun K => (He.ma K (He.ga K (Str.ofString "Reader")) (Str.ofString "__init__")), (Str.ofString "__init__"), (Str.ofString "Reader.__init__"), defArgs s_Reader_init, defBody s_Reader_init, defScope s_Reader_init, [], []⟩) rfl
  obtain ⟨d_InvalidCode_init, g_InvalidCode_init⟩ := c.def_ 7 (d := ⟨fun K => (He.ma K (He.ga K (Str.ofString "InvalidCode")) (Str.ofString "__init__")), (Str.ofString "__init__"), (Str.ofString "InvalidCode.__init__"), defArgs s_InvalidCode_init, defBody s_InvalidCode_init, defScope s_InvalidCode_init, [], []⟩) rfl
  obtain ⟨d_Parser_fail, g_Parser_fail⟩ := c.def_ 8 (d := ⟨fun K => (He.ma K (He.ga K (Str.ofString "Parser")) (Str.ofString "fail")), (Str.ofString "fail"), (Str.ofString "Parser.fail"), defArgs s_Parser_fail, defBody s_Parser_fail, defScope s_Parser_fail, [], []⟩) rfl
  obtain ⟨d_Parser_take_word, g_Parser_take_word⟩ := c.def_ 9 (d := ⟨fun K => (He.ma K (He.ga K (Str.ofString "Parser")) (Str.ofString "take_word")), (Str.ofString "take_word"), (Str.ofString "Parser.take_word"), defArgs s_Parser_take_word, defBody s_Parser_take_word, defScope s_Parser_take_word, [], []⟩) rfl
  obtain ⟨d_Parser_take, g_Parser_take⟩ := c.def_ 10 (d := ⟨fun K => (He.ma K (He.ga K (Str.ofString "Parser")) (Str.ofString "take")), (Str.ofString "take"), (Str.ofString "Parser.take"), defArgs s_Parser_take, defBody s_Parser_take, defScope s_Parser_take, [], []⟩) rfl
  obtain ⟨d_Parser_found, g_Parser_found⟩ := c.def_ 11 (d := ⟨fun K => (He.ma K (He.ga K (Str.ofString "Parser")) (Str.ofString "found")), (Str.ofString "found"), (Str.ofString "Parser.found"), defArgs s_Parser_found, defBody s_Parser_found, defScope s_Parser_found, [], []⟩) rfl
  obtain ⟨d_Parser_parse_shelf, g_Parser_parse_shelf⟩ := c.def_ 12 (d := ⟨fun K => (He.ma K (He.ga K (Str.ofString "Parser")) (Str.ofString "parse_shelf")), (Str.ofString "parse_shelf"), (Str.ofString "Parser.parse_shelf"), defArgs s_Parser_parse_shelf, defBody s_Parser_parse_shelf, defScope s_Parser_parse_shelf, [], []⟩) rfl
  obtain ⟨d_Parser_parse_step, g_Parser_parse_step⟩ := c.def_ 13 (d := ⟨fun K => (He.ma K (He.ga K (Str.ofString "Parser")) (Str.ofString "parse_step")), (Str.ofString "parse_step"), (Str.ofString "Parser.parse_step"), defArgs s_Parser_parse_step, defBody s_Parser_parse_step, defScope s_Parser_parse_step, [], []⟩) rfl
  obtain ⟨d_Parser_parse_robot, g_Parser_parse_robot⟩ := c.def_ 14 (d := ⟨fun K => (He.ma K (He.ga K (Str.ofString "Parser")) (Str.ofString "parse_robot")), (Str.ofString "parse_robot"), (Str.ofString "Parser.parse_robot"), defArgs s_Parser_parse_robot, defBody s_Parser_parse_robot, defScope s_Parser_parse_robot, [], []⟩) rfl
  obtain ⟨d_Parser_parse_plan, g_Parser_parse_plan⟩ := c.def_ 15 (d := ⟨fun K => (He.ma K (He.ga K (Str.ofString "Parser")) (Str.ofString "parse_plan")), (Str.ofString "parse_plan"), (Str.ofString "Parser.parse_plan"), defArgs s_Parser_parse_plan, defBody s_Parser_parse_plan, defScope s_Parser_parse_plan, [], []⟩) rfl
  obtain ⟨d_run_end, g_run_end⟩ := c.def_ 16 (d := ⟨fun K => (He.ga K (Str.ofString "run_end")), (Str.ofString "run_end"), (Str.ofString "run_end"), defArgs s_run_end, defBody s_run_end, defScope s_run_end, [], []⟩) rfl
  obtain ⟨d_read_token, g_read_token⟩ := c.def_ 17 (d := ⟨fun K => (He.ga K (Str.ofString "read_token")), (Str.ofString "read_token"), (Str.ofString "read_token"), defArgs s_read_token, defBody s_read_token, defScope s_read_token, [], []⟩) rfl
  obtain ⟨d_tokenize, g_tokenize⟩ := c.def_ 18 (d := ⟨fun K => (He.ga K (Str.ofString "tokenize")), (Str.ofString "tokenize"), (Str.ofString "tokenize"), defArgs s_tokenize, defBody s_tokenize, defScope s_tokenize, [], []⟩) rfl
  obtain ⟨d_load, g_load⟩ := c.def_ 19 (d := ⟨fun K => (He.ga K (Str.ofString "load")), (Str.ofString "load"), (Str.ofString "load"), defArgs s_load, defBody s_load, defScope s_load, [], []⟩) rfl
  obtain ⟨d_encode, g_encode⟩ := c.def_ 20 (d := ⟨fun K => (He.ga K (Str.ofString "encode")), (Str.ofString "encode"), (Str.ofString "encode"), defArgs s_encode, defBody s_encode, defScope s_encode, [], []⟩) rfl
  obtain ⟨d_l_below, g_l_below⟩ := c.def_ 21 (d := ⟨fun K => (He.ga K (Str.ofString "_law_below")), (Str.ofString "_law_below"), (Str.ofString "_law_below"), defArgs s_l_below, defBody s_l_below, defScope s_l_below, [], []⟩) rfl
  obtain ⟨d_l_text, g_l_text⟩ := c.def_ 22 (d := ⟨fun K => (He.ga K (Str.ofString "_law_text")), (Str.ofString "_law_text"), (Str.ofString "_law_text"), defArgs s_l_text, defBody s_l_text, defScope s_l_text, [], []⟩) rfl
  obtain ⟨d_l_error_of, g_l_error_of⟩ := c.def_ 23 (d := ⟨fun K => (He.ga K (Str.ofString "_law_error_of")), (Str.ofString "_law_error_of"), (Str.ofString "_law_error_of"), defArgs s_l_error_of, defBody s_l_error_of, defScope s_l_error_of, [], []⟩) rfl
  obtain ⟨d_is_int_in, g_is_int_in⟩ := c.def_ 24 (d := ⟨fun K => (He.ga K (Str.ofString "is_int_in")), (Str.ofString "is_int_in"), (Str.ofString "is_int_in"), defArgs s_is_int_in, defBody s_is_int_in, defScope s_is_int_in, [], []⟩) rfl
  obtain ⟨d_Reader_read_byte, g_Reader_read_byte⟩ := c.def_ 25 (d := ⟨fun K => (He.ma K (He.ga K (Str.ofString "Reader")) (Str.ofString "read_byte")), (Str.ofString "read_byte"), (Str.ofString "Reader.read_byte"), defArgs s_Reader_read_byte, defBody s_Reader_read_byte, defScope s_Reader_read_byte, [], []⟩) rfl
  obtain ⟨d_Reader_read_robot, g_Reader_read_robot⟩ := c.def_ 26 (d := ⟨fun K => (He.ma K (He.ga K (Str.ofString "Reader")) (Str.ofString "read_robot")), (Str.ofString "read_robot"), (Str.ofString "Reader.read_robot"), defArgs s_Reader_read_robot, defBody s_Reader_read_robot, defScope s_Reader_read_robot, [], []⟩) rfl
  obtain ⟨d_label, g_label⟩ := c.def_ 27 (d := ⟨fun K => (He.ga K (Str.ofString "label")), (Str.ofString "label"), (Str.ofString "label"), defArgs s_label, defBody s_label, defScope s_label, [], []⟩) rfl
  obtain ⟨d_format_robot, g_format_robot⟩ := c.def_ 28 (d := ⟨fun K => (He.ga K (Str.ofString "format_robot")), (Str.ofString "format_robot"), (Str.ofString "format_robot"), defArgs s_format_robot, defBody s_format_robot, defScope s_format_robot, [], []⟩) rfl
  obtain ⟨d_format_parsed, g_format_parsed⟩ := c.def_ 29 (d := ⟨fun K => (He.ga K (Str.ofString "format_parsed")), (Str.ofString "format_parsed"), (Str.ofString "format_parsed"), defArgs s_format_parsed, defBody s_format_parsed, defScope s_format_parsed, [], []⟩) rfl
  obtain ⟨d_decode, g_decode⟩ := c.def_ 30 (d := ⟨fun K => (He.ga K (Str.ofString "decode")), (Str.ofString "decode"), (Str.ofString "decode"), defArgs s_decode, defBody s_decode, defScope s_decode, [], []⟩) rfl
  obtain ⟨d_l_steps, g_l_steps⟩ := c.def_ 31 (d := ⟨fun K => (He.ga K (Str.ofString "_law_steps")), (Str.ofString "_law_steps"), (Str.ofString "_law_steps"), defArgs s_l_steps, defBody s_l_steps, defScope s_l_steps, [], []⟩) rfl
  obtain ⟨d_l_plan, g_l_plan⟩ := c.def_ 32 (d := ⟨fun K => (He.ga K (Str.ofString "_law_plan")), (Str.ofString "_law_plan"), (Str.ofString "_law_plan"), defArgs s_l_plan, defBody s_l_plan, defScope s_l_plan, [], []⟩) rfl
  obtain ⟨d_law, g_law⟩ := c.def_ 33 (d := ⟨fun K => (He.ga K (Str.ofString "law")), (Str.ofString "law"), (Str.ofString "law"), defArgs s_law, defBody s_law, defScope s_law, [], []⟩) rfl
  obtain ⟨t_LETTERS, e_LETTERS⟩ := He.str_ok X G (c.at_ 93 (f := .str (Str.ofString "LETTERS") (Str.ofString "abcdefghijklmnopqrstuvwxyz")) rfl)
  obtain ⟨t_DIGITS, e_DIGITS⟩ := He.str_ok X G (c.at_ 94 (f := .str (Str.ofString "DIGITS") (Str.ofString "0123456789")) rfl)
  obtain ⟨t_SPACES, e_SPACES⟩ := He.str_ok X G (c.at_ 95 (f := .str (Str.ofString "SPACES") (Str.ofString " \n")) rfl)
  obtain ⟨t_SIGNS, e_SIGNS⟩ := He.str_ok X G (c.at_ 96 (f := .str (Str.ofString "SIGNS") (Str.ofString ";:{}")) rfl)
  obtain ⟨t_MAX_LETTERS, e_MAX_LETTERS⟩ := He.int_ok X G (c.at_ 97 (f := .int (Str.ofString "MAX_LETTERS") 8) rfl)
  obtain ⟨t_MAX_DIGITS, e_MAX_DIGITS⟩ := He.int_ok X G (c.at_ 98 (f := .int (Str.ofString "MAX_DIGITS") 2) rfl)
  obtain ⟨t_NAME, e_NAME⟩ := He.str_ok X G (c.at_ 99 (f := .str (Str.ofString "NAME") (Str.ofString "name")) rfl)
  obtain ⟨t_NUMBER, e_NUMBER⟩ := He.str_ok X G (c.at_ 100 (f := .str (Str.ofString "NUMBER") (Str.ofString "number")) rfl)
  obtain ⟨t_KEYWORD, e_KEYWORD⟩ := He.str_ok X G (c.at_ 101 (f := .str (Str.ofString "KEYWORD") (Str.ofString "keyword")) rfl)
  obtain ⟨t_SIGN, e_SIGN⟩ := He.str_ok X G (c.at_ 102 (f := .str (Str.ofString "SIGN") (Str.ofString "sign")) rfl)
  obtain ⟨t_END, e_END⟩ := He.str_ok X G (c.at_ 103 (f := .str (Str.ofString "END") (Str.ofString "end")) rfl)
  obtain ⟨t_MIN_CELLS, e_MIN_CELLS⟩ := He.int_ok X G (c.at_ 104 (f := .int (Str.ofString "MIN_CELLS") 3) rfl)
  obtain ⟨t_MAX_CELLS, e_MAX_CELLS⟩ := He.int_ok X G (c.at_ 105 (f := .int (Str.ofString "MAX_CELLS") 12) rfl)
  obtain ⟨t_MAX_BOXES, e_MAX_BOXES⟩ := He.int_ok X G (c.at_ 106 (f := .int (Str.ofString "MAX_BOXES") 3) rfl)
  obtain ⟨t_MAX_STEPS, e_MAX_STEPS⟩ := He.int_ok X G (c.at_ 107 (f := .int (Str.ofString "MAX_STEPS") 20) rfl)
  obtain ⟨t_TAG, e_TAG⟩ := He.int_ok X G (c.at_ 108 (f := .int (Str.ofString "TAG") 83) rfl)
  obtain ⟨t_BYTE, e_BYTE⟩ := He.int_ok X G (c.at_ 109 (f := .int (Str.ofString "BYTE") 256) rfl)
  let ad : Ad := { f_l_random := (He.ga K (Str.ofString "_law_random")), d_l_random := d_l_random, f_Parser_peek := (He.ma K (He.ga K (Str.ofString "Parser")) (Str.ofString "peek")), d_Parser_peek := d_Parser_peek, f_Token_init := (He.ma K (He.ga K (Str.ofString "Token")) (Str.ofString "__init__")), d_Token_init := d_Token_init, f_Robot_init := (He.ma K (He.ga K (Str.ofString "Robot")) (Str.ofString "__init__")), d_Robot_init := d_Robot_init, f_Plan_init := (He.ma K (He.ga K (Str.ofString "Plan")) (Str.ofString "__init__")), d_Plan_init := d_Plan_init, f_Parser_init := (He.ma K (He.ga K (Str.ofString "Parser")) (Str.ofString "__init__")), d_Parser_init := d_Parser_init, f_Reader_init := (He.ma K (He.ga K (Str.ofString "Reader")) (Str.ofString "__init__")), d_Reader_init := d_Reader_init, f_InvalidCode_init := (He.ma K (He.ga K (Str.ofString "InvalidCode")) (Str.ofString "__init__")), d_InvalidCode_init := d_InvalidCode_init, f_Parser_fail := (He.ma K (He.ga K (Str.ofString "Parser")) (Str.ofString "fail")), d_Parser_fail := d_Parser_fail, f_Parser_take_word := (He.ma K (He.ga K (Str.ofString "Parser")) (Str.ofString "take_word")), d_Parser_take_word := d_Parser_take_word, f_Parser_take := (He.ma K (He.ga K (Str.ofString "Parser")) (Str.ofString "take")), d_Parser_take := d_Parser_take, f_Parser_found := (He.ma K (He.ga K (Str.ofString "Parser")) (Str.ofString "found")), d_Parser_found := d_Parser_found, f_Parser_parse_shelf := (He.ma K (He.ga K (Str.ofString "Parser")) (Str.ofString "parse_shelf")), d_Parser_parse_shelf := d_Parser_parse_shelf, f_Parser_parse_step := (He.ma K (He.ga K (Str.ofString "Parser")) (Str.ofString "parse_step")), d_Parser_parse_step := d_Parser_parse_step, f_Parser_parse_robot := (He.ma K (He.ga K (Str.ofString "Parser")) (Str.ofString "parse_robot")), d_Parser_parse_robot := d_Parser_parse_robot, f_Parser_parse_plan := (He.ma K (He.ga K (Str.ofString "Parser")) (Str.ofString "parse_plan")), d_Parser_parse_plan := d_Parser_parse_plan, f_run_end := (He.ga K (Str.ofString "run_end")), d_run_end := d_run_end, f_read_token := (He.ga K (Str.ofString "read_token")), d_read_token := d_read_token, f_tokenize := (He.ga K (Str.ofString "tokenize")), d_tokenize := d_tokenize, f_load := (He.ga K (Str.ofString "load")), d_load := d_load, f_encode := (He.ga K (Str.ofString "encode")), d_encode := d_encode, f_l_below := (He.ga K (Str.ofString "_law_below")), d_l_below := d_l_below, f_l_text := (He.ga K (Str.ofString "_law_text")), d_l_text := d_l_text, f_l_error_of := (He.ga K (Str.ofString "_law_error_of")), d_l_error_of := d_l_error_of, f_is_int_in := (He.ga K (Str.ofString "is_int_in")), d_is_int_in := d_is_int_in, f_Reader_read_byte := (He.ma K (He.ga K (Str.ofString "Reader")) (Str.ofString "read_byte")), d_Reader_read_byte := d_Reader_read_byte, f_Reader_read_robot := (He.ma K (He.ga K (Str.ofString "Reader")) (Str.ofString "read_robot")), d_Reader_read_robot := d_Reader_read_robot, f_label := (He.ga K (Str.ofString "label")), d_label := d_label, f_format_robot := (He.ga K (Str.ofString "format_robot")), d_format_robot := d_format_robot, f_format_parsed := (He.ga K (Str.ofString "format_parsed")), d_format_parsed := d_format_parsed, f_decode := (He.ga K (Str.ofString "decode")), d_decode := d_decode, f_l_steps := (He.ga K (Str.ofString "_law_steps")), d_l_steps := d_l_steps, f_l_plan := (He.ga K (Str.ofString "_law_plan")), d_l_plan := d_l_plan, f_law := (He.ga K (Str.ofString "law")), d_law := d_law, cc_law := (He.cT K ((Str.ofString "law"), none)).1, tb_law := (He.cT K ((Str.ofString "law"), none)).2, C_Token := (He.ga K (Str.ofString "Token")), C_Robot := (He.ga K (Str.ofString "Robot")), C_Plan := (He.ga K (Str.ofString "Plan")), C_Parser := (He.ga K (Str.ofString "Parser")), C_Reader := (He.ga K (Str.ofString "Reader")), X_BotError := (He.ga K (Str.ofString "BotError")), X_InvalidTick := (He.ga K (Str.ofString "InvalidTick")), X_InvalidNumber := (He.ga K (Str.ofString "InvalidNumber")), X_TooLong := (He.ga K (Str.ofString "TooLong")), X_DifferentShelves := (He.ga K (Str.ofString "DifferentShelves")), X_Contradiction := (He.ga K (Str.ofString "Contradiction")), X_CellFull := (He.ga K (Str.ofString "CellFull")), X_CellEmpty := (He.ga K (Str.ofString "CellEmpty")), X_InvalidName := (He.ga K (Str.ofString "InvalidName")), X_UnknownName := (He.ga K (Str.ofString "UnknownName")), X_SyntaxFault := (He.ga K (Str.ofString "SyntaxFault")), X_CheckFault := (He.ga K (Str.ofString "CheckFault")), X_InvalidCode := (He.ga K (Str.ofString "InvalidCode")), X_InvalidOperation := (He.ga K (Str.ofString "InvalidOperation")), A_MOVES := (He.ga K (Str.ofString "MOVES")), A_JUMPS := (He.ga K (Str.ofString "JUMPS")), A_KEYWORDS := (He.ga K (Str.ofString "KEYWORDS")), t_LETTERS := t_LETTERS, t_DIGITS := t_DIGITS, t_SPACES := t_SPACES, t_SIGNS := t_SIGNS, t_MAX_LETTERS := t_MAX_LETTERS, t_MAX_DIGITS := t_MAX_DIGITS, t_NAME := t_NAME, t_NUMBER := t_NUMBER, t_KEYWORD := t_KEYWORD, t_SIGN := t_SIGN, t_END := t_END, t_MIN_CELLS := t_MIN_CELLS, t_MAX_CELLS := t_MAX_CELLS, t_MAX_BOXES := t_MAX_BOXES, t_MAX_STEPS := t_MAX_STEPS, t_TAG := t_TAG, t_BYTE := t_BYTE, A_WORDS := (He.ga K (Str.ofString "WORDS")) }
  have T : Txt K mg ad := { F_l_random := He5.fun_of (st := s_l_random) g_l_random, m_l_random := He.glo_ok X G (c.at_ 0 (f := .glo (Str.ofString "_law_random")) rfl), F_Parser_peek := He5.fun_of (st := s_Parser_peek) g_Parser_peek, M_Parser_peek := He.meth_ok (c.at_ 1 (f := .meth (Str.ofString "Parser") (Str.ofString "peek")) rfl), F_Token_init := He5.fun_of (st := s_Token_init) g_Token_init, F_Robot_init := He5.fun_of (st := s_Robot_init) g_Robot_init, F_Plan_init := He5.fun_of (st := s_Plan_init) g_Plan_init, F_Parser_init := He5.fun_of (st := s_Parser_init) g_Parser_init, F_Reader_init := He5.fun_of (st := s_Reader_init) g_Reader_init, F_InvalidCode_init := He5.fun_of (st := s_InvalidCode_init) g_InvalidCode_init, F_Parser_fail := He5.fun_of (st := s_Parser_fail) g_Parser_fail, M_Parser_fail := He.meth_ok (c.at_ 2 (f := .meth (Str.ofString "Parser") (Str.ofString "fail")) rfl), F_Parser_take_word := He5.fun_of (st := s_Parser_take_word) g_Parser_take_word, M_Parser_take_word := He.meth_ok (c.at_ 3 (f := .meth (Str.ofString "Parser") (Str.ofString "take_word")) rfl), F_Parser_take := He5.fun_of (st := s_Parser_take) g_Parser_take, M_Parser_take := He.meth_ok (c.at_ 4 (f := .meth (Str.ofString "Parser") (Str.ofString "take")) rfl), F_Parser_found := He5.fun_of (st := s_Parser_found) g_Parser_found, M_Parser_found := He.meth_ok (c.at_ 5 (f := .meth (Str.ofString "Parser") (Str.ofString "found")) rfl), F_Parser_parse_shelf := He5.fun_of (st := s_Parser_parse_shelf) g_Parser_parse_shelf, M_Parser_parse_shelf := He.meth_ok (c.at_ 6 (f := .meth (Str.ofString "Parser") (Str.ofString "parse_shelf")) rfl), F_Parser_parse_step := He5.fun_of (st := s_Parser_parse_step) g_Parser_parse_step, M_Parser_parse_step := He.meth_ok (c.at_ 7 (f := .meth (Str.ofString "Parser") (Str.ofString "parse_step")) rfl), F_Parser_parse_robot := He5.fun_of (st := s_Parser_parse_robot) g_Parser_parse_robot, M_Parser_parse_robot := He.meth_ok (c.at_ 8 (f := .meth (Str.ofString "Parser") (Str.ofString "parse_robot")) rfl), F_Parser_parse_plan := He5.fun_of (st := s_Parser_parse_plan) g_Parser_parse_plan, M_Parser_parse_plan := He.meth_ok (c.at_ 9 (f := .meth (Str.ofString "Parser") (Str.ofString "parse_plan")) rfl), F_run_end := He5.fun_of (st := s_run_end) g_run_end, m_run_end := He.glo_ok X G (c.at_ 10 (f := .glo (Str.ofString "run_end")) rfl), F_read_token := He5.fun_of (st := s_read_token) g_read_token, m_read_token := He.glo_ok X G (c.at_ 11 (f := .glo (Str.ofString "read_token")) rfl), F_tokenize := He5.fun_of (st := s_tokenize) g_tokenize, m_tokenize := He.glo_ok X G (c.at_ 12 (f := .glo (Str.ofString "tokenize")) rfl), F_load := He5.fun_of (st := s_load) g_load, m_load := He.glo_ok X G (c.at_ 13 (f := .glo (Str.ofString "load")) rfl), F_encode := He5.fun_of (st := s_encode) g_encode, m_encode := He.glo_ok X G (c.at_ 14 (f := .glo (Str.ofString "encode")) rfl), F_l_below := He5.fun_of (st := s_l_below) g_l_below, m_l_below := He.glo_ok X G (c.at_ 15 (f := .glo (Str.ofString "_law_below")) rfl), F_l_text := He5.fun_of (st := s_l_text) g_l_text, m_l_text := He.glo_ok X G (c.at_ 16 (f := .glo (Str.ofString "_law_text")) rfl), F_l_error_of := He5.fun_of (st := s_l_error_of) g_l_error_of, m_l_error_of := He.glo_ok X G (c.at_ 17 (f := .glo (Str.ofString "_law_error_of")) rfl), F_is_int_in := He5.fun_of (st := s_is_int_in) g_is_int_in, m_is_int_in := He.glo_ok X G (c.at_ 18 (f := .glo (Str.ofString "is_int_in")) rfl), F_Reader_read_byte := He5.fun_of (st := s_Reader_read_byte) g_Reader_read_byte, M_Reader_read_byte := He.meth_ok (c.at_ 19 (f := .meth (Str.ofString "Reader") (Str.ofString "read_byte")) rfl), F_Reader_read_robot := He5.fun_of (st := s_Reader_read_robot) g_Reader_read_robot, M_Reader_read_robot := He.meth_ok (c.at_ 20 (f := .meth (Str.ofString "Reader") (Str.ofString "read_robot")) rfl), F_label := He5.fun_of (st := s_label) g_label, m_label := He.glo_ok X G (c.at_ 21 (f := .glo (Str.ofString "label")) rfl), F_format_robot := He5.fun_of (st := s_format_robot) g_format_robot, m_format_robot := He.glo_ok X G (c.at_ 22 (f := .glo (Str.ofString "format_robot")) rfl), F_format_parsed := He5.fun_of (st := s_format_parsed) g_format_parsed, m_format_parsed := He.glo_ok X G (c.at_ 23 (f := .glo (Str.ofString "format_parsed")) rfl), F_decode := He5.fun_of (st := s_decode) g_decode, m_decode := He.glo_ok X G (c.at_ 24 (f := .glo (Str.ofString "decode")) rfl), F_l_steps := He5.fun_of (st := s_l_steps) g_l_steps, m_l_steps := He.glo_ok X G (c.at_ 25 (f := .glo (Str.ofString "_law_steps")) rfl), F_l_plan := He5.fun_of (st := s_l_plan) g_l_plan, m_l_plan := He.glo_ok X G (c.at_ 26 (f := .glo (Str.ofString "_law_plan")) rfl), F_law := He5.fun_of (st := s_law) g_law, m_law := He.glo_ok X G (c.at_ 27 (f := .glo (Str.ofString "law")) rfl), ce_law := SbH.code_of g_law, tnd := (by simp), m_Token := He.glo_ok X G (c.at_ 28 (f := .glo (Str.ofString "Token")) rfl), cl_Token := He.cls_ok (c.at_ 29 (f := .cls (Str.ofString "Token")) rfl), mk_Token := He.mkr_ok (c.at_ 30 (f := .mkr (Str.ofString "Token")) rfl), n_Token_kind := He.noat_ok (c.at_ 31 (f := .noat (Str.ofString "Token") (Str.ofString "kind")) rfl), n_Token_text := He.noat_ok (c.at_ 32 (f := .noat (Str.ofString "Token") (Str.ofString "text")) rfl), n_Token_line := He.noat_ok (c.at_ 33 (f := .noat (Str.ofString "Token") (Str.ofString "line")) rfl), n_Token_column := He.noat_ok (c.at_ 34 (f := .noat (Str.ofString "Token") (Str.ofString "column")) rfl), m_Robot := He.glo_ok X G (c.at_ 35 (f := .glo (Str.ofString "Robot")) rfl), cl_Robot := He.cls_ok (c.at_ 36 (f := .cls (Str.ofString "Robot")) rfl), mk_Robot := He.mkr_ok (c.at_ 37 (f := .mkr (Str.ofString "Robot")) rfl), n_Robot_start := He.noat_ok (c.at_ 38 (f := .noat (Str.ofString "Robot") (Str.ofString "start")) rfl), n_Robot_steps := He.noat_ok (c.at_ 39 (f := .noat (Str.ofString "Robot") (Str.ofString "steps")) rfl), n_Robot_names := He.noat_ok (c.at_ 40 (f := .noat (Str.ofString "Robot") (Str.ofString "names")) rfl), m_Plan := He.glo_ok X G (c.at_ 41 (f := .glo (Str.ofString "Plan")) rfl), cl_Plan := He.cls_ok (c.at_ 42 (f := .cls (Str.ofString "Plan")) rfl), mk_Plan := He.mkr_ok (c.at_ 43 (f := .mkr (Str.ofString "Plan")) rfl), n_Plan_shelf := He.noat_ok (c.at_ 44 (f := .noat (Str.ofString "Plan") (Str.ofString "shelf")) rfl), n_Plan_robots := He.noat_ok (c.at_ 45 (f := .noat (Str.ofString "Plan") (Str.ofString "robots")) rfl), m_Parser := He.glo_ok X G (c.at_ 46 (f := .glo (Str.ofString "Parser")) rfl), cl_Parser := He.cls_ok (c.at_ 47 (f := .cls (Str.ofString "Parser")) rfl), mk_Parser := He.mkr_ok (c.at_ 48 (f := .mkr (Str.ofString "Parser")) rfl), n_Parser_tokens := He.noat_ok (c.at_ 49 (f := .noat (Str.ofString "Parser") (Str.ofString "tokens")) rfl), n_Parser_at := He.noat_ok (c.at_ 50 (f := .noat (Str.ofString "Parser") (Str.ofString "at")) rfl), n_Parser_faults := He.noat_ok (c.at_ 51 (f := .noat (Str.ofString "Parser") (Str.ofString "faults")) rfl), m_Reader := He.glo_ok X G (c.at_ 52 (f := .glo (Str.ofString "Reader")) rfl), cl_Reader := He.cls_ok (c.at_ 53 (f := .cls (Str.ofString "Reader")) rfl), mk_Reader := He.mkr_ok (c.at_ 54 (f := .mkr (Str.ofString "Reader")) rfl), n_Reader_code := He.noat_ok (c.at_ 55 (f := .noat (Str.ofString "Reader") (Str.ofString "code")) rfl), n_Reader_place := He.noat_ok (c.at_ 56 (f := .noat (Str.ofString "Reader") (Str.ofString "place")) rfl), e_BotError := He.glo_ok X G (c.at_ 57 (f := .glo (Str.ofString "BotError")) rfl), e_InvalidTick := He.glo_ok X G (c.at_ 58 (f := .glo (Str.ofString "InvalidTick")) rfl), e_InvalidNumber := He.glo_ok X G (c.at_ 59 (f := .glo (Str.ofString "InvalidNumber")) rfl), e_TooLong := He.glo_ok X G (c.at_ 60 (f := .glo (Str.ofString "TooLong")) rfl), e_DifferentShelves := He.glo_ok X G (c.at_ 61 (f := .glo (Str.ofString "DifferentShelves")) rfl), e_Contradiction := He.glo_ok X G (c.at_ 62 (f := .glo (Str.ofString "Contradiction")) rfl), e_CellFull := He.glo_ok X G (c.at_ 63 (f := .glo (Str.ofString "CellFull")) rfl), e_CellEmpty := He.glo_ok X G (c.at_ 64 (f := .glo (Str.ofString "CellEmpty")) rfl), e_InvalidName := He.glo_ok X G (c.at_ 65 (f := .glo (Str.ofString "InvalidName")) rfl), e_UnknownName := He.glo_ok X G (c.at_ 66 (f := .glo (Str.ofString "UnknownName")) rfl), e_SyntaxFault := He.glo_ok X G (c.at_ 67 (f := .glo (Str.ofString "SyntaxFault")) rfl), e_CheckFault := He.glo_ok X G (c.at_ 68 (f := .glo (Str.ofString "CheckFault")) rfl), e_InvalidCode := He.glo_ok X G (c.at_ 69 (f := .glo (Str.ofString "InvalidCode")) rfl), e_InvalidOperation := He.glo_ok X G (c.at_ 70 (f := .glo (Str.ofString "InvalidOperation")) rfl), xq_InvalidCode := ⟨SbH.oexB_ok ((exb_InvalidCode_ok hx_exb_InvalidCode).1), (exb_InvalidCode_ok hx_exb_InvalidCode).2.1, (exb_InvalidCode_ok hx_exb_InvalidCode).2.2.1, (exb_InvalidCode_ok hx_exb_InvalidCode).2.2.2.1, (exb_InvalidCode_ok hx_exb_InvalidCode).2.2.2.2.1⟩, xi_InvalidCode := (exb_InvalidCode_ok hx_exb_InvalidCode).2.2.2.2.2.1, xj_InvalidCode := (exb_InvalidCode_ok hx_exb_InvalidCode).2.2.2.2.2.2.1, xn_place_InvalidCode := (exb_InvalidCode_ok hx_exb_InvalidCode).2.2.2.2.2.2.2.1, xf_InvalidCode := ⟨(exb_InvalidCode_ok hx_exb_InvalidCode).2.2.2.2.2.2.2.2.1, (exb_InvalidCode_ok hx_exb_InvalidCode).2.2.2.2.2.2.2.2.2.1, (exb_InvalidCode_ok hx_exb_InvalidCode).2.2.2.2.2.2.2.2.2.2.1, (exb_InvalidCode_ok hx_exb_InvalidCode).2.2.2.2.2.2.2.2.2.2.2.1⟩, xd_InvalidCode := ⟨(exb_InvalidCode_ok hx_exb_InvalidCode).2.2.2.2.2.2.2.2.2.2.2.2.1, (exb_InvalidCode_ok hx_exb_InvalidCode).2.2.2.2.2.2.2.2.2.2.2.2.2.1⟩, xw_InvalidCode := SbH.cinB_ok ((exb_InvalidCode_ok hx_exb_InvalidCode).2.2.2.2.2.2.2.2.2.2.2.2.2.2.1), xk_InvalidCode := (exb_InvalidCode_ok hx_exb_InvalidCode).2.2.2.2.2.2.2.2.2.2.2.2.2.2.2.1, xb_InvalidCode := (exb_InvalidCode_ok hx_exb_InvalidCode).2.2.2.2.2.2.2.2.2.2.2.2.2.2.2.2.1, xt_InvalidCode := (exb_InvalidCode_ok hx_exb_InvalidCode).2.2.2.2.2.2.2.2.2.2.2.2.2.2.2.2.2.1, xe_InvalidCode := (exb_InvalidCode_ok hx_exb_InvalidCode).2.2.2.2.2.2.2.2.2.2.2.2.2.2.2.2.2.2.1, xc_InvalidCode := ⟨(exb_InvalidCode_ok hx_exb_InvalidCode).2.2.2.2.2.2.2.2.2.2.2.2.2.2.2.2.2.2.2.1, (exb_InvalidCode_ok hx_exb_InvalidCode).2.2.2.2.2.2.2.2.2.2.2.2.2.2.2.2.2.2.2.2.1, (exb_InvalidCode_ok hx_exb_InvalidCode).2.2.2.2.2.2.2.2.2.2.2.2.2.2.2.2.2.2.2.2.2.1, (exb_InvalidCode_ok hx_exb_InvalidCode).2.2.2.2.2.2.2.2.2.2.2.2.2.2.2.2.2.2.2.2.2.2.1, (exb_InvalidCode_ok hx_exb_InvalidCode).2.2.2.2.2.2.2.2.2.2.2.2.2.2.2.2.2.2.2.2.2.2.2.1, (exb_InvalidCode_ok hx_exb_InvalidCode).2.2.2.2.2.2.2.2.2.2.2.2.2.2.2.2.2.2.2.2.2.2.2.2.1, (exb_InvalidCode_ok hx_exb_InvalidCode).2.2.2.2.2.2.2.2.2.2.2.2.2.2.2.2.2.2.2.2.2.2.2.2.2.1, (exb_InvalidCode_ok hx_exb_InvalidCode).2.2.2.2.2.2.2.2.2.2.2.2.2.2.2.2.2.2.2.2.2.2.2.2.2.2.1⟩, xo_InvalidCode_InvalidTick := (exb_InvalidCode_ok hx_exb_InvalidCode).2.2.2.2.2.2.2.2.2.2.2.2.2.2.2.2.2.2.2.2.2.2.2.2.2.2.2.1, xo_InvalidCode_InvalidNumber := (exb_InvalidCode_ok hx_exb_InvalidCode).2.2.2.2.2.2.2.2.2.2.2.2.2.2.2.2.2.2.2.2.2.2.2.2.2.2.2.2.1, xo_InvalidCode_TooLong := (exb_InvalidCode_ok hx_exb_InvalidCode).2.2.2.2.2.2.2.2.2.2.2.2.2.2.2.2.2.2.2.2.2.2.2.2.2.2.2.2.2.1, xo_InvalidCode_DifferentShelves := (exb_InvalidCode_ok hx_exb_InvalidCode).2.2.2.2.2.2.2.2.2.2.2.2.2.2.2.2.2.2.2.2.2.2.2.2.2.2.2.2.2.2.1, xo_InvalidCode_Contradiction := (exb_InvalidCode_ok hx_exb_InvalidCode).2.2.2.2.2.2.2.2.2.2.2.2.2.2.2.2.2.2.2.2.2.2.2.2.2.2.2.2.2.2.2.1, xo_InvalidCode_CellFull := (exb_InvalidCode_ok hx_exb_InvalidCode).2.2.2.2.2.2.2.2.2.2.2.2.2.2.2.2.2.2.2.2.2.2.2.2.2.2.2.2.2.2.2.2.1, xo_InvalidCode_CellEmpty := (exb_InvalidCode_ok hx_exb_InvalidCode).2.2.2.2.2.2.2.2.2.2.2.2.2.2.2.2.2.2.2.2.2.2.2.2.2.2.2.2.2.2.2.2.2.1, xo_InvalidCode_InvalidName := (exb_InvalidCode_ok hx_exb_InvalidCode).2.2.2.2.2.2.2.2.2.2.2.2.2.2.2.2.2.2.2.2.2.2.2.2.2.2.2.2.2.2.2.2.2.2.1, xo_InvalidCode_UnknownName := (exb_InvalidCode_ok hx_exb_InvalidCode).2.2.2.2.2.2.2.2.2.2.2.2.2.2.2.2.2.2.2.2.2.2.2.2.2.2.2.2.2.2.2.2.2.2.2.1, xo_InvalidCode_SyntaxFault := (exb_InvalidCode_ok hx_exb_InvalidCode).2.2.2.2.2.2.2.2.2.2.2.2.2.2.2.2.2.2.2.2.2.2.2.2.2.2.2.2.2.2.2.2.2.2.2.2.1, xo_InvalidCode_CheckFault := (exb_InvalidCode_ok hx_exb_InvalidCode).2.2.2.2.2.2.2.2.2.2.2.2.2.2.2.2.2.2.2.2.2.2.2.2.2.2.2.2.2.2.2.2.2.2.2.2.2.1, xo_InvalidCode_InvalidCode := (exb_InvalidCode_ok hx_exb_InvalidCode).2.2.2.2.2.2.2.2.2.2.2.2.2.2.2.2.2.2.2.2.2.2.2.2.2.2.2.2.2.2.2.2.2.2.2.2.2.2.1, xo_InvalidCode_InvalidOperation := (exb_InvalidCode_ok hx_exb_InvalidCode).2.2.2.2.2.2.2.2.2.2.2.2.2.2.2.2.2.2.2.2.2.2.2.2.2.2.2.2.2.2.2.2.2.2.2.2.2.2.2.1, xv_InvalidCode := (exb_InvalidCode_ok hx_exb_InvalidCode).2.2.2.2.2.2.2.2.2.2.2.2.2.2.2.2.2.2.2.2.2.2.2.2.2.2.2.2.2.2.2.2.2.2.2.2.2.2.2.2, z_len := He.free_ok X G (c.at_ 71 (f := .free (Str.ofString "len")) rfl), z_abs := He.free_ok X G (c.at_ 72 (f := .free (Str.ofString "abs")) rfl), z_range := He.free_ok X G (c.at_ 73 (f := .free (Str.ofString "range")) rfl), z_str := He.free_ok X G (c.at_ 74 (f := .free (Str.ofString "str")) rfl), z_int := He.free_ok X G (c.at_ 75 (f := .free (Str.ofString "int")) rfl), z_tuple := He.free_ok X G (c.at_ 76 (f := .free (Str.ofString "tuple")) rfl), z_list := He.free_ok X G (c.at_ 77 (f := .free (Str.ofString "list")) rfl), z_sum := He.free_ok X G (c.at_ 78 (f := .free (Str.ofString "sum")) rfl), z_isinstance := He.free_ok X G (c.at_ 79 (f := .free (Str.ofString "isinstance")) rfl), z_bool := He.free_ok X G (c.at_ 80 (f := .free (Str.ofString "bool")) rfl), z_enumerate := He.free_ok X G (c.at_ 81 (f := .free (Str.ofString "enumerate")) rfl), z_zip := He.free_ok X G (c.at_ 82 (f := .free (Str.ofString "zip")) rfl), z_min := He.free_ok X G (c.at_ 83 (f := .free (Str.ofString "min")) rfl), z_all := He.free_ok X G (c.at_ 84 (f := .free (Str.ofString "all")) rfl), z_divmod := He.free_ok X G (c.at_ 85 (f := .free (Str.ofString "divmod")) rfl), z_max := He.free_ok X G (c.at_ 86 (f := .free (Str.ofString "max")) rfl), z_dict := He.free_ok X G (c.at_ 87 (f := .free (Str.ofString "dict")) rfl), z_sorted := He.free_ok X G (c.at_ 88 (f := .free (Str.ofString "sorted")) rfl), z_ValueError := He.free_ok X G (c.at_ 89 (f := .free (Str.ofString "ValueError")) rfl), c_MOVES := He.glo_ok X G (c.at_ 90 (f := .glo (Str.ofString "MOVES")) rfl), q_MOVES := (SbH.tupB_ok hx_tup_MOVES (by decide)).1, k_MOVES := (SbH.tupB_ok hx_tup_MOVES (by decide)).2, c_JUMPS := He.glo_ok X G (c.at_ 91 (f := .glo (Str.ofString "JUMPS")) rfl), q_JUMPS := (SbH.tupB_ok hx_tup_JUMPS (by decide)).1, k_JUMPS := (SbH.tupB_ok hx_tup_JUMPS (by decide)).2, c_KEYWORDS := He.glo_ok X G (c.at_ 92 (f := .glo (Str.ofString "KEYWORDS")) rfl), q_KEYWORDS := (SbH.tupB_ok hx_tup_KEYWORDS (by decide)).1, k_KEYWORDS := (SbH.tupB_ok hx_tup_KEYWORDS (by decide)).2, c_LETTERS := e_LETTERS, c_DIGITS := e_DIGITS, c_SPACES := e_SPACES, c_SIGNS := e_SIGNS, c_MAX_LETTERS := e_MAX_LETTERS, c_MAX_DIGITS := e_MAX_DIGITS, c_NAME := e_NAME, c_NUMBER := e_NUMBER, c_KEYWORD := e_KEYWORD, c_SIGN := e_SIGN, c_END := e_END, c_MIN_CELLS := e_MIN_CELLS, c_MAX_CELLS := e_MAX_CELLS, c_MAX_BOXES := e_MAX_BOXES, c_MAX_STEPS := e_MAX_STEPS, c_TAG := e_TAG, c_BYTE := e_BYTE, c_WORDS := He.glo_ok X G (c.at_ 110 (f := .glo (Str.ofString "WORDS")) rfl), q_WORDS := (SbH.tupB_ok hx_tup_WORDS (by decide)).1, k_WORDS := (SbH.tupB_ok hx_tup_WORDS (by decide)).2 }
  have bl := FunD.bindsA (ps := ["_law_script"]) g_law fun _ _ _ _ _ _ us hl => match us, hl with | [_], _ => rfl
  refine ⟨ad.d_law, hTf.map fun p => He.cT K p, spLaw ad K, fun p hp => ?_, fun p hp => ?_, fun p hp => ?_, fun s v => bl s [v] rfl, fun H a ns hl _ hH hS => ⟨a, ns, rfl, hS, hl, fun p hp => ?_, fun _ => rfl⟩, fun base _ _ hTB => ok_law T { t_law := hTB _ (List.mem_map.mpr ⟨((Str.ofString "law"), none), by simp [hTf], rfl⟩) }⟩
  · obtain ⟨q, hq, rfl⟩ := List.mem_map.mp hp; exact c.empty q hq
  · obtain ⟨q, hq, rfl⟩ := List.mem_map.mp hp; exact c.out q hq
  · obtain ⟨q, hq, rfl⟩ := List.mem_map.mp hp; exact PySem.W.codeHd_of_K X (c.hd q hq)
  rcases List.mem_cons.mp hp with rfl | hp
  · exact LamX.TabS.nil (hH _ (List.mem_map.mpr ⟨((Str.ofString "law"), none), by simp [hTf], rfl⟩))
  exact absurd hp (by simp)
end Sb
open PySem PySem.W PySem.Calls PyProof.Rows in
set_option maxRecDepth 100000 in
set_option maxHeartbeats 0 in
theorem PySem.Challenge.cw_shelfbots_k15_invalid_bytes_holds : PySem.Challenge.rw_shelfbots_k15_invalid_bytes.Holds := by
  w_on; o_law
  refine HandSHeadRun.head_any (r := OpenLaw.row PySem.Challenge.rw_shelfbots_k15_invalid_bytes) (q := view (OpenLaw.row PySem.Challenge.rw_shelfbots_k15_invalid_bytes).prog [64]) (H := Sb.hHk) (ob := Sb.hOb) (M := 40000) (loose := Sb.hNm) (d := HandSHeadRun.topDef (OpenLaw.row PySem.Challenge.rw_shelfbots_k15_invalid_bytes).prog 64) (kwd := []) Sb.hOb_eq
    (by kernel_rfl) (fun s => by kernel_rfl) Sb.hRun (by kernel_rfl) (by kernel_rfl) (by kernel_rfl) (by rfl) (by first | assumption | decide +kernel) (by decide +kernel) ⟨rfl, rfl, rfl, rfl, rfl, by decide +kernel⟩ ?hw ?hc
  case hw => w_witness2
  case hc =>
    refine LamX.walk_ofTsE (l := PySem.Challenge.rw_shelfbots_k15_invalid_bytes) (n := 63) (k := 20) (x := "_law_script") (CX := fun _ => L2.CX0) rfl (by decide) (by kernel_rfl) ⟨rfl, by decide, by decide⟩ ?F (fun _ _ _ _ _ z => z)
    intro w mg fa h Y G hmg0
    obtain ⟨K, KX, c⟩ := Y
    have hmg : mg ("law" : PySem.Str) = some (.ref fa) := by
      have e : (HandSHeadRun.topDef (OpenLaw.row PySem.Challenge.rw_shelfbots_k15_invalid_bytes).prog 64).name = ("law" : PySem.Str) := by kernel_rfl
      rw [← e]
      exact hmg0
    exact ⟨K, KX, Sb.hAll KX G hmg c⟩


