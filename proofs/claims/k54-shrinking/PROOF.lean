import PyProof.Rows.All
import Wide.All
import OpenK.AllK
import Wide.FinOn
import HandS.ForMost
import HandS.ForExc
import HandS.Evl
import HandS.TupAny
import HandS.Walk
import HandS.AnyAll
import HandS.Lambda
import PySem.Challenge.RW_choicerows_k54_whole_shrinking_never_gro
import PyProof.EqAt
import PyProof.EqKinds
import PyProof.TupleCall
import Open.SpecLaws
import KE.OsGo
import KE.KSuper
import HandS.ForSpec
import HandS.ExcSuper
import HandS.ExcInit
import HandS.SortInts
import KE.OsSorts
import KE.DataMinMax
import KE.LtData
import KE.SortKeyHeap
import HandS.GenList
import KE.KDictKeyed
import KE.KDictWalk
import HandS.Iter
import KE.GoesComp
import KE.GoesRaise
import HandS.Comp
import HandS.Exc
import HandS.ExcOwn
import KE.KStateDown
import Lean
import HandS.Head0
import HandS.Head1
import HandS.Head2
import HandS.HeadEnd
import HandS.HeadHook1
import HandS.HeadHook2
import HandS.HeadHook3
import HandS.HeadHook4
import HandS.HeadWalk
import HandS.HeadNt
set_option Elab.async false
set_option linter.all false
set_option maxRecDepth 100000
set_option maxHeartbeats 1000000
/-! # The data logic: judgements over HandS that speak of the data in the slots, the heap hidden -/
namespace L2
open PySem Evl

/-! ## 1. Data that stand still -/
mutual
theorem dp_mono {K : PySem.W.Frag} {G G' : Hp} (e : Ex G G') : ∀ (d : PyData) (v : V), Dp K G v d → Dp K G' v d
  | .none, _, .non => .non
  | .bool _, _, .bl b => .bl b
  | .int _, _, .int i => .int i
  | .str _, _, .str x => .str x
  | .list ds, _, .lst h1 h2 => .lst (ex_l e h1) (dpAll_mono e ds _ h2)
  | .tuple ds, _, .tup h1 h2 => .tup (ex_t e h1) (dpAll_mono e ds _ h2)
  | .dict _, _, h => nomatch h
theorem dpAll_mono {K : PySem.W.Frag} {G G' : Hp} (e : Ex G G') : ∀ (ds : List PyData) (vs : List V), DpAll K G vs ds → DpAll K G' vs ds
  | [], _, .nil => .nil
  | d :: ds, _, .cons h1 h2 => .cons (dp_mono e d _ h1) (dpAll_mono e ds _ h2)
end
section
variable {K : PySem.W.Frag} {G G' : Hp} {v : V} {vs ws : List V} {ds es : List PyData}
theorem Dp.mono {d : PyData} (h : Dp K G v d) (e : Ex G G') : Dp K G' v d := dp_mono e d v h
theorem DpAll.mono (h : DpAll K G vs ds) (e : Ex G G') : DpAll K G' vs ds := dpAll_mono e ds vs h
theorem dpi_int {i : Int} (h : Dp K G v (.int i)) : v = .int i := by cases h; rfl
theorem dpi_str {x : Str} (h : Dp K G v (.str x)) : v = .str x := by cases h; rfl
theorem dpi_bool {b : Bool} (h : Dp K G v (.bool b)) : v = .bl b := by cases h; rfl
theorem dpi_none (h : Dp K G v .none) : v = .non := by cases h; rfl
theorem dpi_tup (h : Dp K G v (.tuple ds)) : ∃ a xs, v = .ref a ∧ SqT K G a xs ∧ DpAll K G xs ds := by
  cases h with
  | tup h1 h2 => exact ⟨_, _, rfl, h1, h2⟩
theorem dpi_lst (h : Dp K G v (.list ds)) : ∃ a xs, v = .ref a ∧ SqL K G a xs ∧ DpAll K G xs ds := by
  cases h with
  | lst h1 h2 => exact ⟨_, _, rfl, h1, h2⟩
theorem DpAll.length : ∀ {vs : List V} {ds : List PyData}, DpAll K G vs ds → vs.length = ds.length
  | _, _, .nil => rfl
  | _, _, .cons _ t => congrArg (· + 1) (DpAll.length t)
theorem DpAll.get : ∀ {vs : List V} {ds : List PyData} {i : Nat} {d : PyData}, DpAll K G vs ds → ds[i]? = some d → ∃ v, vs[i]? = some v ∧ Dp K G v d
  | _, _, i, _, .nil, e => by simp at e
  | _, _, 0, _, .cons h _, e => by
    simp only [List.getElem?_cons_zero, Option.some.injEq] at e
    subst e
    exact ⟨_, rfl, h⟩
  | _, _, i + 1, d, .cons _ t, e => by
    obtain ⟨v, h1, h2⟩ := DpAll.get (i := i) t (by simpa using e)
    exact ⟨v, by simpa using h1, h2⟩
theorem DpAll.getV : ∀ {vs : List V} {ds : List PyData} {i : Nat} {v : V}, DpAll K G vs ds → vs[i]? = some v → ∃ d, ds[i]? = some d ∧ Dp K G v d
  | _, _, i, _, .nil, e => by simp at e
  | _, _, 0, _, .cons h _, e => by
    simp only [List.getElem?_cons_zero, Option.some.injEq] at e
    subst e
    exact ⟨_, rfl, h⟩
  | _, _, i + 1, d, .cons _ t, e => by
    obtain ⟨v, h1, h2⟩ := DpAll.getV (i := i) t (by simpa using e)
    exact ⟨v, by simpa using h1, h2⟩
theorem DpAll.append : ∀ {vs ws : List V} {ds es : List PyData}, DpAll K G vs ds → DpAll K G ws es → DpAll K G (vs ++ ws) (ds ++ es)
  | _, _, _, _, .nil, h => h
  | _, _, _, _, .cons h t, h2 => .cons h (DpAll.append t h2)
theorem DpAll.drop : ∀ (n : Nat) {vs : List V} {ds : List PyData}, DpAll K G vs ds → DpAll K G (vs.drop n) (ds.drop n)
  | 0, _, _, h => h
  | _ + 1, _, _, .nil => .nil
  | n + 1, _, _, .cons _ t => DpAll.drop n t
theorem DpAll.take : ∀ (n : Nat) {vs : List V} {ds : List PyData}, DpAll K G vs ds → DpAll K G (vs.take n) (ds.take n)
  | 0, _, _, h => .nil
  | _ + 1, _, _, .nil => .nil
  | n + 1, _, _, .cons h t => .cons h (DpAll.take n t)
theorem DpAll.reverse : ∀ {vs : List V} {ds : List PyData}, DpAll K G vs ds → DpAll K G vs.reverse ds.reverse
  | _, _, .nil => .nil
  | _, _, .cons h t => by
    rw [List.reverse_cons, List.reverse_cons]
    exact DpAll.append (DpAll.reverse t) (.cons h .nil)
theorem DpAll.ints : ∀ {vs : List V} {ns : List Int}, DpAll K G vs (ns.map .int) → vs = ns.map V.int
  | _, [], .nil => rfl
  | _, n :: ns, .cons h t => by
    rw [dpi_int h, DpAll.ints t]
    rfl
theorem DpAll.bools : ∀ {vs : List V} {ns : List Bool}, DpAll K G vs (ns.map .bool) → vs = ns.map V.bl
  | _, [], .nil => rfl
  | _, n :: ns, .cons h t => by
    rw [dpi_bool h, DpAll.bools t]
    rfl
theorem DpAll.ofInts : ∀ (ns : List Int), DpAll K G (ns.map V.int) (ns.map .int)
  | [] => .nil
  | n :: ns => .cons (.int n) (DpAll.ofInts ns)
end

end L2
namespace CR
open PySem L2 Evl
/-! ## 2. Heaps that grow -/
/-- all data are tracked: none of the module's own -/
abbrev K0 : PySem.W.Frag := []
theorem l_of {K : PySem.W.Frag} {H : Hp} {a : Addr} {xs : List V} (h : SqL K0 H a xs) : SqL K H a xs := h.elim .inl fun ⟨_, _, _, z, _⟩ => nomatch z
theorem t_of {K : PySem.W.Frag} {H : Hp} {a : Addr} {xs : List V} (h : SqT K0 H a xs) : SqT K H a xs := h.elim .inl fun ⟨_, _, _, z, _⟩ => nomatch z
theorem l_rd {H : Hp} {a : Addr} {xs : List V} (h : SqL K0 H a xs) : Rd H a (.lst xs) := h.elim (fun z => z) fun ⟨_, _, _, z, _⟩ => nomatch z
theorem t_rd {H : Hp} {a : Addr} {xs : List V} (h : SqT K0 H a xs) : Rd H a (.tup xs) := h.elim (fun z => z) fun ⟨_, _, _, z, _⟩ => nomatch z
mutual
theorem dpK {K : PySem.W.Frag} {G : Hp} : ∀ (d : PyData) (v : V), Dp K0 G v d → Dp K G v d
  | .none, _, .non => .non
  | .bool _, _, .bl b => .bl b
  | .int _, _, .int i => .int i
  | .str _, _, .str x => .str x
  | .list ds, _, .lst h1 h2 => .lst (l_of h1) (dpAllK ds _ h2)
  | .tuple ds, _, .tup h1 h2 => .tup (t_of h1) (dpAllK ds _ h2)
  | .dict _, _, h => nomatch h
theorem dpAllK {K : PySem.W.Frag} {G : Hp} : ∀ (ds : List PyData) (vs : List V), DpAll K0 G vs ds → DpAll K G vs ds
  | [], _, .nil => .nil
  | d :: ds, _, .cons h1 h2 => .cons (dpK d _ h1) (dpAllK ds _ h2)
end
/-- not a table of code objects -/
def NT (o : HO) : Prop := ∀ ps, o ≠ .tbl ps
/-- a table of code objects, and the name that all of them bear, if that is known -/
abbrev TabN := Addr × Option Str
/-- the object at c is a code object of the name q -/
abbrev CodeO (c : Addr) (q : Str) : HO := LamX.CodeO c q
def Tab (H : Hp) (P : TabN) : Prop := ∃ ps : Array Value, H P.1 = some (.tbl ps) ∧ TriplesOk ps.toList ∧ ∀ q, P.2 = some q → ∀ (pos : Pos) (cv : Value), codeAmong pos ps.toList = some cv → ∃ c, cv = .ref c ∧ H c = some (CodeO c q)
theorem codeO_nt {c : Addr} {q : Str} : NT (CodeO c q) := fun ps => LamX.codeO_ne ps
theorem Tab.step {H H2 : Hp} {P : TabN} (h : Tab H P) (h1 : ∀ ps, H P.1 = some (.tbl ps) → H2 P.1 = some (.tbl ps)) (h2 : ∀ c q, H c = some (CodeO c q) → H2 c = some (CodeO c q)) : Tab H2 P := by
  obtain ⟨ps, a, b, c⟩ := h
  refine ⟨ps, h1 ps a, b, fun q e pos cv z => ?_⟩
  obtain ⟨x, e1, e2⟩ := c q e pos cv z
  exact ⟨x, e1, h2 _ _ e2⟩
theorem Tab.tabG {H : Hp} {P : TabN} (h : Tab H P) : GxR.TabG H P.1 := let ⟨ps, a, b, _⟩ := h; ⟨ps, a, b⟩
/-- the tables are tables, and not among what stands still -/
def TabsOk (T : List TabN) (G H : Hp) : Prop := ∀ P ∈ T, Tab H P ∧ G P.1 = none
/-- G: what stands still; H: all. From (G, H) on, to (G2, H2); m: what else may change; T: the tables -/
structure Grow (T : List TabN) (m : Addr → Prop) (G H G2 H2 : Hp) : Prop where
  g : Ex G G2
  gh : Ex G2 H2
  h : ∀ a o, H a = some o → NT o → ¬ m a → H2 a = some o
  t : TabsOk T G2 H2
  fr : ∀ a, H a ≠ none → G a = none → G2 a = none
  d : ∀ a, H a ≠ none → H2 a ≠ none
abbrev m0 : Addr → Prop := fun _ => False
section
variable {T : List TabN} {m : Addr → Prop} {G H G1 H1 G2 H2 : Hp}
theorem Grow.refl (e : Ex G H) (t : TabsOk T G H) : Grow T m G H G H := ⟨Ex.refl G, e, fun _ _ h _ _ => h, t, fun _ _ h => h, fun _ h => h⟩
theorem Grow.trans (a : Grow T m G H G1 H1) (b : Grow T m G1 H1 G2 H2) : Grow T m G H G2 H2 where
  g := a.g.trans b.g
  gh := b.gh
  h := fun x o e n nm => b.h x o (a.h x o e n nm) n nm
  t := b.t
  fr := fun x h1 h2 => b.fr x (a.d x h1) (a.fr x h1 h2)
  d := fun x h => b.d x (a.d x h)
theorem Grow.weak (a : Grow T m0 G H G2 H2) : Grow T m G H G2 H2 := ⟨a.g, a.gh, fun x o e n _ => a.h x o e n fun z => z, a.t, a.fr, a.d⟩
/-- a new object that stands still -/
theorem Grow.laid {p : Addr} {o : HO} (e : Ex G H) (t : TabsOk T G H) (hp : H p = none) : Grow T m G H (upd G p o) (upd H p o) := by
  have gp : G p = none := fresh_back e hp
  refine ⟨Ex.new gp, fun a u h => ?_, fun a u h _ _ => ?_, fun P hP => ?_, fun a h1 h2 => ?_, fun a h => ?_⟩
  · by_cases ha : a = p
    · subst ha; rw [upd_same] at h ⊢; exact h
    · rw [upd_ne ha] at h ⊢; exact e a u h
  · rw [upd_ne (ne_of_none h hp)]; exact h
  · refine ⟨(t P hP).1.step (fun ps h1 => by rw [upd_ne (ne_of_none h1 hp)]; exact h1) fun c q h1 => by rw [upd_ne (ne_of_none h1 hp)]; exact h1, ?_⟩
    obtain ⟨⟨ps, h1, _⟩, h2⟩ := t P hP
    rw [upd_ne (ne_of_none h1 hp)]
    exact h2
  · rw [upd_ne (fun z => by subst z; exact h1 hp)]; exact h2
  · rw [upd_ne (fun z => by subst z; exact h hp)]; exact h
/-- .. that may change later -/
theorem Grow.laidO {p : Addr} {o : HO} (e : Ex G H) (t : TabsOk T G H) (hp : H p = none) : Grow T m G H G (upd H p o) := by
  refine ⟨Ex.refl G, fun a u h => ?_, fun a u h _ _ => ?_, fun P hP => ?_, fun a h1 h2 => h2, fun a h => ?_⟩
  · rw [upd_ne (ne_of_none (e a u h) hp)]; exact e a u h
  · rw [upd_ne (ne_of_none h hp)]; exact h
  · exact ⟨(t P hP).1.step (fun ps h1 => by rw [upd_ne (ne_of_none h1 hp)]; exact h1) fun c q h1 => by rw [upd_ne (ne_of_none h1 hp)]; exact h1, (t P hP).2⟩
  · rw [upd_ne (fun z => by subst z; exact h hp)]; exact h
end

/-! ## 3. The slots -/
/-- fixed through a def's body: the tables, what else may change, the class Draw, the heaps at the entry -/
structure Bd where
  T : List TabN
  m : Addr → Prop
  C : Addr
  G0 : Hp
  H0 : Hp
/-- what a slot holds -/
inductive SD where
  | un
  | d (x : PyData)
  | own (xs : List PyData)
  | obj (p : Addr) (row : PyData) (used : Int)
  | ext (φ : Addr → Hp → Hp → Prop)
  | ref (a : Addr)
def SD.owns : SD → Bool
  | .own _ => true
  | .obj _ _ _ => true
  | .ext _ => true
  | _ => false
/-- an instance of Draw -/
def ObjAt (C : Addr) (G H : Hp) (p : Addr) (row : PyData) (used : Int) : Prop :=
  ∃ dx fs rv, H p = some (.ins C dx fs) ∧ fs.lookup ("row" : Str) = some rv ∧ fs.lookup ("used" : Str) = some (.int used) ∧ fs.length ≤ 2 ∧ (∀ f, f ≠ ("row" : Str) → f ≠ ("used" : Str) → fs.lookup f = none) ∧ Dp K0 G rv row
/-- a property of an own object that stays while the object itself stays and the rest grows -/
def Stable (φ : Addr → Hp → Hp → Prop) : Prop := ∀ (a : Addr) (G H G2 H2 : Hp), φ a G H → Ex G G2 → Ex G2 H2 → H2 a = H a → φ a G2 H2
def SlotOk (B : Bd) (G H : Hp) (sd : SD) (v : Option (Option V)) : Prop :=
  match sd with
  | .un => True
  | .d x => ∃ u, v = some (some u) ∧ Dp K0 G u x
  | .own xs => ∃ a vs, v = some (some (.ref a)) ∧ G a = none ∧ B.H0 a = none ∧ H a = some (.lst vs) ∧ DpAll K0 G vs xs
  | .obj p row used => v = some (some (.ref p)) ∧ G p = none ∧ (B.H0 p = none ∨ B.m p) ∧ ObjAt B.C G H p row used
  | .ref a => v = some (some (.ref a))
  | .ext φ => ∃ a, v = some (some (.ref a)) ∧ G a = none ∧ B.H0 a = none ∧ (∃ o, H a = some o ∧ NT o) ∧ Stable φ ∧ φ a G H
structure Sta (B : Bd) (δ : List SD) (σ : L2.St) (G H : Hp) : Prop where
  gr : Grow B.T B.m B.G0 B.H0 G H
  len : σ.length = δ.length
  ok : ∀ (i : Nat) (sd : SD), δ[i]? = some sd → SlotOk B G H sd σ[i]?
  sep : ∀ (i j : Nat) (si sj : SD) (a : Addr), δ[i]? = some si → δ[j]? = some sj → si.owns = true → sj.owns = true → σ[i]? = some (some (.ref a)) → σ[j]? = some (some (.ref a)) → i = j
section
variable {B : Bd} {δ : List SD} {σ : L2.St} {G H G2 H2 : Hp}
theorem Sta.e (s : Sta B δ σ G H) : Ex G H := s.gr.gh
theorem Sta.t (s : Sta B δ σ G H) : TabsOk B.T G H := s.gr.t
theorem Sta.refl (s : Sta B δ σ G H) : Grow B.T m0 G H G H := Grow.refl s.e s.t
theorem SlotOk.grow {sd : SD} {v : Option (Option V)} (h : SlotOk B G H sd v) (g : Grow B.T m0 G H G2 H2) : SlotOk B G2 H2 sd v := by
  cases sd with
  | un => trivial
  | ref a => exact h
  | d x =>
    obtain ⟨u, e, h⟩ := h
    exact ⟨u, e, h.mono g.g⟩
  | own xs =>
    obtain ⟨a, vs, e, h1, h2, h3, h4⟩ := h
    exact ⟨a, vs, e, g.fr a (by rw [h3]; simp) h1, h2, g.h a _ h3 (fun _ z => nomatch z) fun z => z, h4.mono g.g⟩
  | obj p row used =>
    obtain ⟨e, h1, h2, dx, fs, rv, h3, h4, h5, h6, h7, h8⟩ := h
    exact ⟨e, g.fr p (by rw [h3]; simp) h1, h2, dx, fs, rv, g.h p _ h3 (fun _ z => nomatch z) fun z => z, h4, h5, h6, h7, h8.mono g.g⟩
  | ext φ =>
    obtain ⟨a, e, h1, h2, ⟨o, h3, h4⟩, h5, h6⟩ := h
    exact ⟨a, e, g.fr a (by rw [h3]; simp) h1, h2, ⟨o, g.h a _ h3 h4 fun z => z, h4⟩, h5, h5 _ _ _ _ _ h6 g.g g.gh (by rw [h3]; exact g.h a _ h3 h4 fun z => z)⟩
theorem Sta.grow (s : Sta B δ σ G H) (g : Grow B.T m0 G H G2 H2) : Sta B δ σ G2 H2 :=
  ⟨s.gr.trans g.weak, s.len, fun i sd e => (s.ok i sd e).grow g, s.sep⟩
/-- a slot gets data -/
theorem Sta.setD {i : Nat} {v : V} {x : PyData} (s : Sta B δ σ G H) (h : Dp K0 G v x) : Sta B (δ.set i (.d x)) (σ.set i (some v)) G H := by
  refine ⟨s.gr, by rw [List.length_set, List.length_set, s.len], fun j sd e => ?_, fun j k sj sk a e1 e2 o1 o2 f1 f2 => ?_⟩
  · by_cases hj : i = j
    · subst hj
      have hi : i < δ.length := by
        have := (List.getElem?_eq_some_iff.mp e).1
        simpa using this
      rw [List.getElem?_set_self hi] at e
      cases e
      exact ⟨v, by rw [List.getElem?_set_self (by rw [s.len]; exact hi)], h⟩
    · rw [List.getElem?_set_ne hj] at e ⊢
      exact s.ok j sd e
  · have key : ∀ {j : Nat} {sj : SD}, (δ.set i (.d x))[j]? = some sj → sj.owns = true → i ≠ j := fun {j sj} e1 o1 hj => by
      subst hj
      have hi : i < δ.length := by
        have := (List.getElem?_eq_some_iff.mp e1).1
        simpa using this
      rw [List.getElem?_set_self hi] at e1
      cases e1; cases o1
    have n1 := key e1 o1
    have n2 := key e2 o2
    rw [List.getElem?_set_ne n1] at e1 f1
    rw [List.getElem?_set_ne n2] at e2 f2
    exact s.sep j k sj sk a e1 e2 o1 o2 f1 f2
/-- a slot is forgotten -/
theorem Sta.forget {i : Nat} {o : Option V} (s : Sta B δ σ G H) : Sta B (δ.set i .un) (σ.set i o) G H := by
  refine ⟨s.gr, by rw [List.length_set, List.length_set, s.len], fun j sd e => ?_, fun j k sj sk a e1 e2 o1 o2 f1 f2 => ?_⟩
  · by_cases hj : i = j
    · subst hj
      have hi : i < δ.length := by
        have := (List.getElem?_eq_some_iff.mp e).1
        simpa using this
      rw [List.getElem?_set_self hi] at e
      cases e
      trivial
    · rw [List.getElem?_set_ne hj] at e ⊢
      exact s.ok j sd e
  · have key : ∀ {j : Nat} {sj : SD}, (δ.set i .un)[j]? = some sj → sj.owns = true → i ≠ j := fun {j sj} e1 o1 hj => by
      subst hj
      have hi : i < δ.length := by
        have := (List.getElem?_eq_some_iff.mp e1).1
        simpa using this
      rw [List.getElem?_set_self hi] at e1
      cases e1; cases o1
    have n1 := key e1 o1
    have n2 := key e2 o2
    rw [List.getElem?_set_ne n1] at e1 f1
    rw [List.getElem?_set_ne n2] at e2 f2
    exact s.sep j k sj sk a e1 e2 o1 o2 f1 f2
/-- less is known of a slot -/
theorem Sta.un {i : Nat} (s : Sta B δ σ G H) : Sta B (δ.set i .un) σ G H := by
  refine ⟨s.gr, by rw [List.length_set, s.len], fun j sd e => ?_, fun j k sj sk a e1 e2 o1 o2 f1 f2 => ?_⟩
  · by_cases hj : i = j
    · subst hj
      have hi : i < δ.length := by
        have := (List.getElem?_eq_some_iff.mp e).1
        simpa using this
      rw [List.getElem?_set_self hi] at e
      cases e
      trivial
    · rw [List.getElem?_set_ne hj] at e
      exact s.ok j sd e
  · have key : ∀ {j : Nat} {sj : SD}, (δ.set i .un)[j]? = some sj → sj.owns = true → δ[j]? = some sj := fun {j sj} e1 o1 => by
      by_cases hj : i = j
      · subst hj
        have hi : i < δ.length := by
          have := (List.getElem?_eq_some_iff.mp e1).1
          simpa using this
        rw [List.getElem?_set_self hi] at e1
        cases e1; cases o1
      · rw [List.getElem?_set_ne hj] at e1
        exact e1
    exact s.sep j k sj sk a (key e1 o1) (key e2 o2) o1 o2 f1 f2
/-- a slot gets an object of the def's own -/
theorem Sta.setO {i : Nat} {a : Addr} {o : HO} {sd : SD} (s : Sta B δ σ G H) (ha : H a = none) (h : SlotOk B G (upd H a o) sd (some (some (.ref a)))) :
    Sta B (δ.set i sd) (σ.set i (some (.ref a))) G (upd H a o) := by
  have g : Grow B.T m0 G H G (upd H a o) := Grow.laidO s.e s.t ha
  have s2 := s.grow g
  have noA : ∀ {j : Nat} {sj : SD}, δ[j]? = some sj → sj.owns = true → σ[j]? = some (some (.ref a)) → False := fun {j sj} e1 o1 f1 => by
    have z := s.ok j sj e1
    cases sj with
    | un => cases o1
    | ref a => cases o1
    | d x => cases o1
    | own xs =>
      obtain ⟨b, vs, e, _, _, h3, _⟩ := z
      rw [f1] at e; cases e
      rw [ha] at h3; cases h3
    | obj p row used =>
      obtain ⟨e, _, _, dx, fs, rv, h3, _⟩ := z
      rw [f1] at e; cases e
      rw [ha] at h3; cases h3
    | ext φ =>
      obtain ⟨b, e, _, _, ⟨o, h3, _⟩, _⟩ := z
      rw [f1] at e; cases e
      rw [ha] at h3; cases h3
  refine ⟨s2.gr, by rw [List.length_set, List.length_set, s.len], fun j sd' e => ?_, fun j k sj sk b e1 e2 o1 o2 f1 f2 => ?_⟩
  · by_cases hj : i = j
    · subst hj
      have hi : i < δ.length := by
        have := (List.getElem?_eq_some_iff.mp e).1
        simpa using this
      rw [List.getElem?_set_self hi] at e
      cases e
      rw [List.getElem?_set_self (by rw [s.len]; exact hi)]
      exact h
    · rw [List.getElem?_set_ne hj] at e ⊢
      exact s2.ok j sd' e
  · by_cases n1 : i = j
    · by_cases n2 : i = k
      · exact n1.symm.trans n2
      · subst n1
        have hi : i < δ.length := by
          have := (List.getElem?_eq_some_iff.mp e1).1
          simpa using this
        rw [List.getElem?_set_self (by rw [s.len]; exact hi)] at f1
        cases f1
        rw [List.getElem?_set_ne n2] at e2 f2
        exact (noA e2 o2 f2).elim
    · rw [List.getElem?_set_ne n1] at e1 f1
      by_cases n2 : i = k
      · subst n2
        have hi : i < δ.length := by
          have := (List.getElem?_eq_some_iff.mp e2).1
          simpa using this
        rw [List.getElem?_set_self (by rw [s.len]; exact hi)] at f2
        cases f2
        exact (noA e1 o1 f1).elim
      · rw [List.getElem?_set_ne n2] at e2 f2
        exact s.sep j k sj sk b e1 e2 o1 o2 f1 f2
end
end CR

set_option Elab.async false
set_option linter.all false
set_option maxRecDepth 100000
set_option maxHeartbeats 1000000
/-! # The data logic, 2: expressions and tests -/
namespace CR
open PySem L2 Evl
/-! ## The meaning of a piece of syntax, as a reading -/
def semE (X : Cx) (e : Expr) : TE := fun σ H Q => ∀ (pins : List (Addr × Obj)) (s : Shared), Inv X pins σ H s → wpAny (model X.prog X.w) X.A (eval e X.env) (EP X pins σ Q) X.xe s
def semT (X : Cx) (e : Expr) : TT := fun σ H Q => ∀ (pins : List (Addr × Obj)) (s : Shared), Inv X pins σ H s → wpAny (model X.prog X.w) X.A (isTrue e X.env (eval e X.env)) (TP X pins σ Q) X.xe s
/-- .. of an and, an or, whatever its whole is -/
def semW (X : Cx) (e : Expr) : TT := fun σ H Q => ∀ (whole : Sem Value) (pins : List (Addr × Obj)) (s : Shared), Inv X pins σ H s → wpAny (model X.prog X.w) X.A (isTrue e X.env whole) (TP X pins σ Q) X.xe s
def semA (X : Cx) (es : List Expr) : TA := fun σ H Q => ∀ (pos : Pos) (pins : List (Addr × Obj)) (s : Shared), Inv X pins σ H s → wpAny (model X.prog X.w) X.A (spliced (backTo pos (starEach es X.env))) (AP X pins σ Q) X.xe s
def semG (X : Cx) (tg : Expr) : TG := fun v σ H Q => ∀ (pins : List (Addr × Obj)) (s : Shared) (u : Value), Inv X pins σ H s → RelV v u → wpAny (model X.prog X.w) X.A (assign tg X.env u) (fun _ s' => ∃ σ' H', Inv X pins σ' H' s' ∧ Q σ' H') X.xe s
def semGs (X : Cx) (ts : List Expr) : TGs := fun vs σ H Q => ∀ (pins : List (Addr × Obj)) (s : Shared) (us : List Value), Inv X pins σ H s → Vals vs us → wpAny (model X.prog X.w) X.A (assignInOrder ((assignEach ts X.env).map (·.2)) us) (fun _ s' => ∃ σ' H', Inv X pins σ' H' s' ∧ Q σ' H') X.xe s
def semI (X : Cx) (tg iter : Expr) : TI := fun σ H R => ∀ (pins : List (Addr × Obj)) (s : Shared), Inv X pins σ H s → wpAny (model X.prog X.w) X.A (eval iter X.env) (fun v s1 => wpAny (model X.prog X.w) X.A (pyIter v) (PIE X pins σ tg R) X.xe s1) X.xe s
def semS (X : Cx) (st : Stmt) : TS := fun D σ H => ∀ (pins : List (Addr × Obj)) (s : Shared), Inv X pins σ H s → wpAny (model X.prog X.w) X.A (exec st X.env) (SP X pins D) X.xe s
def semSs (X : Cx) (st : List Stmt) : TS := fun D σ H => ∀ (pins : List (Addr × Obj)) (s : Shared), Inv X pins σ H s → wpAny (model X.prog X.w) X.A (execs st X.env) (SP X pins D) X.xe s
section
variable {X : Cx}
theorem pe_sem {e : Expr} : PE X e (semE X e) := ⟨fun pins s _ _ _ I h => h pins s I⟩
theorem pt_sem {e : Expr} : PT X e (semT X e) := ⟨fun pins s _ _ _ I h => h pins s I⟩
theorem pw_sem {e : Expr} : PW X e (semW X e) := ⟨fun wh pins s _ _ _ I h => h wh pins s I⟩
theorem pa_sem {es : List Expr} : PA X es (semA X es) := ⟨fun pos pins s _ _ _ I h => h pos pins s I⟩
theorem pg_sem {e : Expr} : PG X e (semG X e) := ⟨fun pins s _ _ _ u _ I r h => h pins s u I r⟩
theorem pgs_sem {es : List Expr} : PGs X es (semGs X es) := ⟨fun pins s _ _ _ us _ I r h => h pins s us I r⟩
theorem pi_sem {tg iter : Expr} : PI X tg iter (semI X tg iter) := ⟨fun pins s _ _ _ I h => h pins s I⟩
theorem ps_sem {st : Stmt} : PS X st (semS X st) := ⟨fun pins s _ _ _ I h => h pins s I⟩
theorem pss_sem {st : List Stmt} : PSs X st (semSs X st) := ⟨fun pins s _ _ _ I h => h pins s I⟩
theorem semE_of {e : Expr} {t : TE} (h : PE X e t) {σ : L2.St} {H : Hp} {Q : VK} (q : t σ H Q) : semE X e σ H Q := fun pins s I => h.run pins s σ H Q I q
theorem semT_of {e : Expr} {t : TT} (h : PT X e t) {σ : L2.St} {H : Hp} {Q : Bool → Hp → Prop} (q : t σ H Q) : semT X e σ H Q := fun pins s I => h.run pins s σ H Q I q
theorem semW_of {e : Expr} {t : TT} (h : PW X e t) {σ : L2.St} {H : Hp} {Q : Bool → Hp → Prop} (q : t σ H Q) : semW X e σ H Q := fun wh pins s I => h.run wh pins s σ H Q I q
theorem semA_of {es : List Expr} {t : TA} (h : PA X es t) {σ : L2.St} {H : Hp} {Q : List V → Hp → Prop} (q : t σ H Q) : semA X es σ H Q := fun pos pins s I => h.run pos pins s σ H Q I q
theorem semG_of {e : Expr} {t : TG} (h : PG X e t) {v : V} {σ : L2.St} {H : Hp} {Q : L2.St → Hp → Prop} (q : t v σ H Q) : semG X e v σ H Q := fun pins s u I r => h.run pins s σ H v u Q I r q
theorem semGs_of {es : List Expr} {t : TGs} (h : PGs X es t) {vs : List V} {σ : L2.St} {H : Hp} {Q : L2.St → Hp → Prop} (q : t vs σ H Q) : semGs X es vs σ H Q := fun pins s us I r => h.run pins s σ H vs us Q I r q
theorem semI_of {tg iter : Expr} {t : TI} (h : PI X tg iter t) {σ : L2.St} {H : Hp} {R : It → Hp → Prop} (q : t σ H R) : semI X tg iter σ H R := fun pins s I => h.run pins s σ H R I q
theorem semS_of {st : Stmt} {t : TS} (h : PS X st t) {σ : L2.St} {H : Hp} {D : Ends} (q : t D σ H) : semS X st D σ H := fun pins s I => h.run pins s σ H D I q
theorem semSs_of {st : List Stmt} {t : TS} (h : PSs X st t) {σ : L2.St} {H : Hp} {D : Ends} (q : t D σ H) : semSs X st D σ H := fun pins s I => h.run pins s σ H D I q
theorem semE.mono {e : Expr} {σ : L2.St} {H : Hp} {Q Q' : VK} (h : semE X e σ H Q) (q : ∀ v H, Q v H → Q' v H) : semE X e σ H Q' := fun pins s I => thn (h pins s I) fun u s1 ⟨v, H1, I1, r, z⟩ => ⟨v, H1, I1, r, q v H1 z⟩
end

/-! ## Operators on lists that may be locked -/
theorem lst_rd {X : Cx} {pins : List (Addr × Obj)} {σ : L2.St} {H : Hp} {s : Shared} {a : Addr} {xs : List V} (I : Inv X pins σ H s) (h : Rd H a (.lst xs)) :
    xs.length ≤ sizeLine ∧ ∃ its n, Vals xs its ∧ xs.length = its.length ∧ s.heap.get? a = some { cls := .type "list", data := .seq its.toArray n } := by
  obtain ⟨z, its, n, r, e⟩ := h.ok I.hok
  exact ⟨z, its, n, r, r.length, e⟩
def rCatS : R2 := fun x y H Q => ∃ l b xs zs, x = .ref l ∧ y = .ref b ∧ Rd H l (.lst xs) ∧ Rd H b (.lst zs) ∧ xs.length + zs.length ≤ sizeLine ∧ ∀ p, H p = none → Q (.ref p) (upd H p (.lst (xs ++ zs)))
theorem op_catS {X : Cx} : OpR X (binaryOp .Add) rCatS := by
  intro pins s σ H x y v u Q I rx ry h
  obtain ⟨l, b, xs, zs, rfl, rfl, hH, hB, hz, q⟩ := h
  cases rx
  cases ry
  obtain ⟨z, its, n, r, hl, e⟩ := lst_rd I hH
  obtain ⟨z2, its2, n2, r2, hl2, e2⟩ := lst_rd I hB
  refine PySem.P.add_list e e2 ?_ (by rw [List.size_toArray, List.size_toArray]; omega)
  have ea : its.toArray ++ its2.toArray = (its ++ its2).toArray := by simp
  rw [ea]
  exact ⟨.ref _, _, I.lnew (t' := s.toks) (r.append r2) (by rw [List.length_append]; omega), rfl, q _ I.fresh⟩

def rExtendS : V → List V → Hp → VK → Prop := fun x vs H Q => ∃ l b xs zs, x = .ref l ∧ vs = [.ref b] ∧ H l = some (.lst xs) ∧ Rd H b (.lst zs) ∧ xs.length + zs.length ≤ sizeLine ∧ Q .non (upd H l (.lst (xs ++ zs)))
theorem mt_extendS {X : Cx} : MtM X "list.extend" rExtendS := by
  intro pins s σ H x vs v us Q I rx rv h
  obtain ⟨l, b, xs, zs, rfl, rfl, hH, hB, hz, q⟩ := h
  cases rx
  obtain ⟨u, rfl, ru⟩ := rv.one
  cases ru
  obtain ⟨z, its, n, r, hl, e⟩ := I.lstM hH
  obtain ⟨z2, its2, n2, r2, hl2, e2⟩ := lst_rd I hB
  have hsz : its.toArray.size + its2.toArray.size ≤ sizeLine := by rw [List.size_toArray, List.size_toArray]; omega
  have hlong : ¬ (!its.toArray.isEmpty && Builtin.List.listTooLong (its.toArray.size + its2.toArray.size)) = true := by
    rw [notLongL hsz, Bool.and_false]
    exact Bool.false_ne_true
  refine PySem.call_meets F.slot_list_extend ⟨_, e, rfl⟩ F.entry_list_extend (F.args_list_extend_2 _ _)
    (AutoSeq1.list_extend_list_list_0 l its.toArray n b its2.toArray n2 hlong (by rw [List.size_toArray]; omega) (by omega)) ⟨e, e2, ?_⟩
  exact ⟨.non, _, I.lset (its' := its ++ its2) hH e (by simp) (r.append r2) (by rw [List.length_append]; omega), rfl, q⟩

/-! ## Judgements -/
/-- e gives the datum d -/
def Ev (X : Cx) (B : Bd) (δ : List SD) (e : Expr) (d : PyData) : Prop :=
  ∀ (σ : L2.St) (G H : Hp), Sta B δ σ G H → ∀ Q : VK, (∀ v G2 H2, Grow B.T m0 G H G2 H2 → Dp K0 G2 v d → Q v H2) → semE X e σ H Q
def EvB (X : Cx) (B : Bd) (δ : List SD) (e : Expr) (b : Bool) : Prop :=
  ∀ (σ : L2.St) (G H : Hp), Sta B δ σ G H → ∀ Q : Bool → Hp → Prop, (∀ G2 H2, Grow B.T m0 G H G2 H2 → Q b H2) → semT X e σ H Q
def EvW (X : Cx) (B : Bd) (δ : List SD) (e : Expr) (b : Bool) : Prop :=
  ∀ (σ : L2.St) (G H : Hp), Sta B δ σ G H → ∀ Q : Bool → Hp → Prop, (∀ G2 H2, Grow B.T m0 G H G2 H2 → Q b H2) → semW X e σ H Q
def EvA (X : Cx) (B : Bd) (δ : List SD) (es : List Expr) (ds : List PyData) : Prop :=
  ∀ (σ : L2.St) (G H : Hp), Sta B δ σ G H → ∀ Q : List V → Hp → Prop, (∀ vs G2 H2, Grow B.T m0 G H G2 H2 → DpAll K0 G2 vs ds → Q vs H2) → semA X es σ H Q
section
variable {X : Cx} {B : Bd} {δ : List SD} {a b c e : Expr} {es : List Expr} {d x y : PyData} {ds xs ys : List PyData} {i j : Int} {pos : Pos} {p q : Bool}
theorem Ev.eq (h : Ev X B δ e d) (z : d = x) : Ev X B δ e x := z ▸ h
theorem EvB.eq (h : EvB X B δ e p) (z : p = q) : EvB X B δ e q := z ▸ h
/-- a PE rule whose reading is met -/
theorem ev_of {t : TE} (h : PE X e t) (k : ∀ (σ : L2.St) (G H : Hp), Sta B δ σ G H → ∀ Q : VK, (∀ v G2 H2, Grow B.T m0 G H G2 H2 → Dp K0 G2 v d → Q v H2) → t σ H Q) : Ev X B δ e d :=
  fun σ G H s Q q => semE_of h (k σ G H s Q q)
theorem evB_of {t : TT} (h : PT X e t) (k : ∀ (σ : L2.St) (G H : Hp), Sta B δ σ G H → ∀ Q : Bool → Hp → Prop, (∀ G2 H2, Grow B.T m0 G H G2 H2 → Q p H2) → t σ H Q) : EvB X B δ e p :=
  fun σ G H s Q q => semT_of h (k σ G H s Q q)
theorem evW_of {t : TT} (h : PW X e t) (k : ∀ (σ : L2.St) (G H : Hp), Sta B δ σ G H → ∀ Q : Bool → Hp → Prop, (∀ G2 H2, Grow B.T m0 G H G2 H2 → Q p H2) → t σ H Q) : EvW X B δ e p :=
  fun σ G H s Q q => semW_of h (k σ G H s Q q)

/-! ### names, constants -/
theorem ev_var (n : Nat) {z : Str} (hs : δ[n]? = some (.d d)) (hN : X.N[n]? = some z := by rfl) (hv : Vis X.env.scope z := by first | exact Or.inl rfl | exact Or.inr (Or.inl rfl) | exact Or.inr (Or.inr rfl))
    (hd : (z == ("__debug__" : Str)) = false := by decide) (hcd : (z == ("__classdict__" : Str)) = false := by decide) : Ev X B δ (.Name z pos) d :=
  ev_of (pe_var hN hv hd hcd) fun σ G H s Q q => by
    obtain ⟨u, e, h⟩ := s.ok n _ hs
    exact ⟨u, e, q u G H s.refl h⟩
theorem ev_int {k : Nat} : Ev X B δ (.Constant (.int i) k pos) (.int i) := ev_of pe_int fun σ G H s Q q => q _ G H s.refl (.int i)
theorem ev_str {k : Nat} {z : Str} : Ev X B δ (.Constant (.str z) k pos) (.str z) := ev_of pe_str fun σ G H s Q q => q _ G H s.refl (.str z)
theorem ev_none {k : Nat} : Ev X B δ (.Constant .none k pos) .none := ev_of pe_non fun σ G H s Q q => q _ G H s.refl .non
theorem ev_bool {k : Nat} : Ev X B δ (.Constant (.bool p) k pos) (.bool p) := ev_of pe_bl fun σ G H s Q q => q _ G H s.refl (.bl p)
theorem ev_globI {z : Str} {t : Tok} (hm : X.mg z = some (.int i t)) (hg : Gl X z := by rfl) (hd : (z == ("__debug__" : Str)) = false := by decide) : Ev X B δ (.Name z pos) (.int i) :=
  ev_of (pe_glob (v := .int i) hg hm ⟨_, rfl⟩ hd) fun σ G H s Q q => q _ G H s.refl (.int i)

/-! ### two operands -/
theorem ev_bin {op : Operator} {r : R2} (ho : OpR X (binaryOp op) r) (ha : Ev X B δ a x) (hb : Ev X B δ b y)
    (k : ∀ (σ : L2.St) (G H : Hp) (u v : V), Sta B δ σ G H → Dp K0 G u x → Dp K0 G v y → ∀ Q : VK, (∀ w G2 H2, Grow B.T m0 G H G2 H2 → Dp K0 G2 w d → Q w H2) → r u v H Q) : Ev X B δ (.BinOp a op b pos) d :=
  ev_of (pe_op ho pe_sem pe_sem) fun σ G H s Q q => ha σ G H s _ fun u G1 H1 g1 d1 => hb σ G1 H1 (s.grow g1) _ fun v G2 H2 g2 d2 =>
    k σ G2 H2 u v ((s.grow g1).grow g2) (d1.mono g2.g) d2 Q fun w G3 H3 g3 d3 => q w G3 H3 ((g1.trans g2).trans g3) d3
theorem ev_add (ha : Ev X B δ a (.int i)) (hb : Ev X B δ b (.int j)) : Ev X B δ (.BinOp a .Add b pos) (.int (i + j)) :=
  ev_bin op_add ha hb fun σ G H u v s d1 d2 Q q => ⟨i, j, dpi_int d1, dpi_int d2, q _ G H s.refl (.int _)⟩
theorem ev_sub (ha : Ev X B δ a (.int i)) (hb : Ev X B δ b (.int j)) : Ev X B δ (.BinOp a .Sub b pos) (.int (i - j)) :=
  ev_bin op_sub ha hb fun σ G H u v s d1 d2 Q q => ⟨i, j, dpi_int d1, dpi_int d2, q _ G H s.refl (.int _)⟩
theorem ev_mul (ha : Ev X B δ a (.int i)) (hb : Ev X B δ b (.int j)) (hz : CMul i j) : Ev X B δ (.BinOp a .Mult b pos) (.int (i * j)) :=
  ev_bin op_mul ha hb fun σ G H u v s d1 d2 Q q => ⟨i, j, dpi_int d1, dpi_int d2, hz, q _ G H s.refl (.int _)⟩
theorem ev_mod (ha : Ev X B δ a (.int i)) (hb : Ev X B δ b (.int j)) (hz : 0 < j) : Ev X B δ (.BinOp a .Mod b pos) (.int (i % j)) :=
  ev_bin op_mod ha hb fun σ G H u v s d1 d2 Q q => ⟨i, j, dpi_int d1, dpi_int d2, hz, q _ G H s.refl (.int _)⟩
theorem ev_fdiv (ha : Ev X B δ a (.int i)) (hb : Ev X B δ b (.int j)) (hz : CDiv i j) : Ev X B δ (.BinOp a .FloorDiv b pos) (.int (i / j)) :=
  ev_bin op_fdiv ha hb fun σ G H u v s d1 d2 Q q => ⟨i, j, dpi_int d1, dpi_int d2, hz, q _ G H s.refl (.int _)⟩
theorem ev_pow (ha : Ev X B δ a (.int i)) (hb : Ev X B δ b (.int j)) (hz : CPow i j) : Ev X B δ (.BinOp a .Pow b pos) (.int (i ^ j.toNat)) :=
  ev_bin op_pow ha hb fun σ G H u v s d1 d2 Q q => ⟨i, j, dpi_int d1, dpi_int d2, hz, q _ G H s.refl (.int _)⟩
theorem ev_neg (ha : Ev X B δ a (.int i)) : Ev X B δ (.UnaryOp .USub a pos) (.int (-i)) :=
  ev_of (pe_un un_neg pe_sem) fun σ G H s Q q => ha σ G H s _ fun u G1 H1 g1 d1 => ⟨i, dpi_int d1, q _ G1 H1 g1 (.int _)⟩
/-- tuple + tuple -/
theorem ev_catT (ha : Ev X B δ a (.tuple xs)) (hb : Ev X B δ b (.tuple ys)) (hl : xs.length + ys.length ≤ sizeLine) : Ev X B δ (.BinOp a .Add b pos) (.tuple (xs ++ ys)) :=
  ev_bin op_catA ha hb fun σ G H u v s d1 d2 Q q => by
    obtain ⟨p, us, rfl, h1, h2⟩ := dpi_tup d1
    obtain ⟨p', vs, rfl, h3, h4⟩ := dpi_tup d2
    have hl' : us.length + vs.length ≤ sizeLine := by rw [h2.length, h4.length]; exact hl
    have all := h2.append h4
    refine ⟨p, p', us, vs, rfl, rfl, t_of (ex_t s.e h1), t_of (ex_t s.e h3), hl', fun z => ?_, fun _ z => ?_, fun _ _ t ht => ?_⟩
    · rw [z] at h2
      cases h2
      exact q _ G H s.refl (.tup h3 h4)
    · rw [z] at h4
      cases h4
      exact q _ G H s.refl (.tup h1 (by rw [List.append_nil]; exact h2))
    · have g : Grow B.T m0 G H (upd G t (.tup (us ++ vs))) (upd H t (.tup (us ++ vs))) := Grow.laid s.e s.t ht
      exact q _ _ _ g (.tup (SqT.of upd_same) (all.mono g.g))
/-- list + list -/
theorem ev_catL (ha : Ev X B δ a (.list xs)) (hb : Ev X B δ b (.list ys)) (hl : xs.length + ys.length ≤ sizeLine) : Ev X B δ (.BinOp a .Add b pos) (.list (xs ++ ys)) :=
  ev_bin op_catS ha hb fun σ G H u v s d1 d2 Q q => by
    obtain ⟨p, us, rfl, h1, h2⟩ := dpi_lst d1
    obtain ⟨p', vs, rfl, h3, h4⟩ := dpi_lst d2
    have hl' : us.length + vs.length ≤ sizeLine := by rw [h2.length, h4.length]; exact hl
    refine ⟨p, p', us, vs, rfl, rfl, l_rd (ex_l s.e h1), l_rd (ex_l s.e h3), hl', fun t ht => ?_⟩
    have g : Grow B.T m0 G H (upd G t (.lst (us ++ vs))) (upd H t (.lst (us ++ vs))) := Grow.laid s.e s.t ht
    exact q _ _ _ g (.lst (SqL.of upd_same) ((h2.append h4).mono g.g))

/-! ### comparisons -/
theorem ev_cmp {op : CmpOp} {r : R2} (ho : OpR X (compareOp op) r) (ha : Ev X B δ a x) (hb : Ev X B δ b y) (hm : behindInMarks op b = false)
    (k : ∀ (σ : L2.St) (G H : Hp) (u v : V), Sta B δ σ G H → Dp K0 G u x → Dp K0 G v y → ∀ Q : VK, (∀ w G2 H2, Grow B.T m0 G H G2 H2 → Dp K0 G2 w d → Q w H2) → r u v H Q) : Ev X B δ (.Compare a [op] [b] pos) d :=
  ev_of (pe_cmpR ho pe_sem pe_sem hm) fun σ G H s Q q => ha σ G H s _ fun u G1 H1 g1 d1 => hb σ G1 H1 (s.grow g1) _ fun v G2 H2 g2 d2 =>
    k σ G2 H2 u v ((s.grow g1).grow g2) (d1.mono g2.g) d2 Q fun w G3 H3 g3 d3 => q w G3 H3 ((g1.trans g2).trans g3) d3
theorem evB_cmp {op : CmpOp} {r : R2} (ho : OpR X (compareOp op) r) (ha : Ev X B δ a x) (hb : Ev X B δ b y) (hm : behindInMarks op b = false)
    (k : ∀ (σ : L2.St) (G H : Hp) (u v : V), Sta B δ σ G H → Dp K0 G u x → Dp K0 G v y → ∀ Q : VK, (∀ G2 H2, Grow B.T m0 G H G2 H2 → Q (.bl p) H2) → r u v H Q) : EvB X B δ (.Compare a [op] [b] pos) p :=
  evB_of (pt_cmpR ho pe_sem pe_sem hm) fun σ G H s Q q => ha σ G H s _ fun u G1 H1 g1 d1 => hb σ G1 H1 (s.grow g1) _ fun v G2 H2 g2 d2 =>
    k σ G2 H2 u v ((s.grow g1).grow g2) (d1.mono g2.g) d2 _ fun G3 H3 g3 => ⟨p, rfl, q G3 H3 ((g1.trans g2).trans g3)⟩
/-- what an int comparison answers -/
def cmpI : CmpOp → Int → Int → Bool
  | .Lt, i, j => decide (i < j)
  | .LtE, i, j => decide (i ≤ j)
  | .Gt, i, j => decide (j < i)
  | .GtE, i, j => decide (j ≤ i)
  | .Eq, i, j => decide (i = j)
  | .NotEq, i, j => !decide (i = j)
  | _, _, _ => false
def isCmpI : CmpOp → Bool
  | .Lt => true | .LtE => true | .Gt => true | .GtE => true | .Eq => true | .NotEq => true | _ => false
theorem op_cmpI (op : CmpOp) (h : isCmpI op = true) : OpR X (compareOp op) (rI0 fun i j => .bl (cmpI op i j)) := by
  cases op with
  | Lt => exact op_lt
  | LtE => exact op_le
  | Gt => exact op_gt
  | GtE => exact op_ge
  | Eq =>
    intro pins s σ H x y u v Q I rx ry ⟨i, j, e1, e2, q⟩
    subst e1 e2
    refine op_eq pins s σ H _ _ u v Q I rx ry ⟨rfl, ?_⟩
    have e : decide (V.int i = V.int j) = decide (i = j) := by
      by_cases h : i = j
      · rw [decide_eq_true h, decide_eq_true (by rw [h])]
      · rw [decide_eq_false h, decide_eq_false (fun z => h (V.int.inj z))]
    rw [e]; exact q
  | NotEq =>
    intro pins s σ H x y u v Q I rx ry ⟨i, j, e1, e2, q⟩
    subst e1 e2
    refine op_ne pins s σ H _ _ u v Q I rx ry ⟨rfl, ?_⟩
    have e : decide (V.int i = V.int j) = decide (i = j) := by
      by_cases h : i = j
      · rw [decide_eq_true h, decide_eq_true (by rw [h])]
      · rw [decide_eq_false h, decide_eq_false (fun z => h (V.int.inj z))]
    rw [e]; exact q
  | _ => cases h
theorem nb_I {op : CmpOp} (h : isCmpI op = true) : behindInMarks op b = false := nobehind b (by rintro rfl; cases h) (by rintro rfl; cases h)
theorem ev_cmpI {op : CmpOp} (ha : Ev X B δ a (.int i)) (hb : Ev X B δ b (.int j)) (h : isCmpI op = true := by rfl) : Ev X B δ (.Compare a [op] [b] pos) (.bool (cmpI op i j)) :=
  ev_cmp (op_cmpI op h) ha hb (nb_I h) fun σ G H u v s d1 d2 Q q => ⟨i, j, dpi_int d1, dpi_int d2, q _ G H s.refl (.bl _)⟩
theorem evB_cmpI {op : CmpOp} (ha : Ev X B δ a (.int i)) (hb : Ev X B δ b (.int j)) (h : isCmpI op = true := by rfl) : EvB X B δ (.Compare a [op] [b] pos) (cmpI op i j) :=
  evB_cmp (op_cmpI op h) ha hb (nb_I h) fun σ G H u v s d1 d2 Q q => ⟨i, j, dpi_int d1, dpi_int d2, q G H s.refl⟩
theorem decV_str (u v : Str) : decide (V.str u = V.str v) = decide (u = v) := by
  by_cases h : u = v
  · rw [decide_eq_true h, decide_eq_true (by rw [h])]
  · rw [decide_eq_false h, decide_eq_false (fun z => h (V.str.inj z))]
theorem evB_eqS {u v : Str} (ha : Ev X B δ a (.str u)) (hb : Ev X B δ b (.str v)) : EvB X B δ (.Compare a [.Eq] [b] pos) (decide (u = v)) :=
  evB_cmp op_eq ha hb (nobehind _ (by decide) (by decide)) fun σ G H x y s d1 d2 Q q => by
    rw [dpi_str d1, dpi_str d2]
    exact ⟨rfl, by rw [decV_str]; exact q G H s.refl⟩
theorem evB_neS {u v : Str} (ha : Ev X B δ a (.str u)) (hb : Ev X B δ b (.str v)) : EvB X B δ (.Compare a [.NotEq] [b] pos) (!decide (u = v)) :=
  evB_cmp op_ne ha hb (nobehind _ (by decide) (by decide)) fun σ G H x y s d1 d2 Q q => by
    rw [dpi_str d1, dpi_str d2]
    exact ⟨rfl, by rw [decV_str]; exact q G H s.refl⟩
/-- == and != of data -/
theorem ev_eqD (hu : X.A.units + 64 < cLine) (ha : Ev X B δ a x) (hb : Ev X B δ b y) (h1 : SeqAt.shaped x = true) (h2 : SeqAt.shaped y = true) : Ev X B δ (.Compare a [.Eq] [b] pos) (.bool (PyData.eqv x y)) :=
  ev_cmp (op_eqD hu) ha hb (nobehind _ (by decide) (by decide)) fun σ G H u v s d1 d2 Q q => ⟨x, y, dpK _ _ (d1.mono s.e), dpK _ _ (d2.mono s.e), h1, h2, q _ G H s.refl (.bl _)⟩
theorem evB_eqD (hu : X.A.units + 64 < cLine) (ha : Ev X B δ a x) (hb : Ev X B δ b y) (h1 : SeqAt.shaped x = true) (h2 : SeqAt.shaped y = true) : EvB X B δ (.Compare a [.Eq] [b] pos) (PyData.eqv x y) :=
  evB_cmp (op_eqD hu) ha hb (nobehind _ (by decide) (by decide)) fun σ G H u v s d1 d2 Q q => ⟨x, y, dpK _ _ (d1.mono s.e), dpK _ _ (d2.mono s.e), h1, h2, q G H s.refl⟩
theorem evB_neD (hu : X.A.units + 64 < cLine) (ha : Ev X B δ a x) (hb : Ev X B δ b y) (h1 : SeqAt.shaped x = true) (h2 : SeqAt.shaped y = true) : EvB X B δ (.Compare a [.NotEq] [b] pos) (!PyData.eqv x y) :=
  evB_cmp (op_neD hu) ha hb (nobehind _ (by decide) (by decide)) fun σ G H u v s d1 d2 Q q => ⟨x, y, dpK _ _ (d1.mono s.e), dpK _ _ (d2.mono s.e), h1, h2, q G H s.refl⟩
/-- is None, is not None -/
def isNon : PyData → Bool
  | .none => true
  | _ => false
theorem isNon_v {G : Hp} {v : V} (h : Dp K0 G v d) : decide (v = .non) = isNon d := by
  cases h <;> rfl
theorem ev_isN {k : Nat} {p' : Pos} (ha : Ev X B δ a x) : Ev X B δ (.Compare a [.Is] [.Constant .none k p'] pos) (.bool (isNon x)) :=
  ev_cmp op_isN ha ev_none (nobehind _ (by decide) (by decide)) fun σ G H u v s d1 d2 Q q => ⟨dpi_none d2, by rw [isNon_v d1]; exact q _ G H s.refl (.bl _)⟩
theorem evB_isN {k : Nat} {p' : Pos} (ha : Ev X B δ a x) : EvB X B δ (.Compare a [.Is] [.Constant .none k p'] pos) (isNon x) :=
  evB_cmp op_isN ha ev_none (nobehind _ (by decide) (by decide)) fun σ G H u v s d1 d2 Q q => ⟨dpi_none d2, by rw [isNon_v d1]; exact q G H s.refl⟩
theorem evB_notN {k : Nat} {p' : Pos} (ha : Ev X B δ a x) : EvB X B δ (.Compare a [.IsNot] [.Constant .none k p'] pos) (!isNon x) :=
  evB_cmp op_notN ha ev_none (nobehind _ (by decide) (by decide)) fun σ G H u v s d1 d2 Q q => ⟨dpi_none d2, by rw [isNon_v d1]; exact q G H s.refl⟩
/-- a <= b <= c of ints -/
theorem ev_chain {op op' : CmpOp} {l : Int} (ha : Ev X B δ a (.int i)) (hb : Ev X B δ b (.int j)) (hc : Ev X B δ c (.int l)) (h : isCmpI op = true := by rfl) (h' : isCmpI op' = true := by rfl) (hm : lastMarks [op, op'] [b, c] = false := by with_unfolding_all rfl) :
    Ev X B δ (.Compare a [op, op'] [b, c] pos) (.bool (cmpI op i j && cmpI op' j l)) :=
  ev_of (pe_chain (op_cmpI op h) (op_cmpI op' h') pe_sem pe_sem pe_sem hm) fun σ G H s Q q => ha σ G H s _ fun u G1 H1 g1 d1 => hb σ G1 H1 (s.grow g1) _ fun v G2 H2 g2 d2 => by
    refine ⟨i, j, dpi_int d1, dpi_int d2, _, rfl, ?_⟩
    cases hz : cmpI op i j with
    | false =>
      show Q (.bl false) H2
      rw [hz] at q
      exact q _ G2 H2 (g1.trans g2) (.bl _)
    | true =>
      rw [if_pos rfl]
      rw [hz] at q
      exact hc σ G2 H2 ((s.grow g1).grow g2) _ fun w G3 H3 g3 d3 => ⟨j, l, dpi_int d2, dpi_int d3, q _ G3 H3 ((g1.trans g2).trans g3) (.bl _)⟩
theorem evB_chain {op op' : CmpOp} {l : Int} (ha : Ev X B δ a (.int i)) (hb : Ev X B δ b (.int j)) (hc : Ev X B δ c (.int l)) (h : isCmpI op = true := by rfl) (h' : isCmpI op' = true := by rfl) (hm : lastMarks [op, op'] [b, c] = false := by with_unfolding_all rfl) :
    EvB X B δ (.Compare a [op, op'] [b, c] pos) (cmpI op i j && cmpI op' j l) :=
  evB_of (pt_chain (op_cmpI op h) (op_cmpI op' h') pe_sem pe_sem pe_sem hm) fun σ G H s Q q => ha σ G H s _ fun u G1 H1 g1 d1 => hb σ G1 H1 (s.grow g1) _ fun v G2 H2 g2 d2 => by
    refine ⟨i, j, dpi_int d1, dpi_int d2, _, rfl, ?_⟩
    cases hz : cmpI op i j with
    | false =>
      rw [hz] at q
      show ∃ k, V.bl false = .bl k ∧ Q k H2
      exact ⟨_, rfl, q G2 H2 (g1.trans g2)⟩
    | true =>
      rw [if_pos rfl]
      rw [hz] at q
      exact hc σ G2 H2 ((s.grow g1).grow g2) _ fun w G3 H3 g3 d3 => ⟨j, l, dpi_int d2, dpi_int d3, _, rfl, q G3 H3 ((g1.trans g2).trans g3)⟩
/-- x in (a, b, ..) of texts, ints -/
def toV : PyData → V
  | .int i => .int i
  | .str x => .str x
  | .bool b => .bl b
  | _ => .non
def flatD : PyData → Bool
  | .int _ => true
  | .str _ => true
  | .bool _ => true
  | .none => true
  | _ => false
theorem flat_v {G : Hp} {v : V} (h : Dp K0 G v d) (f : flatD d = true) : v = toV d ∧ flatV v = true := by
  cases h <;> first | exact ⟨rfl, rfl⟩ | cases f
theorem flat_vs {G : Hp} : ∀ {vs : List V} {ds : List PyData}, DpAll K0 G vs ds → ds.all flatD = true → vs = ds.map toV ∧ vs.all flatV = true
  | _, _, .nil, _ => ⟨rfl, rfl⟩
  | _, _, .cons h t, f => by
    rw [List.all_cons, Bool.and_eq_true] at f
    obtain ⟨e1, f1⟩ := flat_v h f.1
    obtain ⟨e2, f2⟩ := flat_vs t f.2
    rw [List.all_cons, f1, f2, e2, e1]
    exact ⟨rfl, rfl⟩
theorem evB_inT (ha : Ev X B δ a x) (hb : Ev X B δ b (.tuple ys)) (f1 : flatD x = true) (f2 : ys.all flatD = true) (hm : behindInMarks .In b = false := by rfl) : EvB X B δ (.Compare a [.In] [b] pos) (inV (toV x) (ys.map toV)) :=
  evB_cmp op_in_seq ha hb hm fun σ G H u v s d1 d2 Q q => by
    obtain ⟨t, vs, rfl, h1, h2⟩ := dpi_tup d2
    obtain ⟨e1, f1⟩ := flat_v d1 f1
    obtain ⟨e2, f2⟩ := flat_vs h2 f2
    refine ⟨t, vs, rfl, .inr (t_of (ex_t s.e h1)), f1, f2, ?_⟩
    rw [if_neg Bool.false_ne_true, e1, e2]
    exact q G H s.refl
theorem ev_notInT (ha : Ev X B δ a x) (hb : Ev X B δ b (.tuple ys)) (f1 : flatD x = true) (f2 : ys.all flatD = true) (hm : behindInMarks .NotIn b = false := by rfl) : Ev X B δ (.Compare a [.NotIn] [b] pos) (.bool (!inV (toV x) (ys.map toV))) :=
  ev_cmp op_notIn_seq ha hb hm fun σ G H u v s d1 d2 Q q => by
    obtain ⟨t, vs, rfl, h1, h2⟩ := dpi_tup d2
    obtain ⟨e1, f1⟩ := flat_v d1 f1
    obtain ⟨e2, f2⟩ := flat_vs h2 f2
    refine ⟨t, vs, rfl, .inr (t_of (ex_t s.e h1)), f1, f2, ?_⟩
    rw [if_pos rfl, e1, e2]
    exact q _ G H s.refl (.bl _)

/-! ### and, or, not, if -/
theorem evB_val (h : Ev X B δ a (.bool p)) (he : ∀ whole, isTrue a X.env whole = (do let v ← whole; standAt a.pos; holding [v] (truthy v)) := by intro _; rfl) : EvB X B δ a p :=
  evB_of (pt_val pe_sem he) fun σ G H s Q q => h σ G H s _ fun u G1 H1 g1 d1 => ⟨p, dpi_bool d1, q G1 H1 g1⟩
theorem evW_and1 (h : EvB X B δ a p) : EvW X B δ (.BoolOp .And [a] pos) p := evW_of (pw_and1 pt_sem) fun σ G H s Q q => h σ G H s Q q
theorem evW_or1 (h : EvB X B δ a p) : EvW X B δ (.BoolOp .Or [a] pos) p := evW_of (pw_or1 pt_sem) fun σ G H s Q q => h σ G H s Q q
theorem evW_and {rest : List Expr} (h : EvB X B δ a p) (h2 : p = true → EvW X B δ (.BoolOp .And (b :: rest) pos) q) : EvW X B δ (.BoolOp .And (a :: b :: rest) pos) (p && q) :=
  evW_of (pw_and pt_sem pw_sem) fun σ G H s Q k => h σ G H s _ fun G1 H1 g1 => by
    cases p with
    | true => exact h2 rfl σ G1 H1 (s.grow g1) _ fun G2 H2 g2 => k G2 H2 (g1.trans g2)
    | false => exact k G1 H1 g1
theorem evW_or {rest : List Expr} (h : EvB X B δ a p) (h2 : p = false → EvW X B δ (.BoolOp .Or (b :: rest) pos) q) : EvW X B δ (.BoolOp .Or (a :: b :: rest) pos) (p || q) :=
  evW_of (pw_or pt_sem pw_sem) fun σ G H s Q k => h σ G H s _ fun G1 H1 g1 => by
    cases p with
    | true => exact k G1 H1 g1
    | false => exact h2 rfl σ G1 H1 (s.grow g1) _ fun G2 H2 g2 => k G2 H2 (g1.trans g2)
theorem evB_w (h : EvW X B δ a p) : EvB X B δ a p := fun σ G H s Q q pins st I => h σ G H s Q q _ pins st I
theorem evB_not (h : EvB X B δ a p) : EvB X B δ (.UnaryOp .Not a pos) (!p) := evB_of (pt_not pt_sem) fun σ G H s Q q => h σ G H s _ fun G1 H1 g1 => q G1 H1 g1
theorem ev_one {op : BoolOp} (h : Ev X B δ a x) : Ev X B δ (.BoolOp op [a] pos) x := ev_of (pe_one pe_sem) fun σ G H s Q q => h σ G H s Q q
theorem ev_and {rest : List Expr} (h : Ev X B δ a (.bool p)) (h2 : p = true → Ev X B δ (.BoolOp .And (b :: rest) pos) (.bool q)) : Ev X B δ (.BoolOp .And (a :: b :: rest) pos) (.bool (p && q)) :=
  ev_of (pe_and pe_sem pe_sem) fun σ G H s Q k => h σ G H s _ fun u G1 H1 g1 d1 => by
    refine ⟨p, dpi_bool d1, ?_⟩
    cases p with
    | true => exact h2 rfl σ G1 H1 (s.grow g1) _ fun v G2 H2 g2 d2 => k v G2 H2 (g1.trans g2) d2
    | false => exact k _ G1 H1 g1 (.bl false)
theorem ev_or {rest : List Expr} (h : Ev X B δ a (.bool p)) (h2 : p = false → Ev X B δ (.BoolOp .Or (b :: rest) pos) (.bool q)) : Ev X B δ (.BoolOp .Or (a :: b :: rest) pos) (.bool (p || q)) :=
  ev_of (pe_or pe_sem pe_sem) fun σ G H s Q k => h σ G H s _ fun u G1 H1 g1 d1 => by
    refine ⟨p, dpi_bool d1, ?_⟩
    cases p with
    | true => exact k _ G1 H1 g1 (.bl true)
    | false => exact h2 rfl σ G1 H1 (s.grow g1) _ fun v G2 H2 g2 d2 => k v G2 H2 (g1.trans g2) d2
theorem ev_not (h : Ev X B δ a (.bool p)) : Ev X B δ (.UnaryOp .Not a pos) (.bool (!p)) := ev_of (pe_not pe_sem) fun σ G H s Q q => h σ G H s _ fun u G1 H1 g1 d1 => ⟨p, dpi_bool d1, q _ G1 H1 g1 (.bl _)⟩
theorem ev_ifExp (h : EvB X B δ c p) (h1 : p = true → Ev X B δ a x) (h2 : p = false → Ev X B δ b x) : Ev X B δ (.IfExp c a b pos) x :=
  ev_of (pe_ifExp pt_sem pe_sem pe_sem) fun σ G H s Q k => h σ G H s _ fun G1 H1 g1 => by
    cases p with
    | true => exact h1 rfl σ G1 H1 (s.grow g1) _ fun v G2 H2 g2 d2 => k v G2 H2 (g1.trans g2) d2
    | false => exact h2 rfl σ G1 H1 (s.grow g1) _ fun v G2 H2 g2 d2 => k v G2 H2 (g1.trans g2) d2

/-! ### items, slices, displays -/
theorem at_data {G : Hp} {vs : List V} {ds : List PyData} {i : Int} {d : PyData} (h : DpAll K0 G vs ds) (e : atI ds i = some d) : ∃ v, atI vs i = some v ∧ Dp K0 G v d := by
  unfold atI at e ⊢
  rw [h.length]
  cases z : ixN ds.length i with
  | none => rw [z] at e; cases e
  | some j =>
    rw [z] at e
    exact h.get e
theorem ev_ixT (ha : Ev X B δ a (.tuple xs)) (hb : Ev X B δ b (.int i)) (hi : atI xs i = some d) (hs : PlainIx b := by exact fun _ _ => rfl) : Ev X B δ (.Subscript a b pos) d :=
  ev_of (pe_ix ix_tup pe_sem pe_sem hs) fun σ G H s Q q => ha σ G H s _ fun u G1 H1 g1 d1 => hb σ G1 H1 (s.grow g1) _ fun v G2 H2 g2 d2 => by
    obtain ⟨t, vs, rfl, h1, h2⟩ := dpi_tup (d1.mono g2.g)
    obtain ⟨w, e, dw⟩ := at_data h2 hi
    exact ⟨t, vs, i, w, rfl, dpi_int d2, t_of (ex_t g2.gh h1), e, q w G2 H2 (g1.trans g2) dw⟩
theorem ev_ixL (ha : Ev X B δ a (.list xs)) (hb : Ev X B δ b (.int i)) (hi : atI xs i = some d) (hs : PlainIx b := by exact fun _ _ => rfl) : Ev X B δ (.Subscript a b pos) d :=
  ev_of (pe_ix ix_list pe_sem pe_sem hs) fun σ G H s Q q => ha σ G H s _ fun u G1 H1 g1 d1 => hb σ G1 H1 (s.grow g1) _ fun v G2 H2 g2 d2 => by
    obtain ⟨t, vs, rfl, h1, h2⟩ := dpi_lst (d1.mono g2.g)
    obtain ⟨w, e, dw⟩ := at_data h2 hi
    exact ⟨t, vs, i, w, rfl, dpi_int d2, l_of (ex_l g2.gh h1), e, q w G2 H2 (g1.trans g2) dw⟩
/-- a part of a slice -/
def EvO (X : Cx) (B : Bd) (δ : List SD) (o : Option Expr) (r : Option Int) : Prop := match o, r with
  | none, none => True
  | some e, some i => Ev X B δ e (.int i)
  | _, _ => False
def semO (X : Cx) (B : Bd) (δ : List SD) (r : Option Int) : Option Expr → TO
  | none => tNoPart
  | some e => tPart (semE X e)
theorem po_sem {o : Option Expr} {r : Option Int} : PO X o (semO X B δ r o) := by
  cases o with
  | none => exact po_none
  | some e => exact po_some pe_sem
theorem evO_run {o : Option Expr} {r : Option Int} (h : EvO X B δ o r) {σ : L2.St} {G H : Hp} (s : Sta B δ σ G H) {Q : Option Int → Hp → Prop} (q : ∀ G2 H2, Grow B.T m0 G H G2 H2 → Q r H2) : semO X B δ r o σ H Q := by
  cases o with
  | none =>
    cases r with
    | none => exact q G H s.refl
    | some _ => exact h.elim
  | some e =>
    cases r with
    | none => exact h.elim
    | some i => exact h σ G H s _ fun v G1 H1 g1 d1 => ⟨i, dpi_int d1, q G1 H1 g1⟩
def cutD (xs : List PyData) (lo hi : Option Int) : List PyData := (xs.drop (HT.sIx xs.length 0 lo)).take (HT.sIx xs.length xs.length hi - HT.sIx xs.length 0 lo)
theorem cut_data {G : Hp} {vs : List V} {ds : List PyData} (h : DpAll K0 G vs ds) (lo hi : Option Int) : DpAll K0 G (cutV vs lo hi) (cutD ds lo hi) := by
  unfold cutV cutD
  rw [h.length]
  exact (h.drop _).take _
theorem ev_slT {lo hi : Option Expr} {l r : Option Int} {p2 : Pos} (ha : Ev X B δ a (.tuple xs)) (hl : EvO X B δ lo l) (hh : EvO X B δ hi r) : Ev X B δ (.Subscript a (.Slice lo hi none p2) pos) (.tuple (cutD xs l r)) :=
  ev_of (pe_slice sl_tupA pe_sem (po_sem (B := B) (δ := δ) (r := l)) (po_sem (B := B) (δ := δ) (r := r))) fun σ G H s Q q => ha σ G H s _ fun u G1 H1 g1 d1 => evO_run hl (s.grow g1) fun G2 H2 g2 => evO_run hh ((s.grow g1).grow g2) fun G3 H3 g3 => by
    obtain ⟨t, vs, rfl, h1, h2⟩ := dpi_tup ((d1.mono g2.g).mono g3.g)
    have all := cut_data h2 l r
    have g := (g1.trans g2).trans g3
    refine ⟨t, vs, rfl, t_of (ex_t g.gh h1), fun z => ?_, fun _ p hp => ?_⟩
    · have e : cutV vs l r = vs := by
        unfold cutV
        rw [z.1, z.2, List.drop_zero, Nat.sub_zero, List.take_length]
      rw [e] at all
      exact q _ G3 H3 g (.tup h1 all)
    · have g' : Grow B.T m0 G3 H3 (upd G3 p (.tup (cutV vs l r))) (upd H3 p (.tup (cutV vs l r))) := Grow.laid g.gh g.t hp
      exact q _ _ _ (g.trans g') (.tup (SqT.of upd_same) (all.mono g'.g))
theorem ev_slL {lo hi : Option Expr} {l r : Option Int} {p2 : Pos} (ha : Ev X B δ a (.list xs)) (hl : EvO X B δ lo l) (hh : EvO X B δ hi r) : Ev X B δ (.Subscript a (.Slice lo hi none p2) pos) (.list (cutD xs l r)) :=
  ev_of (pe_slice sl_list pe_sem (po_sem (B := B) (δ := δ) (r := l)) (po_sem (B := B) (δ := δ) (r := r))) fun σ G H s Q q => ha σ G H s _ fun u G1 H1 g1 d1 => evO_run hl (s.grow g1) fun G2 H2 g2 => evO_run hh ((s.grow g1).grow g2) fun G3 H3 g3 => by
    obtain ⟨t, vs, rfl, h1, h2⟩ := dpi_lst ((d1.mono g2.g).mono g3.g)
    have all := cut_data h2 l r
    have g := (g1.trans g2).trans g3
    refine ⟨t, vs, rfl, l_of (ex_l g.gh h1), fun p hp => ?_⟩
    have g' : Grow B.T m0 G3 H3 (upd G3 p (.lst (cutV vs l r))) (upd H3 p (.lst (cutV vs l r))) := Grow.laid g.gh g.t hp
    exact q _ _ _ (g.trans g') (.lst (SqL.of upd_same) (all.mono g'.g))
theorem evA_nil : EvA X B δ [] [] := fun σ G H s Q q => semA_of pa_nil (q [] G H s.refl .nil)
theorem evA_cons (ha : Ev X B δ a x) (ht : EvA X B δ es xs) (hs : starEach (a :: es) X.env = (false, eval a X.env) :: starEach es X.env := by rfl) : EvA X B δ (a :: es) (x :: xs) := fun σ G H s Q q =>
  semA_of (pa_cons pe_sem pa_sem hs) (ha σ G H s _ fun u G1 H1 g1 d1 => ht σ G1 H1 (s.grow g1) _ fun us G2 H2 g2 d2 => q _ G2 H2 (g1.trans g2) (.cons (d1.mono g2.g) d2))
theorem ev_tup {k : Nat} (h : EvA X B δ es xs) (hl : xs.length ≤ sizeLine := by first | decide | (simp only [List.length_cons, List.length_nil]; decide)) : Ev X B δ (.Tuple es k pos) (.tuple xs) :=
  ev_of (pe_tup pa_sem) fun σ G H s Q q => h σ G H s _ fun us G1 H1 g1 d1 => ⟨by rw [d1.length]; exact hl, fun p hp => by
    have g : Grow B.T m0 G1 H1 (upd G1 p (.tup us)) (upd H1 p (.tup us)) := Grow.laid g1.gh g1.t hp
    exact q _ _ _ (g1.trans g) (.tup (SqT.of upd_same) (d1.mono g.g))⟩
theorem ev_lst (h : EvA X B δ es xs) (hl : xs.length ≤ sizeLine := by first | decide | (simp only [List.length_cons, List.length_nil]; decide)) : Ev X B δ (.List es pos) (.list xs) :=
  ev_of (pe_lst pa_sem) fun σ G H s Q q => h σ G H s _ fun us G1 H1 g1 d1 => ⟨by rw [d1.length]; exact hl, fun p hp => by
    have g : Grow B.T m0 G1 H1 (upd G1 p (.lst us)) (upd H1 p (.lst us)) := Grow.laid g1.gh g1.t hp
    exact q _ _ _ (g1.trans g) (.lst (SqL.of upd_same) (d1.mono g.g))⟩

/-! ### calls -/
/-- the promise of a def that is a relation between data -/
def spD (T : List TabN) (R : List PyData → PyData → Prop) : Sp := fun vs H Q _ => ∃ (G : Hp) (ds : List PyData) (d : PyData), Ex G H ∧ TabsOk T G H ∧ DpAll K0 G vs ds ∧ R ds d ∧
  ∀ v G2 H2, Grow T m0 G H G2 H2 → Dp K0 G2 v d → Q v H2
/-- a def by its name, in the module's facts -/
def Cal (P : Program) (w : World) (K : PySem.W.Frag) (mg : Str → Option Value) (base : Heap) (CX : CXT) (k : Nat) (x : Str) (sp : Sp) : Prop :=
  ∃ (f : Addr) (fd : FuncData) (ps : List Str), FnOk P w K mg base CX k f fd ps sp ∧ mg x = some (.ref f) ∧ PySem.W.keepIn K (.ref f) = true ∧ Binds K fd ps []
theorem Cal.mono {P : Program} {w : World} {K : PySem.W.Frag} {mg : Str → Option Value} {base : Heap} {CX : CXT} {j k : Nat} {x : Str} {sp : Sp} (h : Cal P w K mg base CX j x sp) (l : j ≤ k) : Cal P w K mg base CX k x sp :=
  let ⟨f, fd, ps, F, r⟩ := h; ⟨f, fd, ps, F.mono l, r⟩
theorem ev_call {k : Nat} {z : Str} {R : List PyData → PyData → Prop} {pz : Pos} (F : Cal X.prog X.w X.K X.mg X.base CX0 k z (spD B.T R)) (hr : Room k X.A) (ha : EvA X B δ (a :: es) xs) (hR : R xs d) (hg : Gl X z := by rfl)
    (hdb : (z == ("__debug__" : Str)) = false := by decide) (he : starEach (a :: es) X.env = (false, eval a X.env) :: starEach es X.env := by rfl) (hpl : (backTo pos (starEach es X.env)).any (·.1) = false := by rfl) :
    Ev X B δ (.Call (.Name z pz) (a :: es) [] pos) d := by
  obtain ⟨f, fd, ps, F, hm, hk, hb⟩ := F
  exact ev_of (pe_call F hr hg hm hk hb .nil (pass0 (X := X)) pa_sem hdb he hpl) fun σ G H s Q q => ha σ G H s _ fun us G1 H1 g1 d1 => by
    rw [List.append_nil]
    exact ⟨G1, xs, d, g1.gh, g1.t, d1, hR, fun v G2 H2 g2 d2 => q v G2 H2 (g1.trans g2) d2⟩
/-- len of a tuple, a list -/
theorem ev_lenT {pz : Pos} (hm : X.mg ("len" : Str) = none) (ha : Ev X B δ a (.tuple xs)) (hg : Gl X ("len" : Str) := by rfl) (he : starEach (a :: []) X.env = (false, eval a X.env) :: starEach [] X.env := by rfl) (hpl : (backTo pos (starEach [] X.env)).any (·.1) = false := by rfl) :
    Ev X B δ (.Call (.Name "len" pz) [a] [] pos) (.int xs.length) :=
  ev_of (pe_callB call_len_seq hg hm PySem.boot_len (pa_cons pe_sem pa_nil he) (by decide) (by decide) he hpl) fun σ G H s Q q => ha σ G H s _ fun u G1 H1 g1 d1 => by
    obtain ⟨t, vs, rfl, h1, h2⟩ := dpi_tup d1
    exact ⟨t, vs, rfl, .inr (t_of (ex_t g1.gh h1)), by rw [h2.length]; exact q _ G1 H1 g1 (.int _)⟩
theorem ev_lenL {pz : Pos} (hm : X.mg ("len" : Str) = none) (ha : Ev X B δ a (.list xs)) (hg : Gl X ("len" : Str) := by rfl) (he : starEach (a :: []) X.env = (false, eval a X.env) :: starEach [] X.env := by rfl) (hpl : (backTo pos (starEach [] X.env)).any (·.1) = false := by rfl) :
    Ev X B δ (.Call (.Name "len" pz) [a] [] pos) (.int xs.length) :=
  ev_of (pe_callB call_len_seq hg hm PySem.boot_len (pa_cons pe_sem pa_nil he) (by decide) (by decide) he hpl) fun σ G H s Q q => ha σ G H s _ fun u G1 H1 g1 d1 => by
    obtain ⟨t, vs, rfl, h1, h2⟩ := dpi_lst d1
    exact ⟨t, vs, rfl, .inl (l_of (ex_l g1.gh h1)), by rw [h2.length]; exact q _ G1 H1 g1 (.int _)⟩
/-- sum of a list of ints -/
theorem ev_sumL {pz : Pos} {ns : List Int} (hc : X.calm = true) (hm : X.mg ("sum" : Str) = none) (ha : Ev X B δ a (.list (ns.map .int))) (hg : Gl X ("sum" : Str) := by rfl) (hv : bootBuiltins "sum" = some (.builtin "sum") := by decide +kernel)
    (he : starEach (a :: []) X.env = (false, eval a X.env) :: starEach [] X.env := by rfl) (hpl : (backTo pos (starEach [] X.env)).any (·.1) = false := by rfl) : Ev X B δ (.Call (.Name "sum" pz) [a] [] pos) (.int ns.sum) :=
  ev_of (pe_callB (cr_sum hc) hg hm hv (pa_cons pe_sem pa_nil he) (by decide) (by decide) he hpl) fun σ G H s Q q => ha σ G H s _ fun u G1 H1 g1 d1 => by
    obtain ⟨t, vs, rfl, h1, h2⟩ := dpi_lst d1
    rw [h2.ints] at h1
    exact ⟨t, ns, rfl, l_of (ex_l g1.gh h1), q _ G1 H1 g1 (.int _)⟩
/-- list(x) -/
theorem ev_listT {pz : Pos} (hm : X.mg ("list" : Str) = none) (ha : Ev X B δ a (.tuple xs)) (hg : Gl X ("list" : Str) := by rfl) (hv : bootBuiltins "list" = some (.type "list") := by decide +kernel)
    (he : starEach (a :: []) X.env = (false, eval a X.env) :: starEach [] X.env := by rfl) (hpl : (backTo pos (starEach [] X.env)).any (·.1) = false := by rfl) : Ev X B δ (.Call (.Name "list" pz) [a] [] pos) (.list xs) :=
  ev_of (pe_callTy call_list_of hg hm hv (pa_cons pe_sem pa_nil he) (by decide) (by decide) he hpl) fun σ G H s Q q => ha σ G H s _ fun u G1 H1 g1 d1 => by
    obtain ⟨t, vs, rfl, h1, h2⟩ := dpi_tup d1
    refine ⟨t, vs, rfl, .inr (t_of (ex_t g1.gh h1)), fun l hl => ?_⟩
    have g : Grow B.T m0 G1 H1 (upd G1 l (.lst vs)) (upd H1 l (.lst vs)) := Grow.laid g1.gh g1.t hl
    exact q _ _ _ (g1.trans g) (.lst (SqL.of upd_same) (h2.mono g.g))
/-- tuple(x), x a list -/
theorem ev_tupleL {pz : Pos} (hm : X.mg ("tuple" : Str) = none) (ha : Ev X B δ a (.list xs)) (hg : Gl X ("tuple" : Str) := by rfl) (hv : bootBuiltins "tuple" = some (.type "tuple") := by decide +kernel)
    (he : starEach (a :: []) X.env = (false, eval a X.env) :: starEach [] X.env := by rfl) (hpl : (backTo pos (starEach [] X.env)).any (·.1) = false := by rfl) : Ev X B δ (.Call (.Name "tuple" pz) [a] [] pos) (.tuple xs) :=
  ev_of (pe_callTy call_tuple_of hg hm hv (pa_cons pe_sem pa_nil he) (by decide) (by decide) he hpl) fun σ G H s Q q => ha σ G H s _ fun u G1 H1 g1 d1 => by
    obtain ⟨t, vs, rfl, h1, h2⟩ := dpi_lst d1
    refine ⟨t, vs, rfl, .inl ⟨l_of (ex_l g1.gh h1), fun l hl => ?_⟩⟩
    have g : Grow B.T m0 G1 H1 (upd G1 l (.tup vs)) (upd H1 l (.tup vs)) := Grow.laid g1.gh g1.t hl
    exact q _ _ _ (g1.trans g) (.tup (SqT.of upd_same) (h2.mono g.g))
/-- min(m, n) -/
theorem ev_min2 {pz : Pos} (hc : X.calm = true) (hm : X.mg ("min" : Str) = none) (ha : Ev X B δ a (.int i)) (hb : Ev X B δ b (.int j)) (hg : Gl X ("min" : Str) := by rfl) (hv : bootBuiltins "min" = some (.builtin "min") := by decide +kernel)
    (he2 : starEach (b :: []) X.env = (false, eval b X.env) :: starEach [] X.env := by rfl) (he : starEach (a :: [b]) X.env = (false, eval a X.env) :: starEach [b] X.env := by rfl) (hpl : (backTo pos (starEach [b] X.env)).any (·.1) = false := by rfl) : Ev X B δ (.Call (.Name "min" pz) [a, b] [] pos) (.int (if j < i then j else i)) :=
  ev_of (pe_callB (call_min2 hc) hg hm hv (pa_cons pe_sem (pa_cons pe_sem pa_nil he2) he) (by decide) (by decide) he hpl) fun σ G H s Q q => ha σ G H s _ fun u G1 H1 g1 d1 => hb σ G1 H1 (s.grow g1) _ fun v G2 H2 g2 d2 =>
    ⟨i, j, by rw [dpi_int d1, dpi_int d2], q _ G2 H2 (g1.trans g2) (.int _)⟩
end
end CR

set_option Elab.async false
set_option linter.all false
set_option maxRecDepth 100000
set_option maxHeartbeats 1000000
/-! # The data logic, 3: targets, walks, statements, comprehensions -/
namespace CR
open PySem L2 Evl
/-! ## Targets -/
/-- the target tg gets d: the slots are then δ', but for is all as before -/
def EvG (X : Cx) (B : Bd) (δ : List SD) (tg : Expr) (d : PyData) (δ' : List SD) (is : List Nat) : Prop :=
  ∀ (σ : L2.St) (G H : Hp) (v : V), Sta B δ σ G H → Dp K0 G v d → ∀ Q : L2.St → Hp → Prop, (∀ σ', Sta B δ' σ' G H → σ'.length = σ.length → (∀ j, j ∉ is → σ'[j]? = σ[j]?) → Q σ' H) → semG X tg v σ H Q
def EvGs (X : Cx) (B : Bd) (δ : List SD) (ts : List Expr) (ds : List PyData) (δ' : List SD) (is : List Nat) : Prop :=
  ∀ (σ : L2.St) (G H : Hp) (vs : List V), Sta B δ σ G H → DpAll K0 G vs ds → ∀ Q : L2.St → Hp → Prop, (∀ σ', Sta B δ' σ' G H → σ'.length = σ.length → (∀ j, j ∉ is → σ'[j]? = σ[j]?) → Q σ' H) → semGs X ts vs σ H Q
section
variable {X : Cx} {B : Bd} {δ δ1 δ' : List SD} {e : Expr} {es : List Expr} {d x : PyData} {ds xs : List PyData} {is js : List Nat} {pos : Pos}
theorem evG_name (n : Nat) {z : Str} (hnd : X.N.Nodup) (hN : X.N[n]? = some z := by rfl) (hx : Loc X.env.scope z := by first | exact Or.inl rfl | exact Or.inr rfl) (hf : X.fn z = true ∨ X.env.scope.names.lookup z = some .local := by first | exact .inl rfl | exact .inr rfl) :
    EvG X B δ (.Name z pos) d (δ.set n (.d d)) [n] := fun σ G H v s h Q q =>
  semG_of (pg_name hnd hN hx hf) (q _ (s.setD h) (by rw [List.length_set]) fun j hj => by rw [List.getElem?_set_ne (fun z => hj (by rw [z]; exact List.mem_singleton.mpr rfl))])
theorem evGs_nil : EvGs X B δ [] [] δ [] := fun σ G H vs s h Q q => by
  cases h
  exact semGs_of pgs_nil ⟨rfl, q σ s rfl fun _ _ => rfl⟩
theorem evGs_cons (h1 : EvG X B δ e x δ1 is) (h2 : EvGs X B δ1 es xs δ' js) (hs : (assignEach (e :: es) X.env).map (·.2) = assign e X.env :: (assignEach es X.env).map (·.2) := by rfl) :
    EvGs X B δ (e :: es) (x :: xs) δ' (is ++ js) := fun σ G H vs s h Q q => by
  cases h with
  | cons d1 d2 =>
    exact semGs_of (pgs_cons pg_sem pgs_sem hs) ⟨_, _, rfl, h1 σ G H _ s d1 _ fun σ1 s1 l1 e1 => h2 σ1 G H _ s1 d2 _ fun σ2 s2 l2 e2 => q σ2 s2 (l2.trans l1) fun j hj =>
      (e2 j fun z => hj (List.mem_append_right _ z)).trans (e1 j fun z => hj (List.mem_append_left _ z))⟩
theorem evG_tup {k : Nat} {n : Nat} (hc : X.calm = true) (h : EvGs X B δ es ds δ' is) (hn : (assignEach es X.env).length = n := by rfl) (hst : (assignEach es X.env).findIdx? (·.1) = none := by rfl) (hl : ds.length = n := by rfl) :
    EvG X B δ (.Tuple es k pos) (.tuple ds) δ' is := fun σ G H v s hv Q q => by
  obtain ⟨t, vs, rfl, h1, h2⟩ := dpi_tup hv
  exact semG_of (pg_tup hc pgs_sem hn hst) ⟨t, vs, rfl, t_of (ex_t s.e h1), h2.length.trans hl, h σ G H vs s h2 Q q⟩
end

/-! ## What is walked -/
/-- J walks the data ys, while what stands still in G does so -/
structure IsWalk (T : List TabN) (J : It) (G : Hp) (ys : List PyData) : Prop where
  go : ∀ i G' H, i < ys.length → Ex G G' → Ex G' H → J.go i H
  stop : ∀ G' H, Ex G G' → Ex G' H → J.stop ys.length H
  yld : ∀ i G' H v H' d, ys[i]? = some d → Ex G G' → Ex G' H → TabsOk T G' H → J.yld i H v H' → ∃ G2, Grow T m0 G' H G2 H' ∧ Dp K0 G2 v d
def EvI (X : Cx) (B : Bd) (δ : List SD) (tg iter : Expr) (ys : List PyData) : Prop :=
  ∀ (σ : L2.St) (G H : Hp), Sta B δ σ G H → ∀ R : It → Hp → Prop, (∀ J G2 H2, Grow B.T m0 G H G2 H2 → IsWalk B.T J G2 ys → R J H2) → semI X tg iter σ H R
section
variable {X : Cx} {B : Bd} {δ δ1 δ' : List SD} {a b e tg : Expr} {d x : PyData} {ds xs ys : List PyData} {pos : Pos}
theorem evI_list (h : Ev X B δ e (.list ys)) : EvI X B δ tg e ys := fun σ G H s R r =>
  semI_of (pi_list pe_sem) (h σ G H s _ fun v G1 H1 g1 d1 => by
    obtain ⟨a, vs, rfl, h1, h2⟩ := dpi_lst d1
    refine ⟨a, rfl, ⟨vs, l_of (ex_l g1.gh h1)⟩, r _ G1 H1 g1 ⟨fun i G' H' hi e1 e2 => ?_, fun G' H' e1 e2 => ?_, fun i G' H' v H2 d hd e1 e2 ht y => ?_⟩⟩
    · have hi' : i < vs.length := by rw [h2.length]; exact hi
      exact ⟨vs, vs[i], l_of (ex_l e2 (ex_l e1 h1)), List.getElem?_eq_getElem hi'⟩
    · exact ⟨vs, l_of (ex_l e2 (ex_l e1 h1)), by rw [h2.length]; exact Nat.le_refl _⟩
    · obtain ⟨rfl, y⟩ := y
      obtain ⟨w, hw, dw⟩ := h2.get hd
      have z := y vs (l_of (ex_l e2 (ex_l e1 h1)))
      rw [hw] at z
      cases z
      exact ⟨G', Grow.refl e2 ht, dw.mono e1⟩)
theorem evI_tup (h : Ev X B δ e (.tuple ys)) : EvI X B δ tg e ys := fun σ G H s R r =>
  semI_of (pi_tup pe_sem) (h σ G H s _ fun v G1 H1 g1 d1 => by
    obtain ⟨a, vs, rfl, h1, h2⟩ := dpi_tup d1
    refine ⟨a, rfl, ⟨vs, t_of (ex_t g1.gh h1)⟩, r _ G1 H1 g1 ⟨fun i G' H' hi e1 e2 => ?_, fun G' H' e1 e2 => ?_, fun i G' H' v H2 d hd e1 e2 ht y => ?_⟩⟩
    · have hi' : i < vs.length := by rw [h2.length]; exact hi
      exact ⟨vs, vs[i], t_of (ex_t e2 (ex_t e1 h1)), List.getElem?_eq_getElem hi'⟩
    · exact ⟨vs, t_of (ex_t e2 (ex_t e1 h1)), by rw [h2.length]; exact Nat.le_refl _⟩
    · obtain ⟨rfl, y⟩ := y
      obtain ⟨w, hw, dw⟩ := h2.get hd
      have z := y vs (t_of (ex_t e2 (ex_t e1 h1)))
      rw [hw] at z
      cases z
      exact ⟨G', Grow.refl e2 ht, dw.mono e1⟩)
/-- lo, lo + 1, .., n of them -/
def rangeD (lo : Int) (n : Nat) : List PyData := (List.range n).map fun i => .int (lo + (i : Nat))
theorem rangeD_length (lo : Int) (n : Nat) : (rangeD lo n).length = n := by unfold rangeD; rw [List.length_map, List.length_range]
theorem rangeD_get {lo : Int} {n i : Nat} {d : PyData} (h : (rangeD lo n)[i]? = some d) : i < n ∧ d = .int (lo + (i : Nat)) := by
  have hi : i < n := by
    have := (List.getElem?_eq_some_iff.mp h).1
    rw [rangeD_length] at this
    exact this
  unfold rangeD at h
  rw [List.getElem?_map, List.getElem?_range hi] at h
  exact ⟨hi, (Option.some.inj h).symm⟩
theorem walk_rng {T : List TabN} {G : Hp} {lo : Int} {n : Nat} : IsWalk T (Itr lo n) G (rangeD lo n) :=
  ⟨fun i _ _ hi _ _ => by rw [rangeD_length] at hi; exact hi, fun _ _ _ _ => by show n ≤ _; rw [rangeD_length]; exact Nat.le_refl _, fun i G' H v H' d hd _ e2 ht y => by
    obtain ⟨rfl, rfl⟩ := y
    rw [(rangeD_get hd).2]
    exact ⟨G', Grow.refl e2 ht, .int _⟩⟩
theorem evI_range1 {n : Int} {pz : Pos} (hm : X.mg ("range" : Str) = none) (h : Ev X B δ a (.int n)) (hn : -(2 ^ 62) ≤ n ∧ n < 2 ^ 62) (hg : Gl X ("range" : Str) := by rfl) (hs : starEach [a] X.env = [(false, eval a X.env)] := by rfl)
    (he : starEach (a :: []) X.env = (false, eval a X.env) :: starEach [] X.env := by rfl) : EvI X B δ tg (.Call (.Name "range" pz) [a] [] pos) (rangeD 0 n.toNat) := fun σ G H s R r =>
  semI_of (pi_range1 hg hm (pa_cons pe_sem pa_nil he) hs) (h σ G H s _ fun v G1 H1 g1 d1 => ⟨n, by rw [dpi_int d1], hn.1, hn.2, r _ G1 H1 g1 walk_rng⟩)
theorem evI_range2 {l n : Int} {pz : Pos} (hm : X.mg ("range" : Str) = none) (h : Ev X B δ a (.int l)) (h2 : Ev X B δ b (.int n)) (hl : -(2 ^ 62) ≤ l ∧ l < 2 ^ 62 ∧ -(2 ^ 62) ≤ n ∧ n < 2 ^ 62) (hg : Gl X ("range" : Str) := by rfl)
    (hs : starEach [a, b] X.env = [(false, eval a X.env), (false, eval b X.env)] := by rfl) (hs2 : starEach [b] X.env = [(false, eval b X.env)] := by rfl) (he : starEach (a :: [b]) X.env = (false, eval a X.env) :: starEach [b] X.env := by rfl)
    (he2 : starEach (b :: []) X.env = (false, eval b X.env) :: starEach [] X.env := by rfl) : EvI X B δ tg (.Call (.Name "range" pz) [a, b] [] pos) (rangeD l (n - l).toNat) := fun σ G H s R r =>
  semI_of (pi_range2 hg hm (pa_cons pe_sem (pa_cons pe_sem pa_nil he2) he) hs hs2) (h σ G H s _ fun v G1 H1 g1 d1 => h2 σ G1 H1 (s.grow g1) _ fun w G2 H2 g2 d2 => ⟨l, n, by rw [dpi_int d1, dpi_int d2], hl, r _ G2 H2 (g1.trans g2) walk_rng⟩)
end

/-! ## Statements -/
/-- what is wanted behind a block, in data -/
structure DP where
  nx : List SD → Prop
  rt : PyData → Prop
  bk : List SD → Prop := fun _ => False
  ct : List SD → Prop := fun _ => False
  ro : Hp → Hp → Prop := fun _ _ => True
/-- Gs: what stood still at the start stands yet -/
def DP.ends (B : Bd) (Gs : Hp) (P : DP) : Ends where
  nx := fun σ H => ∃ G δ, P.nx δ ∧ Sta B δ σ G H ∧ Ex Gs G
  rt := fun v H => ∃ G d, (P.rt d ∧ P.ro G H) ∧ Grow B.T B.m B.G0 B.H0 G H ∧ Dp K0 G v d
  bk := fun σ H => ∃ G δ, P.bk δ ∧ Sta B δ σ G H ∧ Ex Gs G
  ct := fun σ H => ∃ G δ, P.ct δ ∧ Sta B δ σ G H ∧ Ex Gs G
/-- the block, at the slots δ, comes to what is wanted -/
def Tr (X : Cx) (B : Bd) (δ : List SD) (sts : List Stmt) (P : DP) : Prop := ∀ (σ : L2.St) (G H Gs : Hp), Sta B δ σ G H → Ex Gs G → semSs X sts (P.ends B Gs) σ H
/-- one statement -/
def Tr1 (X : Cx) (B : Bd) (δ : List SD) (st : Stmt) (P : DP) : Prop := ∀ (σ : L2.St) (G H Gs : Hp), Sta B δ σ G H → Ex Gs G → semS X st (P.ends B Gs) σ H
theorem semSs_mono {X : Cx} {sts : List Stmt} {D D' : Ends} {σ : L2.St} {H : Hp} (h : semSs X sts D σ H) (h1 : ∀ σ H, D.nx σ H → D'.nx σ H) (h2 : ∀ v H, D.rt v H → D'.rt v H) (h3 : ∀ σ H, D.bk σ H → D'.bk σ H) (h4 : ∀ σ H, D.ct σ H → D'.ct σ H) :
    semSs X sts D' σ H := fun pins s I => thn (h pins s I) fun f s1 q => by
  cases f with
  | next => obtain ⟨σ', H', I', q⟩ := q; exact ⟨σ', H', I', h1 _ _ q⟩
  | brk => obtain ⟨σ', H', I', q⟩ := q; exact ⟨σ', H', I', h3 _ _ q⟩
  | cont => obtain ⟨σ', H', I', q⟩ := q; exact ⟨σ', H', I', h4 _ _ q⟩
  | ret u => obtain ⟨v, σ', H', I', r, q⟩ := q; exact ⟨v, σ', H', I', r, h2 _ _ q⟩
section
variable {X : Cx} {B : Bd} {δ δ1 δ' : List SD} {a b c e tg iter : Expr} {st : Stmt} {sts rest body s1 s2 : List Stmt} {d x : PyData} {ds xs ys : List PyData} {pos : Pos} {P : DP} {p : Bool} {is : List Nat}
theorem tr_nil (h : P.nx δ) : Tr X B δ [] P := fun σ G H Gs s eg => semSs_of pss_nil ⟨G, δ, h, s, eg⟩
theorem tr_cons (h : Tr1 X B δ st { P with nx := fun δ' => Tr X B δ' rest P }) : Tr X B δ (st :: rest) P := fun σ G H Gs s eg => by
  refine semSs_of (pss_cons ps_sem pss_sem) ?_
  intro pins st I
  refine thn (h σ G H Gs s eg pins st I) fun f s1 q => ?_
  cases f with
  | next =>
    obtain ⟨σ', H', I', G', δ', q, s', eg'⟩ := q
    exact ⟨σ', H', I', q σ' G' H' Gs s' eg'⟩
  | brk => exact q
  | cont => exact q
  | ret u => exact q
/-- the slots are told otherwise -/
theorem Tr.weak (h : Tr X B δ' sts P) (k : ∀ σ G H, Sta B δ σ G H → ∃ G', Sta B δ' σ G' H ∧ Ex G G') : Tr X B δ sts P := fun σ G H Gs s eg => by
  obtain ⟨G', s', e'⟩ := k σ G H s
  exact h σ G' H Gs s' (eg.trans e')
theorem tr_asg (n : Nat) {z : Str} {pz : Pos} (he : Ev X B δ e d) (hnd : X.N.Nodup) (h : Tr X B (δ.set n (.d d)) rest P) (hN : X.N[n]? = some z := by rfl) (hx : Loc X.env.scope z := by first | exact Or.inl rfl | exact Or.inr rfl)
    (hf : X.fn z = true ∨ X.env.scope.names.lookup z = some .local := by first | exact .inl rfl | exact .inr rfl) (hs : swapsWith e (some (.Name z pz)) pos.line X.env = pure false := by rfl) : Tr X B δ (.Assign [.Name z pz] e pos :: rest) P :=
  tr_cons fun σ G H Gs s eg => semS_of (ps_set hnd hN hx pe_sem hs hf) (he σ G H s _ fun v G1 H1 g1 d1 => ⟨G1, _, h, (s.grow g1).setD d1, eg.trans g1.g⟩)
/-- a new list of the def's own -/
theorem tr_new (n : Nat) {z : Str} {pz p2 : Pos} {es : List Expr} (he : EvA X B δ es xs) (hnd : X.N.Nodup) (h : Tr X B (δ.set n (.own xs)) rest P) (hl : xs.length ≤ sizeLine := by first | decide | (simp only [List.length_cons, List.length_nil]; decide)) (hN : X.N[n]? = some z := by rfl) (hx : Loc X.env.scope z := by first | exact Or.inl rfl | exact Or.inr rfl)
    (hf : X.fn z = true ∨ X.env.scope.names.lookup z = some .local := by first | exact .inl rfl | exact .inr rfl) (hs : swapsWith (.List es p2) (some (.Name z pz)) pos.line X.env = pure false := by rfl) : Tr X B δ (.Assign [.Name z pz] (.List es p2) pos :: rest) P :=
  tr_cons fun σ G H Gs s eg => semS_of (ps_set hnd hN hx (pe_lst pa_sem) hs hf) (he σ G H s _ fun vs G1 H1 g1 d1 => ⟨by rw [d1.length]; exact hl, fun t ht => by
    have s1 := s.grow g1
    refine ⟨G1, _, h, s1.setO ht ⟨t, vs, rfl, fresh_back g1.gh ht, ?_, upd_same, d1⟩, eg.trans g1.g⟩
    cases z : B.H0 t with
    | none => rfl
    | some o => exact (s1.gr.d t (by rw [z]; simp) ht).elim⟩)
/-- an own list stands still from here on -/
theorem Sta.freeze {σ : L2.St} {G H : Hp} (n : Nat) (hn : δ[n]? = some (.own xs)) (s : Sta B δ σ G H) : ∃ G', Sta B (δ.set n (.d (.list xs))) σ G' H ∧ Ex G G' := by
  obtain ⟨t, vs, e, h1, h2, h3, h4⟩ := s.ok n _ hn
  have eG : Ex G (upd G t (.lst vs)) := Ex.new h1
  have eH : Ex (upd G t (.lst vs)) H := fun a u h => by
    by_cases ha : a = t
    · subst ha; rw [upd_same] at h; cases h; exact h3
    · rw [upd_ne ha] at h; exact s.e a u h
  have gr : Grow B.T B.m B.G0 B.H0 (upd G t (.lst vs)) H := ⟨s.gr.g.trans eG, eH, s.gr.h, fun P hP => by
    obtain ⟨⟨ps, q1, q2⟩, q3⟩ := s.gr.t P hP
    refine ⟨⟨ps, q1, q2⟩, ?_⟩
    rw [upd_ne (ne_of q1 h3 (fun z => nomatch z))]
    exact q3, fun a h0 g0 => by
    rw [upd_ne (fun z => by subst z; exact h0 h2)]
    exact s.gr.fr a h0 g0, s.gr.d⟩
  have hlen : n < δ.length := (List.getElem?_eq_some_iff.mp hn).1
  have ne : ∀ (j : Nat) (sj : SD) (b : Addr), j ≠ n → δ[j]? = some sj → sj.owns = true → σ[j]? = some (some (.ref b)) → b ≠ t := fun j sj b hj e1 o1 f1 z => by
    subst z
    exact hj (s.sep j n sj _ b e1 hn o1 rfl f1 e)
  refine ⟨upd G t (.lst vs), ⟨gr, by rw [List.length_set, s.len], fun j sd ej => ?_, fun j k sj sk b e1 e2 o1 o2 f1 f2 => ?_⟩, eG⟩
  · by_cases hj : n = j
    · subst hj
      rw [List.getElem?_set_self hlen] at ej
      cases ej
      exact ⟨.ref t, e, .lst (SqL.of upd_same) (h4.mono eG)⟩
    · rw [List.getElem?_set_ne hj] at ej
      have z := s.ok j sd ej
      cases sd with
      | un => trivial
      | ref a => exact z
      | d x =>
        obtain ⟨u, e', h⟩ := z
        exact ⟨u, e', h.mono eG⟩
      | own ys =>
        obtain ⟨b, ws, e', k1, k2, k3, k4⟩ := z
        have nb := ne j _ b (Ne.symm hj) ej rfl e'
        exact ⟨b, ws, e', by rw [upd_ne nb]; exact k1, k2, k3, k4.mono eG⟩
      | obj q row used =>
        obtain ⟨e', k1, k2, dx, fs, rv, k3, k4, k5, k6, k7, k8⟩ := z
        have nb := ne j _ q (Ne.symm hj) ej rfl e'
        exact ⟨e', by rw [upd_ne nb]; exact k1, k2, dx, fs, rv, k3, k4, k5, k6, k7, k8.mono eG⟩
      | ext φ =>
        obtain ⟨b, e', k1, k2, k3, k5, k6⟩ := z
        have nb := ne j _ b (Ne.symm hj) ej rfl e'
        exact ⟨b, e', by rw [upd_ne nb]; exact k1, k2, k3, k5, k5 _ _ _ _ _ k6 eG eH rfl⟩
  · have key : ∀ {j : Nat} {sj : SD}, (δ.set n (.d (.list xs)))[j]? = some sj → sj.owns = true → δ[j]? = some sj := fun {j sj} e1 o1 => by
      by_cases hj : n = j
      · subst hj
        rw [List.getElem?_set_self hlen] at e1
        cases e1; cases o1
      · rw [List.getElem?_set_ne hj] at e1
        exact e1
    exact s.sep j k sj sk b (key e1 o1) (key e2 o2) o1 o2 f1 f2

theorem tr_freeze (n : Nat) (hn : δ[n]? = some (.own xs)) (h : Tr X B (δ.set n (.d (.list xs))) sts P) : Tr X B δ sts P := h.weak fun σ G H s => s.freeze n hn
theorem tr_un (n : Nat) (h : Tr X B (δ.set n .un) sts P) : Tr X B δ sts P := h.weak fun σ G H s => ⟨G, s.un, Ex.refl G⟩
/-- an own list is changed -/
theorem Sta.mutO {σ : L2.St} {G H : Hp} {t : Addr} {vs : List V} (n : Nat) (hn : δ[n]? = some (.own xs)) (s : Sta B δ σ G H) (ht : σ[n]? = some (some (.ref t))) (hv : DpAll K0 G vs ys) : Sta B (δ.set n (.own ys)) σ G (upd H t (.lst vs)) := by
  obtain ⟨t', ws, e, h1, h2, h3, h4⟩ := s.ok n _ hn
  rw [ht] at e; cases e
  have hlen : n < δ.length := (List.getElem?_eq_some_iff.mp hn).1
  have eH : Ex G (upd H t (.lst vs)) := fun a u h => by
    rw [upd_ne (ne_of_none h h1)]; exact s.e a u h
  have ne : ∀ (j : Nat) (sj : SD) (b : Addr), j ≠ n → δ[j]? = some sj → sj.owns = true → σ[j]? = some (some (.ref b)) → b ≠ t := fun j sj b hj e1 o1 f1 z => by
    subst z
    exact hj (s.sep j n sj _ b e1 hn o1 rfl f1 ht)
  refine ⟨⟨s.gr.g, eH, fun a o h0 nt nm => ?_, fun P hP => ?_, s.gr.fr, fun a h0 => ?_⟩, by rw [List.length_set, s.len], fun j sd ej => ?_, fun j k sj sk b e1 e2 o1 o2 f1 f2 => ?_⟩
  · rw [upd_ne (ne_of_none h0 h2)]
    exact s.gr.h a o h0 nt nm
  · exact ⟨(s.t P hP).1.step (fun ps q1 => by rw [upd_ne (ne_of q1 h3 (fun z => nomatch z))]; exact q1) fun c q q1 => by rw [upd_ne (ne_of q1 h3 (fun z => nomatch z))]; exact q1, (s.t P hP).2⟩
  · by_cases ha : a = t
    · subst ha; rw [upd_same]; simp
    · rw [upd_ne ha]; exact s.gr.d a h0
  · by_cases hj : n = j
    · subst hj
      rw [List.getElem?_set_self hlen] at ej
      cases ej
      exact ⟨t, vs, ht, h1, h2, upd_same, hv⟩
    · rw [List.getElem?_set_ne hj] at ej
      have z := s.ok j sd ej
      cases sd with
      | un => trivial
      | ref a => exact z
      | d x => exact z
      | own zs =>
        obtain ⟨b, ws, e', k1, k2, k3, k4⟩ := z
        have nb := ne j _ b (Ne.symm hj) ej rfl e'
        exact ⟨b, ws, e', k1, k2, by rw [upd_ne nb]; exact k3, k4⟩
      | obj q row used =>
        obtain ⟨e', k1, k2, dx, fs, rv, k3, k4, k5, k6, k7, k8⟩ := z
        have nb := ne j _ q (Ne.symm hj) ej rfl e'
        exact ⟨e', k1, k2, dx, fs, rv, by rw [upd_ne nb]; exact k3, k4, k5, k6, k7, k8⟩
      | ext φ =>
        obtain ⟨b, e', k1, k2, ⟨o, k3, k4⟩, k5, k6⟩ := z
        have nb := ne j _ b (Ne.symm hj) ej rfl e'
        exact ⟨b, e', k1, k2, ⟨o, by rw [upd_ne nb]; exact k3, k4⟩, k5, k5 _ _ _ _ _ k6 (Ex.refl G) eH (upd_ne nb)⟩
  · have key : ∀ {j : Nat} {sj : SD}, (δ.set n (.own ys))[j]? = some sj → sj.owns = true → ∃ sj', δ[j]? = some sj' ∧ sj'.owns = true := fun {j sj} e1 o1 => by
      by_cases hj : n = j
      · subst hj
        exact ⟨_, hn, rfl⟩
      · rw [List.getElem?_set_ne hj] at e1
        exact ⟨_, e1, o1⟩
    obtain ⟨_, a1, a2⟩ := key e1 o1
    obtain ⟨_, b1, b2⟩ := key e2 o2
    exact s.sep j k _ _ b a1 b1 a2 b2 f1 f2
theorem tr_ret {rp : Pos} (he : Ev X B δ e d) (h : P.rt d) (ho : ∀ (σ : L2.St) (G H : Hp), Sta B δ σ G H → P.ro G H := by exact fun _ _ _ _ => trivial) : Tr X B δ (.Return (some e) rp :: rest) P :=
  tr_cons fun σ G H Gs s eg => semS_of (ps_ret pe_sem) (he σ G H s _ fun v G1 H1 g1 d1 => ⟨G1, d, ⟨h, ho σ G1 H1 (s.grow g1)⟩, (s.grow g1).gr, d1⟩)
theorem tr_retOwn (n : Nat) {z : Str} {pz rp : Pos} (hn : δ[n]? = some (.own xs)) (h : P.rt (.list xs)) (hN : X.N[n]? = some z := by rfl) (hv : Vis X.env.scope z := by first | exact Or.inl rfl | exact Or.inr (Or.inl rfl) | exact Or.inr (Or.inr rfl))
    (hd : (z == ("__debug__" : Str)) = false := by decide) (hcd : (z == ("__classdict__" : Str)) = false := by decide) (ho : ∀ (σ : L2.St) (G H : Hp), Sta B (δ.set n (.d (.list xs))) σ G H → P.ro G H := by exact fun _ _ _ _ => trivial) : Tr X B δ (.Return (some (.Name z pz)) rp :: rest) P :=
  tr_freeze n hn (tr_ret (ev_var n (by rw [List.getElem?_set_self (List.getElem?_eq_some_iff.mp hn).1]) hN hv hd hcd) h ho)
theorem tr_if (hc : EvB X B δ c p) (h1 : p = true → Tr X B δ s1 { P with nx := fun δ' => Tr X B δ' rest P }) (h2 : p = false → Tr X B δ s2 { P with nx := fun δ' => Tr X B δ' rest P }) : Tr X B δ (.If c s1 s2 pos :: rest) P :=
  tr_cons fun σ G H Gs s eg => semS_of (ps_if pt_sem pss_sem pss_sem) (hc σ G H s _ fun G1 H1 g1 => by
    cases p with
    | true => exact h1 rfl σ G1 H1 Gs (s.grow g1) (eg.trans g1.g)
    | false => exact h2 rfl σ G1 H1 Gs (s.grow g1) (eg.trans g1.g))
/-- an if without else -/
theorem tr_if0 (hc : EvB X B δ c p) (h1 : p = true → Tr X B δ s1 { P with nx := fun δ' => Tr X B δ' rest P }) (h2 : p = false → Tr X B δ rest P) : Tr X B δ (.If c s1 [] pos :: rest) P :=
  tr_if hc h1 fun z => tr_nil (h2 z)
theorem tr_drop (he : Ev X B δ e d) (h : Tr X B δ rest P) (hs : swapsWith e none pos.line X.env = pure false := by rfl) : Tr X B δ (.Expr e pos :: rest) P :=
  tr_cons fun σ G H Gs s eg => semS_of (ps_expr pe_sem hs) (he σ G H s _ fun v G1 H1 g1 d1 => ⟨G1, δ, h, s.grow g1, eg.trans g1.g⟩)
theorem tr_asgG (he : Ev X B δ e d) (hg : EvG X B δ tg d δ' is) (h : Tr X B δ' rest P) (hs : swapsWithSole [tg] e pos.line X.env = pure false := by rfl) (hw : swappedStores [tg] e X.env = pure none := by rfl)
    (h1 : (assignEach [tg] X.env).map (·.2) = [assign tg X.env] := by rfl) : Tr X B δ (.Assign [tg] e pos :: rest) P :=
  tr_cons fun σ G H Gs s eg => semS_of (ps_asg pe_sem pg_sem hs hw h1) (he σ G H s _ fun v G1 H1 g1 d1 => hg σ G1 H1 v (s.grow g1) d1 _ fun σ' s' _ _ => ⟨G1, δ', h, s', eg.trans g1.g⟩)
theorem tr_append (n : Nat) {z : Str} {pz apos cpos : Pos} (hn : δ[n]? = some (.own xs)) (he : Ev X B δ e d) (hl : xs.length < sizeLine) (h : Tr X B (δ.set n (.own (xs ++ [d]))) rest P) (hN : X.N[n]? = some z := by rfl)
    (hv : Vis X.env.scope z := by first | exact Or.inl rfl | exact Or.inr (Or.inl rfl) | exact Or.inr (Or.inr rfl)) (hd : (z == ("__debug__" : Str)) = false := by decide) (hcd : (z == ("__classdict__" : Str)) = false := by decide)
    (hs : swapsWith (.Call (.Attribute (.Name z pz) "append" apos) [e] [] cpos) none pos.line X.env = pure false := by rfl)
    (hbase : attributeBase (.Name z pz) "append" X.env (eval (.Name z pz) X.env) = eval (.Name z pz) X.env := by rfl)
    (hfew : ((backTo cpos (starEach (e :: []) X.env)).all (fun x => !x.1) && (backToKw cpos (keywordEach [] X.env)).all (fun x => x.1.isSome)
      && decide ((e :: []).length + ([] : List Keyword).length + (if ([] : List Keyword).isEmpty then 0 else 1) < 30)) = true := by rfl)
    (hline : (apos.endLine == cpos.line) = true := by rfl) (hst : starEach (e :: []) X.env = (false, eval e X.env) :: starEach [] X.env := by rfl) (hplain : (backTo cpos (starEach [] X.env)).any (·.1) = false := by rfl) :
    Tr X B δ (.Expr (.Call (.Attribute (.Name z pz) "append" apos) [e] [] cpos) pos :: rest) P :=
  tr_cons fun σ G H Gs s eg => semS_of (ps_expr (pe_bm PySem.F.plainAttrs_list PySem.F.slot_list_append PySem.F.type_list_append mt_append (pe_var hN hv hd hcd) (pa_cons pe_sem pa_nil hst) hbase hfew hline hst hplain) hs) (by
    obtain ⟨t, vs, e1, h1, h2, h3, h4⟩ := s.ok n _ hn
    refine ⟨_, e1, .inl ⟨rfl, _, SqL.of h3⟩, he σ G H s _ fun v G1 H1 g1 d1 => ?_⟩
    have s1 := s.grow g1
    obtain ⟨t', vs', e1', k1, k2, k3, k4⟩ := s1.ok n _ hn
    rw [e1] at e1'; cases e1'
    exact ⟨t, vs', v, rfl, rfl, k3, by rw [k4.length]; exact hl, G1, _, h, s1.mutO n hn e1 (k4.append (.cons d1 .nil)), eg.trans g1.g⟩)
theorem tr_extend (n : Nat) {z : Str} {pz apos cpos : Pos} (hn : δ[n]? = some (.own xs)) (he : Ev X B δ e (.list ys)) (hl : xs.length + ys.length ≤ sizeLine) (h : Tr X B (δ.set n (.own (xs ++ ys))) rest P) (hN : X.N[n]? = some z := by rfl)
    (hv : Vis X.env.scope z := by first | exact Or.inl rfl | exact Or.inr (Or.inl rfl) | exact Or.inr (Or.inr rfl)) (hd : (z == ("__debug__" : Str)) = false := by decide) (hcd : (z == ("__classdict__" : Str)) = false := by decide)
    (hs : swapsWith (.Call (.Attribute (.Name z pz) "extend" apos) [e] [] cpos) none pos.line X.env = pure false := by rfl)
    (hbase : attributeBase (.Name z pz) "extend" X.env (eval (.Name z pz) X.env) = eval (.Name z pz) X.env := by rfl)
    (hfew : ((backTo cpos (starEach (e :: []) X.env)).all (fun x => !x.1) && (backToKw cpos (keywordEach [] X.env)).all (fun x => x.1.isSome)
      && decide ((e :: []).length + ([] : List Keyword).length + (if ([] : List Keyword).isEmpty then 0 else 1) < 30)) = true := by rfl)
    (hline : (apos.endLine == cpos.line) = true := by rfl) (hst : starEach (e :: []) X.env = (false, eval e X.env) :: starEach [] X.env := by rfl) (hplain : (backTo cpos (starEach [] X.env)).any (·.1) = false := by rfl) :
    Tr X B δ (.Expr (.Call (.Attribute (.Name z pz) "extend" apos) [e] [] cpos) pos :: rest) P :=
  tr_cons fun σ G H Gs s eg => semS_of (ps_expr (pe_bm PySem.F.plainAttrs_list PySem.F.slot_list_extend PySem.F.type_list_extend mt_extendS (pe_var hN hv hd hcd) (pa_cons pe_sem pa_nil hst) hbase hfew hline hst hplain) hs) (by
    obtain ⟨t, vs, e1, h1, h2, h3, h4⟩ := s.ok n _ hn
    refine ⟨_, e1, .inl ⟨rfl, _, SqL.of h3⟩, he σ G H s _ fun v G1 H1 g1 d1 => ?_⟩
    have s1 := s.grow g1
    obtain ⟨t', vs', e1', k1, k2, k3, k4⟩ := s1.ok n _ hn
    rw [e1] at e1'; cases e1'
    obtain ⟨b, ws, rfl, q1, q2⟩ := dpi_lst d1
    exact ⟨t, b, vs', ws, rfl, rfl, k3, l_rd (ex_l g1.gh q1), by rw [k4.length, q2.length]; exact hl, G1, _, h, s1.mutO n hn e1 (k4.append q2), eg.trans g1.g⟩)
/-! ### loops -/
theorem tr_for (hp : PassesOwn (model X.prog X.w) X.A X.env X.xe) (hc : X.calm = true) (hi : EvI X B δ tg iter ys) (Φ : Nat → List SD → Prop) (h0 : Φ 0 δ)
    (hs : ∀ k y δk, ys[k]? = some y → Φ k δk → ∃ δ' is, EvG X B δk tg y δ' is ∧ Tr X B δ' body { P with nx := Φ (k + 1), ct := Φ (k + 1), bk := fun δ' => Tr X B δ' rest P })
    (hd : ∀ δ', Φ ys.length δ' → Tr X B δ' rest P) (hf : ∀ x, foldedSetIterable iter X.env x = pure x := by intro _; rfl) : Tr X B δ (.For tg iter body [] pos :: rest) P :=
  tr_cons fun σ G H Gs s eg => semS_of (ps_for hp hc pi_sem pg_sem pss_sem hf) (hi σ G H s _ fun J G1 H1 g1 w => by
    refine ⟨fun i m σ H => m = ys.length - i ∧ i ≤ ys.length ∧ ∃ G δ, Φ i δ ∧ Sta B δ σ G H ∧ Ex G1 G, ⟨_, rfl, Nat.zero_le _, G1, δ, h0, s.grow g1, Ex.refl _⟩, ?_⟩
    rintro i m σ' H' ⟨rfl, hi, G', δ', hΦ, s', e'⟩
    by_cases hlt : i < ys.length
    · refine .inr ⟨w.go i G' H' hlt e' s'.e, fun σ2 H2 => ∃ G2 δ2, Φ (i + 1) δ2 ∧ Sta B δ2 σ2 G2 H2 ∧ Ex G1 G2, fun σ2 H2 ⟨G2, δ2, a, b, c⟩ => ⟨_, by omega, rfl, hlt, G2, δ2, a, b, c⟩, fun x H2 y => ?_⟩
      obtain ⟨G2, g2, d2⟩ := w.yld i G' H' x H2 _ (List.getElem?_eq_getElem hlt) e' s'.e s'.t y
      obtain ⟨δ2, is, hg, hb⟩ := hs i _ δ' (List.getElem?_eq_getElem hlt) hΦ
      refine hg σ' G2 H2 x (s'.grow g2) d2 _ fun σ3 s3 _ _ => ?_
      refine semSs_mono (hb σ3 G2 H2 G1 s3 (e'.trans g2.g)) (fun _ _ z => z) (fun _ _ z => z) (fun σ4 H4 ⟨G4, δ4, z1, z2, z3⟩ => ⟨G4, δ4, z1, z2, (eg.trans g1.g).trans z3⟩) (fun _ _ z => z)
    · have e : i = ys.length := by omega
      subst e
      exact .inl ⟨w.stop G' H' e' s'.e, G', δ', hd δ' hΦ, s', (eg.trans g1.g).trans e'⟩)
theorem tr_while (hp : PassesOwn (model X.prog X.w) X.A X.env X.xe) (Φ : Nat → List SD → Prop) (n0 : Nat) (h0 : Φ n0 δ)
    (hs : ∀ n δ', Φ n δ' → ∃ b, EvB X B δ' c b ∧ (b = true → Tr X B δ' body { P with nx := fun δ2 => ∃ n', n' < n ∧ Φ n' δ2, ct := fun δ2 => ∃ n', n' < n ∧ Φ n' δ2, bk := fun δ2 => Tr X B δ2 rest P }) ∧ (b = false → Tr X B δ' rest P)) :
    Tr X B δ (.While c body [] pos :: rest) P :=
  tr_cons fun σ G H Gs s eg => semS_of (ps_while hp pt_sem pss_sem) (by
    refine ⟨fun n σ H => ∃ G δ, Φ n δ ∧ Sta B δ σ G H ∧ Ex Gs G, ⟨n0, G, δ, h0, s, eg⟩, ?_⟩
    rintro n σ' H' ⟨G', δ', hΦ, s', e'⟩
    obtain ⟨b, hb, h1, h2⟩ := hs n δ' hΦ
    refine hb σ' G' H' s' _ fun G2 H2 g2 => ?_
    cases b with
    | true =>
      refine ⟨fun σ H => ∃ G δ, (∃ n', n' < n ∧ Φ n' δ) ∧ Sta B δ σ G H ∧ Ex Gs G, fun σ3 H3 ⟨G3, δ3, ⟨n', l, a⟩, b, c⟩ => ⟨n', l, G3, δ3, a, b, c⟩, ?_⟩
      exact h1 rfl σ' G2 H2 Gs (s'.grow g2) (e'.trans g2.g)
    | false => exact ⟨G2, δ', h2 rfl, s'.grow g2, e'.trans g2.g⟩)
end
end CR

set_option Elab.async false
set_option linter.all false
set_option maxRecDepth 100000
set_option maxHeartbeats 1000000
/-! # The data logic, 4: comprehensions, defs -/
namespace CR
open PySem L2 Evl
/-! ## Comprehensions -/
def wipeD (δ : List SD) : List Nat → List SD
  | [] => δ
  | v :: vs => (wipeD δ vs).set v .un
theorem Sta.wipe {B : Bd} {δ : List SD} {σ : L2.St} {G H : Hp} (s : Sta B δ σ G H) : ∀ vs : List Nat, Sta B (wipeD δ vs) (L2.wipe σ vs) G H
  | [] => s
  | v :: vs => (Sta.wipe s vs).forget
theorem wipe_at (σ : L2.St) : ∀ (vs : List Nat) (j : Nat), j ∉ vs → (L2.wipe σ vs)[j]? = σ[j]?
  | [], j, _ => rfl
  | v :: vs, j, h => by
    unfold L2.wipe
    rw [List.getElem?_set_ne (fun z => h (by rw [z]; exact List.mem_cons_self))]
    exact wipe_at σ vs j fun z => h (List.mem_cons_of_mem _ z)
theorem wipe_in (σ : L2.St) : ∀ (vs : List Nat) (j : Nat), j ∈ vs → j < σ.length → (L2.wipe σ vs)[j]? = some none
  | [], j, h, _ => nomatch h
  | v :: vs, j, h, hl => by
    unfold L2.wipe
    by_cases hj : v = j
    · rw [hj, List.getElem?_set_self (by rw [wipe_length]; exact hl)]
    · rw [List.getElem?_set_ne hj]
      exact wipe_in σ vs j ((List.mem_cons.mp h).resolve_left fun z => hj z.symm) hl
theorem wipe_eq {σ σ' : L2.St} {vs : List Nat} (hl : σ'.length = σ.length) (h : ∀ j, j ∉ vs → σ'[j]? = σ[j]?) : L2.wipe σ' vs = L2.wipe σ vs := by
  refine List.ext_getElem? fun j => ?_
  by_cases hj : j ∈ vs
  · by_cases hlt : j < σ.length
    · rw [wipe_in σ vs j hj hlt, wipe_in σ' vs j hj (by rw [hl]; exact hlt)]
    · rw [List.getElem?_eq_none (by rw [wipe_length, hl]; omega), List.getElem?_eq_none (by rw [wipe_length]; omega)]
  · rw [wipe_at σ vs j hj, wipe_at σ' vs j hj, h j hj]
/-- the tests of a clause -/
def semIf (X : Cx) (ifs : List Expr) : TT := fun σ H Q => ∀ (pins : List (Addr × Obj)) (s : Shared), Inv X pins σ H s →
  wpAny (model X.prog X.w) X.A (forIn ifs true fun c r => if r = true then do let ok ← isTrue c X.env (eval c X.env); pure (ForInStep.yield ok) else pure (ForInStep.yield r)) (TP X pins σ Q) X.xe s
def EvIf (X : Cx) (B : Bd) (δ : List SD) (ifs : List Expr) (b : Bool) : Prop :=
  ∀ (σ : L2.St) (G H : Hp), Sta B δ σ G H → ∀ Q : Bool → Hp → Prop, (∀ G2 H2, Grow B.T m0 G H G2 H2 → Q b H2) → semIf X ifs σ H Q
section
variable {X : Cx} {B : Bd} {δ : List SD} {c : Expr} {p : Bool}
theorem evIf_nil : EvIf X B δ [] true := fun σ G H s Q q pins st I => pts_nil.run pins st σ H Q I (q G H s.refl)
theorem evIf_one (h : EvB X B δ c p) : EvIf X B δ [c] p := fun σ G H s Q q pins st I => (pts_one pt_sem).run pins st σ H Q I (h σ G H s Q q)
end
/-- a new list that is being filled -/
theorem Grow.mutO {T : List TabN} {m : Addr → Prop} {G H G2 H2 : Hp} {D : Addr} {vs ws : List V} (g : Grow T m G H G2 H2) (h : H D = none) (hg : G2 D = none) (hD : H2 D = some (.lst vs)) : Grow T m G H G2 (upd H2 D (.lst ws)) where
  g := g.g
  gh := fun a u e => by rw [upd_ne (ne_of_none e hg)]; exact g.gh a u e
  h := fun a o e nt nm => by rw [upd_ne (ne_of_none e h)]; exact g.h a o e nt nm
  t := fun P hP => by
    exact ⟨(g.t P hP).1.step (fun ps q1 => by rw [upd_ne (ne_of q1 hD (fun z => nomatch z))]; exact q1) fun c q q1 => by rw [upd_ne (ne_of q1 hD (fun z => nomatch z))]; exact q1, (g.t P hP).2⟩
  fr := g.fr
  d := fun a e => by
    by_cases ha : a = D
    · subst ha; rw [upd_same]; simp
    · rw [upd_ne ha]; exact g.d a e
/-- at last it stands still -/
theorem Grow.freezeO {T : List TabN} {m : Addr → Prop} {G H G2 H2 : Hp} {D : Addr} {o : HO} (g : Grow T m G H G2 H2) (h : H D = none) (hg : G2 D = none) (hD : H2 D = some o) (nt : NT o := by intro _ z; cases z) : Grow T m G H (upd G2 D o) H2 where
  g := g.g.trans (Ex.new hg)
  gh := fun a u e => by
    by_cases ha : a = D
    · subst ha; rw [upd_same] at e; cases e; exact hD
    · rw [upd_ne ha] at e; exact g.gh a u e
  h := g.h
  t := fun P hP => by
    obtain ⟨⟨ps, q1, q2⟩, q3⟩ := g.t P hP
    refine ⟨⟨ps, q1, q2⟩, ?_⟩
    rw [upd_ne (fun z => nt ps (by rw [z, hD] at q1; exact Option.some.inj q1))]
    exact q3
  fr := fun a h1 h2 => by
    rw [upd_ne (fun z => by subst z; exact h1 h)]
    exact g.fr a h1 h2
  d := g.d
section
variable {X : Cx} {B : Bd} {δ : List SD} {elt tg iter : Expr} {ifs : List Expr} {scope : Scope} {own : List (Str × Nat)} {pos : Pos} {ys : List PyData}
/-- the readings of a comprehension's parts, in whatever block -/
def blkG (X : Cx) (scope : Scope) (tg : Expr) : TG := fun v σ H Q => ∀ (s : Shared) (H0 : Hp) (C : Addr) (cl : List (Str × Addr)) (fp : List Addr), semG (X.blk s H0 scope (compEnvC scope cl C X.env) fp) tg v σ H Q
def blkT (X : Cx) (scope : Scope) (ifs : List Expr) : TT := fun σ H Q => ∀ (s : Shared) (H0 : Hp) (C : Addr) (cl : List (Str × Addr)) (fp : List Addr), semIf (X.blk s H0 scope (compEnvC scope cl C X.env) fp) ifs σ H Q
def blkE (X : Cx) (scope : Scope) (e : Expr) : TE := fun σ H Q => ∀ (s : Shared) (H0 : Hp) (C : Addr) (cl : List (Str × Addr)) (fp : List Addr), semE (X.blk s H0 scope (compEnvC scope cl C X.env) fp) e σ H Q
def blkI (X : Cx) (scope : Scope) (tg iter : Expr) : TI := fun σ H R => ∀ (s : Shared) (H0 : Hp) (C : Addr) (cl : List (Str × Addr)) (fp : List Addr), semI (X.blk s H0 scope (compEnvC scope cl C X.env) fp) tg iter σ H R
theorem pg_blk (s : Shared) (H : Hp) (C : Addr) (cl : List (Str × Addr)) (fp : List Addr) : PG (X.blk s H scope (compEnvC scope cl C X.env) fp) tg (blkG X scope tg) := ⟨fun pins s' _ _ _ u _ I r h => h s H C cl fp pins s' u I r⟩
theorem pts_blk (s : Shared) (H : Hp) (C : Addr) (cl : List (Str × Addr)) (fp : List Addr) : PTs (X.blk s H scope (compEnvC scope cl C X.env) fp) ifs (blkT X scope ifs) := ⟨fun pins s' _ _ _ I h => h s H C cl fp pins s' I⟩
theorem pe_blk (s : Shared) (H : Hp) (C : Addr) (cl : List (Str × Addr)) (fp : List Addr) : PE (X.blk s H scope (compEnvC scope cl C X.env) fp) elt (blkE X scope elt) := ⟨fun pins s' _ _ _ I h => h s H C cl fp pins s' I⟩
theorem pi_blk (s : Shared) (H : Hp) (C : Addr) (cl : List (Str × Addr)) (fp : List Addr) : PI (X.blk s H scope (compEnvC scope cl C X.env) fp) tg (.Name "x" pos) (blkI X scope tg (.Name "x" pos)) := ⟨fun pins s' _ _ _ I h => h s H C cl fp pins s' I⟩
/-- one turn's parts: y is the item; p: taken or not; z: what is made -/
structure LcTurn (X : Cx) (B : Bd) (δ : List SD) (scope : Scope) (vs : List Nat) (tg : Expr) (ifs : List Expr) (elt : Expr) (y : PyData) (p : Bool) (z : PyData) : Prop where
  run : ∃ (δ' : List SD) (is : List Nat), (∀ i ∈ is, i ∈ vs) ∧
    ∀ (s : Shared) (H0 : Hp) (C : Addr) (cl : List (Str × Addr)) (fp : List Addr), EvG (X.blk s H0 scope (compEnvC scope cl C X.env) fp) B (wipeD δ vs) tg y δ' is ∧
      EvIf (X.blk s H0 scope (compEnvC scope cl C X.env) fp) B δ' ifs p ∧ (p = true → Ev (X.blk s H0 scope (compEnvC scope cl C X.env) fp) B δ' elt z)
/-- the list so far -/
structure LcInv (T : List TabN) (G1 H1 : Hp) (D : Addr) (ds : List PyData) (H : Hp) : Prop where
  ex : ∃ (G : Hp) (vs : List V), Grow T m0 G1 H1 G H ∧ G D = none ∧ H D = some (.lst vs) ∧ DpAll K0 G vs ds
theorem lc_run {p : PyData → Bool} {f : PyData → PyData} {vs : List Nat} (hi : EvI X B δ tg iter ys) (ht : ∀ y ∈ ys, LcTurn X B δ scope vs tg ifs elt y (p y) (f y)) (hz : ys.length < sizeLine)
    {σ : L2.St} {G H : Hp} (s : Sta B δ σ G H) {Q : VK} (q : ∀ v G2 H2, Grow B.T m0 G H G2 H2 → Dp K0 G2 v (.list ((ys.filter p).map f)) → Q v H2) :
    tLc (semI X tg iter) (blkG X scope tg) (blkT X scope ifs) (blkE X scope elt) vs σ H Q := by
  refine hi σ G H s _ fun J G1 H1 g1 w D hD => ?_
  refine ⟨fun i m H => m = ys.length - i ∧ i ≤ ys.length ∧ LcInv B.T G1 H1 D (((ys.take i).filter p).map f) H, ⟨_, rfl, Nat.zero_le _, G1, [], Grow.laidO g1.gh g1.t hD, fresh_back g1.gh hD, upd_same, .nil⟩, ?_⟩
  rintro i m H' ⟨rfl, hi, G', us, g', hG', hH', hd⟩
  by_cases hlt : i < ys.length
  · refine .inr ⟨w.go i G' H' hlt g'.g g'.gh, LcInv B.T G1 H1 D (((ys.take (i + 1)).filter p).map f), fun H2 z => ⟨_, by omega, rfl, hlt, z⟩, fun x H2 y => ?_⟩
    obtain ⟨G2, g2, d2⟩ := w.yld i G' H' x H2 _ (List.getElem?_eq_getElem hlt) g'.g g'.gh g'.t y
    obtain ⟨δ', is, his, ht⟩ := (ht ys[i] (List.getElem_mem hlt)).run
    have s2 : Sta B (wipeD δ vs) (L2.wipe σ vs) G2 H2 := (((s.grow g1).grow g').grow g2).wipe vs
    have hl : ((ys.take i).filter p).length ≤ i := Nat.le_trans (List.length_filter_le _ _) (by rw [List.length_take]; omega)
    have hus : us.length < sizeLine := by
      rw [hd.length, List.length_map]
      omega
    have etake : ys.take (i + 1) = ys.take i ++ [ys[i]] := by
      rw [List.take_add_one, List.getElem?_eq_getElem hlt]; rfl
    intro sb H0 C cl fp
    obtain ⟨e1, e2, e3⟩ := ht sb H0 C cl fp
    refine e1 _ G2 H2 x s2 d2 _ fun σ2 s3 el eo => ⟨?_, ?_⟩
    · have e0 : L2.wipe σ2 vs = L2.wipe (L2.wipe σ vs) vs := wipe_eq el fun j hj => eo j fun z => hj (his j z)
      rw [e0]
      exact wipe_eq (wipe_length σ vs) fun j hj => wipe_at σ vs j hj
    · intro sb H0 C cl fp
      obtain ⟨e1, e2, e3⟩ := ht sb H0 C cl fp
      refine e2 σ2 G2 H2 s3 _ fun G3 H3 g3 => ?_
      cases hp : p ys[i] with
      | false =>
        rw [if_neg Bool.false_ne_true]
        refine ⟨G3, us, (g'.trans g2).trans g3, ?_, ?_, ?_⟩
        · exact g3.fr D (g2.d D (by rw [hH']; simp)) (g2.fr D (by rw [hH']; simp) hG')
        · exact g3.h D _ (g2.h D _ hH' (fun _ z => nomatch z) fun z => z) (fun _ z => nomatch z) fun z => z
        · rw [etake, List.filter_append, List.filter_cons_of_neg (by rw [hp]; exact Bool.false_ne_true), List.filter_nil, List.append_nil]
          exact (hd.mono g2.g).mono g3.g
      | true =>
        rw [if_pos rfl]
        intro sb H0 C cl fp
        obtain ⟨e1, e2, e3⟩ := ht sb H0 C cl fp
        refine e3 hp σ2 G3 H3 (s3.grow g3) _ fun y G4 H4 g4 d4 => ?_
        have gg := (g2.trans g3).trans g4
        have hD4 : H4 D = some (.lst us) := gg.h D _ hH' (fun _ z => nomatch z) fun z => z
        have gD4 : G4 D = none := gg.fr D (by rw [hH']; simp) hG'
        refine ⟨us, hD4, hus, G4, us ++ [y], (g'.trans gg).mutO hD gD4 hD4, gD4, upd_same, ?_⟩
        rw [etake, List.filter_append, List.filter_cons_of_pos hp, List.filter_nil, List.map_append]
        exact (hd.mono gg.g).append (.cons d4 .nil)
  · have e : i = ys.length := by omega
    subst e
    refine .inl ⟨w.stop G' H' g'.g g'.gh, ?_⟩
    rw [List.take_length] at hd
    have g2 := g'.freezeO hD hG' hH'
    exact q _ _ _ (g1.trans g2) (.lst (SqL.of upd_same) (hd.mono (Ex.new hG')))

theorem ev_lc (vs : List Nat) (p : PyData → Bool) (f : PyData → PyData) (hc : X.calm = true) (hN : X.N.Nodup) (ok : BlkOk X.N X.env.scope scope own) (hvs : own.map (·.2) = vs) (hi : EvI X B δ tg iter ys)
    (ht : ∀ y ∈ ys, LcTurn X B δ scope vs tg ifs elt y (p y) (f y)) (hz : ys.length < sizeLine) (hs : ∀ x, foldedSetIterable iter X.env x = pure x := by intro _; rfl) :
    Ev X B δ (.ListComp elt [⟨tg, iter, ifs, 0⟩] scope pos) (.list ((ys.filter p).map f)) := by
  subst hvs
  exact ev_of (pe_lc hc hN pi_sem ok pg_blk pts_blk pe_blk hs) fun σ G H s Q q => lc_run hi ht hz s q
theorem tr_setLc {st : Nat} {y : Str} {py spos : Pos} {rest : List Stmt} {P : DP} (n : Nat) (vs : List Nat) (p : PyData → Bool) (f : PyData → PyData) (hc : X.calm = true) (hN : X.N.Nodup) (ok : BlkOk X.N X.env.scope scope own) (hvs : own.map (·.2) = vs) (hi : EvI X B δ tg iter ys)
    (ht : ∀ y ∈ ys, LcTurn X B δ scope vs tg ifs elt y (p y) (f y)) (hz : ys.length < sizeLine) (h : Tr X B (δ.set n (.d (.list ((ys.filter p).map f)))) rest P) (hsw : swapsWith (.ListComp elt [⟨tg, iter, ifs, 0⟩] scope pos) (some (.Name y py)) spos.line X.env = pure true)
    (hy : X.N[n]? = some y := by rfl) (hyl : X.env.scope.names.lookup y = some .local := by rfl) (hs : ∀ x, foldedSetIterable iter X.env x = pure x := by intro _; rfl) :
    Tr X B δ (.Assign [.Name y py] (.ListComp elt [⟨tg, iter, ifs, 0⟩] scope pos) spos :: rest) P := by
  subst hvs
  exact tr_cons fun σ G H Gs s eg => semS_of (ps_setLc hc hN hy hyl hsw pi_sem ok pg_blk pts_blk pe_blk hs) (lc_run hi ht hz s fun v G2 H2 g2 d2 => ⟨G2, _, h, (s.grow g2).setD d2, eg.trans g2.g⟩)

/-- the data alone -/
def SD.dat : SD → SD
  | .d x => .d x
  | .ref a => .ref a
  | _ => .un
theorem Sta.dat {σ : L2.St} {G H : Hp} (s : Sta B δ σ G H) : Sta B (δ.map SD.dat) σ G H := by
  refine ⟨s.gr, by rw [List.length_map, s.len], fun j sd e => ?_, fun j k sj sk b e1 e2 o1 o2 f1 f2 => ?_⟩
  · rw [List.getElem?_map] at e
    cases q : δ[j]? with
    | none => rw [q] at e; cases e
    | some sd' =>
      rw [q] at e
      cases e
      have z := s.ok j sd' q
      cases sd' with
      | d x => exact z
      | ref a => exact z
      | _ => trivial
  · rw [List.getElem?_map] at e1
    cases q : δ[j]? with
    | none => rw [q] at e1; cases e1
    | some sd' =>
      rw [q] at e1
      cases e1
      cases sd' <;> cases o1
theorem Sta.mutFree {σ : L2.St} {G H : Hp} {D : Addr} {vs ws : List V} (s : Sta B δ σ G H) (hno : ∀ sd ∈ δ, sd.owns = false) (hG : G D = none) (hH : H D = some (.lst vs)) (h0 : B.H0 D = none) : Sta B δ σ G (upd H D (.lst ws)) := by
  refine ⟨s.gr.mutO h0 hG hH, s.len, fun j sd e => ?_, fun j k sj sk b e1 e2 o1 o2 f1 f2 => ?_⟩
  · have z := s.ok j sd e
    have n := hno sd (List.mem_of_getElem? e)
    cases sd with
    | un => trivial
    | ref a => exact z
    | d x => exact z
    | _ => cases n
  · have n := hno sj (List.mem_of_getElem? e1)
    rw [n] at o1; cases o1
/-- one turn of the outer clause: y is the item, zs what the inner clause walks, f what is made of an inner item -/
structure LcTurn2 (X : Cx) (B : Bd) (δ : List SD) (scope : Scope) (vs vs1 : List Nat) (tg tg1 iter1 elt : Expr) (y : PyData) (zs : List PyData) (f : PyData → PyData) : Prop where
  run : ∃ (δ' : List SD) (is : List Nat), (∀ i ∈ is, i ∈ vs) ∧ (∀ sd ∈ δ', sd.owns = false) ∧
    (∀ (s : Shared) (H0 : Hp) (C : Addr) (cl : List (Str × Addr)) (fp : List Addr), EvG (X.blk s H0 scope (compEnvC scope cl C X.env) fp) B (wipeD δ vs) tg y δ' is ∧ EvI (X.blk s H0 scope (compEnvC scope cl C X.env) fp) B δ' tg1 iter1 zs) ∧
    ∀ z ∈ zs, ∃ (δ2 : List SD) (is1 : List Nat), (∀ i ∈ is1, i ∈ vs1) ∧ ∀ (s : Shared) (H0 : Hp) (C : Addr) (cl : List (Str × Addr)) (fp : List Addr),
      EvG (X.blk s H0 scope (compEnvC scope cl C X.env) fp) B (wipeD δ' vs1) tg1 z δ2 is1 ∧ Ev (X.blk s H0 scope (compEnvC scope cl C X.env) fp) B δ2 elt (f z)
theorem flat_take {ys : List PyData} {i : Nat} (g : PyData → List PyData) (hlt : i < ys.length) : (ys.take (i + 1)).flatMap g = (ys.take i).flatMap g ++ g ys[i] := by
  rw [List.take_add_one, List.getElem?_eq_getElem hlt, List.flatMap_append]
  simp
theorem flat_le {ys : List PyData} {i : Nat} (g : PyData → List PyData) : ((ys.take i).flatMap g).length ≤ (ys.flatMap g).length := by
  have e : ys.flatMap g = (ys.take i).flatMap g ++ (ys.drop i).flatMap g := by rw [← List.flatMap_append, List.take_append_drop]
  rw [e, List.length_append]
  omega
theorem lc_run2 {tg1 iter1 : Expr} {zs : PyData → List PyData} {f : PyData → PyData → PyData} {vs vs1 : List Nat} (hi : EvI X B δ tg iter ys) (ht : ∀ y ∈ ys, LcTurn2 X B (δ.map SD.dat) scope vs vs1 tg tg1 iter1 elt y (zs y) (f y)) (hz : (ys.flatMap fun y => (zs y).map (f y)).length < sizeLine)
    {σ : L2.St} {G H : Hp} (s : Sta B δ σ G H) {Q : VK} (q : ∀ v G2 H2, Grow B.T m0 G H G2 H2 → Dp K0 G2 v (.list (ys.flatMap fun y => (zs y).map (f y))) → Q v H2) :
    tLc2 (semI X tg iter) (blkG X scope tg) (blkT X scope []) (blkI X scope tg1 iter1) (blkG X scope tg1) (blkT X scope []) (blkE X scope elt) vs vs1 σ H Q := by
  refine hi σ G H s _ fun J G1 H1 g1 w D hD => ?_
  refine ⟨fun i m H => m = ys.length - i ∧ i ≤ ys.length ∧ LcInv B.T G1 H1 D ((ys.take i).flatMap fun y => (zs y).map (f y)) H, ⟨_, rfl, Nat.zero_le _, G1, [], Grow.laidO g1.gh g1.t hD, fresh_back g1.gh hD, upd_same, .nil⟩, ?_⟩
  rintro i m H' ⟨rfl, hi, G', us, g', hG', hH', hd⟩
  by_cases hlt : i < ys.length
  · refine .inr ⟨w.go i G' H' hlt g'.g g'.gh, LcInv B.T G1 H1 D ((ys.take (i + 1)).flatMap fun y => (zs y).map (f y)), fun H2 z => ⟨_, by omega, rfl, hlt, z⟩, fun x H2 y => ?_⟩
    obtain ⟨G2, g2, d2⟩ := w.yld i G' H' x H2 _ (List.getElem?_eq_getElem hlt) g'.g g'.gh g'.t y
    obtain ⟨δ', is, his, hno, ht1, ht2⟩ := (ht ys[i] (List.getElem_mem hlt)).run
    have s2 : Sta B (wipeD (δ.map SD.dat) vs) (L2.wipe σ vs) G2 H2 := (((s.dat.grow g1).grow g').grow g2).wipe vs
    have hsz := flat_le (ys := ys) (i := i + 1) fun y => (zs y).map (f y)
    rw [flat_take _ hlt, List.length_append, List.length_map] at hsz
    intro sb H0 C cl fp
    refine (ht1 sb H0 C cl fp).1 _ G2 H2 x s2 d2 _ fun σ2 s3 el eo => ⟨?_, ?_⟩
    · have e0 : L2.wipe σ2 vs = L2.wipe (L2.wipe σ vs) vs := wipe_eq el fun j hj => eo j fun z => hj (his j z)
      rw [e0]
      exact wipe_eq (wipe_length σ vs) fun j hj => wipe_at σ vs j hj
    · intro sb H0 C cl fp
      refine evIf_nil σ2 G2 H2 s3 _ fun G3 H3 g3 => ?_
      rw [if_pos rfl]
      intro sb H0 C cl fp
      refine (ht1 sb H0 C cl fp).2 σ2 G3 H3 (s3.grow g3) _ fun J1 G4 H4 g4 w1 => ?_
      have gg := (g2.trans g3).trans g4
      have hD4 : H4 D = some (.lst us) := gg.h D _ hH' (fun _ z => nomatch z) fun z => z
      have gD4 : G4 D = none := gg.fr D (by rw [hH']; simp) hG'
      have s4 : Sta B δ' σ2 G4 H4 := (s3.grow g3).grow g4
      refine ⟨fun j k H => k = (zs ys[i]).length - j ∧ j ≤ (zs ys[i]).length ∧ ∃ G us', Grow B.T m0 G1 H1 G H ∧ G D = none ∧ H D = some (.lst us') ∧ DpAll K0 G us' ((ys.take i).flatMap (fun y => (zs y).map (f y)) ++ ((zs ys[i]).take j).map (f ys[i])) ∧ Ex G4 G ∧ Sta B δ' σ2 G H,
        ⟨_, rfl, Nat.zero_le _, G4, us, g'.trans gg, gD4, hD4, by rw [List.take_zero, List.map_nil, List.append_nil]; exact hd.mono gg.g, Ex.refl _, s4⟩, ?_⟩
      rintro j k H5 ⟨rfl, hj, G5, us5, g5, hG5, hH5, hd5, e5, s5⟩
      by_cases hlj : j < (zs ys[i]).length
      · refine .inr ⟨w1.go j G5 H5 hlj e5 s5.e, fun H => ∃ G us', Grow B.T m0 G1 H1 G H ∧ G D = none ∧ H D = some (.lst us') ∧ DpAll K0 G us' ((ys.take i).flatMap (fun y => (zs y).map (f y)) ++ ((zs ys[i]).take (j + 1)).map (f ys[i])) ∧ Ex G4 G ∧ Sta B δ' σ2 G H,
          fun H6 z => ⟨_, by omega, rfl, hlj, z⟩, fun x1 H6 y1 => ?_⟩
        obtain ⟨G6, g6, d6⟩ := w1.yld j G5 H5 x1 H6 _ (List.getElem?_eq_getElem hlj) e5 s5.e s5.t y1
        obtain ⟨δ2, is1, his1, ht3⟩ := ht2 (zs ys[i])[j] (List.getElem_mem hlj)
        have s6 : Sta B (wipeD δ' vs1) (L2.wipe σ2 vs1) G6 H6 := (s5.grow g6).wipe vs1
        intro sb H0 C cl fp
        refine (ht3 sb H0 C cl fp).1 _ G6 H6 x1 s6 d6 _ fun σ3 s7 el1 eo1 => ⟨?_, ?_⟩
        · have e0 : L2.wipe σ3 vs1 = L2.wipe (L2.wipe σ2 vs1) vs1 := wipe_eq el1 fun l hl => eo1 l fun z => hl (his1 l z)
          rw [e0]
          exact wipe_eq (wipe_length σ2 vs1) fun l hl => wipe_at σ2 vs1 l hl
        · intro sb H0 C cl fp
          refine evIf_nil σ3 G6 H6 s7 _ fun G7 H7 g7 => ?_
          rw [if_pos rfl]
          intro sb H0 C cl fp
          refine (ht3 sb H0 C cl fp).2 σ3 G7 H7 (s7.grow g7) _ fun yv G8 H8 g8 d8 => ?_
          have g68 := (g6.trans g7).trans g8
          have hD8 : H8 D = some (.lst us5) := g68.h D _ hH5 (fun _ z => nomatch z) fun z => z
          have gD8 : G8 D = none := g68.fr D (by rw [hH5]; simp) hG5
          have s8 : Sta B δ' σ2 G8 H8 := s5.grow g68
          have hlen : us5.length < sizeLine := by
            rw [hd5.length, List.length_append, List.length_map, List.length_take]
            omega
          refine ⟨us5, hD8, hlen, G8, us5 ++ [yv], (g5.trans g68).mutO hD gD8 hD8, gD8, upd_same, ?_, e5.trans g68.g, ?_⟩
          · have etake : ((zs ys[i]).take (j + 1)).map (f ys[i]) = ((zs ys[i]).take j).map (f ys[i]) ++ [f ys[i] (zs ys[i])[j]] := by
              rw [List.take_add_one, List.getElem?_eq_getElem hlj, List.map_append]; rfl
            rw [etake, ← List.append_assoc]
            exact (hd5.mono g68.g).append (.cons d8 .nil)
          · refine s8.mutFree hno gD8 hD8 ?_
            cases z : B.H0 D with
            | none => rfl
            | some o => exact ((g1.d D (s.gr.d D (by rw [z]; simp))) hD).elim
      · have e : j = (zs ys[i]).length := by omega
        subst e
        rw [List.take_length] at hd5
        refine .inl ⟨w1.stop G5 H5 e5 s5.e, G5, us5, g5, hG5, hH5, ?_⟩
        rw [flat_take _ hlt]
        exact hd5
  · have e : i = ys.length := by omega
    subst e
    refine .inl ⟨w.stop G' H' g'.g g'.gh, ?_⟩
    rw [List.take_length] at hd
    have g2 := g'.freezeO hD hG' hH'
    exact q _ _ _ (g1.trans g2) (.lst (SqL.of upd_same) (hd.mono (Ex.new hG')))

theorem ev_lc2 {tg1 iter1 : Expr} (vs vs1 : List Nat) (zs : PyData → List PyData) (f : PyData → PyData → PyData) (hc : X.calm = true) (hN : X.N.Nodup) (ok : BlkOk X.N X.env.scope scope own) (hvs : own.map (·.2) = vs) (hv : ∀ i ∈ vs1, i ∈ vs) (hi : EvI X B δ tg iter ys)
    (ht : ∀ y ∈ ys, LcTurn2 X B (δ.map SD.dat) scope vs vs1 tg tg1 iter1 elt y (zs y) (f y)) (hz : (ys.flatMap fun y => (zs y).map (f y)).length < sizeLine) (hs : ∀ x, foldedSetIterable iter X.env x = pure x := by intro _; rfl)
    (hs1 : ∀ (env : Env) x, foldedSetIterable iter1 env x = pure x := by intro _ _; rfl) :
    Ev X B δ (.ListComp elt [⟨tg, iter, [], 0⟩, ⟨tg1, iter1, [], 0⟩] scope pos) (.list (ys.flatMap fun y => (zs y).map (f y))) := by
  subst hvs
  refine ev_of (pe_lc2 hc hN pi_sem ok hv pg_blk pts_blk (fun s H C cl fp => ⟨fun pins s' _ _ _ I h => h s H C cl fp pins s' I⟩) pg_blk pts_blk pe_blk hs hs1) fun σ G H s Q q => lc_run2 hi ht hz s q

theorem tr_setLc2 {tg1 iter1 : Expr} {y : Str} {py spos : Pos} {rest : List Stmt} {P : DP} (n : Nat) (vs vs1 : List Nat) (zs : PyData → List PyData) (f : PyData → PyData → PyData) (hc : X.calm = true) (hN : X.N.Nodup) (ok : BlkOk X.N X.env.scope scope own) (hvs : own.map (·.2) = vs) (hv : ∀ i ∈ vs1, i ∈ vs) (hi : EvI X B δ tg iter ys)
    (ht : ∀ y ∈ ys, LcTurn2 X B (δ.map SD.dat) scope vs vs1 tg tg1 iter1 elt y (zs y) (f y)) (hz : (ys.flatMap fun y => (zs y).map (f y)).length < sizeLine) (h : Tr X B (δ.set n (.d (.list (ys.flatMap fun y => (zs y).map (f y))))) rest P)
    (hsw : swapsWith (.ListComp elt [⟨tg, iter, [], 0⟩, ⟨tg1, iter1, [], 0⟩] scope pos) (some (.Name y py)) spos.line X.env = pure true)
    (hy : X.N[n]? = some y := by rfl) (hyl : X.env.scope.names.lookup y = some .local := by rfl) (hs : ∀ x, foldedSetIterable iter X.env x = pure x := by intro _; rfl) (hs1 : ∀ (env : Env) x, foldedSetIterable iter1 env x = pure x := by intro _ _; rfl) :
    Tr X B δ (.Assign [.Name y py] (.ListComp elt [⟨tg, iter, [], 0⟩, ⟨tg1, iter1, [], 0⟩] scope pos) spos :: rest) P := by
  subst hvs
  exact tr_cons fun σ G H Gs s eg => semS_of (ps_setLc2 hc hN hy hyl hsw pi_sem ok hv pg_blk pts_blk (fun s H C cl fp => ⟨fun pins s' _ _ _ I h => h s H C cl fp pins s' I⟩) pg_blk pts_blk pe_blk hs hs1) (lc_run2 hi ht hz s fun v G2 H2 g2 d2 => ⟨G2, _, h, (s.grow g2).setD d2, eg.trans g2.g⟩)
end
/-! ## A def that hands back a datum and changes nothing -/
open PyProof.Rows
section
variable {P : Program} {w : World} {K : PySem.W.Frag} {mg : Str → Option Value} {base : Heap}
/-- where a def's body starts: its parameters, then nothing -/
def startD (N : List Str) (ds : List PyData) : List SD := ds.map SD.d ++ List.replicate (N.length - ds.length) SD.un
theorem start_sta {B : Bd} {N : List Str} {vs : List V} {ds : List PyData} (h : DpAll K0 B.G0 vs ds) (e : Ex B.G0 B.H0) (t : TabsOk B.T B.G0 B.H0) : Sta B (startD N ds) (L2.start N vs) B.G0 B.H0 := by
  refine ⟨Grow.refl e t, ?_, fun i sd hi => ?_, fun j k sj sk b e1 e2 o1 o2 f1 f2 => ?_⟩
  · unfold L2.start startD
    rw [List.length_append, List.length_append, List.length_map, List.length_map, List.length_replicate, List.length_replicate, h.length]
  · unfold startD at hi
    by_cases hl : i < ds.length
    · rw [List.getElem?_append_left (by rw [List.length_map]; exact hl), List.getElem?_map, List.getElem?_eq_getElem hl] at hi
      cases hi
      obtain ⟨v, e1, e2⟩ := h.get (List.getElem?_eq_getElem hl)
      refine ⟨v, ?_, e2⟩
      unfold L2.start
      rw [List.getElem?_append_left (by rw [List.length_map, h.length]; exact hl), List.getElem?_map, e1]
      rfl
    · rw [List.getElem?_append_right (by rw [List.length_map]; omega), List.getElem?_replicate] at hi
      split at hi
      · cases hi; trivial
      · cases hi
  · unfold startD at e1
    by_cases hl : j < ds.length
    · rw [List.getElem?_append_left (by rw [List.length_map]; exact hl), List.getElem?_map, List.getElem?_eq_getElem hl] at e1
      cases e1; cases o1
    · rw [List.getElem?_append_right (by rw [List.length_map]; omega), List.getElem?_replicate] at e1
      split at e1
      · cases e1; cases o1
      · cases e1
/-- THE RULE for such a def -/
theorem fn_d {T : List TabN} {C : Addr} {x qual : Str} {st : Stmt} {f : Addr} {fd : FuncData} {N ps : List Str} {k : Nat} {R : List PyData → PyData → Prop} (F : Fun K x qual st f fd) (S : FnScope N ps (defScope st)) (hR : ∀ ds d, R ds d → ds.length = ps.length)
    (body : ∀ (cdv : Value) (A : Around) (outer : List Env) (s : Shared) (H : Hp) (E : XK) (G : Hp) (ds : List PyData) (d : PyData), Room k (A.deeper (envOfC qual (defScope st) s.heap.objs.size f cdv)) → fd.code = cdv → R ds d →
      Tr (cxOf CX0 P w K mg base N qual (defScope st) f cdv A outer s H E).nox ⟨T, m0, C, G, H⟩ (startD N ds) (defBody st) { nx := fun _ => d = .none, rt := fun r => r = d }) : FnOk P w K mg base CX0 (k + 1) f fd ps (spD T R) := by
  obtain ⟨oc, od, kV, doc, pm, an, cdv, ct, osl, rfl, lk, hcd⟩ := F.ex
  refine fn_of lk hcd S (fun vs H Q E ⟨G, ds, d, e, t, h, r, q⟩ => h.length.trans (hR ds d r)) fun A outer s H vs Q E hr hsp => ?_
  obtain ⟨G, ds, d, e, t, h, r, q⟩ := hsp
  refine ⟨_, pss_sem.nox, ?_⟩
  refine semSs_mono (body cdv A outer s H E G ds d hr rfl r (L2.start N vs) G H G (start_sta (B := ⟨T, m0, C, G, H⟩) h e t) (Ex.refl G)) (fun σ H ⟨G2, δ, z, s2, _⟩ => ?_) (fun v H ⟨G2, d2, ⟨z, _⟩, g, h2⟩ => ?_) (fun σ H ⟨G2, δ, z, _⟩ => z.elim) (fun σ H ⟨G2, δ, z, _⟩ => z.elim)
  · subst z
    exact q _ G2 H s2.gr .non
  · subst z
    exact q _ G2 H g h2
end
end CR

set_option Elab.async false
set_option linter.all false
set_option maxRecDepth 100000
/-! # The text by places -/
namespace CR
open PySem L2
def top (i : Nat) : Stmt := PySem.Challenge.pw_choicerows_k54_whole_shrinking_never_gro.main.body.getD i (.Pass ⟨0, 0, 0, 0⟩)
end CR

set_option Elab.async false
set_option linter.all false
set_option maxRecDepth 100000
set_option maxHeartbeats 2000000
/-! # The own exception Stop: made, raised, its field -/
namespace PySem
namespace StopX
open PySem.W PySem.Calls PyProof.Rows PySem.HandSPX
abbrev sInit : Stmt := L2.inClass (CR.top 15) 0
/-- what the written part says of Stop, at C, and of its __init__, at fI -/
structure StopTxt (prog : Program) (K : Frag) (mg : Str → Option Value) (C fI : Addr) : Prop where
  gC : mg "Stop" = some (.ref C)
  cls : ∃ nm q N bs sn sub ab col dd k0 k1 k2 k3 k5, K.lookup C = some (excClassObj nm q C N bs ESX.exTail true sn sub ab col dd k0 k1 k2 k3 k5 "Exception.__new__")
  sa : findIn K (.ref C) "__setattr__" = some (some (.builtin "object.__setattr__"))
  ga : findIn K (.ref C) "__getattribute__" = some (some (.builtin "BaseException.__getattribute__"))
  gg : findIn K (.ref C) "__getattr__" = some none
  noN : findIn K (.ref C) "outcome" = some none
  iC : findIn K (.ref C) "__init__" = some (some (.ref fI))
  tC : typeIn K (.ref fI) = some (.type "function")
  kC : keepIn K (.ref C) = true
  exC : subIn K (.ref C) (.type "BaseException") = some true
  subC : subIn K (.ref C) (.type "Exception") = some true
  selfC : mroIn K C (.ref C) = some true
  tyC : typeIn K (.ref C) = some (.type "type")
  hdC : hasDictIn K C = true
  te : exmOne K (.ref C) (.ref C) = some true
  opq : nsIn K cStatics "thirdparty.any" = some none
  sup : mg "super" = none
  top : (prog.main.scope.names.lookup ("super" : Str)).isSome = false
  fn : ∃ (oc : Value) (od : Option Addr) (kV doc pm : Value) (an : Option Addr) (cda : Addr) (ct : Value) (osl : Array (Option Value)) (cc : Addr) (ccl : Value) (cdd : Option Addr) (vs : Array Value) (ccs : Array (Option Value)) (file : Str) (tf : Tok) (cl : Value) (cld : Option Addr) (csl : Array (Option Value)),
    K.lookup fI = some ⟨oc, od, .func (ksFn "__init__" "Stop.__init__" (L2.defArgs sInit) (L2.defBody sInit) (L2.defScope sInit) .none kV doc pm an (.ref cda) ct cc), osl⟩ ∧ codeIn K (.ref cda) "Stop.__init__" = true ∧
    K.lookup cda = some ⟨ccl, cdd, .fields vs, ccs⟩ ∧ vs[2]? = some (.str file tf) ∧ ((prog.main.file : Str) == file) = true ∧ K.lookup cc = some ⟨cl, cld, .cell (some (.ref C)), csl⟩
theorem one_size (v : Value) : [v].length ≤ sizeLine := by
  rw [sizeLine_eq]
  exact (by decide : 1 ≤ 16777216)
theorem kept_but {K : Frag} {h h' : Heap} {x : Addr} (X : K.In h) (hx : K.lookup x = none) (k : ∀ b o, b ≠ x → h.get? b = some o → h'.get? b = some o) : K.In h' := fun a o e =>
  k a o (fun z => by rw [z, hx] at e; cases e) (X a o e)
/-- what __init__ leaves of a fresh exception at x -/
structure InitEnd (h h' : Heap) (x C dx t1 : Addr) (v : Value) : Prop where
  keep : ∀ b o, b ≠ x → h.get? b = some o → h'.get? b = some o
  obj : h'.get? x = some { cls := .ref C, dict := some dx, data := .fields #[.ref t1, .none, .none, .none, .bool false, .none] }
  dbig : h.objs.size ≤ dx
  dne : dx ≠ x
  ns : h'.Ns1 dx (fun y => if y = "outcome" then some v else none)
/-- a made Stop -/
structure OwnMade (h h' : Heap) (e C d : Addr) (v : Value) : Prop where
  keep : ∀ b o, h.get? b = some o → h'.get? b = some o
  new : h.objs.size ≤ e
  obj : ∃ oe vs, h'.get? e = some oe ∧ oe.cls = .ref C ∧ oe.dict = some d ∧ oe.data = .fields vs ∧ vs[1]? = some .none
  dbig : h.objs.size ≤ d
  dne : d ≠ e
  ns : h'.Ns1 d (fun y => if y = "outcome" then some v else none)
section
variable {prog : Program} {w : World} {A : Around} {E : Value → Shared → Prop} {R : Result → Shared → Prop} {s : Shared} {K : Frag} {mg mb : Str → Option Value} {C fI : Addr}
theorem stop_init (T : StopTxt prog K mg C fI) {x t0 : Addr} {v : Value} (X : K.In s.heap) (G : s.heap.Ns mainGlobals mg) (Bt : s.heap.Ns builtinsNs mb) (hmb : mb "super" = some (.type "super")) (hlim : s.heap.NoLimit) (hx : s.heap.get? x = some (excO C t0)) (hnx : K.lookup x = none) (hroom : A.depth < recursionLimit)
    (hq : ∀ h' tk dx t1, InitEnd s.heap h' x C dx t1 v → R (.ok (.ret .none)) { s with heap := h', toks := tk }) :
    codeAny (model prog w) A (.call (.ref fI) ⟨[.ref x, v], []⟩) R s := by
  obtain ⟨oc, od, kV, doc, pm, an, cda, ct, osl, cc, ccl, cdd, vs, ccs, file, tf, cl, cld, csl, ho, hcd, hcode, hvs, hfile, hcell⟩ := T.fn
  obtain ⟨nm, q, N, bs, sn, sub, ab, col, dd, k0, k1, k2, k3, k5, hC⟩ := T.cls
  have hcl : clsIn K C = some { name := nm, bases := bs, mro := .ref C :: ESX.exTail, ns := N, qualname := q, hasDict := true, slotNames := sn, subclasses := sub, abstract := ab, collection := col, hasDel := false } := by unfold clsIn; rw [hC] <;> rfl
  have xC : x ≠ C := fun z => by
    have e := X _ _ hC
    rw [← z, hx] at e
    cases e
  refine ks_codeAny_call_defAt (binds := [("self", .ref x), ("outcome", v)]) hroom (X _ _ ho) rfl hlim (codeRec_of X hcd) rfl (BindsTo.of_eq (by first | rfl | with_unfolding_all rfl)) (show ∀ y ∈ (L2.defScope sInit).names, y.2 ≠ .cell by decide +kernel) (locs (scope := L2.defScope sInit) rfl) (fun h₁ hns k₁ => ?_)
  have X₁ : K.In h₁ := X.keeps k₁
  have hx₁ := k₁ _ _ hx
  have hL : s.heap.objs.size ≠ x := Nat.ne_of_gt (Heap.lt_size hx)
  obtain ⟨hp, g, d, tk, os⟩ := s
  refine ks_wpAt_execs_cons (ks_wpAt_Expr_any (ks_wpAt_MethodCall (ks_wpAt_super_base (fd := ksFn "__init__" "Stop.__init__" (L2.defArgs sInit) (L2.defBody sInit) (L2.defScope sInit) .none kV doc pm an (.ref cda) ct cc) (by first | rfl | with_unfolding_all rfl) (by first | rfl | with_unfolding_all rfl) (by decide) rfl (X₁ _ _ ho) rfl (by first | rfl | with_unfolding_all rfl) rfl (X₁ _ _ hcode) rfl hvs hfile T.top ?_)))
  refine ks_loadName_global (by first | rfl | with_unfolding_all rfl) (by first | rfl | with_unfolding_all rfl) (loadGlobal_builtin (Heap.Ns.keeps G k₁) T.sup (Heap.Ns.keeps Bt k₁) hmb ⟨rfl, ?_⟩)
  refine wpAny_loadName_free (by first | rfl | with_unfolding_all rfl) (by first | rfl | with_unfolding_all rfl) (by first | rfl | with_unfolding_all rfl) ⟨_, X₁ _ _ hcell, rfl⟩ ?_
  refine wpAny_loadName_local (by first | rfl | with_unfolding_all rfl) (by first | rfl | with_unfolding_all rfl) hns (by first | rfl | with_unfolding_all rfl) ?_
  refine ks_wpAny_isType_cls (X₁ _ _ hC) rfl ⟨rfl, ?_⟩
  refine ks_wpAny_call_super (X₁ _ _ hC) rfl hx₁ rfl (fun c e => nomatch e) (looks_mroIn X₁ T.selfC) (fun h₂ e₂ k₂ => ?_)
  have X₂ : K.In h₂ := X₁.keeps k₂
  have hx₂ := k₂ _ _ hx₁
  have I₂ : InstAt h₂ x (excO C t0) C none := ⟨hx₂, rfl, rfl, trivial⟩
  -- the bound __init__
  refine ESX.getMethod_super e₂ (looks_opaque X₂ T.opq) (l₀ := .ref C :: ESX.exTail) (fun A Q E s k q => wpAny_bind ((looks_clsIn X₂ hcl) A _ E s k (wpAny_pure q))) (ESX.drop_own C ESX.exTail) X₂ (ESX.along_init K) xC (by decide) (I₂.type.andThen (looks_subIn X₂ T.subC)) ?_
  have ho₃ : (h₂.push (ESX.bw x)).get? h₂.objs.size = some (ESX.bw x) := Heap.get?_push_size _ rfl
  have X₃ : K.In (h₂.push (ESX.bw x)) := X₂.keeps fun b o e => Heap.get?_push_of_some _ e
  refine ESX.callWith_bound (x := x) (spliced_more (wpAny_Constant_str (spliced_none ⟨ho₃, ?_⟩)))
  refine ESX.call_bw (X₃ _ _ hC) (Heap.get?_push_of_some _ hx₂) ho₃ (one_size _) (fun h₄ t1 k₄ hx₄ => ?_)
  have K₄ : ∀ b o, b ≠ x → hp.get? b = some o → h₄.get? b = some o := fun b o hb e => k₄ b o hb (Heap.get?_push_of_some _ (k₂ _ _ (k₁ _ _ e)))
  have k14 : ∀ b o, b ≠ x → h₁.get? b = some o → h₄.get? b = some o := fun b o hb e => k₄ b o hb (Heap.get?_push_of_some _ (k₂ _ _ e))
  have X₄ : K.In h₄ := kept_but X₃ hnx k₄
  have hns₄ : h₄.Ns hp.objs.size _ := hns.at fun o e => k14 _ o hL e
  show wpAt _ _ _ (execs _ _) _ _ _
  refine ks_wpAt_execs_cons (ks_wpAt_Assign_Attr (wpAt_of_wpAny ?_))
  refine wpAny_Name (wpAny_loadName_local (by first | rfl | with_unfolding_all rfl) (by first | rfl | with_unfolding_all rfl) hns₄ (by first | rfl | with_unfolding_all rfl) ?_)
  refine wpAny_Name (wpAny_loadName_local (by first | rfl | with_unfolding_all rfl) (by first | rfl | with_unfolding_all rfl) hns₄ (by first | rfl | with_unfolding_all rfl) ?_)
  refine set_plain X₄ (ox := excO C t1) (od := none) ⟨hx₄, rfl, rfl, trivial⟩ T.sa ?_
  refine ESX.osa_new X₄ hx₄ hcl rfl rfl T.noN (fun h₅ tk₅ dx k₅ dn dne hx₅ hn₅ => ?_)
  show wpAt _ _ _ (execs _ _) _ _ _
  refine wpAt_of_wpAny (wpAny_execs_nil (hq h₅ tk₅ dx t1 ⟨fun b o hb e => k₅ b o hb (K₄ b o hb e), hx₅, ?_, dne, hn₅⟩))
  have q4 : hp.objs.size < h₄.objs.size := hns₄.lt
  exact Nat.le_of_lt (Nat.lt_of_lt_of_le q4 dn)
theorem stop_made (T : StopTxt prog K mg C fI) {v : Value} (X : K.In s.heap) (G : s.heap.Ns mainGlobals mg) (Bt : s.heap.Ns builtinsNs mb) (hmb : mb "super" = some (.type "super")) (hlim : s.heap.NoLimit) (hroom : A.depth + 1 < recursionLimit)
    (hq : ∀ h' tk e d, OwnMade s.heap h' e C d v → R (.ok (.ret (.ref e))) { s with heap := h', toks := tk }) :
    codeAny (model prog w) A (.call (.ref C) ⟨[v], []⟩) R s := by
  obtain ⟨nm, q, N, bs, sn, sub, ab, col, dd, k0, k1, k2, k3, k5, hC⟩ := T.cls
  obtain ⟨hp, g, dr, tk, os⟩ := s
  have k : ∀ b o, hp.get? b = some o → ((hp.push (kdv_tup [v])).push (excO C hp.objs.size)).get? b = some o := fun b o e => Heap.get?_push_of_some _ (Heap.get?_push_of_some _ e)
  have hget : ((hp.push (kdv_tup [v])).push (excO C hp.objs.size)).get? (hp.objs.size + 1) = some (excO C hp.objs.size) := by heap_get
  have hnx : K.lookup (hp.objs.size + 1) = none := by
    cases e : K.lookup (hp.objs.size + 1) with
    | none => rfl
    | some o =>
      have z : hp.get? (hp.objs.size + 1) = some o := X _ _ e
      exact absurd (Nat.lt_of_succ_lt (Heap.lt_size z)) (Nat.lt_irrefl _)
  refine call_own F.excBase_Exception (fun B => by first | rfl | simp) (X _ _ hC) (looks_findIn X T.iC) (fun self => bind_fn X self T.tC) (one_size v) ?_
  refine stop_init (s := ⟨(hp.push (kdv_tup [v])).push (excO C hp.objs.size), g, dr, tk, os⟩) T (X.keeps k) (Heap.Ns.keeps G k) (Heap.Ns.keeps Bt k) hmb (hlim.keeps k) hget hnx ?_ fun h' tk' dx t1 ⟨k', hx, dn, dne, hns⟩ => ?_
  · show A.depth + 1 < recursionLimit
    exact hroom
  · have old : ∀ b o, hp.get? b = some o → h'.get? b = some o := fun b o e => k' b o (Nat.ne_of_lt (Nat.lt_succ_of_lt (Heap.lt_size e))) (k b o e)
    have z : hp.objs.size + 1 + 1 ≤ dx := by
      first
        | (simpa only [Heap.size_push] using dn)
        | exact dn
        | (have q := dn; rw [Heap.size_push, Heap.size_push] at q; exact q)
    exact ⟨rfl, hq h' tk' (hp.objs.size + 1) dx ⟨old, Nat.le_succ _, ⟨_, _, hx, rfl, rfl, rfl, rfl⟩, Nat.le_trans (Nat.le_trans (Nat.le_succ _) (Nat.le_succ _)) z, dne, hns⟩⟩
end
end StopX
end PySem

namespace L2
open PySem PySem.Spec PyProof.Rows
theorem relO_stop {v : V} {v' : Value} (r : RelV v v') (f : Str) : RelO (List.lookup f [(("outcome" : Str), v)]) (if f = "outcome" then some v' else none) := by
  by_cases hw : f = "outcome"
  · subst hw
    rw [if_pos rfl]
    have q : List.lookup ("outcome" : Str) [(("outcome" : Str), v)] = some v := by simp [List.lookup]
    rw [q]
    exact r
  · rw [if_neg hw]
    have qw : (f == ("outcome" : Str)) = false := by simpa using hw
    have q2 : List.lookup f [(("outcome" : Str), v)] = none := by simp [List.lookup, qw]
    rw [q2]
    trivial
section
variable {X : Cx} {C fI : Addr}
/-- Stop(e) -/
def tMkStop (C : Addr) (ta : TA) : St → Hp → XK → Prop := fun σ H Q => ta σ H fun vs H1 => ∃ v, vs = [v] ∧ ∀ d, H1 d = none → Q (.ref C) (some d) (upd H1 d (.xd [(("outcome" : Str), v)]))
theorem pmk_stop {a : Expr} {ta : TA} {p pos : Pos} {k : Nat} (T : PySem.StopX.StopTxt X.prog X.K X.mg C fI) (hr : Room k X.A) (ha : PA X [a] ta) (hg : Gl X "Stop" := by rfl)
    (he : starEach (a :: []) X.env = (false, eval a X.env) :: starEach [] X.env := by rfl) (hpl : (backTo pos (starEach [] X.env)).any (·.1) = false := by rfl) :
    PMk X (.Call (.Name "Stop" p) [a] [] pos) (tMkStop C ta) := by
  intro pins s σ H Q I h
  refine wpAny_Call_Name_kw (ld_glob I hg T.gC ?_)
  refine PySem.W.callWith_K (h₀ := X.base) I.ok.mod.kin T.kC (thn (ha.run pos pins s σ H _ I h) fun us s1 hh => ?_) he hpl
  obtain ⟨vs, H1, I1, r1, v, ev, q1⟩ := hh
  subst ev
  refine ⟨I1.kIn, ?_⟩
  cases r1 with
  | cons rv rn =>
    rename_i v' us'
    cases rn
    show wpAny _ _ (call (.ref C) [v']) _ _ _
    have hlim := I1.nolimit
    have hG := Heap.Ns.keeps I1.ok.mod.glob I1.bk
    obtain ⟨mb, hmb, hmb2⟩ := I1.ok.mod.blt
    have hB := Heap.Ns.keeps hmb I1.bk
    have hS : mb "super" = some (.type "super") := (hmb2 _ (by decide +kernel)).trans (by decide +kernel)
    obtain ⟨hp, g, dr, tk, os⟩ := s1
    refine wpAny_call (PySem.StopX.stop_made T I1.kIn hG hB hS hlim (by have := hr.dp; omega) fun h' tk' e d M => ?_)
    show MkP X pins σ Q (.ref e) ⟨h', g, dr, tk', os⟩
    obtain ⟨oe, fv, hoe, hc, hd, hdat, h1⟩ := M.obj
    have hns := M.ns
    obtain ⟨G', g1, g2⟩ := restrict h' fun b => decide (b ≠ e)
    have gk : ∀ b, b ≠ e → G'.get? b = h'.get? b := fun b hb => g1 b (decide_eq_true hb)
    have ge : G'.get? e = none := g2 e (by simp)
    have old : ∀ b o, hp.get? b = some o → G'.get? b = some o := fun b o q => (gk b (Nat.ne_of_lt (Nat.lt_of_lt_of_le (Heap.lt_size q) M.new))).trans (M.keep b o q)
    have ob : ObjOk X.prog X.w (upd H1 d (.xd [(("outcome" : Str), v)])) G' d (.xd [(("outcome" : Str), v)]) :=
      ⟨_, hns.at (fun o q => (gk d M.dne).trans q), fun f => relO_stop rv f⟩
    have J : Inv X pins σ (upd H1 d (.xd [(("outcome" : Str), v)])) ⟨G', g, dr, tk', os⟩ := I1.laid (t' := tk') old M.dbig ob
    refine ⟨e, oe, fv, ⟨G', g, dr, tk', os⟩, _, .ref C, some d, rfl, J, fun b o q => ?_, ge, hoe, ⟨hc, hd⟩, hdat, h1, ?_, rfl, I1.bare, raises_own T.exC T.tyC, q1 d (I1.hok.fresh M.dbig)⟩
    · by_cases hb : b = e
      · have q' : G'.get? b = some o := q
        rw [hb, ge] at q'; cases q'
      · exact (gk b hb).symm.trans q
    · rw [upd_ne (Ne.symm M.dne)]
      exact I1.hok.fresh M.new
/-- raise Stop(e) -/
def tRaiseStop (C : Addr) (W : WX) (ta : TA) : TS := fun _ σ H => tMkStop C ta σ H fun cls d H' => W cls d σ H'
theorem ps_raiseStop {a : Expr} {ta : TA} {W : WX} {p pos pos2 : Pos} {k : Nat} (hc : X.calm = true) (T : PySem.StopX.StopTxt X.prog X.K X.mg C fI) (hr : Room k X.A) (tk : Takes X W) (ha : PA X [a] ta) (hg : Gl X "Stop" := by rfl)
    (he : starEach (a :: []) X.env = (false, eval a X.env) :: starEach [] X.env := by rfl) (hpl : (backTo pos (starEach [] X.env)).any (·.1) = false := by rfl) :
    PS X (.Raise (some (.Call (.Name "Stop" p) [a] [] pos)) none pos2) (tRaiseStop C W ta) := ps_raise hc tk (pmk_stop T hr ha hg he hpl)
/-- stop.outcome, stop the exception that the suite holds (at a; its class cls, its dict d) -/
def tOutStop (C : Addr) (a : Addr) (cls : Value) (d : Option Addr) (te : TE) : TE := fun σ H Q => te σ H fun x H1 => x = .ref a ∧ cls = .ref C ∧ ∃ (dd : Addr) (v : V), d = some dd ∧ H1 dd = some (.xd [(("outcome" : Str), v)]) ∧ Q v H1
theorem pe_outStop {a : Addr} {oe : Obj} {cls : Value} {d : Option Addr} {pn : List (Addr × Obj)} {e : Expr} {te : TE} {pos : Pos} (T : PySem.StopX.StopTxt X.prog X.K X.mg C fI) (hz : Zc cls d oe) (hf : ∃ vs, oe.data = .fields vs) (he : PE (X.suite a ((a, oe) :: pn)) e te)
    (hb : attributeBase e "outcome" X.env (eval e X.env) = eval e X.env := by rfl) :
    PE (X.suite a ((a, oe) :: pn)) (.Attribute e "outcome" pos) (tOutStop C a cls d te) := by
  refine ⟨fun pins s σ H Q I h => ?_⟩
  refine attr_of hb (thn (he.run pins s σ H _ I h) fun u s1 hh => ?_)
  obtain ⟨x, H1, I1, rx, ex, ec, dd, v, ed, ea, q⟩ := hh
  subst ex
  obtain rfl : u = Value.ref a := rx
  subst ec
  subst ed
  obtain ⟨ha, _⟩ := I1.pin (a, oe) (List.mem_append_left _ List.mem_cons_self)
  obtain ⟨vs, hd⟩ := hf
  have hx : ObjOk X.prog X.w H1 s1.heap dd (.xd [(("outcome" : Str), v)]) := I1.hok dd _ ea
  obtain ⟨mA, hns, hr⟩ := hx
  obtain ⟨od, ho, hl⟩ := lookIn_ns hns
  have l : List.lookup ("outcome" : Str) [(("outcome" : Str), v)] = some v := by simp [List.lookup]
  obtain ⟨u, hu, ru⟩ := RelO.some_of (v := v) (o := mA "outcome") (by rw [← l]; exact hr "outcome")
  have J : PySem.W.InstAt s1.heap a oe C (some od) := ⟨ha, hz.1, by unfold PySem.W.notCls; rw [hd] <;> rfl, by rw [hz.2]; exact ho⟩
  exact HandSPX.exc_get I1.kIn J T.ga T.gg T.exC (PySem.W.findObj_own T.hdC T.noN rfl (by rw [hl, hu])) (handed_of ru) ⟨v, H1, I1.tok _, ru, q⟩
end
end L2

set_option Elab.async false
set_option linter.all false
set_option maxRecDepth 100000
/-! # The mirror: what each def computes, over data -/
namespace CR
open PySem
/-- conditions -/
inductive Cn where
  | atmost (n : Int)
  | divides (n : Int)
  | rising
  | different
  | neg (c : Cn)
  | conj (a b : Cn)
  | disj (a b : Cn)
  | size (c : Cn)
  | sum (c : Cn)
  | every (c : Cn)
  | exi (c : Cn)
  | item (i : Nat) (c : Cn)
namespace Cn
def enc : Cn → PyData
  | .atmost n => .tuple [.str "atmost", .int n]
  | .divides n => .tuple [.str "divides", .int n]
  | .rising => .tuple [.str "rising"]
  | .different => .tuple [.str "different"]
  | .neg c => .tuple [.str "not", c.enc]
  | .conj a b => .tuple [.str "and", a.enc, b.enc]
  | .disj a b => .tuple [.str "or", a.enc, b.enc]
  | .size c => .tuple [.str "size", c.enc]
  | .sum c => .tuple [.str "sum", c.enc]
  | .every c => .tuple [.str "every", c.enc]
  | .exi c => .tuple [.str "some", c.enc]
  | .item i c => .tuple [.str "item", .int i, c.enc]
def dep : Cn → Nat
  | .neg c => c.dep + 1
  | .conj a b => max a.dep b.dep + 1
  | .disj a b => max a.dep b.dep + 1
  | .size c => c.dep + 1
  | .sum c => c.dep + 1
  | .every c => c.dep + 1
  | .exi c => c.dep + 1
  | .item _ c => c.dep + 1
  | _ => 0
end Cn
def dint : PyData → Int
  | .int i => i
  | _ => 0
def ditems : PyData → List PyData
  | .tuple xs => xs
  | .list xs => xs
  | _ => []
def dints (d : PyData) : List Int := (ditems d).map dint
def encR (r : List Int) : PyData := .tuple (r.map .int)
def risesM : List Int → Bool
  | x :: y :: r => decide (x ≤ y) && risesM (y :: r)
  | _ => true
def diffM (is : List Int) : Bool := (List.range is.length).all fun k => !(is.take k).contains (is.getD k 0)
namespace Cn
def val : Cn → PyData → Bool
  | .atmost n, v => decide (dint v ≤ n)
  | .divides n, v => decide (dint v % n = 0)
  | .rising, v => risesM (dints v)
  | .different, v => diffM (dints v)
  | .neg c, v => !c.val v
  | .conj a b, v => a.val v && b.val v
  | .disj a b, v => a.val v || b.val v
  | .size c, v => c.val (.int (ditems v).length)
  | .sum c, v => c.val (.int (dints v).sum)
  | .every c, v => (ditems v).all fun x => c.val x
  | .exi c, v => (ditems v).any fun x => c.val x
  | .item i c, v => c.val ((ditems v).getD i .none)
/-- the condition can be asked of the value -/
def Fit : Cn → PyData → Prop
  | .atmost _, v => ∃ i, v = .int i
  | .divides n, v => 0 < n ∧ ∃ i, v = .int i
  | .rising, v => ∃ is, v = encR is ∧ is.length ≤ 1000
  | .different, v => ∃ is, v = encR is ∧ is.length ≤ 1000
  | .neg c, v => c.Fit v
  | .conj a b, v => a.Fit v ∧ b.Fit v
  | .disj a b, v => a.Fit v ∧ b.Fit v
  | .size c, v => ∃ xs, v = .tuple xs ∧ xs.length ≤ 1000 ∧ c.Fit (.int xs.length)
  | .sum c, v => ∃ is, v = encR is ∧ is.length ≤ 1000 ∧ c.Fit (.int is.sum)
  | .every c, v => ∃ xs, v = .tuple xs ∧ xs.length ≤ 1000 ∧ ∀ x ∈ xs, c.Fit x
  | .exi c, v => ∃ xs, v = .tuple xs ∧ xs.length ≤ 1000 ∧ ∀ x ∈ xs, c.Fit x
  | .item i c, v => ∃ xs x, v = .tuple xs ∧ xs[i]? = some x ∧ c.Fit x
end Cn
/-- maps -/
inductive Mp where
  | plus (n : Int)
  | times (n : Int)
  | length
  | sum
  | sorted
  | reversed
namespace Mp
def enc : Mp → PyData
  | .plus n => .tuple [.str "plus", .int n]
  | .times n => .tuple [.str "times", .int n]
  | .length => .tuple [.str "length"]
  | .sum => .tuple [.str "sum"]
  | .sorted => .tuple [.str "sorted"]
  | .reversed => .tuple [.str "reversed"]
def val : Mp → PyData → PyData
  | .plus n, v => .int (dint v + n)
  | .times n, v => .int (dint v * n)
  | .length, v => .int (ditems v).length
  | .sum, v => .int (dints v).sum
  | .sorted, v => encR ((dints v).mergeSort fun a b => decide (a ≤ b))
  | .reversed, v => .tuple (ditems v).reverse
def Fit : Mp → PyData → Prop
  | .plus _, v => ∃ i, v = .int i
  | .times n, v => ∃ i, v = .int i ∧ -1000 ≤ n ∧ n ≤ 1000
  | .length, v => ∃ xs, v = .tuple xs
  | .sum, v => ∃ is, v = encR is ∧ is.length ≤ 1000
  | .sorted, v => ∃ is, v = encR is ∧ is.length ≤ 1000
  | .reversed, v => ∃ xs, v = .tuple xs ∧ xs.length ≤ 1000
end Mp
/-- generators -/
inductive Gn where
  | int (lo hi : Int)
  | pair (a b : Gn)
  | lst (g : Gn) (least most : Nat)
  | one (a b : Gn)
  | kept (g : Gn) (c : Cn)
  | turned (g : Gn) (m : Mp)
  | rep (a b : Gn)
namespace Gn
def enc : Gn → PyData
  | .int lo hi => .tuple [.str "int", .int lo, .int hi]
  | .pair a b => .tuple [.str "tuple", .tuple [a.enc, b.enc]]
  | .lst g l m => .tuple [.str "list", g.enc, .int l, .int m]
  | .one a b => .tuple [.str "one", .tuple [a.enc, b.enc]]
  | .kept g c => .tuple [.str "kept", g.enc, c.enc]
  | .turned g m => .tuple [.str "turned", g.enc, m.enc]
  | .rep a b => .tuple [.str "repeat", a.enc, b.enc]
def parts : Gn → List Gn
  | .int _ _ => []
  | .pair a b => [a, b]
  | .lst g _ _ => [g]
  | .one a b => [a, b]
  | .kept g _ => [g]
  | .turned g _ => [g]
  | .rep a b => [a, b]
def dep : Gn → Nat
  | .int _ _ => 0
  | .pair a b => max a.dep b.dep + 1
  | .lst g _ _ => g.dep + 1
  | .one a b => max a.dep b.dep + 1
  | .kept g _ => g.dep + 1
  | .turned g _ => g.dep + 1
  | .rep a b => max a.dep b.dep + 1
/-- v is a value of the generator -/
def Val : Gn → PyData → Prop
  | .int lo hi, v => ∃ i, v = .int i ∧ lo ≤ i ∧ i ≤ hi
  | .pair a b, v => ∃ x y, v = .tuple [x, y] ∧ a.Val x ∧ b.Val y
  | .lst g l m, v => ∃ xs, v = .tuple xs ∧ l ≤ xs.length ∧ xs.length ≤ m ∧ ∀ x ∈ xs, g.Val x
  | .one a b, v => a.Val v ∨ b.Val v
  | .kept g c, v => g.Val v ∧ c.val v = true
  | .turned g m, v => ∃ x, g.Val x ∧ v = m.val x
  | .rep a b, v => ∃ (n : Nat) (xs : List PyData), v = .tuple xs ∧ a.Val (.int n) ∧ n ≤ 6 ∧ xs.length = n ∧ ∀ x ∈ xs, b.Val x
/-- the generator has no fault, and its conditions are not deep -/
def WF : Gn → Prop
  | .int lo hi => -1000 ≤ lo ∧ lo ≤ hi ∧ hi ≤ 1000
  | .pair a b => a.WF ∧ b.WF
  | .lst g l m => g.WF ∧ l ≤ m ∧ m ≤ 6
  | .one a b => a.WF ∧ b.WF
  | .kept g c => g.WF ∧ c.dep ≤ 4 ∧ ∀ v, g.Val v → c.Fit v
  | .turned g m => g.WF ∧ ∀ v, g.Val v → m.Fit v
  | .rep a b => a.WF ∧ b.WF ∧ ∀ v, a.Val v → ∃ i, v = .int i
end Gn

/-! ## Drawing: a value and how many choices were used, or the outcome that ends it -/
abbrev Dr (α : Type) := Nat → Except PyData (α × Nat)
def outShort (n : Nat) : PyData := .tuple [.str "short", .int n]
def outWrong (n : Nat) : PyData := .tuple [.str "wrong", .int n]
def outRefused (n : Nat) : PyData := .tuple [.str "refused", .int n]
def choiceM (row : List Int) (bound : Int) : Dr Int := fun u =>
  match row[u]? with
  | none => .error (outShort row.length)
  | some c => if 0 ≤ c ∧ c ≤ bound then .ok (c, u + 1) else .error (outWrong u)
/-- n of them -/
def timesM (f : Dr PyData) : Nat → Dr (List PyData)
  | 0, u => .ok ([], u)
  | n + 1, u =>
    match f u with
    | .error e => .error e
    | .ok (x, u1) =>
      match timesM f n u1 with
      | .error e => .error e
      | .ok (xs, u2) => .ok (x :: xs, u2)
/-- at most n more of them, a choice ahead of each -/
def moreM (row : List Int) (f : Dr PyData) : Nat → Dr (List PyData)
  | 0, u => .ok ([], u)
  | n + 1, u =>
    match choiceM row 1 u with
    | .error e => .error e
    | .ok (c, u1) =>
      if c = 1 then
        match f u1 with
        | .error e => .error e
        | .ok (x, u2) =>
          match moreM row f n u2 with
          | .error e => .error e
          | .ok (xs, u3) => .ok (x :: xs, u3)
      else .ok ([], u1)
def valueM (row : List Int) : Gn → Dr PyData
  | .int lo hi, u =>
    match choiceM row (hi - lo) u with
    | .error e => .error e
    | .ok (c, u1) => .ok (.int (lo + c), u1)
  | .pair a b, u =>
    match valueM row a u with
    | .error e => .error e
    | .ok (x, u1) =>
      match valueM row b u1 with
      | .error e => .error e
      | .ok (y, u2) => .ok (.tuple [x, y], u2)
  | .lst g l m, u =>
    match timesM (valueM row g) l u with
    | .error e => .error e
    | .ok (xs, u1) =>
      match moreM row (valueM row g) (m - l) u1 with
      | .error e => .error e
      | .ok (ys, u2) => .ok (.tuple (xs ++ ys), u2)
  | .one a b, u =>
    match choiceM row 1 u with
    | .error e => .error e
    | .ok (c, u1) => if c = 0 then valueM row a u1 else valueM row b u1
  | .kept g c, u =>
    match valueM row g u with
    | .error e => .error e
    | .ok (x, u1) => if c.val x = true then .ok (x, u1) else .error (outRefused u1)
  | .turned g m, u =>
    match valueM row g u with
    | .error e => .error e
    | .ok (x, u1) => .ok (m.val x, u1)
  | .rep a b, u =>
    match valueM row a u with
    | .error e => .error e
    | .ok (x, u1) =>
      if 0 ≤ dint x ∧ dint x ≤ 6 then
        match timesM (valueM row b) (dint x).toNat u1 with
        | .error e => .error e
        | .ok (xs, u2) => .ok (.tuple xs, u2)
      else .error (outRefused u1)
/-- the outcome of a draw -/
def drawM (g : Gn) (row : List Int) : PyData :=
  match valueM row g 0 with
  | .error e => e
  | .ok (x, u) => .tuple [.str "value", x, .int u]
/-- the row is exact for the generator, and this is its value -/
def exactM (g : Gn) (row : List Int) : Option PyData :=
  match valueM row g 0 with
  | .error _ => none
  | .ok (x, u) => if u = row.length then some x else none
def failsM (g : Gn) (c : Cn) (row : List Int) : Bool :=
  match exactM g row with
  | some x => !c.val x
  | none => false
def saysM (g : Gn) (c : Cn) (row : List Int) : PyData :=
  match exactM g row with
  | some x => if c.val x = true then .str "passes" else .str "fails"
  | none => .str "nothing"

/-! ## Rows in order -/
def lexM : List Int → List Int → Bool
  | [], [] => false
  | [], _ :: _ => true
  | _ :: _, [] => false
  | x :: r, y :: t => decide (x < y) || (decide (x = y) && lexM r t)
def lessM (a b : List Int) : Bool := decide (a.length < b.length) || (decide (a.length = b.length) && lexM a b)

/-! ## Tables -/
structure Ent where
  v : PyData
  n : Int
  r : List Int
def Ent.enc (e : Ent) : PyData := .tuple [e.v, .int e.n, encR e.r]
/-- a triple goes into what was found -/
def putOne (found : List Ent) (e : Ent) : List Ent :=
  match found with
  | [] => [e]
  | f :: r => if PyData.eqv f.v e.v = true then { v := f.v, n := e.n + f.n, r := if lessM f.r e.r = true then f.r else e.r } :: r else f :: putOne r e
def foundM (es : List Ent) : List Ent := es.foldl putOne []
def entLe (a b : Ent) : Bool := !lessM b.r a.r
def putM (es : List Ent) : List Ent := (foundM es).mergeSort entLe
def mulE (a b : Ent) : Ent := { v := .tuple (ditems a.v ++ [b.v]), n := a.n * b.n, r := a.r ++ b.r }
def mulM (first second : List Ent) : List Ent := first.flatMap fun a => second.map (mulE a)
def behindM (es : List Ent) (c : List Int) : List Ent := es.map fun e => { e with r := e.r ++ c }
def mulN (es second : List Ent) : Nat → List Ent
  | 0 => es
  | n + 1 => mulM (mulN es second n) second
def ent0 : List Ent := [⟨.tuple [], 1, []⟩]
/-- the lists from least to most, shorter ones first -/
def listFrom (part : List Ent) : Nat → List Ent → List Ent
  | 0, made => made
  | n + 1, made => behindM made [0] ++ listFrom part n (mulM (behindM made [1]) part)
def listM (part : List Ent) (l m : Nat) : List Ent := listFrom part (m - l) (mulN ent0 part l)
def repOk (e : Ent) : Bool := decide (0 ≤ dint e.v) && decide (dint e.v ≤ 6)
def repM (first other : List Ent) : List Ent := (first.filter repOk).flatMap fun e => mulN [⟨.tuple [], e.n, e.r⟩] other (dint e.v).toNat
def triM : Gn → List (List Ent) → List Ent
  | .int lo hi, _ => (List.range (hi - lo + 1).toNat).map fun k => ⟨.int (lo + (k : Nat)), 1, [(k : Nat)]⟩
  | .pair _ _, ts => if (ts.any fun t => t.isEmpty) = true then [] else ts.foldl mulM ent0
  | .lst _ l m, ts => listM (ts.getD 0 []) l m
  | .one _ _, ts => (List.range ts.length).flatMap fun k => (ts.getD k []).map fun e => { e with r := (k : Int) :: e.r }
  | .kept _ c, ts => (ts.getD 0 []).filter fun e => c.val e.v
  | .turned _ m, ts => (ts.getD 0 []).map fun e => { e with v := m.val e.v }
  | .rep _ _, ts => repM (ts.getD 0 []) (ts.getD 1 [])
def tableM : Gn → List Ent
  | .int lo hi => putM (triM (.int lo hi) [])
  | .pair a b => putM (triM (.pair a b) [tableM a, tableM b])
  | .lst g l m => putM (triM (.lst g l m) [tableM g])
  | .one a b => putM (triM (.one a b) [tableM a, tableM b])
  | .kept g c => putM (triM (.kept g c) [tableM g])
  | .turned g m => putM (triM (.turned g m) [tableM g])
  | .rep a b => putM (triM (.rep a b) [tableM a, tableM b])
def countM (g : Gn) : Int := ((tableM g).map (·.n)).sum
def sumPow (b : Nat) (l : Nat) (n : Nat) : Nat := ((List.range n).map fun k => b ^ (l + k)).sum
/-- no number on the way is over the limits -/
def Few : Gn → Prop
  | .int lo hi => (hi - lo + 1).toNat ≤ 2000
  | .pair a b => Few a ∧ Few b ∧ (tableM a).length * (tableM b).length ≤ 2000 ∧ countM (.pair a b) ≤ 5000
  | .lst g l m => Few g ∧ sumPow (tableM g).length l (m + 1 - l) ≤ 2000 ∧ countM (.lst g l m) ≤ 5000
  | .one a b => Few a ∧ Few b ∧ (tableM a).length + (tableM b).length ≤ 2000 ∧ countM (.one a b) ≤ 5000
  | .kept g c => Few g ∧ countM (.kept g c) ≤ 5000
  | .turned g m => Few g ∧ countM (.turned g m) ≤ 5000
  | .rep a b => Few a ∧ Few b ∧ (((tableM a).filter repOk).map fun e => (tableM b).length ^ (dint e.v).toNat).sum ≤ 2000 ∧ countM (.rep a b) ≤ 5000
def leastM (g : Gn) (c : Cn) : Option (List Int) := ((tableM g).find? fun e => !c.val e.v).map (·.r)

/-! ## All exact rows -/
abbrev RV := List Int × PyData
def RV.enc (p : RV) : PyData := .tuple [encR p.1, p.2]
def joinE (a b : RV) : RV := (a.1 ++ b.1, .tuple (ditems a.2 ++ [b.2]))
def joinOne (made part : List RV) : List RV := made.flatMap fun a => part.map (joinE a)
def rv0 : List RV := [([], .tuple [])]
def joinM (parts : List (List RV)) : List RV := if (parts.any fun t => t.isEmpty) = true then [] else parts.foldl joinOne rv0
def joinN (made part : List RV) : Nat → List RV
  | 0 => made
  | n + 1 => joinOne (joinN made part n) part
def joinF (a b : RV) : RV := (a.1 ++ [1] ++ b.1, .tuple (ditems a.2 ++ [b.2]))
def joinB (made part : List RV) : List RV := made.flatMap fun a => part.map (joinF a)
def listedFrom (part : List RV) : Nat → List RV → List RV
  | 0, made => made
  | n + 1, made => (made.map fun a => (a.1 ++ [0], a.2)) ++ listedFrom part n (joinB made part)
def listedM (part : List RV) (l m : Nat) : List RV := listedFrom part (m - l) (joinN rv0 part l)
def rowsOf : Gn → List (List RV) → List RV
  | .int lo hi, _ => (tableM (.int lo hi)).map fun e => (e.r, e.v)
  | .pair _ _, ps => joinM ps
  | .lst _ l m, ps => listedM (ps.getD 0 []) l m
  | .kept _ c, ps => (ps.getD 0 []).filter fun p => c.val p.2
  | .turned _ m, ps => (ps.getD 0 []).map fun p => (p.1, m.val p.2)
  | .one _ _, ps => (List.range ps.length).flatMap fun k => (ps.getD k []).map fun p => ((k : Int) :: p.1, p.2)
  | .rep _ _, ps => (ps.getD 0 []).flatMap fun p => if 0 ≤ dint p.2 ∧ dint p.2 ≤ 6 then (joinM (List.replicate (dint p.2).toNat (ps.getD 1 []))).map fun q => (p.1 ++ q.1, q.2) else []
def rowsM : Gn → List RV
  | .int lo hi => rowsOf (.int lo hi) []
  | .pair a b => rowsOf (.pair a b) [rowsM a, rowsM b]
  | .lst g l m => rowsOf (.lst g l m) [rowsM g]
  | .one a b => rowsOf (.one a b) [rowsM a, rowsM b]
  | .kept g c => rowsOf (.kept g c) [rowsM g]
  | .turned g m => rowsOf (.turned g m) [rowsM g]
  | .rep a b => rowsOf (.rep a b) [rowsM a, rowsM b]
def rvLe (a b : RV) : Bool := !lessM b.1 a.1
def allM (g : Gn) : List RV := (rowsM g).mergeSort rvLe

/-! ## Shrinking -/
def shortenedM (row : List Int) : List (List Int) := [4, 3, 2, 1].flatMap fun (many : Nat) => (List.range (row.length + 1 - many)).map fun k => row.take k ++ row.drop (k + many)
def tryM (x : Int) (t : List Int) (n : Int) : List Int := if (decide (0 < x) && !t.contains n) = true then t ++ [n] else t
def numsM (x : Int) : List Int := [0, x / 2, x - 1].foldl (tryM x) []
def loweredM (row : List Int) : List (List Int) := (List.range row.length).flatMap fun k => (numsM (row.getD k 0)).map fun n => row.take k ++ [n] ++ row.drop (k + 1)
def exchangedM (row : List Int) : List (List Int) := (List.range (row.length - 1)).flatMap fun k => if row.getD (k + 1) 0 < row.getD k 0 then [row.take k ++ [row.getD (k + 1) 0, row.getD k 0] ++ row.drop (k + 2)] else []
def candM (row : List Int) : List (List Int) := shortenedM row ++ loweredM row ++ exchangedM row
def leftM (g : Gn) (row : List Int) : Option (List Int) :=
  match valueM row g 0 with
  | .error _ => none
  | .ok (_, u) => some (row.take u)
def stepTo (g : Gn) (c : Cn) (row cand : List Int) : Option (List Int) :=
  match leftM g cand with
  | none => none
  | some l => if (lessM l row && failsM g c l) = true then some l else none
def stepM (g : Gn) (c : Cn) (row : List Int) : Option (List Int) := (candM row).findSome? (stepTo g c row)
/-- the course, with fuel -/
def courseM (g : Gn) (c : Cn) : Nat → List Int → List (List Int)
  | 0, row => [row]
  | n + 1, row =>
    match stepM g c row with
    | none => [row]
    | some l => row :: courseM g c n l
def wasteM (g : Gn) (c : Cn) : List (List Int) := (((tableM g).map (·.r)).filter fun r => failsM g c r).filter fun r => decide (some r ≠ leastM g c) && (stepM g c r).isNone
end CR

set_option Elab.async false
set_option linter.all false
set_option maxRecDepth 100000
set_option maxHeartbeats 4000000
/-! # Operations on data: sum, sorted, the reverse of a tuple, < of rows, min of a list -/
namespace CR
open PySem L2 Evl PyProof.Rows
section
variable {prog : Program} {w : World} {A : Around} {E : Value → Shared → Prop} {s : Shared}
/-- the items of a tuple, gathered -/
theorem gather_tup {t : Addr} {vs : List Value} {Q : List Value → Shared → Prop} (ht : IsTup s.heap t vs.toArray)
    (h : Q vs { s with heap := (s.heap.push (seqObj "list" #[] 0)).update s.heap.objs.size (Obj.mapSeq (· ++ vs.toArray)) }) (hsz : vs.length ≤ sizeLine) :
    wpAny (model prog w) A (collect (.ref t)) Q E s := by
  obtain ⟨o, ho, hc, n, hd⟩ := id ht
  have ho' : (s.heap.push (seqObj "list" #[] 0)).get? t = some o := Heap.get?_push_of_some _ ho
  unfold collect
  refine wpAny_bind (wpAny_runValue (codeAny_builtin entry_proto_collect' ?_))
  show wpAny _ _ (do again (.builtin "list.__iadd__" ⟨[← newList [], .ref t], []⟩)) _ _ s
  refine wpAny_bind (wpAny_newList (wpAny_pure ⟨Code.quiet_builtin _ (by decide +kernel), codeAny_builtin entry_list_iadd' ?_⟩))
  show wpAny _ _ (Builtin.List.listExtendWith (.ref s.heap.objs.size) (.ref t) (.ref s.heap.objs.size)) _ _ { s with heap := s.heap.push (seqObj "list" #[] 0) }
  unfold Builtin.List.listExtendWith
  refine wpAny_bind (wpAny_typeOf (T := "tuple") ⟨o, ho', hc⟩ ?_)
  rw [if_pos (by have z : (Value.type "tuple" == Value.type "tuple") = true := by rfl
                 rw [z]; simp)]
  refine wpAny_bind (listItems_at ho' hd ?_)
  refine wpAny_bind (listItems_at (xs := #[]) (n := 0) (Heap.get?_push_size _ rfl) rfl ?_)
  rw [if_neg (by simp)]
  refine wpAny_bind (listUpdate_at (xs := #[]) (n := 0) (Heap.get?_push_size _ rfl) rfl ?_ (Nat.zero_le _) (by show (#[] ++ vs.toArray).size ≤ sizeLine + 1; simp only [Array.size_append, List.size_toArray, List.length_nil]; omega))
  refine wpAny_pure ?_
  show wpAny (model prog w) A (do
      let o ← load s.heap.objs.size
      match o.data with
      | .seq xs _ => pure xs.toList
      | _ => unsupported "internal:collect") Q E { s with heap := (s.heap.push (seqObj "list" #[] 0)).update s.heap.objs.size (Obj.mapSeq (· ++ vs.toArray)) }
  refine wpAny_bind (wpAny_load (get?_update_seq (Heap.get?_push_size _ rfl) _) ?_)
  show wpAny _ _ (pure ((#[] : Array Value) ++ vs.toArray).toList) Q E _
  rw [show ((#[] : Array Value) ++ vs.toArray).toList = vs by simp]
  exact wpAny_pure h
/-- sorted(t), t a tuple -/
theorem sorted_tup {l : Addr} {vs : List Value} {ltv : Value → Value → Bool} {Q : Value → Shared → Prop} (O : SrtO.Swo ltv) (hl : IsTup s.heap l vs.toArray) (hz : vs.length ≤ sizeLine)
    (hS : 2 ≤ vs.length → ∀ (g : Heap) (a : Addr), SrtO.SortableO prog w A.in1.in1 { s with heap := g } a vs ltv)
    (h : ∀ out : List Value, SrtO.Srtd ltv out → SrtO.Stb ltv out vs → Q (.ref (s.heap.objs.size + 1)) { s with heap := sortedAll s.heap vs out.toArray }) :
    wpAny (model prog w) A (call (.builtin "sorted") [.ref l]) Q E s := by
  refine Calls.call_function_entry kind_sorted plain_sorted entry_sorted (args_sorted1 _) ?_
  unfold Builtin.«sorted»
  refine wpAny_bind (m := checkCount "sorted" 1 1 _) (wpAny_pure ?_)
  refine wpAny_bind (gather_tup hl ?_ hz)
  refine wpAny_bind (wpAny_newList ?_ hz)
  have sz : ((s.heap.push (seqObj "list" #[] 0)).update s.heap.objs.size (Obj.mapSeq (· ++ vs.toArray))).objs.size = s.heap.objs.size + 1 := by
    rw [Heap.size_update, size_push']
  have at1 : (((s.heap.push (seqObj "list" #[] 0)).update s.heap.objs.size (Obj.mapSeq (· ++ vs.toArray))).push (seqObj "list" vs.toArray 0)).get? (s.heap.objs.size + 1) = some (seqObj "list" vs.toArray 0) := by
    rw [← sz]; exact Heap.get?_push_size _ rfl
  show wpAny _ _ _ _ _ { s with heap := ((s.heap.push (seqObj "list" #[] 0)).update s.heap.objs.size (Obj.mapSeq (· ++ vs.toArray))).push (seqObj "list" vs.toArray 0) }
  rw [sz]
  refine wpAny_bind (wpAny_holding (wpAny_call_entry slot_list_sort ⟨_, at1, rfl⟩ entry_list_sort (SrtO.list_sort_ord O at1 hz (fun h2 => hS h2 _ _) fun out hs hb => ⟨_, rfl, ?_⟩) (args_list_sort _)))
  exact wpAny_pure ⟨_, rfl, h out hs hb⟩
end
section
variable {X : Cx} {B : Bd} {δ : List SD} {a b c e : Expr} {d x y : PyData} {ds xs ys : List PyData} {i j : Int} {pos : Pos} {p q : Bool}
theorem cr_sumT (hc : X.calm = true) : CallR X (.builtin "sum") (fun vs H Q => ∃ (a : Addr) (ns : List Int), vs = [V.ref a] ∧ SqT X.K H a (ns.map V.int) ∧ Q (.int ns.sum) H) := by
  intro pins s σ H vs us Q I r h
  obtain ⟨a, ns, rfl, hs, q⟩ := h
  obtain ⟨its, rv, ht, hz⟩ := I.tuple hs
  rw [Vals.ref1 r]
  have hi := rv.ints
  obtain ⟨zs, e⟩ := hi.allInts.items
  have hn : numsOf (intItems zs).toList = ns := by rw [← e]; exact hi.numsOf
  rw [nums_intItems] at hn
  rw [e] at ht
  refine PySem.W.ktm_sumG (I.ok.hd hc) ht fun h' tk t' hk => ?_
  rw [preSum_eq, List.take_of_length_le (by simp), hn]
  exact ⟨.int _, H, I.kept hk, ⟨_, rfl⟩, q⟩
theorem cr_sortedT : CallR X (.builtin "sorted") (fun vs H Q => ∃ (a : Addr) (ns : List Int), vs = [V.ref a] ∧ SqT X.K H a (ns.map V.int) ∧
    ∀ (ns' : List Int) (p : Addr), ns'.Perm ns → ns'.Pairwise (· ≤ ·) → H p = none → Q (.ref p) (upd H p (.lst (ns'.map V.int)))) := by
  intro pins s σ H vs us Q I r h
  obtain ⟨a, ns, rfl, hs, q⟩ := h
  obtain ⟨its, rv, ht, hz⟩ := I.tuple hs
  rw [Vals.ref1 r]
  have hi := rv.ints
  refine sorted_tup SrtO.swo_int ht (by rw [← rv.length]; exact hz) (fun h2 g a' => SrtO.ints_sortable hi h2) fun out h1 h2 => ?_
  obtain ⟨k1, k2, k3⟩ := SrtO.ints_out hi h1 h2
  obtain ⟨ep, he'⟩ := PyProof.Rows.sortedAll_at s.heap its out.toArray
  have len : ((out.map SrtO.iv).map V.int).length ≤ sizeLine := by
    rw [List.length_map, k2.length_eq]
    rw [List.length_map] at hz
    exact hz
  exact ⟨.ref _, upd H (s.heap.objs.size + 1) (.lst ((out.map SrtO.iv).map V.int)), I.laid (t' := s.toks) (fun _ _ => PyProof.Rows.sortedAll_old) (Nat.le_succ _) ⟨len, out, ep, vals_of_ints k1, he'⟩, rfl, q _ _ k2 k3 (I.hok.fresh (Nat.le_succ _))⟩
theorem ev_sumT {pz : Pos} {ns : List Int} (hc : X.calm = true) (hm : X.mg ("sum" : Str) = none) (ha : Ev X B δ a (.tuple (ns.map .int))) (hg : Gl X ("sum" : Str) := by rfl) (hv : bootBuiltins "sum" = some (.builtin "sum") := by decide +kernel)
    (he : starEach (a :: []) X.env = (false, eval a X.env) :: starEach [] X.env := by rfl) (hpl : (backTo pos (starEach [] X.env)).any (·.1) = false := by rfl) : Ev X B δ (.Call (.Name "sum" pz) [a] [] pos) (.int ns.sum) :=
  ev_of (pe_callB (cr_sumT hc) hg hm hv (pa_cons pe_sem pa_nil he) (by decide) (by decide) he hpl) fun σ G H s Q q => ha σ G H s _ fun u G1 H1 g1 d1 => by
    obtain ⟨t, vs, rfl, h1, h2⟩ := dpi_tup d1
    rw [h2.ints] at h1
    exact ⟨t, ns, rfl, t_of (ex_t g1.gh h1), q _ G1 H1 g1 (.int _)⟩
theorem ev_sortedT {pz : Pos} {ns : List Int} (hm : X.mg ("sorted" : Str) = none) (ha : Ev X B δ a (.tuple (ns.map .int))) (hg : Gl X ("sorted" : Str) := by rfl) (hv : bootBuiltins "sorted" = some (.builtin "sorted") := by decide +kernel)
    (he : starEach (a :: []) X.env = (false, eval a X.env) :: starEach [] X.env := by rfl) (hpl : (backTo pos (starEach [] X.env)).any (·.1) = false := by rfl) :
    Ev X B δ (.Call (.Name "sorted" pz) [a] [] pos) (.list ((ns.mergeSort fun x y => decide (x ≤ y)).map .int)) :=
  ev_of (pe_callB cr_sortedT hg hm hv (pa_cons pe_sem pa_nil he) (by decide) (by decide) he hpl) fun σ G H s Q q => ha σ G H s _ fun u G1 H1 g1 d1 => by
    obtain ⟨t, vs, rfl, h1, h2⟩ := dpi_tup d1
    rw [h2.ints] at h1
    refine ⟨t, ns, rfl, t_of (ex_t g1.gh h1), fun ns' p hp hs hl => ?_⟩
    rw [PySem.W.Srt.up hp hs]
    have g : Grow B.T m0 G1 H1 (upd G1 p (.lst ((ns.mergeSort fun x y => decide (x ≤ y)).map V.int))) (upd H1 p (.lst ((ns.mergeSort fun x y => decide (x ≤ y)).map V.int))) := Grow.laid g1.gh g1.t hl
    exact q _ _ _ (g1.trans g) (.lst (SqL.of upd_same) (DpAll.ofInts _))
/-! ### t[::-1] -/
theorem fmap_same {α β : Type} {f : α → Option β} {g : α → β} : ∀ {l : List α}, (∀ m ∈ l, f m = some (g m)) → l.filterMap f = l.map g
  | [], _ => rfl
  | a :: l, h => by
    rw [List.filterMap_cons, h a List.mem_cons_self, List.map_cons, fmap_same fun m hm => h m (List.mem_cons_of_mem _ hm)]
theorem rev_all (xs : Array Value) : ((List.range xs.size).filterMap fun (m : Nat) => xs[(((xs.size : Int) - 1) + (m : Int) * (-1)).toNat]?).toArray = xs.toList.reverse.toArray := by
  congr 1
  apply List.ext_getElem?
  intro k
  have e : (List.range xs.size).filterMap (fun (m : Nat) => xs[(((xs.size : Int) - 1) + (m : Int) * (-1)).toNat]?) = (List.range xs.size).map fun m => xs.toList.getD (xs.size - 1 - m) .none := by
    refine fmap_same fun m hm => ?_
    have hm' : m < xs.size := List.mem_range.mp hm
    have e1 : (((xs.size : Int) - 1) + (m : Int) * (-1)).toNat = xs.size - 1 - m := by omega
    rw [e1]
    have hlt : xs.size - 1 - m < xs.size := by omega
    simp [hlt]
  rw [e, List.getElem?_map]
  by_cases hk : k < xs.size
  · rw [List.getElem?_range hk, List.getElem?_reverse (by simpa using hk)]
    have hlt : xs.size - 1 - k < xs.size := by omega
    simp [hlt]
  · rw [List.getElem?_eq_none (by simpa using hk), List.getElem?_eq_none (by simpa using hk)]
    rfl
section
variable {prog : Program} {w : World} {A : Around} {E : Value → Shared → Prop} {s : Shared}
theorem getItem_tup_rev {t sl : Addr} {items : Array Value} {vs : Value} {Q : Value → Shared → Prop} (ht : IsTup s.heap t items) (hs : s.heap.IsSliceOf sl .none .none vs) (ps : IsPart vs (some (-1)))
    (h : Q (.ref s.heap.objs.size) { s with heap := s.heap.push { cls := .type "tuple", data := .seq items.toList.reverse.toArray } }) (hsz : items.size ≤ sizeLine) : wpAny (model prog w) A (getItem (.ref t) (.ref sl)) Q E s := by
  have hz : sizeOk (.seq items.toList.reverse.toArray) := by
    show items.toList.reverse.toArray.size ≤ sizeLine
    rw [List.size_toArray, List.length_reverse, Array.length_toList]
    exact hsz
  obtain ⟨os, hos, hcs, hds⟩ := id hs
  have hTs : s.TypeIs (.ref sl) "slice" := ⟨os, hos, hcs⟩
  unfold getItem
  try with_reducible refine wpAny_holding ?_
  first | refine wpAny_bind (wpAny_pure ?_) | skip
  refine wpAny_bind (wpAny_sequenceKey ht.typeIs (by decide) ?_)
  refine wpAny_bind (wpAny_callSpecial?_slot (name := Str.ofString "__getitem__") ht.typeIs PyProof.Rows.slot_tuple_getitem
    (wpAny_call_entry PyProof.Rows.slot_tuple_getitem ht.typeIs entry_tuple_getitem ?_ (args_tuple_getitem _ _)))
  show wpAny _ _ (Builtin.Tuple.tupleItemsOf (.ref t) >>= _) _ _ s
  refine wpAny_bind (tupleItemsOf_ ht ?_)
  refine wpAny_bind (wpAny_typeOf hTs ?_)
  rw [if_pos (by decide)]
  refine wpAny_bind ?_
  unfold Builtin.Slice.sliceApplied Builtin.Slice.sliceFields
  refine wpAny_bind (wpAny_bind (wpAny_field hos hds (x := .none) rfl (wpAny_bind (wpAny_field hos hds (x := .none) rfl (wpAny_bind (wpAny_field hos hds (x := vs) rfl (wpAny_pure ?_)))))))
  refine wpAny_bind (HT.slicePart_ ps ?_)
  show wpAny _ _ (if ((-1 : Int) == 0) = true then _ else _) _ _ s
  rw [if_neg (by decide)]
  refine wpAny_bind (slicePart_none (wpAny_bind (slicePart_none (wpAny_bind (wpAny_pure ?_)))))
  have eadj : Builtin.Slice.sliceAdjust none none (-1) (items.size : Int) = ((items.size : Int) - 1, -1) := by
    unfold Builtin.Slice.sliceAdjust
    simp
  have epl : Builtin.Slice.slicePlaces ((items.size : Int) - 1) (-1) (-1) = items.size := by
    unfold Builtin.Slice.slicePlaces
    simp
    omega
  show wpAny _ _ (match Builtin.Slice.sliceAdjust none none (-1) (items.size : Int) with | (lo, hi) => pure (lo, (-1 : Int), Builtin.Slice.slicePlaces lo hi (-1))) _ _ s
  rw [eadj]
  show wpAny _ _ (pure ((items.size : Int) - 1, (-1 : Int), Builtin.Slice.slicePlaces ((items.size : Int) - 1) (-1) (-1))) _ _ s
  rw [epl]
  refine wpAny_pure ?_
  have hno : ¬ (((items.size : Int) - 1 == 0 && (-1 : Int) == 1 && items.size == items.size) = true) := by
    have e1 : ((-1 : Int) == 1) = false := by decide
    rw [e1, Bool.and_false, Bool.false_and]
    exact Bool.false_ne_true
  show wpAny _ _ (if ((items.size : Int) - 1 == 0 && (-1 : Int) == 1 && items.size == items.size) = true then _ else _) _ _ s
  rw [if_neg hno, rev_all]
  first
    | exact wpAny_bind (m := Builtin.Tuple.tupleExact _) (wpAny_newObj_type (wpAny_pure ⟨_, rfl, wpAny_pure h⟩) hz)
    | exact wpAny_bind (m := Builtin.Tuple.tupleExact _) (wpAny_newObj_type (wpAny_bind (wpAny_pure (wpAny_pure ⟨_, rfl, wpAny_pure h⟩))) hz)
    | exact wpAny_bind (wpAny_bind (m := Builtin.Tuple.tupleExact _) (wpAny_newObj_type (wpAny_pure (wpAny_pure ⟨_, rfl, wpAny_pure h⟩)) hz))
    | exact wpAny_bind (wpAny_bind (m := Builtin.Tuple.tupleExact _) (wpAny_newObj_type (wpAny_pure ⟨_, rfl, wpAny_pure h⟩) hz))
end
end
end CR

set_option Elab.async false
set_option linter.all false
set_option maxRecDepth 100000
set_option maxHeartbeats 4000000
/-! # Operations on data, 2: the reverse of a tuple, < of rows, min of a list, a list times an int -/
namespace CR
open PySem L2 Evl PyProof.Rows
/-! ## Rows in order, as Python says -/
open PySem.W in
theorem toks_lex : ∀ (r t : List Int), PyProof.Rows.lexLt itemOrd (keyToksAll (r.map .int)) (keyToksAll (t.map .int)) = lexM r t
  | [], [] => rfl
  | [], y :: t => by
    rw [List.map_nil, List.map_cons, toks_all_cons]
    rfl
  | x :: r, [] => by
    rw [List.map_nil, List.map_cons, toks_all_cons]
    rfl
  | x :: r, y :: t => by
    rw [List.map_cons, List.map_cons]
    by_cases e : x = y
    · have ee : PyData.eqv (.int x) (.int y) = true := by subst e; exact eqv_refl_alike _ rfl
      rw [dataLt_all_yes (by rfl) ee, toks_lex r t]
      subst e
      rw [lexM]
      simp
    · have ee : PyData.eqv (.int x) (.int y) = false := by simp [PyData.eqv, e]
      rw [dataLt_all_no (by rfl) ee, dataLt_int]
      unfold lexM
      simp [e]
open PySem.W in
theorem lt_rows (r t : List Int) : dataLt (encR r) (encR t) = lexM r t := by
  unfold encR
  rw [dataLt_tuple]
  exact toks_lex r t
/-- (len(row), row) -/
def rk (r : List Int) : PyData := .tuple [.int r.length, encR r]
theorem lexM_irr : ∀ r : List Int, lexM r r = false
  | [] => rfl
  | x :: r => by
    unfold lexM
    rw [lexM_irr r]
    simp
theorem eqv_rows : ∀ (r t : List Int), PyData.eqvAll (r.map .int) (t.map .int) = decide (r = t)
  | [], [] => by simp [PyData.eqvAll]
  | [], y :: t => by simp [PyData.eqvAll]
  | x :: r, [] => by simp [PyData.eqvAll]
  | x :: r, y :: t => by
    rw [List.map_cons, List.map_cons, PyData.eqvAll, eqv_rows r t]
    have e : PyData.eqv (.int x) (.int y) = decide (x = y) := by
      simp only [PyData.eqv]
      rfl
    rw [e]
    by_cases h : x = y <;> by_cases h2 : r = t <;> simp [h, h2]
theorem eqv_encR (r t : List Int) : PyData.eqv (encR r) (encR t) = decide (r = t) := by
  unfold encR
  rw [PyData.eqv, eqv_rows]
theorem alike_ints : ∀ (r t : List Int), PySem.W.alikeAll (r.map .int) (t.map .int) = true
  | [], _ => by simp [PySem.W.alikeAll]
  | _ :: _, [] => by simp [PySem.W.alikeAll]
  | _ :: r, _ :: t => by rw [List.map_cons, List.map_cons, PySem.W.alikeAll, alike_ints r t]; rfl
theorem alike_encR (r t : List Int) : PySem.W.alike (encR r) (encR t) = true := by
  unfold encR
  rw [PySem.W.alike]
  exact alike_ints r t
theorem alike_rk (r t : List Int) : PySem.W.alike (rk r) (rk t) = true := by
  unfold rk
  simp [PySem.W.alike, PySem.W.alikeAll, alike_encR]
open PySem.W in
theorem lt_rk (r t : List Int) : dataLt (rk r) (rk t) = lessM r t := by
  unfold rk lessM
  rw [dataLt_tuple]
  by_cases e : r.length = t.length
  · have ee : PyData.eqv (.int (r.length : Int)) (.int (t.length : Int)) = true := by simp [PyData.eqv, e]
    rw [dataLt_all_yes (by rfl) ee]
    by_cases h : r = t
    · subst h
      rw [dataLt_all_yes (alike_encR _ _) (by rw [eqv_encR]; simp), lexM_irr]
      have l : PyProof.Rows.lexLt itemOrd (keyToksAll []) (keyToksAll []) = false := toks_lex [] []
      rw [l]; simp
    · rw [dataLt_all_no (alike_encR _ _) (by rw [eqv_encR]; simp [h]), lt_rows]
      simp [e]
  · have ee : PyData.eqv (.int (r.length : Int)) (.int (t.length : Int)) = false := by simp [PyData.eqv]; omega
    rw [dataLt_all_no (by rfl) ee, dataLt_int]
    simp only [e, decide_false, Bool.false_and, Bool.or_false, decide_eq_decide]
    omega
theorem depth_ints : ∀ r : List Int, PyData.depthAll (r.map .int) ≤ 0
  | [] => by simp [PyData.depthAll]
  | x :: r => by
    have := depth_ints r
    simp [PyData.depthAll, PyData.depth]
    omega
theorem depth_encR (r : List Int) : (encR r).depth ≤ 1 := by
  have := depth_ints r
  unfold encR
  simp [PyData.depth]
  omega
theorem depth_rk (r : List Int) : (rk r).depth ≤ 2 := by
  have := depth_encR r
  unfold rk
  simp [PyData.depth, PyData.depthAll]
  omega
theorem minD_mem : ∀ (ds : List PyData) (d : PyData), PySem.W.minD d ds ∈ d :: ds
  | [], d => List.mem_cons_self
  | x :: ds, d => by
    show PySem.W.minD (if PySem.W.dataLt x d then x else d) ds ∈ _
    have h := minD_mem ds (if PySem.W.dataLt x d then x else d)
    rcases List.mem_cons.mp h with h | h
    · rw [h]
      split
      · exact List.mem_cons_of_mem _ List.mem_cons_self
      · exact List.mem_cons_self
    · exact List.mem_cons_of_mem _ (List.mem_cons_of_mem _ h)
section
variable {X : Cx} {B : Bd} {δ : List SD} {a b c e : Expr} {d x y : PyData} {ds xs ys : List PyData} {i j : Int} {pos : Pos} {p q : Bool}
theorem op_ltD (hu : X.A.units + 64 < cLine) : OpR X (compareOp .Lt) (fun x y H Q => ∃ d e, Dp X.K H x d ∧ Dp X.K H y e ∧ PySem.W.alike d e = true ∧ d ≠ .none ∧ d.depth ≤ 60 ∧ Q (.bl (PySem.W.dataLt d e)) H) := by
  intro pins s σ H x y v u Q I rx ry h
  obtain ⟨d, e, hd, he, ha, hn, hz, q⟩ := h
  obtain ⟨as, r1⟩ := Dp.reads I d x v hd rx
  obtain ⟨bs, r2⟩ := Dp.reads I e y u he ry
  exact PySem.W.lt_data r1 r2 ha hn (by omega) ⟨.bl _, H, I, rfl, q⟩
theorem ev_ltRk {r t : List Int} (hu : X.A.units + 64 < cLine) (ha : Ev X B δ a (rk r)) (hb : Ev X B δ b (rk t)) : Ev X B δ (.Compare a [.Lt] [b] pos) (.bool (lessM r t)) :=
  ev_cmp (op_ltD hu) ha hb (nobehind _ (by decide) (by decide)) fun σ G H u v s d1 d2 Q q => by
    refine ⟨rk r, rk t, dpK _ _ (d1.mono s.e), dpK _ _ (d2.mono s.e), alike_rk r t, (fun z => nomatch z), Nat.le_trans (depth_rk r) (by decide), ?_⟩
    rw [lt_rk]
    exact q _ G H s.refl (.bl _)
/-- t[::-1] -/
theorem ev_revT {k : Nat} {p1 p2 p3 : Pos} (ha : Ev X B δ a (.tuple xs)) : Ev X B δ (.Subscript a (.Slice none none (some (.UnaryOp .USub (.Constant (.int 1) k p1) p2)) p3) pos) (.tuple xs.reverse) := by
  refine ev_of (t := fun σ H Q => semE X a σ H fun x H1 => ∃ a xs, x = .ref a ∧ SqT X.K H1 a xs ∧ ∀ p, H1 p = none → Q (.ref p) (upd H1 p (.tup xs.reverse))) ⟨fun pins s σ H Q I h => ?_⟩ fun σ G H s Q q => ha σ G H s _ fun u G1 H1 g1 d1 => ?_
  · refine Subscript_ (thn (pe_sem.run pins s σ H _ I h) fun v s1 ⟨x, H1, I1, r1, q1⟩ => ?_)
    obtain ⟨t, zs, ex, hx, q⟩ := q1
    subst ex
    cases r1
    have hst : PO X (some (.UnaryOp .USub (.Constant (.int 1) k p1) p2)) (tPart (tUn (rU fun i => .int (-i)) (tC (.int 1)))) := po_some (pe_un un_neg pe_int)
    refine wpAny_Slice (thn (po_none.run pins s1 σ H1 (fun o H2 => o = none ∧ H2 = H1) I1 ⟨rfl, rfl⟩) fun vl s2 ⟨l, H2, I2, pl, el, e2⟩ => ?_)
    subst el e2
    refine thn (po_none.run pins s2 σ H2 (fun o H3 => o = none ∧ H3 = H2) I2 ⟨rfl, rfl⟩) fun vu s3 ⟨u, H3, I3, pu, eu, e3⟩ => ?_
    subst eu e3
    refine thn (hst.run pins s3 σ H3 (fun o H4 => o = some (-1) ∧ H4 = H3) I3 ⟨1, rfl, -1, rfl, rfl, rfl⟩) fun vs s4 ⟨o, H4, I4, ps, eo, e4⟩ => ?_
    subst eo e4
    cases pl
    cases pu
    have I5 : Inv X pins σ H4 { s4 with heap := s4.heap.push { cls := .type "slice", data := .fields #[.none, .none, vs] } } := I4.kept (t' := s4.toks) fun b ob q => Heap.get?_push_of_some _ q
    obtain ⟨its, r, ht, hz⟩ := I5.tuple hx
    have len := r.length
    show wpAny (model X.prog X.w) X.A (subscriptTail a (.Slice none none (some (.UnaryOp .USub (.Constant (.int 1) k p1) p2)) p3) (.ref t) (.ref s4.heap.objs.size)) (EP X pins σ Q) X.xe { s4 with heap := s4.heap.push { cls := .type "slice", data := .fields #[.none, .none, vs] } }
    refine tail_any (ops := [.ref t, .ref s4.heap.objs.size]) ht.typeIs (PyProof.Rows.slot_tuple_getitem.lookup) ?_ (by with_unfolding_all rfl)
    refine getItem_tup_rev ht (Heap.IsSliceOf.new _ .none .none vs) ps ?_ (by rw [List.size_toArray, ← len]; exact hz)
    refine ⟨.ref _, _, I5.laid (t' := s4.toks) (o := .tup zs.reverse) (fun b ob q => Heap.get?_push_of_some _ q) (Nat.le_refl _) ?_, rfl, q _ (I5.hok.fresh (Nat.le_refl _))⟩
    exact ⟨by rw [List.length_reverse]; exact hz, its.reverse, r.reverse, IsTup.new _ _⟩
  · obtain ⟨t, vs, rfl, h1, h2⟩ := dpi_tup d1
    refine ⟨t, vs, rfl, t_of (ex_t g1.gh h1), fun p hp => ?_⟩
    have g : Grow B.T m0 G1 H1 (upd G1 p (.tup vs.reverse)) (upd H1 p (.tup vs.reverse)) := Grow.laid g1.gh g1.t hp
    exact q _ _ _ (g1.trans g) (.tup (SqT.of upd_same) (h2.reverse.mono g.g))
/-- min([(len, row), (len, row)]) -/
theorem cr_minD (hc : X.calm = true) (hu : X.A.units + 64 < cLine) : CallR X (.builtin "min") (fun vs H Q => ∃ (a : Addr) (us : List V) (d : PyData) (ds : List PyData), vs = [V.ref a] ∧ SqL X.K H a us ∧ DpAll X.K H us (d :: ds) ∧ PySem.W.AlikeAll (d :: ds) ∧ PyData.depthAll (d :: ds) ≤ 60 ∧
    ∀ (i : Nat) (w : V) (z : PyData), us[i]? = some w → (d :: ds)[i]? = some z → z = PySem.W.minD d ds → Q w H) := by
  intro pins s σ H vs us Q I r h
  obtain ⟨a, ws, d, ds, rfl, hs, hd, hal, hz, q⟩ := h
  obtain ⟨its, rv, hl, _⟩ := I.list hs
  rw [Vals.ref1 r]
  obtain ⟨as, hr⟩ := Dp.readsAll I (d :: ds) ws its hd rv
  refine PySem.W.min_list_data (I.ok.hd hc) hl.isList (by rw [List.toList_toArray]; exact hr) hal (by omega) fun i v h' tk bs hv hread hk => ?_
  rw [List.getElem?_toArray] at hv
  have hi : i < ws.length := by
    rw [rv.length]
    exact (List.getElem?_eq_some_iff.mp hv).1
  obtain ⟨v', hv', rw1⟩ := rv.get (List.getElem?_eq_getElem hi)
  rw [hv] at hv'
  cases hv'
  have hi2 : i < (d :: ds).length := by rw [← hd.length]; exact hi
  obtain ⟨w, hw, dw⟩ := hd.get (List.getElem?_eq_getElem hi2)
  rw [List.getElem?_eq_getElem hi] at hw
  cases hw
  obtain ⟨as', r'⟩ := Dp.reads I _ _ _ dw rw1
  have mem1 : (d :: ds)[i] ∈ d :: ds := List.getElem_mem hi2
  have mem2 : PySem.W.minD d ds ∈ d :: ds := minD_mem ds d
  have e := PySem.W.alike_unique _ _ _ _ _ (hal.1 _ mem1 _ mem2) (PyProof.Rows.Reads.keeps hk r') hread
  exact ⟨_, H, I.kept hk, rw1, q i _ _ (List.getElem?_eq_getElem hi) (List.getElem?_eq_getElem hi2) e⟩
/-- the least of two ranks -/
theorem ev_minRk {r t : List Int} {pz : Pos} (hc : X.calm = true) (hu : X.A.units + 64 < cLine) (hm : X.mg ("min" : Str) = none) (ha : Ev X B δ a (.list [rk r, rk t])) (hg : Gl X ("min" : Str) := by rfl) (hv : bootBuiltins "min" = some (.builtin "min") := by decide +kernel)
    (he : starEach (a :: []) X.env = (false, eval a X.env) :: starEach [] X.env := by rfl) (hpl : (backTo pos (starEach [] X.env)).any (·.1) = false := by rfl) :
    Ev X B δ (.Call (.Name "min" pz) [a] [] pos) (rk (if lessM t r = true then t else r)) :=
  ev_of (pe_callB (cr_minD hc hu) hg hm hv (pa_cons pe_sem pa_nil he) (by decide) (by decide) he hpl) fun σ G H s Q q => ha σ G H s _ fun u G1 H1 g1 d1 => by
    obtain ⟨l, vs, rfl, h1, h2⟩ := dpi_lst d1
    refine ⟨l, vs, rk r, [rk t], rfl, l_of (ex_l g1.gh h1), dpAllK _ _ (h2.mono g1.gh), ⟨fun x hx y hy => ?_, fun x hx => ?_⟩, ?_, fun i w z e1 e2 ez => ?_⟩
    · have f : ∀ x ∈ [rk r, rk t], ∃ n, x = rk n := fun x hx => by
        rcases List.mem_cons.mp hx with rfl | hx
        · exact ⟨_, rfl⟩
        · rw [List.mem_singleton.mp hx]; exact ⟨_, rfl⟩
      obtain ⟨n, rfl⟩ := f x hx
      obtain ⟨n', rfl⟩ := f y hy
      exact alike_rk n n'
    · rcases List.mem_cons.mp hx with rfl | hx
      · exact fun z => nomatch z
      · rw [List.mem_singleton.mp hx]; exact fun z => nomatch z
    · have h1 := depth_rk r
      have h2 := depth_rk t
      simp [PyData.depthAll]
      omega
    · obtain ⟨w', e1', dw⟩ := h2.get e2
      rw [e1] at e1'
      cases e1'
      refine q w G1 H1 g1 ?_
      have em : PySem.W.minD (rk r) [rk t] = rk (if lessM t r = true then t else r) := by
        unfold PySem.W.minD
        rw [List.foldl_cons, List.foldl_nil, lt_rk]
        by_cases h : lessM t r = true
        · rw [if_pos h, if_pos h]
        · rw [if_neg h, if_neg h]
      rw [← em, ← ez]
      exact dw
end
end CR

set_option Elab.async false
set_option linter.all false
set_option maxRecDepth 100000
set_option maxHeartbeats 4000000
/-! # sorted(xs, key=lambda x: (len(x[i]), x[i])) -/
namespace CR
open PySem L2 Evl PyProof.Rows LamX
/-- the key's text -/
def keyE (x : Str) (i : Int) (k1 k2 kk : Nat) (p1 p2 p3 p4 p5 p6 p7 p8 p9 : Pos) : Expr :=
  .Tuple [.Call (.Name "len" p1) [.Subscript (.Name x p2) (.Constant (.int i) k1 p3) p4] [] p5, .Subscript (.Name x p6) (.Constant (.int i) k2 p7) p8] kk p9
structure KeyS (scope : Scope) (x : Str) : Prop where
  kind : scope.kind = .function
  co : scope.isCoroutine = false
  gen : scope.isGenerator = false
  own : scope.names.lookup x = some .local
  len : scope.names.lookup ("len" : Str) = some .globalImplicit
  nocell : ∀ y ∈ scope.names, y.2 ≠ .cell
section
variable {prog : Program} {w : World} {A : Around} {E : Value → Shared → Prop} {s : Shared}
theorem eval_key {base : Heap} {K : PySem.W.Frag} {mg : Str → Option Value} {env : Env} {x : Str} {i : Int} {j : Nat} {t q : Addr} {items : Array Value} {r : List Int} {us : List Value} {m : Str → Option Value} {k1 k2 kk : Nat} {p1 p2 p3 p4 p5 p6 p7 p8 p9 : Pos} {Q : Value → Shared → Prop}
    (md : Mod K mg base) (hml : mg ("len" : Str) = none) (kp : ∀ b o, base.get? b = some o → s.heap.get? b = some o) (S : KeyS env.scope x) (hg : env.globals = mainGlobals) (hb : env.builtins = builtinsNs) (hn : s.heap.Ns env.locals m) (hx : m x = some (.ref t))
    (ht : IsTup s.heap t items) (hlo : -(2 ^ 63) ≤ i) (hhi : i < 2 ^ 63) (hj : seqIndex? i items.size = some j) (hq : items[j]? = some (.ref q)) (hr : IsTup s.heap q us.toArray) (hi : IntsAre us r) (hz : us.length < 2 ^ 62) (hdx : (x == ("__debug__" : Str)) = false)
    (h : ∀ h' tk v, (∀ b o, s.heap.get? b = some o → h'.get? b = some o) → Reads h' v (rk r) [] → Q v { s with heap := h', toks := tk }) :
    wpAny (model prog w) A (eval (keyE x i k1 k2 kk p1 p2 p3 p4 p5 p6 p7 p8 p9) env) Q E s := by
  have hlen := hi.length
  have nm : ∀ {s' : Shared} {p : Pos} {Q : Value → Shared → Prop}, s'.heap = s.heap → Q (.ref t) s' → wpAny (model prog w) A (eval (.Name x p) env) Q E s' := fun {s' p Q} e hQ =>
    wpAny_Name (wpAny_loadName_local S.kind S.own (by rw [e]; exact hn) hx hQ) hdx
  have it : ∀ {s' : Shared} {k : Nat} {p p' p'' : Pos} {Q : Value → Shared → Prop}, s'.heap = s.heap → (∀ tk, Q (.ref q) { s' with toks := tk }) → wpAny (model prog w) A (eval (.Subscript (.Name x p) (.Constant (.int i) k p') p'') env) Q E s' := fun {s' k p p' p'' Q} e hQ => by
    refine Subscript_ (nm e (wpAny_Constant_int ?_))
    have ht2 : IsTup s'.heap t items := by rw [e]; exact ht
    have tI : ({ s' with toks := s'.toks + 1 } : Shared).TypeIs (.ref t) "tuple" := by
      obtain ⟨o, ho, hc, n, hd⟩ := ht2
      exact ⟨o, ho, hc⟩
    refine subscriptTail_builtinR (x := .ref q) tI slot_tuple_getitem.lookup ?_ rfl
    · refine getItem_tuple (j := j) (s := { s' with toks := s'.toks + 1 }) ht2 hlo hhi hj hq ⟨rfl, hQ _⟩
  refine wpAny_Tuple_spliced ?_
  show wpAny _ _ (spliced [(false, eval (.Call (.Name "len" p1) [.Subscript (.Name x p2) (.Constant (.int i) k1 p3) p4] [] p5) env), (false, eval (.Subscript (.Name x p6) (.Constant (.int i) k2 p7) p8) env)]) _ _ _
  refine Calls.spliced_cons ?_
  refine wpAny_Call_Name_kw ?_
  obtain ⟨mb, h1, h2⟩ := md.blt
  refine Calls.Name_function_global S.kind S.len (Calls.loadGlobal_builtin (by rw [hg]; exact md.glob.keeps kp) hml (by rw [hb]; exact h1.keeps kp) ((h2 _ (by decide)).trans PySem.boot_len) ?_) (by decide)
  refine PyProof.Rows.callWith_builtin1 (id := "len") (rest := []) ?_ rfl rfl
  show wpAny _ _ (spliced [(false, eval (.Subscript (.Name x p2) (.Constant (.int i) k1 p3) p4) env)]) _ _ _
  refine Calls.spliced_cons (it rfl fun tk => Calls.spliced_nil ?_)
  refine PyProof.Rows.len_tuple (s := { s with toks := tk }) hr (by simp only [List.size_toArray]; omega) ?_
  refine Calls.spliced_cons (it rfl fun tk2 => Calls.spliced_nil ⟨by show 2 ≤ sizeLine; decide, ?_⟩)
  have kpp : ∀ b o, s.heap.get? b = some o → (s.heap.push { cls := .type "tuple", data := .seq #[.int us.length (tk + 1), .ref q] }).get? b = some o := fun b o e => Heap.get?_push_of_some _ e
  refine h _ _ _ kpp ?_
  refine .tuple (vs := #[.int us.length (tk + 1), .ref q]) (as := []) (Heap.get?_push_size _ rfl) rfl rfl ?_
  obtain ⟨o, ho, hc, n, hd⟩ := hr
  have ri : ∀ {h : Heap} {vs : List Value} {ns : List Int}, IntsAre vs ns → ReadsAll h vs (ns.map .int) [] := fun {h vs ns} z => by
    induction z with
    | nil => exact .nil
    | cons n t r ih => exact .cons (as := []) (bs := []) (.int n t) ih
  have e : (us.length : Int) = (r.length : Int) := by rw [hlen]
  rw [e]
  exact .cons (as := []) (bs := []) (.int _ _) (.cons (as := []) (bs := []) (.tuple (kpp _ _ ho) hc hd (by rw [List.toList_toArray]; exact ri hi)) .nil)
/-- f(t) is the key -/
theorem call_key {base : Heap} {K : PySem.W.Frag} {mg : Str → Option Value} {f c' t q : Addr} {name qual x : Str} {params : Arguments} {scope : Scope} {cl : List (Str × Addr)} {pm ctv : Value} {i : Int} {j : Nat} {items : Array Value} {r : List Int} {us : List Value} {k1 k2 kk : Nat} {p1 p2 p3 p4 p5 p6 p7 p8 p9 : Pos}
    (md : Mod K mg base) (hml : mg ("len" : Str) = none) (kp : ∀ b o, base.get? b = some o → s.heap.get? b = some o) (S : KeyS scope x) (hroom : A.depth < recursionLimit)
    (hf : s.heap.get? f = some (PySem.W.kla_obj name qual params (keyE x i k1 k2 kk p1 p2 p3 p4 p5 p6 p7 p8 p9) scope cl pm c' ctv)) (hco : s.heap.CodeRec (.ref c') qual)
    (hbind : bindArgs (PySem.W.kla_fn name qual params (keyE x i k1 k2 kk p1 p2 p3 p4 p5 p6 p7 p8 p9) scope cl pm (.ref c') ctv) ⟨[.ref t], []⟩ = pure [(x, .ref t)])
    (ht : IsTup s.heap t items) (hlo : -(2 ^ 63) ≤ i) (hhi : i < 2 ^ 63) (hj : seqIndex? i items.size = some j) (hq : items[j]? = some (.ref q)) (hr : IsTup s.heap q us.toArray) (hi : IntsAre us r) (hz : us.length < 2 ^ 62) (hdx : (x == ("__debug__" : Str)) = false) (hlim : s.heap.NoLimit) :
    wpAny (model prog w) A (call (.ref f) [.ref t]) (PySem.W.KeyPure (rk r) s) E s := by
  refine wpAny_call ?_
  refine PySem.W.kla_callFunE hroom hf rfl S.co S.gen rfl hco ?_
  rw [hbind]
  refine wpAny_pure (wpAny_newFunctionEnv S.nocell (fun y hy => ?_) (fun h₁ hns hsb => ⟨hlim.fresh _ hsb, ?_⟩) S.kind)
  · rw [List.mem_singleton.mp hy]
    exact S.own
  show codeAny _ _ (.expr (keyE x i k1 k2 kk p1 p2 p3 p4 p5 p6 p7 p8 p9) (PySem.W.envX qual scope s.heap.objs.size f (.ref c') cl)) _ _
  have kp1 : ∀ b o, s.heap.get? b = some o → h₁.get? b = some o := fun b o e => hsb.extBut b o (Nat.ne_of_lt (Heap.lt_size e)) (Heap.get?_push_of_some _ e)
  have kt : ∀ {a : Addr} {its : Array Value}, IsTup s.heap a its → IsTup h₁ a its := fun z => z.keeps kp1
  refine PySem.W.kla_codeExpr (eval_key (s := { s with heap := h₁, toks := s.toks + 1 }) (m := fun y => ([(x, Value.ref t)] : List (Str × Value)).reverse.lookup y) md hml (fun b o e => kp1 b o (kp b o e)) S rfl rfl hns (by simp) (kt ht) hlo hhi hj hq (kt hr) hi hz hdx fun h' tk v hk hread => ?_)
  exact ⟨h', tk, rfl, fun b o e => hk b o (kp1 b o e), hread⟩
end
end CR

set_option Elab.async false
set_option linter.all false
set_option maxRecDepth 100000
set_option maxHeartbeats 4000000
/-! # sorted(xs, key=lambda x: (len(x[i]), x[i])), 2 -/
namespace CR
open PySem L2 Evl PyProof.Rows LamX
/-- the making of a lambda: the table at P may have got a line, with a new code object -/
structure LamStep (P : Addr) (q : Str) (H H1 : Hp) : Prop where
  was : ∃ ps, H P = some (.tbl ps)
  tab : Tab H1 (P, some q)
  keep : ∀ b o, H b = some o → b ≠ P → H1 b = some o
  dom : ∀ b, H b ≠ none → H1 b ≠ none
theorem LamStep.tabs {T : List TabN} {P : Addr} {q : Str} {G H H1 : Hp} (l : LamStep P q H H1) (t : TabsOk T G H) (hu : ∀ p ∈ T, p.1 = P → p.2 = some q) : TabsOk T G H1 := fun p hp => by
  refine ⟨?_, (t p hp).2⟩
  by_cases hb : p.1 = P
  · have e : p = (P, some q) := Prod.ext hb (hu p hp hb)
    rw [e]
    exact l.tab
  · obtain ⟨ps, a1, a2, a3⟩ := (t p hp).1
    refine ⟨ps, l.keep _ _ a1 hb, a2, fun q' e pos cv hc => ?_⟩
    obtain ⟨c0, e1, e2⟩ := a3 q' e pos cv hc
    refine ⟨c0, e1, l.keep _ _ e2 fun z => ?_⟩
    obtain ⟨ps', b1⟩ := l.was
    rw [z, b1] at e2
    exact codeO_nt ps' (Option.some.inj e2).symm
section
variable {X : Cx} {pins : List (Addr × Obj)} {σ : L2.St} {H : Hp} {s : Shared}
theorem lam_made {c P : Addr} {params : Arguments} {body : Expr} {scope : Scope} {pos : Pos} {E : Value → Shared → Prop} {Q : Value → Shared → Prop} (I : Inv X pins σ H s) (TB : LamX.TabB X.base X.mg c P) (hcode : X.env.code = .ref c)
    (hT : Tab H (P, some (X.env.qual ++ "<lambda>"))) (hdef : defaultsOf params X.env = ([], [])) (hfree : ∀ y ∈ scope.names, y.2 = .free → ∃ c, X.env.cells.lookup y.1 = some c)
    (h : ∀ (f c' : Addr) (pm ctv : Value) (H1 : Hp) (s' : Shared), Inv X pins σ H1 s' → LamStep P (X.env.qual ++ "<lambda>") H H1 →
      s'.heap.get? f = some (PySem.W.kla_obj "<lambda>" (X.env.qual ++ "<lambda>") params body scope (cloFrom X.env.cells scope.names []) pm c' ctv) → H1 c' = some (CodeO c' (X.env.qual ++ "<lambda>")) → Q (.ref f) s') :
    wpAny (model X.prog X.w) X.A (eval (.Lambda params body scope pos) X.env) Q E s := by
  obtain ⟨ps, hP, ht, ha⟩ := hT
  have ha := ha _ rfl
  refine PySem.W.kla_eval hdef ?_
  have bP : s.heap.BuiltinsAt X.mg P := TB.bm.keeps I.bk
  have hP' : s.heap.get? P = some { cls := .none, data := .fields ps } := I.hok P _ hP
  cases hc : codeAmong pos ps.toList with
  | none =>
    refine PySem.W.kla_makeFunction (mg := X.mg) (c := c) (P := P) (ps := ps) (closure_ok hfree) I.ok.glob (I.mod.glob.keeps I.bk) hcode (TB.code.keeps I.bk) hP' ht hc TB.gP bP fun c' ctv h' tk hx hge hlt hrec htb => ?_
    obtain ⟨c2, oc, vs, t, e2, hoc, hd, hv⟩ := hrec
    cases e2
    have nC : H c' = none := I.hok.fresh hge
    have I1 := inv_table (t' := tk) (more := #[rawInt pos.line, rawInt pos.col, .ref c']) (h' := h'.push (PySem.W.kla_obj "<lambda>" (X.env.qual ++ "<lambda>") params body scope (cloFrom X.env.cells scope.names []) ((X.mg "__name__").getD .none) c' ctv)) I hP
      (fun b o hb e => Heap.get?_push_of_some _ (hx b o hb e)) (Heap.get?_push_of_some _ htb) hge ⟨oc, vs, t, Heap.get?_push_of_some _ hoc, hd, hv⟩
    have kp : ∀ b o, H b = some o → b ≠ P → (upd (upd H P (.tbl (ps ++ #[rawInt pos.line, rawInt pos.col, .ref c']))) c' (CodeO c' (X.env.qual ++ "<lambda>"))) b = some o := fun b o e n => by
      rw [upd_ne (ne_of_none e nC), upd_ne n]
      exact e
    have eL : (ps ++ #[rawInt pos.line, rawInt pos.col, .ref c']).toList = ps.toList ++ [rawInt pos.line, rawInt pos.col, .ref c'] := by simp
    refine h h'.objs.size c' ((X.mg "__name__").getD .none) ctv _ _ I1 ⟨⟨ps, hP⟩, ⟨_, by rw [upd_ne (ne_of_none hP nC), upd_same], by rw [eL]; exact PySem.TriplesOk_snoc _ _ _ _ ht, fun q' eq p' cv hcv => ?_⟩, kp, fun b hb => ?_⟩ (Heap.get?_push_size _ rfl) upd_same
    · obtain rfl := Option.some.inj eq
      rw [eL] at hcv
      rcases among_app _ ht hcv with z | z
      · obtain ⟨c0, e1, e2⟩ := ha p' cv z
        exact ⟨c0, e1, kp _ _ e2 (ne_of e2 hP fun z => codeO_nt _ z)⟩
      · exact ⟨c', z, upd_same⟩
    · by_cases e1 : b = c'
      · rw [e1, upd_same]; simp
      · rw [upd_ne e1]
        by_cases e2 : b = P
        · rw [e2, upd_same]; simp
        · rw [upd_ne e2]; exact hb
  | some cv =>
    obtain ⟨c', e, hco⟩ := ha pos cv hc
    subst e
    refine PySem.W.kla_makeFunctionHit (mg := X.mg) (c := c) (P := P) (ps := ps) (closure_ok hfree) I.ok.glob (I.mod.glob.keeps I.bk) hcode (TB.code.keeps I.bk) hP' ht hc bP fun ctv h' tk hx hsz => ?_
    have I1 : Inv X pins σ H { s with heap := h'.push (PySem.W.kla_obj "<lambda>" (X.env.qual ++ "<lambda>") params body scope (cloFrom X.env.cells scope.names []) ((X.mg "__name__").getD .none) c' ctv), toks := tk } := I.kept fun b o e => Heap.get?_push_of_some _ (hx b o e)
    exact h h'.objs.size c' ((X.mg "__name__").getD .none) ctv H _ I1 ⟨⟨ps, hP⟩, ⟨ps, hP, ht, fun q' eq p' cv hcv => by obtain rfl := Option.some.inj eq; exact ha p' cv hcv⟩, fun b o e _ => e, fun b e => e⟩ (Heap.get?_push_size _ rfl) hco
/-- what is behind the items: the tuple's item at i is the row -/
structure KeyItem (G : Hp) (i : Int) (u : V) (d : PyData) (r : List Int) : Prop where
  ex : ∃ (t q : Addr) (vs : List V) (j : Nat), u = .ref t ∧ SqT K0 G t vs ∧ seqIndex? i vs.length = some j ∧ vs[j]? = some (.ref q) ∧ SqT K0 G q (r.map .int)
theorem keyItem_of {G : Hp} {i : Int} {u : V} {xs : List PyData} {r : List Int} (h : Dp K0 G u (.tuple xs)) (e : atI xs i = some (encR r)) : KeyItem G i u (.tuple xs) r := by
  obtain ⟨t, vs, rfl, h1, h2⟩ := dpi_tup h
  obtain ⟨j, a1, a2, a3, a4, a5⟩ := atI_get e
  obtain ⟨v, e1, e2⟩ := h2.get a2
  obtain ⟨q, ws, rfl, g1, g2⟩ := dpi_tup e2
  rw [g2.ints] at g1
  exact ⟨t, q, vs, j, rfl, h1, by rw [h2.length]; exact a1, e1, g1⟩
theorem each_zip {G : Hp} {β : Type} {enc : β → PyData} : ∀ {us : List V} {its : List Value} {bs : List β}, Vals us its → DpAll K0 G us (bs.map enc) → PySem.W.EachIs (fun v (p : V × β) => RelV p.1 v ∧ Dp K0 G p.1 (enc p.2)) its (us.zip bs)
  | _, _, [], .nil, _ => .nil
  | _, _, b :: bs, .cons r t, .cons h1 h2 => .cons ⟨r, h1⟩ (each_zip t h2)
theorem each_out {G : Hp} {β : Type} {enc : β → PyData} : ∀ {out : List Value} {ps : List (V × β)}, PySem.W.EachIs (fun v (p : V × β) => RelV p.1 v ∧ Dp K0 G p.1 (enc p.2)) out ps → Vals (ps.map (·.1)) out ∧ DpAll K0 G (ps.map (·.1)) ((ps.map (·.2)).map enc)
  | _, _, .nil => ⟨.nil, .nil⟩
  | _, _, .cons h t => ⟨.cons h.1 (each_out t).1, .cons h.2 (each_out t).2⟩
theorem zip_snd {α β : Type} : ∀ {us : List α} {bs : List β}, us.length = bs.length → (us.zip bs).map (·.2) = bs
  | [], [], _ => rfl
  | u :: us, b :: bs, h => by
    rw [List.zip_cons_cons, List.map_cons, zip_snd (by simpa using h)]
def rkLe {β : Type} (row : β → List Int) (a b : β) : Bool := !lessM (row b) (row a)
section
variable {X : Cx}
theorem dataLe_rk {α : Type} (row : α → List Int) (a b : α) : PySem.W.dataLe false (fun x => rk (row x)) a b = rkLe row a b := by
  have e : PySem.W.dataLe false (fun x => rk (row x)) a b = !PySem.W.dataLt (rk (row b)) (rk (row a)) := rfl
  rw [e, lt_rk]
  rfl
theorem pe_sortedKey {β : Type} {a : Expr} {ta : TE} {c P : Addr} {x : Str} {i : Int} {k k1 k2 kk : Nat} {p1 p2 p3 p4 p5 p6 p7 p8 p9 pz pos kpos lpos : Pos} {params : Arguments} {scope : Scope} (bs : List β) (enc : β → PyData) (row : β → List Int)
    (henc : ∀ b ∈ bs, ∃ xs, enc b = .tuple xs ∧ atI xs i = some (encR (row b)) ∧ xs.length ≤ 1000) (hr : Room k X.A) (hg : Gl X ("sorted" : Str)) (hm : X.mg ("sorted" : Str) = none) (hml : X.mg ("len" : Str) = none) (ha : PE X a ta) (TB : LamX.TabB X.base X.mg c P) (hcode : X.env.code = .ref c)
    (S : KeyS scope x) (hfree : ∀ y ∈ scope.names, y.2 ≠ .free) (hdef : defaultsOf params X.env = ([], [])) (hlo : -(2 ^ 63) ≤ i) (hhi : i < 2 ^ 63) (hdx : (x == ("__debug__" : Str)) = false)
    (hbind : ∀ (q : Str) (cl : List (Str × Addr)) (pm cv ctv v : Value), bindArgs (PySem.W.kla_fn "<lambda>" q params (keyE x i k1 k2 kk p1 p2 p3 p4 p5 p6 p7 p8 p9) scope cl pm cv ctv) ⟨[v], []⟩ = pure [(x, v)])
    (hbt : bootBuiltins "sorted" = some (.builtin "sorted"))
    (he : backTo pos (starEach [a] X.env) = (false, eval a X.env) :: backTo pos (starEach [] X.env)) (hpl : (backTo pos (starEach [a] X.env)).any (·.1) = false) :
    PE X (.Call (.Name "sorted" pz) [a] [⟨some "key", .Lambda params (keyE x i k1 k2 kk p1 p2 p3 p4 p5 p6 p7 p8 p9) scope lpos, kpos⟩] pos) (fun σ H Q => ta σ H fun v H1 => ∃ (l : Addr) (us : List V) (G1 : Hp), v = .ref l ∧ Ex G1 H1 ∧ SqL K0 G1 l us ∧ DpAll K0 G1 us (bs.map enc) ∧
      Tab H1 (P, some (X.env.qual ++ "<lambda>")) ∧ ∀ H2, LamStep P (X.env.qual ++ "<lambda>") H1 H2 → Ex G1 H2 ∧ ∀ out p, DpAll K0 G1 out ((bs.mergeSort (rkLe row)).map enc) → H2 p = none → Q (.ref p) (upd H2 p (.lst out))) := by
  refine ⟨fun pins s σ H Q I h => ?_⟩
  refine wpAny_Call_Name_kw (ld_blt I hg hm hbt ?_)
  refine PyProof.Rows.callWith_kw ?_ he hpl rfl rfl
  rw [he]
  refine Calls.spliced_cons (thn (ha.run pins s σ H _ I h) fun v s1 ⟨y, H1, I1, r1, q1⟩ => Calls.spliced_nil ?_)
  obtain ⟨l, us, G1, rfl, eG, hl, hd, ht, q⟩ := q1
  cases r1
  show wpAny _ _ (evalAll [(do let v ← eval (.Lambda params (keyE x i k1 k2 kk p1 p2 p3 p4 p5 p6 p7 p8 p9) scope lpos) X.env; standAt pos; pure v)]) _ _ _
  refine wpAny_evalAll_cons (wpAny_bind (lam_made I1 TB hcode ht hdef (fun y hy e => absurd e (hfree y hy)) fun f c' pm ctv H2 s2 I2 l2 hf hc => wpAny_bind (wpAny_standAt (wpAny_pure (wpAny_evalAll_nil ?_)))))
  obtain ⟨eG2, q⟩ := q H2 l2
  obtain ⟨its, rv, hli, hz⟩ := I2.list (l_of (K := X.K) (ex_l eG2 hl))
  have hlen : us.length = bs.length := by rw [hd.length, List.length_map]
  obtain ⟨⟨oc, vs0, t0, hoc, hdc, hvc⟩, _, _⟩ := I2.hok c' _ hc
  show wpAny _ _ (call (.builtin "sorted") [.ref l] [(Str.ofString "key", .ref f)]) _ _ _
  have alk : ∀ z, z ∈ (us.zip bs).map (fun p => rk (row p.2)) → ∃ r, z = rk r := fun z hz => by
    obtain ⟨p, _, rfl⟩ := List.mem_map.mp hz
    exact ⟨_, rfl⟩
  refine PySem.W.sorted_key_data (b := false) (fun p : V × β => rk (row p.2)) hli.isList (each_zip rv hd) (fun d h1 d' h2 => ?_) (.inl fun d h1 => ?_) (by rw [List.length_zip, hlen, Nat.min_self, ← hlen]; exact hz) (fun p _ => ?_) (PyProof.Rows.ksk_s1 _ _) (fun _ => PyProof.Rows.ksk_l1 _ _) (fun _ => PyProof.Rows.ksk_t1 _ _)
    (fun v p hR hp h' tk kp => ?_) fun out ep h' tk kp hfr hD hol hO => ?_
  · obtain ⟨r, rfl⟩ := alk d h1
    obtain ⟨r', rfl⟩ := alk d' h2
    exact alike_rk r r'
  · obtain ⟨r, rfl⟩ := alk d h1
    exact ⟨_, _, rfl⟩
  · have h1 := depth_rk (row p.2)
    have h2 := hr.un
    omega
  · obtain ⟨xs, e1, e2, e3⟩ := henc p.2 (List.of_mem_zip hp).2
    obtain ⟨hrel, hdp⟩ := hR
    rw [e1] at hdp
    obtain ⟨t, q0, vs, j, eu, g1, g2, g3, g4⟩ := (keyItem_of hdp e2).ex
    rw [eu] at hrel
    cases hrel
    obtain ⟨its1, r1, p1', z1⟩ := I2.tuple (t_of (K := X.K) (ex_t eG2 g1))
    obtain ⟨its2, r2, p2', z2⟩ := I2.tuple (t_of (K := X.K) (ex_t eG2 g4))
    obtain ⟨w, hw, rw1⟩ := r1.get g3
    cases rw1
    have hl1 := r1.length
    have hl2 := r2.length
    exact call_key (x := x) I2.mod hml (fun b o e => kp b o (I2.bk b o e)) S (by have := hr.dp; show X.A.depth < _; omega) (kp _ _ hf) ⟨c', oc, vs0, t0, rfl, kp _ _ hoc, hdc, hvc⟩ (hbind _ _ _ _ _ _) (p1'.keeps kp) hlo hhi (by rw [List.size_toArray, ← hl1]; exact g2) (by simpa using hw) (p2'.keeps kp) r2.ints
      (by rw [← hl2]; exact Nat.lt_of_le_of_lt z2 (by decide)) hdx (I2.nolimit.keeps kp)
  · obtain ⟨v1, d1⟩ := each_out hO
    have em : ((us.zip bs).mergeSort (PySem.W.dataLe false fun p : V × β => rk (row p.2))).map (·.2) = bs.mergeSort (rkLe row) := by
      rw [List.map_mergeSort (s := rkLe row) (fun a _ b _ => dataLe_rk (fun p : V × β => row p.2) a b), zip_snd hlen]
    rw [em] at d1
    refine ⟨.ref _, upd H2 (s2.heap.objs.size + 1) (.lst _), I2.laid (t' := tk) (fun b o e => kp b o e) (Nat.le_succ _) ⟨?_, out, ep, v1, hD⟩, rfl, q _ _ d1 (I2.hok.fresh (Nat.le_succ _))⟩
    rw [v1.length, hol, List.length_zip, hlen, Nat.min_self, ← hlen]
    exact hz
end
end
section
variable {X : Cx} {B : Bd} {δ : List SD}
/-- sorted(xs, key=lambda x: (len(x[i]), x[i])) -/
theorem ev_sortedKey {β : Type} {a : Expr} {c P : Addr} {x : Str} {i : Int} {k k1 k2 kk : Nat} {p1 p2 p3 p4 p5 p6 p7 p8 p9 pz pos kpos lpos : Pos} {params : Arguments} {scope : Scope} (bs : List β) (enc : β → PyData) (row : β → List Int)
    (ha : Ev X B δ a (.list (bs.map enc))) (henc : ∀ b ∈ bs, ∃ xs, enc b = .tuple xs ∧ atI xs i = some (encR (row b)) ∧ xs.length ≤ 1000) (hr : Room k X.A) (hm : X.mg ("sorted" : Str) = none) (hml : X.mg ("len" : Str) = none) (TB : LamX.TabB X.base X.mg c P) (hcode : X.env.code = .ref c)
    (hP : (P, some (X.env.qual ++ "<lambda>")) ∈ B.T) (hu : ∀ p ∈ B.T, p.1 = P → p.2 = some (X.env.qual ++ "<lambda>"))
    (S : KeyS scope x) (hfree : ∀ y ∈ scope.names, y.2 ≠ .free) (hdef : defaultsOf params X.env = ([], []))
    (hbind : ∀ (q : Str) (cl : List (Str × Addr)) (pm cv ctv v : Value), bindArgs (PySem.W.kla_fn "<lambda>" q params (keyE x i k1 k2 kk p1 p2 p3 p4 p5 p6 p7 p8 p9) scope cl pm cv ctv) ⟨[v], []⟩ = pure [(x, v)])
    (hdx : (x == ("__debug__" : Str)) = false := by decide) (hlo : -(2 ^ 63) ≤ i := by decide) (hhi : i < 2 ^ 63 := by decide) (hg : Gl X ("sorted" : Str) := by rfl) (hbt : bootBuiltins "sorted" = some (.builtin "sorted") := by decide +kernel)
    (he : backTo pos (starEach [a] X.env) = (false, eval a X.env) :: backTo pos (starEach [] X.env) := by rfl) (hpl : (backTo pos (starEach [a] X.env)).any (·.1) = false := by rfl) :
    Ev X B δ (.Call (.Name "sorted" pz) [a] [⟨some "key", .Lambda params (keyE x i k1 k2 kk p1 p2 p3 p4 p5 p6 p7 p8 p9) scope lpos, kpos⟩] pos) (.list ((bs.mergeSort (rkLe row)).map enc)) :=
  ev_of (pe_sortedKey bs enc row henc hr hg hm hml pe_sem TB hcode S hfree hdef hlo hhi hdx hbind hbt he hpl) fun σ G H s Q q => ha σ G H s _ fun v G1 H1 g1 d1 => by
    obtain ⟨l, us, rfl, h1, h2⟩ := dpi_lst d1
    refine ⟨l, us, G1, rfl, g1.gh, h1, h2, (g1.t _ hP).1, fun H2 l2 => ?_⟩
    have t2 : TabsOk B.T G1 H2 := l2.tabs g1.t hu
    have gP : G1 P = none := (g1.t _ hP).2
    have e2 : Ex G1 H2 := fun b o e => l2.keep b o (g1.gh b o e) fun z => by rw [z, gP] at e; cases e
    have g2 : Grow B.T m0 G1 H1 G1 H2 := ⟨Ex.refl G1, e2, fun b o e nt _ => l2.keep b o e fun z => by
      obtain ⟨ps, hps⟩ := l2.was
      rw [z, hps] at e
      exact nt ps (Option.some.inj e).symm, t2, fun b _ e => e, l2.dom⟩
    refine ⟨e2, fun out p hd hp => ?_⟩
    have g3 : Grow B.T m0 G1 H2 (upd G1 p (.lst out)) (upd H2 p (.lst out)) := Grow.laid e2 t2 hp
    exact q _ _ _ ((g1.trans g2).trans g3) (.lst (SqL.of upd_same) (hd.mono g3.g))
end
end CR

set_option Elab.async false
set_option linter.all false
set_option maxRecDepth 100000
set_option maxHeartbeats 4000000
/-! # any, all of a generator expression whose element is any expression -/
namespace CR
open PySem L2 Evl PyProof.Rows GenW
/-- the generator expression's frame -/
abbrev gxEnv (X : Cx) (scope : Scope) (C : Addr) (code : Value) : Env := genEnv scope (cloFrom X.env.cells scope.names []) C code builtinsNs X.env
/-- its context -/
def gxCx (X : Cx) (s : Shared) (H : Hp) (cenv : Env) (fp : List Addr) (pn : List (Addr × Obj)) : Cx where
  prog := X.prog
  w := X.w
  K := X.K
  mg := X.mg
  base := X.base
  A := X.A.in1.in1.deeper cenv
  N := X.N
  s_0 := s
  H_0 := H
  env := cenv
  outer := X.stack
  stack := cenv :: X.stack
  ex := fp
  fn := fun _ => false
  calm := true
  pn := pn
  xe := fun _ _ => False
theorem over_gen {A : Around} {elt tg iter : Expr} {ifs : List Expr} {scope : Scope} {pos : Pos} {it acc : Value} {env : Env} : A.over (.compLoop (.GeneratorExp elt [⟨tg, iter, ifs, 0⟩] scope pos) 0 it acc env) [] = A.deeper env := by
  first
    | rfl
    | (obtain ⟨hd, d, fr, gs, u⟩ := A; simp [Around.over, Around.deeper, marksOver, frameCount, unitsOf, envsOf, guardsOf, pushEnvs, pushGuards, Code.envs, Code.env?, Code.isFrame, Code.guards, Code.isGuard, Code.weight, Code.frames, Code.isCreation, Code.isCaller, Code.cUnits])
structure GxS (N : List Str) (sc scope : Scope) (own : List (Str × Nat)) : Prop where
  blk : BlkOk N sc scope own
  co : scope.isCoroutine = false
  cell : ∀ y ∈ scope.names, y.2 ≠ .cell
  dot : scope.names.lookup (".0" : Str) = some NameKind.local
section
variable {X : Cx} {pins : List (Addr × Obj)} {σ : L2.St} {H : Hp} {s : Shared}
theorem gx_start {scope : Scope} {own : List (Str × Nat)} {fp : List Addr} {code it : Value} {h1 : Heap} {go : Obj} {gs : GenState} {tk : Nat} (I : Inv X pins σ H s) (S : GxS X.N X.env.scope scope own) (hN : X.N.Nodup) (hfp : ∀ b ∈ fp, FpOk X pins H b ∧ b < s.heap.objs.size)
    (hh : X.A.handled = none) (hgb : gs.bare = true) (hgo : ∀ v, go.data ≠ .cell v) (hfd : go.isFreed = false) (hns : h1.Ns s.heap.objs.size (fun y => if y = (".0" : Str) then some it else none))
    (hsb : Heap.SameBut s.heap.objs.size (s.heap.push { cls := .type "frame", data := .dict #[] }) h1) :
    Inv (gxCx X s H (gxEnv X scope s.heap.objs.size code) fp [(h1.objs.size, go)]) [] (wipe σ (own.map (·.2))) H { s with gens := s.gens.push gs, toks := tk, heap := h1.push go } := by
  have ok := S.blk
  have hfree : ∀ y ∈ scope.names, y.2 = .free → ∃ c, X.env.cells.lookup y.1 = some c := fun y hy e => by
    rcases ok.free y hy e with k | k
    · exact I.ok.has _ (.inl k)
    · exact I.ok.has _ (.inr k)
  have kp : ∀ b o, s.heap.get? b = some o → (h1.push go).get? b = some o := fun b o e => Heap.get?_push_of_some _ (hsb.extBut b o (Nat.ne_of_lt (Heap.lt_size e)) (Heap.get?_push_of_some _ e))
  have hsz : h1.objs.size = s.heap.objs.size + 1 := by rw [hsb.1, Heap.size_push]
  have cm : ∀ {y c}, (cloFrom X.env.cells scope.names []).lookup y = some c → X.env.cells.lookup y = some c := fun {y c} e => by
    rcases cloFrom_mem (PySem.mem_of_lookup e) with hm | ⟨h1, h2⟩
    · cases hm
    · obtain ⟨c1, hc⟩ := hfree _ h1 rfl
      have hc : X.env.cells.lookup y = some c1 := hc
      have e2 : c = c1 := by
        rw [h2, hc] <;> rfl
      rw [e2]
      exact hc
  have look : ∀ {y}, scope.names.lookup y = some .free → ∃ c, (cloFrom X.env.cells scope.names []).lookup y = some c := fun {y} hl => by
    have hy : (y, NameKind.free) ∈ scope.names := PySem.mem_of_lookup hl
    exact mem_lookup (cloFrom_has (cells := X.env.cells) (acc := []) hy)
  have clt : ∀ {y c}, X.env.cells.lookup y = some c → c < s.heap.objs.size := fun {y c} e => by
    obtain ⟨v, z⟩ := I.cell y c e
    exact z.lt
  have frOf : ∀ b, s.heap.objs.size ≤ b → b ∉ frs X.stack := fun b hb z => by
    rcases List.mem_cons.mp (I.stkSub _ z) with e | e
    · have h1 := I.lt
      rw [← e] at h1
      exact Nat.lt_irrefl _ (Nat.lt_of_lt_of_le h1 hb)
    · exact I.nofs hb e
  have okG : (gxCx X s H (gxEnv X scope s.heap.objs.size code) fp [(h1.objs.size, go)]).Ok := by
    refine ⟨I.ok.mod, ok.kind, I.ok.glob, rfl, Nat.le_refl _, fun y z c e1 e2 => I.ok.inj y z c (cm e1) (cm e2), fun y hy => ?_, fun y c z _ => ?_, fun _ => hh, Around.frames_deeper (by show X.A.frames = _; exact I.ok.frames), .inr ⟨rfl, rfl⟩, fun b hb => ⟨?_, fun y c e z => ?_⟩, I.bs, Nat.le_trans I.ok.bsz I.sz, fun b o e hb => ?_, fun b hb z => ?_, I.stack, I.stkFree⟩
    · have hy : scope.names.lookup y = some .cell ∨ scope.names.lookup y = some .free := hy
      rcases hy with hy | hy
      · exact absurd rfl (S.cell _ (PySem.mem_of_lookup hy))
      · exact look hy
    · have z : false = true := z
      cases z
    · exact Nat.ne_of_lt (hfp b hb).2
    · exact (hfp b hb).1.2.2.2.2.1 y c (cm e) z
    · rcases (hfp b hb).1.2.2.2.1 with z | z
      · exact I.ok.noex b o e z
      · exact absurd (Nat.lt_of_lt_of_le (Heap.lt_size e) (Nat.le_trans I.ok.bsz z)) (Nat.lt_irrefl _)
    · rcases List.mem_cons.mp (I.stkSub b z) with z | z
      · exact (hfp b hb).1.2.1 z
      · exact (hfp b hb).1.2.2.1 z
  refine ⟨okG, rfl, I.bare.push hgb, Un.kept kp, ⟨_, hns.push _, fun i y av e1 e2 e3 => ?_⟩, fun y c e => ?_, I.hok.fresh (Nat.le_refl _), fun y c e => I.freeC y c (cm e), fun p hp => ?_, I.hok.kept kp, by rw [wipe_length]; exact I.len⟩
  · obtain ⟨e2, hne⟩ := wipe_some e2
    have e3 : Vis scope y := e3
    have e1 : X.N[i]? = some y := e1
    have no : ∀ k, scope.names.lookup y = some k → ¬ (k = .local ∨ k = .cell) := fun k hk hh => by
      rcases ok.own _ (PySem.mem_of_lookup hk) hh with e' | e'
      · obtain ⟨p, hp, hpy⟩ := List.mem_map.mp e'
        have e3 := ok.ix p hp
        have : p.1 = y := hpy
        rw [this] at e3
        exact hne (List.mem_map.mpr ⟨p, hp, nodup_ix hN e3 e1⟩)
      · exact e' (List.mem_of_getElem? e1)
    rcases e3 with k | k | k
    · exact absurd (.inl rfl) (no _ k)
    · exact absurd (.inr rfl) (no _ k)
    · obtain ⟨m, hn, hl⟩ := I.loc
      have hvis : Vis X.env.scope y := (ok.free _ (PySem.mem_of_lookup k) rfl).elim (fun k => .inr (.inl k)) (fun k => .inr (.inr k))
      obtain ⟨w', r, q⟩ := hl i y av e1 e2 hvis
      obtain ⟨c2, h2⟩ := look k
      refine ⟨w', r, .inr ⟨.inr k, c2, h2, ?_⟩⟩
      have c1 := cm h2
      rcases q with ⟨k', _⟩ | ⟨_, c3, e', z⟩
      · have k' : X.env.scope.names.lookup y = some .local := k'
        rcases ok.free _ (PySem.mem_of_lookup k) rfl with k2 | k2 <;> rw [show X.env.scope.names.lookup y = _ from k2] at k' <;> cases k'
      · rw [c1] at e'
        cases e'
        exact z.keeps kp
  · obtain ⟨w', z⟩ := I.cell y c (cm e)
    exact ⟨w', z.keeps kp⟩
  · have e : p = (h1.objs.size, go) := by
      have z : p ∈ ([(h1.objs.size, go)] : List (Addr × Obj)) ++ [] := hp
      simpa using z
    subst e
    refine ⟨Heap.get?_push_size _ hfd, I.hok.fresh (by rw [hsz]; exact Nat.le_succ _), ?_, frOf _ (by rw [hsz]; exact Nat.le_succ _), hgo⟩
    show h1.objs.size ≠ s.heap.objs.size
    rw [hsz]
    exact Nat.succ_ne_self _

/-- where the walk stands -/
structure GxAt (Y : Cx) (σw : L2.St) (fp : List Addr) (tn : Nat → Heap → Prop) (i : Nat) (H : Hp) (s : Shared) : Prop where
  inv : Inv Y [] σw H s
  tn : tn i s.heap
  fp : ∀ b ∈ fp, H b = none
theorem GxAt.gens {Y : Cx} {σw : L2.St} {fp : List Addr} {tn : Nat → Heap → Prop} {i : Nat} {s s2 : Shared} (h : GxAt Y σw fp tn i H s) (e1 : s2.heap = s.heap) (e2 : s2.os = s.os) (hb : AllBare s2.gens) : GxAt Y σw fp tn i H s2 :=
  ⟨⟨h.inv.ok, by rw [e2]; exact h.inv.os, hb, by rw [e1]; exact h.inv.base, by rw [e1]; exact h.inv.loc, by rw [e1]; exact h.inv.cell, h.inv.free, h.inv.freeC, by rw [e1]; exact h.inv.pin, by rw [e1]; exact h.inv.hok, h.inv.len⟩, by rw [e1]; exact h.tn, h.fp⟩
/-- the generator's ends and yields -/
def gxR (Y : Cx) (σw : L2.St) (Fi : Hp → Prop) : GenEnd := fun n s₀ r s₁ =>
  ((r = .ok (.ret .none) ∨ r = .ok .next) ∧ ∃ H, Inv Y [] σw H s₁ ∧ Fi H) ∨ ∃ e, r = .error e ∧ False
def gxY (Y : Cx) (σw : L2.St) (fp : List Addr) (tn : Nat → Heap → Prop) (st : Bool) (Tr : Hp → Prop) : Protocol := fun m s₀ v s₁ kap =>
  ∃ (b : Bool) (i : Nat) (H : Hp), v = .bool b ∧ GxAt Y σw fp tn i H s₁ ∧ (b = st → Tr H) ∧ (b ≠ st → ∀ s2 : Shared, s2.heap = s₁.heap → s2.os = s₁.os → AllBare s2.gens → kap (.send .none) s2)
/-- a turn's promise -/
def gxTurn (J : It) (W : Nat → Nat → Hp → Prop) (σw : L2.St) (vs : List Nat) (g : TG) (te : TE) (st : Bool) (Fi Tr : Hp → Prop) : Prop := ∀ i m H, W i m H →
  (J.stop i H ∧ Fi H) ∨ (J.go i H ∧ ∃ Nx : Hp → Prop, (∀ H', Nx H' → ∃ m', m' < m ∧ W (i + 1) m' H') ∧ ∀ x H', J.yld i H x H' → g x σw H' fun σ2 H2 => wipe σ2 vs = σw ∧
    te σ2 H2 fun y H3 => ∃ b, y = .bl b ∧ (b = st → Tr H3) ∧ (b ≠ st → Nx H3))
theorem gx_loop {elt tg iter : Expr} {scope : Scope} {pos : Pos} {it : Addr} {cenv : Env} {fp : List Addr} {pn : List (Addr × Obj)} {tn : Nat → Heap → Prop} {J : It} {W : Nat → Nat → Hp → Prop} {vs : List Nat} {g : TG} {te : TE} {st : Bool} {Fi Tr : Hp → Prop} {s4 : Shared} {H4 : Hp}
    (hco : cenv.scope.isCoroutine = false) (T : Turn X.prog X.w X.K tg J fp it tn) (hpn : ∀ b ∈ fp, ∀ p ∈ pn, p.1 ≠ b) (pg : PG (gxCx X s4 H4 cenv fp pn) tg g) (pe : PE (gxCx X s4 H4 cenv fp pn) elt te) (turn : gxTurn J W (wipe σ vs) vs g te st Fi Tr) :
    ∀ (n m i : Nat) (H : Hp) (s₀ s : Shared), m < n → W i m H → GxAt (gxCx X s4 H4 cenv fp pn) (wipe σ vs) fp tn i H s →
      Seg (model X.prog X.w) X.A.in1.in1 (gxR (gxCx X s4 H4 cenv fp pn) (wipe σ vs) Fi) (gxY (gxCx X s4 H4 cenv fp pn) (wipe σ vs) fp tn st Tr) n s₀
        (.compLoop (.GeneratorExp elt [⟨tg, iter, [], 0⟩] scope pos) 0 (.ref it) .none cenv)
        ((model X.prog X.w).den (.compLoop (.GeneratorExp elt [⟨tg, iter, [], 0⟩] scope pos) 0 (.ref it) .none cenv)) [] s := by
  have stat : ∀ {σ' : L2.St} {H' : Hp} {s' : Shared}, Inv (gxCx X s4 H4 cenv fp pn) [] σ' H' s' → (∀ b ∈ fp, H' b = none) → ∀ b ∈ fp, FpOk (gxCx X s4 H4 cenv fp pn) [] H' b := fun {σ' H' s'} I' hn b hb =>
    ⟨hn b hb, (I'.ok.exf b hb).1, I'.ok.exfs b hb, .inl hb, fun x c e => (I'.ok.exf b hb).2 x c e, fun p hp => hpn b hb p (by simpa using (show p ∈ pn ++ [] from hp))⟩
  intro n
  induction n with
  | zero => intro m i H s₀ s hm; exact absurd hm (Nat.not_lt_zero _)
  | succ n ih =>
    intro m i H s₀ s hm hw hat
    show Seg _ X.A.in1.in1 _ _ _ s₀ _ ((compTurn (.GeneratorExp elt [⟨tg, iter, [], 0⟩] scope pos) 0 (.ref it) .none cenv).onRaise (leaving cenv)) [] s
    rw [compTurn_gen, Sem.onRaise_eq_wrap]
    refine seg_bind_wrap (wpAny_standAt ?_)
    rcases turn i m H hw with ⟨stop, qf⟩ | ⟨go, Nx, hNx, step⟩
    · refine seg_bind_wrap ?_
      rw [over_gen]
      refine thnF (T.done (gxCx X s4 H4 cenv fp pn) rfl rfl rfl rfl i [] s _ H (fun _ _ => False) hat.inv (stat hat.inv hat.fp) hat.tn stop) fun r s1 ⟨hr, I1⟩ => ?_
      subst hr
      exact seg_end (.ok .next) (.inl ⟨.inr rfl, H, I1, qf⟩)
    · refine seg_bind_wrap ?_
      rw [over_gen]
      refine thnF (T.item (gxCx X s4 H4 cenv fp pn) rfl rfl rfl rfl i [] s _ H (fun _ _ => False) hat.inv (stat hat.inv hat.fp) hat.tn go) fun r s1 ⟨u, hr, h1⟩ => ?_
      subst hr
      refine seg_bind_wrap ?_
      rw [over_gen]
      refine thnF h1 fun _ s2 ⟨x, H2, I2, r2, y2, st2, n2⟩ => ?_
      have I2' := I2.pinned (stat I2 n2) (T.obj _ _ st2)
      refine seg_bind_wrap ?_
      rw [over_gen]
      refine thnF (pg.run _ s2 _ H2 x u _ I2' r2 (step x H2 y2)) fun _ s3 ⟨σ3, H3, I3, hw3, q3⟩ => ?_
      refine seg_bind_wrap ?_
      rw [over_gen]
      refine thnF ((pts_nil (X := gxCx X s4 H4 cenv fp pn)).run _ s3 σ3 H3 (fun b H' => b = true ∧ te σ3 H' fun y H3 => ∃ b, y = .bl b ∧ (b = st → Tr H3) ∧ (b ≠ st → Nx H3)) I3 ⟨rfl, q3⟩) fun ok s5 ⟨H5, I5, hok, q5⟩ => ?_
      subst hok
      simp only [if_true]
      have hy : ∀ v, yieldOut cenv v = yieldValue v := fun v => by simp only [yieldOut, hco, Bool.false_eq_true, if_false]
      simp only [hy]
      rw [Sem.bind_eq_wrap', Sem.bind_eq_wrap', Sem.wrap_wrap, Sem.wrap_wrap]
      refine seg_wrap ?_
      rw [over_gen]
      refine thnF (pe.run _ s5 σ3 H5 _ I5 q5) fun z s6 ⟨yv, H6, I6, r6, b, eb, h1, h2⟩ => ?_
      subst eb
      obtain rfl : z = Value.bool b := r6
      have at6 : GxAt (gxCx X s4 H4 cenv fp pn) (wipe σ vs) fp tn (i + 1) H6 s6 := by
        have pin' : ∀ b ∈ fp, ∀ o, s2.heap.get? b = some o → s6.heap.get? b = some o ∧ H6 b = none := fun b hb o e =>
          let z := I6.pin (b, o) (List.mem_append_right _ (List.mem_append_right _ (mem_pinsAt hb e)))
          ⟨z.1, z.2.1⟩
        have hl : (wipe σ vs).length = σ3.length := by rw [← hw3, wipe_length]
        refine ⟨(I6.unpinned (pins := [])).weak hl (fun j v e => ?_), T.keep _ _ _ st2 fun b hb o e => (pin' b hb o e).1, fun b hb => ?_⟩
        · rw [← hw3] at e
          exact (wipe_some e).1
        · obtain ⟨o, e, _⟩ := T.obj _ _ st2 b hb
          exact (pin' b hb o e).2
      refine seg_at (seg_yield rfl rfl rfl ⟨b, i + 1, H6, rfl, at6, h1, fun hb s7 e1 e2 e3 => ?_⟩)
      obtain ⟨m', hm', w'⟩ := hNx H6 (h2 hb)
      exact seg_again rfl (ih m' (i + 1) H6 s7 s7 (by omega) w' (at6.gens e1 e2 e3))
theorem gx_begin {elt tg iter : Expr} {scope : Scope} {pos : Pos} {it : Addr} {cenv : Env} {fp : List Addr} {tn : Nat → Heap → Prop} {J : It} {n i : Nat} {R : GenEnd} {Y : Protocol} {s₀ : Shared} (T : Turn X.prog X.w X.K tg J fp it tn) (ht : tn i s.heap)
    (loop : Seg (model X.prog X.w) X.A.in1.in1 R Y n s₀ (.compLoop (.GeneratorExp elt [⟨tg, iter, [], 0⟩] scope pos) 0 (.ref it) .none cenv) ((model X.prog X.w).den (.compLoop (.GeneratorExp elt [⟨tg, iter, [], 0⟩] scope pos) 0 (.ref it) .none cenv)) [] s) :
    Seg (model X.prog X.w) X.A.in1.in1 R Y n s₀ (.compStart (.GeneratorExp elt [⟨tg, iter, [], 0⟩] scope pos) 0 (.ref it) .none cenv) ((model X.prog X.w).den (.compStart (.GeneratorExp elt [⟨tg, iter, [], 0⟩] scope pos) 0 (.ref it) .none cenv)) [] s := by
  show Seg _ X.A.in1.in1 _ _ _ s₀ _ ((compStart (.GeneratorExp elt [⟨tg, iter, [], 0⟩] scope pos) 0 (.ref it) .none cenv).onRaise (leaving cenv)) [] s
  unfold compStart
  rw [Sem.onRaise_eq_wrap]
  show Seg _ X.A.in1.in1 _ _ _ s₀ _ ((ask >>= _).wrap _ _ _ _) [] s
  refine seg_bind_wrap (wpAny_askSetting ?_)
  split
  · exact seg_again rfl loop
  · first
      | exact seg_bind_wrap (wpAny_rule (seg_bind_wrap (wpAny_standAt (seg_bind_wrap (T.self _ i s _ _ ht (seg_again rfl loop))))))
      | (refine seg_bind_wrap (wpAny_rule ?_); show Seg _ X.A.in1.in1 _ _ _ s₀ _ ((standAt iter.pos >>= _).wrap _ _ _ _) [] s; exact seg_bind_wrap (wpAny_standAt (seg_bind_wrap (T.self _ i s _ _ ht (seg_again rfl loop)))))
/-- all's loop -/
theorem gx_all {A : Around} {Y : Cx} {σw : L2.St} {fp : List Addr} {tn : Nat → Heap → Prop} {a : Addr} {g : Nat} {Fi Tr : Hp → Prop} {R : Result → Shared → Prop} (hh : A.handled = none) (hd : A.depth < recursionLimit) (hgen : ∀ {H : Hp} {s : Shared}, Inv Y [] σw H s → s.heap.IsGen a g)
    (hfi : ∀ s' H tk, Inv Y [] σw H s' → Fi H → R (.ok (.ret (.bool true))) { s' with toks := tk }) (htr : ∀ s' H tk, Inv Y [] σw H s' → Tr H → R (.ok (.ret (.bool false))) { s' with toks := tk }) :
    ∀ (n : Nat) (s : Shared), s.heap.IsGen a g → s.heap.NoLimit → (∃ gs, s.gens[g]? = some gs ∧ gs.Goes (model Y.prog Y.w) A.in1.in1 (gxR Y σw Fi) (gxY Y σw fp tn false Tr) n (.send .none) (s.setGen g .running)) →
      codeAny (model Y.prog Y.w) A (.builtin "all.loop" ⟨[.ref a], []⟩) R s := by
  have goes : ∀ {gs : GenState} {n : Nat} {r : Resume} {s : Shared}, gs.Goes (model Y.prog Y.w) A.in1.in1 (gxR Y σw Fi) (gxY Y σw fp tn false Tr) n r s →
      gs.Goes (model Y.prog Y.w) A.in1.in1 (fun n s₀ r s1 => ((r = .ok (.ret .none) ∨ r = .ok .next) ∧ (fun _ _ s1 => ∃ H, Inv Y [] σw H s1 ∧ Fi H) n s₀ s1) ∨ ∃ e, r = .error e ∧ (fun _ _ => False) e s1) (gxY Y σw fp tn false Tr) n r s := fun h => h
  have invG : ∀ {H : Hp} {s s2 : Shared}, Inv Y [] σw H s → s2.heap = s.heap → s2.os = s.os → AllBare s2.gens → Inv Y [] σw H s2 := fun {H s s2} h e1 e2 hb =>
    ⟨h.ok, by rw [e2]; exact h.os, hb, by rw [e1]; exact h.base, by rw [e1]; exact h.loc, by rw [e1]; exact h.cell, h.free, h.freeC, by rw [e1]; exact h.pin, by rw [e1]; exact h.hok, h.len⟩
  intro n
  induction n with
  | zero =>
    intro s hg hl ⟨gs, hgs, hgo⟩
    refine codeAny_builtin F.entry_all_loop ?_
    rw [Around.under_plainId F.plain_all_loop _]
    show wpAny _ A.in1 (pyNext (.ref a) >>= _) _ _ s
    refine wpAny_bind (next_genG (A := A.in1) (F := fun _ _ s1 => ∃ H, Inv Y [] σw H s1 ∧ Fi H) (Er := fun _ _ => False) hh hl hd hg hgs (goes hgo) (fun v s₁ gs' hbare hv => ?_) (fun s₁ hp h' hk => ?_) fun e s₁ he => he.elim)
    · obtain ⟨b, i, H, rfl, hat, h1, h2⟩ := hv
      have Iv : Inv Y [] σw H (s₁.setGen g gs') := invG hat.inv rfl rfl (allBare_setGen hat.inv.bare hbare)
      refine wpAny_bind (wpAny_holding (wpAny_truthy_bool ?_))
      refine wpAny_bind (wpAny_letGo ?_)
      cases b with
      | false =>
        simp only [Bool.false_eq_true, if_false]
        exact wpAny_bind (wpAny_rule (wpAny_pure (htr _ _ _ Iv (h1 rfl))))
      | true => exact (h2 (fun z => nomatch z) s₁ rfl rfl hat.inv.bare).elim
    · obtain ⟨H, I1, q⟩ := hp
      have I2 := I1.kept (t' := s₁.toks) hk
      exact wpAny_bind (wpAny_rule (wpAny_pure (hfi _ H _ (invG (s2 := { s₁.setGen g .finished with heap := h' }) I2 rfl rfl (allBare_setGen (s := s₁) (x := .finished) I1.bare rfl)) q)))
  | succ n ih =>
    intro s hg hl ⟨gs, hgs, hgo⟩
    have hgl : g < s.gens.size := (Array.getElem?_eq_some_iff.mp hgs).1
    refine codeAny_builtin F.entry_all_loop ?_
    rw [Around.under_plainId F.plain_all_loop _]
    show wpAny _ A.in1 (pyNext (.ref a) >>= _) _ _ s
    refine wpAny_bind (wpAny_gsz (n := g + 1) hgl (next_genG (A := A.in1) (F := fun _ _ s1 => ∃ H, Inv Y [] σw H s1 ∧ Fi H) (Er := fun _ _ => False) hh hl hd hg hgs (goes hgo) (fun v s₁ gs' hbare hv => ?_) (fun s₁ hp h' hk => ?_) fun e s₁ he => he.elim))
    · intro hsz
      obtain ⟨b, i, H, rfl, hat, h1, h2⟩ := hv
      have Iv : Inv Y [] σw H (s₁.setGen g gs') := invG hat.inv rfl rfl (allBare_setGen hat.inv.bare hbare)
      refine wpAny_bind (wpAny_holding (wpAny_truthy_bool ?_))
      refine wpAny_bind (wpAny_letGo ?_)
      cases b with
      | false =>
        simp only [Bool.false_eq_true, if_false]
        exact wpAny_bind (wpAny_rule (wpAny_pure (htr _ _ _ Iv (h1 rfl))))
      | true =>
        simp only [if_true]
        have hsz1 : g < s₁.gens.size := by
          have q : (s₁.setGen g gs').gens.size = s₁.gens.size := setGen_size _ _ _
          have hsz' : g + 1 ≤ (s₁.setGen g gs').gens.size := hsz
          omega
        refine wpAny_pure ⟨plainId_quiet F.plain_all_loop _, ih (s₁.setGen g gs') (hgen Iv) Iv.nolimit ⟨gs', setGen_at hsz1, ?_⟩⟩
        exact h2 (fun z => nomatch z) _ rfl rfl (allBare_setGen (s := s₁.setGen g gs') Iv.bare rfl)
    · intro hsz
      obtain ⟨H, I1, q⟩ := hp
      have I2 := I1.kept (t' := s₁.toks) hk
      exact wpAny_bind (wpAny_rule (wpAny_pure (hfi _ H _ (invG (s2 := { s₁.setGen g .finished with heap := h' }) I2 rfl rfl (allBare_setGen (s := s₁) (x := .finished) I1.bare rfl)) q)))
/-- any's loop -/
theorem gx_any {A : Around} {Y : Cx} {σw : L2.St} {fp : List Addr} {tn : Nat → Heap → Prop} {a : Addr} {g : Nat} {Fi Tr : Hp → Prop} {R : Result → Shared → Prop} (hh : A.handled = none) (hd : A.depth < recursionLimit) (hgen : ∀ {H : Hp} {s : Shared}, Inv Y [] σw H s → s.heap.IsGen a g)
    (hfi : ∀ s' H tk, Inv Y [] σw H s' → Fi H → R (.ok (.ret (.bool false))) { s' with toks := tk }) (htr : ∀ s' H tk, Inv Y [] σw H s' → Tr H → R (.ok (.ret (.bool true))) { s' with toks := tk }) :
    ∀ (n : Nat) (s : Shared), s.heap.IsGen a g → s.heap.NoLimit → (∃ gs, s.gens[g]? = some gs ∧ gs.Goes (model Y.prog Y.w) A.in1.in1 (gxR Y σw Fi) (gxY Y σw fp tn true Tr) n (.send .none) (s.setGen g .running)) →
      codeAny (model Y.prog Y.w) A (.builtin "any.loop" ⟨[.ref a], []⟩) R s := by
  have goes : ∀ {gs : GenState} {n : Nat} {r : Resume} {s : Shared}, gs.Goes (model Y.prog Y.w) A.in1.in1 (gxR Y σw Fi) (gxY Y σw fp tn true Tr) n r s →
      gs.Goes (model Y.prog Y.w) A.in1.in1 (fun n s₀ r s1 => ((r = .ok (.ret .none) ∨ r = .ok .next) ∧ (fun _ _ s1 => ∃ H, Inv Y [] σw H s1 ∧ Fi H) n s₀ s1) ∨ ∃ e, r = .error e ∧ (fun _ _ => False) e s1) (gxY Y σw fp tn true Tr) n r s := fun h => h
  have invG : ∀ {H : Hp} {s s2 : Shared}, Inv Y [] σw H s → s2.heap = s.heap → s2.os = s.os → AllBare s2.gens → Inv Y [] σw H s2 := fun {H s s2} h e1 e2 hb =>
    ⟨h.ok, by rw [e2]; exact h.os, hb, by rw [e1]; exact h.base, by rw [e1]; exact h.loc, by rw [e1]; exact h.cell, h.free, h.freeC, by rw [e1]; exact h.pin, by rw [e1]; exact h.hok, h.len⟩
  intro n
  induction n with
  | zero =>
    intro s hg hl ⟨gs, hgs, hgo⟩
    refine codeAny_builtin F.entry_any_loop ?_
    rw [Around.under_plainId F.plain_any_loop _]
    show wpAny _ A.in1 (pyNext (.ref a) >>= _) _ _ s
    refine wpAny_bind (next_genG (A := A.in1) (F := fun _ _ s1 => ∃ H, Inv Y [] σw H s1 ∧ Fi H) (Er := fun _ _ => False) hh hl hd hg hgs (goes hgo) (fun v s₁ gs' hbare hv => ?_) (fun s₁ hp h' hk => ?_) fun e s₁ he => he.elim)
    · obtain ⟨b, i, H, rfl, hat, h1, h2⟩ := hv
      have Iv : Inv Y [] σw H (s₁.setGen g gs') := invG hat.inv rfl rfl (allBare_setGen hat.inv.bare hbare)
      refine wpAny_bind (wpAny_holding (wpAny_truthy_bool ?_))
      refine wpAny_bind (wpAny_letGo ?_)
      cases b with
      | true =>
        simp only [if_true]
        exact wpAny_bind (wpAny_rule (wpAny_pure (htr _ _ _ Iv (h1 rfl))))
      | false => exact (h2 (fun z => nomatch z) s₁ rfl rfl hat.inv.bare).elim
    · obtain ⟨H, I1, q⟩ := hp
      have I2 := I1.kept (t' := s₁.toks) hk
      exact wpAny_bind (wpAny_rule (wpAny_pure (hfi _ H _ (invG (s2 := { s₁.setGen g .finished with heap := h' }) I2 rfl rfl (allBare_setGen (s := s₁) (x := .finished) I1.bare rfl)) q)))
  | succ n ih =>
    intro s hg hl ⟨gs, hgs, hgo⟩
    have hgl : g < s.gens.size := (Array.getElem?_eq_some_iff.mp hgs).1
    refine codeAny_builtin F.entry_any_loop ?_
    rw [Around.under_plainId F.plain_any_loop _]
    show wpAny _ A.in1 (pyNext (.ref a) >>= _) _ _ s
    refine wpAny_bind (wpAny_gsz (n := g + 1) hgl (next_genG (A := A.in1) (F := fun _ _ s1 => ∃ H, Inv Y [] σw H s1 ∧ Fi H) (Er := fun _ _ => False) hh hl hd hg hgs (goes hgo) (fun v s₁ gs' hbare hv => ?_) (fun s₁ hp h' hk => ?_) fun e s₁ he => he.elim))
    · intro hsz
      obtain ⟨b, i, H, rfl, hat, h1, h2⟩ := hv
      have Iv : Inv Y [] σw H (s₁.setGen g gs') := invG hat.inv rfl rfl (allBare_setGen hat.inv.bare hbare)
      refine wpAny_bind (wpAny_holding (wpAny_truthy_bool ?_))
      refine wpAny_bind (wpAny_letGo ?_)
      cases b with
      | true =>
        simp only [if_true]
        exact wpAny_bind (wpAny_rule (wpAny_pure (htr _ _ _ Iv (h1 rfl))))
      | false =>
        simp only [Bool.false_eq_true, if_false]
        have hsz1 : g < s₁.gens.size := by
          have q : (s₁.setGen g gs').gens.size = s₁.gens.size := setGen_size _ _ _
          have hsz' : g + 1 ≤ (s₁.setGen g gs').gens.size := hsz
          omega
        refine wpAny_pure ⟨plainId_quiet F.plain_any_loop _, ih (s₁.setGen g gs') (hgen Iv) Iv.nolimit ⟨gs', setGen_at hsz1, ?_⟩⟩
        exact h2 (fun z => nomatch z) _ rfl rfl (allBare_setGen (s := s₁.setGen g gs') Iv.bare rfl)
    · intro hsz
      obtain ⟨H, I1, q⟩ := hp
      have I2 := I1.kept (t' := s₁.toks) hk
      exact wpAny_bind (wpAny_rule (wpAny_pure (hfi _ H _ (invG (s2 := { s₁.setGen g .finished with heap := h' }) I2 rfl rfl (allBare_setGen (s := s₁) (x := .finished) I1.bare rfl)) q)))

/-- the reading: st ends it -/
def tGx (st : Bool) (P : Addr) (wi : TI) (g : TG) (te : TE) (vs : List Nat) : TE := fun σ H Q => wi σ H fun J H1 => GxR.TabG H1 P ∧ ∀ H2, GxR.Tabbed P H1 H2 → ∃ W : Nat → Nat → Hp → Prop, (∃ m, W 0 m H2) ∧
  gxTurn J W (wipe σ vs) vs g te st (fun H => Q (.bl (!st)) H) (fun H => Q (.bl st) H)
theorem pe_allX {c P : Addr} {elt tg iter : Expr} {p pos gpos : Pos} {scope : Scope} {own : List (Str × Nat)} {wi : TI} {g : TG} {te : TE} {k : Nat}
    (hr : Room (k + 1) X.A) (hg : Gl X "all") (hm : X.mg "all" = none) (hb : bootBuiltins "all" = some (.builtin "all")) (TB : GxR.TabB X.base X.mg c P) (hcode : X.env.code = .ref c) (S : GxS X.N X.env.scope scope own) (hN : X.N.Nodup) (hi : PI X tg iter wi)
    (hpg : ∀ (s : Shared) (H : Hp) (C : Addr) (code : Value) (fp : List Addr) (pn : List (Addr × Obj)), PG (gxCx X s H (gxEnv X scope C code) fp pn) tg g) (hpe : ∀ (s : Shared) (H : Hp) (C : Addr) (code : Value) (fp : List Addr) (pn : List (Addr × Obj)), PE (gxCx X s H (gxEnv X scope C code) fp pn) elt te)
    (hs : ∀ v, genFold iter X.env v = pure v)
    (he : starEach [.GeneratorExp elt [⟨tg, iter, [], 0⟩] scope gpos] X.env = (false, eval (.GeneratorExp elt [⟨tg, iter, [], 0⟩] scope gpos) X.env) :: starEach [] X.env) :
    PE X (.Call (.Name "all" p) [.GeneratorExp elt [⟨tg, iter, [], 0⟩] scope gpos] [] pos) (tGx false P wi g te (own.map (·.2))) := by
  refine ⟨fun pins s σ H Q I h => ?_⟩
  have hfree : ∀ y ∈ scope.names, y.2 = .free → ∃ c, X.env.cells.lookup y.1 = some c := fun y hy e => by
    rcases S.blk.free y hy e with k | k
    · exact I.ok.has _ (.inl k)
    · exact I.ok.has _ (.inr k)
  refine wpAny_Call_Name_kw (ld_blt I hg hm hb ?_)
  refine PyProof.Rows.callWith_builtin1 ?_ he (by rfl)
  rw [he]
  show wpAny _ _ (spliced ((false, eval (.GeneratorExp elt [⟨tg, iter, [], 0⟩] scope gpos) X.env) :: backTo pos (starEach [] X.env))) _ _ s
  refine Calls.spliced_cons ?_
  refine wpAny_GeneratorExp_make S.co (closure_ok hfree) S.cell S.dot S.blk.kind (by have := hr.dp; omega) ?_ hs
  refine thn (hi.run pins s σ H _ I h) fun xv s1 hx => thn hx fun itv s2 h2 => ?_
  obtain ⟨it, fp, tn, J, H2, e, I2, T, st2, f2, ⟨ps, hP, ht⟩, q⟩ := h2
  subst e
  refine ⟨I2.nolimit, ?_⟩
  have hPs : s2.heap.get? P = some { cls := .none, data := .fields ps } := I2.hok P _ hP
  have cd : PySem.W.CodeHd s2.heap c P := TB.code.keeps I2.bk
  have sz : ∀ b ∈ fp, b < s2.heap.objs.size := fun b hb => by
    obtain ⟨o, e, _⟩ := T.obj _ _ st2 b hb
    exact Heap.lt_size e
  have cont : ∀ (code : Value) (h3 : Heap) (tk : Nat) (ps' : Array Value), Heap.ExtBut P s2.heap h3 → s2.heap.objs.size ≤ h3.objs.size → h3.get? P = some { cls := .none, data := .fields ps' } → (∃ more, ps' = ps ++ more) → TriplesOk ps'.toList →
      wpAny (model X.prog X.w) X.A (builtinsFor X.env.globals X.env.builtins) (fun bi s₄ =>
        ∀ h', h'.Ns s₄.heap.objs.size (fun y => if y = ".0" then some (.ref it) else none) → Heap.SameBut s₄.heap.objs.size (s₄.heap.push { cls := .type "frame", data := .dict #[] }) h' →
          wpAny (model X.prog X.w) X.A (spliced (backTo pos (starEach [] X.env))) (fun vs s₂ => wpAny (model X.prog X.w) X.A (call (.builtin "all") (.ref h'.objs.size :: vs)) (EP X pins σ Q) X.xe s₂) X.xe { s₄ with
            gens := s₄.gens.push (.fresh (.compStart (.GeneratorExp elt [⟨tg, iter, [], 0⟩] scope gpos) 0 (.ref it) .none (genEnv scope (cloFrom X.env.cells scope.names []) s₄.heap.objs.size code bi X.env))),
            toks := s₄.toks + 1 + 1 + 1,
            heap := h'.push { cls := .type "generator", data := .fields #[.int s₄.gens.size 0, .str "<genexpr>" (s₄.toks + 1), .str (X.env.qual ++ "<genexpr>") (s₄.toks + 1 + 1)] } }) X.xe { s2 with heap := h3, toks := tk } := by
    intro code h3 tk ps' hx hsz hP3 ⟨more, em⟩ ht3
    obtain ⟨bm, ob, e1, e2, e3, e4, e5, e6, e7, e8⟩ := TB.bm
    have keep3 : ∀ b u, b ≠ P → s2.heap.get? b = some u → h3.get? b = some u := fun b u hb e => hx b u hb e
    refine wpAny_builtinsFor (m := X.mg) (by rw [I2.ok.glob]; exact (I2.mod.glob.keeps I2.bk).extBut hx TB.gP) e1 e2 (keep3 _ _ e4 (I2.bk _ _ e5)) e6 e7 e8 ?_
    intro h4 hns hsb
    have I4 := GxR.inv_tab (more := more) (h' := h3) (g' := s2.gens) (d' := s2.drawn) (t' := tk) I2 hP keep3 (by rw [← em]; exact hP3) I2.bare
    obtain ⟨W, ⟨m0, w0⟩, turn⟩ := q (upd H2 P (.tbl (ps ++ more))) ⟨⟨ps ++ more, upd_same, by rw [← em]; exact ht3⟩, fun b hb => upd_ne hb⟩
    generalize hH4 : upd H2 P (.tbl (ps ++ more)) = H4 at I4 w0
    have fpn : ∀ b ∈ fp, H4 b = none := fun b hb => by
      rw [← hH4, upd_ne (fun z => by rw [z] at hb; have := (f2 P hb).1; rw [hP] at this; cases this)]
      exact (f2 b hb).1
    have fOk : ∀ b ∈ fp, FpOk X pins H4 b ∧ b < h3.objs.size := fun b hb => ⟨⟨fpn b hb, (f2 b hb).2⟩, Nat.lt_of_lt_of_le (sz b hb) hsz⟩
    have nP : ∀ b ∈ fp, b ≠ P := fun b hb z => by
      have := (f2 b hb).1
      rw [z, hP] at this
      cases this
    have st3 : tn 0 h3 := T.keep _ _ _ st2 fun b hb o e => keep3 b o (nP b hb) e
    have I5 := gx_start (code := code) (it := .ref it) (h1 := h4) (go := { cls := .type "generator", data := .fields #[.int s2.gens.size 0, .str "<genexpr>" (tk + 1), .str (X.env.qual ++ "<genexpr>") (tk + 1 + 1)] })
      (gs := .fresh (.compStart (.GeneratorExp elt [⟨tg, iter, [], 0⟩] scope gpos) 0 (.ref it) .none (genEnv scope (cloFrom X.env.cells scope.names []) h3.objs.size code builtinsNs X.env))) (tk := tk + 1 + 1 + 1) I4 S hN fOk hr.hd rfl (fun v z => nomatch z) rfl hns hsb
    have h4sz : h4.objs.size = h3.objs.size + 1 := by
      have z := hsb.1
      rw [z]
      exact Heap.size_push ..
    refine Calls.spliced_nil ?_
    generalize hgo : ({ cls := .type "generator", data := .fields #[.int s2.gens.size 0, .str "<genexpr>" (tk + 1), .str (X.env.qual ++ "<genexpr>") (tk + 1 + 1)] } : Obj) = go at I5
    generalize hY : gxCx X { s2 with heap := h3, gens := s2.gens, drawn := s2.drawn, toks := tk } H4 (gxEnv X scope h3.objs.size code) fp [(h4.objs.size, go)] = Y at I5
    have isG : ∀ {H : Hp} {s : Shared}, Inv Y [] (wipe σ (own.map (·.2))) H s → s.heap.IsGen h4.objs.size s2.gens.size := fun {H s} J => by
      have z := (J.pin (h4.objs.size, go) (by rw [← hY]; exact List.mem_append_left _ (List.mem_singleton.mpr rfl))).1
      rw [← hgo] at z
      exact ⟨_, _, _, z, rfl, rfl, rfl⟩
    have back : ∀ {s' : Shared} {H' : Hp} {tk' : Nat}, Inv Y [] (wipe σ (own.map (·.2))) H' s' → Inv X pins σ H' { s' with toks := tk' } := fun {s' H' tk'} J => by
      rw [← hY] at J
      exact I4.call' (s' := { s' with toks := tk' }) (ch := fp) J.os J.base J.hok J.bare fun b hb => ⟨(fOk b hb).1.2.2.2.1, (fOk b hb).1.2.1, (fOk b hb).1.2.2.2.2.1, (fOk b hb).1.2.2.2.2.2⟩
    have at5 := I5
    refine call_function_tree F.kind_all F.plain_all F.entry_all (F.args_all1 _) ?_
    unfold Builtin.«all»
    refine wpAny_bind (m := oneArg "all" _) (wpAny_pure ?_)
    have hgen := isG at5
    refine wpAny_bind (wpAny_pyIter_gen hgen ?_)
    refine wpAny_pure ⟨plainId_quiet F.plain_all_loop _, ?_⟩
    have eP : Y.prog = X.prog := by rw [← hY]; rfl
    have eW : Y.w = X.w := by rw [← hY]; rfl
    rw [← eP, ← eW]
    refine gx_all (Y := Y) (σw := wipe σ (own.map (·.2))) (fp := fp) (tn := tn) (g := s2.gens.size) (Fi := fun H => Q (.bl (!false)) H) (Tr := fun H => Q (.bl false) H) hr.hd (by have := hr.dp; omega) isG
      (fun s' H' tk' J qq => ⟨.bl true, H', back J, rfl, qq⟩) (fun s' H' tk' J qq => ⟨.bl false, H', back J, rfl, qq⟩) (m0 + 1) _ hgen at5.nolimit ⟨_, Array.getElem?_push_size .., ?_⟩
    refine ⟨rfl, ?_⟩
    rw [eP, eW]
    have at6 : GxAt Y (wipe σ (own.map (·.2))) fp tn 0 H4 ({ s2 with heap := h4.push go, gens := s2.gens.push (.fresh (.compStart (.GeneratorExp elt [⟨tg, iter, [], 0⟩] scope gpos) 0 (.ref it) .none (genEnv scope (cloFrom X.env.cells scope.names []) h3.objs.size code builtinsNs X.env))), toks := tk + 1 + 1 + 1 } : Shared) :=
      ⟨at5, T.keep _ _ _ st3 fun b hb o e => Heap.get?_push_of_some _ (hsb.extBut b o (Nat.ne_of_lt (fOk b hb).2) (Heap.get?_push_of_some _ e)), fpn⟩
    refine gx_begin T (i := 0) at6.tn ?_
    subst hY
    exact gx_loop (X := X) (σ := σ) (tn := tn) (J := J) (W := W) (vs := own.map (·.2)) (g := g) (te := te) (Fi := fun H => Q (.bl (!false)) H) (Tr := fun H => Q (.bl false) H) S.co T (fun b hb p hp z => by
      rw [List.mem_singleton.mp hp] at z
      have h1 := (fOk b hb).2
      have z : h4.objs.size = b := z
      rw [← z, h4sz] at h1
      exact absurd h1 (Nat.not_lt.mpr (Nat.le_succ _))) (hpg _ _ _ _ _ _) (hpe _ _ _ _ _ _) turn (m0 + 1) m0 0 H4 _ _ (Nat.lt_succ_self _) w0 (at6.gens rfl rfl (allBare_setGen at6.inv.bare rfl))
  cases hf : codeAmong gpos ps.toList with
  | none =>
    refine wpAny_genexprCodeX hcode (cd.code hPs ht) (cd.tab hPs) hf fun c' h' tk hx hge hlt hco' _ htab' _ => ?_
    obtain ⟨o1, vs, f1, tf, fl, tg', inF, tx, tt, op, _, _, _, _, _, _, _, _, _, htr, _⟩ := hco'
    exact cont _ h' tk _ hx (Nat.le_trans hge (Nat.le_of_lt hlt)) htab'.2 ⟨_, rfl⟩ htr
  | some cv =>
    refine wpAny_genexprCode_hit hcode (cd.code hPs ht) hf ?_
    exact cont cv s2.heap s2.toks ps (Heap.ExtBut.refl _ _) (Nat.le_refl _) hPs ⟨#[], by simp⟩ ht
theorem pe_anyX {c P : Addr} {elt tg iter : Expr} {p pos gpos : Pos} {scope : Scope} {own : List (Str × Nat)} {wi : TI} {g : TG} {te : TE} {k : Nat}
    (hr : Room (k + 1) X.A) (hg : Gl X "any") (hm : X.mg "any" = none) (hb : bootBuiltins "any" = some (.builtin "any")) (TB : GxR.TabB X.base X.mg c P) (hcode : X.env.code = .ref c) (S : GxS X.N X.env.scope scope own) (hN : X.N.Nodup) (hi : PI X tg iter wi)
    (hpg : ∀ (s : Shared) (H : Hp) (C : Addr) (code : Value) (fp : List Addr) (pn : List (Addr × Obj)), PG (gxCx X s H (gxEnv X scope C code) fp pn) tg g) (hpe : ∀ (s : Shared) (H : Hp) (C : Addr) (code : Value) (fp : List Addr) (pn : List (Addr × Obj)), PE (gxCx X s H (gxEnv X scope C code) fp pn) elt te)
    (hs : ∀ v, genFold iter X.env v = pure v)
    (he : starEach [.GeneratorExp elt [⟨tg, iter, [], 0⟩] scope gpos] X.env = (false, eval (.GeneratorExp elt [⟨tg, iter, [], 0⟩] scope gpos) X.env) :: starEach [] X.env) :
    PE X (.Call (.Name "any" p) [.GeneratorExp elt [⟨tg, iter, [], 0⟩] scope gpos] [] pos) (tGx true P wi g te (own.map (·.2))) := by
  refine ⟨fun pins s σ H Q I h => ?_⟩
  have hfree : ∀ y ∈ scope.names, y.2 = .free → ∃ c, X.env.cells.lookup y.1 = some c := fun y hy e => by
    rcases S.blk.free y hy e with k | k
    · exact I.ok.has _ (.inl k)
    · exact I.ok.has _ (.inr k)
  refine wpAny_Call_Name_kw (ld_blt I hg hm hb ?_)
  refine PyProof.Rows.callWith_builtin1 ?_ he (by rfl)
  rw [he]
  show wpAny _ _ (spliced ((false, eval (.GeneratorExp elt [⟨tg, iter, [], 0⟩] scope gpos) X.env) :: backTo pos (starEach [] X.env))) _ _ s
  refine Calls.spliced_cons ?_
  refine wpAny_GeneratorExp_make S.co (closure_ok hfree) S.cell S.dot S.blk.kind (by have := hr.dp; omega) ?_ hs
  refine thn (hi.run pins s σ H _ I h) fun xv s1 hx => thn hx fun itv s2 h2 => ?_
  obtain ⟨it, fp, tn, J, H2, e, I2, T, st2, f2, ⟨ps, hP, ht⟩, q⟩ := h2
  subst e
  refine ⟨I2.nolimit, ?_⟩
  have hPs : s2.heap.get? P = some { cls := .none, data := .fields ps } := I2.hok P _ hP
  have cd : PySem.W.CodeHd s2.heap c P := TB.code.keeps I2.bk
  have sz : ∀ b ∈ fp, b < s2.heap.objs.size := fun b hb => by
    obtain ⟨o, e, _⟩ := T.obj _ _ st2 b hb
    exact Heap.lt_size e
  have cont : ∀ (code : Value) (h3 : Heap) (tk : Nat) (ps' : Array Value), Heap.ExtBut P s2.heap h3 → s2.heap.objs.size ≤ h3.objs.size → h3.get? P = some { cls := .none, data := .fields ps' } → (∃ more, ps' = ps ++ more) → TriplesOk ps'.toList →
      wpAny (model X.prog X.w) X.A (builtinsFor X.env.globals X.env.builtins) (fun bi s₄ =>
        ∀ h', h'.Ns s₄.heap.objs.size (fun y => if y = ".0" then some (.ref it) else none) → Heap.SameBut s₄.heap.objs.size (s₄.heap.push { cls := .type "frame", data := .dict #[] }) h' →
          wpAny (model X.prog X.w) X.A (spliced (backTo pos (starEach [] X.env))) (fun vs s₂ => wpAny (model X.prog X.w) X.A (call (.builtin "any") (.ref h'.objs.size :: vs)) (EP X pins σ Q) X.xe s₂) X.xe { s₄ with
            gens := s₄.gens.push (.fresh (.compStart (.GeneratorExp elt [⟨tg, iter, [], 0⟩] scope gpos) 0 (.ref it) .none (genEnv scope (cloFrom X.env.cells scope.names []) s₄.heap.objs.size code bi X.env))),
            toks := s₄.toks + 1 + 1 + 1,
            heap := h'.push { cls := .type "generator", data := .fields #[.int s₄.gens.size 0, .str "<genexpr>" (s₄.toks + 1), .str (X.env.qual ++ "<genexpr>") (s₄.toks + 1 + 1)] } }) X.xe { s2 with heap := h3, toks := tk } := by
    intro code h3 tk ps' hx hsz hP3 ⟨more, em⟩ ht3
    obtain ⟨bm, ob, e1, e2, e3, e4, e5, e6, e7, e8⟩ := TB.bm
    have keep3 : ∀ b u, b ≠ P → s2.heap.get? b = some u → h3.get? b = some u := fun b u hb e => hx b u hb e
    refine wpAny_builtinsFor (m := X.mg) (by rw [I2.ok.glob]; exact (I2.mod.glob.keeps I2.bk).extBut hx TB.gP) e1 e2 (keep3 _ _ e4 (I2.bk _ _ e5)) e6 e7 e8 ?_
    intro h4 hns hsb
    have I4 := GxR.inv_tab (more := more) (h' := h3) (g' := s2.gens) (d' := s2.drawn) (t' := tk) I2 hP keep3 (by rw [← em]; exact hP3) I2.bare
    obtain ⟨W, ⟨m0, w0⟩, turn⟩ := q (upd H2 P (.tbl (ps ++ more))) ⟨⟨ps ++ more, upd_same, by rw [← em]; exact ht3⟩, fun b hb => upd_ne hb⟩
    generalize hH4 : upd H2 P (.tbl (ps ++ more)) = H4 at I4 w0
    have fpn : ∀ b ∈ fp, H4 b = none := fun b hb => by
      rw [← hH4, upd_ne (fun z => by rw [z] at hb; have := (f2 P hb).1; rw [hP] at this; cases this)]
      exact (f2 b hb).1
    have fOk : ∀ b ∈ fp, FpOk X pins H4 b ∧ b < h3.objs.size := fun b hb => ⟨⟨fpn b hb, (f2 b hb).2⟩, Nat.lt_of_lt_of_le (sz b hb) hsz⟩
    have nP : ∀ b ∈ fp, b ≠ P := fun b hb z => by
      have := (f2 b hb).1
      rw [z, hP] at this
      cases this
    have st3 : tn 0 h3 := T.keep _ _ _ st2 fun b hb o e => keep3 b o (nP b hb) e
    have I5 := gx_start (code := code) (it := .ref it) (h1 := h4) (go := { cls := .type "generator", data := .fields #[.int s2.gens.size 0, .str "<genexpr>" (tk + 1), .str (X.env.qual ++ "<genexpr>") (tk + 1 + 1)] })
      (gs := .fresh (.compStart (.GeneratorExp elt [⟨tg, iter, [], 0⟩] scope gpos) 0 (.ref it) .none (genEnv scope (cloFrom X.env.cells scope.names []) h3.objs.size code builtinsNs X.env))) (tk := tk + 1 + 1 + 1) I4 S hN fOk hr.hd rfl (fun v z => nomatch z) rfl hns hsb
    have h4sz : h4.objs.size = h3.objs.size + 1 := by
      have z := hsb.1
      rw [z]
      exact Heap.size_push ..
    refine Calls.spliced_nil ?_
    generalize hgo : ({ cls := .type "generator", data := .fields #[.int s2.gens.size 0, .str "<genexpr>" (tk + 1), .str (X.env.qual ++ "<genexpr>") (tk + 1 + 1)] } : Obj) = go at I5
    generalize hY : gxCx X { s2 with heap := h3, gens := s2.gens, drawn := s2.drawn, toks := tk } H4 (gxEnv X scope h3.objs.size code) fp [(h4.objs.size, go)] = Y at I5
    have isG : ∀ {H : Hp} {s : Shared}, Inv Y [] (wipe σ (own.map (·.2))) H s → s.heap.IsGen h4.objs.size s2.gens.size := fun {H s} J => by
      have z := (J.pin (h4.objs.size, go) (by rw [← hY]; exact List.mem_append_left _ (List.mem_singleton.mpr rfl))).1
      rw [← hgo] at z
      exact ⟨_, _, _, z, rfl, rfl, rfl⟩
    have back : ∀ {s' : Shared} {H' : Hp} {tk' : Nat}, Inv Y [] (wipe σ (own.map (·.2))) H' s' → Inv X pins σ H' { s' with toks := tk' } := fun {s' H' tk'} J => by
      rw [← hY] at J
      exact I4.call' (s' := { s' with toks := tk' }) (ch := fp) J.os J.base J.hok J.bare fun b hb => ⟨(fOk b hb).1.2.2.2.1, (fOk b hb).1.2.1, (fOk b hb).1.2.2.2.2.1, (fOk b hb).1.2.2.2.2.2⟩
    have at5 := I5
    refine call_function_tree F.kind_any F.plain_any F.entry_any (F.args_any1 _) ?_
    unfold Builtin.«any»
    refine wpAny_bind (m := oneArg "any" _) (wpAny_pure ?_)
    have hgen := isG at5
    refine wpAny_bind (wpAny_pyIter_gen hgen ?_)
    refine wpAny_pure ⟨plainId_quiet F.plain_any_loop _, ?_⟩
    have eP : Y.prog = X.prog := by rw [← hY]; rfl
    have eW : Y.w = X.w := by rw [← hY]; rfl
    rw [← eP, ← eW]
    refine gx_any (Y := Y) (σw := wipe σ (own.map (·.2))) (fp := fp) (tn := tn) (g := s2.gens.size) (Fi := fun H => Q (.bl (!true)) H) (Tr := fun H => Q (.bl true) H) hr.hd (by have := hr.dp; omega) isG
      (fun s' H' tk' J qq => ⟨.bl false, H', back J, rfl, qq⟩) (fun s' H' tk' J qq => ⟨.bl true, H', back J, rfl, qq⟩) (m0 + 1) _ hgen at5.nolimit ⟨_, Array.getElem?_push_size .., ?_⟩
    refine ⟨rfl, ?_⟩
    rw [eP, eW]
    have at6 : GxAt Y (wipe σ (own.map (·.2))) fp tn 0 H4 ({ s2 with heap := h4.push go, gens := s2.gens.push (.fresh (.compStart (.GeneratorExp elt [⟨tg, iter, [], 0⟩] scope gpos) 0 (.ref it) .none (genEnv scope (cloFrom X.env.cells scope.names []) h3.objs.size code builtinsNs X.env))), toks := tk + 1 + 1 + 1 } : Shared) :=
      ⟨at5, T.keep _ _ _ st3 fun b hb o e => Heap.get?_push_of_some _ (hsb.extBut b o (Nat.ne_of_lt (fOk b hb).2) (Heap.get?_push_of_some _ e)), fpn⟩
    refine gx_begin T (i := 0) at6.tn ?_
    subst hY
    exact gx_loop (X := X) (σ := σ) (tn := tn) (J := J) (W := W) (vs := own.map (·.2)) (g := g) (te := te) (Fi := fun H => Q (.bl (!true)) H) (Tr := fun H => Q (.bl true) H) S.co T (fun b hb p hp z => by
      rw [List.mem_singleton.mp hp] at z
      have h1 := (fOk b hb).2
      have z : h4.objs.size = b := z
      rw [← z, h4sz] at h1
      exact absurd h1 (Nat.not_lt.mpr (Nat.le_succ _))) (hpg _ _ _ _ _ _) (hpe _ _ _ _ _ _) turn (m0 + 1) m0 0 H4 _ _ (Nat.lt_succ_self _) w0 (at6.gens rfl rfl (allBare_setGen at6.inv.bare rfl))
  cases hf : codeAmong gpos ps.toList with
  | none =>
    refine wpAny_genexprCodeX hcode (cd.code hPs ht) (cd.tab hPs) hf fun c' h' tk hx hge hlt hco' _ htab' _ => ?_
    obtain ⟨o1, vs, f1, tf, fl, tg', inF, tx, tt, op, _, _, _, _, _, _, _, _, _, htr, _⟩ := hco'
    exact cont _ h' tk _ hx (Nat.le_trans hge (Nat.le_of_lt hlt)) htab'.2 ⟨_, rfl⟩ htr
  | some cv =>
    refine wpAny_genexprCode_hit hcode (cd.code hPs ht) hf ?_
    exact cont cv s2.heap s2.toks ps (Heap.ExtBut.refl _ _) (Nat.le_refl _) hPs ⟨#[], by simp⟩ ht
end

/-! ## In data -/
section
variable {X : Cx} {B : Bd} {δ : List SD} {elt tg iter : Expr} {scope : Scope} {own : List (Str × Nat)} {pos gpos pz : Pos} {ys : List PyData}
theorem room_gx {k : Nat} {A : Around} (r : Room (k + 1) A) (env : Env) : Room k (A.in1.in1.deeper env) :=
  ⟨r.hd, by have := r.dp; show A.depth + 1 + 3 * k + 5 < _; omega, by have := r.un; show A.units + 1 + 1 + 3 + 16 * k + 200 < _; omega⟩
def gxG (X : Cx) (scope : Scope) (tg : Expr) : TG := fun v σ H Q => ∀ (s : Shared) (H0 : Hp) (C : Addr) (code : Value) (fp : List Addr) (pn : List (Addr × Obj)), semG (gxCx X s H0 (gxEnv X scope C code) fp pn) tg v σ H Q
def gxE (X : Cx) (scope : Scope) (e : Expr) : TE := fun σ H Q => ∀ (s : Shared) (H0 : Hp) (C : Addr) (code : Value) (fp : List Addr) (pn : List (Addr × Obj)), semE (gxCx X s H0 (gxEnv X scope C code) fp pn) e σ H Q
theorem pg_gx (s : Shared) (H : Hp) (C : Addr) (code : Value) (fp : List Addr) (pn : List (Addr × Obj)) : PG (gxCx X s H (gxEnv X scope C code) fp pn) tg (gxG X scope tg) := ⟨fun pins s' _ _ _ u _ I r h => h s H C code fp pn pins s' u I r⟩
theorem pe_gx (s : Shared) (H : Hp) (C : Addr) (code : Value) (fp : List Addr) (pn : List (Addr × Obj)) : PE (gxCx X s H (gxEnv X scope C code) fp pn) elt (gxE X scope elt) := ⟨fun pins s' _ _ _ I h => h s H C code fp pn pins s' I⟩
/-- one turn: y is the item, b the element -/
structure GxD (X : Cx) (B : Bd) (δ : List SD) (scope : Scope) (vs : List Nat) (tg elt : Expr) (y : PyData) (b : Bool) : Prop where
  run : ∃ (δ' : List SD) (is : List Nat), (∀ i ∈ is, i ∈ vs) ∧ ∀ (s : Shared) (H0 : Hp) (C : Addr) (code : Value) (fp : List Addr) (pn : List (Addr × Obj)),
    EvG (gxCx X s H0 (gxEnv X scope C code) fp pn) B (wipeD δ vs) tg y δ' is ∧ Ev (gxCx X s H0 (gxEnv X scope C code) fp pn) B δ' elt (.bool b)
theorem gx_grow {T : List TabN} {P : Addr} {G H H2 : Hp} (g : TabsOk T G H) (e : Ex G H) (hP : (P, none) ∈ T) (hu : ∀ p ∈ T, p.1 = P → p.2 = none) (t : GxR.Tabbed P H H2) : Grow T m0 G H G H2 := by
  obtain ⟨⟨ps2, h2, tr2⟩, hk⟩ := t
  obtain ⟨⟨ps, hps, _⟩, gP⟩ := g _ hP
  refine ⟨Ex.refl G, fun a u h => ?_, fun a o h nt _ => ?_, fun p hp => ⟨?_, (g p hp).2⟩, fun a _ h => h, fun a h => ?_⟩
  · by_cases z : a = P
    · rw [z, gP] at h; cases h
    · rw [hk a z]; exact e a u h
  · by_cases z : a = P
    · rw [z, hps] at h
      exact absurd (Option.some.inj h).symm (nt ps)
    · rw [hk a z]; exact h
  · by_cases z : p.1 = P
    · refine ⟨ps2, by rw [z]; exact h2, tr2, fun q eq => ?_⟩
      rw [hu p hp z] at eq
      cases eq
    · exact (g p hp).1.step (fun ps h => by rw [hk _ z]; exact h) fun c q h => by
        by_cases zc : c = P
        · rw [zc, hps] at h
          exact absurd (Option.some.inj h).symm (codeO_nt ps)
        · rw [hk _ zc]; exact h
  · by_cases z : a = P
    · rw [z, h2]; simp
    · rw [hk a z]; exact h
def anyAll (st : Bool) (ys : List PyData) (b : PyData → Bool) : Bool := if st = true then ys.any b else ys.all b
theorem anyAll_end {st : Bool} {b : PyData → Bool} (h : ∀ y ∈ ys, b y = !st) : anyAll st ys b = !st := by
  cases st with
  | true =>
    show ys.any b = false
    refine Bool.eq_false_iff.mpr fun z => ?_
    obtain ⟨y, hy, hb⟩ := List.any_eq_true.mp z
    rw [h y hy] at hb
    cases hb
  | false =>
    show ys.all b = true
    exact List.all_eq_true.mpr fun y hy => h y hy
theorem anyAll_hit {st : Bool} {b : PyData → Bool} {y : PyData} (hy : y ∈ ys) (h : b y = st) : anyAll st ys b = st := by
  cases st with
  | true =>
    show ys.any b = true
    exact List.any_eq_true.mpr ⟨y, hy, h⟩
  | false =>
    show ys.all b = false
    refine Bool.eq_false_iff.mpr fun z => ?_
    have := List.all_eq_true.mp z _ hy
    rw [h] at this
    cases this
theorem gx_run {st : Bool} {b : PyData → Bool} {vs : List Nat} {P : Addr} (hi : EvI X B δ tg iter ys) (ht : ∀ y ∈ ys, GxD X B δ scope vs tg elt y (b y)) (hP : (P, none) ∈ B.T) (hu : ∀ p ∈ B.T, p.1 = P → p.2 = none)
    {σ : L2.St} {G H : Hp} (s : Sta B δ σ G H) {Q : VK} (q : ∀ v G2 H2, Grow B.T m0 G H G2 H2 → Dp K0 G2 v (.bool (anyAll st ys b)) → Q v H2) :
    tGx st P (semI X tg iter) (gxG X scope tg) (gxE X scope elt) vs σ H Q := by
  refine hi σ G H s _ fun J G1 H1 g1 w => ⟨(g1.t _ hP).1.tabG, fun H2 hT => ?_⟩
  have g2 : Grow B.T m0 G1 H1 G1 H2 := gx_grow g1.t g1.gh hP hu hT
  refine ⟨fun i m H => m = ys.length - i ∧ i ≤ ys.length ∧ (∀ y ∈ ys.take i, b y = !st) ∧ ∃ G', Grow B.T m0 G1 H2 G' H, ⟨_, rfl, Nat.zero_le _, fun y hy => by simp at hy, G1, Grow.refl g2.gh g2.t⟩, ?_⟩
  rintro i m H' ⟨rfl, hi, hb, G', g'⟩
  have g3 := (g1.trans g2).trans g'
  by_cases hlt : i < ys.length
  · refine .inr ⟨w.go i G' H' hlt g'.g g'.gh, fun H => (∀ y ∈ ys.take (i + 1), b y = !st) ∧ ∃ G', Grow B.T m0 G1 H2 G' H, fun H3 ⟨z1, z2⟩ => ⟨_, by omega, rfl, hlt, z1, z2⟩, fun x H3 y => ?_⟩
    obtain ⟨G3, g4, d4⟩ := w.yld i G' H' x H3 _ (List.getElem?_eq_getElem hlt) g'.g g'.gh g'.t y
    obtain ⟨δ', is, his, hr⟩ := (ht ys[i] (List.getElem_mem hlt)).run
    have s2 : Sta B (wipeD δ vs) (L2.wipe σ vs) G3 H3 := ((s.grow g3).grow g4).wipe vs
    intro sb H0 C code fp pn
    refine (hr sb H0 C code fp pn).1 _ G3 H3 x s2 d4 _ fun σ2 s3 el eo => ⟨?_, ?_⟩
    · have e0 : L2.wipe σ2 vs = L2.wipe (L2.wipe σ vs) vs := wipe_eq el fun j hj => eo j fun z => hj (his j z)
      rw [e0]
      exact wipe_eq (wipe_length σ vs) fun j hj => wipe_at σ vs j hj
    · intro sb H0 C code fp pn
      refine (hr sb H0 C code fp pn).2 σ2 G3 H3 s3 _ fun yv G4 H4 g5 d5 => ⟨b ys[i], dpi_bool d5, fun e => ?_, fun e => ⟨fun y hy => ?_, G4, (g'.trans g4).trans g5⟩⟩
      · refine q _ G4 H4 ((g3.trans g4).trans g5) ?_
        rw [anyAll_hit (List.getElem_mem hlt) e]
        exact .bl st
      · rw [List.take_add_one, List.getElem?_eq_getElem hlt] at hy
        rcases List.mem_append.mp hy with hy | hy
        · exact hb y hy
        · have : y = ys[i] := by simpa using hy
          rw [this]
          cases hz : b ys[i] <;> cases st <;> first | rfl | exact absurd hz (by rw [hz] at e; exact fun _ => e rfl)
  · have e : i = ys.length := by omega
    refine .inl ⟨by rw [e]; exact w.stop G' H' g'.g g'.gh, q _ G' H' g3 ?_⟩
    rw [anyAll_end (st := st) (b := b) (by rw [e, List.take_length] at hb; exact hb)]
    exact .bl _
theorem ev_all {c P : Addr} {k : Nat} (vs : List Nat) (b : PyData → Bool) (hi : EvI X B δ tg iter ys) (ht : ∀ y ∈ ys, GxD X B δ scope vs tg elt y (b y)) (hP : (P, none) ∈ B.T) (hu : ∀ p ∈ B.T, p.1 = P → p.2 = none) (hr : Room (k + 1) X.A) (hm : X.mg ("all" : Str) = none)
    (TB : GxR.TabB X.base X.mg c P) (hcode : X.env.code = .ref c) (S : GxS X.N X.env.scope scope own) (hvs : own.map (·.2) = vs) (hN : X.N.Nodup) (hs : ∀ v, genFold iter X.env v = pure v := by intro _; rfl) (hg : Gl X ("all" : Str) := by rfl) (hb : bootBuiltins "all" = some (.builtin "all") := by decide +kernel)
    (he : starEach [.GeneratorExp elt [⟨tg, iter, [], 0⟩] scope gpos] X.env = (false, eval (.GeneratorExp elt [⟨tg, iter, [], 0⟩] scope gpos) X.env) :: starEach [] X.env := by rfl) :
    Ev X B δ (.Call (.Name "all" pz) [.GeneratorExp elt [⟨tg, iter, [], 0⟩] scope gpos] [] pos) (.bool (ys.all b)) := by
  subst hvs
  exact ev_of (pe_allX hr hg hm hb TB hcode S hN pi_sem pg_gx pe_gx hs he) fun σ G H s Q q => gx_run (st := false) hi ht hP hu s q
theorem ev_any {c P : Addr} {k : Nat} (vs : List Nat) (b : PyData → Bool) (hi : EvI X B δ tg iter ys) (ht : ∀ y ∈ ys, GxD X B δ scope vs tg elt y (b y)) (hP : (P, none) ∈ B.T) (hu : ∀ p ∈ B.T, p.1 = P → p.2 = none) (hr : Room (k + 1) X.A) (hm : X.mg ("any" : Str) = none)
    (TB : GxR.TabB X.base X.mg c P) (hcode : X.env.code = .ref c) (S : GxS X.N X.env.scope scope own) (hvs : own.map (·.2) = vs) (hN : X.N.Nodup) (hs : ∀ v, genFold iter X.env v = pure v := by intro _; rfl) (hg : Gl X ("any" : Str) := by rfl) (hb : bootBuiltins "any" = some (.builtin "any") := by decide +kernel)
    (he : starEach [.GeneratorExp elt [⟨tg, iter, [], 0⟩] scope gpos] X.env = (false, eval (.GeneratorExp elt [⟨tg, iter, [], 0⟩] scope gpos) X.env) :: starEach [] X.env := by rfl) :
    Ev X B δ (.Call (.Name "any" pz) [.GeneratorExp elt [⟨tg, iter, [], 0⟩] scope gpos] [] pos) (.bool (ys.any b)) := by
  subst hvs
  exact ev_of (pe_anyX hr hg hm hb TB hcode S hN pi_sem pg_gx pe_gx hs he) fun σ G H s Q q => gx_run (st := true) hi ht hP hu s q
end
end CR

set_option Elab.async false
set_option linter.all false
set_option maxRecDepth 100000
set_option maxHeartbeats 4000000
/-! # Dicts whose keys are whole numbers, or nested tuples of these -/
namespace CR
open PySem L2 Evl PyProof.Rows
/-! ## keys as data -/
mutual
def nest : PyData → Bool
  | .int _ => true
  | .tuple xs => nestAll xs
  | _ => false
def nestAll : List PyData → Bool
  | [] => true
  | x :: xs => nest x && nestAll xs
end
mutual
def nk : PyData → NestedKey
  | .int i => .num i
  | .tuple xs => .tup (nkAll xs)
  | _ => .none
def nkAll : List PyData → List NestedKey
  | [] => []
  | x :: xs => nk x :: nkAll xs
end
mutual
theorem eqv_nk : ∀ (x y : PyData), nest x = true → nest y = true → PyData.eqv x y = NestedKey.beq (nk x) (nk y)
  | .int a, .int b, _, _ => by
    rw [PyData.eqv, nk, nk, NestedKey.beq]
    rfl
  | .int a, .tuple ys, _, _ => by rw [PyData.eqv, nk, nk, NestedKey.beq]
  | .tuple xs, .int b, _, _ => by rw [PyData.eqv, nk, nk, NestedKey.beq]
  | .tuple xs, .tuple ys, h1, h2 => by
    rw [PyData.eqv, nk, nk, NestedKey.beq]
    rw [nest] at h1 h2
    exact eqvAll_nk xs ys h1 h2
  | .none, _, h, _ => by cases h
  | .bool _, _, h, _ => by cases h
  | .str _, _, h, _ => by cases h
  | .list _, _, h, _ => by cases h
  | .dict _, _, h, _ => by cases h
  | .int _, .none, _, h => by cases h
  | .int _, .bool _, _, h => by cases h
  | .int _, .str _, _, h => by cases h
  | .int _, .list _, _, h => by cases h
  | .int _, .dict _, _, h => by cases h
  | .tuple _, .none, _, h => by cases h
  | .tuple _, .bool _, _, h => by cases h
  | .tuple _, .str _, _, h => by cases h
  | .tuple _, .list _, _, h => by cases h
  | .tuple _, .dict _, _, h => by cases h
theorem eqvAll_nk : ∀ (xs ys : List PyData), nestAll xs = true → nestAll ys = true → PyData.eqvAll xs ys = NestedKey.beqAll (nkAll xs) (nkAll ys)
  | [], [], _, _ => by rw [PyData.eqvAll, nkAll, NestedKey.beqAll]
  | [], _ :: _, _, _ => by rw [PyData.eqvAll, nkAll, nkAll, NestedKey.beqAll]
  | _ :: _, [], _, _ => by rw [PyData.eqvAll, nkAll, nkAll, NestedKey.beqAll]
  | x :: xs, y :: ys, h1, h2 => by
    rw [nestAll, Bool.and_eq_true] at h1 h2
    rw [PyData.eqvAll, nkAll, nkAll, NestedKey.beqAll, eqv_nk x y h1.1 h2.1, eqvAll_nk xs ys h1.2 h2.2]
end
mutual
theorem nk_inj : ∀ (x y : PyData), nest x = true → nest y = true → nk x = nk y → x = y
  | .int a, .int b, _, _, h => by rw [nk, nk] at h; cases h; rfl
  | .int a, .tuple ys, _, _, h => by rw [nk, nk] at h; cases h
  | .tuple xs, .int b, _, _, h => by rw [nk, nk] at h; cases h
  | .tuple xs, .tuple ys, h1, h2, h => by
    rw [nk, nk] at h
    rw [nest] at h1 h2
    rw [nkAll_inj xs ys h1 h2 (NestedKey.tup.inj h)]
  | .none, _, h, _, _ => by cases h
  | .bool _, _, h, _, _ => by cases h
  | .str _, _, h, _, _ => by cases h
  | .list _, _, h, _, _ => by cases h
  | .dict _, _, h, _, _ => by cases h
  | .int _, .none, _, h, _ => by cases h
  | .int _, .bool _, _, h, _ => by cases h
  | .int _, .str _, _, h, _ => by cases h
  | .int _, .list _, _, h, _ => by cases h
  | .int _, .dict _, _, h, _ => by cases h
  | .tuple _, .none, _, h, _ => by cases h
  | .tuple _, .bool _, _, h, _ => by cases h
  | .tuple _, .str _, _, h, _ => by cases h
  | .tuple _, .list _, _, h, _ => by cases h
  | .tuple _, .dict _, _, h, _ => by cases h
theorem nkAll_inj : ∀ (xs ys : List PyData), nestAll xs = true → nestAll ys = true → nkAll xs = nkAll ys → xs = ys
  | [], [], _, _, _ => rfl
  | [], _ :: _, _, _, h => by rw [nkAll, nkAll] at h; cases h
  | _ :: _, [], _, _, h => by rw [nkAll, nkAll] at h; cases h
  | x :: xs, y :: ys, h1, h2, h => by
    rw [nestAll, Bool.and_eq_true] at h1 h2
    rw [nkAll, nkAll] at h
    rw [nk_inj x y h1.1 h2.1 (List.cons.inj h).1, nkAll_inj xs ys h1.2 h2.2 (List.cons.inj h).2]
end
/-- == of such data is being the same -/
theorem eqv_nest {x y : PyData} (h1 : nest x = true) (h2 : nest y = true) : PyData.eqv x y = decide (nk x = nk y) := by
  rw [eqv_nk x y h1 h2, NestedKey.decide_eq]
theorem eqv_iff {x y : PyData} (h1 : nest x = true) (h2 : nest y = true) : PyData.eqv x y = true ↔ x = y := by
  rw [eqv_nest h1 h2, decide_eq_true_eq]
  exact ⟨nk_inj x y h1 h2, fun e => by rw [e]⟩
mutual
theorem nk_is {h : Heap} : ∀ (d : PyData) (v : Value) (as : List Addr), nest d = true → Reads h v d as → NestedIs h (nk d) v
  | .int i, _, _, _, .int _ t => by rw [nk]; exact .int i t
  | .tuple xs, _, _, hn, .tuple e c dd r => by
    rw [nk]
    rw [nest] at hn
    exact .tup e c dd (nkAll_is xs _ _ hn r)
  | .none, _, _, h, _ => by cases h
  | .bool _, _, _, h, _ => by cases h
  | .str _, _, _, h, _ => by cases h
  | .list _, _, _, h, _ => by cases h
  | .dict _, _, _, h, _ => by cases h
theorem nkAll_is {h : Heap} : ∀ (ds : List PyData) (vs : List Value) (as : List Addr), nestAll ds = true → ReadsAll h vs ds as → NestedAll h (nkAll ds) vs
  | [], _, _, _, .nil => by rw [nkAll]; exact .nil
  | d :: ds, _, _, hn, .cons h1 h2 => by
    rw [nestAll, Bool.and_eq_true] at hn
    rw [nkAll]
    exact .cons (nk_is d _ _ hn.1 h1) (nkAll_is ds _ _ hn.2 h2)
end
mutual
theorem nk_depth : ∀ d : PyData, nest d = true → (nk d).depth = d.depth
  | .int i, _ => by rw [nk, NestedKey.depth, PyData.depth]
  | .tuple xs, h => by
    rw [nest] at h
    rw [nk, NestedKey.depth, PyData.depth, nkAll_depth xs h]
  | .none, h => by cases h
  | .bool _, h => by cases h
  | .str _, h => by cases h
  | .list _, h => by cases h
  | .dict _, h => by cases h
theorem nkAll_depth : ∀ ds : List PyData, nestAll ds = true → NestedKey.depthAll (nkAll ds) = PyData.depthAll ds
  | [], _ => by rw [nkAll, NestedKey.depthAll, PyData.depthAll]
  | d :: ds, h => by
    rw [nestAll, Bool.and_eq_true] at h
    rw [nkAll, NestedKey.depthAll, PyData.depthAll, nk_depth d h.1, nkAll_depth ds h.2]
end
/-! ## the dict -/
def lookD (kvs : List (PyData × PyData)) (d : PyData) : Option PyData := (kvs.find? fun p => PyData.eqv p.1 d).map (·.2)
def storeD (kvs : List (PyData × PyData)) (d e : PyData) : List (PyData × PyData) := if (lookD kvs d).isSome = true then kvs.map (fun p => if PyData.eqv p.1 d = true then (p.1, e) else p) else kvs ++ [(d, e)]
/-- a key: whole numbers (false), nested tuples (true) -/
def KeyOk : Bool → PyData → Prop
  | false, d => ∃ i, d = .int i
  | true, d => ∃ xs, d = .tuple xs ∧ nestAll xs = true ∧ d.depth ≤ 8
theorem KeyOk.nest {κ : Bool} {d : PyData} (h : KeyOk κ d) : nest d = true := by
  cases κ with
  | false => obtain ⟨i, rfl⟩ := h; rfl
  | true => obtain ⟨xs, rfl, h, _⟩ := h; rw [CR.nest]; exact h
def IRel (G : Hp) (q : Int × Value) (p : PyData × PyData) : Prop := p.1 = .int q.1 ∧ ∃ vv, RelV vv q.2 ∧ Dp K0 G vv p.2
def TRel (G : Hp) (x : NestedKey × Addr × Value) (p : PyData × PyData) : Prop := x.1 = nk p.1 ∧ KeyOk true p.1 ∧ Dp K0 G (.ref x.2.1) p.1 ∧ ∃ vv, RelV vv x.2.2 ∧ Dp K0 G vv p.2
/-- the object itself -/
def ObjIs (a : Addr) (o : Obj) : Heap → Prop := fun h => h.get? a = some o
def DictI (P : Program) (w : World) (o : Obj) (q : List (Int × Value)) : Prop := ∃ es ep, o.ExactDict ∧ o.data = .dict es ep ∧ PySem.KeysOf (intKind P w) es ∧ PySem.Pairs (intKind P w) es.toList q ∧ (q.map (·.1)).Nodup
def DictT (P : Program) (w : World) (o : Obj) (xs : List (NestedKey × Addr × Value)) : Prop :=
  ∃ es ep, o.ExactDict ∧ o.data = .dict es ep ∧ es.toList = xs.map (entryOfKey (nestedKind P w)) ∧ (xs.map (·.1)).Nodup
def DictO (P : Program) (w : World) : Bool → Obj → List (PyData × PyData) → Hp → Prop
  | false, o, kvs, G => ∃ q, DictI P w o q ∧ Paired (IRel G) q kvs
  | true, o, kvs, G => ∃ xs, DictT P w o xs ∧ Paired (TRel G) xs kvs
/-- at a stands the dict kvs -/
def DictAt (P : Program) (w : World) (κ : Bool) (kvs : List (PyData × PyData)) (a : Addr) (G H : Hp) : Prop := (a == sysModules) = false ∧ ∃ o, H a = some (.ext (ObjIs a o)) ∧ DictO P w κ o kvs G
theorem IRel.mono {G G2 : Hp} (e : Ex G G2) {q : Int × Value} {p : PyData × PyData} (h : IRel G q p) : IRel G2 q p := let ⟨a, v, b, c⟩ := h; ⟨a, v, b, c.mono e⟩
theorem TRel.mono {G G2 : Hp} (e : Ex G G2) {q : NestedKey × Addr × Value} {p : PyData × PyData} (h : TRel G q p) : TRel G2 q p := let ⟨a, k, b, v, r, c⟩ := h; ⟨a, k, b.mono e, v, r, c.mono e⟩
theorem DictO.mono {P : Program} {w : World} {κ : Bool} {o : Obj} {kvs : List (PyData × PyData)} {G G2 : Hp} (e : Ex G G2) (h : DictO P w κ o kvs G) : DictO P w κ o kvs G2 := by
  cases κ with
  | false => obtain ⟨q, h2, h3⟩ := h; exact ⟨q, h2, L2.Paired.mapP h3 fun _ _ => IRel.mono e⟩
  | true => obtain ⟨q, h2, h3⟩ := h; exact ⟨q, h2, L2.Paired.mapP h3 fun _ _ => TRel.mono e⟩
theorem dictAt_stable {P : Program} {w : World} {κ : Bool} {kvs : List (PyData × PyData)} : Stable (DictAt P w κ kvs) := fun a G H G2 H2 ⟨h1, o, h2, h3⟩ eG eH e => ⟨h1, o, by rw [e]; exact h2, h3.mono eG⟩
theorem objIs_ok {P : Program} {w : World} {a : Addr} {o : Obj} {H : Hp} {h : Heap} (x : h.get? a = some o) : ObjOk P w H h a (.ext (ObjIs a o)) := ⟨x, ⟨o, x⟩, fun h1 h2 x st => st o x⟩
theorem paired_find {α β : Type} {R : α → β → Prop} {f : α → Bool} {g : β → Bool} (hfg : ∀ a b, R a b → f a = g b) : ∀ {l1 : List α} {l2 : List β}, Paired R l1 l2 → (l1.find? f = none ∧ l2.find? g = none) ∨ ∃ a b, l1.find? f = some a ∧ l2.find? g = some b ∧ R a b
  | _, _, .nil => .inl ⟨rfl, rfl⟩
  | a :: l1, b :: l2, .cons r t => by
    have e := hfg a b r
    cases hg : g b with
    | true => exact .inr ⟨a, b, by rw [List.find?_cons, e, hg], by rw [List.find?_cons, hg], r⟩
    | false =>
      rw [List.find?_cons, List.find?_cons, e, hg]
      exact paired_find hfg t
theorem paired_map {α β : Type} {R : α → β → Prop} {f : α → α} {g : β → β} (hfg : ∀ a b, R a b → R (f a) (g b)) : ∀ {l1 : List α} {l2 : List β}, Paired R l1 l2 → Paired R (l1.map f) (l2.map g)
  | _, _, .nil => .nil
  | _, _, .cons r t => .cons (hfg _ _ r) (paired_map hfg t)
section
variable {X : Cx} {pins : List (Addr × Obj)} {σ : L2.St} {H : Hp} {s : Shared}
theorem key_int {G : Hp} {x : V} {v : Value} {d : PyData} (h : Dp K0 G x d) (r : RelV x v) (k : KeyOk false d) : ∃ i t, d = .int i ∧ v = .int i t := by
  obtain ⟨i, rfl⟩ := k
  rw [dpi_int h] at r
  obtain ⟨t, rfl⟩ := r
  exact ⟨i, t, rfl, rfl⟩
theorem key_tup (I : Inv X pins σ H s) {G : Hp} {x : V} {v : Value} {d : PyData} (e : Ex G H) (h : Dp K0 G x d) (r : RelV x v) (k : KeyOk true d) : ∃ p, x = .ref p ∧ v = .ref p ∧ (nestedKind X.prog X.w).is s.heap (nk d) p := by
  have hn := k.nest
  obtain ⟨xs, rfl, _, hd⟩ := k
  obtain ⟨as, rd⟩ := Dp.reads I _ _ _ (dpK (K := X.K) _ _ (h.mono e)) r
  obtain ⟨p, vs, rfl, h1, h2⟩ := dpi_tup h
  cases r
  exact ⟨p, rfl, rfl, nk_is _ _ _ hn rd, by rw [nk_depth _ hn]; exact hd⟩
theorem dict_int (I : Inv X pins σ H s) {a : Addr} {o : Obj} {q : List (Int × Value)} (h : H a = some (.ext (ObjIs a o))) (d : DictI X.prog X.w o q) : s.heap.DictOf (intKind X.prog X.w) a q := let ⟨es, ep, r⟩ := d; ⟨o, es, ep, (I.hok a _ h).1, r⟩
theorem dict_tup (I : Inv X pins σ H s) {a : Addr} {o : Obj} {xs : List (NestedKey × Addr × Value)} {kvs : List (PyData × PyData)} {G : Hp} (e : Ex G H) (h : H a = some (.ext (ObjIs a o))) (d : DictT X.prog X.w o xs) (hp : Paired (TRel G) xs kvs) : s.heap.DictOfH (nestedKind X.prog X.w) a xs := by
  obtain ⟨es, ep, e2, e3, e4, e5⟩ := d
  have e1 : s.heap.get? a = some o := (I.hok a _ h).1
  refine ⟨o, es, ep, e1, e2, e3, e4, fun x hx => ?_, e5⟩
  have key : ∀ {xs : List (NestedKey × Addr × Value)} {kvs : List (PyData × PyData)}, Paired (TRel G) xs kvs → ∀ x ∈ xs, (nestedKind X.prog X.w).is s.heap x.1 x.2.1 := fun {xs kvs} hp => by
    induction hp with
    | nil => intro x hx; cases hx
    | cons r t ih =>
      intro x hx
      rcases List.mem_cons.mp hx with rfl | hx
      · obtain ⟨q1, q2, q3, _⟩ := r
        obtain ⟨p, e6, _, e7⟩ := key_tup I e q3 (v := .ref x.2.1) rfl q2
        cases e6
        rw [q1]
        exact e7
      · exact ih x hx
  exact key hp x hx
theorem find_int {G : Hp} {q : List (Int × Value)} {kvs : List (PyData × PyData)} (h : Paired (IRel G) q kvs) (i : Int) : (valueAt q i = none ∧ lookD kvs (.int i) = none) ∨ ∃ u vv e, valueAt q i = some u ∧ lookD kvs (.int i) = some e ∧ RelV vv u ∧ Dp K0 G vv e := by
  have hfg : ∀ (a : Int × Value) (b : PyData × PyData), IRel G a b → decide (a.1 = i) = PyData.eqv b.1 (.int i) := fun a b r => by
    rw [r.1, PyData.eqv]
    rfl
  unfold valueAt lookD
  rcases paired_find hfg h with ⟨h1, h2⟩ | ⟨a, b, h1, h2, r⟩
  · exact .inl ⟨by rw [h1]; rfl, by rw [h2]; rfl⟩
  · obtain ⟨_, vv, r1, r2⟩ := r
    exact .inr ⟨a.2, vv, b.2, by rw [h1]; rfl, by rw [h2]; rfl, r1, r2⟩
theorem find_tup {G : Hp} {xs : List (NestedKey × Addr × Value)} {kvs : List (PyData × PyData)} (h : Paired (TRel G) xs kvs) {d : PyData} (hn : nest d = true) : (atKey xs (nk d) = none ∧ lookD kvs d = none) ∨ ∃ p vv e, atKey xs (nk d) = some p ∧ lookD kvs d = some e ∧ RelV vv p.2 ∧ Dp K0 G vv e := by
  have hfg : ∀ (a : NestedKey × Addr × Value) (b : PyData × PyData), TRel G a b → decide (a.1 = nk d) = PyData.eqv b.1 d := fun a b r => by
    rw [eqv_nest r.2.1.nest hn, r.1]
  unfold atKey lookD
  rcases paired_find hfg h with ⟨h1, h2⟩ | ⟨a, b, h1, h2, r⟩
  · exact .inl ⟨by rw [h1]; rfl, by rw [h2]; rfl⟩
  · obtain ⟨_, _, _, vv, r1, r2⟩ := r
    exact .inr ⟨a.2, vv, b.2, by rw [h1]; rfl, by rw [h2]; rfl, r1, r2⟩
theorem op_inD (hu : X.A.units + 64 < cLine) : OpR X (compareOp .In) (fun x y H Q => ∃ a κ kvs G d, y = .ref a ∧ DictAt X.prog X.w κ kvs a G H ∧ Ex G H ∧ Dp K0 G x d ∧ KeyOk κ d ∧ Q (.bl (lookD kvs d).isSome) H) := by
  intro pins s σ H x y v u Q I rx ry h
  obtain ⟨a, κ, kvs, G, d, rfl, hD, e, hd, hk, q⟩ := h
  cases ry
  cases κ with
  | false =>
    obtain ⟨hs, o, h1, qs, h0, h2⟩ := hD
    obtain ⟨i, t, rfl, rfl⟩ := key_int hd rx hk
    refine wpAny_in_of (knd := intKind X.prog X.w) (k := i) (by show Value.isInt i (.int i t) = true; simp [Value.isInt]) hs (dict_int I h1 h0).mapOf ?_
    have e1 : (valueAt qs i).isSome = (lookD kvs (.int i)).isSome := by
      rcases find_int h2 i with ⟨z1, z2⟩ | ⟨_, _, _, z1, z2, _⟩ <;> rw [z1, z2] <;> rfl
    rw [e1]
    exact ⟨.bl _, H, I.tok _, rfl, q⟩
  | true =>
    obtain ⟨hs, o, h1, xs, h0, h2⟩ := hD
    obtain ⟨p, rfl, rfl, his⟩ := key_tup I e hd rx hk
    refine wpAny_in_heap (knd := nestedKind X.prog X.w) (by show X.A.units + 1 + 8 < cLine; omega) his hs (dict_tup I e h1 h0 h2) ?_
    have e1 : (atKey xs (nk d)).isSome = (lookD kvs d).isSome := by
      rcases find_tup h2 hk.nest with ⟨z1, z2⟩ | ⟨_, _, _, z1, z2, _⟩ <;> rw [z1, z2] <;> rfl
    rw [e1]
    exact ⟨.bl _, H, I.tok _, rfl, q⟩
theorem ix_D (hu : X.A.units + 64 < cLine) : IxR X (fun x y H Q => ∃ a κ kvs G d e, x = .ref a ∧ DictAt X.prog X.w κ kvs a G H ∧ Ex G H ∧ Dp K0 G y d ∧ KeyOk κ d ∧ lookD kvs d = some e ∧ ∀ v, Dp K0 G v e → Q v H) := by
  intro value slice pins s σ H x y v u Q I rx ry h hs
  obtain ⟨a, κ, kvs, G, d, e0, rfl, hD, e, hd, hk, hl, q⟩ := h
  cases rx
  cases κ with
  | false =>
    obtain ⟨hsm, o, h1, qs, h0, h2⟩ := hD
    obtain ⟨i, t, rfl, rfl⟩ := key_int hd ry hk
    rcases find_int h2 i with ⟨z1, z2⟩ | ⟨uu, vv, ee, z1, z2, r1, r2⟩
    · rw [z2] at hl; cases hl
    · rw [z2] at hl
      cases hl
      refine subscriptTail_builtinR (x := uu) (dict_int I h1 h0).typeIs slot_dict_getitem.lookup (wpAny_getItem_of (knd := intKind X.prog X.w) (k := i) (by show Value.isInt i (.int i t) = true; simp [Value.isInt]) (dict_int I h1 h0).mapOf z1 ⟨rfl, vv, H, I.tok _, r1, q vv r2⟩) hs
  | true =>
    obtain ⟨hsm, o, h1, xs, h0, h2⟩ := hD
    obtain ⟨p, rfl, rfl, his⟩ := key_tup I e hd ry hk
    rcases find_tup h2 hk.nest with ⟨z1, z2⟩ | ⟨pp, vv, ee, z1, z2, r1, r2⟩
    · rw [z2] at hl; cases hl
    · rw [z2] at hl
      cases hl
      exact subscriptTail_builtinR (x := pp.2) (dict_tup I e h1 h0 h2).typeIs slot_dict_getitem.lookup (wpAny_getItem_heap (knd := nestedKind X.prog X.w) (by show X.A.units + 1 + 8 < cLine; omega) his (dict_tup I e h1 h0 h2) z1 ⟨rfl, vv, H, I.tok _, r1, q vv r2⟩) hs
theorem paired_len {α β : Type} {R : α → β → Prop} : ∀ {l1 : List α} {l2 : List β}, Paired R l1 l2 → l1.length = l2.length
  | _, _, .nil => rfl
  | _, _, .cons _ t => congrArg (· + 1) (paired_len t)
theorem any_isSome {α : Type} (p : α → Bool) : ∀ l : List α, l.any p = (l.find? p).isSome
  | [] => rfl
  | a :: l => by
    rw [List.any_cons, List.find?_cons, any_isSome p l]
    cases p a <;> rfl
theorem store_int {G : Hp} {q : List (Int × Value)} {kvs : List (PyData × PyData)} (h : Paired (IRel G) q kvs) {i : Int} {u : Value} {vv : V} {e : PyData} (r : RelV vv u) (d : Dp K0 G vv e) : Paired (IRel G) (stored q i u) (storeD kvs (.int i) e) := by
  have any_find : (q.any fun kv => decide (kv.1 = i)) = (valueAt q i).isSome := by
    unfold valueAt
    rw [Option.isSome_map, any_isSome]
  unfold stored storeD
  rw [any_find]
  have e1 : (valueAt q i).isSome = (lookD kvs (.int i)).isSome := by
    rcases find_int h i with ⟨z1, z2⟩ | ⟨_, _, _, z1, z2, _⟩ <;> rw [z1, z2] <;> rfl
  rw [e1]
  split
  · refine paired_map (fun a b z => ?_) h
    have ek : PyData.eqv b.1 (.int i) = decide (a.1 = i) := by
      rw [z.1, PyData.eqv]
      rfl
    by_cases hk : a.1 = i
    · rw [if_pos hk, if_pos (by rw [ek]; exact decide_eq_true hk)]
      exact ⟨z.1, vv, r, d⟩
    · rw [if_neg hk, if_neg (by rw [ek, decide_eq_false hk]; exact Bool.false_ne_true)]
      exact z
  · exact Paired.snoc h ⟨rfl, vv, r, d⟩
theorem store_tup {G : Hp} {xs : List (NestedKey × Addr × Value)} {kvs : List (PyData × PyData)} (h : Paired (TRel G) xs kvs) {k : PyData} {p : Addr} {u : Value} {vv : V} {e : PyData} (hk : KeyOk true k) (hp : Dp K0 G (.ref p) k) (r : RelV vv u) (d : Dp K0 G vv e) : Paired (TRel G) (storedH xs (nk k) p u) (storeD kvs k e) := by
  unfold storedH storeD
  have e1 : (atKey xs (nk k)).isSome = (lookD kvs k).isSome := by
    rcases find_tup h hk.nest with ⟨z1, z2⟩ | ⟨_, _, _, z1, z2, _⟩ <;> rw [z1, z2] <;> rfl
  rw [e1]
  split
  · refine paired_map (fun a b z => ?_) h
    have ek : PyData.eqv b.1 k = decide (a.1 = nk k) := by
      rw [eqv_nest z.2.1.nest hk.nest, z.1]
    unfold putAt
    by_cases hq : a.1 = nk k
    · rw [if_pos hq, if_pos (by rw [ek]; exact decide_eq_true hq)]
      exact ⟨z.1, z.2.1, z.2.2.1, vv, r, d⟩
    · rw [if_neg hq, if_neg (by rw [ek, decide_eq_false hq]; exact Bool.false_ne_true)]
      exact z
  · exact Paired.snoc h ⟨rfl, hk, hp, vv, r, d⟩
theorem set_D (hu : X.A.units + 64 < cLine) : PSet X (fun o i v H Q => ∃ a κ kvs G d e, o = .ref a ∧ DictAt X.prog X.w κ kvs a G H ∧ Ex G H ∧ Dp K0 G i d ∧ KeyOk κ d ∧ Dp K0 G v e ∧ kvs.length ≤ sizeLine ∧
    ∀ ob, DictAt X.prog X.w κ (storeD kvs d e) a G (upd H a (.ext (ObjIs a ob))) → (∀ c q, H c = some (CodeO c q) → c ≠ a) → Q (upd H a (.ext (ObjIs a ob)))) := by
  intro pins s σ H o i v ov iv u Q I ro ri rv h
  obtain ⟨a, κ, kvs, G, d, e, rfl, ⟨hsm, o, h1, hD⟩, eG, hd, hk, he, hz, q⟩ := h
  cases ro
  have hno : ∀ es ep, o.data = .dict es ep → ∀ c q, H c = some (CodeO c q) → c ≠ a := fun es ep ed c q hc z => by
    subst z
    obtain ⟨oc, vs, t, e2, e3, _⟩ := (I.hok _ _ hc).1
    have e4 : s.heap.get? c = some o := (I.hok _ _ h1).1
    rw [e4] at e2
    cases e2
    rw [ed] at e3
    cases e3
  cases κ with
  | false =>
    obtain ⟨qs, h0, h2⟩ := hD
    obtain ⟨i', t, rfl, rfl⟩ := key_int hd ri hk
    refine wpAny_setItem_pairs (knd := intKind X.prog X.w) (k := i') (by show Value.isInt i' (.int i' t) = true; simp [Value.isInt]) (dict_int I h1 h0) (fun h' hm' sb => ?_) (by rw [paired_len h2]; exact hz)
    obtain ⟨ob, es, ep, e1, r⟩ := hm'
    obtain ⟨es0, ep0, _, ed0, _⟩ := h0
    exact ⟨_, I.write (t' := s.toks + 1) (by rw [h1]; trivial) (.inl rfl) (fun b ob hb q => (sb.2 b hb).trans q) ⟨ob, e1⟩ (objIs_ok e1), q ob ⟨hsm, ob, upd_same, _, ⟨es, ep, r⟩, store_int h2 rv he⟩ (hno _ _ ed0)⟩
  | true =>
    obtain ⟨xs, h0, h2⟩ := hD
    obtain ⟨p, rfl, rfl, his⟩ := key_tup I eG hd ri hk
    refine wpAny_setItem_heap (knd := nestedKind X.prog X.w) (by show X.A.units + 1 + 8 < cLine; omega) his (dict_tup I eG h1 h0 h2) (fun h' hm' sb => ?_) (by rw [paired_len h2]; exact hz)
    obtain ⟨ob, es, ep, e1, e2, e3, e4, _, e5⟩ := hm'
    obtain ⟨es0, ep0, _, ed0, _⟩ := h0
    exact ⟨_, I.write (t' := _) (by rw [h1]; trivial) (.inl rfl) (fun b ob hb q => (sb.2 b hb).trans q) ⟨ob, e1⟩ (objIs_ok e1), q ob ⟨hsm, ob, upd_same, _, ⟨es, ep, e2, e3, e4, e5⟩, store_tup h2 hk hd rv he⟩ (hno _ _ ed0)⟩
/-- {} -/
theorem pe_dnew {pos : Pos} (κ : Bool) : PE X (.Dict [] [] pos) (fun _ H Q => ∀ p o, H p = none → (∀ G, DictAt X.prog X.w κ [] p G (upd H p (.ext (ObjIs p o)))) → Q (.ref p) (upd H p (.ext (ObjIs p o)))) := ⟨fun pins s σ H Q I h => by
  have hs : (s.heap.objs.size == sysModules) = false := beq_eq_false_iff_ne.mpr (Ne.symm (Nat.ne_of_lt I.big))
  have e1 : (s.heap.push { cls := .type "dict", data := .dict #[] }).get? s.heap.objs.size = some { cls := .type "dict", data := .dict #[] } := Heap.get?_push_size _ rfl
  refine wpAny_Dict_empty ⟨.ref s.heap.objs.size, _, I.laid (a := s.heap.objs.size) (t' := s.toks) (fun _ _ q => Heap.get?_push_of_some _ q) (Nat.le_refl _) (objIs_ok e1), rfl, h _ _ (I.hok.fresh (Nat.le_refl _)) fun G => ⟨hs, _, upd_same, ?_⟩⟩
  cases κ with
  | false => exact ⟨[], ⟨#[], 0, ⟨rfl, rfl, rfl⟩, rfl, (fun e he => by simp at he), .nil, List.nodup_nil⟩, .nil⟩
  | true => exact ⟨[], ⟨#[], 0, ⟨rfl, rfl, rfl⟩, rfl, rfl, List.nodup_nil⟩, .nil⟩⟩
end
/-! ## d.items() -/
def Itx (d : Addr) (o : Obj) (ks vs : List V) : It :=
  ⟨fun i H => H d = some (.ext (ObjIs d o)) ∧ i < ks.length, fun i H x H' => ∃ T k v, ks[i]? = some k ∧ vs[i]? = some v ∧ x = .ref T ∧ H T = none ∧ H' = upd H T (.tup [k, v]), fun i H => H d = some (.ext (ObjIs d o)) ∧ ks.length ≤ i⟩
section
variable {P : Program} {w : World} {K : PySem.W.Frag}
theorem turn_itemsX {d : Addr} {o : Obj} {es : Array DictEntry} {ep : Nat} {ks vs : List V} {elts : List Expr} {kk : Nat} {tpos : Pos} (it : Addr) (hx : o.ExactDict) (hod : o.data = .dict es ep) (hk : Vals ks (es.toList.map (·.key))) (hv : Vals vs (es.toList.map (·.val))) :
    Turn P w K (.Tuple elts kk tpos) (Itx d o ks vs) [it] it (fun i h => ∃ ok ov, IsItemIter h it d i es.size ep ok ov) where
  mem := by simp
  obj := fun i h st b hb => by
    have e : b = it := by simpa using hb
    subst e
    obtain ⟨ok, ov, e⟩ := st
    exact ⟨_, e, fun v z => nomatch z⟩
  keep := fun i h h' st k => let ⟨ok, ov, e⟩ := st; ⟨ok, ov, k it (by simp) _ e⟩
  item := by
    intro X hP hw hK hc i pins s σ H E I hf st hg
    subst hP hw hK
    obtain ⟨hd, hi⟩ := hg
    have hraw : s.heap.DictRaw d es ep := ⟨o, (I.hok d _ hd).1, hx, hod⟩
    have hks : ks.length = es.size := by rw [hk.length, List.length_map, Array.length_toList]
    have hlt : i < es.size := by rw [← hks]; exact hi
    obtain ⟨ku, hku, rk⟩ := hk.get (List.getElem?_eq_getElem hi)
    have hvs : vs.length = es.size := by rw [hv.length, List.length_map, Array.length_toList]
    have hi2 : i < vs.length := by omega
    obtain ⟨vu, hvu, rv⟩ := hv.get (List.getElem?_eq_getElem hi2)
    have ek : ku = es[i].key := by
      rw [List.getElem?_map, Array.getElem?_toList, Array.getElem?_eq_getElem hlt] at hku
      exact (Option.some.inj hku).symm
    have ev : vu = es[i].val := by
      rw [List.getElem?_map, Array.getElem?_toList, Array.getElem?_eq_getElem hlt] at hvu
      exact (Option.some.inj hvu).symm
    rw [ek] at rk
    rw [ev] at rv
    obtain ⟨ok, ov, he⟩ := st
    have hitl : it < s.heap.objs.size := Heap.lt_size he
    refine wpAny_pyNext_items_item_raw he hraw hlt fun h' ho hT hz hkk => ?_
    refine ⟨_, rfl, wpAny_letOwnedTupleGo_items (s := { s with heap := h' }) ho fun h'' he' sb => ?_⟩
    have hT2 : h''.get? s.heap.objs.size = some { cls := .type "tuple", data := .seq #[es[i].key, es[i].val] } := (sb.2 _ (Nat.ne_of_gt hitl)).trans hT
    have new : ObjOk X.prog X.w (upd H s.heap.objs.size (.tup [ks[i], vs[i]])) h'' s.heap.objs.size (.tup [ks[i], vs[i]]) :=
      ⟨by show 2 ≤ sizeLine; decide, [es[i].key, es[i].val], .cons rk (.cons rv .nil), ⟨_, hT2, rfl, _, rfl⟩⟩
    have I1 : Inv X pins σ (upd H s.heap.objs.size (.tup [ks[i], vs[i]])) { s with heap := h'' } :=
      I.turnedNew (t' := s.toks) (ch := [it]) (fun b ob hb e => (sb.2 b (by simpa using hb)).trans (hkk b ob (by simpa using hb) e)) hf (Nat.le_refl _) new
    refine ⟨.ref s.heap.objs.size, _, I1, rfl, ⟨_, _, _, List.getElem?_eq_getElem hi, List.getElem?_eq_getElem hi2, rfl, I.hok.fresh (Nat.le_refl _), rfl⟩, ⟨_, _, he'⟩, fun b hb => ?_⟩
    have e : b = it := by simpa using hb
    rw [e, upd_ne (Nat.ne_of_lt hitl)]
    exact (hf it (by simp)).1
  done := by
    intro X hP hw hK hc i pins s σ H E I hf st hg
    subst hP hw hK
    obtain ⟨hd, hi⟩ := hg
    obtain ⟨f0, f1, f2, f3, f4, f5⟩ := hf it (by simp)
    have hraw : s.heap.DictRaw d es ep := ⟨o, (I.hok d _ hd).1, hx, hod⟩
    have hks : ks.length = es.size := by rw [hk.length, List.length_map, Array.length_toList]
    obtain ⟨ok, ov, he⟩ := st
    exact wpAny_pyNext_items_end_raw (I.ok.hd hc) he hraw (by rw [← hks]; exact hi) fun h' eb => ⟨rfl, I.turned (t' := s.toks) (fun b ob hb e => eb b ob hb e) f0 f1 f3 f4 f5⟩
  self := fun A i s Q E st h => let ⟨_, _, e⟩ := st; PySem.W.kcp_self e h
end
section
variable {X : Cx} {e : Expr} {td : TE} {apos cpos : Pos}
theorem pi_itemsX {elts : List Expr} {kk : Nat} {tpos : Pos} (he : PE X e td) (hbase : attributeBase e "items" X.env (eval e X.env) = eval e X.env := by rfl) (hline : (apos.endLine == cpos.line) = true := by rfl) :
    PI X (.Tuple elts kk tpos) (.Call (.Attribute e "items" apos) [] [] cpos) (fun σ H R => td σ H fun x H1 => ∃ d o es ep ks vs, x = .ref d ∧ (d == sysModules) = false ∧ H1 d = some (.ext (ObjIs d o)) ∧ o.ExactDict ∧ o.data = .dict es ep ∧ Vals ks (es.toList.map (·.key)) ∧ Vals vs (es.toList.map (·.val)) ∧ R (Itx d o ks vs) H1) := by
  refine ⟨fun pins s σ H R I h => ?_⟩
  refine wpAny_Call_method (T := "dict") (id := "dict.items") hbase rfl hline F.plainAttrs_dict F.slot_dict_items F.type_dict_items (thn (he.run pins s σ H _ I h) fun u s1 ⟨x, H1, I1, rx, d, o, es, ep, ks, vs, ex, hs, hd, hx, hdt, hk, hv, q⟩ => ?_)
  subst ex
  obtain rfl : u = Value.ref d := rx
  have e1 : s1.heap.get? d = some o := (I1.hok d _ hd).1
  have hraw : s1.heap.DictRaw d es ep := ⟨o, e1, hx, hdt⟩
  refine ⟨hraw.typeIs, (fun o' e' => by cases e'; exact ⟨o, e1, hx.2.1⟩), ?_⟩
  have I2 : Inv X pins σ H1 { s1 with heap := s1.heap.push { cls := .type "dict_items", data := .fields #[.ref d] } } := I1.kept (t' := s1.toks) fun b ob q => Heap.get?_push_of_some _ q
  have fin : wpAny (model X.prog X.w) X.A (pyIter (.ref s1.heap.objs.size)) (PIE X pins σ (.Tuple elts kk tpos) R) X.xe { s1 with heap := s1.heap.push { cls := .type "dict_items", data := .fields #[.ref d] } } := by
    refine wpAny_pyIter_items_raw (d := d) ⟨_, Heap.get?_push_size _ rfl, rfl, rfl⟩ (hraw.at fun o' e' => Heap.get?_push_of_some _ e') (pi_one (tk := s1.toks) I2 _ (turn_itemsX _ hx hdt hk hv) ⟨.none, .none, ?_⟩ q)
    exact Heap.get?_push_size _ rfl
  show wpAny _ _ (callWith cpos (.builtin "dict.items") [.ref d] [] []) _ X.xe s1
  exact method_meetsIn F.slot_dict_items F.entry_dict_items rfl (PySem.evalArgs_none ⟨rfl, hraw.typeIs, F.args_dict_items_1 _, _, meets_dict_items_raw d hs, ⟨⟨es, ep, hraw⟩, fin⟩⟩)
end
theorem dictO_items {P : Program} {w : World} {κ : Bool} {o : Obj} {kvs : List (PyData × PyData)} {G : Hp} (h : DictO P w κ o kvs G) : ∃ es ep ks vs, o.ExactDict ∧ o.data = .dict es ep ∧ Vals ks (es.toList.map (·.key)) ∧ Vals vs (es.toList.map (·.val)) ∧ DpAll K0 G ks (kvs.map (·.1)) ∧ DpAll K0 G vs (kvs.map (·.2)) := by
  cases κ with
  | false =>
    obtain ⟨q, ⟨es, ep, hx, hd, _, hp, _⟩, hr⟩ := h
    have key : ∀ {l : List DictEntry} {q : List (Int × Value)} {kvs : List (PyData × PyData)}, PySem.Pairs (intKind P w) l q → Paired (IRel G) q kvs → ∃ ks vs, Vals ks (l.map (·.key)) ∧ Vals vs (l.map (·.val)) ∧ DpAll K0 G ks (kvs.map (·.1)) ∧ DpAll K0 G vs (kvs.map (·.2)) := fun {l q kvs} hp => by
      induction hp generalizing kvs with
      | nil =>
        intro hr
        cases hr
        exact ⟨[], [], .nil, .nil, .nil, .nil⟩
      | @cons e kv es q hi hv t ih =>
        intro hr
        cases hr with
        | cons r t2 =>
          obtain ⟨ks, vs, a, b, c, d⟩ := ih t2
          obtain ⟨r1, vv, r2, r3⟩ := r
          obtain ⟨tk, hk⟩ := Value.isInt_shape (show Value.isInt kv.1 e.key = true from hi)
          refine ⟨.int kv.1 :: ks, vv :: vs, .cons ⟨tk, hk⟩ a, .cons (by show RelV vv e.val; rw [hv]; exact r2) b, .cons (show Dp K0 G (.int kv.1) _ from by show Dp K0 G (.int kv.1) (Prod.fst _); rw [r1]; exact .int _) c, .cons r3 d⟩
    obtain ⟨ks, vs, a, b, c, d⟩ := key hp hr
    exact ⟨es, ep, ks, vs, hx, hd, a, b, c, d⟩
  | true =>
    obtain ⟨xs, ⟨es, ep, hx, hd, he, _⟩, hr⟩ := h
    have key : ∀ {xs : List (NestedKey × Addr × Value)} {kvs : List (PyData × PyData)}, Paired (TRel G) xs kvs → ∃ ks vs, Vals ks ((xs.map (entryOfKey (nestedKind P w))).map (·.key)) ∧ Vals vs ((xs.map (entryOfKey (nestedKind P w))).map (·.val)) ∧ DpAll K0 G ks (kvs.map (·.1)) ∧ DpAll K0 G vs (kvs.map (·.2)) := fun {xs kvs} hr => by
      induction hr with
      | nil => exact ⟨[], [], .nil, .nil, .nil, .nil⟩
      | @cons x p xs kvs r t ih =>
        obtain ⟨ks, vs, a, b, c, d⟩ := ih
        obtain ⟨_, _, r1, vv, r2, r3⟩ := r
        exact ⟨.ref x.2.1 :: ks, vv :: vs, .cons (show RelV (.ref x.2.1) (.ref x.2.1) from rfl) a, .cons (show RelV vv x.2.2 from r2) b, .cons r1 c, .cons r3 d⟩
    obtain ⟨ks, vs, a, b, c, d⟩ := key hr
    rw [← he] at a b
    exact ⟨es, ep, ks, vs, hx, hd, a, b, c, d⟩
end CR

set_option Elab.async false
set_option linter.all false
set_option maxRecDepth 100000
set_option maxHeartbeats 1000000
/-! # Walks: conditions -/
namespace CR
open PySem L2 Evl PyProof.Rows
/-- the built-in names are not the module's -/
structure MgN (mg : Str → Option Value) : Prop where
  range : mg ("range" : Str) = none
  len : mg ("len" : Str) = none
  sum : mg ("sum" : Str) = none
  list : mg ("list" : Str) = none
  tuple : mg ("tuple" : Str) = none
  min : mg ("min" : Str) = none
  sorted : mg ("sorted" : Str) = none
  all : mg ("all" : Str) = none
  any : mg ("any" : Str) = none
  long : ∃ t, mg ("LONG" : Str) = some (.int 6 t)
  values : ∃ t, mg ("VALUES" : Str) = some (.int 2000 t)
  exact : ∃ t, mg ("EXACT" : Str) = some (.int 5000 t)
/-- the table of the def's code object -/
structure TbOf (base : Heap) (mg : Str → Option Value) (T : List TabN) (code : Value) (q : Option Str) (c P : Addr) : Prop where
  code : code = .ref c
  g : GxR.TabB base mg c P
  l : LamX.TabB base mg c P
  mem : (P, q) ∈ T
  uniq : ∀ p ∈ T, p.1 = P → p.2 = q
theorem gxS_by {N : List Str} {sc scope : Scope} {own : List (Str × Nat)} (h : (blkC N sc scope own && !scope.isCoroutine && (scope.names.all fun y => !decide (y.2 = .cell)) && decide (scope.names.lookup (".0" : Str) = some NameKind.local)) = true) : GxS N sc scope own := by
  simp only [Bool.and_eq_true, Bool.not_eq_true', List.all_eq_true, decide_eq_true_eq, decide_eq_false_iff_not] at h
  obtain ⟨⟨⟨h1, h2⟩, h3⟩, h4⟩ := h
  exact ⟨blkOk_by h1, h2, h3, h4⟩
/-- a def of the module -/
structure DefK (K : PySem.W.Frag) (mg : Str → Option Value) (x : Str) (i : Nat) (ps : List Str) (f : Addr) (fd : FuncData) : Prop where
  fn : Fun K x x (top i) f fd
  mg : mg x = some (.ref f)
  keep : PySem.W.keepIn K (.ref f) = true
  binds : Binds K fd ps []
section
variable {P : Program} {w : World} {K : PySem.W.Frag} {mg : Str → Option Value} {base : Heap} {T : List TabN} {f : Addr} {fd : FuncData}
theorem rises_range : ∀ is : List Int, ((List.range (is.length - 1)).all fun k => decide (is.getD k 0 ≤ is.getD (k + 1) 0)) = risesM is
  | [] => rfl
  | [x] => rfl
  | x :: y :: r => by
    have ih := rises_range (y :: r)
    have e : (x :: y :: r).length - 1 = r.length + 1 := rfl
    rw [e, List.range_succ_eq_map, List.all_cons, List.all_map]
    show (decide (x ≤ y) && _) = (decide (x ≤ y) && risesM (y :: r))
    rw [← ih]
    rfl
theorem rangeD_all (n : Nat) (b : Nat → Bool) : (rangeD 0 n).all (fun y => b (dint y).toNat) = (List.range n).all b := by
  unfold rangeD
  rw [List.all_map]
  congr 1
  funext k
  show b (0 + (k : Int)).toNat = b k
  rw [Int.zero_add, Int.toNat_natCast]
theorem at_encR {is : List Int} {k : Nat} (h : k < is.length) : atI (is.map PyData.int) (k : Int) = some (.int (is.getD k 0)) := by
  refine atI_nat ?_
  rw [List.getElem?_map, List.getElem?_eq_getElem h, List.getD_eq_getElem?_getD, List.getElem?_eq_getElem h]
  rfl
def rRises (ds : List PyData) (d : PyData) : Prop := ∃ is : List Int, ds = [encR is] ∧ is.length ≤ 1000 ∧ d = .bool (risesM is)
theorem scRises : FnScope ["value", "k"] ["value"] (defScope (top 4)) := ⟨rfl, rfl, rfl, by decide +kernel, rfl, by decide +kernel, by decide +kernel⟩
theorem ok_rises {c p : Addr} (D : DefK K mg "rises" 4 ["value"] f fd) (m : MgN mg) (tb : TbOf base mg T fd.code none c p) : FnOk P w K mg base CX0 3 f fd ["value"] (spD T rRises) := by
  refine fn_d (C := 0) D.fn scRises (fun ds d ⟨is, e, _⟩ => by rw [e]; rfl) (fun cdv A outer s H E G ds d hr hcd hR => ?_)
  obtain ⟨is, rfl, hz, rfl⟩ := hR
  refine tr_ret (ev_all (own := [("k", 1)]) (k := 1) [1] (fun y => decide (is.getD (dint y).toNat 0 ≤ is.getD ((dint y).toNat + 1) 0)) (evI_range1 m.range (ev_sub (ev_lenT m.len (ev_var 0 rfl)) ev_int) ⟨by rw [List.length_map]; omega, by rw [List.length_map]; omega⟩) (fun y hy => ?_)
    tb.mem tb.uniq hr m.all tb.g (hcd.symm.trans tb.code) (gxS_by (N := ["value", "k"]) (sc := defScope (top 4)) (by decide +kernel)) rfl scRises.nd) ?_
  · obtain ⟨k, hk⟩ := List.getElem?_of_mem hy
    obtain ⟨h1, rfl⟩ := rangeD_get hk
    rw [List.length_map] at h1
    refine ⟨_, [1], fun i h => h, fun s0 H0 C code fp pn => ⟨evG_name 1 scRises.nd, ?_⟩⟩
    have e1 : dint (PyData.int (0 + (k : Int))) = k := Int.zero_add _
    rw [e1, Int.toNat_natCast]
    refine ev_cmpI (ev_ixT (ev_var 0 rfl) (ev_var 1 rfl) (by rw [Int.zero_add]; exact at_encR (by omega))) (ev_ixT (ev_var 0 rfl) (ev_add (ev_var 1 rfl) ev_int) (by rw [Int.zero_add]; exact at_encR (k := k + 1) (by omega)))
  · rw [rangeD_all _ fun k => decide (is.getD k 0 ≤ is.getD (k + 1) 0), List.length_map]
    have e : ((is.length : Int) - 1).toNat = is.length - 1 := by omega
    rw [e, rises_range]
theorem DefK.cal {x : Str} {i k : Nat} {ps : List Str} {sp : Sp} (D : DefK K mg x i ps f fd) (h : FnOk P w K mg base CX0 k f fd ps sp) : Cal P w K mg base CX0 k x sp := ⟨f, fd, ps, h, D.mg, D.keep, D.binds⟩
theorem sIx_nat0 (n k : Nat) (d : Nat) : HT.sIx n d (some (k : Int)) = Nat.min k n := HT.sIx_nat n d k
theorem cut_to {xs : List PyData} {k : Nat} (h : k ≤ xs.length) : cutD xs none (some (k : Int)) = xs.take k := by
  unfold cutD
  rw [HT.sIx_nat, HT.sIx_none, List.drop_zero, Nat.sub_zero, Nat.min_eq_left h]
theorem cut_from {xs : List PyData} {k : Nat} : cutD xs (some (k : Int)) none = xs.drop k := by
  unfold cutD
  rw [HT.sIx_nat, HT.sIx_none]
  by_cases h : k ≤ xs.length
  · rw [Nat.min_eq_left h, List.take_of_length_le (by rw [List.length_drop]; omega)]
  · rw [Nat.min_eq_right (by omega), Nat.sub_self, List.take_zero, List.drop_of_length_le (by omega)]
theorem inV_ints (x : Int) (r : List Int) : inV (toV (.int x)) ((r.map PyData.int).map toV) = r.contains x := by
  unfold inV
  rw [List.contains_eq_any_beq, List.any_map, List.any_map]
  congr 1
  funext y
  show eqV (.int y) (.int x) = (x == y)
  show (y == x) = (x == y)
  by_cases h : x = y
  · subst h; rfl
  · rw [beq_eq_false_iff_ne.mpr h, beq_eq_false_iff_ne.mpr fun z => h z.symm]
def rDiff (ds : List PyData) (d : PyData) : Prop := ∃ is : List Int, ds = [encR is] ∧ is.length ≤ 1000 ∧ d = .bool (diffM is)
theorem scDiff : FnScope ["value", "k"] ["value"] (defScope (top 5)) := ⟨rfl, rfl, rfl, by decide +kernel, rfl, by decide +kernel, by decide +kernel⟩
theorem ok_diff {c p : Addr} (D : DefK K mg "is_different" 5 ["value"] f fd) (m : MgN mg) (tb : TbOf base mg T fd.code none c p) : FnOk P w K mg base CX0 3 f fd ["value"] (spD T rDiff) := by
  refine fn_d (C := 0) D.fn scDiff (fun ds d ⟨is, e, _⟩ => by rw [e]; rfl) (fun cdv A outer s H E G ds d hr hcd hR => ?_)
  obtain ⟨is, rfl, hz, rfl⟩ := hR
  refine tr_ret (ev_all (own := [("k", 1)]) (k := 1) [1] (fun y => !(is.take (dint y).toNat).contains (is.getD (dint y).toNat 0)) (evI_range1 m.range (ev_lenT m.len (ev_var 0 rfl)) ⟨by rw [List.length_map]; omega, by rw [List.length_map]; omega⟩) (fun y hy => ?_)
    tb.mem tb.uniq hr m.all tb.g (hcd.symm.trans tb.code) (gxS_by (N := ["value", "k"]) (sc := defScope (top 5)) (by decide +kernel)) rfl scDiff.nd) ?_
  · obtain ⟨k, hk⟩ := List.getElem?_of_mem hy
    obtain ⟨h1, rfl⟩ := rangeD_get hk
    rw [List.length_map, Int.toNat_natCast] at h1
    refine ⟨_, [1], fun i h => h, fun s0 H0 C code fp pn => ⟨evG_name 1 scDiff.nd, ?_⟩⟩
    have e1 : dint (PyData.int (0 + (k : Int))) = k := Int.zero_add _
    rw [e1, Int.toNat_natCast]
    refine Ev.eq (ev_notInT (ev_ixT (ev_var 0 rfl) (ev_var 1 rfl) (by rw [Int.zero_add]; exact at_encR h1)) (ev_slT (l := none) (r := some (0 + (k : Int))) (ev_var 0 rfl) trivial (ev_var 1 rfl)) rfl ?_) ?_
    · rw [Int.zero_add, cut_to (by rw [List.length_map]; omega), ← List.map_take]
      exact List.all_eq_true.mpr fun z hz => by
        obtain ⟨w, _, rfl⟩ := List.mem_map.mp hz
        rfl
    · rw [Int.zero_add, cut_to (by rw [List.length_map]; omega), ← List.map_take, inV_ints]
  · rw [rangeD_all _ fun k => !(is.take k).contains (is.getD k 0), List.length_map, Int.toNat_natCast]
    rfl
end
section
variable {X : Cx} {B : Bd} {δ : List SD} {s1 rest : List Stmt} {pos pz p2 p3 : Pos} {P : DP} {j : Nat}
/-- if name == v: no -/
theorem tr_ifNo (n : Nat) {u v z : Str} (hn : δ[n]? = some (.d (.str u))) (h : Tr X B δ rest P) (hne : decide (u = v) = false := by decide +kernel) (hN : X.N[n]? = some z := by rfl) (hv : Vis X.env.scope z := by first | exact Or.inl rfl | exact Or.inr (Or.inl rfl) | exact Or.inr (Or.inr rfl))
    (hd : (z == ("__debug__" : Str)) = false := by decide) (hcd : (z == ("__classdict__" : Str)) = false := by decide) : Tr X B δ (.If (.Compare (.Name z pz) [.Eq] [.Constant (.str v) j p2] p3) s1 [] pos :: rest) P :=
  tr_if0 ((evB_eqS (ev_var n hn hN hv hd hcd) ev_str).eq hne) (fun z => nomatch z) fun _ => h
/-- .. yes -/
theorem tr_ifYes (n : Nat) {u v z : Str} (hn : δ[n]? = some (.d (.str u))) (h : Tr X B δ s1 { P with nx := fun δ' => Tr X B δ' rest P }) (he : decide (u = v) = true := by decide +kernel) (hN : X.N[n]? = some z := by rfl) (hv : Vis X.env.scope z := by first | exact Or.inl rfl | exact Or.inr (Or.inl rfl) | exact Or.inr (Or.inr rfl))
    (hd : (z == ("__debug__" : Str)) = false := by decide) (hcd : (z == ("__classdict__" : Str)) = false := by decide) : Tr X B δ (.If (.Compare (.Name z pz) [.Eq] [.Constant (.str v) j p2] p3) s1 [] pos :: rest) P :=
  tr_if0 ((evB_eqS (ev_var n hn hN hv hd hcd) ev_str).eq he) (fun _ => h) fun z => nomatch z
end
section
variable {P : Program} {w : World} {K : PySem.W.Frag} {mg : Str → Option Value} {base : Heap} {T : List TabN} {f : Addr} {fd : FuncData}
def Cn.isL : Cn → Bool
  | .rising => true
  | .different => true
  | .size _ => true
  | .sum _ => true
  | .every _ => true
  | .exi _ => true
  | _ => false
def rHolds (n : Nat) (ds : List PyData) (d : PyData) : Prop := ∃ (c : Cn) (v : PyData), ds = [c.enc, v] ∧ c.Fit v ∧ c.dep ≤ n ∧ d = .bool (c.val v)
def rHoldsL (n : Nat) (ds : List PyData) (d : PyData) : Prop := ∃ (c : Cn) (v : PyData), ds = [c.enc, v] ∧ c.Fit v ∧ c.dep ≤ n ∧ c.isL = true ∧ d = .bool (c.val v)
theorem scHoldsL : FnScope ["condition", "value", "name", "part"] ["condition", "value"] (defScope (top 6)) := ⟨rfl, rfl, rfl, by decide +kernel, rfl, by decide +kernel, by decide +kernel⟩
theorem scHolds : FnScope ["condition", "value", "name"] ["condition", "value"] (defScope (top 7)) := ⟨rfl, rfl, rfl, by decide +kernel, rfl, by decide +kernel, by decide +kernel⟩
theorem dints_enc (is : List Int) : dints (encR is) = is := by
  unfold dints encR ditems
  rw [List.map_map]
  exact List.map_id is
abbrev CalH (P : Program) (w : World) (K : PySem.W.Frag) (mg : Str → Option Value) (base : Heap) (T : List TabN) (n : Nat) : Prop := Cal P w K mg base CX0 (3 * n + 5) "holds" (spD T (rHolds n))
theorem ok_holdsL {c p : Addr} (n : Nat) (D : DefK K mg "holds_list" 6 ["condition", "value"] f fd) (m : MgN mg) (tb : TbOf base mg T fd.code none c p) (h1 : Cal P w K mg base CX0 3 "rises" (spD T rRises)) (h2 : Cal P w K mg base CX0 3 "is_different" (spD T rDiff))
    (hrec : ∀ i, i < n → CalH P w K mg base T i) : FnOk P w K mg base CX0 (3 * n + 4) f fd ["condition", "value"] (spD T (rHoldsL n)) := by
  refine fn_d (C := 0) D.fn scHoldsL (fun ds d ⟨c, v, e, _⟩ => by rw [e]; rfl) (fun cdv A outer s H E G ds d hr hcd hR => ?_)
  obtain ⟨c, v, rfl, hf, hdep, hl, rfl⟩ := hR
  cases c with
  | rising =>
    obtain ⟨is, rfl, hz⟩ := hf
    refine tr_asg 2 (ev_ixT (ev_var 0 rfl) ev_int rfl) scHoldsL.nd ?_
    refine tr_ifNo 2 rfl (tr_ifNo 2 rfl (tr_ifNo 2 rfl (tr_ifNo 2 rfl (tr_ifYes 2 rfl ?_))))
    refine tr_ret (ev_call h1 (hr.mono (by omega)) (evA_cons (ev_var 1 rfl) evA_nil) ⟨is, rfl, hz, rfl⟩) ?_
    show PyData.bool _ = PyData.bool (risesM (dints (encR is)))
    rw [dints_enc]
  | different =>
    obtain ⟨is, rfl, hz⟩ := hf
    refine tr_asg 2 (ev_ixT (ev_var 0 rfl) ev_int rfl) scHoldsL.nd ?_
    refine tr_ifNo 2 rfl (tr_ifNo 2 rfl (tr_ifNo 2 rfl (tr_ifNo 2 rfl (tr_ifNo 2 rfl ?_))))
    refine tr_ret (ev_call h2 (hr.mono (by omega)) (evA_cons (ev_var 1 rfl) evA_nil) ⟨is, rfl, hz, rfl⟩) ?_
    show PyData.bool _ = PyData.bool (diffM (dints (encR is)))
    rw [dints_enc]
  | size c =>
    obtain ⟨xs, rfl, hz, hf⟩ := hf
    have hn : c.dep < n := hdep
    refine tr_asg 2 (ev_ixT (ev_var 0 rfl) ev_int rfl) scHoldsL.nd ?_
    refine tr_ifNo 2 rfl (tr_ifNo 2 rfl (tr_ifYes 2 rfl ?_))
    exact tr_ret (ev_call (hrec _ hn) (hr.mono (by omega)) (evA_cons (ev_ixT (ev_var 0 rfl) ev_int rfl) (evA_cons (ev_lenT m.len (ev_var 1 rfl)) evA_nil)) ⟨c, _, rfl, hf, Nat.le_refl _, rfl⟩) rfl
  | sum c =>
    obtain ⟨is, rfl, hz, hf⟩ := hf
    have hn : c.dep < n := hdep
    refine tr_asg 2 (ev_ixT (ev_var 0 rfl) ev_int rfl) scHoldsL.nd ?_
    refine tr_ifNo 2 rfl (tr_ifNo 2 rfl (tr_ifNo 2 rfl (tr_ifYes 2 rfl ?_)))
    refine tr_ret (ev_call (hrec _ hn) (hr.mono (by omega)) (evA_cons (ev_ixT (ev_var 0 rfl) ev_int rfl) (evA_cons (ev_sumT rfl m.sum (ev_var 1 rfl)) evA_nil)) ⟨c, _, rfl, hf, Nat.le_refl _, rfl⟩) ?_
    show PyData.bool _ = PyData.bool (c.val (.int (dints (encR is)).sum))
    rw [dints_enc]
  | every c =>
    obtain ⟨xs, rfl, hz, hf⟩ := hf
    have hn : c.dep < n := hdep
    obtain ⟨n, rfl⟩ : ∃ k, n = k + 1 := ⟨n - 1, by omega⟩
    refine tr_asg 2 (ev_ixT (ev_var 0 rfl) ev_int rfl) scHoldsL.nd ?_
    refine tr_ifYes 2 rfl ?_
    refine tr_ret (ev_all (own := [("part", 3)]) (k := 3 * n + 5) [3] (fun y => c.val y) (evI_tup (ev_var 1 rfl)) (fun y hy => ?_)
      tb.mem tb.uniq hr m.all tb.g (hcd.symm.trans tb.code) (gxS_by (N := ["condition", "value", "name", "part"]) (sc := defScope (top 6)) (by decide +kernel)) rfl scHoldsL.nd) rfl
    refine ⟨_, [3], fun i h => h, fun s0 H0 C code fp pn => ⟨evG_name 3 scHoldsL.nd, ?_⟩⟩
    exact ev_call (hrec n (Nat.lt_succ_self n)) (room_gx hr _) (evA_cons (ev_ixT (ev_var 0 rfl) ev_int rfl) (evA_cons (ev_var 3 rfl) evA_nil)) ⟨c, y, rfl, hf y hy, Nat.le_of_lt_succ hn, rfl⟩
  | exi c =>
    obtain ⟨xs, rfl, hz, hf⟩ := hf
    have hn : c.dep < n := hdep
    obtain ⟨n, rfl⟩ : ∃ k, n = k + 1 := ⟨n - 1, by omega⟩
    refine tr_asg 2 (ev_ixT (ev_var 0 rfl) ev_int rfl) scHoldsL.nd ?_
    refine tr_ifNo 2 rfl (tr_ifYes 2 rfl ?_)
    refine tr_ret (ev_any (own := [("part", 3)]) (k := 3 * n + 5) [3] (fun y => c.val y) (evI_tup (ev_var 1 rfl)) (fun y hy => ?_)
      tb.mem tb.uniq hr m.any tb.g (hcd.symm.trans tb.code) (gxS_by (N := ["condition", "value", "name", "part"]) (sc := defScope (top 6)) (by decide +kernel)) rfl scHoldsL.nd) rfl
    refine ⟨_, [3], fun i h => h, fun s0 H0 C code fp pn => ⟨evG_name 3 scHoldsL.nd, ?_⟩⟩
    exact ev_call (hrec n (Nat.lt_succ_self n)) (room_gx hr _) (evA_cons (ev_ixT (ev_var 0 rfl) ev_int rfl) (evA_cons (ev_var 3 rfl) evA_nil)) ⟨c, y, rfl, hf y hy, Nat.le_of_lt_succ hn, rfl⟩
  | _ => cases hl
theorem ok_holds (n : Nat) (D : DefK K mg "holds" 7 ["condition", "value"] f fd) (m : MgN mg) (hl : Cal P w K mg base CX0 (3 * n + 4) "holds_list" (spD T (rHoldsL n)))
    (hrec : ∀ i, i < n → CalH P w K mg base T i) : FnOk P w K mg base CX0 (3 * n + 5) f fd ["condition", "value"] (spD T (rHolds n)) := by
  refine fn_d (C := 0) D.fn scHolds (fun ds d ⟨c, v, e, _⟩ => by rw [e]; rfl) (fun cdv A outer s H E G ds d hr hcd hR => ?_)
  obtain ⟨c, v, rfl, hf, hdep, rfl⟩ := hR
  have lst : ∀ {c : Cn}, c.Fit v → c.dep ≤ n → c.isL = true → ∀ {δ : List SD} {p0 p1 p2 p3 p4 : Pos}, δ[0]? = some (.d c.enc) → δ[1]? = some (.d v) → Tr (cxOf CX0 P w K mg base ["condition", "value", "name"] "holds" (defScope (top 7)) f cdv A outer s H E).nox ⟨T, m0, 0, G, H⟩ δ
      [.Return (some (.Call (.Name "holds_list" p1) [.Name "condition" p2, .Name "value" p3] [] p4)) p0] { nx := fun _ => PyData.bool (c.val v) = .none, rt := fun r => r = .bool (c.val v) } := fun {c} hf hd hi {δ} {p0 p1 p2 p3 p4} e0 e1 =>
    tr_ret (ev_call hl hr (evA_cons (ev_var 0 e0) (evA_cons (ev_var 1 e1) evA_nil)) ⟨_, v, rfl, hf, hd, hi, rfl⟩) rfl
  have one : ∀ {c : Cn} {x : PyData}, c.Fit x → c.dep < n → rHolds c.dep [c.enc, x] (.bool (c.val x)) := fun hf _ => ⟨_, _, rfl, hf, Nat.le_refl _, rfl⟩
  cases c with
  | atmost i =>
    obtain ⟨v, rfl⟩ := hf
    refine tr_asg 2 (ev_ixT (ev_var 0 rfl) ev_int rfl) scHolds.nd ?_
    exact tr_ifYes 2 rfl (tr_ret (ev_cmpI (ev_var 1 rfl) (ev_ixT (ev_var 0 rfl) ev_int rfl)) rfl)
  | divides i =>
    obtain ⟨hi, v, rfl⟩ := hf
    refine tr_asg 2 (ev_ixT (ev_var 0 rfl) ev_int rfl) scHolds.nd ?_
    exact tr_ifNo 2 rfl (tr_ifYes 2 rfl (tr_ret (ev_cmpI (ev_mod (ev_var 1 rfl) (ev_ixT (ev_var 0 rfl) ev_int rfl) hi) ev_int) rfl))
  | item i c =>
    obtain ⟨xs, x, rfl, hx, hf⟩ := hf
    have hn : c.dep < n := hdep
    refine tr_asg 2 (ev_ixT (ev_var 0 rfl) ev_int rfl) scHolds.nd ?_
    refine tr_ifNo 2 rfl (tr_ifNo 2 rfl (tr_ifNo 2 rfl (tr_ifYes 2 rfl ?_)))
    refine tr_ret (ev_call (hrec _ hn) (hr.mono (by omega)) (evA_cons (ev_ixT (ev_var 0 rfl) ev_int rfl) (evA_cons (ev_ixT (ev_var 1 rfl) (ev_ixT (ev_var 0 rfl) ev_int rfl) (atI_nat hx)) evA_nil)) (one hf hn)) ?_
    show PyData.bool _ = PyData.bool (c.val (xs.getD i .none))
    rw [List.getD_eq_getElem?_getD, hx]
    rfl
  | neg c =>
    have hn : c.dep < n := hdep
    refine tr_asg 2 (ev_ixT (ev_var 0 rfl) ev_int rfl) scHolds.nd ?_
    refine tr_ifNo 2 rfl (tr_ifNo 2 rfl (tr_ifNo 2 rfl (tr_ifNo 2 rfl (tr_ifYes 2 rfl ?_))))
    exact tr_ret (ev_not (ev_call (hrec _ hn) (hr.mono (by omega)) (evA_cons (ev_ixT (ev_var 0 rfl) ev_int rfl) (evA_cons (ev_var 1 rfl) evA_nil)) (one hf hn))) rfl
  | conj a b =>
    have hd : max a.dep b.dep < n := hdep
    have ha : a.dep < n := by omega
    have hb : b.dep < n := by omega
    refine tr_asg 2 (ev_ixT (ev_var 0 rfl) ev_int rfl) scHolds.nd ?_
    refine tr_ifNo 2 rfl (tr_ifNo 2 rfl (tr_ifNo 2 rfl (tr_ifNo 2 rfl (tr_ifNo 2 rfl (tr_ifYes 2 rfl ?_)))))
    exact tr_ret (ev_and (ev_call (hrec _ ha) (hr.mono (by omega)) (evA_cons (ev_ixT (ev_var 0 rfl) ev_int rfl) (evA_cons (ev_var 1 rfl) evA_nil)) (one hf.1 ha)) fun _ =>
      ev_one (ev_call (hrec _ hb) (hr.mono (by omega)) (evA_cons (ev_ixT (ev_var 0 rfl) ev_int rfl) (evA_cons (ev_var 1 rfl) evA_nil)) (one hf.2 hb))) rfl
  | disj a b =>
    have hd : max a.dep b.dep < n := hdep
    have ha : a.dep < n := by omega
    have hb : b.dep < n := by omega
    refine tr_asg 2 (ev_ixT (ev_var 0 rfl) ev_int rfl) scHolds.nd ?_
    refine tr_ifNo 2 rfl (tr_ifNo 2 rfl (tr_ifNo 2 rfl (tr_ifNo 2 rfl (tr_ifNo 2 rfl (tr_ifNo 2 rfl (tr_ifYes 2 rfl ?_))))))
    exact tr_ret (ev_or (ev_call (hrec _ ha) (hr.mono (by omega)) (evA_cons (ev_ixT (ev_var 0 rfl) ev_int rfl) (evA_cons (ev_var 1 rfl) evA_nil)) (one hf.1 ha)) fun _ =>
      ev_one (ev_call (hrec _ hb) (hr.mono (by omega)) (evA_cons (ev_ixT (ev_var 0 rfl) ev_int rfl) (evA_cons (ev_var 1 rfl) evA_nil)) (one hf.2 hb))) rfl
  | rising =>
    refine tr_asg 2 (ev_ixT (ev_var 0 rfl) ev_int rfl) scHolds.nd ?_
    exact tr_ifNo 2 rfl (tr_ifNo 2 rfl (tr_ifNo 2 rfl (tr_ifNo 2 rfl (tr_ifNo 2 rfl (tr_ifNo 2 rfl (tr_ifNo 2 rfl (lst hf hdep rfl rfl rfl)))))))
  | different =>
    refine tr_asg 2 (ev_ixT (ev_var 0 rfl) ev_int rfl) scHolds.nd ?_
    exact tr_ifNo 2 rfl (tr_ifNo 2 rfl (tr_ifNo 2 rfl (tr_ifNo 2 rfl (tr_ifNo 2 rfl (tr_ifNo 2 rfl (tr_ifNo 2 rfl (lst hf hdep rfl rfl rfl)))))))
  | size c =>
    refine tr_asg 2 (ev_ixT (ev_var 0 rfl) ev_int rfl) scHolds.nd ?_
    exact tr_ifNo 2 rfl (tr_ifNo 2 rfl (tr_ifNo 2 rfl (tr_ifNo 2 rfl (tr_ifNo 2 rfl (tr_ifNo 2 rfl (tr_ifNo 2 rfl (lst hf hdep rfl rfl rfl)))))))
  | sum c =>
    refine tr_asg 2 (ev_ixT (ev_var 0 rfl) ev_int rfl) scHolds.nd ?_
    exact tr_ifNo 2 rfl (tr_ifNo 2 rfl (tr_ifNo 2 rfl (tr_ifNo 2 rfl (tr_ifNo 2 rfl (tr_ifNo 2 rfl (tr_ifNo 2 rfl (lst hf hdep rfl rfl rfl)))))))
  | every c =>
    refine tr_asg 2 (ev_ixT (ev_var 0 rfl) ev_int rfl) scHolds.nd ?_
    exact tr_ifNo 2 rfl (tr_ifNo 2 rfl (tr_ifNo 2 rfl (tr_ifNo 2 rfl (tr_ifNo 2 rfl (tr_ifNo 2 rfl (tr_ifNo 2 rfl (lst hf hdep rfl rfl rfl)))))))
  | exi c =>
    refine tr_asg 2 (ev_ixT (ev_var 0 rfl) ev_int rfl) scHolds.nd ?_
    exact tr_ifNo 2 rfl (tr_ifNo 2 rfl (tr_ifNo 2 rfl (tr_ifNo 2 rfl (tr_ifNo 2 rfl (tr_ifNo 2 rfl (tr_ifNo 2 rfl (lst hf hdep rfl rfl rfl)))))))
/-- holds, at any depth -/
theorem cal_holds {c p f1 f2 f3 f4 : Addr} {fd1 fd2 fd3 fd4 : FuncData} (D1 : DefK K mg "rises" 4 ["value"] f1 fd1) (D2 : DefK K mg "is_different" 5 ["value"] f2 fd2) (D3 : DefK K mg "holds_list" 6 ["condition", "value"] f3 fd3) (D4 : DefK K mg "holds" 7 ["condition", "value"] f4 fd4)
    (m : MgN mg) {c1 p1 c2 p2 c3 p3 : Addr} (t1 : TbOf base mg T fd1.code none c1 p1) (t2 : TbOf base mg T fd2.code none c2 p2) (t3 : TbOf base mg T fd3.code none c3 p3) : ∀ n, CalH P w K mg base T n := fun n => by
  induction n using Nat.strongRecOn with
  | _ n ih => exact D4.cal (ok_holds n D4 m (D3.cal (ok_holdsL n D3 m t3 (D1.cal (ok_rises D1 m t1)) (D2.cal (ok_diff D2 m t2)) ih)) ih)
end
end CR

set_option Elab.async false
set_option linter.all false
set_option maxRecDepth 100000
set_option maxHeartbeats 1000000
/-! # Walks: maps, parts, the tables' little defs -/
namespace CR
open PySem L2 Evl PyProof.Rows
theorem take_flat {α β : Type} (g : α → List β) {es : List α} {k : Nat} {e : α} (h : es[k]? = some e) : (es.take (k + 1)).flatMap g = (es.take k).flatMap g ++ g e := by
  rw [List.take_add_one, h, List.flatMap_append]
  simp
theorem take_map {α β : Type} (g : α → β) {es : List α} {k : Nat} {e : α} (h : es[k]? = some e) : (es.take (k + 1)).map g = (es.take k).map g ++ [g e] := by
  rw [List.take_add_one, h, List.map_append]
  simp
theorem get_map {α β : Type} {g : α → β} {es : List α} {k : Nat} {y : β} (h : (es.map g)[k]? = some y) : ∃ e, es[k]? = some e ∧ y = g e := by
  rw [List.getElem?_map] at h
  cases z : es[k]? with
  | none => rw [z] at h; cases h
  | some e => rw [z] at h; exact ⟨e, rfl, (Option.some.inj h).symm⟩
theorem flat_len {α β : Type} {g : α → List β} {n : Nat} : ∀ {es : List α}, (∀ e ∈ es, (g e).length ≤ n) → (es.flatMap g).length ≤ es.length * n
  | [], _ => by simp
  | e :: es, h => by
    rw [List.flatMap_cons, List.length_append, List.length_cons, Nat.add_mul, Nat.one_mul]
    have h1 := h e List.mem_cons_self
    have h2 := flat_len fun e he => h e (List.mem_cons_of_mem _ he)
    omega
section
variable {P : Program} {w : World} {K : PySem.W.Frag} {mg : Str → Option Value} {base : Heap} {T : List TabN} {f : Addr} {fd : FuncData}
/-! ## turn -/
def rTurn (ds : List PyData) (d : PyData) : Prop := ∃ (m : Mp) (v : PyData), ds = [m.enc, v] ∧ m.Fit v ∧ d = m.val v
theorem scTurn : FnScope ["some_map", "value", "name"] ["some_map", "value"] (defScope (top 12)) := ⟨rfl, rfl, rfl, by decide +kernel, rfl, by decide +kernel, by decide +kernel⟩
theorem ok_turn (D : DefK K mg "turn" 12 ["some_map", "value"] f fd) (m : MgN mg) : FnOk P w K mg base CX0 1 f fd ["some_map", "value"] (spD T rTurn) := by
  refine fn_d (C := 0) D.fn scTurn (fun ds d ⟨c, v, e, _⟩ => by rw [e]; rfl) (fun cdv A outer s H E G ds d hr hcd hR => ?_)
  obtain ⟨c, v, rfl, hf, rfl⟩ := hR
  cases c with
  | plus i =>
    obtain ⟨v, rfl⟩ := hf
    refine tr_asg 2 (ev_ixT (ev_var 0 rfl) ev_int rfl) scTurn.nd ?_
    exact tr_ifYes 2 rfl (tr_ret (ev_add (ev_var 1 rfl) (ev_ixT (ev_var 0 rfl) ev_int rfl)) rfl)
  | times i =>
    obtain ⟨v, rfl, h1, h2⟩ := hf
    refine tr_asg 2 (ev_ixT (ev_var 0 rfl) ev_int rfl) scTurn.nd ?_
    exact tr_ifNo 2 rfl (tr_ifYes 2 rfl (tr_ret (ev_mul (ev_var 1 rfl) (ev_ixT (ev_var 0 rfl) ev_int rfl) (.inr ⟨by omega, by omega⟩)) rfl))
  | length =>
    obtain ⟨xs, rfl⟩ := hf
    refine tr_asg 2 (ev_ixT (ev_var 0 rfl) ev_int rfl) scTurn.nd ?_
    exact tr_ifNo 2 rfl (tr_ifNo 2 rfl (tr_ifNo 2 rfl (tr_ifYes 2 rfl (tr_ret (ev_lenT m.len (ev_var 1 rfl)) rfl))))
  | sum =>
    obtain ⟨is, rfl, hz⟩ := hf
    refine tr_asg 2 (ev_ixT (ev_var 0 rfl) ev_int rfl) scTurn.nd ?_
    refine tr_ifNo 2 rfl (tr_ifNo 2 rfl (tr_ifNo 2 rfl (tr_ifNo 2 rfl (tr_ifYes 2 rfl (tr_ret (ev_sumT rfl m.sum (ev_var 1 rfl)) ?_)))))
    show PyData.int _ = PyData.int (dints (encR is)).sum
    rw [dints_enc]
  | sorted =>
    obtain ⟨is, rfl, hz⟩ := hf
    refine tr_asg 2 (ev_ixT (ev_var 0 rfl) ev_int rfl) scTurn.nd ?_
    refine tr_ifNo 2 rfl (tr_ifNo 2 rfl (tr_ifNo 2 rfl (tr_ifNo 2 rfl (tr_ifNo 2 rfl (tr_ifYes 2 rfl (tr_ret (ev_tupleL m.tuple (ev_sortedT m.sorted (ev_var 1 rfl))) ?_))))))
    show _ = encR ((dints (encR is)).mergeSort fun a b => decide (a ≤ b))
    rw [dints_enc]
    rfl
  | reversed =>
    obtain ⟨xs, rfl, hz⟩ := hf
    refine tr_asg 2 (ev_ixT (ev_var 0 rfl) ev_int rfl) scTurn.nd ?_
    exact tr_ifNo 2 rfl (tr_ifNo 2 rfl (tr_ifNo 2 rfl (tr_ifNo 2 rfl (tr_ifNo 2 rfl (tr_ifNo 2 rfl (tr_ret (ev_revT (ev_var 1 rfl)) rfl))))))
/-! ## parts_of -/
def rParts (ds : List PyData) (d : PyData) : Prop := ∃ g : Gn, ds = [g.enc] ∧ d = .list (g.parts.map Gn.enc)
theorem scParts : FnScope ["generator", "name"] ["generator"] (defScope (top 13)) := ⟨rfl, rfl, rfl, by decide +kernel, rfl, by decide +kernel, by decide +kernel⟩
theorem ok_parts (D : DefK K mg "parts_of" 13 ["generator"] f fd) (m : MgN mg) : FnOk P w K mg base CX0 1 f fd ["generator"] (spD T rParts) := by
  refine fn_d (C := 0) D.fn scParts (fun ds d ⟨g, e, _⟩ => by rw [e]; rfl) (fun cdv A outer s H E G ds d hr hcd hR => ?_)
  obtain ⟨g, rfl, rfl⟩ := hR
  cases g with
  | int lo hi =>
    refine tr_asg 1 (ev_ixT (ev_var 0 rfl) ev_int rfl) scParts.nd ?_
    refine tr_if0 (p := false) ((evB_inT (ev_var 1 rfl) (ev_tup (evA_cons ev_str (evA_cons ev_str evA_nil))) rfl rfl).eq (by decide +kernel)) (fun z => nomatch z) fun _ => ?_
    refine tr_if0 (p := false) ((evB_inT (ev_var 1 rfl) (ev_tup (evA_cons ev_str (evA_cons ev_str (evA_cons ev_str evA_nil)))) rfl rfl).eq (by decide +kernel)) (fun z => nomatch z) fun _ => ?_
    exact tr_ifNo 1 rfl (tr_ret (ev_lst evA_nil) rfl)
  | pair a b =>
    refine tr_asg 1 (ev_ixT (ev_var 0 rfl) ev_int rfl) scParts.nd ?_
    refine tr_if0 (p := true) ((evB_inT (ev_var 1 rfl) (ev_tup (evA_cons ev_str (evA_cons ev_str evA_nil))) rfl rfl).eq (by decide +kernel)) (fun _ => ?_) fun z => nomatch z
    exact tr_ret (ev_listT m.list (ev_ixT (ev_var 0 rfl) ev_int rfl)) rfl
  | one a b =>
    refine tr_asg 1 (ev_ixT (ev_var 0 rfl) ev_int rfl) scParts.nd ?_
    refine tr_if0 (p := true) ((evB_inT (ev_var 1 rfl) (ev_tup (evA_cons ev_str (evA_cons ev_str evA_nil))) rfl rfl).eq (by decide +kernel)) (fun _ => ?_) fun z => nomatch z
    exact tr_ret (ev_listT m.list (ev_ixT (ev_var 0 rfl) ev_int rfl)) rfl
  | lst g l h =>
    refine tr_asg 1 (ev_ixT (ev_var 0 rfl) ev_int rfl) scParts.nd ?_
    refine tr_if0 (p := false) ((evB_inT (ev_var 1 rfl) (ev_tup (evA_cons ev_str (evA_cons ev_str evA_nil))) rfl rfl).eq (by decide +kernel)) (fun z => nomatch z) fun _ => ?_
    refine tr_if0 (p := true) ((evB_inT (ev_var 1 rfl) (ev_tup (evA_cons ev_str (evA_cons ev_str (evA_cons ev_str evA_nil)))) rfl rfl).eq (by decide +kernel)) (fun _ => ?_) fun z => nomatch z
    exact tr_ret (ev_lst (evA_cons (ev_ixT (ev_var 0 rfl) ev_int rfl) evA_nil)) rfl
  | kept g c =>
    refine tr_asg 1 (ev_ixT (ev_var 0 rfl) ev_int rfl) scParts.nd ?_
    refine tr_if0 (p := false) ((evB_inT (ev_var 1 rfl) (ev_tup (evA_cons ev_str (evA_cons ev_str evA_nil))) rfl rfl).eq (by decide +kernel)) (fun z => nomatch z) fun _ => ?_
    refine tr_if0 (p := true) ((evB_inT (ev_var 1 rfl) (ev_tup (evA_cons ev_str (evA_cons ev_str (evA_cons ev_str evA_nil)))) rfl rfl).eq (by decide +kernel)) (fun _ => ?_) fun z => nomatch z
    exact tr_ret (ev_lst (evA_cons (ev_ixT (ev_var 0 rfl) ev_int rfl) evA_nil)) rfl
  | turned g c =>
    refine tr_asg 1 (ev_ixT (ev_var 0 rfl) ev_int rfl) scParts.nd ?_
    refine tr_if0 (p := false) ((evB_inT (ev_var 1 rfl) (ev_tup (evA_cons ev_str (evA_cons ev_str evA_nil))) rfl rfl).eq (by decide +kernel)) (fun z => nomatch z) fun _ => ?_
    refine tr_if0 (p := true) ((evB_inT (ev_var 1 rfl) (ev_tup (evA_cons ev_str (evA_cons ev_str (evA_cons ev_str evA_nil)))) rfl rfl).eq (by decide +kernel)) (fun _ => ?_) fun z => nomatch z
    exact tr_ret (ev_lst (evA_cons (ev_ixT (ev_var 0 rfl) ev_int rfl) evA_nil)) rfl
  | rep a b =>
    refine tr_asg 1 (ev_ixT (ev_var 0 rfl) ev_int rfl) scParts.nd ?_
    refine tr_if0 (p := false) ((evB_inT (ev_var 1 rfl) (ev_tup (evA_cons ev_str (evA_cons ev_str evA_nil))) rfl rfl).eq (by decide +kernel)) (fun z => nomatch z) fun _ => ?_
    refine tr_if0 (p := false) ((evB_inT (ev_var 1 rfl) (ev_tup (evA_cons ev_str (evA_cons ev_str (evA_cons ev_str evA_nil)))) rfl rfl).eq (by decide +kernel)) (fun z => nomatch z) fun _ => ?_
    exact tr_ifYes 1 rfl (tr_ret (ev_lst (evA_cons (ev_ixT (ev_var 0 rfl) ev_int rfl) (evA_cons (ev_ixT (ev_var 0 rfl) ev_int rfl) evA_nil))) rfl)
/-! ## is_less -/
def rLess (ds : List PyData) (d : PyData) : Prop := ∃ a b : List Int, ds = [encR a, encR b] ∧ d = .bool (lessM a b)
theorem scLess : FnScope ["row", "other"] ["row", "other"] (defScope (top 19)) := ⟨rfl, rfl, rfl, by decide +kernel, rfl, by decide +kernel, by decide +kernel⟩
theorem len_rk (r : List Int) : PyData.tuple [.int ((r.map PyData.int).length : Int), encR r] = rk r := by
  rw [List.length_map]
  rfl
theorem ok_less (D : DefK K mg "is_less" 19 ["row", "other"] f fd) (m : MgN mg) : FnOk P w K mg base CX0 1 f fd ["row", "other"] (spD T rLess) := by
  refine fn_d (C := 0) D.fn scLess (fun ds d ⟨a, b, e, _⟩ => by rw [e]; rfl) (fun cdv A outer s H E G ds d hr hcd hR => ?_)
  obtain ⟨a, b, rfl, rfl⟩ := hR
  exact tr_ret (ev_ltRk hr.units ((ev_tup (evA_cons (ev_lenT m.len (ev_var 0 rfl)) (evA_cons (ev_var 0 rfl) evA_nil))).eq (len_rk a)) ((ev_tup (evA_cons (ev_lenT m.len (ev_var 1 rfl)) (evA_cons (ev_var 1 rfl) evA_nil))).eq (len_rk b))) rfl
end
end CR

set_option Elab.async false
set_option linter.all false
set_option maxRecDepth 100000
set_option maxHeartbeats 1000000
/-! # Walks: the tables' little defs -/
namespace CR
open PySem L2 Evl PyProof.Rows
def decE : PyData → Ent
  | .tuple [v, .int n, .tuple r] => ⟨v, n, r.map dint⟩
  | _ => ⟨.none, 0, []⟩
theorem dint_map (r : List Int) : (r.map PyData.int).map dint = r := by
  rw [List.map_map]
  exact List.map_id r
theorem decE_enc (e : Ent) : decE e.enc = e := by
  show Ent.mk e.v e.n ((e.r.map PyData.int).map dint) = e
  rw [dint_map]
theorem filt_map {α : Type} (enc : α → PyData) (dec : PyData → α) (p : α → Bool) (f : α → PyData) : ∀ {xs : List α}, (∀ a ∈ xs, dec (enc a) = a) → ((xs.map enc).filter fun y => p (dec y)).map (fun y => f (dec y)) = (xs.filter p).map f
  | [], _ => rfl
  | a :: xs, h => by
    have ha := h a List.mem_cons_self
    have ih := filt_map enc dec p f (xs := xs) fun b hb => h b (List.mem_cons_of_mem _ hb)
    rw [List.map_cons, List.filter_cons, List.filter_cons, ha]
    cases p a with
    | true =>
      rw [if_pos rfl, if_pos rfl, List.map_cons, List.map_cons, ha, ih]
    | false =>
      rw [if_neg Bool.false_ne_true, if_neg Bool.false_ne_true, ih]
section
variable {X : Cx} {B : Bd} {δ : List SD} {elt tg iter : Expr} {ifs : List Expr} {scope : Scope} {own : List (Str × Nat)} {pos : Pos}
/-- a list comprehension over typed items -/
theorem ev_lcM {α : Type} (xs : List α) (enc : α → PyData) (dec : PyData → α) (p : α → Bool) (f : α → PyData) (vs : List Nat) (hdec : ∀ a ∈ xs, dec (enc a) = a) (hc : X.calm = true) (hN : X.N.Nodup) (ok : BlkOk X.N X.env.scope scope own) (hvs : own.map (·.2) = vs) (hi : EvI X B δ tg iter (xs.map enc))
    (ht : ∀ a ∈ xs, LcTurn X B δ scope vs tg ifs elt (enc a) (p a) (f a)) (hz : xs.length < sizeLine) (hs : ∀ x, foldedSetIterable iter X.env x = pure x := by intro _; rfl) : Ev X B δ (.ListComp elt [⟨tg, iter, ifs, 0⟩] scope pos) (.list ((xs.filter p).map f)) :=
  (ev_lc vs (fun y => p (dec y)) (fun y => f (dec y)) hc hN ok hvs hi (fun y hy => by
    obtain ⟨a, ha, rfl⟩ := List.mem_map.mp hy
    rw [hdec a ha]
    exact ht a ha) (by rw [List.length_map]; exact hz) hs).eq (by rw [filt_map enc dec p f hdec])
/-- .. without tests -/
theorem ev_lcA {α : Type} (xs : List α) (enc : α → PyData) (dec : PyData → α) (f : α → PyData) (vs : List Nat) (hdec : ∀ a ∈ xs, dec (enc a) = a) (hc : X.calm = true) (hN : X.N.Nodup) (ok : BlkOk X.N X.env.scope scope own) (hvs : own.map (·.2) = vs) (hi : EvI X B δ tg iter (xs.map enc))
    (ht : ∀ a ∈ xs, LcTurn X B δ scope vs tg [] elt (enc a) true (f a)) (hz : xs.length < sizeLine) (hs : ∀ x, foldedSetIterable iter X.env x = pure x := by intro _; rfl) : Ev X B δ (.ListComp elt [⟨tg, iter, [], 0⟩] scope pos) (.list (xs.map f)) :=
  (ev_lcM xs enc dec (fun _ => true) f vs hdec hc hN ok hvs hi ht hz hs).eq (by rw [List.filter_eq_self.mpr fun _ _ => rfl])
/-- name = [..] -/
theorem tr_setLcM {α : Type} {y : Str} {py spos : Pos} {rest : List Stmt} {P : DP} (n : Nat) (xs : List α) (enc : α → PyData) (dec : PyData → α) (p : α → Bool) (f : α → PyData) (vs : List Nat) (hdec : ∀ a ∈ xs, dec (enc a) = a) (hc : X.calm = true) (hN : X.N.Nodup) (ok : BlkOk X.N X.env.scope scope own) (hvs : own.map (·.2) = vs)
    (hi : EvI X B δ tg iter (xs.map enc)) (ht : ∀ a ∈ xs, LcTurn X B δ scope vs tg ifs elt (enc a) (p a) (f a)) (hz : xs.length < sizeLine) (h : Tr X B (δ.set n (.d (.list ((xs.filter p).map f)))) rest P) (hsw : swapsWith (.ListComp elt [⟨tg, iter, ifs, 0⟩] scope pos) (some (.Name y py)) spos.line X.env = pure true := by rfl)
    (hy : X.N[n]? = some y := by rfl) (hyl : X.env.scope.names.lookup y = some .local := by rfl) (hs : ∀ x, foldedSetIterable iter X.env x = pure x := by intro _; rfl) :
    Tr X B δ (.Assign [.Name y py] (.ListComp elt [⟨tg, iter, ifs, 0⟩] scope pos) spos :: rest) P :=
  tr_setLc (st := 0) n vs (fun y => p (dec y)) (fun y => f (dec y)) hc hN ok hvs hi (fun y hy => by
    obtain ⟨a, ha, rfl⟩ := List.mem_map.mp hy
    rw [hdec a ha]
    exact ht a ha) (by rw [List.length_map]; exact hz) (by rw [filt_map enc dec p f hdec]; exact h) hsw hy hyl hs
end
section
variable {P : Program} {w : World} {K : PySem.W.Frag} {mg : Str → Option Value} {base : Heap} {T : List TabN} {f : Addr} {fd : FuncData}
/-! ## check_many, power -/
def rCheck (ds : List PyData) (d : PyData) : Prop := ∃ (n : Int) (p : PyData), ds = [.int n, p] ∧ n ≤ 2000 ∧ d = .none
theorem scCheck : FnScope ["many", "path"] ["many", "path"] (defScope (top 25)) := ⟨rfl, rfl, rfl, by decide +kernel, rfl, by decide +kernel, by decide +kernel⟩
theorem ok_check (D : DefK K mg "check_many" 25 ["many", "path"] f fd) (m : MgN mg) : FnOk P w K mg base CX0 1 f fd ["many", "path"] (spD T rCheck) := by
  refine fn_d (C := 0) D.fn scCheck (fun ds d ⟨n, p, e, _⟩ => by rw [e]; rfl) (fun cdv A outer s H E G ds d hr hcd hR => ?_)
  obtain ⟨n, p, rfl, h, rfl⟩ := hR
  obtain ⟨t, hv⟩ := m.values
  refine tr_if0 (p := false) ((evB_cmpI (ev_var 0 rfl) (ev_globI hv)).eq ?_) (fun z => nomatch z) fun _ => tr_nil rfl
  show decide ((2000 : Int) < n) = false
  exact decide_eq_false (by omega)
def rPow (ds : List PyData) (d : PyData) : Prop := ∃ b n : Nat, ds = [.int b, .int n] ∧ b ≤ 100000 ∧ n ≤ 1000 ∧ d = .int ((b ^ n : Nat) : Int)
theorem scPow : FnScope ["base", "many", "made", "_"] ["base", "many"] (defScope (top 26)) := ⟨rfl, rfl, rfl, by decide +kernel, rfl, by decide +kernel, by decide +kernel⟩
theorem ok_pow (D : DefK K mg "power" 26 ["base", "many"] f fd) (m : MgN mg) : FnOk P w K mg base CX0 1 f fd ["base", "many"] (spD T rPow) := by
  refine fn_d (C := 0) D.fn scPow (fun ds d ⟨b, n, e, _⟩ => by rw [e]; rfl) (fun cdv A outer s H E G ds d hr hcd hR => ?_)
  obtain ⟨b, n, rfl, h1, h2, rfl⟩ := hR
  refine tr_asg 2 ev_int scPow.nd ?_
  refine tr_for PassesOwn.never rfl (evI_range1 m.range (ev_var 1 rfl) ⟨by omega, by omega⟩) (fun k δ => ∃ u, δ = [.d (.int b), .d (.int n), .d (.int ((b ^ k : Nat) : Int)), u]) ⟨_, rfl⟩ ?_ ?_
  · rintro k y δ hy ⟨u, rfl⟩
    refine ⟨_, _, evG_name 3 scPow.nd, ?_⟩
    refine tr_asg 2 (ev_mul (ev_var 2 rfl) (ev_var 0 rfl) (.inr ⟨by omega, by omega⟩)) scPow.nd ?_
    exact tr_nil ⟨.d y, by rw [Nat.pow_succ, Int.natCast_mul]; rfl⟩
  · rintro δ ⟨u, rfl⟩
    refine tr_ret (ev_var 2 rfl) ?_
    rw [rangeD_length, Int.toNat_natCast]
/-! ## behind, multiplied -/
def rBehind (ds : List PyData) (d : PyData) : Prop := ∃ (es : List Ent) (c : List Int), ds = [.list (es.map Ent.enc), encR c] ∧ es.length < 10000000 ∧ (∀ e ∈ es, e.r.length ≤ 1000000) ∧ c.length ≤ 1000 ∧ d = .list ((behindM es c).map Ent.enc)
theorem scBehind : FnScope ["triples", "choices", "value", "count", "row"] ["triples", "choices"] (defScope (top 24)) := ⟨rfl, rfl, rfl, by decide +kernel, rfl, by decide +kernel, by decide +kernel⟩
theorem ok_behind (D : DefK K mg "behind" 24 ["triples", "choices"] f fd) (m : MgN mg) : FnOk P w K mg base CX0 1 f fd ["triples", "choices"] (spD T rBehind) := by
  refine fn_d (C := 0) D.fn scBehind (fun ds d ⟨n, p, e, _⟩ => by rw [e]; rfl) (fun cdv A outer s H E G ds d hr hcd hR => ?_)
  obtain ⟨es, c, rfl, hz, hb, hc, rfl⟩ := hR
  refine tr_ret (ev_lcA (own := [("value", 2), ("count", 3), ("row", 4)]) es Ent.enc decE (fun e => Ent.enc { e with r := e.r ++ c }) [2, 3, 4] (fun e _ => decE_enc e) rfl scBehind.nd (blkOk_by (N := ["triples", "choices", "value", "count", "row"]) (sc := defScope (top 24)) (by decide +kernel)) rfl (evI_list (ev_var 0 rfl)) (fun e he => ?_) (Nat.lt_of_lt_of_le hz (by decide))) ?_
  · refine ⟨_, [2, 3, 4], fun i h => h, fun s0 H0 C cl fp => ⟨evG_tup rfl (evGs_cons (evG_name 2 scBehind.nd) (evGs_cons (evG_name 3 scBehind.nd) (evGs_cons (evG_name 4 scBehind.nd) evGs_nil))), evIf_nil, fun _ => ?_⟩⟩
    refine (ev_tup (evA_cons (ev_var 2 rfl) (evA_cons (ev_var 3 rfl) (evA_cons (ev_catT (ev_var 4 rfl) (ev_var 1 rfl) ?_) evA_nil)))).eq ?_
    · rw [List.length_map, List.length_map]
      have := hb e he
      have h9 : (2000000 : Nat) ≤ sizeLine := by decide
      omega
    · rw [← List.map_append]
      rfl
  · rw [behindM, List.map_map]
    rfl
end
end CR

set_option Elab.async false
set_option linter.all false
set_option maxRecDepth 100000
set_option maxHeartbeats 1000000
/-! # Walks: multiplied, the tables of tuples, lists, repeats -/
namespace CR
open PySem L2 Evl PyProof.Rows
/-- a table's entry may be the second factor -/
def EFac (e : Ent) : Prop := (-(2 ^ 64) < e.n ∧ e.n < 2 ^ 64) ∧ e.r.length ≤ 1000
/-- an entry of tuples -/
def ETup (L : Nat) (e : Ent) : Prop := (∃ xs, e.v = .tuple xs ∧ xs.length ≤ L) ∧ e.r.length ≤ L
theorem mulM_len (es fs : List Ent) : (mulM es fs).length = es.length * fs.length := by
  unfold mulM
  induction es with
  | nil => simp
  | cons a es ih => rw [List.flatMap_cons, List.length_append, ih, List.length_map, List.length_cons, Nat.add_mul, Nat.one_mul, Nat.add_comm]
theorem mulM_tup {L : Nat} {es fs : List Ent} (h1 : ∀ e ∈ es, ETup L e) (h2 : ∀ e ∈ fs, EFac e) : ∀ e ∈ mulM es fs, ETup (L + 1000) e := fun e he => by
  obtain ⟨a, ha, he⟩ := List.mem_flatMap.mp he
  obtain ⟨b, hb, rfl⟩ := List.mem_map.mp he
  obtain ⟨⟨xs, e1, e2⟩, e3⟩ := h1 a ha
  obtain ⟨_, e4⟩ := h2 b hb
  refine ⟨⟨xs ++ [b.v], by show PyData.tuple (ditems a.v ++ [b.v]) = _; rw [e1]; rfl, by rw [List.length_append, List.length_cons, List.length_nil]; omega⟩, ?_⟩
  show (a.r ++ b.r).length ≤ _
  rw [List.length_append]
  omega
theorem ETup.mono {L M : Nat} {e : Ent} (h : ETup L e) (l : L ≤ M) : ETup M e := by
  obtain ⟨⟨xs, e1, e2⟩, e3⟩ := h
  exact ⟨⟨xs, e1, by omega⟩, by omega⟩
section
variable {P : Program} {w : World} {K : PySem.W.Frag} {mg : Str → Option Value} {base : Heap} {T : List TabN} {f : Addr} {fd : FuncData}
def rMul (ds : List PyData) (d : PyData) : Prop := ∃ es fs : List Ent, ds = [.list (es.map Ent.enc), .list (fs.map Ent.enc)] ∧ (∀ e ∈ es, ETup 1000000 e) ∧ (∀ e ∈ fs, EFac e) ∧ es.length * fs.length < 10000000 ∧ d = .list ((mulM es fs).map Ent.enc)
theorem scMul : FnScope ["first", "second", "made", "values", "count", "row", "value", "many", "other"] ["first", "second"] (defScope (top 23)) := ⟨rfl, rfl, rfl, by decide +kernel, rfl, by decide +kernel, by decide +kernel⟩
theorem ok_mul (D : DefK K mg "multiplied" 23 ["first", "second"] f fd) (m : MgN mg) : FnOk P w K mg base CX0 1 f fd ["first", "second"] (spD T rMul) := by
  refine fn_d (C := 0) D.fn scMul (fun ds d ⟨n, p, e, _⟩ => by rw [e]; rfl) (fun cdv A outer s H E G ds d hr hcd hR => ?_)
  obtain ⟨es, fs, rfl, h1, h2, hz, rfl⟩ := hR
  refine tr_new 2 evA_nil scMul.nd ?_
  refine tr_for PassesOwn.never rfl (evI_list (ev_var 0 rfl)) (fun k δ => ∃ a b c x y z, δ = [.d (.list (es.map Ent.enc)), .d (.list (fs.map Ent.enc)), .own ((mulM (es.take k) fs).map Ent.enc), a, b, c, x, y, z]) ⟨_, _, _, _, _, _, rfl⟩ ?_ ?_
  · rintro k y δ hy ⟨_, _, _, _, _, _, rfl⟩
    obtain ⟨e, he, rfl⟩ := get_map hy
    have hm := List.mem_of_getElem? he
    obtain ⟨⟨xs, ev, hxl⟩, hrl⟩ := h1 e hm
    have hk : k < es.length := (List.getElem?_eq_some_iff.mp he).1
    refine ⟨_, _, evG_tup (ds := [e.v, .int e.n, encR e.r]) rfl (evGs_cons (evG_name 3 scMul.nd) (evGs_cons (evG_name 4 scMul.nd) (evGs_cons (evG_name 5 scMul.nd) evGs_nil))), ?_⟩
    refine tr_for PassesOwn.never rfl (evI_list (ev_var 1 rfl)) (fun j δ => ∃ x y z, δ = [.d (.list (es.map Ent.enc)), .d (.list (fs.map Ent.enc)), .own ((mulM (es.take k) fs ++ (fs.take j).map (mulE e)).map Ent.enc), .d e.v, .d (.int e.n), .d (encR e.r), x, y, z]) ⟨_, _, _, by rw [List.take_zero, List.map_nil, List.append_nil]; rfl⟩ ?_ ?_
    · rintro j y δ hy ⟨_, _, _, rfl⟩
      obtain ⟨b, hb, rfl⟩ := get_map hy
      have hbm := List.mem_of_getElem? hb
      obtain ⟨hn, hbl⟩ := h2 b hbm
      have hj : j < fs.length := (List.getElem?_eq_some_iff.mp hb).1
      refine ⟨_, _, evG_tup (ds := [b.v, .int b.n, encR b.r]) rfl (evGs_cons (evG_name 6 scMul.nd) (evGs_cons (evG_name 7 scMul.nd) (evGs_cons (evG_name 8 scMul.nd) evGs_nil))), ?_⟩
      have h9 : (3000000 : Nat) ≤ sizeLine := by decide
      have hlen : ((mulM (es.take k) fs ++ (fs.take j).map (mulE e)).map Ent.enc).length < sizeLine := by
        rw [List.length_map, List.length_append, mulM_len, List.length_map, List.length_take, List.length_take]
        have q : k * fs.length + fs.length ≤ es.length * fs.length := by
          rw [← Nat.succ_mul]
          exact Nat.mul_le_mul_right _ hk
        have h8 : (10000000 : Nat) ≤ sizeLine := by decide
        have q2 : min k es.length = k := by omega
        rw [q2]
        omega
      refine tr_append 2 rfl (d := (mulE e b).enc) (Ev.eq (ev_tup (xs := [.tuple (xs ++ [b.v]), .int (e.n * b.n), .tuple (e.r.map .int ++ b.r.map .int)]) (evA_cons (ev_catT (ev_var 3 (by rw [ev]; rfl)) (ev_tup (evA_cons (ev_var 6 rfl) evA_nil)) (by rw [List.length_cons, List.length_nil]; omega)) (evA_cons (ev_mul (ev_var 4 rfl) (ev_var 7 rfl) (.inr hn)) (evA_cons (ev_catT (ev_var 5 rfl) (ev_var 8 rfl) (by rw [List.length_map, List.length_map]; omega)) evA_nil)))) ?_) hlen ?_
      · rw [← List.map_append]
        show _ = PyData.tuple [.tuple (ditems e.v ++ [b.v]), .int (e.n * b.n), encR (e.r ++ b.r)]
        rw [ev]
        rfl
      · refine tr_nil ⟨.d b.v, .d (.int b.n), .d (encR b.r), ?_⟩
        rw [take_map _ hb, ← List.append_assoc, List.map_append (l₂ := [_])]
        rfl
    · rintro δ ⟨x, y, z, rfl⟩
      refine tr_nil ⟨.d e.v, .d (.int e.n), .d (encR e.r), x, y, z, ?_⟩
      rw [List.length_map, List.take_length]
      unfold mulM
      rw [take_flat _ he]
  · rintro δ ⟨_, _, _, _, _, _, rfl⟩
    rw [List.length_map, List.take_length]
    exact tr_retOwn 2 rfl rfl
end
end CR

set_option Elab.async false
set_option linter.all false
set_option maxRecDepth 100000
set_option maxHeartbeats 1000000
/-! # Walks: the tables of tuples, lists, repeats -/
namespace CR
open PySem L2 Evl PyProof.Rows
theorem big1 : (20000000 : Nat) ≤ sizeLine + 4000000 := by decide
theorem big2 : (10000000 : Nat) < sizeLine := by decide
def encT (t : List Ent) : PyData := .list (t.map Ent.enc)
/-- the product of the lengths -/
def prodLen (ts : List (List Ent)) : Nat := ts.foldl (fun n t => n * t.length) 1
theorem foldl_snoc {α β : Type} (f : β → α → β) (b : β) (xs : List α) (x : α) : (xs ++ [x]).foldl f b = f (xs.foldl f b) x := by
  rw [List.foldl_append]
  rfl
theorem take_snoc {α : Type} {xs : List α} {k : Nat} {x : α} (h : xs[k]? = some x) : xs.take (k + 1) = xs.take k ++ [x] := by
  rw [List.take_add_one, h]
  rfl
theorem mulAll_len : ∀ (ts : List (List Ent)) (es : List Ent), (ts.foldl mulM es).length = ts.foldl (fun n t => n * t.length) es.length
  | [], _ => rfl
  | t :: ts, es => by rw [List.foldl_cons, List.foldl_cons, mulAll_len ts, mulM_len]
theorem mulAll_tup : ∀ (ts : List (List Ent)) (es : List Ent) (L : Nat), (∀ e ∈ es, ETup L e) → (∀ t ∈ ts, ∀ e ∈ t, EFac e) → ∀ e ∈ ts.foldl mulM es, ETup (L + 1000 * ts.length) e
  | [], _, _, h, _ => h
  | t :: ts, es, L, h, h2 => fun e he => by
    have := mulAll_tup ts (mulM es t) (L + 1000) (mulM_tup h (h2 t List.mem_cons_self)) (fun t ht => h2 t (List.mem_cons_of_mem _ ht)) e he
    refine this.mono ?_
    rw [List.length_cons]
    omega
theorem ent0_tup : ∀ e ∈ ent0, ETup 0 e := fun e he => by
  obtain rfl := List.mem_singleton.mp he
  exact ⟨⟨[], rfl, Nat.le_refl _⟩, Nat.le_refl _⟩
section
variable {P : Program} {w : World} {K : PySem.W.Frag} {mg : Str → Option Value} {base : Heap} {T : List TabN} {f : Addr} {fd : FuncData}
def rTT (ds : List PyData) (d : PyData) : Prop := ∃ (ts : List (List Ent)) (p : PyData), ds = [.list (ts.map encT), p] ∧ ts.length ≤ 10 ∧ (∀ t ∈ ts, t.length ≤ 10000 ∧ ∀ e ∈ t, EFac e) ∧ (∀ k, prodLen (ts.take k) ≤ 2000) ∧
  d = encT (if (ts.any fun t => t.isEmpty) = true then [] else ts.foldl mulM ent0)
theorem scTT : FnScope ["tables", "path", "many", "part", "made"] ["tables", "path"] (defScope (top 27)) := ⟨rfl, rfl, rfl, by decide +kernel, rfl, by decide +kernel, by decide +kernel⟩
theorem ok_tt {c p : Addr} (D : DefK K mg "table_of_tuple" 27 ["tables", "path"] f fd) (m : MgN mg) (tb : TbOf base mg T fd.code none c p) (hch : Cal P w K mg base CX0 1 "check_many" (spD T rCheck)) (hmu : Cal P w K mg base CX0 1 "multiplied" (spD T rMul)) : FnOk P w K mg base CX0 3 f fd ["tables", "path"] (spD T rTT) := by
  refine fn_d (C := 0) D.fn scTT (fun ds d ⟨n, p, e, _⟩ => by rw [e]; rfl) (fun cdv A outer s H E G ds d hr hcd hR => ?_)
  obtain ⟨ts, pp, rfl, hl, hf, hp, rfl⟩ := hR
  refine tr_if0 (evB_val (ev_any (own := [("part", 3)]) (k := 1) [3] (fun y => decide ((ditems y).length = 0)) (evI_list (ev_var 0 rfl)) (fun y hy => ?_) tb.mem tb.uniq hr m.any tb.g (hcd.symm.trans tb.code)
    (gxS_by (N := ["tables", "path", "many", "part", "made"]) (sc := defScope (top 27)) (by decide +kernel)) rfl scTT.nd)) (fun hb => ?_) fun hb => ?_
  · obtain ⟨t, ht, rfl⟩ := List.mem_map.mp hy
    refine ⟨_, [3], fun i h => h, fun s0 H0 C code fp pn => ⟨evG_name 3 scTT.nd, ?_⟩⟩
    refine (ev_cmpI (ev_lenL m.len (ev_var 3 rfl)) ev_int).eq ?_
    show PyData.bool (decide (((t.map Ent.enc).length : Int) = 0)) = PyData.bool (decide ((t.map Ent.enc).length = 0))
    congr 1
    exact decide_eq_decide.mpr (by omega)
  · have e : (ts.any fun t => t.isEmpty) = true := by
      rw [List.any_map] at hb
      rw [← hb]
      congr 1
      funext t
      show t.isEmpty = decide ((t.map Ent.enc).length = 0)
      rw [List.length_map]
      cases t <;> simp
    rw [if_pos e]
    exact tr_ret (ev_lst evA_nil) rfl
  · have e : ¬ (ts.any fun t => t.isEmpty) = true := by
      rw [List.any_map] at hb
      have e2 : (ts.any fun t => t.isEmpty) = false := by
        rw [← hb]
        congr 1
        funext t
        show t.isEmpty = decide ((t.map Ent.enc).length = 0)
        rw [List.length_map]
        cases t <;> simp
      rw [e2]
      exact Bool.false_ne_true
    rw [if_neg e]
    refine tr_asg 2 ev_int scTT.nd ?_
    refine tr_for PassesOwn.never rfl (evI_list (ev_var 0 rfl)) (fun k δ => ∃ a b, δ = [.d (.list (ts.map encT)), .d pp, .d (.int (prodLen (ts.take k) : Nat)), a, b]) ⟨_, _, rfl⟩ ?_ ?_
    · rintro k y δ hy ⟨_, _, rfl⟩
      obtain ⟨t, ht, rfl⟩ := get_map hy
      have e1 : prodLen (ts.take (k + 1)) = prodLen (ts.take k) * t.length := by
        unfold prodLen
        rw [take_snoc ht, foldl_snoc]
      have h1 := hp (k + 1)
      have h2 := (hf t (List.mem_of_getElem? ht)).1
      refine ⟨_, _, evG_name 3 scTT.nd, ?_⟩
      refine tr_asg 2 (d := .int (prodLen (ts.take (k + 1)) : Nat)) ((ev_mul (ev_var 2 rfl) (ev_lenL m.len (ev_var 3 rfl)) (.inr ⟨by rw [List.length_map]; omega, by rw [List.length_map]; omega⟩)).eq ?_) scTT.nd ?_
      · rw [e1, Int.natCast_mul, List.length_map]
      · exact tr_drop (ev_call hch (hr.mono (by omega)) (evA_cons (ev_var 2 rfl) (evA_cons (ev_var 1 rfl) evA_nil)) ⟨_, _, rfl, by omega, rfl⟩) (tr_nil ⟨_, _, rfl⟩)
    · rintro δ ⟨_, _, rfl⟩
      refine tr_asg 4 (d := encT ent0) (ev_lst (evA_cons (ev_tup (evA_cons (ev_tup evA_nil) (evA_cons ev_int (evA_cons (ev_tup evA_nil) evA_nil)))) evA_nil)) scTT.nd ?_
      refine tr_for PassesOwn.never rfl (evI_list (ev_var 0 rfl)) (fun k δ => ∃ a b, δ = [.d (.list (ts.map encT)), .d pp, a, b, .d (encT ((ts.take k).foldl mulM ent0))]) ⟨_, _, rfl⟩ ?_ ?_
      · rintro k y δ hy ⟨_, _, rfl⟩
        obtain ⟨t, ht, rfl⟩ := get_map hy
        have htm := List.mem_of_getElem? ht
        refine ⟨_, _, evG_name 3 scTT.nd, ?_⟩
        have h1 := hp (k + 1)
        have e1 : ((ts.take k).foldl mulM ent0).length * t.length = prodLen (ts.take (k + 1)) := by
          rw [mulAll_len]
          unfold prodLen
          rw [take_snoc ht, foldl_snoc]
          rfl
        refine tr_asg 4 (d := encT ((ts.take (k + 1)).foldl mulM ent0)) (ev_call hmu (hr.mono (by omega)) (evA_cons (ev_var 4 rfl) (evA_cons (ev_var 3 rfl) evA_nil)) ⟨_, t, rfl, fun e he => (mulAll_tup _ _ 0 ent0_tup (fun t ht => (hf t (List.mem_of_mem_take ht)).2) e he).mono ?_, (hf t htm).2, by rw [e1]; omega, ?_⟩) scTT.nd ?_
        · rw [List.length_take]
          omega
        · rw [take_snoc ht, foldl_snoc]
          rfl
        · exact tr_nil ⟨_, _, rfl⟩
      · rintro δ ⟨_, _, rfl⟩
        refine tr_ret (ev_var 4 rfl) ?_
        rw [List.length_map, List.take_length]
end
end CR

set_option Elab.async false
set_option linter.all false
set_option maxRecDepth 100000
set_option maxHeartbeats 1000000
/-! # Walks: the tables of lists and repeats -/
namespace CR
open PySem L2 Evl PyProof.Rows
theorem EvI.eq {X : Cx} {B : Bd} {δ : List SD} {tg iter : Expr} {ys zs : List PyData} (h : EvI X B δ tg iter ys) (z : ys = zs) : EvI X B δ tg iter zs := z ▸ h
theorem flat_congr {α β : Type} {f g : α → List β} : ∀ {l : List α}, (∀ a ∈ l, f a = g a) → l.flatMap f = l.flatMap g
  | [], _ => rfl
  | a :: l, h => by
    rw [List.flatMap_cons, List.flatMap_cons, h a List.mem_cons_self, flat_congr fun b hb => h b (List.mem_cons_of_mem _ hb)]
/-! ## what the loops hold -/
def lmade (part made : List Ent) : Nat → List Ent
  | 0 => made
  | k + 1 => mulM (behindM (lmade part made k) [1]) part
def lfound (part made : List Ent) (k : Nat) : List Ent := (List.range k).flatMap fun j => behindM (lmade part made j) [0]
theorem lmade_shift (part made : List Ent) : ∀ k, lmade part (mulM (behindM made [1]) part) k = lmade part made (k + 1)
  | 0 => rfl
  | k + 1 => by
    show mulM (behindM (lmade part (mulM (behindM made [1]) part) k) [1]) part = mulM (behindM (lmade part made (k + 1)) [1]) part
    rw [lmade_shift part made k]
theorem lfound_succ (part made : List Ent) (k : Nat) : lfound part made (k + 1) = lfound part made k ++ behindM (lmade part made k) [0] := by
  unfold lfound
  rw [List.range_succ, List.flatMap_append]
  simp
theorem listFrom_eq (part : List Ent) : ∀ (n : Nat) (made : List Ent), listFrom part n made = lfound part made n ++ lmade part made n
  | 0, made => rfl
  | n + 1, made => by
    show behindM made [0] ++ listFrom part n (mulM (behindM made [1]) part) = _
    rw [listFrom_eq part n, lmade_shift]
    have e : lfound part made (n + 1) = behindM made [0] ++ lfound part (mulM (behindM made [1]) part) n := by
      unfold lfound
      rw [List.range_succ_eq_map, List.flatMap_cons, List.flatMap_map]
      congr 1
      refine flat_congr fun j _ => ?_
      rw [lmade_shift]
    rw [e, List.append_assoc]
theorem mulN_len (es s : List Ent) : ∀ n, (mulN es s n).length = es.length * s.length ^ n
  | 0 => by rw [Nat.pow_zero, Nat.mul_one]; rfl
  | n + 1 => by
    show (mulM (mulN es s n) s).length = _
    rw [mulM_len, mulN_len es s n, Nat.pow_succ, Nat.mul_assoc]
theorem mulN_tup {es s : List Ent} {L : Nat} (h : ∀ e ∈ es, ETup L e) (h2 : ∀ e ∈ s, EFac e) : ∀ n, ∀ e ∈ mulN es s n, ETup (L + 1000 * n) e
  | 0 => fun e he => (h e he).mono (by omega)
  | n + 1 => fun e he => (mulM_tup (mulN_tup h h2 n) h2 e he).mono (by omega)
theorem behindM_tup {es : List Ent} {L : Nat} {c : List Int} (hc : c.length = 1) (h : ∀ e ∈ es, ETup L e) : ∀ e ∈ behindM es c, ETup (L + 1) e := fun e he => by
  obtain ⟨a, ha, rfl⟩ := List.mem_map.mp he
  obtain ⟨⟨xs, e1, e2⟩, e3⟩ := h a ha
  refine ⟨⟨xs, e1, by omega⟩, ?_⟩
  show (a.r ++ c).length ≤ _
  rw [List.length_append]
  omega
theorem behindM_len (es : List Ent) (c : List Int) : (behindM es c).length = es.length := List.length_map ..
theorem lmade_len (part made : List Ent) : ∀ k, (lmade part made k).length = made.length * part.length ^ k
  | 0 => by rw [Nat.pow_zero, Nat.mul_one]; rfl
  | k + 1 => by
    show (mulM (behindM (lmade part made k) [1]) part).length = _
    rw [mulM_len, behindM_len, lmade_len part made k, Nat.pow_succ, Nat.mul_assoc]
theorem lmade_tup {part made : List Ent} {L : Nat} (h : ∀ e ∈ made, ETup L e) (h2 : ∀ e ∈ part, EFac e) : ∀ k, ∀ e ∈ lmade part made k, ETup (L + 1001 * k) e
  | 0 => fun e he => (h e he).mono (by omega)
  | k + 1 => fun e he => (mulM_tup (behindM_tup rfl (lmade_tup h h2 k)) h2 e he).mono (by omega)
theorem sumPow_succ (b l n : Nat) : sumPow b l (n + 1) = sumPow b l n + b ^ (l + n) := by
  unfold sumPow
  rw [List.range_succ, List.map_append, List.sum_append]
  simp
theorem sumPow_mono (b l : Nat) : ∀ {m n : Nat}, m ≤ n → sumPow b l m ≤ sumPow b l n := by
  intro m n h
  induction n with
  | zero => obtain rfl : m = 0 := by omega
            exact Nat.le_refl _
  | succ n ih =>
    rw [sumPow_succ]
    by_cases e : m = n + 1
    · subst e
      rw [sumPow_succ]
      exact Nat.le_refl _
    · have := ih (by omega)
      omega
theorem le_sumPow {b l n i : Nat} (h : i < n) : b ^ (l + i) ≤ sumPow b l n := by
  have h1 := sumPow_mono b l (m := i + 1) (n := n) h
  rw [sumPow_succ] at h1
  omega
theorem lfound_len {part made : List Ent} {l : Nat} (h : made.length = part.length ^ l) : ∀ k, (lfound part made k).length = sumPow part.length l k
  | 0 => rfl
  | k + 1 => by
    rw [lfound_succ, List.length_append, behindM_len, lfound_len h k, sumPow_succ, lmade_len, h, ← Nat.pow_add]
theorem pow_low (b : Nat) : ∀ {j l : Nat}, j ≤ l → b ^ j ≤ b ^ l + 1 := fun {j l} h => by
  by_cases e : b = 0
  · subst e
    cases j with
    | zero => exact Nat.le_add_left _ _
    | succ j => rw [Nat.zero_pow (by omega)]; exact Nat.zero_le _
  · exact Nat.le_succ_of_le (Nat.pow_le_pow_right (by omega) h)
theorem cast_sum : ∀ ns : List Nat, ((ns.map fun n : Nat => (n : Int)).sum) = ((ns.sum : Nat) : Int)
  | [] => rfl
  | n :: ns => by rw [List.map_cons, List.sum_cons, List.sum_cons, cast_sum ns, Int.natCast_add]
section
variable {P : Program} {w : World} {K : PySem.W.Frag} {mg : Str → Option Value} {base : Heap} {T : List TabN} {f : Addr} {fd : FuncData}
def rTL (ds : List PyData) (d : PyData) : Prop := ∃ (part : List Ent) (l m : Nat) (p : PyData), ds = [encT part, .int l, .int m, p] ∧ part.length ≤ 10000 ∧ (∀ e ∈ part, EFac e) ∧ l ≤ m ∧ m ≤ 6 ∧ sumPow part.length l (m + 1 - l) ≤ 2000 ∧ d = encT (listM part l m)
theorem scTL : FnScope ["part", "least", "most", "path", "made", "_", "found", "many"] ["part", "least", "most", "path"] (defScope (top 28)) := ⟨rfl, rfl, rfl, by decide +kernel, rfl, by decide +kernel, by decide +kernel⟩
theorem ok_tl (D : DefK K mg "table_of_list" 28 ["part", "least", "most", "path"] f fd) (m : MgN mg) (hch : Cal P w K mg base CX0 1 "check_many" (spD T rCheck)) (hmu : Cal P w K mg base CX0 1 "multiplied" (spD T rMul)) (hpw : Cal P w K mg base CX0 1 "power" (spD T rPow))
    (hbe : Cal P w K mg base CX0 1 "behind" (spD T rBehind)) : FnOk P w K mg base CX0 2 f fd ["part", "least", "most", "path"] (spD T rTL) := by
  refine fn_d (C := 0) D.fn scTL (fun ds d ⟨n, p, _, _, e, _⟩ => by rw [e]; rfl) (fun cdv A outer s H E G ds d hr hcd hR => ?_)
  obtain ⟨part, l, mo, pp, rfl, hpl, hpf, hlm, hm6, hsum, rfl⟩ := hR
  have hb8 : (10000000 : Nat) < sizeLine := big2
  refine tr_drop (ev_call (R := rCheck) hch hr (evA_cons (x := .int ((sumPow part.length l (mo + 1 - l) : Nat) : Int)) ((ev_sumL (ns := ((List.range (mo + 1 - l)).map fun i => ((part.length ^ (l + i) : Nat) : Int))) rfl m.sum (Ev.eq (ev_lcA (own := [("many", 7)]) (List.range (mo + 1 - l)) (fun i => .int (l + (i : Nat))) (fun y => (dint y - l).toNat) (fun i => .int ((part.length ^ (l + i) : Nat) : Int)) [7]
    (fun i _ => by show ((l : Int) + (i : Nat) - l).toNat = i; omega) rfl scTL.nd (blkOk_by (N := ["part", "least", "most", "path", "made", "_", "found", "many"]) (sc := defScope (top 28)) (by decide +kernel)) rfl ?_ (fun i hi => ?_) (by rw [List.length_range]; omega)) ?_)).eq ?_) (evA_cons (ev_var 3 rfl) evA_nil)) ⟨_, _, rfl, by omega, rfl⟩) ?_
  · exact (evI_range2 m.range (ev_var 1 rfl) (ev_add (ev_var 2 rfl) ev_int) ⟨by omega, by omega, by omega, by omega⟩).eq (by
      have e : ((mo : Int) + 1 - l).toNat = mo + 1 - l := by omega
      rw [e]
      rfl)
  · have hi := List.mem_range.mp hi
    refine ⟨_, [7], fun i h => h, fun s0 H0 C cl fp => ⟨evG_name 7 scTL.nd, evIf_nil, fun _ => ?_⟩⟩
    refine ev_call hpw (hr.mono (by omega)) (evA_cons (ev_lenL m.len (ev_var 0 rfl)) (evA_cons (ev_var 7 rfl) evA_nil)) ⟨part.length, l + i, ?_, by omega, by omega, rfl⟩
    rw [List.length_map, Int.natCast_add]
  · rw [List.map_map]
    rfl
  · congr 1
    show ((List.range (mo + 1 - l)).map ((fun n : Nat => (n : Int)) ∘ fun i => part.length ^ (l + i))).sum = _
    rw [← List.map_map, cast_sum]
    rfl
  refine tr_asg 4 (d := encT ent0) (ev_lst (evA_cons (ev_tup (evA_cons (ev_tup evA_nil) (evA_cons ev_int (evA_cons (ev_tup evA_nil) evA_nil)))) evA_nil)) scTL.nd ?_
  have hfirst : part.length ^ l ≤ 2000 := Nat.le_trans (by have := le_sumPow (b := part.length) (l := l) (n := mo + 1 - l) (i := 0) (by omega); simpa using this) hsum
  refine tr_for PassesOwn.never rfl (evI_range1 m.range (ev_var 1 rfl) ⟨by omega, by omega⟩) (fun k δ => ∃ a b c, δ = [.d (encT part), .d (.int l), .d (.int mo), .d pp, .d (encT (mulN ent0 part k)), a, b, c]) ⟨_, _, _, rfl⟩ ?_ ?_
  · rintro k y δ hy ⟨_, _, _, rfl⟩
    obtain ⟨hk, rfl⟩ := rangeD_get hy
    rw [Int.toNat_natCast] at hk
    refine ⟨_, _, evG_name 5 scTL.nd, ?_⟩
    refine tr_asg 4 (d := encT (mulN ent0 part (k + 1))) (ev_call hmu hr (evA_cons (ev_var 4 rfl) (evA_cons (ev_var 0 rfl) evA_nil)) ⟨_, part, rfl, fun e he => (mulN_tup ent0_tup hpf k e he).mono (by omega), hpf, ?_, rfl⟩) scTL.nd (tr_nil ⟨_, _, _, rfl⟩)
    rw [mulN_len]
    have h1 := pow_low part.length (j := k + 1) (l := l) hk
    rw [Nat.pow_succ] at h1
    have e0 : ent0.length = 1 := rfl
    rw [e0, Nat.one_mul]
    omega
  · rintro δ ⟨_, _, _, rfl⟩
    rw [rangeD_length, Int.toNat_natCast]
    refine tr_new 6 evA_nil scTL.nd ?_
    have hm0 : (mulN ent0 part l).length = part.length ^ l := by rw [mulN_len]; exact Nat.one_mul _
    refine tr_for PassesOwn.never rfl (evI_range2 m.range (ev_var 1 rfl) (ev_var 2 rfl) ⟨by omega, by omega, by omega, by omega⟩) (fun k δ => ∃ a b, δ = [.d (encT part), .d (.int l), .d (.int mo), .d pp, .d (encT (lmade part (mulN ent0 part l) k)), a, .own ((lfound part (mulN ent0 part l) k).map Ent.enc), b]) ⟨_, _, rfl⟩ ?_ ?_
    · rintro k y δ hy ⟨u1, u2, rfl⟩
      obtain ⟨hk, rfl⟩ := rangeD_get hy
      have hk2 : k + 1 < mo + 1 - l := by omega
      have hlm1 : part.length ^ (l + k) ≤ 2000 := Nat.le_trans (le_sumPow (by omega)) hsum
      have hlm2 : part.length ^ (l + (k + 1)) ≤ 2000 := Nat.le_trans (le_sumPow hk2) hsum
      have hml : (lmade part (mulN ent0 part l) k).length = part.length ^ (l + k) := by rw [lmade_len, hm0, ← Nat.pow_add]
      have htup := lmade_tup (L := 1000 * l) (fun e he => (mulN_tup ent0_tup hpf l e he).mono (by omega)) hpf k
      have hfl : (lfound part (mulN ent0 part l) k).length ≤ 2000 := by
        rw [lfound_len hm0]
        exact Nat.le_trans (sumPow_mono _ _ (by omega)) hsum
      refine ⟨_, _, evG_name 7 scTL.nd, ?_⟩
      refine tr_extend 6 rfl (ys := (behindM (lmade part (mulN ent0 part l) k) [0]).map Ent.enc) (ev_call hbe hr (evA_cons (ev_var 4 rfl) (evA_cons (ev_tup (evA_cons ev_int evA_nil)) evA_nil)) ⟨_, [0], rfl, by rw [hml]; omega, fun e he => by have := (htup e he).2; omega, by decide, rfl⟩) ?_ ?_
      · rw [List.length_map, List.length_map, behindM_len, hml]
        omega
      · refine tr_asg 4 (d := encT (lmade part (mulN ent0 part l) (k + 1))) (ev_call hmu hr (evA_cons (ev_call hbe hr (evA_cons (ev_var 4 rfl) (evA_cons (ev_tup (evA_cons ev_int evA_nil)) evA_nil)) ⟨_, [1], rfl, by rw [hml]; omega, fun e he => by have := (htup e he).2; omega, by decide, rfl⟩) (evA_cons (ev_var 0 rfl) evA_nil)) ⟨_, part, rfl, fun e he => (behindM_tup rfl htup e he).mono (by omega), hpf, ?_, rfl⟩) scTL.nd (tr_nil ⟨u1, .d (.int (l + (k : Nat))), ?_⟩)
        · rw [behindM_len, hml, ← Nat.pow_succ]
          have e : (l + k).succ = l + (k + 1) := rfl
          rw [e]
          omega
        · rw [lfound_succ, List.map_append]
          rfl
    · rintro δ ⟨_, _, rfl⟩
      rw [rangeD_length]
      have e : ((mo : Int) - l).toNat = mo - l := by omega
      rw [e]
      refine tr_freeze 6 rfl ?_
      refine tr_ret (ev_catL (ev_var 6 rfl) (ev_var 4 rfl) ?_) ?_
      · rw [List.length_map, List.length_map, lfound_len hm0, lmade_len, hm0, ← Nat.pow_add]
        have h1 := Nat.le_trans (sumPow_mono part.length l (m := mo - l) (n := mo + 1 - l) (by omega)) hsum
        have h2 := Nat.le_trans (le_sumPow (b := part.length) (l := l) (n := mo + 1 - l) (i := mo - l) (by omega)) hsum
        omega
      · unfold listM
        rw [listFrom_eq]
        show _ = PyData.list _
        rw [List.map_append]
/-! ## table_of_repeat -/
def RInt (e : Ent) : Prop := ∃ i, e.v = .int i
def repMade (other : List Ent) (e : Ent) : List Ent := mulN [⟨.tuple [], e.n, e.r⟩] other (dint e.v).toNat
def repSum (first other : List Ent) : Nat := ((first.filter repOk).map fun e => other.length ^ (dint e.v).toNat).sum
def rTR (ds : List PyData) (d : PyData) : Prop := ∃ (first other : List Ent) (p : PyData), ds = [encT first, encT other, p] ∧ first.length ≤ 10000 ∧ (∀ e ∈ first, EFac e ∧ RInt e) ∧ other.length ≤ 10000 ∧ (∀ e ∈ other, EFac e) ∧ repSum first other ≤ 2000 ∧ d = encT (repM first other)
theorem scTR : FnScope ["first", "other", "path", "counts", "found", "value", "count", "row", "made", "_", "triple"] ["first", "other", "path"] (defScope (top 29)) := ⟨rfl, rfl, rfl, by decide +kernel, rfl, by decide +kernel, by decide +kernel⟩
theorem sum_ge {ns : List Nat} {k n : Nat} (h : ns[k]? = some n) : (ns.take k).sum + n ≤ ns.sum := by
  have e : ns = ns.take k ++ n :: ns.drop (k + 1) := by
    have hk : k < ns.length := (List.getElem?_eq_some_iff.mp h).1
    have e2 : ns[k] = n := by
      rw [List.getElem?_eq_getElem hk] at h
      exact Option.some.inj h
    rw [← e2, ← List.drop_eq_getElem_cons hk, List.take_append_drop]
  have e3 : ns.sum = (ns.take k ++ n :: ns.drop (k + 1)).sum := congrArg List.sum e
  rw [e3, List.sum_append, List.sum_cons]
  omega
theorem flat_sum {α β : Type} (g : α → List β) : ∀ xs : List α, (xs.flatMap g).length = (xs.map fun a => (g a).length).sum
  | [] => rfl
  | a :: xs => by rw [List.flatMap_cons, List.length_append, List.map_cons, List.sum_cons, flat_sum g xs]
theorem repMade_len (other : List Ent) (e : Ent) : (repMade other e).length = other.length ^ (dint e.v).toNat := by
  unfold repMade
  rw [mulN_len]
  exact Nat.one_mul _
theorem ok_tr {p : Addr} (D : DefK K mg "table_of_repeat" 29 ["first", "other", "path"] f fd) (m : MgN mg) (hch : Cal P w K mg base CX0 1 "check_many" (spD T rCheck)) (hmu : Cal P w K mg base CX0 1 "multiplied" (spD T rMul)) (hpw : Cal P w K mg base CX0 1 "power" (spD T rPow)) : FnOk P w K mg base CX0 2 f fd ["first", "other", "path"] (spD T rTR) := by
  refine fn_d (C := 0) D.fn scTR (fun ds d ⟨n, p, _, e, _⟩ => by rw [e]; rfl) (fun cdv A outer s H E G ds d hr hcd hR => ?_)
  obtain ⟨first, other, pp, rfl, hfl, hff, hol, hof, hsum, rfl⟩ := hR
  have hb8 : (10000000 : Nat) < sizeLine := big2
  obtain ⟨t6, h6⟩ := m.long
  refine tr_setLcM (own := [("triple", 10)]) 3 first Ent.enc decE repOk Ent.enc [10] (fun e _ => decE_enc e) rfl scTR.nd (blkOk_by (N := ["first", "other", "path", "counts", "found", "value", "count", "row", "made", "_", "triple"]) (sc := defScope (top 29)) (by decide +kernel)) rfl (evI_list (ev_var 0 rfl)) (fun e he => ?_) (by omega) ?_
  · obtain ⟨i, hi⟩ := (hff e he).2
    refine ⟨_, [10], fun i h => h, fun s0 H0 C cl fp => ⟨evG_name 10 scTR.nd, evIf_one ((evB_chain (i := 0) (j := i) (l := 6) ev_int (ev_ixT (xs := [e.v, .int e.n, encR e.r]) (ev_var 10 rfl) ev_int (by rw [hi]; rfl)) (ev_globI h6)).eq ?_), fun _ => ev_var 10 rfl⟩⟩
    show (decide ((0 : Int) ≤ i) && decide (i ≤ 6)) = (decide (0 ≤ dint e.v) && decide (dint e.v ≤ 6))
    rw [hi]
    rfl
  have hcl : (first.filter repOk).length ≤ 10000 := Nat.le_trans (List.length_filter_le ..) hfl
  have hcf : ∀ e ∈ first.filter repOk, ∃ k : Nat, e.v = .int k ∧ k ≤ 6 ∧ EFac e := fun e he => by
    obtain ⟨h1, h2⟩ := List.mem_filter.mp he
    obtain ⟨i, hi⟩ := (hff e h1).2
    have h2 : (decide (0 ≤ dint e.v) && decide (dint e.v ≤ 6)) = true := h2
    rw [hi, Bool.and_eq_true, decide_eq_true_eq, decide_eq_true_eq] at h2
    have h3 : (0 : Int) ≤ i := h2.1
    have h4 : i ≤ 6 := h2.2
    exact ⟨i.toNat, by rw [hi]; congr 1; omega, by omega, (hff e h1).1⟩
  refine tr_drop (ev_call (R := rCheck) hch hr (evA_cons (x := .int ((repSum first other : Nat) : Int)) ((ev_sumL (ns := ((first.filter repOk).map fun e => ((other.length ^ (dint e.v).toNat : Nat) : Int))) rfl m.sum (Ev.eq (ev_lcA (own := [("value", 5), ("count", 6), ("row", 7)]) (first.filter repOk) Ent.enc decE (fun e => .int ((other.length ^ (dint e.v).toNat : Nat) : Int)) [5, 6, 7]
    (fun e _ => decE_enc e) rfl scTR.nd (blkOk_by (N := ["first", "other", "path", "counts", "found", "value", "count", "row", "made", "_", "triple"]) (sc := defScope (top 29)) (by decide +kernel)) rfl (evI_list (ev_var 3 rfl)) (fun e he => ?_) (by omega)) ?_)).eq ?_) (evA_cons (ev_var 2 rfl) evA_nil)) ⟨_, _, rfl, by omega, rfl⟩) ?_
  · obtain ⟨k, hk, hk6, _⟩ := hcf e he
    refine ⟨_, [5, 6, 7], fun i h => h, fun s0 H0 C cl fp => ⟨evG_tup (ds := [e.v, .int e.n, encR e.r]) rfl (evGs_cons (evG_name 5 scTR.nd) (evGs_cons (evG_name 6 scTR.nd) (evGs_cons (evG_name 7 scTR.nd) evGs_nil))), evIf_nil, fun _ => ?_⟩⟩
    refine ev_call hpw (hr.mono (by omega)) (evA_cons (ev_lenL m.len (ev_var 1 rfl)) (evA_cons (ev_var 5 rfl) evA_nil)) ⟨other.length, k, by rw [List.length_map, hk], by omega, by omega, ?_⟩
    rw [hk]
    rfl
  · rw [List.map_map]
    rfl
  · congr 1
    show ((first.filter repOk).map ((fun n : Nat => (n : Int)) ∘ fun e => other.length ^ (dint e.v).toNat)).sum = _
    rw [← List.map_map, cast_sum]
    rfl
  refine tr_new 4 evA_nil scTR.nd ?_
  refine tr_for PassesOwn.never rfl (evI_list (ev_var 3 rfl)) (fun k δ => ∃ a b c x y, δ = [.d (encT first), .d (encT other), .d pp, .d (.list ((first.filter repOk).map Ent.enc)), .own ((((first.filter repOk).take k).flatMap (repMade other)).map Ent.enc), a, b, c, x, y, .un]) ⟨_, _, _, _, _, rfl⟩ ?_ ?_
  · rintro k y δ hy ⟨_, _, _, u4, u5, rfl⟩
    obtain ⟨e, he, rfl⟩ := get_map hy
    have hem := List.mem_of_getElem? he
    obtain ⟨n, hn, hn6, hef⟩ := hcf e hem
    refine ⟨_, _, evG_tup (ds := [e.v, .int e.n, encR e.r]) rfl (evGs_cons (evG_name 5 scTR.nd) (evGs_cons (evG_name 6 scTR.nd) (evGs_cons (evG_name 7 scTR.nd) evGs_nil))), ?_⟩
    refine tr_asg 8 (d := encT [⟨.tuple [], e.n, e.r⟩]) (ev_lst (xs := [.tuple [.tuple [], .int e.n, encR e.r]]) (evA_cons (ev_tup (xs := [.tuple [], .int e.n, encR e.r]) (evA_cons (ev_tup evA_nil) (evA_cons (ev_var 6 rfl) (evA_cons (ev_var 7 rfl) evA_nil)))) evA_nil)) scTR.nd ?_
    have hstart : ∀ a ∈ [(⟨.tuple [], e.n, e.r⟩ : Ent)], ETup 1000 a := fun a ha => by
      obtain rfl := List.mem_singleton.mp ha
      exact ⟨⟨[], rfl, Nat.zero_le _⟩, hef.2⟩
    have hk1 : (((first.filter repOk).map fun e => other.length ^ (dint e.v).toNat).take k).sum + other.length ^ n ≤ 2000 := by
      refine Nat.le_trans (sum_ge ?_) hsum
      rw [List.getElem?_map, he, Option.map_some, hn]
      rfl
    refine tr_for PassesOwn.never rfl (evI_range1 (n := n) m.range (ev_var 5 (by rw [hn]; rfl)) ⟨by omega, by omega⟩) (fun j δ => ∃ y, δ = [.d (encT first), .d (encT other), .d pp, .d (.list ((first.filter repOk).map Ent.enc)), .own ((((first.filter repOk).take k).flatMap (repMade other)).map Ent.enc), .d e.v, .d (.int e.n), .d (encR e.r), .d (encT (mulN [⟨.tuple [], e.n, e.r⟩] other j)), y, .un]) ⟨_, rfl⟩ ?_ ?_
    · rintro j y δ hy ⟨_, rfl⟩
      obtain ⟨hj, rfl⟩ := rangeD_get hy
      rw [Int.toNat_natCast] at hj
      refine ⟨_, _, evG_name 9 scTR.nd, ?_⟩
      refine tr_asg 8 (d := encT (mulN [⟨.tuple [], e.n, e.r⟩] other (j + 1))) (ev_call hmu hr (evA_cons (ev_var 8 rfl) (evA_cons (ev_var 1 rfl) evA_nil)) ⟨_, other, rfl, fun a ha => (mulN_tup hstart hof j a ha).mono (by omega), hof, ?_, rfl⟩) scTR.nd (tr_nil ⟨_, rfl⟩)
      rw [mulN_len]
      have h1 := pow_low other.length (j := j + 1) (l := n) hj
      rw [Nat.pow_succ] at h1
      show 1 * other.length ^ j * other.length < 10000000
      rw [Nat.one_mul]
      omega
    · rintro δ ⟨u9, rfl⟩
      rw [rangeD_length, Int.toNat_natCast]
      have hml : (mulN [(⟨.tuple [], e.n, e.r⟩ : Ent)] other n).length = other.length ^ n := by rw [mulN_len]; exact Nat.one_mul _
      have hfl : (((first.filter repOk).take k).flatMap (repMade other)).length = (((first.filter repOk).map fun e => other.length ^ (dint e.v).toNat).take k).sum := by
        rw [flat_sum, ← List.map_take]
        congr 1
        exact List.map_congr_left fun a _ => repMade_len other a
      refine tr_extend 4 rfl (ys := (mulN [⟨.tuple [], e.n, e.r⟩] other n).map Ent.enc) (ev_var 8 rfl) ?_ (tr_nil ⟨.d e.v, .d (.int e.n), .d (encR e.r), .d (encT (mulN [⟨.tuple [], e.n, e.r⟩] other n)), u9, ?_⟩)
      · rw [List.length_map, List.length_map, hfl, hml]
        omega
      · rw [take_flat _ he, List.map_append]
        have em : repMade other e = mulN [⟨.tuple [], e.n, e.r⟩] other n := by
          unfold repMade
          rw [hn]
          rfl
        rw [em]
        rfl
  · rintro δ ⟨_, _, _, _, _, rfl⟩
    rw [List.length_map, List.take_length]
    exact tr_retOwn 4 rfl rfl
end
end CR

set_option Elab.async false
set_option linter.all false
set_option maxRecDepth 100000
set_option maxHeartbeats 4000000
/-! # Dicts in data; defs whose parameters are references -/
namespace CR
open PySem L2 Evl PyProof.Rows
/-! ## arguments that are references -/
def ArgOk (G : Hp) (v : V) (sd : SD) : Prop := match sd with
  | .d x => Dp K0 G v x
  | .ref a => v = .ref a
  | _ => False
abbrev ArgsOk (G : Hp) (vs : List V) (sds : List SD) : Prop := Paired (ArgOk G) vs sds
/-- the promise of a def some of whose arguments are references -/
def spX (T : List TabN) (Pre : Hp → Hp → List SD → PyData → Prop) : Sp := fun vs H Q _ => ∃ (G : Hp) (sds : List SD) (d : PyData), Ex G H ∧ TabsOk T G H ∧ ArgsOk G vs sds ∧ Pre G H sds d ∧ ∀ v G2 H2, Grow T m0 G H G2 H2 → Dp K0 G2 v d → Q v H2
def startS (N : List Str) (sds : List SD) : List SD := sds ++ List.replicate (N.length - sds.length) SD.un
theorem args_get {G : Hp} : ∀ {vs : List V} {sds : List SD} {i : Nat} {sd : SD}, ArgsOk G vs sds → sds[i]? = some sd → ∃ v, vs[i]? = some v ∧ ArgOk G v sd
  | _, _, i, _, .nil, e => by simp at e
  | _, _, 0, _, .cons h _, e => by
    simp only [List.getElem?_cons_zero, Option.some.injEq] at e
    subst e
    exact ⟨_, rfl, h⟩
  | _, _, i + 1, _, .cons _ t, e => by
    obtain ⟨v, h1, h2⟩ := args_get (i := i) t (by simpa using e)
    exact ⟨v, by simpa using h1, h2⟩
theorem args_noown {G : Hp} {v : V} {sd : SD} (h : ArgOk G v sd) : sd.owns = false := by
  cases sd <;> first | rfl | exact h.elim
theorem startS_sta {B : Bd} {N : List Str} {vs : List V} {sds : List SD} (h : ArgsOk B.G0 vs sds) (e : Ex B.G0 B.H0) (t : TabsOk B.T B.G0 B.H0) : Sta B (startS N sds) (L2.start N vs) B.G0 B.H0 := by
  have hl : vs.length = sds.length := paired_len h
  refine ⟨Grow.refl e t, ?_, fun i sd hi => ?_, fun j k sj sk b e1 e2 o1 o2 f1 f2 => ?_⟩
  · unfold L2.start startS
    rw [List.length_append, List.length_append, List.length_map, List.length_replicate, List.length_replicate, hl]
  · unfold startS at hi
    by_cases hlt : i < sds.length
    · rw [List.getElem?_append_left hlt] at hi
      obtain ⟨v, e1, e2⟩ := args_get h hi
      have ev : (L2.start N vs)[i]? = some (some v) := by
        unfold L2.start
        rw [List.getElem?_append_left (by rw [List.length_map, hl]; exact hlt), List.getElem?_map, e1]
        rfl
      cases sd with
      | d x => exact ⟨v, ev, e2⟩
      | ref a =>
        have e2 : v = .ref a := e2
        rw [e2] at ev
        exact ev
      | un => trivial
      | _ => exact e2.elim
    · rw [List.getElem?_append_right (by omega), List.getElem?_replicate] at hi
      split at hi
      · cases hi; trivial
      · cases hi
  · unfold startS at e1
    by_cases hlt : j < sds.length
    · rw [List.getElem?_append_left hlt] at e1
      obtain ⟨v, _, e2⟩ := args_get h e1
      rw [args_noown e2] at o1
      cases o1
    · rw [List.getElem?_append_right (by omega), List.getElem?_replicate] at e1
      split at e1
      · cases e1; cases o1
      · cases e1
section
variable {P : Program} {w : World} {K : PySem.W.Frag} {mg : Str → Option Value} {base : Heap}
/-- THE RULE for such a def -/
theorem fn_x {T : List TabN} {C : Addr} {x qual : Str} {st : Stmt} {f : Addr} {fd : FuncData} {N ps : List Str} {k : Nat} {Pre : Hp → Hp → List SD → PyData → Prop} (F : Fun K x qual st f fd) (S : FnScope N ps (defScope st)) (hR : ∀ G H sds d, Pre G H sds d → sds.length = ps.length)
    (body : ∀ (cdv : Value) (A : Around) (outer : List Env) (s : Shared) (H : Hp) (E : XK) (G : Hp) (sds : List SD) (d : PyData), Room k (A.deeper (envOfC qual (defScope st) s.heap.objs.size f cdv)) → fd.code = cdv → Pre G H sds d →
      Tr (cxOf CX0 P w K mg base N qual (defScope st) f cdv A outer s H E).nox ⟨T, m0, C, G, H⟩ (startS N sds) (defBody st) { nx := fun _ => d = .none, rt := fun r => r = d }) : FnOk P w K mg base CX0 (k + 1) f fd ps (spX T Pre) := by
  obtain ⟨oc, od, kV, doc, pm, an, cdv, ct, osl, rfl, lk, hcd⟩ := F.ex
  refine fn_of lk hcd S (fun vs H Q E ⟨G, sds, d, e, t, h, r, q⟩ => (paired_len h).trans (hR _ _ _ _ r)) fun A outer s H vs Q E hr hsp => ?_
  obtain ⟨G, sds, d, e, t, h, r, q⟩ := hsp
  refine ⟨_, pss_sem.nox, ?_⟩
  refine semSs_mono (body cdv A outer s H E G sds d hr rfl r (L2.start N vs) G H G (startS_sta (B := ⟨T, m0, C, G, H⟩) h e t) (Ex.refl G)) (fun σ H ⟨G2, δ, z, s2, _⟩ => ?_) (fun v H ⟨G2, d2, ⟨z, _⟩, g, h2⟩ => ?_) (fun σ H ⟨G2, δ, z, _⟩ => z.elim) (fun σ H ⟨G2, δ, z, _⟩ => z.elim)
  · subst z
    exact q _ G2 H s2.gr .non
  · subst z
    exact q _ G2 H g h2
end
section
variable {X : Cx} {B : Bd} {δ : List SD} {a b c e : Expr} {es : List Expr} {d x y : PyData} {ds xs ys : List PyData} {sds : List SD} {pos : Pos} {P : DP} {rest : List Stmt} {κ : Bool} {kvs : List (PyData × PyData)}
def EvAS (X : Cx) (B : Bd) (δ : List SD) (es : List Expr) (sds : List SD) : Prop :=
  ∀ (σ : L2.St) (G H : Hp), Sta B δ σ G H → ∀ Q : List V → Hp → Prop, (∀ vs G2 H2, Grow B.T m0 G H G2 H2 → ArgsOk G2 vs sds → Q vs H2) → semA X es σ H Q
theorem ArgOk.mono {G G2 : Hp} (e : Ex G G2) {v : V} {sd : SD} (h : ArgOk G v sd) : ArgOk G2 v sd := by
  cases sd with
  | d x => exact L2.Dp.mono (K := K0) h e
  | ref a => exact h
  | _ => exact h.elim
theorem evAS_nil : EvAS X B δ [] [] := fun σ G H s Q q => semA_of pa_nil (q [] G H s.refl .nil)
theorem evAS_cons (ha : Ev X B δ a x) (ht : EvAS X B δ es sds) (hs : starEach (a :: es) X.env = (false, eval a X.env) :: starEach es X.env := by rfl) : EvAS X B δ (a :: es) (.d x :: sds) := fun σ G H s Q q =>
  semA_of (pa_cons pe_sem pa_sem hs) (ha σ G H s _ fun u G1 H1 g1 d1 => ht σ G1 H1 (s.grow g1) _ fun us G2 H2 g2 d2 => q _ G2 H2 (g1.trans g2) (.cons (show ArgOk G2 u (.d x) from d1.mono g2.g) d2))
theorem evAS_ref (n : Nat) {z : Str} {p : Addr} {pz : Pos} (hn : δ[n]? = some (.ref p)) (ht : EvAS X B δ es sds) (hN : X.N[n]? = some z := by rfl) (hv : Vis X.env.scope z := by first | exact Or.inl rfl | exact Or.inr (Or.inl rfl) | exact Or.inr (Or.inr rfl))
    (hd : (z == ("__debug__" : Str)) = false := by decide) (hcd : (z == ("__classdict__" : Str)) = false := by decide) (hs : starEach (.Name z pz :: es) X.env = (false, eval (.Name z pz) X.env) :: starEach es X.env := by rfl) : EvAS X B δ (.Name z pz :: es) (.ref p :: sds) := fun σ G H s Q q =>
  semA_of (pa_cons (pe_var hN hv hd hcd) pa_sem hs) ⟨.ref p, s.ok n _ hn, ht σ G H s _ fun us G2 H2 g2 d2 => q _ G2 H2 g2 (.cons (show ArgOk G2 (.ref p) (.ref p) from rfl) d2)⟩
theorem ev_callX {k : Nat} {z : Str} {Pre : Hp → Hp → List SD → PyData → Prop} {pz : Pos} (F : Cal X.prog X.w X.K X.mg X.base CX0 k z (spX B.T Pre)) (hr : Room k X.A) (ha : EvAS X B δ (a :: es) sds) (hp : ∀ σ G H, Sta B δ σ G H → Pre G H sds d) (hg : Gl X z := by rfl)
    (hdb : (z == ("__debug__" : Str)) = false := by decide) (he : starEach (a :: es) X.env = (false, eval a X.env) :: starEach es X.env := by rfl) (hpl : (backTo pos (starEach es X.env)).any (·.1) = false := by rfl) :
    Ev X B δ (.Call (.Name z pz) (a :: es) [] pos) d := by
  obtain ⟨f, fd, ps, F, hm, hk, hb⟩ := F
  exact ev_of (pe_call F hr hg hm hk hb .nil (pass0 (X := X)) pa_sem hdb he hpl) fun σ G H s Q q => ha σ G H s _ fun us G1 H1 g1 d1 => by
    rw [List.append_nil]
    exact ⟨G1, sds, d, g1.gh, g1.t, d1, hp σ G1 H1 (s.grow g1), fun v G2 H2 g2 d2 => q v G2 H2 (g1.trans g2) d2⟩
/-! ## an own thing is changed -/
theorem Sta.mutX {σ : L2.St} {G H : Hp} {t : Addr} {o o' : HO} {sd sd' : SD} (n : Nat) (hn : δ[n]? = some sd) (ho : sd.owns = true) (s : Sta B δ σ G H) (ht : σ[n]? = some (some (.ref t))) (h1 : G t = none) (h2 : B.H0 t = none) (h3 : H t = some o) (nt : NT o) (hnc : ∀ c q, H c = some (CodeO c q) → c ≠ t) (hv : SlotOk B G (upd H t o') sd' (some (some (.ref t)))) :
    Sta B (δ.set n sd') σ G (upd H t o') := by
  have hlen : n < δ.length := (List.getElem?_eq_some_iff.mp hn).1
  have eH : Ex G (upd H t o') := fun a u h => by
    rw [upd_ne (ne_of_none h h1)]; exact s.e a u h
  have ne : ∀ (j : Nat) (sj : SD) (b : Addr), j ≠ n → δ[j]? = some sj → sj.owns = true → σ[j]? = some (some (.ref b)) → b ≠ t := fun j sj b hj e1 o1 f1 z => by
    subst z
    exact hj (s.sep j n sj _ b e1 hn o1 ho f1 ht)
  have nT : ∀ {b : Addr} {ps : Array Value}, H b = some (.tbl ps) → b ≠ t := fun {b ps} q z => by
    rw [z, h3] at q
    exact nt ps (Option.some.inj q)
  refine ⟨⟨s.gr.g, eH, fun a o h0 nt nm => ?_, fun P hP => ⟨(s.t P hP).1.step (fun ps q1 => by rw [upd_ne (nT q1)]; exact q1) fun c q q1 => by rw [upd_ne (hnc c q q1)]; exact q1, (s.t P hP).2⟩, s.gr.fr, fun a h0 => ?_⟩, by rw [List.length_set, s.len], fun j sd ej => ?_, fun j k sj sk b e1 e2 o1 o2 f1 f2 => ?_⟩
  · rw [upd_ne (ne_of_none h0 h2)]
    exact s.gr.h a o h0 nt nm
  · by_cases ha : a = t
    · subst ha; rw [upd_same]; simp
    · rw [upd_ne ha]; exact s.gr.d a h0
  · by_cases hj : n = j
    · subst hj
      rw [List.getElem?_set_self hlen] at ej
      cases ej
      rw [ht]
      exact hv
    · rw [List.getElem?_set_ne hj] at ej
      have z := s.ok j sd ej
      cases sd with
      | un => trivial
      | ref a => exact z
      | d x => exact z
      | own zs =>
        obtain ⟨b, ws, e', k1, k2, k3, k4⟩ := z
        have nb := ne j _ b (Ne.symm hj) ej rfl e'
        exact ⟨b, ws, e', k1, k2, by rw [upd_ne nb]; exact k3, k4⟩
      | obj q row used =>
        obtain ⟨e', k1, k2, dx, fs, rv, k3, k4, k5, k6, k7, k8⟩ := z
        have nb := ne j _ q (Ne.symm hj) ej rfl e'
        exact ⟨e', k1, k2, dx, fs, rv, by rw [upd_ne nb]; exact k3, k4, k5, k6, k7, k8⟩
      | ext φ =>
        obtain ⟨b, e', k1, k2, ⟨o, k3, k4⟩, k5, k6⟩ := z
        have nb := ne j _ b (Ne.symm hj) ej rfl e'
        exact ⟨b, e', k1, k2, ⟨o, by rw [upd_ne nb]; exact k3, k4⟩, k5, k5 _ _ _ _ _ k6 (Ex.refl G) eH (upd_ne nb)⟩
  · have key : ∀ {j : Nat} {sj : SD}, (δ.set n sd')[j]? = some sj → sj.owns = true → ∃ sj', δ[j]? = some sj' ∧ sj'.owns = true := fun {j sj} e1 o1 => by
      by_cases hj : n = j
      · subst hj
        exact ⟨_, hn, ho⟩
      · rw [List.getElem?_set_ne hj] at e1
        exact ⟨_, e1, o1⟩
    obtain ⟨_, a1, a2⟩ := key e1 o1
    obtain ⟨_, b1, b2⟩ := key e2 o2
    exact s.sep j k _ _ b a1 b1 a2 b2 f1 f2
/-! ## a dict of the def's own -/
abbrev SDict (X : Cx) (κ : Bool) (kvs : List (PyData × PyData)) : SD := .ext (DictAt X.prog X.w κ kvs)
theorem ext_nt {φ : Heap → Prop} : NT (.ext φ) := fun ps z => by cases z
theorem tr_dnew (n : Nat) {z : Str} {pz p2 : Pos} (κ : Bool) (hnd : X.N.Nodup) (h : Tr X B (δ.set n (SDict X κ [])) rest P) (hN : X.N[n]? = some z := by rfl) (hx : Loc X.env.scope z := by first | exact Or.inl rfl | exact Or.inr rfl)
    (hf : X.fn z = true ∨ X.env.scope.names.lookup z = some .local := by first | exact .inl rfl | exact .inr rfl) (hs : swapsWith (.Dict [] [] p2) (some (.Name z pz)) pos.line X.env = pure false := by rfl) : Tr X B δ (.Assign [.Name z pz] (.Dict [] [] p2) pos :: rest) P :=
  tr_cons fun σ G H Gs s eg => semS_of (ps_set hnd hN hx (pe_dnew κ) hs hf) fun p o hp hD => by
    refine ⟨G, _, h, s.setO hp ⟨p, rfl, fresh_back s.e hp, ?_, ⟨_, upd_same, ext_nt⟩, dictAt_stable, hD G⟩, eg⟩
    cases z : B.H0 p with
    | none => rfl
    | some o => exact (s.gr.d p (by rw [z]; simp) hp).elim
/-- x in d -/
theorem evB_inDict (n : Nat) {z : Str} {pz : Pos} (hu : X.A.units + 64 < cLine) (hn : δ[n]? = some (SDict X κ kvs)) (ha : Ev X B δ a x) (hk : KeyOk κ x) (hN : X.N[n]? = some z := by rfl) (hv : Vis X.env.scope z := by first | exact Or.inl rfl | exact Or.inr (Or.inl rfl) | exact Or.inr (Or.inr rfl))
    (hd : (z == ("__debug__" : Str)) = false := by decide) (hcd : (z == ("__classdict__" : Str)) = false := by decide) (hm : behindInMarks .In (.Name z pz) = false := by rfl) : EvB X B δ (.Compare a [.In] [.Name z pz] pos) (lookD kvs x).isSome :=
  evB_of (pt_cmpR (op_inD hu) pe_sem (pe_var hN hv hd hcd) hm) fun σ G H s Q q => ha σ G H s _ fun u G1 H1 g1 d1 => by
    obtain ⟨t, e1, h1, h2, ⟨o, h3, h4⟩, h5, h6⟩ := (s.grow g1).ok n _ hn
    exact ⟨_, e1, t, κ, kvs, G1, x, rfl, h6, g1.gh, d1, hk, _, rfl, q G1 H1 g1⟩
/-- d[x] -/
theorem ev_dget (n : Nat) {z : Str} {pz : Pos} (hu : X.A.units + 64 < cLine) (hn : δ[n]? = some (SDict X κ kvs)) (ha : Ev X B δ a x) (hk : KeyOk κ x) (hl : lookD kvs x = some y) (hs : PlainIx a := by exact fun _ _ => rfl) (hN : X.N[n]? = some z := by rfl) (hv : Vis X.env.scope z := by first | exact Or.inl rfl | exact Or.inr (Or.inl rfl) | exact Or.inr (Or.inr rfl))
    (hd : (z == ("__debug__" : Str)) = false := by decide) (hcd : (z == ("__classdict__" : Str)) = false := by decide) : Ev X B δ (.Subscript (.Name z pz) a pos) y :=
  ev_of (pe_ix (ix_D hu) (pe_var hN hv hd hcd) pe_sem hs) fun σ G H s Q q => by
    obtain ⟨t0, e0, _⟩ := s.ok n _ hn
    refine ⟨_, e0, ha σ G H s _ fun u G1 H1 g1 d1 => ?_⟩
    obtain ⟨t, e1, h1, h2, ⟨o, h3, h4⟩, h5, h6⟩ := (s.grow g1).ok n _ hn
    rw [e0] at e1
    cases e1
    exact ⟨t0, κ, kvs, G1, x, y, rfl, h6, g1.gh, d1, hk, hl, fun v dv => q v G1 H1 g1 dv⟩
/-- d[x] = y -/
theorem tr_dset (n : Nat) {z : Str} {pz p2 : Pos} (hu : X.A.units + 64 < cLine) (hn : δ[n]? = some (SDict X κ kvs)) (he : Ev X B δ e y) (ha : Ev X B δ a x) (hk : KeyOk κ x) (hz : kvs.length ≤ sizeLine) (h : Tr X B (δ.set n (SDict X κ (storeD kvs x y))) rest P) (hN : X.N[n]? = some z := by rfl)
    (hv : Vis X.env.scope z := by first | exact Or.inl rfl | exact Or.inr (Or.inl rfl) | exact Or.inr (Or.inr rfl)) (hd : (z == ("__debug__" : Str)) = false := by decide) (hcd : (z == ("__classdict__" : Str)) = false := by decide)
    (hs : swapsWithSole [.Subscript (.Name z pz) a p2] e pos.line X.env = pure false := by rfl) (hw : swappedStores [.Subscript (.Name z pz) a p2] e X.env = pure none := by rfl)
    (h1 : (assignEach [.Subscript (.Name z pz) a p2] X.env).map (·.2) = [assign (.Subscript (.Name z pz) a p2) X.env] := by rfl)
    (hasg : ∀ v, assign (.Subscript (.Name z pz) a p2) X.env v = (do
      let ov ← holding [v] (eval (.Name z pz) X.env)
      let iv ← holding [v, ov] (eval a X.env)
      standAt p2
      holding [v, ov, iv] (setItem ov iv v)
      release [v, ov, iv] []) := by intro _; rfl) : Tr X B δ (.Assign [.Subscript (.Name z pz) a p2] e pos :: rest) P :=
  tr_cons fun σ G H Gs s eg => semS_of (ps_asg pe_sem (pg_sub (pe_var hN hv hd hcd) pe_sem (set_D hu) hasg) hs hw h1) (he σ G H s _ fun v G1 H1 g1 d1 => by
    have s1 := s.grow g1
    obtain ⟨t0, e0, _⟩ := s1.ok n _ hn
    refine ⟨_, e0, ha σ G1 H1 s1 _ fun u G2 H2 g2 d2 => ?_⟩
    have s2 := s1.grow g2
    obtain ⟨t, e1, k1, k2, ⟨o, k3, k4⟩, k5, k6⟩ := s2.ok n _ hn
    rw [e0] at e1
    cases e1
    refine ⟨t0, κ, kvs, G2, x, y, rfl, k6, g2.gh, d2, hk, d1.mono g2.g, hz, fun ob hD hnc => ?_⟩
    exact ⟨G2, _, h, s2.mutX n hn rfl e0 k1 k2 k3 k4 hnc ⟨t0, rfl, k1, k2, ⟨_, upd_same, ext_nt⟩, dictAt_stable, hD⟩, (eg.trans g1.g).trans g2.g⟩)
/-- an own dict stands still from here on -/
theorem Sta.freezeX {σ : L2.St} {G H : Hp} (n : Nat) (hn : δ[n]? = some (SDict X κ kvs)) (s : Sta B δ σ G H) : ∃ (t : Addr) (ob : Obj) (G' : Hp), σ[n]? = some (some (.ref t)) ∧ G' t = some (.ext (ObjIs t ob)) ∧ (t == sysModules) = false ∧ DictO X.prog X.w κ ob kvs G' ∧ Ex G G' ∧ Ex G' H ∧
    (∀ (i : Nat) (x : PyData), δ[i]? = some (.d x) → ∃ u, σ[i]? = some (some u) ∧ Dp K0 G' u x) ∧ TabsOk B.T G' H ∧ (∀ a, B.H0 a ≠ none → B.G0 a = none → G' a = none) := by
  obtain ⟨t, e, h1, h2, ⟨o, h3, h4⟩, h5, h6⟩ := s.ok n _ hn
  obtain ⟨hsm, ob, k1, k2⟩ := h6
  have eG : Ex G (upd G t (.ext (ObjIs t ob))) := Ex.new h1
  refine ⟨t, ob, upd G t (.ext (ObjIs t ob)), e, upd_same, hsm, k2.mono eG, eG, fun a u h => ?_, fun i x hi => ?_, fun P hP => ⟨(s.t P hP).1, ?_⟩, fun a h0 g0 => ?_⟩
  · by_cases ha : a = t
    · subst ha; rw [upd_same] at h; cases h; exact k1
    · rw [upd_ne ha] at h; exact s.e a u h
  · obtain ⟨u, e1, e2⟩ := s.ok i _ hi
    exact ⟨u, e1, e2.mono eG⟩
  · obtain ⟨⟨ps, q1, _⟩, q3⟩ := s.t P hP
    rw [upd_ne (fun z => by rw [z, k1] at q1; exact ext_nt ps (Option.some.inj q1))]
    exact q3
  · rw [upd_ne (fun z => by subst z; exact h0 h2)]
    exact s.gr.fr a h0 g0
/-- return e, where e takes an own dict away -/
theorem tr_retDict (n : Nat) {rp : Pos} (hn : δ[n]? = some (SDict X κ kvs)) (h : P.rt d)
    (he : ∀ (t : Addr) (ob : Obj) (G' H' : Hp), G' t = some (.ext (ObjIs t ob)) → (t == sysModules) = false → DictO X.prog X.w κ ob kvs G' → Ev X ⟨B.T, m0, B.C, G', H'⟩ ((δ.set n (.ref t)).map SD.dat) e d) (hro : ∀ G H, P.ro G H := by exact fun _ _ => trivial) : Tr X B δ (.Return (some e) rp :: rest) P :=
  tr_cons fun σ G H Gs s eg => semS_of (ps_ret pe_sem) (by
    obtain ⟨t, ob, G', e1, e2, e3, e4, e5, e6, e7, e8, e9⟩ := s.freezeX n hn
    have hlen : n < δ.length := (List.getElem?_eq_some_iff.mp hn).1
    have s2 : Sta ⟨B.T, m0, B.C, G', H⟩ ((δ.set n (.ref t)).map SD.dat) σ G' H := by
      refine ⟨Grow.refl e6 e8, by rw [List.length_map, List.length_set, s.len], fun i sd hi => ?_, fun j k sj sk b z1 z2 o1 o2 f1 f2 => ?_⟩
      · rw [List.getElem?_map] at hi
        by_cases hin : n = i
        · subst hin
          rw [List.getElem?_set_self hlen] at hi
          cases hi
          exact e1
        · rw [List.getElem?_set_ne hin] at hi
          cases q : δ[i]? with
          | none => rw [q] at hi; cases hi
          | some sd' =>
            rw [q] at hi
            cases hi
            cases sd' with
            | d x => exact e7 i x q
            | ref a => exact s.ok i _ q
            | _ => trivial
      · rw [List.getElem?_map] at z1
        cases q : (δ.set n (.ref t))[j]? with
        | none => rw [q] at z1; cases z1
        | some sd' =>
          rw [q] at z1
          cases z1
          cases sd' <;> cases o1
    refine he t ob G' H e2 e3 e4 σ G' H s2 _ fun v G2 H2 g2 d2 => ⟨G2, d, ⟨h, hro _ _⟩, ?_, d2⟩
    have g1 : Grow B.T B.m B.G0 B.H0 G' H := ⟨s.gr.g.trans e5, e6, s.gr.h, e8, e9, s.gr.d⟩
    exact g1.trans g2.weak)
/-- d.items() -/
theorem evI_items {t : Addr} {ob : Obj} {z : Str} {pz apos cpos : Pos} {elts : List Expr} {kk : Nat} {tpos : Pos} (n : Nat) (hn : δ[n]? = some (.ref t)) (hG : B.G0 t = some (.ext (ObjIs t ob))) (hs : (t == sysModules) = false) (hD : DictO X.prog X.w κ ob kvs B.G0)
    (hN : X.N[n]? = some z := by rfl) (hv : Vis X.env.scope z := by first | exact Or.inl rfl | exact Or.inr (Or.inl rfl) | exact Or.inr (Or.inr rfl)) (hd : (z == ("__debug__" : Str)) = false := by decide) (hcd : (z == ("__classdict__" : Str)) = false := by decide)
    (hbase : attributeBase (.Name z pz) "items" X.env (eval (.Name z pz) X.env) = eval (.Name z pz) X.env := by rfl) (hline : (apos.endLine == cpos.line) = true := by rfl) :
    EvI X B δ (.Tuple elts kk tpos) (.Call (.Attribute (.Name z pz) "items" apos) [] [] cpos) (kvs.map fun p => .tuple [p.1, p.2]) := fun σ G H s R r =>
  semI_of (pi_itemsX (pe_var hN hv hd hcd) hbase hline) (by
    obtain ⟨es, ep, ks, vs, h1, h2, h3, h4, h5, h6⟩ := dictO_items (hD.mono s.gr.g)
    have hkl : ks.length = kvs.length := by rw [h5.length, List.length_map]
    refine ⟨.ref t, s.ok n _ hn, t, ob, es, ep, ks, vs, rfl, hs, s.e _ _ (s.gr.g _ _ hG), h1, h2, h3, h4, r _ G H s.refl ⟨fun i G' H' hi e1 e2 => ?_, fun G' H' e1 e2 => ?_, fun i G' H' v H2 y hy e1 e2 ht q => ?_⟩⟩
    · rw [List.length_map] at hi
      exact ⟨e2 _ _ (e1 _ _ (s.gr.g _ _ hG)), by rw [hkl]; exact hi⟩
    · rw [List.length_map]
      exact ⟨e2 _ _ (e1 _ _ (s.gr.g _ _ hG)), by rw [hkl]; exact Nat.le_refl _⟩
    · obtain ⟨T, k, w, a1, a2, rfl, a4, rfl⟩ := q
      obtain ⟨p, hp, rfl⟩ := get_map hy
      obtain ⟨k', b1, b2⟩ := h5.get (i := i) (d := p.1) (by rw [List.getElem?_map, hp]; rfl)
      obtain ⟨w', c1, c2⟩ := h6.get (i := i) (d := p.2) (by rw [List.getElem?_map, hp]; rfl)
      rw [a1] at b1
      cases b1
      rw [a2] at c1
      cases c1
      have g : Grow B.T m0 G' H' (upd G' T (.tup [k, w])) (upd H' T (.tup [k, w])) := Grow.laid e2 ht a4
      exact ⟨_, g, .tup (SqT.of upd_same) (.cons ((b2.mono e1).mono g.g) (.cons ((c2.mono e1).mono g.g) .nil))⟩)
end
end CR

set_option Elab.async false
set_option linter.all false
set_option maxRecDepth 100000
set_option maxHeartbeats 1000000
/-! # Walks: in_order, put_together -/
namespace CR
open PySem L2 Evl PyProof.Rows
def entK (e : Ent) : PyData × PyData := (e.v, .tuple [.int e.n, encR e.r])
def kvsOf (es : List Ent) : List (PyData × PyData) := es.map entK
def encI (e : Ent) : PyData := .tuple [e.v, .tuple [.int e.n, encR e.r]]
def decI : PyData → Ent
  | .tuple [v, .tuple [.int n, .tuple r]] => ⟨v, n, r.map dint⟩
  | _ => ⟨.none, 0, []⟩
theorem decI_enc (e : Ent) : decI (encI e) = e := by
  show Ent.mk e.v e.n ((e.r.map PyData.int).map dint) = e
  rw [dint_map]
def PreOrd (P : Program) (w : World) (G H : Hp) (sds : List SD) (d : PyData) : Prop := ∃ (a : Addr) (ob : Obj) (κ : Bool) (es : List Ent), sds = [.ref a] ∧ G a = some (.ext (ObjIs a ob)) ∧ (a == sysModules) = false ∧ DictO P w κ ob (kvsOf es) G ∧ es.length < 10000000 ∧ d = encT (es.mergeSort entLe)
theorem keyS_by {scope : Scope} {x : Str} (h : (decide (scope.kind = .function) && !scope.isCoroutine && !scope.isGenerator && decide (scope.names.lookup x = some .local) && decide (scope.names.lookup ("len" : Str) = some .globalImplicit) && scope.names.all fun y => !decide (y.2 = .cell)) = true) : KeyS scope x := by
  simp only [Bool.and_eq_true, Bool.not_eq_true', List.all_eq_true, decide_eq_true_eq, decide_eq_false_iff_not] at h
  obtain ⟨⟨⟨⟨⟨h1, h2⟩, h3⟩, h4⟩, h5⟩, h6⟩ := h
  exact ⟨h1, h2, h3, h4, h5, h6⟩
/-! ## what goes into the dict -/
theorem put_none {e : Ent} : ∀ {found : List Ent}, (∀ f ∈ found, PyData.eqv f.v e.v = false) → putOne found e = found ++ [e]
  | [], _ => rfl
  | f :: r, h => by
    unfold putOne
    rw [h f List.mem_cons_self, if_neg Bool.false_ne_true, put_none fun g hg => h g (List.mem_cons_of_mem _ hg)]
    rfl
theorem look_none {e : Ent} : ∀ {found : List Ent}, (∀ f ∈ found, PyData.eqv f.v e.v = false) → lookD (kvsOf found) e.v = none
  | [], _ => rfl
  | f :: r, h => by
    have ih := look_none fun g hg => h g (List.mem_cons_of_mem _ hg)
    unfold lookD kvsOf at ih ⊢
    rw [List.map_cons, List.find?_cons]
    have e1 : PyData.eqv (entK f).1 e.v = false := h f List.mem_cons_self
    rw [e1]
    exact ih
theorem split_eqv {e : Ent} : ∀ (found : List Ent), (∀ f ∈ found, PyData.eqv f.v e.v = false) ∨ ∃ l1 f l2, found = l1 ++ f :: l2 ∧ (∀ g ∈ l1, PyData.eqv g.v e.v = false) ∧ PyData.eqv f.v e.v = true
  | [] => .inl fun f hf => by cases hf
  | f :: r => by
    cases h : PyData.eqv f.v e.v with
    | true => exact .inr ⟨[], f, r, rfl, fun g hg => by (cases hg), h⟩
    | false =>
      rcases split_eqv (e := e) r with z | ⟨l1, g, l2, e1, e2, e3⟩
      · exact .inl fun g hg => by
          rcases List.mem_cons.mp hg with rfl | hg
          · exact h
          · exact z g hg
      · refine .inr ⟨f :: l1, g, l2, by rw [e1]; rfl, fun x hx => ?_, e3⟩
        rcases List.mem_cons.mp hx with rfl | hx
        · exact h
        · exact e2 x hx
/-- two of one key -/
def mergeE (f e : Ent) : Ent := { v := f.v, n := e.n + f.n, r := if lessM f.r e.r = true then f.r else e.r }
theorem put_some {e f : Ent} {l2 : List Ent} (hf : PyData.eqv f.v e.v = true) : ∀ {l1 : List Ent}, (∀ g ∈ l1, PyData.eqv g.v e.v = false) → putOne (l1 ++ f :: l2) e = l1 ++ mergeE f e :: l2
  | [], _ => by
    show putOne (f :: l2) e = _
    unfold putOne
    rw [hf, if_pos rfl]
    rfl
  | g :: l1, h => by
    show putOne (g :: (l1 ++ f :: l2)) e = _
    unfold putOne
    rw [h g List.mem_cons_self, if_neg Bool.false_ne_true, put_some hf fun x hx => h x (List.mem_cons_of_mem _ hx)]
    rfl
theorem look_some {e f : Ent} {l2 : List Ent} (hf : PyData.eqv f.v e.v = true) : ∀ {l1 : List Ent}, (∀ g ∈ l1, PyData.eqv g.v e.v = false) → lookD (kvsOf (l1 ++ f :: l2)) e.v = some (entK f).2
  | [], _ => by
    unfold lookD kvsOf
    rw [List.nil_append, List.map_cons, List.find?_cons]
    have e1 : PyData.eqv (entK f).1 e.v = true := hf
    rw [e1]
    rfl
  | g :: l1, h => by
    have ih := look_some (l2 := l2) hf fun x hx => h x (List.mem_cons_of_mem _ hx)
    unfold lookD kvsOf at ih ⊢
    rw [List.cons_append, List.map_cons, List.find?_cons]
    have e1 : PyData.eqv (entK g).1 e.v = false := h g List.mem_cons_self
    rw [e1]
    exact ih
theorem map_same {e : Ent} {y : PyData} : ∀ {l : List Ent}, (∀ g ∈ l, PyData.eqv g.v e.v = false) → (kvsOf l).map (fun p => if PyData.eqv p.1 e.v = true then (p.1, y) else p) = kvsOf l
  | [], _ => rfl
  | g :: l, h => by
    have ih := map_same (y := y) fun x hx => h x (List.mem_cons_of_mem _ hx)
    unfold kvsOf at ih ⊢
    rw [List.map_cons, List.map_cons, ih]
    have e1 : PyData.eqv (entK g).1 e.v = false := h g List.mem_cons_self
    rw [e1, if_neg Bool.false_ne_true]
structure KD (κ : Bool) (found : List Ent) : Prop where
  key : ∀ f ∈ found, KeyOk κ f.v
  apart : found.Pairwise fun a b => PyData.eqv a.v b.v = false
theorem put_spec {κ : Bool} {found : List Ent} {e : Ent} (h : KD κ found) (ke : KeyOk κ e.v) : KD κ (putOne found e) ∧ (putOne found e).length ≤ found.length + 1 ∧
    ((lookD (kvsOf found) e.v = none ∧ kvsOf (putOne found e) = storeD (kvsOf found) e.v (entK e).2) ∨ ∃ f, lookD (kvsOf found) e.v = some (entK f).2 ∧ kvsOf (putOne found e) = storeD (kvsOf found) e.v (entK (mergeE f e)).2) := by
  rcases split_eqv (e := e) found with z | ⟨l1, f, l2, rfl, e2, e3⟩
  · have hp := put_none z
    have hl := look_none z
    rw [hp]
    refine ⟨⟨fun f hf => ?_, ?_⟩, by rw [List.length_append]; exact Nat.le_refl _, .inl ⟨hl, ?_⟩⟩
    · rcases List.mem_append.mp hf with hf | hf
      · exact h.key f hf
      · rw [List.mem_singleton.mp hf]; exact ke
    · rw [List.pairwise_append]
      refine ⟨h.apart, List.pairwise_singleton _ _, fun a ha b hb => ?_⟩
      rw [List.mem_singleton.mp hb]
      exact z a ha
    · unfold storeD
      rw [hl]
      show kvsOf (found ++ [e]) = kvsOf found ++ _
      unfold kvsOf
      rw [List.map_append]
      rfl
  · have hfm : f ∈ l1 ++ f :: l2 := List.mem_append_right _ List.mem_cons_self
    have hap := List.pairwise_append.mp h.apart
    have hap2 := List.pairwise_cons.mp hap.2.1
    have ef : f.v = e.v := (eqv_iff (h.key f hfm).nest ke.nest).mp e3
    have e4 : ∀ g ∈ l2, PyData.eqv g.v e.v = false := fun g hg => by
      have q := hap2.1 g hg
      have hgm : g ∈ l1 ++ f :: l2 := List.mem_append_right _ (List.mem_cons_of_mem _ hg)
      refine Bool.eq_false_iff.mpr fun z => ?_
      have eg : g.v = e.v := (eqv_iff (h.key g hgm).nest ke.nest).mp z
      rw [ef, ← eg] at q
      rw [(eqv_iff (h.key g hgm).nest (h.key g hgm).nest).mpr rfl] at q
      cases q
    have hp := put_some (l2 := l2) e3 e2
    have hl := look_some (l2 := l2) e3 e2
    rw [hp]
    refine ⟨⟨fun x hx => ?_, ?_⟩, by rw [List.length_append, List.length_append, List.length_cons, List.length_cons]; omega, .inr ⟨f, hl, ?_⟩⟩
    · rcases List.mem_append.mp hx with hx | hx
      · exact h.key x (List.mem_append_left _ hx)
      · rcases List.mem_cons.mp hx with rfl | hx
        · exact h.key f hfm
        · exact h.key x (List.mem_append_right _ (List.mem_cons_of_mem _ hx))
    · rw [List.pairwise_append, List.pairwise_cons]
      refine ⟨hap.1, ⟨hap2.1, hap2.2⟩, fun a ha b hb => ?_⟩
      rcases List.mem_cons.mp hb with rfl | hb
      · exact hap.2.2 a ha f List.mem_cons_self
      · exact hap.2.2 a ha b (List.mem_cons_of_mem _ hb)
    · unfold storeD
      rw [hl]
      show kvsOf (l1 ++ mergeE f e :: l2) = (kvsOf (l1 ++ f :: l2)).map _
      have a1 : kvsOf (l1 ++ mergeE f e :: l2) = kvsOf l1 ++ entK (mergeE f e) :: kvsOf l2 := by
        unfold kvsOf
        rw [List.map_append, List.map_cons]
      have a2 : kvsOf (l1 ++ f :: l2) = kvsOf l1 ++ entK f :: kvsOf l2 := by
        unfold kvsOf
        rw [List.map_append, List.map_cons]
      rw [a1, a2, List.map_append, List.map_cons, map_same e2, map_same e4]
      have e5 : PyData.eqv (entK f).1 e.v = true := e3
      rw [e5, if_pos rfl]
      rfl
theorem foundM_snoc {es : List Ent} {k : Nat} {e : Ent} (h : es[k]? = some e) : foundM (es.take (k + 1)) = putOne (foundM (es.take k)) e := by
  unfold foundM
  rw [take_snoc h, foldl_snoc]
theorem foundM_kd {κ : Bool} {es : List Ent} (h : ∀ e ∈ es, KeyOk κ e.v) : ∀ k, KD κ (foundM (es.take k)) ∧ (foundM (es.take k)).length ≤ k
  | 0 => ⟨⟨fun f hf => by (cases hf), .nil⟩, Nat.le_refl _⟩
  | k + 1 => by
    obtain ⟨h1, h2⟩ := foundM_kd h k
    cases q : es[k]? with
    | none =>
      have e0 : es.take (k + 1) = es.take k := by
        rw [List.take_add_one, q]
        exact List.append_nil _
      rw [e0]
      exact ⟨h1, Nat.le_succ_of_le h2⟩
    | some e =>
      rw [foundM_snoc q]
      obtain ⟨a, b, _⟩ := put_spec h1 (h e (List.mem_of_getElem? q))
      exact ⟨a, by omega⟩
section
variable {P : Program} {w : World} {K : PySem.W.Frag} {mg : Str → Option Value} {base : Heap} {T : List TabN} {f : Addr} {fd : FuncData}
theorem scOrd : FnScope ["found", "triples", "value", "count", "row"] ["found"] (defScope (top 21)) := ⟨rfl, rfl, rfl, by decide +kernel, rfl, by decide +kernel, by decide +kernel⟩
theorem ok_ord {c p : Addr} (D : DefK K mg "in_order" 21 ["found"] f fd) (m : MgN mg) (tb : TbOf base mg T fd.code (some ("in_order" ++ ".<locals>." ++ "<lambda>")) c p) : FnOk P w K mg base CX0 3 f fd ["found"] (spX T (PreOrd P w)) := by
  refine fn_x (C := 0) D.fn scOrd (fun G H sds d ⟨a, ob, κ, es, e, _⟩ => by rw [e]; rfl) (fun cdv A outer s H E G sds d hr hcd hR => ?_)
  obtain ⟨a, ob, κ, es, rfl, hG, hs, hD, hz, rfl⟩ := hR
  refine tr_setLcM (own := [("value", 2), ("count", 3), ("row", 4)]) 1 es encI decI (fun _ => true) Ent.enc [2, 3, 4] (fun e _ => decI_enc e) rfl scOrd.nd (blkOk_by (N := ["found", "triples", "value", "count", "row"]) (sc := defScope (top 21)) (by decide +kernel)) rfl
    ((evI_items (B := ⟨T, m0, 0, G, H⟩) (kvs := kvsOf es) 0 rfl hG hs hD).eq (by unfold kvsOf; rw [List.map_map]; rfl)) (fun e he => ?_) (Nat.lt_trans hz big2) ?_
  · exact ⟨_, [2, 3, 4], fun i h => h, fun s0 H0 C cl fp => ⟨evG_tup (ds := [e.v, .tuple [.int e.n, encR e.r]]) rfl (evGs_cons (evG_name 2 scOrd.nd) (evGs_cons (evG_tup (ds := [.int e.n, encR e.r]) rfl (evGs_cons (evG_name 3 scOrd.nd) (evGs_cons (evG_name 4 scOrd.nd) evGs_nil))) evGs_nil)), evIf_nil, fun _ =>
      ev_tup (xs := [e.v, .int e.n, encR e.r]) (evA_cons (ev_var 2 rfl) (evA_cons (ev_var 3 rfl) (evA_cons (ev_var 4 rfl) evA_nil)))⟩⟩
  · rw [List.filter_eq_self.mpr fun _ _ => rfl]
    refine tr_ret (ev_sortedKey es Ent.enc (fun e => e.r) (ev_var 1 rfl) (fun e _ => ⟨[e.v, .int e.n, encR e.r], rfl, rfl, by show 3 ≤ 1000; decide⟩) hr m.sorted m.len tb.l (hcd.symm.trans tb.code) tb.mem tb.uniq (keyS_by (by decide +kernel)) (by decide +kernel) rfl (fun _ _ _ _ _ _ => rfl)) rfl
def rPut (ds : List PyData) (d : PyData) : Prop := ∃ (κ : Bool) (es : List Ent), ds = [encT es] ∧ (∀ e ∈ es, KeyOk κ e.v) ∧ es.length < 10000000 ∧ d = encT (putM es)
theorem scPut : FnScope ["triples", "found", "value", "count", "row", "many", "least"] ["triples"] (defScope (top 22)) := ⟨rfl, rfl, rfl, by decide +kernel, rfl, by decide +kernel, by decide +kernel⟩
theorem ok_put (D : DefK K mg "put_together" 22 ["triples"] f fd) (m : MgN mg) (hord : Cal P w K mg base CX0 3 "in_order" (spX T (PreOrd P w))) : FnOk P w K mg base CX0 4 f fd ["triples"] (spD T rPut) := by
  refine fn_d (C := 0) D.fn scPut (fun ds d ⟨κ, es, e, _⟩ => by rw [e]; rfl) (fun cdv A outer s H E G ds d hr hcd hR => ?_)
  obtain ⟨κ, es, rfl, hk, hz, rfl⟩ := hR
  have hz2 : (10000000 : Nat) < sizeLine := big2
  refine tr_dnew 1 κ scPut.nd ?_
  refine tr_for PassesOwn.never rfl (evI_list (ev_var 0 rfl)) (fun k δ => ∃ a b c x y, δ = [.d (encT es), .ext (DictAt P w κ (kvsOf (foundM (es.take k)))), a, b, c, x, y]) ⟨_, _, _, _, _, rfl⟩ ?_ ?_
  · rintro k y δ hy ⟨_, _, _, u5, u6, rfl⟩
    obtain ⟨e, he, rfl⟩ := get_map hy
    have hem := List.mem_of_getElem? he
    have hkl : k < es.length := (List.getElem?_eq_some_iff.mp he).1
    obtain ⟨hkd, hfl⟩ := foundM_kd hk k
    obtain ⟨_, _, hsp⟩ := put_spec hkd (hk e hem)
    refine ⟨_, _, evG_tup (ds := [e.v, .int e.n, encR e.r]) rfl (evGs_cons (evG_name 2 scPut.nd) (evGs_cons (evG_name 3 scPut.nd) (evGs_cons (evG_name 4 scPut.nd) evGs_nil))), ?_⟩
    have hle : (kvsOf (foundM (es.take k))).length ≤ sizeLine := by
      unfold kvsOf
      rw [List.length_map]
      omega
    rcases hsp with ⟨h1, h2⟩ | ⟨g, h1, h2⟩
    · refine tr_if0 (p := false) ((evB_inDict 1 hr.units rfl (ev_var 2 rfl) (hk e hem)).eq (by rw [h1]; rfl)) (fun z => nomatch z) fun _ => ?_
      refine tr_dset 1 hr.units rfl (y := (entK e).2) (ev_tup (xs := [.int e.n, encR e.r]) (evA_cons (ev_var 3 rfl) (evA_cons (ev_var 4 rfl) evA_nil))) (ev_var 2 rfl) (hk e hem) hle (tr_nil ⟨.d e.v, .d (.int e.n), .d (encR e.r), u5, u6, ?_⟩)
      rw [foundM_snoc he, h2]
      rfl
    · refine tr_if0 (p := true) ((evB_inDict 1 hr.units rfl (ev_var 2 rfl) (hk e hem)).eq (by rw [h1]; rfl)) (fun _ => ?_) fun z => nomatch z
      refine tr_asgG (d := .tuple [.int g.n, encR g.r]) (ev_dget 1 hr.units rfl (ev_var 2 rfl) (hk e hem) h1) (evG_tup (ds := [.int g.n, encR g.r]) rfl (evGs_cons (evG_name 5 scPut.nd) (evGs_cons (evG_name 6 scPut.nd) evGs_nil))) ?_
      refine tr_asg 3 (ev_add (ev_var 3 rfl) (ev_var 5 rfl)) scPut.nd ?_
      refine tr_asg 4 (d := encR (if lessM g.r e.r = true then g.r else e.r)) (ev_ixT (ev_minRk rfl hr.units m.min (ev_lst (xs := [rk e.r, rk g.r]) (evA_cons ((ev_tup (evA_cons (ev_lenT m.len (ev_var 4 rfl)) (evA_cons (ev_var 4 rfl) evA_nil))).eq (len_rk e.r)) (evA_cons ((ev_tup (evA_cons (ev_lenT m.len (ev_var 6 rfl)) (evA_cons (ev_var 6 rfl) evA_nil))).eq (len_rk g.r)) evA_nil)))) ev_int rfl) scPut.nd ?_
      refine tr_nil ?_
      refine tr_dset 1 hr.units rfl (y := (entK (mergeE g e)).2) (ev_tup (xs := [.int (e.n + g.n), encR (if lessM g.r e.r = true then g.r else e.r)]) (evA_cons (ev_var 3 rfl) (evA_cons (ev_var 4 rfl) evA_nil))) (ev_var 2 rfl) (hk e hem) hle (tr_nil ⟨.d e.v, .d (.int (e.n + g.n)), .d (encR (if lessM g.r e.r = true then g.r else e.r)), .d (.int g.n), .d (encR g.r), ?_⟩)
      rw [foundM_snoc he, h2]
      rfl
  · rintro δ ⟨u2, u3, u4, u5, u6, rfl⟩
    rw [List.length_map, List.take_length]
    obtain ⟨hkd, hfl⟩ := foundM_kd hk es.length
    rw [List.take_length] at hkd hfl
    refine tr_retDict (κ := κ) (kvs := kvsOf (foundM es)) 1 rfl (d := encT (putM es)) rfl fun t ob G' H' h1 h2 h3 => ?_
    refine ev_callX hord (hr.mono (by omega)) (evAS_ref 1 rfl evAS_nil) fun σ G2 H2 s2 => ⟨t, ob, κ, foundM es, rfl, s2.gr.g _ _ h1, h2, h3.mono s2.gr.g, by omega, rfl⟩
end
end CR

set_option Elab.async false
set_option linter.all false
set_option maxRecDepth 100000
set_option maxHeartbeats 1000000
/-! # Walks: triples_of, table_at, table, count_rows -/
namespace CR
open PySem L2 Evl PyProof.Rows
def TblOk (t : List Ent) : Prop := t.length ≤ 10000 ∧ ∀ e ∈ t, EFac e
/-- what triples_of asks -/
def TriPre : Gn → List (List Ent) → Prop
  | .int lo hi, _ => lo ≤ hi ∧ (hi - lo + 1).toNat ≤ 2000
  | .pair _ _, ts => ts.length ≤ 10 ∧ (∀ t ∈ ts, TblOk t) ∧ ∀ k, prodLen (ts.take k) ≤ 2000
  | .lst _ l m, ts => ∃ t, ts = [t] ∧ TblOk t ∧ l ≤ m ∧ m ≤ 6 ∧ sumPow t.length l (m + 1 - l) ≤ 2000
  | .one _ _, ts => ts.length ≤ 10 ∧ ∀ t ∈ ts, TblOk t
  | .kept _ c, ts => ∃ t, ts = [t] ∧ TblOk t ∧ c.dep ≤ 4 ∧ ∀ e ∈ t, c.Fit e.v
  | .turned _ m, ts => ∃ t, ts = [t] ∧ TblOk t ∧ ∀ e ∈ t, m.Fit e.v
  | .rep _ _, ts => ∃ t u, ts = [t, u] ∧ TblOk t ∧ TblOk u ∧ (∀ e ∈ t, RInt e) ∧ repSum t u ≤ 2000
theorem range_get {α β : Type} (f : α → β) (d : α) (l : List α) : (List.range l.length).map (fun i => f (l.getD i d)) = l.map f := by
  apply List.ext_getElem
  · rw [List.length_map, List.length_map, List.length_range]
  · intro i h1 h2
    rw [List.length_map, List.length_range] at h1
    rw [List.getElem_map, List.getElem_range, List.getElem_map, List.getD_eq_getElem?_getD, List.getElem?_eq_getElem h1]
    rfl
section
variable {P : Program} {w : World} {K : PySem.W.Frag} {mg : Str → Option Value} {base : Heap} {T : List TabN} {f : Addr} {fd : FuncData}
def rTri (ds : List PyData) (d : PyData) : Prop := ∃ (g : Gn) (ts : List (List Ent)) (p : PyData), ds = [g.enc, .list (ts.map encT), p] ∧ TriPre g ts ∧ d = encT (triM g ts)
abbrev NTri : List Str := ["generator", "tables", "path", "name", "many", "k", "triple", "value", "count", "row", "found"]
theorem scTri : FnScope NTri ["generator", "tables", "path"] (defScope (top 30)) := ⟨rfl, rfl, rfl, by decide +kernel, rfl, by decide +kernel, by decide +kernel⟩
theorem ok_tri (D : DefK K mg "triples_of" 30 ["generator", "tables", "path"] f fd) (m : MgN mg) (hch : Cal P w K mg base CX0 1 "check_many" (spD T rCheck)) (htt : Cal P w K mg base CX0 3 "table_of_tuple" (spD T rTT)) (htl : Cal P w K mg base CX0 2 "table_of_list" (spD T rTL))
    (htr : Cal P w K mg base CX0 2 "table_of_repeat" (spD T rTR)) (hho : CalH P w K mg base T 4) (htu : Cal P w K mg base CX0 1 "turn" (spD T rTurn)) : FnOk P w K mg base CX0 18 f fd ["generator", "tables", "path"] (spD T rTri) := by
  refine fn_d (C := 0) D.fn scTri (fun ds d ⟨g, ts, p, e, _⟩ => by rw [e]; rfl) (fun cdv A outer s H E G ds d hr hcd hR => ?_)
  obtain ⟨g, ts, pp, rfl, hp, rfl⟩ := hR
  have hz2 : (10000000 : Nat) < sizeLine := big2
  cases g with
  | int lo hi =>
    obtain ⟨h1, h2⟩ := hp
    refine tr_asg 3 (ev_ixT (ev_var 0 rfl) ev_int rfl) scTri.nd ?_
    refine tr_ifYes 3 rfl ?_
    refine tr_asg 4 (d := .int (((hi - lo + 1).toNat : Nat) : Int)) ((ev_add (ev_sub (ev_ixT (ev_var 0 rfl) ev_int rfl) (ev_ixT (ev_var 0 rfl) ev_int rfl)) ev_int).eq (by congr 1; omega)) scTri.nd ?_
    refine tr_drop (ev_call hch (hr.mono (by omega)) (evA_cons (ev_var 4 rfl) (evA_cons (ev_var 2 rfl) evA_nil)) ⟨_, _, rfl, by omega, rfl⟩) ?_
    refine tr_ret (ev_lcA (own := [("k", 5)]) (List.range (hi - lo + 1).toNat) (fun i => .int (0 + (i : Nat))) (fun y => (dint y).toNat) (fun i => Ent.enc ⟨.int (lo + (i : Nat)), 1, [(i : Nat)]⟩) [5] (fun i _ => by show ((0 : Int) + (i : Nat)).toNat = i; omega) rfl scTri.nd
      (blkOk_by (N := NTri) (sc := defScope (top 30)) (by decide +kernel)) rfl ((evI_range1 m.range (ev_var 4 rfl) ⟨by omega, by omega⟩).eq (by rw [Int.toNat_natCast]; rfl)) (fun i hi => ?_) (by rw [List.length_range]; omega)) ?_
    · refine ⟨_, [5], fun i h => h, fun s0 H0 C cl fp => ⟨evG_name 5 scTri.nd, evIf_nil, fun _ => ?_⟩⟩
      refine (ev_tup (xs := [.int (lo + (0 + (i : Nat))), .int 1, .tuple [.int (0 + (i : Nat))]]) (evA_cons (ev_add (ev_ixT (ev_var 0 rfl) ev_int rfl) (ev_var 5 rfl)) (evA_cons ev_int (evA_cons (ev_tup (evA_cons (ev_var 5 rfl) evA_nil)) evA_nil)))).eq ?_
      rw [Int.zero_add]
      rfl
    · show PyData.list _ = PyData.list (List.map Ent.enc (List.map _ _))
      rw [List.map_map]
      rfl
  | pair a b =>
    obtain ⟨h1, h2, h3⟩ := hp
    refine tr_asg 3 (ev_ixT (ev_var 0 rfl) ev_int rfl) scTri.nd ?_
    refine tr_ifNo 3 rfl (tr_ifNo 3 rfl (tr_ifYes 3 rfl ?_))
    exact tr_ret (ev_call htt (hr.mono (by omega)) (evA_cons (ev_var 1 rfl) (evA_cons (ev_var 2 rfl) evA_nil)) ⟨ts, pp, rfl, h1, h2, h3, rfl⟩) rfl
  | lst g l h =>
    obtain ⟨t, rfl, h1, h2, h3, h4⟩ := hp
    refine tr_asg 3 (ev_ixT (ev_var 0 rfl) ev_int rfl) scTri.nd ?_
    refine tr_ifNo 3 rfl (tr_ifNo 3 rfl (tr_ifNo 3 rfl (tr_ifYes 3 rfl ?_)))
    exact tr_ret (ev_call htl (hr.mono (by omega)) (evA_cons (ev_ixL (xs := [encT t]) (ev_var 1 rfl) ev_int rfl) (evA_cons (ev_ixT (ev_var 0 rfl) ev_int rfl) (evA_cons (ev_ixT (ev_var 0 rfl) ev_int rfl) (evA_cons (ev_var 2 rfl) evA_nil)))) ⟨t, l, h, pp, rfl, h1.1, h1.2, h2, h3, h4, rfl⟩) rfl
  | rep a b =>
    obtain ⟨t, u, rfl, h1, h2, h3, h4⟩ := hp
    refine tr_asg 3 (ev_ixT (ev_var 0 rfl) ev_int rfl) scTri.nd ?_
    refine tr_ifNo 3 rfl (tr_ifNo 3 rfl (tr_ifNo 3 rfl (tr_ifNo 3 rfl (tr_ifYes 3 rfl ?_))))
    exact tr_ret (ev_call htr (hr.mono (by omega)) (evA_cons (ev_ixL (xs := [encT t, encT u]) (ev_var 1 rfl) ev_int rfl) (evA_cons (ev_ixL (xs := [encT t, encT u]) (ev_var 1 rfl) ev_int rfl) (evA_cons (ev_var 2 rfl) evA_nil))) ⟨t, u, pp, rfl, h1.1, fun e he => ⟨h1.2 e he, h3 e he⟩, h2.1, h2.2, h4, rfl⟩) rfl
  | kept g c =>
    obtain ⟨t, rfl, h1, h2, h3⟩ := hp
    refine tr_asg 3 (ev_ixT (ev_var 0 rfl) ev_int rfl) scTri.nd ?_
    refine tr_ifNo 3 rfl (tr_ifNo 3 rfl (tr_ifNo 3 rfl (tr_ifNo 3 rfl (tr_ifNo 3 rfl (tr_ifYes 3 rfl ?_)))))
    refine tr_ret (ev_lcM (own := [("triple", 6)]) t Ent.enc decE (fun e => c.val e.v) Ent.enc [6] (fun e _ => decE_enc e) rfl scTri.nd (blkOk_by (N := NTri) (sc := defScope (top 30)) (by decide +kernel)) rfl (evI_list (ev_ixL (xs := [encT t]) (ev_var 1 rfl) ev_int rfl)) (fun e he => ?_) (by have := h1.1; omega)) rfl
    refine ⟨_, [6], fun i h => h, fun s0 H0 C cl fp => ⟨evG_name 6 scTri.nd, evIf_one (evB_val (ev_call hho (hr.mono (by omega)) (evA_cons (ev_ixT (ev_var 0 rfl) ev_int rfl) (evA_cons (ev_ixT (xs := [e.v, .int e.n, encR e.r]) (ev_var 6 rfl) ev_int rfl) evA_nil)) ⟨c, e.v, rfl, h3 e he, h2, rfl⟩)), fun _ => ev_var 6 rfl⟩⟩
  | turned g mp =>
    obtain ⟨t, rfl, h1, h2⟩ := hp
    refine tr_asg 3 (ev_ixT (ev_var 0 rfl) ev_int rfl) scTri.nd ?_
    refine tr_ifNo 3 rfl (tr_ifNo 3 rfl (tr_ifNo 3 rfl (tr_ifNo 3 rfl (tr_ifNo 3 rfl (tr_ifNo 3 rfl (tr_ifYes 3 rfl ?_))))))
    refine tr_ret (ev_lcA (own := [("value", 7), ("count", 8), ("row", 9)]) t Ent.enc decE (fun e => Ent.enc { e with v := mp.val e.v }) [7, 8, 9] (fun e _ => decE_enc e) rfl scTri.nd (blkOk_by (N := NTri) (sc := defScope (top 30)) (by decide +kernel)) rfl (evI_list (ev_ixL (xs := [encT t]) (ev_var 1 rfl) ev_int rfl)) (fun e he => ?_) (by have := h1.1; omega)) ?_
    · refine ⟨_, [7, 8, 9], fun i h => h, fun s0 H0 C cl fp => ⟨evG_tup (ds := [e.v, .int e.n, encR e.r]) rfl (evGs_cons (evG_name 7 scTri.nd) (evGs_cons (evG_name 8 scTri.nd) (evGs_cons (evG_name 9 scTri.nd) evGs_nil))), evIf_nil, fun _ => ?_⟩⟩
      exact ev_tup (xs := [mp.val e.v, .int e.n, encR e.r]) (evA_cons (ev_call htu (hr.mono (by omega)) (evA_cons (ev_ixT (ev_var 0 rfl) ev_int rfl) (evA_cons (ev_var 7 rfl) evA_nil)) ⟨mp, e.v, rfl, h2 e he, rfl⟩) (evA_cons (ev_var 8 rfl) (evA_cons (ev_var 9 rfl) evA_nil)))
    · show PyData.list _ = PyData.list (List.map Ent.enc (List.map _ _))
      rw [List.map_map]
      rfl
  | one a b =>
    obtain ⟨h1, h2⟩ := hp
    refine tr_asg 3 (ev_ixT (ev_var 0 rfl) ev_int rfl) scTri.nd ?_
    refine tr_ifNo 3 rfl (tr_ifNo 3 rfl (tr_ifNo 3 rfl (tr_ifNo 3 rfl (tr_ifNo 3 rfl (tr_ifNo 3 rfl (tr_ifNo 3 rfl ?_))))))
    refine tr_new 10 evA_nil scTri.nd ?_
    refine tr_for PassesOwn.never rfl (evI_range1 m.range (ev_lenL m.len (ev_var 1 rfl)) ⟨by rw [List.length_map]; omega, by rw [List.length_map]; omega⟩) (fun k δ => ∃ a1 a2, δ = [.d (Gn.enc (.one a b)), .d (.list (ts.map encT)), .d pp, a1, .un, a2, .un, .un, .un, .un, .own ((((List.range k).flatMap fun k => (ts.getD k []).map fun e => ({ e with r := (k : Int) :: e.r } : Ent))).map Ent.enc)]) ⟨_, _, rfl⟩ ?_ ?_
    · rintro k y δ hy ⟨u3, u5, rfl⟩
      obtain ⟨hk, rfl⟩ := rangeD_get hy
      rw [List.length_map, Int.toNat_natCast] at hk
      have htk : ts[k]? = some (ts.getD k []) := by rw [List.getD_eq_getElem?_getD, List.getElem?_eq_getElem hk]; rfl
      have htm := List.mem_of_getElem? htk
      have hto := h2 _ htm
      refine ⟨_, _, evG_name 5 scTri.nd, ?_⟩
      refine tr_extend 10 rfl (ys := ((ts.getD k []).map fun e => ({ e with r := (k : Int) :: e.r } : Ent)).map Ent.enc) (Ev.eq (ev_lcA (own := [("value", 7), ("count", 8), ("row", 9)]) (ts.getD k []) Ent.enc decE (fun e => Ent.enc { e with r := (k : Int) :: e.r }) [7, 8, 9] (fun e _ => decE_enc e) rfl scTri.nd (blkOk_by (N := NTri) (sc := defScope (top 30)) (by decide +kernel)) rfl (evI_list (ev_ixL (xs := ts.map encT) (d := encT (ts.getD k [])) (ev_var 1 rfl) (ev_var 5 rfl) ?_)) (fun e he => ?_) (by have := hto.1; omega)) ?_) ?_ (tr_nil ⟨u3, .d (.int (0 + (k : Nat))), ?_⟩)
      · rw [Int.zero_add]
        exact atI_nat (by rw [List.getElem?_map, htk]; rfl)
      · have hel := (hto.2 e he).2
        have h9 : (10000 : Nat) ≤ sizeLine := by decide
        refine ⟨_, [7, 8, 9], fun i h => h, fun s0 H0 C cl fp => ⟨evG_tup (ds := [e.v, .int e.n, encR e.r]) rfl (evGs_cons (evG_name 7 scTri.nd) (evGs_cons (evG_name 8 scTri.nd) (evGs_cons (evG_name 9 scTri.nd) evGs_nil))), evIf_nil, fun _ => ?_⟩⟩
        refine (ev_tup (xs := [e.v, .int e.n, .tuple ([.int (0 + (k : Nat))] ++ e.r.map .int)]) (evA_cons (ev_var 7 rfl) (evA_cons (ev_var 8 rfl) (evA_cons (ev_catT (ev_tup (evA_cons (ev_var 5 rfl) evA_nil)) (ev_var 9 rfl) (by rw [List.length_cons, List.length_nil, List.length_map]; omega)) evA_nil)))).eq ?_
        rw [Int.zero_add]
        rfl
      · rw [List.map_map]
        rfl
      · rw [List.length_map, List.length_map, List.length_map]
        have h3 := flat_len (n := 10000) (g := fun k => (ts.getD k []).map fun e => ({ e with r := (k : Int) :: e.r } : Ent)) (es := List.range k) (fun j hj => by
          have hj := List.mem_range.mp hj
          rw [List.length_map, List.getD_eq_getElem?_getD, List.getElem?_eq_getElem (Nat.lt_trans hj hk)]
          exact (h2 _ (List.getElem_mem (Nat.lt_trans hj hk))).1)
        rw [List.length_range] at h3
        have := hto.1
        omega
      · rw [List.range_succ, List.flatMap_append, List.map_append]
        simp
    · rintro δ ⟨u3, u5, rfl⟩
      rw [rangeD_length, List.length_map, Int.toNat_natCast]
      exact tr_retOwn 10 rfl rfl
end
end CR

set_option Elab.async false
set_option linter.all false
set_option maxRecDepth 100000
set_option maxHeartbeats 1000000
/-! # Walks: table_at, table, count_rows -/
namespace CR
open PySem L2 Evl PyProof.Rows
theorem tableM_eq (g : Gn) : tableM g = putM (triM g (g.parts.map tableM)) := by
  cases g <;> rfl
/-- the table of a generator can be made -/
def TQ (g : Gn) : Prop := TriPre g (g.parts.map tableM) ∧ (∃ κ, ∀ e ∈ triM g (g.parts.map tableM), KeyOk κ e.v) ∧ (triM g (g.parts.map tableM)).length < 10000000 ∧ (tableM g).length ≤ 2000
def TP : Gn → Prop
  | .int lo hi => TQ (.int lo hi)
  | .pair a b => TP a ∧ TP b ∧ TQ (.pair a b)
  | .lst g l m => TP g ∧ TQ (.lst g l m)
  | .one a b => TP a ∧ TP b ∧ TQ (.one a b)
  | .kept g c => TP g ∧ TQ (.kept g c)
  | .turned g m => TP g ∧ TQ (.turned g m)
  | .rep a b => TP a ∧ TP b ∧ TQ (.rep a b)
theorem TP.q {g : Gn} (h : TP g) : TQ g := by
  cases g with
  | int lo hi => exact h
  | pair a b => exact h.2.2
  | lst g l m => exact h.2
  | one a b => exact h.2.2
  | kept g c => exact h.2
  | turned g m => exact h.2
  | rep a b => exact h.2.2
theorem TP.part {g p : Gn} (h : TP g) (hp : p ∈ g.parts) : TP p ∧ p.dep < g.dep := by
  cases g with
  | int lo hi => cases hp
  | pair a b =>
    have e : p = a ∨ p = b := by simpa [Gn.parts] using hp
    rcases e with rfl | rfl
    · exact ⟨h.1, by show p.dep < max p.dep b.dep + 1; omega⟩
    · exact ⟨h.2.1, by show p.dep < max a.dep p.dep + 1; omega⟩
  | lst g l m =>
    obtain rfl := List.mem_singleton.mp hp
    exact ⟨h.1, Nat.lt_succ_self _⟩
  | one a b =>
    have e : p = a ∨ p = b := by simpa [Gn.parts] using hp
    rcases e with rfl | rfl
    · exact ⟨h.1, by show p.dep < max p.dep b.dep + 1; omega⟩
    · exact ⟨h.2.1, by show p.dep < max a.dep p.dep + 1; omega⟩
  | kept g c =>
    obtain rfl := List.mem_singleton.mp hp
    exact ⟨h.1, Nat.lt_succ_self _⟩
  | turned g m =>
    obtain rfl := List.mem_singleton.mp hp
    exact ⟨h.1, Nat.lt_succ_self _⟩
  | rep a b =>
    have e : p = a ∨ p = b := by simpa [Gn.parts] using hp
    rcases e with rfl | rfl
    · exact ⟨h.1, by show p.dep < max p.dep b.dep + 1; omega⟩
    · exact ⟨h.2.1, by show p.dep < max a.dep p.dep + 1; omega⟩
theorem parts_len (g : Gn) : g.parts.length ≤ 2 := by
  cases g <;> simp [Gn.parts]
section
variable {P : Program} {w : World} {K : PySem.W.Frag} {mg : Str → Option Value} {base : Heap} {T : List TabN} {f : Addr} {fd : FuncData}
def rTabAt (n : Nat) (ds : List PyData) (d : PyData) : Prop := ∃ (g : Gn) (ps : List PyData), ds = [g.enc, .tuple ps] ∧ TP g ∧ g.dep ≤ n ∧ ps.length + g.dep ≤ 100 ∧ d = encT (tableM g)
abbrev NTab : List Str := ["generator", "path", "parts", "tables", "found", "k"]
theorem scTab : FnScope NTab ["generator", "path"] (defScope (top 31)) := ⟨rfl, rfl, rfl, by decide +kernel, rfl, by decide +kernel, by decide +kernel⟩
abbrev CalT (P : Program) (w : World) (K : PySem.W.Frag) (mg : Str → Option Value) (base : Heap) (T : List TabN) (n : Nat) : Prop := Cal P w K mg base CX0 (n + 19) "table_at" (spD T (rTabAt n))
theorem ok_tab (n : Nat) (D : DefK K mg "table_at" 31 ["generator", "path"] f fd) (m : MgN mg) (hpa : Cal P w K mg base CX0 1 "parts_of" (spD T rParts)) (htri : Cal P w K mg base CX0 18 "triples_of" (spD T rTri)) (hput : Cal P w K mg base CX0 4 "put_together" (spD T rPut)) (hch : Cal P w K mg base CX0 1 "check_many" (spD T rCheck))
    (hrec : ∀ i, i < n → CalT P w K mg base T i) : FnOk P w K mg base CX0 (n + 19) f fd ["generator", "path"] (spD T (rTabAt n)) := by
  refine fn_d (C := 0) D.fn scTab (fun ds d ⟨g, ts, e, _⟩ => by rw [e]; rfl) (fun cdv A outer s H E G ds d hr hcd hR => ?_)
  obtain ⟨g, ps, rfl, hp, hd, hl, rfl⟩ := hR
  have hz2 : (10000000 : Nat) < sizeLine := big2
  have hpl := parts_len g
  refine tr_asg 2 (ev_call hpa (hr.mono (by omega)) (evA_cons (ev_var 0 rfl) evA_nil) ⟨g, rfl, rfl⟩) scTab.nd ?_
  refine tr_setLcM (own := [("k", 5)]) 3 (List.range g.parts.length) (fun i => .int (0 + (i : Nat))) (fun y => (dint y).toNat) (fun _ => true) (fun i => encT (tableM (g.parts.getD i (.int 0 0)))) [5] (fun i _ => by show ((0 : Int) + (i : Nat)).toNat = i; omega) rfl scTab.nd (blkOk_by (N := NTab) (sc := defScope (top 31)) (by decide +kernel)) rfl
    ((evI_range1 m.range (ev_lenL m.len (ev_var 2 rfl)) ⟨by rw [List.length_map]; omega, by rw [List.length_map]; omega⟩).eq (by rw [Int.toNat_natCast, List.length_map]; rfl)) (fun i hi => ?_) (by rw [List.length_range]; omega) ?_
  · have hi := List.mem_range.mp hi
    have hgi : g.parts[i]? = some (g.parts.getD i (.int 0 0)) := by rw [List.getD_eq_getElem?_getD, List.getElem?_eq_getElem hi]; rfl
    obtain ⟨tp, hdi⟩ := hp.part (List.mem_of_getElem? hgi)
    have h9 : (1000 : Nat) ≤ sizeLine := by decide
    refine ⟨_, [5], fun i h => h, fun s0 H0 C cl fp => ⟨evG_name 5 scTab.nd, evIf_nil, fun _ => ?_⟩⟩
    refine ev_call (hrec (g.parts.getD i (.int 0 0)).dep (by omega)) (hr.mono (by omega)) (evA_cons (x := (g.parts.getD i (.int 0 0)).enc) (ev_ixL (ev_var 2 rfl) (ev_var 5 rfl) (by rw [Int.zero_add]; exact atI_nat (by rw [List.getElem?_map, hgi]; rfl))) (evA_cons (ev_catT (ev_var 1 rfl) (ev_tup (evA_cons (ev_var 5 rfl) evA_nil)) (by rw [List.length_cons, List.length_nil]; omega)) evA_nil)) ⟨_, _, rfl, tp, Nat.le_refl _, ?_, rfl⟩
    rw [List.length_append, List.length_cons, List.length_nil]
    omega
  · rw [List.filter_eq_self.mpr fun _ _ => rfl, range_get (fun p => encT (tableM p))]
    obtain ⟨q1, ⟨κ, q2⟩, q3, q4⟩ := hp.q
    refine tr_asg 4 (d := encT (tableM g)) (ev_call hput (hr.mono (by omega)) (evA_cons (ev_call htri (hr.mono (by omega)) (evA_cons (ev_var 0 rfl) (evA_cons (ev_var 3 rfl) (evA_cons (ev_var 1 rfl) evA_nil))) ⟨g, g.parts.map tableM, .tuple ps, by rw [List.map_map]; rfl, q1, rfl⟩) evA_nil) ⟨κ, _, rfl, q2, q3, by rw [← tableM_eq]⟩) scTab.nd ?_
    refine tr_drop (ev_call hch (hr.mono (by omega)) (evA_cons (ev_lenL m.len (ev_var 4 rfl)) (evA_cons (ev_var 1 rfl) evA_nil)) ⟨_, _, rfl, by rw [List.length_map]; omega, rfl⟩) ?_
    exact tr_ret (ev_var 4 rfl) rfl
def rTab (ds : List PyData) (d : PyData) : Prop := ∃ g : Gn, ds = [g.enc] ∧ TP g ∧ g.dep ≤ 10 ∧ d = encT (tableM g)
theorem scTable : FnScope ["generator"] ["generator"] (defScope (top 32)) := ⟨rfl, rfl, rfl, by decide +kernel, rfl, by decide +kernel, by decide +kernel⟩
theorem ok_table (D : DefK K mg "table" 32 ["generator"] f fd) (ht : CalT P w K mg base T 10) : FnOk P w K mg base CX0 30 f fd ["generator"] (spD T rTab) := by
  refine fn_d (C := 0) D.fn scTable (fun ds d ⟨g, e, _⟩ => by rw [e]; rfl) (fun cdv A outer s H E G ds d hr hcd hR => ?_)
  obtain ⟨g, rfl, hp, hd, rfl⟩ := hR
  exact tr_ret (ev_call ht hr (evA_cons (ev_var 0 rfl) (evA_cons (ev_tup evA_nil) evA_nil)) ⟨g, [], rfl, hp, hd, by rw [List.length_nil]; omega, rfl⟩) rfl
def rCount (ds : List PyData) (d : PyData) : Prop := ∃ g : Gn, ds = [g.enc] ∧ TP g ∧ g.dep ≤ 10 ∧ d = .int (countM g)
theorem scCount : FnScope ["generator", "value", "count", "row"] ["generator"] (defScope (top 33)) := ⟨rfl, rfl, rfl, by decide +kernel, rfl, by decide +kernel, by decide +kernel⟩
theorem ok_count (D : DefK K mg "count_rows" 33 ["generator"] f fd) (m : MgN mg) (ht : Cal P w K mg base CX0 30 "table" (spD T rTab)) : FnOk P w K mg base CX0 31 f fd ["generator"] (spD T rCount) := by
  refine fn_d (C := 0) D.fn scCount (fun ds d ⟨g, e, _⟩ => by rw [e]; rfl) (fun cdv A outer s H E G ds d hr hcd hR => ?_)
  obtain ⟨g, rfl, hp, hd, rfl⟩ := hR
  have hl := hp.q.2.2.2
  refine tr_ret (ev_sumL (ns := (tableM g).map (·.n)) rfl m.sum (Ev.eq (ev_lcA (own := [("value", 1), ("count", 2), ("row", 3)]) (tableM g) Ent.enc decE (fun e => .int e.n) [1, 2, 3] (fun e _ => decE_enc e) rfl scCount.nd (blkOk_by (N := ["generator", "value", "count", "row"]) (sc := defScope (top 33)) (by decide +kernel)) rfl
    (evI_list (ev_call ht hr (evA_cons (ev_var 0 rfl) evA_nil) ⟨g, rfl, hp, hd, rfl⟩)) (fun e he => ?_) (Nat.lt_of_le_of_lt hl (by decide))) ?_)) rfl
  · exact ⟨_, [1, 2, 3], fun i h => h, fun s0 H0 C cl fp => ⟨evG_tup (ds := [e.v, .int e.n, encR e.r]) rfl (evGs_cons (evG_name 1 scCount.nd) (evGs_cons (evG_name 2 scCount.nd) (evGs_cons (evG_name 3 scCount.nd) evGs_nil))), evIf_nil, fun _ => ev_var 2 rfl⟩⟩
  · rw [List.map_map]
    rfl
end
end CR

set_option Elab.async false
set_option linter.all false
set_option maxRecDepth 100000
set_option maxHeartbeats 1000000
/-! # Walks: listed_rows, joined_rows -/
namespace CR
open PySem L2 Evl PyProof.Rows
def encRows (rs : List RV) : PyData := .list (rs.map RV.enc)
def decRV : PyData → RV
  | .tuple [.tuple r, v] => (r.map dint, v)
  | _ => ([], .none)
theorem decRV_enc (p : RV) : decRV p.enc = p := by
  show ((p.1.map PyData.int).map dint, p.2) = p
  rw [dint_map]
def RFac (p : RV) : Prop := p.1.length ≤ 1000
def RTup (L : Nat) (p : RV) : Prop := (∃ xs, p.2 = .tuple xs ∧ xs.length ≤ L) ∧ p.1.length ≤ L
theorem RTup.mono {L M : Nat} {e : RV} (h : RTup L e) (l : L ≤ M) : RTup M e := by
  obtain ⟨⟨xs, e1, e2⟩, e3⟩ := h
  exact ⟨⟨xs, e1, by omega⟩, by omega⟩
theorem prod_len {α β γ : Type} (g : α → β → γ) (es : List α) (fs : List β) : (es.flatMap fun a => fs.map (g a)).length = es.length * fs.length := by
  induction es with
  | nil => simp
  | cons a es ih => rw [List.flatMap_cons, List.length_append, ih, List.length_map, List.length_cons, Nat.add_mul, Nat.one_mul, Nat.add_comm]
theorem joinOne_len (a b : List RV) : (joinOne a b).length = a.length * b.length := prod_len _ _ _
theorem joinB_len (a b : List RV) : (joinB a b).length = a.length * b.length := prod_len _ _ _
theorem joinOne_tup {L : Nat} {es fs : List RV} (h1 : ∀ e ∈ es, RTup L e) (h2 : ∀ e ∈ fs, RFac e) : ∀ e ∈ joinOne es fs, RTup (L + 1001) e := fun e he => by
  obtain ⟨a, ha, he⟩ := List.mem_flatMap.mp he
  obtain ⟨b, hb, rfl⟩ := List.mem_map.mp he
  obtain ⟨⟨xs, e1, e2⟩, e3⟩ := h1 a ha
  have e4 : b.1.length ≤ 1000 := h2 b hb
  refine ⟨⟨xs ++ [b.2], by show PyData.tuple (ditems a.2 ++ [b.2]) = _; rw [e1]; rfl, by rw [List.length_append, List.length_cons, List.length_nil]; omega⟩, ?_⟩
  show (a.1 ++ b.1).length ≤ _
  rw [List.length_append]
  omega
theorem joinB_tup {L : Nat} {es fs : List RV} (h1 : ∀ e ∈ es, RTup L e) (h2 : ∀ e ∈ fs, RFac e) : ∀ e ∈ joinB es fs, RTup (L + 1001) e := fun e he => by
  obtain ⟨a, ha, he⟩ := List.mem_flatMap.mp he
  obtain ⟨b, hb, rfl⟩ := List.mem_map.mp he
  obtain ⟨⟨xs, e1, e2⟩, e3⟩ := h1 a ha
  have e4 : b.1.length ≤ 1000 := h2 b hb
  refine ⟨⟨xs ++ [b.2], by show PyData.tuple (ditems a.2 ++ [b.2]) = _; rw [e1]; rfl, by rw [List.length_append, List.length_cons, List.length_nil]; omega⟩, ?_⟩
  show (a.1 ++ [1] ++ b.1).length ≤ _
  rw [List.length_append, List.length_append, List.length_cons, List.length_nil]
  omega
theorem rv0_tup : ∀ e ∈ rv0, RTup 0 e := fun e he => by
  obtain rfl := List.mem_singleton.mp he
  exact ⟨⟨[], rfl, Nat.le_refl _⟩, Nat.le_refl _⟩
theorem joinN_len (es s : List RV) : ∀ n, (joinN es s n).length = es.length * s.length ^ n
  | 0 => by rw [Nat.pow_zero, Nat.mul_one]; rfl
  | n + 1 => by
    show (joinOne (joinN es s n) s).length = _
    rw [joinOne_len, joinN_len es s n, Nat.pow_succ, Nat.mul_assoc]
theorem joinN_tup {es s : List RV} {L : Nat} (h : ∀ e ∈ es, RTup L e) (h2 : ∀ e ∈ s, RFac e) : ∀ n, ∀ e ∈ joinN es s n, RTup (L + 1001 * n) e
  | 0 => fun e he => (h e he).mono (by omega)
  | n + 1 => fun e he => (joinOne_tup (joinN_tup h h2 n) h2 e he).mono (by omega)
def jmade (part made : List RV) : Nat → List RV
  | 0 => made
  | k + 1 => joinB (jmade part made k) part
def zeroRow (a : RV) : RV := (a.1 ++ [0], a.2)
def jfound (part made : List RV) (k : Nat) : List RV := (List.range k).flatMap fun j => (jmade part made j).map zeroRow
theorem jmade_shift (part made : List RV) : ∀ k, jmade part (joinB made part) k = jmade part made (k + 1)
  | 0 => rfl
  | k + 1 => by
    show joinB (jmade part (joinB made part) k) part = joinB (jmade part made (k + 1)) part
    rw [jmade_shift part made k]
theorem jfound_succ (part made : List RV) (k : Nat) : jfound part made (k + 1) = jfound part made k ++ (jmade part made k).map zeroRow := by
  unfold jfound
  rw [List.range_succ, List.flatMap_append]
  simp
theorem listedFrom_eq (part : List RV) : ∀ (n : Nat) (made : List RV), listedFrom part n made = jfound part made n ++ jmade part made n
  | 0, made => rfl
  | n + 1, made => by
    show made.map zeroRow ++ listedFrom part n (joinB made part) = _
    rw [listedFrom_eq part n, jmade_shift]
    have e : jfound part made (n + 1) = made.map zeroRow ++ jfound part (joinB made part) n := by
      unfold jfound
      rw [List.range_succ_eq_map, List.flatMap_cons, List.flatMap_map]
      congr 1
      refine flat_congr fun j _ => ?_
      rw [jmade_shift]
    rw [e, List.append_assoc]
theorem jmade_len (part made : List RV) : ∀ k, (jmade part made k).length = made.length * part.length ^ k
  | 0 => by rw [Nat.pow_zero, Nat.mul_one]; rfl
  | k + 1 => by
    show (joinB (jmade part made k) part).length = _
    rw [joinB_len, jmade_len part made k, Nat.pow_succ, Nat.mul_assoc]
theorem jmade_tup {part made : List RV} {L : Nat} (h : ∀ e ∈ made, RTup L e) (h2 : ∀ e ∈ part, RFac e) : ∀ k, ∀ e ∈ jmade part made k, RTup (L + 1001 * k) e
  | 0 => fun e he => (h e he).mono (by omega)
  | k + 1 => fun e he => (joinB_tup (jmade_tup h h2 k) h2 e he).mono (by omega)
theorem jfound_len {part made : List RV} {l : Nat} (h : made.length = part.length ^ l) : ∀ k, (jfound part made k).length = sumPow part.length l k
  | 0 => rfl
  | k + 1 => by
    rw [jfound_succ, List.length_append, List.length_map, jfound_len h k, sumPow_succ, jmade_len, h, ← Nat.pow_add]
/-- the product's data -/
theorem prod_data (g : RV → RV → RV) (es fs : List RV) : ((es.map RV.enc).flatMap fun y => (fs.map RV.enc).map fun z => (g (decRV y) (decRV z)).enc) = (es.flatMap fun a => fs.map (g a)).map RV.enc := by
  induction es with
  | nil => rfl
  | cons a es ih =>
    rw [List.map_cons, List.flatMap_cons, ih, List.flatMap_cons, List.map_append, decRV_enc, List.map_map, List.map_map]
    congr 1
    exact List.map_congr_left fun b _ => by
      show (g a (decRV b.enc)).enc = (g a b).enc
      rw [decRV_enc]
section
variable {P : Program} {w : World} {K : PySem.W.Frag} {mg : Str → Option Value} {base : Heap} {T : List TabN} {f : Addr} {fd : FuncData}
def rListed (ds : List PyData) (d : PyData) : Prop := ∃ (part : List RV) (l m : Nat), ds = [encRows part, .int l, .int m] ∧ (∀ e ∈ part, RFac e) ∧ l ≤ m ∧ m ≤ 6 ∧ sumPow part.length l (m + 1 - l) ≤ 100000 ∧ d = encRows (listedM part l m)
abbrev NLis : List Str := ["part", "least", "most", "made", "_", "found", "row", "values", "other", "value"]
theorem scLis : FnScope NLis ["part", "least", "most"] (defScope (top 34)) := ⟨rfl, rfl, rfl, by decide +kernel, rfl, by decide +kernel, by decide +kernel⟩
theorem ok_listed (D : DefK K mg "listed_rows" 34 ["part", "least", "most"] f fd) (m : MgN mg) : FnOk P w K mg base CX0 1 f fd ["part", "least", "most"] (spD T rListed) := by
  refine fn_d (C := 0) D.fn scLis (fun ds d ⟨g, ts, _, e, _⟩ => by rw [e]; rfl) (fun cdv A outer s H E G ds d hr hcd hR => ?_)
  obtain ⟨part, l, mo, rfl, hpf, hlm, hm6, hsum, rfl⟩ := hR
  have hz2 : (10000000 : Nat) < sizeLine := big2
  have h9 : (1000000 : Nat) ≤ sizeLine := by decide
  refine tr_asg 3 (d := encRows rv0) (ev_lst (evA_cons (ev_tup (evA_cons (ev_tup evA_nil) (evA_cons (ev_tup evA_nil) evA_nil))) evA_nil)) scLis.nd ?_
  have hfirst : part.length ^ l ≤ 100000 := Nat.le_trans (by have := le_sumPow (b := part.length) (l := l) (n := mo + 1 - l) (i := 0) (by omega); simpa using this) hsum
  refine tr_for PassesOwn.never rfl (evI_range1 m.range (ev_var 1 rfl) ⟨by omega, by omega⟩) (fun k δ => ∃ a, δ = [.d (encRows part), .d (.int l), .d (.int mo), .d (encRows (joinN rv0 part k)), a, .un, .un, .un, .un, .un]) ⟨_, rfl⟩ ?_ ?_
  · rintro k y δ hy ⟨_, rfl⟩
    obtain ⟨hk, rfl⟩ := rangeD_get hy
    rw [Int.toNat_natCast] at hk
    refine ⟨_, _, evG_name 4 scLis.nd, ?_⟩
    have htup := joinN_tup rv0_tup hpf k
    have hlen : (joinN rv0 part k).length * part.length < 10000000 := by
      rw [joinN_len]
      have h1 := pow_low part.length (j := k + 1) (l := l) hk
      rw [Nat.pow_succ] at h1
      show 1 * part.length ^ k * part.length < 10000000
      rw [Nat.one_mul]
      omega
    refine tr_setLc2 (own := [("row", 6), ("values", 7), ("other", 8), ("value", 9)]) 3 [6, 7, 8, 9] [8, 9] (fun _ => part.map RV.enc) (fun y z => (joinE (decRV y) (decRV z)).enc) rfl scLis.nd (blkOk_by (N := NLis) (sc := defScope (top 34)) (by decide +kernel)) rfl (by decide) (evI_list (ys := (joinN rv0 part k).map RV.enc) (ev_var 3 rfl)) (fun y hy => ?_) (by rw [prod_data, List.length_map, prod_len]; omega) ?_ rfl
    · obtain ⟨a, ha, rfl⟩ := List.mem_map.mp hy
      obtain ⟨⟨xs, ev, hxl⟩, hrl⟩ := htup a ha
      refine ⟨_, [6, 7], by decide, ?_, fun s0 H0 C cl fp => ⟨evG_tup (ds := [encR a.1, a.2]) rfl (evGs_cons (evG_name 6 scLis.nd) (evGs_cons (evG_name 7 scLis.nd) evGs_nil)), evI_list (ev_var 0 rfl)⟩, fun z hz => ?_⟩
      · intro sd hsd
        revert sd
        exact List.forall_mem_cons.mpr ⟨rfl, List.forall_mem_cons.mpr ⟨rfl, List.forall_mem_cons.mpr ⟨rfl, List.forall_mem_cons.mpr ⟨rfl, List.forall_mem_cons.mpr ⟨rfl, List.forall_mem_cons.mpr ⟨rfl, List.forall_mem_cons.mpr ⟨rfl, List.forall_mem_cons.mpr ⟨rfl, List.forall_mem_cons.mpr ⟨rfl, List.forall_mem_cons.mpr ⟨rfl, fun _ h => nomatch h⟩⟩⟩⟩⟩⟩⟩⟩⟩⟩
      · obtain ⟨b, hb, rfl⟩ := List.mem_map.mp hz
        have hbl : b.1.length ≤ 1000 := hpf b hb
        refine ⟨_, [8, 9], by decide, fun s0 H0 C cl fp => ⟨evG_tup (ds := [encR b.1, b.2]) rfl (evGs_cons (evG_name 8 scLis.nd) (evGs_cons (evG_name 9 scLis.nd) evGs_nil)), ?_⟩⟩
        refine (ev_tup (xs := [.tuple (a.1.map .int ++ b.1.map .int), .tuple (xs ++ [b.2])]) (evA_cons (ev_catT (ev_var 6 rfl) (ev_var 8 rfl) (by rw [List.length_map, List.length_map]; omega)) (evA_cons (ev_catT (ev_var 7 (by rw [ev]; rfl)) (ev_tup (evA_cons (ev_var 9 rfl) evA_nil)) (by rw [List.length_cons, List.length_nil]; omega)) evA_nil))).eq ?_
        rw [decRV_enc, decRV_enc, ← List.map_append]
        show _ = PyData.tuple [encR (a.1 ++ b.1), .tuple (ditems a.2 ++ [b.2])]
        rw [ev]
        rfl
    · rw [prod_data]
      exact tr_nil ⟨_, rfl⟩
  · rintro δ ⟨u4, rfl⟩
    rw [rangeD_length, Int.toNat_natCast]
    refine tr_new 5 evA_nil scLis.nd ?_
    have hm0 : (joinN rv0 part l).length = part.length ^ l := by rw [joinN_len]; exact Nat.one_mul _
    refine tr_for PassesOwn.never rfl (evI_range2 m.range (ev_var 1 rfl) (ev_var 2 rfl) ⟨by omega, by omega, by omega, by omega⟩) (fun k δ => ∃ a, δ = [.d (encRows part), .d (.int l), .d (.int mo), .d (encRows (jmade part (joinN rv0 part l) k)), a, .own ((jfound part (joinN rv0 part l) k).map RV.enc), .un, .un, .un, .un]) ⟨_, rfl⟩ ?_ ?_
    · rintro k y δ hy ⟨_, rfl⟩
      obtain ⟨hk, rfl⟩ := rangeD_get hy
      have hk2 : k + 1 < mo + 1 - l := by omega
      have hlm1 : part.length ^ (l + k) ≤ 100000 := Nat.le_trans (le_sumPow (by omega)) hsum
      have hlm2 : part.length ^ (l + (k + 1)) ≤ 100000 := Nat.le_trans (le_sumPow hk2) hsum
      have hml : (jmade part (joinN rv0 part l) k).length = part.length ^ (l + k) := by rw [jmade_len, hm0, ← Nat.pow_add]
      have htup := jmade_tup (L := 1001 * l) (fun e he => (joinN_tup rv0_tup hpf l e he).mono (by omega)) hpf k
      have hfl : (jfound part (joinN rv0 part l) k).length ≤ 100000 := by
        rw [jfound_len hm0]
        exact Nat.le_trans (sumPow_mono _ _ (by omega)) hsum
      refine ⟨_, _, evG_name 4 scLis.nd, ?_⟩
      refine tr_extend 5 rfl (ys := ((jmade part (joinN rv0 part l) k).map zeroRow).map RV.enc) (Ev.eq (ev_lcA (own := [("row", 6), ("values", 7)]) (jmade part (joinN rv0 part l) k) RV.enc decRV (fun e => (zeroRow e).enc) [6, 7] (fun e _ => decRV_enc e) rfl scLis.nd (blkOk_by (N := NLis) (sc := defScope (top 34)) (by decide +kernel)) rfl (evI_list (ev_var 3 rfl)) (fun a ha => ?_) (by rw [hml]; omega)) ?_) ?_ ?_
      · have hrl := (htup a ha).2
        refine ⟨_, [6, 7], fun i h => h, fun s0 H0 C cl fp => ⟨evG_tup (ds := [encR a.1, a.2]) rfl (evGs_cons (evG_name 6 scLis.nd) (evGs_cons (evG_name 7 scLis.nd) evGs_nil)), evIf_nil, fun _ => ?_⟩⟩
        refine (ev_tup (xs := [.tuple (a.1.map .int ++ [.int 0]), a.2]) (evA_cons (ev_catT (ev_var 6 rfl) (ev_tup (evA_cons ev_int evA_nil)) (by rw [List.length_map, List.length_cons, List.length_nil]; omega)) (evA_cons (ev_var 7 rfl) evA_nil))).eq ?_
        have e : a.1.map PyData.int ++ [.int 0] = (a.1 ++ [0]).map PyData.int := by rw [List.map_append]; rfl
        rw [e]
        rfl
      · rw [List.map_map]
        rfl
      · rw [List.length_map, List.length_map, List.length_map, hml]
        omega
      · have hlen : (jmade part (joinN rv0 part l) k).length * part.length < 10000000 := by
          rw [hml, ← Nat.pow_succ]
          have e : (l + k).succ = l + (k + 1) := rfl
          rw [e]
          omega
        refine tr_setLc2 (own := [("row", 6), ("values", 7), ("other", 8), ("value", 9)]) 3 [6, 7, 8, 9] [8, 9] (fun _ => part.map RV.enc) (fun y z => (joinF (decRV y) (decRV z)).enc) rfl scLis.nd (blkOk_by (N := NLis) (sc := defScope (top 34)) (by decide +kernel)) rfl (by decide) (evI_list (ys := (jmade part (joinN rv0 part l) k).map RV.enc) (ev_var 3 rfl)) (fun y hy => ?_) (by rw [prod_data, List.length_map, prod_len]; omega) ?_ rfl
        · obtain ⟨a, ha, rfl⟩ := List.mem_map.mp hy
          obtain ⟨⟨xs, ev, hxl⟩, hrl⟩ := htup a ha
          refine ⟨_, [6, 7], by decide, ?_, fun s0 H0 C cl fp => ⟨evG_tup (ds := [encR a.1, a.2]) rfl (evGs_cons (evG_name 6 scLis.nd) (evGs_cons (evG_name 7 scLis.nd) evGs_nil)), evI_list (ev_var 0 rfl)⟩, fun z hz => ?_⟩
          · intro sd hsd
            revert sd
            exact List.forall_mem_cons.mpr ⟨rfl, List.forall_mem_cons.mpr ⟨rfl, List.forall_mem_cons.mpr ⟨rfl, List.forall_mem_cons.mpr ⟨rfl, List.forall_mem_cons.mpr ⟨rfl, List.forall_mem_cons.mpr ⟨rfl, List.forall_mem_cons.mpr ⟨rfl, List.forall_mem_cons.mpr ⟨rfl, List.forall_mem_cons.mpr ⟨rfl, List.forall_mem_cons.mpr ⟨rfl, fun _ h => nomatch h⟩⟩⟩⟩⟩⟩⟩⟩⟩⟩
          · obtain ⟨b, hb, rfl⟩ := List.mem_map.mp hz
            have hbl : b.1.length ≤ 1000 := hpf b hb
            refine ⟨_, [8, 9], by decide, fun s0 H0 C cl fp => ⟨evG_tup (ds := [encR b.1, b.2]) rfl (evGs_cons (evG_name 8 scLis.nd) (evGs_cons (evG_name 9 scLis.nd) evGs_nil)), ?_⟩⟩
            refine (ev_tup (xs := [.tuple (a.1.map .int ++ [.int 1] ++ b.1.map .int), .tuple (xs ++ [b.2])]) (evA_cons (ev_catT (ev_catT (ev_var 6 rfl) (ev_tup (evA_cons ev_int evA_nil)) (by rw [List.length_map, List.length_cons, List.length_nil]; omega)) (ev_var 8 rfl) (by rw [List.length_append, List.length_map, List.length_map, List.length_cons, List.length_nil]; omega)) (evA_cons (ev_catT (ev_var 7 (by rw [ev]; rfl)) (ev_tup (evA_cons (ev_var 9 rfl) evA_nil)) (by rw [List.length_cons, List.length_nil]; omega)) evA_nil))).eq ?_
            rw [decRV_enc, decRV_enc]
            have e : a.1.map PyData.int ++ [.int 1] ++ b.1.map .int = (a.1 ++ [1] ++ b.1).map PyData.int := by rw [List.map_append, List.map_append]; rfl
            rw [e]
            show _ = PyData.tuple [encR (a.1 ++ [1] ++ b.1), .tuple (ditems a.2 ++ [b.2])]
            rw [ev]
            rfl
        · rw [prod_data]
          refine tr_nil ⟨.d (.int (l + (k : Nat))), ?_⟩
          rw [jfound_succ, List.map_append]
          rfl
    · rintro δ ⟨_, rfl⟩
      rw [rangeD_length]
      have e : ((mo : Int) - l).toNat = mo - l := by omega
      rw [e]
      refine tr_freeze 5 rfl ?_
      refine tr_ret (ev_catL (ev_var 5 rfl) (ev_var 3 rfl) ?_) ?_
      · rw [List.length_map, List.length_map, jfound_len hm0, jmade_len, hm0, ← Nat.pow_add]
        have h1 := Nat.le_trans (sumPow_mono part.length l (m := mo - l) (n := mo + 1 - l) (by omega)) hsum
        have h2 := Nat.le_trans (le_sumPow (b := part.length) (l := l) (n := mo + 1 - l) (i := mo - l) (by omega)) hsum
        omega
      · unfold listedM
        rw [listedFrom_eq]
        show _ = PyData.list _
        rw [List.map_append]
end
end CR

set_option Elab.async false
set_option linter.all false
set_option maxRecDepth 100000
set_option maxHeartbeats 1000000
/-! # Walks: joined_rows, rows_of_parts -/
namespace CR
open PySem L2 Evl PyProof.Rows
/-- a list times an int -/
theorem op_repS {X : Cx} : OpR X (binaryOp .Mult) (fun x y H Q => ∃ l k xs, x = .ref l ∧ y = .int k ∧ Rd H l (.lst xs) ∧ -(2 ^ 63) ≤ k ∧ k < 2 ^ 63 ∧ xs.length * k.toNat ≤ sizeLine ∧ ∀ p, H p = none → Q (.ref p) (upd H p (.lst (List.replicate k.toNat xs).flatten))) := by
  intro pins s σ H x y v u Q I rx ry h
  obtain ⟨l, k, xs, rfl, rfl, hH, h1, h2, hz, q⟩ := h
  cases rx
  obtain ⟨t, rfl⟩ := ry
  obtain ⟨z, its, n, r, hl, e⟩ := lst_rd I hH
  have hlen : its.toArray.size * k.toNat ≤ sizeLine := by rw [List.size_toArray, ← hl]; exact hz
  have hcap : ¬ its.toArray.size * k.toNat > (2 ^ 63 - 1) / 8 := by
    have : (sizeLine : Nat) ≤ (2 ^ 63 - 1) / 8 := by decide
    omega
  have hfit : ¬ (!Builtin.List.listFitsIndex k) = true := by
    rw [fitsIndex_both h1 h2]
    exact Bool.false_ne_true
  have hlong : ¬ Builtin.List.listTooLong (its.toArray.size * k.toNat) = true := by
    rw [notLongL hlen]
    exact Bool.false_ne_true
  have hnew : List.foldl (fun x1 x2 => x1 ++ x2) #[] (List.replicate (if its.toArray.isEmpty = true then 0 else k.toNat) its.toArray) = (List.replicate k.toNat its).flatten.toArray := by
    have f0 : ∀ m : Nat, List.foldl (fun x1 x2 => x1 ++ x2) #[] (List.replicate m its.toArray) = (List.replicate m its).flatten.toArray := fun m => by
      have := foldl_rep its m []
      rw [List.nil_append] at this
      exact this
    rw [f0]
    cases its with
    | nil => simp
    | cons a r' => rw [if_neg (by simp)]
  refine wpAny_binaryOp_repeat_ref (T := "list") (U := "int") (by decide) ⟨_, e, rfl⟩ (fun s' => typeIs_int s' k t) noFill_list_mul F.fills_int_mul F.slot_int_rmul repeat_list F.slot_int_index.lookup
    (call_meets F.slot_int_rmul (typeIs_int s k t) F.entry_int_rmul (F.args_int_rmul_2 _ _) (int___rmul___int_list k t l its.toArray n)
      ⟨e, rfl, ⟨_, e, rfl⟩, call_meets F.slot_list_mul ⟨_, e, rfl⟩ F.entry_list_mul (F.args_list_mul_2 _ _) (AutoListH.list___mul___list_int_3 l its.toArray n k t hfit hcap hlong) ⟨e, ?_⟩⟩)
  rw [hnew]
  exact ⟨.ref _, _, I.lnew (t' := s.toks) (r.rep k.toNat) (by rw [PyProof.Rows.lm_len_rep_flat, Nat.mul_comm]; exact hz), rfl, q _ I.fresh⟩
theorem rep_data {G : Hp} {vs : List V} {ds : List PyData} (h : DpAll K0 G vs ds) : ∀ n, DpAll K0 G (List.replicate n vs).flatten (List.replicate n ds).flatten
  | 0 => .nil
  | n + 1 => by
    rw [List.replicate_succ, List.replicate_succ, List.flatten_cons, List.flatten_cons]
    exact h.append (rep_data h n)
section
variable {X : Cx} {B : Bd} {δ : List SD} {a b : Expr} {xs : List PyData} {n : Nat} {pos : Pos}
theorem ev_repL (ha : Ev X B δ a (.list xs)) (hb : Ev X B δ b (.int n)) (h1 : n < 1000000) (hl : xs.length * n ≤ sizeLine) : Ev X B δ (.BinOp a .Mult b pos) (.list (List.replicate n xs).flatten) :=
  ev_bin op_repS ha hb fun σ G H u v s d1 d2 Q q => by
    obtain ⟨p, us, rfl, h3, h4⟩ := dpi_lst d1
    refine ⟨p, n, us, rfl, dpi_int d2, l_rd (ex_l s.e h3), by omega, by omega, by rw [h4.length, Int.toNat_natCast]; exact hl, fun t ht => ?_⟩
    rw [Int.toNat_natCast]
    have g : Grow B.T m0 G H (upd G t (.lst (List.replicate n us).flatten)) (upd H t (.lst (List.replicate n us).flatten)) := Grow.laid s.e s.t ht
    exact q _ _ _ g (.lst (SqL.of upd_same) ((rep_data h4 n).mono g.g))
end
def prodLenR (ts : List (List RV)) : Nat := ts.foldl (fun n t => n * t.length) 1
theorem joinAll_len : ∀ (ts : List (List RV)) (es : List RV), (ts.foldl joinOne es).length = ts.foldl (fun n t => n * t.length) es.length
  | [], _ => rfl
  | t :: ts, es => by rw [List.foldl_cons, List.foldl_cons, joinAll_len ts, joinOne_len]
theorem joinAll_tup : ∀ (ts : List (List RV)) (es : List RV) (L : Nat), (∀ e ∈ es, RTup L e) → (∀ t ∈ ts, ∀ e ∈ t, RFac e) → ∀ e ∈ ts.foldl joinOne es, RTup (L + 1001 * ts.length) e
  | [], _, _, h, _ => h
  | t :: ts, es, L, h, h2 => fun e he => by
    have := joinAll_tup ts (joinOne es t) (L + 1001) (joinOne_tup h (h2 t List.mem_cons_self)) (fun t ht => h2 t (List.mem_cons_of_mem _ ht)) e he
    refine this.mono ?_
    rw [List.length_cons]
    omega
section
variable {P : Program} {w : World} {K : PySem.W.Frag} {mg : Str → Option Value} {base : Heap} {T : List TabN} {f : Addr} {fd : FuncData}
def JoinPre (ps : List (List RV)) : Prop := ps.length ≤ 10 ∧ (∀ t ∈ ps, ∀ e ∈ t, RFac e) ∧ ∀ k, prodLenR (ps.take k) ≤ 100000
def rJoined (ds : List PyData) (d : PyData) : Prop := ∃ ps : List (List RV), ds = [.list (ps.map encRows)] ∧ JoinPre ps ∧ d = encRows (joinM ps)
abbrev NJoi : List Str := ["parts", "made", "part", "row", "values", "other", "value"]
theorem scJoi : FnScope NJoi ["parts"] (defScope (top 35)) := ⟨rfl, rfl, rfl, by decide +kernel, rfl, by decide +kernel, by decide +kernel⟩
theorem any_empty {α : Type} (enc : α → PyData) (g : List α → PyData) (hg : ∀ t, g t = .list (t.map enc)) (ts : List (List α)) : ((ts.map g).any fun y => decide ((ditems y).length = 0)) = ts.any fun t => t.isEmpty := by
  rw [List.any_map]
  congr 1
  funext t
  show decide ((ditems (g t)).length = 0) = t.isEmpty
  rw [hg]
  show decide ((t.map enc).length = 0) = t.isEmpty
  rw [List.length_map]
  cases t <;> simp
theorem ok_joined {c p : Addr} (D : DefK K mg "joined_rows" 35 ["parts"] f fd) (m : MgN mg) (tb : TbOf base mg T fd.code none c p) : FnOk P w K mg base CX0 3 f fd ["parts"] (spD T rJoined) := by
  refine fn_d (C := 0) D.fn scJoi (fun ds d ⟨g, e, _⟩ => by rw [e]; rfl) (fun cdv A outer s H E G ds d hr hcd hR => ?_)
  obtain ⟨ps, rfl, ⟨hl, hf, hp⟩, rfl⟩ := hR
  have hz2 : (10000000 : Nat) < sizeLine := big2
  have h9 : (1000000 : Nat) ≤ sizeLine := by decide
  refine tr_if0 (evB_val (ev_any (own := [("part", 2)]) (k := 1) [2] (fun y => decide ((ditems y).length = 0)) (evI_list (ev_var 0 rfl)) (fun y hy => ?_) tb.mem tb.uniq hr m.any tb.g (hcd.symm.trans tb.code)
    (gxS_by (N := NJoi) (sc := defScope (top 35)) (by decide +kernel)) rfl scJoi.nd)) (fun hb => ?_) fun hb => ?_
  · obtain ⟨t, ht, rfl⟩ := List.mem_map.mp hy
    refine ⟨_, [2], fun i h => h, fun s0 H0 C code fp pn => ⟨evG_name 2 scJoi.nd, ?_⟩⟩
    refine (ev_cmpI (ev_lenL m.len (ev_var 2 rfl)) ev_int).eq ?_
    show PyData.bool (decide (((t.map RV.enc).length : Int) = 0)) = PyData.bool (decide ((t.map RV.enc).length = 0))
    congr 1
    exact decide_eq_decide.mpr (by omega)
  · rw [any_empty RV.enc encRows (fun _ => rfl)] at hb
    unfold joinM
    rw [if_pos hb]
    exact tr_ret (ev_lst evA_nil) rfl
  · rw [any_empty RV.enc encRows (fun _ => rfl)] at hb
    unfold joinM
    rw [if_neg (by rw [hb]; exact Bool.false_ne_true)]
    refine tr_asg 1 (d := encRows rv0) (ev_lst (evA_cons (ev_tup (evA_cons (ev_tup evA_nil) (evA_cons (ev_tup evA_nil) evA_nil))) evA_nil)) scJoi.nd ?_
    refine tr_for PassesOwn.never rfl (evI_list (ev_var 0 rfl)) (fun k δ => ∃ a, δ = [.d (.list (ps.map encRows)), .d (encRows ((ps.take k).foldl joinOne rv0)), a, .un, .un, .un, .un]) ⟨_, rfl⟩ ?_ ?_
    · rintro k y δ hy ⟨_, rfl⟩
      obtain ⟨t, ht, rfl⟩ := get_map hy
      have htm := List.mem_of_getElem? ht
      have htup : ∀ e ∈ (ps.take k).foldl joinOne rv0, RTup 20000 e := fun e he => (joinAll_tup _ _ 0 rv0_tup (fun t ht => hf t (List.mem_of_mem_take ht)) e he).mono (by rw [List.length_take]; omega)
      have hlen : ((ps.take k).foldl joinOne rv0).length * t.length ≤ 100000 := by
        have h1 := hp (k + 1)
        unfold prodLenR at h1
        rw [take_snoc ht, foldl_snoc] at h1
        rw [joinAll_len]
        exact h1
      refine ⟨_, _, evG_name 2 scJoi.nd, ?_⟩
      refine tr_setLc2 (own := [("row", 3), ("values", 4), ("other", 5), ("value", 6)]) 1 [3, 4, 5, 6] [5, 6] (fun _ => t.map RV.enc) (fun y z => (joinE (decRV y) (decRV z)).enc) rfl scJoi.nd (blkOk_by (N := NJoi) (sc := defScope (top 35)) (by decide +kernel)) rfl (by decide) (evI_list (ys := ((ps.take k).foldl joinOne rv0).map RV.enc) (ev_var 1 rfl)) (fun y hy => ?_) (by rw [prod_data, List.length_map, prod_len]; omega) ?_ rfl
      · obtain ⟨a, ha, rfl⟩ := List.mem_map.mp hy
        obtain ⟨⟨xs, ev, hxl⟩, hrl⟩ := htup a ha
        refine ⟨_, [3, 4], by decide, ?_, fun s0 H0 C cl fp => ⟨evG_tup (ds := [encR a.1, a.2]) rfl (evGs_cons (evG_name 3 scJoi.nd) (evGs_cons (evG_name 4 scJoi.nd) evGs_nil)), evI_list (ev_var 2 rfl)⟩, fun z hz => ?_⟩
        · intro sd hsd
          revert sd
          exact List.forall_mem_cons.mpr ⟨rfl, List.forall_mem_cons.mpr ⟨rfl, List.forall_mem_cons.mpr ⟨rfl, List.forall_mem_cons.mpr ⟨rfl, List.forall_mem_cons.mpr ⟨rfl, List.forall_mem_cons.mpr ⟨rfl, List.forall_mem_cons.mpr ⟨rfl, fun _ h => nomatch h⟩⟩⟩⟩⟩⟩⟩
        · obtain ⟨b, hb, rfl⟩ := List.mem_map.mp hz
          have hbl : b.1.length ≤ 1000 := hf t htm b hb
          refine ⟨_, [5, 6], by decide, fun s0 H0 C cl fp => ⟨evG_tup (ds := [encR b.1, b.2]) rfl (evGs_cons (evG_name 5 scJoi.nd) (evGs_cons (evG_name 6 scJoi.nd) evGs_nil)), ?_⟩⟩
          refine (ev_tup (xs := [.tuple (a.1.map .int ++ b.1.map .int), .tuple (xs ++ [b.2])]) (evA_cons (ev_catT (ev_var 3 rfl) (ev_var 5 rfl) (by rw [List.length_map, List.length_map]; omega)) (evA_cons (ev_catT (ev_var 4 (by rw [ev]; rfl)) (ev_tup (evA_cons (ev_var 6 rfl) evA_nil)) (by rw [List.length_cons, List.length_nil]; omega)) evA_nil))).eq ?_
          rw [decRV_enc, decRV_enc, ← List.map_append]
          show _ = PyData.tuple [encR (a.1 ++ b.1), .tuple (ditems a.2 ++ [b.2])]
          rw [ev]
          rfl
      · rw [prod_data]
        refine tr_nil ⟨.d (encRows t), ?_⟩
        rw [take_snoc ht, foldl_snoc]
        rfl
    · rintro δ ⟨_, rfl⟩
      refine tr_ret (ev_var 1 rfl) ?_
      rw [List.length_map, List.take_length]
end
end CR

set_option Elab.async false
set_option linter.all false
set_option maxRecDepth 100000
set_option maxHeartbeats 1000000
/-! # Walks: rows_of_parts, rows_at, all_rows, first_rows -/
namespace CR
open PySem L2 Evl PyProof.Rows
def RowPre : Gn → List (List RV) → Prop
  | .int _ _, _ => True
  | .pair _ _, ps => JoinPre ps
  | .lst _ l m, ps => ∃ t, ps = [t] ∧ (∀ e ∈ t, RFac e) ∧ l ≤ m ∧ m ≤ 6 ∧ sumPow t.length l (m + 1 - l) ≤ 100000
  | .one _ _, ps => ps.length ≤ 10 ∧ ∀ t ∈ ps, t.length ≤ 100000 ∧ ∀ e ∈ t, RFac e
  | .kept _ c, ps => ∃ t, ps = [t] ∧ t.length ≤ 100000 ∧ c.dep ≤ 4 ∧ ∀ e ∈ t, c.Fit e.2
  | .turned _ m, ps => ∃ t, ps = [t] ∧ t.length ≤ 100000 ∧ ∀ e ∈ t, m.Fit e.2
  | .rep _ _, ps => ∃ t u, ps = [t, u] ∧ t.length ≤ 90 ∧ (∀ e ∈ t, RFac e ∧ ∃ i, e.2 = .int i) ∧ ∀ e ∈ t, 0 ≤ dint e.2 → dint e.2 ≤ 6 → JoinPre (List.replicate (dint e.2).toNat u)
theorem joinM_len {ps : List (List RV)} (h : JoinPre ps) : (joinM ps).length ≤ 100000 := by
  unfold joinM
  split
  · exact Nat.zero_le _
  · rw [joinAll_len]
    have := h.2.2 ps.length
    rw [List.take_length] at this
    exact this
theorem joinM_row {ps : List (List RV)} (h : JoinPre ps) : ∀ e ∈ joinM ps, e.1.length ≤ 20000 := by
  unfold joinM
  split
  · intro e he; cases he
  · intro e he
    have := (joinAll_tup _ _ 0 rv0_tup h.2.1 e he).2
    have := h.1
    omega
def repRows (u : List RV) (p : RV) : List RV := if 0 ≤ dint p.2 ∧ dint p.2 ≤ 6 then (joinM (List.replicate (dint p.2).toNat u)).map fun q => (p.1 ++ q.1, q.2) else []
section
variable {P : Program} {w : World} {K : PySem.W.Frag} {mg : Str → Option Value} {base : Heap} {T : List TabN} {f : Addr} {fd : FuncData}
def rRop (ds : List PyData) (d : PyData) : Prop := ∃ (g : Gn) (ps : List (List RV)), ds = [g.enc, .list (ps.map encRows)] ∧ g.parts ≠ [] ∧ RowPre g ps ∧ d = encRows (rowsOf g ps)
abbrev NRop : List Str := ["generator", "parts", "name", "found", "k", "row", "value", "other", "values"]
theorem scRop : FnScope NRop ["generator", "parts"] (defScope (top 36)) := ⟨rfl, rfl, rfl, by decide +kernel, rfl, by decide +kernel, by decide +kernel⟩
theorem ok_rop (D : DefK K mg "rows_of_parts" 36 ["generator", "parts"] f fd) (m : MgN mg) (hjo : Cal P w K mg base CX0 3 "joined_rows" (spD T rJoined)) (hli : Cal P w K mg base CX0 1 "listed_rows" (spD T rListed)) (hho : CalH P w K mg base T 4) (htu : Cal P w K mg base CX0 1 "turn" (spD T rTurn)) :
    FnOk P w K mg base CX0 18 f fd ["generator", "parts"] (spD T rRop) := by
  refine fn_d (C := 0) D.fn scRop (fun ds d ⟨g, ts, e, _⟩ => by rw [e]; rfl) (fun cdv A outer s H E G ds d hr hcd hR => ?_)
  obtain ⟨g, ps, rfl, hne, hp, rfl⟩ := hR
  have hz2 : (10000000 : Nat) < sizeLine := big2
  have h9 : (1000000 : Nat) ≤ sizeLine := by decide
  cases g with
  | int lo hi => exact absurd rfl hne
  | pair a b =>
    refine tr_asg 2 (ev_ixT (ev_var 0 rfl) ev_int rfl) scRop.nd ?_
    refine tr_ifYes 2 rfl ?_
    exact tr_ret (ev_call hjo (hr.mono (by omega)) (evA_cons (ev_var 1 rfl) evA_nil) ⟨ps, rfl, hp, rfl⟩) rfl
  | lst g l h =>
    obtain ⟨t, rfl, h1, h2, h3, h4⟩ := hp
    refine tr_asg 2 (ev_ixT (ev_var 0 rfl) ev_int rfl) scRop.nd ?_
    refine tr_ifNo 2 rfl (tr_ifYes 2 rfl ?_)
    exact tr_ret (ev_call hli (hr.mono (by omega)) (evA_cons (ev_ixL (xs := [encRows t]) (ev_var 1 rfl) ev_int rfl) (evA_cons (ev_ixT (ev_var 0 rfl) ev_int rfl) (evA_cons (ev_ixT (ev_var 0 rfl) ev_int rfl) evA_nil))) ⟨t, l, h, rfl, h1, h2, h3, h4, rfl⟩) rfl
  | kept g c =>
    obtain ⟨t, rfl, h1, h2, h3⟩ := hp
    refine tr_asg 2 (ev_ixT (ev_var 0 rfl) ev_int rfl) scRop.nd ?_
    refine tr_ifNo 2 rfl (tr_ifNo 2 rfl (tr_ifYes 2 rfl ?_))
    refine tr_ret (ev_lcM (own := [("row", 5), ("value", 6)]) t RV.enc decRV (fun e => c.val e.2) RV.enc [5, 6] (fun e _ => decRV_enc e) rfl scRop.nd (blkOk_by (N := NRop) (sc := defScope (top 36)) (by decide +kernel)) rfl (evI_list (ev_ixL (xs := [encRows t]) (ev_var 1 rfl) ev_int rfl)) (fun e he => ?_) (by omega)) rfl
    exact ⟨_, [5, 6], fun i h => h, fun s0 H0 C cl fp => ⟨evG_tup (ds := [encR e.1, e.2]) rfl (evGs_cons (evG_name 5 scRop.nd) (evGs_cons (evG_name 6 scRop.nd) evGs_nil)), evIf_one (evB_val (ev_call hho (hr.mono (by omega)) (evA_cons (ev_ixT (ev_var 0 rfl) ev_int rfl) (evA_cons (ev_var 6 rfl) evA_nil)) ⟨c, e.2, rfl, h3 e he, h2, rfl⟩)), fun _ =>
      ev_tup (xs := [encR e.1, e.2]) (evA_cons (ev_var 5 rfl) (evA_cons (ev_var 6 rfl) evA_nil))⟩⟩
  | turned g mp =>
    obtain ⟨t, rfl, h1, h2⟩ := hp
    refine tr_asg 2 (ev_ixT (ev_var 0 rfl) ev_int rfl) scRop.nd ?_
    refine tr_ifNo 2 rfl (tr_ifNo 2 rfl (tr_ifNo 2 rfl (tr_ifYes 2 rfl ?_)))
    refine tr_ret (ev_lcA (own := [("row", 5), ("value", 6)]) t RV.enc decRV (fun e => RV.enc (e.1, mp.val e.2)) [5, 6] (fun e _ => decRV_enc e) rfl scRop.nd (blkOk_by (N := NRop) (sc := defScope (top 36)) (by decide +kernel)) rfl (evI_list (ev_ixL (xs := [encRows t]) (ev_var 1 rfl) ev_int rfl)) (fun e he => ?_) (by omega)) ?_
    · exact ⟨_, [5, 6], fun i h => h, fun s0 H0 C cl fp => ⟨evG_tup (ds := [encR e.1, e.2]) rfl (evGs_cons (evG_name 5 scRop.nd) (evGs_cons (evG_name 6 scRop.nd) evGs_nil)), evIf_nil, fun _ =>
        ev_tup (xs := [encR e.1, mp.val e.2]) (evA_cons (ev_var 5 rfl) (evA_cons (ev_call htu (hr.mono (by omega)) (evA_cons (ev_ixT (ev_var 0 rfl) ev_int rfl) (evA_cons (ev_var 6 rfl) evA_nil)) ⟨mp, e.2, rfl, h2 e he, rfl⟩) evA_nil))⟩⟩
    · show PyData.list _ = PyData.list (List.map RV.enc (List.map _ _))
      rw [List.map_map]
      rfl
  | one a b =>
    obtain ⟨h1, h2⟩ := hp
    refine tr_asg 2 (ev_ixT (ev_var 0 rfl) ev_int rfl) scRop.nd ?_
    refine tr_ifNo 2 rfl (tr_ifNo 2 rfl (tr_ifNo 2 rfl (tr_ifNo 2 rfl ?_)))
    refine tr_new 3 evA_nil scRop.nd ?_
    refine tr_ifYes 2 rfl ?_
    refine tr_for PassesOwn.never rfl (evI_range1 m.range (ev_lenL m.len (ev_var 1 rfl)) ⟨by rw [List.length_map]; omega, by rw [List.length_map]; omega⟩) (fun k δ => ∃ a1 a2, δ = [.d (Gn.enc (.one a b)), .d (.list (ps.map encRows)), a1, .own ((((List.range k).flatMap fun k => (ps.getD k []).map fun p => (((k : Int) :: p.1, p.2) : RV))).map RV.enc), a2, .un, .un, .un, .un]) ⟨_, _, rfl⟩ ?_ ?_
    · rintro k y δ hy ⟨u3, u5, rfl⟩
      obtain ⟨hk, rfl⟩ := rangeD_get hy
      rw [List.length_map, Int.toNat_natCast] at hk
      have htk : ps[k]? = some (ps.getD k []) := by rw [List.getD_eq_getElem?_getD, List.getElem?_eq_getElem hk]; rfl
      have htm := List.mem_of_getElem? htk
      have hto := h2 _ htm
      refine ⟨_, _, evG_name 4 scRop.nd, ?_⟩
      refine tr_extend 3 rfl (ys := ((ps.getD k []).map fun p => (((k : Int) :: p.1, p.2) : RV)).map RV.enc) (Ev.eq (ev_lcA (own := [("row", 5), ("value", 6)]) (ps.getD k []) RV.enc decRV (fun p => RV.enc ((k : Int) :: p.1, p.2)) [5, 6] (fun e _ => decRV_enc e) rfl scRop.nd (blkOk_by (N := NRop) (sc := defScope (top 36)) (by decide +kernel)) rfl (evI_list (ev_ixL (xs := ps.map encRows) (d := encRows (ps.getD k [])) (ev_var 1 rfl) (ev_var 4 rfl) ?_)) (fun e he => ?_) (by have := hto.1; omega)) ?_) ?_ (tr_nil ⟨u3, .d (.int (0 + (k : Nat))), ?_⟩)
      · rw [Int.zero_add]
        exact atI_nat (by rw [List.getElem?_map, htk]; rfl)
      · have hel : e.1.length ≤ 1000 := hto.2 e he
        refine ⟨_, [5, 6], fun i h => h, fun s0 H0 C cl fp => ⟨evG_tup (ds := [encR e.1, e.2]) rfl (evGs_cons (evG_name 5 scRop.nd) (evGs_cons (evG_name 6 scRop.nd) evGs_nil)), evIf_nil, fun _ => ?_⟩⟩
        refine (ev_tup (xs := [.tuple ([.int (0 + (k : Nat))] ++ e.1.map .int), e.2]) (evA_cons (ev_catT (ev_tup (evA_cons (ev_var 4 rfl) evA_nil)) (ev_var 5 rfl) (by rw [List.length_cons, List.length_nil, List.length_map]; omega)) (evA_cons (ev_var 6 rfl) evA_nil))).eq ?_
        rw [Int.zero_add]
        rfl
      · rw [List.map_map]
        rfl
      · rw [List.length_map, List.length_map, List.length_map]
        have h3 := flat_len (n := 100000) (g := fun k => (ps.getD k []).map fun p => (((k : Int) :: p.1, p.2) : RV)) (es := List.range k) (fun j hj => by
          have hj := List.mem_range.mp hj
          rw [List.length_map, List.getD_eq_getElem?_getD, List.getElem?_eq_getElem (Nat.lt_trans hj hk)]
          exact (h2 _ (List.getElem_mem (Nat.lt_trans hj hk))).1)
        rw [List.length_range] at h3
        have := hto.1
        omega
      · rw [List.range_succ, List.flatMap_append, List.map_append]
        simp
    · rintro δ ⟨u3, u5, rfl⟩
      rw [rangeD_length, List.length_map, Int.toNat_natCast]
      exact tr_retOwn 3 rfl rfl
  | rep a b =>
    obtain ⟨t, u, rfl, h1, h2, h3⟩ := hp
    obtain ⟨t6, h6⟩ := m.long
    refine tr_asg 2 (ev_ixT (ev_var 0 rfl) ev_int rfl) scRop.nd ?_
    refine tr_ifNo 2 rfl (tr_ifNo 2 rfl (tr_ifNo 2 rfl (tr_ifNo 2 rfl ?_)))
    refine tr_new 3 evA_nil scRop.nd ?_
    refine tr_ifNo 2 rfl ?_
    refine tr_for PassesOwn.never rfl (evI_list (ys := t.map RV.enc) (ev_ixL (xs := [encRows t, encRows u]) (ev_var 1 rfl) ev_int rfl)) (fun k δ => ∃ a1 a2 a3, δ = [.d (Gn.enc (.rep a b)), .d (.list ([t, u].map encRows)), a1, .own (((t.take k).flatMap (repRows u)).map RV.enc), .un, a2, a3, .un, .un]) ⟨_, _, _, rfl⟩ ?_ ?_
    · rintro k y δ hy ⟨u3, u5, u7, rfl⟩
      obtain ⟨e, he, rfl⟩ := get_map hy
      have hem := List.mem_of_getElem? he
      have hkl : k < t.length := (List.getElem?_eq_some_iff.mp he).1
      obtain ⟨hel, i, hi⟩ := h2 e hem
      have hel : e.1.length ≤ 1000 := hel
      have hfl : ((t.take k).flatMap (repRows u)).length ≤ 90 * 100000 := by
        have h5 := flat_len (n := 100000) (g := repRows u) (es := t.take k) (fun p hp => by
          unfold repRows
          split
          · rename_i hc
            rw [List.length_map]
            exact joinM_len (h3 p (List.mem_of_mem_take hp) hc.1 hc.2)
          · exact Nat.zero_le _)
        rw [List.length_take] at h5
        refine Nat.le_trans h5 (Nat.mul_le_mul_right _ ?_)
        omega
      refine ⟨_, _, evG_tup (ds := [encR e.1, e.2]) rfl (evGs_cons (evG_name 5 scRop.nd) (evGs_cons (evG_name 6 scRop.nd) evGs_nil)), ?_⟩
      refine tr_if0 (p := decide ((0 : Int) ≤ i) && decide (i ≤ 6)) (evB_chain (i := 0) (j := i) (l := 6) ev_int (ev_var 6 (by rw [hi]; rfl)) (ev_globI h6)) (fun hb => ?_) fun hb => ?_
      · rw [Bool.and_eq_true, decide_eq_true_eq, decide_eq_true_eq] at hb
        obtain ⟨n, rfl⟩ : ∃ n : Nat, i = n := ⟨i.toNat, by omega⟩
        have hn6 : n ≤ 6 := by omega
        have hj : JoinPre (List.replicate n u) := by
          have z := h3 e hem
          rw [hi] at z
          exact z hb.1 hb.2
        have hrep : (List.replicate n [encRows u]).flatten = (List.replicate n u).map encRows := by
          rw [List.map_replicate]
          clear hb hj hn6 hi
          induction n with
          | zero => rfl
          | succ n ih => rw [List.replicate_succ, List.flatten_cons, ih, List.replicate_succ]; rfl
        refine tr_extend 3 rfl (ys := ((joinM (List.replicate n u)).map fun q => ((e.1 ++ q.1, q.2) : RV)).map RV.enc) (Ev.eq (ev_lcA (own := [("other", 7), ("values", 8)]) (joinM (List.replicate n u)) RV.enc decRV (fun q => RV.enc (e.1 ++ q.1, q.2)) [7, 8] (fun e _ => decRV_enc e) rfl scRop.nd (blkOk_by (N := NRop) (sc := defScope (top 36)) (by decide +kernel)) rfl
          (evI_list (ev_call hjo (hr.mono (by omega)) (evA_cons (ev_repL (n := n) (ev_lst (evA_cons (ev_ixL (xs := [encRows t, encRows u]) (d := encRows u) (ev_var 1 rfl) ev_int rfl) evA_nil)) (ev_var 6 (by rw [hi]; rfl)) (by omega) (by rw [List.length_cons, List.length_nil]; omega)) evA_nil) ⟨List.replicate n u, by rw [hrep], hj, rfl⟩)) (fun q hq => ?_) (by have := joinM_len hj; omega)) ?_) ?_ (tr_nil (tr_nil ⟨u3, .d (encR e.1), .d e.2, ?_⟩))
        · have hql := joinM_row hj q hq
          refine ⟨_, [7, 8], fun i h => h, fun s0 H0 C cl fp => ⟨evG_tup (ds := [encR q.1, q.2]) rfl (evGs_cons (evG_name 7 scRop.nd) (evGs_cons (evG_name 8 scRop.nd) evGs_nil)), evIf_nil, fun _ => ?_⟩⟩
          refine (ev_tup (xs := [.tuple (e.1.map .int ++ q.1.map .int), q.2]) (evA_cons (ev_catT (ev_var 5 rfl) (ev_var 7 rfl) (by rw [List.length_map, List.length_map]; omega)) (evA_cons (ev_var 8 rfl) evA_nil))).eq ?_
          rw [← List.map_append]
          rfl
        · rw [List.map_map]
          rfl
        · rw [List.length_map, List.length_map, List.length_map]
          have := joinM_len hj
          omega
        · rw [take_flat _ he, List.map_append]
          have er : repRows u e = (joinM (List.replicate n u)).map fun q => ((e.1 ++ q.1, q.2) : RV) := by
            unfold repRows
            rw [hi]
            exact if_pos ⟨hb.1, hb.2⟩
          rw [er]
          rfl
      · refine tr_nil ⟨u3, .d (encR e.1), .d e.2, ?_⟩
        have er : repRows u e = [] := by
          unfold repRows
          rw [hi]
          refine if_neg fun z => ?_
          have z1 : (0 : Int) ≤ i := z.1
          have z2 : i ≤ 6 := z.2
          rw [decide_eq_true z1, decide_eq_true z2] at hb
          cases hb
        rw [take_flat _ he, er, List.append_nil]
        rfl
    · rintro δ ⟨_, _, _, rfl⟩
      rw [List.length_map, List.take_length]
      exact tr_retOwn 3 rfl rfl
end
theorem rowsM_eq (g : Gn) : rowsM g = rowsOf g (g.parts.map rowsM) := by
  cases g <;> rfl
def RQ (g : Gn) : Prop := RowPre g (g.parts.map rowsM) ∧ countM g ≤ 5000 ∧ (rowsM g).length ≤ 1000000
def RP : Gn → Prop
  | .int lo hi => RQ (.int lo hi)
  | .pair a b => RP a ∧ RP b ∧ RQ (.pair a b)
  | .lst g l m => RP g ∧ RQ (.lst g l m)
  | .one a b => RP a ∧ RP b ∧ RQ (.one a b)
  | .kept g c => RP g ∧ RQ (.kept g c)
  | .turned g m => RP g ∧ RQ (.turned g m)
  | .rep a b => RP a ∧ RP b ∧ RQ (.rep a b)
theorem RP.q {g : Gn} (h : RP g) : RQ g := by
  cases g with
  | int lo hi => exact h
  | pair a b => exact h.2.2
  | lst g l m => exact h.2
  | one a b => exact h.2.2
  | kept g c => exact h.2
  | turned g m => exact h.2
  | rep a b => exact h.2.2
theorem RP.part {g p : Gn} (h : RP g) (hp : p ∈ g.parts) : RP p := by
  cases g with
  | int lo hi => cases hp
  | pair a b =>
    have e : p = a ∨ p = b := by simpa [Gn.parts] using hp
    rcases e with rfl | rfl
    · exact h.1
    · exact h.2.1
  | lst g l m =>
    obtain rfl := List.mem_singleton.mp hp
    exact h.1
  | one a b =>
    have e : p = a ∨ p = b := by simpa [Gn.parts] using hp
    rcases e with rfl | rfl
    · exact h.1
    · exact h.2.1
  | kept g c =>
    obtain rfl := List.mem_singleton.mp hp
    exact h.1
  | turned g m =>
    obtain rfl := List.mem_singleton.mp hp
    exact h.1
  | rep a b =>
    have e : p = a ∨ p = b := by simpa [Gn.parts] using hp
    rcases e with rfl | rfl
    · exact h.1
    · exact h.2.1
section
variable {P : Program} {w : World} {K : PySem.W.Frag} {mg : Str → Option Value} {base : Heap} {T : List TabN} {f : Addr} {fd : FuncData}
def rRowsAt (n : Nat) (ds : List PyData) (d : PyData) : Prop := ∃ (g : Gn) (ps : List PyData), ds = [g.enc, .tuple ps] ∧ TP g ∧ RP g ∧ g.dep ≤ n ∧ g.dep ≤ 10 ∧ ps.length + g.dep ≤ 100 ∧ d = encRows (rowsM g)
abbrev NRat : List Str := ["generator", "path", "parts", "rows", "k", "value", "count", "row"]
theorem scRat : FnScope NRat ["generator", "path"] (defScope (top 37)) := ⟨rfl, rfl, rfl, by decide +kernel, rfl, by decide +kernel, by decide +kernel⟩
abbrev CalRA (P : Program) (w : World) (K : PySem.W.Frag) (mg : Str → Option Value) (base : Heap) (T : List TabN) (n : Nat) : Prop := Cal P w K mg base CX0 (n + 32) "rows_at" (spD T (rRowsAt n))
theorem ok_rat (n : Nat) (D : DefK K mg "rows_at" 37 ["generator", "path"] f fd) (m : MgN mg) (hpa : Cal P w K mg base CX0 1 "parts_of" (spD T rParts)) (hco : Cal P w K mg base CX0 31 "count_rows" (spD T rCount)) (hta : Cal P w K mg base CX0 30 "table" (spD T rTab)) (hro : Cal P w K mg base CX0 18 "rows_of_parts" (spD T rRop))
    (hrec : ∀ i, i < n → CalRA P w K mg base T i) : FnOk P w K mg base CX0 (n + 32) f fd ["generator", "path"] (spD T (rRowsAt n)) := by
  refine fn_d (C := 0) D.fn scRat (fun ds d ⟨g, ts, e, _⟩ => by rw [e]; rfl) (fun cdv A outer s H E G ds d hr hcd hR => ?_)
  obtain ⟨g, ps, rfl, hp, hrp, hd, hd10, hl, rfl⟩ := hR
  obtain ⟨t5, h5⟩ := m.exact
  have hz2 : (10000000 : Nat) < sizeLine := big2
  have hpl := parts_len g
  obtain ⟨q1, q2, q3⟩ := hrp.q
  refine tr_asg 2 (ev_call hpa (hr.mono (by omega)) (evA_cons (ev_var 0 rfl) evA_nil) ⟨g, rfl, rfl⟩) scRat.nd ?_
  refine tr_setLcM (own := [("k", 4)]) 3 (List.range g.parts.length) (fun i => .int (0 + (i : Nat))) (fun y => (dint y).toNat) (fun _ => true) (fun i => encRows (rowsM (g.parts.getD i (.int 0 0)))) [4] (fun i _ => by show ((0 : Int) + (i : Nat)).toNat = i; omega) rfl scRat.nd (blkOk_by (N := NRat) (sc := defScope (top 37)) (by decide +kernel)) rfl
    ((evI_range1 m.range (ev_lenL m.len (ev_var 2 rfl)) ⟨by rw [List.length_map]; omega, by rw [List.length_map]; omega⟩).eq (by rw [Int.toNat_natCast, List.length_map]; rfl)) (fun i hi => ?_) (by rw [List.length_range]; omega) ?_
  · have hi := List.mem_range.mp hi
    have hgi : g.parts[i]? = some (g.parts.getD i (.int 0 0)) := by rw [List.getD_eq_getElem?_getD, List.getElem?_eq_getElem hi]; rfl
    obtain ⟨tp, hdi⟩ := hp.part (List.mem_of_getElem? hgi)
    have h9 : (1000 : Nat) ≤ sizeLine := by decide
    refine ⟨_, [4], fun i h => h, fun s0 H0 C cl fp => ⟨evG_name 4 scRat.nd, evIf_nil, fun _ => ?_⟩⟩
    refine ev_call (hrec (g.parts.getD i (.int 0 0)).dep (by omega)) (hr.mono (by omega)) (evA_cons (x := (g.parts.getD i (.int 0 0)).enc) (ev_ixL (ev_var 2 rfl) (ev_var 4 rfl) (by rw [Int.zero_add]; exact atI_nat (by rw [List.getElem?_map, hgi]; rfl))) (evA_cons (ev_catT (ev_var 1 rfl) (ev_tup (evA_cons (ev_var 4 rfl) evA_nil)) (by rw [List.length_cons, List.length_nil]; omega)) evA_nil)) ⟨_, _, rfl, tp, hrp.part (List.mem_of_getElem? hgi), Nat.le_refl _, by omega, ?_, rfl⟩
    rw [List.length_append, List.length_cons, List.length_nil]
    omega
  · rw [List.filter_eq_self.mpr fun _ _ => rfl, range_get (fun p => encRows (rowsM p))]
    refine tr_if0 (p := false) ((evB_cmpI (ev_call hco (hr.mono (by omega)) (evA_cons (ev_var 0 rfl) evA_nil) ⟨g, rfl, hp, hd10, rfl⟩) (ev_globI h5)).eq ?_) (fun z => nomatch z) fun _ => ?_
    · show decide ((5000 : Int) < countM g) = false
      exact decide_eq_false (by omega)
    · by_cases hz : g.parts = []
      · refine tr_if0 (p := true) ((evB_cmpI (ev_lenL m.len (ev_var 2 rfl)) ev_int).eq ?_) (fun _ => ?_) fun z => nomatch z
        · rw [hz]; rfl
        · cases g with
          | int lo hi =>
            have htl := hp.q.2.2.2
            refine tr_ret (ev_lcA (own := [("value", 5), ("count", 6), ("row", 7)]) (tableM (.int lo hi)) Ent.enc decE (fun e => RV.enc (e.r, e.v)) [5, 6, 7] (fun e _ => decE_enc e) rfl scRat.nd (blkOk_by (N := NRat) (sc := defScope (top 37)) (by decide +kernel)) rfl
              (evI_list (ev_call hta (hr.mono (by omega)) (evA_cons (ev_var 0 rfl) evA_nil) ⟨.int lo hi, rfl, hp, hd10, rfl⟩)) (fun e he => ?_) (by omega)) ?_
            · exact ⟨_, [5, 6, 7], fun i h => h, fun s0 H0 C cl fp => ⟨evG_tup (ds := [e.v, .int e.n, encR e.r]) rfl (evGs_cons (evG_name 5 scRat.nd) (evGs_cons (evG_name 6 scRat.nd) (evGs_cons (evG_name 7 scRat.nd) evGs_nil))), evIf_nil, fun _ => ev_tup (xs := [encR e.r, e.v]) (evA_cons (ev_var 7 rfl) (evA_cons (ev_var 5 rfl) evA_nil))⟩⟩
            · show PyData.list _ = PyData.list (List.map RV.enc (List.map _ _))
              rw [List.map_map]
              rfl
          | _ => cases hz
      · refine tr_if0 (p := false) ((evB_cmpI (ev_lenL m.len (ev_var 2 rfl)) ev_int).eq ?_) (fun z => nomatch z) fun _ => ?_
        · have h0 : 0 < g.parts.length := List.length_pos_iff.mpr hz
          show decide (((g.parts.map Gn.enc).length : Int) = 0) = false
          rw [List.length_map]
          exact decide_eq_false (by omega)
        · refine tr_ret (ev_call hro (hr.mono (by omega)) (evA_cons (ev_var 0 rfl) (evA_cons (ev_var 3 rfl) evA_nil)) ⟨g, g.parts.map rowsM, by rw [List.map_map]; rfl, hz, q1, rfl⟩) ?_
          rw [← rowsM_eq]
def rAll (ds : List PyData) (d : PyData) : Prop := ∃ g : Gn, ds = [g.enc] ∧ TP g ∧ RP g ∧ g.dep ≤ 10 ∧ d = encRows (allM g)
theorem scAll : FnScope ["generator"] ["generator"] (defScope (top 38)) := ⟨rfl, rfl, rfl, by decide +kernel, rfl, by decide +kernel, by decide +kernel⟩
theorem ok_all {c p : Addr} (D : DefK K mg "all_rows" 38 ["generator"] f fd) (m : MgN mg) (tb : TbOf base mg T fd.code (some ("all_rows" ++ ".<locals>." ++ "<lambda>")) c p) (hta : Cal P w K mg base CX0 30 "table" (spD T rTab)) (hra : CalRA P w K mg base T 10) : FnOk P w K mg base CX0 43 f fd ["generator"] (spD T rAll) := by
  refine fn_d (C := 0) D.fn scAll (fun ds d ⟨g, e, _⟩ => by rw [e]; rfl) (fun cdv A outer s H E G ds d hr hcd hR => ?_)
  obtain ⟨g, rfl, hp, hrp, hd, rfl⟩ := hR
  refine tr_drop (ev_call hta (hr.mono (by omega)) (evA_cons (ev_var 0 rfl) evA_nil) ⟨g, rfl, hp, hd, rfl⟩) ?_
  exact tr_ret (ev_sortedKey (rowsM g) RV.enc (fun e => e.1) (ev_call hra (hr.mono (by omega)) (evA_cons (ev_var 0 rfl) (evA_cons (ev_tup evA_nil) evA_nil)) ⟨g, [], rfl, hp, hrp, hd, hd, by rw [List.length_nil]; omega, rfl⟩) (fun e _ => ⟨[encR e.1, e.2], rfl, rfl, by show 2 ≤ 1000; decide⟩) hr m.sorted m.len tb.l (hcd.symm.trans tb.code) tb.mem tb.uniq (keyS_by (by decide +kernel)) (by decide +kernel) rfl (fun _ _ _ _ _ _ => rfl)) rfl
def rFirst (ds : List PyData) (d : PyData) : Prop := ∃ (g : Gn) (n : Nat), ds = [g.enc, .int n] ∧ TP g ∧ RP g ∧ g.dep ≤ 10 ∧ n ≤ 1000 ∧ d = .list (((allM g).map (fun p => encR p.1)).take n)
theorem scFst : FnScope ["generator", "many", "row", "value"] ["generator", "many"] (defScope (top 39)) := ⟨rfl, rfl, rfl, by decide +kernel, rfl, by decide +kernel, by decide +kernel⟩
theorem cut_to2 {xs : List PyData} {k : Nat} : cutD xs none (some (k : Int)) = xs.take k := by
  unfold cutD
  rw [HT.sIx_nat, HT.sIx_none, List.drop_zero, Nat.sub_zero]
  by_cases h : k ≤ xs.length
  · rw [Nat.min_eq_left h]
  · rw [Nat.min_eq_right (by omega), List.take_length, List.take_of_length_le (by omega)]
theorem ok_first (D : DefK K mg "first_rows" 39 ["generator", "many"] f fd) (m : MgN mg) (hal : Cal P w K mg base CX0 43 "all_rows" (spD T rAll)) : FnOk P w K mg base CX0 44 f fd ["generator", "many"] (spD T rFirst) := by
  refine fn_d (C := 0) D.fn scFst (fun ds d ⟨g, n, e, _⟩ => by rw [e]; rfl) (fun cdv A outer s H E G ds d hr hcd hR => ?_)
  obtain ⟨g, n, rfl, hp, hrp, hd, hn, rfl⟩ := hR
  have hl : (allM g).length ≤ 1000000 := by
    unfold allM
    rw [List.length_mergeSort]
    exact hrp.q.2.2
  have h9 : (1000000 : Nat) < sizeLine := by decide
  refine tr_ret (ev_slL (l := none) (r := some (n : Int)) (ev_lcA (own := [("row", 2), ("value", 3)]) (allM g) RV.enc decRV (fun p => encR p.1) [2, 3] (fun e _ => decRV_enc e) rfl scFst.nd (blkOk_by (N := ["generator", "many", "row", "value"]) (sc := defScope (top 39)) (by decide +kernel)) rfl
    (evI_list (ev_call hal hr (evA_cons (ev_var 0 rfl) evA_nil) ⟨g, rfl, hp, hrp, hd, rfl⟩)) (fun e he => ?_) (by omega)) trivial (ev_var 1 rfl)) ?_
  · exact ⟨_, [2, 3], fun i h => h, fun s0 H0 C cl fp => ⟨evG_tup (ds := [encR e.1, e.2]) rfl (evGs_cons (evG_name 2 scFst.nd) (evGs_cons (evG_name 3 scFst.nd) evGs_nil)), evIf_nil, fun _ => ev_var 2 rfl⟩⟩
  · rw [cut_to2]
end
end CR

set_option Elab.async false
set_option linter.all false
set_option maxRecDepth 100000
set_option maxHeartbeats 2000000
/-! # A list comprehension whose element lets an exception of a callee out -/
namespace L2
open PySem PySem.Spec PyProof.Rows
/-- a call's exception in the air of X: it flies over all of X's frames -/
def XF (X : Cx) (W : WX) (u : Value) (s' : Shared) : Prop :=
  ∃ (a : Addr) (B : Heap) (sI : Shared) (pins : List (Addr × Obj)) (σ : St) (H : Hp) (cls : Value) (d : Option Addr),
    u = .ref a ∧ Inv X pins σ H sI ∧ (∀ b o, sI.heap.get? b = some o → b ∉ frs X.stack → B.get? b = some o) ∧ sI.heap.UpToSlots s'.heap ∧
      HandSPX.FlyingZ B X.stack a (Zc cls d) s'.heap ∧ H a = none ∧ s'.os = sI.os ∧ AllBare s'.gens ∧ W cls d σ H
section
variable {X : Cx} {pins : List (Addr × Obj)} {σ : St} {H : Hp} {s s' : Shared} {W : WX} {E : XK}
theorem XF.of_call (I : Inv X pins σ H s) (hW : ∀ cls d H', E cls d H' → W cls d σ H') {u : Value} (c : CX X.prog X.w X.stack H s E u s') : XF X W u s' := by
  obtain ⟨a, B, H', cls, d, rfl, fl, hok, ub, na, os, ag, hE⟩ := c
  obtain ⟨G, g1, g2⟩ := restrict s'.heap fun b => (B.get? b).isSome || decide (b ∈ frs X.stack)
  have st : B.StaysIn s'.heap := fl.1
  have gB : ∀ b o, B.get? b = some o → G.get? b = some o := fun b o e => by
    rw [g1 b (by simp [e])]
    exact st b o e
  have gF : ∀ b, b ∈ frs X.stack → G.get? b = s'.heap.get? b := fun b hb => g1 b (by simp [hb])
  have og : ∀ b o, G.get? b = some o → s'.heap.get? b = some o ∧ ((B.get? b).isSome = true ∨ b ∈ frs X.stack) := fun b o e => by
    cases q : ((B.get? b).isSome || decide (b ∈ frs X.stack)) with
    | false => rw [g2 b q] at e; cases e
    | true =>
      rw [g1 b q] at e
      exact ⟨e, by simpa [Bool.or_eq_true] using q⟩
  refine ⟨a, B, { s with heap := G, gens := s'.gens, drawn := s'.drawn, toks := s'.toks }, pins, σ, H', cls, d, rfl, ?_, fun b o e hb => ?_, Heap.UpToSlots.of_keeps fun b o e => (og b o e).1, fl, na, os, ag, hW _ _ _ hE⟩
  · refine I.call (ch := []) ⟨fun b o e n hb _ => gB b o (ub.keep b o e n hb), fun b o e n hb _ => ?_, fun b o e n _ => ub.free b o e n, fun b o e _ => ?_, ub.tups, ub.frzs, ub.tbls⟩ (hok.kept gB) ag (fun _ z => nomatch z)
    · obtain ⟨sl, q⟩ := ub.slot b o e hb
      exact ⟨sl, by rw [gF b hb]; exact q⟩
    · by_cases hb : b ∈ frs X.stack
      · obtain ⟨sl, q⟩ := ub.slot b o e hb
        exact ⟨_, by rw [gF b hb]; exact q⟩
      · obtain ⟨o', q⟩ := ub.there b o e hb
        exact ⟨o', gB b o' q⟩
  · obtain ⟨e', h⟩ := og b o e
    rcases h with h | h
    · obtain ⟨o', q⟩ := Option.isSome_iff_exists.mp h
      have z := st b o' q
      rw [e'] at z; cases z
      exact q
    · exact absurd h hb
end
/-- a comprehension's block, with a wish about exceptions -/
abbrev Cx.blkX (X : Cx) (s : Shared) (H : Hp) (scope : Scope) (cenv : Env) (fp : List Addr) (xe : Value → Shared → Prop) : Cx := (X.blk s H scope cenv fp).wish xe
section
variable {X : Cx} {pins : List (Addr × Obj)} {σ : St} {H3 : Hp} {s3 s6 : Shared} {W W' : WX} {scope : Scope} {ce : Env} {fp : List Addr} {xe : Value → Shared → Prop}
/-- it goes on out of the block -/
theorem XF.note (hs : X.stack = X.env :: X.outer) (hf : X.env.frame = some X.env.locals) (tk : Takes X W') (I3 : Inv X pins σ H3 s3) (f3 : ∀ b ∈ fp, FpOk X pins H3 b) (cL : ce.locals = s3.heap.objs.size) (cF : ce.frame = X.env.frame)
    (hW : ∀ cls d σ' H', W cls d σ' H' → W' cls d σ H') {u : Value} (x : XF (X.blkX s3 H3 scope ce fp xe) W u s6) : notedBy (model X.prog X.w) X.A ce (CompFails (model X.prog X.w) X.A X.xe ce) u s6 := by
  obtain ⟨a, B, sI, pins', σ', H', cls, d, rfl, J, nb, up, fl, na, os, ag, w⟩ := x
  have nb : ∀ b o, sI.heap.get? b = some o → b ∉ frs X.stack → B.get? b = some o := nb
  have fl : HandSPX.FlyingZ B X.stack a (Zc cls d) s6.heap := fl
  have hfr : X.A.frames = some (X.env :: X.outer) := by rw [I3.ok.frames, hs]
  rw [hs] at fl
  show wpAny _ _ (noteFrame (.ref a) ce) _ _ s6
  rw [noteFrame_env _ cF]
  refine HandSPX.looks_onZ Zc.steady hfr hf fl fun h1 hh1 up1 => ?_
  obtain ⟨m, hn, _⟩ := J.loc
  have hn : sI.heap.Ns ce.locals m := hn
  have hn1 : h1.Ns ce.locals m := (hn.upToSlots up).upToSlots up1
  refine ⟨m, hn1, fun h2 m2 hn2 hs2 => ?_⟩
  obtain ⟨b1, b0, f1, oe, vs, T, oT, ts, he, hz, hd, h1', hnT, hTe, hT, hdT, h3⟩ := hh1
  have nC : ∀ {b : Addr} {o : Obj} {vs : Array Value}, h1.get? b = some o → o.data = .fields vs → b ≠ ce.locals := fun {b o vs} e e2 z => by
    obtain ⟨oC, es, ep, e3, e4, _⟩ := hn1
    rw [z, e3] at e
    cases e
    rw [e4] at e2
    cases e2
  have oth : ∀ b, b ≠ ce.locals → h2.get? b = h1.get? b := hs2.2
  generalize hB : PySem.W.hideAll B [ce.locals] = B'
  have kB : ∀ {b o}, B.get? b = some o → b ≠ ce.locals → B'.get? b = some o := fun {b o} e n => by
    rw [← hB]
    exact PySem.W.hideAll_get _ e fun z => n (List.mem_singleton.mp z)
  have oB : ∀ {b o}, B'.get? b = some o → B.get? b = some o ∧ b ≠ ce.locals := fun {b o} e => by
    rw [← hB] at e
    exact ⟨PySem.W.of_hideAll _ e, fun z => by
      rw [PySem.W.hideAll_none _ (List.mem_singleton.mpr z)] at e
      cases e⟩
  have nB : ∀ {b}, B.get? b = none → B'.get? b = none := fun {b} e => by
    cases q : B'.get? b with
    | none => rfl
    | some o => rw [(oB q).1] at e; cases e
  have held : HandSPX.HeldZ B' (X.env :: X.outer) a (Zc cls d) X.env.locals h2 := by
    refine ⟨fun b o e => ?_, nB b0, ?_, oe, vs, T, oT, ts, ?_, hz, hd, h1', nB hnT, hTe, ?_, hdT, h3⟩
    · obtain ⟨q1, q2⟩ := oB e
      rw [oth b q2]
      exact b1 b o q1
    · have f2 := Heap.FunFrames.sameBut hs2 hn2 f1
      refine funFrames_none f2 fun L hL => ?_
      exact nB (f1.mem hL).1
    · rw [oth a (nC he hd)]; exact he
    · rw [oth T (nC hT hdT)]; exact hT
  have he2 : h2.get? a = some oe := by rw [oth a (nC he hd)]; exact he
  unfold PySem.passOn
  refine wpAny_bind (wpAny_field he2 hd h1' ?_)
  rw [if_neg (show ¬ ((Value.ref T == Value.none) = true) from by simp)]
  rw [cF, hf]
  refine wpAny_bind (HandSPX.setFlight_onZ held fun h4 hh4 up4 => ?_)
  refine wpAny_throw (tk _ _ ⟨a, B', { sI with heap := PySem.W.hideAll sI.heap [ce.locals] }, pins, σ, H', cls, d, rfl, ?_, fun b o e hb => ?_, fun b o e hnf => ?_, .inr (.inr (by rw [hs]; exact hh4)), na, os, ag, hW _ _ _ _ w⟩)
  · have I7 : Inv X pins σ H' sI := I3.call' (ch := fp) J.os J.base J.hok J.bare fun b hb => ⟨(f3 b hb).2.2.2.1, (f3 b hb).2.1, (f3 b hb).2.2.2.2.1, (f3 b hb).2.2.2.2.2⟩
    have nCH : H' s3.heap.objs.size = none := by
      have z : H' ce.locals = none := J.free
      rw [cL] at z
      exact z
    obtain ⟨f0, f1', f2', f3', f4', f5'⟩ := I3.fpOk (Nat.le_refl _) nCH
    rw [cL]
    exact I7.turned (t' := sI.toks) (fun b o hb e => PySem.W.hideAll_get _ e fun z => hb (List.mem_singleton.mp z)) f0 f1' f3' f4' f5'
  · have q2 : b ≠ ce.locals := fun z => by
      rw [PySem.W.hideAll_none _ (List.mem_singleton.mpr z)] at e
      cases e
    exact kB (nb b o (PySem.W.of_hideAll _ e) hb) q2
  · have q2 : b ≠ ce.locals := fun z => by
      rw [PySem.W.hideAll_none _ (List.mem_singleton.mpr z)] at e
      cases e
    obtain ⟨sl1, e1⟩ := up b o (PySem.W.of_hideAll _ e) hnf
    obtain ⟨sl2, e2⟩ := up1 b _ e1 hnf
    rw [← oth b q2] at e2
    obtain ⟨sl4, e4⟩ := up4 b _ e2 hnf
    exact ⟨sl4, e4⟩
end
section
variable {X : Cx}
/-- what a block's element may let out is the def's own wish -/
def BlkE (X : Cx) (E0 : XK) (scope : Scope) (elt : Expr) (te : TE) : Prop := ∀ (s : Shared) (H : Hp) (C : Addr) (cl : List (Str × Addr)) (fp : List Addr) (xe : Value → Shared → Prop),
  Passes (L2.CX X.prog X.w) (X.blkX s H scope (compEnvC scope cl C X.env) fp xe) E0 → PE (X.blkX s H scope (compEnvC scope cl C X.env) fp xe) elt te
/-- the kit's lc_core, where the element may let a callee's exception out -/
theorem lc_coreX {E0 : XK} {pins : List (Addr × Obj)} {s : Shared} {σ : St} {H : Hp} {Q : VK} {elt tg iter : Expr} {scope : Scope} {own : List (Str × Nat)} {pos pos' : Pos} {wi : TI} {g : TG} {te : TE} {use : Option (Value → Sem Unit)} {Qf : Value → Shared → Prop}
    (hst : X.stack = X.env :: X.outer) (hf : X.env.frame = some X.env.locals) (tk : Takes X fun cls d _ H => E0 cls d H) (hc : X.calm = true) (hN : X.N.Nodup) (I : Inv X pins σ H s) (hi : PI X tg iter wi) (ok : BlkOk X.N X.env.scope scope own)
    (hg : ∀ (s : Shared) (H : Hp) (C : Addr) (cl : List (Str × Addr)) (fp : List Addr) (xe : Value → Shared → Prop), PG (X.blkX s H scope (compEnvC scope cl C X.env) fp xe) tg g) (he : BlkE X E0 scope elt te) (hs : ∀ x, foldedSetIterable iter X.env x = pure x)
    (h : tLc wi g tYes te (own.map (·.2)) σ H Q)
    (hRR : ∀ D (ce : Env) s' m H', ce.frame = X.env.frame → Inv X pins σ H' s' → Q (.ref D) H' → s'.heap.Ns ce.locals m → FpOk X pins H' ce.locals → compEnds (model X.prog X.w) X.A X.xe use Qf (.ref D) ce (.ok .next) s') :
    wpAny (model X.prog X.w) X.A (comprehension (.ListComp elt [⟨tg, iter, [], 0⟩] scope pos) scope X.env pos' (newList []) false (eval iter X.env) use) Qf X.xe s := by
  have hfree : ∀ y ∈ scope.names, y.2 = .free → ∃ c, X.env.cells.lookup y.1 = some c := fun y hy e => by
    rcases ok.free y hy e with k | k
    · exact I.ok.has _ (.inl k)
    · exact I.ok.has _ (.inr k)
  refine comprehension_at (use := use) rfl hs (closure_ok hfree) ok.kind (fun y hy e => by rw [ok.uniq y hy, e])
    (thn (hi.run pins s σ H _ I h) fun xv s1 hx => thn hx fun itv s2 h2 => ?_)
  obtain ⟨it, fp, tn, J, H2, e, I2, T, st2, f2, q⟩ := h2
  subst e
  refine wpAny_newObj_type (newEnv_comp ?_) (by show 0 ≤ sizeLine; decide)
  generalize hD : s2.heap.objs.size = D
  have hDn : H2 D = none := I2.hok.fresh (Nat.le_of_eq hD)
  obtain ⟨W, ⟨m0, w0⟩, turn⟩ := q D hDn
  generalize hs3 : ({ s2 with heap := s2.heap.push { cls := .type "list", data := .seq ([] : List Value).toArray } } : Shared) = s3
  have I3 : Inv X pins σ (upd H2 D (.lst [])) s3 := by
    rw [← hs3]
    refine I2.laid (t' := s2.toks) (fun b o e => Heap.get?_push_of_some _ e) (Nat.le_of_eq hD) ⟨Nat.zero_le _, [], 0, .nil, ?_⟩
    rw [← hD]
    exact Heap.get?_push_size _ rfl
  have h3 : s3.heap = s2.heap.push { cls := .type "list", data := .seq ([] : List Value).toArray } := by rw [← hs3]
  have sz : ∀ b ∈ fp, b < s2.heap.objs.size := fun b hb => by
    obtain ⟨o, e, _⟩ := T.obj _ _ st2 b hb
    exact Heap.lt_size e
  have f3 : ∀ b ∈ fp, FpOk X pins (upd H2 D (.lst [])) b ∧ b < s3.heap.objs.size := fun b hb => by
    have hlt := sz b hb
    refine ⟨⟨?_, (f2 b hb).2⟩, by rw [h3, Heap.size_push]; exact Nat.lt_succ_of_lt hlt⟩
    rw [upd_ne (by rw [← hD]; exact Nat.ne_of_lt hlt)]
    exact (f2 b hb).1
  have st3 : tn 0 s3.heap := T.keep _ _ _ st2 fun b _ o e => by rw [h3]; exact Heap.get?_push_of_some _ e
  have I4 := block_start I3 ok hN f3
  generalize hce0 : compEnvC scope (cellsFrom (s3.heap.objs.size + 1) scope.names (cloFrom X.env.cells scope.names [])) s3.heap.objs.size X.env = ce0 at I4
  have cL : ce0.locals = s3.heap.objs.size := by subst hce0; rfl
  have cF : ce0.frame = X.env.frame := by subst hce0; rfl
  generalize hxe : notedBy (model X.prog X.w) X.A ce0 (CompFails (model X.prog X.w) X.A X.xe ce0) = xe
  have pass : Passes (L2.CX X.prog X.w) (X.blkX s3 (upd H2 D (.lst [])) scope ce0 fp xe) E0 := fun pins' σ' H' s' e s'' I' c => by
    show xe e s''
    rw [← hxe]
    exact XF.note hst hf tk I3 (fun b hb => (f3 b hb).1) cL cF (fun _ _ _ _ z => z) (XF.of_call (W := fun cls d _ H => E0 cls d H) I' (fun _ _ _ z => z) c)
  have pg := hg s3 (upd H2 D (.lst [])) s3.heap.objs.size (cellsFrom (s3.heap.objs.size + 1) scope.names (cloFrom X.env.cells scope.names [])) fp xe
  have pe := he s3 (upd H2 D (.lst [])) s3.heap.objs.size (cellsFrom (s3.heap.objs.size + 1) scope.names (cloFrom X.env.cells scope.names [])) fp xe
  rw [hce0] at pg pe
  have pe := pe pass
  show codeAny _ _ (.compStart (.ListComp elt [⟨tg, iter, [], 0⟩] scope pos) 0 (.ref it) (.ref D) (compEnvC scope (cellsFrom (s3.heap.objs.size + 1) scope.names (cloFrom X.env.cells scope.names [])) s3.heap.objs.size X.env))
    (compEnds (model X.prog X.w) X.A X.xe use Qf (.ref D) (compEnvC scope (cellsFrom (s3.heap.objs.size + 1) scope.names (cloFrom X.env.cells scope.names [])) s3.heap.objs.size X.env)) { s3 with heap := pushCells (s3.heap.push { cls := .type "dict", data := .dict #[] }) scope.names }
  rw [hce0]
  have nfp : ∀ b ∈ fp, (upd H2 D (.lst [])) b = none := fun b hb => (f3 b hb).1.1
  generalize hH3 : upd H2 D (.lst []) = H3 at I3 I4 pg pe w0 nfp f3 pass
  generalize hs4 : ({ s3 with heap := pushCells (s3.heap.push { cls := .type "dict", data := .dict #[] }) scope.names } : Shared) = s4 at I4 ⊢
  have st4 : tn 0 s4.heap := T.keep _ _ _ st3 fun b _ o e => by rw [← hs4]; exact pushCells_keeps _ _ _ _ (Heap.get?_push_of_some _ e)
  have I4' : Inv (X.blkX s3 H3 scope ce0 fp xe) [] (wipe σ (own.map (·.2))) H3 s4 := I4.wish xe
  have stat : ∀ {σ' : St} {H' : Hp} {s' : Shared}, Inv (X.blkX s3 H3 scope ce0 fp xe) [] σ' H' s' → (∀ b ∈ fp, H' b = none) → ∀ b ∈ fp, FpOk (X.blkX s3 H3 scope ce0 fp xe) [] H' b := fun {σ' H' s'} I' hn b hb =>
    ⟨hn b hb, (I'.ok.exf b hb).1, I'.ok.exfs b hb, .inl hb, fun x c e => (I'.ok.exf b hb).2 x c e, fun p hp => absurd (show p ∈ ([] : List (Addr × Obj)) ++ [] from hp) (by simp)⟩
  have loop : codeAny (model X.prog X.w) X.A (.compLoop (.ListComp elt [⟨tg, iter, [], 0⟩] scope pos) 0 (.ref it) (.ref D) ce0) (compEnds (model X.prog X.w) X.A X.xe use Qf (.ref D) ce0) s4 := by
    have rErr : (notedBy (model X.prog X.w) X.A ce0 fun e s' => compEnds (model X.prog X.w) X.A X.xe use Qf (.ref D) ce0 (.error e) s') = xe := by
      rw [← hxe]
      cases use <;> rfl
    refine compLoop_any (fun n s' => ∃ i H', Inv (X.blkX s3 H3 scope ce0 fp xe) [] (wipe σ (own.map (·.2))) H' s' ∧ tn i s'.heap ∧ (∀ b ∈ fp, H' b = none) ∧ W i n H') ?_ m0 ⟨0, H3, I4', st4, nfp, w0⟩
    rw [rErr]
    rintro n s5 ⟨i, H5, I5, st5, n5, w5⟩
    rcases turn i n H5 w5 with ⟨stop, qq⟩ | ⟨go, Nx, hNx, step⟩
    · have td := T.done (X.blkX s3 H3 scope ce0 fp xe) rfl rfl rfl hc i [] s5 _ H5 (fun _ _ => False) I5 (stat I5 n5) st5 stop
      refine thnF td fun r s6 ⟨hr, I6⟩ => ?_
      subst hr
      have I7 : Inv X pins σ H5 s6 := I3.call' (ch := fp) I6.os I6.base I6.hok I6.bare fun b hb => ⟨(f3 b hb).1.2.2.2.1, (f3 b hb).1.2.1, (f3 b hb).1.2.2.2.2.1, (f3 b hb).1.2.2.2.2.2⟩
      have nC : H5 s3.heap.objs.size = none := by
        have z : H5 ce0.locals = none := I6.free
        rw [cL] at z
        exact z
      obtain ⟨m, hn, _⟩ := I6.loc
      have hn : s6.heap.Ns ce0.locals m := hn
      exact hRR D ce0 s6 m H5 cF I7 qq hn (by rw [cL]; exact I3.fpOk (Nat.le_refl _) nC)
    · have ti := T.item (X.blkX s3 H3 scope ce0 fp xe) rfl rfl rfl hc i [] s5 _ H5 (fun _ _ => False) I5 (stat I5 n5) st5 go
      refine thnF ti fun r s6 ⟨u, hr, h6⟩ => ?_
      subst hr
      refine thnF h6 fun _ s7 ⟨x, H7, I7, r7, y7, st7, n7⟩ => ?_
      have I7' := I7.pinned (stat I7 n7) (T.obj _ _ st7)
      refine thn (pg.run _ s7 _ H7 x u _ I7' r7 (step x H7 y7)) fun _ s8 ⟨σ8, H8, I8, hw8, q8⟩ => ?_
      refine thn ((pts_nil (X := X.blkX s3 H3 scope ce0 fp xe)).run _ s8 σ8 H8 _ I8 q8) fun b s9 ⟨H9, I9, q9⟩ => ?_
      have fin : ∀ {s' : Shared} {H' : Hp}, Inv (X.blkX s3 H3 scope ce0 fp xe) ([] ++ pinsAt fp s7.heap) σ8 H' s' → Nx H' → ∃ m, m < n ∧ ∃ i H', Inv (X.blkX s3 H3 scope ce0 fp xe) [] (wipe σ (own.map (·.2))) H' s' ∧ tn i s'.heap ∧ (∀ b ∈ fp, H' b = none) ∧ W i m H' := fun {s' H'} I' nx => by
        obtain ⟨m', hm, w'⟩ := hNx H' nx
        have pin' : ∀ b ∈ fp, ∀ o, s7.heap.get? b = some o → s'.heap.get? b = some o ∧ H' b = none := fun b hb o e =>
          let z := I'.pin (b, o) (List.mem_append_right _ (List.mem_append_right _ (mem_pinsAt hb e)))
          ⟨z.1, z.2.1⟩
        have hl : (wipe σ (own.map (·.2))).length = σ8.length := by rw [← hw8, wipe_length]
        refine ⟨m', hm, i + 1, H', (I'.unpinned (pins := [])).weak hl (fun j v e => ?_), T.keep _ _ _ st7 fun b hb o e => (pin' b hb o e).1, fun b hb => ?_, w'⟩
        · rw [← hw8] at e
          exact (wipe_some e).1
        · obtain ⟨o, e, _⟩ := T.obj _ _ st7 b hb
          exact (pin' b hb o e).2
      cases b with
      | false =>
        simp only [Bool.false_eq_true, if_false] at q9 ⊢
        exact fin I9 q9
      | true =>
        simp only [if_true] at q9 ⊢
        refine thn (pe.run _ s9 σ8 H9 _ I9 q9) fun z s10 ⟨yv, H10, I10, r10, acc, hD10, hz10, nx⟩ => ?_
        exact app_ok (X := X.blkX s3 H3 scope ce0 fp xe) I10 hD10 hz10 r10 fun s11 I11 => fin I11 nx
  exact codeAny_compStart_list loop (T.self X.A 0 _ _ _ st4 loop)
section
variable {E0 : XK} {elt tg iter : Expr} {scope : Scope} {own : List (Str × Nat)} {pos spos : Pos} {wi : TI} {g : TG} {te : TE}
theorem pe_lcX (hst : X.stack = X.env :: X.outer) (hf : X.env.frame = some X.env.locals) (tk : Takes X fun cls d _ H => E0 cls d H) (hc : X.calm = true) (hN : X.N.Nodup) (hi : PI X tg iter wi) (ok : BlkOk X.N X.env.scope scope own)
    (hg : ∀ (s : Shared) (H : Hp) (C : Addr) (cl : List (Str × Addr)) (fp : List Addr) (xe : Value → Shared → Prop), PG (X.blkX s H scope (compEnvC scope cl C X.env) fp xe) tg g) (he : BlkE X E0 scope elt te) (hs : ∀ x, foldedSetIterable iter X.env x = pure x := by intro _; rfl) :
    PE X (.ListComp elt [⟨tg, iter, [], 0⟩] scope pos) (tLc wi g tYes te (own.map (·.2))) := by
  refine ⟨fun pins s σ H Q I h => ?_⟩
  rw [eval_ListComp]
  refine lc_coreX hst hf tk hc hN I hi ok hg he hs h fun D ce s' m H' _ I' q hn f => ⟨m, hn, fun h'' sb => ?_⟩
  obtain ⟨f0, f1, f2, f3, f4, f5⟩ := f
  exact ⟨.ref D, H', I'.turned (t' := s'.toks) (fun b o hb e => (sb.2 b hb).trans e) f0 f1 f3 f4 f5, rfl, q⟩
theorem ps_setLcX {i : Nat} {y : Str} {py : Pos} (hst : X.stack = X.env :: X.outer) (hf : X.env.frame = some X.env.locals) (tk : Takes X fun cls d _ H => E0 cls d H) (hc : X.calm = true) (hN : X.N.Nodup) (hy : X.N[i]? = some y) (hyl : X.env.scope.names.lookup y = some .local)
    (hsw : swapsWith (.ListComp elt [⟨tg, iter, [], 0⟩] scope pos) (some (.Name y py)) spos.line X.env = pure true) (hi : PI X tg iter wi) (ok : BlkOk X.N X.env.scope scope own)
    (hg : ∀ (s : Shared) (H : Hp) (C : Addr) (cl : List (Str × Addr)) (fp : List Addr) (xe : Value → Shared → Prop), PG (X.blkX s H scope (compEnvC scope cl C X.env) fp xe) tg g) (he : BlkE X E0 scope elt te) (hs : ∀ x, foldedSetIterable iter X.env x = pure x := by intro _; rfl) :
    PS X (.Assign [.Name y py] (.ListComp elt [⟨tg, iter, [], 0⟩] scope pos) spos) (tAsg (tLc wi g tYes te (own.map (·.2))) (gName i)) := by
  refine ⟨fun pins s σ H D I h => ?_⟩
  rw [exec_Assign_Name_used _ _ _ _ hsw]
  refine wpAny_bind (wpAny_standAt (wpAny_bind ?_))
  show wpAny _ X.A (do let _ ← comprehension (.ListComp elt [⟨tg, iter, [], 0⟩] scope pos) scope X.env (firstIterPos [⟨tg, iter, [], 0⟩] pos) (newList []) false (eval iter X.env) (some (assign (.Name y py) X.env))) _ _ s
  have h : tLc wi g tYes te (own.map (·.2)) σ H (fun x H1 => gName i x σ H1 D.nx) := h
  refine wpAny_bind (thn (lc_coreX (Qf := fun _ s' => SP X pins D .next s') hst hf tk hc hN I hi ok hg he hs h fun L ce s' m H' _ I' q hn f => ?_) fun _ s' hq => wpAny_pure (wpAny_pure hq))
  show wpAny _ _ (assign (.Name y py) X.env (.ref L)) _ _ _
  refine wpAny_assign_Name (store_ok2 (v := V.ref L) I' hN hy (.inl hyl) rfl (fun s2 I2 ⟨a, sb, ha⟩ => ?_) (.inr hyl))
  obtain ⟨f0, f1, f2, f3, f4, f5⟩ := f
  have haC : ce.locals ≠ a := by
    rcases ha with z | z
    · rw [z]; exact f1
    · exact fun e => f4 y a z e.symm
  refine ⟨m, hn.sameBut sb haC, fun h3 sb3 => ?_⟩
  exact ⟨_, H', I2.turned (t' := s2.toks) (fun b o hb e => (sb3.2 b hb).trans e) f0 f1 f3 f4 f5, q⟩
end
end
end L2

set_option Elab.async false
set_option linter.all false
set_option maxRecDepth 100000
set_option maxHeartbeats 1000000
/-! # The data logic, 5: methods on an object that changes, exceptions -/
namespace CR
open PySem L2 Evl PyProof.Rows
abbrev mp (p : Addr) : Addr → Prop := fun a => a = p
/-- an outcome o of the class at S is what E wants -/
def Rz (B : Bd) (S : Addr) (E : XK) (o : PyData) : Prop := ∀ (v : V) (d : Addr) (G H : Hp), Grow B.T B.m B.G0 B.H0 G H → H d = some (.xd [(("outcome" : Str), v)]) → Dp K0 G v o → E (.ref S) (some d) H
/-! ## The object changes -/
theorem obj_ne {C : Addr} {G H : Hp} {p : Addr} {row : PyData} {u : Int} (h : ObjAt C G H p row u) : H p ≠ none := by
  obtain ⟨dx, fs, rv, e, _⟩ := h
  rw [e]; simp
theorem ObjAt.grow {C : Addr} {T : List TabN} {m : Addr → Prop} {G H G2 H2 : Hp} {p : Addr} {row : PyData} {u : Int} (h : ObjAt C G H p row u) (g : Grow T m G H G2 H2) (n : ¬ m p) : ObjAt C G2 H2 p row u := by
  obtain ⟨dx, fs, rv, h3, h4, h5, h6, h7, h8⟩ := h
  exact ⟨dx, fs, rv, g.h p _ h3 (fun _ z => nomatch z) n, h4, h5, h6, h7, h8.mono g.g⟩
section
variable {B : Bd} {δ : List SD} {σ : L2.St} {G H G2 H2 : Hp} {p : Addr} {row : PyData} {u u' : Int} {n : Nat}
theorem Sta.objAt (s : Sta B δ σ G H) (hn : δ[n]? = some (.obj p row u)) : σ[n]? = some (some (.ref p)) ∧ G p = none ∧ (B.H0 p = none ∨ B.m p) ∧ ObjAt B.C G H p row u := s.ok n _ hn
theorem Sta.owned (s : Sta B δ σ G H) {j : Nat} {sj : SD} {a : Addr} (hj : δ[j]? = some sj) (o : sj.owns = true) (e : σ[j]? = some (some (.ref a))) : H a ≠ none ∧ G a = none := by
  have z := s.ok j sj hj
  cases sj with
  | un => cases o
  | ref a => cases o
  | d x => cases o
  | own xs =>
    obtain ⟨b, vs, e', h1, _, h3, _⟩ := z
    rw [e] at e'; cases e'
    exact ⟨by rw [h3]; simp, h1⟩
  | obj q r k =>
    obtain ⟨e', h1, _, ob⟩ := z
    rw [e] at e'; cases e'
    exact ⟨obj_ne ob, h1⟩
  | ext φ =>
    obtain ⟨b, e', h1, _, ⟨o', h3, _⟩, _⟩ := z
    rw [e] at e'; cases e'
    exact ⟨by rw [h3]; simp, h1⟩
/-- the whole grows, where only p may change -/
theorem Sta.growP (s : Sta B δ σ G H) (hn : δ[n]? = some (.obj p row u)) (g : Grow B.T (mp p) G H G2 H2) : Grow B.T B.m B.G0 B.H0 G2 H2 := by
  obtain ⟨e, g0, h0, ob⟩ := s.objAt hn
  refine ⟨s.gr.g.trans g.g, g.gh, fun a o e1 nt nm => g.h a o (s.gr.h a o e1 nt nm) nt fun z => ?_, g.t, fun a h1 h2 => g.fr a (s.gr.d a h1) (s.gr.fr a h1 h2), fun a h => g.d a (s.gr.d a h)⟩
  have z : a = p := z
  subst z
  rcases h0 with h | h
  · rw [h] at e1; cases e1
  · exact nm h
theorem Sta.stepO (s : Sta B δ σ G H) (hn : δ[n]? = some (.obj p row u)) (g : Grow B.T (mp p) G H G2 H2) (ho : ObjAt B.C G2 H2 p row u') : Sta B (δ.set n (.obj p row u')) σ G2 H2 := by
  obtain ⟨e, g0, h0, ob⟩ := s.objAt hn
  have hlen : n < δ.length := (List.getElem?_eq_some_iff.mp hn).1
  have ne : ∀ (j : Nat) (sj : SD) (b : Addr), j ≠ n → δ[j]? = some sj → sj.owns = true → σ[j]? = some (some (.ref b)) → ¬ mp p b := fun j sj b hj e1 o1 f1 z => by
    have z : b = p := z
    subst z
    exact hj (s.sep j n sj _ b e1 hn o1 rfl f1 e)
  refine ⟨s.growP hn g, by rw [List.length_set, s.len], fun j sd ej => ?_, fun j k sj sk b e1 e2 o1 o2 f1 f2 => ?_⟩
  · by_cases hj : n = j
    · subst hj
      rw [List.getElem?_set_self hlen] at ej
      cases ej
      exact ⟨e, g.fr p (obj_ne ob) g0, h0, ho⟩
    · rw [List.getElem?_set_ne hj] at ej
      have z := s.ok j sd ej
      cases sd with
      | un => trivial
      | ref a => exact z
      | d x =>
        obtain ⟨w, e', h⟩ := z
        exact ⟨w, e', h.mono g.g⟩
      | own xs =>
        obtain ⟨b, vs, e', k1, k2, k3, k4⟩ := z
        have nb := ne j _ b (Ne.symm hj) ej rfl e'
        exact ⟨b, vs, e', g.fr b (by rw [k3]; simp) k1, k2, g.h b _ k3 (fun _ z => nomatch z) nb, k4.mono g.g⟩
      | obj q r k =>
        obtain ⟨e', k1, k2, k3⟩ := z
        have nb := ne j _ q (Ne.symm hj) ej rfl e'
        exact ⟨e', g.fr q (obj_ne k3) k1, k2, k3.grow g nb⟩
      | ext φ =>
        obtain ⟨b, e', k1, k2, ⟨o, k3, k4⟩, k5, k6⟩ := z
        have nb := ne j _ b (Ne.symm hj) ej rfl e'
        have q := g.h b _ k3 k4 nb
        exact ⟨b, e', g.fr b (by rw [k3]; simp) k1, k2, ⟨o, q, k4⟩, k5, k5 _ _ _ _ _ k6 g.g g.gh (by rw [k3]; exact q)⟩
  · have key : ∀ {j : Nat} {sj : SD}, (δ.set n (.obj p row u'))[j]? = some sj → sj.owns = true → ∃ sj', δ[j]? = some sj' ∧ sj'.owns = true := fun {j sj} e1 o1 => by
      by_cases hj : n = j
      · subst hj
        exact ⟨_, hn, rfl⟩
      · rw [List.getElem?_set_ne hj] at e1
        exact ⟨_, e1, o1⟩
    obtain ⟨_, a1, a2⟩ := key e1 o1
    obtain ⟨_, b1, b2⟩ := key e2 o2
    exact s.sep j k _ _ b a1 b1 a2 b2 f1 f2
/-- a list that no slot owns stands still from here on -/
theorem Sta.freezeAt {D : Addr} {o : HO} (s : Sta B δ σ G H) (hH : H D = some o) (nt : NT o) (hG : G D = none) (h0 : B.H0 D = none) (hno : ∀ (j : Nat) (sj : SD), δ[j]? = some sj → sj.owns = true → σ[j]? ≠ some (some (.ref D))) : Sta B δ σ (upd G D o) H := by
  have eG : Ex G (upd G D o) := Ex.new hG
  refine ⟨s.gr.freezeO h0 hG hH nt, s.len, fun j sd ej => ?_, s.sep⟩
  have z := s.ok j sd ej
  have up : ∀ {b : Addr}, b ≠ D → G b = none → (upd G D o) b = none := fun {b} n h => by rw [upd_ne n]; exact h
  cases sd with
  | un => trivial
  | ref a => exact z
  | d x =>
    obtain ⟨w, e', h⟩ := z
    exact ⟨w, e', h.mono eG⟩
  | own xs =>
    obtain ⟨b, vs, e', k1, k2, k3, k4⟩ := z
    have nb : b ≠ D := fun z => hno j _ ej rfl (by rw [e', z])
    exact ⟨b, vs, e', up nb k1, k2, k3, k4.mono eG⟩
  | obj q r k =>
    obtain ⟨e', k1, k2, dx, fs, rv, k3, k4, k5, k6, k7, k8⟩ := z
    have nb : q ≠ D := fun z => hno j _ ej rfl (by rw [e', z])
    exact ⟨e', up nb k1, k2, dx, fs, rv, k3, k4, k5, k6, k7, k8.mono eG⟩
  | ext φ =>
    obtain ⟨b, e', k1, k2, k3, k5, k6⟩ := z
    have nb : b ≠ D := fun z => hno j _ ej rfl (by rw [e', z])
    exact ⟨b, e', up nb k1, k2, k3, k5, k5 _ _ _ _ _ k6 eG (s.gr.freezeO h0 hG hH nt).gh rfl⟩
/-- .. comes into a slot -/
theorem Sta.setOwn {D : Addr} {vs : List V} {xs : List PyData} (i : Nat) (s : Sta B δ σ G H) (hH : H D = some (.lst vs)) (hG : G D = none) (h0 : B.H0 D = none) (hv : DpAll K0 G vs xs) (hno : ∀ (j : Nat) (sj : SD), δ[j]? = some sj → sj.owns = true → σ[j]? ≠ some (some (.ref D))) :
    Sta B (δ.set i (.own xs)) (σ.set i (some (.ref D))) G H := by
  refine ⟨s.gr, by rw [List.length_set, List.length_set, s.len], fun j sd e => ?_, fun j k sj sk b e1 e2 o1 o2 f1 f2 => ?_⟩
  · by_cases hj : i = j
    · subst hj
      have hi : i < δ.length := by
        have := (List.getElem?_eq_some_iff.mp e).1
        simpa using this
      rw [List.getElem?_set_self hi] at e
      cases e
      exact ⟨D, vs, by rw [List.getElem?_set_self (by rw [s.len]; exact hi)], hG, h0, hH, hv⟩
    · rw [List.getElem?_set_ne hj] at e ⊢
      exact s.ok j sd e
  · by_cases n1 : i = j
    · by_cases n2 : i = k
      · exact n1.symm.trans n2
      · subst n1
        have hi : i < δ.length := by
          have := (List.getElem?_eq_some_iff.mp e1).1
          simpa using this
        rw [List.getElem?_set_self (by rw [s.len]; exact hi)] at f1
        cases f1
        rw [List.getElem?_set_ne n2] at e2 f2
        exact (hno k sk e2 o2 f2).elim
    · rw [List.getElem?_set_ne n1] at e1 f1
      by_cases n2 : i = k
      · subst n2
        have hi : i < δ.length := by
          have := (List.getElem?_eq_some_iff.mp e2).1
          simpa using this
        rw [List.getElem?_set_self (by rw [s.len]; exact hi)] at f2
        cases f2
        exact (hno j sj e1 o1 f1).elim
      · rw [List.getElem?_set_ne n2] at e2 f2
        exact s.sep j k sj sk b e1 e2 o1 o2 f1 f2
end
/-! ## Expressions that may change the object or let an outcome out -/
def EvC (X : Cx) (B : Bd) (p : Addr) (δ : List SD) (e : Expr) (Φ : PyData → List SD → Prop) : Prop :=
  ∀ (σ : L2.St) (G H : Hp), Sta B δ σ G H → ∀ Q : VK, (∀ d δ' v G2 H2, Φ d δ' → Grow B.T (mp p) G H G2 H2 → Sta B δ' σ G2 H2 → Dp K0 G2 v d → Q v H2) → semE X e σ H Q
def EvCA (X : Cx) (B : Bd) (p : Addr) (δ : List SD) (es : List Expr) (Φ : List PyData → List SD → Prop) : Prop :=
  ∀ (σ : L2.St) (G H : Hp), Sta B δ σ G H → ∀ Q : List V → Hp → Prop, (∀ ds δ' vs G2 H2, Φ ds δ' → Grow B.T (mp p) G H G2 H2 → Sta B δ' σ G2 H2 → DpAll K0 G2 vs ds → Q vs H2) → semA X es σ H Q
def EvCB (X : Cx) (B : Bd) (p : Addr) (δ : List SD) (e : Expr) (Φ : Bool → List SD → Prop) : Prop :=
  ∀ (σ : L2.St) (G H : Hp), Sta B δ σ G H → ∀ Q : Bool → Hp → Prop, (∀ b δ' G2 H2, Φ b δ' → Grow B.T (mp p) G H G2 H2 → Sta B δ' σ G2 H2 → Q b H2) → semT X e σ H Q
section
variable {X : Cx} {B : Bd} {p : Addr} {δ : List SD} {a b c e : Expr} {es : List Expr} {d x y : PyData} {ds xs ys : List PyData} {i j : Int} {pos : Pos} {q : Bool} {Φ : PyData → List SD → Prop}
theorem evC_of (h : Ev X B δ e d) (k : Φ d δ) : EvC X B p δ e Φ := fun σ G H s Q q => h σ G H s _ fun v G2 H2 g2 d2 => q d δ v G2 H2 k g2.weak (s.grow g2) d2
theorem evCA_of {Φ : List PyData → List SD → Prop} (h : EvA X B δ es ds) (k : Φ ds δ) : EvCA X B p δ es Φ := fun σ G H s Q q => h σ G H s _ fun v G2 H2 g2 d2 => q ds δ v G2 H2 k g2.weak (s.grow g2) d2
theorem evCB_of {Φ : Bool → List SD → Prop} (h : EvB X B δ e q) (k : Φ q δ) : EvCB X B p δ e Φ := fun σ G H s Q z => h σ G H s _ fun G2 H2 g2 => z q δ G2 H2 k g2.weak (s.grow g2)
theorem EvC.imp {Ψ : PyData → List SD → Prop} (h : EvC X B p δ e Ψ) (k : ∀ d δ', Ψ d δ' → Φ d δ') : EvC X B p δ e Φ := fun σ G H s Q q => h σ G H s Q fun d δ' v G2 H2 z => q d δ' v G2 H2 (k _ _ z)
theorem evCA_cons {Φ : List PyData → List SD → Prop} (ha : EvC X B p δ a fun x δ1 => EvCA X B p δ1 es fun xs δ2 => Φ (x :: xs) δ2) (hs : starEach (a :: es) X.env = (false, eval a X.env) :: starEach es X.env := by rfl) : EvCA X B p δ (a :: es) Φ := fun σ G H s Q q =>
  semA_of (pa_cons pe_sem pa_sem hs) (ha σ G H s _ fun x δ1 u G1 H1 k g1 s1 d1 => k σ G1 H1 s1 _ fun xs δ2 us G2 H2 k2 g2 s2 d2 => q _ δ2 _ G2 H2 k2 (g1.trans g2) s2 (.cons (d1.mono g2.g) d2))
theorem evC_add (ha : Ev X B δ a (.int i)) (hb : EvC X B p δ b fun y δ1 => ∃ j, y = .int j ∧ Φ (.int (i + j)) δ1) : EvC X B p δ (.BinOp a .Add b pos) Φ := fun σ G H s Q q =>
  semE_of (pe_op op_add pe_sem pe_sem) (ha σ G H s _ fun u G1 H1 g1 d1 => hb σ G1 H1 (s.grow g1) _ fun y δ1 v G2 H2 ⟨j, e, k⟩ g2 s2 d2 => by
    subst e
    exact ⟨i, j, dpi_int d1, dpi_int d2, q _ δ1 _ G2 H2 k (g1.weak.trans g2) s2 (.int _)⟩)
theorem evC_ixT (ha : Ev X B δ a (.tuple xs)) (hb : EvC X B p δ b fun y δ1 => ∃ i d, y = .int i ∧ atI xs i = some d ∧ Φ d δ1) (hs : PlainIx b := by exact fun _ _ => rfl) : EvC X B p δ (.Subscript a b pos) Φ := fun σ G H s Q q =>
  semE_of (pe_ix ix_tup pe_sem pe_sem hs) (ha σ G H s _ fun u G1 H1 g1 d1 => hb σ G1 H1 (s.grow g1) _ fun y δ1 v G2 H2 ⟨i, d, e, hi, k⟩ g2 s2 d2 => by
    subst e
    obtain ⟨t, vs, rfl, h1, h2⟩ := dpi_tup (d1.mono g2.g)
    obtain ⟨w, e, dw⟩ := at_data h2 hi
    exact ⟨t, vs, i, w, rfl, dpi_int d2, t_of (ex_t g2.gh h1), e, q d δ1 w G2 H2 k (g1.weak.trans g2) s2 dw⟩)
theorem evC_call {k : Nat} {z : Str} {R : List PyData → PyData → Prop} {pz : Pos} (F : Cal X.prog X.w X.K X.mg X.base CX0 k z (spD B.T R)) (hr : Room k X.A) (ha : EvCA X B p δ (a :: es) fun xs δ1 => ∃ d, R xs d ∧ Φ d δ1) (hg : Gl X z := by rfl)
    (hdb : (z == ("__debug__" : Str)) = false := by decide) (he : starEach (a :: es) X.env = (false, eval a X.env) :: starEach es X.env := by rfl) (hpl : (backTo pos (starEach es X.env)).any (·.1) = false := by rfl) :
    EvC X B p δ (.Call (.Name z pz) (a :: es) [] pos) Φ := by
  obtain ⟨f, fd, ps, F, hm, hk, hb⟩ := F
  exact fun σ G H s Q q => semE_of (pe_call F hr hg hm hk hb .nil (pass0 (X := X)) pa_sem hdb he hpl) (ha σ G H s _ fun xs δ1 us G1 H1 ⟨d, hR, k⟩ g1 s1 d1 => by
    rw [List.append_nil]
    exact ⟨G1, xs, d, g1.gh, g1.t, d1, hR, fun v G2 H2 g2 d2 => q d δ1 v G2 H2 k (g1.trans g2.weak) (s1.grow g2) d2⟩)
theorem evC_tupleL {pz : Pos} (hm : X.mg ("tuple" : Str) = none) (ha : EvC X B p δ a fun x δ1 => ∃ xs, x = .list xs ∧ Φ (.tuple xs) δ1) (hg : Gl X ("tuple" : Str) := by rfl) (hv : bootBuiltins "tuple" = some (.type "tuple") := by decide +kernel)
    (he : starEach (a :: []) X.env = (false, eval a X.env) :: starEach [] X.env := by rfl) (hpl : (backTo pos (starEach [] X.env)).any (·.1) = false := by rfl) : EvC X B p δ (.Call (.Name "tuple" pz) [a] [] pos) Φ := fun σ G H s Q q =>
  semE_of (pe_callTy call_tuple_of hg hm hv (pa_cons pe_sem pa_nil he) (by decide) (by decide) he hpl) (ha σ G H s _ fun x δ1 u G1 H1 ⟨xs, e, k⟩ g1 s1 d1 => by
    subst e
    obtain ⟨t, vs, rfl, h1, h2⟩ := dpi_lst d1
    refine ⟨t, vs, rfl, .inl ⟨l_of (ex_l g1.gh h1), fun l hl => ?_⟩⟩
    have g : Grow B.T m0 G1 H1 (upd G1 l (.tup vs)) (upd H1 l (.tup vs)) := Grow.laid g1.gh g1.t hl
    exact q _ δ1 _ _ _ k (g1.trans g.weak) (s1.grow g) (.tup (SqT.of upd_same) (h2.mono g.g)))
theorem evCB_cmpI {op : CmpOp} {Φ : Bool → List SD → Prop} (ha : EvC X B p δ a fun x δ1 => ∃ i j, x = .int i ∧ Ev X B δ1 b (.int j) ∧ Φ (cmpI op i j) δ1) (h : isCmpI op = true := by rfl) : EvCB X B p δ (.Compare a [op] [b] pos) Φ := fun σ G H s Q q =>
  semT_of (pt_cmpR (op_cmpI op h) pe_sem pe_sem (nb_I h)) (ha σ G H s _ fun x δ1 u G1 H1 ⟨i, j, e, hb, k⟩ g1 s1 d1 => by
    subst e
    exact hb σ G1 H1 s1 _ fun v G2 H2 g2 d2 => ⟨i, j, dpi_int d1, dpi_int d2, _, rfl, q _ δ1 G2 H2 k (g1.trans g2.weak) (s1.grow g2)⟩)
theorem evCB_and2 {Φ : Bool → List SD → Prop} (ha : EvB X B δ a q) (h1 : q = false → Φ false δ) (h2 : q = true → EvCB X B p δ b Φ) : EvCB X B p δ (.BoolOp .And [a, b] pos) Φ := fun σ G H s Q z pins st I =>
  (pw_and pt_sem (pw_and1 pt_sem)).run _ pins st σ H _ I (ha σ G H s _ fun G1 H1 g1 => by
    cases q with
    | true => exact h2 rfl σ G1 H1 (s.grow g1) _ fun b δ' G2 H2 k g2 s2 => z b δ' G2 H2 k (g1.weak.trans g2) s2
    | false => exact z false δ G1 H1 (h1 rfl) g1.weak (s.grow g1))
end
end CR

set_option Elab.async false
set_option linter.all false
set_option maxRecDepth 100000
set_option maxHeartbeats 1000000
/-! # The data logic, 6: attributes, method calls, statements, comprehensions of methods -/
namespace CR
open PySem L2 Evl PyProof.Rows
theorem lookup_len_putF (f : Str) (v : V) : ∀ {fs : List (Str × V)} {w : V}, fs.lookup f = some w → (putF f v fs).length = fs.length
  | [], w, h => by cases h
  | (g, x) :: r, w, h => by
    unfold putF
    by_cases e : g = f
    · rw [if_pos e]; rfl
    · rw [if_neg e, List.length_cons, List.length_cons]
      have ne : (f == g) = false := by
        rw [beq_eq_false_iff_ne]
        exact fun z => e z.symm
      rw [List.lookup_cons, ne] at h
      rw [lookup_len_putF f v h]
/-- the promise of a method: what it takes, with the object's row and count, to what it gives, with the new count, or to the outcome that it lets out -/
abbrev Out := Except PyData (PyData × Int)
def spM (T : List TabN) (C S : Addr) (R : PyData → Int → List PyData → Out → Prop) : Sp := fun vs H Q E => ∃ (G : Hp) (p : Addr) (us : List V) (row : PyData) (u : Int) (ds : List PyData) (res : Out),
  vs = .ref p :: us ∧ Ex G H ∧ TabsOk T G H ∧ G p = none ∧ ObjAt C G H p row u ∧ DpAll K0 G us ds ∧ R row u ds res ∧
    (∀ d u', res = .ok (d, u') → ∀ v G2 H2, Grow T (mp p) G H G2 H2 → ObjAt C G2 H2 p row u' → Dp K0 G2 v d → Q v H2) ∧
    (∀ o, res = .error o → ∀ (v : V) (d : Addr) (G2 H2 : Hp), Grow T (mp p) G H G2 H2 → H2 d = some (.xd [(("outcome" : Str), v)]) → Dp K0 G2 v o → E (.ref S) (some d) H2)
/-- a method by its name -/
structure MCal (P : Program) (w : World) (K : PySem.W.Frag) (mg : Str → Option Value) (base : Heap) (C : Addr) (k : Nat) (m : Str) (sp : Sp) : Prop where
  ex : ∃ (f : Addr) (fd : FuncData) (ps : List Str), FnOk P w K mg base (L2.CX P w) k f fd ps sp ∧ Meth K C m f ∧ Binds K fd ps []
theorem MCal.mono {P : Program} {w : World} {K : PySem.W.Frag} {mg : Str → Option Value} {base : Heap} {C : Addr} {j k : Nat} {m : Str} {sp : Sp} (h : MCal P w K mg base C j m sp) (l : j ≤ k) : MCal P w K mg base C k m sp :=
  let ⟨f, fd, ps, F, r⟩ := h.ex; ⟨f, fd, ps, F.mono l, r⟩
section
variable {X : Cx} {B : Bd} {p : Addr} {δ : List SD} {a b c e tg iter elt : Expr} {es : List Expr} {rest body s1 : List Stmt} {d x y row : PyData} {ds xs ys : List PyData} {i j u : Int} {pos pz ap : Pos} {q : Bool} {Φ : PyData → List SD → Prop} {P : DP} {E : XK} {S fI : Addr}
/-! ### the object's fields -/
theorem ev_fld (n : Nat) {z f : Str} (hn : δ[n]? = some (.obj p row u)) (cl : Cls X.K B.C) (na : NoAttr X.K B.C f) (hN : X.N[n]? = some z) (hv : Vis X.env.scope z) (hd : (z == ("__debug__" : Str)) = false) (hcd : (z == ("__classdict__" : Str)) = false)
    (hb : attributeBase (.Name z pz) f X.env (eval (.Name z pz) X.env) = eval (.Name z pz) X.env)
    (hf : ∀ (dx : Addr) (fs : List (Str × V)) (G H : Hp), H p = some (.ins B.C dx fs) → ObjAt B.C G H p row u → ∃ v, fs.lookup f = some v ∧ Dp K0 G v d) : Ev X B δ (.Attribute (.Name z pz) f ap) d :=
  ev_of (pe_fld (pe_var hN hv hd hcd) hb) fun σ G H s Q q => by
    obtain ⟨e, g0, h0, ob⟩ := s.objAt hn
    obtain ⟨dx, fs, rv, h3, _⟩ := id ob
    obtain ⟨v, hl, dv⟩ := hf dx fs G H h3 ob
    exact ⟨_, e, p, B.C, dx, fs, v, rfl, h3, cl, na, hl, q v G H s.refl dv⟩
theorem ev_row (n : Nat) {z : Str} (hn : δ[n]? = some (.obj p row u)) (cl : Cls X.K B.C) (na : NoAttr X.K B.C "row") (hN : X.N[n]? = some z := by rfl) (hv : Vis X.env.scope z := by first | exact Or.inl rfl | exact Or.inr (Or.inl rfl) | exact Or.inr (Or.inr rfl))
    (hd : (z == ("__debug__" : Str)) = false := by decide) (hcd : (z == ("__classdict__" : Str)) = false := by decide) (hb : attributeBase (.Name z pz) "row" X.env (eval (.Name z pz) X.env) = eval (.Name z pz) X.env := by rfl) : Ev X B δ (.Attribute (.Name z pz) "row" ap) row :=
  ev_fld n hn cl na hN hv hd hcd hb fun dx fs G H h1 ⟨dx', fs', rv, h3, h4, h5, h6, h7, h8⟩ => by
    rw [h1] at h3
    cases h3
    exact ⟨rv, h4, h8⟩
theorem ev_used (n : Nat) {z : Str} (hn : δ[n]? = some (.obj p row u)) (cl : Cls X.K B.C) (na : NoAttr X.K B.C "used") (hN : X.N[n]? = some z := by rfl) (hv : Vis X.env.scope z := by first | exact Or.inl rfl | exact Or.inr (Or.inl rfl) | exact Or.inr (Or.inr rfl))
    (hd : (z == ("__debug__" : Str)) = false := by decide) (hcd : (z == ("__classdict__" : Str)) = false := by decide) (hb : attributeBase (.Name z pz) "used" X.env (eval (.Name z pz) X.env) = eval (.Name z pz) X.env := by rfl) : Ev X B δ (.Attribute (.Name z pz) "used" ap) (.int u) :=
  ev_fld n hn cl na hN hv hd hcd hb fun dx fs G H h1 ⟨dx', fs', rv, h3, h4, h5, h6, h7, h8⟩ => by
    rw [h1] at h3
    cases h3
    exact ⟨_, h5, .int u⟩
/-- self.used = e -/
theorem tr_setUsed (n : Nat) {z : Str} (hn : δ[n]? = some (.obj p row u)) (cl : Cls X.K B.C) (na : NoAttr X.K B.C "used") (he : Ev X B δ e (.int i)) (h : Tr X B (δ.set n (.obj p row i)) rest P) (hN : X.N[n]? = some z := by rfl) (hv : Vis X.env.scope z := by first | exact Or.inl rfl | exact Or.inr (Or.inl rfl) | exact Or.inr (Or.inr rfl))
    (hd : (z == ("__debug__" : Str)) = false := by decide) (hcd : (z == ("__classdict__" : Str)) = false := by decide) (hs : swapsWith e (some (.Attribute (.Name z pz) "used" ap)) pos.line X.env = pure false := by rfl) : Tr X B δ (.Assign [.Attribute (.Name z pz) "used" ap] e pos :: rest) P :=
  tr_cons fun σ G H Gs s eg => semS_of (ps_fld (pe_var hN hv hd hcd) pe_sem hs) (he σ G H s _ fun v G1 H1 g1 d1 => by
    have s1 := s.grow g1
    obtain ⟨e1, g0, h0, dx, fs, rv, h3, h4, h5, h6, h7, h8⟩ := s1.objAt hn
    refine ⟨_, e1, p, B.C, dx, fs, rfl, h3, cl, na, by omega, G1, _, h, ?_, eg.trans g1.g⟩
    rw [dpi_int d1]
    have gm : Grow B.T (mp p) G1 H1 G1 (upd H1 p (.ins B.C dx (putF "used" (.int i) fs))) := by
      refine ⟨Ex.refl _, fun a o h => by rw [upd_ne (ne_of_none h g0)]; exact s1.e a o h, fun a o h nt nm => by rw [upd_ne nm]; exact h, fun Pt hP => ?_, fun _ _ h => h, fun a h => ?_⟩
      · exact ⟨(s1.t Pt hP).1.step (fun ps q1 => by rw [upd_ne (ne_of q1 h3 (fun z => nomatch z))]; exact q1) fun c q q1 => by rw [upd_ne (ne_of q1 h3 (fun z => nomatch z))]; exact q1, (s1.t Pt hP).2⟩
      · by_cases ha : a = p
        · subst ha; rw [upd_same]; simp
        · rw [upd_ne ha]; exact h
    refine s1.stepO hn gm ⟨dx, _, rv, upd_same, ?_, ?_, ?_, fun f f1 f2 => ?_, h8⟩
    · rw [lookup_putF, if_neg (by decide)]; exact h4
    · rw [lookup_putF, if_pos rfl]
    · rw [lookup_len_putF _ _ h5]; exact h6
    · rw [lookup_putF, if_neg f2]; exact h7 f f1 f2)
/-! ### methods -/
theorem evC_meth (n k : Nat) {z m : Str} {R : PyData → Int → List PyData → Out → Prop} {pl : Sem Bool} (M : MCal X.prog X.w X.K X.mg X.base B.C k m (spM B.T B.C S R)) (hr : Room k X.A) (cl : Cls X.K B.C) (hx : Passes (L2.CX X.prog X.w) X E)
    (ha : EvCA X B p δ (a :: es) fun xs δ1 => ∃ row u res, δ1[n]? = some (.obj p row u) ∧ R row u xs res ∧ (∀ d u', res = .ok (d, u') → Φ d (δ1.set n (.obj p row u'))) ∧ (∀ o, res = .error o → Rz B S E o))
    (hn : ∃ row u, δ[n]? = some (.obj p row u)) (hN : X.N[n]? = some z := by rfl) (hv : Vis X.env.scope z := by first | exact Or.inl rfl | exact Or.inr (Or.inl rfl) | exact Or.inr (Or.inr rfl))
    (hd : (z == ("__debug__" : Str)) = false := by decide) (hcd : (z == ("__classdict__" : Str)) = false := by decide) (hm1 : m ≠ ("row" : Str) := by decide) (hm2 : m ≠ ("used" : Str) := by decide)
    (hst : starEach (a :: es) X.env = (false, eval a X.env) :: starEach es X.env := by rfl) (hpl : (backTo pos (starEach es X.env)).any (·.1) = false := by rfl)
    (ht : eval (.Call (.Attribute (.Name z pz) m ap) (a :: es) [] pos) X.env = (do
      let ov ← eval (.Name z pz) X.env
      standAt ap.atName
      let (f, first) ← holding [ov] (getMethod ov m pl)
      callWith pos f first (backTo pos (starEach (a :: es) X.env)) (backToKw pos (keywordEach [] X.env))) := by rfl) : EvC X B p δ (.Call (.Attribute (.Name z pz) m ap) (a :: es) [] pos) Φ := by
  obtain ⟨f, fd, ps, F, hm, hb⟩ := M.ex
  intro σ G H s Q q
  refine semE_of (pe_meth (E := E) (pe_var hN hv hd hcd) cl hm F hr hb .nil hx pa_sem hst hpl ht) ?_
  obtain ⟨row0, u0, hn⟩ := hn
  obtain ⟨e1, g0, h0, dx, fs, rv, h3, h4, h5, h6, h7, h8⟩ := s.objAt hn
  refine ⟨_, e1, p, dx, fs, rfl, h3, h7 m hm1 hm2, ha σ G H s _ fun xs δ1 us G1 H1 ⟨row, u, res, hn1, hR, k1, k2⟩ g1 s1 d1 => ?_⟩
  rw [List.append_nil]
  obtain ⟨e2, g2, h2, ob⟩ := s1.objAt hn1
  refine ⟨G1, p, us, row, u, xs, res, rfl, g1.gh, g1.t, g2, ob, d1, hR, fun d u' e v G2 H2 gg ob2 dv => ?_, fun o e v d G2 H2 gg hx dv => ?_⟩
  · exact q d _ v G2 H2 (k1 d u' e) (g1.trans gg) (s1.stepO hn1 gg ob2) dv
  · exact k2 o e v d G2 H2 (s1.growP hn1 gg) hx dv
theorem evC_meth0 (n k : Nat) {z m : Str} {R : PyData → Int → List PyData → Out → Prop} {res : Out} {pl : Sem Bool} (M : MCal X.prog X.w X.K X.mg X.base B.C k m (spM B.T B.C S R)) (hr : Room k X.A) (cl : Cls X.K B.C) (hx : Passes (L2.CX X.prog X.w) X E)
    (hn : δ[n]? = some (.obj p row u)) (hR : R row u [] res) (k1 : ∀ d u', res = .ok (d, u') → Φ d (δ.set n (.obj p row u'))) (k2 : ∀ o, res = .error o → Rz B S E o) (hN : X.N[n]? = some z := by rfl) (hv : Vis X.env.scope z := by first | exact Or.inl rfl | exact Or.inr (Or.inl rfl) | exact Or.inr (Or.inr rfl))
    (hd : (z == ("__debug__" : Str)) = false := by decide) (hcd : (z == ("__classdict__" : Str)) = false := by decide) (hm1 : m ≠ ("row" : Str) := by decide) (hm2 : m ≠ ("used" : Str) := by decide)
    (ht : eval (.Call (.Attribute (.Name z pz) m ap) [] [] pos) X.env = (do
      let ov ← eval (.Name z pz) X.env
      standAt ap.atName
      let (f, first) ← holding [ov] (getMethod ov m pl)
      callWith pos f first (backTo pos (starEach [] X.env)) (backToKw pos (keywordEach [] X.env))) := by rfl) : EvC X B p δ (.Call (.Attribute (.Name z pz) m ap) [] [] pos) Φ := by
  obtain ⟨f, fd, ps, F, hm, hb⟩ := M.ex
  intro σ G H s Q q
  refine semE_of (pe_meth0 (E := E) (pe_var hN hv hd hcd) cl hm F hr hb .nil hx ht) ?_
  obtain ⟨e1, g0, h0, ob⟩ := s.objAt hn
  obtain ⟨dx, fs, rv, h3, h4, h5, h6, h7, h8⟩ := id ob
  refine ⟨_, e1, p, dx, fs, rfl, h3, h7 m hm1 hm2, ?_⟩
  exact ⟨G, p, [], row, u, [], res, rfl, s.e, s.t, g0, ob, .nil, hR, fun d u' e v G2 H2 gg ob2 dv => q d _ v G2 H2 (k1 d u' e) gg (s.stepO hn gg ob2) dv, fun o e v d G2 H2 gg hx dv => k2 o e v d G2 H2 (s.growP hn gg) hx dv⟩
/-! ### statements -/
theorem tr_asgC (n : Nat) {z : Str} (he : EvC X B p δ e fun d δ1 => Tr X B (δ1.set n (.d d)) rest P) (hnd : X.N.Nodup) (hN : X.N[n]? = some z := by rfl) (hx : Loc X.env.scope z := by first | exact Or.inl rfl | exact Or.inr rfl)
    (hf : X.fn z = true ∨ X.env.scope.names.lookup z = some .local := by first | exact .inl rfl | exact .inr rfl) (hs : swapsWith e (some (.Name z pz)) pos.line X.env = pure false := by rfl) : Tr X B δ (.Assign [.Name z pz] e pos :: rest) P :=
  tr_cons fun σ G H Gs s eg => semS_of (ps_set hnd hN hx pe_sem hs hf) (he σ G H s _ fun d δ1 v G1 H1 k g1 s1 d1 => ⟨G1, _, k, s1.setD d1, eg.trans g1.g⟩)
theorem tr_dropC (he : EvC X B p δ e fun d δ1 => Tr X B δ1 rest P) (hs : swapsWith e none pos.line X.env = pure false := by rfl) : Tr X B δ (.Expr e pos :: rest) P :=
  tr_cons fun σ G H Gs s eg => semS_of (ps_expr pe_sem hs) (he σ G H s _ fun d δ1 v G1 H1 k g1 s1 d1 => ⟨G1, δ1, k, s1, eg.trans g1.g⟩)
theorem tr_retC {rp : Pos} (he : EvC X B p δ e fun d δ1 => P.rt d ∧ ∀ (σ : L2.St) (G H : Hp), Sta B δ1 σ G H → P.ro G H) : Tr X B δ (.Return (some e) rp :: rest) P :=
  tr_cons fun σ G H Gs s eg => semS_of (ps_ret pe_sem) (he σ G H s _ fun d δ1 v G1 H1 k g1 s1 d1 => ⟨G1, d, ⟨k.1, k.2 σ G1 H1 s1⟩, s1.gr, d1⟩)
theorem tr_appendC (n : Nat) {z : Str} {apos cpos : Pos} (hn : δ[n]? = some (.own xs)) (he : EvC X B p δ e fun d δ1 => δ1[n]? = some (.own xs) ∧ Tr X B (δ1.set n (.own (xs ++ [d]))) rest P) (hl : xs.length < sizeLine) (hN : X.N[n]? = some z := by rfl)
    (hv : Vis X.env.scope z := by first | exact Or.inl rfl | exact Or.inr (Or.inl rfl) | exact Or.inr (Or.inr rfl)) (hd : (z == ("__debug__" : Str)) = false := by decide) (hcd : (z == ("__classdict__" : Str)) = false := by decide)
    (hs : swapsWith (.Call (.Attribute (.Name z pz) "append" apos) [e] [] cpos) none pos.line X.env = pure false := by rfl)
    (hbase : attributeBase (.Name z pz) "append" X.env (eval (.Name z pz) X.env) = eval (.Name z pz) X.env := by rfl)
    (hfew : ((backTo cpos (starEach (e :: []) X.env)).all (fun x => !x.1) && (backToKw cpos (keywordEach [] X.env)).all (fun x => x.1.isSome)
      && decide ((e :: []).length + ([] : List Keyword).length + (if ([] : List Keyword).isEmpty then 0 else 1) < 30)) = true := by rfl)
    (hline : (apos.endLine == cpos.line) = true := by rfl) (hst : starEach (e :: []) X.env = (false, eval e X.env) :: starEach [] X.env := by rfl) (hplain : (backTo cpos (starEach [] X.env)).any (·.1) = false := by rfl) :
    Tr X B δ (.Expr (.Call (.Attribute (.Name z pz) "append" apos) [e] [] cpos) pos :: rest) P :=
  tr_cons fun σ G H Gs s eg => semS_of (ps_expr (pe_bm PySem.F.plainAttrs_list PySem.F.slot_list_append PySem.F.type_list_append mt_append (pe_var hN hv hd hcd) (pa_cons pe_sem pa_nil hst) hbase hfew hline hst hplain) hs) (by
    obtain ⟨t, vs, e1, h1, h2, h3, h4⟩ := s.ok n _ hn
    refine ⟨_, e1, .inl ⟨rfl, _, SqL.of h3⟩, he σ G H s _ fun d δ1 v G1 H1 ⟨hn1, k⟩ g1 s1 d1 => ?_⟩
    obtain ⟨t', vs', e1', k1, k2, k3, k4⟩ := s1.ok n _ hn1
    rw [e1] at e1'; cases e1'
    exact ⟨t, vs', v, rfl, rfl, k3, by rw [k4.length]; exact hl, G1, _, k, s1.mutO n hn1 e1 (k4.append (.cons d1 .nil)), eg.trans g1.g⟩)
theorem tr_whileC (hp : PassesOwn (model X.prog X.w) X.A X.env X.xe) (Ψ : Nat → List SD → Prop) (n0 : Nat) (h0 : Ψ n0 δ)
    (hs : ∀ n δ', Ψ n δ' → EvCB X B p δ' c fun b δ1 => (b = true → Tr X B δ1 body { P with nx := fun δ2 => ∃ n', n' < n ∧ Ψ n' δ2, ct := fun δ2 => ∃ n', n' < n ∧ Ψ n' δ2, bk := fun δ2 => Tr X B δ2 rest P }) ∧ (b = false → Tr X B δ1 rest P)) :
    Tr X B δ (.While c body [] pos :: rest) P :=
  tr_cons fun σ G H Gs s eg => semS_of (ps_while hp pt_sem pss_sem) (by
    refine ⟨fun n σ H => ∃ G δ, Ψ n δ ∧ Sta B δ σ G H ∧ Ex Gs G, ⟨n0, G, δ, h0, s, eg⟩, ?_⟩
    rintro n σ' H' ⟨G', δ', hΨ, s', e'⟩
    refine hs n δ' hΨ σ' G' H' s' _ fun b δ1 G2 H2 ⟨h1, h2⟩ g2 s2 => ?_
    cases b with
    | true =>
      refine ⟨fun σ H => ∃ G δ, (∃ n', n' < n ∧ Ψ n' δ) ∧ Sta B δ σ G H ∧ Ex Gs G, fun σ3 H3 ⟨G3, δ3, ⟨n', l, a⟩, b, c⟩ => ⟨n', l, G3, δ3, a, b, c⟩, ?_⟩
      exact h1 rfl σ' G2 H2 Gs s2 (e'.trans g2.g)
    | false => exact ⟨G2, δ1, h2 rfl, s2, e'.trans g2.g⟩)
/-- raise Stop(e) -/
theorem tr_raise {k : Nat} {p1 p2 : Pos} (hc : X.calm = true) (T : PySem.StopX.StopTxt X.prog X.K X.mg S fI) (hr : Room k X.A) (tk : Takes X fun cls d _ H => E cls d H) (he : Ev X B δ a x) (h : Rz B S E x) (hg : Gl X "Stop" := by rfl)
    (hst : starEach (a :: []) X.env = (false, eval a X.env) :: starEach [] X.env := by rfl) (hpl : (backTo p2 (starEach [] X.env)).any (·.1) = false := by rfl) : Tr X B δ (.Raise (some (.Call (.Name "Stop" p1) [a] [] p2)) none pos :: rest) P :=
  tr_cons fun σ G H Gs s eg => semS_of (ps_raiseStop (W := fun cls d _ H => E cls d H) hc T hr tk (pa_cons pe_sem pa_nil hst) hg hst hpl) (he σ G H s _ fun v G1 H1 g1 d1 => ⟨v, rfl, fun dd hdd => by
    have s1 := s.grow g1
    exact h v dd G1 _ (s1.gr.trans (Grow.laidO s1.e s1.t hdd)) upd_same d1⟩)
/-- len of an own list -/
theorem ev_lenO (n : Nat) {z : Str} {p1 : Pos} (hm : X.mg ("len" : Str) = none) (hn : δ[n]? = some (.own xs)) (hN : X.N[n]? = some z := by rfl) (hv : Vis X.env.scope z := by first | exact Or.inl rfl | exact Or.inr (Or.inl rfl) | exact Or.inr (Or.inr rfl))
    (hd : (z == ("__debug__" : Str)) = false := by decide) (hcd : (z == ("__classdict__" : Str)) = false := by decide) (hg : Gl X ("len" : Str) := by rfl)
    (he : starEach (.Name z p1 :: []) X.env = (false, eval (.Name z p1) X.env) :: starEach [] X.env := by rfl) (hpl : (backTo pos (starEach [] X.env)).any (·.1) = false := by rfl) : Ev X B δ (.Call (.Name "len" pz) [.Name z p1] [] pos) (.int xs.length) :=
  ev_of (pe_callB call_len_seq hg hm PySem.boot_len (pa_cons (pe_var hN hv hd hcd) pa_nil he) (by decide) (by decide) he hpl) fun σ G H s Q q => by
    obtain ⟨t, vs, e1, h1, h2, h3, h4⟩ := s.ok n _ hn
    exact ⟨_, e1, t, vs, rfl, .inl (SqL.of h3), by rw [h4.length]; exact q _ G H s.refl (.int _)⟩
end
end CR

set_option Elab.async false
set_option linter.all false
set_option maxRecDepth 100000
set_option maxHeartbeats 1000000
/-! # The data logic, 7: comprehensions with method calls, the methods themselves -/
namespace CR
open PySem L2 Evl PyProof.Rows
def blkGX (X : Cx) (scope : Scope) (tg : Expr) : TG := fun v σ H Q => ∀ (s : Shared) (H0 : Hp) (C : Addr) (cl : List (Str × Addr)) (fp : List Addr) (xe : Value → Shared → Prop), semG (X.blkX s H0 scope (compEnvC scope cl C X.env) fp xe) tg v σ H Q
def blkEX (X : Cx) (E : XK) (scope : Scope) (e : Expr) : TE := fun σ H Q => ∀ (s : Shared) (H0 : Hp) (C : Addr) (cl : List (Str × Addr)) (fp : List Addr) (xe : Value → Shared → Prop),
  Passes (L2.CX X.prog X.w) (X.blkX s H0 scope (compEnvC scope cl C X.env) fp xe) E → semE (X.blkX s H0 scope (compEnvC scope cl C X.env) fp xe) e σ H Q
section
variable {X : Cx} {B : Bd} {p : Addr} {δ : List SD} {elt tg iter : Expr} {scope : Scope} {own : List (Str × Nat)} {row : PyData} {u0 : Int} {ys : List PyData} {pos : Pos} {Φ : PyData → List SD → Prop} {E : XK} {n : Nat}
theorem pg_blkX (s : Shared) (H : Hp) (C : Addr) (cl : List (Str × Addr)) (fp : List Addr) (xe : Value → Shared → Prop) : PG (X.blkX s H scope (compEnvC scope cl C X.env) fp xe) tg (blkGX X scope tg) := ⟨fun pins s' _ _ _ u _ I r h => h s H C cl fp xe pins s' u I r⟩
theorem pe_blkX : BlkE X E scope elt (blkEX X E scope elt) := fun s H C cl fp xe pass => ⟨fun pins s' _ _ _ I h => h s H C cl fp xe pass pins s' I⟩
/-- one turn of such a comprehension -/
def LcTurnC (X : Cx) (B : Bd) (p : Addr) (E : XK) (n : Nat) (row : PyData) (δ : List SD) (scope : Scope) (vs : List Nat) (tg elt : Expr) (Ψ : Nat → List PyData → Int → Prop) (ys : List PyData) : Prop :=
  ∀ k y ds u, ys[k]? = some y → Ψ k ds u → ∃ (δ' : List SD) (is : List Nat), (∀ i ∈ is, i ∈ vs) ∧
    ∀ (s : Shared) (H0 : Hp) (C : Addr) (cl : List (Str × Addr)) (fp : List Addr) (xe : Value → Shared → Prop), EvG (X.blkX s H0 scope (compEnvC scope cl C X.env) fp xe) B (wipeD (δ.set n (.obj p row u)) vs) tg y δ' is ∧
      (Passes (L2.CX X.prog X.w) (X.blkX s H0 scope (compEnvC scope cl C X.env) fp xe) E → EvC (X.blkX s H0 scope (compEnvC scope cl C X.env) fp xe) B p δ' elt fun z δ2 => ∃ u2, δ2[n]? = some (.obj p row u2) ∧ Ψ (k + 1) (ds ++ [z]) u2)
theorem yes_if {σ : L2.St} {H : Hp} {F F2 : Hp → Prop} (h : F H) : tYes σ H (fun b H3 => if b = true then F H3 else F2 H3) := by
  show (if true = true then F H else F2 H)
  rw [if_pos rfl]
  exact h
theorem lcC_run {vs : List Nat} {Ψ : Nat → List PyData → Int → Prop} (hn : δ[n]? = some (.obj p row u0)) (h0 : Ψ 0 [] u0) (hi : EvI X B δ tg iter ys) (ht : LcTurnC X B p E n row δ scope vs tg elt Ψ ys) (hz : ys.length < sizeLine)
    {σ : L2.St} {G H : Hp} (s : Sta B δ σ G H) {Q : VK} (q : ∀ ds u G2 H2 D us, Ψ ys.length ds u → ds.length = ys.length → Grow B.T (mp p) G H G2 H2 → Sta B (δ.set n (.obj p row u)) σ G2 H2 → G2 D = none → B.H0 D = none → H D = none → H2 D = some (.lst us) → DpAll K0 G2 us ds →
      (∀ (j : Nat) (sj : SD), (δ.set n (.obj p row u))[j]? = some sj → sj.owns = true → σ[j]? ≠ some (some (.ref D))) → Q (.ref D) H2) :
    tLc (semI X tg iter) (blkGX X scope tg) tYes (blkEX X E scope elt) vs σ H Q := by
  refine hi σ G H s _ fun J G1 H1 g1 w D hD => ?_
  have s1 := s.grow g1
  have ob1 := (s1.objAt hn).2.2.2
  have nDp : ¬ mp p D := fun z => by
    have z : D = p := z
    exact obj_ne ob1 (z ▸ hD)
  have hHD : H D = none := by
    cases z : H D with
    | none => rfl
    | some o => exact (g1.d D (by rw [z]; simp) hD).elim
  have h0D : B.H0 D = none := by
    cases z : B.H0 D with
    | none => rfl
    | some o => exact (s.gr.d D (by rw [z]; simp) hHD).elim
  have gD : Grow B.T m0 G1 H1 G1 (upd H1 D (.lst [])) := Grow.laidO g1.gh g1.t hD
  refine ⟨fun i m H => m = ys.length - i ∧ i ≤ ys.length ∧ ∃ (G' : Hp) (us : List V) (ds : List PyData) (u : Int), Grow B.T (mp p) G1 H1 G' H ∧ G' D = none ∧ H D = some (.lst us) ∧ DpAll K0 G' us ds ∧ ds.length = i ∧ Ψ i ds u ∧ ObjAt B.C G' H p row u,
    ⟨_, rfl, Nat.zero_le _, G1, [], [], u0, gD.weak, fresh_back g1.gh hD, upd_same, .nil, rfl, h0, ob1.grow gD fun z => z⟩, ?_⟩
  rintro i m H' ⟨rfl, hi, G', us, ds, u, g', hG', hH', hd, hl, hΨ, ob⟩
  have so : Sta B (δ.set n (.obj p row u)) σ G' H' := s1.stepO hn g' ob
  by_cases hlt : i < ys.length
  · refine .inr ⟨w.go i G' H' hlt g'.g g'.gh, fun H => ∃ (G' : Hp) (us : List V) (ds : List PyData) (u : Int), Grow B.T (mp p) G1 H1 G' H ∧ G' D = none ∧ H D = some (.lst us) ∧ DpAll K0 G' us ds ∧ ds.length = i + 1 ∧ Ψ (i + 1) ds u ∧ ObjAt B.C G' H p row u,
      fun H2 z => ⟨_, by omega, rfl, hlt, z⟩, fun x H2 y => ?_⟩
    obtain ⟨G2, g2, d2⟩ := w.yld i G' H' x H2 _ (List.getElem?_eq_getElem hlt) g'.g g'.gh g'.t y
    obtain ⟨δ', is, his, ht⟩ := ht i ys[i] ds u (List.getElem?_eq_getElem hlt) hΨ
    have s2 : Sta B (wipeD (δ.set n (.obj p row u)) vs) (L2.wipe σ vs) G2 H2 := (so.grow g2).wipe vs
    intro sb H0 C cl fp xe
    refine (ht sb H0 C cl fp xe).1 _ G2 H2 x s2 d2 _ fun σ2 s3 el eo => ⟨?_, ?_⟩
    · have e0 : L2.wipe σ2 vs = L2.wipe (L2.wipe σ vs) vs := wipe_eq el fun j hj => eo j fun z => hj (his j z)
      rw [e0]
      exact wipe_eq (wipe_length σ vs) fun j hj => wipe_at σ vs j hj
    · refine yes_if (F := fun H3 => blkEX X E scope elt σ2 H3 _) ?_
      intro sb H0 C cl fp xe pass
      refine (ht sb H0 C cl fp xe).2 pass σ2 G2 H2 s3 _ fun z δ2 v G3 H3 ⟨u2, hn2, hΨ2⟩ g3 s4 d4 => ?_
      have ob3 := (s4.objAt hn2).2.2.2
      have gg : Grow B.T (mp p) G' H' G3 H3 := g2.weak.trans g3
      have hD3 : H3 D = some (.lst us) := gg.h D _ hH' (fun _ z => nomatch z) nDp
      have gD3 : G3 D = none := gg.fr D (by rw [hH']; simp) hG'
      have hus : us.length < sizeLine := by
        rw [hd.length]
        omega
      refine ⟨us, hD3, hus, G3, us ++ [v], ds ++ [z], u2, (g'.trans gg).mutO hD gD3 hD3, gD3, upd_same, (hd.mono gg.g).append (.cons d4 .nil), by rw [List.length_append]; show ds.length + 1 = i + 1; rw [hl], hΨ2, ?_⟩
      obtain ⟨dx, fs, rv, k3, k4, k5, k6, k7, k8⟩ := ob3
      exact ⟨dx, fs, rv, by rw [upd_ne (fun z => nDp z.symm)]; exact k3, k4, k5, k6, k7, k8⟩
  · have e : i = ys.length := by omega
    subst e
    refine .inl ⟨w.stop G' H' g'.g g'.gh, q ds u G' H' D us hΨ hl (g1.weak.trans g') so hG' h0D hHD hH' hd fun j sj ej oj ej2 => ?_⟩
    by_cases hj : n = j
    · subst hj
      rw [(s.objAt hn).1] at ej2
      cases ej2
      exact nDp rfl
    · rw [List.getElem?_set_ne hj] at ej
      exact (s.owned ej oj ej2).1 hHD
theorem evC_lc (vs : List Nat) (Ψ : Nat → List PyData → Int → Prop) (hst : X.stack = X.env :: X.outer) (hf : X.env.frame = some X.env.locals) (tk : Takes X fun cls d _ H => E cls d H) (hc : X.calm = true) (hN : X.N.Nodup) (ok : BlkOk X.N X.env.scope scope own) (hvs : own.map (·.2) = vs)
    (hn : δ[n]? = some (.obj p row u0)) (h0 : Ψ 0 [] u0) (hi : EvI X B δ tg iter ys) (ht : LcTurnC X B p E n row δ scope vs tg elt Ψ ys) (hz : ys.length < sizeLine)
    (k : ∀ ds u, Ψ ys.length ds u → ds.length = ys.length → Φ (.list ds) (δ.set n (.obj p row u))) (hs : ∀ x, foldedSetIterable iter X.env x = pure x := by intro _; rfl) : EvC X B p δ (.ListComp elt [⟨tg, iter, [], 0⟩] scope pos) Φ := by
  subst hvs
  intro σ G H s Q q
  refine semE_of (pe_lcX (E0 := E) hst hf tk hc hN pi_sem ok pg_blkX pe_blkX hs) ?_
  refine lcC_run hn h0 hi ht hz s fun ds u G2 H2 D us hΨ hl g2 s2 gD h0D hHD hD hd hno => ?_
  have s3 := s2.freezeAt hD (fun _ z => nomatch z) gD h0D hno
  exact q (.list ds) _ (.ref D) (upd G2 D (.lst us)) H2 (k ds u hΨ hl) (g2.freezeO hHD gD hD) s3 (.lst (SqL.of upd_same) (hd.mono (Ex.new gD)))
/-- name = [..], the list the method's own -/
theorem tr_setLcC {y : Str} {py spos : Pos} {rest : List Stmt} {P : DP} (nf : Nat) (vs : List Nat) (Ψ : Nat → List PyData → Int → Prop) (hst : X.stack = X.env :: X.outer) (hf : X.env.frame = some X.env.locals) (tk : Takes X fun cls d _ H => E cls d H) (hc : X.calm = true) (hN : X.N.Nodup)
    (ok : BlkOk X.N X.env.scope scope own) (hvs : own.map (·.2) = vs) (hn : δ[n]? = some (.obj p row u0)) (h0 : Ψ 0 [] u0) (hi : EvI X B δ tg iter ys) (ht : LcTurnC X B p E n row δ scope vs tg elt Ψ ys) (hz : ys.length < sizeLine)
    (k : ∀ ds u, Ψ ys.length ds u → ds.length = ys.length → Tr X B ((δ.set n (.obj p row u)).set nf (.own ds)) rest P) (hsw : swapsWith (.ListComp elt [⟨tg, iter, [], 0⟩] scope pos) (some (.Name y py)) spos.line X.env = pure true)
    (hy : X.N[nf]? = some y := by rfl) (hyl : X.env.scope.names.lookup y = some .local := by rfl) (hs : ∀ x, foldedSetIterable iter X.env x = pure x := by intro _; rfl) :
    Tr X B δ (.Assign [.Name y py] (.ListComp elt [⟨tg, iter, [], 0⟩] scope pos) spos :: rest) P := by
  subst hvs
  refine tr_cons fun σ G H Gs s eg => semS_of (ps_setLcX (E0 := E) hst hf tk hc hN hy hyl hsw pi_sem ok pg_blkX pe_blkX hs) ?_
  refine lcC_run hn h0 hi ht hz s fun ds u G2 H2 D us hΨ hl g2 s2 gD h0D hHD hD hd hno => ?_
  exact ⟨G2, _, k ds u hΨ hl, s2.setOwn nf hD gD h0D hd hno, eg.trans g2.g⟩
end
/-! ## The methods -/
section
variable {P : Program} {w : World} {K : PySem.W.Frag} {mg : Str → Option Value} {base : Heap}
/-- where a method's body starts -/
def startM (N : List Str) (p : Addr) (row : PyData) (u : Int) (ds : List PyData) : List SD := .obj p row u :: (ds.map SD.d ++ List.replicate (N.length - (ds.length + 1)) SD.un)
theorem startM_sta {B : Bd} {N : List Str} {p : Addr} {row : PyData} {u : Int} {vs : List V} {ds : List PyData} (h : DpAll K0 B.G0 vs ds) (e : Ex B.G0 B.H0) (t : TabsOk B.T B.G0 B.H0) (gp : B.G0 p = none) (hm : B.m p) (ob : ObjAt B.C B.G0 B.H0 p row u) : Sta B (startM N p row u ds) (L2.start N (.ref p :: vs)) B.G0 B.H0 := by
  have g : ∀ i, (startM N p row u ds)[i + 1]? = (ds.map SD.d ++ List.replicate (N.length - (ds.length + 1)) SD.un)[i]? := fun i => by unfold startM; rw [List.getElem?_cons_succ]
  have g0 : (startM N p row u ds)[0]? = some (.obj p row u) := by unfold startM; rw [List.getElem?_cons_zero]
  have noown : ∀ {i sj}, (startM N p row u ds)[i]? = some sj → sj.owns = true → i = 0 := fun {i sj} e1 o1 => by
    cases i with
    | zero => rfl
    | succ i =>
      rw [g] at e1
      by_cases hl : i < ds.length
      · rw [List.getElem?_append_left (by rw [List.length_map]; exact hl), List.getElem?_map, List.getElem?_eq_getElem hl] at e1
        cases e1; cases o1
      · rw [List.getElem?_append_right (by rw [List.length_map]; omega), List.getElem?_replicate] at e1
        split at e1
        · cases e1; cases o1
        · cases e1
  have st0 : (L2.start N (.ref p :: vs))[0]? = some (some (.ref p)) := by unfold L2.start; simp
  have st : ∀ i, i < vs.length → (L2.start N (.ref p :: vs))[i + 1]? = vs[i]?.map some := fun i hi => by
    unfold L2.start
    rw [List.getElem?_append_left (by rw [List.length_map, List.length_cons]; omega), List.getElem?_map, List.getElem?_cons_succ]
  refine ⟨Grow.refl e t, ?_, fun i sd hi => ?_, fun j k sj sk b e1 e2 o1 o2 f1 f2 => (noown e1 o1).trans (noown e2 o2).symm⟩
  · unfold L2.start startM
    simp only [List.length_append, List.length_cons, List.length_map, List.length_replicate, h.length]
    omega
  · cases i with
    | zero =>
      rw [g0] at hi
      cases hi
      exact ⟨st0, gp, .inr hm, ob⟩
    | succ i =>
      rw [g] at hi
      by_cases hl : i < ds.length
      · rw [List.getElem?_append_left (by rw [List.length_map]; exact hl), List.getElem?_map, List.getElem?_eq_getElem hl] at hi
        cases hi
        obtain ⟨v, e1, e2⟩ := h.get (List.getElem?_eq_getElem hl)
        exact ⟨v, by rw [st i (by rw [h.length]; exact hl), e1]; rfl, e2⟩
      · rw [List.getElem?_append_right (by rw [List.length_map]; omega), List.getElem?_replicate] at hi
        split at hi
        · cases hi; trivial
        · cases hi
/-- THE RULE for a method -/
theorem fn_m {T : List TabN} {C S : Addr} {x qual : Str} {st : Stmt} {f : Addr} {fd : FuncData} {N ps : List Str} {k : Nat} {R : PyData → Int → List PyData → Out → Prop} (F : Fun K x qual st f fd) (S0 : FnScope N ps (defScope st)) (hR : ∀ row u ds res, R row u ds res → ds.length + 1 = ps.length)
    (body : ∀ (cdv : Value) (A : Around) (outer : List Env) (s : Shared) (H : Hp) (E : XK) (G : Hp) (p : Addr) (row : PyData) (u : Int) (ds : List PyData) (res : Out), Room k (A.deeper (envOfC qual (defScope st) s.heap.objs.size f cdv)) → fd.code = cdv → R row u ds res →
      (∀ o, res = .error o → Rz ⟨T, mp p, C, G, H⟩ S E o) →
      Tr (cxOf (L2.CX P w) P w K mg base N qual (defScope st) f cdv A outer s H E) ⟨T, mp p, C, G, H⟩ (startM N p row u ds) (defBody st)
        { nx := fun _ => False, rt := fun r => ∃ u', res = .ok (r, u'), ro := fun G2 H2 => ∃ d u', res = .ok (d, u') ∧ ObjAt C G2 H2 p row u' }) : FnOk P w K mg base (L2.CX P w) (k + 1) f fd ps (spM T C S R) := by
  obtain ⟨oc, od, kV, doc, pm, an, cdv, ct, osl, rfl, lk, hcd⟩ := F.ex
  refine fn_of lk hcd S0 (fun vs H Q E ⟨G, p, us, row, u, ds, res, e0, e, t, gp, ob, h, r, q⟩ => ?_) fun A outer s H vs Q E hr hsp => ?_
  · rw [e0, List.length_cons, h.length]
    exact hR _ _ _ _ r
  obtain ⟨G, p, us, row, u, ds, res, rfl, e, t, gp, ob, h, r, q1, q2⟩ := hsp
  refine ⟨_, pss_sem, ?_⟩
  refine semSs_mono (body cdv A outer s H E G p row u ds res hr rfl r (fun o eo v d G2 H2 g hx dv => q2 o eo v d G2 H2 g hx dv) (L2.start N (.ref p :: us)) G H G (startM_sta (B := ⟨T, mp p, C, G, H⟩) h e t gp rfl ob) (Ex.refl G)) (fun σ H ⟨G2, δ, z, s2, _⟩ => z.elim) (fun v H ⟨G2, d2, ⟨⟨u', z⟩, d3, u3, z3, ob2⟩, g, h2⟩ => ?_) (fun σ H ⟨G2, δ, z, _⟩ => z.elim) (fun σ H ⟨G2, δ, z, _⟩ => z.elim)
  rw [z] at z3
  cases z3
  exact q1 d2 u' z v G2 H g ob2 h2
/-- what such a body may let out is taken -/
theorem takes_m {qual : Str} {scope : Scope} {f : Addr} {cdv : Value} {A : Around} {outer : List Env} {s : Shared} {H : Hp} {E : XK} {N : List Str} : Takes (cxOf (L2.CX P w) P w K mg base N qual scope f cdv A outer s H E) fun cls d _ H => E cls d H := takes_of rfl rfl rfl rfl
theorem passes_m {qual : Str} {scope : Scope} {f : Addr} {cdv : Value} {A : Around} {outer : List Env} {s : Shared} {H : Hp} {E : XK} {N : List Str} : Passes (L2.CX P w) (cxOf (L2.CX P w) P w K mg base N qual scope f cdv A outer s H E) E := passes_call takes_m fun _ _ _ _ h => h
end
end CR

set_option Elab.async false
set_option linter.all false
set_option maxRecDepth 100000
set_option maxHeartbeats 1000000
/-! # Walks: the methods of Draw -/
namespace CR
open PySem L2 Evl PyProof.Rows
abbrev mth (j : Nat) : Stmt := L2.inClass (top 16) j
/-- a method of Draw -/
structure MetK (K : PySem.W.Frag) (C : Addr) (x qual : Str) (j : Nat) (ps : List Str) (f : Addr) (fd : FuncData) : Prop where
  fn : Fun K x qual (mth j) f fd
  meth : Meth K C x f
  binds : Binds K fd ps []
/-- the class Draw, the error Stop -/
structure DrawC (P : Program) (K : PySem.W.Frag) (mg : Str → Option Value) (C S fI : Addr) : Prop where
  cls : Cls K C
  nr : NoAttr K C "row"
  nu : NoAttr K C "used"
  stop : PySem.StopX.StopTxt P K mg S fI
def outI : Except PyData (Int × Nat) → Out
  | .error o => .error o
  | .ok (c, u) => .ok (.int c, (u : Int))
def outD : Except PyData (PyData × Nat) → Out
  | .error o => .error o
  | .ok (d, u) => .ok (d, (u : Int))
def rChoice (row : PyData) (u : Int) (ds : List PyData) (res : Out) : Prop := ∃ (r : List Int) (n : Nat) (b : Int), row = encR r ∧ u = n ∧ ds = [.int b] ∧ res = outI (choiceM r b n)
section
variable {P : Program} {w : World} {K : PySem.W.Frag} {mg : Str → Option Value} {base : Heap} {T : List TabN} {f C S fI : Addr} {fd : FuncData}
theorem MetK.cal {x q : Str} {j k : Nat} {ps : List Str} {sp : Sp} (D : MetK K C x q j ps f fd) (h : FnOk P w K mg base (L2.CX P w) k f fd ps sp) : MCal P w K mg base C k x sp := ⟨f, fd, ps, h, D.meth, D.binds⟩
theorem scChoice : FnScope ["self", "bound", "found"] ["self", "bound"] (defScope (mth 1)) := ⟨rfl, rfl, rfl, by decide +kernel, rfl, by decide +kernel, by decide +kernel⟩
theorem ok_choice (D : MetK K C "choice" "Draw.choice" 1 ["self", "bound"] f fd) (m : MgN mg) (W : DrawC P K mg C S fI) : FnOk P w K mg base (L2.CX P w) 2 f fd ["self", "bound"] (spM T C S rChoice) := by
  refine fn_m D.fn scChoice (fun row u ds res ⟨r, n, b, _, _, e, _⟩ => by rw [e]; rfl) (fun cdv A outer s H E G p row u ds res hr hcd hR hE => ?_)
  obtain ⟨r, n, b, rfl, rfl, rfl, rfl⟩ := hR
  have e1 : (r.map PyData.int).length = r.length := List.length_map _
  refine tr_if0 (evB_cmpI (ev_used 0 rfl W.cls W.nu) (ev_lenT m.len (ev_row 0 rfl W.cls W.nr))) (fun hc => ?_) (fun hc => ?_)
  · have hc : r.length ≤ n := by simpa [cmpI] using hc
    have er : r[n]? = none := List.getElem?_eq_none hc
    refine tr_raise (E := E) (S := S) rfl W.stop hr takes_m (ev_tup (xs := [.str "short", .int r.length]) (evA_cons ev_str (evA_cons ((ev_lenT m.len (ev_row 0 rfl W.cls W.nr)).eq (by rw [e1])) evA_nil))) (hE _ ?_)
    unfold choiceM
    rw [er]
    rfl
  · have hc : n < r.length := by simpa [cmpI] using hc
    have er : r[n]? = some r[n] := List.getElem?_eq_getElem hc
    refine tr_asg 2 (ev_ixT (ev_row 0 rfl W.cls W.nr) (ev_used 0 rfl W.cls W.nu) (d := .int r[n]) (atI_nat (by rw [List.getElem?_map, er]; rfl))) scChoice.nd ?_
    refine tr_if0 (evB_not (evB_chain ev_int (ev_var 2 rfl) (ev_var 1 rfl))) (fun hc2 => ?_) (fun hc2 => ?_)
    · have hc2 : ¬ (0 ≤ r[n] ∧ r[n] ≤ b) := by
        have h := hc2
        simp [cmpI] at h
        omega
      refine tr_raise (E := E) (S := S) rfl W.stop hr takes_m (ev_tup (xs := [.str "wrong", .int n]) (evA_cons ev_str (evA_cons (ev_used 0 rfl W.cls W.nu) evA_nil))) (hE _ ?_)
      unfold choiceM
      rw [er]
      show outI (if 0 ≤ r[n] ∧ r[n] ≤ b then _ else _) = _
      rw [if_neg hc2]
      rfl
    · have hc2 : 0 ≤ r[n] ∧ r[n] ≤ b := by simpa [cmpI] using hc2
      have ec : choiceM r b n = .ok (r[n], n + 1) := by
        unfold choiceM
        rw [er]
        show (if 0 ≤ r[n] ∧ r[n] ≤ b then _ else _) = _
        rw [if_pos hc2]
      refine tr_setUsed 0 rfl W.cls W.nu (ev_add (ev_used 0 rfl W.cls W.nu) ev_int) ?_
      refine tr_ret (ev_var 2 rfl) ⟨_, by rw [ec]; rfl⟩ (fun σ G2 H2 s => ⟨_, _, by rw [ec]; rfl, (s.objAt (n := 0) rfl).2.2.2⟩)
/-! ## refuse -/
def rRefuse (row : PyData) (u : Int) (ds : List PyData) (res : Out) : Prop := ∃ n : Nat, u = n ∧ ds = [] ∧ res = .error (outRefused n)
theorem scRefuse : FnScope ["self"] ["self"] (defScope (mth 2)) := ⟨rfl, rfl, rfl, by decide +kernel, rfl, by decide +kernel, by decide +kernel⟩
theorem ok_refuse (D : MetK K C "refuse" "Draw.refuse" 2 ["self"] f fd) (m : MgN mg) (W : DrawC P K mg C S fI) : FnOk P w K mg base (L2.CX P w) 2 f fd ["self"] (spM T C S rRefuse) := by
  refine fn_m D.fn scRefuse (fun row u ds res ⟨n, _, e, _⟩ => by rw [e]; rfl) (fun cdv A outer s H E G p row u ds res hr hcd hR hE => ?_)
  obtain ⟨n, rfl, rfl, rfl⟩ := hR
  exact tr_raise (E := E) (S := S) rfl W.stop hr takes_m (ev_tup (xs := [.str "refused", .int n]) (evA_cons ev_str (evA_cons (ev_used 0 rfl W.cls W.nu) evA_nil))) (hE _ rfl)
end
/-! ## Plain facts of drawing -/
section
variable {f : Dr PyData} {r : List Int}
theorem timesM_snoc : ∀ {k : Nat} {u c c2 : Nat} {ds : List PyData} {z : PyData}, timesM f k u = .ok (ds, c) → f c = .ok (z, c2) → timesM f (k + 1) u = .ok (ds ++ [z], c2)
  | 0, u, c, c2, ds, z, h, h2 => by
    cases h
    unfold timesM
    rw [h2]
    rfl
  | k + 1, u, c, c2, ds, z, h, h2 => by
    unfold timesM at h ⊢
    cases e : f u with
    | error o => rw [e] at h; cases h
    | ok p =>
      obtain ⟨x, u1⟩ := p
      rw [e] at h
      dsimp only at h ⊢
      cases e2 : timesM f k u1 with
      | error o => rw [e2] at h; cases h
      | ok q =>
        obtain ⟨xs, u2⟩ := q
        rw [e2] at h
        cases h
        rw [timesM_snoc e2 h2]
        rfl
theorem timesM_err : ∀ {k m : Nat} {u c : Nat} {ds : List PyData} {o : PyData}, timesM f k u = .ok (ds, c) → f c = .error o → k < m → timesM f m u = .error o
  | 0, m + 1, u, c, ds, o, h, h2, _ => by
    cases h
    unfold timesM
    rw [h2]
  | k + 1, m + 1, u, c, ds, o, h, h2, hm => by
    unfold timesM at h ⊢
    cases e : f u with
    | error o => rw [e] at h; cases h
    | ok p =>
      obtain ⟨x, u1⟩ := p
      rw [e] at h
      dsimp only at h ⊢
      cases e2 : timesM f k u1 with
      | error o => rw [e2] at h; cases h
      | ok q =>
        obtain ⟨xs, u2⟩ := q
        rw [e2] at h
        cases h
        rw [timesM_err e2 h2 (by omega)]
theorem timesM_len : ∀ {k : Nat} {u c : Nat} {ds : List PyData}, timesM f k u = .ok (ds, c) → ds.length = k
  | 0, u, c, ds, h => by cases h; rfl
  | k + 1, u, c, ds, h => by
    unfold timesM at h
    cases e : f u with
    | error o => rw [e] at h; cases h
    | ok p =>
      obtain ⟨x, u1⟩ := p
      rw [e] at h
      dsimp only at h
      cases e2 : timesM f k u1 with
      | error o => rw [e2] at h; cases h
      | ok q =>
        obtain ⟨xs, u2⟩ := q
        rw [e2] at h
        cases h
        rw [List.length_cons, timesM_len e2]
theorem timesM_all {V : PyData → Prop} (hf : ∀ u x c, f u = .ok (x, c) → V x) : ∀ {k : Nat} {u c : Nat} {ds : List PyData}, timesM f k u = .ok (ds, c) → ∀ x ∈ ds, V x
  | 0, u, c, ds, h => by cases h; simp
  | k + 1, u, c, ds, h => by
    unfold timesM at h
    cases e : f u with
    | error o => rw [e] at h; cases h
    | ok p =>
      obtain ⟨x, u1⟩ := p
      rw [e] at h
      dsimp only at h
      cases e2 : timesM f k u1 with
      | error o => rw [e2] at h; cases h
      | ok q =>
        obtain ⟨xs, u2⟩ := q
        rw [e2] at h
        cases h
        intro y hy
        rcases List.mem_cons.mp hy with rfl | hy
        · exact hf _ _ _ e
        · exact timesM_all hf e2 y hy
theorem moreM_all {V : PyData → Prop} (hf : ∀ u x c, f u = .ok (x, c) → V x) : ∀ {k : Nat} {u c : Nat} {ds : List PyData}, moreM r f k u = .ok (ds, c) → ds.length ≤ k ∧ ∀ x ∈ ds, V x
  | 0, u, c, ds, h => by cases h; simp
  | k + 1, u, c, ds, h => by
    unfold moreM at h
    cases e0 : choiceM r 1 u with
    | error o => rw [e0] at h; cases h
    | ok p =>
      obtain ⟨b, u0⟩ := p
      rw [e0] at h
      dsimp only at h
      by_cases hb : b = 1
      · rw [if_pos hb] at h
        cases e : f u0 with
        | error o => rw [e] at h; cases h
        | ok p =>
          obtain ⟨x, u1⟩ := p
          rw [e] at h
          dsimp only at h
          cases e2 : moreM r f k u1 with
          | error o => rw [e2] at h; cases h
          | ok q =>
            obtain ⟨xs, u2⟩ := q
            rw [e2] at h
            cases h
            obtain ⟨h1, h2⟩ := moreM_all hf e2
            refine ⟨by rw [List.length_cons]; omega, fun y hy => ?_⟩
            rcases List.mem_cons.mp hy with rfl | hy
            · exact hf _ _ _ e
            · exact h2 y hy
      · rw [if_neg hb] at h
        cases h
        simp
theorem choiceM_ok {b c : Int} {u u1 : Nat} (h : choiceM r b u = .ok (c, u1)) : r[u]? = some c ∧ 0 ≤ c ∧ c ≤ b ∧ u1 = u + 1 := by
  unfold choiceM at h
  cases e : r[u]? with
  | none => rw [e] at h; cases h
  | some x =>
    rw [e] at h
    dsimp only at h
    by_cases hx : 0 ≤ x ∧ x ≤ b
    · rw [if_pos hx] at h
      cases h
      exact ⟨rfl, hx.1, hx.2, rfl⟩
    · rw [if_neg hx] at h
      cases h
/-- what a draw gives is a value of the generator -/
theorem valueM_val : ∀ (g : Gn) {u c : Nat} {x : PyData}, g.WF → valueM r g u = .ok (x, c) → g.Val x
  | .int lo hi, u, c, x, hw, h => by
    unfold valueM at h
    cases e : choiceM r (hi - lo) u with
    | error o => rw [e] at h; cases h
    | ok p =>
      obtain ⟨b, u1⟩ := p
      rw [e] at h
      cases h
      obtain ⟨_, h1, h2, _⟩ := choiceM_ok e
      exact ⟨_, rfl, by omega, by omega⟩
  | .pair a b, u, c, x, hw, h => by
    unfold valueM at h
    cases e : valueM r a u with
    | error o => rw [e] at h; cases h
    | ok p =>
      obtain ⟨y, u1⟩ := p
      rw [e] at h
      dsimp only at h
      cases e2 : valueM r b u1 with
      | error o => rw [e2] at h; cases h
      | ok p =>
        obtain ⟨z, u2⟩ := p
        rw [e2] at h
        cases h
        exact ⟨_, _, rfl, valueM_val a hw.1 e, valueM_val b hw.2 e2⟩
  | .lst g l m, u, c, x, hw, h => by
    unfold valueM at h
    cases e : timesM (valueM r g) l u with
    | error o => rw [e] at h; cases h
    | ok p =>
      obtain ⟨xs, u1⟩ := p
      rw [e] at h
      dsimp only at h
      cases e2 : moreM r (valueM r g) (m - l) u1 with
      | error o => rw [e2] at h; cases h
      | ok p =>
        obtain ⟨ys, u2⟩ := p
        rw [e2] at h
        cases h
        have q1 := timesM_len e
        have q2 := timesM_all (V := g.Val) (fun _ _ _ h => valueM_val g hw.1 h) e
        obtain ⟨q3, q4⟩ := moreM_all (V := g.Val) (fun _ _ _ h => valueM_val g hw.1 h) e2
        have hl : l ≤ m := hw.2.1
        refine ⟨_, rfl, by rw [List.length_append]; omega, by rw [List.length_append]; omega, fun y hy => ?_⟩
        rcases List.mem_append.mp hy with hy | hy
        · exact q2 y hy
        · exact q4 y hy
  | .one a b, u, c, x, hw, h => by
    unfold valueM at h
    cases e : choiceM r 1 u with
    | error o => rw [e] at h; cases h
    | ok p =>
      obtain ⟨d, u1⟩ := p
      rw [e] at h
      dsimp only at h
      by_cases hd : d = 0
      · rw [if_pos hd] at h
        exact .inl (valueM_val a hw.1 h)
      · rw [if_neg hd] at h
        exact .inr (valueM_val b hw.2 h)
  | .kept g k, u, c, x, hw, h => by
    unfold valueM at h
    cases e : valueM r g u with
    | error o => rw [e] at h; cases h
    | ok p =>
      obtain ⟨y, u1⟩ := p
      rw [e] at h
      dsimp only at h
      by_cases hd : k.val y = true
      · rw [if_pos hd] at h
        cases h
        exact ⟨valueM_val g hw.1 e, hd⟩
      · rw [if_neg hd] at h
        cases h
  | .turned g k, u, c, x, hw, h => by
    unfold valueM at h
    cases e : valueM r g u with
    | error o => rw [e] at h; cases h
    | ok p =>
      obtain ⟨y, u1⟩ := p
      rw [e] at h
      cases h
      exact ⟨y, valueM_val g hw.1 e, rfl⟩
  | .rep a b, u, c, x, hw, h => by
    unfold valueM at h
    cases e : valueM r a u with
    | error o => rw [e] at h; cases h
    | ok p =>
      obtain ⟨y, u1⟩ := p
      rw [e] at h
      dsimp only at h
      by_cases hd : 0 ≤ dint y ∧ dint y ≤ 6
      · rw [if_pos hd] at h
        cases e2 : timesM (valueM r b) (dint y).toNat u1 with
        | error o => rw [e2] at h; cases h
        | ok p =>
          obtain ⟨ys, u2⟩ := p
          rw [e2] at h
          cases h
          have q1 := timesM_len e2
          have q2 := timesM_all (V := b.Val) (fun _ _ _ h => valueM_val b hw.2.1 h) e2
          have qa := valueM_val a hw.1 e
          obtain ⟨i, rfl⟩ := hw.2.2 y qa
          have hd : 0 ≤ i ∧ i ≤ 6 := hd
          refine ⟨i.toNat, ys, rfl, ?_, by omega, q1, q2⟩
          rw [Int.toNat_of_nonneg hd.1]
          exact qa
      · rw [if_neg hd] at h
        cases h
end
end CR

set_option Elab.async false
set_option linter.all false
set_option maxRecDepth 100000
set_option maxHeartbeats 1000000
/-! # Walks: the methods of Draw that call one another -/
namespace CR
open PySem L2 Evl PyProof.Rows
def rVal (k : Nat) (row : PyData) (u : Int) (ds : List PyData) (res : Out) : Prop := ∃ (r : List Int) (n : Nat) (g : Gn), row = encR r ∧ u = n ∧ ds = [g.enc] ∧ g.WF ∧ g.dep ≤ k ∧ res = outD (valueM r g n)
def rLst (k : Nat) (row : PyData) (u : Int) (ds : List PyData) (res : Out) : Prop := ∃ (r : List Int) (n : Nat) (g : Gn) (l mo : Nat), row = encR r ∧ u = n ∧ ds = [(Gn.lst g l mo).enc] ∧ (Gn.lst g l mo).WF ∧ g.dep ≤ k ∧ res = outD (valueM r (.lst g l mo) n)
def rRepd (k : Nat) (row : PyData) (u : Int) (ds : List PyData) (res : Out) : Prop := ∃ (r : List Int) (n : Nat) (a b : Gn), row = encR r ∧ u = n ∧ ds = [(Gn.rep a b).enc] ∧ (Gn.rep a b).WF ∧ a.dep ≤ k ∧ b.dep ≤ k ∧ res = outD (valueM r (.rep a b) n)
def rKept (k : Nat) (row : PyData) (u : Int) (ds : List PyData) (res : Out) : Prop := ∃ (r : List Int) (n : Nat) (g : Gn) (c : Cn), row = encR r ∧ u = n ∧ ds = [(Gn.kept g c).enc] ∧ (Gn.kept g c).WF ∧ g.dep ≤ k ∧ res = outD (valueM r (.kept g c) n)
theorem outD_ok {x : Except PyData (PyData × Nat)} {d : PyData} {u' : Int} (h : outD x = .ok (d, u')) : ∃ c : Nat, u' = c ∧ x = .ok (d, c) := by
  cases x with
  | error o => cases h
  | ok p =>
    obtain ⟨d', c⟩ := p
    cases h
    exact ⟨c, rfl, rfl⟩
theorem outD_err {x : Except PyData (PyData × Nat)} {o : PyData} (h : outD x = .error o) : x = .error o := by
  cases x with
  | error o' => cases h; rfl
  | ok p => cases h
theorem outI_ok {x : Except PyData (Int × Nat)} {d : PyData} {u' : Int} (h : outI x = .ok (d, u')) : ∃ (i : Int) (c : Nat), d = .int i ∧ u' = c ∧ x = .ok (i, c) := by
  cases x with
  | error o => cases h
  | ok p =>
    obtain ⟨d', c⟩ := p
    cases h
    exact ⟨_, _, rfl, rfl, rfl⟩
theorem outI_err {x : Except PyData (Int × Nat)} {o : PyData} (h : outI x = .error o) : x = .error o := by
  cases x with
  | error o' => cases h; rfl
  | ok p => cases h
/-- what is before it, then it -/
def preM (ys : List PyData) (x : Except PyData (List PyData × Nat)) : Except PyData (List PyData × Nat) :=
  match x with
  | .error o => .error o
  | .ok (zs, u) => .ok (ys ++ zs, u)
theorem preM_app (ys zs : List PyData) (x : Except PyData (List PyData × Nat)) : preM ys (preM zs x) = preM (ys ++ zs) x := by
  cases x with
  | error o => rfl
  | ok p =>
    show Except.ok (ys ++ (zs ++ p.1), p.2) = Except.ok ((ys ++ zs) ++ p.1, p.2)
    rw [List.append_assoc]
theorem preM_nil (x : Except PyData (List PyData × Nat)) : preM [] x = x := by
  cases x <;> rfl
theorem lst_val {r : List Int} {g : Gn} {l mo n c : Nat} {ds : List PyData} (h : timesM (valueM r g) l n = .ok (ds, c)) : valueM r (.lst g l mo) n = match moreM r (valueM r g) (mo - l) c with
    | .error o => .error o
    | .ok (zs, u) => .ok (.tuple (ds ++ zs), u) := by
  show (match timesM (valueM r g) l n with | .error e => _ | .ok (xs, u1) => _) = _
  rw [h]
  try
    show (match moreM r (valueM r g) (mo - l) c with | .error e => _ | .ok (ys, u2) => _) = _
    cases moreM r (valueM r g) (mo - l) c <;> rfl
section
variable {P : Program} {w : World} {K : PySem.W.Frag} {mg : Str → Option Value} {base : Heap} {T : List TabN} {f C S fI : Addr} {fd : FuncData}
abbrev NLst : List Str := ["self", "generator", "_", "part", "least", "most", "found"]
theorem scLst : FnScope NLst ["self", "generator"] (defScope (mth 3)) := ⟨rfl, rfl, rfl, by decide +kernel, rfl, by decide +kernel, by decide +kernel⟩
theorem ok_lst {k j : Nat} (hj : 2 ≤ j) (D : MetK K C "listed" "Draw.listed" 3 ["self", "generator"] f fd) (m : MgN mg) (W : DrawC P K mg C S fI) (MV : MCal P w K mg base C j "value" (spM T C S (rVal k))) (MC : MCal P w K mg base C 2 "choice" (spM T C S rChoice)) :
    FnOk P w K mg base (L2.CX P w) (j + 1) f fd ["self", "generator"] (spM T C S (rLst k)) := by
  refine fn_m D.fn scLst (fun row u ds res ⟨r, n, g, l, mo, _, _, e, _⟩ => by rw [e]; rfl) (fun cdv A outer s H E G p row u ds res hr hcd hR hE => ?_)
  obtain ⟨r, n, g, l, mo, rfl, rfl, rfl, hw, hd, rfl⟩ := hR
  obtain ⟨hg, hlm, hm6⟩ : g.WF ∧ l ≤ mo ∧ mo ≤ 6 := hw
  refine tr_asgG (ev_var 1 (d := (Gn.lst g l mo).enc) rfl) (evG_tup (ds := [.str "list", g.enc, .int l, .int mo]) rfl (evGs_cons (evG_name 2 scLst.nd) (evGs_cons (evG_name 3 scLst.nd) (evGs_cons (evG_name 4 scLst.nd) (evGs_cons (evG_name 5 scLst.nd) evGs_nil))))) ?_
  refine tr_setLcC (E := E) (n := 0) (row := encR r) (u0 := n) (own := [("_", 2)]) 6 [2] (fun j ds u => ∃ c : Nat, u = c ∧ timesM (valueM r g) j n = .ok (ds, c)) rfl rfl takes_m rfl scLst.nd (blkOk_by (N := NLst) (sc := defScope (mth 3)) (by decide +kernel)) rfl rfl ⟨n, rfl, rfl⟩
    (evI_range1 m.range (ev_var 4 rfl) ⟨by omega, by omega⟩) (fun i y ds u hy ⟨c, hu, hc⟩ => ?_) (by rw [rangeD_length]; show (l : Int).toNat < sizeLine; rw [Int.toNat_natCast, sizeLine_eq]; omega) (fun ds u ⟨c, hu, hc⟩ hl => ?_) (sw_true rfl rfl rfl rfl)
  · subst hu
    obtain ⟨hjl, rfl⟩ := rangeD_get hy
    rw [Int.toNat_natCast] at hjl
    refine ⟨_, [2], fun _ h => h, fun s H0 C9 cl fp xe => ⟨evG_name 2 scLst.nd, fun pass => ?_⟩⟩
    refine evC_meth 0 j MV hr W.cls pass (evCA_of (evA_cons (ev_var 3 rfl) evA_nil) ⟨encR r, c, outD (valueM r g c), rfl, ⟨r, c, g, rfl, rfl, rfl, hg, hd, rfl⟩, fun d u' e => ?_, fun o e => hE o ?_⟩) ⟨_, _, rfl⟩
    · obtain ⟨c', rfl, e9⟩ := outD_ok e
      exact ⟨_, rfl, c', rfl, timesM_snoc hc e9⟩
    · have e := outD_err e
      show outD (valueM r (.lst g l mo) n) = _
      unfold valueM
      rw [timesM_err hc e hjl]
      rfl
  · subst hu
    rw [rangeD_length, Int.toNat_natCast] at hc
    have hdl : ds.length = l := timesM_len hc
    have fin : ∀ (ys : List PyData) (c' : Nat), moreM r (valueM r g) (mo - l) c = .ok (ys, c') → outD (valueM r (.lst g l mo) n) = .ok (.tuple (ds ++ ys), (c' : Int)) := fun ys c' e => by
      rw [lst_val hc, e]
      rfl
    have bad : ∀ o, moreM r (valueM r g) (mo - l) c = .error o → outD (valueM r (.lst g l mo) n) = .error o := fun o e => by
      rw [lst_val hc, e]
      rfl
    refine tr_whileC (p := p) (passes_of rfl) (fun m δ => ∃ (ys : List PyData) (c' : Nat), ys.length + m = mo - l ∧ moreM r (valueM r g) (mo - l) c = preM ys (moreM r (valueM r g) m c') ∧
      δ = [.obj p (encR r) c', .d (Gn.lst g l mo).enc, .d (.str "list"), .d g.enc, .d (.int l), .d (.int mo), .own (ds ++ ys)]) (mo - l) ⟨[], c, Nat.zero_add _, (preM_nil _).symm, by rw [List.append_nil]; rfl⟩ ?_
    rintro q δ ⟨ys, c', hm, hpre, rfl⟩
    have el : (ds ++ ys).length = l + ys.length := by rw [List.length_append, hdl]
    have leave : ∀ (δ : List SD) (ys : List PyData) (c' : Nat), moreM r (valueM r g) (mo - l) c = .ok (ys, c') → δ = [.obj p (encR r) c', .d (Gn.lst g l mo).enc, .d (.str "list"), .d g.enc, .d (.int l), .d (.int mo), .own (ds ++ ys)] → _ := fun δ ys c' e hδ =>
      show Tr (cxOf (L2.CX P w) P w K mg base NLst "Draw.listed" (defScope (mth 3)) f cdv A outer s H E) ⟨T, mp p, C, G, H⟩ δ [.Return (some (.Call (.Name "tuple" ⟨102, 15, 102, 20⟩) [.Name "found" ⟨102, 21, 102, 26⟩] [] ⟨102, 15, 102, 27⟩)) ⟨102, 8, 102, 27⟩]
        { nx := fun _ => False, rt := fun r1 => ∃ u', outD (valueM r (.lst g l mo) n) = .ok (r1, u'), ro := fun G2 H2 => ∃ d u', outD (valueM r (.lst g l mo) n) = .ok (d, u') ∧ ObjAt C G2 H2 p (encR r) u' } by
      subst hδ
      refine tr_freeze 6 rfl (tr_ret (ev_tupleL m.tuple (ev_var 6 rfl)) ⟨_, fin ys c' e⟩ fun σ G2 H2 s2 => ⟨_, _, fin ys c' e, (s2.objAt (n := 0) rfl).2.2.2⟩)
    refine evCB_and2 (evB_cmpI (ev_lenO 6 m.len rfl) (ev_var 5 rfl)) (fun hb => ⟨(fun z => nomatch z), fun _ => ?_⟩) (fun hb => ?_)
    · have hb : ¬ ((ds ++ ys).length : Int) < mo := by
        have h := hb
        simp only [cmpI, decide_eq_false_iff_not] at h
        exact h
      have q0 : q = 0 := by omega
      subst q0
      refine leave _ (ys ++ []) c' ?_ (by rw [List.append_nil])
      rw [hpre]
      rfl
    · have hb : ((ds ++ ys).length : Int) < mo := by
        have h := hb
        simp only [cmpI, decide_eq_true_eq] at h
        exact h
      obtain ⟨q, rfl⟩ : ∃ q', q = q' + 1 := ⟨q - 1, by omega⟩
      refine evCB_cmpI (evC_meth 0 2 MC (hr.mono hj) W.cls passes_m (evCA_of (evA_cons ev_int evA_nil) ⟨encR r, c', outI (choiceM r 1 c'), rfl, ⟨r, c', 1, rfl, rfl, rfl, rfl⟩, fun d u' e' => ?_, fun o e => hE o (bad o ?_)⟩) ⟨_, _, rfl⟩)
      · obtain ⟨i, c2, rfl, rfl, e⟩ := outI_ok e'
        refine ⟨i, 1, rfl, ev_int, fun hi => ?_, fun hi => ?_⟩
        · have hi : i = 1 := by
            have h := hi
            simp only [cmpI, decide_eq_true_eq] at h
            exact h
          subst hi
          refine tr_appendC (p := p) (xs := ds ++ ys) 6 rfl (evC_meth 0 j MV hr W.cls passes_m (evCA_of (evA_cons (ev_var 3 rfl) evA_nil) ⟨encR r, c2, outD (valueM r g c2), rfl, ⟨r, c2, g, rfl, rfl, rfl, hg, hd, rfl⟩, fun d u' e2' => ?_, fun o e2 => hE o (bad o ?_)⟩) ⟨_, _, rfl⟩) (by rw [el, sizeLine_eq]; omega)
          · obtain ⟨c3, rfl, e2⟩ := outD_ok e2'
            refine ⟨rfl, tr_nil ⟨q, Nat.lt_succ_self _, ys ++ [d], c3, by rw [List.length_append]; show ys.length + 1 + q = _; omega, ?_, by rw [← List.append_assoc]; rfl⟩⟩
            rw [hpre, ← preM_app]
            congr 1
            show (match choiceM r 1 c' with | .error e => _ | .ok (c, u1) => _) = _
            rw [e]
            show (if (1 : Int) = 1 then _ else _) = _
            rw [if_pos rfl]
            show (match valueM r g c2 with | .error e => _ | .ok (c, u1) => _) = _
            rw [e2]
            rfl
          · have e2 := outD_err e2
            rw [hpre]
            have e3 : moreM r (valueM r g) (q + 1) c' = .error o := by
              show (match choiceM r 1 c' with | .error e => _ | .ok (c, u1) => _) = _
              rw [e]
              show (if (1 : Int) = 1 then _ else _) = _
              rw [if_pos rfl]
              show (match valueM r g c2 with | .error e => _ | .ok (c, u1) => _) = _
              rw [e2]
            rw [e3]
            rfl
        · have hi : ¬ i = 1 := by
            have h := hi
            simp only [cmpI, decide_eq_false_iff_not] at h
            exact h
          refine leave _ (ys ++ []) c2 ?_ (by rw [List.append_nil]; rfl)
          rw [hpre]
          have e3 : moreM r (valueM r g) (q + 1) c' = .ok ([], c2) := by
            show (match choiceM r 1 c' with | .error e => _ | .ok (c, u1) => _) = _
            rw [e]
            show (if i = 1 then _ else _) = _
            rw [if_neg hi]
          rw [e3]
          rfl
      · have e := outI_err e
        rw [hpre]
        have e3 : moreM r (valueM r g) (q + 1) c' = .error o := by
          show (match choiceM r 1 c' with | .error e => _ | .ok (c, u1) => _) = _
          rw [e]
        rw [e3]
        rfl
end
end CR

set_option Elab.async false
set_option linter.all false
set_option maxRecDepth 100000
set_option maxHeartbeats 1000000
/-! # Walks: repeated, kept, value -/
namespace CR
open PySem L2 Evl PyProof.Rows
section
variable {P : Program} {w : World} {K : PySem.W.Frag} {mg : Str → Option Value} {base : Heap} {T : List TabN} {f C S fI : Addr} {fd : FuncData}
abbrev NRep : List Str := ["self", "generator", "many", "_"]
theorem scRep : FnScope NRep ["self", "generator"] (defScope (mth 4)) := ⟨rfl, rfl, rfl, by decide +kernel, rfl, by decide +kernel, by decide +kernel⟩
theorem ok_rep {k j : Nat} (hj : 2 ≤ j) (D : MetK K C "repeated" "Draw.repeated" 4 ["self", "generator"] f fd) (m : MgN mg) (W : DrawC P K mg C S fI) (MV : MCal P w K mg base C j "value" (spM T C S (rVal k))) (MR : MCal P w K mg base C 2 "refuse" (spM T C S rRefuse)) :
    FnOk P w K mg base (L2.CX P w) (j + 1) f fd ["self", "generator"] (spM T C S (rRepd k)) := by
  refine fn_m D.fn scRep (fun row u ds res ⟨r, n, a, b, _, _, e, _⟩ => by rw [e]; rfl) (fun cdv A outer s H E G p row u ds res hr hcd hR hE => ?_)
  obtain ⟨r, n, a, b, rfl, rfl, rfl, hw, hd, hd2, rfl⟩ := hR
  obtain ⟨ha, hb, hint⟩ : a.WF ∧ b.WF ∧ ∀ v, a.Val v → ∃ i, v = .int i := hw
  refine tr_asgC (p := p) 2 (evC_meth 0 j MV hr W.cls passes_m (evCA_of (evA_cons (ev_ixT (xs := [.str "repeat", a.enc, b.enc]) (d := a.enc) (ev_var 1 rfl) ev_int rfl) evA_nil) ⟨encR r, n, outD (valueM r a n), rfl, ⟨r, n, a, rfl, rfl, rfl, ha, hd, rfl⟩, fun d u' e' => ?_, fun o e' => hE o ?_⟩) ⟨_, _, rfl⟩) scRep.nd
  · obtain ⟨c, rfl, e⟩ := outD_ok e'
    obtain ⟨i, rfl⟩ := hint d (valueM_val a ha e)
    obtain ⟨t6, h6⟩ := m.long
    refine tr_if0 (evB_not (evB_chain (l := 6) ev_int (ev_var 2 rfl) (ev_globI h6))) (fun hc => ?_) (fun hc => ?_)
    · have hc : ¬ (0 ≤ i ∧ i ≤ 6) := by
        have h := hc
        simp [cmpI] at h
        omega
      refine tr_dropC (p := p) (evC_meth0 (E := E) 0 2 MR (hr.mono hj) W.cls passes_m rfl ⟨c, rfl, rfl, rfl⟩ (fun d u' z => nomatch z) (fun o z => hE o ?_))
      rw [← z]
      show outD (match valueM r a n with | .error e => _ | .ok (x, u1) => _) = _
      rw [e]
      show outD (if 0 ≤ i ∧ i ≤ 6 then _ else _) = _
      rw [if_neg hc]
      rfl
    · have hc : 0 ≤ i ∧ i ≤ 6 := by
        have h := hc
        simp [cmpI] at h
        exact h
      have hv : ∀ {x}, timesM (valueM r b) i.toNat c = x → valueM r (.rep a b) n = match x with | .error e => .error e | .ok (xs, u2) => .ok (.tuple xs, u2) := fun {x} ex => by
        show (match valueM r a n with | .error e => _ | .ok (x, u1) => _) = _
        rw [e]
        show (if 0 ≤ i ∧ i ≤ 6 then _ else _) = _
        rw [if_pos hc]
        show (match timesM (valueM r b) i.toNat c with | .error e => _ | .ok (xs, u2) => _) = _
        rw [ex]
      refine tr_retC (p := p) (evC_tupleL m.tuple (evC_lc (E := E) (n := 0) (row := encR r) (u0 := c) (own := [("_", 3)]) [3] (fun q ds u => ∃ c2 : Nat, u = c2 ∧ timesM (valueM r b) q c = .ok (ds, c2)) rfl rfl takes_m rfl scRep.nd (blkOk_by (N := NRep) (sc := defScope (mth 4)) (by decide +kernel)) rfl rfl ⟨c, rfl, rfl⟩
        (evI_range1 m.range (ev_var 2 rfl) ⟨by omega, by omega⟩) (fun q y ds u hy ⟨c2, hu, hc2⟩ => ?_) (by rw [rangeD_length, sizeLine_eq]; omega) (fun ds u ⟨c2, hu, hc2⟩ hl => ⟨ds, rfl, ?_, fun σ G2 H2 s2 => ?_⟩)))
      · subst hu
        obtain ⟨hjl, rfl⟩ := rangeD_get hy
        refine ⟨_, [3], fun _ h => h, fun s H0 C9 cl fp xe => ⟨evG_name 3 scRep.nd, fun pass => ?_⟩⟩
        refine evC_meth 0 j MV hr W.cls pass (evCA_of (evA_cons (ev_ixT (xs := [.str "repeat", a.enc, b.enc]) (d := b.enc) (ev_var 1 rfl) ev_int rfl) evA_nil) ⟨encR r, c2, outD (valueM r b c2), rfl, ⟨r, c2, b, rfl, rfl, rfl, hb, hd2, rfl⟩, fun d u' e => ?_, fun o e => hE o ?_⟩) ⟨_, _, rfl⟩
        · obtain ⟨c', rfl, e9⟩ := outD_ok e
          exact ⟨_, rfl, c', rfl, timesM_snoc hc2 e9⟩
        · have e := outD_err e
          rw [hv (timesM_err hc2 e hjl)]
          rfl
      · rw [rangeD_length] at hc2
        refine ⟨c2, ?_⟩
        rw [hv hc2]
        rfl
      · rw [rangeD_length] at hc2
        subst hu
        exact ⟨_, c2, by rw [hv hc2]; rfl, (s2.objAt (n := 0) rfl).2.2.2⟩
  · have e := outD_err e'
    show outD (match valueM r a n with | .error e => _ | .ok (x, u1) => _) = _
    rw [e]
    rfl
theorem scKept : FnScope ["self", "generator", "found"] ["self", "generator"] (defScope (mth 5)) := ⟨rfl, rfl, rfl, by decide +kernel, rfl, by decide +kernel, by decide +kernel⟩
theorem ok_kept {k j : Nat} (hj : 17 ≤ j) (D : MetK K C "kept" "Draw.kept" 5 ["self", "generator"] f fd) (m : MgN mg) (W : DrawC P K mg C S fI) (MV : MCal P w K mg base C j "value" (spM T C S (rVal k))) (MR : MCal P w K mg base C 2 "refuse" (spM T C S rRefuse)) (hh : Cal P w K mg base CX0 17 "holds" (spD T (rHolds 4))) :
    FnOk P w K mg base (L2.CX P w) (j + 1) f fd ["self", "generator"] (spM T C S (rKept k)) := by
  refine fn_m D.fn scKept (fun row u ds res ⟨r, n, g, c, _, _, e, _⟩ => by rw [e]; rfl) (fun cdv A outer s H E G p row u ds res hr hcd hR hE => ?_)
  obtain ⟨r, n, g, c, rfl, rfl, rfl, hw, hd, rfl⟩ := hR
  obtain ⟨hg, hcd4, hfit⟩ : g.WF ∧ c.dep ≤ 4 ∧ ∀ v, g.Val v → c.Fit v := hw
  refine tr_asgC (p := p) 2 (evC_meth 0 j MV hr W.cls passes_m (evCA_of (evA_cons (ev_ixT (xs := [.str "kept", g.enc, c.enc]) (d := g.enc) (ev_var 1 rfl) ev_int rfl) evA_nil) ⟨encR r, n, outD (valueM r g n), rfl, ⟨r, n, g, rfl, rfl, rfl, hg, hd, rfl⟩, fun d u' e' => ?_, fun o e' => hE o ?_⟩) ⟨_, _, rfl⟩) scKept.nd
  · obtain ⟨c1, rfl, e⟩ := outD_ok e'
    have hv : valueM r (.kept g c) n = if c.val d = true then .ok (d, c1) else .error (outRefused c1) := by
      show (match valueM r g n with | .error e => _ | .ok (x, u1) => _) = _
      rw [e]
    refine tr_if0 (evB_not (evB_val (ev_call hh (hr.mono hj) (evA_cons (ev_ixT (xs := [.str "kept", g.enc, c.enc]) (d := c.enc) (ev_var 1 rfl) ev_int rfl) (evA_cons (ev_var 2 rfl) evA_nil)) ⟨c, d, rfl, hfit d (valueM_val g hg e), hcd4, rfl⟩))) (fun hc => ?_) (fun hc => ?_)
    · have hc : ¬ c.val d = true := by
        have h := hc
        simpa using h
      refine tr_dropC (p := p) (evC_meth0 (E := E) 0 2 MR (hr.mono (by omega)) W.cls passes_m rfl ⟨c1, rfl, rfl, rfl⟩ (fun d u' z => nomatch z) (fun o z => hE o ?_))
      rw [← z, hv, if_neg hc]
      rfl
    · have hc : c.val d = true := by
        have h := hc
        simpa using h
      rw [if_pos hc] at hv
      refine tr_ret (ev_var 2 rfl) ⟨c1, by rw [hv]; rfl⟩ fun σ G2 H2 s2 => ⟨_, c1, by rw [hv]; rfl, (s2.objAt (n := 0) rfl).2.2.2⟩
  · have e := outD_err e'
    show outD (match valueM r g n with | .error e => _ | .ok (x, u1) => _) = _
    rw [e]
    rfl
end
end CR

set_option Elab.async false
set_option linter.all false
set_option maxRecDepth 100000
set_option maxHeartbeats 1000000
/-! # Walks: value -/
namespace CR
open PySem L2 Evl PyProof.Rows
section
variable {P : Program} {w : World} {K : PySem.W.Frag} {mg : Str → Option Value} {base : Heap} {T : List TabN} {f C S fI : Addr} {fd : FuncData}
abbrev NVal : List Str := ["self", "generator", "name", "part"]
theorem scVal : FnScope NVal ["self", "generator"] (defScope (mth 6)) := ⟨rfl, rfl, rfl, by decide +kernel, rfl, by decide +kernel, by decide +kernel⟩
def pairΨ (r : List Int) (a b : Gn) (n : Nat) (q : Nat) (ds : List PyData) (u : Int) : Prop :=
  (q = 0 ∧ ds = [] ∧ u = n) ∨ (q = 1 ∧ ∃ (x : PyData) (c : Nat), ds = [x] ∧ u = c ∧ valueM r a n = .ok (x, c)) ∨ (q = 2 ∧ ∃ (x y : PyData) (c1 c : Nat), ds = [x, y] ∧ u = c ∧ valueM r a n = .ok (x, c1) ∧ valueM r b c1 = .ok (y, c))
theorem pair_e1 {r : List Int} {a b : Gn} {n : Nat} {o : PyData} (h : valueM r a n = .error o) : valueM r (.pair a b) n = .error o := by
  show (match valueM r a n with | .error e => _ | .ok (x, u1) => _) = _
  rw [h]
theorem pair_e2 {r : List Int} {a b : Gn} {n c : Nat} {x o : PyData} (h : valueM r a n = .ok (x, c)) (h2 : valueM r b c = .error o) : valueM r (.pair a b) n = .error o := by
  show (match valueM r a n with | .error e => _ | .ok (x, u1) => _) = _
  rw [h]
  show (match valueM r b c with | .error e => _ | .ok (x, u1) => _) = _
  rw [h2]
theorem pair_ok {r : List Int} {a b : Gn} {n c c2 : Nat} {x y : PyData} (h : valueM r a n = .ok (x, c)) (h2 : valueM r b c = .ok (y, c2)) : valueM r (.pair a b) n = .ok (.tuple [x, y], c2) := by
  show (match valueM r a n with | .error e => _ | .ok (x, u1) => _) = _
  rw [h]
  show (match valueM r b c with | .error e => _ | .ok (x, u1) => _) = _
  rw [h2]
theorem ok_value {k j : Nat} (hj : 2 ≤ j) (D : MetK K C "value" "Draw.value" 6 ["self", "generator"] f fd) (m : MgN mg) (W : DrawC P K mg C S fI) (MC : MCal P w K mg base C 2 "choice" (spM T C S rChoice)) (MV : ∀ i, i < k → MCal P w K mg base C j "value" (spM T C S (rVal i))) (ML : ∀ i, i < k → MCal P w K mg base C j "listed" (spM T C S (rLst i)))
    (MK : ∀ i, i < k → MCal P w K mg base C j "kept" (spM T C S (rKept i))) (MP : ∀ i, i < k → MCal P w K mg base C j "repeated" (spM T C S (rRepd i))) (ht : Cal P w K mg base CX0 1 "turn" (spD T rTurn)) :
    FnOk P w K mg base (L2.CX P w) (j + 1) f fd ["self", "generator"] (spM T C S (rVal k)) := by
  refine fn_m D.fn scVal (fun row u ds res ⟨r, n, g, _, _, e, _⟩ => by rw [e]; rfl) (fun cdv A outer s H E G p row u ds res hr hcd hR hE => ?_)
  obtain ⟨r, n, g, rfl, rfl, rfl, hw, hd, rfl⟩ := hR
  cases g with
  | int lo hi =>
    have ev : ∀ {x}, choiceM r (hi - lo) n = x → valueM r (.int lo hi) n = match x with | .error e => .error e | .ok (c, u1) => .ok (.int (lo + c), u1) := fun {x} ex => by
      show (match choiceM r (hi - lo) n with | .error e => _ | .ok (c, u1) => _) = _
      rw [ex]
    refine tr_asg 2 (ev_ixT (xs := [.str "int", .int lo, .int hi]) (d := .str "int") (ev_var 1 rfl) ev_int rfl) scVal.nd ?_
    refine tr_ifYes 2 rfl (tr_retC (p := p) (evC_add (ev_ixT (xs := [.str "int", .int lo, .int hi]) (d := .int lo) (ev_var 1 rfl) ev_int rfl) (evC_meth 0 2 MC (hr.mono hj) W.cls passes_m
      (evCA_of (evA_cons (ev_sub (ev_ixT (xs := [.str "int", .int lo, .int hi]) (d := .int hi) (ev_var 1 rfl) ev_int rfl) (ev_ixT (xs := [.str "int", .int lo, .int hi]) (d := .int lo) (ev_var 1 rfl) ev_int rfl)) evA_nil)
        ⟨encR r, n, outI (choiceM r (hi - lo) n), rfl, ⟨r, n, hi - lo, rfl, rfl, rfl, rfl⟩, fun d u' e' => ?_, fun o e' => hE o ?_⟩) ⟨_, _, rfl⟩)))
    · obtain ⟨i, c, rfl, rfl, e⟩ := outI_ok e'
      have e := ev e
      exact ⟨i, rfl, ⟨c, by rw [e]; rfl⟩, fun σ G2 H2 s2 => ⟨_, c, by rw [e]; rfl, (s2.objAt (n := 0) rfl).2.2.2⟩⟩
    · rw [ev (outI_err e')]
      rfl
  | pair a b =>
    obtain ⟨ha, hb⟩ : a.WF ∧ b.WF := hw
    have hd : max a.dep b.dep + 1 ≤ k := hd
    obtain ⟨i, rfl⟩ : ∃ i, k = i + 1 := ⟨k - 1, by omega⟩
    refine tr_asg 2 (ev_ixT (xs := [.str "tuple", .tuple [a.enc, b.enc]]) (d := .str "tuple") (ev_var 1 rfl) ev_int rfl) scVal.nd ?_
    refine tr_ifNo 2 rfl (tr_ifNo 2 rfl (tr_ifYes 2 rfl ?_))
    refine tr_retC (p := p) (evC_tupleL m.tuple (evC_lc (E := E) (n := 0) (row := encR r) (u0 := n) (own := [("part", 3)]) (ys := [a.enc, b.enc]) [3] (pairΨ r a b n) rfl rfl takes_m rfl scVal.nd (blkOk_by (N := NVal) (sc := defScope (mth 6)) (by decide +kernel)) rfl rfl (.inl ⟨rfl, rfl, rfl⟩)
      (evI_tup (ev_ixT (xs := [.str "tuple", .tuple [a.enc, b.enc]]) (d := .tuple [a.enc, b.enc]) (ev_var 1 rfl) ev_int rfl)) (fun q y ds u hy hΨ => ?_) (by show 2 < sizeLine; rw [sizeLine_eq]; omega) (fun ds u hΨ hl => ?_)))
    · rcases hΨ with ⟨rfl, rfl, rfl⟩ | ⟨rfl, x, c, rfl, rfl, ex⟩ | ⟨rfl, _⟩
      · cases hy
        refine ⟨_, [3], fun _ h => h, fun s H0 C9 cl fp xe => ⟨evG_name 3 scVal.nd, fun pass => ?_⟩⟩
        refine evC_meth 0 j (MV i (Nat.lt_succ_self i)) hr W.cls pass (evCA_of (evA_cons (ev_var 3 rfl) evA_nil) ⟨encR r, n, outD (valueM r a n), rfl, ⟨r, n, a, rfl, rfl, rfl, ha, by omega, rfl⟩, fun d u' e => ?_, fun o e => hE o ?_⟩) ⟨_, _, rfl⟩
        · obtain ⟨c', rfl, e9⟩ := outD_ok e
          exact ⟨_, rfl, .inr (.inl ⟨rfl, d, c', rfl, rfl, e9⟩)⟩
        · rw [pair_e1 (outD_err e)]
          rfl
      · cases hy
        refine ⟨_, [3], fun _ h => h, fun s H0 C9 cl fp xe => ⟨evG_name 3 scVal.nd, fun pass => ?_⟩⟩
        refine evC_meth 0 j (MV i (Nat.lt_succ_self i)) hr W.cls pass (evCA_of (evA_cons (ev_var 3 rfl) evA_nil) ⟨encR r, c, outD (valueM r b c), rfl, ⟨r, c, b, rfl, rfl, rfl, hb, by omega, rfl⟩, fun d u' e => ?_, fun o e => hE o ?_⟩) ⟨_, _, rfl⟩
        · obtain ⟨c', rfl, e9⟩ := outD_ok e
          exact ⟨_, rfl, .inr (.inr ⟨rfl, x, d, c, c', rfl, rfl, ex, e9⟩)⟩
        · rw [pair_e2 ex (outD_err e)]
          rfl
      · cases hy
    · rcases hΨ with ⟨z, _⟩ | ⟨z, _⟩ | ⟨_, x, y, c1, c, rfl, rfl, ex, ey⟩
      · cases z
      · cases z
      · have e : valueM r (.pair a b) n = .ok (.tuple [x, y], c) := pair_ok ex ey
        exact ⟨_, rfl, ⟨c, by rw [e]; rfl⟩, fun σ G2 H2 s2 => ⟨_, c, by rw [e]; rfl, (s2.objAt (n := 0) rfl).2.2.2⟩⟩
  | lst g l mo =>
    have hd : g.dep + 1 ≤ k := hd
    obtain ⟨i, rfl⟩ : ∃ i, k = i + 1 := ⟨k - 1, by omega⟩
    refine tr_asg 2 (ev_ixT (xs := [.str "list", g.enc, .int l, .int mo]) (d := .str "list") (ev_var 1 rfl) ev_int rfl) scVal.nd ?_
    refine tr_ifNo 2 rfl (tr_ifNo 2 rfl (tr_ifNo 2 rfl (tr_ifYes 2 rfl ?_)))
    refine tr_retC (p := p) (evC_meth 0 j (ML i (Nat.lt_succ_self i)) hr W.cls passes_m (evCA_of (evA_cons (ev_var 1 rfl) evA_nil) ⟨encR r, n, outD (valueM r (.lst g l mo) n), rfl, ⟨r, n, g, l, mo, rfl, rfl, rfl, hw, by omega, rfl⟩, fun d u' e => ?_, fun o e => hE o e⟩) ⟨_, _, rfl⟩)
    exact ⟨⟨u', e⟩, fun σ G2 H2 s2 => ⟨d, u', e, (s2.objAt (n := 0) rfl).2.2.2⟩⟩
  | one a b =>
    obtain ⟨ha, hb⟩ : a.WF ∧ b.WF := hw
    have hd : max a.dep b.dep + 1 ≤ k := hd
    obtain ⟨i, rfl⟩ : ∃ i, k = i + 1 := ⟨k - 1, by omega⟩
    have ev : ∀ {x}, choiceM r 1 n = x → valueM r (.one a b) n = match x with | .error e => .error e | .ok (c, u1) => if c = 0 then valueM r a u1 else valueM r b u1 := fun {x} ex => by
      show (match choiceM r 1 n with | .error e => _ | .ok (x, u1) => _) = _
      rw [ex]
    refine tr_asg 2 (ev_ixT (xs := [.str "one", .tuple [a.enc, b.enc]]) (d := .str "one") (ev_var 1 rfl) ev_int rfl) scVal.nd ?_
    refine tr_ifNo 2 rfl (tr_ifNo 2 rfl (tr_ifNo 2 rfl (tr_ifNo 2 rfl (tr_ifYes 2 rfl ?_))))
    have gen : ∀ {B δ X}, EvA X B δ [] [] := fun {B δ X} => evA_nil
    refine tr_retC (p := p) (evC_meth 0 j (MV i (Nat.lt_succ_self i)) hr W.cls passes_m (evCA_cons (evC_ixT (xs := [a.enc, b.enc]) (ev_ixT (xs := [.str "one", .tuple [a.enc, b.enc]]) (d := .tuple [a.enc, b.enc]) (ev_var 1 rfl) ev_int rfl)
      (evC_meth 0 2 MC (hr.mono hj) W.cls passes_m (evCA_of (evA_cons (ev_sub (ev_lenT m.len (ev_ixT (xs := [.str "one", .tuple [a.enc, b.enc]]) (d := .tuple [a.enc, b.enc]) (ev_var 1 rfl) ev_int rfl)) ev_int) evA_nil)
        ⟨encR r, n, outI (choiceM r 1 n), rfl, ⟨r, n, 1, rfl, rfl, rfl, rfl⟩, fun d u' e' => ?_, fun o e' => hE o ?_⟩) ⟨_, _, rfl⟩))) ⟨_, _, rfl⟩)
    · obtain ⟨x, c, rfl, rfl, e⟩ := outI_ok e'
      obtain ⟨_, h0, h1, _⟩ := choiceM_ok e
      by_cases hx : x = 0
      · subst hx
        have e3 := ev e
        rw [show (match (Except.ok ((0 : Int), c) : Except PyData (Int × Nat)) with | .error e => .error e | .ok (c, u1) => if c = 0 then valueM r a u1 else valueM r b u1) = valueM r a c from if_pos rfl] at e3
        refine ⟨0, a.enc, rfl, rfl, evCA_of evA_nil ⟨encR r, c, outD (valueM r a c), rfl, ⟨r, c, a, rfl, rfl, rfl, ha, by omega, rfl⟩, fun d u' e => ?_, fun o e => hE o (by rw [e3]; exact e)⟩⟩
        exact ⟨⟨u', by rw [e3]; exact e⟩, fun σ G2 H2 s2 => ⟨d, u', by rw [e3]; exact e, (s2.objAt (n := 0) rfl).2.2.2⟩⟩
      · have hx1 : x = 1 := by omega
        subst hx1
        have e3 := ev e
        rw [show (match (Except.ok ((1 : Int), c) : Except PyData (Int × Nat)) with | .error e => .error e | .ok (c, u1) => if c = 0 then valueM r a u1 else valueM r b u1) = valueM r b c from if_neg (by decide)] at e3
        refine ⟨1, b.enc, rfl, rfl, evCA_of evA_nil ⟨encR r, c, outD (valueM r b c), rfl, ⟨r, c, b, rfl, rfl, rfl, hb, by omega, rfl⟩, fun d u' e => ?_, fun o e => hE o (by rw [e3]; exact e)⟩⟩
        exact ⟨⟨u', by rw [e3]; exact e⟩, fun σ G2 H2 s2 => ⟨d, u', by rw [e3]; exact e, (s2.objAt (n := 0) rfl).2.2.2⟩⟩
    · rw [ev (outI_err e')]
      rfl
  | kept g c =>
    have hd : g.dep + 1 ≤ k := hd
    obtain ⟨i, rfl⟩ : ∃ i, k = i + 1 := ⟨k - 1, by omega⟩
    refine tr_asg 2 (ev_ixT (xs := [.str "kept", g.enc, c.enc]) (d := .str "kept") (ev_var 1 rfl) ev_int rfl) scVal.nd ?_
    refine tr_ifNo 2 rfl (tr_ifNo 2 rfl (tr_ifNo 2 rfl (tr_ifNo 2 rfl (tr_ifNo 2 rfl (tr_ifYes 2 rfl ?_)))))
    refine tr_retC (p := p) (evC_meth 0 j (MK i (Nat.lt_succ_self i)) hr W.cls passes_m (evCA_of (evA_cons (ev_var 1 rfl) evA_nil) ⟨encR r, n, outD (valueM r (.kept g c) n), rfl, ⟨r, n, g, c, rfl, rfl, rfl, hw, by omega, rfl⟩, fun d u' e => ?_, fun o e => hE o e⟩) ⟨_, _, rfl⟩)
    exact ⟨⟨u', e⟩, fun σ G2 H2 s2 => ⟨d, u', e, (s2.objAt (n := 0) rfl).2.2.2⟩⟩
  | turned g mm =>
    have hd : g.dep + 1 ≤ k := hd
    obtain ⟨i, rfl⟩ : ∃ i, k = i + 1 := ⟨k - 1, by omega⟩
    obtain ⟨hg, hfit⟩ : g.WF ∧ ∀ v, g.Val v → mm.Fit v := hw
    have ev : ∀ {x}, valueM r g n = x → valueM r (.turned g mm) n = match x with | .error e => .error e | .ok (x, u1) => .ok (mm.val x, u1) := fun {x} ex => by
      show (match valueM r g n with | .error e => _ | .ok (x, u1) => _) = _
      rw [ex]
    refine tr_asg 2 (ev_ixT (xs := [.str "turned", g.enc, mm.enc]) (d := .str "turned") (ev_var 1 rfl) ev_int rfl) scVal.nd ?_
    refine tr_ifNo 2 rfl (tr_ifNo 2 rfl (tr_ifNo 2 rfl (tr_ifNo 2 rfl (tr_ifNo 2 rfl (tr_ifNo 2 rfl (tr_ifYes 2 rfl ?_))))))
    refine tr_retC (p := p) (evC_call ht (hr.mono (by omega)) (evCA_cons (evC_of (ev_ixT (xs := [.str "turned", g.enc, mm.enc]) (d := mm.enc) (ev_var 1 rfl) ev_int rfl) (evCA_cons
      (evC_meth 0 j (MV i (Nat.lt_succ_self i)) hr W.cls passes_m (evCA_of (evA_cons (ev_ixT (xs := [.str "turned", g.enc, mm.enc]) (d := g.enc) (ev_var 1 rfl) ev_int rfl) evA_nil) ⟨encR r, n, outD (valueM r g n), rfl, ⟨r, n, g, rfl, rfl, rfl, hg, by omega, rfl⟩, fun d u' e => ?_, fun o e => hE o ?_⟩) ⟨_, _, rfl⟩)))))
    · obtain ⟨c, rfl, e9⟩ := outD_ok e
      have e3 := ev e9
      exact evCA_of evA_nil ⟨mm.val d, ⟨mm, d, rfl, hfit d (valueM_val g hg e9), rfl⟩, ⟨c, by rw [e3]; rfl⟩, fun σ G2 H2 s2 => ⟨_, c, by rw [e3]; rfl, (s2.objAt (n := 0) rfl).2.2.2⟩⟩
    · rw [ev (outD_err e)]
      rfl
  | rep a b =>
    have hd : max a.dep b.dep + 1 ≤ k := hd
    obtain ⟨i, rfl⟩ : ∃ i, k = i + 1 := ⟨k - 1, by omega⟩
    refine tr_asg 2 (ev_ixT (xs := [.str "repeat", a.enc, b.enc]) (d := .str "repeat") (ev_var 1 rfl) ev_int rfl) scVal.nd ?_
    refine tr_ifNo 2 rfl (tr_ifNo 2 rfl (tr_ifNo 2 rfl (tr_ifNo 2 rfl (tr_ifNo 2 rfl (tr_ifNo 2 rfl (tr_ifNo 2 rfl ?_))))))
    refine tr_retC (p := p) (evC_meth 0 j (MP i (Nat.lt_succ_self i)) hr W.cls passes_m (evCA_of (evA_cons (ev_var 1 rfl) evA_nil) ⟨encR r, n, outD (valueM r (.rep a b) n), rfl, ⟨r, n, a, b, rfl, rfl, rfl, hw, by omega, by omega, rfl⟩, fun d u' e => ?_, fun o e => hE o e⟩) ⟨_, _, rfl⟩)
    exact ⟨⟨u', e⟩, fun σ G2 H2 s2 => ⟨d, u', e, (s2.objAt (n := 0) rfl).2.2.2⟩⟩
end
end CR

set_option Elab.async false
set_option linter.all false
set_option maxRecDepth 100000
set_option maxHeartbeats 1000000
/-! # Walks: Draw's __init__, draw -/
namespace CR
open PySem L2 Evl PyProof.Rows
section
variable {P : Program} {w : World} {K : PySem.W.Frag} {mg : Str → Option Value} {base : Heap} {T : List TabN} {f C S fI : Addr} {fd : FuncData}
/-- all the methods -/
structure MetsK (K : PySem.W.Frag) (C : Addr) : Prop where
  choice : ∃ f fd, MetK K C "choice" "Draw.choice" 1 ["self", "bound"] f fd
  refuse : ∃ f fd, MetK K C "refuse" "Draw.refuse" 2 ["self"] f fd
  listed : ∃ f fd, MetK K C "listed" "Draw.listed" 3 ["self", "generator"] f fd
  repeated : ∃ f fd, MetK K C "repeated" "Draw.repeated" 4 ["self", "generator"] f fd
  kept : ∃ f fd, MetK K C "kept" "Draw.kept" 5 ["self", "generator"] f fd
  value : ∃ f fd, MetK K C "value" "Draw.value" 6 ["self", "generator"] f fd
theorem cal_value (D : MetsK K C) (m : MgN mg) (W : DrawC P K mg C S fI) (ht : Cal P w K mg base CX0 1 "turn" (spD T rTurn)) (hh : Cal P w K mg base CX0 17 "holds" (spD T (rHolds 4))) : ∀ k, MCal P w K mg base C (2 * k + 21) "value" (spM T C S (rVal k)) := fun k => by
  obtain ⟨f1, fd1, d1⟩ := D.choice
  obtain ⟨f2, fd2, d2⟩ := D.refuse
  obtain ⟨f3, fd3, d3⟩ := D.listed
  obtain ⟨f4, fd4, d4⟩ := D.repeated
  obtain ⟨f5, fd5, d5⟩ := D.kept
  obtain ⟨f6, fd6, d6⟩ := D.value
  have MC := d1.cal (P := P) (w := w) (mg := mg) (base := base) (ok_choice (T := T) d1 m W)
  have MR := d2.cal (P := P) (w := w) (mg := mg) (base := base) (ok_refuse (T := T) d2 m W)
  induction k using Nat.strongRecOn with
  | _ k ih =>
    refine d6.cal (ok_value (j := 2 * k + 20) (by omega) d6 m W MC (fun i hi => (ih i hi).mono (by omega)) (fun i hi => ?_) (fun i hi => ?_) (fun i hi => ?_) ht)
    · exact (d3.cal (ok_lst (j := 2 * i + 21) (by omega) d3 m W (ih i hi) MC)).mono (by omega)
    · exact (d5.cal (ok_kept (j := 2 * i + 21) (by omega) d5 m W (ih i hi) MR hh)).mono (by omega)
    · exact (d4.cal (ok_rep (j := 2 * i + 21) (by omega) d4 m W (ih i hi) MR)).mono (by omega)
/-! ## __init__ -/
def insR (C dx : Addr) (v : V) : HO := .ins C dx [(("row" : Str), v), (("used" : Str), .int 0)]
def spInit (C : Addr) : Sp := fun vs H Q _ => ∃ (x : Addr) (v : V) (dx : Addr), vs = [.ref x, v] ∧ H x = some (.ins C dx []) ∧ Q .non (upd H x (insR C dx v))
theorem upd_upd {H : Hp} {a : Addr} {o o' : HO} : upd (upd H a o) a o' = upd H a o' := by
  funext b
  by_cases h : b = a
  · subst h; rw [upd_same, upd_same]
  · rw [upd_ne h, upd_ne h, upd_ne h]
theorem scIni : FnScope ["self", "row"] ["self", "row"] (defScope (mth 0)) := ⟨rfl, rfl, rfl, by decide +kernel, rfl, by decide +kernel, by decide +kernel⟩
theorem ok_ini (F : Fun K "__init__" "Draw.__init__" (mth 0) f fd) (W : DrawC P K mg C S fI) : FnOk P w K mg base CX0 1 f fd ["self", "row"] (spInit C) := by
  refine F.ok scIni (fun vs H Q E h => ?_) (fun cdv A outer s H vs Q E hr h => ⟨tSeq (sFld K (tVar 0) (tVar 1) "row") (sFld K (tVar 0) (tC (.int 0)) "used"), ?_, ?_⟩)
  · obtain ⟨x, v, dx, rfl, _⟩ := h
    rfl
  · exact PSs.nox (pss_cons (ps_fld (pv 0) (pv 1) rfl) (pss_one (ps_fld (pv 0) pe_int rfl)))
  · obtain ⟨x, v, dx, rfl, hx, hQ⟩ := h
    refine ⟨_, rfl, _, rfl, x, C, dx, [], rfl, hx, W.cls, W.nr, by decide, ?_⟩
    refine ⟨_, rfl, x, C, dx, _, rfl, upd_same, W.cls, W.nu, (by show 1 < 1000; decide), ?_⟩
    show Q .non _
    rw [upd_upd]
    exact hQ
end
/-! ## a method call within a try -/
section
variable {X : Cx} {CX : CXT} {k : Nat} {f C : Addr} {fd : FuncData} {ps : List Str} {sp : Sp} {E : L2.St → XK} {m : Str} {pos apos : Pos} {e o : Expr} {es : List Expr} {ta : TE} {t : TA}
theorem pe_methS {pl : Sem Bool} (he : PE X o ta) (c : Cls X.K C) (hm : Meth X.K C m f) (F : FnOk X.prog X.w X.K X.mg X.base CX k f fd ps sp) (hr : Room k X.A) (hb : Binds X.K fd ps []) (hx : ∀ σ, PassesAt CX X σ (E σ)) (ha : PA X (e :: es) t)
    (hst : starEach (e :: es) X.env = (false, eval e X.env) :: starEach es X.env := by rfl) (hpl : (backTo pos (starEach es X.env)).any (·.1) = false := by rfl)
    (ht : eval (.Call (.Attribute o m apos) (e :: es) [] pos) X.env = (do
      let ov ← eval o X.env
      standAt apos.atName
      let (f, first) ← holding [ov] (getMethod ov m pl)
      callWith pos f first (backTo pos (starEach (e :: es) X.env)) (backToKw pos (keywordEach [] X.env))) := by rfl) :
    PE X (.Call (.Attribute o m apos) (e :: es) [] pos) (fun σ H Q => ta σ H fun x H1 => ∃ a dx fs, x = .ref a ∧ H1 a = some (.ins C dx fs) ∧ fs.lookup m = none ∧ t σ H1 fun vs H2 => sp (x :: vs) H2 Q (E σ)) := by
  refine ⟨fun pins s σ H Q I h => ?_⟩
  refine PySem.W.methodCall_KW (pl := pl) (thn (he.run pins s σ H _ I h) fun u s1 ⟨x, H1, I1, rx, a, dx, fs, ex, ea, l, q⟩ => ?_) ht
  subst ex
  obtain rfl : u = Value.ref a := rx
  refine getmeth_ok I1 ea c hm l ?_
  refine PySem.W.callWith_K (first := [.ref a]) (h₀ := X.base) I.ok.mod.kin hm.kp (thn (ha.run pos pins s1 σ H1 _ I1 q) fun us s2 ⟨vs, H2, I2, r, q2⟩ => ⟨I2.kIn, ?_⟩) hst hpl
  exact run_fnS (us := .ref a :: us) (vs := .ref a :: vs) F hr hb (hx σ) I2 (.cons rfl r) q2
end
section
variable {X : Cx} {B : Bd} {δ : List SD} {e : Expr} {rest : List Stmt} {row : PyData} {P : DP} {pos pz p1 p2 : Pos}
/-- name = Draw(e) -/
theorem tr_mkDraw {fi : Addr} {fdi : FuncData} {z : Str} (n : Nat) (M0 : Mk X.K B.C fi) (Fi : FnOk X.prog X.w X.K X.mg X.base CX0 1 fi fdi ["self", "row"] (spInit B.C)) (hr : Room 2 X.A) (gD : X.mg "Draw" = some (.ref B.C)) (bi : Binds X.K fdi ["self", "row"] []) (he : Ev X B δ e row) (hnd : X.N.Nodup)
    (h : ∀ x, Tr X B (δ.set n (.obj x row 0)) rest P) (hN : X.N[n]? = some z := by rfl) (hx : Loc X.env.scope z := by first | exact Or.inl rfl | exact Or.inr rfl) (hf : X.fn z = true ∨ X.env.scope.names.lookup z = some .local := by first | exact .inl rfl | exact .inr rfl)
    (hs : swapsWith (.Call (.Name "Draw" p1) [e] [] p2) (some (.Name z pz)) pos.line X.env = pure false := by rfl) (hg : Gl X ("Draw" : Str) := by rfl) (hst : starEach (e :: []) X.env = (false, eval e X.env) :: starEach [] X.env := by rfl) (hpl : (backTo p2 (starEach [] X.env)).any (·.1) = false := by rfl) :
    Tr X B δ (.Assign [.Name z pz] (.Call (.Name "Draw" p1) [e] [] p2) pos :: rest) P :=
  tr_cons fun σ G H Gs s eg => semS_of (ps_set hnd hN hx (pe_make M0 Fi hr hg gD bi .nil (pass0 (X := X)) (pa_cons pe_sem pa_nil hst) (by decide) hst hpl) hs hf) (he σ G H s _ fun v G1 H1 g1 d1 => by
    intro x dx hx0 hdx hne
    have s1 := s.grow g1
    have gd : Grow B.T m0 G1 H1 G1 (upd H1 dx (.own x)) := Grow.laidO s1.e s1.t hdx
    have s2 := s1.grow gd
    have hx1 : (upd H1 dx (.own x)) x = none := by rw [upd_ne (Ne.symm hne)]; exact hx0
    refine ⟨x, v, dx, rfl, upd_same, rfl, ?_⟩
    rw [upd_upd]
    refine ⟨G1, _, h x, s2.setO hx1 ⟨rfl, fresh_back s1.e hx0, .inl ?_, dx, _, v, upd_same, rfl, rfl, Nat.le_refl _, fun f f1 f2 => ?_, d1⟩, eg.trans g1.g⟩
    · cases q : B.H0 x with
      | none => rfl
      | some o => exact (s1.gr.d x (by rw [q]; simp) hx0).elim
    · have e1 : (f == ("row" : Str)) = false := by simpa using f1
      have e2 : (f == ("used" : Str)) = false := by simpa using f2
      simp [List.lookup, e1, e2])
/-- try: name = obj.m(e) except Stop as stop: return stop.outcome -/
theorem tr_tryDraw {S fI : Addr} {z zo zs : Str} {R : PyData → Int → List PyData → Out → Prop} {res : Out} {p : Addr} {u : Int} {x : PyData} {p3 p4 p5 p6 p7 p8 p9 pa pb : Pos} {m : Str} {k : Nat} {pl : Sem Bool} (n no i : Nat) (hst : X.stack = X.env :: X.outer) (hf : X.env.frame = some X.env.locals) (hnd : X.N.Nodup) (T : PySem.StopX.StopTxt X.prog X.K X.mg S fI) (cl : Cls X.K B.C)
    (M : MCal X.prog X.w X.K X.mg X.base B.C k m (spM B.T B.C S R)) (hr : Room k X.A) (hn : δ[no]? = some (.obj p row u)) (hil : i < δ.length) (hR : R row u [x] res)
    (h1 : ∀ d u', res = .ok (d, u') → Tr X B ((δ.set no (.obj p row u')).set n (.d d)) rest P) (h2 : ∀ o, res = .error o → P.rt o ∧ ∀ G H, P.ro G H)
    (hN : X.N[n]? = some z := by rfl) (hNo : X.N[no]? = some zo := by rfl) (hi : X.N[i]? = some zs := by rfl) (hln : X.env.kindOf zs = some .local := by rfl) (hx : Loc X.env.scope z := by first | exact Or.inl rfl | exact Or.inr rfl) (hfn : X.fn z = true ∨ X.env.scope.names.lookup z = some .local := by first | exact .inl rfl | exact .inr rfl)
    (hvo : Vis X.env.scope zo := by first | exact Or.inl rfl | exact Or.inr (Or.inl rfl) | exact Or.inr (Or.inr rfl)) (hvs : Vis X.env.scope zs := by first | exact Or.inl rfl | exact Or.inr (Or.inl rfl) | exact Or.inr (Or.inr rfl)) (hg : Gl X ("Stop" : Str) := by rfl)
    (hd : (zo == ("__debug__" : Str)) = false := by decide) (hcd : (zo == ("__classdict__" : Str)) = false := by decide) (hds : (zs == ("__debug__" : Str)) = false := by decide) (hcds : (zs == ("__classdict__" : Str)) = false := by decide) (hm1 : m ≠ ("row" : Str) := by decide) (hm2 : m ≠ ("used" : Str) := by decide)
    (hs : swapsWith (.Call (.Attribute (.Name zo p3) m p4) [e] [] p5) (some (.Name z pz)) p6.line X.env = pure false := by rfl) (hstar : starEach (e :: []) X.env = (false, eval e X.env) :: starEach [] X.env := by rfl) (hpl : (backTo p5 (starEach [] X.env)).any (·.1) = false := by rfl)
    (hb : attributeBase (.Name zs p7) "outcome" X.env (eval (.Name zs p7) X.env) = eval (.Name zs p7) X.env := by rfl)
    (ht : eval (.Call (.Attribute (.Name zo p3) m p4) [e] [] p5) X.env = (do
      let ov ← eval (.Name zo p3) X.env
      standAt p4.atName
      let (f, first) ← holding [ov] (getMethod ov m pl)
      callWith p5 f first (backTo p5 (starEach [e] X.env)) (backToKw p5 (keywordEach [] X.env))) := by rfl)
    (heT : ∀ (pn : List (Addr × Obj)) (xe : Value → Shared → Prop), Ev (X.tr pn xe) B δ e x) :
    Tr X B δ (.Try [.Assign [.Name z pz] (.Call (.Attribute (.Name zo p3) m p4) [e] [] p5) p6] [.ExceptHandler (some (.Name "Stop" p1)) (some zs) [.Return (some (.Attribute (.Name zs p7) "outcome" p8)) p9] pa] [] [] pb :: rest) P := by
  obtain ⟨f, fd, ps, F, hm, hbd⟩ := M.ex
  refine tr_cons fun σ G H Gs s eg => semS_of (ps_try_as (i := i) (Wout := fun _ _ _ _ => False) (tb := fun W D σ H => ∀ (pn : List (Addr × Obj)) (xe : Value → Shared → Prop), Takes (X.tr pn xe) W → semSs (X.tr pn xe) [.Assign [.Name z pz] (.Call (.Attribute (.Name zo p3) m p4) [e] [] p5) p6] D σ H)
    (ts := fun a cls d => tRet (tOutStop S a cls d (tVar i))) hst hf hnd hi hln ⟨hg, by decide, Or.inl T.gC⟩ takes0 (fun W pn xe tk _ => ⟨fun pins s σ H D I h => h pn xe tk pins s I⟩)
    (fun a oe cls d pn hz hfd => pss_one (ps_ret (pe_outStop T hz hfd (pe_var (X := X.suite a ((a, oe) :: pn)) hi hvs hds hcds) hb)))) ?_
  intro pn xe tk
  refine semSs_of (pss_one (ps_set (X := X.tr pn xe) (i := n) hnd hN hx (pe_methS (X := X.tr pn xe) (E := WE _) (pe_var (X := X.tr pn xe) hNo hvo hd hcd) cl hm F hr hbd (fun σ => passAt tk σ) (pa_cons pe_sem pa_nil hstar) hstar hpl ht) hs hfn)) ?_
  obtain ⟨e1, g0, h0, ob⟩ := s.objAt hn
  obtain ⟨dx, fs, rv, k3, k4, k5, k6, k7, k8⟩ := id ob
  refine ⟨_, e1, p, dx, fs, rfl, k3, k7 m hm1 hm2, heT pn xe σ G H s _ fun v G1 H1 g1 d1 => ?_⟩
  have s1 := s.grow g1
  have ob1 := (s1.objAt hn).2.2.2
  refine ⟨G1, p, [v], row, u, [x], res, rfl, g1.gh, g1.t, (s1.objAt hn).2.1, ob1, .cons d1 .nil, hR, fun d u' er v G2 H2 gg ob2 dv => ?_, fun o er v d G2 H2 gg hxd dv => ?_⟩
  · exact ⟨G2, _, h1 d u' er, (s1.stepO hn gg ob2).setD dv, (eg.trans g1.g).trans gg.g⟩
  · refine ⟨true, T.te, fun _ a0 _ => ?_, fun z => Bool.noConfusion z⟩
    have hlen : i < σ.length := by
      rw [s.len]
      exact hil
    refine ⟨.ref a0, by rw [List.getElem?_set_self hlen], rfl, rfl, d, v, rfl, hxd, ?_⟩
    obtain ⟨r1, r2⟩ := h2 o er
    exact ⟨G2, o, ⟨r1, r2 G2 H2⟩, s1.growP hn gg, dv⟩
end
section
variable {P : Program} {w : World} {K : PySem.W.Frag} {mg : Str → Option Value} {base : Heap} {T : List TabN} {f C S fI : Addr} {fd : FuncData}
def rDraw (ds : List PyData) (d : PyData) : Prop := ∃ (g : Gn) (r : List Int), ds = [g.enc, encR r] ∧ g.WF ∧ g.dep ≤ 10 ∧ d = drawM g r
abbrev NDraw : List Str := ["generator", "row", "some", "found", "stop"]
theorem scDraw : FnScope NDraw ["generator", "row"] (defScope (top 17)) := ⟨rfl, rfl, rfl, by decide +kernel, rfl, by decide +kernel, by decide +kernel⟩
theorem drawM_err {g : Gn} {r : List Int} {o : PyData} (h : valueM r g 0 = .error o) : drawM g r = o := by
  unfold drawM
  rw [h]
theorem drawM_ok {g : Gn} {r : List Int} {x : PyData} {u : Nat} (h : valueM r g 0 = .ok (x, u)) : drawM g r = .tuple [.str "value", x, .int u] := by
  unfold drawM
  rw [h]
theorem ok_draw {fi : Addr} {fdi : FuncData} (D : DefK K mg "draw" 17 ["generator", "row"] f fd) (m : MgN mg) (W : DrawC P K mg C S fI) (gD : mg "Draw" = some (.ref C)) (Mk0 : Mk K C fi) (Fi : Fun K "__init__" "Draw.__init__" (mth 0) fi fdi) (bi : Binds K fdi ["self", "row"] []) (MV : MCal P w K mg base C 41 "value" (spM T C S (rVal 10))) :
    FnOk P w K mg base CX0 42 f fd ["generator", "row"] (spD T rDraw) := by
  refine fn_d (C := C) D.fn scDraw (fun ds d ⟨g, r, e, _⟩ => by rw [e]; rfl) (fun cdv A outer s H E G ds d hr hcd hR => ?_)
  obtain ⟨g, r, rfl, hw, hdep, rfl⟩ := hR
  refine tr_mkDraw (row := encR r) 2 Mk0 (ok_ini Fi W) (hr.mono (by omega)) gD bi (ev_var 1 rfl) scDraw.nd fun x0 => ?_
  refine tr_tryDraw (S := S) (res := outD (valueM r g 0)) (x := g.enc) 3 2 4 rfl rfl scDraw.nd W.stop W.cls MV hr rfl (show 4 < 5 from by decide) ⟨r, 0, g, rfl, rfl, rfl, hw, hdep, rfl⟩ (fun d u' e => ?_) (fun o e => ?_) (heT := fun pn xe => ev_var 0 rfl)
  · obtain ⟨c, rfl, e9⟩ := outD_ok e
    refine tr_ret (ev_tup (xs := [.str "value", d, .int c]) (evA_cons ev_str (evA_cons (ev_var 3 rfl) (evA_cons (ev_used 2 rfl W.cls W.nu) evA_nil)))) ?_
    show PyData.tuple [.str "value", d, .int c] = drawM g r
    rw [drawM_ok e9]
  · exact ⟨(drawM_err (outD_err e)).symm, fun _ _ => trivial⟩
end
end CR

set_option Elab.async false
set_option linter.all false
set_option maxRecDepth 100000
set_option maxHeartbeats 1000000
/-! # Walks: says, least_failing, left_by -/
namespace CR
open PySem L2 Evl PyProof.Rows
def encTest (g : Gn) (c : Cn) : PyData := .tuple [g.enc, c.enc]
/-- a test whose tables are small and whose condition fits the values -/
structure TestOk (g : Gn) (c : Cn) : Prop where
  wf : g.WF
  dep : g.dep ≤ 10
  cdep : c.dep ≤ 5
  fit : ∀ v, g.Val v → c.Fit v
  tp : TP g
  tv : ∀ e ∈ tableM g, g.Val e.v ∧ e.r.length ≤ 1000
theorem choiceM_err {r : List Int} {b : Int} {u : Nat} {o : PyData} (h : choiceM r b u = .error o) : ∃ (k : Str) (n : Int), o = .tuple [.str k, .int n] ∧ decide (k = "value") = false := by
  unfold choiceM at h
  cases e : r[u]? with
  | none => rw [e] at h; cases h; exact ⟨_, _, rfl, by decide⟩
  | some x =>
    rw [e] at h
    dsimp only at h
    split at h
    · cases h
    · cases h; exact ⟨_, _, rfl, by decide⟩
section
variable {r : List Int} {f : Dr PyData}
/-- an outcome that ends a draw is no value -/
def BadO (o : PyData) : Prop := ∃ (k : Str) (n : Int), o = .tuple [.str k, .int n] ∧ decide (k = "value") = false
theorem timesM_bad (hf : ∀ u o, f u = .error o → BadO o) : ∀ {k u : Nat} {o : PyData}, timesM f k u = .error o → BadO o
  | 0, u, o, h => by cases h
  | k + 1, u, o, h => by
    unfold timesM at h
    cases e : f u with
    | error o' => rw [e] at h; cases h; exact hf _ _ e
    | ok p =>
      obtain ⟨x, u1⟩ := p
      rw [e] at h
      dsimp only at h
      cases e2 : timesM f k u1 with
      | error o' => rw [e2] at h; cases h; exact timesM_bad hf e2
      | ok q => rw [e2] at h; cases h
theorem moreM_bad (hf : ∀ u o, f u = .error o → BadO o) : ∀ {k u : Nat} {o : PyData}, moreM r f k u = .error o → BadO o
  | 0, u, o, h => by cases h
  | k + 1, u, o, h => by
    unfold moreM at h
    cases e0 : choiceM r 1 u with
    | error o' => rw [e0] at h; cases h; exact choiceM_err e0
    | ok p =>
      obtain ⟨c, u0⟩ := p
      rw [e0] at h
      dsimp only at h
      split at h
      · cases e : f u0 with
        | error o' => rw [e] at h; cases h; exact hf _ _ e
        | ok p =>
          obtain ⟨x, u1⟩ := p
          rw [e] at h
          dsimp only at h
          cases e2 : moreM r f k u1 with
          | error o' => rw [e2] at h; cases h; exact moreM_bad hf e2
          | ok q => rw [e2] at h; cases h
      · cases h
theorem valueM_bad : ∀ (g : Gn) {u : Nat} {o : PyData}, valueM r g u = .error o → BadO o
  | .int lo hi, u, o, h => by
    unfold valueM at h
    cases e : choiceM r (hi - lo) u with
    | error o' => rw [e] at h; cases h; exact choiceM_err e
    | ok p => rw [e] at h; cases h
  | .pair a b, u, o, h => by
    unfold valueM at h
    cases e : valueM r a u with
    | error o' => rw [e] at h; cases h; exact valueM_bad a e
    | ok p =>
      obtain ⟨y, u1⟩ := p
      rw [e] at h
      dsimp only at h
      cases e2 : valueM r b u1 with
      | error o' => rw [e2] at h; cases h; exact valueM_bad b e2
      | ok p => rw [e2] at h; cases h
  | .lst g l m, u, o, h => by
    unfold valueM at h
    cases e : timesM (valueM r g) l u with
    | error o' => rw [e] at h; cases h; exact timesM_bad (fun _ _ h => valueM_bad g h) e
    | ok p =>
      obtain ⟨y, u1⟩ := p
      rw [e] at h
      dsimp only at h
      cases e2 : moreM r (valueM r g) (m - l) u1 with
      | error o' => rw [e2] at h; cases h; exact moreM_bad (fun _ _ h => valueM_bad g h) e2
      | ok p => rw [e2] at h; cases h
  | .one a b, u, o, h => by
    unfold valueM at h
    cases e : choiceM r 1 u with
    | error o' => rw [e] at h; cases h; exact choiceM_err e
    | ok p =>
      obtain ⟨y, u1⟩ := p
      rw [e] at h
      dsimp only at h
      split at h
      · exact valueM_bad a h
      · exact valueM_bad b h
  | .kept g c, u, o, h => by
    unfold valueM at h
    cases e : valueM r g u with
    | error o' => rw [e] at h; cases h; exact valueM_bad g e
    | ok p =>
      obtain ⟨y, u1⟩ := p
      rw [e] at h
      dsimp only at h
      split at h
      · cases h
      · cases h; exact ⟨_, _, rfl, by decide⟩
  | .turned g m, u, o, h => by
    unfold valueM at h
    cases e : valueM r g u with
    | error o' => rw [e] at h; cases h; exact valueM_bad g e
    | ok p => rw [e] at h; cases h
  | .rep a b, u, o, h => by
    unfold valueM at h
    cases e : valueM r a u with
    | error o' => rw [e] at h; cases h; exact valueM_bad a e
    | ok p =>
      obtain ⟨y, u1⟩ := p
      rw [e] at h
      dsimp only at h
      split at h
      · cases e2 : timesM (valueM r b) (dint y).toNat u1 with
        | error o' => rw [e2] at h; cases h; exact timesM_bad (fun _ _ h => valueM_bad b h) e2
        | ok p => rw [e2] at h; cases h
      · cases h; exact ⟨_, _, rfl, by decide⟩
/-- how far a draw comes -/
theorem timesM_le (hf : ∀ u x c, f u = .ok (x, c) → u ≤ c ∧ (u ≤ r.length → c ≤ r.length)) : ∀ {k u c : Nat} {ds : List PyData}, timesM f k u = .ok (ds, c) → u ≤ c ∧ (u ≤ r.length → c ≤ r.length)
  | 0, u, c, ds, h => by cases h; exact ⟨Nat.le_refl _, fun h => h⟩
  | k + 1, u, c, ds, h => by
    unfold timesM at h
    cases e : f u with
    | error o' => rw [e] at h; cases h
    | ok p =>
      obtain ⟨x, u1⟩ := p
      rw [e] at h
      dsimp only at h
      cases e2 : timesM f k u1 with
      | error o' => rw [e2] at h; cases h
      | ok q =>
        rw [e2] at h; cases h
        have q1 := hf _ _ _ e
        have q2 := timesM_le hf e2
        exact ⟨by omega, fun z => q2.2 (q1.2 z)⟩
theorem choiceM_le {b c : Int} {u u1 : Nat} (h : choiceM r b u = .ok (c, u1)) : u ≤ u1 ∧ (u ≤ r.length → u1 ≤ r.length) := by
  obtain ⟨h1, _, _, h2⟩ := choiceM_ok h
  have h3 := (List.getElem?_eq_some_iff.mp h1).1
  exact ⟨by omega, fun _ => by omega⟩
theorem moreM_le (hf : ∀ u x c, f u = .ok (x, c) → u ≤ c ∧ (u ≤ r.length → c ≤ r.length)) : ∀ {k u c : Nat} {ds : List PyData}, moreM r f k u = .ok (ds, c) → u ≤ c ∧ (u ≤ r.length → c ≤ r.length)
  | 0, u, c, ds, h => by cases h; exact ⟨Nat.le_refl _, fun h => h⟩
  | k + 1, u, c, ds, h => by
    unfold moreM at h
    cases e0 : choiceM r 1 u with
    | error o' => rw [e0] at h; cases h
    | ok p =>
      obtain ⟨b, u0⟩ := p
      rw [e0] at h
      dsimp only at h
      have q0 := choiceM_le e0
      split at h
      · cases e : f u0 with
        | error o' => rw [e] at h; cases h
        | ok p =>
          obtain ⟨x, u1⟩ := p
          rw [e] at h
          dsimp only at h
          cases e2 : moreM r f k u1 with
          | error o' => rw [e2] at h; cases h
          | ok q =>
            rw [e2] at h; cases h
            have q1 := hf _ _ _ e
            have q2 := moreM_le hf e2
            exact ⟨by omega, fun z => q2.2 (q1.2 (q0.2 z))⟩
      · cases h
        exact q0
theorem valueM_le : ∀ (g : Gn) {u c : Nat} {x : PyData}, valueM r g u = .ok (x, c) → u ≤ c ∧ (u ≤ r.length → c ≤ r.length)
  | .int lo hi, u, c, x, h => by
    unfold valueM at h
    cases e : choiceM r (hi - lo) u with
    | error o' => rw [e] at h; cases h
    | ok p => rw [e] at h; cases h; exact choiceM_le e
  | .pair a b, u, c, x, h => by
    unfold valueM at h
    cases e : valueM r a u with
    | error o' => rw [e] at h; cases h
    | ok p =>
      obtain ⟨y, u1⟩ := p
      rw [e] at h
      dsimp only at h
      cases e2 : valueM r b u1 with
      | error o' => rw [e2] at h; cases h
      | ok p =>
        rw [e2] at h; cases h
        have q1 := valueM_le a e
        have q2 := valueM_le b e2
        exact ⟨by omega, fun z => q2.2 (q1.2 z)⟩
  | .lst g l m, u, c, x, h => by
    unfold valueM at h
    cases e : timesM (valueM r g) l u with
    | error o' => rw [e] at h; cases h
    | ok p =>
      obtain ⟨y, u1⟩ := p
      rw [e] at h
      dsimp only at h
      cases e2 : moreM r (valueM r g) (m - l) u1 with
      | error o' => rw [e2] at h; cases h
      | ok p =>
        rw [e2] at h; cases h
        have q1 := timesM_le (fun _ _ _ h => valueM_le g h) e
        have q2 := moreM_le (fun _ _ _ h => valueM_le g h) e2
        exact ⟨by omega, fun z => q2.2 (q1.2 z)⟩
  | .one a b, u, c, x, h => by
    unfold valueM at h
    cases e : choiceM r 1 u with
    | error o' => rw [e] at h; cases h
    | ok p =>
      obtain ⟨y, u1⟩ := p
      rw [e] at h
      dsimp only at h
      have q1 := choiceM_le e
      split at h
      · have q2 := valueM_le a h
        exact ⟨by omega, fun z => q2.2 (q1.2 z)⟩
      · have q2 := valueM_le b h
        exact ⟨by omega, fun z => q2.2 (q1.2 z)⟩
  | .kept g k, u, c, x, h => by
    unfold valueM at h
    cases e : valueM r g u with
    | error o' => rw [e] at h; cases h
    | ok p =>
      obtain ⟨y, u1⟩ := p
      rw [e] at h
      dsimp only at h
      split at h
      · cases h; exact valueM_le g e
      · cases h
  | .turned g m, u, c, x, h => by
    unfold valueM at h
    cases e : valueM r g u with
    | error o' => rw [e] at h; cases h
    | ok p => rw [e] at h; cases h; exact valueM_le g e
  | .rep a b, u, c, x, h => by
    unfold valueM at h
    cases e : valueM r a u with
    | error o' => rw [e] at h; cases h
    | ok p =>
      obtain ⟨y, u1⟩ := p
      rw [e] at h
      dsimp only at h
      split at h
      · cases e2 : timesM (valueM r b) (dint y).toNat u1 with
        | error o' => rw [e2] at h; cases h
        | ok p =>
          rw [e2] at h; cases h
          have q1 := valueM_le a e
          have q2 := timesM_le (fun _ _ _ h => valueM_le b h) e2
          exact ⟨by omega, fun z => q2.2 (q1.2 z)⟩
      · cases h
end
section
variable {P : Program} {w : World} {K : PySem.W.Frag} {mg : Str → Option Value} {base : Heap} {T : List TabN} {f : Addr} {fd : FuncData}
def rSays (ds : List PyData) (d : PyData) : Prop := ∃ (g : Gn) (c : Cn) (r : List Int), ds = [encTest g c, encR r] ∧ TestOk g c ∧ d = saysM g c r
theorem scSays : FnScope ["test", "row", "outcome"] ["test", "row"] (defScope (top 41)) := ⟨rfl, rfl, rfl, by decide +kernel, rfl, by decide +kernel, by decide +kernel⟩
theorem ok_says (D : DefK K mg "says" 41 ["test", "row"] f fd) (m : MgN mg) (hdr : Cal P w K mg base CX0 42 "draw" (spD T rDraw)) (hh : Cal P w K mg base CX0 20 "holds" (spD T (rHolds 5))) : FnOk P w K mg base CX0 43 f fd ["test", "row"] (spD T rSays) := by
  refine fn_d (C := 0) D.fn scSays (fun ds d ⟨g, c, r, e, _⟩ => by rw [e]; rfl) (fun cdv A outer s H E G ds d hr hcd hR => ?_)
  obtain ⟨g, c, r, rfl, hT, rfl⟩ := hR
  refine tr_asg 2 (ev_call hdr hr (evA_cons (ev_ixT (xs := [g.enc, c.enc]) (d := g.enc) (ev_var 0 rfl) ev_int rfl) (evA_cons (ev_var 1 rfl) evA_nil)) ⟨g, r, rfl, hT.wf, hT.dep, rfl⟩) scSays.nd ?_
  cases e : valueM r g 0 with
  | error o =>
    obtain ⟨k, n, rfl, hk⟩ := valueM_bad g e
    rw [drawM_err e]
    refine tr_if0 (p := true) ((evB_w (evW_or (p := true) (q := false) ((evB_neS (ev_ixT (xs := [.str k, .int n]) (d := .str k) (ev_var 2 rfl) ev_int rfl) ev_str).eq (by rw [hk]; rfl)) (fun z => nomatch z))).eq rfl) (fun _ => tr_ret ev_str ?_) (fun z => nomatch z)
    unfold saysM exactM
    rw [e]
  | ok q =>
    obtain ⟨x, u⟩ := q
    have hu := (valueM_le g e).2 (Nat.zero_le _)
    rw [drawM_ok e]
    have e1 : ((r.map PyData.int).length : Int) = r.length := by rw [List.length_map]
    refine tr_if0 (p := decide (u < r.length)) ((evB_w (evW_or (p := false) (q := decide (u < r.length)) ((evB_neS (ev_ixT (xs := [.str "value", x, .int u]) (d := .str "value") (ev_var 2 rfl) ev_int rfl) ev_str).eq (by decide)) (fun _ => evW_or1 ((evB_cmpI (ev_ixT (xs := [.str "value", x, .int u]) (d := .int u) (ev_var 2 rfl) ev_int rfl) (ev_lenT m.len (ev_var 1 rfl))).eq ?_)))).eq rfl) (fun hc => tr_ret ev_str ?_) (fun hc => ?_)
    · show decide ((u : Int) < ((r.map PyData.int).length : Int)) = _
      rw [e1]
      by_cases h : u < r.length
      · rw [decide_eq_true h, decide_eq_true (by omega)]
      · rw [decide_eq_false h, decide_eq_false (by omega)]
    · have hc : u < r.length := by simpa using hc
      unfold saysM exactM
      rw [e]
      dsimp only
      rw [if_neg (by omega)]
    · have hc : ¬ u < r.length := by simpa using hc
      have es : saysM g c r = if c.val x = true then .str "passes" else .str "fails" := by
        unfold saysM exactM
        rw [e]
        dsimp only
        rw [if_pos (by omega)]
      refine tr_ret (ev_ifExp (p := c.val x) (evB_val (ev_call hh (hr.mono (by omega)) (evA_cons (ev_ixT (xs := [g.enc, c.enc]) (d := c.enc) (ev_var 0 rfl) ev_int rfl) (evA_cons (ev_ixT (xs := [.str "value", x, .int u]) (d := x) (ev_var 2 rfl) ev_int rfl) evA_nil)) ⟨c, x, rfl, hT.fit x (valueM_val g hT.wf e), hT.cdep, rfl⟩)) (fun h => ?_) (fun h => ?_)) rfl
      · exact Ev.eq ev_str (by rw [es, if_pos h])
      · exact Ev.eq ev_str (by rw [es, if_neg (by rw [h]; exact Bool.false_ne_true)])
end
end CR

set_option Elab.async false
set_option linter.all false
set_option maxRecDepth 100000
set_option maxHeartbeats 1000000
/-! # Walks: least_failing, left_by, the candidates -/
namespace CR
open PySem L2 Evl PyProof.Rows
def encO : Option (List Int) → PyData
  | none => .none
  | some r => encR r
section
variable {P : Program} {w : World} {K : PySem.W.Frag} {mg : Str → Option Value} {base : Heap} {T : List TabN} {f : Addr} {fd : FuncData}
def rLeast (ds : List PyData) (d : PyData) : Prop := ∃ (g : Gn) (c : Cn), ds = [encTest g c] ∧ TestOk g c ∧ d = encO (leastM g c)
theorem scLeast : FnScope ["test", "value", "_", "row"] ["test"] (defScope (top 42)) := ⟨rfl, rfl, rfl, by decide +kernel, rfl, by decide +kernel, by decide +kernel⟩
theorem find_take {α : Type} {p : α → Bool} {xs : List α} {k : Nat} {x : α} (h : ∀ e ∈ xs.take k, p e = false) (hx : xs[k]? = some x) (hp : p x = true) : xs.find? p = some x := by
  induction xs generalizing k with
  | nil => simp at hx
  | cons y ys ih =>
    cases k with
    | zero =>
      simp only [List.getElem?_cons_zero, Option.some.injEq] at hx
      subst hx
      rw [List.find?_cons_of_pos hp]
    | succ k =>
      have hy : p y = false := h y (by rw [List.take_succ_cons]; exact List.mem_cons_self)
      rw [List.find?_cons_of_neg (by rw [hy]; exact Bool.false_ne_true)]
      exact ih (fun e he => h e (by rw [List.take_succ_cons]; exact List.mem_cons_of_mem _ he)) (by simpa using hx)
theorem ok_least (D : DefK K mg "least_failing" 42 ["test"] f fd) (m : MgN mg) (hta : Cal P w K mg base CX0 30 "table" (spD T rTab)) (hh : Cal P w K mg base CX0 20 "holds" (spD T (rHolds 5))) : FnOk P w K mg base CX0 31 f fd ["test"] (spD T rLeast) := by
  refine fn_d (C := 0) D.fn scLeast (fun ds d ⟨g, c, e, _⟩ => by rw [e]; rfl) (fun cdv A outer s H E G ds d hr hcd hR => ?_)
  obtain ⟨g, c, rfl, hT, rfl⟩ := hR
  refine tr_for PassesOwn.never rfl (evI_list (ys := (tableM g).map Ent.enc) (ev_call hta hr (evA_cons (ev_ixT (xs := [g.enc, c.enc]) (d := g.enc) (ev_var 0 rfl) ev_int rfl) evA_nil) ⟨g, rfl, hT.tp, hT.dep, rfl⟩))
    (fun k δ => (∃ x y z, δ = [.d (encTest g c), x, y, z]) ∧ ∀ e ∈ (tableM g).take k, (!c.val e.v) = false) ⟨⟨_, _, _, rfl⟩, fun e he => by rw [List.take_zero] at he; cases he⟩ ?_ ?_
  · rintro k y δ hy ⟨⟨x1, y1, z1, rfl⟩, hall⟩
    obtain ⟨e, he, rfl⟩ := get_map hy
    have hem := List.mem_of_getElem? he
    refine ⟨_, _, evG_tup (ds := [e.v, .int e.n, encR e.r]) rfl (evGs_cons (evG_name 1 scLeast.nd) (evGs_cons (evG_name 2 scLeast.nd) (evGs_cons (evG_name 3 scLeast.nd) evGs_nil))), ?_⟩
    refine tr_if0 (evB_not (evB_val (ev_call hh (hr.mono (by omega)) (evA_cons (ev_ixT (xs := [g.enc, c.enc]) (d := c.enc) (ev_var 0 rfl) ev_int rfl) (evA_cons (ev_var 1 rfl) evA_nil)) ⟨c, e.v, rfl, hT.fit e.v (hT.tv e hem).1, hT.cdep, rfl⟩))) (fun hc => ?_) (fun hc => ?_)
    · refine tr_ret (ev_var 3 rfl) ?_
      show encR e.r = encO (((tableM g).find? fun e => !c.val e.v).map (·.r))
      rw [find_take hall he hc]
      rfl
    · refine tr_nil ⟨⟨.d e.v, .d (.int e.n), .d (encR e.r), rfl⟩, fun e' he' => ?_⟩
      rw [take_snoc he] at he'
      rcases List.mem_append.mp he' with h | h
      · exact hall e' h
      · rw [List.mem_singleton.mp h]
        exact hc
  · rintro δ ⟨⟨x1, y1, z1, rfl⟩, hall⟩
    rw [List.length_map, List.take_length] at hall
    refine tr_ret ev_none ?_
    show PyData.none = encO (((tableM g).find? fun e => !c.val e.v).map (·.r))
    rw [List.find?_eq_none.mpr fun e he => by rw [hall e he]; exact Bool.false_ne_true]
    rfl
def rLeft (ds : List PyData) (d : PyData) : Prop := ∃ (g : Gn) (r : List Int), ds = [g.enc, encR r] ∧ g.WF ∧ g.dep ≤ 10 ∧ d = encO (leftM g r)
theorem scLeft : FnScope ["generator", "row", "outcome"] ["generator", "row"] (defScope (top 48)) := ⟨rfl, rfl, rfl, by decide +kernel, rfl, by decide +kernel, by decide +kernel⟩
theorem ok_left (D : DefK K mg "left_by" 48 ["generator", "row"] f fd) (m : MgN mg) (hdr : Cal P w K mg base CX0 42 "draw" (spD T rDraw)) : FnOk P w K mg base CX0 43 f fd ["generator", "row"] (spD T rLeft) := by
  refine fn_d (C := 0) D.fn scLeft (fun ds d ⟨g, r, e, _⟩ => by rw [e]; rfl) (fun cdv A outer s H E G ds d hr hcd hR => ?_)
  obtain ⟨g, r, rfl, hw, hdep, rfl⟩ := hR
  refine tr_asg 2 (ev_call hdr hr (evA_cons (ev_var 0 rfl) (evA_cons (ev_var 1 rfl) evA_nil)) ⟨g, r, rfl, hw, hdep, rfl⟩) scLeft.nd ?_
  cases e : valueM r g 0 with
  | error o =>
    obtain ⟨k, n, rfl, hk⟩ := valueM_bad g e
    rw [drawM_err e]
    refine tr_if0 (p := true) ((evB_neS (ev_ixT (xs := [.str k, .int n]) (d := .str k) (ev_var 2 rfl) ev_int rfl) ev_str).eq (by rw [hk]; rfl)) (fun _ => tr_ret ev_none ?_) (fun z => nomatch z)
    unfold leftM
    rw [e]
    rfl
  | ok q =>
    obtain ⟨x, u⟩ := q
    rw [drawM_ok e]
    refine tr_if0 (p := false) ((evB_neS (ev_ixT (xs := [.str "value", x, .int u]) (d := .str "value") (ev_var 2 rfl) ev_int rfl) ev_str).eq (by decide)) (fun z => nomatch z) (fun _ => ?_)
    refine tr_ret (ev_slT (l := none) (r := some (u : Int)) (ev_var 1 rfl) trivial (ev_ixT (xs := [.str "value", x, .int u]) (d := .int u) (ev_var 2 rfl) ev_int rfl)) ?_
    show PyData.tuple _ = _
    unfold leftM
    rw [e, cut_to2, ← List.map_take]
    rfl
/-! ## shortened -/
def encL (rs : List (List Int)) : PyData := .list (rs.map encR)
def rRows (F : List Int → List (List Int)) (ds : List PyData) (d : PyData) : Prop := ∃ r : List Int, ds = [encR r] ∧ r.length ≤ 1000 ∧ d = encL (F r)
theorem scSho : FnScope ["row", "found", "many", "k"] ["row"] (defScope (top 44)) := ⟨rfl, rfl, rfl, by decide +kernel, rfl, by decide +kernel, by decide +kernel⟩
def cutRow (r : List Int) (many k : Nat) : List Int := r.take k ++ r.drop (k + many)
def cutsRow (r : List Int) (many : Nat) : List (List Int) := (List.range (r.length + 1 - many)).map (cutRow r many)
theorem ok_sho (D : DefK K mg "shortened" 44 ["row"] f fd) (m : MgN mg) : FnOk P w K mg base CX0 1 f fd ["row"] (spD T (rRows shortenedM)) := by
  refine fn_d (C := 0) D.fn scSho (fun ds d ⟨r, e, _⟩ => by rw [e]; rfl) (fun cdv A outer s H E G ds d hr hcd hR => ?_)
  obtain ⟨r, rfl, hl, rfl⟩ := hR
  have hz2 : (10000000 : Nat) < sizeLine := big2
  refine tr_new 1 evA_nil scSho.nd ?_
  refine tr_for PassesOwn.never rfl (ys := ([4, 3, 2, 1] : List Nat).map fun n => .int ((n : Nat) : Int)) ((evI_tup (ev_tup (xs := [.int 4, .int 3, .int 2, .int 1]) (evA_cons ev_int (evA_cons ev_int (evA_cons ev_int (evA_cons ev_int evA_nil)))))).eq rfl)
    (fun k δ => ∃ x y, δ = [.d (encR r), .own (((([4, 3, 2, 1] : List Nat).take k).flatMap (cutsRow r)).map encR), x, y]) ⟨_, _, rfl⟩ ?_ ?_
  · rintro k y δ hy ⟨x1, y1, rfl⟩
    obtain ⟨n, hn, rfl⟩ := get_map hy
    have hn4 : 1 ≤ n ∧ n ≤ 4 := by
      have h := List.mem_of_getElem? hn
      simp at h
      omega
    have hk : k < 4 := (List.getElem?_eq_some_iff.mp hn).1
    refine ⟨_, _, evG_name 2 scSho.nd, ?_⟩
    have hfl : ((([4, 3, 2, 1] : List Nat).take k).flatMap (cutsRow r)).length ≤ 4 * 1001 := by
      refine Nat.le_trans (flat_len (n := 1001) fun e _ => ?_) (Nat.mul_le_mul_right _ ?_)
      · unfold cutsRow
        rw [List.length_map, List.length_range]
        omega
      · rw [List.length_take]
        omega
    have e1 : ((r.map PyData.int).length : Int) = r.length := by rw [List.length_map]
    refine tr_extend 1 rfl (ys := (cutsRow r n).map encR) (Ev.eq (ev_lcA (own := [("k", 3)]) (List.range (r.length + 1 - n)) (fun i => .int (0 + (i : Nat))) (fun y => (dint y).toNat) (fun i => encR (cutRow r n i)) [3] (fun i _ => by show ((0 : Int) + (i : Nat)).toNat = i; omega) rfl scSho.nd (blkOk_by (N := ["row", "found", "many", "k"]) (sc := defScope (top 44)) (by decide +kernel)) rfl ?_ (fun i hi => ?_) (by rw [List.length_range]; omega)) ?_) ?_ ?_
    · refine EvI.eq (evI_range1 (n := (r.length : Int) - n + 1) m.range ((ev_add (ev_sub (ev_lenT m.len (ev_var 0 rfl)) (ev_var 2 rfl)) ev_int).eq (by rw [e1])) ⟨by omega, by omega⟩) ?_
      unfold rangeD
      rw [show ((r.length : Int) - n + 1).toNat = r.length + 1 - n by omega]
    · have hi := List.mem_range.mp hi
      refine ⟨_, [3], fun _ h => h, fun s0 H0 C cl fp => ⟨evG_name 3 scSho.nd, evIf_nil, fun _ => ?_⟩⟩
      refine Ev.eq (ev_catT (ev_slT (l := none) (r := some ((0 : Int) + (i : Nat))) (ev_var 0 rfl) trivial (ev_var 3 rfl)) (ev_slT (l := some ((0 : Int) + (i : Nat) + n)) (r := none) (ev_var 0 rfl) (ev_add (ev_var 3 rfl) (ev_var 2 rfl)) trivial) ?_) ?_
      · rw [show ((0 : Int) + (i : Nat)) = ((i : Nat) : Int) by omega, show ((i : Nat) : Int) + (n : Nat) = ((i + n : Nat) : Int) by omega, cut_to2, cut_from, List.length_take, List.length_drop, List.length_map]
        omega
      · rw [show ((0 : Int) + (i : Nat)) = ((i : Nat) : Int) by omega, show ((i : Nat) : Int) + (n : Nat) = ((i + n : Nat) : Int) by omega, cut_to2, cut_from, ← List.map_take, ← List.map_drop, ← List.map_append]
        rfl
    · unfold cutsRow
      rw [List.map_map]
      rfl
    · have q : (cutsRow r n).length ≤ 1001 := by
        unfold cutsRow
        rw [List.length_map, List.length_range]
        omega
      rw [List.length_map, List.length_map]
      omega
    · refine tr_nil ⟨.d (.int (n : Nat)), y1, ?_⟩
      rw [take_flat _ hn, List.map_append]
      rfl
  · rintro δ ⟨_, _, rfl⟩
    exact tr_retOwn 1 rfl rfl
end
end CR

set_option Elab.async false
set_option linter.all false
set_option maxRecDepth 100000
set_option maxHeartbeats 1000000
/-! # Walks: exchanged, lowered, candidates -/
namespace CR
open PySem L2 Evl PyProof.Rows
section
variable {X : Cx} {B : Bd} {δ : List SD} {a b : Expr} {d x : PyData} {ys : List PyData} {pos pz : Pos}
/-- x not in an own list -/
theorem evB_notInO (n : Nat) {z : Str} (hn : δ[n]? = some (.own ys)) (ha : Ev X B δ a x) (f1 : flatD x = true) (f2 : ys.all flatD = true) (hN : X.N[n]? = some z := by rfl) (hv : Vis X.env.scope z := by first | exact Or.inl rfl | exact Or.inr (Or.inl rfl) | exact Or.inr (Or.inr rfl))
    (hd : (z == ("__debug__" : Str)) = false := by decide) (hcd : (z == ("__classdict__" : Str)) = false := by decide) (hm : behindInMarks .NotIn (.Name z pz) = false := by rfl) : EvB X B δ (.Compare a [.NotIn] [.Name z pz] pos) (!inV (toV x) (ys.map toV)) :=
  evB_of (pt_cmpR op_notIn_seq pe_sem (pe_var hN hv hd hcd) hm) fun σ G H s Q q => ha σ G H s _ fun u G1 H1 g1 d1 => by
    obtain ⟨t, vs, e1, h1, h2, h3, h4⟩ := (s.grow g1).ok n _ hn
    obtain ⟨e2, f1⟩ := flat_v d1 f1
    obtain ⟨e3, f2⟩ := flat_vs h4 f2
    refine ⟨_, e1, t, vs, rfl, .inl (SqL.of h3), f1, f2, ?_⟩
    rw [if_pos rfl, e2, e3]
    exact ⟨_, rfl, q G1 H1 g1⟩
end
section
variable {P : Program} {w : World} {K : PySem.W.Frag} {mg : Str → Option Value} {base : Heap} {T : List TabN} {f : Addr} {fd : FuncData}
abbrev NExc : List Str := ["row", "found", "k"]
theorem scExc : FnScope NExc ["row"] (defScope (top 46)) := ⟨rfl, rfl, rfl, by decide +kernel, rfl, by decide +kernel, by decide +kernel⟩
def swapAt (row : List Int) (k : Nat) : List (List Int) := if row.getD (k + 1) 0 < row.getD k 0 then [row.take k ++ [row.getD (k + 1) 0, row.getD k 0] ++ row.drop (k + 2)] else []
theorem ok_exc (D : DefK K mg "exchanged" 46 ["row"] f fd) (m : MgN mg) : FnOk P w K mg base CX0 1 f fd ["row"] (spD T (rRows exchangedM)) := by
  refine fn_d (C := 0) D.fn scExc (fun ds d ⟨r, e, _⟩ => by rw [e]; rfl) (fun cdv A outer s H E G ds d hr hcd hR => ?_)
  obtain ⟨r, rfl, hl, rfl⟩ := hR
  have hz2 : (10000000 : Nat) < sizeLine := big2
  have e1 : ((r.map PyData.int).length : Int) = r.length := by rw [List.length_map]
  refine tr_new 1 evA_nil scExc.nd ?_
  refine tr_for PassesOwn.never rfl (ys := rangeD 0 (r.length - 1)) (EvI.eq (evI_range1 (n := (r.length : Int) - 1) m.range (Ev.eq (ev_sub (ev_lenT m.len (ev_var 0 rfl)) ev_int) (by rw [e1])) ⟨by omega, by omega⟩) (by rw [show ((r.length : Int) - 1).toNat = r.length - 1 by omega]))
    (fun k δ => ∃ x, δ = [.d (encR r), .own (((List.range k).flatMap (swapAt r)).map encR), x]) ⟨_, rfl⟩ ?_ ?_
  · rintro k y δ hy ⟨x1, rfl⟩
    obtain ⟨hk, rfl⟩ := rangeD_get hy
    have hfl : ((List.range k).flatMap (swapAt r)).length ≤ k * 1 := by
      refine Nat.le_trans (flat_len (n := 1) fun e _ => ?_) (by rw [List.length_range]; exact Nat.le_refl _)
      unfold swapAt
      split <;> simp
    have ek : ((0 : Int) + (k : Nat)) = ((k : Nat) : Int) := by omega
    have a0 : atI (r.map PyData.int) ((0 : Int) + (k : Nat)) = some (.int (r.getD k 0)) := by rw [ek]; exact at_encR (by omega)
    have a1 : atI (r.map PyData.int) ((0 : Int) + (k : Nat) + 1) = some (.int (r.getD (k + 1) 0)) := by
      rw [ek]
      exact at_encR (k := k + 1) (by omega)
    refine ⟨_, _, evG_name 2 scExc.nd, ?_⟩
    refine tr_if0 (p := decide (r.getD (k + 1) 0 < r.getD k 0)) (evB_cmpI (ev_ixT (ev_var 0 rfl) (ev_var 2 rfl) a0) (ev_ixT (ev_var 0 rfl) (ev_add (ev_var 2 rfl) ev_int) a1)) (fun hc => ?_) (fun hc => ?_)
    · have hc := of_decide_eq_true hc
      refine tr_append 1 rfl (d := encR (r.take k ++ [r.getD (k + 1) 0, r.getD k 0] ++ r.drop (k + 2))) (Ev.eq (ev_catT (ev_catT (ev_slT (l := none) (r := some ((0 : Int) + (k : Nat))) (ev_var 0 rfl) trivial (ev_var 2 rfl))
        (ev_tup (xs := [.int (r.getD (k + 1) 0), .int (r.getD k 0)]) (evA_cons (ev_ixT (ev_var 0 rfl) (ev_add (ev_var 2 rfl) ev_int) a1) (evA_cons (ev_ixT (ev_var 0 rfl) (ev_var 2 rfl) a0) evA_nil))) ?_) (ev_slT (l := some ((0 : Int) + (k : Nat) + 2)) (r := none) (ev_var 0 rfl) (ev_add (ev_var 2 rfl) ev_int) trivial) ?_) ?_) ?_ ?_
      · rw [ek, cut_to2, List.length_take, List.length_map]
        show _ + 2 ≤ _
        omega
      · rw [ek, show ((k : Nat) : Int) + 2 = ((k + 2 : Nat) : Int) by omega, cut_to2, cut_from, List.length_append, List.length_take, List.length_drop, List.length_map]
        show _ + 2 + _ ≤ _
        omega
      · rw [ek, show ((k : Nat) : Int) + 2 = ((k + 2 : Nat) : Int) by omega, cut_to2, cut_from, ← List.map_take, ← List.map_drop]
        unfold encR
        rw [List.map_append, List.map_append]
        rfl
      · rw [List.length_map]
        omega
      · refine tr_nil (tr_nil ⟨.d (.int (0 + (k : Nat))), ?_⟩)
        rw [List.range_succ, List.flatMap_append, List.map_append]
        have es : swapAt r k = [r.take k ++ [r.getD (k + 1) 0, r.getD k 0] ++ r.drop (k + 2)] := if_pos hc
        rw [List.flatMap_cons, List.flatMap_nil, List.append_nil, es]
        rfl
    · have hc := of_decide_eq_false hc
      refine tr_nil ⟨.d (.int (0 + (k : Nat))), ?_⟩
      rw [List.range_succ, List.flatMap_append, List.map_append]
      have es : swapAt r k = [] := if_neg hc
      rw [List.flatMap_cons, List.flatMap_nil, List.append_nil, es, List.map_nil, List.append_nil]
      rfl
  · rintro δ ⟨_, rfl⟩
    rw [rangeD_length]
    exact tr_retOwn 1 rfl rfl
theorem scCand : FnScope ["row"] ["row"] (defScope (top 47)) := ⟨rfl, rfl, rfl, by decide +kernel, rfl, by decide +kernel, by decide +kernel⟩
theorem shortenedM_len {r : List Int} (h : r.length ≤ 1000) : (shortenedM r).length ≤ 4 * 1001 := by
  unfold shortenedM
  refine Nat.le_trans (flat_len (n := 1001) fun e _ => ?_) (Nat.le_refl _)
  rw [List.length_map, List.length_range]
  omega
theorem exchangedM_len {r : List Int} (h : r.length ≤ 1000) : (exchangedM r).length ≤ 1000 := by
  unfold exchangedM
  refine Nat.le_trans (flat_len (n := 1) fun e _ => ?_) (by rw [List.length_range]; omega)
  split <;> simp
theorem tryM_len {x n : Int} {t : List Int} : (tryM x t n).length ≤ t.length + 1 := by
  unfold tryM
  split
  · rw [List.length_append]; exact Nat.le_refl _
  · omega
theorem numsM_len {x : Int} : (numsM x).length ≤ 3 := by
  unfold numsM
  simp only [List.foldl_cons, List.foldl_nil]
  have h1 := tryM_len (x := x) (n := 0) (t := [])
  have h2 := tryM_len (x := x) (n := x / 2) (t := tryM x [] 0)
  have h3 := tryM_len (x := x) (n := x - 1) (t := tryM x (tryM x [] 0) (x / 2))
  simp only [List.length_nil] at h1
  omega
theorem loweredM_len {r : List Int} (h : r.length ≤ 1000) : (loweredM r).length ≤ 3000 := by
  unfold loweredM
  refine Nat.le_trans (flat_len (n := 3) fun e _ => ?_) (by rw [List.length_range]; omega)
  rw [List.length_map]
  exact numsM_len
theorem ok_cand (D : DefK K mg "candidates" 47 ["row"] f fd) (h1 : Cal P w K mg base CX0 1 "shortened" (spD T (rRows shortenedM))) (h2 : Cal P w K mg base CX0 1 "lowered" (spD T (rRows loweredM))) (h3 : Cal P w K mg base CX0 1 "exchanged" (spD T (rRows exchangedM))) :
    FnOk P w K mg base CX0 2 f fd ["row"] (spD T (rRows candM)) := by
  refine fn_d (C := 0) D.fn scCand (fun ds d ⟨r, e, _⟩ => by rw [e]; rfl) (fun cdv A outer s H E G ds d hr hcd hR => ?_)
  obtain ⟨r, rfl, hl, rfl⟩ := hR
  have hz2 : (10000000 : Nat) < sizeLine := big2
  have q1 := shortenedM_len hl
  have q2 := loweredM_len hl
  have q3 := exchangedM_len hl
  refine tr_ret (ev_catL (ev_catL (ev_call h1 hr (evA_cons (ev_var 0 rfl) evA_nil) ⟨r, rfl, hl, rfl⟩) (ev_call h2 hr (evA_cons (ev_var 0 rfl) evA_nil) ⟨r, rfl, hl, rfl⟩) ?_) (ev_call h3 hr (evA_cons (ev_var 0 rfl) evA_nil) ⟨r, rfl, hl, rfl⟩) ?_) ?_
  · rw [List.length_map, List.length_map]; omega
  · rw [List.length_append, List.length_map, List.length_map, List.length_map]; omega
  · show PyData.list _ = PyData.list _
    unfold candM
    rw [List.map_append, List.map_append]
end
end CR

set_option Elab.async false
set_option linter.all false
set_option maxRecDepth 100000
set_option maxHeartbeats 1000000
/-! # Walks: lowered -/
namespace CR
open PySem L2 Evl PyProof.Rows
section
variable {P : Program} {w : World} {K : PySem.W.Frag} {mg : Str → Option Value} {base : Heap} {T : List TabN} {f : Addr} {fd : FuncData}
abbrev NLow : List Str := ["row", "found", "k", "tried", "number"]
theorem scLow : FnScope NLow ["row"] (defScope (top 45)) := ⟨rfl, rfl, rfl, by decide +kernel, rfl, by decide +kernel, by decide +kernel⟩
def lowAt (row : List Int) (k : Nat) : List (List Int) := (numsM (row.getD k 0)).map fun n => row.take k ++ [n] ++ row.drop (k + 1)
theorem ok_low (D : DefK K mg "lowered" 45 ["row"] f fd) (m : MgN mg) : FnOk P w K mg base CX0 1 f fd ["row"] (spD T (rRows loweredM)) := by
  refine fn_d (C := 0) D.fn scLow (fun ds d ⟨r, e, _⟩ => by rw [e]; rfl) (fun cdv A outer s H E G ds d hr hcd hR => ?_)
  obtain ⟨r, rfl, hl, rfl⟩ := hR
  have hz2 : (10000000 : Nat) < sizeLine := big2
  have e1 : ((r.map PyData.int).length : Int) = r.length := by rw [List.length_map]
  refine tr_new 1 evA_nil scLow.nd ?_
  refine tr_for PassesOwn.never rfl (ys := rangeD 0 r.length) (EvI.eq (evI_range1 (n := (r.length : Int)) m.range (Ev.eq (ev_lenT m.len (ev_var 0 rfl)) (by rw [e1])) ⟨by omega, by omega⟩) (by rw [Int.toNat_natCast]))
    (fun k δ => ∃ x y z, δ = [.d (encR r), .own (((List.range k).flatMap (lowAt r)).map encR), x, y, z]) ⟨_, _, _, rfl⟩ ?_ ?_
  · rintro k y δ hy ⟨x1, y1, z1, rfl⟩
    obtain ⟨hk, rfl⟩ := rangeD_get hy
    have hfl : ((List.range k).flatMap (lowAt r)).length ≤ k * 3 := by
      refine Nat.le_trans (flat_len (n := 3) fun e _ => ?_) (by rw [List.length_range]; exact Nat.le_refl _)
      unfold lowAt
      rw [List.length_map]
      exact numsM_len
    have ek : ((0 : Int) + (k : Nat)) = ((k : Nat) : Int) := by omega
    generalize hx : r.getD k 0 = x
    have a0 : atI (r.map PyData.int) ((0 : Int) + (k : Nat)) = some (.int x) := by rw [ek, ← hx]; exact at_encR hk
    refine ⟨_, _, evG_name 2 scLow.nd, ?_⟩
    refine tr_new 3 evA_nil scLow.nd ?_
    refine tr_for PassesOwn.never rfl (ys := ([0, x / 2, x - 1] : List Int).map PyData.int) (EvI.eq (evI_tup (ev_tup (xs := [.int 0, .int (x / 2), .int (x - 1)]) (evA_cons ev_int (evA_cons (ev_fdiv (ev_ixT (ev_var 0 rfl) (ev_var 2 rfl) a0) ev_int ⟨by decide, by decide⟩) (evA_cons (ev_sub (ev_ixT (ev_var 0 rfl) (ev_var 2 rfl) a0) ev_int) evA_nil))))) rfl)
      (fun j δ => ∃ z, δ = [.d (encR r), .own (((List.range k).flatMap (lowAt r)).map encR), .d (.int (0 + (k : Nat))), .own ((((([0, x / 2, x - 1] : List Int).take j).foldl (tryM x) [])).map PyData.int), z]) ⟨_, rfl⟩ ?_ ?_
    · rintro j y δ hy ⟨z1, rfl⟩
      obtain ⟨n, hn, rfl⟩ := get_map hy
      have hj : j < 3 := (List.getElem?_eq_some_iff.mp hn).1
      generalize ht : ((([0, x / 2, x - 1] : List Int).take j).foldl (tryM x) []) = t
      have hnext : ((([0, x / 2, x - 1] : List Int).take (j + 1)).foldl (tryM x) []) = tryM x t n := by
        rw [take_snoc hn, foldl_snoc, ht]
      have htl : t.length ≤ 100 := by
        have q := numsM_len (x := x)
        rw [← ht]
        have h3 : ∀ (l : List Int) (t : List Int), (l.foldl (tryM x) t).length ≤ t.length + l.length := by
          intro l
          induction l with
          | nil => intro t; exact Nat.le_refl _
          | cons a l ih =>
            intro t
            have := ih (tryM x t a)
            have := tryM_len (x := x) (n := a) (t := t)
            rw [List.foldl_cons, List.length_cons]
            omega
        have := h3 (([0, x / 2, x - 1] : List Int).take j) []
        rw [List.length_take, List.length_nil] at this
        have : (3 : Nat) ≤ 100 := by decide
        omega
      refine ⟨_, _, evG_name 4 scLow.nd, ?_⟩
      refine tr_if0 (p := decide (0 < x) && !t.contains n) (evB_w (evW_and (evB_cmpI (ev_ixT (ev_var 0 rfl) (ev_var 2 rfl) a0) ev_int) (fun _ => evW_and1 (EvB.eq (evB_notInO 3 rfl (ev_var 4 rfl) rfl (List.all_eq_true.mpr fun z hz => by
        obtain ⟨w, _, rfl⟩ := List.mem_map.mp hz
        rfl)) (by rw [inV_ints]))))) (fun hc => ?_) (fun hc => ?_)
      · have e2 : tryM x t n = t ++ [n] := if_pos hc
        refine tr_append 3 rfl (d := .int n) (ev_var 4 rfl) (by rw [List.length_map]; omega) (tr_nil (tr_nil ⟨.d (.int n), ?_⟩))
        rw [hnext, e2, List.map_append]
        rfl
      · have e2 : tryM x t n = t := if_neg (by rw [hc]; exact Bool.false_ne_true)
        refine tr_nil ⟨.d (.int n), ?_⟩
        rw [hnext, e2]
        rfl
    · rintro δ ⟨z1, rfl⟩
      have eN : ((([0, x / 2, x - 1] : List Int).take (([0, x / 2, x - 1] : List Int).map PyData.int).length).foldl (tryM x) []) = numsM x := rfl
      rw [eN]
      refine tr_freeze 3 rfl ?_
      have hnl := numsM_len (x := x)
      refine tr_extend 1 rfl (ys := (lowAt r k).map encR) (Ev.eq (ev_lcA (own := [("number", 4)]) (numsM x) PyData.int dint (fun n => encR (r.take k ++ [n] ++ r.drop (k + 1))) [4] (fun n _ => rfl) rfl scLow.nd (blkOk_by (N := NLow) (sc := defScope (top 45)) (by decide +kernel)) rfl (evI_list (ev_var 3 rfl)) (fun n hn => ?_) (by omega)) ?_) ?_ ?_
      · refine ⟨_, [4], fun _ h => h, fun s0 H0 C cl fp => ⟨evG_name 4 scLow.nd, evIf_nil, fun _ => ?_⟩⟩
        refine Ev.eq (ev_catT (ev_catT (ev_slT (l := none) (r := some ((0 : Int) + (k : Nat))) (ev_var 0 rfl) trivial (ev_var 2 rfl)) (ev_tup (xs := [.int n]) (evA_cons (ev_var 4 rfl) evA_nil)) ?_) (ev_slT (l := some ((0 : Int) + (k : Nat) + 1)) (r := none) (ev_var 0 rfl) (ev_add (ev_var 2 rfl) ev_int) trivial) ?_) ?_
        · rw [ek, cut_to2, List.length_take, List.length_map]
          show _ + 1 ≤ _
          omega
        · rw [ek, show ((k : Nat) : Int) + 1 = ((k + 1 : Nat) : Int) by omega, cut_to2, cut_from, List.length_append, List.length_take, List.length_drop, List.length_map]
          show _ + 1 + _ ≤ _
          omega
        · rw [ek, show ((k : Nat) : Int) + 1 = ((k + 1 : Nat) : Int) by omega, cut_to2, cut_from, ← List.map_take, ← List.map_drop]
          unfold encR
          rw [List.map_append, List.map_append]
          rfl
      · unfold lowAt
        rw [List.map_map, hx]
        rfl
      · have q : (lowAt r k).length ≤ 3 := by
          unfold lowAt
          rw [List.length_map]
          exact numsM_len
        rw [List.length_map, List.length_map]
        omega
      · refine tr_nil ⟨.d (.int (0 + (k : Nat))), .d (.list ((numsM x).map PyData.int)), z1, ?_⟩
        rw [List.range_succ, List.flatMap_append, List.map_append, List.flatMap_cons, List.flatMap_nil, List.append_nil]
        rfl
  · rintro δ ⟨_, _, _, rfl⟩
    rw [rangeD_length]
    exact tr_retOwn 1 rfl rfl
end
end CR

set_option Elab.async false
set_option linter.all false
set_option maxRecDepth 100000
set_option maxHeartbeats 1000000
/-! # Walks: step, is_settled, course -/
namespace CR
open PySem L2 Evl PyProof.Rows
def saysS (g : Gn) (c : Cn) (r : List Int) : Str :=
  match exactM g r with
  | some x => if c.val x = true then "passes" else "fails"
  | none => "nothing"
theorem says_str (g : Gn) (c : Cn) (r : List Int) : saysM g c r = .str (saysS g c r) := by
  unfold saysM saysS
  cases exactM g r with
  | none => rfl
  | some x => dsimp only; split <;> rfl
theorem says_fails (g : Gn) (c : Cn) (r : List Int) : decide (saysS g c r = "fails") = failsM g c r := by
  unfold saysS failsM
  cases exactM g r with
  | none => exact decide_eq_false (show ¬ (("nothing" : Str) = "fails") by decide)
  | some x =>
    dsimp only
    by_cases h : c.val x = true
    · refine (decide_eq_false fun z => ?_).trans (by rw [h]; rfl)
      have z2 : (if c.val x = true then ("passes" : Str) else "fails") = "fails" := z
      rw [if_pos h] at z2
      exact absurd z2 (by decide)
    · have h2 : c.val x = false := by simpa using h
      refine (decide_eq_true ?_).trans (by rw [h2]; rfl)
      show (if c.val x = true then ("passes" : Str) else "fails") = "fails"
      exact if_neg h
theorem lessM_len {a b : List Int} (h : lessM a b = true) : a.length ≤ b.length := by
  unfold lessM at h
  simp only [Bool.or_eq_true, Bool.and_eq_true, decide_eq_true_eq] at h
  omega
theorem stepM_some {g : Gn} {c : Cn} {r l : List Int} (h : stepM g c r = some l) : lessM l r = true ∧ failsM g c l = true := by
  unfold stepM at h
  obtain ⟨x, _, hx⟩ := List.exists_of_findSome?_eq_some h
  unfold stepTo at hx
  cases e : leftM g x with
  | none => rw [e] at hx; cases hx
  | some y =>
    rw [e] at hx
    dsimp only at hx
    split at hx
    · rename_i hc
      cases hx
      exact Bool.and_eq_true_iff.mp hc
    · cases hx
section
variable {P : Program} {w : World} {K : PySem.W.Frag} {mg : Str → Option Value} {base : Heap} {T : List TabN} {f : Addr} {fd : FuncData}
def rStep (ds : List PyData) (d : PyData) : Prop := ∃ (g : Gn) (c : Cn) (r : List Int), ds = [encTest g c, encR r] ∧ TestOk g c ∧ r.length ≤ 1000 ∧ d = encO (stepM g c r)
theorem scStep : FnScope ["test", "row", "candidate", "left"] ["test", "row"] (defScope (top 49)) := ⟨rfl, rfl, rfl, by decide +kernel, rfl, by decide +kernel, by decide +kernel⟩
theorem findSome_take {α β : Type} {p : α → Option β} {xs : List α} {k : Nat} {x : α} {y : β} (h : ∀ e ∈ xs.take k, p e = none) (hx : xs[k]? = some x) (hp : p x = some y) : xs.findSome? p = some y := by
  induction xs generalizing k with
  | nil => simp at hx
  | cons z ys ih =>
    cases k with
    | zero =>
      simp only [List.getElem?_cons_zero, Option.some.injEq] at hx
      subst hx
      rw [List.findSome?_cons, hp]
    | succ k =>
      have hy : p z = none := h z (by rw [List.take_succ_cons]; exact List.mem_cons_self)
      rw [List.findSome?_cons, hy]
      exact ih (fun e he => h e (by rw [List.take_succ_cons]; exact List.mem_cons_of_mem _ he)) (by simpa using hx)
theorem ok_step (D : DefK K mg "step" 49 ["test", "row"] f fd) (hca : Cal P w K mg base CX0 2 "candidates" (spD T (rRows candM))) (hle : Cal P w K mg base CX0 43 "left_by" (spD T rLeft)) (hls : Cal P w K mg base CX0 1 "is_less" (spD T rLess)) (hsa : Cal P w K mg base CX0 43 "says" (spD T rSays)) :
    FnOk P w K mg base CX0 44 f fd ["test", "row"] (spD T rStep) := by
  refine fn_d (C := 0) D.fn scStep (fun ds d ⟨g, c, r, e, _⟩ => by rw [e]; rfl) (fun cdv A outer s H E G ds d hr hcd hR => ?_)
  obtain ⟨g, c, r, rfl, hT, hl, rfl⟩ := hR
  refine tr_for PassesOwn.never rfl (evI_list (ys := (candM r).map encR) (ev_call hca (hr.mono (by omega)) (evA_cons (ev_var 1 rfl) evA_nil) ⟨r, rfl, hl, rfl⟩))
    (fun k δ => (∃ x y, δ = [.d (encTest g c), .d (encR r), x, y]) ∧ ∀ e ∈ (candM r).take k, stepTo g c r e = none) ⟨⟨_, _, rfl⟩, fun e he => by rw [List.take_zero] at he; cases he⟩ ?_ ?_
  · rintro k y δ hy ⟨⟨x1, y1, rfl⟩, hall⟩
    obtain ⟨cand, he, rfl⟩ := get_map hy
    refine ⟨_, _, evG_name 2 scStep.nd, ?_⟩
    refine tr_asg 3 (ev_call hle hr (evA_cons (ev_ixT (xs := [g.enc, c.enc]) (d := g.enc) (ev_var 0 rfl) ev_int rfl) (evA_cons (ev_var 2 rfl) evA_nil)) ⟨g, cand, rfl, hT.wf, hT.dep, rfl⟩) scStep.nd ?_
    have next : stepTo g c r cand = none → ∀ e ∈ (candM r).take (k + 1), stepTo g c r e = none := fun h e' he' => by
      rw [take_snoc he] at he'
      rcases List.mem_append.mp he' with h' | h'
      · exact hall e' h'
      · rw [List.mem_singleton.mp h']
        exact h
    cases el : leftM g cand with
    | none =>
      have es : stepTo g c r cand = none := by unfold stepTo; rw [el]
      refine tr_if0 (p := false) (evB_w (evW_and (p := false) (q := false) ((evB_notN (ev_var 3 rfl)).eq rfl) (fun z => nomatch z))) (fun z => nomatch z) (fun _ => tr_nil ⟨⟨_, _, rfl⟩, next es⟩)
    | some l =>
      have es : stepTo g c r cand = if (lessM l r && failsM g c l) = true then some l else none := by unfold stepTo; rw [el]
      refine tr_if0 (p := lessM l r && failsM g c l) (EvB.eq (evB_w (evW_and (p := true) (q := lessM l r && failsM g c l) ((evB_notN (x := encR l) (ev_var 3 rfl)).eq rfl) (fun _ => evW_and (p := lessM l r) (q := failsM g c l) (evB_val (ev_call hls (hr.mono (by omega)) (evA_cons (x := encR l) (ev_var 3 rfl) (evA_cons (ev_var 1 rfl) evA_nil)) ⟨l, r, rfl, rfl⟩))
        (fun _ => evW_and1 (EvB.eq (evB_eqS (u := saysS g c l) (Ev.eq (ev_call hsa hr (evA_cons (ev_var 0 rfl) (evA_cons (x := encR l) (ev_var 3 rfl) evA_nil)) ⟨g, c, l, rfl, hT, rfl⟩) (says_str g c l)) ev_str) (says_fails g c l)))))) (Bool.true_and _)) (fun hc => ?_) (fun hc => ?_)
      · refine tr_ret (d := encR l) (ev_var 3 rfl) ?_
        show encR l = encO (stepM g c r)
        unfold stepM
        rw [findSome_take hall he (by rw [es, if_pos hc])]
        rfl
      · exact tr_nil ⟨⟨_, _, rfl⟩, next (by rw [es, if_neg (by rw [hc]; exact Bool.false_ne_true)])⟩
  · rintro δ ⟨⟨x1, y1, rfl⟩, hall⟩
    rw [List.length_map, List.take_length] at hall
    refine tr_ret ev_none ?_
    show PyData.none = encO (stepM g c r)
    unfold stepM
    rw [List.findSome?_eq_none_iff.mpr hall]
    rfl
def rSet (ds : List PyData) (d : PyData) : Prop := ∃ (g : Gn) (c : Cn) (r : List Int), ds = [encTest g c, encR r] ∧ TestOk g c ∧ r.length ≤ 1000 ∧ d = .bool (stepM g c r).isNone
theorem scSet : FnScope ["test", "row"] ["test", "row"] (defScope (top 50)) := ⟨rfl, rfl, rfl, by decide +kernel, rfl, by decide +kernel, by decide +kernel⟩
theorem isNon_encO (o : Option (List Int)) : isNon (encO o) = o.isNone := by cases o <;> rfl
theorem ok_set (D : DefK K mg "is_settled" 50 ["test", "row"] f fd) (hst : Cal P w K mg base CX0 44 "step" (spD T rStep)) : FnOk P w K mg base CX0 45 f fd ["test", "row"] (spD T rSet) := by
  refine fn_d (C := 0) D.fn scSet (fun ds d ⟨g, c, r, e, _⟩ => by rw [e]; rfl) (fun cdv A outer s H E G ds d hr hcd hR => ?_)
  obtain ⟨g, c, r, rfl, hT, hl, rfl⟩ := hR
  exact tr_ret (Ev.eq (ev_isN (ev_call hst hr (evA_cons (ev_var 0 rfl) (evA_cons (ev_var 1 rfl) evA_nil)) ⟨g, c, r, rfl, hT, hl, rfl⟩)) (by rw [isNon_encO])) rfl
/-- the course ends within n steps -/
def endsM (g : Gn) (c : Cn) : Nat → List Int → Bool
  | 0, r => (stepM g c r).isNone
  | n + 1, r =>
    match stepM g c r with
    | none => true
    | some l => endsM g c n l
def rCourse (ds : List PyData) (d : PyData) : Prop := ∃ (g : Gn) (c : Cn) (r : List Int) (n : Nat), ds = [encTest g c, encR r] ∧ TestOk g c ∧ r.length ≤ 1000 ∧ n ≤ 1000000 ∧ endsM g c n r = true ∧ d = encL (courseM g c n r)
abbrev NCou : List Str := ["test", "row", "rows", "later"]
theorem scCou : FnScope NCou ["test", "row"] (defScope (top 51)) := ⟨rfl, rfl, rfl, by decide +kernel, rfl, by decide +kernel, by decide +kernel⟩
theorem ok_cou (D : DefK K mg "course" 51 ["test", "row"] f fd) (hst : Cal P w K mg base CX0 44 "step" (spD T rStep)) : FnOk P w K mg base CX0 45 f fd ["test", "row"] (spD T rCourse) := by
  refine fn_d (C := 0) D.fn scCou (fun ds d ⟨g, c, r, n, e, _⟩ => by rw [e]; rfl) (fun cdv A outer s H E G ds d hr hcd hR => ?_)
  obtain ⟨g, c, r, n, rfl, hT, hl, hn, hend, rfl⟩ := hR
  have hz2 : (10000000 : Nat) < sizeLine := big2
  refine tr_new 2 (evA_cons (ev_var 1 rfl) evA_nil) scCou.nd ?_
  refine tr_asg 3 (ev_call hst hr (evA_cons (ev_var 0 rfl) (evA_cons (ev_var 1 rfl) evA_nil)) ⟨g, c, r, rfl, hT, hl, rfl⟩) scCou.nd ?_
  refine tr_while PassesOwn.never (fun k δ => ∃ (acc : List (List Int)) (cur : List Int), endsM g c k cur = true ∧ acc ++ courseM g c k cur = courseM g c n r ∧ acc.length + k = n ∧ cur.length ≤ 1000 ∧ δ = [.d (encTest g c), .d (encR r), .own ((acc ++ [cur]).map encR), .d (encO (stepM g c cur))]) n
    ⟨[], r, hend, rfl, by rw [List.length_nil]; omega, hl, rfl⟩ ?_
  rintro k δ ⟨acc, cur, he, hc, hk, hcl, rfl⟩
  cases es : stepM g c cur with
  | none =>
    refine ⟨false, EvB.eq (evB_notN (x := PyData.none) (ev_var 3 rfl)) rfl, (fun z => nomatch z), fun _ => ?_⟩
    have e1 : courseM g c k cur = [cur] := by
      cases k with
      | zero => rfl
      | succ k => unfold courseM; rw [es]
    rw [e1] at hc
    refine tr_retOwn 2 rfl ?_
    show PyData.list ((acc ++ [cur]).map encR) = encL (courseM g c n r)
    rw [hc]
    rfl
  | some l =>
    obtain ⟨hless, _⟩ := stepM_some es
    have hll := lessM_len hless
    cases k with
    | zero =>
      unfold endsM at he
      rw [es] at he
      cases he
    | succ k =>
      unfold endsM at he
      rw [es] at he
      refine ⟨true, EvB.eq (evB_notN (x := encR l) (ev_var 3 rfl)) rfl, fun _ => ?_, (fun z => nomatch z)⟩
      refine tr_append 2 rfl (d := encR l) (ev_var 3 rfl) (by rw [List.length_map, List.length_append]; show acc.length + 1 < _; omega) ?_
      refine tr_asg 3 (ev_call hst hr (evA_cons (ev_var 0 rfl) (evA_cons (x := encR l) (ev_var 3 rfl) evA_nil)) ⟨g, c, l, rfl, hT, by omega, rfl⟩) scCou.nd ?_
      refine tr_nil ⟨k, Nat.lt_succ_self k, acc ++ [cur], l, he, ?_, by rw [List.length_append]; show acc.length + 1 + k = n; omega, by omega, ?_⟩
      · rw [← hc]
        have e1 : courseM g c (k + 1) cur = cur :: courseM g c k l := by
          show (match stepM g c cur with | none => _ | some l => _) = _
          rw [es]
        rw [e1, List.append_assoc]
        rfl
      · rw [List.map_append (l₁ := acc ++ [cur])]
        rfl
end
end CR

set_option Elab.async false
set_option linter.all false
set_option maxRecDepth 100000
set_option maxHeartbeats 1000000
/-! # Walks: waste -/
namespace CR
open PySem L2 Evl PyProof.Rows
/-! rows as data: shaped, equal -/
theorem lay_ints : ∀ r : List Int, PyData.canLayAll0 (r.map .int) = true
  | [] => rfl
  | x :: r => by
    rw [List.map_cons]
    simp only [PyData.canLayAll0, PyData.canLay0, lay_ints r, Bool.and_self]
theorem dep_ints : ∀ r : List Int, PyData.depthAll (r.map .int) = 0
  | [] => rfl
  | x :: r => by
    rw [List.map_cons]
    simp only [PyData.depthAll, PyData.depth, dep_ints r, Nat.max_self]
theorem shaped_encR (r : List Int) : SeqAt.shaped (encR r) = true := by
  unfold SeqAt.shaped encR
  simp only [PyData.canLay0, PyData.depth, lay_ints, dep_ints]
  rfl
theorem shaped_encO (o : Option (List Int)) : SeqAt.shaped (encO o) = true := by
  cases o with
  | none => rfl
  | some r => exact shaped_encR r
theorem eqv_encO (a : List Int) (o : Option (List Int)) : PyData.eqv (encR a) (encO o) = decide (some a = o) := by
  cases o with
  | none => 
    unfold encR encO
    simp [PyData.eqv]
  | some b =>
    rw [show encO (some b) = encR b from rfl, eqv_encR]
    by_cases h : a = b
    · subst h; simp
    · simp [h]
section
variable {P : Program} {w : World} {K : PySem.W.Frag} {mg : Str → Option Value} {base : Heap} {T : List TabN} {f : Addr} {fd : FuncData}
def rWaste (ds : List PyData) (d : PyData) : Prop := ∃ (g : Gn) (c : Cn), ds = [encTest g c] ∧ TestOk g c ∧ d = encL (wasteM g c)
abbrev NWas : List Str := ["test", "least", "rows", "value", "count", "row"]
theorem scWas : FnScope NWas ["test"] (defScope (top 52)) := ⟨rfl, rfl, rfl, by decide +kernel, rfl, by decide +kernel, by decide +kernel⟩
theorem ok_was (D : DefK K mg "waste" 52 ["test"] f fd) (hta : Cal P w K mg base CX0 30 "table" (spD T rTab)) (hls : Cal P w K mg base CX0 31 "least_failing" (spD T rLeast)) (hsa : Cal P w K mg base CX0 43 "says" (spD T rSays)) (hse : Cal P w K mg base CX0 45 "is_settled" (spD T rSet)) :
    FnOk P w K mg base CX0 46 f fd ["test"] (spD T rWaste) := by
  refine fn_d (C := 0) D.fn scWas (fun ds d ⟨g, c, e, _⟩ => by rw [e]; rfl) (fun cdv A outer s H E G ds d hr hcd hR => ?_)
  obtain ⟨g, c, rfl, hT, rfl⟩ := hR
  have hz2 : (10000000 : Nat) < sizeLine := big2
  have hl := hT.tp.q.2.2.2
  refine tr_asg 1 (ev_call hls (hr.mono (by omega)) (evA_cons (ev_var 0 rfl) evA_nil) ⟨g, c, rfl, hT, rfl⟩) scWas.nd ?_
  refine tr_setLcM (own := [("value", 3), ("count", 4), ("row", 5)]) 2 (tableM g) Ent.enc decE (fun e => failsM g c e.r) (fun e => encR e.r) [3, 4, 5] (fun e _ => decE_enc e) rfl scWas.nd (blkOk_by (N := NWas) (sc := defScope (top 52)) (by decide +kernel)) rfl
    (evI_list (ev_call hta (hr.mono (by omega)) (evA_cons (ev_ixT (xs := [g.enc, c.enc]) (d := g.enc) (ev_var 0 rfl) ev_int rfl) evA_nil) ⟨g, rfl, hT.tp, hT.dep, rfl⟩)) (fun e he => ?_) (by omega) ?_
  · exact ⟨_, [3, 4, 5], fun _ h => h, fun s0 H0 C cl fp => ⟨evG_tup (ds := [e.v, .int e.n, encR e.r]) rfl (evGs_cons (evG_name 3 scWas.nd) (evGs_cons (evG_name 4 scWas.nd) (evGs_cons (evG_name 5 scWas.nd) evGs_nil))),
      evIf_one (EvB.eq (evB_eqS (u := saysS g c e.r) (Ev.eq (ev_call hsa (hr.mono (by omega)) (evA_cons (ev_var 0 rfl) (evA_cons (ev_var 5 rfl) evA_nil)) ⟨g, c, e.r, rfl, hT, rfl⟩) (says_str g c e.r)) ev_str) (says_fails g c e.r)), fun _ => ev_var 5 rfl⟩⟩
  · generalize hrows : (((tableM g).filter fun e => failsM g c e.r).map (·.r)) = rows
    have e1 : (((tableM g).filter fun e => failsM g c e.r).map fun e => encR e.r) = rows.map encR := by
      rw [← hrows, List.map_map]
      rfl
    have e2 : wasteM g c = rows.filter fun r => decide (some r ≠ leastM g c) && (stepM g c r).isNone := by
      unfold wasteM
      rw [← hrows, List.filter_map]
      rfl
    have hrl : ∀ r ∈ rows, r.length ≤ 1000 := fun r hr => by
      rw [← hrows] at hr
      obtain ⟨e, he, rfl⟩ := List.mem_map.mp hr
      exact (hT.tv e (List.mem_filter.mp he).1).2
    have hn : rows.length ≤ 2000 := by
      rw [← hrows, List.length_map]
      exact Nat.le_trans (List.length_filter_le _ _) hl
    rw [e1]
    refine tr_ret (Ev.eq (ev_lcM (own := [("row", 5)]) rows encR dints (fun r => decide (some r ≠ leastM g c) && (stepM g c r).isNone) encR [5] (fun r _ => dints_enc r) rfl scWas.nd (blkOk_by (N := NWas) (sc := defScope (top 52)) (by decide +kernel)) rfl (evI_list (ev_var 2 rfl)) (fun r hr2 => ?_) (by omega)) ?_) rfl
    · refine ⟨_, [5], fun _ h => h, fun s0 H0 C cl fp => ⟨evG_name 5 scWas.nd, evIf_one (evB_w (evW_and (p := decide (some r ≠ leastM g c)) (q := (stepM g c r).isNone) (EvB.eq (evB_neD hr.units (ev_var 5 rfl) (ev_var 1 rfl) (shaped_encR r) (shaped_encO _)) ?_) (fun _ => evW_and1 (evB_val (ev_call hse hr (evA_cons (ev_var 0 rfl) (evA_cons (ev_var 5 rfl) evA_nil)) ⟨g, c, r, rfl, hT, hrl r hr2, rfl⟩))))), fun _ => ev_var 5 rfl⟩⟩
      rw [eqv_encO]
      by_cases h : some r = leastM g c
      · simp [h]
      · simp [h]
    · rw [e2]
      rfl
end
end CR

set_option Elab.async false
set_option linter.all false
set_option maxRecDepth 100000
set_option maxHeartbeats 1000000
/-! # The script: a list that is handed on by reference -/
namespace CR
open PySem L2 Evl PyProof.Rows
section
variable {X : Cx} {B : Bd} {δ : List SD} {σ : L2.St} {G H : Hp} {e : Expr} {i x : Int} {a : Addr} {ns : List Int} {pos pz p1 : Pos}
theorem Sta.script {K : PySem.W.Frag} {xs : List V} (s : Sta B δ σ G H) (hm : ∀ a, ¬ B.m a) (h : SqL K B.H0 a xs) : SqL K H a xs := by
  rcases h with h | h
  · refine .inl ?_
    rcases h with h | ⟨ob, h⟩
    · exact .inl (s.gr.h a _ h (fun _ z => nomatch z) (hm a))
    · exact .inr ⟨ob, s.gr.h a _ h (fun _ z => nomatch z) (hm a)⟩
  · exact .inr h
theorem ev_lenS (n : Nat) {z : Str} (hm : X.mg ("len" : Str) = none) (hn : δ[n]? = some (.ref a)) (hS : SqL X.K B.H0 a (ns.map V.int)) (h0 : ∀ a, ¬ B.m a) (hN : X.N[n]? = some z := by rfl) (hv : Vis X.env.scope z := by first | exact Or.inl rfl | exact Or.inr (Or.inl rfl) | exact Or.inr (Or.inr rfl))
    (hd : (z == ("__debug__" : Str)) = false := by decide) (hcd : (z == ("__classdict__" : Str)) = false := by decide) (hg : Gl X ("len" : Str) := by rfl)
    (he : starEach (.Name z p1 :: []) X.env = (false, eval (.Name z p1) X.env) :: starEach [] X.env := by rfl) (hpl : (backTo pos (starEach [] X.env)).any (·.1) = false := by rfl) : Ev X B δ (.Call (.Name "len" pz) [.Name z p1] [] pos) (.int ns.length) :=
  ev_of (pe_callB call_len_seq hg hm PySem.boot_len (pa_cons (pe_var hN hv hd hcd) pa_nil he) (by decide) (by decide) he hpl) fun σ G H s Q q =>
    ⟨_, s.ok n _ hn, a, ns.map V.int, rfl, .inl (s.script h0 hS), by rw [List.length_map]; exact q _ G H s.refl (.int _)⟩
theorem ev_ixS (n : Nat) {z : Str} (hn : δ[n]? = some (.ref a)) (hS : SqL X.K B.H0 a (ns.map V.int)) (h0 : ∀ a, ¬ B.m a) (he : Ev X B δ e (.int i)) (hi : atI (ns.map V.int) i = some (.int x)) (hN : X.N[n]? = some z := by rfl) (hv : Vis X.env.scope z := by first | exact Or.inl rfl | exact Or.inr (Or.inl rfl) | exact Or.inr (Or.inr rfl))
    (hd : (z == ("__debug__" : Str)) = false := by decide) (hcd : (z == ("__classdict__" : Str)) = false := by decide) (hs : PlainIx e := by exact fun _ _ => rfl) : Ev X B δ (.Subscript (.Name z p1) e pos) (.int x) :=
  ev_of (pe_ix ix_list (pe_var hN hv hd hcd) pe_sem hs) fun σ G H s Q q => ⟨_, s.ok n _ hn, he σ G H s _ fun v G2 H2 g2 d2 => ⟨a, ns.map V.int, i, .int x, rfl, dpi_int d2, (s.grow g2).script h0 hS, hi, q _ G2 H2 g2 (.int x)⟩⟩
end
end CR

set_option Elab.async false
set_option linter.all false
set_option maxRecDepth 100000
set_option maxHeartbeats 1000000
/-! # Walks: the law's own small defs -/
namespace CR
open PySem L2 Evl PyProof.Rows
section
variable {P : Program} {w : World} {K : PySem.W.Frag} {mg : Str → Option Value} {base : Heap} {T : List TabN} {f : Addr} {fd : FuncData}
/-- the script's cell k, 0 behind its end -/
def cellM (ns : List Int) (k : Nat) : Int := ns.getD k 0
def PreCell (K : PySem.W.Frag) (G H : Hp) (sds : List SD) (d : PyData) : Prop := ∃ (a : Addr) (ns : List Int) (k : Nat), sds = [.ref a, .d (.int k)] ∧ SqL K H a (ns.map V.int) ∧ d = .int (cellM ns k)
theorem scCell : FnScope ["_law_script", "_law_k"] ["_law_script", "_law_k"] (defScope (top 54)) := ⟨rfl, rfl, rfl, by decide +kernel, rfl, by decide +kernel, by decide +kernel⟩
theorem ok_cell (D : DefK K mg "_law_cell" 54 ["_law_script", "_law_k"] f fd) (m : MgN mg) : FnOk P w K mg base CX0 1 f fd ["_law_script", "_law_k"] (spX T (PreCell K)) := by
  refine fn_x (C := 0) D.fn scCell (fun G H sds d ⟨a, ns, k, e, _⟩ => by rw [e]; rfl) (fun cdv A outer s H E G sds d hr hcd hR => ?_)
  obtain ⟨a, ns, k, rfl, hS, rfl⟩ := hR
  refine tr_if0 (p := decide (k < ns.length)) (EvB.eq (evB_cmpI (ev_var 1 rfl) (ev_lenS 0 m.len rfl hS (fun _ z => z))) ?_) (fun hc => ?_) (fun hc => ?_)
  · show decide ((k : Int) < (ns.length : Int)) = _
    by_cases h : k < ns.length
    · rw [decide_eq_true h, decide_eq_true (by omega)]
    · rw [decide_eq_false h, decide_eq_false (by omega)]
  · have hc := of_decide_eq_true hc
    refine tr_ret (ev_ixS (x := cellM ns k) 0 rfl hS (fun _ z => z) (ev_var 1 rfl) ?_) rfl
    refine atI_nat ?_
    rw [List.getElem?_map, List.getElem?_eq_getElem hc]
    unfold cellM
    rw [List.getD_eq_getElem?_getD, List.getElem?_eq_getElem hc]
    rfl
  · have hc := of_decide_eq_false hc
    refine tr_ret (Ev.eq ev_int ?_) rfl
    unfold cellM
    rw [List.getD_eq_getElem?_getD, List.getElem?_eq_none (by omega)]
    rfl
end
end CR

set_option Elab.async false
set_option linter.all false
set_option maxRecDepth 100000
set_option maxHeartbeats 1000000
/-! # Walks: _law_draw -/
namespace CR
open PySem L2 Evl PyProof.Rows
def bigDraw : Int → List Int → List Int
  | _, [] => []
  | c, s :: r => (c % s) :: bigDraw (c / s) r
def mix1 (m : Int) (j : Nat) : Int := (((m * 48271 + 11 + j) % 2147483647) * 69621 + 3) % 2147483647
def mixDraw : Int → Nat → List Int → List Int
  | _, _, [] => []
  | m, j, s :: r => (mix1 m j / 7 % s) :: mixDraw (mix1 m j) (j + 1) r
def absI (c : Int) : Int := if c < 0 then -c else c
/-- the digits that the script gives at k -/
def drawL (ns : List Int) (k : Nat) (sizes : List Int) : List Int :=
  if 10 ^ 18 ≤ absI (cellM ns k) then bigDraw (absI (cellM ns k) - 10 ^ 18) sizes else mixDraw ((absI (cellM ns k) + 1 + 31 * k) % 2147483647) 0 sizes
theorem drop_get {α : Type} {xs : List α} {k : Nat} {x : α} (h : xs[k]? = some x) : xs.drop k = x :: xs.drop (k + 1) := by
  have hk := (List.getElem?_eq_some_iff.mp h).1
  rw [List.drop_eq_getElem_cons hk]
  congr 1
  rw [List.getElem?_eq_getElem hk] at h
  exact Option.some.inj h
section
variable {P : Program} {w : World} {K : PySem.W.Frag} {mg : Str → Option Value} {base : Heap} {T : List TabN} {f : Addr} {fd : FuncData}
def PreDraw (K : PySem.W.Frag) (G H : Hp) (sds : List SD) (d : PyData) : Prop := ∃ (a : Addr) (ns : List Int) (k : Nat) (sizes : List Int), sds = [.ref a, .d (.int k), .d (.list (sizes.map .int))] ∧ SqL K H a (ns.map V.int) ∧ k ≤ 1000 ∧ sizes.length ≤ 100 ∧ (∀ s ∈ sizes, 1 ≤ s ∧ s ≤ 100) ∧ d = .list ((drawL ns k sizes).map .int)
abbrev NDrw : List Str := ["_law_script", "_law_k", "_law_sizes", "_law_cell_here", "_law_drawn", "_law_size", "_law_mixed", "_law_j"]
theorem scDrw : FnScope NDrw ["_law_script", "_law_k", "_law_sizes"] (defScope (top 55)) := ⟨rfl, rfl, rfl, by decide +kernel, rfl, by decide +kernel, by decide +kernel⟩
theorem ok_drw (D : DefK K mg "_law_draw" 55 ["_law_script", "_law_k", "_law_sizes"] f fd) (m : MgN mg) (hce : Cal P w K mg base CX0 1 "_law_cell" (spX T (PreCell K))) : FnOk P w K mg base CX0 2 f fd ["_law_script", "_law_k", "_law_sizes"] (spX T (PreDraw K)) := by
  refine fn_x (C := 0) D.fn scDrw (fun G H sds d ⟨a, ns, k, sz, e, _⟩ => by rw [e]; rfl) (fun cdv A outer s H E G sds d hr hcd hR => ?_)
  obtain ⟨a, ns, k, sizes, rfl, hS, hk, hsl, hs1, rfl⟩ := hR
  have hz2 : (10000000 : Nat) < sizeLine := big2
  have e1 : ((sizes.map PyData.int).length : Int) = sizes.length := by rw [List.length_map]
  refine tr_asg 3 (d := .int (cellM ns k)) (ev_callX hce hr (evAS_ref 0 rfl (evAS_cons (ev_var 1 rfl) evAS_nil)) (fun σ G2 H2 s2 => ⟨a, ns, k, rfl, s2.script (fun _ z => z) hS, rfl⟩)) scDrw.nd ?_
  have go : ∀ c : Int, c = absI (cellM ns k) → Tr (cxOf CX0 P w K mg base NDrw "_law_draw" (defScope (top 55)) f cdv A outer s H E).nox ⟨T, m0, 0, G, H⟩ [.ref a, .d (.int k), .d (.list (sizes.map .int)), .d (.int c), .un, .un, .un, .un] ((defBody (top 55)).drop 2) { nx := fun _ => PyData.list ((drawL ns k sizes).map .int) = .none, rt := fun r => r = .list ((drawL ns k sizes).map .int) } := by
    intro c hc
    refine tr_new 4 evA_nil scDrw.nd ?_
    refine tr_if0 (p := decide (10 ^ 18 ≤ c)) (evB_cmpI (ev_var 3 rfl) (ev_pow ev_int ev_int ⟨by decide, by decide, by decide⟩)) (fun hb => ?_) (fun hb => ?_)
    · have hb := of_decide_eq_true hb
      have eD : drawL ns k sizes = bigDraw (c - 10 ^ 18) sizes := by
        unfold drawL
        rw [← hc, if_pos hb]
      rw [eD]
      refine tr_asg 3 (ev_sub (ev_var 3 rfl) (ev_pow ev_int ev_int ⟨by decide, by decide, by decide⟩)) scDrw.nd ?_
      refine tr_for PassesOwn.never rfl (evI_list (ys := sizes.map PyData.int) (ev_var 2 rfl)) (fun j δ => ∃ c2 acc x, bigDraw (c - 10 ^ 18) sizes = acc ++ bigDraw c2 (sizes.drop j) ∧ acc.length = j ∧ δ = [.ref a, .d (.int k), .d (.list (sizes.map .int)), .d (.int c2), .own (acc.map .int), x, .un, .un]) ⟨c - 10 ^ 18, [], .un, rfl, rfl, rfl⟩ ?_ ?_
      · rintro j y δ hy ⟨c2, acc, x1, h1, h2, rfl⟩
        obtain ⟨n, hn, rfl⟩ := get_map hy
        have hj := (List.getElem?_eq_some_iff.mp hn).1
        obtain ⟨q1, q2⟩ := hs1 n (List.mem_of_getElem? hn)
        refine ⟨_, _, evG_name 5 scDrw.nd, ?_⟩
        refine tr_append 4 rfl (ev_mod (ev_var 3 rfl) (ev_var 5 rfl) (by omega)) (by rw [List.length_map]; omega) ?_
        refine tr_asg 3 (ev_fdiv (ev_var 3 rfl) (ev_var 5 rfl) ⟨by omega, by omega⟩) scDrw.nd ?_
        refine tr_nil ⟨c2 / n, acc ++ [c2 % n], .d (.int n), ?_, by rw [List.length_append, h2]; rfl, by rw [List.map_append]; rfl⟩
        rw [h1, drop_get hn, List.append_assoc]
        rfl
      · rintro δ ⟨c2, acc, x1, h1, h2, rfl⟩
        rw [List.length_map, List.drop_length] at h1
        refine tr_retOwn 4 rfl ?_
        rw [h1]
        show _ = PyData.list ((acc ++ []).map .int)
        rw [List.append_nil]
    · have hb := of_decide_eq_false hb
      have eD : drawL ns k sizes = mixDraw ((c + 1 + 31 * k) % 2147483647) 0 sizes := by
        unfold drawL
        rw [← hc, if_neg hb]
      rw [eD]
      refine tr_asg 6 (ev_mod (ev_add (ev_add (ev_var 3 rfl) ev_int) (ev_mul ev_int (ev_var 1 rfl) (.inl ⟨by decide, by decide⟩))) ev_int (by decide)) scDrw.nd ?_
      generalize (c + 1 + 31 * (k : Int)) % 2147483647 = m9
      refine tr_for PassesOwn.never rfl (ys := rangeD 0 sizes.length) (EvI.eq (evI_range1 (n := (sizes.length : Int)) m.range (Ev.eq (ev_lenL m.len (ev_var 2 rfl)) (by rw [e1])) ⟨by omega, by omega⟩) (by rw [Int.toNat_natCast]))
        (fun j δ => ∃ m2 acc x, mixDraw m9 0 sizes = acc ++ mixDraw m2 j (sizes.drop j) ∧ acc.length = j ∧ δ = [.ref a, .d (.int k), .d (.list (sizes.map .int)), .d (.int c), .own (acc.map .int), .un, .d (.int m2), x]) ⟨m9, [], .un, rfl, rfl, rfl⟩ ?_ ?_
      · rintro j y δ hy ⟨m2, acc, x1, h1, h2, rfl⟩
        obtain ⟨hj, rfl⟩ := rangeD_get hy
        have hn : sizes[j]? = some sizes[j] := List.getElem?_eq_getElem hj
        obtain ⟨q1, q2⟩ := hs1 sizes[j] (List.getElem_mem hj)
        refine ⟨_, _, evG_name 7 scDrw.nd, ?_⟩
        refine tr_asg 6 (ev_mod (ev_add (ev_add (ev_mul (ev_var 6 rfl) ev_int (.inr ⟨by decide, by decide⟩)) ev_int) (ev_var 7 rfl)) ev_int (by decide)) scDrw.nd ?_
        refine tr_asg 6 (ev_mod (ev_add (ev_mul (ev_var 6 rfl) ev_int (.inr ⟨by decide, by decide⟩)) ev_int) ev_int (by decide)) scDrw.nd ?_
        have em : ((m2 * 48271 + 11 + ((0 : Int) + (j : Nat))) % 2147483647 * 69621 + 3) % 2147483647 = mix1 m2 j := by
          unfold mix1
          rw [Int.zero_add]
        refine tr_append 4 rfl (d := .int (mix1 m2 j / 7 % sizes[j])) (Ev.eq (ev_mod (ev_fdiv (ev_var 6 rfl) ev_int ⟨by decide, by decide⟩) (ev_ixL (d := .int sizes[j]) (ev_var 2 rfl) (ev_var 7 rfl) ?_) (by omega)) (by rw [em])) (by rw [List.length_map]; omega) ?_
        · rw [Int.zero_add]
          exact atI_nat (by rw [List.getElem?_map, hn]; rfl)
        · refine tr_nil ⟨mix1 m2 j, acc ++ [mix1 m2 j / 7 % sizes[j]], .d (.int (0 + (j : Nat))), ?_, by rw [List.length_append, h2]; rfl, by rw [← em, List.map_append]; rfl⟩
          rw [h1, drop_get hn, List.append_assoc]
          rfl
      · rintro δ ⟨m2, acc, x1, h1, h2, rfl⟩
        rw [rangeD_length, List.drop_length] at h1
        refine tr_retOwn 4 rfl ?_
        rw [h1]
        show _ = PyData.list ((acc ++ []).map .int)
        rw [List.append_nil]
  refine tr_if0 (p := decide (cellM ns k < 0)) (evB_cmpI (ev_var 3 rfl) ev_int) (fun hb => ?_) (fun hb => ?_)
  · have hb := of_decide_eq_true hb
    refine tr_asg 3 (ev_neg (ev_var 3 rfl)) scDrw.nd (tr_nil ?_)
    exact go (-cellM ns k) (by unfold absI; rw [if_pos hb])
  · have hb := of_decide_eq_false hb
    exact go (cellM ns k) (by unfold absI; rw [if_neg hb])
end
end CR

set_option Elab.async false
set_option linter.all false
set_option maxRecDepth 100000
set_option maxHeartbeats 1000000
/-! # The judgements behind structures: the elaborator then does not unfold them -/
namespace CR
open PySem L2 Evl PyProof.Rows
section
variable {X : Cx} {B : Bd} {δ δ' : List SD} {a b c e : Expr} {es : List Expr} {d x y : PyData} {ds xs ys : List PyData} {sds : List SD} {i j : Int} {p q : Bool} {pos : Pos} {P : DP} {rest s1 s2 : List Stmt}
structure FE (X : Cx) (B : Bd) (δ : List SD) (e : Expr) (d : PyData) : Prop where
  h : Ev X B δ e d
structure FA (X : Cx) (B : Bd) (δ : List SD) (es : List Expr) (ds : List PyData) : Prop where
  h : EvA X B δ es ds
structure FS (X : Cx) (B : Bd) (δ : List SD) (es : List Expr) (sds : List SD) : Prop where
  h : EvAS X B δ es sds
structure FB (X : Cx) (B : Bd) (δ : List SD) (e : Expr) (p : Bool) : Prop where
  h : EvB X B δ e p
structure FW (X : Cx) (B : Bd) (δ : List SD) (e : Expr) (p : Bool) : Prop where
  h : EvW X B δ e p
structure FT (X : Cx) (B : Bd) (δ : List SD) (sts : List Stmt) (P : DP) : Prop where
  h : Tr X B δ sts P
def Nstar : Expr → Bool
  | .Starred _ _ => false
  | _ => true
theorem star_of {env : Env} (h : Nstar a = true) : starEach (a :: es) env = (false, eval a env) :: starEach es env := by
  cases a <;> first | rfl | cases h
/-- no argument is starred -/
def Nstars : List Expr → Bool
  | [] => true
  | a :: es => Nstar a && Nstars es
theorem stars_any {pos : Pos} {env : Env} : ∀ {es : List Expr}, Nstars es = true → (starEach es env).any (·.1) = false
  | [], _ => rfl
  | a :: es, h => by
    rw [Nstars, Bool.and_eq_true] at h
    rw [star_of h.1, List.any_cons, stars_any (pos := pos) h.2]
    rfl
theorem FE.eq (h : FE X B δ e d) (z : d = x) : FE X B δ e x := z ▸ h
theorem FB.eq (h : FB X B δ e p) (z : p = q) : FB X B δ e q := z ▸ h
theorem f_var (n : Nat) {z : Str} (hs : δ[n]? = some (.d d)) (hN : X.N[n]? = some z := by rfl) (hv : Vis X.env.scope z := by first | exact Or.inl rfl | exact Or.inr (Or.inl rfl) | exact Or.inr (Or.inr rfl))
    (hd : (z == ("__debug__" : Str)) = false := by decide) (hcd : (z == ("__classdict__" : Str)) = false := by decide) : FE X B δ (.Name z pos) d := ⟨ev_var n hs hN hv hd hcd⟩
theorem f_int {k : Nat} : FE X B δ (.Constant (.int i) k pos) (.int i) := ⟨ev_int⟩
theorem f_str {k : Nat} {z : Str} : FE X B δ (.Constant (.str z) k pos) (.str z) := ⟨ev_str⟩
theorem fA_nil : FA X B δ [] [] := ⟨evA_nil⟩
theorem fA_cons (ha : FE X B δ a x) (ht : FA X B δ es xs) (hs : Nstar a = true := by rfl) : FA X B δ (a :: es) (x :: xs) := ⟨evA_cons ha.h ht.h (star_of hs)⟩
theorem fS_nil : FS X B δ [] [] := ⟨evAS_nil⟩
theorem fS_cons (ha : FE X B δ a x) (ht : FS X B δ es sds) (hs : Nstar a = true := by rfl) : FS X B δ (a :: es) (.d x :: sds) := ⟨evAS_cons ha.h ht.h (star_of hs)⟩
theorem fS_ref (n : Nat) {z : Str} {p : Addr} {pz : Pos} (hn : δ[n]? = some (.ref p)) (ht : FS X B δ es sds) (hN : X.N[n]? = some z := by rfl) (hv : Vis X.env.scope z := by first | exact Or.inl rfl | exact Or.inr (Or.inl rfl) | exact Or.inr (Or.inr rfl))
    (hd : (z == ("__debug__" : Str)) = false := by decide) (hcd : (z == ("__classdict__" : Str)) = false := by decide) : FS X B δ (.Name z pz :: es) (.ref p :: sds) := ⟨evAS_ref n hn ht.h hN hv hd hcd (star_of rfl)⟩
theorem f_tup {k : Nat} (h : FA X B δ es xs) (hl : xs.length ≤ sizeLine := by first | decide | (simp only [List.length_cons, List.length_nil]; decide)) : FE X B δ (.Tuple es k pos) (.tuple xs) := ⟨ev_tup h.h hl⟩
theorem f_lst (h : FA X B δ es xs) (hl : xs.length ≤ sizeLine := by first | decide | (simp only [List.length_cons, List.length_nil]; decide)) : FE X B δ (.List es pos) (.list xs) := ⟨ev_lst h.h hl⟩
theorem f_ixL (ha : FE X B δ a (.list xs)) (hb : FE X B δ b (.int i)) (hi : atI xs i = some d) (hs : PlainIx b := by exact fun _ _ => rfl) : FE X B δ (.Subscript a b pos) d := ⟨ev_ixL ha.h hb.h hi hs⟩
theorem f_ixT (ha : FE X B δ a (.tuple xs)) (hb : FE X B δ b (.int i)) (hi : atI xs i = some d) (hs : PlainIx b := by exact fun _ _ => rfl) : FE X B δ (.Subscript a b pos) d := ⟨ev_ixT ha.h hb.h hi hs⟩
theorem f_add (ha : FE X B δ a (.int i)) (hb : FE X B δ b (.int j)) : FE X B δ (.BinOp a .Add b pos) (.int (i + j)) := ⟨ev_add ha.h hb.h⟩
theorem f_sub (ha : FE X B δ a (.int i)) (hb : FE X B δ b (.int j)) : FE X B δ (.BinOp a .Sub b pos) (.int (i - j)) := ⟨ev_sub ha.h hb.h⟩
theorem f_mul (ha : FE X B δ a (.int i)) (hb : FE X B δ b (.int j)) (hz : CMul i j) : FE X B δ (.BinOp a .Mult b pos) (.int (i * j)) := ⟨ev_mul ha.h hb.h hz⟩
theorem f_mod (ha : FE X B δ a (.int i)) (hb : FE X B δ b (.int j)) (hz : 0 < j) : FE X B δ (.BinOp a .Mod b pos) (.int (i % j)) := ⟨ev_mod ha.h hb.h hz⟩
theorem f_fdiv (ha : FE X B δ a (.int i)) (hb : FE X B δ b (.int j)) (hz : CDiv i j) : FE X B δ (.BinOp a .FloorDiv b pos) (.int (i / j)) := ⟨ev_fdiv ha.h hb.h hz⟩
theorem f_neg (ha : FE X B δ a (.int i)) : FE X B δ (.UnaryOp .USub a pos) (.int (-i)) := ⟨ev_neg ha.h⟩
theorem f_catL (ha : FE X B δ a (.list xs)) (hb : FE X B δ b (.list ys)) (hl : xs.length + ys.length ≤ sizeLine) : FE X B δ (.BinOp a .Add b pos) (.list (xs ++ ys)) := ⟨ev_catL ha.h hb.h hl⟩
theorem f_call {k : Nat} {z : Str} {R : List PyData → PyData → Prop} {pz : Pos} (F : Cal X.prog X.w X.K X.mg X.base CX0 k z (spD B.T R)) (hr : Room k X.A) (ha : FA X B δ (a :: es) xs) (hR : R xs d) (hg : Gl X z := by rfl)
    (hdb : (z == ("__debug__" : Str)) = false := by decide) (he : Nstar a = true := by rfl) (hpl : (backTo pos (starEach es X.env)).any (·.1) = false := by rfl) : FE X B δ (.Call (.Name z pz) (a :: es) [] pos) d := ⟨ev_call F hr ha.h hR hg hdb (star_of he) hpl⟩
theorem f_callX {k : Nat} {z : Str} {Pre : Hp → Hp → List SD → PyData → Prop} {pz : Pos} (F : Cal X.prog X.w X.K X.mg X.base CX0 k z (spX B.T Pre)) (hr : Room k X.A) (ha : FS X B δ (a :: es) sds) (hp : ∀ σ G H, Sta B δ σ G H → Pre G H sds d) (hg : Gl X z := by rfl)
    (hdb : (z == ("__debug__" : Str)) = false := by decide) (he : Nstar a = true := by rfl) (hpl : (backTo pos (starEach es X.env)).any (·.1) = false := by rfl) : FE X B δ (.Call (.Name z pz) (a :: es) [] pos) d := ⟨ev_callX F hr ha.h hp hg hdb (star_of he) hpl⟩
theorem f_slL {lo hi : Option Expr} {l r : Option Int} {p2 : Pos} (ha : FE X B δ a (.list xs)) (hl : EvO X B δ lo l) (hh : EvO X B δ hi r) : FE X B δ (.Subscript a (.Slice lo hi none p2) pos) (.list (cutD xs l r)) := ⟨ev_slL ha.h hl hh⟩
theorem f_lenL {pz : Pos} (hm : X.mg ("len" : Str) = none) (ha : FE X B δ a (.list xs)) (hg : Gl X ("len" : Str) := by rfl) (he : Nstar a = true := by rfl) : FE X B δ (.Call (.Name "len" pz) [a] [] pos) (.int xs.length) := ⟨ev_lenL hm ha.h hg (star_of he) rfl⟩
theorem f_tupleL {pz : Pos} (hm : X.mg ("tuple" : Str) = none) (ha : FE X B δ a (.list xs)) (hg : Gl X ("tuple" : Str) := by rfl) (he : Nstar a = true := by rfl) : FE X B δ (.Call (.Name "tuple" pz) [a] [] pos) (.tuple xs) := ⟨ev_tupleL hm ha.h hg (by decide +kernel) (star_of he) rfl⟩
theorem f_min2 {pz : Pos} (hc : X.calm = true) (hm : X.mg ("min" : Str) = none) (ha : FE X B δ a (.int i)) (hb : FE X B δ b (.int j)) (hg : Gl X ("min" : Str) := by rfl) (he : Nstar a = true := by rfl) (he2 : Nstar b = true := by rfl) (hpl : (backTo pos (starEach [b] X.env)).any (·.1) = false := by rfl) :
    FE X B δ (.Call (.Name "min" pz) [a, b] [] pos) (.int (if j < i then j else i)) := ⟨ev_min2 hc hm ha.h hb.h hg (by decide +kernel) (star_of he2) (star_of he) hpl⟩
theorem fB_cmpI {op : CmpOp} (ha : FE X B δ a (.int i)) (hb : FE X B δ b (.int j)) (h : isCmpI op = true := by rfl) : FB X B δ (.Compare a [op] [b] pos) (cmpI op i j) := ⟨evB_cmpI ha.h hb.h h⟩
theorem fB_eqS {u v : Str} (ha : FE X B δ a (.str u)) (hb : FE X B δ b (.str v)) : FB X B δ (.Compare a [.Eq] [b] pos) (decide (u = v)) := ⟨evB_eqS ha.h hb.h⟩
theorem fB_neS {u v : Str} (ha : FE X B δ a (.str u)) (hb : FE X B δ b (.str v)) : FB X B δ (.Compare a [.NotEq] [b] pos) (!decide (u = v)) := ⟨evB_neS ha.h hb.h⟩
theorem fB_eqD (hu : X.A.units + 64 < cLine) (ha : FE X B δ a x) (hb : FE X B δ b y) (h1 : SeqAt.shaped x = true) (h2 : SeqAt.shaped y = true) : FB X B δ (.Compare a [.Eq] [b] pos) (PyData.eqv x y) := ⟨evB_eqD hu ha.h hb.h h1 h2⟩
theorem fB_neD (hu : X.A.units + 64 < cLine) (ha : FE X B δ a x) (hb : FE X B δ b y) (h1 : SeqAt.shaped x = true) (h2 : SeqAt.shaped y = true) : FB X B δ (.Compare a [.NotEq] [b] pos) (!PyData.eqv x y) := ⟨evB_neD hu ha.h hb.h h1 h2⟩
theorem fB_notN {k : Nat} {p' : Pos} (ha : FE X B δ a x) : FB X B δ (.Compare a [.IsNot] [.Constant .none k p'] pos) (!isNon x) := ⟨evB_notN ha.h⟩
theorem fB_val (h : FE X B δ a (.bool p)) (he : ∀ whole, isTrue a X.env whole = (do let v ← whole; standAt a.pos; holding [v] (truthy v)) := by intro _; rfl) : FB X B δ a p := ⟨evB_val h.h he⟩
theorem fB_not (h : FB X B δ a p) : FB X B δ (.UnaryOp .Not a pos) (!p) := ⟨evB_not h.h⟩
theorem fB_w (h : FW X B δ a p) : FB X B δ a p := ⟨evB_w h.h⟩
theorem fW_or {r : List Expr} (h : FB X B δ a p) (h2 : p = false → FW X B δ (.BoolOp .Or (b :: r) pos) q) : FW X B δ (.BoolOp .Or (a :: b :: r) pos) (p || q) := ⟨evW_or h.h fun z => (h2 z).h⟩
theorem fW_or1 (h : FB X B δ a p) : FW X B δ (.BoolOp .Or [a] pos) p := ⟨evW_or1 h.h⟩
theorem fW_and {r : List Expr} (h : FB X B δ a p) (h2 : p = true → FW X B δ (.BoolOp .And (b :: r) pos) q) : FW X B δ (.BoolOp .And (a :: b :: r) pos) (p && q) := ⟨evW_and h.h fun z => (h2 z).h⟩
theorem fW_and1 (h : FB X B δ a p) : FW X B δ (.BoolOp .And [a] pos) p := ⟨evW_and1 h.h⟩
theorem ft_nil (h : P.nx δ) : FT X B δ [] P := ⟨tr_nil h⟩
theorem ft_asg (n : Nat) {z : Str} {pz : Pos} (he : FE X B δ e d) (hnd : X.N.Nodup) (h : FT X B (δ.set n (.d d)) rest P) (hN : X.N[n]? = some z := by rfl) (hx : Loc X.env.scope z := by first | exact Or.inl rfl | exact Or.inr rfl)
    (hf : X.fn z = true ∨ X.env.scope.names.lookup z = some .local := by first | exact .inl rfl | exact .inr rfl) (hs : swapsWith e (some (.Name z pz)) pos.line X.env = pure false := by rfl) : FT X B δ (.Assign [.Name z pz] e pos :: rest) P := ⟨tr_asg n he.h hnd h.h hN hx hf hs⟩
theorem ft_ret {rp : Pos} (he : FE X B δ e d) (h : P.rt d) (ho : ∀ (σ : L2.St) (G H : Hp), Sta B δ σ G H → P.ro G H := by exact fun _ _ _ _ => trivial) : FT X B δ (.Return (some e) rp :: rest) P := ⟨tr_ret he.h h ho⟩
theorem ft_if0 (hc : FB X B δ c p) (h1 : p = true → FT X B δ s1 { P with nx := fun δ' => Tr X B δ' rest P }) (h2 : p = false → FT X B δ rest P) : FT X B δ (.If c s1 [] pos :: rest) P := ⟨tr_if0 hc.h (fun z => (h1 z).h) fun z => (h2 z).h⟩
/-- an if whose condition does not hold -/
theorem ft_ifF (hc : FB X B δ c false) (h2 : FT X B δ rest P) : FT X B δ (.If c s1 [] pos :: rest) P := ⟨tr_if0 hc.h (fun z => nomatch z) fun _ => h2.h⟩
theorem ft_drop (he : FE X B δ e d) (h : FT X B δ rest P) (hs : swapsWith e none pos.line X.env = pure false := by rfl) : FT X B δ (.Expr e pos :: rest) P := ⟨tr_drop he.h h.h hs⟩
theorem ft_for {tg iter : Expr} {body : List Stmt} (hp : PassesOwn (model X.prog X.w) X.A X.env X.xe) (hc : X.calm = true) (hi : EvI X B δ tg iter ys) (Φ : Nat → List SD → Prop) (h0 : Φ 0 δ)
    (hs : ∀ k y δk, ys[k]? = some y → Φ k δk → ∃ δ' is, EvG X B δk tg y δ' is ∧ FT X B δ' body { P with nx := Φ (k + 1), ct := Φ (k + 1), bk := fun δ' => Tr X B δ' rest P })
    (hd : ∀ δ', Φ ys.length δ' → FT X B δ' rest P) (hf : ∀ x, foldedSetIterable iter X.env x = pure x := by intro _; rfl) : FT X B δ (.For tg iter body [] pos :: rest) P :=
  ⟨tr_for hp hc hi Φ h0 (fun k y δk h1 h2 => by
    obtain ⟨δ', is, h3, h4⟩ := hs k y δk h1 h2
    exact ⟨δ', is, h3, h4.h⟩) (fun δ' h => (hd δ' h).h) hf⟩
end
end CR

set_option Elab.async false
set_option linter.all false
set_option maxRecDepth 100000
set_option maxHeartbeats 1000000
/-! # Walks: _law_about -/
namespace CR
open PySem L2 Evl PyProof.Rows
/-- a condition about a number, from two digits -/
def aboutM (a b : Int) : Cn :=
  if a = 0 then .atmost (b - 1) else if a = 1 then .divides (1 + b % 3) else if a = 2 then .neg (.atmost (b - 1)) else .disj (.atmost (b - 2)) (.divides 2)
section
variable {P : Program} {w : World} {K : PySem.W.Frag} {mg : Str → Option Value} {base : Heap} {T : List TabN} {f : Addr} {fd : FuncData}
def rAbout (ds : List PyData) (d : PyData) : Prop := ∃ a b : Int, ds = [.list [.int a, .int b]] ∧ d = (aboutM a b).enc
theorem scAbo : FnScope ["_law_digits"] ["_law_digits"] (defScope (top 56)) := ⟨rfl, rfl, rfl, by decide +kernel, rfl, by decide +kernel, by decide +kernel⟩
theorem ok_abo (D : DefK K mg "_law_about" 56 ["_law_digits"] f fd) : FnOk P w K mg base CX0 1 f fd ["_law_digits"] (spD T rAbout) := by
  refine fn_d (C := 0) D.fn scAbo (fun ds d ⟨a, b, e, _⟩ => by rw [e]; rfl) (fun cdv A outer s H E G ds d hr hcd hR => ?_)
  obtain ⟨a, b, rfl, rfl⟩ := hR
  refine FT.h ?_
  refine ft_if0 (p := decide (a = 0)) (fB_cmpI (op := .Eq) (f_ixL (xs := [.int a, .int b]) (d := .int a) (f_var 0 rfl) f_int rfl) f_int) (fun h => ?_) (fun h => ?_)
  · have h := of_decide_eq_true h
    refine ft_ret (f_tup (xs := [.str "atmost", .int (b - 1)]) (fA_cons f_str (fA_cons (f_sub (f_ixL (xs := [.int a, .int b]) (d := .int b) (f_var 0 rfl) f_int rfl) f_int) fA_nil))) ?_
    unfold aboutM
    rw [if_pos h]
    rfl
  have h0 := of_decide_eq_false h
  refine ft_if0 (p := decide (a = 1)) (fB_cmpI (op := .Eq) (f_ixL (xs := [.int a, .int b]) (d := .int a) (f_var 0 rfl) f_int rfl) f_int) (fun h => ?_) (fun h => ?_)
  · have h := of_decide_eq_true h
    refine ft_ret (f_tup (xs := [.str "divides", .int (1 + b % 3)]) (fA_cons f_str (fA_cons (f_add f_int (f_mod (f_ixL (xs := [.int a, .int b]) (d := .int b) (f_var 0 rfl) f_int rfl) f_int (by decide))) fA_nil))) ?_
    unfold aboutM
    rw [if_neg h0, if_pos h]
    rfl
  have h1 := of_decide_eq_false h
  refine ft_if0 (p := decide (a = 2)) (fB_cmpI (op := .Eq) (f_ixL (xs := [.int a, .int b]) (d := .int a) (f_var 0 rfl) f_int rfl) f_int) (fun h => ?_) (fun h => ?_)
  · have h := of_decide_eq_true h
    refine ft_ret (f_tup (xs := [.str "not", .tuple [.str "atmost", .int (b - 1)]]) (fA_cons f_str (fA_cons (f_tup (xs := [.str "atmost", .int (b - 1)]) (fA_cons f_str (fA_cons (f_sub (f_ixL (xs := [.int a, .int b]) (d := .int b) (f_var 0 rfl) f_int rfl) f_int) fA_nil))) fA_nil))) ?_
    unfold aboutM
    rw [if_neg h0, if_neg h1, if_pos h]
    rfl
  have h2 := of_decide_eq_false h
  refine ft_ret (f_tup (xs := [.str "or", .tuple [.str "atmost", .int (b - 2)], .tuple [.str "divides", .int 2]]) (fA_cons f_str (fA_cons (f_tup (xs := [.str "atmost", .int (b - 2)]) (fA_cons f_str (fA_cons (f_sub (f_ixL (xs := [.int a, .int b]) (d := .int b) (f_var 0 rfl) f_int rfl) f_int) fA_nil)))
    (fA_cons (f_tup (xs := [.str "divides", .int 2]) (fA_cons f_str (fA_cons f_int fA_nil))) fA_nil)))) ?_
  unfold aboutM
  rw [if_neg h0, if_neg h1, if_neg h2]
  rfl
end
end CR

set_option Elab.async false
set_option linter.all false
set_option maxRecDepth 100000
set_option maxHeartbeats 1000000
/-! # Walks: _law_number -/
namespace CR
open PySem L2 Evl PyProof.Rows
/-- a generator of numbers, from eight digits -/
def numberM (a0 a1 a2 a3 a4 a5 a6 : Int) : Gn :=
  if a0 < 4 then .int (a1 - 1) (a1 - 1 + a2)
  else if a0 = 4 then .turned (.int (a1 - 1) (a1 - 1 + a2)) (if a2 % 2 = 0 then .plus (a4 - 2) else .times (a4 - 2))
  else if a0 = 5 then .kept (.int (a1 - 1) (a1 - 1 + a2)) (aboutM a3 a4)
  else if a0 = 6 then .one (.int (a1 - 1) (a1 - 1 + a2)) (.int a5 (a5 + a6))
  else .turned (.lst (.int (a1 - 1) (a1 - 1 + a2)) 0 2) (if a2 % 2 = 0 then .sum else .length)
theorem bigDraw_len : ∀ (c : Int) (l : List Int), (bigDraw c l).length = l.length
  | _, [] => rfl
  | c, s :: r => congrArg (· + 1) (bigDraw_len (c / s) r)
theorem mixDraw_len : ∀ (m : Int) (j : Nat) (l : List Int), (mixDraw m j l).length = l.length
  | _, _, [] => rfl
  | m, j, s :: r => congrArg (· + 1) (mixDraw_len _ (j + 1) r)
theorem drawL_len (ns : List Int) (k : Nat) (l : List Int) : (drawL ns k l).length = l.length := by
  unfold drawL
  split
  · exact bigDraw_len _ _
  · exact mixDraw_len _ _ _
/-- each digit is below its size -/
def Below : List Int → List Int → Prop
  | [], [] => True
  | x :: xs, s :: r => (0 ≤ x ∧ x < s) ∧ Below xs r
  | _, _ => False
theorem bigDraw_below : ∀ (c : Int) (l : List Int), (∀ s ∈ l, 1 ≤ s) → Below (bigDraw c l) l
  | _, [], _ => trivial
  | c, s :: r, h => ⟨⟨Int.emod_nonneg _ (by have := h s List.mem_cons_self; omega), Int.emod_lt_of_pos _ (by have := h s List.mem_cons_self; omega)⟩, bigDraw_below _ r fun t ht => h t (List.mem_cons_of_mem _ ht)⟩
theorem mixDraw_below : ∀ (m : Int) (j : Nat) (l : List Int), (∀ s ∈ l, 1 ≤ s) → Below (mixDraw m j l) l
  | _, _, [], _ => trivial
  | m, j, s :: r, h => ⟨⟨Int.emod_nonneg _ (by have := h s List.mem_cons_self; omega), Int.emod_lt_of_pos _ (by have := h s List.mem_cons_self; omega)⟩, mixDraw_below _ _ r fun t ht => h t (List.mem_cons_of_mem _ ht)⟩
theorem drawL_below (ns : List Int) (k : Nat) (l : List Int) (h : ∀ s ∈ l, 1 ≤ s) : Below (drawL ns k l) l := by
  unfold drawL
  split
  · exact bigDraw_below _ _ h
  · exact mixDraw_below _ _ _ h
end CR

set_option Elab.async false
set_option linter.all false
set_option maxRecDepth 100000
set_option maxHeartbeats 1000000
/-! # Walks: _law_number -/
namespace CR
open PySem L2 Evl PyProof.Rows
abbrev szNum : List Int := [8, 4, 3, 4, 5, 4, 3, 5]
theorem eight {l : List Int} (h : l.length = 8) : ∃ a0 a1 a2 a3 a4 a5 a6 a7, l = [a0, a1, a2, a3, a4, a5, a6, a7] := by
  match l, h with
  | [a0, a1, a2, a3, a4, a5, a6, a7], _ => exact ⟨_, _, _, _, _, _, _, _, rfl⟩
/-- the generator of numbers that the script gives at k -/
def numD : List Int → Gn
  | [a0, a1, a2, a3, a4, a5, a6, _] => numberM a0 a1 a2 a3 a4 a5 a6
  | _ => .int 0 0
def numG (ns : List Int) (k : Nat) : Gn := numD (drawL ns k szNum)
section
variable {P : Program} {w : World} {K : PySem.W.Frag} {mg : Str → Option Value} {base : Heap} {T : List TabN} {f : Addr} {fd : FuncData}
def PreNum (K : PySem.W.Frag) (G H : Hp) (sds : List SD) (d : PyData) : Prop := ∃ (a : Addr) (ns : List Int) (k : Nat), sds = [.ref a, .d (.int k)] ∧ SqL K H a (ns.map V.int) ∧ k ≤ 900 ∧ d = (numG ns k).enc
abbrev NNum : List Str := ["_law_script", "_law_k", "_law_digits", "_law_plain"]
theorem scNum : FnScope NNum ["_law_script", "_law_k"] (defScope (top 57)) := ⟨rfl, rfl, rfl, by decide +kernel, rfl, by decide +kernel, by decide +kernel⟩
theorem two_pick {a2 : Int} : a2 % 2 = 0 ∨ a2 % 2 = 1 := by omega
theorem ok_num (D : DefK K mg "_law_number" 57 ["_law_script", "_law_k"] f fd) (hdr : Cal P w K mg base CX0 2 "_law_draw" (spX T (PreDraw K))) (hab : Cal P w K mg base CX0 1 "_law_about" (spD T rAbout)) : FnOk P w K mg base CX0 3 f fd ["_law_script", "_law_k"] (spX T (PreNum K)) := by
  refine fn_x (C := 0) D.fn scNum (fun G H sds d ⟨a, ns, k, e, _⟩ => by rw [e]; rfl) (fun cdv A outer s H E G sds d hr hcd hR => ?_)
  obtain ⟨a, ns, k, rfl, hS, hk, rfl⟩ := hR
  refine FT.h ?_
  obtain ⟨a0, a1, a2, a3, a4, a5, a6, a7, el⟩ := eight (drawL_len ns k szNum)
  have eg : numG ns k = numberM a0 a1 a2 a3 a4 a5 a6 := by unfold numG; rw [el]; rfl
  have hd : (PyData.list ((drawL ns k szNum).map .int)) = .list [.int a0, .int a1, .int a2, .int a3, .int a4, .int a5, .int a6, .int a7] := by rw [el]; rfl
  rw [eg]
  refine ft_asg 2 (d := .list [.int a0, .int a1, .int a2, .int a3, .int a4, .int a5, .int a6, .int a7]) (f_callX hdr hr (fS_ref 0 rfl (fS_cons (f_var 1 rfl) (fS_cons (x := .list (szNum.map .int)) (f_lst (fA_cons f_int (fA_cons f_int (fA_cons f_int (fA_cons f_int (fA_cons f_int (fA_cons f_int (fA_cons f_int (fA_cons f_int fA_nil))))))))) fS_nil)))
    (fun σ G2 H2 s2 => ⟨a, ns, k, szNum, rfl, s2.script (fun _ z => z) hS, by omega, by decide, by decide, hd.symm⟩)) scNum.nd ?_
  refine ft_asg 3 (d := (Gn.int (a1 - 1) (a1 - 1 + a2)).enc) (f_tup (xs := [.str "int", .int (a1 - 1), .int (a1 - 1 + a2)]) (fA_cons f_str (fA_cons (f_sub (f_ixL (d := .int a1) (f_var 2 rfl) f_int rfl) f_int) (fA_cons (f_add (f_sub (f_ixL (d := .int a1) (f_var 2 rfl) f_int rfl) f_int) (f_ixL (d := .int a2) (f_var 2 rfl) f_int rfl)) fA_nil)))) scNum.nd ?_
  refine ft_if0 (p := decide (a0 < 4)) (fB_cmpI (op := .Lt) (f_ixL (d := .int a0) (f_var 2 rfl) f_int rfl) f_int) (fun h => ?_) (fun h => ?_)
  · have h := of_decide_eq_true h
    refine ft_ret (f_var 3 rfl) ?_
    unfold numberM
    rw [if_pos h]
  have h0 := of_decide_eq_false h
  refine ft_if0 (p := decide (a0 = 4)) (fB_cmpI (op := .Eq) (f_ixL (d := .int a0) (f_var 2 rfl) f_int rfl) f_int) (fun h => ?_) (fun h => ?_)
  · have h := of_decide_eq_true h
    have hp : ∀ m, (if a2 % 2 = 0 then Mp.plus (a4 - 2) else Mp.times (a4 - 2)) = m → atI [(Mp.plus (a4 - 2)).enc, (Mp.times (a4 - 2)).enc] (a2 % 2) = some m.enc := fun m hm => by
      subst hm
      rcases two_pick (a2 := a2) with q | q
      · rw [q, if_pos rfl]; rfl
      · rw [q, if_neg (by decide)]; rfl
    refine ft_ret (f_tup (xs := [.str "turned", (Gn.int (a1 - 1) (a1 - 1 + a2)).enc, Mp.enc (if a2 % 2 = 0 then Mp.plus (a4 - 2) else Mp.times (a4 - 2))]) (fA_cons f_str (fA_cons (f_var 3 rfl) (fA_cons (f_ixL (xs := [(Mp.plus (a4 - 2)).enc, (Mp.times (a4 - 2)).enc])
      (f_lst (fA_cons (f_tup (xs := [.str "plus", .int (a4 - 2)]) (fA_cons f_str (fA_cons (f_sub (f_ixL (d := .int a4) (f_var 2 rfl) f_int rfl) f_int) fA_nil))) (fA_cons (f_tup (xs := [.str "times", .int (a4 - 2)]) (fA_cons f_str (fA_cons (f_sub (f_ixL (d := .int a4) (f_var 2 rfl) f_int rfl) f_int) fA_nil))) fA_nil)))
      (f_mod (f_ixL (d := .int a2) (f_var 2 rfl) f_int rfl) f_int (by decide)) (hp _ rfl)) fA_nil)))) ?_
    unfold numberM
    rw [if_neg h0, if_pos h]
    rfl
  have h1 := of_decide_eq_false h
  refine ft_if0 (p := decide (a0 = 5)) (fB_cmpI (op := .Eq) (f_ixL (d := .int a0) (f_var 2 rfl) f_int rfl) f_int) (fun h => ?_) (fun h => ?_)
  · have h := of_decide_eq_true h
    refine ft_ret (f_tup (xs := [.str "kept", (Gn.int (a1 - 1) (a1 - 1 + a2)).enc, (aboutM a3 a4).enc]) (fA_cons f_str (fA_cons (f_var 3 rfl) (fA_cons (f_call hab (hr.mono (by omega)) (fA_cons (f_lst (fA_cons (f_ixL (d := .int a3) (f_var 2 rfl) f_int rfl) (fA_cons (f_ixL (d := .int a4) (f_var 2 rfl) f_int rfl) fA_nil))) fA_nil) ⟨a3, a4, rfl, rfl⟩) fA_nil)))) ?_
    unfold numberM
    rw [if_neg h0, if_neg h1, if_pos h]
    rfl
  have h2 := of_decide_eq_false h
  refine ft_if0 (p := decide (a0 = 6)) (fB_cmpI (op := .Eq) (f_ixL (d := .int a0) (f_var 2 rfl) f_int rfl) f_int) (fun h => ?_) (fun h => ?_)
  · have h := of_decide_eq_true h
    refine ft_ret (f_tup (xs := [.str "one", .tuple [(Gn.int (a1 - 1) (a1 - 1 + a2)).enc, (Gn.int a5 (a5 + a6)).enc]]) (fA_cons f_str (fA_cons (f_tup (xs := [(Gn.int (a1 - 1) (a1 - 1 + a2)).enc, (Gn.int a5 (a5 + a6)).enc]) (fA_cons (f_var 3 rfl)
      (fA_cons (f_tup (xs := [.str "int", .int a5, .int (a5 + a6)]) (fA_cons f_str (fA_cons (f_ixL (d := .int a5) (f_var 2 rfl) f_int rfl) (fA_cons (f_add (f_ixL (d := .int a5) (f_var 2 rfl) f_int rfl) (f_ixL (d := .int a6) (f_var 2 rfl) f_int rfl)) fA_nil)))) fA_nil))) fA_nil))) ?_
    unfold numberM
    rw [if_neg h0, if_neg h1, if_neg h2, if_pos h]
    rfl
  have h3 := of_decide_eq_false h
  have hp : ∀ m, (if a2 % 2 = 0 then Mp.sum else Mp.length) = m → atI [Mp.sum.enc, Mp.length.enc] (a2 % 2) = some m.enc := fun m hm => by
    subst hm
    rcases two_pick (a2 := a2) with q | q
    · rw [q, if_pos rfl]; rfl
    · rw [q, if_neg (by decide)]; rfl
  refine ft_ret (f_tup (xs := [.str "turned", (Gn.lst (.int (a1 - 1) (a1 - 1 + a2)) 0 2).enc, Mp.enc (if a2 % 2 = 0 then Mp.sum else Mp.length)]) (fA_cons f_str (fA_cons (f_tup (xs := [.str "list", (Gn.int (a1 - 1) (a1 - 1 + a2)).enc, .int 0, .int 2]) (fA_cons f_str (fA_cons (f_var 3 rfl) (fA_cons f_int (fA_cons f_int fA_nil)))))
    (fA_cons (f_ixL (xs := [Mp.sum.enc, Mp.length.enc]) (f_lst (fA_cons (f_tup (xs := [.str "sum"]) (fA_cons f_str fA_nil)) (fA_cons (f_tup (xs := [.str "length"]) (fA_cons f_str fA_nil)) fA_nil)))
      (f_mod (f_ixL (d := .int a2) (f_var 2 rfl) f_int rfl) f_int (by decide)) (hp _ rfl)) fA_nil)))) ?_
  unfold numberM
  rw [if_neg h0, if_neg h1, if_neg h2, if_neg h3]
  rfl
end
end CR

set_option Elab.async false
set_option linter.all false
set_option maxRecDepth 100000
set_option maxHeartbeats 1000000
/-! # Walks: _law_listed -/
namespace CR
open PySem L2 Evl PyProof.Rows
abbrev szLis : List Int := [8, 2, 3, 4, 5]
theorem five {l : List Int} (h : l.length = 5) : ∃ a0 a1 a2 a3 a4, l = [a0, a1, a2, a3, a4] := by
  match l, h with
  | [a0, a1, a2, a3, a4], _ => exact ⟨_, _, _, _, _, rfl⟩
/-- the condition of a kept list -/
def keptM (a : Int) : Cn := if a = 0 then .different else if a = 1 then .rising else if a = 2 then .size (.atmost 1) else .sum (.divides 2)
/-- the list generator behind all of them -/
def plainM (part : Gn) (w a1 a2 : Int) : Gn := .lst part a1.toNat (a1 + a2 % (1 + w)).toNat
/-- a generator of lists, from four digits -/
def lawListed (part : Gn) (w a0 a1 a2 a3 : Int) : Gn :=
  if a0 < 4 then plainM part w a1 a2
  else if a0 = 4 then .rep (.int (a1 - 1) 2) part
  else if a0 = 5 then .turned (plainM part w a1 a2) (if a2 % 2 = 0 then .sorted else .reversed)
  else if a0 = 6 then .kept (plainM part w a1 a2) (keptM a3)
  else .one (plainM part w a1 a2) (.lst (.int 0 1) 0 1)
def lisD (part : Gn) (w : Int) : List Int → Gn
  | [a0, a1, a2, a3, _] => lawListed part w a0 a1 a2 a3
  | _ => .int 0 0
def lisG (ns : List Int) (k : Nat) (w : Int) : Gn := lisD (numG ns (k + 1)) w (drawL ns k szLis)
section
variable {P : Program} {w : World} {K : PySem.W.Frag} {mg : Str → Option Value} {base : Heap} {T : List TabN} {f : Addr} {fd : FuncData}
def PreLis (K : PySem.W.Frag) (G H : Hp) (sds : List SD) (d : PyData) : Prop := ∃ (a : Addr) (ns : List Int) (k : Nat) (w : Int), sds = [.ref a, .d (.int k), .d (.int w)] ∧ SqL K H a (ns.map V.int) ∧ k ≤ 899 ∧ 0 ≤ w ∧ w ≤ 2 ∧ d = (lisG ns k w).enc
abbrev NLsd : List Str := ["_law_script", "_law_k", "_law_wide", "_law_digits", "_law_part", "_law_plain"]
theorem scLsd : FnScope NLsd ["_law_script", "_law_k", "_law_wide"] (defScope (top 58)) := ⟨rfl, rfl, rfl, by decide +kernel, rfl, by decide +kernel, by decide +kernel⟩
theorem ok_lis (D : DefK K mg "_law_listed" 58 ["_law_script", "_law_k", "_law_wide"] f fd) (hdr : Cal P w K mg base CX0 2 "_law_draw" (spX T (PreDraw K))) (hnu : Cal P w K mg base CX0 3 "_law_number" (spX T (PreNum K))) : FnOk P w K mg base CX0 4 f fd ["_law_script", "_law_k", "_law_wide"] (spX T (PreLis K)) := by
  refine fn_x (C := 0) D.fn scLsd (fun G H sds d ⟨a, ns, k, v, e, _⟩ => by rw [e]; rfl) (fun cdv A outer s H E G sds d hr hcd hR => ?_)
  obtain ⟨a, ns, k, v, rfl, hS, hk, hv0, hv2, rfl⟩ := hR
  refine FT.h ?_
  obtain ⟨a0, a1, a2, a3, a4, el⟩ := five (drawL_len ns k szLis)
  have hB : Below (drawL ns k szLis) szLis := drawL_below ns k szLis (by decide)
  have eg : lisG ns k v = lawListed (numG ns (k + 1)) v a0 a1 a2 a3 := by unfold lisG; rw [el]; rfl
  have hd : (PyData.list ((drawL ns k szLis).map .int)) = .list [.int a0, .int a1, .int a2, .int a3, .int a4] := by rw [el]; rfl
  rw [el] at hB
  obtain ⟨⟨h00, h01⟩, ⟨h10, h11⟩, ⟨h20, h21⟩, ⟨h30, h31⟩, _⟩ := hB
  rw [eg]
  generalize hpart : numG ns (k + 1) = part
  have hz : 0 ≤ a2 % (1 + v) := Int.emod_nonneg _ (by omega)
  have epl : (plainM part v a1 a2).enc = .tuple [.str "list", part.enc, .int a1, .int (a1 + a2 % (1 + v))] := by
    show PyData.tuple [.str "list", part.enc, .int ((a1.toNat : Nat) : Int), .int (((a1 + a2 % (1 + v)).toNat : Nat) : Int)] = _
    rw [Int.toNat_of_nonneg h10, Int.toNat_of_nonneg (by omega)]
  refine ft_asg 3 (d := .list [.int a0, .int a1, .int a2, .int a3, .int a4]) (f_callX hdr (hr.mono (by omega)) (fS_ref 0 rfl (fS_cons (f_var 1 rfl) (fS_cons (x := .list (szLis.map .int)) (f_lst (fA_cons f_int (fA_cons f_int (fA_cons f_int (fA_cons f_int (fA_cons f_int fA_nil)))))) fS_nil)))
    (fun σ G2 H2 s2 => ⟨a, ns, k, szLis, rfl, s2.script (fun _ z => z) hS, by omega, by decide, by decide, hd.symm⟩)) scLsd.nd ?_
  refine ft_asg 4 (d := part.enc) (f_callX hnu hr (fS_ref 0 rfl (fS_cons (f_add (f_var 1 rfl) f_int) fS_nil))
    (fun σ G2 H2 s2 => ⟨a, ns, k + 1, rfl, s2.script (fun _ z => z) hS, by omega, by rw [hpart]⟩)) scLsd.nd ?_
  refine ft_asg 5 (d := .tuple [.str "list", part.enc, .int a1, .int (a1 + a2 % (1 + v))]) (f_tup (xs := [.str "list", part.enc, .int a1, .int (a1 + a2 % (1 + v))]) (fA_cons f_str (fA_cons (f_var 4 rfl) (fA_cons (f_ixL (d := .int a1) (f_var 3 rfl) f_int rfl)
    (fA_cons (f_add (f_ixL (d := .int a1) (f_var 3 rfl) f_int rfl) (f_mod (f_ixL (d := .int a2) (f_var 3 rfl) f_int rfl) (f_add f_int (f_var 2 rfl)) (by omega))) fA_nil))))) scLsd.nd ?_
  rw [← epl]
  generalize hpl : plainM part v a1 a2 = pl
  refine ft_if0 (p := decide (a0 < 4)) (fB_cmpI (op := .Lt) (f_ixL (d := .int a0) (f_var 3 rfl) f_int rfl) f_int) (fun h => ?_) (fun h => ?_)
  · have h := of_decide_eq_true h
    refine ft_ret (f_var 5 rfl) ?_
    unfold lawListed
    rw [if_pos h, hpl]
  have h0 := of_decide_eq_false h
  refine ft_if0 (p := decide (a0 = 4)) (fB_cmpI (op := .Eq) (f_ixL (d := .int a0) (f_var 3 rfl) f_int rfl) f_int) (fun h => ?_) (fun h => ?_)
  · have h := of_decide_eq_true h
    refine ft_ret (f_tup (xs := [.str "repeat", (Gn.int (a1 - 1) 2).enc, part.enc]) (fA_cons f_str (fA_cons (f_tup (xs := [.str "int", .int (a1 - 1), .int 2]) (fA_cons f_str (fA_cons (f_sub (f_ixL (d := .int a1) (f_var 3 rfl) f_int rfl) f_int) (fA_cons f_int fA_nil)))) (fA_cons (f_var 4 rfl) fA_nil)))) ?_
    unfold lawListed
    rw [if_neg h0, if_pos h]
    rfl
  have h1 := of_decide_eq_false h
  refine ft_if0 (p := decide (a0 = 5)) (fB_cmpI (op := .Eq) (f_ixL (d := .int a0) (f_var 3 rfl) f_int rfl) f_int) (fun h => ?_) (fun h => ?_)
  · have h := of_decide_eq_true h
    have hp : ∀ m, (if a2 % 2 = 0 then Mp.sorted else Mp.reversed) = m → atI [Mp.sorted.enc, Mp.reversed.enc] (a2 % 2) = some m.enc := fun m hm => by
      subst hm
      rcases two_pick (a2 := a2) with q | q
      · rw [q, if_pos rfl]; rfl
      · rw [q, if_neg (by decide)]; rfl
    refine ft_ret (f_tup (xs := [.str "turned", pl.enc, Mp.enc (if a2 % 2 = 0 then Mp.sorted else Mp.reversed)]) (fA_cons f_str (fA_cons (f_var 5 rfl) (fA_cons (f_ixL (xs := [Mp.sorted.enc, Mp.reversed.enc])
      (f_lst (fA_cons (f_tup (xs := [.str "sorted"]) (fA_cons f_str fA_nil)) (fA_cons (f_tup (xs := [.str "reversed"]) (fA_cons f_str fA_nil)) fA_nil)))
      (f_mod (f_ixL (d := .int a2) (f_var 3 rfl) f_int rfl) f_int (by decide)) (hp _ rfl)) fA_nil)))) ?_
    unfold lawListed
    rw [if_neg h0, if_neg h1, if_pos h, hpl]
    rfl
  have h2 := of_decide_eq_false h
  refine ft_if0 (p := decide (a0 = 6)) (fB_cmpI (op := .Eq) (f_ixL (d := .int a0) (f_var 3 rfl) f_int rfl) f_int) (fun h => ?_) (fun h => ?_)
  · have h := of_decide_eq_true h
    have hp : atI [Cn.different.enc, Cn.rising.enc, (Cn.size (.atmost 1)).enc, (Cn.sum (.divides 2)).enc] a3 = some (keptM a3).enc := by
      have q : a3 = 0 ∨ a3 = 1 ∨ a3 = 2 ∨ a3 = 3 := by omega
      rcases q with rfl | rfl | rfl | rfl <;> rfl
    refine ft_ret (f_tup (xs := [.str "kept", pl.enc, (keptM a3).enc]) (fA_cons f_str (fA_cons (f_var 5 rfl) (fA_cons (f_ixL (xs := [Cn.different.enc, Cn.rising.enc, (Cn.size (.atmost 1)).enc, (Cn.sum (.divides 2)).enc])
      (f_lst (fA_cons (f_tup (xs := [.str "different"]) (fA_cons f_str fA_nil)) (fA_cons (f_tup (xs := [.str "rising"]) (fA_cons f_str fA_nil))
        (fA_cons (f_tup (xs := [.str "size", .tuple [.str "atmost", .int 1]]) (fA_cons f_str (fA_cons (f_tup (xs := [.str "atmost", .int 1]) (fA_cons f_str (fA_cons f_int fA_nil))) fA_nil)))
        (fA_cons (f_tup (xs := [.str "sum", .tuple [.str "divides", .int 2]]) (fA_cons f_str (fA_cons (f_tup (xs := [.str "divides", .int 2]) (fA_cons f_str (fA_cons f_int fA_nil))) fA_nil))) fA_nil)))))
      (f_ixL (d := .int a3) (f_var 3 rfl) f_int rfl) hp) fA_nil)))) ?_
    unfold lawListed
    rw [if_neg h0, if_neg h1, if_neg h2, if_pos h, hpl]
    rfl
  have h3 := of_decide_eq_false h
  refine ft_ret (f_tup (xs := [.str "one", .tuple [pl.enc, (Gn.lst (.int 0 1) 0 1).enc]]) (fA_cons f_str (fA_cons (f_tup (xs := [pl.enc, (Gn.lst (.int 0 1) 0 1).enc]) (fA_cons (f_var 5 rfl)
    (fA_cons (f_tup (xs := [.str "list", (Gn.int 0 1).enc, .int 0, .int 1]) (fA_cons f_str (fA_cons (f_tup (xs := [.str "int", .int 0, .int 1]) (fA_cons f_str (fA_cons f_int (fA_cons f_int fA_nil)))) (fA_cons f_int (fA_cons f_int fA_nil))))) fA_nil))) fA_nil))) ?_
  unfold lawListed
  rw [if_neg h0, if_neg h1, if_neg h2, if_neg h3, hpl]
  rfl
end
end CR

set_option Elab.async false
set_option linter.all false
set_option maxRecDepth 100000
set_option maxHeartbeats 1000000
/-! # Walks: _law_test -/
namespace CR
open PySem L2 Evl PyProof.Rows
abbrev szTst : List Int := [8, 4, 5, 3]
theorem four {l : List Int} (h : l.length = 4) : ∃ a0 a1 a2 a3, l = [a0, a1, a2, a3] := by
  match l, h with
  | [a0, a1, a2, a3], _ => exact ⟨_, _, _, _, rfl⟩
/-- a condition about lists of numbers -/
def lcond (ab : Cn) (a : Int) : Cn :=
  if a = 0 then .rising else if a = 1 then .different else if a = 2 then .sum ab else if a = 3 then .size ab else if a = 4 then .every ab else if a = 5 then .exi ab
  else if a = 6 then .neg .rising else .conj .rising (.sum ab)
def lconds (ab : Cn) : List PyData := [Cn.rising.enc, Cn.different.enc, (Cn.sum ab).enc, (Cn.size ab).enc, (Cn.every ab).enc, (Cn.exi ab).enc, (Cn.neg .rising).enc, (Cn.conj .rising (.sum ab)).enc]
/-- a test: which generator, which condition -/
def tstD (num : Gn) (l1 l2 : Gn) : List Int → Gn × Cn
  | [a0, a1, a2, a3] => if a3 = 0 then (.pair num l1, .disj (.item 1 (lcond (aboutM a1 a2) a0)) (.item 0 (aboutM a1 a2))) else if a3 = 1 ∧ a0 = 0 then (num, aboutM a1 a2) else (l2, lcond (aboutM a1 a2) a0)
  | _ => (.int 0 0, .atmost 0)
def tstG (ns : List Int) (k : Nat) : Gn × Cn := tstD (numG ns (k + 1)) (lisG ns (k + 2) 1) (lisG ns (k + 2) 2) (drawL ns k szTst)
section
variable {P : Program} {w : World} {K : PySem.W.Frag} {mg : Str → Option Value} {base : Heap} {T : List TabN} {f : Addr} {fd : FuncData}
def PreTst (K : PySem.W.Frag) (G H : Hp) (sds : List SD) (d : PyData) : Prop := ∃ (a : Addr) (ns : List Int) (k : Nat), sds = [.ref a, .d (.int k)] ∧ SqL K H a (ns.map V.int) ∧ k ≤ 800 ∧ d = encTest (tstG ns k).1 (tstG ns k).2
abbrev NTst : List Str := ["_law_script", "_law_k", "_law_digits", "_law_about_here", "_law_lists"]
theorem scTst : FnScope NTst ["_law_script", "_law_k"] (defScope (top 59)) := ⟨rfl, rfl, rfl, by decide +kernel, rfl, by decide +kernel, by decide +kernel⟩
theorem ok_tst (D : DefK K mg "_law_test" 59 ["_law_script", "_law_k"] f fd) (hdr : Cal P w K mg base CX0 2 "_law_draw" (spX T (PreDraw K))) (hab : Cal P w K mg base CX0 1 "_law_about" (spD T rAbout))
    (hnu : Cal P w K mg base CX0 3 "_law_number" (spX T (PreNum K))) (hli : Cal P w K mg base CX0 4 "_law_listed" (spX T (PreLis K))) : FnOk P w K mg base CX0 5 f fd ["_law_script", "_law_k"] (spX T (PreTst K)) := by
  refine fn_x (C := 0) D.fn scTst (fun G H sds d ⟨a, ns, k, e, _⟩ => by rw [e]; rfl) (fun cdv A outer s H E G sds d hr hcd hR => ?_)
  obtain ⟨a, ns, k, rfl, hS, hk, rfl⟩ := hR
  refine FT.h ?_
  obtain ⟨a0, a1, a2, a3, el⟩ := four (drawL_len ns k szTst)
  have hB : Below (drawL ns k szTst) szTst := drawL_below ns k szTst (by decide)
  have eg : tstG ns k = if a3 = 0 then (.pair (numG ns (k + 1)) (lisG ns (k + 2) 1), .disj (.item 1 (lcond (aboutM a1 a2) a0)) (.item 0 (aboutM a1 a2))) else if a3 = 1 ∧ a0 = 0 then (numG ns (k + 1), aboutM a1 a2) else (lisG ns (k + 2) 2, lcond (aboutM a1 a2) a0) := by unfold tstG; rw [el]; rfl
  have hd : (PyData.list ((drawL ns k szTst).map .int)) = .list [.int a0, .int a1, .int a2, .int a3] := by rw [el]; rfl
  rw [el] at hB
  obtain ⟨⟨h00, h01⟩, ⟨h10, h11⟩, ⟨h20, h21⟩, ⟨h30, h31⟩, _⟩ := hB
  rw [eg]
  generalize hnum : numG ns (k + 1) = num
  generalize hl1 : lisG ns (k + 2) 1 = l1
  generalize hl2 : lisG ns (k + 2) 2 = l2
  generalize hc : aboutM a1 a2 = ab
  have hpick : atI (lconds ab) a0 = some (lcond ab a0).enc := by
    have q : a0 = 0 ∨ a0 = 1 ∨ a0 = 2 ∨ a0 = 3 ∨ a0 = 4 ∨ a0 = 5 ∨ a0 = 6 ∨ a0 = 7 := by omega
    rcases q with rfl | rfl | rfl | rfl | rfl | rfl | rfl | rfl <;> rfl
  refine ft_asg 2 (d := .list [.int a0, .int a1, .int a2, .int a3]) (f_callX hdr (hr.mono (by omega)) (fS_ref 0 rfl (fS_cons (f_var 1 rfl) (fS_cons (x := .list (szTst.map .int)) (f_lst (fA_cons f_int (fA_cons f_int (fA_cons f_int (fA_cons f_int fA_nil))))) fS_nil)))
    (fun σ G2 H2 s2 => ⟨a, ns, k, szTst, rfl, s2.script (fun _ z => z) hS, by omega, by decide, by decide, hd.symm⟩)) scTst.nd ?_
  refine ft_asg 3 (d := ab.enc) (f_call hab (hr.mono (by omega)) (fA_cons (f_lst (fA_cons (f_ixL (d := .int a1) (f_var 2 rfl) f_int rfl) (fA_cons (f_ixL (d := .int a2) (f_var 2 rfl) f_int rfl) fA_nil))) fA_nil) ⟨a1, a2, rfl, by rw [hc]⟩) scTst.nd ?_
  refine ft_asg 4 (d := .list (lconds ab)) (f_lst (xs := lconds ab) (fA_cons (f_tup (xs := [.str "rising"]) (fA_cons f_str fA_nil)) (fA_cons (f_tup (xs := [.str "different"]) (fA_cons f_str fA_nil))
    (fA_cons (f_tup (xs := [.str "sum", ab.enc]) (fA_cons f_str (fA_cons (f_var 3 rfl) fA_nil))) (fA_cons (f_tup (xs := [.str "size", ab.enc]) (fA_cons f_str (fA_cons (f_var 3 rfl) fA_nil)))
    (fA_cons (f_tup (xs := [.str "every", ab.enc]) (fA_cons f_str (fA_cons (f_var 3 rfl) fA_nil))) (fA_cons (f_tup (xs := [.str "some", ab.enc]) (fA_cons f_str (fA_cons (f_var 3 rfl) fA_nil)))
    (fA_cons (f_tup (xs := [.str "not", .tuple [.str "rising"]]) (fA_cons f_str (fA_cons (f_tup (xs := [.str "rising"]) (fA_cons f_str fA_nil)) fA_nil)))
    (fA_cons (f_tup (xs := [.str "and", .tuple [.str "rising"], .tuple [.str "sum", ab.enc]]) (fA_cons f_str (fA_cons (f_tup (xs := [.str "rising"]) (fA_cons f_str fA_nil)) (fA_cons (f_tup (xs := [.str "sum", ab.enc]) (fA_cons f_str (fA_cons (f_var 3 rfl) fA_nil))) fA_nil)))) fA_nil)))))))) (by show (8 : Nat) ≤ sizeLine; decide)) scTst.nd ?_
  have hz : (10000000 : Nat) < sizeLine := big2
  refine ft_if0 (p := decide (a3 = 0)) (fB_cmpI (op := .Eq) (f_ixL (d := .int a3) (f_var 2 rfl) f_int rfl) f_int) (fun h => ?_) (fun h => ?_)
  · have h := of_decide_eq_true h
    refine ft_ret (f_tup (xs := [(Gn.pair num l1).enc, (Cn.disj (.item 1 (lcond ab a0)) (.item 0 ab)).enc]) (fA_cons (f_tup (xs := [.str "tuple", .tuple [num.enc, l1.enc]]) (fA_cons f_str (fA_cons (f_tup (xs := [num.enc, l1.enc])
      (fA_cons (f_callX hnu (hr.mono (by omega)) (fS_ref 0 rfl (fS_cons (f_add (f_var 1 rfl) f_int) fS_nil)) (fun σ G2 H2 s2 => ⟨a, ns, k + 1, rfl, s2.script (fun _ z => z) hS, by omega, by rw [hnum]⟩))
      (fA_cons (f_callX hli hr (fS_ref 0 rfl (fS_cons (f_add (f_var 1 rfl) f_int) (fS_cons f_int fS_nil))) (fun σ G2 H2 s2 => ⟨a, ns, k + 2, 1, rfl, s2.script (fun _ z => z) hS, by omega, by omega, by omega, by rw [hl1]⟩)) fA_nil))) fA_nil)))
      (fA_cons (f_tup (xs := [.str "or", .tuple [.str "item", .int 1, (lcond ab a0).enc], .tuple [.str "item", .int 0, ab.enc]]) (fA_cons f_str
        (fA_cons (f_tup (xs := [.str "item", .int 1, (lcond ab a0).enc]) (fA_cons f_str (fA_cons f_int (fA_cons (f_ixL (f_var 4 rfl) (f_ixL (d := .int a0) (f_var 2 rfl) f_int rfl) hpick) fA_nil))))
        (fA_cons (f_tup (xs := [.str "item", .int 0, ab.enc]) (fA_cons f_str (fA_cons f_int (fA_cons (f_var 3 rfl) fA_nil)))) fA_nil)))) fA_nil))) ?_
    rw [if_pos h]
    rfl
  have h0 := of_decide_eq_false h
  refine ft_if0 (p := decide (a3 = 1) && decide (a0 = 0)) (fB_w (fW_and (p := decide (a3 = 1)) (q := decide (a0 = 0)) (fB_cmpI (op := .Eq) (f_ixL (d := .int a3) (f_var 2 rfl) f_int rfl) f_int) (fun _ => fW_and1 (fB_cmpI (op := .Eq) (f_ixL (d := .int a0) (f_var 2 rfl) f_int rfl) f_int)))) (fun h => ?_) (fun h => ?_)
  · rw [Bool.and_eq_true, decide_eq_true_eq, decide_eq_true_eq] at h
    refine ft_ret (f_tup (xs := [num.enc, ab.enc]) (fA_cons (f_callX hnu (hr.mono (by omega)) (fS_ref 0 rfl (fS_cons (f_add (f_var 1 rfl) f_int) fS_nil)) (fun σ G2 H2 s2 => ⟨a, ns, k + 1, rfl, s2.script (fun _ z => z) hS, by omega, by rw [hnum]⟩)) (fA_cons (f_var 3 rfl) fA_nil))) ?_
    rw [if_neg h0, if_pos h]
    rfl
  have h1 : ¬ (a3 = 1 ∧ a0 = 0) := by
    rintro ⟨z1, z2⟩
    rw [z1, z2] at h
    cases h
  refine ft_ret (f_tup (xs := [l2.enc, (lcond ab a0).enc]) (fA_cons (f_callX hli hr (fS_ref 0 rfl (fS_cons (f_add (f_var 1 rfl) f_int) (fS_cons f_int fS_nil))) (fun σ G2 H2 s2 => ⟨a, ns, k + 2, 2, rfl, s2.script (fun _ z => z) hS, by omega, by omega, by omega, by rw [hl2]⟩))
    (fA_cons (f_ixL (f_var 4 rfl) (f_ixL (d := .int a0) (f_var 2 rfl) f_int rfl) hpick) fA_nil))) ?_
  rw [if_neg h0, if_neg h1]
  rfl
end
end CR

set_option Elab.async false
set_option linter.all false
set_option maxRecDepth 100000
set_option maxHeartbeats 1000000
/-! # The plain law: the order of rows -/
namespace CR
open PySem
theorem none_in {α : Type} {Q : α → Prop} : ∀ p ∈ ([] : List α), Q p := fun _ z => nomatch z
theorem lex_irr : ∀ a : List Int, lexM a a = false
  | [] => rfl
  | x :: r => by
    unfold lexM
    rw [lex_irr r]
    simp
theorem lex_trans : ∀ {a b c : List Int}, lexM a b = true → lexM b c = true → lexM a c = true
  | _, [], [], _, h => by cases h
  | [], [], _ :: _, h, _ => by cases h
  | _ :: _, [], _ :: _, h, _ => by cases h
  | _, _ :: _, [], _, h => by cases h
  | [], _ :: _, _ :: _, _, _ => rfl
  | x :: a, y :: b, z :: c, h1, h2 => by
    unfold lexM at h1 h2 ⊢
    simp only [Bool.or_eq_true, Bool.and_eq_true, decide_eq_true_eq] at h1 h2 ⊢
    rcases h1 with h1 | ⟨h1, h3⟩
    · rcases h2 with h2 | ⟨h2, h4⟩
      · exact .inl (by omega)
      · exact .inl (by omega)
    · rcases h2 with h2 | ⟨h2, h4⟩
      · exact .inl (by omega)
      · exact .inr ⟨by omega, lex_trans h3 h4⟩
theorem lex_tri : ∀ a b : List Int, lexM a b = true ∨ a = b ∨ lexM b a = true
  | [], [] => .inr (.inl rfl)
  | [], _ :: _ => .inl rfl
  | _ :: _, [] => .inr (.inr rfl)
  | x :: a, y :: b => by
    unfold lexM
    simp only [Bool.or_eq_true, Bool.and_eq_true, decide_eq_true_eq]
    rcases Int.lt_trichotomy x y with h | h | h
    · exact .inl (.inl h)
    · subst h
      rcases lex_tri a b with h | h | h
      · exact .inl (.inr ⟨rfl, h⟩)
      · subst h
        exact .inr (.inl rfl)
      · exact .inr (.inr (.inr ⟨rfl, h⟩))
    · exact .inr (.inr (.inl h))
theorem lex_left : ∀ (a : List Int) {c d : List Int}, lexM c d = true → lexM (a ++ c) (a ++ d) = true
  | [], _, _, h => h
  | x :: a, c, d, h => by
    rw [List.cons_append, List.cons_append]
    unfold lexM
    rw [lex_left a h]
    simp
theorem lex_app : ∀ {a b : List Int} (c d : List Int), a.length = b.length → lexM a b = true → lexM (a ++ c) (b ++ d) = true
  | [], [], _, _, _, h => by cases h
  | [], _ :: _, _, _, e, _ => by cases e
  | _ :: _, [], _, _, e, _ => by cases e
  | x :: a, y :: b, c, d, e, h => by
    rw [List.cons_append, List.cons_append]
    unfold lexM at h ⊢
    simp only [Bool.or_eq_true, Bool.and_eq_true, decide_eq_true_eq] at h ⊢
    rcases h with h | ⟨h1, h2⟩
    · exact .inl h
    · exact .inr ⟨h1, lex_app c d (by simpa using e) h2⟩
theorem less_iff {a b : List Int} : lessM a b = true ↔ a.length < b.length ∨ (a.length = b.length ∧ lexM a b = true) := by
  unfold lessM
  simp only [Bool.or_eq_true, Bool.and_eq_true, decide_eq_true_eq]
theorem less_irr (a : List Int) : lessM a a = false := by
  unfold lessM
  rw [lex_irr]
  simp
theorem less_trans {a b c : List Int} (h1 : lessM a b = true) (h2 : lessM b c = true) : lessM a c = true := by
  rw [less_iff] at h1 h2 ⊢
  rcases h1 with h1 | ⟨h1, h3⟩
  · rcases h2 with h2 | ⟨h2, _⟩ <;> exact .inl (by omega)
  · rcases h2 with h2 | ⟨h2, h4⟩
    · exact .inl (by omega)
    · exact .inr ⟨by omega, lex_trans h3 h4⟩
theorem less_tri (a b : List Int) : lessM a b = true ∨ a = b ∨ lessM b a = true := by
  rw [less_iff, less_iff]
  rcases Nat.lt_trichotomy a.length b.length with h | h | h
  · exact .inl (.inl h)
  · rcases lex_tri a b with h2 | h2 | h2
    · exact .inl (.inr ⟨h, h2⟩)
    · exact .inr (.inl h2)
    · exact .inr (.inr (.inr ⟨h.symm, h2⟩))
  · exact .inr (.inr (.inl h))
/-- a is not behind b -/
def Le (a b : List Int) : Prop := lessM b a = false
theorem le_iff {a b : List Int} : Le a b ↔ a = b ∨ lessM a b = true := by
  unfold Le
  constructor
  · intro h
    rcases less_tri a b with h2 | h2 | h2
    · exact .inr h2
    · exact .inl h2
    · rw [h] at h2; cases h2
  · rintro (rfl | h)
    · exact less_irr a
    · cases e : lessM b a with
      | false => rfl
      | true =>
        have := less_trans h e
        rw [less_irr] at this
        cases this
theorem le_refl (a : List Int) : Le a a := less_irr a
theorem le_trans {a b c : List Int} (h1 : Le a b) (h2 : Le b c) : Le a c := by
  rw [le_iff] at h1 h2 ⊢
  rcases h1 with rfl | h1
  · exact h2
  · rcases h2 with rfl | h2
    · exact .inr h1
    · exact .inr (less_trans h1 h2)
theorem le_total (a b : List Int) : Le a b ∨ Le b a := by
  rw [le_iff, le_iff]
  rcases less_tri a b with h | h | h
  · exact .inl (.inr h)
  · exact .inl (.inl h)
  · exact .inr (.inr h)
theorem le_len {a b : List Int} (h : Le a b) : a.length ≤ b.length := by
  rcases le_iff.mp h with rfl | h
  · exact Nat.le_refl _
  · rcases less_iff.mp h with h | ⟨h, _⟩ <;> omega
theorem le_app {a b c d : List Int} (h1 : Le a b) (h2 : Le c d) : Le (a ++ c) (b ++ d) := by
  have l1 := le_len h1
  have l2 := le_len h2
  rw [le_iff] at h1 h2 ⊢
  rw [less_iff] at h1 h2 ⊢
  rw [List.length_append, List.length_append]
  rcases h1 with rfl | h1 | ⟨h1, h3⟩
  · rcases h2 with rfl | h2 | ⟨h2, h4⟩
    · exact .inl rfl
    · exact .inr (.inl (by omega))
    · exact .inr (.inr ⟨by omega, lex_left a h4⟩)
  · exact .inr (.inl (by omega))
  · rcases h2 with rfl | h2 | ⟨h2, h4⟩
    · exact .inr (.inr ⟨by omega, lex_app c c h1 h3⟩)
    · exact .inr (.inl (by omega))
    · exact .inr (.inr ⟨by omega, lex_app c d h1 h3⟩)
theorem le_cons (k : Int) {a b : List Int} (h : Le a b) : Le (k :: a) (k :: b) := le_app (le_refl [k]) h
theorem ent_trans (a b c : Ent) : entLe a b = true → entLe b c = true → entLe a c = true := by
  unfold entLe
  intro h1 h2
  rw [Bool.not_eq_true'] at h1 h2 ⊢
  exact le_trans h1 h2
theorem ent_total (a b : Ent) : (entLe a b || entLe b a) = true := by
  unfold entLe
  rw [Bool.or_eq_true, Bool.not_eq_true', Bool.not_eq_true']
  exact le_total a.r b.r
theorem put_sorted (es : List Ent) : (putM es).Pairwise fun a b => Le a.r b.r := by
  unfold putM
  refine List.Pairwise.imp (fun {a b} h => ?_) (List.pairwise_mergeSort ent_trans ent_total (foundM es))
  unfold entLe at h
  rw [Bool.not_eq_true'] at h
  exact h
end CR

set_option Elab.async false
set_option linter.all false
set_option maxRecDepth 100000
set_option maxHeartbeats 1000000
/-! # The plain law: the exact rows of a generator -/
namespace CR
open PySem
def flat (ps : List RV) : List Int := ps.flatMap fun p => p.1
def flat1 (ps : List RV) : List Int := ps.flatMap fun p => 1 :: p.1
def endC (k n : Nat) : List Int := if k < n then [0] else []
def vals (ps : List RV) : List PyData := ps.map fun p => p.2
/-- r is exact for the generator, and v its value -/
def ExR : Gn → List Int → PyData → Prop
  | .int lo hi, r, v => ∃ c, r = [c] ∧ 0 ≤ c ∧ c ≤ hi - lo ∧ v = .int (lo + c)
  | .pair a b, r, v => ∃ r1 x r2 y, ExR a r1 x ∧ ExR b r2 y ∧ r = r1 ++ r2 ∧ v = .tuple [x, y]
  | .lst g l m, r, v => ∃ ps qs : List RV, ps.length = l ∧ qs.length ≤ m - l ∧ (∀ p ∈ ps, ExR g p.1 p.2) ∧ (∀ p ∈ qs, ExR g p.1 p.2) ∧ r = flat ps ++ (flat1 qs ++ endC qs.length (m - l)) ∧ v = .tuple (vals ps ++ vals qs)
  | .one a b, r, v => ∃ r1, (r = 0 :: r1 ∧ ExR a r1 v) ∨ (r = 1 :: r1 ∧ ExR b r1 v)
  | .kept g c, r, v => ExR g r v ∧ c.val v = true
  | .turned g m, r, v => ∃ x, ExR g r x ∧ v = m.val x
  | .rep a b, r, v => ∃ (r1 : List Int) (x : PyData) (ps : List RV), ExR a r1 x ∧ (0 ≤ dint x ∧ dint x ≤ 6) ∧ ps.length = (dint x).toNat ∧ (∀ p ∈ ps, ExR b p.1 p.2) ∧ r = r1 ++ flat ps ∧ v = .tuple (vals ps)
theorem choice_ex {row : List Int} {b c : Int} {u u1 : Nat} (h : choiceM row b u = .ok (c, u1)) : row.drop u = c :: row.drop u1 ∧ 0 ≤ c ∧ c ≤ b := by
  unfold choiceM at h
  cases e : row[u]? with
  | none => rw [e] at h; cases h
  | some x =>
    rw [e] at h
    dsimp only at h
    split at h
    · rename_i hc
      cases h
      obtain ⟨h1, h2⟩ := List.getElem?_eq_some_iff.mp e
      refine ⟨?_, hc⟩
      rw [List.drop_eq_getElem_cons h1, h2]
    · cases h
section
variable {row : List Int} {f : Dr PyData} {R : List Int → PyData → Prop}
theorem times_ex (hf : ∀ u x u1, f u = .ok (x, u1) → ∃ r1, row.drop u = r1 ++ row.drop u1 ∧ R r1 x) : ∀ {n u u1 : Nat} {xs : List PyData}, timesM f n u = .ok (xs, u1) →
    ∃ ps : List RV, ps.length = n ∧ (∀ p ∈ ps, R p.1 p.2) ∧ row.drop u = flat ps ++ row.drop u1 ∧ xs = vals ps
  | 0, u, u1, xs, h => by
    cases h
    exact ⟨[], rfl, none_in, rfl, rfl⟩
  | n + 1, u, u1, xs, h => by
    unfold timesM at h
    cases e : f u with
    | error o => rw [e] at h; cases h
    | ok p =>
      obtain ⟨x, w1⟩ := p
      rw [e] at h
      dsimp only at h
      cases e2 : timesM f n w1 with
      | error o => rw [e2] at h; cases h
      | ok q =>
        obtain ⟨ys, w2⟩ := q
        rw [e2] at h
        cases h
        obtain ⟨r1, h1, h2⟩ := hf _ _ _ e
        obtain ⟨ps, h3, h4, h5, rfl⟩ := times_ex hf e2
        refine ⟨(r1, x) :: ps, by rw [List.length_cons, h3], fun p hp => ?_, ?_, rfl⟩
        · rcases List.mem_cons.mp hp with rfl | hp
          · exact h2
          · exact h4 p hp
        · rw [h1, h5]
          show _ = (r1 ++ flat ps) ++ _
          rw [List.append_assoc]
theorem more_ex (hf : ∀ u x u1, f u = .ok (x, u1) → ∃ r1, row.drop u = r1 ++ row.drop u1 ∧ R r1 x) : ∀ {n u u1 : Nat} {xs : List PyData}, moreM row f n u = .ok (xs, u1) →
    ∃ qs : List RV, qs.length ≤ n ∧ (∀ p ∈ qs, R p.1 p.2) ∧ row.drop u = (flat1 qs ++ endC qs.length n) ++ row.drop u1 ∧ xs = vals qs
  | 0, u, u1, xs, h => by
    cases h
    exact ⟨[], Nat.le_refl _, none_in, rfl, rfl⟩
  | n + 1, u, u1, xs, h => by
    unfold moreM at h
    cases e0 : choiceM row 1 u with
    | error o => rw [e0] at h; cases h
    | ok p =>
      obtain ⟨c, w0⟩ := p
      rw [e0] at h
      dsimp only at h
      obtain ⟨c1, c2, c3⟩ := choice_ex e0
      split at h
      · rename_i hc
        subst hc
        cases e : f w0 with
        | error o => rw [e] at h; cases h
        | ok p =>
          obtain ⟨x, w1⟩ := p
          rw [e] at h
          dsimp only at h
          cases e2 : moreM row f n w1 with
          | error o => rw [e2] at h; cases h
          | ok q =>
            obtain ⟨ys, w2⟩ := q
            rw [e2] at h
            cases h
            obtain ⟨r1, h1, h2⟩ := hf _ _ _ e
            obtain ⟨ps, h3, h4, h5, rfl⟩ := more_ex hf e2
            refine ⟨(r1, x) :: ps, by rw [List.length_cons]; omega, fun p hp => ?_, ?_, rfl⟩
            · rcases List.mem_cons.mp hp with rfl | hp
              · exact h2
              · exact h4 p hp
            · rw [c1, h1, h5]
              have e3 : endC (((r1, x) :: ps).length) (n + 1) = endC ps.length n := by
                unfold endC
                rw [List.length_cons]
                simp only [Nat.add_lt_add_iff_right]
              rw [e3]
              show _ = ((1 :: r1 ++ flat1 ps) ++ _) ++ _
              simp only [List.append_assoc, List.cons_append]
      · rename_i hc
        cases h
        have hz : c = 0 := by omega
        subst hz
        exact ⟨[], Nat.zero_le _, none_in, c1, rfl⟩
theorem value_ex : ∀ (g : Gn) {u u1 : Nat} {x : PyData}, valueM row g u = .ok (x, u1) → ∃ r1, row.drop u = r1 ++ row.drop u1 ∧ ExR g r1 x
  | .int lo hi, u, u1, x, h => by
    unfold valueM at h
    cases e0 : choiceM row (hi - lo) u with
    | error o => rw [e0] at h; cases h
    | ok p =>
      obtain ⟨c, w0⟩ := p
      rw [e0] at h
      cases h
      obtain ⟨c1, c2, c3⟩ := choice_ex e0
      exact ⟨[c], c1, c, rfl, c2, c3, rfl⟩
  | .pair a b, u, u1, x, h => by
    unfold valueM at h
    cases e : valueM row a u with
    | error o => rw [e] at h; cases h
    | ok p =>
      obtain ⟨y, w1⟩ := p
      rw [e] at h
      dsimp only at h
      cases e2 : valueM row b w1 with
      | error o => rw [e2] at h; cases h
      | ok q =>
        obtain ⟨z, w2⟩ := q
        rw [e2] at h
        cases h
        obtain ⟨r1, h1, h2⟩ := value_ex a e
        obtain ⟨r2, h3, h4⟩ := value_ex b e2
        exact ⟨r1 ++ r2, by rw [h1, h3, List.append_assoc], r1, y, r2, z, h2, h4, rfl, rfl⟩
  | .lst g l m, u, u1, x, h => by
    unfold valueM at h
    cases e : timesM (valueM row g) l u with
    | error o => rw [e] at h; cases h
    | ok p =>
      obtain ⟨xs, w1⟩ := p
      rw [e] at h
      dsimp only at h
      cases e2 : moreM row (valueM row g) (m - l) w1 with
      | error o => rw [e2] at h; cases h
      | ok q =>
        obtain ⟨ys, w2⟩ := q
        rw [e2] at h
        cases h
        obtain ⟨ps, h1, h2, h3, rfl⟩ := times_ex (R := ExR g) (fun u x u1 h => value_ex g h) e
        obtain ⟨qs, h4, h5, h6, rfl⟩ := more_ex (R := ExR g) (fun u x u1 h => value_ex g h) e2
        exact ⟨_, by rw [h3, h6, ← List.append_assoc], ps, qs, h1, h4, h2, h5, rfl, rfl⟩
  | .one a b, u, u1, x, h => by
    unfold valueM at h
    cases e0 : choiceM row 1 u with
    | error o => rw [e0] at h; cases h
    | ok p =>
      obtain ⟨c, w0⟩ := p
      rw [e0] at h
      dsimp only at h
      obtain ⟨c1, c2, c3⟩ := choice_ex e0
      split at h
      · rename_i hc
        subst hc
        obtain ⟨r1, h1, h2⟩ := value_ex a h
        exact ⟨0 :: r1, by rw [c1, h1]; rfl, r1, .inl ⟨rfl, h2⟩⟩
      · rename_i hc
        have hc : c = 1 := by omega
        subst hc
        obtain ⟨r1, h1, h2⟩ := value_ex b h
        exact ⟨1 :: r1, by rw [c1, h1]; rfl, r1, .inr ⟨rfl, h2⟩⟩
  | .kept g c, u, u1, x, h => by
    unfold valueM at h
    cases e : valueM row g u with
    | error o => rw [e] at h; cases h
    | ok p =>
      obtain ⟨y, w1⟩ := p
      rw [e] at h
      dsimp only at h
      split at h
      · rename_i hc
        cases h
        obtain ⟨r1, h1, h2⟩ := value_ex g e
        exact ⟨r1, h1, h2, hc⟩
      · cases h
  | .turned g m, u, u1, x, h => by
    unfold valueM at h
    cases e : valueM row g u with
    | error o => rw [e] at h; cases h
    | ok p =>
      obtain ⟨y, w1⟩ := p
      rw [e] at h
      cases h
      obtain ⟨r1, h1, h2⟩ := value_ex g e
      exact ⟨r1, h1, y, h2, rfl⟩
  | .rep a b, u, u1, x, h => by
    unfold valueM at h
    cases e : valueM row a u with
    | error o => rw [e] at h; cases h
    | ok p =>
      obtain ⟨y, w1⟩ := p
      rw [e] at h
      dsimp only at h
      split at h
      · rename_i hc
        cases e2 : timesM (valueM row b) (dint y).toNat w1 with
        | error o => rw [e2] at h; cases h
        | ok q =>
          obtain ⟨ys, w2⟩ := q
          rw [e2] at h
          cases h
          obtain ⟨r1, h1, h2⟩ := value_ex a e
          obtain ⟨ps, h3, h4, h5, rfl⟩ := times_ex (R := ExR b) (fun u x u1 h => value_ex b h) e2
          exact ⟨r1 ++ flat ps, by rw [h1, h5, List.append_assoc], r1, y, ps, h2, hc, h3, h4, rfl, rfl⟩
      · cases h
end
theorem exact_ex {g : Gn} {row : List Int} {x : PyData} (h : exactM g row = some x) : ExR g row x := by
  unfold exactM at h
  cases e : valueM row g 0 with
  | error o => rw [e] at h; cases h
  | ok p =>
    obtain ⟨y, u⟩ := p
    rw [e] at h
    dsimp only at h
    split at h
    · rename_i hu
      cases h
      obtain ⟨r1, h1, h2⟩ := value_ex g e
      rw [hu, List.drop_length, List.append_nil, List.drop_zero] at h1
      rw [h1]
      exact h2
    · cases h
theorem fails_ex {g : Gn} {c : Cn} {row : List Int} (h : failsM g c row = true) : ∃ x, ExR g row x ∧ c.val x = false := by
  unfold failsM at h
  cases e : exactM g row with
  | none => rw [e] at h; cases h
  | some x =>
    rw [e] at h
    exact ⟨x, exact_ex e, by simpa using h⟩
end CR

set_option Elab.async false
set_option linter.all false
set_option maxRecDepth 100000
set_option maxHeartbeats 1000000
/-! # The plain law: triples put together -/
namespace CR
open PySem
/-- all of the rows are exact -/
def Snd (l : List RV) (R : List Int → PyData → Prop) : Prop := ∀ p ∈ l, R p.1 p.2
/-- each exact row has one that is not behind it, with its value -/
def Cov (l : List RV) (R : List Int → PyData → Prop) : Prop := ∀ r v, R r v → ∃ p ∈ l, p.2 = v ∧ Le p.1 r
def rvE (e : Ent) : RV := (e.r, e.v)
def cnt (es : List Ent) : Int := (es.map (·.n)).sum
theorem merge_or (f e : Ent) : (if lessM f.r e.r = true then f.r else e.r) = f.r ∨ (if lessM f.r e.r = true then f.r else e.r) = e.r := by
  split
  · exact .inl rfl
  · exact .inr rfl
theorem merge_le (f e : Ent) : Le (if lessM f.r e.r = true then f.r else e.r) f.r ∧ Le (if lessM f.r e.r = true then f.r else e.r) e.r := by
  split
  · rename_i h
    exact ⟨le_refl _, le_iff.mpr (.inr h)⟩
  · rename_i h
    have h2 : lessM f.r e.r = false := by simpa using h
    exact ⟨h2, le_refl _⟩
theorem putOne_all {Q : Ent → Prop} {e : Ent} (he : Q e) (hm : ∀ f, Q f → PyData.eqv f.v e.v = true → Q { v := f.v, n := e.n + f.n, r := if lessM f.r e.r = true then f.r else e.r }) :
    ∀ {found : List Ent}, (∀ f ∈ found, Q f) → ∀ f ∈ putOne found e, Q f
  | [], _, f, hf => by
    unfold putOne at hf
    rw [List.mem_singleton.mp hf]
    exact he
  | g :: r, h, f, hf => by
    unfold putOne at hf
    split at hf
    · rename_i hc
      rcases List.mem_cons.mp hf with rfl | hf
      · exact hm g (h g List.mem_cons_self) hc
      · exact h f (List.mem_cons_of_mem _ hf)
    · rcases List.mem_cons.mp hf with rfl | hf
      · exact h f List.mem_cons_self
      · exact putOne_all he hm (fun x hx => h x (List.mem_cons_of_mem _ hx)) f hf
theorem foldl_all {Q : Ent → Prop} (hm : ∀ e f, Q e → Q f → PyData.eqv f.v e.v = true → Q { v := f.v, n := e.n + f.n, r := if lessM f.r e.r = true then f.r else e.r }) :
    ∀ {es found : List Ent}, (∀ e ∈ es, Q e) → (∀ f ∈ found, Q f) → ∀ f ∈ es.foldl putOne found, Q f
  | [], found, _, h => h
  | e :: es, found, he, h => foldl_all (es := es) (found := putOne found e) hm (fun x hx => he x (List.mem_cons_of_mem _ hx)) (putOne_all (he e List.mem_cons_self) (fun f hf z => hm e f (he e List.mem_cons_self) hf z) h)
theorem putM_all {Q : Ent → Prop} {es : List Ent} (hm : ∀ e f, Q e → Q f → PyData.eqv f.v e.v = true → Q { v := f.v, n := e.n + f.n, r := if lessM f.r e.r = true then f.r else e.r }) (h : ∀ e ∈ es, Q e) : ∀ f ∈ putM es, Q f := fun f hf => by
  unfold putM at hf
  exact foldl_all hm h none_in f (List.mem_mergeSort.mp hf)
theorem put_snd {es : List Ent} {R : List Int → PyData → Prop} (hn : ∀ r v, R r v → nest v = true) (h : Snd (es.map rvE) R) : Snd ((putM es).map rvE) R := by
  have h1 : ∀ e ∈ es, R e.r e.v := fun e he => h _ (List.mem_map_of_mem he)
  have h2 := putM_all (Q := fun e => R e.r e.v) (es := es) (fun e f he hf z => by
    have hv : f.v = e.v := (eqv_iff (hn _ _ hf) (hn _ _ he)).mp z
    show R (if lessM f.r e.r = true then f.r else e.r) f.v
    rcases merge_or f e with q | q
    · rw [q]; exact hf
    · rw [q, hv]; exact he) h1
  intro p hp
  obtain ⟨e, he, rfl⟩ := List.mem_map.mp hp
  exact h2 e he
theorem putOne_cov {e : Ent} (hn : nest e.v = true) : ∀ {found : List Ent}, (∀ f ∈ found, nest f.v = true) →
    (∀ f ∈ found, ∃ f' ∈ putOne found e, f'.v = f.v ∧ Le f'.r f.r) ∧ ∃ f' ∈ putOne found e, f'.v = e.v ∧ Le f'.r e.r
  | [], _ => ⟨none_in, e, by unfold putOne; exact List.mem_singleton.mpr rfl, rfl, le_refl _⟩
  | g :: r, h => by
    unfold putOne
    by_cases hc : PyData.eqv g.v e.v = true
    · rw [if_pos hc]
      have hv : g.v = e.v := (eqv_iff (h g List.mem_cons_self) hn).mp hc
      obtain ⟨m1, m2⟩ := merge_le g e
      refine ⟨fun f hf => ?_, _, List.mem_cons_self, hv, m2⟩
      rcases List.mem_cons.mp hf with rfl | hf
      · exact ⟨_, List.mem_cons_self, rfl, m1⟩
      · exact ⟨f, List.mem_cons_of_mem _ hf, rfl, le_refl _⟩
    · rw [if_neg hc]
      obtain ⟨i1, f', i2, i3⟩ := putOne_cov hn (found := r) fun x hx => h x (List.mem_cons_of_mem _ hx)
      refine ⟨fun f hf => ?_, f', List.mem_cons_of_mem _ i2, i3⟩
      rcases List.mem_cons.mp hf with rfl | hf
      · exact ⟨f, List.mem_cons_self, rfl, le_refl _⟩
      · obtain ⟨f2, j1, j2⟩ := i1 f hf
        exact ⟨f2, List.mem_cons_of_mem _ j1, j2⟩
theorem foldl_cov : ∀ {es found : List Ent}, (∀ e ∈ es, nest e.v = true) → (∀ f ∈ found, nest f.v = true) → (∀ f ∈ found, ∃ f' ∈ es.foldl putOne found, f'.v = f.v ∧ Le f'.r f.r) ∧ ∀ e ∈ es, ∃ f' ∈ es.foldl putOne found, f'.v = e.v ∧ Le f'.r e.r
  | [], found, _, h => ⟨fun f hf => ⟨f, hf, rfl, le_refl _⟩, none_in⟩
  | e :: es, found, he, h => by
    have hn := he e List.mem_cons_self
    obtain ⟨p1, p2⟩ := putOne_cov hn h
    have hk : ∀ f ∈ putOne found e, nest f.v = true := putOne_all (Q := fun f => nest f.v = true) hn (fun f hf _ => hf) h
    obtain ⟨i1, i2⟩ := foldl_cov (es := es) (found := putOne found e) (fun x hx => he x (List.mem_cons_of_mem _ hx)) hk
    refine ⟨fun f hf => ?_, fun x hx => ?_⟩
    · obtain ⟨f1, a1, a2, a3⟩ := p1 f hf
      obtain ⟨f2, b1, b2, b3⟩ := i1 f1 a1
      exact ⟨f2, b1, b2.trans a2, le_trans b3 a3⟩
    · rcases List.mem_cons.mp hx with rfl | hx
      · obtain ⟨f1, a1, a2, a3⟩ := p2
        obtain ⟨f2, b1, b2, b3⟩ := i1 f1 a1
        exact ⟨f2, b1, b2.trans a2, le_trans b3 a3⟩
      · exact i2 x hx
theorem put_cov {es : List Ent} {R : List Int → PyData → Prop} (hn : ∀ e ∈ es, nest e.v = true) (h : Cov (es.map rvE) R) : Cov ((putM es).map rvE) R := fun r v hr => by
  obtain ⟨p, hp, h1, h2⟩ := h r v hr
  obtain ⟨e, he, rfl⟩ := List.mem_map.mp hp
  obtain ⟨f, hf, f1, f2⟩ := (foldl_cov (es := es) (found := []) hn none_in).2 e he
  refine ⟨rvE f, List.mem_map_of_mem (List.mem_mergeSort.mpr hf), f1.trans h1, le_trans f2 h2⟩
theorem cnt_cons (e : Ent) (es : List Ent) : cnt (e :: es) = e.n + cnt es := by
  unfold cnt
  rw [List.map_cons, List.sum_cons]
theorem cnt_app (es fs : List Ent) : cnt (es ++ fs) = cnt es + cnt fs := by
  unfold cnt
  rw [List.map_append, List.sum_append]
theorem cnt_putOne (e : Ent) : ∀ found : List Ent, cnt (putOne found e) = cnt found + e.n
  | [] => by unfold putOne; rw [cnt_cons]; unfold cnt; simp
  | g :: r => by
    unfold putOne
    split
    · rw [cnt_cons, cnt_cons]
      show e.n + g.n + cnt r = _
      omega
    · rw [cnt_cons, cnt_cons, cnt_putOne e r]
      omega
theorem cnt_foldl : ∀ (es found : List Ent), cnt (es.foldl putOne found) = cnt found + cnt es
  | [], found => by unfold cnt; simp
  | e :: es, found => by
    rw [List.foldl_cons, cnt_foldl es, cnt_putOne, cnt_cons]
    omega
theorem perm_sum {a b : List Int} (h : a.Perm b) : a.sum = b.sum := by
  induction h with
  | nil => rfl
  | cons x _ ih => rw [List.sum_cons, List.sum_cons, ih]
  | swap x y l => simp only [List.sum_cons]; omega
  | trans _ _ i1 i2 => exact i1.trans i2
theorem cnt_putM (es : List Ent) : cnt (putM es) = cnt es := by
  unfold putM
  have h : cnt ((foundM es).mergeSort entLe) = cnt (foundM es) := perm_sum ((List.mergeSort_perm _ _).map _)
  rw [h]
  unfold foundM
  rw [cnt_foldl]
  unfold cnt
  simp
theorem putM_n {es : List Ent} (h : ∀ e ∈ es, 0 ≤ e.n) : ∀ e ∈ putM es, 0 ≤ e.n :=
  putM_all (Q := fun e => 0 ≤ e.n) (fun e f he hf _ => by show 0 ≤ e.n + f.n; omega) h
theorem putOne_len (e : Ent) : ∀ found : List Ent, (putOne found e).length ≤ found.length + 1
  | [] => Nat.le_refl _
  | g :: r => by
    unfold putOne
    split
    · simp
    · rw [List.length_cons, List.length_cons]
      have := putOne_len e r
      omega
theorem foldl_len : ∀ (es found : List Ent), (es.foldl putOne found).length ≤ found.length + es.length
  | [], found => Nat.le_refl _
  | e :: es, found => by
    rw [List.foldl_cons, List.length_cons]
    have h1 := foldl_len es (putOne found e)
    have h2 := putOne_len e found
    omega
theorem putM_len (es : List Ent) : (putM es).length ≤ es.length := by
  unfold putM
  rw [List.length_mergeSort]
  have := foldl_len es []
  simpa [foundM] using this
end CR

set_option Elab.async false
set_option linter.all false
set_option maxRecDepth 100000
set_option maxHeartbeats 1000000
/-! # The plain law: rows of parts, sound and complete -/
namespace CR
open PySem
abbrev RT := List Int → List PyData → Prop
abbrev RR := List Int → PyData → Prop
def SndT (l : List RV) (M : RT) : Prop := ∀ p ∈ l, ∃ xs, p.2 = .tuple xs ∧ M p.1 xs
def CovT (l : List RV) (M : RT) : Prop := ∀ r xs, M r xs → ∃ p ∈ l, p.2 = .tuple xs ∧ Le p.1 r
def Sx (M : RT) (R : RR) : RT := fun r xs => ∃ r1 ys r2 y, M r1 ys ∧ R r2 y ∧ r = r1 ++ r2 ∧ xs = ys ++ [y]
def M0 : RT := fun r xs => r = [] ∧ xs = []
def M1 (M : RT) : RT := fun r xs => ∃ r0, M r0 xs ∧ r = r0 ++ [1]
def Sn (M : RT) (R : RR) : Nat → RT
  | 0 => M
  | n + 1 => Sx (Sn M R n) R
def LF (R : RR) : Nat → RT → RT
  | 0, M => M
  | n + 1, M => fun r xs => (∃ r0, M r0 xs ∧ r = r0 ++ [0]) ∨ LF R n (Sx (M1 M) R) r xs
section
variable {M : RT} {R : RR} {made part : List RV}
theorem snd_of {l : List RV} {R : RR} (h : SndT l M) (k : ∀ r xs, M r xs → R r (.tuple xs)) : Snd l R := fun p hp => by
  obtain ⟨xs, e, hm⟩ := h p hp
  rw [e]
  exact k _ _ hm
theorem cov_of {l : List RV} {R : RR} (h : CovT l M) (k : ∀ r v, R r v → ∃ xs, v = .tuple xs ∧ M r xs) : Cov l R := fun r v hr => by
  obtain ⟨xs, rfl, hm⟩ := k r v hr
  exact h r xs hm
theorem rv0_snd : SndT rv0 M0 := fun p hp => by
  rw [List.mem_singleton.mp hp]
  exact ⟨[], rfl, rfl, rfl⟩
theorem rv0_cov : CovT rv0 M0 := fun r xs ⟨e1, e2⟩ => ⟨_, List.mem_singleton.mpr rfl, by rw [e2], by rw [e1]; exact le_refl _⟩
theorem joinOne_snd (h : SndT made M) (h2 : Snd part R) : SndT (joinOne made part) (Sx M R) := fun p hp => by
  obtain ⟨a, ha, hp⟩ := List.mem_flatMap.mp hp
  obtain ⟨b, hb, rfl⟩ := List.mem_map.mp hp
  obtain ⟨xs, e, hm⟩ := h a ha
  refine ⟨xs ++ [b.2], ?_, a.1, xs, b.1, b.2, hm, h2 b hb, rfl, rfl⟩
  show PyData.tuple (ditems a.2 ++ [b.2]) = _
  rw [e]
  rfl
theorem joinOne_cov (h : CovT made M) (h2 : Cov part R) : CovT (joinOne made part) (Sx M R) := fun r xs ⟨r1, ys, r2, y, m1, m2, e1, e2⟩ => by
  obtain ⟨a, ha, a1, a2⟩ := h r1 ys m1
  obtain ⟨b, hb, b1, b2⟩ := h2 r2 y m2
  refine ⟨joinE a b, List.mem_flatMap.mpr ⟨a, ha, List.mem_map_of_mem hb⟩, ?_, ?_⟩
  · show PyData.tuple (ditems a.2 ++ [b.2]) = _
    rw [a1, b1, e2]
    rfl
  · rw [e1]
    exact le_app a2 b2
theorem joinB_eq (made part : List RV) : joinB made part = joinOne (made.map fun a => (a.1 ++ [1], a.2)) part := by
  unfold joinB joinOne
  rw [List.flatMap_map]
  rfl
theorem one_snd (h : SndT made M) : SndT (made.map fun a => (a.1 ++ [1], a.2)) (M1 M) := fun p hp => by
  obtain ⟨a, ha, rfl⟩ := List.mem_map.mp hp
  obtain ⟨xs, e, hm⟩ := h a ha
  exact ⟨xs, e, a.1, hm, rfl⟩
theorem one_cov (h : CovT made M) : CovT (made.map fun a => (a.1 ++ [1], a.2)) (M1 M) := fun r xs ⟨r0, m1, e⟩ => by
  obtain ⟨a, ha, a1, a2⟩ := h r0 xs m1
  exact ⟨_, List.mem_map_of_mem ha, a1, by rw [e]; exact le_app a2 (le_refl _)⟩
theorem joinN_snd (h : SndT made M) (h2 : Snd part R) : ∀ n, SndT (joinN made part n) (Sn M R n)
  | 0 => h
  | n + 1 => joinOne_snd (joinN_snd h h2 n) h2
theorem joinN_cov (h : CovT made M) (h2 : Cov part R) : ∀ n, CovT (joinN made part n) (Sn M R n)
  | 0 => h
  | n + 1 => joinOne_cov (joinN_cov h h2 n) h2
end
theorem listedFrom_snd {R : RR} {part : List RV} (h2 : Snd part R) : ∀ (n : Nat) {M : RT} {made : List RV}, SndT made M → SndT (listedFrom part n made) (LF R n M)
  | 0, M, made, h => h
  | n + 1, M, made, h => fun p hp => by
    rcases List.mem_append.mp hp with hp | hp
    · obtain ⟨a, ha, rfl⟩ := List.mem_map.mp hp
      obtain ⟨xs, e, hm⟩ := h a ha
      exact ⟨xs, e, .inl ⟨a.1, hm, rfl⟩⟩
    · obtain ⟨xs, e, hm⟩ := listedFrom_snd h2 n (made := joinB made part) (M := Sx (M1 M) R) (by rw [joinB_eq]; exact joinOne_snd (one_snd h) h2) p hp
      exact ⟨xs, e, .inr hm⟩
theorem listedFrom_cov {R : RR} {part : List RV} (h2 : Cov part R) : ∀ (n : Nat) {M : RT} {made : List RV}, CovT made M → CovT (listedFrom part n made) (LF R n M)
  | 0, M, made, h => h
  | n + 1, M, made, h => fun r xs hr => by
    rcases hr with ⟨r0, m1, e⟩ | hr
    · obtain ⟨a, ha, a1, a2⟩ := h r0 xs m1
      exact ⟨_, List.mem_append_left _ (List.mem_map_of_mem ha), a1, by rw [e]; exact le_app a2 (le_refl _)⟩
    · obtain ⟨p, hp, p1, p2⟩ := listedFrom_cov h2 n (made := joinB made part) (M := Sx (M1 M) R) (by rw [joinB_eq]; exact joinOne_cov (one_cov h) h2) r xs hr
      exact ⟨p, List.mem_append_right _ hp, p1, p2⟩
theorem flat_app (ps qs : List RV) : flat (ps ++ qs) = flat ps ++ flat qs := List.flatMap_append ..
theorem vals_app (ps qs : List RV) : vals (ps ++ qs) = vals ps ++ vals qs := List.map_append ..
theorem sn_iff {M : RT} {R : RR} : ∀ {n : Nat} {r : List Int} {xs : List PyData}, Sn M R n r xs ↔ ∃ r0 ys, ∃ ps : List RV, M r0 ys ∧ ps.length = n ∧ (∀ p ∈ ps, R p.1 p.2) ∧ r = r0 ++ flat ps ∧ xs = ys ++ vals ps
  | 0, r, xs => by
    constructor
    · intro h
      exact ⟨r, xs, [], h, rfl, none_in, (List.append_nil _).symm, (List.append_nil _).symm⟩
    · rintro ⟨r0, ys, ps, h1, h2, h3, rfl, rfl⟩
      rw [List.length_eq_zero_iff.mp h2]
      show M (r0 ++ []) (ys ++ [])
      rw [List.append_nil, List.append_nil]
      exact h1
  | n + 1, r, xs => by
    constructor
    · rintro ⟨r1, ys, r2, y, h1, h2, rfl, rfl⟩
      obtain ⟨r0, zs, ps, k1, k2, k3, rfl, rfl⟩ := sn_iff.mp h1
      refine ⟨r0, zs, ps ++ [(r2, y)], k1, by rw [List.length_append, k2]; rfl, fun p hp => ?_, ?_, ?_⟩
      · rcases List.mem_append.mp hp with hp | hp
        · exact k3 p hp
        · rw [List.mem_singleton.mp hp]; exact h2
      · rw [flat_app, List.append_assoc]
        show _ = r0 ++ (flat ps ++ (r2 ++ []))
        rw [List.append_nil]
      · rw [vals_app, List.append_assoc]
        rfl
    · rintro ⟨r0, ys, ps, h1, h2, h3, rfl, rfl⟩
      rcases List.eq_nil_or_concat ps with rfl | ⟨init, p, rfl⟩
      · cases h2
      · rw [List.concat_eq_append] at h2 h3 ⊢
        rw [List.length_append] at h2
        refine ⟨r0 ++ flat init, ys ++ vals init, p.1, p.2, sn_iff.mpr ⟨r0, ys, init, h1, by simpa using h2, fun q hq => h3 q (List.mem_append_left _ hq), rfl, rfl⟩, h3 p (List.mem_append_right _ (List.mem_singleton.mpr rfl)), ?_, ?_⟩
        · rw [flat_app, List.append_assoc]
          show r0 ++ (flat init ++ (p.1 ++ [])) = _
          rw [List.append_nil]
        · rw [vals_app, List.append_assoc]
          rfl
theorem endC_succ (k n : Nat) : endC (k + 1) (n + 1) = endC k n := by
  unfold endC
  simp only [Nat.add_lt_add_iff_right]
theorem lf_iff {R : RR} : ∀ {n : Nat} {M : RT} {r : List Int} {xs : List PyData}, LF R n M r xs ↔ ∃ r0 ys, ∃ qs : List RV, M r0 ys ∧ qs.length ≤ n ∧ (∀ p ∈ qs, R p.1 p.2) ∧ r = r0 ++ (flat1 qs ++ endC qs.length n) ∧ xs = ys ++ vals qs
  | 0, M, r, xs => by
    constructor
    · intro h
      exact ⟨r, xs, [], h, Nat.le_refl _, none_in, (List.append_nil _).symm, (List.append_nil _).symm⟩
    · rintro ⟨r0, ys, qs, h1, h2, h3, rfl, rfl⟩
      rw [List.length_eq_zero_iff.mp (Nat.le_zero.mp h2)]
      show M (r0 ++ []) (ys ++ [])
      rw [List.append_nil, List.append_nil]
      exact h1
  | n + 1, M, r, xs => by
    constructor
    · rintro (⟨r0, h1, rfl⟩ | h)
      · exact ⟨r0, xs, [], h1, Nat.zero_le _, none_in, rfl, (List.append_nil _).symm⟩
      · obtain ⟨r0, ys, qs, ⟨_, zs, r2, y, ⟨r1, k0, rfl⟩, k1, rfl, rfl⟩, h2, h3, rfl, rfl⟩ := lf_iff.mp h
        refine ⟨r1, zs, (r2, y) :: qs, k0, by rw [List.length_cons]; omega, fun p hp => ?_, ?_, ?_⟩
        · rcases List.mem_cons.mp hp with rfl | hp
          · exact k1
          · exact h3 p hp
        · rw [List.length_cons, endC_succ]
          show _ = r1 ++ ((1 :: r2 ++ flat1 qs) ++ _)
          simp only [List.append_assoc, List.cons_append, List.nil_append]
        · show _ = zs ++ (y :: vals qs)
          rw [List.append_assoc]
          rfl
    · rintro ⟨r0, ys, qs, h1, h2, h3, rfl, rfl⟩
      cases qs with
      | nil =>
        refine .inl ⟨r0, ?_, rfl⟩
        show M r0 (ys ++ [])
        rw [List.append_nil]
        exact h1
      | cons q qs =>
        refine .inr (lf_iff.mpr ⟨(r0 ++ [1]) ++ q.1, ys ++ [q.2], qs, ⟨_, ys, q.1, q.2, ⟨r0, h1, rfl⟩, h3 q List.mem_cons_self, rfl, rfl⟩, by rw [List.length_cons] at h2; omega, fun p hp => h3 p (List.mem_cons_of_mem _ hp), ?_, ?_⟩)
        · rw [List.length_cons, endC_succ]
          show r0 ++ ((1 :: q.1 ++ flat1 qs) ++ _) = _
          simp only [List.append_assoc, List.cons_append, List.nil_append]
        · show ys ++ (q.2 :: vals qs) = _
          rw [List.append_assoc]
          rfl
theorem lst_iff {g : Gn} {l m : Nat} {r : List Int} {xs : List PyData} : LF (ExR g) (m - l) (Sn M0 (ExR g) l) r xs ↔ ExR (.lst g l m) r (.tuple xs) := by
  constructor
  · intro h
    obtain ⟨r0, ys, qs, h1, h2, h3, rfl, rfl⟩ := lf_iff.mp h
    obtain ⟨r1, zs, ps, ⟨rfl, rfl⟩, k2, k3, rfl, rfl⟩ := sn_iff.mp h1
    exact ⟨ps, qs, k2, h2, k3, h3, rfl, rfl⟩
  · rintro ⟨ps, qs, h1, h2, h3, h4, rfl, e⟩
    injection e with e
    exact lf_iff.mpr ⟨flat ps, vals ps, qs, sn_iff.mpr ⟨[], [], ps, ⟨rfl, rfl⟩, h1, h3, rfl, rfl⟩, h2, h4, rfl, e⟩
/-! joinM without its first look -/
theorem joinAll_nil : ∀ ts : List (List RV), ts.foldl joinOne [] = []
  | [] => rfl
  | t :: ts => joinAll_nil ts
theorem joinOne_nil : ∀ made : List RV, joinOne made [] = []
  | [] => rfl
  | a :: r => by
    have := joinOne_nil r
    unfold joinOne at this ⊢
    rw [List.flatMap_cons, this]
    rfl
theorem joinAll_any : ∀ (ts : List (List RV)) (es : List RV), (ts.any fun t => t.isEmpty) = true → ts.foldl joinOne es = []
  | [], _, h => by cases h
  | t :: ts, es, h => by
    rw [List.foldl_cons]
    rw [List.any_cons, Bool.or_eq_true] at h
    rcases h with h | h
    · rw [List.isEmpty_iff.mp h, joinOne_nil, joinAll_nil]
    · exact joinAll_any ts _ h
theorem joinM_eq (ps : List (List RV)) : joinM ps = ps.foldl joinOne rv0 := by
  unfold joinM
  split
  · rename_i h
    exact (joinAll_any _ _ h).symm
  · rfl
theorem joinRep (es u : List RV) : ∀ n, (List.replicate n u).foldl joinOne es = joinN es u n
  | 0 => rfl
  | n + 1 => by
    rw [List.replicate_succ', List.foldl_append, joinRep es u n]
    rfl
/-! the generators -/
section
variable {a b g : Gn} {A B : List RV}
theorem snd_pair (ha : Snd A (ExR a)) (hb : Snd B (ExR b)) : Snd (rowsOf (.pair a b) [A, B]) (ExR (.pair a b)) := by
  show Snd (joinM [A, B]) _
  rw [joinM_eq]
  refine snd_of (M := Sx (Sx M0 (ExR a)) (ExR b)) (joinOne_snd (joinOne_snd rv0_snd ha) hb) ?_
  rintro r xs ⟨r1, ys, r2, y, ⟨r3, zs, r4, x, ⟨rfl, rfl⟩, h1, rfl, rfl⟩, h2, rfl, rfl⟩
  exact ⟨_, x, r2, y, h1, h2, rfl, rfl⟩
theorem cov_pair (ha : Cov A (ExR a)) (hb : Cov B (ExR b)) : Cov (rowsOf (.pair a b) [A, B]) (ExR (.pair a b)) := by
  show Cov (joinM [A, B]) _
  rw [joinM_eq]
  refine cov_of (M := Sx (Sx M0 (ExR a)) (ExR b)) (joinOne_cov (joinOne_cov rv0_cov ha) hb) ?_
  rintro r v ⟨r1, x, r2, y, h1, h2, rfl, rfl⟩
  exact ⟨[x, y], rfl, r1, [x], r2, y, ⟨[], [], r1, x, ⟨rfl, rfl⟩, h1, rfl, rfl⟩, h2, rfl, rfl⟩
theorem snd_lst {l m : Nat} (ha : Snd A (ExR g)) : Snd (rowsOf (.lst g l m) [A]) (ExR (.lst g l m)) :=
  snd_of (listedFrom_snd ha (m - l) (joinN_snd rv0_snd ha l)) fun r xs h => lst_iff.mp h
theorem cov_lst {l m : Nat} (ha : Cov A (ExR g)) : Cov (rowsOf (.lst g l m) [A]) (ExR (.lst g l m)) :=
  cov_of (listedFrom_cov ha (m - l) (joinN_cov rv0_cov ha l)) fun r v h => by
    have ⟨ps, qs, _, _, _, _, _, e⟩ := h
    exact ⟨_, e, lst_iff.mpr (e ▸ h)⟩
theorem mem_one {p : RV} : p ∈ rowsOf (.one a b) [A, B] ↔ (∃ q ∈ A, p = (0 :: q.1, q.2)) ∨ ∃ q ∈ B, p = (1 :: q.1, q.2) := by
  show p ∈ (A.map fun q => (((0 : Nat) : Int) :: q.1, q.2)) ++ ((B.map fun q => (((1 : Nat) : Int) :: q.1, q.2)) ++ []) ↔ _
  rw [List.append_nil, List.mem_append, List.mem_map, List.mem_map]
  constructor
  · rintro (⟨q, h, rfl⟩ | ⟨q, h, rfl⟩)
    · exact .inl ⟨q, h, rfl⟩
    · exact .inr ⟨q, h, rfl⟩
  · rintro (⟨q, h, rfl⟩ | ⟨q, h, rfl⟩)
    · exact .inl ⟨q, h, rfl⟩
    · exact .inr ⟨q, h, rfl⟩
theorem snd_one (ha : Snd A (ExR a)) (hb : Snd B (ExR b)) : Snd (rowsOf (.one a b) [A, B]) (ExR (.one a b)) := fun p hp => by
  rcases mem_one.mp hp with ⟨q, h, rfl⟩ | ⟨q, h, rfl⟩
  · exact ⟨q.1, .inl ⟨rfl, ha q h⟩⟩
  · exact ⟨q.1, .inr ⟨rfl, hb q h⟩⟩
theorem cov_one (ha : Cov A (ExR a)) (hb : Cov B (ExR b)) : Cov (rowsOf (.one a b) [A, B]) (ExR (.one a b)) := by
  rintro r v ⟨r1, ⟨rfl, h⟩ | ⟨rfl, h⟩⟩
  · obtain ⟨p, hp, p1, p2⟩ := ha r1 v h
    exact ⟨_, mem_one.mpr (.inl ⟨p, hp, rfl⟩), p1, le_cons 0 p2⟩
  · obtain ⟨p, hp, p1, p2⟩ := hb r1 v h
    exact ⟨_, mem_one.mpr (.inr ⟨p, hp, rfl⟩), p1, le_cons 1 p2⟩
theorem snd_kept {c : Cn} (ha : Snd A (ExR g)) : Snd (rowsOf (.kept g c) [A]) (ExR (.kept g c)) := fun p hp => by
  obtain ⟨h1, h2⟩ := List.mem_filter.mp hp
  exact ⟨ha p h1, h2⟩
theorem cov_kept {c : Cn} (ha : Cov A (ExR g)) : Cov (rowsOf (.kept g c) [A]) (ExR (.kept g c)) := by
  rintro r v ⟨h, hc⟩
  obtain ⟨p, hp, p1, p2⟩ := ha r v h
  exact ⟨p, List.mem_filter.mpr ⟨hp, by rw [p1]; exact hc⟩, p1, p2⟩
theorem snd_turned {m : Mp} (ha : Snd A (ExR g)) : Snd (rowsOf (.turned g m) [A]) (ExR (.turned g m)) := fun p hp => by
  obtain ⟨q, h1, rfl⟩ := List.mem_map.mp hp
  exact ⟨q.2, ha q h1, rfl⟩
theorem cov_turned {m : Mp} (ha : Cov A (ExR g)) : Cov (rowsOf (.turned g m) [A]) (ExR (.turned g m)) := by
  rintro r v ⟨x, h, rfl⟩
  obtain ⟨p, hp, p1, p2⟩ := ha r x h
  exact ⟨(p.1, m.val p.2), List.mem_map_of_mem (f := fun p : RV => (p.1, m.val p.2)) hp, by rw [p1], p2⟩
theorem snd_rep (ha : Snd A (ExR a)) (hb : Snd B (ExR b)) : Snd (rowsOf (.rep a b) [A, B]) (ExR (.rep a b)) := fun p hp => by
  obtain ⟨q, hq, hp⟩ := List.mem_flatMap.mp hp
  split at hp
  · rename_i hc
    obtain ⟨t, ht, rfl⟩ := List.mem_map.mp hp
    change t ∈ joinM (List.replicate _ B) at ht
    rw [joinM_eq, joinRep] at ht
    obtain ⟨xs, e, hm⟩ := joinN_snd rv0_snd hb (dint q.2).toNat t ht
    obtain ⟨r0, ys, ps, ⟨rfl, rfl⟩, h2, h3, h4, h5⟩ := sn_iff.mp hm
    refine ⟨q.1, q.2, ps, ha q hq, hc, h2, h3, ?_, ?_⟩
    · show q.1 ++ t.1 = _
      rw [h4]
      rfl
    · show t.2 = _
      rw [e, h5]
      rfl
  · cases hp
theorem cov_rep (ha : Cov A (ExR a)) (hb : Cov B (ExR b)) : Cov (rowsOf (.rep a b) [A, B]) (ExR (.rep a b)) := by
  rintro r v ⟨r1, x, ps, h1, hc, h2, h3, rfl, rfl⟩
  obtain ⟨q, hq, q1, q2⟩ := ha r1 x h1
  obtain ⟨t, ht, t1, t2⟩ := joinN_cov rv0_cov hb (dint x).toNat (flat ps) (vals ps) (sn_iff.mpr ⟨[], [], ps, ⟨rfl, rfl⟩, h2, h3, rfl, rfl⟩)
  refine ⟨(q.1 ++ t.1, t.2), List.mem_flatMap.mpr ⟨q, hq, ?_⟩, t1, le_app q2 t2⟩
  rw [q1, if_pos hc]
  refine List.mem_map.mpr ⟨t, ?_, rfl⟩
  show t ∈ joinM (List.replicate _ B)
  rw [joinM_eq, joinRep]
  exact ht
end
end CR

set_option Elab.async false
set_option linter.all false
set_option maxRecDepth 100000
set_option maxHeartbeats 1000000
/-! # The plain law: the tables are sound, complete and in order -/
namespace CR
open PySem
theorem mul_rv (es fs : List Ent) : (mulM es fs).map rvE = joinOne (es.map rvE) (fs.map rvE) := by
  unfold mulM joinOne
  rw [List.map_flatMap, List.flatMap_map]
  congr 1
  funext a
  rw [List.map_map, List.map_map]
  rfl
theorem mulN_rv (es s : List Ent) : ∀ n, (mulN es s n).map rvE = joinN (es.map rvE) (s.map rvE) n
  | 0 => rfl
  | n + 1 => by
    show (mulM (mulN es s n) s).map rvE = joinOne (joinN _ _ n) _
    rw [mul_rv, mulN_rv es s n]
theorem behind_rv (es : List Ent) (c : List Int) : (behindM es c).map rvE = (es.map rvE).map fun a => (a.1 ++ c, a.2) := by
  unfold behindM
  rw [List.map_map, List.map_map]
  rfl
theorem listFrom_rv (part : List Ent) : ∀ (n : Nat) (made : List Ent), (listFrom part n made).map rvE = listedFrom (part.map rvE) n (made.map rvE)
  | 0, _ => rfl
  | n + 1, made => by
    show (behindM made [0] ++ listFrom part n (mulM (behindM made [1]) part)).map rvE = ((made.map rvE).map fun a => (a.1 ++ [0], a.2)) ++ listedFrom (part.map rvE) n (joinB (made.map rvE) (part.map rvE))
    rw [List.map_append, behind_rv, listFrom_rv part n, mul_rv, behind_rv, joinB_eq]
theorem foldl_rv : ∀ (ts : List (List Ent)) (es : List Ent), (ts.foldl mulM es).map rvE = (ts.map fun t => t.map rvE).foldl joinOne (es.map rvE)
  | [], _ => rfl
  | t :: ts, es => by
    rw [List.foldl_cons, foldl_rv ts, mul_rv]
    rfl
theorem joinPre (r : List Int) (u : List RV) : ∀ n, joinN [(r, .tuple [])] u n = (joinN rv0 u n).map fun q => (r ++ q.1, q.2)
  | 0 => by
    show [(r, PyData.tuple [])] = [(r ++ [], PyData.tuple [])]
    rw [List.append_nil]
  | n + 1 => by
    show joinOne (joinN [(r, .tuple [])] u n) u = (joinOne (joinN rv0 u n) u).map _
    rw [joinPre r u n]
    unfold joinOne
    rw [List.flatMap_map, List.map_flatMap]
    congr 1
    funext a
    rw [List.map_map]
    congr 1
    funext b
    show ((r ++ a.1) ++ b.1, _) = (r ++ (a.1 ++ b.1), _)
    rw [List.append_assoc]
    rfl
section
variable {a b g : Gn} {A B : List Ent}
theorem rv_pair : (triM (.pair a b) [A, B]).map rvE = rowsOf (.pair a b) [A.map rvE, B.map rvE] := by
  show (if ([A, B].any fun t => t.isEmpty) = true then [] else [A, B].foldl mulM ent0).map rvE = joinM [A.map rvE, B.map rvE]
  unfold joinM
  have e : ([A.map rvE, B.map rvE].any fun t => t.isEmpty) = ([A, B].any fun t => t.isEmpty) := by
    simp only [List.any_cons, List.any_nil, List.isEmpty_map]
  rw [e]
  split
  · rfl
  · rw [foldl_rv]
    rfl
theorem rv_lst {l m : Nat} : (triM (.lst g l m) [A]).map rvE = rowsOf (.lst g l m) [A.map rvE] := by
  show (listFrom A (m - l) (mulN ent0 A l)).map rvE = listedFrom (A.map rvE) (m - l) (joinN rv0 (A.map rvE) l)
  rw [listFrom_rv, mulN_rv]
  rfl
theorem rv_one : (triM (.one a b) [A, B]).map rvE = rowsOf (.one a b) [A.map rvE, B.map rvE] := by
  show ((A.map fun (e : Ent) => Ent.mk e.v e.n (((0 : Nat) : Int) :: e.r)) ++ ((B.map fun (e : Ent) => Ent.mk e.v e.n (((1 : Nat) : Int) :: e.r)) ++ [])).map rvE = ((A.map rvE).map fun q => (((0 : Nat) : Int) :: q.1, q.2)) ++ (((B.map rvE).map fun q => (((1 : Nat) : Int) :: q.1, q.2)) ++ [])
  rw [List.map_append, List.map_append, List.map_map, List.map_map, List.map_map, List.map_map]
  rfl
theorem rv_kept {c : Cn} : (triM (.kept g c) [A]).map rvE = rowsOf (.kept g c) [A.map rvE] := by
  show (A.filter fun e => c.val e.v).map rvE = (A.map rvE).filter fun p => c.val p.2
  rw [List.filter_map]
  rfl
theorem rv_turned {m : Mp} : (triM (.turned g m) [A]).map rvE = rowsOf (.turned g m) [A.map rvE] := by
  show (A.map fun (e : Ent) => Ent.mk (m.val e.v) e.n e.r).map rvE = (A.map rvE).map fun p => (p.1, m.val p.2)
  rw [List.map_map, List.map_map]
  rfl
theorem rv_rep : (triM (.rep a b) [A, B]).map rvE = rowsOf (.rep a b) [A.map rvE, B.map rvE] := by
  show ((A.filter repOk).flatMap fun e => mulN [⟨.tuple [], e.n, e.r⟩] B (dint e.v).toNat).map rvE = (A.map rvE).flatMap fun p => if 0 ≤ dint p.2 ∧ dint p.2 ≤ 6 then (joinM (List.replicate (dint p.2).toNat (B.map rvE))).map fun q => (p.1 ++ q.1, q.2) else []
  induction A with
  | nil => rfl
  | cons e A ih =>
    rw [List.map_cons, List.flatMap_cons, ← ih, List.filter_cons]
    by_cases h : 0 ≤ dint e.v ∧ dint e.v ≤ 6
    · have hr : repOk e = true := by
        unfold repOk
        rw [decide_eq_true h.1, decide_eq_true h.2]
        rfl
      have h2 : 0 ≤ dint (rvE e).2 ∧ dint (rvE e).2 ≤ 6 := h
      rw [if_pos hr, if_pos h2, List.flatMap_cons, List.map_append, mulN_rv, joinM_eq, joinRep]
      congr 1
      exact joinPre e.r _ _
    · have hr : ¬ repOk e = true := by
        unfold repOk
        rw [Bool.and_eq_true, decide_eq_true_eq, decide_eq_true_eq]
        exact h
      have h2 : ¬ (0 ≤ dint (rvE e).2 ∧ dint (rvE e).2 ≤ 6) := h
      rw [if_neg hr, if_neg h2]
      rfl
end
/-! values are nested tuples of whole numbers -/
theorem nestAll_iff : ∀ {xs : List PyData}, nestAll xs = true ↔ ∀ x ∈ xs, nest x = true
  | [] => ⟨fun _ => none_in, fun _ => rfl⟩
  | x :: xs => by
    rw [nestAll, Bool.and_eq_true, nestAll_iff]
    constructor
    · rintro ⟨h1, h2⟩ y hy
      rcases List.mem_cons.mp hy with rfl | hy
      · exact h1
      · exact h2 y hy
    · intro h
      exact ⟨h x List.mem_cons_self, fun y hy => h y (List.mem_cons_of_mem _ hy)⟩
theorem nest_tup {xs : List PyData} (h : ∀ x ∈ xs, nest x = true) : nest (.tuple xs) = true := by
  rw [nest]
  exact nestAll_iff.mpr h
theorem nest_encR (r : List Int) : nest (encR r) = true := nest_tup fun x hx => by
  obtain ⟨i, _, rfl⟩ := List.mem_map.mp hx
  rfl
theorem nest_items {v : PyData} (h : nest v = true) : ∀ x ∈ ditems v, nest x = true := by
  cases v with
  | tuple xs => rw [nest] at h; exact nestAll_iff.mp h
  | list xs => rw [nest] at h; cases h; all_goals (intros; contradiction)
  | _ => intro x hx; cases hx
theorem nest_mp (m : Mp) {v : PyData} (h : nest v = true) : nest (m.val v) = true := by
  cases m with
  | plus n => rfl
  | times n => rfl
  | length => rfl
  | sum => rfl
  | sorted => exact nest_encR _
  | reversed => exact nest_tup fun x hx => nest_items h x (List.mem_reverse.mp hx)
theorem mem_vals {ps : List RV} {x : PyData} (h : x ∈ vals ps) : ∃ p ∈ ps, p.2 = x := List.mem_map.mp h
theorem ex_nest : ∀ (g : Gn) {r : List Int} {v : PyData}, ExR g r v → nest v = true
  | .int lo hi, r, v, ⟨c, _, _, _, e⟩ => by rw [e]; rfl
  | .pair a b, r, v, ⟨r1, x, r2, y, h1, h2, _, e⟩ => by
    rw [e]
    refine nest_tup fun z hz => ?_
    rcases List.mem_cons.mp hz with rfl | hz
    · exact ex_nest a h1
    · rw [List.mem_singleton.mp hz]
      exact ex_nest b h2
  | .lst g l m, r, v, ⟨ps, qs, _, _, h1, h2, _, e⟩ => by
    rw [e]
    refine nest_tup fun z hz => ?_
    rcases List.mem_append.mp hz with hz | hz
    · obtain ⟨p, hp, rfl⟩ := mem_vals hz
      exact ex_nest g (h1 p hp)
    · obtain ⟨p, hp, rfl⟩ := mem_vals hz
      exact ex_nest g (h2 p hp)
  | .one a b, r, v, ⟨r1, h⟩ => by
    rcases h with ⟨_, h⟩ | ⟨_, h⟩
    · exact ex_nest a h
    · exact ex_nest b h
  | .kept g c, r, v, ⟨h, _⟩ => ex_nest g h
  | .turned g m, r, v, ⟨x, h, e⟩ => by
    rw [e]
    exact nest_mp m (ex_nest g h)
  | .rep a b, r, v, ⟨r1, x, ps, _, _, _, h, _, e⟩ => by
    rw [e]
    refine nest_tup fun z hz => ?_
    obtain ⟨p, hp, rfl⟩ := mem_vals hz
    exact ex_nest b (h p hp)
/-! the tables -/
theorem snd_nest {es : List Ent} {g : Gn} (h : Snd (es.map rvE) (ExR g)) : ∀ e ∈ es, nest e.v = true := fun e he => ex_nest g (h _ (List.mem_map_of_mem he))
theorem put_sc {es : List Ent} {g : Gn} (h1 : Snd (es.map rvE) (ExR g)) (h2 : Cov (es.map rvE) (ExR g)) : Snd ((putM es).map rvE) (ExR g) ∧ Cov ((putM es).map rvE) (ExR g) :=
  ⟨put_snd (fun _ _ => ex_nest g) h1, put_cov (snd_nest h1) h2⟩
/-- the triples before they are put together are sound and complete -/
theorem tri_sc : ∀ g : Gn, (∀ p ∈ g.parts, Snd ((tableM p).map rvE) (ExR p) ∧ Cov ((tableM p).map rvE) (ExR p)) → Snd ((triM g (g.parts.map tableM)).map rvE) (ExR g) ∧ Cov ((triM g (g.parts.map tableM)).map rvE) (ExR g)
  | .int lo hi, _ => by
    constructor
    · intro p hp
      obtain ⟨e, he, rfl⟩ := List.mem_map.mp hp
      obtain ⟨k, hk, rfl⟩ := List.mem_map.mp he
      have hk := List.mem_range.mp hk
      exact ⟨(k : Nat), rfl, by omega, by omega, rfl⟩
    · rintro r v ⟨c, rfl, h1, h2, rfl⟩
      obtain ⟨k, rfl⟩ : ∃ k : Nat, c = k := ⟨c.toNat, by omega⟩
      exact ⟨rvE ⟨.int (lo + (k : Nat)), 1, [(k : Nat)]⟩, List.mem_map_of_mem (List.mem_map.mpr ⟨k, List.mem_range.mpr (by omega), rfl⟩), rfl, le_refl _⟩
  | .pair a b, h => by
    obtain ⟨a1, a2⟩ := h a (by simp [Gn.parts])
    obtain ⟨b1, b2⟩ := h b (by simp [Gn.parts])
    show Snd ((triM (.pair a b) [tableM a, tableM b]).map rvE) _ ∧ Cov ((triM (.pair a b) [tableM a, tableM b]).map rvE) _
    rw [rv_pair]
    exact ⟨snd_pair a1 b1, cov_pair a2 b2⟩
  | .lst g l m, h => by
    obtain ⟨a1, a2⟩ := h g (by simp [Gn.parts])
    show Snd ((triM (.lst g l m) [tableM g]).map rvE) _ ∧ Cov ((triM (.lst g l m) [tableM g]).map rvE) _
    rw [rv_lst]
    exact ⟨snd_lst a1, cov_lst a2⟩
  | .one a b, h => by
    obtain ⟨a1, a2⟩ := h a (by simp [Gn.parts])
    obtain ⟨b1, b2⟩ := h b (by simp [Gn.parts])
    show Snd ((triM (.one a b) [tableM a, tableM b]).map rvE) _ ∧ Cov ((triM (.one a b) [tableM a, tableM b]).map rvE) _
    rw [rv_one]
    exact ⟨snd_one a1 b1, cov_one a2 b2⟩
  | .kept g c, h => by
    obtain ⟨a1, a2⟩ := h g (by simp [Gn.parts])
    show Snd ((triM (.kept g c) [tableM g]).map rvE) _ ∧ Cov ((triM (.kept g c) [tableM g]).map rvE) _
    rw [rv_kept]
    exact ⟨snd_kept a1, cov_kept a2⟩
  | .turned g m, h => by
    obtain ⟨a1, a2⟩ := h g (by simp [Gn.parts])
    show Snd ((triM (.turned g m) [tableM g]).map rvE) _ ∧ Cov ((triM (.turned g m) [tableM g]).map rvE) _
    rw [rv_turned]
    exact ⟨snd_turned a1, cov_turned a2⟩
  | .rep a b, h => by
    obtain ⟨a1, a2⟩ := h a (by simp [Gn.parts])
    obtain ⟨b1, b2⟩ := h b (by simp [Gn.parts])
    show Snd ((triM (.rep a b) [tableM a, tableM b]).map rvE) _ ∧ Cov ((triM (.rep a b) [tableM a, tableM b]).map rvE) _
    rw [rv_rep]
    exact ⟨snd_rep a1 b1, cov_rep a2 b2⟩
theorem tableM_eq0 (g : Gn) : tableM g = putM (triM g (g.parts.map tableM)) := by
  cases g <;> rfl
theorem put_tab {g : Gn} (h : ∀ p ∈ g.parts, Snd ((tableM p).map rvE) (ExR p) ∧ Cov ((tableM p).map rvE) (ExR p)) : Snd ((tableM g).map rvE) (ExR g) ∧ Cov ((tableM g).map rvE) (ExR g) := by
  obtain ⟨h1, h2⟩ := tri_sc g h
  rw [tableM_eq0]
  exact put_sc h1 h2
theorem two_parts {α : Type} {Q : α → Prop} {a b : α} (ha : Q a) (hb : Q b) : ∀ p ∈ [a, b], Q p := fun p hp => by
  rcases List.mem_cons.mp hp with rfl | hp
  · exact ha
  · rw [List.mem_singleton.mp hp]; exact hb
theorem one_part {α : Type} {Q : α → Prop} {a : α} (ha : Q a) : ∀ p ∈ [a], Q p := fun p hp => by
  rw [List.mem_singleton.mp hp]; exact ha
theorem table_sc : ∀ g : Gn, Snd ((tableM g).map rvE) (ExR g) ∧ Cov ((tableM g).map rvE) (ExR g)
  | .int lo hi => put_tab none_in
  | .pair a b => put_tab (two_parts (Q := fun p => Snd ((tableM p).map rvE) (ExR p) ∧ Cov ((tableM p).map rvE) (ExR p)) (table_sc a) (table_sc b))
  | .lst g l m => put_tab (one_part (Q := fun p => Snd ((tableM p).map rvE) (ExR p) ∧ Cov ((tableM p).map rvE) (ExR p)) (table_sc g))
  | .one a b => put_tab (two_parts (Q := fun p => Snd ((tableM p).map rvE) (ExR p) ∧ Cov ((tableM p).map rvE) (ExR p)) (table_sc a) (table_sc b))
  | .kept g c => put_tab (one_part (Q := fun p => Snd ((tableM p).map rvE) (ExR p) ∧ Cov ((tableM p).map rvE) (ExR p)) (table_sc g))
  | .turned g m => put_tab (one_part (Q := fun p => Snd ((tableM p).map rvE) (ExR p) ∧ Cov ((tableM p).map rvE) (ExR p)) (table_sc g))
  | .rep a b => put_tab (two_parts (Q := fun p => Snd ((tableM p).map rvE) (ExR p) ∧ Cov ((tableM p).map rvE) (ExR p)) (table_sc a) (table_sc b))
theorem table_snd {g : Gn} {e : Ent} (h : e ∈ tableM g) : ExR g e.r e.v := (table_sc g).1 _ (List.mem_map_of_mem h)
theorem tri_snd {g : Gn} {e : Ent} (h : e ∈ triM g (g.parts.map tableM)) : ExR g e.r e.v := (tri_sc g fun p _ => table_sc p).1 _ (List.mem_map_of_mem h)
theorem table_cov {g : Gn} {r : List Int} {v : PyData} (h : ExR g r v) : ∃ e ∈ tableM g, e.v = v ∧ Le e.r r := by
  obtain ⟨p, hp, h1, h2⟩ := (table_sc g).2 r v h
  obtain ⟨e, he, rfl⟩ := List.mem_map.mp hp
  exact ⟨e, he, h1, h2⟩
theorem table_sorted (g : Gn) : (tableM g).Pairwise fun a b => Le a.r b.r := by
  rw [tableM_eq0]
  exact put_sorted _
theorem find_least {p : Ent → Bool} : ∀ {es : List Ent} {e : Ent}, es.Pairwise (fun a b => Le a.r b.r) → e ∈ es → p e = true → ∃ f, es.find? p = some f ∧ Le f.r e.r
  | [], _, _, h, _ => by cases h
  | x :: es, e, hp, h, hpe => by
    rw [List.find?_cons]
    rw [List.pairwise_cons] at hp
    cases hx : p x with
    | true =>
      refine ⟨x, rfl, ?_⟩
      rcases List.mem_cons.mp h with rfl | h
      · exact le_refl _
      · exact hp.1 e h
    | false =>
      rcases List.mem_cons.mp h with rfl | h
      · rw [hpe] at hx; cases hx
      · exact find_least hp.2 h hpe
/-- the least failing row is not behind any failing row -/
theorem least_le {g : Gn} {c : Cn} {r : List Int} (h : failsM g c r = true) : ∃ l, leastM g c = some l ∧ Le l r := by
  obtain ⟨v, h1, h2⟩ := fails_ex h
  obtain ⟨e, he, e1, e2⟩ := table_cov h1
  obtain ⟨f, f1, f2⟩ := find_least (p := fun e => !c.val e.v) (table_sorted g) he (by rw [e1, h2]; rfl)
  exact ⟨f.r, by unfold leastM; rw [f1]; rfl, le_trans f2 e2⟩
end CR

set_option Elab.async false
set_option linter.all false
set_option maxRecDepth 100000
set_option maxHeartbeats 1000000
/-! # The plain law: values, lengths, counts -/
namespace CR
open PySem
theorem rows_snd : ∀ g : Gn, Snd (rowsM g) (ExR g)
  | .int lo hi => (table_sc (.int lo hi)).1
  | .pair a b => snd_pair (rows_snd a) (rows_snd b)
  | .lst g l m => snd_lst (rows_snd g)
  | .one a b => snd_one (rows_snd a) (rows_snd b)
  | .kept g c => snd_kept (rows_snd g)
  | .turned g m => snd_turned (rows_snd g)
  | .rep a b => snd_rep (rows_snd a) (rows_snd b)
theorem vals_len (ps : List RV) : (vals ps).length = ps.length := List.length_map ..
theorem ex_val : ∀ (g : Gn) {r : List Int} {v : PyData}, g.WF → ExR g r v → g.Val v
  | .int lo hi, r, v, _, ⟨c, _, h1, h2, e⟩ => ⟨lo + c, e, by omega, by omega⟩
  | .pair a b, r, v, w, ⟨r1, x, r2, y, h1, h2, _, e⟩ => ⟨x, y, e, ex_val a w.1 h1, ex_val b w.2 h2⟩
  | .lst g l m, r, v, w, ⟨ps, qs, e1, e2, h1, h2, _, e⟩ => by
    have w2 := w.2.1
    refine ⟨_, e, by rw [List.length_append, vals_len]; omega, by rw [List.length_append, vals_len, vals_len]; omega, fun z hz => ?_⟩
    rcases List.mem_append.mp hz with hz | hz
    · obtain ⟨p, hp, rfl⟩ := mem_vals hz
      exact ex_val g w.1 (h1 p hp)
    · obtain ⟨p, hp, rfl⟩ := mem_vals hz
      exact ex_val g w.1 (h2 p hp)
  | .one a b, r, v, w, ⟨r1, h⟩ => by
    rcases h with ⟨_, h⟩ | ⟨_, h⟩
    · exact .inl (ex_val a w.1 h)
    · exact .inr (ex_val b w.2 h)
  | .kept g c, r, v, w, ⟨h, hc⟩ => ⟨ex_val g w.1 h, hc⟩
  | .turned g m, r, v, w, ⟨x, h, e⟩ => ⟨x, ex_val g w.1 h, e⟩
  | .rep a b, r, v, w, ⟨r1, x, ps, h1, ⟨c1, c2⟩, hl, h, _, e⟩ => by
    have hx := ex_val a w.1 h1
    obtain ⟨i, rfl⟩ := w.2.2 x hx
    have c1 : 0 ≤ i := c1
    have c2 : i ≤ 6 := c2
    have hl : ps.length = i.toNat := hl
    refine ⟨i.toNat, _, e, ?_, by omega, by rw [vals_len, hl], fun z hz => ?_⟩
    · rw [Int.toNat_of_nonneg c1]
      exact hx
    · obtain ⟨p, hp, rfl⟩ := mem_vals hz
      exact ex_val b w.2.1 (h p hp)
/-- the longest row -/
def mx : Gn → Nat
  | .int _ _ => 1
  | .pair a b => mx a + mx b
  | .lst g l m => l * mx g + (m - l) * (mx g + 1) + 1
  | .one a b => mx a + mx b + 1
  | .kept g _ => mx g
  | .turned g _ => mx g
  | .rep a b => mx a + 6 * mx b
theorem flatR_le {n : Nat} : ∀ {ps : List RV}, (∀ p ∈ ps, p.1.length ≤ n) → (flat ps).length ≤ ps.length * n
  | [], _ => Nat.zero_le _
  | p :: ps, h => by
    have h1 := h p List.mem_cons_self
    have h2 := flatR_le (ps := ps) fun q hq => h q (List.mem_cons_of_mem _ hq)
    show (p.1 ++ flat ps).length ≤ _
    rw [List.length_append, List.length_cons, Nat.add_mul]
    omega
theorem flatR1_le {n : Nat} : ∀ {ps : List RV}, (∀ p ∈ ps, p.1.length ≤ n) → (flat1 ps).length ≤ ps.length * (n + 1)
  | [], _ => Nat.zero_le _
  | p :: ps, h => by
    have h1 := h p List.mem_cons_self
    have h2 := flatR1_le (ps := ps) fun q hq => h q (List.mem_cons_of_mem _ hq)
    show ((1 :: p.1) ++ flat1 ps).length ≤ _
    rw [List.length_append, List.length_cons, List.length_cons, Nat.add_mul]
    omega
theorem endC_le (k n : Nat) : (endC k n).length ≤ 1 := by
  unfold endC
  split <;> simp
theorem ex_len : ∀ (g : Gn) {r : List Int} {v : PyData}, ExR g r v → r.length ≤ mx g
  | .int lo hi, r, v, ⟨c, e, _⟩ => by rw [e]; exact Nat.le_refl _
  | .pair a b, r, v, ⟨r1, x, r2, y, h1, h2, e, _⟩ => by
    rw [e, List.length_append]
    exact Nat.add_le_add (ex_len a h1) (ex_len b h2)
  | .lst g l m, r, v, ⟨ps, qs, e1, e2, h1, h2, e, _⟩ => by
    have k1 := flatR_le (n := mx g) (ps := ps) fun p hp => ex_len g (h1 p hp)
    have k2 := flatR1_le (n := mx g) (ps := qs) fun p hp => ex_len g (h2 p hp)
    have k3 := endC_le qs.length (m - l)
    have k4 : qs.length * (mx g + 1) ≤ (m - l) * (mx g + 1) := Nat.mul_le_mul_right _ e2
    rw [e, List.length_append, List.length_append]
    show _ ≤ l * mx g + (m - l) * (mx g + 1) + 1
    rw [e1] at k1
    omega
  | .one a b, r, v, ⟨r1, h⟩ => by
    show _ ≤ mx a + mx b + 1
    rcases h with ⟨e, h⟩ | ⟨e, h⟩
    · have := ex_len a h
      rw [e, List.length_cons]
      omega
    · have := ex_len b h
      rw [e, List.length_cons]
      omega
  | .kept g c, r, v, ⟨h, _⟩ => ex_len g h
  | .turned g m, r, v, ⟨x, h, _⟩ => ex_len g h
  | .rep a b, r, v, ⟨r1, x, ps, h1, ⟨c1, c2⟩, hl, h, e, _⟩ => by
    have k0 := ex_len a h1
    have k1 := flatR_le (n := mx b) (ps := ps) fun p hp => ex_len b (h p hp)
    have k2 : ps.length * mx b ≤ 6 * mx b := Nat.mul_le_mul_right _ (by omega)
    rw [e, List.length_append]
    show _ ≤ mx a + 6 * mx b
    omega
/-- no choice is over 100 -/
def Small : Gn → Prop
  | .int lo hi => hi - lo ≤ 100
  | .pair a b => Small a ∧ Small b
  | .lst g _ _ => Small g
  | .one a b => Small a ∧ Small b
  | .kept g _ => Small g
  | .turned g _ => Small g
  | .rep a b => Small a ∧ Small b
def In100 (r : List Int) : Prop := ∀ x ∈ r, 0 ≤ x ∧ x ≤ 100
theorem in_app {a b : List Int} (h1 : In100 a) (h2 : In100 b) : In100 (a ++ b) := fun x hx => by
  rcases List.mem_append.mp hx with hx | hx
  · exact h1 x hx
  · exact h2 x hx
theorem in_cons {k : Int} {a : List Int} (hk : 0 ≤ k ∧ k ≤ 100) (h : In100 a) : In100 (k :: a) := fun x hx => by
  rcases List.mem_cons.mp hx with rfl | hx
  · exact hk
  · exact h x hx
theorem in_flat {ps : List RV} (h : ∀ p ∈ ps, In100 p.1) : In100 (flat ps) := fun x hx => by
  obtain ⟨p, hp, hx⟩ := List.mem_flatMap.mp hx
  exact h p hp x hx
theorem in_flat1 {ps : List RV} (h : ∀ p ∈ ps, In100 p.1) : In100 (flat1 ps) := fun x hx => by
  obtain ⟨p, hp, hx⟩ := List.mem_flatMap.mp hx
  exact in_cons (by omega) (h p hp) x hx
theorem in_end (k n : Nat) : In100 (endC k n) := by
  unfold endC
  split
  · exact in_cons (by omega) none_in
  · exact none_in
theorem ex_in : ∀ (g : Gn) {r : List Int} {v : PyData}, Small g → ExR g r v → In100 r
  | .int lo hi, r, v, s, ⟨c, e, h1, h2, _⟩ => by
    rw [e]
    have s : hi - lo ≤ 100 := s
    exact in_cons (by omega) none_in
  | .pair a b, r, v, s, ⟨r1, x, r2, y, h1, h2, e, _⟩ => by
    rw [e]
    exact in_app (ex_in a s.1 h1) (ex_in b s.2 h2)
  | .lst g l m, r, v, s, ⟨ps, qs, e1, e2, h1, h2, e, _⟩ => by
    rw [e]
    exact in_app (in_flat fun p hp => ex_in g s (h1 p hp)) (in_app (in_flat1 fun p hp => ex_in g s (h2 p hp)) (in_end _ _))
  | .one a b, r, v, s, ⟨r1, h⟩ => by
    rcases h with ⟨e, h⟩ | ⟨e, h⟩
    · rw [e]; exact in_cons (by omega) (ex_in a s.1 h)
    · rw [e]; exact in_cons (by omega) (ex_in b s.2 h)
  | .kept g c, r, v, s, ⟨h, _⟩ => ex_in g s h
  | .turned g m, r, v, s, ⟨x, h, _⟩ => ex_in g s h
  | .rep a b, r, v, s, ⟨r1, x, ps, h1, _, hl, h, e, _⟩ => by
    rw [e]
    exact in_app (ex_in a s.1 h1) (in_flat fun p hp => ex_in b s.2 (h p hp))
/-! lengths -/
theorem listed_len (part : List RV) {l m : Nat} (h : l ≤ m) : (listedM part l m).length = sumPow part.length l (m + 1 - l) := by
  unfold listedM
  have h0 : (joinN rv0 part l).length = part.length ^ l := by rw [joinN_len]; show 1 * _ = _; rw [Nat.one_mul]
  rw [listedFrom_eq, List.length_append, jfound_len h0, jmade_len, h0, show m + 1 - l = (m - l) + 1 by omega, sumPow_succ, ← Nat.pow_add]
theorem pair_len (a b : Gn) (A B : List RV) : (rowsOf (.pair a b) [A, B]).length = A.length * B.length := by
  show (joinM [A, B]).length = _
  rw [joinM_eq]
  show (joinOne (joinOne rv0 A) B).length = _
  rw [joinOne_len, joinOne_len]
  show 1 * _ * _ = _
  rw [Nat.one_mul]
theorem one_len (a b : Gn) (A B : List RV) : (rowsOf (.one a b) [A, B]).length = A.length + B.length := by
  show ((A.map fun (q : RV) => (((0 : Nat) : Int) :: q.1, q.2)) ++ ((B.map fun (q : RV) => (((1 : Nat) : Int) :: q.1, q.2)) ++ [])).length = _
  rw [List.append_nil, List.length_append, List.length_map, List.length_map]
theorem rv_len {es : List Ent} {rs : List RV} (h : es.map rvE = rs) : es.length = rs.length := by
  rw [← h, List.length_map]
/-! counts -/
theorem cnt_map {f : Ent → Ent} {k : Int} (h : ∀ e, (f e).n = k * e.n) : ∀ es : List Ent, cnt (es.map f) = k * cnt es
  | [] => by unfold cnt; simp
  | e :: es => by rw [List.map_cons, cnt_cons, cnt_cons, cnt_map h es, h, Int.mul_add]
theorem cnt_same (f : Ent → Ent) (es : List Ent) (h : ∀ e, (f e).n = e.n) : cnt (es.map f) = cnt es := by
  rw [cnt_map (f := f) (k := 1) (fun e => (h e).trans (Int.one_mul _).symm) es, Int.one_mul]
theorem cnt_mul (es fs : List Ent) : cnt (mulM es fs) = cnt es * cnt fs := by
  unfold mulM
  induction es with
  | nil => unfold cnt; simp
  | cons a es ih => rw [List.flatMap_cons, cnt_app, ih, cnt_cons, cnt_map (f := mulE a) (k := a.n) fun e => rfl, Int.add_mul]
theorem cnt_behind (es : List Ent) (c : List Int) : cnt (behindM es c) = cnt es := by
  unfold behindM
  rw [cnt_map (f := fun (e : Ent) => Ent.mk e.v e.n (e.r ++ c)) (k := 1) fun e => (Int.one_mul _).symm, Int.one_mul]
theorem cnt_mulN (es s : List Ent) {a b : Nat} (h1 : cnt es = a) (h2 : cnt s = b) : ∀ n, cnt (mulN es s n) = ((a * b ^ n : Nat) : Int)
  | 0 => by show cnt es = _; rw [h1, Nat.pow_zero, Nat.mul_one]
  | n + 1 => by
    show cnt (mulM (mulN es s n) s) = _
    rw [cnt_mul, cnt_mulN es s h1 h2 n, h2, Nat.pow_succ, ← Nat.mul_assoc]
    rfl
theorem sumPow_left (b l k : Nat) : sumPow b l (k + 1) = b ^ l + sumPow b (l + 1) k := by
  unfold sumPow
  rw [List.range_succ_eq_map, List.map_cons, List.sum_cons, List.map_map, Nat.add_zero]
  congr 3
  funext i
  show b ^ (l + (i + 1)) = b ^ (l + 1 + i)
  congr 1
  omega
theorem cnt_listFrom (part : List Ent) {n : Nat} (hp : cnt part = n) : ∀ (k l : Nat) (made : List Ent), cnt made = ((n ^ l : Nat) : Int) → cnt (listFrom part k made) = ((sumPow n l (k + 1) : Nat) : Int)
  | 0, l, made, h => by
    show cnt made = _
    rw [h]
    show _ = ((n ^ (l + 0) + 0 : Nat) : Int)
    rfl
  | k + 1, l, made, h => by
    show cnt (behindM made [0] ++ listFrom part k (mulM (behindM made [1]) part)) = _
    have h2 : cnt (mulM (behindM made [1]) part) = ((n ^ (l + 1) : Nat) : Int) := by
      rw [cnt_mul, cnt_behind, h, hp, Nat.pow_succ]
      rfl
    rw [cnt_app, cnt_behind, h, cnt_listFrom part hp k (l + 1) _ h2, sumPow_left n l (k + 1)]
    rfl
theorem cnt_list (part : List Ent) {n l m : Nat} (hp : cnt part = n) (h : l ≤ m) : cnt (listM part l m) = ((sumPow n l (m + 1 - l) : Nat) : Int) := by
  unfold listM
  rw [cnt_listFrom part hp (m - l) l _ (by rw [cnt_mulN ent0 part (a := 1) rfl hp, Nat.one_mul]), show m - l + 1 = m + 1 - l by omega]
theorem cnt_nn {es : List Ent} (h : ∀ e ∈ es, 0 ≤ e.n) : 0 ≤ cnt es ∧ ∀ e ∈ es, e.n ≤ cnt es := by
  induction es with
  | nil => exact ⟨Int.le_refl _, none_in⟩
  | cons a es ih =>
    obtain ⟨i1, i2⟩ := ih fun e he => h e (List.mem_cons_of_mem _ he)
    have h0 := h a List.mem_cons_self
    rw [cnt_cons]
    refine ⟨by omega, fun e he => ?_⟩
    rcases List.mem_cons.mp he with rfl | he
    · omega
    · have := i2 e he
      omega
theorem cnt_filter (p : Ent → Bool) {es : List Ent} (h : ∀ e ∈ es, 0 ≤ e.n) : cnt (es.filter p) ≤ cnt es := by
  induction es with
  | nil => exact Int.le_refl _
  | cons a es ih =>
    have ih := ih fun e he => h e (List.mem_cons_of_mem _ he)
    have h0 := h a List.mem_cons_self
    rw [List.filter_cons]
    split
    · rw [cnt_cons, cnt_cons]; omega
    · rw [cnt_cons]; omega
theorem countM_tri (g : Gn) : countM g = cnt (triM g (g.parts.map tableM)) := by
  show cnt (tableM g) = _
  rw [tableM_eq0, cnt_putM]
theorem mulM_nn {es fs : List Ent} (h1 : ∀ e ∈ es, 0 ≤ e.n) (h2 : ∀ e ∈ fs, 0 ≤ e.n) : ∀ e ∈ mulM es fs, 0 ≤ e.n := fun e he => by
  obtain ⟨a, ha, he⟩ := List.mem_flatMap.mp he
  obtain ⟨b, hb, rfl⟩ := List.mem_map.mp he
  exact Int.mul_nonneg (h1 a ha) (h2 b hb)
theorem mulN_nn {es s : List Ent} (h1 : ∀ e ∈ es, 0 ≤ e.n) (h2 : ∀ e ∈ s, 0 ≤ e.n) : ∀ n, ∀ e ∈ mulN es s n, 0 ≤ e.n
  | 0 => h1
  | n + 1 => mulM_nn (mulN_nn h1 h2 n) h2
theorem behind_nn {es : List Ent} {c : List Int} (h1 : ∀ e ∈ es, 0 ≤ e.n) : ∀ e ∈ behindM es c, 0 ≤ e.n := fun e he => by
  obtain ⟨a, ha, rfl⟩ := List.mem_map.mp he
  exact h1 a ha
theorem listFrom_nn {part : List Ent} (h2 : ∀ e ∈ part, 0 ≤ e.n) : ∀ (n : Nat) {made : List Ent}, (∀ e ∈ made, 0 ≤ e.n) → ∀ e ∈ listFrom part n made, 0 ≤ e.n
  | 0, _, h => h
  | n + 1, made, h => fun e he => by
    rcases List.mem_append.mp he with he | he
    · exact behind_nn h e he
    · exact listFrom_nn h2 n (mulM_nn (behind_nn h) h2) e he
theorem ent0_nn : ∀ e ∈ ent0, 0 ≤ e.n := fun e he => by
  rw [List.mem_singleton.mp he]
  show (0 : Int) ≤ 1
  omega
theorem tri_nn : ∀ g : Gn, (∀ p ∈ g.parts, ∀ e ∈ tableM p, 0 ≤ e.n) → ∀ e ∈ triM g (g.parts.map tableM), 0 ≤ e.n
  | .int lo hi, _ => fun e he => by
    obtain ⟨k, hk, rfl⟩ := List.mem_map.mp he
    show (0 : Int) ≤ 1
    omega
  | .pair a b, h => fun e he => by
    have ha := h a (by simp [Gn.parts])
    have hb := h b (by simp [Gn.parts])
    change e ∈ (if ([tableM a, tableM b].any fun t => t.isEmpty) = true then [] else [tableM a, tableM b].foldl mulM ent0) at he
    split at he
    · cases he
    · exact mulM_nn (mulM_nn ent0_nn ha) hb e he
  | .lst g l m, h => listFrom_nn (h g (by simp [Gn.parts])) (m - l) (mulN_nn ent0_nn (h g (by simp [Gn.parts])) l)
  | .one a b, h => fun e he => by
    have ha := h a (by simp [Gn.parts])
    have hb := h b (by simp [Gn.parts])
    change e ∈ ((tableM a).map fun (e : Ent) => Ent.mk e.v e.n (((0 : Nat) : Int) :: e.r)) ++ (((tableM b).map fun (e : Ent) => Ent.mk e.v e.n (((1 : Nat) : Int) :: e.r)) ++ []) at he
    rw [List.append_nil] at he
    rcases List.mem_append.mp he with he | he
    · obtain ⟨x, hx, rfl⟩ := List.mem_map.mp he
      exact ha x hx
    · obtain ⟨x, hx, rfl⟩ := List.mem_map.mp he
      exact hb x hx
  | .kept g c, h => fun e he => h g (by simp [Gn.parts]) e (List.mem_filter.mp he).1
  | .turned g m, h => fun e he => by
    obtain ⟨x, hx, rfl⟩ := List.mem_map.mp he
    exact h g (by simp [Gn.parts]) x hx
  | .rep a b, h => fun e he => by
    obtain ⟨x, hx, he⟩ := List.mem_flatMap.mp he
    have hx := h a (by simp [Gn.parts]) x (List.mem_filter.mp hx).1
    refine mulN_nn (fun y hy => ?_) (h b (by simp [Gn.parts])) _ e he
    rw [List.mem_singleton.mp hy]
    exact hx
theorem table_nn : ∀ g : Gn, ∀ e ∈ tableM g, 0 ≤ e.n := by
  have key : ∀ g : Gn, (∀ p ∈ g.parts, ∀ e ∈ tableM p, 0 ≤ e.n) → ∀ e ∈ tableM g, 0 ≤ e.n := fun g h => by
    rw [tableM_eq0]
    exact putM_n (tri_nn g h)
  intro g
  induction g with
  | int lo hi => exact key _ none_in
  | pair a b ha hb => exact key _ (two_parts (Q := fun p => ∀ e ∈ tableM p, 0 ≤ e.n) ha hb)
  | lst g l m ih => exact key _ (one_part (Q := fun p => ∀ e ∈ tableM p, 0 ≤ e.n) ih)
  | one a b ha hb => exact key _ (two_parts (Q := fun p => ∀ e ∈ tableM p, 0 ≤ e.n) ha hb)
  | kept g c ih => exact key _ (one_part (Q := fun p => ∀ e ∈ tableM p, 0 ≤ e.n) ih)
  | turned g m ih => exact key _ (one_part (Q := fun p => ∀ e ∈ tableM p, 0 ≤ e.n) ih)
  | rep a b ha hb => exact key _ (two_parts (Q := fun p => ∀ e ∈ tableM p, 0 ≤ e.n) ha hb)
end CR

set_option Elab.async false
set_option linter.all false
set_option maxRecDepth 100000
set_option maxHeartbeats 1000000
/-! # The plain law: what the tables and the rows of a generator ask -/
namespace CR
open PySem
inductive Kd where
  | I
  | L
  | P
def Kd.Has : Kd → PyData → Prop
  | .I, v => ∃ i, v = .int i
  | .L, v => ∃ is : List Int, v = encR is ∧ is.length ≤ 6
  | .P, v => ∃ (i : Int) (is : List Int), v = .tuple [.int i, encR is] ∧ is.length ≤ 6
def Kd.key : Kd → Bool
  | .I => false
  | _ => true
theorem kd_key {k : Kd} {v : PyData} (h : k.Has v) : KeyOk k.key v := by
  cases k with
  | I => exact h
  | L =>
    obtain ⟨is, rfl, _⟩ := h
    refine ⟨is.map .int, rfl, ?_, ?_⟩
    · have := nest_encR is
      unfold encR at this
      rw [nest] at this
      exact this
    · unfold encR
      simp only [PyData.depth, dep_ints]
      omega
  | P =>
    obtain ⟨i, is, rfl, _⟩ := h
    refine ⟨_, rfl, ?_, ?_⟩
    · rw [nestAll, nestAll, nestAll, nest_encR]
      rfl
    · unfold encR
      simp only [PyData.depth, PyData.depthAll, dep_ints]
      omega
/-- what is known of a generator: kind, values, rows, longest row, depth -/
structure Fine (k : Kd) (g : Gn) (L C R D : Nat) : Prop where
  wf : g.WF
  tp : TP g
  rp : RP g
  sm : Small g
  kd : ∀ v, g.Val v → k.Has v
  len : (tableM g).length ≤ L
  cn : countM g ≤ C
  rl : (rowsM g).length ≤ C
  mx : mx g ≤ R
  dp : g.dep ≤ D
theorem Fine.mono {k : Kd} {g : Gn} {L C R D L' C' R' D' : Nat} (F : Fine k g L C R D) (h1 : L ≤ L') (h2 : C ≤ C') (h3 : R ≤ R') (h4 : D ≤ D') : Fine k g L' C' R' D' :=
  ⟨F.wf, F.tp, F.rp, F.sm, F.kd, by have := F.len; omega, by have := F.cn; omega, by have := F.rl; omega, by have := F.mx; omega, by have := F.dp; omega⟩
section
variable {k : Kd} {g : Gn} {L C R D : Nat}
theorem table_r {R : Nat} (h : mx g ≤ R) : ∀ e ∈ tableM g, e.r.length ≤ R := fun e he => Nat.le_trans (ex_len g (table_snd he)) h
theorem rows_r {R : Nat} (h : mx g ≤ R) : ∀ p ∈ rowsM g, p.1.length ≤ R := fun p hp => Nat.le_trans (ex_len g (rows_snd g p hp)) h
theorem Fine.cnt (F : Fine k g L C R D) : ∃ n : Nat, cnt (tableM g) = n ∧ n ≤ C := by
  have h0 := (cnt_nn (table_nn g)).1
  have h1 : CR.cnt (tableM g) ≤ C := F.cn
  exact ⟨(CR.cnt (tableM g)).toNat, by omega, by omega⟩
theorem Fine.tbl (F : Fine k g L C R D) (hL : L ≤ 10000) (hC : C ≤ 5000) (hR : R ≤ 1000) : TblOk (tableM g) := by
  refine ⟨Nat.le_trans F.len hL, fun e he => ⟨?_, Nat.le_trans (table_r F.mx e he) hR⟩⟩
  have h0 := table_nn g e he
  have h1 := (cnt_nn (table_nn g)).2 e he
  have h2 : CR.cnt (tableM g) ≤ C := F.cn
  constructor
  · omega
  · have h3 : e.n ≤ 5000 := by omega
    exact Int.lt_of_le_of_lt h3 (by decide)
theorem Fine.rfac (F : Fine k g L C R D) (hR : R ≤ 1000) : ∀ p ∈ rowsM g, RFac p := fun p hp => Nat.le_trans (rows_r F.mx p hp) hR
theorem tq_of (wf : g.WF) (kd : ∀ v, g.Val v → k.Has v) (tri : TriPre g (g.parts.map tableM)) (hl : (triM g (g.parts.map tableM)).length ≤ 2000) : TQ g :=
  ⟨tri, ⟨k.key, fun e he => kd_key (kd _ (ex_val g wf (tri_snd he)))⟩, by omega, by rw [tableM_eq0]; exact Nat.le_trans (putM_len _) hl⟩
theorem tab_le (g : Gn) : (tableM g).length ≤ (triM g (g.parts.map tableM)).length := by
  rw [tableM_eq0]
  exact putM_len _
theorem cnt_ones : ∀ {es : List Ent}, (∀ e ∈ es, e.n = 1) → cnt es = es.length
  | [], _ => rfl
  | e :: es, h => by
    rw [cnt_cons, h e List.mem_cons_self, cnt_ones fun x hx => h x (List.mem_cons_of_mem _ hx), List.length_cons]
    omega
theorem fine_int {lo hi : Int} {w : Nat} (h0 : -1000 ≤ lo) (h1 : lo ≤ hi) (h2 : hi ≤ 1000) (hw : hi - lo + 1 ≤ w) (hw9 : w ≤ 20) : Fine .I (.int lo hi) w w 1 0 := by
  have wf : Gn.WF (.int lo hi) := ⟨h0, h1, h2⟩
  have kd : ∀ v, Gn.Val (.int lo hi) v → Kd.I.Has v := fun v ⟨i, e, _⟩ => ⟨i, e⟩
  have hl : (triM (.int lo hi) []).length = (hi - lo + 1).toNat := by
    show ((List.range (hi - lo + 1).toNat).map _).length = _
    rw [List.length_map, List.length_range]
  have len : (tableM (.int lo hi)).length ≤ w := by
    have := tab_le (.int lo hi)
    change (tableM (.int lo hi)).length ≤ (triM (.int lo hi) []).length at this
    omega
  have cn : countM (.int lo hi) ≤ w := by
    rw [countM_tri]
    show cnt (triM (.int lo hi) []) ≤ w
    rw [cnt_ones (fun e he => ?_), hl]
    · omega
    · obtain ⟨k, hk, rfl⟩ := List.mem_map.mp he
      rfl
  have rl : (rowsM (.int lo hi)).length ≤ w := by
    show ((tableM (.int lo hi)).map _).length ≤ w
    rw [List.length_map]
    exact len
  exact ⟨wf, tq_of wf kd ⟨h1, by omega⟩ (by show (triM (.int lo hi) []).length ≤ 2000; omega), ⟨trivial, by omega, by omega⟩, by show hi - lo ≤ 100; omega, kd, len, cn, rl, Nat.le_refl _, Nat.le_refl _⟩
theorem sumPow_base {b c : Nat} (h : b ≤ c) (l : Nat) : ∀ n, sumPow b l n ≤ sumPow c l n
  | 0 => Nat.le_refl _
  | n + 1 => by
    rw [sumPow_succ, sumPow_succ]
    exact Nat.add_le_add (sumPow_base h l n) (Nat.pow_le_pow_left h _)
theorem ints_of : ∀ {xs : List PyData}, (∀ x ∈ xs, ∃ i, x = PyData.int i) → ∃ is : List Int, xs = is.map PyData.int ∧ is.length = xs.length
  | [], _ => ⟨[], rfl, rfl⟩
  | x :: xs, h => by
    obtain ⟨i, rfl⟩ := h x List.mem_cons_self
    obtain ⟨is, rfl, e⟩ := ints_of fun y hy => h y (List.mem_cons_of_mem _ hy)
    exact ⟨i :: is, rfl, by rw [List.length_cons, List.length_cons, e]⟩
theorem fine_lst {l m L' C' : Nat} (F : Fine .I g L C R D) (h : l ≤ m) (h6 : m ≤ 6) (hR : R ≤ 100) (hL : sumPow L l (m + 1 - l) ≤ L') (hC : sumPow C l (m + 1 - l) ≤ C') (bL : L' ≤ 2000) (bC : C' ≤ 5000) (b0 : L ≤ 2000) (b1 : C ≤ 5000) :
    Fine .L (.lst g l m) L' C' (l * R + (m - l) * (R + 1) + 1) (D + 1) := by
  have wf : Gn.WF (.lst g l m) := ⟨F.wf, h, h6⟩
  have kd : ∀ v, Gn.Val (.lst g l m) v → Kd.L.Has v := fun v ⟨xs, e, e1, e2, e3⟩ => by
    obtain ⟨is, rfl, e4⟩ := ints_of fun x hx => F.kd x (e3 x hx)
    exact ⟨is, e, by omega⟩
  have s1 : sumPow (tableM g).length l (m + 1 - l) ≤ L' := Nat.le_trans (sumPow_base F.len l _) hL
  have s2 : sumPow (rowsM g).length l (m + 1 - l) ≤ C' := Nat.le_trans (sumPow_base F.rl l _) hC
  have hl : (triM (.lst g l m) [tableM g]).length ≤ L' := by
    rw [rv_len rv_lst]
    show (listedM ((tableM g).map rvE) l m).length ≤ L'
    rw [listed_len _ h, List.length_map]
    exact s1
  have rl : (rowsM (.lst g l m)).length ≤ C' := by
    show (listedM (rowsM g) l m).length ≤ C'
    rw [listed_len _ h]
    exact s2
  have cn : countM (.lst g l m) ≤ C' := by
    obtain ⟨n, e1, e2⟩ := F.cnt
    rw [countM_tri]
    show cnt (listM (tableM g) l m) ≤ C'
    rw [cnt_list _ e1 h]
    have := Nat.le_trans (sumPow_base e2 l _) hC
    omega
  refine ⟨wf, ⟨F.tp, tq_of wf kd ⟨tableM g, rfl, F.tbl (by omega) b1 (by omega), h, h6, by omega⟩ (by show (triM (.lst g l m) [tableM g]).length ≤ 2000; omega)⟩, ⟨F.rp, ⟨rowsM g, rfl, F.rfac (by omega), h, h6, by omega⟩, by omega, by omega⟩, F.sm, kd, Nat.le_trans (tab_le (.lst g l m)) hl, cn, rl, ?_, by show g.dep + 1 ≤ D + 1; have := F.dp; omega⟩
  show l * CR.mx g + (m - l) * (CR.mx g + 1) + 1 ≤ _
  have := F.mx
  have k1 : l * CR.mx g ≤ l * R := Nat.mul_le_mul_left _ this
  have k2 : (m - l) * (CR.mx g + 1) ≤ (m - l) * (R + 1) := Nat.mul_le_mul_left _ (by omega)
  omega
theorem turned_tri {m : Mp} : (triM (.turned g m) [tableM g]).length = (tableM g).length := by
  show ((tableM g).map _).length = _
  rw [List.length_map]
theorem fine_turned {m : Mp} {k' : Kd} {L' : Nat} (F : Fine k g L C R D) (fit : ∀ v, k.Has v → m.Fit v) (hk : ∀ v, g.Val v → k'.Has (m.val v)) (hl : (tableM (.turned g m)).length ≤ L') (bL : L ≤ 2000) (bC : C ≤ 5000) (bR : R ≤ 1000) : Fine k' (.turned g m) L' C R (D + 1) := by
  have wf : Gn.WF (.turned g m) := ⟨F.wf, fun v hv => fit v (F.kd v hv)⟩
  have kd : ∀ v, Gn.Val (.turned g m) v → k'.Has v := fun v ⟨x, h, e⟩ => by rw [e]; exact hk x h
  have hf := F.len
  have rl : (rowsM (.turned g m)).length ≤ C := by
    show ((rowsM g).map _).length ≤ C
    rw [List.length_map]
    exact F.rl
  have cn : countM (.turned g m) ≤ C := by
    rw [countM_tri]
    show cnt ((tableM g).map fun (e : Ent) => Ent.mk (m.val e.v) e.n e.r) ≤ C
    rw [cnt_same (fun (e : Ent) => Ent.mk (m.val e.v) e.n e.r) _ fun _ => rfl]
    exact F.cn
  refine ⟨wf, ⟨F.tp, tq_of wf kd ⟨tableM g, rfl, F.tbl (by omega) bC bR, fun e he => fit _ (F.kd _ (ex_val g F.wf (table_snd he)))⟩ (by show (triM (.turned g m) [tableM g]).length ≤ 2000; rw [turned_tri]; omega)⟩, ⟨F.rp, ⟨rowsM g, rfl, by have := F.rl; omega, fun e he => fit _ (F.kd _ (ex_val g F.wf (rows_snd g e he)))⟩, by omega, by omega⟩, F.sm, kd, hl, cn, rl, F.mx, ?_⟩
  show g.dep + 1 ≤ D + 1
  have := F.dp
  omega
theorem turned_len {m : Mp} : (tableM (.turned g m)).length ≤ (tableM g).length := by
  have := tab_le (.turned g m)
  change _ ≤ (triM (.turned g m) [tableM g]).length at this
  rw [turned_tri] at this
  exact this
theorem fine_kept {c : Cn} (F : Fine k g L C R D) (hd : c.dep ≤ 4) (fit : ∀ v, k.Has v → c.Fit v) (bL : L ≤ 2000) (bC : C ≤ 5000) (bR : R ≤ 1000) : Fine k (.kept g c) L C R (D + 1) := by
  have wf : Gn.WF (.kept g c) := ⟨F.wf, hd, fun v hv => fit v (F.kd v hv)⟩
  have kd : ∀ v, Gn.Val (.kept g c) v → k.Has v := fun v ⟨h, _⟩ => F.kd v h
  have hf := F.len
  have hl : (triM (.kept g c) [tableM g]).length ≤ L := Nat.le_trans (List.length_filter_le _ _) F.len
  have rl : (rowsM (.kept g c)).length ≤ C := Nat.le_trans (List.length_filter_le _ _) F.rl
  have cn : countM (.kept g c) ≤ C := by
    rw [countM_tri]
    exact Int.le_trans (cnt_filter _ (table_nn g)) F.cn
  refine ⟨wf, ⟨F.tp, tq_of wf kd ⟨tableM g, rfl, F.tbl (by omega) bC bR, hd, fun e he => fit _ (F.kd _ (ex_val g F.wf (table_snd he)))⟩ (by show (triM (.kept g c) [tableM g]).length ≤ 2000; omega)⟩, ⟨F.rp, ⟨rowsM g, rfl, by have := F.rl; omega, hd, fun e he => fit _ (F.kd _ (ex_val g F.wf (rows_snd g e he)))⟩, by omega, by omega⟩, F.sm, kd, Nat.le_trans (tab_le (.kept g c)) hl, cn, rl, F.mx, ?_⟩
  show g.dep + 1 ≤ D + 1
  have := F.dp
  omega
end
section
variable {k : Kd} {a b : Gn} {L C R D L' C' R' D' : Nat}
theorem fine_one (F : Fine k a L C R D) (F' : Fine k b L' C' R' D') (bL : L + L' ≤ 2000) (bC : C + C' ≤ 5000) (bR : R + R' ≤ 900) : Fine k (.one a b) (L + L') (C + C') (R + R' + 1) (D + D' + 1) := by
  have wf : Gn.WF (.one a b) := ⟨F.wf, F'.wf⟩
  have kd : ∀ v, Gn.Val (.one a b) v → k.Has v := fun v h => h.elim (F.kd v) (F'.kd v)
  have hf := F.len
  have hf' := F'.len
  have t1 := F.tbl (by omega) (by omega) (by omega)
  have t2 := F'.tbl (by omega) (by omega) (by omega)
  have r1 := F.rl
  have r2 := F'.rl
  have hl : (triM (.one a b) [tableM a, tableM b]).length ≤ L + L' := by
    rw [rv_len rv_one, one_len, List.length_map, List.length_map]
    omega
  have rl : (rowsM (.one a b)).length ≤ C + C' := by
    show (rowsOf (.one a b) [rowsM a, rowsM b]).length ≤ _
    rw [one_len]
    omega
  have cn : countM (.one a b) ≤ ((C + C' : Nat) : Int) := by
    rw [countM_tri]
    show cnt (((tableM a).map fun (e : Ent) => Ent.mk e.v e.n (((0 : Nat) : Int) :: e.r)) ++ (((tableM b).map fun (e : Ent) => Ent.mk e.v e.n (((1 : Nat) : Int) :: e.r)) ++ [])) ≤ _
    rw [List.append_nil, cnt_app, cnt_same (fun (e : Ent) => Ent.mk e.v e.n (((0 : Nat) : Int) :: e.r)) _ fun _ => rfl, cnt_same (fun (e : Ent) => Ent.mk e.v e.n (((1 : Nat) : Int) :: e.r)) _ fun _ => rfl]
    have c1 : cnt (tableM a) ≤ C := F.cn
    have c2 : cnt (tableM b) ≤ C' := F'.cn
    omega
  refine ⟨wf, ⟨F.tp, F'.tp, tq_of wf kd ⟨by show 2 ≤ 10; omega, two_parts (Q := fun p => TblOk p) t1 t2⟩ (by show (triM (.one a b) [tableM a, tableM b]).length ≤ 2000; omega)⟩, ⟨F.rp, F'.rp, ⟨by show 2 ≤ 10; omega, ?_⟩, by omega, by omega⟩, ⟨F.sm, F'.sm⟩, kd, Nat.le_trans (tab_le (.one a b)) hl, cn, rl, ?_, ?_⟩
  · intro t ht
    rcases List.mem_cons.mp ht with rfl | ht
    · exact ⟨by omega, F.rfac (by omega)⟩
    · rw [List.mem_singleton.mp ht]
      exact ⟨by omega, F'.rfac (by omega)⟩
  · show CR.mx a + CR.mx b + 1 ≤ _
    have := F.mx
    have := F'.mx
    omega
  · show max a.dep b.dep + 1 ≤ _
    have := F.dp
    have := F'.dp
    omega
theorem prod2 {α : Type} {x y : List α} {f : Nat} (n : Nat) (h1 : 1 ≤ f) (h2 : x.length ≤ f) (h3 : x.length * y.length ≤ f) : (([x, y].take n).foldl (fun n t => n * t.length) 1) ≤ f := by
  match n with
  | 0 => exact h1
  | 1 =>
    show 1 * x.length ≤ f
    omega
  | n + 2 =>
    rw [List.take_of_length_le (by show 2 ≤ n + 2; omega)]
    show 1 * x.length * y.length ≤ f
    rw [Nat.one_mul]
    exact h3
theorem fine_pair {L2 C2 : Nat} (F : Fine .I a L C R D) (F' : Fine .L b L' C' R' D') (bL : L ≤ 2000) (bL' : L' ≤ 2000) (bC : C ≤ 5000) (bC' : C' ≤ 5000) (bR : R + R' ≤ 1000) (h1 : L * L' ≤ L2) (h2 : C * C' ≤ C2) (b1 : L2 ≤ 2000) (b2 : C2 ≤ 5000) : Fine .P (.pair a b) L2 C2 (R + R') (D + D' + 1) := by
  have wf : Gn.WF (.pair a b) := ⟨F.wf, F'.wf⟩
  have kd : ∀ v, Gn.Val (.pair a b) v → Kd.P.Has v := fun v ⟨x, y, e, hx, hy⟩ => by
    obtain ⟨i, rfl⟩ := F.kd x hx
    obtain ⟨is, rfl, h⟩ := F'.kd y hy
    exact ⟨i, is, e, h⟩
  have hf := F.len
  have hf' := F'.len
  have t1 := F.tbl (by omega) (by omega) (by omega)
  have t2 := F'.tbl (by omega) (by omega) (by omega)
  have r1 := F.rl
  have r2 := F'.rl
  have p1 : (tableM a).length * (tableM b).length ≤ L2 := Nat.le_trans (Nat.mul_le_mul hf hf') h1
  have p2 : (rowsM a).length * (rowsM b).length ≤ C2 := Nat.le_trans (Nat.mul_le_mul r1 r2) h2
  have hl : (triM (.pair a b) [tableM a, tableM b]).length ≤ L2 := by
    rw [rv_len rv_pair, pair_len, List.length_map, List.length_map]
    exact p1
  have rl : (rowsM (.pair a b)).length ≤ C2 := by
    show (rowsOf (.pair a b) [rowsM a, rowsM b]).length ≤ _
    rw [pair_len]
    exact p2
  have cn : countM (.pair a b) ≤ (C2 : Int) := by
    rw [countM_tri]
    show cnt (if ([tableM a, tableM b].any fun t => t.isEmpty) = true then [] else [tableM a, tableM b].foldl mulM ent0) ≤ _
    split
    · exact Int.natCast_nonneg _
    · show cnt (mulM (mulM ent0 (tableM a)) (tableM b)) ≤ _
      obtain ⟨n, e1, e2⟩ := F.cnt
      obtain ⟨n', e1', e2'⟩ := F'.cnt
      rw [cnt_mul, cnt_mul, e1, e1']
      show (1 : Int) * n * n' ≤ _
      rw [Int.one_mul]
      have := Nat.le_trans (Nat.mul_le_mul e2 e2') h2
      exact Int.ofNat_le.mpr this
  refine ⟨wf, ⟨F.tp, F'.tp, tq_of wf kd ⟨by show 2 ≤ 10; omega, two_parts (Q := fun p => TblOk p) t1 t2, fun n => prod2 (f := 2000) n (by omega) (by omega) (by omega)⟩ (by show (triM (.pair a b) [tableM a, tableM b]).length ≤ 2000; omega)⟩,
    ⟨F.rp, F'.rp, ⟨by show 2 ≤ 10; omega, two_parts (Q := fun p : List RV => ∀ e ∈ p, RFac e) (F.rfac (by omega)) (F'.rfac (by omega)), fun n => prod2 (f := 100000) n (by omega) (by omega) (by omega)⟩, by omega, by omega⟩, ⟨F.sm, F'.sm⟩, kd, Nat.le_trans (tab_le (.pair a b)) hl, cn, rl, ?_, ?_⟩
  · show CR.mx a + CR.mx b ≤ _
    have := F.mx
    have := F'.mx
    omega
  · show max a.dep b.dep + 1 ≤ _
    have := F.dp
    have := F'.dp
    omega
end
end CR

set_option Elab.async false
set_option linter.all false
set_option maxRecDepth 100000
set_option maxHeartbeats 1000000
/-! # The plain law: repeats; tables whose values are few -/
namespace CR
open PySem
theorem fold_apart : ∀ (es found : List Ent), (found ++ es).Pairwise (fun a b => PyData.eqv a.v b.v = false) → es.foldl putOne found = found ++ es
  | [], found, _ => (List.append_nil _).symm
  | e :: es, found, h => by
    rw [List.foldl_cons, put_none fun f hf => ?_]
    · rw [fold_apart es (found ++ [e]) (by rw [List.append_assoc]; exact h), List.append_assoc]
      rfl
    · exact (List.pairwise_append.mp h).2.2 f hf e List.mem_cons_self
theorem tab_int {lo hi : Int} : tableM (.int lo hi) = triM (.int lo hi) [] := by
  show (foundM (triM (.int lo hi) [])).mergeSort entLe = _
  have h1 : (triM (.int lo hi) []).Pairwise (fun a b => PyData.eqv a.v b.v = false) := by
    show ((List.range (hi - lo + 1).toNat).map fun (k : Nat) => (⟨.int (lo + (k : Nat)), 1, [((k : Nat) : Int)]⟩ : Ent)).Pairwise _
    rw [List.pairwise_map]
    refine List.Pairwise.imp (fun {a b} hab => ?_) List.pairwise_lt_range
    rw [eqv_nest rfl rfl]
    refine decide_eq_false fun z => ?_
    have z : NestedKey.num (lo + (a : Nat)) = NestedKey.num (lo + (b : Nat)) := z
    injection z with z
    omega
  have e1 : foundM (triM (.int lo hi) []) = triM (.int lo hi) [] := fold_apart _ [] h1
  rw [e1]
  refine List.mergeSort_of_pairwise ?_
  show ((List.range (hi - lo + 1).toNat).map fun (k : Nat) => (⟨.int (lo + (k : Nat)), 1, [((k : Nat) : Int)]⟩ : Ent)).Pairwise _
  rw [List.pairwise_map]
  refine List.Pairwise.imp (fun {a b} hab => ?_) List.pairwise_lt_range
  have h2 : lessM [((b : Nat) : Int)] [((a : Nat) : Int)] = false := by
    unfold lessM lexM lexM
    simp
    omega
  show (!lessM [((b : Nat) : Int)] [((a : Nat) : Int)]) = true
  rw [h2]
  rfl
theorem nodup_lt : ∀ (n : Nat) (l : List Nat), l.Nodup → (∀ x ∈ l, x < n) → l.length ≤ n
  | 0, l, _, h => by
    cases l with
    | nil => exact Nat.le_refl _
    | cons x l => exact absurd (h x List.mem_cons_self) (Nat.not_lt_zero _)
  | n + 1, l, hd, h => by
    by_cases hn : n ∈ l
    · have h1 := nodup_lt n (l.erase n) (hd.erase n) fun x hx => by
        have h2 := (hd.mem_erase_iff).mp hx
        have := h x h2.2
        have := h2.1
        omega
      rw [List.length_erase_of_mem hn] at h1
      omega
    · have h1 := nodup_lt n l hd fun x hx => by
        have h2 := h x hx
        have : x ≠ n := fun z => hn (z ▸ hx)
        omega
      omega
theorem tab_few {g : Gn} {lo : Int} {n : Nat} (wf : g.WF) (h : ∀ v, g.Val v → ∃ i, v = .int i ∧ lo ≤ i ∧ i < lo + n) : (tableM g).length ≤ n := by
  have e0 : (tableM g).length = (foundM (triM g (g.parts.map tableM))).length := by
    rw [tableM_eq0]
    exact List.length_mergeSort _
  rw [e0]
  have hv : ∀ e ∈ triM g (g.parts.map tableM), ∃ i, e.v = .int i ∧ lo ≤ i ∧ i < lo + n := fun e he => h _ (ex_val g wf (tri_snd he))
  generalize triM g (g.parts.map tableM) = es at hv
  have hk : ∀ e ∈ es, KeyOk false e.v := fun e he => by
    obtain ⟨i, hi, _⟩ := hv e he
    exact ⟨i, hi⟩
  obtain ⟨kd, _⟩ := foundM_kd hk es.length
  rw [List.take_length] at kd
  have hf : ∀ f ∈ foundM es, ∃ i, f.v = .int i ∧ lo ≤ i ∧ i < lo + n := foldl_all (Q := fun f => ∃ i, f.v = .int i ∧ lo ≤ i ∧ i < lo + n) (fun e f _ hf _ => hf) hv none_in
  have h3 := nodup_lt n ((foundM es).map fun f => (dint f.v - lo).toNat) (by
    unfold List.Nodup
    rw [List.pairwise_map]
    refine List.Pairwise.imp_of_mem (fun {a b} ha hb hab => ?_) kd.apart
    obtain ⟨i, hi, i1, i2⟩ := hf a ha
    obtain ⟨j, hj, j1, j2⟩ := hf b hb
    rw [hi, hj] at hab ⊢
    rw [eqv_nest rfl rfl] at hab
    have hab := of_decide_eq_false hab
    intro z
    have z : (i - lo).toNat = (j - lo).toNat := z
    exact hab (by show NestedKey.num i = NestedKey.num j; congr 1; omega)) (fun x hx => by
    obtain ⟨f, hf2, rfl⟩ := List.mem_map.mp hx
    obtain ⟨i, hi, i1, i2⟩ := hf f hf2
    show (dint f.v - lo).toNat < n
    rw [hi]
    show (i - lo).toNat < n
    omega)
  rw [List.length_map] at h3
  exact h3
/-! repeats of a number from lo to 2, lo is -1 or 0 -/
def repT (lo : Int) : List RV := if lo = 0 then [([0], .int 0), ([1], .int 1), ([2], .int 2)] else [([0], .int (-1)), ([1], .int 0), ([2], .int 1), ([3], .int 2)]
theorem rep_tab {lo : Int} (h : lo = -1 ∨ lo = 0) : (tableM (.int lo 2)).map rvE = repT lo ∧ rowsM (.int lo 2) = repT lo := by
  have e : rowsM (.int lo 2) = (tableM (.int lo 2)).map rvE := rfl
  rw [e, and_self, tab_int]
  rcases h with rfl | rfl <;> rfl
theorem joinM_rep (B : List RV) (n : Nat) : (joinM (List.replicate n B)).length = B.length ^ n := by
  rw [joinM_eq, joinRep, joinN_len]
  show 1 * _ = _
  rw [Nat.one_mul]
theorem rep_len (a b : Gn) (B : List RV) {lo : Int} (h : lo = -1 ∨ lo = 0) : (rowsOf (.rep a b) [repT lo, B]).length = 1 + B.length + B.length * B.length := by
  rcases h with rfl | rfl
  · show ([] ++ (((joinM (List.replicate 0 B)).map _) ++ (((joinM (List.replicate 1 B)).map _) ++ (((joinM (List.replicate 2 B)).map _) ++ [])))).length = _
    simp only [List.length_append, List.length_map, joinM_rep, List.length_nil, Nat.pow_zero, Nat.pow_one, Nat.pow_succ, Nat.one_mul]
    omega
  · show (((joinM (List.replicate 0 B)).map _) ++ (((joinM (List.replicate 1 B)).map _) ++ (((joinM (List.replicate 2 B)).map _) ++ []))).length = _
    simp only [List.length_append, List.length_map, joinM_rep, List.length_nil, Nat.pow_zero, Nat.pow_one, Nat.pow_succ, Nat.one_mul]
    omega
theorem rep_cnt {lo : Int} (h : lo = -1 ∨ lo = 0) (B : List Ent) {n : Nat} (hB : cnt B = n) : cnt (repM (tableM (.int lo 2)) B) = ((1 + n + n * n : Nat) : Int) := by
  rw [tab_int]
  rcases h with rfl | rfl
  · show cnt (mulN [⟨.tuple [], 1, [1]⟩] B 0 ++ (mulN [⟨.tuple [], 1, [2]⟩] B 1 ++ (mulN [⟨.tuple [], 1, [3]⟩] B 2 ++ []))) = _
    rw [cnt_app, cnt_app, cnt_app, cnt_mulN _ B (a := 1) rfl hB, cnt_mulN _ B (a := 1) rfl hB, cnt_mulN _ B (a := 1) rfl hB]
    show ((1 * n ^ 0 : Nat) : Int) + (((1 * n ^ 1 : Nat) : Int) + (((1 * n ^ 2 : Nat) : Int) + 0)) = _
    simp only [Nat.one_mul, Nat.pow_zero, Nat.pow_one, Nat.pow_succ]
    omega
  · show cnt (mulN [⟨.tuple [], 1, [0]⟩] B 0 ++ (mulN [⟨.tuple [], 1, [1]⟩] B 1 ++ (mulN [⟨.tuple [], 1, [2]⟩] B 2 ++ []))) = _
    rw [cnt_app, cnt_app, cnt_app, cnt_mulN _ B (a := 1) rfl hB, cnt_mulN _ B (a := 1) rfl hB, cnt_mulN _ B (a := 1) rfl hB]
    show ((1 * n ^ 0 : Nat) : Int) + (((1 * n ^ 1 : Nat) : Int) + (((1 * n ^ 2 : Nat) : Int) + 0)) = _
    simp only [Nat.one_mul, Nat.pow_zero, Nat.pow_one, Nat.pow_succ]
    omega
theorem rep_sum {lo : Int} (h : lo = -1 ∨ lo = 0) (B : List Ent) : repSum (tableM (.int lo 2)) B = 1 + B.length + B.length * B.length := by
  rw [tab_int]
  rcases h with rfl | rfl
  · show B.length ^ 0 + (B.length ^ 1 + (B.length ^ 2 + 0)) = _
    simp only [Nat.pow_zero, Nat.pow_one, Nat.pow_succ, Nat.one_mul]
    omega
  · show B.length ^ 0 + (B.length ^ 1 + (B.length ^ 2 + 0)) = _
    simp only [Nat.pow_zero, Nat.pow_one, Nat.pow_succ, Nat.one_mul]
    omega
theorem joinPre_rep {u : List RV} {n : Nat} (hn : n ≤ 2) (hu : u.length * u.length ≤ 100000) (hr : ∀ p ∈ u, RFac p) : JoinPre (List.replicate n u) := by
  have h1 : u.length ≤ 100000 := by
    rcases Nat.eq_zero_or_pos u.length with h | h
    · omega
    · exact Nat.le_trans (Nat.le_mul_of_pos_right _ h) hu
  refine ⟨by rw [List.length_replicate]; omega, fun t ht => by rw [List.eq_of_mem_replicate ht]; exact hr, fun k => ?_⟩
  match n, hn with
  | 0, _ =>
    show (([] : List (List RV)).take k).foldl (fun n t => n * t.length) 1 ≤ _
    rw [List.take_nil]
    show 1 ≤ 100000
    omega
  | 1, _ =>
    match k with
    | 0 => show 1 ≤ 100000; omega
    | k + 1 =>
      show ([u].take (k + 1)).foldl (fun n t => n * t.length) 1 ≤ _
      rw [List.take_of_length_le (by show 1 ≤ k + 1; omega)]
      show 1 * u.length ≤ _
      omega
  | 2, _ => exact prod2 (f := 100000) k (by omega) h1 hu
section
variable {b : Gn} {L C R D : Nat}
theorem fine_rep {lo : Int} {L2 C2 : Nat} (F : Fine .I b L C R D) (h : lo = -1 ∨ lo = 0) (bL : L ≤ 40) (bC : C ≤ 60) (bR : R ≤ 100) (h1 : 1 + L + L * L ≤ L2) (h2 : 1 + C + C * C ≤ C2) (b1 : L2 ≤ 2000) (b2 : C2 ≤ 5000) : Fine .L (.rep (.int lo 2) b) L2 C2 (1 + 6 * R) (D + 1) := by
  have F0 : Fine .I (.int lo 2) 4 4 1 0 := fine_int (by omega) (by omega) (by omega) (by omega) (by omega)
  have wf : Gn.WF (.rep (.int lo 2) b) := ⟨F0.wf, F.wf, fun v ⟨i, e, _⟩ => ⟨i, e⟩⟩
  have kd : ∀ v, Gn.Val (.rep (.int lo 2) b) v → Kd.L.Has v := fun v ⟨n, xs, e, _, e1, e2, e3⟩ => by
    obtain ⟨is, rfl, e4⟩ := ints_of fun x hx => F.kd x (e3 x hx)
    exact ⟨is, e, by omega⟩
  have hf := F.len
  have hr := F.rl
  have t0 := F0.tbl (by omega) (by omega) (by omega)
  have t1 := F.tbl (by omega) (by omega) (by omega)
  obtain ⟨m1, m2⟩ := rep_tab h
  have q1 : (tableM b).length * (tableM b).length ≤ L * L := Nat.mul_le_mul hf hf
  have q2 : (rowsM b).length * (rowsM b).length ≤ C * C := Nat.mul_le_mul hr hr
  have q3 : (rowsM b).length * (rowsM b).length ≤ 60 * 60 := Nat.mul_le_mul (by omega) (by omega)
  have hl : (triM (.rep (.int lo 2) b) [tableM (.int lo 2), tableM b]).length ≤ L2 := by
    rw [rv_len rv_rep, m1, rep_len _ _ _ h, List.length_map]
    omega
  have rl : (rowsM (.rep (.int lo 2) b)).length ≤ C2 := by
    show (rowsOf (.rep (.int lo 2) b) [rowsM (.int lo 2), rowsM b]).length ≤ _
    rw [m2, rep_len _ _ _ h]
    omega
  have cn : countM (.rep (.int lo 2) b) ≤ C2 := by
    obtain ⟨n, e1, e2⟩ := F.cnt
    rw [countM_tri]
    show cnt (repM (tableM (.int lo 2)) (tableM b)) ≤ _
    rw [rep_cnt h _ e1]
    have : n * n ≤ C * C := Nat.mul_le_mul e2 e2
    omega
  refine ⟨wf, ⟨F0.tp, F.tp, tq_of wf kd ⟨tableM (.int lo 2), tableM b, rfl, t0, t1, fun e he => ?_, ?_⟩ (by show (triM (.rep (.int lo 2) b) [tableM (.int lo 2), tableM b]).length ≤ 2000; omega)⟩,
    ⟨F0.rp, F.rp, ⟨rowsM (.int lo 2), rowsM b, rfl, by have := F0.rl; omega, fun e he => ⟨F0.rfac (by omega) e he, ?_⟩, fun e he z0 z6 => ?_⟩, by omega, by omega⟩, ⟨F0.sm, F.sm⟩, kd, Nat.le_trans (tab_le (.rep (.int lo 2) b)) hl, cn, rl, ?_, ?_⟩
  · exact F0.kd _ (ex_val _ F0.wf (table_snd he))
  · rw [rep_sum h]
    omega
  · exact F0.kd _ (ex_val _ F0.wf (rows_snd _ e he))
  · obtain ⟨i, ei, _, i2⟩ := ex_val _ F0.wf (rows_snd _ e he)
    rw [ei]
    exact joinPre_rep (n := i.toNat) (by omega) (by omega) (F.rfac (by omega))
  · show 1 + 6 * CR.mx b ≤ _
    have := F.mx
    omega
  · show max 0 b.dep + 1 ≤ _
    have := F.dp
    omega
end
end CR

set_option Elab.async false
set_option linter.all false
set_option maxRecDepth 100000
set_option maxHeartbeats 1000000
/-! # The plain law: the numbers of the law -/
namespace CR
open PySem
theorem about_dep (a b : Int) : (aboutM a b).dep ≤ 1 := by
  unfold aboutM
  split
  · exact Nat.zero_le _
  · split
    · exact Nat.zero_le _
    · split
      · exact Nat.le_refl _
      · exact Nat.le_refl _
theorem about_fit {a b : Int} (hb : 0 ≤ b) {v : PyData} (h : Kd.I.Has v) : (aboutM a b).Fit v := by
  unfold aboutM
  split
  · exact h
  · split
    · exact ⟨by omega, h⟩
    · split
      · exact h
      · exact ⟨h, by omega, h⟩
theorem two_list {xs : List PyData} (h : xs.length ≤ 2) : xs = [] ∨ (∃ x, xs = [x]) ∨ ∃ x y, xs = [x, y] := by
  match xs, h with
  | [], _ => exact .inl rfl
  | [x], _ => exact .inr (.inl ⟨x, rfl⟩)
  | [x, y], _ => exact .inr (.inr ⟨x, y, rfl⟩)
theorem fine_number {a0 a1 a2 a3 a4 a5 a6 : Int} (h1 : 0 ≤ a1 ∧ a1 < 4) (h2 : 0 ≤ a2 ∧ a2 < 3) (h4 : 0 ≤ a4 ∧ a4 < 5) (h5 : 0 ≤ a5 ∧ a5 < 4) (h6 : 0 ≤ a6 ∧ a6 < 3) : Fine .I (numberM a0 a1 a2 a3 a4 a5 a6) 9 13 5 2 := by
  have P : Fine .I (.int (a1 - 1) (a1 - 1 + a2)) 3 3 1 0 := fine_int (by omega) (by omega) (by omega) (by omega) (by omega)
  unfold numberM
  by_cases c0 : a0 < 4
  · rw [if_pos c0]
    exact P.mono (by omega) (by omega) (by omega) (by omega)
  rw [if_neg c0]
  by_cases c1 : a0 = 4
  · rw [if_pos c1]
    by_cases c : a2 % 2 = 0
    · rw [if_pos c]
      exact (fine_turned (m := .plus (a4 - 2)) (k' := .I) P (fun v ⟨i, e⟩ => ⟨i, e⟩) (fun v _ => ⟨_, rfl⟩) (Nat.le_trans turned_len P.len) (by omega) (by omega) (by omega)).mono (by omega) (by omega) (by omega) (by omega)
    · rw [if_neg c]
      exact (fine_turned (m := .times (a4 - 2)) (k' := .I) P (fun v ⟨i, e⟩ => ⟨i, e, by omega, by omega⟩) (fun v _ => ⟨_, rfl⟩) (Nat.le_trans turned_len P.len) (by omega) (by omega) (by omega)).mono (by omega) (by omega) (by omega) (by omega)
  rw [if_neg c1]
  by_cases c2 : a0 = 5
  · rw [if_pos c2]
    exact (fine_kept P (by have := about_dep a3 a4; omega) (fun v h => about_fit h4.1 h) (by omega) (by omega) (by omega)).mono (by omega) (by omega) (by omega) (by omega)
  rw [if_neg c2]
  by_cases c3 : a0 = 6
  · rw [if_pos c3]
    have P2 : Fine .I (.int a5 (a5 + a6)) 3 3 1 0 := fine_int (by omega) (by omega) (by omega) (by omega) (by omega)
    exact (fine_one P P2 (by omega) (by omega) (by omega)).mono (by omega) (by omega) (by omega) (by omega)
  rw [if_neg c3]
  have Q : Fine .L (.lst (.int (a1 - 1) (a1 - 1 + a2)) 0 2) 13 13 5 1 := fine_lst P (by omega) (by omega) (by omega) (L' := 13) (C' := 13) (by decide) (by decide) (by omega) (by omega) (by omega) (by omega)
  by_cases c : a2 % 2 = 0
  · rw [if_pos c]
    have fit : ∀ v, Kd.L.Has v → Mp.sum.Fit v := fun v ⟨is, e, h⟩ => ⟨is, e, by omega⟩
    have hl : (tableM (.turned (.lst (.int (a1 - 1) (a1 - 1 + a2)) 0 2) .sum)).length ≤ 9 := by
      refine tab_few (lo := min 0 (2 * (a1 - 1))) ⟨Q.wf, fun v hv => fit v (Q.kd v hv)⟩ ?_
      rintro v ⟨x, ⟨xs, rfl, e1, e2, e3⟩, rfl⟩
      rcases two_list e2 with rfl | ⟨y, rfl⟩ | ⟨y, z, rfl⟩
      · refine ⟨0, rfl, by omega, by omega⟩
      · obtain ⟨i, rfl, i1, i2⟩ := e3 y List.mem_cons_self
        refine ⟨i + 0, rfl, by omega, by omega⟩
      · obtain ⟨i, rfl, i1, i2⟩ := e3 y List.mem_cons_self
        obtain ⟨j, rfl, j1, j2⟩ := e3 z (List.mem_cons_of_mem _ List.mem_cons_self)
        refine ⟨i + (j + 0), rfl, by omega, by omega⟩
    exact (fine_turned (k' := .I) Q fit (fun v _ => ⟨_, rfl⟩) hl (by omega) (by omega) (by omega)).mono (by omega) (by omega) (by omega) (by omega)
  · rw [if_neg c]
    have fit : ∀ v, Kd.L.Has v → Mp.length.Fit v := fun v ⟨is, e, h⟩ => ⟨_, e⟩
    have hl : (tableM (.turned (.lst (.int (a1 - 1) (a1 - 1 + a2)) 0 2) .length)).length ≤ 9 := by
      refine tab_few (lo := 0) ⟨Q.wf, fun v hv => fit v (Q.kd v hv)⟩ ?_
      rintro v ⟨x, ⟨xs, rfl, e1, e2, e3⟩, rfl⟩
      exact ⟨_, rfl, Int.natCast_nonneg _, by show ((xs.length : Nat) : Int) < _; omega⟩
    exact (fine_turned (k' := .I) Q fit (fun v _ => ⟨_, rfl⟩) hl (by omega) (by omega) (by omega)).mono (by omega) (by omega) (by omega) (by omega)
theorem fine_num (ns : List Int) (k : Nat) : Fine .I (numG ns k) 9 13 5 2 := by
  have hB : Below (drawL ns k szNum) szNum := drawL_below ns k szNum (by decide)
  obtain ⟨a0, a1, a2, a3, a4, a5, a6, a7, el⟩ := eight (drawL_len ns k szNum)
  unfold numG
  rw [el] at hB ⊢
  obtain ⟨_, h1, h2, _, h4, h5, h6, _⟩ := hB
  exact fine_number h1 h2 h4 h5 h6
end CR

set_option Elab.async false
set_option linter.all false
set_option maxRecDepth 100000
set_option maxHeartbeats 1000000
/-! # The plain law: the lists and the tests of the law -/
namespace CR
open PySem
/-- what is asked of a list generator that is wide w -/
def Wid (w : Int) (L C Lp Cp : Nat) : Prop := (w = 1 ∧ L = 93 ∧ C = 185 ∧ Lp = 90 ∧ Cp = 182) ∨ (w = 2 ∧ L = 822 ∧ C = 2382 ∧ Lp = 819 ∧ Cp = 2379)
theorem wid_pow {w : Int} {L C Lp Cp : Nat} (h : Wid w L C Lp Cp) {a1 d : Int} (h1 : 0 ≤ a1 ∧ a1 < 2) (h2 : 0 ≤ d ∧ d < 1 + w) :
    a1.toNat ≤ (a1 + d).toNat ∧ (a1 + d).toNat ≤ 3 ∧ sumPow 9 a1.toNat ((a1 + d).toNat + 1 - a1.toNat) ≤ Lp ∧ sumPow 13 a1.toNat ((a1 + d).toNat + 1 - a1.toNat) ≤ Cp ∧ a1.toNat * 5 + ((a1 + d).toNat - a1.toNat) * (5 + 1) + 1 ≤ 19 := by
  have q1 : a1 = 0 ∨ a1 = 1 := by omega
  rcases h with ⟨rfl, _, _, rfl, rfl⟩ | ⟨rfl, _, _, rfl, rfl⟩
  · have q2 : d = 0 ∨ d = 1 := by omega
    rcases q1 with rfl | rfl <;> rcases q2 with rfl | rfl <;> decide
  · have q2 : d = 0 ∨ d = 1 ∨ d = 2 := by omega
    rcases q1 with rfl | rfl <;> rcases q2 with rfl | rfl | rfl <;> decide
theorem kept_fit (a : Int) {v : PyData} (h : Kd.L.Has v) : (keptM a).Fit v := by
  obtain ⟨is, rfl, hl⟩ := h
  unfold keptM
  split
  · exact ⟨is, rfl, by omega⟩
  · split
    · exact ⟨is, rfl, by omega⟩
    · split
      · exact ⟨is.map .int, rfl, by rw [List.length_map]; omega, _, rfl⟩
      · exact ⟨is, rfl, by omega, by omega, _, rfl⟩
theorem kept_dep (a : Int) : (keptM a).dep ≤ 1 := by
  unfold keptM
  split
  · exact Nat.zero_le _
  · split
    · exact Nat.zero_le _
    · split
      · exact Nat.le_refl _
      · exact Nat.le_refl _
theorem dints_encR (r : List Int) : dints (encR r) = r := by
  show (r.map PyData.int).map dint = r
  rw [List.map_map]
  exact List.map_id r
theorem fine_listed {part : Gn} (F : Fine .I part 9 13 5 2) {w : Int} {L C Lp Cp : Nat} (hw : Wid w L C Lp Cp) {a0 a1 a2 a3 : Int} (h1 : 0 ≤ a1 ∧ a1 < 2) : Fine .L (lawListed part w a0 a1 a2 a3) L C 31 5 := by
  have hw1 : 0 < 1 + w := by rcases hw with ⟨rfl, _⟩ | ⟨rfl, _⟩ <;> omega
  obtain ⟨p1, p2, p3, p4, p5⟩ := wid_pow hw h1 ⟨Int.emod_nonneg a2 (by omega), Int.emod_lt_of_pos a2 hw1⟩
  have bb : Lp + 3 ≤ L ∧ Cp + 3 ≤ C ∧ L ≤ 2000 ∧ C ≤ 5000 ∧ 91 ≤ L ∧ 183 ≤ C := by rcases hw with ⟨rfl, rfl, rfl, rfl, rfl⟩ | ⟨rfl, rfl, rfl, rfl, rfl⟩ <;> decide
  have P : Fine .L (plainM part w a1 a2) Lp Cp 19 3 := (fine_lst F p1 (by omega) (by omega) p3 p4 (by omega) (by omega) (by omega) (by omega)).mono (Nat.le_refl _) (Nat.le_refl _) p5 (Nat.le_refl _)
  unfold lawListed
  by_cases c0 : a0 < 4
  · rw [if_pos c0]
    exact P.mono (by omega) (by omega) (by omega) (by omega)
  rw [if_neg c0]
  by_cases c1 : a0 = 4
  · rw [if_pos c1]
    exact (fine_rep (L2 := 91) (C2 := 183) F (by omega) (by omega) (by omega) (by omega) (by omega) (by omega) (by omega) (by omega)).mono (by omega) (by omega) (by omega) (by omega)
  rw [if_neg c1]
  by_cases c2 : a0 = 5
  · rw [if_pos c2]
    by_cases c : a2 % 2 = 0
    · rw [if_pos c]
      refine (fine_turned (m := .sorted) (k' := .L) P (fun v ⟨is, e, h⟩ => ⟨is, e, by omega⟩) (fun v hv => ?_) (Nat.le_trans turned_len P.len) (by omega) (by omega) (by omega)).mono (by omega) (by omega) (by omega) (by omega)
      obtain ⟨is, rfl, h⟩ := P.kd v hv
      refine ⟨_, rfl, ?_⟩
      rw [List.length_mergeSort, dints_encR]
      exact h
    · rw [if_neg c]
      refine (fine_turned (m := .reversed) (k' := .L) P (fun v ⟨is, e, h⟩ => ⟨_, e, by rw [List.length_map]; omega⟩) (fun v hv => ?_) (Nat.le_trans turned_len P.len) (by omega) (by omega) (by omega)).mono (by omega) (by omega) (by omega) (by omega)
      obtain ⟨is, rfl, h⟩ := P.kd v hv
      refine ⟨is.reverse, ?_, by rw [List.length_reverse]; exact h⟩
      show PyData.tuple (is.map PyData.int).reverse = PyData.tuple (is.reverse.map PyData.int)
      rw [List.map_reverse]
  rw [if_neg c2]
  by_cases c3 : a0 = 6
  · rw [if_pos c3]
    exact (fine_kept P (by have := kept_dep a3; omega) (fun v h => kept_fit a3 h) (by omega) (by omega) (by omega)).mono (by omega) (by omega) (by omega) (by omega)
  rw [if_neg c3]
  have Q0 : Fine .I (.int 0 1) 2 2 1 0 := fine_int (by omega) (by omega) (by omega) (by omega) (by omega)
  have Q : Fine .L (.lst (.int 0 1) 0 1) 3 3 3 1 := fine_lst Q0 (by omega) (by omega) (by omega) (L' := 3) (C' := 3) (by decide) (by decide) (by omega) (by omega) (by omega) (by omega)
  exact (fine_one P Q (by omega) (by omega) (by omega)).mono (by omega) (by omega) (by omega) (by omega)
theorem fine_lis (ns : List Int) (k : Nat) {w : Int} {L C Lp Cp : Nat} (hw : Wid w L C Lp Cp) : Fine .L (lisG ns k w) L C 31 5 := by
  have hB : Below (drawL ns k szLis) szLis := drawL_below ns k szLis (by decide)
  obtain ⟨a0, a1, a2, a3, a4, el⟩ := five (drawL_len ns k szLis)
  unfold lisG
  rw [el] at hB ⊢
  obtain ⟨_, h1, _⟩ := hB
  exact fine_listed (fine_num ns (k + 1)) hw h1
theorem lcond_fit {a b x : Int} (hb : 0 ≤ b) {v : PyData} (h : Kd.L.Has v) : (lcond (aboutM a b) x).Fit v := by
  obtain ⟨is, rfl, hl⟩ := h
  have hr : Cn.rising.Fit (encR is) := ⟨is, rfl, by omega⟩
  have hs : (Cn.sum (aboutM a b)).Fit (encR is) := ⟨is, rfl, by omega, about_fit hb ⟨_, rfl⟩⟩
  have he : ∀ x ∈ is.map PyData.int, (aboutM a b).Fit x := fun x hx => by
    obtain ⟨i, _, rfl⟩ := List.mem_map.mp hx
    exact about_fit hb ⟨_, rfl⟩
  have hm : (is.map PyData.int).length ≤ 1000 := by rw [List.length_map]; omega
  unfold lcond
  split
  · exact hr
  · split
    · exact ⟨is, rfl, by omega⟩
    · split
      · exact hs
      · split
        · exact ⟨_, rfl, hm, about_fit hb ⟨_, rfl⟩⟩
        · split
          · exact ⟨_, rfl, hm, he⟩
          · split
            · exact ⟨_, rfl, hm, he⟩
            · split
              · exact hr
              · exact ⟨hr, hs⟩
theorem lcond_dep (a b x : Int) : (lcond (aboutM a b) x).dep ≤ 3 := by
  have h := about_dep a b
  unfold lcond
  split
  · exact Nat.zero_le _
  · split
    · exact Nat.zero_le _
    · split
      · show (aboutM a b).dep + 1 ≤ 3; omega
      · split
        · show (aboutM a b).dep + 1 ≤ 3; omega
        · split
          · show (aboutM a b).dep + 1 ≤ 3; omega
          · split
            · show (aboutM a b).dep + 1 ≤ 3; omega
            · split
              · show 0 + 1 ≤ 3; omega
              · show max 0 ((aboutM a b).dep + 1) + 1 ≤ 3; omega
/-- a test of the law -/
structure LawT (g : Gn) (c : Cn) : Prop where
  ok : TestOk g c
  rp : RP g
  sm : Small g
  mx : mx g ≤ 50
theorem lawt_of {k : Kd} {g : Gn} {c : Cn} {L C R D : Nat} (F : Fine k g L C R D) (hR : R ≤ 50) (hD : D ≤ 10) (hc : c.dep ≤ 5) (fit : ∀ v, k.Has v → c.Fit v) : LawT g c :=
  have hm : CR.mx g ≤ 50 := Nat.le_trans F.mx hR
  ⟨⟨F.wf, Nat.le_trans F.dp hD, hc, fun v hv => fit v (F.kd v hv), F.tp, fun e he => ⟨ex_val g F.wf (table_snd he), by have := table_r hm e he; omega⟩⟩, F.rp, F.sm, hm⟩
theorem law_tst (ns : List Int) (k : Nat) : LawT (tstG ns k).1 (tstG ns k).2 := by
  have hB : Below (drawL ns k szTst) szTst := drawL_below ns k szTst (by decide)
  obtain ⟨a0, a1, a2, a3, el⟩ := four (drawL_len ns k szTst)
  unfold tstG
  rw [el] at hB ⊢
  obtain ⟨_, _, ⟨h2, _⟩, _⟩ := hB
  have N := fine_num ns (k + 1)
  have hd := about_dep a1 a2
  have hd3 := lcond_dep a1 a2 a0
  dsimp only [tstD]
  by_cases c0 : a3 = 0
  · rw [if_pos c0]
    have Q : Fine .L (lisG ns (k + 2) 1) 93 185 31 5 := fine_lis ns (k + 2) (.inl ⟨rfl, rfl, rfl, rfl, rfl⟩)
    refine lawt_of (fine_pair (L2 := 837) (C2 := 2405) N Q (by omega) (by omega) (by omega) (by omega) (by omega) (by omega) (by omega) (by omega) (by omega)) (by omega) (by omega) ?_ ?_
    · show max ((lcond (aboutM a1 a2) a0).dep + 1) ((aboutM a1 a2).dep + 1) + 1 ≤ 5
      omega
    · rintro v ⟨i, is, rfl, hl⟩
      exact ⟨⟨_, _, rfl, rfl, lcond_fit h2 ⟨is, rfl, hl⟩⟩, _, _, rfl, rfl, about_fit h2 ⟨i, rfl⟩⟩
  rw [if_neg c0]
  by_cases c1 : a3 = 1 ∧ a0 = 0
  · rw [if_pos c1]
    exact lawt_of N (by omega) (by omega) (by show (aboutM a1 a2).dep ≤ 5; omega) fun v h => about_fit h2 h
  rw [if_neg c1]
  exact lawt_of (fine_lis ns (k + 2) (.inr ⟨rfl, rfl, rfl, rfl, rfl⟩)) (by omega) (by omega) (by show (lcond (aboutM a1 a2) a0).dep ≤ 5; omega) fun v h => lcond_fit h2 h
end CR

set_option Elab.async false
set_option linter.all false
set_option maxRecDepth 100000
set_option maxHeartbeats 1000000
/-! # The plain law: a course comes to its end -/
namespace CR
open PySem
/-- the weight of a row: each step makes it less -/
def Wt : List Int → Nat
  | [] => 0
  | x :: r => (x.toNat + 1) * (r.length + 1) + Wt r
def Sm : List Int → Nat
  | [] => 0
  | x :: r => (x.toNat + 1) + Sm r
theorem wt_app : ∀ a b : List Int, Wt (a ++ b) = Wt a + Sm a * b.length + Wt b
  | [], b => by show Wt b = 0 + 0 * b.length + Wt b; omega
  | x :: a, b => by
    show (x.toNat + 1) * ((a ++ b).length + 1) + Wt (a ++ b) = ((x.toNat + 1) * (a.length + 1) + Wt a) + ((x.toNat + 1) + Sm a) * b.length + Wt b
    rw [wt_app a b, List.length_append, Nat.add_mul (x.toNat + 1) (Sm a), show a.length + b.length + 1 = (a.length + 1) + b.length by omega, Nat.mul_add (x.toNat + 1) (a.length + 1)]
    omega
theorem wt_ctx {a s t : List Int} (hl : s.length ≤ t.length) (h : Wt s < Wt t) : Wt (a ++ s) < Wt (a ++ t) := by
  rw [wt_app, wt_app]
  have : Sm a * s.length ≤ Sm a * t.length := Nat.mul_le_mul_left _ hl
  omega
theorem wt_drop : ∀ (k : Nat) (r : List Int), Wt (r.drop k) ≤ Wt r
  | 0, r => Nat.le_refl _
  | k + 1, [] => Nat.le_refl _
  | k + 1, x :: r => by
    have := wt_drop k r
    show Wt (r.drop k) ≤ (x.toNat + 1) * (r.length + 1) + Wt r
    omega
theorem wt_pos (x : Int) (r : List Int) : Wt r < Wt (x :: r) := by
  have : 0 < (x.toNat + 1) * (r.length + 1) := Nat.mul_pos (by omega) (by omega)
  show Wt r < (x.toNat + 1) * (r.length + 1) + Wt r
  omega
theorem wt_take (k : Nat) (r : List Int) : Wt (r.take k) ≤ Wt r := by
  have h : Wt (r.take k ++ r.drop k) = Wt r := by rw [List.take_append_drop]
  rw [wt_app] at h
  omega
theorem wt_cut {r : List Int} {k : Nat} {s : List Int} (hl : s.length ≤ (r.drop k).length) (h : Wt s < Wt (r.drop k)) : Wt (r.take k ++ s) < Wt r := by
  have e : Wt r = Wt (r.take k ++ r.drop k) := by rw [List.take_append_drop]
  rw [e]
  exact wt_ctx hl h
theorem getD_drop {r : List Int} {k : Nat} (h : k < r.length) : r.drop k = r.getD k 0 :: r.drop (k + 1) := by
  rw [List.drop_eq_getElem_cons h, List.getD_eq_getElem?_getD, List.getElem?_eq_getElem h]
  rfl
theorem tryM_mem {x : Int} {t : List Int} {n y : Int} (h : y ∈ tryM x t n) : y ∈ t ∨ (y = n ∧ 0 < x) := by
  unfold tryM at h
  split at h
  · rename_i hc
    rw [Bool.and_eq_true, decide_eq_true_eq] at hc
    rcases List.mem_append.mp h with h | h
    · exact .inl h
    · exact .inr ⟨List.mem_singleton.mp h, hc.1⟩
  · exact .inl h
theorem nums_mem {x n : Int} (h : n ∈ numsM x) : 0 ≤ n ∧ n < x := by
  unfold numsM at h
  rw [List.foldl_cons, List.foldl_cons, List.foldl_cons, List.foldl_nil] at h
  rcases tryM_mem h with h | ⟨rfl, h⟩
  · rcases tryM_mem h with h | ⟨rfl, h⟩
    · rcases tryM_mem h with h | ⟨rfl, h⟩
      · cases h
      · omega
    · omega
  · omega
theorem cand_less {r c : List Int} (hn : ∀ x ∈ r, 0 ≤ x) (h : c ∈ candM r) : Wt c < Wt r := by
  unfold candM at h
  rcases List.mem_append.mp h with h | h
  · rcases List.mem_append.mp h with h | h
    · obtain ⟨many, hm, h⟩ := List.mem_flatMap.mp h
      obtain ⟨k, hk, rfl⟩ := List.mem_map.mp h
      have hk := List.mem_range.mp hk
      have hm : many = 4 ∨ many = 3 ∨ many = 2 ∨ many = 1 := by simpa using hm
      refine wt_cut ?_ ?_
      · rw [List.length_drop, List.length_drop]
        omega
      · have hlt : k < r.length := by omega
        rw [getD_drop hlt, show k + many = (k + 1) + (many - 1) by omega, ← List.drop_drop]
        exact Nat.lt_of_le_of_lt (wt_drop _ _) (wt_pos _ _)
    · obtain ⟨k, hk, h⟩ := List.mem_flatMap.mp h
      obtain ⟨n, hx, rfl⟩ := List.mem_map.mp h
      have hk := List.mem_range.mp hk
      obtain ⟨n1, n2⟩ := nums_mem hx
      rw [List.append_assoc]
      refine wt_cut ?_ ?_
      · rw [getD_drop hk]
        exact Nat.le_refl _
      · rw [getD_drop hk]
        show (n.toNat + 1) * ((r.drop (k + 1)).length + 1) + Wt (r.drop (k + 1)) < ((r.getD k 0).toNat + 1) * ((r.drop (k + 1)).length + 1) + Wt (r.drop (k + 1))
        have : (n.toNat + 1) * ((r.drop (k + 1)).length + 1) < ((r.getD k 0).toNat + 1) * ((r.drop (k + 1)).length + 1) := Nat.mul_lt_mul_of_pos_right (by omega) (by omega)
        omega
  · obtain ⟨k, hk, h⟩ := List.mem_flatMap.mp h
    have hk := List.mem_range.mp hk
    split at h
    · rename_i hlt
      rw [List.mem_singleton.mp h, List.append_assoc]
      have h0 : 0 ≤ r.getD (k + 1) 0 := by
        rw [List.getD_eq_getElem?_getD, List.getElem?_eq_getElem (by omega)]
        exact hn _ (List.getElem_mem _)
      have e : r.drop k = r.getD k 0 :: r.getD (k + 1) 0 :: r.drop (k + 2) := by
        rw [getD_drop (by omega), getD_drop (k := k + 1) (by omega)]
      refine wt_cut ?_ ?_
      · rw [e]
        exact Nat.le_refl _
      · rw [e]
        generalize r.drop (k + 2) = b at *
        generalize r.getD (k + 1) 0 = y at *
        generalize r.getD k 0 = x at *
        show (y.toNat + 1) * ((x :: b).length + 1) + ((x.toNat + 1) * (b.length + 1) + Wt b) < (x.toNat + 1) * ((y :: b).length + 1) + ((y.toNat + 1) * (b.length + 1) + Wt b)
        rw [List.length_cons, List.length_cons, Nat.mul_add (y.toNat + 1) (b.length + 1) 1, Nat.mul_add (x.toNat + 1) (b.length + 1) 1]
        omega
    · cases h
theorem left_take {g : Gn} {r l : List Int} (h : leftM g r = some l) : ∃ u, l = r.take u := by
  unfold leftM at h
  cases e : valueM r g 0 with
  | error o => rw [e] at h; cases h
  | ok p =>
    obtain ⟨x, u⟩ := p
    rw [e] at h
    cases h
    exact ⟨u, rfl⟩
theorem step_less {g : Gn} {c : Cn} {r l : List Int} (hn : ∀ x ∈ r, 0 ≤ x) (h : stepM g c r = some l) : Wt l < Wt r := by
  unfold stepM at h
  obtain ⟨x, hx, h⟩ := List.exists_of_findSome?_eq_some h
  unfold stepTo at h
  cases e : leftM g x with
  | none => rw [e] at h; cases h
  | some y =>
    rw [e] at h
    dsimp only at h
    split at h
    · cases h
      obtain ⟨u, rfl⟩ := left_take e
      exact Nat.lt_of_le_of_lt (wt_take u x) (cand_less hn hx)
    · cases h
theorem fails_in {g : Gn} {c : Cn} {r : List Int} (hs : Small g) (h : failsM g c r = true) : In100 r ∧ r.length ≤ mx g := by
  obtain ⟨v, h1, _⟩ := fails_ex h
  exact ⟨ex_in g hs h1, ex_len g h1⟩
/-- the course ends -/
theorem ends_of {g : Gn} {c : Cn} (hs : Small g) : ∀ (n : Nat) {r : List Int}, In100 r → Wt r ≤ n → endsM g c n r = true
  | 0, r, hi, hw => by
    unfold endsM
    cases e : stepM g c r with
    | none => rfl
    | some l =>
      have := step_less (fun x hx => (hi x hx).1) e
      omega
  | n + 1, r, hi, hw => by
    unfold endsM
    cases e : stepM g c r with
    | none => rfl
    | some l =>
      have h1 := step_less (fun x hx => (hi x hx).1) e
      exact ends_of hs n (fails_in hs (stepM_some e).2).1 (by omega)
theorem wt_le : ∀ {r : List Int} {m : Nat}, In100 r → r.length ≤ m → Wt r ≤ 101 * m * r.length
  | [], m, _, _ => Nat.zero_le _
  | x :: r, m, h, hl => by
    have hx := h x List.mem_cons_self
    have ih := wt_le (r := r) (m := m) (fun y hy => h y (List.mem_cons_of_mem _ hy)) (by rw [List.length_cons] at hl; omega)
    show (x.toNat + 1) * (r.length + 1) + Wt r ≤ 101 * m * (r.length + 1)
    have h2 : (x.toNat + 1) * (r.length + 1) ≤ 101 * m := Nat.mul_le_mul (by omega) (by rw [List.length_cons] at hl; exact hl)
    have e : 101 * m * (r.length + 1) = 101 * m * r.length + 101 * m := by rw [Nat.mul_add, Nat.mul_one]
    rw [e]
    omega
theorem ends_all {g : Gn} {c : Cn} (hs : Small g) (hm : mx g ≤ 90) {r : List Int} (h : failsM g c r = true) : endsM g c 1000000 r = true := by
  obtain ⟨h1, h2⟩ := fails_in hs h
  refine ends_of hs _ h1 ?_
  have h3 := wt_le h1 (m := 90) (by omega)
  have h4 : 101 * 90 * r.length ≤ 101 * 90 * 90 := Nat.mul_le_mul_left _ (by omega)
  omega
/-! what a course is -/
theorem course_cons {g : Gn} {c : Cn} {n : Nat} {r l : List Int} (h : stepM g c r = some l) : courseM g c (n + 1) r = r :: courseM g c n l := by
  show (match stepM g c r with | none => _ | some l => _) = _
  rw [h]
theorem course_none {g : Gn} {c : Cn} {r : List Int} (h : stepM g c r = none) : ∀ n, courseM g c n r = [r]
  | 0 => rfl
  | n + 1 => by
    show (match stepM g c r with | none => _ | some l => _) = _
    rw [h]
/-- the course, its last row, and its rows one after the other -/
theorem course_spec {g : Gn} {c : Cn} : ∀ (n : Nat) {r : List Int}, endsM g c n r = true → failsM g c r = true → ∃ rest last, courseM g c n r = r :: rest ∧ (r :: rest).getLast? = some last ∧ stepM g c last = none ∧ failsM g c last = true ∧ last.length ≤ r.length ∧
    (∀ x ∈ r :: rest, x.length ≤ r.length) ∧ (r :: rest).length ≤ n + 1 ∧ ∀ k a b, (r :: rest)[k]? = some a → (r :: rest)[k + 1]? = some b → stepM g c a = some b
  | n, r, he, hf => by
    cases e : stepM g c r with
    | none =>
      refine ⟨[], r, course_none e n, rfl, e, hf, Nat.le_refl _, one_part (Q := fun x : List Int => x.length ≤ r.length) (Nat.le_refl _), by show 1 ≤ n + 1; omega, fun k a b _ h2 => ?_⟩
      rw [List.getElem?_cons_succ] at h2
      cases h2
    | some l =>
      cases n with
      | zero =>
        unfold endsM at he
        rw [e] at he
        cases he
      | succ n =>
        unfold endsM at he
        rw [e] at he
        obtain ⟨s1, s2⟩ := stepM_some e
        have hl := lessM_len s1
        obtain ⟨rest, last, i1, i2, i3, i4, i5, i6, i7, i8⟩ := course_spec n he s2
        refine ⟨l :: rest, last, by rw [course_cons e, i1], by rw [List.getLast?_cons_cons]; exact i2, i3, i4, by omega, fun x hx => ?_, by rw [List.length_cons]; omega, fun k a b h1 h2 => ?_⟩
        · rcases List.mem_cons.mp hx with rfl | hx
          · exact Nat.le_refl _
          · have := i6 x hx
            omega
        · cases k with
          | zero =>
            cases h1
            cases h2
            exact e
          | succ k => exact i8 k a b h1 h2
end CR

set_option Elab.async false
set_option linter.all false
set_option maxRecDepth 100000
set_option maxHeartbeats 2000000
/-! # Walks: law -/
namespace CR
open PySem L2 Evl PyProof.Rows
abbrev szRow : List Int := [2, 4, 2, 4, 2, 4, 2, 4, 8]
theorem nine {l : List Int} (h : l.length = 9) : ∃ a0 a1 a2 a3 a4 a5 a6 a7 a8, l = [a0, a1, a2, a3, a4, a5, a6, a7, a8] := by
  match l, h with
  | [a0, a1, a2, a3, a4, a5, a6, a7, a8], _ => exact ⟨_, _, _, _, _, _, _, _, _, rfl⟩
/-! facts for the last rows -/
theorem least_mem {g : Gn} {c : Cn} {l : List Int} (h : leastM g c = some l) : ∃ e ∈ tableM g, e.r = l := by
  unfold leastM at h
  cases e : (tableM g).find? fun e => !c.val e.v with
  | none => rw [e] at h; cases h
  | some x =>
    rw [e] at h
    cases h
    exact ⟨x, List.mem_of_find?_eq_some e, rfl⟩
theorem least_settled {g : Gn} {c : Cn} {l : List Int} (h : leastM g c = some l) : stepM g c l = none := by
  cases e : stepM g c l with
  | none => rfl
  | some x =>
    obtain ⟨h1, h2⟩ := stepM_some e
    obtain ⟨l', h3, h4⟩ := least_le h2
    rw [h] at h3
    cases h3
    have h4 : lessM x l = false := h4
    rw [h1] at h4
    cases h4
theorem not_less {g : Gn} {c : Cn} {r l : List Int} (h : leastM g c = some l) (hf : failsM g c r = true) : lessM r l = false := by
  obtain ⟨l', h3, h4⟩ := least_le hf
  rw [h] at h3
  cases h3
  exact h4
theorem waste_mem {g : Gn} {c : Cn} {r : List Int} (h : r ∈ wasteM g c) : failsM g c r = true ∧ some r ≠ leastM g c ∧ stepM g c r = none ∧ ∃ e ∈ tableM g, e.r = r := by
  unfold wasteM at h
  obtain ⟨h1, h2⟩ := List.mem_filter.mp h
  obtain ⟨h3, h4⟩ := List.mem_filter.mp h1
  rw [Bool.and_eq_true, decide_eq_true_eq] at h2
  obtain ⟨e, he, h5⟩ := List.mem_map.mp h3
  exact ⟨h4, h2.1, Option.isNone_iff_eq_none.mp h2.2, e, he, h5⟩
theorem shaped_one (r : List Int) : SeqAt.shaped (.list [encR r]) = true := by
  unfold SeqAt.shaped encR
  simp only [PyData.canLay0, PyData.canLayAll0, PyData.depth, PyData.depthAll, lay_ints, dep_ints]
  rfl
theorem eqv_one (r : List Int) : PyData.eqv (.list [encR r]) (.list [encR r]) = true := by
  simp only [PyData.eqv, PyData.eqvAll, eqv_encR]
  simp
theorem cut_last {xs : List PyData} {x : PyData} (h : xs.getLast? = some x) : cutD xs (some (-1)) none = [x] := by
  rcases List.eq_nil_or_concat xs with rfl | ⟨init, y, rfl⟩
  · cases h
  · rw [List.concat_eq_append] at h ⊢
    rw [List.getLast?_append] at h
    cases h
    unfold cutD
    have e1 : HT.sIx (init ++ [y]).length 0 (some (-1)) = init.length := by
      rw [List.length_append]
      show HT.sIx (init.length + 1) 0 (some (-1)) = init.length
      unfold HT.sIx
      simp
      omega
    rw [e1, HT.sIx_none, List.length_append]
    show ((init ++ [y]).drop init.length).take (init.length + 1 - init.length) = [y]
    rw [List.drop_left]
    rw [show init.length + 1 - init.length = 1 by omega]
    rfl
theorem at_last {xs : List PyData} {x : PyData} (h : xs.getLast? = some x) : atI xs (-1) = some x := by
  rcases List.eq_nil_or_concat xs with rfl | ⟨init, y, rfl⟩
  · cases h
  · rw [List.concat_eq_append] at h ⊢
    rw [List.getLast?_append] at h
    cases h
    unfold atI
    rw [List.length_append]
    have e : ixN (init.length + 1) (-1) = some init.length := by
      unfold ixN
      simp
      omega
    show (ixN (init.length + 1) (-1)).bind _ = _
    rw [e]
    simp
section
variable {P : Program} {w : World} {K : PySem.W.Frag} {mg : Str → Option Value} {base : Heap} {T : List TabN} {f : Addr} {fd : FuncData}
def PreLaw (K : PySem.W.Frag) (G H : Hp) (sds : List SD) (d : PyData) : Prop := ∃ (a : Addr) (ns : List Int), sds = [.ref a] ∧ SqL K H a (ns.map V.int) ∧ d = .bool true
abbrev NLaw : List Str := ["_law_script", "_law_w", "_law_test_here", "_law_least", "_law_rows", "_law_j", "_law_digits", "_law_k", "_law_row", "_law_told"]
theorem scLaw : FnScope NLaw ["_law_script"] (defScope (top 60)) := ⟨rfl, rfl, rfl, by decide +kernel, rfl, by decide +kernel, by decide +kernel⟩
theorem ok_law (D : DefK K mg "law" 60 ["_law_script"] f fd) (m : MgN mg) (htst : Cal P w K mg base CX0 5 "_law_test" (spX T (PreTst K))) (hdr : Cal P w K mg base CX0 2 "_law_draw" (spX T (PreDraw K))) (hls : Cal P w K mg base CX0 31 "least_failing" (spD T rLeast))
    (hfr : Cal P w K mg base CX0 44 "first_rows" (spD T rFirst)) (hsa : Cal P w K mg base CX0 43 "says" (spD T rSays)) (hco : Cal P w K mg base CX0 45 "course" (spD T rCourse)) (hse : Cal P w K mg base CX0 45 "is_settled" (spD T rSet)) (hle : Cal P w K mg base CX0 1 "is_less" (spD T rLess))
    (hst : Cal P w K mg base CX0 44 "step" (spD T rStep)) (hwa : Cal P w K mg base CX0 46 "waste" (spD T rWaste)) : FnOk P w K mg base CX0 47 f fd ["_law_script"] (spX T (PreLaw K)) := by
  refine fn_x (C := 0) D.fn scLaw (fun G H sds d ⟨a, ns, e, _⟩ => by rw [e]; rfl) (fun cdv A outer s H E G sds d hr hcd hR => ?_)
  obtain ⟨a, ns, rfl, hS, rfl⟩ := hR
  refine FT.h ?_
  have hz2 : (10000000 : Nat) < sizeLine := big2
  have hu := hr.units
  have hnw : 0 ≤ (if (1 + (ns.length : Int) / 8) < 4 then 1 + (ns.length : Int) / 8 else 4) ∧ (if (1 + (ns.length : Int) / 8) < 4 then 1 + (ns.length : Int) / 8 else 4) ≤ 4 := by
    split <;> omega
  refine ft_for PassesOwn.never rfl (evI_range1 (n := if (1 + (ns.length : Int) / 8) < 4 then 1 + (ns.length : Int) / 8 else 4) m.range (FE.h (f_min2 rfl m.min f_int (f_add f_int (f_fdiv ⟨ev_lenS 0 m.len rfl hS (fun _ z => z)⟩ f_int ⟨by decide, by decide⟩)))) ⟨by omega, by omega⟩)
    (fun j δ => ∃ a1 a2 a3 a4 a5 a6 a7 a8 a9 : SD, δ = [.ref a, a1, a2, a3, a4, a5, a6, a7, a8, a9]) ⟨_, _, _, _, _, _, _, _, _, rfl⟩ ?_ ?_
  · rintro wn y δ hy ⟨a1, a2, a3, a4, a5, a6, a7, a8, a9, rfl⟩
    obtain ⟨hwn, rfl⟩ := rangeD_get hy
    have hw4 : wn < 4 := by omega
    have hT := law_tst ns (8 * wn)
    refine ⟨_, _, evG_name 1 scLaw.nd, ?_⟩
    refine ft_asg 2 (d := encTest (tstG ns (8 * wn)).1 (tstG ns (8 * wn)).2) (f_callX htst (hr.mono (by omega)) (fS_ref 0 rfl (fS_cons (f_mul f_int (f_var 1 rfl) (.inl ⟨by decide, by decide⟩)) fS_nil))
      (fun σ G2 H2 s2 => ⟨a, ns, 8 * wn, by rw [Int.zero_add]; rfl, s2.script (fun _ z => z) hS, by omega, rfl⟩)) scLaw.nd ?_
    generalize (tstG ns (8 * wn)).1 = g at hT ⊢
    generalize (tstG ns (8 * wn)).2 = c at hT ⊢
    have hok := hT.ok
    refine ft_asg 3 (d := encO (leastM g c)) (f_call hls (hr.mono (by omega)) (fA_cons (f_var 2 rfl) fA_nil) ⟨g, c, rfl, hok, rfl⟩) scLaw.nd ?_
    generalize hrows0 : (((allM g).map fun p => p.1).take 50).drop 10 = rows0
    have hl0 : rows0.length ≤ 40 := by
      rw [← hrows0, List.length_drop, List.length_take]
      omega
    have er0 : cutD (((allM g).map fun p => encR p.1).take 50) (some ((10 : Nat) : Int)) none = rows0.map encR := by
      rw [cut_from, ← hrows0, List.map_drop, List.map_take, List.map_map]
      rfl
    refine ft_asg 4 (d := .list (rows0.map encR)) (FE.eq (f_slL (l := some ((10 : Nat) : Int)) (r := none) (f_call hfr (hr.mono (by omega)) (fA_cons (f_ixT (xs := [g.enc, c.enc]) (d := g.enc) (f_var 2 rfl) f_int rfl) (fA_cons f_int fA_nil)) ⟨g, 50, rfl, hok.tp, hT.rp, hok.dep, by omega, rfl⟩) (ev_int (i := 10)) trivial) (by rw [er0])) scLaw.nd ?_
    refine ft_for PassesOwn.never rfl (ys := rangeD 0 2) (EvI.eq (evI_range1 (n := 2) m.range ev_int ⟨by omega, by omega⟩) rfl)
      (fun j δ => ∃ (rows : List (List Int)) (a5 a6 a7 a8 a9 : SD), rows.length ≤ 40 + 8 * j ∧ δ = [.ref a, .d (.int (0 + (wn : Nat))), .d (encTest g c), .d (encO (leastM g c)), .d (.list (rows.map encR)), a5, a6, a7, a8, a9]) ⟨rows0, _, _, _, _, _, by omega, rfl⟩ ?_ ?_
    · rintro jn y δ hy ⟨rows, a5, a6, a7, a8, a9, hrl, rfl⟩
      obtain ⟨hj, rfl⟩ := rangeD_get hy
      refine ⟨_, _, evG_name 5 scLaw.nd, ?_⟩
      obtain ⟨b0, b1, b2, b3, b4, b5, b6, b7, b8, el⟩ := nine (drawL_len ns (8 * wn + 6 + jn) szRow)
      have hB : Below (drawL ns (8 * wn + 6 + jn) szRow) szRow := drawL_below ns _ szRow (by decide)
      have hd : (PyData.list ((drawL ns (8 * wn + 6 + jn) szRow).map .int)) = .list [.int b0, .int b1, .int b2, .int b3, .int b4, .int b5, .int b6, .int b7, .int b8] := by rw [el]; rfl
      rw [el] at hB
      obtain ⟨_, _, _, _, _, _, _, _, ⟨h80, h81⟩, _⟩ := hB
      refine ft_asg 6 (d := .list [.int b0, .int b1, .int b2, .int b3, .int b4, .int b5, .int b6, .int b7, .int b8]) (f_callX hdr (hr.mono (by omega)) (fS_ref 0 rfl (fS_cons (f_add (f_add (f_mul f_int (f_var 1 rfl) (.inl ⟨by decide, by decide⟩)) f_int) (f_var 5 rfl)) (fS_cons (x := .list (szRow.map .int)) (f_lst (fA_cons f_int (fA_cons f_int (fA_cons f_int (fA_cons f_int (fA_cons f_int (fA_cons f_int (fA_cons f_int (fA_cons f_int (fA_cons f_int fA_nil)))))))))) fS_nil)))
        (fun σ G2 H2 s2 => ⟨a, ns, 8 * wn + 6 + jn, szRow, by rw [Int.zero_add, Int.zero_add]; rfl, s2.script (fun _ z => z) hS, by omega, by decide, by decide, hd.symm⟩)) scLaw.nd ?_
      refine ft_asg 4 (d := .list ((rows ++ (List.range (b8 + 1).toNat).map fun i => [b0, b1, b2, b3, b4, b5, b6, b7, b8].take i).map encR)) (FE.eq (f_catL (f_var 4 rfl) (ys := ((List.range (b8 + 1).toNat).map fun i => encR ([b0, b1, b2, b3, b4, b5, b6, b7, b8].take i)))
        ⟨ev_lcA (own := [("_law_k", 7)]) (List.range (b8 + 1).toNat) (fun i => .int (0 + (i : Nat))) (fun y => (dint y).toNat) (fun i => encR ([b0, b1, b2, b3, b4, b5, b6, b7, b8].take i)) [7] (fun i _ => by show ((0 : Int) + (i : Nat)).toNat = i; omega) rfl scLaw.nd
          (blkOk_by (N := NLaw) (sc := defScope (top 60)) (by decide +kernel)) rfl (EvI.eq (evI_range1 (n := b8 + 1) m.range (FE.h (f_add (f_ixL (d := .int b8) (f_var 6 rfl) f_int rfl) f_int)) ⟨by omega, by omega⟩) rfl) (fun i hi => ?_) (by rw [List.length_range]; omega)⟩ ?_) ?_) scLaw.nd (ft_nil ⟨_, _, _, _, _, _, ?_, rfl⟩)
      · refine ⟨_, [7], fun _ h => h, fun s0 H0 C cl fp => ⟨evG_name 7 scLaw.nd, evIf_nil, fun _ => ?_⟩⟩
        refine FE.h (FE.eq (f_tupleL m.tuple (f_slL (l := none) (r := some ((0 : Int) + (i : Nat))) (f_var 6 rfl) trivial (FE.h (f_var 7 rfl)))) ?_)
        rw [Int.zero_add, cut_to2]
        show PyData.tuple (([b0, b1, b2, b3, b4, b5, b6, b7, b8].map PyData.int).take i) = encR _
        rw [← List.map_take]
        rfl
      · rw [List.length_map, List.length_map, List.length_range]
        omega
      · rw [List.map_append, List.map_map]
        rfl
      · rw [List.length_append, List.length_map, List.length_range]
        omega
    · rintro δ ⟨rows, a5, a6, a7, a8, a9, hrl, rfl⟩
      rw [rangeD_length] at hrl
      have hin : ∀ r, failsM g c r = true → r.length ≤ 1000 := fun r h => by
        have h1 := (fails_in hT.sm h).2
        have h2 := hT.mx
        omega
      refine ft_for PassesOwn.never rfl (evI_list (ev_lcM (own := [("_law_row", 8)]) rows encR dints (fun r => failsM g c r) encR [8] (fun r _ => dints_enc r) rfl scLaw.nd (blkOk_by (N := NLaw) (sc := defScope (top 60)) (by decide +kernel)) rfl (evI_list (FE.h (f_var 4 rfl))) (fun r hr2 => ?_) (by omega)))
        (fun j δ => ∃ (a5 a6 a7 a8 a9 : SD), δ = [.ref a, .d (.int (0 + (wn : Nat))), .d (encTest g c), .d (encO (leastM g c)), .d (.list (rows.map encR)), a5, a6, a7, a8, a9]) ⟨_, _, _, _, _, rfl⟩ ?_ ?_
      · exact ⟨_, [8], fun _ h => h, fun s0 H0 C cl fp => ⟨evG_name 8 scLaw.nd,
          evIf_one (FB.h (FB.eq (fB_eqS (u := saysS g c r) (FE.eq (f_call hsa (hr.mono (by omega)) (fA_cons (f_var 2 rfl) (fA_cons (f_var 8 rfl) fA_nil)) ⟨g, c, r, rfl, hok, rfl⟩) (says_str g c r)) f_str) (says_fails g c r))), fun _ => FE.h (f_var 8 rfl)⟩⟩
      · rintro rn y δ hy ⟨a5, a6, a7, a8, a9, rfl⟩
        have hym := List.mem_of_getElem? hy
        obtain ⟨r, hrm, rfl⟩ := List.mem_map.mp hym
        have hf : failsM g c r = true := (List.mem_filter.mp hrm).2
        have hrl := hin r hf
        have hends := ends_all hT.sm (Nat.le_trans hT.mx (by omega)) hf
        obtain ⟨rest, last, i1, i2, i3, i4, i5, i6, i7, i8⟩ := course_spec 1000000 hends hf
        have hlast := hin last i4
        have hmlast : ((r :: rest).map encR).getLast? = some (encR last) := by rw [List.getLast?_map, i2]; rfl
        have hat0 : atI ((r :: rest).map encR) 0 = some (encR r) := atI_nat (j := 0) rfl
        refine ⟨_, _, evG_name 8 scLaw.nd, ?_⟩
        refine ft_asg 9 (d := .list ((r :: rest).map encR)) (f_call hco (hr.mono (by omega)) (fA_cons (f_var 2 rfl) (fA_cons (f_var 8 rfl) fA_nil)) ⟨g, c, r, 1000000, rfl, hok, hrl, by omega, hends, by rw [i1]; rfl⟩) scLaw.nd ?_
        refine ft_ifF (FB.eq (fB_w (fW_or (p := !PyData.eqv (encR r) (encR r)) (q := (!(stepM g c last).isNone) || !PyData.eqv (.list [encR last]) (.list [encR last])) (fB_neD hu (f_ixL (d := encR r) (f_var 9 rfl) f_int hat0) (f_var 8 rfl) (shaped_encR r) (shaped_encR r))
          (fun _ => fW_or (fB_not (fB_val (f_call hse (hr.mono (by omega)) (fA_cons (f_var 2 rfl) (fA_cons (f_ixL (d := encR last) (f_var 9 rfl) (f_neg f_int) (at_last hmlast)) fA_nil)) ⟨g, c, last, rfl, hok, hlast, rfl⟩)))
            (fun _ => fW_or1 (fB_neD hu (f_call hco (hr.mono (by omega)) (fA_cons (f_var 2 rfl) (fA_cons (f_ixL (d := encR last) (f_var 9 rfl) (f_neg f_int) (at_last hmlast)) fA_nil)) ⟨g, c, last, 0, rfl, hok, hlast, by omega, by unfold endsM; rw [i3]; rfl, by rw [course_none i3]; rfl⟩)
              (FE.eq (f_slL (l := some (-1)) (r := none) (f_var 9 rfl) (ev_neg (ev_int (i := 1))) trivial) (by rw [cut_last hmlast])) (shaped_one last) (shaped_one last)))))) ?_) ?_
        · rw [eqv_encR, i3, eqv_one, decide_eq_true (rfl : r = r)]
          rfl
        obtain ⟨l, hl, hle2⟩ := least_le hf
        have hnl : lessM last l = false := not_less hl i4
        refine ft_ifF (FB.eq (fB_val (p := lessM last l) (f_call hle (hr.mono (by omega)) (fA_cons (f_ixL (d := encR last) (f_var 9 rfl) (f_neg f_int) (at_last hmlast)) (fA_cons (x := encR l) (FE.eq (f_var 3 rfl) (by rw [hl]; rfl)) fA_nil)) ⟨last, l, rfl, rfl⟩)) hnl) ?_
        refine ft_for PassesOwn.never rfl (ys := rangeD 1 rest.length) (EvI.eq (evI_range2 (l := 1) (n := (((r :: rest).map encR).length : Int)) m.range ev_int (FE.h (f_lenL m.len (f_var 9 rfl))) ?_) ?_)
          (fun j δ => ∃ (a7 : SD), δ = [.ref a, .d (.int (0 + (wn : Nat))), .d (encTest g c), .d (encO (leastM g c)), .d (.list (rows.map encR)), a5, a6, a7, .d (encR r), .d (.list ((r :: rest).map encR))]) ⟨_, rfl⟩ ?_ ?_
        · rw [List.length_map]
          omega
        · rw [List.length_map, List.length_cons]
          congr 1
          omega
        · rintro kn y δ hy ⟨a7, rfl⟩
          obtain ⟨hk, rfl⟩ := rangeD_get hy
          have hk1 : kn < (r :: rest).length := by rw [List.length_cons]; omega
          have hk2 : kn + 1 < (r :: rest).length := by rw [List.length_cons]; omega
          have ea : (r :: rest)[kn]? = some (r :: rest)[kn] := List.getElem?_eq_getElem hk1
          have eb : (r :: rest)[kn + 1]? = some (r :: rest)[kn + 1] := List.getElem?_eq_getElem hk2
          generalize (r :: rest)[kn] = ra at ea
          generalize (r :: rest)[kn + 1] = rb at eb
          have hs := i8 kn ra rb ea eb
          obtain ⟨s1, s2⟩ := stepM_some hs
          have hra : ra.length ≤ 1000 := by
            have := i6 ra (List.mem_of_getElem? ea)
            omega
          have hatb : atI ((r :: rest).map encR) (1 + (kn : Nat)) = some (encR rb) := by
            rw [show (1 : Int) + (kn : Nat) = ((kn + 1 : Nat) : Int) by omega]
            exact atI_nat (by rw [List.getElem?_map, eb]; rfl)
          have hata : atI ((r :: rest).map encR) (1 + (kn : Nat) - 1) = some (encR ra) := by
            rw [show (1 : Int) + (kn : Nat) - 1 = ((kn : Nat) : Int) by omega]
            exact atI_nat (by rw [List.getElem?_map, ea]; rfl)
          refine ⟨_, _, evG_name 7 scLaw.nd, ?_⟩
          refine ft_ifF (FB.eq (fB_w (fW_or (p := !decide (saysS g c rb = "fails")) (q := (!lessM rb ra) || !PyData.eqv (encR rb) (encR rb)) (fB_neS (u := saysS g c rb) (FE.eq (f_call hsa (hr.mono (by omega)) (fA_cons (f_var 2 rfl) (fA_cons (f_ixL (d := encR rb) (f_var 9 rfl) (f_var 7 rfl) hatb) fA_nil)) ⟨g, c, rb, rfl, hok, rfl⟩) (says_str g c rb)) f_str)
            (fun _ => fW_or (fB_not (fB_val (f_call hle (hr.mono (by omega)) (fA_cons (f_ixL (d := encR rb) (f_var 9 rfl) (f_var 7 rfl) hatb) (fA_cons (f_ixL (d := encR ra) (f_var 9 rfl) (f_sub (f_var 7 rfl) f_int) hata) fA_nil)) ⟨rb, ra, rfl, rfl⟩)))
              (fun _ => fW_or1 (fB_neD hu (FE.eq (f_call hst (hr.mono (by omega)) (fA_cons (f_var 2 rfl) (fA_cons (f_ixL (d := encR ra) (f_var 9 rfl) (f_sub (f_var 7 rfl) f_int) hata) fA_nil)) ⟨g, c, ra, rfl, hok, hra, rfl⟩) (by rw [hs]; rfl)) (f_ixL (d := encR rb) (f_var 9 rfl) (f_var 7 rfl) hatb) (shaped_encR rb) (shaped_encR rb)))))) ?_) (ft_nil ⟨_, rfl⟩)
          rw [says_fails, s2, s1, eqv_encR, decide_eq_true (rfl : rb = rb)]
          rfl
        · rintro δ ⟨a7, rfl⟩
          exact ft_nil ⟨_, _, _, _, _, rfl⟩
      · rintro δ ⟨a5, a6, a7, a8, a9, rfl⟩
        have htv : ∀ r, (∃ e ∈ tableM g, e.r = r) → r.length ≤ 1000 := fun r ⟨e, he, h⟩ => by
          rw [← h]
          exact (hok.tv e he).2
        refine ft_ifF ?_ ?_
        · cases hl : leastM g c with
          | none => exact FB.eq (fB_w (fW_and (p := false) (q := false) (FB.eq (fB_notN (x := PyData.none) (f_var 3 rfl)) rfl) (fun z => nomatch z))) rfl
          | some l =>
            refine FB.eq (fB_w (fW_and (p := true) (q := !(stepM g c l).isNone) (FB.eq (fB_notN (x := encR l) (f_var 3 rfl)) rfl) (fun _ => fW_and1 (fB_not (fB_val (f_call hse (hr.mono (by omega)) (fA_cons (f_var 2 rfl) (fA_cons (x := encR l) (f_var 3 rfl) fA_nil)) ⟨g, c, l, rfl, hok, htv l (least_mem hl), rfl⟩)))))) ?_
            rw [least_settled hl]
            rfl
        · refine ft_for PassesOwn.never rfl (evI_list (FE.h (f_call (d := .list ((wasteM g c).map encR)) hwa hr (fA_cons (f_var 2 rfl) fA_nil) ⟨g, c, rfl, hok, rfl⟩)))
            (fun j δ => ∃ (a8 : SD), δ = [.ref a, .d (.int (0 + (wn : Nat))), .d (encTest g c), .d (encO (leastM g c)), .d (.list (rows.map encR)), a5, a6, a7, a8, a9]) ⟨_, rfl⟩ ?_ ?_
          · rintro kn y δ hy ⟨a8, rfl⟩
            obtain ⟨r, hrm, rfl⟩ := List.mem_map.mp (List.mem_of_getElem? hy)
            obtain ⟨w1, w2, w3, w4⟩ := waste_mem hrm
            refine ⟨_, _, evG_name 8 scLaw.nd, ?_⟩
            refine ft_ifF (FB.eq (fB_w (fW_or (p := PyData.eqv (encR r) (encO (leastM g c))) (q := (!(stepM g c r).isNone) || !decide (saysS g c r = "fails")) (fB_eqD hu (f_var 8 rfl) (f_var 3 rfl) (shaped_encR r) (shaped_encO _))
              (fun _ => fW_or (fB_not (fB_val (f_call hse (hr.mono (by omega)) (fA_cons (f_var 2 rfl) (fA_cons (f_var 8 rfl) fA_nil)) ⟨g, c, r, rfl, hok, htv r w4, rfl⟩)))
                (fun _ => fW_or1 (fB_neS (u := saysS g c r) (FE.eq (f_call hsa (hr.mono (by omega)) (fA_cons (f_var 2 rfl) (fA_cons (f_var 8 rfl) fA_nil)) ⟨g, c, r, rfl, hok, rfl⟩) (says_str g c r)) f_str))))) ?_) (ft_nil ⟨_, rfl⟩)
            rw [eqv_encO, w3, says_fails, w1, decide_eq_false w2]
            rfl
          · rintro δ ⟨a8, rfl⟩
            exact ft_nil ⟨_, _, _, _, _, _, _, _, _, rfl⟩
  · rintro δ ⟨a1, a2, a3, a4, a5, a6, a7, a8, a9, rfl⟩
    exact ft_ret ⟨ev_bool⟩ rfl
end
end CR

set_option Elab.async false
set_option linter.all false
set_option maxRecDepth 100000
set_option maxHeartbeats 1000000
/-! # The join: all the calls -/
namespace CR
open PySem L2 Evl PyProof.Rows
abbrev DE (K : PySem.W.Frag) (mg : Str → Option Value) (x : Str) (i : Nat) (ps : List Str) : Prop := ∃ f fd, DefK K mg x i ps f fd
abbrev DT (base : Heap) (mg : Str → Option Value) (T : List TabN) (K : PySem.W.Frag) (x : Str) (i : Nat) (ps : List Str) (q : Option Str) : Prop := ∃ f fd c p, DefK K mg x i ps f fd ∧ TbOf base mg T fd.code q c p
/-- what the module says of its defs -/
structure DefsA (K : PySem.W.Frag) (mg : Str → Option Value) : Prop where
  holds : DE K mg "holds" 7 ["condition", "value"]
  turn : DE K mg "turn" 12 ["some_map", "value"]
  parts : DE K mg "parts_of" 13 ["generator"]
  draw : DE K mg "draw" 17 ["generator", "row"]
  less : DE K mg "is_less" 19 ["row", "other"]
  put : DE K mg "put_together" 22 ["triples"]
  mul : DE K mg "multiplied" 23 ["first", "second"]
  behind : DE K mg "behind" 24 ["triples", "choices"]
  check : DE K mg "check_many" 25 ["many", "path"]
  power : DE K mg "power" 26 ["base", "many"]
  tl : DE K mg "table_of_list" 28 ["part", "least", "most", "path"]
  tr : DE K mg "table_of_repeat" 29 ["first", "other", "path"]
  tri : DE K mg "triples_of" 30 ["generator", "tables", "path"]
  tab : DE K mg "table_at" 31 ["generator", "path"]
  table : DE K mg "table" 32 ["generator"]
  count : DE K mg "count_rows" 33 ["generator"]
  listed : DE K mg "listed_rows" 34 ["part", "least", "most"]
  rop : DE K mg "rows_of_parts" 36 ["generator", "parts"]
  rat : DE K mg "rows_at" 37 ["generator", "path"]
  first : DE K mg "first_rows" 39 ["generator", "many"]
structure DefsB (K : PySem.W.Frag) (mg : Str → Option Value) : Prop where
  says : DE K mg "says" 41 ["test", "row"]
  least : DE K mg "least_failing" 42 ["test"]
  sho : DE K mg "shortened" 44 ["row"]
  low : DE K mg "lowered" 45 ["row"]
  exc : DE K mg "exchanged" 46 ["row"]
  cand : DE K mg "candidates" 47 ["row"]
  left : DE K mg "left_by" 48 ["generator", "row"]
  step : DE K mg "step" 49 ["test", "row"]
  settled : DE K mg "is_settled" 50 ["test", "row"]
  course : DE K mg "course" 51 ["test", "row"]
  waste : DE K mg "waste" 52 ["test"]
  cell : DE K mg "_law_cell" 54 ["_law_script", "_law_k"]
  drw : DE K mg "_law_draw" 55 ["_law_script", "_law_k", "_law_sizes"]
  about : DE K mg "_law_about" 56 ["_law_digits"]
  num : DE K mg "_law_number" 57 ["_law_script", "_law_k"]
  lis : DE K mg "_law_listed" 58 ["_law_script", "_law_k", "_law_wide"]
  tst : DE K mg "_law_test" 59 ["_law_script", "_law_k"]
structure DefsT (base : Heap) (mg : Str → Option Value) (T : List TabN) (K : PySem.W.Frag) : Prop where
  rises : DT base mg T K "rises" 4 ["value"] none
  diff : DT base mg T K "is_different" 5 ["value"] none
  hlist : DT base mg T K "holds_list" 6 ["condition", "value"] none
  ord : DT base mg T K "in_order" 21 ["found"] (some ("in_order" ++ ".<locals>." ++ "<lambda>"))
  tt : DT base mg T K "table_of_tuple" 27 ["tables", "path"] none
  joined : DT base mg T K "joined_rows" 35 ["parts"] none
  all : DT base mg T K "all_rows" 38 ["generator"] (some ("all_rows" ++ ".<locals>." ++ "<lambda>"))
/-- the class Draw -/
structure DrawK (P : Program) (K : PySem.W.Frag) (mg : Str → Option Value) : Prop where
  ex : ∃ C S fI fi fdi, DrawC P K mg C S fI ∧ MetsK K C ∧ mg "Draw" = some (.ref C) ∧ Mk K C fi ∧ Fun K "__init__" "Draw.__init__" (mth 0) fi fdi ∧ Binds K fdi ["self", "row"] []
section
variable {P : Program} {w : World} {K : PySem.W.Frag} {mg : Str → Option Value} {base : Heap} {T : List TabN} {f : Addr} {fd : FuncData}
theorem law_ok (A : DefsA K mg) (B : DefsB K mg) (U : DefsT base mg T K) (W : DrawK P K mg) (m : MgN mg) (D : DefK K mg "law" 60 ["_law_script"] f fd) : FnOk P w K mg base CX0 47 f fd ["_law_script"] (spX T (PreLaw K)) := by
  obtain ⟨f1, fd1, c1, p1, d1, t1⟩ := U.rises
  obtain ⟨f2, fd2, c2, p2, d2, t2⟩ := U.diff
  obtain ⟨f3, fd3, c3, p3, d3, t3⟩ := U.hlist
  obtain ⟨f4, fd4, d4⟩ := A.holds
  have hH : ∀ n, CalH P w K mg base T n := cal_holds (c := 0) (p := 0) d1 d2 d3 d4 m t1 t2 t3
  have h17 : Cal P w K mg base CX0 17 "holds" (spD T (rHolds 4)) := hH 4
  have h20 : Cal P w K mg base CX0 20 "holds" (spD T (rHolds 5)) := hH 5
  obtain ⟨_, _, e1⟩ := A.turn
  have hturn := e1.cal (ok_turn (P := P) (w := w) (base := base) (T := T) e1 m)
  obtain ⟨_, _, e2⟩ := A.parts
  have hparts := e2.cal (ok_parts (P := P) (w := w) (base := base) (T := T) e2 m)
  obtain ⟨_, _, e3⟩ := A.less
  have hless := e3.cal (ok_less (P := P) (w := w) (base := base) (T := T) e3 m)
  obtain ⟨_, _, e4⟩ := A.check
  have hcheck := e4.cal (ok_check (P := P) (w := w) (base := base) (T := T) e4 m)
  obtain ⟨_, _, e5⟩ := A.power
  have hpow := e5.cal (ok_pow (P := P) (w := w) (base := base) (T := T) e5 m)
  obtain ⟨_, _, e6⟩ := A.behind
  have hbeh := e6.cal (ok_behind (P := P) (w := w) (base := base) (T := T) e6 m)
  obtain ⟨_, _, e7⟩ := A.mul
  have hmul := e7.cal (ok_mul (P := P) (w := w) (base := base) (T := T) e7 m)
  obtain ⟨_, _, _, _, e8, u8⟩ := U.tt
  have htt := e8.cal (ok_tt (P := P) (w := w) e8 m u8 hcheck hmul)
  obtain ⟨_, _, e9⟩ := A.tl
  have htl := e9.cal (ok_tl (P := P) (w := w) e9 m hcheck hmul hpow hbeh)
  obtain ⟨_, _, e10⟩ := A.tr
  have htr := e10.cal (ok_tr (P := P) (w := w) (p := 0) e10 m hcheck hmul hpow)
  obtain ⟨_, _, _, _, e11, u11⟩ := U.ord
  have hord := e11.cal (ok_ord (P := P) (w := w) e11 m u11)
  obtain ⟨_, _, e12⟩ := A.put
  have hput := e12.cal (ok_put (P := P) (w := w) e12 m hord)
  obtain ⟨_, _, e13⟩ := A.tri
  have htri := e13.cal (ok_tri (P := P) (w := w) e13 m hcheck htt htl htr (hH 4) hturn)
  obtain ⟨_, _, e14⟩ := A.tab
  have hT : ∀ n, CalT P w K mg base T n := fun n => by
    induction n using Nat.strongRecOn with
    | _ n ih => exact e14.cal (ok_tab n e14 m hparts htri hput hcheck ih)
  obtain ⟨_, _, e15⟩ := A.table
  have htable := e15.cal (ok_table (P := P) (w := w) e15 (hT 10))
  obtain ⟨_, _, e16⟩ := A.count
  have hcount := e16.cal (ok_count (P := P) (w := w) e16 m htable)
  obtain ⟨_, _, e17⟩ := A.listed
  have hlisted := e17.cal (ok_listed (P := P) (w := w) (base := base) (T := T) e17 m)
  obtain ⟨_, _, _, _, e18, u18⟩ := U.joined
  have hjoined := e18.cal (ok_joined (P := P) (w := w) e18 m u18)
  obtain ⟨_, _, e19⟩ := A.rop
  have hrop := e19.cal (ok_rop (P := P) (w := w) e19 m hjoined hlisted (hH 4) hturn)
  obtain ⟨_, _, e20⟩ := A.rat
  have hRA : ∀ n, CalRA P w K mg base T n := fun n => by
    induction n using Nat.strongRecOn with
    | _ n ih => exact e20.cal (ok_rat n e20 m hparts hcount htable hrop ih)
  obtain ⟨_, _, _, _, e21, u21⟩ := U.all
  have hall := e21.cal (ok_all (P := P) (w := w) e21 m u21 htable (hRA 10))
  obtain ⟨_, _, e22⟩ := A.first
  have hfirst := e22.cal (ok_first (P := P) (w := w) e22 m hall)
  obtain ⟨C, S, fI, fi, fdi, W1, W2, W3, W4, W5, W6⟩ := W.ex
  have hval := cal_value (P := P) (w := w) (base := base) (T := T) W2 m W1 hturn h17 10
  obtain ⟨_, _, e23⟩ := A.draw
  have hdraw := e23.cal (ok_draw (P := P) (w := w) e23 m W1 W3 W4 W5 W6 hval)
  obtain ⟨_, _, e24⟩ := B.says
  have hsays := e24.cal (ok_says (P := P) (w := w) e24 m hdraw h20)
  obtain ⟨_, _, e25⟩ := B.least
  have hleast := e25.cal (ok_least (P := P) (w := w) e25 m htable h20)
  obtain ⟨_, _, e26⟩ := B.left
  have hleft := e26.cal (ok_left (P := P) (w := w) e26 m hdraw)
  obtain ⟨_, _, e27⟩ := B.sho
  have hsho := e27.cal (ok_sho (P := P) (w := w) (base := base) (T := T) e27 m)
  obtain ⟨_, _, e28⟩ := B.low
  have hlow := e28.cal (ok_low (P := P) (w := w) (base := base) (T := T) e28 m)
  obtain ⟨_, _, e29⟩ := B.exc
  have hexc := e29.cal (ok_exc (P := P) (w := w) (base := base) (T := T) e29 m)
  obtain ⟨_, _, e30⟩ := B.cand
  have hcand := e30.cal (ok_cand (P := P) (w := w) e30 hsho hlow hexc)
  obtain ⟨_, _, e31⟩ := B.step
  have hstep := e31.cal (ok_step (P := P) (w := w) e31 hcand hleft hless hsays)
  obtain ⟨_, _, e32⟩ := B.settled
  have hset := e32.cal (ok_set (P := P) (w := w) e32 hstep)
  obtain ⟨_, _, e33⟩ := B.course
  have hcou := e33.cal (ok_cou (P := P) (w := w) e33 hstep)
  obtain ⟨_, _, e34⟩ := B.waste
  have hwas := e34.cal (ok_was (P := P) (w := w) e34 htable hleast hsays hset)
  obtain ⟨_, _, e35⟩ := B.cell
  have hcell := e35.cal (ok_cell (P := P) (w := w) (base := base) (T := T) e35 m)
  obtain ⟨_, _, e36⟩ := B.drw
  have hdrw := e36.cal (ok_drw (P := P) (w := w) e36 m hcell)
  obtain ⟨_, _, e37⟩ := B.about
  have habo := e37.cal (ok_abo (P := P) (w := w) (base := base) (T := T) e37)
  obtain ⟨_, _, e38⟩ := B.num
  have hnum := e38.cal (ok_num (P := P) (w := w) e38 hdrw habo)
  obtain ⟨_, _, e39⟩ := B.lis
  have hlis := e39.cal (ok_lis (P := P) (w := w) e39 hdrw hnum)
  obtain ⟨_, _, e40⟩ := B.tst
  have htst := e40.cal (ok_tst (P := P) (w := w) e40 hdrw habo hnum hlis)
  exact ok_law D m htst hdrw hleast hfirst hsays hcou hset hless hstep hwas
end
end CR

set_option Elab.async false
set_option linter.all false
set_option maxRecDepth 100000
set_option maxHeartbeats 2000000
/-! # The join: what the top leaves -/
namespace CR
open PySem L2 Evl PyProof.Rows
abbrev gd (x : Str) (i : Nat) : He.DefD := ⟨(x, none), x, x, defArgs (top i), defBody (top i), defScope (top i), [], []⟩
abbrev md (m q : Str) (j : Nat) : He.DefD := ⟨("Draw", some m), m, q, defArgs (mth j), defBody (mth j), defScope (mth j), [], []⟩
def fnG : List He.DefD := [gd "rises" 4, gd "is_different" 5, gd "holds_list" 6, gd "holds" 7, gd "turn" 12, gd "parts_of" 13, gd "draw" 17, gd "is_less" 19, gd "in_order" 21, gd "put_together" 22,
  gd "multiplied" 23, gd "behind" 24, gd "check_many" 25, gd "power" 26, gd "table_of_tuple" 27, gd "table_of_list" 28, gd "table_of_repeat" 29, gd "triples_of" 30, gd "table_at" 31, gd "table" 32,
  gd "count_rows" 33, gd "listed_rows" 34, gd "joined_rows" 35, gd "rows_of_parts" 36, gd "rows_at" 37, gd "all_rows" 38, gd "first_rows" 39]
def fnH : List He.DefD := [gd "says" 41, gd "least_failing" 42, gd "shortened" 44, gd "lowered" 45, gd "exchanged" 46, gd "candidates" 47, gd "left_by" 48, gd "step" 49, gd "is_settled" 50, gd "course" 51, gd "waste" 52,
  gd "_law_cell" 54, gd "_law_draw" 55, gd "_law_about" 56, gd "_law_number" 57, gd "_law_listed" 58, gd "_law_test" 59, gd "law" 60]
def fnM : List He.DefD := [md "__init__" "Draw.__init__" 0, md "choice" "Draw.choice" 1, md "refuse" "Draw.refuse" 2, md "listed" "Draw.listed" 3, md "repeated" "Draw.repeated" 4, md "kept" "Draw.kept" 5, md "value" "Draw.value" 6]
def fnAll : List He.DefD := fnG ++ (fnH ++ fnM)
def fa1 : List He.Fa := (fnG.map fun d => .glo d.name) ++ (fnH.map fun d => .glo d.name)
def fa2 : List He.Fa := [.int "LONG" 6, .int "VALUES" 2000, .int "EXACT" 5000, .glo "Stop", .glo "Draw", .free "len", .free "range", .free "all", .free "any", .free "sum", .free "tuple", .free "list", .free "sorted", .free "min", .free "super"]
def fa3 : List He.Fa := [.cls "Draw", .mkr "Draw", .noat "Draw" "row", .noat "Draw" "used", .meth "Draw" "choice", .meth "Draw" "refuse", .meth "Draw" "listed", .meth "Draw" "repeated", .meth "Draw" "kept", .meth "Draw" "value"]
def faAll : List He.Fa := fa2 ++ (fa3 ++ fa1)
/-- the defs with a table of nested code, and the name that is nested -/
def tq : List (He.Defn × Option Str) := [(("rises", none), none), (("is_different", none), none), (("holds_list", none), none), (("table_of_tuple", none), none), (("joined_rows", none), none),
  (("in_order", none), some ("in_order" ++ ".<locals>." ++ "<lambda>")), (("all_rows", none), some ("all_rows" ++ ".<locals>." ++ "<lambda>"))]
def tfs : List He.Defn := tq.map fun p => p.1
def tabsT (K : PySem.W.Frag) : List TabN := tq.map fun p => ((He.cT K p.1).2, p.2)
/-! ## Stop -/
def sC (K : PySem.W.Frag) : Addr := He.ga K "Stop"
def sI (K : PySem.W.Frag) : Addr := He.ma K (sC K) "__init__"
def slotB : List (Option Value) → Bool
  | [_, _, _, _, some (.builtin n), _] => decide (n = "Exception.__new__")
  | _ => false
def clsD (C : Addr) : Data → Bool
  | .cls cd => decide (cd.mro = .ref C :: PySem.ESX.exTail) && (cd.hasDict && !cd.hasDel)
  | _ => false
def typB : Value → Bool
  | .type t => decide (t = "type")
  | _ => false
def clsB (K : PySem.W.Frag) (C : Addr) : Bool := match K.lookup C with
  | some o => typB o.cls && (clsD C o.data && slotB o.slots.toList)
  | none => false
theorem slotB_ok {l : List (Option Value)} (h : slotB l = true) : ∃ k0 k1 k2 k3 k5, l = [k0, k1, k2, k3, some (.builtin "Exception.__new__"), k5] := by
  unfold slotB at h
  split at h
  · rename_i k0 k1 k2 k3 n k5
    have e : n = "Exception.__new__" := of_decide_eq_true h
    exact ⟨k0, k1, k2, k3, k5, by rw [e]⟩
  · cases h
theorem clsB_ok {K : PySem.W.Frag} {C : Addr} (h : clsB K C = true) : ∃ nm q N bs sn sub ab col dd k0 k1 k2 k3 k5, K.lookup C = some (excClassObj nm q C N bs PySem.ESX.exTail true sn sub ab col dd k0 k1 k2 k3 k5 "Exception.__new__") := by
  unfold clsB at h
  cases e : K.lookup C with
  | none => rw [e] at h; cases h
  | some o =>
    rw [e] at h
    obtain ⟨oc, od, dt, sl⟩ := o
    obtain ⟨h1, h2⟩ := He.ba h
    obtain ⟨h3, h4⟩ := He.ba h2
    obtain ⟨k0, k1, k2, k3, k5, hs⟩ := slotB_ok h4
    have hs2 : sl = #[k0, k1, k2, k3, some (.builtin "Exception.__new__"), k5] := by
      apply Array.toList_inj.mp
      exact hs
    subst hs2
    cases oc with
    | type t =>
      have et : t = "type" := of_decide_eq_true h1
      subst et
      cases dt with
      | cls cd =>
        obtain ⟨h5, h6⟩ := He.ba h3
        obtain ⟨h7, h8⟩ := He.ba h6
        have hm : cd.mro = .ref C :: PySem.ESX.exTail := of_decide_eq_true h5
        obtain ⟨c1, c2, c3, c4, c5, c6, c7, c8, c9, c10, c11⟩ := cd
        have e7 : c6 = true := h7
        have e8 : c11 = false := by simpa using h8
        have em : c3 = .ref C :: PySem.ESX.exTail := hm
        clear h h1 h2 h3 h4 h5 h6 h7 h8 hm
        subst e7 e8 em
        exact ⟨c1, c5, c4, c2, c7, c8, c9, c10, od, k0, k1, k2, k3, k5, rfl⟩
      | _ => cases h3
    | _ => cases h1
abbrev stI : Stmt := inClass (top 15) 0
abbrev IniV : Type := Option (Str × Str × Arguments × FuncBody × Scope × Addr × List Str × Addr)
def iniV (K : PySem.W.Frag) : IniV := match K.lookup (sI K) with
  | some o => (match o.data with
    | .func fd => some (fd.name, fd.qualname, fd.params, fd.body, fd.scope, fd.globals, fd.closure.map (fun q => q.1), fd.builtins)
    | _ => none)
  | none => none
def iniVal : IniV := some ("__init__", "Stop.__init__", defArgs stI, .stmts (defBody stI), defScope stI, mainGlobals, ["__class__"], builtinsNs)
def nonB : Value → Bool
  | .none => true
  | _ => false
def cellB (K : PySem.W.Frag) (C a : Addr) : Bool := match K.lookup a with
  | some o => (match o.data with
    | .cell (some v) => decide (v = .ref C)
    | _ => false)
  | none => false
def fileB : Option Value → Bool
  | some (.str file _) => ((PySem.Challenge.pw_choicerows_k54_whole_shrinking_never_gro.main.file : Str) == file)
  | _ => false
def codeB (K : PySem.W.Frag) (a : Addr) : Bool := match K.lookup a with
  | some o => (match o.data with
    | .fields vs => fileB vs[2]?
    | _ => false)
  | none => false
def refB (p : Addr → Bool) : Value → Bool
  | .ref a => p a
  | _ => false
def oneB (p : Str × Addr → Bool) : List (Str × Addr) → Bool
  | [q] => p q
  | _ => false
def iniB (K : PySem.W.Frag) : Bool := match K.lookup (sI K) with
  | some o => (match o.data with
    | .func fd => PySem.W.codeIn K fd.code "Stop.__init__" && (nonB fd.defaults && (oneB (fun q => cellB K (sC K) q.2) fd.closure && refB (codeB K) fd.code))
    | _ => false)
  | none => false
theorem cellB_ok {K : PySem.W.Frag} {C a : Addr} (h : cellB K C a = true) : ∃ cl cld csl, K.lookup a = some ⟨cl, cld, .cell (some (.ref C)), csl⟩ := by
  unfold cellB at h
  cases e : K.lookup a with
  | none => rw [e] at h; cases h
  | some o =>
    rw [e] at h
    obtain ⟨oc, od, dt, sl⟩ := o
    cases dt with
    | cell x =>
      cases x with
      | none => cases h
      | some v =>
        have ev : v = .ref C := of_decide_eq_true h
        subst ev
        exact ⟨oc, od, sl, rfl⟩
    | _ => cases h
theorem codeB_ok {K : PySem.W.Frag} {a : Addr} (h : codeB K a = true) : ∃ (cl : Value) (cld : Option Addr) (vs : Array Value) (csl : Array (Option Value)) (file : Str) (tf : Tok), K.lookup a = some ⟨cl, cld, .fields vs, csl⟩ ∧ vs[2]? = some (.str file tf) ∧ ((PySem.Challenge.pw_choicerows_k54_whole_shrinking_never_gro.main.file : Str) == file) = true := by
  unfold codeB at h
  cases e : K.lookup a with
  | none => rw [e] at h; cases h
  | some o =>
    rw [e] at h
    obtain ⟨oc, od, dt, sl⟩ := o
    cases dt with
    | fields vs =>
      have h : fileB vs[2]? = true := h
      cases q : vs[2]? with
      | none => rw [q] at h; cases h
      | some v =>
        rw [q] at h
        cases v with
        | str file tf => exact ⟨oc, od, vs, sl, file, tf, rfl, q, h⟩
        | _ => cases h
    | _ => cases h
theorem ini_ok {K : PySem.W.Frag} (e : iniV K = iniVal) (c : iniB K = true) :
    ∃ (oc : Value) (od : Option Addr) (kV doc pm : Value) (an : Option Addr) (cda : Addr) (ct : Value) (osl : Array (Option Value)) (cc : Addr) (ccl : Value) (cdd : Option Addr) (vs : Array Value) (ccs : Array (Option Value)) (file : Str) (tf : Tok) (cl : Value) (cld : Option Addr) (csl : Array (Option Value)),
    K.lookup (sI K) = some ⟨oc, od, .func (PySem.W.ksFn "__init__" "Stop.__init__" (defArgs stI) (defBody stI) (defScope stI) .none kV doc pm an (.ref cda) ct cc), osl⟩ ∧ PySem.W.codeIn K (.ref cda) "Stop.__init__" = true ∧
    K.lookup cda = some ⟨ccl, cdd, .fields vs, ccs⟩ ∧ vs[2]? = some (.str file tf) ∧ ((PySem.Challenge.pw_choicerows_k54_whole_shrinking_never_gro.main.file : Str) == file) = true ∧ K.lookup cc = some ⟨cl, cld, .cell (some (.ref (sC K))), csl⟩ := by
  unfold iniV at e
  unfold iniB at c
  cases q : K.lookup (sI K) with
  | none => rw [q] at c; cases c
  | some o =>
    rw [q] at c e
    obtain ⟨oc, od, dt, sl⟩ := o
    cases dt with
    | func fd =>
      obtain ⟨n1, n2, n3, n4, n5, n6, n7, n8, n9, n10, n11, n12, n13, n14, n15⟩ := fd
      obtain ⟨k1, c⟩ := He.ba c
      obtain ⟨k2, c⟩ := He.ba c
      obtain ⟨k3, k4⟩ := He.ba c
      have e2 : (some (n1, n2, n3, n4, n5, n6, n7.map (fun q => q.1), n15) : IniV) = iniVal := e
      unfold iniVal at e2
      simp only [Option.some.injEq, Prod.mk.injEq] at e2
      obtain ⟨h1, h2, h3, h4, h5, h6, h7, h8⟩ := e2
      have k1 : PySem.W.codeIn K n13 "Stop.__init__" = true := k1
      have k2 : nonB n8 = true := k2
      have k3 : oneB (fun q => cellB K (sC K) q.2) n7 = true := k3
      have k4 : refB (codeB K) n13 = true := k4
      cases n8 with
      | none =>
        cases n13 with
        | ref cda =>
          match n7, h7, k3 with
          | [(y, cc)], h7, k3 =>
            have hy : y = ("__class__" : Str) := by
              have h7 : [y] = [("__class__" : Str)] := h7
              exact List.cons.inj h7 |>.1
            subst h1 h2 h3 h4 h5 h6 h8 hy
            obtain ⟨cl, cld, csl, hc⟩ := cellB_ok k3
            obtain ⟨ccl, cdd, vs, ccs, file, tf, g1, g2, g3⟩ := codeB_ok k4
            exact ⟨oc, od, n9, n10, n11, n12, cda, n14, sl, cc, ccl, cdd, vs, ccs, file, tf, cl, cld, csl, rfl, k1, g1, g2, g3, hc⟩
        | _ => cases k4
      | _ => cases k2
    | _ => cases c
def apartB : List Nat → Bool
  | [] => true
  | x :: r => !r.contains x && apartB r
def exB1 (K : PySem.W.Frag) : Bool := clsB K (sC K) && (He.eqO (PySem.W.findIn K (.ref (sC K)) "__setattr__") (some (some (.builtin "object.__setattr__"))) && (He.eqO (PySem.W.findIn K (.ref (sC K)) "__getattribute__") (some (some (.builtin "BaseException.__getattribute__")))
  && (He.eqO (PySem.W.findIn K (.ref (sC K)) "__getattr__") (some none) && (He.eqO (PySem.W.findIn K (.ref (sC K)) "outcome") (some none) && (He.eqO (PySem.W.findIn K (.ref (sC K)) "__init__") (some (some (.ref (sI K)))) && decide (PySem.W.typeIn K (.ref (sI K)) = some (.type "function")))))))
def exB2 (K : PySem.W.Frag) : Bool := PySem.W.keepIn K (.ref (sC K)) && (decide (PySem.W.subIn K (.ref (sC K)) (.type "BaseException") = some true) && (decide (PySem.W.subIn K (.ref (sC K)) (.type "Exception") = some true) && (decide (PySem.W.mroIn K (sC K) (.ref (sC K)) = some true)
  && (decide (PySem.W.typeIn K (.ref (sC K)) = some (.type "type")) && (PySem.W.hasDictIn K (sC K) && (decide (PySem.W.exmOne K (.ref (sC K)) (.ref (sC K)) = some true) && He.eqO (PySem.W.nsIn K cStatics "thirdparty.any") (some none)))))))
def exB (K : PySem.W.Frag) : Bool := exB1 K && (exB2 K && (iniB K && apartB ((tabsT K).map fun p => p.1)))
end CR

set_option Elab.async false
set_option linter.all false
set_option maxRecDepth 100000
set_option maxHeartbeats 0
/-! # The join: the top is run -/
namespace CR
open PySem L2 Evl PyProof.Rows
abbrev RW : PySem.W.OpenRow := PySem.W.OpenLaw.row PySem.Challenge.rw_choicerows_k54_whole_shrinking_never_gro
abbrev AlS : Type := He.AlX × IniV
/-- what is looked at: what the names reach, and the interpreter's own statics -/
def asS (g : Addr → Option Obj) : List Addr := He.asD g 5 ++ [cStatics]
def frS (g : Addr → Option Obj) : PySem.W.Frag := He.frT g (asS g)
def obsK (g : Addr → Option Obj) (K : PySem.W.Frag) : AlS := ((He.obsT faAll fnAll [] K, exB K && He.tabsB g tfs K), iniV K)
def valS (w : World) : AlS := (He.valX fnAll [] w, iniVal)
structure SaysS (w : World) (h : Heap) (K : PySem.W.Frag) : Prop where
  x : He.SaysX faAll fnAll [] tfs exB w h K
  i : iniV K = iniVal
theorem saysS_of {w : World} {h : Heap} (e : obsK h.get? (frS h.get?) = valS w) : SaysS w h (frS h.get?) := by
  unfold obsK valS at e
  obtain ⟨e1, e2⟩ := Prod.mk.inj e
  obtain ⟨e3, e4⟩ := Prod.mk.inj e1
  obtain ⟨h1, h2⟩ := He.ba e4
  have look : ∀ p ∈ tfs, PySem.W.codeHdIn (frS h.get?) (He.cT (frS h.get?) p).1 (He.cT (frS h.get?) p).2 = true ∧ ∃ o, h.get? (He.cT (frS h.get?) p).2 = some o ∧ He.emptyTab o = true := fun p hp => by
    obtain ⟨h3, h4⟩ := He.ba (List.all_eq_true.mp h2 p hp)
    cases q : h.get? (He.cT (frS h.get?) p).2 with
    | none => rw [q] at h4; cases h4
    | some o => rw [q] at h4; exact ⟨h3, o, rfl, h4⟩
  refine ⟨⟨e3, h1, fun p hp => (look p hp).1, fun p hp => ?_, fun p hp => ?_⟩, e2⟩
  · obtain ⟨_, o, q, z⟩ := look p hp
    exact He.frT_none q z
  · obtain ⟨_, o, q, z⟩ := look p hp
    rw [q, He.emptyTab_eq z]
def hkS : PySem.W.Hook where
  α := AlS
  obs := fun s => obsK s.heap.get? (frS s.heap.get?)
  val := valS
  says := fun w h => ∃ K : PySem.W.Frag, K.In h ∧ SaysS w h K
  of := fun _ _ e => ⟨_, He.frT_in, saysS_of e⟩
  keeps := fun _ _ _ ⟨K, hK, c⟩ k => ⟨K, PySem.W.Frag.In.keeps hK k, ⟨⟨c.x.t, c.x.more, c.x.hd, c.x.out, fun p hp => k _ _ (c.x.empty p hp)⟩, c.i⟩⟩
def obS (s : PySem.W.SharedT) : AlS := obsK (HandSHeadRun.getT s) (frS (HandSHeadRun.getT s))
theorem obS_eq (s : PySem.W.SharedT) : obS s = hkS.obs s.abs := by
  have e : HandSHeadRun.getT s = s.abs.heap.get? := funext (HandSHeadRun.getT_eq s)
  unfold obS
  rw [e]
  rfl
def names1 : List Str := ["LONG", "VALUES", "EXACT", "__name__", "rises", "is_different", "holds_list", "holds", "ChoiceError", "GeneratorError", "turn", "parts_of", "Stop", "Draw", "draw", "is_less", "in_order", "put_together", "multiplied", "behind", "check_many", "power", "table_of_tuple", "table_of_list", "table_of_repeat", "triples_of", "table_at", "table"]
def names2 : List Str := ["count_rows", "listed_rows", "joined_rows", "rows_of_parts", "rows_at", "all_rows", "first_rows", "says", "least_failing", "shortened", "lowered", "exchanged", "candidates", "left_by", "step", "is_settled", "course", "waste", "_law_cell", "_law_draw", "_law_about", "_law_number", "_law_listed", "_law_test"]
def namesS : List Str := names1 ++ names2
theorem runS (w : World) : HandSHeadRun.RunEq RW (PySem.W.view RW.prog [60]) hkS obS 4000 namesS w := by
  intro os
  kernel_rfl
end CR

set_option Elab.async false
set_option linter.all false
set_option maxRecDepth 100000
set_option maxHeartbeats 2000000
/-! # The join: the facts, the law -/
namespace CR
open PySem L2 Evl PyProof.Rows
section
variable {P : Program} {w : World} {K : PySem.W.Frag} {mg : Str → Option Value} {base h : Heap}
theorem dk {x : Str} {i : Nat} {ps : List Str} (X : K.In h) (G : h.Ns mainGlobals mg) (c : He.SaysD faAll fnAll K) (j k : Nat) (hj : fnAll[j]? = some (gd x i)) (hk : faAll[k]? = some (.glo x))
    (hb : ∀ fd, FunD K x x (defArgs (top i)) (defBody (top i)) (defScope (top i)) [] [] (He.fAd K (x, none)) fd → Binds K fd ps []) : DE K mg x i ps := by
  obtain ⟨fd, F⟩ := c.def_ j (d := gd x i) hj
  have g := He.glo_ok X G (c.fact k (f := .glo x) hk)
  exact ⟨He.ga K x, fd, He5.fun_of F, g, F.kp, hb fd F⟩
theorem apart_of {l : List TabN} (h : apartB (l.map fun p => p.1) = true) : ∀ a ∈ l, ∀ b ∈ l, a.1 = b.1 → a = b := by
  induction l with
  | nil => intro a ha; cases ha
  | cons x r ih =>
    rw [List.map_cons] at h
    obtain ⟨h1, h2⟩ := He.ba (show (!(r.map fun p => p.1).contains x.1 && apartB (r.map fun p => p.1)) = true from h)
    have hx : ∀ y ∈ r, x.1 ≠ y.1 := fun y hy e => by
      have : (r.map fun p => p.1).contains x.1 = true := by
        rw [List.contains_iff_mem, e]
        exact List.mem_map_of_mem hy
      rw [this] at h1
      cases h1
    intro a ha b hb e
    rcases List.mem_cons.mp ha with ea | ha2
    · rcases List.mem_cons.mp hb with eb | hb2
      · exact ea.trans eb.symm
      · exact absurd (ea ▸ e) (hx b hb2)
    · rcases List.mem_cons.mp hb with eb | hb2
      · exact absurd (eb ▸ e.symm) (hx a ha2)
      · exact ih h2 a ha2 b hb2 e
theorem dt {x : Str} {i : Nat} {ps : List Str} {q : Option Str} (X : K.In h) (G : h.Ns mainGlobals mg) (c : He.SaysD faAll fnAll K) (ap : apartB ((tabsT K).map fun p => p.1) = true) (ht : ∀ p ∈ tfs.map (He.cT K), LamX.TabB base mg p.1 p.2) (j k n : Nat) (hj : fnAll[j]? = some (gd x i)) (hk : faAll[k]? = some (.glo x)) (hn : tq[n]? = some ((x, none), q))
    (hb : ∀ fd, FunD K x x (defArgs (top i)) (defBody (top i)) (defScope (top i)) [] [] (He.fAd K (x, none)) fd → Binds K fd ps []) : DT base mg (tabsT K) K x i ps q := by
  obtain ⟨fd, F⟩ := c.def_ j (d := gd x i) hj
  have g := He.glo_ok X G (c.fact k (f := .glo x) hk)
  have hm := List.mem_of_getElem? hn
  have tb := ht (He.cT K (x, none)) (List.mem_map_of_mem (List.mem_map_of_mem (f := fun p : He.Defn × Option Str => p.1) hm))
  have hc : fd.code = .ref (He.codeOf K (x, none)) := by
    obtain ⟨oc, od, dV, kV, doc, pm, an, cdv, ct, osl, rfl, lk, hcd, _, _⟩ := F.ex
    obtain ⟨cc, rfl⟩ := He.codeIn_ref hcd
    have := He.codeOf_eq (K := K) (p := (x, none)) (c := cc) lk rfl
    rw [this]
  have hT : ((He.cT K (x, none)).2, q) ∈ tabsT K := List.mem_map_of_mem (f := fun p : He.Defn × Option Str => ((He.cT K p.1).2, p.2)) hm
  exact ⟨He.ga K x, fd, (He.cT K (x, none)).1, (He.cT K (x, none)).2, ⟨He5.fun_of F, g, F.kp, hb fd F⟩, hc, ⟨tb.code, tb.bm, tb.gP⟩, tb, hT, fun p hp e => congrArg (fun z : TabN => z.2) (apart_of ap p hp _ hT e)⟩
theorem defsA (X : K.In h) (G : h.Ns mainGlobals mg) (c : He.SaysD faAll fnAll K) : DefsA K mg where
  holds := dk X G c 3 28 rfl rfl (fun fd F => F.bindsN fun _ _ _ _ _ _ us hl => match us, hl with | [_, _], _ => rfl)
  turn := dk X G c 4 29 rfl rfl (fun fd F => F.bindsN fun _ _ _ _ _ _ us hl => match us, hl with | [_, _], _ => rfl)
  parts := dk X G c 5 30 rfl rfl (fun fd F => F.bindsN fun _ _ _ _ _ _ us hl => match us, hl with | [_], _ => rfl)
  draw := dk X G c 6 31 rfl rfl (fun fd F => F.bindsN fun _ _ _ _ _ _ us hl => match us, hl with | [_, _], _ => rfl)
  less := dk X G c 7 32 rfl rfl (fun fd F => F.bindsN fun _ _ _ _ _ _ us hl => match us, hl with | [_, _], _ => rfl)
  put := dk X G c 9 34 rfl rfl (fun fd F => F.bindsN fun _ _ _ _ _ _ us hl => match us, hl with | [_], _ => rfl)
  mul := dk X G c 10 35 rfl rfl (fun fd F => F.bindsN fun _ _ _ _ _ _ us hl => match us, hl with | [_, _], _ => rfl)
  behind := dk X G c 11 36 rfl rfl (fun fd F => F.bindsN fun _ _ _ _ _ _ us hl => match us, hl with | [_, _], _ => rfl)
  check := dk X G c 12 37 rfl rfl (fun fd F => F.bindsN fun _ _ _ _ _ _ us hl => match us, hl with | [_, _], _ => rfl)
  power := dk X G c 13 38 rfl rfl (fun fd F => F.bindsN fun _ _ _ _ _ _ us hl => match us, hl with | [_, _], _ => rfl)
  tl := dk X G c 15 40 rfl rfl (fun fd F => F.bindsN fun _ _ _ _ _ _ us hl => match us, hl with | [_, _, _, _], _ => rfl)
  tr := dk X G c 16 41 rfl rfl (fun fd F => F.bindsN fun _ _ _ _ _ _ us hl => match us, hl with | [_, _, _], _ => rfl)
  tri := dk X G c 17 42 rfl rfl (fun fd F => F.bindsN fun _ _ _ _ _ _ us hl => match us, hl with | [_, _, _], _ => rfl)
  tab := dk X G c 18 43 rfl rfl (fun fd F => F.bindsN fun _ _ _ _ _ _ us hl => match us, hl with | [_, _], _ => rfl)
  table := dk X G c 19 44 rfl rfl (fun fd F => F.bindsN fun _ _ _ _ _ _ us hl => match us, hl with | [_], _ => rfl)
  count := dk X G c 20 45 rfl rfl (fun fd F => F.bindsN fun _ _ _ _ _ _ us hl => match us, hl with | [_], _ => rfl)
  listed := dk X G c 21 46 rfl rfl (fun fd F => F.bindsN fun _ _ _ _ _ _ us hl => match us, hl with | [_, _, _], _ => rfl)
  rop := dk X G c 23 48 rfl rfl (fun fd F => F.bindsN fun _ _ _ _ _ _ us hl => match us, hl with | [_, _], _ => rfl)
  rat := dk X G c 24 49 rfl rfl (fun fd F => F.bindsN fun _ _ _ _ _ _ us hl => match us, hl with | [_, _], _ => rfl)
  first := dk X G c 26 51 rfl rfl (fun fd F => F.bindsN fun _ _ _ _ _ _ us hl => match us, hl with | [_, _], _ => rfl)
theorem defsB (X : K.In h) (G : h.Ns mainGlobals mg) (c : He.SaysD faAll fnAll K) : DefsB K mg where
  says := dk X G c 27 52 rfl rfl (fun fd F => F.bindsN fun _ _ _ _ _ _ us hl => match us, hl with | [_, _], _ => rfl)
  least := dk X G c 28 53 rfl rfl (fun fd F => F.bindsN fun _ _ _ _ _ _ us hl => match us, hl with | [_], _ => rfl)
  sho := dk X G c 29 54 rfl rfl (fun fd F => F.bindsN fun _ _ _ _ _ _ us hl => match us, hl with | [_], _ => rfl)
  low := dk X G c 30 55 rfl rfl (fun fd F => F.bindsN fun _ _ _ _ _ _ us hl => match us, hl with | [_], _ => rfl)
  exc := dk X G c 31 56 rfl rfl (fun fd F => F.bindsN fun _ _ _ _ _ _ us hl => match us, hl with | [_], _ => rfl)
  cand := dk X G c 32 57 rfl rfl (fun fd F => F.bindsN fun _ _ _ _ _ _ us hl => match us, hl with | [_], _ => rfl)
  left := dk X G c 33 58 rfl rfl (fun fd F => F.bindsN fun _ _ _ _ _ _ us hl => match us, hl with | [_, _], _ => rfl)
  step := dk X G c 34 59 rfl rfl (fun fd F => F.bindsN fun _ _ _ _ _ _ us hl => match us, hl with | [_, _], _ => rfl)
  settled := dk X G c 35 60 rfl rfl (fun fd F => F.bindsN fun _ _ _ _ _ _ us hl => match us, hl with | [_, _], _ => rfl)
  course := dk X G c 36 61 rfl rfl (fun fd F => F.bindsN fun _ _ _ _ _ _ us hl => match us, hl with | [_, _], _ => rfl)
  waste := dk X G c 37 62 rfl rfl (fun fd F => F.bindsN fun _ _ _ _ _ _ us hl => match us, hl with | [_], _ => rfl)
  cell := dk X G c 38 63 rfl rfl (fun fd F => F.bindsN fun _ _ _ _ _ _ us hl => match us, hl with | [_, _], _ => rfl)
  drw := dk X G c 39 64 rfl rfl (fun fd F => F.bindsN fun _ _ _ _ _ _ us hl => match us, hl with | [_, _, _], _ => rfl)
  about := dk X G c 40 65 rfl rfl (fun fd F => F.bindsN fun _ _ _ _ _ _ us hl => match us, hl with | [_], _ => rfl)
  num := dk X G c 41 66 rfl rfl (fun fd F => F.bindsN fun _ _ _ _ _ _ us hl => match us, hl with | [_, _], _ => rfl)
  lis := dk X G c 42 67 rfl rfl (fun fd F => F.bindsN fun _ _ _ _ _ _ us hl => match us, hl with | [_, _, _], _ => rfl)
  tst := dk X G c 43 68 rfl rfl (fun fd F => F.bindsN fun _ _ _ _ _ _ us hl => match us, hl with | [_, _], _ => rfl)
theorem defsT (X : K.In h) (G : h.Ns mainGlobals mg) (c : He.SaysD faAll fnAll K) (ap : apartB ((tabsT K).map fun p => p.1) = true) (ht : ∀ p ∈ tfs.map (He.cT K), LamX.TabB base mg p.1 p.2) : DefsT base mg (tabsT K) K where
  rises := dt X G c ap ht 0 25 0 rfl rfl rfl (fun fd F => F.bindsN fun _ _ _ _ _ _ us hl => match us, hl with | [_], _ => rfl)
  diff := dt X G c ap ht 1 26 1 rfl rfl rfl (fun fd F => F.bindsN fun _ _ _ _ _ _ us hl => match us, hl with | [_], _ => rfl)
  hlist := dt X G c ap ht 2 27 2 rfl rfl rfl (fun fd F => F.bindsN fun _ _ _ _ _ _ us hl => match us, hl with | [_, _], _ => rfl)
  ord := dt X G c ap ht 8 33 5 rfl rfl rfl (fun fd F => F.bindsN fun _ _ _ _ _ _ us hl => match us, hl with | [_], _ => rfl)
  tt := dt X G c ap ht 14 39 3 rfl rfl rfl (fun fd F => F.bindsN fun _ _ _ _ _ _ us hl => match us, hl with | [_, _], _ => rfl)
  joined := dt X G c ap ht 22 47 4 rfl rfl rfl (fun fd F => F.bindsN fun _ _ _ _ _ _ us hl => match us, hl with | [_], _ => rfl)
  all := dt X G c ap ht 25 50 6 rfl rfl rfl (fun fd F => F.bindsN fun _ _ _ _ _ _ us hl => match us, hl with | [_], _ => rfl)
theorem mgN (X : K.In h) (G : h.Ns mainGlobals mg) (c : He.SaysD faAll fnAll K) : MgN mg where
  range := He.free_ok X G (c.fact 6 (f := .free "range") rfl)
  len := He.free_ok X G (c.fact 5 (f := .free "len") rfl)
  sum := He.free_ok X G (c.fact 9 (f := .free "sum") rfl)
  list := He.free_ok X G (c.fact 11 (f := .free "list") rfl)
  tuple := He.free_ok X G (c.fact 10 (f := .free "tuple") rfl)
  min := He.free_ok X G (c.fact 13 (f := .free "min") rfl)
  sorted := He.free_ok X G (c.fact 12 (f := .free "sorted") rfl)
  all := He.free_ok X G (c.fact 7 (f := .free "all") rfl)
  any := He.free_ok X G (c.fact 8 (f := .free "any") rfl)
  long := He.int_ok X G (c.fact 0 (f := .int "LONG" 6) rfl)
  values := He.int_ok X G (c.fact 1 (f := .int "VALUES" 2000) rfl)
  exact := He.int_ok X G (c.fact 2 (f := .int "EXACT" 5000) rfl)
theorem stopT (X : K.In h) (G : h.Ns mainGlobals mg) (c : He.SaysD faAll fnAll K) (e1 : exB1 K = true) (e2 : exB2 K = true) (e3 : iniB K = true) (e4 : iniV K = iniVal) : PySem.StopX.StopTxt PySem.Challenge.pw_choicerows_k54_whole_shrinking_never_gro K mg (sC K) (sI K) := by
  obtain ⟨a1, e1⟩ := He.ba e1
  obtain ⟨a2, e1⟩ := He.ba e1
  obtain ⟨a3, e1⟩ := He.ba e1
  obtain ⟨a4, e1⟩ := He.ba e1
  obtain ⟨a5, e1⟩ := He.ba e1
  obtain ⟨a6, a7⟩ := He.ba e1
  obtain ⟨b1, e2⟩ := He.ba e2
  obtain ⟨b2, e2⟩ := He.ba e2
  obtain ⟨b3, e2⟩ := He.ba e2
  obtain ⟨b4, e2⟩ := He.ba e2
  obtain ⟨b5, e2⟩ := He.ba e2
  obtain ⟨b6, e2⟩ := He.ba e2
  obtain ⟨b7, b8⟩ := He.ba e2
  exact { gC := He.glo_ok X G (c.fact 3 (f := .glo "Stop") rfl), cls := clsB_ok a1, sa := He.eqO_ok a2, ga := He.eqO_ok a3, gg := He.eqO_ok a4, noN := He.eqO_ok a5, iC := He.eqO_ok a6, tC := of_decide_eq_true a7, kC := b1, exC := of_decide_eq_true b2, subC := of_decide_eq_true b3, selfC := of_decide_eq_true b4, tyC := of_decide_eq_true b5, hdC := b6, te := of_decide_eq_true b7, opq := He.eqO_ok b8, sup := He.free_ok X G (c.fact 14 (f := .free "super") rfl), top := by decide +kernel, fn := ini_ok e4 e3 }
theorem metK {m q : Str} {j : Nat} {ps : List Str} (c : He.SaysD faAll fnAll K) (a k : Nat) (ha : fnAll[a]? = some (md m q j)) (hk : faAll[k]? = some (.meth "Draw" m))
    (hb : ∀ fd, FunD K m q (defArgs (mth j)) (defBody (mth j)) (defScope (mth j)) [] [] (He.fAd K ("Draw", some m)) fd → Binds K fd ps []) : ∃ f fd, MetK K (He.ga K "Draw") m q j ps f fd := by
  obtain ⟨fd, F⟩ := c.def_ a (d := md m q j) ha
  exact ⟨He.ma K (He.ga K "Draw") m, fd, He5.fun_of F, He.meth_ok (c.fact k (f := .meth "Draw" m) hk), hb fd F⟩
theorem drawK (X : K.In h) (G : h.Ns mainGlobals mg) (c : He.SaysD faAll fnAll K) (S : PySem.StopX.StopTxt PySem.Challenge.pw_choicerows_k54_whole_shrinking_never_gro K mg (sC K) (sI K)) : DrawK PySem.Challenge.pw_choicerows_k54_whole_shrinking_never_gro K mg := by
  obtain ⟨fdi, Fi⟩ := c.def_ 45 (d := md "__init__" "Draw.__init__" 0) rfl
  refine ⟨He.ga K "Draw", sC K, sI K, He.ma K (He.ga K "Draw") "__init__", fdi, ⟨He.cls_ok (c.fact 15 (f := .cls "Draw") rfl), He.noat_ok (c.fact 17 (f := .noat "Draw" "row") rfl), He.noat_ok (c.fact 18 (f := .noat "Draw" "used") rfl), S⟩, ?_, He.glo_ok X G (c.fact 4 (f := .glo "Draw") rfl), He.mkr_ok (c.fact 16 (f := .mkr "Draw") rfl), He5.fun_of Fi, Fi.bindsN fun _ _ _ _ _ _ us hl => match us, hl with | [_, _], _ => rfl⟩
  exact { choice := metK c 46 19 rfl rfl (fun fd F => F.bindsN fun _ _ _ _ _ _ us hl => match us, hl with | [_, _], _ => rfl), refuse := metK c 47 20 rfl rfl (fun fd F => F.bindsN fun _ _ _ _ _ _ us hl => match us, hl with | [_], _ => rfl), listed := metK c 48 21 rfl rfl (fun fd F => F.bindsN fun _ _ _ _ _ _ us hl => match us, hl with | [_, _], _ => rfl), repeated := metK c 49 22 rfl rfl (fun fd F => F.bindsN fun _ _ _ _ _ _ us hl => match us, hl with | [_, _], _ => rfl), kept := metK c 50 23 rfl rfl (fun fd F => F.bindsN fun _ _ _ _ _ _ us hl => match us, hl with | [_, _], _ => rfl), value := metK c 51 24 rfl rfl (fun fd F => F.bindsN fun _ _ _ _ _ _ us hl => match us, hl with | [_, _], _ => rfl) }
theorem start_sp {T : List TabN} {cs : List (Addr × Addr)} (hcs : ∀ p ∈ T, ∃ q ∈ cs, q.2 = p.1) {H : Hp} {a : Addr} {ns : List Int} (ht : ∀ p ∈ cs, H p.2 = some (.tbl #[])) (hS : SqL K H a (ns.map V.int)) : spX T (PreLaw K) [.ref a] H (fun v _ => v = .bl true) fun _ _ _ => False := by
  refine ⟨fun _ => none, [.ref a], .bool true, fun _ _ z => (nomatch z), fun p hp => ?_, .cons rfl .nil, ⟨a, ns, rfl, hS, rfl⟩, fun v G2 H2 _ d => dpi_bool d⟩
  obtain ⟨q, hq, e⟩ := hcs p hp
  refine ⟨⟨#[], by rw [← e]; exact ht q hq, True.intro, fun _ _ pos cv hc => ?_⟩, rfl⟩
  have z : codeAmong pos [] = some cv := hc
  simp [codeAmong] at z
theorem lawAt {fa : Addr} (X : K.In h) (G : h.Ns mainGlobals mg) (c : SaysS w h K) (hmg : mg "law" = some (.ref fa)) : LamX.LawAtS PySem.Challenge.rw_choicerows_k54_whole_shrinking_never_gro w K CX0 47 63 "_law_script" mg fa h := by
  have cd := c.x.t.d
  obtain ⟨e1, e⟩ := He.ba c.x.more
  obtain ⟨e2, e⟩ := He.ba e
  obtain ⟨e3, ap⟩ := He.ba e
  have S := stopT X G cd e1 e2 e3 c.i
  obtain ⟨fd, F⟩ := cd.def_ 44 (d := gd "law" 60) rfl
  have g := He.glo_ok X G (cd.fact 69 (f := .glo "law") rfl)
  have ef : fa = He.ga K "law" := by
    have z := hmg.symm.trans g
    injection z with z
    injection z
  subst ef
  have hbN : Binds K fd ["_law_script"] [] := F.bindsN fun _ _ _ _ _ _ us hl => match us, hl with | [_], _ => rfl
  have b := FunD.bindsA (ps := ["_law_script"]) F fun _ _ _ _ _ _ us hl => match us, hl with | [_], _ => rfl
  have D : DefK K mg "law" 60 ["_law_script"] (He.ga K "law") fd := ⟨He5.fun_of F, g, F.kp, hbN⟩
  refine ⟨fd, tfs.map (He.cT K), spX (tabsT K) (PreLaw K), fun p hp => ?_, fun p hp => ?_, fun p hp => ?_, fun s v => b s [v] rfl, fun H a ns _ _ ht hS => start_sp (fun p hp => ?_) ht hS, fun bs Xb Gb ht => law_ok (defsA X G cd) (defsB X G cd) (defsT X G cd ap ht) (drawK X G cd S) (mgN X G cd) D⟩
  · obtain ⟨q, hq, rfl⟩ := List.mem_map.mp hp
    exact c.x.empty q hq
  · obtain ⟨q, hq, rfl⟩ := List.mem_map.mp hp
    exact c.x.out q hq
  · obtain ⟨q, hq, rfl⟩ := List.mem_map.mp hp
    exact PySem.W.codeHd_of_K X (c.x.hd q hq)
  · obtain ⟨q, hq, rfl⟩ := List.mem_map.mp hp
    exact ⟨He.cT K q.1, List.mem_map_of_mem (List.mem_map_of_mem (f := fun p : He.Defn × Option Str => p.1) hq), rfl⟩
end
end CR

set_option Elab.async false
set_option linter.all false
set_option maxRecDepth 100000
set_option maxHeartbeats 0
open PySem PySem.W PySem.Calls PyProof.Rows
theorem PySem.Challenge.cw_choicerows_k54_whole_shrinking_never_gro_holds : PySem.Challenge.rw_choicerows_k54_whole_shrinking_never_gro.Holds := by
  w_on; o_law
  refine HandSHeadRun.head_any (r := CR.RW) (q := view CR.RW.prog [60]) (H := CR.hkS) (ob := CR.obS) (M := 4000) (loose := CR.namesS) (d := HandSHeadRun.topDef CR.RW.prog 60) (kwd := []) CR.obS_eq
    (by kernel_rfl) (fun s => by kernel_rfl) CR.runS (by kernel_rfl) (by kernel_rfl) (by kernel_rfl) (by rfl) (by first | assumption | decide +kernel) (by decide +kernel) ⟨rfl, rfl, rfl, rfl, rfl, by decide +kernel⟩ ?hw ?hc
  case hw => w_witness2
  case hc =>
    refine LamX.walk_ofTsE (l := PySem.Challenge.rw_choicerows_k54_whole_shrinking_never_gro) (n := 63) (k := 47) (x := "_law_script") (CX := fun _ => L2.CX0) rfl (by decide) (by kernel_rfl) ⟨rfl, by decide, by decide⟩ ?F (fun _ _ _ _ _ z => z)
    intro w mg fa h Y G hmg0
    obtain ⟨K, KX, c⟩ := Y
    have hmg : mg ("law" : PySem.Str) = some (.ref fa) := by
      have e : (HandSHeadRun.topDef CR.RW.prog 60).name = ("law" : PySem.Str) := by kernel_rfl
      rw [← e]
      exact hmg0
    exact ⟨K, KX, CR.lawAt KX G c hmg⟩

